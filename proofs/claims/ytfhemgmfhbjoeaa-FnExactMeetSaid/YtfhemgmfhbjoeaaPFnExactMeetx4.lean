-- Written by a program of this session (wip/patch.py turns a copy of the kit's print): the functions that the law reaches, and their walks.
import Derived.Test.YtfhemgmfhbjoeaaPFnExactMeetx0
import Derived.Test.YtfhemgmfhbjoeaaPFnExactMeetx1
import Derived.Test.YtfhemgmfhbjoeaaPFnExactMeetx2
import Derived.Test.YtfhemgmfhbjoeaaPFnExactMeetx3
import Derived.Test.YtfhemgmfhbjoeaaCFnExactMeet
namespace Go.Proofs.Ytfhemgmfhbjoeaa.PFnExactMeet
open Go.RowKit Go.Proofs.YtfhemgmfhbjoeaaW.PrintWords Go.Proofs.YtfhemgmfhbjoeaaW.PrintLast Go.Proofs.YtfhemgmfhbjoeaaW.PrintMore Go.Proofs.YtfhemgmfhbjoeaaW.Mine
attribute [local go_sem] max2_int min2_int max_two min_two max_three min_three max_four min_four   -- for this text's walks alone
set_option linter.unusedVariables false
set_option linter.unusedSimpArgs false

/-! ### laws_FnExactMeet: function 7 -/
def laws_FnExactMeet.f (k : Nat) (a0_0 : Int) (a0_1 : Int) (a0_2 : Int) (a0_3 : Int) (a1_0 : Int) (a1_1 : Int) (a1_2 : Int) (a1_3 : Int) : Option (Bool) := (laws_toKey.f a0_0 a0_1 a0_2 a0_3).bind fun bt172 => ((laws_toKey.f a1_0 a1_1 a1_2 a1_3).bind fun bt176 => ((spec_Meet.f k bt172.1 bt172.2.1 bt172.2.2.1 bt172.2.2.2 bt176.1 bt176.2.1 bt176.2.2.1 bt176.2.2.2).bind fun bt180 => ((laws_toKey.f a0_0 a0_1 a0_2 a0_3).bind fun bt186 => ((laws_toKey.f a1_0 a1_1 a1_2 a1_3).bind fun bt190 => ((impl_Meet.f k bt186.1 bt186.2.1 bt186.2.2.1 bt186.2.2.2 bt190.1 bt190.2.1 bt190.2.2.1 bt190.2.2.2).bind fun bt194 => ((laws_eqKey.f bt194.1 bt194.2.1 bt194.2.2.1 bt194.2.2.2.1 bt180.1 bt180.2.1 bt180.2.2.1 bt180.2.2.2.1).bind fun t200 => (if t200 = true then (if (bt194.2.2.2.2 != bt180.2.2.2.2) = true then (some false) else (some true)) else (some false))))))))
theorem laws_FnExactMeet.mono : ∀ a0 a1 a2 a3 a4 a5 a6 a7 k, LeO (laws_FnExactMeet.f k a0 a1 a2 a3 a4 a5 a6 a7) (laws_FnExactMeet.f (k + 1) a0 a1 a2 a3 a4 a5 a6 a7) := by
 intro a0 a1 a2 a3 a4 a5 a6 a7 k
 unfold laws_FnExactMeet.f
 repeat' first
   | (with_reducible exact impl_Meet.mono _ _ _ _ _ _ _ _ _)
   | (with_reducible exact spec_Meet.mono _ _ _ _ _ _ _ _ _)
   | (with_reducible exact LeO.refl _)
   | (with_reducible exact LeO.none _)
   | (with_reducible refine LeO.ite ?_ ?_)
   | (with_reducible refine LeO.bind ?_ (fun _ => ?_))
   | exact impl_Meet.mono _ _ _ _ _ _ _ _ _
   | exact spec_Meet.mono _ _ _ _ _ _ _ _ _
   | exact LeO.none _
   | refine LeO.ite ?_ ?_
   | refine LeO.bind ?_ (fun _ => ?_)
def laws_FnExactMeet.T1 : Bool × List (List Nat × List Nat) := (true, [([], []), ([0], [0]), ([], []), ([2, 1], [2]), ([1, 3, 3], [1, 3]), ([4], [4]), ([5], [5]), ([5], [5]), ([], []), ([8, 6, 4, 0, 1, 2, 3, 4, 5, 6, 8], [6, 8]), ([7, 9, 0, 1, 2, 3, 4, 5, 6, 7, 8, 9], [7])])
def laws_FnExactMeet.B1 : List Nat := [0, 1, 0, 7, 15, 31, 63, 63, 0, 383, 1023]
theorem laws_FnExactMeet.tab1 : rtab .any (opsOf Try.f7 1) = laws_FnExactMeet.T1 := by kernel_rfl
theorem laws_FnExactMeet.bits1 : waitsOk laws_FnExactMeet.T1.2 laws_FnExactMeet.B1 = true := by kernel_rfl
def laws_FnExactMeet.T2 : Bool × List (List Nat × List Nat) := (true, [([], []), ([0], [0]), ([], []), ([2, 1], [2]), ([1, 3, 3], [1, 3]), ([4], [4]), ([5], [5]), ([5], [5]), ([], []), ([8, 6, 4, 0, 1, 2, 3, 4, 5, 6, 8], [6, 8]), ([7, 9, 0, 1, 2, 3, 4, 5, 6, 7, 8, 9], [7])])
def laws_FnExactMeet.B2 : List Nat := [0, 1, 0, 7, 15, 31, 63, 63, 0, 383, 1023]
theorem laws_FnExactMeet.tab2 : rtab .any (opsOf Try.f7 2) = laws_FnExactMeet.T2 := by kernel_rfl
theorem laws_FnExactMeet.bits2 : waitsOk laws_FnExactMeet.T2.2 laws_FnExactMeet.B2 = true := by kernel_rfl
set_option maxHeartbeats 8000000 in
set_option maxRecDepth 100000 in
theorem laws_FnExactMeet.calls (k : Nat) (a0_0 : Int) (a0_1 : Int) (a0_2 : Int) (a0_3 : Int) (a1_0 : Int) (a1_1 : Int) (a1_2 : Int) (a1_3 : Int) (r : Bool) (w : World) (h : laws_FnExactMeet.f k a0_0 a0_1 a0_2 a0_3 a1_0 a1_1 a1_2 a1_3 = some r) :
  Calls Try.prog 7 #[.agg #[.int .i64 a0_0, .int .i64 a0_1, .int .i64 a0_2, .int .i64 a0_3], .agg #[.int .i64 a1_0, .int .i64 a1_1, .int .i64 a1_2, .int .i64 a1_3]] w fun e w' => e = .returned (.bool r) ∧ Below w.heap.size w w' := by
 have hu24 := Try.underlying24
 have hu26 := Try.underlying26
 have HB := Aside0.mk (Below.refl w.heap.size w)
 have H : ((laws_toKey.f a0_0 a0_1 a0_2 a0_3).bind fun bt172 => ((laws_toKey.f a1_0 a1_1 a1_2 a1_3).bind fun bt176 => ((spec_Meet.f k bt172.1 bt172.2.1 bt172.2.2.1 bt172.2.2.2 bt176.1 bt176.2.1 bt176.2.2.1 bt176.2.2.2).bind fun bt180 => ((laws_toKey.f a0_0 a0_1 a0_2 a0_3).bind fun bt186 => ((laws_toKey.f a1_0 a1_1 a1_2 a1_3).bind fun bt190 => ((impl_Meet.f k bt186.1 bt186.2.1 bt186.2.2.1 bt186.2.2.2 bt190.1 bt190.2.1 bt190.2.2.1 bt190.2.2.2).bind fun bt194 => ((laws_eqKey.f bt194.1 bt194.2.1 bt194.2.2.1 bt194.2.2.2.1 bt180.1 bt180.2.1 bt180.2.2.1 bt180.2.2.2.1).bind fun t200 => (if t200 = true then (if (bt194.2.2.2.2 != bt180.2.2.2.2) = true then (some false) else (some true)) else (some false))))))))) = some r := h
 clear h
 replace H := Option.bind_eq_some_iff.mp H
 obtain ⟨⟨t172, t173, t174, t175⟩, A30, H⟩ := H
 replace H : ((laws_toKey.f a1_0 a1_1 a1_2 a1_3).bind fun bt176 => ((spec_Meet.f k t172 t173 t174 t175 bt176.1 bt176.2.1 bt176.2.2.1 bt176.2.2.2).bind fun bt180 => ((laws_toKey.f a0_0 a0_1 a0_2 a0_3).bind fun bt186 => ((laws_toKey.f a1_0 a1_1 a1_2 a1_3).bind fun bt190 => ((impl_Meet.f k bt186.1 bt186.2.1 bt186.2.2.1 bt186.2.2.2 bt190.1 bt190.2.1 bt190.2.2.1 bt190.2.2.2).bind fun bt194 => ((laws_eqKey.f bt194.1 bt194.2.1 bt194.2.2.1 bt194.2.2.2.1 bt180.1 bt180.2.1 bt180.2.2.1 bt180.2.2.2.1).bind fun t200 => (if t200 = true then (if (bt194.2.2.2.2 != bt180.2.2.2.2) = true then (some false) else (some true)) else (some false)))))))) = some r := H
 have A3 := Aside0.mk A30
 clear A30
 replace H := Option.bind_eq_some_iff.mp H
 obtain ⟨⟨t176, t177, t178, t179⟩, A40, H⟩ := H
 replace H : ((spec_Meet.f k t172 t173 t174 t175 t176 t177 t178 t179).bind fun bt180 => ((laws_toKey.f a0_0 a0_1 a0_2 a0_3).bind fun bt186 => ((laws_toKey.f a1_0 a1_1 a1_2 a1_3).bind fun bt190 => ((impl_Meet.f k bt186.1 bt186.2.1 bt186.2.2.1 bt186.2.2.2 bt190.1 bt190.2.1 bt190.2.2.1 bt190.2.2.2).bind fun bt194 => ((laws_eqKey.f bt194.1 bt194.2.1 bt194.2.2.1 bt194.2.2.2.1 bt180.1 bt180.2.1 bt180.2.2.1 bt180.2.2.2.1).bind fun t200 => (if t200 = true then (if (bt194.2.2.2.2 != bt180.2.2.2.2) = true then (some false) else (some true)) else (some false))))))) = some r := H
 have A4 := Aside0.mk A40
 clear A40
 replace H := Option.bind_eq_some_iff.mp H
 obtain ⟨⟨t180, t181, t182, t183, t184⟩, A50, H⟩ := H
 replace H : ((laws_toKey.f a0_0 a0_1 a0_2 a0_3).bind fun bt186 => ((laws_toKey.f a1_0 a1_1 a1_2 a1_3).bind fun bt190 => ((impl_Meet.f k bt186.1 bt186.2.1 bt186.2.2.1 bt186.2.2.2 bt190.1 bt190.2.1 bt190.2.2.1 bt190.2.2.2).bind fun bt194 => ((laws_eqKey.f bt194.1 bt194.2.1 bt194.2.2.1 bt194.2.2.2.1 t180 t181 t182 t183).bind fun t200 => (if t200 = true then (if (bt194.2.2.2.2 != t184) = true then (some false) else (some true)) else (some false)))))) = some r := H
 have A5 := Aside0.mk A50
 clear A50
 replace H := Option.bind_eq_some_iff.mp H
 obtain ⟨⟨t186, t187, t188, t189⟩, A60, H⟩ := H
 replace H : ((laws_toKey.f a1_0 a1_1 a1_2 a1_3).bind fun bt190 => ((impl_Meet.f k t186 t187 t188 t189 bt190.1 bt190.2.1 bt190.2.2.1 bt190.2.2.2).bind fun bt194 => ((laws_eqKey.f bt194.1 bt194.2.1 bt194.2.2.1 bt194.2.2.2.1 t180 t181 t182 t183).bind fun t200 => (if t200 = true then (if (bt194.2.2.2.2 != t184) = true then (some false) else (some true)) else (some false))))) = some r := H
 have A6 := Aside0.mk A60
 clear A60
 replace H := Option.bind_eq_some_iff.mp H
 obtain ⟨⟨t190, t191, t192, t193⟩, A70, H⟩ := H
 replace H : ((impl_Meet.f k t186 t187 t188 t189 t190 t191 t192 t193).bind fun bt194 => ((laws_eqKey.f bt194.1 bt194.2.1 bt194.2.2.1 bt194.2.2.2.1 t180 t181 t182 t183).bind fun t200 => (if t200 = true then (if (bt194.2.2.2.2 != t184) = true then (some false) else (some true)) else (some false)))) = some r := H
 have A7 := Aside0.mk A70
 clear A70
 replace H := Option.bind_eq_some_iff.mp H
 obtain ⟨⟨t194, t195, t196, t197, t198⟩, A80, H⟩ := H
 replace H : ((laws_eqKey.f t194 t195 t196 t197 t180 t181 t182 t183).bind fun t200 => (if t200 = true then (if (t198 != t184) = true then (some false) else (some true)) else (some false))) = some r := H
 have A8 := Aside0.mk A80
 clear A80
 replace H := Option.bind_eq_some_iff.mp H
 obtain ⟨t200, A90, H⟩ := H
 replace H : (if t200 = true then (if (t198 != t184) = true then (some false) else (some true)) else (some false)) = some r := H
 have A9 := Aside0.mk A90
 clear A90
 by_cases c10 : t200 = true
 ·subst c10
  have H1 : (if (t198 != t184) = true then (some false) else (some true)) = some r := by rw [if_pos rfl] at H; exact H
  clear H
  have H := H1
  clear H1
  by_cases c11 : (t198 != t184) = true
  ·rw [if_pos c11] at H
   have c11b0 : (t198 != t184) = true := c11
   (try (have c11b1 : decide (t198 = t184) = false := by simpa using c11))
   (try (have c11b2 : (t198 == t184) = false := by simpa using c11))
   (try (have c11b3 : ¬ (t198 = t184) := by simpa using c11))
   clear c11
   obtain rfl := Option.some.inj H
   go_enter Try.func7, Try.ntmps7
   try go_wp2_with (first | ((with_reducible refine gate_dst (N := 2) rfl ?_); refine box_event ?hg (N := 2) ?hd (cs := #[.int .i64 a0_0, .int .i64 a0_1, .int .i64 a0_2, .int .i64 a0_3]) (t := 24) ?hr ?_; (case hd => rfl); (case hg => rfl); (case hr => first | (go_simp; done) | (go_simp; rfl)); intro gb170 hg w12 hbox hb; have n0_ := nbs HB hb; have n1_ := Aside0.mk (hbox); have n2_ := nge HB hg; have n3_ := nge HB hg; clear HB; have HB := n0_; have BK170 := n1_; have GW170 := n2_; have GE170 := n3_; clear n0_ n1_ n2_ n3_; clear hb hbox hg) | ((with_reducible refine gate_dst (N := 3) rfl ?_); refine box_event ?hg (N := 3) ?hd (cs := #[.int .i64 a1_0, .int .i64 a1_1, .int .i64 a1_2, .int .i64 a1_3]) (t := 24) ?hr ?_; (case hd => rfl); (case hg => rfl); (case hr => first | (go_simp; done) | (go_simp; rfl)); intro gb171 hg w13 hbox hb; have n0_ := nblk BK170 hb; have n1_ := nbs HB hb; have n2_ := Aside0.mk (hbox); have n3_ := nge HB hg; have n4_ := nge HB hg; have n5_ := nlt BK170 hg; have n6_ := ngt BK170 hg; clear BK170 HB; have BK170 := n0_; have HB := n1_; have BK171 := n2_; have GW171 := n3_; have GE171 := n4_; have NB170_171 := n5_; have NB171_170 := n6_; clear n0_ n1_ n2_ n3_ n4_ n5_ n6_; clear hb hbox hg))
   have n0_ := Aside0.mk (blk_drew BK170.out)
   have n1_ := Aside0.mk (blk_drew BK171.out)
   have n2_ := Aside0.mk (below_drew1 HB.out)
   clear BK170 BK171 HB
   have BK170 := n0_
   have BK171 := n1_
   have HB := n2_
   clear n0_ n1_ n2_
   refine start_ (n := 11) (S := fun w' => w'.cell? ⟨gb170, 0, none⟩ = some (.int .i64 a0_0) ∧ w'.cell? ⟨gb170, 1, none⟩ = some (.int .i64 a0_1) ∧ w'.cell? ⟨gb170, 2, none⟩ = some (.int .i64 a0_2) ∧ w'.cell? ⟨gb170, 3, none⟩ = some (.int .i64 a0_3) ∧ w'.cell? ⟨gb171, 0, none⟩ = some (.int .i64 a1_0) ∧ w'.cell? ⟨gb171, 1, none⟩ = some (.int .i64 a1_1) ∧ w'.cell? ⟨gb171, 2, none⟩ = some (.int .i64 a1_2) ∧ w'.cell? ⟨gb171, 3, none⟩ = some (.int .i64 a1_3)) (ds := []) #[false, false, false, false, false, false, false, false, false, false, false] (by kernel_rfl) rfl rfl (c4 BK170 (c4e BK171)) (fun hHeld => ?_); refine with_tabW laws_FnExactMeet.tab1 laws_FnExactMeet.bits1 (fun HT_ HW_ => ?_)
   generalize w13.drew = w14 at BK170 BK171 HB hHeld ⊢
   refine take_ (i := 0) (N := some 10) (v := ?_) (a' := ?_) #[true, false, false, false, false, false, false, false, false, false, false] rfl rfl (take_ofW HT_.out HW_.out (by kernel_rfl)) (fun _ _ _ h => h) (Or.inl ⟨by rfl, ?_⟩) hHeld ?_ ?_
   rotate_left
   ·rintro w' ⟨s0, s1, s2, s3, s4, s5, s6, s7⟩
    go_simp
    with_reducible rfl
   rotate_left
   ·simp only [Act.put, List.setIfInBounds_toArray, List.set_cons_zero, List.set_cons_succ, i64_w, i32_w]
    rfl
   refine take_ (i := 2) (N := some 12) (v := ?_) (a' := ?_) #[true, false, true, false, false, false, false, false, false, false, false] rfl rfl (take_ofW HT_.out HW_.out (by kernel_rfl)) (fun _ _ _ h => h) (Or.inl ⟨by rfl, ?_⟩) hHeld ?_ ?_
   rotate_left
   ·rintro w' ⟨s0, s1, s2, s3, s4, s5, s6, s7⟩
    go_simp
    with_reducible rfl
   rotate_left
   ·simp only [Act.put, List.setIfInBounds_toArray, List.set_cons_zero, List.set_cons_succ, i64_w, i32_w]
    rfl
   refine join_ (σ := Nat) 2 #[true, true, true, true, true, true, true, true, true, false, false] (fun s_ => [(11, .agg #[.int .i64 t172, .int .i64 t173, .int .i64 t174, .int .i64 t175]), (13, .agg #[.int .i64 t176, .int .i64 t177, .int .i64 t178, .int .i64 t179]), (14, .tuple #[.agg #[.int .i64 t180, .int .i64 t181, .int .i64 t182, .int .i64 t183], .bool t184]), (5, .pointer (some ⟨s_, 0, none⟩)), (9, .tuple #[.agg #[.int .i64 t180, .int .i64 t181, .int .i64 t182, .int .i64 t183], .bool t184]), (15, .agg #[.int .i64 t180, .int .i64 t181, .int .i64 t182, .int .i64 t183]), (16, .bool t184)]) (fun s_ w' => (w'.cell? ⟨gb170, 0, none⟩ = some (.int .i64 a0_0) ∧ w'.cell? ⟨gb170, 1, none⟩ = some (.int .i64 a0_1) ∧ w'.cell? ⟨gb170, 2, none⟩ = some (.int .i64 a0_2) ∧ w'.cell? ⟨gb170, 3, none⟩ = some (.int .i64 a0_3) ∧ w'.cell? ⟨gb171, 0, none⟩ = some (.int .i64 a1_0) ∧ w'.cell? ⟨gb171, 1, none⟩ = some (.int .i64 a1_1) ∧ w'.cell? ⟨gb171, 2, none⟩ = some (.int .i64 a1_2) ∧ w'.cell? ⟨gb171, 3, none⟩ = some (.int .i64 a1_3)) ∧ (w'.heap[gb170]? = some (.cells #[.int .i64 a0_0, .int .i64 a0_1, .int .i64 a0_2, .int .i64 a0_3] 24 (0, 0))) ∧ (w'.heap[gb171]? = some (.cells #[.int .i64 a1_0, .int .i64 a1_1, .int .i64 a1_2, .int .i64 a1_3] 24 (0, 0))) ∧ (w'.heap[s_]? = some (.cells #[.int .i64 0, .int .i64 0, .int .i64 0, .int .i64 0] 26 (0, 0))) ∧ (w.heap.size ≤ s_) ∧ (w.heap.size ≤ s_) ∧ (gb170 ≠ s_) ∧ (s_ ≠ gb170) ∧ (gb171 ≠ s_) ∧ (s_ ≠ gb171) ∧ (Below w.heap.size w w')) ?_ ?_
   rotate_left
   ·intro hCont
    refine two_ (i := 1) (j := 8) (Ni := some 11) (Nj := some 5) #[true, true, true, false, false, false, false, false, false, false, false] #[true, false, true, false, false, false, false, false, true, false, false] rfl rfl rfl rfl (two_of HT_.out (by kernel_rfl)) (by decide) (by decide) (fun K hK => ?_) (fun K hK => ?_)
    ·skip
     refine goesR Try.func18 (by kernel_rfl) rfl #[.agg #[.int .i64 a0_0, .int .i64 a0_1, .int .i64 a0_2, .int .i64 a0_3]] (by rfl) rfl rfl ?_
     with_reducible refine (laws_toKey.calls a0_0 a0_1 a0_2 a0_3 t172 t173 t174 t175 _ A3.out).mono ?_
     rintro e w15 ⟨rfl, hb⟩
     refine ⟨_, rfl, ?_⟩
     have n0_ := nblk BK170 hb
     have n1_ := nblk BK171 hb
     have n2_ := nbs HB hb
     clear BK170 BK171 HB
     have BK170 := n0_
     have BK171 := n1_
     have HB := n2_
     clear n0_ n1_ n2_
     (try clear hb)
     refine hK.out _ _ (c4 BK170 (c4e BK171)) (fun hHeld => ?_)
     clear hK K
     refine norm_ (a' := ?_) ?_ ?_
     rotate_left
     ·show Act.put _ (some 11) _ = _
      simp only [Act.put, List.setIfInBounds_toArray, List.set_cons_zero, List.set_cons_succ, i64_w, i32_w]
      rfl
     refine two_ (i := 3) (j := 8) (Ni := some 13) (Nj := some 5) #[true, true, true, true, false, false, false, false, false, false, false] #[true, true, true, false, false, false, false, false, true, false, false] rfl rfl rfl rfl (two_of HT_.out (by kernel_rfl)) (by decide) (by decide) (fun K hK => ?_) (fun K hK => ?_)
     ·skip
      refine goesR Try.func18 (by kernel_rfl) rfl #[.agg #[.int .i64 a1_0, .int .i64 a1_1, .int .i64 a1_2, .int .i64 a1_3]] (by rfl) rfl rfl ?_
      with_reducible refine (laws_toKey.calls a1_0 a1_1 a1_2 a1_3 t176 t177 t178 t179 _ A4.out).mono ?_
      rintro e w16 ⟨rfl, hb⟩
      refine ⟨_, rfl, ?_⟩
      have n0_ := nblk BK170 hb
      have n1_ := nblk BK171 hb
      have n2_ := nbs HB hb
      clear BK170 BK171 HB
      have BK170 := n0_
      have BK171 := n1_
      have HB := n2_
      clear n0_ n1_ n2_
      (try clear hb)
      refine hK.out _ _ (c4 BK170 (c4e BK171)) (fun hHeld => ?_)
      clear hK K
      refine norm_ (a' := ?_) ?_ ?_
      rotate_left
      ·show Act.put _ (some 13) _ = _
       simp only [Act.put, List.setIfInBounds_toArray, List.set_cons_zero, List.set_cons_succ, i64_w, i32_w]
       rfl
      refine two_ (i := 4) (j := 8) (Ni := some 14) (Nj := some 5) #[true, true, true, true, true, false, false, false, false, false, false] #[true, true, true, true, false, false, false, false, true, false, false] rfl rfl rfl rfl (two_of HT_.out (by kernel_rfl)) (by decide) (by decide) (fun K hK => ?_) (fun K hK => ?_)
      ·skip
       refine goesR Try.func25 (by kernel_rfl) rfl #[.agg #[.int .i64 t172, .int .i64 t173, .int .i64 t174, .int .i64 t175], .agg #[.int .i64 t176, .int .i64 t177, .int .i64 t178, .int .i64 t179]] (by rfl) rfl rfl ?_
       with_reducible refine (spec_Meet.calls k t172 t173 t174 t175 t176 t177 t178 t179 t180 t181 t182 t183 t184 _ A5.out).mono ?_
       rintro e w17 ⟨rfl, hb⟩
       refine ⟨_, rfl, ?_⟩
       have n0_ := nblk BK170 hb
       have n1_ := nblk BK171 hb
       have n2_ := nbs HB hb
       clear BK170 BK171 HB
       have BK170 := n0_
       have BK171 := n1_
       have HB := n2_
       clear n0_ n1_ n2_
       (try clear hb)
       refine hK.out _ _ (c4 BK170 (c4e BK171)) (fun hHeld => ?_)
       clear hK K
       refine norm_ (a' := ?_) ?_ ?_
       rotate_left
       ·show Act.put _ (some 14) _ = _
        simp only [Act.put, List.setIfInBounds_toArray, List.set_cons_zero, List.set_cons_succ, i64_w, i32_w]
        rfl
       refine pure_ (i := 5) (N := some 9) (v := ?_) (a' := ?_) #[true, true, true, true, true, true, false, false, false, false, false] rfl rfl (any_of HT_.out (by kernel_rfl)) (fun _ _ _ h => h) (Or.inl ⟨by rfl, ?_⟩) ?_ ?_
       rotate_left
       ·intro w'
        go_simp
        with_reducible rfl
       rotate_left
       ·simp only [Act.put, List.setIfInBounds_toArray, List.set_cons_zero, List.set_cons_succ, i64_w, i32_w]
        rfl
       refine pure_ (i := 6) (N := some 15) (v := ?_) (a' := ?_) #[true, true, true, true, true, true, true, false, false, false, false] rfl rfl (any_of HT_.out (by kernel_rfl)) (fun _ _ _ h => h) (Or.inl ⟨by rfl, ?_⟩) ?_ ?_
       rotate_left
       ·intro w'
        go_simp
        with_reducible rfl
       rotate_left
       ·simp only [Act.put, List.setIfInBounds_toArray, List.set_cons_zero, List.set_cons_succ, i64_w, i32_w]
        rfl
       refine pure_ (i := 7) (N := some 16) (v := ?_) (a' := ?_) #[true, true, true, true, true, true, true, true, false, false, false] rfl rfl (any_of HT_.out (by kernel_rfl)) (fun _ _ _ h => h) (Or.inl ⟨by rfl, ?_⟩) ?_ ?_
       rotate_left
       ·intro w'
        go_simp
        with_reducible rfl
       rotate_left
       ·simp only [Act.put, List.setIfInBounds_toArray, List.set_cons_zero, List.set_cons_succ, i64_w, i32_w]
        rfl
       refine one_ (i := 8) (N := some 5) #[true, true, true, true, true, true, true, true, true, false, false] rfl rfl (one_of HT_.out (by kernel_rfl)) (by decide) (fun K hK => ?_)
       refine box_step ?hg (N := 5) ?hd (cs := #[.int .i64 0, .int .i64 0, .int .i64 0, .int .i64 0]) (t := 26) ?hr ?_; (case hd => rfl); (case hg => rfl); (case hr => first | (go_simp; done) | (go_simp; rfl))
       intro gb185 hg w18 hbox hb
       have n0_ := nblk BK170 hb
       have n1_ := nblk BK171 hb
       have n2_ := nbs HB hb
       have n3_ := Aside0.mk (hbox)
       have n4_ := nge HB hg
       have n5_ := nge HB hg
       have n6_ := nlt BK170 hg
       have n7_ := ngt BK170 hg
       have n8_ := nlt BK171 hg
       have n9_ := ngt BK171 hg
       clear BK170 BK171 HB
       have BK170 := n0_
       have BK171 := n1_
       have HB := n2_
       have BK185 := n3_
       have GW185 := n4_
       have GE185 := n5_
       have NB170_185 := n6_
       have NB185_170 := n7_
       have NB171_185 := n8_
       have NB185_171 := n9_
       clear n0_ n1_ n2_ n3_ n4_ n5_ n6_ n7_ n8_ n9_
       clear hb hbox hg
       refine hK.out _ _ (c4 BK170 (c4e BK171)) (fun hHeld => ?_)
       clear hK K
       refine norm_ (a' := ?_) ?_ ?_
       rotate_left
       ·show Act.put _ (some 5) _ = _
        simp only [Act.put, List.setIfInBounds_toArray, List.set_cons_zero, List.set_cons_succ, i64_w, i32_w]
        rfl
       exact norm_ (by simp only [putAll, Act.put, List.setIfInBounds_toArray, List.set_cons_zero, List.set_cons_succ]) (hCont (gb185) _ ⟨hHeld, (nb BK170), (nb BK171), (nb BK185), GW185.out, GE185.out, NB170_185.out, NB185_170.out, NB171_185.out, NB185_171.out, (by repeat (first | (with_reducible first | exact HB.out | apply below_alloc | apply pw_below_drewN | apply below_drew1 | refine below_set ?_ GE170.out | refine below_set ?_ GE171.out | refine below_set ?_ GE185.out) | exact HB.out))⟩)
      ·skip
       refine box_step ?hg (N := 5) ?hd (cs := #[.int .i64 0, .int .i64 0, .int .i64 0, .int .i64 0]) (t := 26) ?hr ?_; (case hd => rfl); (case hg => rfl); (case hr => first | (go_simp; done) | (go_simp; rfl))
       intro gb185 hg w17 hbox hb
       have n0_ := nblk BK170 hb
       have n1_ := nblk BK171 hb
       have n2_ := nbs HB hb
       have n3_ := Aside0.mk (hbox)
       have n4_ := nge HB hg
       have n5_ := nge HB hg
       have n6_ := nlt BK170 hg
       have n7_ := ngt BK170 hg
       have n8_ := nlt BK171 hg
       have n9_ := ngt BK171 hg
       clear BK170 BK171 HB
       have BK170 := n0_
       have BK171 := n1_
       have HB := n2_
       have BK185 := n3_
       have GW185 := n4_
       have GE185 := n5_
       have NB170_185 := n6_
       have NB185_170 := n7_
       have NB171_185 := n8_
       have NB185_171 := n9_
       clear n0_ n1_ n2_ n3_ n4_ n5_ n6_ n7_ n8_ n9_
       clear hb hbox hg
       refine hK.out _ _ (c4 BK170 (c4e BK171)) (fun hHeld => ?_)
       clear hK K
       refine norm_ (a' := ?_) ?_ ?_
       rotate_left
       ·show Act.put _ (some 5) _ = _
        simp only [Act.put, List.setIfInBounds_toArray, List.set_cons_zero, List.set_cons_succ, i64_w, i32_w]
        rfl
       refine one_ (i := 4) (N := some 14) #[true, true, true, true, true, false, false, false, true, false, false] rfl rfl (one_of HT_.out (by kernel_rfl)) (by decide) (fun K hK => ?_)
       refine goesR Try.func25 (by kernel_rfl) rfl #[.agg #[.int .i64 t172, .int .i64 t173, .int .i64 t174, .int .i64 t175], .agg #[.int .i64 t176, .int .i64 t177, .int .i64 t178, .int .i64 t179]] (by rfl) rfl rfl ?_
       with_reducible refine (spec_Meet.calls k t172 t173 t174 t175 t176 t177 t178 t179 t180 t181 t182 t183 t184 _ A5.out).mono ?_
       rintro e w18 ⟨rfl, hb⟩
       refine ⟨_, rfl, ?_⟩
       have n0_ := nblk BK170 hb
       have n1_ := nblk BK171 hb
       have n2_ := nblk BK185 hb
       have n3_ := nbs HB hb
       clear BK170 BK171 BK185 HB
       have BK170 := n0_
       have BK171 := n1_
       have BK185 := n2_
       have HB := n3_
       clear n0_ n1_ n2_ n3_
       (try clear hb)
       refine hK.out _ _ (c4 BK170 (c4e BK171)) (fun hHeld => ?_)
       clear hK K
       refine norm_ (a' := ?_) ?_ ?_
       rotate_left
       ·show Act.put _ (some 14) _ = _
        simp only [Act.put, List.setIfInBounds_toArray, List.set_cons_zero, List.set_cons_succ, i64_w, i32_w]
        rfl
       refine pure_ (i := 5) (N := some 9) (v := ?_) (a' := ?_) #[true, true, true, true, true, true, false, false, true, false, false] rfl rfl (any_of HT_.out (by kernel_rfl)) (fun _ _ _ h => h) (Or.inl ⟨by rfl, ?_⟩) ?_ ?_
       rotate_left
       ·intro w'
        go_simp
        with_reducible rfl
       rotate_left
       ·simp only [Act.put, List.setIfInBounds_toArray, List.set_cons_zero, List.set_cons_succ, i64_w, i32_w]
        rfl
       refine pure_ (i := 6) (N := some 15) (v := ?_) (a' := ?_) #[true, true, true, true, true, true, true, false, true, false, false] rfl rfl (any_of HT_.out (by kernel_rfl)) (fun _ _ _ h => h) (Or.inl ⟨by rfl, ?_⟩) ?_ ?_
       rotate_left
       ·intro w'
        go_simp
        with_reducible rfl
       rotate_left
       ·simp only [Act.put, List.setIfInBounds_toArray, List.set_cons_zero, List.set_cons_succ, i64_w, i32_w]
        rfl
       refine pure_ (i := 7) (N := some 16) (v := ?_) (a' := ?_) #[true, true, true, true, true, true, true, true, true, false, false] rfl rfl (any_of HT_.out (by kernel_rfl)) (fun _ _ _ h => h) (Or.inl ⟨by rfl, ?_⟩) ?_ ?_
       rotate_left
       ·intro w'
        go_simp
        with_reducible rfl
       rotate_left
       ·simp only [Act.put, List.setIfInBounds_toArray, List.set_cons_zero, List.set_cons_succ, i64_w, i32_w]
        rfl
       exact norm_ (by simp only [putAll, Act.put, List.setIfInBounds_toArray, List.set_cons_zero, List.set_cons_succ]) (hCont (gb185) _ ⟨hHeld, (nb BK170), (nb BK171), (nb BK185), GW185.out, GE185.out, NB170_185.out, NB185_170.out, NB171_185.out, NB185_171.out, (by repeat (first | (with_reducible first | exact HB.out | apply below_alloc | apply pw_below_drewN | apply below_drew1 | refine below_set ?_ GE170.out | refine below_set ?_ GE171.out | refine below_set ?_ GE185.out) | exact HB.out))⟩)
     ·skip
      refine box_step ?hg (N := 5) ?hd (cs := #[.int .i64 0, .int .i64 0, .int .i64 0, .int .i64 0]) (t := 26) ?hr ?_; (case hd => rfl); (case hg => rfl); (case hr => first | (go_simp; done) | (go_simp; rfl))
      intro gb185 hg w16 hbox hb
      have n0_ := nblk BK170 hb
      have n1_ := nblk BK171 hb
      have n2_ := nbs HB hb
      have n3_ := Aside0.mk (hbox)
      have n4_ := nge HB hg
      have n5_ := nge HB hg
      have n6_ := nlt BK170 hg
      have n7_ := ngt BK170 hg
      have n8_ := nlt BK171 hg
      have n9_ := ngt BK171 hg
      clear BK170 BK171 HB
      have BK170 := n0_
      have BK171 := n1_
      have HB := n2_
      have BK185 := n3_
      have GW185 := n4_
      have GE185 := n5_
      have NB170_185 := n6_
      have NB185_170 := n7_
      have NB171_185 := n8_
      have NB185_171 := n9_
      clear n0_ n1_ n2_ n3_ n4_ n5_ n6_ n7_ n8_ n9_
      clear hb hbox hg
      refine hK.out _ _ (c4 BK170 (c4e BK171)) (fun hHeld => ?_)
      clear hK K
      refine norm_ (a' := ?_) ?_ ?_
      rotate_left
      ·show Act.put _ (some 5) _ = _
       simp only [Act.put, List.setIfInBounds_toArray, List.set_cons_zero, List.set_cons_succ, i64_w, i32_w]
       rfl
      refine one_ (i := 3) (N := some 13) #[true, true, true, true, false, false, false, false, true, false, false] rfl rfl (one_of HT_.out (by kernel_rfl)) (by decide) (fun K hK => ?_)
      refine goesR Try.func18 (by kernel_rfl) rfl #[.agg #[.int .i64 a1_0, .int .i64 a1_1, .int .i64 a1_2, .int .i64 a1_3]] (by rfl) rfl rfl ?_
      with_reducible refine (laws_toKey.calls a1_0 a1_1 a1_2 a1_3 t176 t177 t178 t179 _ A4.out).mono ?_
      rintro e w17 ⟨rfl, hb⟩
      refine ⟨_, rfl, ?_⟩
      have n0_ := nblk BK170 hb
      have n1_ := nblk BK171 hb
      have n2_ := nblk BK185 hb
      have n3_ := nbs HB hb
      clear BK170 BK171 BK185 HB
      have BK170 := n0_
      have BK171 := n1_
      have BK185 := n2_
      have HB := n3_
      clear n0_ n1_ n2_ n3_
      (try clear hb)
      refine hK.out _ _ (c4 BK170 (c4e BK171)) (fun hHeld => ?_)
      clear hK K
      refine norm_ (a' := ?_) ?_ ?_
      rotate_left
      ·show Act.put _ (some 13) _ = _
       simp only [Act.put, List.setIfInBounds_toArray, List.set_cons_zero, List.set_cons_succ, i64_w, i32_w]
       rfl
      refine one_ (i := 4) (N := some 14) #[true, true, true, true, true, false, false, false, true, false, false] rfl rfl (one_of HT_.out (by kernel_rfl)) (by decide) (fun K hK => ?_)
      refine goesR Try.func25 (by kernel_rfl) rfl #[.agg #[.int .i64 t172, .int .i64 t173, .int .i64 t174, .int .i64 t175], .agg #[.int .i64 t176, .int .i64 t177, .int .i64 t178, .int .i64 t179]] (by rfl) rfl rfl ?_
      with_reducible refine (spec_Meet.calls k t172 t173 t174 t175 t176 t177 t178 t179 t180 t181 t182 t183 t184 _ A5.out).mono ?_
      rintro e w18 ⟨rfl, hb⟩
      refine ⟨_, rfl, ?_⟩
      have n0_ := nblk BK170 hb
      have n1_ := nblk BK171 hb
      have n2_ := nblk BK185 hb
      have n3_ := nbs HB hb
      clear BK170 BK171 BK185 HB
      have BK170 := n0_
      have BK171 := n1_
      have BK185 := n2_
      have HB := n3_
      clear n0_ n1_ n2_ n3_
      (try clear hb)
      refine hK.out _ _ (c4 BK170 (c4e BK171)) (fun hHeld => ?_)
      clear hK K
      refine norm_ (a' := ?_) ?_ ?_
      rotate_left
      ·show Act.put _ (some 14) _ = _
       simp only [Act.put, List.setIfInBounds_toArray, List.set_cons_zero, List.set_cons_succ, i64_w, i32_w]
       rfl
      refine pure_ (i := 5) (N := some 9) (v := ?_) (a' := ?_) #[true, true, true, true, true, true, false, false, true, false, false] rfl rfl (any_of HT_.out (by kernel_rfl)) (fun _ _ _ h => h) (Or.inl ⟨by rfl, ?_⟩) ?_ ?_
      rotate_left
      ·intro w'
       go_simp
       with_reducible rfl
      rotate_left
      ·simp only [Act.put, List.setIfInBounds_toArray, List.set_cons_zero, List.set_cons_succ, i64_w, i32_w]
       rfl
      refine pure_ (i := 6) (N := some 15) (v := ?_) (a' := ?_) #[true, true, true, true, true, true, true, false, true, false, false] rfl rfl (any_of HT_.out (by kernel_rfl)) (fun _ _ _ h => h) (Or.inl ⟨by rfl, ?_⟩) ?_ ?_
      rotate_left
      ·intro w'
       go_simp
       with_reducible rfl
      rotate_left
      ·simp only [Act.put, List.setIfInBounds_toArray, List.set_cons_zero, List.set_cons_succ, i64_w, i32_w]
       rfl
      refine pure_ (i := 7) (N := some 16) (v := ?_) (a' := ?_) #[true, true, true, true, true, true, true, true, true, false, false] rfl rfl (any_of HT_.out (by kernel_rfl)) (fun _ _ _ h => h) (Or.inl ⟨by rfl, ?_⟩) ?_ ?_
      rotate_left
      ·intro w'
       go_simp
       with_reducible rfl
      rotate_left
      ·simp only [Act.put, List.setIfInBounds_toArray, List.set_cons_zero, List.set_cons_succ, i64_w, i32_w]
       rfl
      exact norm_ (by simp only [putAll, Act.put, List.setIfInBounds_toArray, List.set_cons_zero, List.set_cons_succ]) (hCont (gb185) _ ⟨hHeld, (nb BK170), (nb BK171), (nb BK185), GW185.out, GE185.out, NB170_185.out, NB185_170.out, NB171_185.out, NB185_171.out, (by repeat (first | (with_reducible first | exact HB.out | apply below_alloc | apply pw_below_drewN | apply below_drew1 | refine below_set ?_ GE170.out | refine below_set ?_ GE171.out | refine below_set ?_ GE185.out) | exact HB.out))⟩)
    ·skip
     refine box_step ?hg (N := 5) ?hd (cs := #[.int .i64 0, .int .i64 0, .int .i64 0, .int .i64 0]) (t := 26) ?hr ?_; (case hd => rfl); (case hg => rfl); (case hr => first | (go_simp; done) | (go_simp; rfl))
     intro gb185 hg w15 hbox hb
     have n0_ := nblk BK170 hb
     have n1_ := nblk BK171 hb
     have n2_ := nbs HB hb
     have n3_ := Aside0.mk (hbox)
     have n4_ := nge HB hg
     have n5_ := nge HB hg
     have n6_ := nlt BK170 hg
     have n7_ := ngt BK170 hg
     have n8_ := nlt BK171 hg
     have n9_ := ngt BK171 hg
     clear BK170 BK171 HB
     have BK170 := n0_
     have BK171 := n1_
     have HB := n2_
     have BK185 := n3_
     have GW185 := n4_
     have GE185 := n5_
     have NB170_185 := n6_
     have NB185_170 := n7_
     have NB171_185 := n8_
     have NB185_171 := n9_
     clear n0_ n1_ n2_ n3_ n4_ n5_ n6_ n7_ n8_ n9_
     clear hb hbox hg
     refine hK.out _ _ (c4 BK170 (c4e BK171)) (fun hHeld => ?_)
     clear hK K
     refine norm_ (a' := ?_) ?_ ?_
     rotate_left
     ·show Act.put _ (some 5) _ = _
      simp only [Act.put, List.setIfInBounds_toArray, List.set_cons_zero, List.set_cons_succ, i64_w, i32_w]
      rfl
     refine one_ (i := 1) (N := some 11) #[true, true, true, false, false, false, false, false, true, false, false] rfl rfl (one_of HT_.out (by kernel_rfl)) (by decide) (fun K hK => ?_)
     refine goesR Try.func18 (by kernel_rfl) rfl #[.agg #[.int .i64 a0_0, .int .i64 a0_1, .int .i64 a0_2, .int .i64 a0_3]] (by rfl) rfl rfl ?_
     with_reducible refine (laws_toKey.calls a0_0 a0_1 a0_2 a0_3 t172 t173 t174 t175 _ A3.out).mono ?_
     rintro e w16 ⟨rfl, hb⟩
     refine ⟨_, rfl, ?_⟩
     have n0_ := nblk BK170 hb
     have n1_ := nblk BK171 hb
     have n2_ := nblk BK185 hb
     have n3_ := nbs HB hb
     clear BK170 BK171 BK185 HB
     have BK170 := n0_
     have BK171 := n1_
     have BK185 := n2_
     have HB := n3_
     clear n0_ n1_ n2_ n3_
     (try clear hb)
     refine hK.out _ _ (c4 BK170 (c4e BK171)) (fun hHeld => ?_)
     clear hK K
     refine norm_ (a' := ?_) ?_ ?_
     rotate_left
     ·show Act.put _ (some 11) _ = _
      simp only [Act.put, List.setIfInBounds_toArray, List.set_cons_zero, List.set_cons_succ, i64_w, i32_w]
      rfl
     refine one_ (i := 3) (N := some 13) #[true, true, true, true, false, false, false, false, true, false, false] rfl rfl (one_of HT_.out (by kernel_rfl)) (by decide) (fun K hK => ?_)
     refine goesR Try.func18 (by kernel_rfl) rfl #[.agg #[.int .i64 a1_0, .int .i64 a1_1, .int .i64 a1_2, .int .i64 a1_3]] (by rfl) rfl rfl ?_
     with_reducible refine (laws_toKey.calls a1_0 a1_1 a1_2 a1_3 t176 t177 t178 t179 _ A4.out).mono ?_
     rintro e w17 ⟨rfl, hb⟩
     refine ⟨_, rfl, ?_⟩
     have n0_ := nblk BK170 hb
     have n1_ := nblk BK171 hb
     have n2_ := nblk BK185 hb
     have n3_ := nbs HB hb
     clear BK170 BK171 BK185 HB
     have BK170 := n0_
     have BK171 := n1_
     have BK185 := n2_
     have HB := n3_
     clear n0_ n1_ n2_ n3_
     (try clear hb)
     refine hK.out _ _ (c4 BK170 (c4e BK171)) (fun hHeld => ?_)
     clear hK K
     refine norm_ (a' := ?_) ?_ ?_
     rotate_left
     ·show Act.put _ (some 13) _ = _
      simp only [Act.put, List.setIfInBounds_toArray, List.set_cons_zero, List.set_cons_succ, i64_w, i32_w]
      rfl
     refine one_ (i := 4) (N := some 14) #[true, true, true, true, true, false, false, false, true, false, false] rfl rfl (one_of HT_.out (by kernel_rfl)) (by decide) (fun K hK => ?_)
     refine goesR Try.func25 (by kernel_rfl) rfl #[.agg #[.int .i64 t172, .int .i64 t173, .int .i64 t174, .int .i64 t175], .agg #[.int .i64 t176, .int .i64 t177, .int .i64 t178, .int .i64 t179]] (by rfl) rfl rfl ?_
     with_reducible refine (spec_Meet.calls k t172 t173 t174 t175 t176 t177 t178 t179 t180 t181 t182 t183 t184 _ A5.out).mono ?_
     rintro e w18 ⟨rfl, hb⟩
     refine ⟨_, rfl, ?_⟩
     have n0_ := nblk BK170 hb
     have n1_ := nblk BK171 hb
     have n2_ := nblk BK185 hb
     have n3_ := nbs HB hb
     clear BK170 BK171 BK185 HB
     have BK170 := n0_
     have BK171 := n1_
     have BK185 := n2_
     have HB := n3_
     clear n0_ n1_ n2_ n3_
     (try clear hb)
     refine hK.out _ _ (c4 BK170 (c4e BK171)) (fun hHeld => ?_)
     clear hK K
     refine norm_ (a' := ?_) ?_ ?_
     rotate_left
     ·show Act.put _ (some 14) _ = _
      simp only [Act.put, List.setIfInBounds_toArray, List.set_cons_zero, List.set_cons_succ, i64_w, i32_w]
      rfl
     refine pure_ (i := 5) (N := some 9) (v := ?_) (a' := ?_) #[true, true, true, true, true, true, false, false, true, false, false] rfl rfl (any_of HT_.out (by kernel_rfl)) (fun _ _ _ h => h) (Or.inl ⟨by rfl, ?_⟩) ?_ ?_
     rotate_left
     ·intro w'
      go_simp
      with_reducible rfl
     rotate_left
     ·simp only [Act.put, List.setIfInBounds_toArray, List.set_cons_zero, List.set_cons_succ, i64_w, i32_w]
      rfl
     refine pure_ (i := 6) (N := some 15) (v := ?_) (a' := ?_) #[true, true, true, true, true, true, true, false, true, false, false] rfl rfl (any_of HT_.out (by kernel_rfl)) (fun _ _ _ h => h) (Or.inl ⟨by rfl, ?_⟩) ?_ ?_
     rotate_left
     ·intro w'
      go_simp
      with_reducible rfl
     rotate_left
     ·simp only [Act.put, List.setIfInBounds_toArray, List.set_cons_zero, List.set_cons_succ, i64_w, i32_w]
      rfl
     refine pure_ (i := 7) (N := some 16) (v := ?_) (a' := ?_) #[true, true, true, true, true, true, true, true, true, false, false] rfl rfl (any_of HT_.out (by kernel_rfl)) (fun _ _ _ h => h) (Or.inl ⟨by rfl, ?_⟩) ?_ ?_
     rotate_left
     ·intro w'
      go_simp
      with_reducible rfl
     rotate_left
     ·simp only [Act.put, List.setIfInBounds_toArray, List.set_cons_zero, List.set_cons_succ, i64_w, i32_w]
      rfl
     exact norm_ (by simp only [putAll, Act.put, List.setIfInBounds_toArray, List.set_cons_zero, List.set_cons_succ]) (hCont (gb185) _ ⟨hHeld, (nb BK170), (nb BK171), (nb BK185), GW185.out, GE185.out, NB170_185.out, NB185_170.out, NB171_185.out, NB185_171.out, (by repeat (first | (with_reducible first | exact HB.out | apply below_alloc | apply pw_below_drewN | apply below_drew1 | refine below_set ?_ GE170.out | refine below_set ?_ GE171.out | refine below_set ?_ GE185.out) | exact HB.out))⟩)
   rintro gb185 w19 ⟨hS_, h0_, h1_, h2_, h3_, h4_, h5_, h6_, h7_, h8_, h9_⟩
   have n0_ : Aside0 (w19.heap[gb170]? = some (.cells #[.int .i64 a0_0, .int .i64 a0_1, .int .i64 a0_2, .int .i64 a0_3] 24 (0, 0))) := ⟨h0_⟩
   have n1_ : Aside0 (w19.heap[gb171]? = some (.cells #[.int .i64 a1_0, .int .i64 a1_1, .int .i64 a1_2, .int .i64 a1_3] 24 (0, 0))) := ⟨h1_⟩
   have n2_ : Aside0 (w19.heap[gb185]? = some (.cells #[.int .i64 0, .int .i64 0, .int .i64 0, .int .i64 0] 26 (0, 0))) := ⟨h2_⟩
   have n3_ : Aside0 (w.heap.size ≤ gb185) := ⟨h3_⟩
   have n4_ : Aside0 (w.heap.size ≤ gb185) := ⟨h4_⟩
   have n5_ : Aside0 (gb170 ≠ gb185) := ⟨h5_⟩
   have n6_ : Aside0 (gb185 ≠ gb170) := ⟨h6_⟩
   have n7_ : Aside0 (gb171 ≠ gb185) := ⟨h7_⟩
   have n8_ : Aside0 (gb185 ≠ gb171) := ⟨h8_⟩
   have n9_ : Aside0 (Below w.heap.size w w19) := ⟨h9_⟩
   clear BK170 BK171 HB
   clear h0_ h1_ h2_ h3_ h4_ h5_ h6_ h7_ h8_ h9_
   have BK170 := n0_
   have BK171 := n1_
   have BK185 := n2_
   have GW185 := n3_
   have GE185 := n4_
   have NB170_185 := n5_
   have NB185_170 := n6_
   have NB171_185 := n7_
   have NB185_171 := n8_
   have HB := n9_
   clear n0_ n1_ n2_ n3_ n4_ n5_ n6_ n7_ n8_ n9_
   have hHeld : w19.cell? ⟨gb170, 0, none⟩ = some (.int .i64 a0_0) ∧ w19.cell? ⟨gb170, 1, none⟩ = some (.int .i64 a0_1) ∧ w19.cell? ⟨gb170, 2, none⟩ = some (.int .i64 a0_2) ∧ w19.cell? ⟨gb170, 3, none⟩ = some (.int .i64 a0_3) ∧ w19.cell? ⟨gb171, 0, none⟩ = some (.int .i64 a1_0) ∧ w19.cell? ⟨gb171, 1, none⟩ = some (.int .i64 a1_1) ∧ w19.cell? ⟨gb171, 2, none⟩ = some (.int .i64 a1_2) ∧ w19.cell? ⟨gb171, 3, none⟩ = some (.int .i64 a1_3) := hS_
   refine norm_ (a' := ?_) ?_ ?_
   rotate_left
   ·simp only [putAll, Act.put, List.setIfInBounds_toArray, List.set_cons_zero, List.set_cons_succ]
    rfl
   refine one_ (i := 9) (N := none) #[true, true, true, true, true, true, true, true, true, true, false] rfl rfl (one_of HT_.out (by kernel_rfl)) (by decide) (fun K hK => ?_)
   have hs20 : w19.cell? ⟨gb185, 0, none⟩ = some (.int .i64 0) := (blk_cell BK185.out 0).trans rfl
   have hfs20 := blk_frozen BK185.out 0
   have hns20_0 := NB170_185.out
   have hns20_1 := NB171_185.out
   have hms20_0 := NB185_170.out
   have hms20_1 := NB185_171.out
   have hs21 : w19.cell? ⟨gb185, 1, none⟩ = some (.int .i64 0) := (blk_cell BK185.out 1).trans rfl
   have hfs21 := blk_frozen BK185.out 1
   have hns21_0 := NB170_185.out
   have hns21_1 := NB171_185.out
   have hms21_0 := NB185_170.out
   have hms21_1 := NB185_171.out
   have hs22 : w19.cell? ⟨gb185, 2, none⟩ = some (.int .i64 0) := (blk_cell BK185.out 2).trans rfl
   have hfs22 := blk_frozen BK185.out 2
   have hns22_0 := NB170_185.out
   have hns22_1 := NB171_185.out
   have hms22_0 := NB185_170.out
   have hms22_1 := NB185_171.out
   have hs23 : w19.cell? ⟨gb185, 3, none⟩ = some (.int .i64 0) := (blk_cell BK185.out 3).trans rfl
   have hfs23 := blk_frozen BK185.out 3
   have hns23_0 := NB170_185.out
   have hns23_1 := NB171_185.out
   have hms23_0 := NB185_170.out
   have hms23_1 := NB185_171.out
   refine skip_ (w1 := ?_) (by rfl) rfl ?_ ?_
   rotate_left
   ·go_simp
    rfl
   refine hK.out _ _ ⟨(g4 NB170_185.out hHeld.1), (g4 NB170_185.out hHeld.2.1), (g4 NB170_185.out hHeld.2.2.1), (g4 NB170_185.out hHeld.2.2.2.1), (g4 NB171_185.out hHeld.2.2.2.2.1), (g4 NB171_185.out hHeld.2.2.2.2.2.1), (g4 NB171_185.out hHeld.2.2.2.2.2.2.1), (g4 NB171_185.out hHeld.2.2.2.2.2.2.2)⟩ (fun hHeld => ?_)
   clear hK K
   refine pure_ (i := 10) (N := some 6) (v := ?_) (a' := ?_) #[true, true, true, true, true, true, true, true, true, true, true] rfl rfl (any_of HT_.out (by kernel_rfl)) (fun _ _ _ h => h) (Or.inl ⟨by rfl, ?_⟩) ?_ ?_
   rotate_left
   ·intro w'
    go_simp
    with_reducible rfl
   rotate_left
   ·simp only [Act.put, List.setIfInBounds_toArray, List.set_cons_zero, List.set_cons_succ, i64_w, i32_w]
    rfl
   refine done_ (done_of HT_.out (by kernel_rfl)) ?_
   try go_wp2
   have n0_ : Aside0 (((((w19.setCell ⟨gb185, 0, none⟩ (.int .i64 t180)).setCell ⟨gb185, 1, none⟩ (.int .i64 t181)).setCell ⟨gb185, 2, none⟩ (.int .i64 t182)).setCell ⟨gb185, 3, none⟩ (.int .i64 t183)).heap[gb170]? = some (.cells #[.int .i64 a0_0, .int .i64 a0_1, .int .i64 a0_2, .int .i64 a0_3] 24 (0, 0))) := ⟨by (with_reducible repeat (first | refine blk_drewN ?_ _ | refine blk_drew ?_ | refine blk_alloc ?_ _)); refine blk_far ?_ NB170_185.out _; (with_reducible repeat (first | refine blk_drewN ?_ _ | refine blk_drew ?_ | refine blk_alloc ?_ _)); refine blk_far ?_ NB170_185.out _; (with_reducible repeat (first | refine blk_drewN ?_ _ | refine blk_drew ?_ | refine blk_alloc ?_ _)); refine blk_far ?_ NB170_185.out _; (with_reducible repeat (first | refine blk_drewN ?_ _ | refine blk_drew ?_ | refine blk_alloc ?_ _)); refine blk_far ?_ NB170_185.out _; (with_reducible repeat (first | refine blk_drewN ?_ _ | refine blk_drew ?_ | refine blk_alloc ?_ _)); exact BK170.out⟩
   have n1_ : Aside0 (((((w19.setCell ⟨gb185, 0, none⟩ (.int .i64 t180)).setCell ⟨gb185, 1, none⟩ (.int .i64 t181)).setCell ⟨gb185, 2, none⟩ (.int .i64 t182)).setCell ⟨gb185, 3, none⟩ (.int .i64 t183)).heap[gb171]? = some (.cells #[.int .i64 a1_0, .int .i64 a1_1, .int .i64 a1_2, .int .i64 a1_3] 24 (0, 0))) := ⟨by (with_reducible repeat (first | refine blk_drewN ?_ _ | refine blk_drew ?_ | refine blk_alloc ?_ _)); refine blk_far ?_ NB171_185.out _; (with_reducible repeat (first | refine blk_drewN ?_ _ | refine blk_drew ?_ | refine blk_alloc ?_ _)); refine blk_far ?_ NB171_185.out _; (with_reducible repeat (first | refine blk_drewN ?_ _ | refine blk_drew ?_ | refine blk_alloc ?_ _)); refine blk_far ?_ NB171_185.out _; (with_reducible repeat (first | refine blk_drewN ?_ _ | refine blk_drew ?_ | refine blk_alloc ?_ _)); refine blk_far ?_ NB171_185.out _; (with_reducible repeat (first | refine blk_drewN ?_ _ | refine blk_drew ?_ | refine blk_alloc ?_ _)); exact BK171.out⟩
   have n2_ : Aside0 (((((w19.setCell ⟨gb185, 0, none⟩ (.int .i64 t180)).setCell ⟨gb185, 1, none⟩ (.int .i64 t181)).setCell ⟨gb185, 2, none⟩ (.int .i64 t182)).setCell ⟨gb185, 3, none⟩ (.int .i64 t183)).heap[gb185]? = some (.cells #[.int .i64 t180, .int .i64 t181, .int .i64 t182, .int .i64 t183] 26 (0, 0))) := ⟨by (with_reducible repeat (first | refine blk_drewN ?_ _ | refine blk_drew ?_ | refine blk_alloc ?_ _)); refine blk_put (cs := #[.int .i64 t180, .int .i64 t181, .int .i64 t182, .int .i64 0]) ?_ 3 _ rfl; (with_reducible repeat (first | refine blk_drewN ?_ _ | refine blk_drew ?_ | refine blk_alloc ?_ _)); refine blk_put (cs := #[.int .i64 t180, .int .i64 t181, .int .i64 0, .int .i64 0]) ?_ 2 _ rfl; (with_reducible repeat (first | refine blk_drewN ?_ _ | refine blk_drew ?_ | refine blk_alloc ?_ _)); refine blk_put (cs := #[.int .i64 t180, .int .i64 0, .int .i64 0, .int .i64 0]) ?_ 1 _ rfl; (with_reducible repeat (first | refine blk_drewN ?_ _ | refine blk_drew ?_ | refine blk_alloc ?_ _)); refine blk_put (cs := #[.int .i64 0, .int .i64 0, .int .i64 0, .int .i64 0]) ?_ 0 _ rfl; (with_reducible repeat (first | refine blk_drewN ?_ _ | refine blk_drew ?_ | refine blk_alloc ?_ _)); exact BK185.out⟩
   have n3_ : Aside0 (Below w.heap.size w ((((w19.setCell ⟨gb185, 0, none⟩ (.int .i64 t180)).setCell ⟨gb185, 1, none⟩ (.int .i64 t181)).setCell ⟨gb185, 2, none⟩ (.int .i64 t182)).setCell ⟨gb185, 3, none⟩ (.int .i64 t183))) := ⟨by repeat (first | (with_reducible first | exact HB.out | apply below_alloc | apply pw_below_drewN | apply below_drew1 | refine below_set ?_ GE170.out | refine below_set ?_ GE171.out | refine below_set ?_ GE185.out) | exact HB.out)⟩
   (try clear BK170)
   (try clear BK171)
   (try clear BK185)
   (try clear HB)
   generalize ((((w19.setCell ⟨gb185, 0, none⟩ (.int .i64 t180)).setCell ⟨gb185, 1, none⟩ (.int .i64 t181)).setCell ⟨gb185, 2, none⟩ (.int .i64 t182)).setCell ⟨gb185, 3, none⟩ (.int .i64 t183)) = w24 at n0_ n1_ n2_ n3_ ⊢
   have BK170 := n0_
   have BK171 := n1_
   have BK185 := n2_
   have HB := n3_
   clear n0_ n1_ n2_ n3_
   have n0_ := Aside0.mk (blk_drew BK170.out)
   have n1_ := Aside0.mk (blk_drew BK171.out)
   have n2_ := Aside0.mk (blk_drew BK185.out)
   have n3_ := Aside0.mk (below_drew1 HB.out)
   clear BK170 BK171 BK185 HB
   have BK170 := n0_
   have BK171 := n1_
   have BK185 := n2_
   have HB := n3_
   clear n0_ n1_ n2_ n3_
   refine start_ (n := 11) (S := fun w' => w'.cell? ⟨gb170, 0, none⟩ = some (.int .i64 a0_0) ∧ w'.cell? ⟨gb170, 1, none⟩ = some (.int .i64 a0_1) ∧ w'.cell? ⟨gb170, 2, none⟩ = some (.int .i64 a0_2) ∧ w'.cell? ⟨gb170, 3, none⟩ = some (.int .i64 a0_3) ∧ w'.cell? ⟨gb171, 0, none⟩ = some (.int .i64 a1_0) ∧ w'.cell? ⟨gb171, 1, none⟩ = some (.int .i64 a1_1) ∧ w'.cell? ⟨gb171, 2, none⟩ = some (.int .i64 a1_2) ∧ w'.cell? ⟨gb171, 3, none⟩ = some (.int .i64 a1_3)) (ds := []) #[false, false, false, false, false, false, false, false, false, false, false] (by kernel_rfl) rfl rfl (c4 BK170 (c4e BK171)) (fun hHeld => ?_); refine with_tabW laws_FnExactMeet.tab2 laws_FnExactMeet.bits2 (fun HT_ HW_ => ?_)
   generalize w24.drew = w25 at BK170 BK171 BK185 HB hHeld ⊢
   refine take_ (i := 0) (N := some 18) (v := ?_) (a' := ?_) #[true, false, false, false, false, false, false, false, false, false, false] rfl rfl (take_ofW HT_.out HW_.out (by kernel_rfl)) (fun _ _ _ h => h) (Or.inl ⟨by rfl, ?_⟩) hHeld ?_ ?_
   rotate_left
   ·rintro w' ⟨s0, s1, s2, s3, s4, s5, s6, s7⟩
    go_simp
    with_reducible rfl
   rotate_left
   ·simp only [Act.put, List.setIfInBounds_toArray, List.set_cons_zero, List.set_cons_succ, i64_w, i32_w]
    rfl
   refine take_ (i := 2) (N := some 20) (v := ?_) (a' := ?_) #[true, false, true, false, false, false, false, false, false, false, false] rfl rfl (take_ofW HT_.out HW_.out (by kernel_rfl)) (fun _ _ _ h => h) (Or.inl ⟨by rfl, ?_⟩) hHeld ?_ ?_
   rotate_left
   ·rintro w' ⟨s0, s1, s2, s3, s4, s5, s6, s7⟩
    go_simp
    with_reducible rfl
   rotate_left
   ·simp only [Act.put, List.setIfInBounds_toArray, List.set_cons_zero, List.set_cons_succ, i64_w, i32_w]
    rfl
   refine join_ (σ := Nat) 2 #[true, true, true, true, true, true, true, true, true, false, false] (fun s_ => [(19, .agg #[.int .i64 t186, .int .i64 t187, .int .i64 t188, .int .i64 t189]), (21, .agg #[.int .i64 t190, .int .i64 t191, .int .i64 t192, .int .i64 t193]), (22, .tuple #[.agg #[.int .i64 t194, .int .i64 t195, .int .i64 t196, .int .i64 t197], .bool t198]), (7, .pointer (some ⟨s_, 0, none⟩)), (17, .tuple #[.agg #[.int .i64 t194, .int .i64 t195, .int .i64 t196, .int .i64 t197], .bool t198]), (23, .agg #[.int .i64 t194, .int .i64 t195, .int .i64 t196, .int .i64 t197]), (24, .bool t198)]) (fun s_ w' => (w'.cell? ⟨gb170, 0, none⟩ = some (.int .i64 a0_0) ∧ w'.cell? ⟨gb170, 1, none⟩ = some (.int .i64 a0_1) ∧ w'.cell? ⟨gb170, 2, none⟩ = some (.int .i64 a0_2) ∧ w'.cell? ⟨gb170, 3, none⟩ = some (.int .i64 a0_3) ∧ w'.cell? ⟨gb171, 0, none⟩ = some (.int .i64 a1_0) ∧ w'.cell? ⟨gb171, 1, none⟩ = some (.int .i64 a1_1) ∧ w'.cell? ⟨gb171, 2, none⟩ = some (.int .i64 a1_2) ∧ w'.cell? ⟨gb171, 3, none⟩ = some (.int .i64 a1_3)) ∧ (w'.heap[gb170]? = some (.cells #[.int .i64 a0_0, .int .i64 a0_1, .int .i64 a0_2, .int .i64 a0_3] 24 (0, 0))) ∧ (w'.heap[gb171]? = some (.cells #[.int .i64 a1_0, .int .i64 a1_1, .int .i64 a1_2, .int .i64 a1_3] 24 (0, 0))) ∧ (w'.heap[gb185]? = some (.cells #[.int .i64 t180, .int .i64 t181, .int .i64 t182, .int .i64 t183] 26 (0, 0))) ∧ (w'.heap[s_]? = some (.cells #[.int .i64 0, .int .i64 0, .int .i64 0, .int .i64 0] 26 (0, 0))) ∧ (w.heap.size ≤ s_) ∧ (w.heap.size ≤ s_) ∧ (gb170 ≠ s_) ∧ (s_ ≠ gb170) ∧ (gb171 ≠ s_) ∧ (s_ ≠ gb171) ∧ (gb185 ≠ s_) ∧ (s_ ≠ gb185) ∧ (Below w.heap.size w w')) ?_ ?_
   rotate_left
   ·intro hCont
    refine two_ (i := 1) (j := 8) (Ni := some 19) (Nj := some 7) #[true, true, true, false, false, false, false, false, false, false, false] #[true, false, true, false, false, false, false, false, true, false, false] rfl rfl rfl rfl (two_of HT_.out (by kernel_rfl)) (by decide) (by decide) (fun K hK => ?_) (fun K hK => ?_)
    ·skip
     refine goesR Try.func18 (by kernel_rfl) rfl #[.agg #[.int .i64 a0_0, .int .i64 a0_1, .int .i64 a0_2, .int .i64 a0_3]] (by rfl) rfl rfl ?_
     with_reducible refine (laws_toKey.calls a0_0 a0_1 a0_2 a0_3 t186 t187 t188 t189 _ A6.out).mono ?_
     rintro e w26 ⟨rfl, hb⟩
     refine ⟨_, rfl, ?_⟩
     have n0_ := nblk BK170 hb
     have n1_ := nblk BK171 hb
     have n2_ := nblk BK185 hb
     have n3_ := nbs HB hb
     clear BK170 BK171 BK185 HB
     have BK170 := n0_
     have BK171 := n1_
     have BK185 := n2_
     have HB := n3_
     clear n0_ n1_ n2_ n3_
     (try clear hb)
     refine hK.out _ _ (c4 BK170 (c4e BK171)) (fun hHeld => ?_)
     clear hK K
     refine norm_ (a' := ?_) ?_ ?_
     rotate_left
     ·show Act.put _ (some 19) _ = _
      simp only [Act.put, List.setIfInBounds_toArray, List.set_cons_zero, List.set_cons_succ, i64_w, i32_w]
      rfl
     refine two_ (i := 3) (j := 8) (Ni := some 21) (Nj := some 7) #[true, true, true, true, false, false, false, false, false, false, false] #[true, true, true, false, false, false, false, false, true, false, false] rfl rfl rfl rfl (two_of HT_.out (by kernel_rfl)) (by decide) (by decide) (fun K hK => ?_) (fun K hK => ?_)
     ·skip
      refine goesR Try.func18 (by kernel_rfl) rfl #[.agg #[.int .i64 a1_0, .int .i64 a1_1, .int .i64 a1_2, .int .i64 a1_3]] (by rfl) rfl rfl ?_
      with_reducible refine (laws_toKey.calls a1_0 a1_1 a1_2 a1_3 t190 t191 t192 t193 _ A7.out).mono ?_
      rintro e w27 ⟨rfl, hb⟩
      refine ⟨_, rfl, ?_⟩
      have n0_ := nblk BK170 hb
      have n1_ := nblk BK171 hb
      have n2_ := nblk BK185 hb
      have n3_ := nbs HB hb
      clear BK170 BK171 BK185 HB
      have BK170 := n0_
      have BK171 := n1_
      have BK185 := n2_
      have HB := n3_
      clear n0_ n1_ n2_ n3_
      (try clear hb)
      refine hK.out _ _ (c4 BK170 (c4e BK171)) (fun hHeld => ?_)
      clear hK K
      refine norm_ (a' := ?_) ?_ ?_
      rotate_left
      ·show Act.put _ (some 21) _ = _
       simp only [Act.put, List.setIfInBounds_toArray, List.set_cons_zero, List.set_cons_succ, i64_w, i32_w]
       rfl
      refine two_ (i := 4) (j := 8) (Ni := some 22) (Nj := some 7) #[true, true, true, true, true, false, false, false, false, false, false] #[true, true, true, true, false, false, false, false, true, false, false] rfl rfl rfl rfl (two_of HT_.out (by kernel_rfl)) (by decide) (by decide) (fun K hK => ?_) (fun K hK => ?_)
      ·skip
       refine goesR Try.func26 (by kernel_rfl) rfl #[.agg #[.int .i64 t186, .int .i64 t187, .int .i64 t188, .int .i64 t189], .agg #[.int .i64 t190, .int .i64 t191, .int .i64 t192, .int .i64 t193]] (by rfl) rfl rfl ?_
       with_reducible refine (impl_Meet.calls k t186 t187 t188 t189 t190 t191 t192 t193 t194 t195 t196 t197 t198 _ A8.out).mono ?_
       rintro e w28 ⟨rfl, hb⟩
       refine ⟨_, rfl, ?_⟩
       have n0_ := nblk BK170 hb
       have n1_ := nblk BK171 hb
       have n2_ := nblk BK185 hb
       have n3_ := nbs HB hb
       clear BK170 BK171 BK185 HB
       have BK170 := n0_
       have BK171 := n1_
       have BK185 := n2_
       have HB := n3_
       clear n0_ n1_ n2_ n3_
       (try clear hb)
       refine hK.out _ _ (c4 BK170 (c4e BK171)) (fun hHeld => ?_)
       clear hK K
       refine norm_ (a' := ?_) ?_ ?_
       rotate_left
       ·show Act.put _ (some 22) _ = _
        simp only [Act.put, List.setIfInBounds_toArray, List.set_cons_zero, List.set_cons_succ, i64_w, i32_w]
        rfl
       refine pure_ (i := 5) (N := some 17) (v := ?_) (a' := ?_) #[true, true, true, true, true, true, false, false, false, false, false] rfl rfl (any_of HT_.out (by kernel_rfl)) (fun _ _ _ h => h) (Or.inl ⟨by rfl, ?_⟩) ?_ ?_
       rotate_left
       ·intro w'
        go_simp
        with_reducible rfl
       rotate_left
       ·simp only [Act.put, List.setIfInBounds_toArray, List.set_cons_zero, List.set_cons_succ, i64_w, i32_w]
        rfl
       refine pure_ (i := 6) (N := some 23) (v := ?_) (a' := ?_) #[true, true, true, true, true, true, true, false, false, false, false] rfl rfl (any_of HT_.out (by kernel_rfl)) (fun _ _ _ h => h) (Or.inl ⟨by rfl, ?_⟩) ?_ ?_
       rotate_left
       ·intro w'
        go_simp
        with_reducible rfl
       rotate_left
       ·simp only [Act.put, List.setIfInBounds_toArray, List.set_cons_zero, List.set_cons_succ, i64_w, i32_w]
        rfl
       refine pure_ (i := 7) (N := some 24) (v := ?_) (a' := ?_) #[true, true, true, true, true, true, true, true, false, false, false] rfl rfl (any_of HT_.out (by kernel_rfl)) (fun _ _ _ h => h) (Or.inl ⟨by rfl, ?_⟩) ?_ ?_
       rotate_left
       ·intro w'
        go_simp
        with_reducible rfl
       rotate_left
       ·simp only [Act.put, List.setIfInBounds_toArray, List.set_cons_zero, List.set_cons_succ, i64_w, i32_w]
        rfl
       refine one_ (i := 8) (N := some 7) #[true, true, true, true, true, true, true, true, true, false, false] rfl rfl (one_of HT_.out (by kernel_rfl)) (by decide) (fun K hK => ?_)
       refine box_step ?hg (N := 7) ?hd (cs := #[.int .i64 0, .int .i64 0, .int .i64 0, .int .i64 0]) (t := 26) ?hr ?_; (case hd => rfl); (case hg => rfl); (case hr => first | (go_simp; done) | (go_simp; rfl))
       intro gb199 hg w29 hbox hb
       have n0_ := nblk BK170 hb
       have n1_ := nblk BK171 hb
       have n2_ := nblk BK185 hb
       have n3_ := nbs HB hb
       have n4_ := Aside0.mk (hbox)
       have n5_ := nge HB hg
       have n6_ := nge HB hg
       have n7_ := nlt BK170 hg
       have n8_ := ngt BK170 hg
       have n9_ := nlt BK171 hg
       have n10_ := ngt BK171 hg
       have n11_ := nlt BK185 hg
       have n12_ := ngt BK185 hg
       clear BK170 BK171 BK185 HB
       have BK170 := n0_
       have BK171 := n1_
       have BK185 := n2_
       have HB := n3_
       have BK199 := n4_
       have GW199 := n5_
       have GE199 := n6_
       have NB170_199 := n7_
       have NB199_170 := n8_
       have NB171_199 := n9_
       have NB199_171 := n10_
       have NB185_199 := n11_
       have NB199_185 := n12_
       clear n0_ n1_ n2_ n3_ n4_ n5_ n6_ n7_ n8_ n9_ n10_ n11_ n12_
       clear hb hbox hg
       refine hK.out _ _ (c4 BK170 (c4e BK171)) (fun hHeld => ?_)
       clear hK K
       refine norm_ (a' := ?_) ?_ ?_
       rotate_left
       ·show Act.put _ (some 7) _ = _
        simp only [Act.put, List.setIfInBounds_toArray, List.set_cons_zero, List.set_cons_succ, i64_w, i32_w]
        rfl
       exact norm_ (by simp only [putAll, Act.put, List.setIfInBounds_toArray, List.set_cons_zero, List.set_cons_succ]) (hCont (gb199) _ ⟨hHeld, (nb BK170), (nb BK171), (nb BK185), (nb BK199), GW199.out, GE199.out, NB170_199.out, NB199_170.out, NB171_199.out, NB199_171.out, NB185_199.out, NB199_185.out, (by repeat (first | (with_reducible first | exact HB.out | apply below_alloc | apply pw_below_drewN | apply below_drew1 | refine below_set ?_ GE170.out | refine below_set ?_ GE171.out | refine below_set ?_ GE185.out | refine below_set ?_ GE199.out) | exact HB.out))⟩)
      ·skip
       refine box_step ?hg (N := 7) ?hd (cs := #[.int .i64 0, .int .i64 0, .int .i64 0, .int .i64 0]) (t := 26) ?hr ?_; (case hd => rfl); (case hg => rfl); (case hr => first | (go_simp; done) | (go_simp; rfl))
       intro gb199 hg w28 hbox hb
       have n0_ := nblk BK170 hb
       have n1_ := nblk BK171 hb
       have n2_ := nblk BK185 hb
       have n3_ := nbs HB hb
       have n4_ := Aside0.mk (hbox)
       have n5_ := nge HB hg
       have n6_ := nge HB hg
       have n7_ := nlt BK170 hg
       have n8_ := ngt BK170 hg
       have n9_ := nlt BK171 hg
       have n10_ := ngt BK171 hg
       have n11_ := nlt BK185 hg
       have n12_ := ngt BK185 hg
       clear BK170 BK171 BK185 HB
       have BK170 := n0_
       have BK171 := n1_
       have BK185 := n2_
       have HB := n3_
       have BK199 := n4_
       have GW199 := n5_
       have GE199 := n6_
       have NB170_199 := n7_
       have NB199_170 := n8_
       have NB171_199 := n9_
       have NB199_171 := n10_
       have NB185_199 := n11_
       have NB199_185 := n12_
       clear n0_ n1_ n2_ n3_ n4_ n5_ n6_ n7_ n8_ n9_ n10_ n11_ n12_
       clear hb hbox hg
       refine hK.out _ _ (c4 BK170 (c4e BK171)) (fun hHeld => ?_)
       clear hK K
       refine norm_ (a' := ?_) ?_ ?_
       rotate_left
       ·show Act.put _ (some 7) _ = _
        simp only [Act.put, List.setIfInBounds_toArray, List.set_cons_zero, List.set_cons_succ, i64_w, i32_w]
        rfl
       refine one_ (i := 4) (N := some 22) #[true, true, true, true, true, false, false, false, true, false, false] rfl rfl (one_of HT_.out (by kernel_rfl)) (by decide) (fun K hK => ?_)
       refine goesR Try.func26 (by kernel_rfl) rfl #[.agg #[.int .i64 t186, .int .i64 t187, .int .i64 t188, .int .i64 t189], .agg #[.int .i64 t190, .int .i64 t191, .int .i64 t192, .int .i64 t193]] (by rfl) rfl rfl ?_
       with_reducible refine (impl_Meet.calls k t186 t187 t188 t189 t190 t191 t192 t193 t194 t195 t196 t197 t198 _ A8.out).mono ?_
       rintro e w29 ⟨rfl, hb⟩
       refine ⟨_, rfl, ?_⟩
       have n0_ := nblk BK170 hb
       have n1_ := nblk BK171 hb
       have n2_ := nblk BK185 hb
       have n3_ := nblk BK199 hb
       have n4_ := nbs HB hb
       clear BK170 BK171 BK185 BK199 HB
       have BK170 := n0_
       have BK171 := n1_
       have BK185 := n2_
       have BK199 := n3_
       have HB := n4_
       clear n0_ n1_ n2_ n3_ n4_
       (try clear hb)
       refine hK.out _ _ (c4 BK170 (c4e BK171)) (fun hHeld => ?_)
       clear hK K
       refine norm_ (a' := ?_) ?_ ?_
       rotate_left
       ·show Act.put _ (some 22) _ = _
        simp only [Act.put, List.setIfInBounds_toArray, List.set_cons_zero, List.set_cons_succ, i64_w, i32_w]
        rfl
       refine pure_ (i := 5) (N := some 17) (v := ?_) (a' := ?_) #[true, true, true, true, true, true, false, false, true, false, false] rfl rfl (any_of HT_.out (by kernel_rfl)) (fun _ _ _ h => h) (Or.inl ⟨by rfl, ?_⟩) ?_ ?_
       rotate_left
       ·intro w'
        go_simp
        with_reducible rfl
       rotate_left
       ·simp only [Act.put, List.setIfInBounds_toArray, List.set_cons_zero, List.set_cons_succ, i64_w, i32_w]
        rfl
       refine pure_ (i := 6) (N := some 23) (v := ?_) (a' := ?_) #[true, true, true, true, true, true, true, false, true, false, false] rfl rfl (any_of HT_.out (by kernel_rfl)) (fun _ _ _ h => h) (Or.inl ⟨by rfl, ?_⟩) ?_ ?_
       rotate_left
       ·intro w'
        go_simp
        with_reducible rfl
       rotate_left
       ·simp only [Act.put, List.setIfInBounds_toArray, List.set_cons_zero, List.set_cons_succ, i64_w, i32_w]
        rfl
       refine pure_ (i := 7) (N := some 24) (v := ?_) (a' := ?_) #[true, true, true, true, true, true, true, true, true, false, false] rfl rfl (any_of HT_.out (by kernel_rfl)) (fun _ _ _ h => h) (Or.inl ⟨by rfl, ?_⟩) ?_ ?_
       rotate_left
       ·intro w'
        go_simp
        with_reducible rfl
       rotate_left
       ·simp only [Act.put, List.setIfInBounds_toArray, List.set_cons_zero, List.set_cons_succ, i64_w, i32_w]
        rfl
       exact norm_ (by simp only [putAll, Act.put, List.setIfInBounds_toArray, List.set_cons_zero, List.set_cons_succ]) (hCont (gb199) _ ⟨hHeld, (nb BK170), (nb BK171), (nb BK185), (nb BK199), GW199.out, GE199.out, NB170_199.out, NB199_170.out, NB171_199.out, NB199_171.out, NB185_199.out, NB199_185.out, (by repeat (first | (with_reducible first | exact HB.out | apply below_alloc | apply pw_below_drewN | apply below_drew1 | refine below_set ?_ GE170.out | refine below_set ?_ GE171.out | refine below_set ?_ GE185.out | refine below_set ?_ GE199.out) | exact HB.out))⟩)
     ·skip
      refine box_step ?hg (N := 7) ?hd (cs := #[.int .i64 0, .int .i64 0, .int .i64 0, .int .i64 0]) (t := 26) ?hr ?_; (case hd => rfl); (case hg => rfl); (case hr => first | (go_simp; done) | (go_simp; rfl))
      intro gb199 hg w27 hbox hb
      have n0_ := nblk BK170 hb
      have n1_ := nblk BK171 hb
      have n2_ := nblk BK185 hb
      have n3_ := nbs HB hb
      have n4_ := Aside0.mk (hbox)
      have n5_ := nge HB hg
      have n6_ := nge HB hg
      have n7_ := nlt BK170 hg
      have n8_ := ngt BK170 hg
      have n9_ := nlt BK171 hg
      have n10_ := ngt BK171 hg
      have n11_ := nlt BK185 hg
      have n12_ := ngt BK185 hg
      clear BK170 BK171 BK185 HB
      have BK170 := n0_
      have BK171 := n1_
      have BK185 := n2_
      have HB := n3_
      have BK199 := n4_
      have GW199 := n5_
      have GE199 := n6_
      have NB170_199 := n7_
      have NB199_170 := n8_
      have NB171_199 := n9_
      have NB199_171 := n10_
      have NB185_199 := n11_
      have NB199_185 := n12_
      clear n0_ n1_ n2_ n3_ n4_ n5_ n6_ n7_ n8_ n9_ n10_ n11_ n12_
      clear hb hbox hg
      refine hK.out _ _ (c4 BK170 (c4e BK171)) (fun hHeld => ?_)
      clear hK K
      refine norm_ (a' := ?_) ?_ ?_
      rotate_left
      ·show Act.put _ (some 7) _ = _
       simp only [Act.put, List.setIfInBounds_toArray, List.set_cons_zero, List.set_cons_succ, i64_w, i32_w]
       rfl
      refine one_ (i := 3) (N := some 21) #[true, true, true, true, false, false, false, false, true, false, false] rfl rfl (one_of HT_.out (by kernel_rfl)) (by decide) (fun K hK => ?_)
      refine goesR Try.func18 (by kernel_rfl) rfl #[.agg #[.int .i64 a1_0, .int .i64 a1_1, .int .i64 a1_2, .int .i64 a1_3]] (by rfl) rfl rfl ?_
      with_reducible refine (laws_toKey.calls a1_0 a1_1 a1_2 a1_3 t190 t191 t192 t193 _ A7.out).mono ?_
      rintro e w28 ⟨rfl, hb⟩
      refine ⟨_, rfl, ?_⟩
      have n0_ := nblk BK170 hb
      have n1_ := nblk BK171 hb
      have n2_ := nblk BK185 hb
      have n3_ := nblk BK199 hb
      have n4_ := nbs HB hb
      clear BK170 BK171 BK185 BK199 HB
      have BK170 := n0_
      have BK171 := n1_
      have BK185 := n2_
      have BK199 := n3_
      have HB := n4_
      clear n0_ n1_ n2_ n3_ n4_
      (try clear hb)
      refine hK.out _ _ (c4 BK170 (c4e BK171)) (fun hHeld => ?_)
      clear hK K
      refine norm_ (a' := ?_) ?_ ?_
      rotate_left
      ·show Act.put _ (some 21) _ = _
       simp only [Act.put, List.setIfInBounds_toArray, List.set_cons_zero, List.set_cons_succ, i64_w, i32_w]
       rfl
      refine one_ (i := 4) (N := some 22) #[true, true, true, true, true, false, false, false, true, false, false] rfl rfl (one_of HT_.out (by kernel_rfl)) (by decide) (fun K hK => ?_)
      refine goesR Try.func26 (by kernel_rfl) rfl #[.agg #[.int .i64 t186, .int .i64 t187, .int .i64 t188, .int .i64 t189], .agg #[.int .i64 t190, .int .i64 t191, .int .i64 t192, .int .i64 t193]] (by rfl) rfl rfl ?_
      with_reducible refine (impl_Meet.calls k t186 t187 t188 t189 t190 t191 t192 t193 t194 t195 t196 t197 t198 _ A8.out).mono ?_
      rintro e w29 ⟨rfl, hb⟩
      refine ⟨_, rfl, ?_⟩
      have n0_ := nblk BK170 hb
      have n1_ := nblk BK171 hb
      have n2_ := nblk BK185 hb
      have n3_ := nblk BK199 hb
      have n4_ := nbs HB hb
      clear BK170 BK171 BK185 BK199 HB
      have BK170 := n0_
      have BK171 := n1_
      have BK185 := n2_
      have BK199 := n3_
      have HB := n4_
      clear n0_ n1_ n2_ n3_ n4_
      (try clear hb)
      refine hK.out _ _ (c4 BK170 (c4e BK171)) (fun hHeld => ?_)
      clear hK K
      refine norm_ (a' := ?_) ?_ ?_
      rotate_left
      ·show Act.put _ (some 22) _ = _
       simp only [Act.put, List.setIfInBounds_toArray, List.set_cons_zero, List.set_cons_succ, i64_w, i32_w]
       rfl
      refine pure_ (i := 5) (N := some 17) (v := ?_) (a' := ?_) #[true, true, true, true, true, true, false, false, true, false, false] rfl rfl (any_of HT_.out (by kernel_rfl)) (fun _ _ _ h => h) (Or.inl ⟨by rfl, ?_⟩) ?_ ?_
      rotate_left
      ·intro w'
       go_simp
       with_reducible rfl
      rotate_left
      ·simp only [Act.put, List.setIfInBounds_toArray, List.set_cons_zero, List.set_cons_succ, i64_w, i32_w]
       rfl
      refine pure_ (i := 6) (N := some 23) (v := ?_) (a' := ?_) #[true, true, true, true, true, true, true, false, true, false, false] rfl rfl (any_of HT_.out (by kernel_rfl)) (fun _ _ _ h => h) (Or.inl ⟨by rfl, ?_⟩) ?_ ?_
      rotate_left
      ·intro w'
       go_simp
       with_reducible rfl
      rotate_left
      ·simp only [Act.put, List.setIfInBounds_toArray, List.set_cons_zero, List.set_cons_succ, i64_w, i32_w]
       rfl
      refine pure_ (i := 7) (N := some 24) (v := ?_) (a' := ?_) #[true, true, true, true, true, true, true, true, true, false, false] rfl rfl (any_of HT_.out (by kernel_rfl)) (fun _ _ _ h => h) (Or.inl ⟨by rfl, ?_⟩) ?_ ?_
      rotate_left
      ·intro w'
       go_simp
       with_reducible rfl
      rotate_left
      ·simp only [Act.put, List.setIfInBounds_toArray, List.set_cons_zero, List.set_cons_succ, i64_w, i32_w]
       rfl
      exact norm_ (by simp only [putAll, Act.put, List.setIfInBounds_toArray, List.set_cons_zero, List.set_cons_succ]) (hCont (gb199) _ ⟨hHeld, (nb BK170), (nb BK171), (nb BK185), (nb BK199), GW199.out, GE199.out, NB170_199.out, NB199_170.out, NB171_199.out, NB199_171.out, NB185_199.out, NB199_185.out, (by repeat (first | (with_reducible first | exact HB.out | apply below_alloc | apply pw_below_drewN | apply below_drew1 | refine below_set ?_ GE170.out | refine below_set ?_ GE171.out | refine below_set ?_ GE185.out | refine below_set ?_ GE199.out) | exact HB.out))⟩)
    ·skip
     refine box_step ?hg (N := 7) ?hd (cs := #[.int .i64 0, .int .i64 0, .int .i64 0, .int .i64 0]) (t := 26) ?hr ?_; (case hd => rfl); (case hg => rfl); (case hr => first | (go_simp; done) | (go_simp; rfl))
     intro gb199 hg w26 hbox hb
     have n0_ := nblk BK170 hb
     have n1_ := nblk BK171 hb
     have n2_ := nblk BK185 hb
     have n3_ := nbs HB hb
     have n4_ := Aside0.mk (hbox)
     have n5_ := nge HB hg
     have n6_ := nge HB hg
     have n7_ := nlt BK170 hg
     have n8_ := ngt BK170 hg
     have n9_ := nlt BK171 hg
     have n10_ := ngt BK171 hg
     have n11_ := nlt BK185 hg
     have n12_ := ngt BK185 hg
     clear BK170 BK171 BK185 HB
     have BK170 := n0_
     have BK171 := n1_
     have BK185 := n2_
     have HB := n3_
     have BK199 := n4_
     have GW199 := n5_
     have GE199 := n6_
     have NB170_199 := n7_
     have NB199_170 := n8_
     have NB171_199 := n9_
     have NB199_171 := n10_
     have NB185_199 := n11_
     have NB199_185 := n12_
     clear n0_ n1_ n2_ n3_ n4_ n5_ n6_ n7_ n8_ n9_ n10_ n11_ n12_
     clear hb hbox hg
     refine hK.out _ _ (c4 BK170 (c4e BK171)) (fun hHeld => ?_)
     clear hK K
     refine norm_ (a' := ?_) ?_ ?_
     rotate_left
     ·show Act.put _ (some 7) _ = _
      simp only [Act.put, List.setIfInBounds_toArray, List.set_cons_zero, List.set_cons_succ, i64_w, i32_w]
      rfl
     refine one_ (i := 1) (N := some 19) #[true, true, true, false, false, false, false, false, true, false, false] rfl rfl (one_of HT_.out (by kernel_rfl)) (by decide) (fun K hK => ?_)
     refine goesR Try.func18 (by kernel_rfl) rfl #[.agg #[.int .i64 a0_0, .int .i64 a0_1, .int .i64 a0_2, .int .i64 a0_3]] (by rfl) rfl rfl ?_
     with_reducible refine (laws_toKey.calls a0_0 a0_1 a0_2 a0_3 t186 t187 t188 t189 _ A6.out).mono ?_
     rintro e w27 ⟨rfl, hb⟩
     refine ⟨_, rfl, ?_⟩
     have n0_ := nblk BK170 hb
     have n1_ := nblk BK171 hb
     have n2_ := nblk BK185 hb
     have n3_ := nblk BK199 hb
     have n4_ := nbs HB hb
     clear BK170 BK171 BK185 BK199 HB
     have BK170 := n0_
     have BK171 := n1_
     have BK185 := n2_
     have BK199 := n3_
     have HB := n4_
     clear n0_ n1_ n2_ n3_ n4_
     (try clear hb)
     refine hK.out _ _ (c4 BK170 (c4e BK171)) (fun hHeld => ?_)
     clear hK K
     refine norm_ (a' := ?_) ?_ ?_
     rotate_left
     ·show Act.put _ (some 19) _ = _
      simp only [Act.put, List.setIfInBounds_toArray, List.set_cons_zero, List.set_cons_succ, i64_w, i32_w]
      rfl
     refine one_ (i := 3) (N := some 21) #[true, true, true, true, false, false, false, false, true, false, false] rfl rfl (one_of HT_.out (by kernel_rfl)) (by decide) (fun K hK => ?_)
     refine goesR Try.func18 (by kernel_rfl) rfl #[.agg #[.int .i64 a1_0, .int .i64 a1_1, .int .i64 a1_2, .int .i64 a1_3]] (by rfl) rfl rfl ?_
     with_reducible refine (laws_toKey.calls a1_0 a1_1 a1_2 a1_3 t190 t191 t192 t193 _ A7.out).mono ?_
     rintro e w28 ⟨rfl, hb⟩
     refine ⟨_, rfl, ?_⟩
     have n0_ := nblk BK170 hb
     have n1_ := nblk BK171 hb
     have n2_ := nblk BK185 hb
     have n3_ := nblk BK199 hb
     have n4_ := nbs HB hb
     clear BK170 BK171 BK185 BK199 HB
     have BK170 := n0_
     have BK171 := n1_
     have BK185 := n2_
     have BK199 := n3_
     have HB := n4_
     clear n0_ n1_ n2_ n3_ n4_
     (try clear hb)
     refine hK.out _ _ (c4 BK170 (c4e BK171)) (fun hHeld => ?_)
     clear hK K
     refine norm_ (a' := ?_) ?_ ?_
     rotate_left
     ·show Act.put _ (some 21) _ = _
      simp only [Act.put, List.setIfInBounds_toArray, List.set_cons_zero, List.set_cons_succ, i64_w, i32_w]
      rfl
     refine one_ (i := 4) (N := some 22) #[true, true, true, true, true, false, false, false, true, false, false] rfl rfl (one_of HT_.out (by kernel_rfl)) (by decide) (fun K hK => ?_)
     refine goesR Try.func26 (by kernel_rfl) rfl #[.agg #[.int .i64 t186, .int .i64 t187, .int .i64 t188, .int .i64 t189], .agg #[.int .i64 t190, .int .i64 t191, .int .i64 t192, .int .i64 t193]] (by rfl) rfl rfl ?_
     with_reducible refine (impl_Meet.calls k t186 t187 t188 t189 t190 t191 t192 t193 t194 t195 t196 t197 t198 _ A8.out).mono ?_
     rintro e w29 ⟨rfl, hb⟩
     refine ⟨_, rfl, ?_⟩
     have n0_ := nblk BK170 hb
     have n1_ := nblk BK171 hb
     have n2_ := nblk BK185 hb
     have n3_ := nblk BK199 hb
     have n4_ := nbs HB hb
     clear BK170 BK171 BK185 BK199 HB
     have BK170 := n0_
     have BK171 := n1_
     have BK185 := n2_
     have BK199 := n3_
     have HB := n4_
     clear n0_ n1_ n2_ n3_ n4_
     (try clear hb)
     refine hK.out _ _ (c4 BK170 (c4e BK171)) (fun hHeld => ?_)
     clear hK K
     refine norm_ (a' := ?_) ?_ ?_
     rotate_left
     ·show Act.put _ (some 22) _ = _
      simp only [Act.put, List.setIfInBounds_toArray, List.set_cons_zero, List.set_cons_succ, i64_w, i32_w]
      rfl
     refine pure_ (i := 5) (N := some 17) (v := ?_) (a' := ?_) #[true, true, true, true, true, true, false, false, true, false, false] rfl rfl (any_of HT_.out (by kernel_rfl)) (fun _ _ _ h => h) (Or.inl ⟨by rfl, ?_⟩) ?_ ?_
     rotate_left
     ·intro w'
      go_simp
      with_reducible rfl
     rotate_left
     ·simp only [Act.put, List.setIfInBounds_toArray, List.set_cons_zero, List.set_cons_succ, i64_w, i32_w]
      rfl
     refine pure_ (i := 6) (N := some 23) (v := ?_) (a' := ?_) #[true, true, true, true, true, true, true, false, true, false, false] rfl rfl (any_of HT_.out (by kernel_rfl)) (fun _ _ _ h => h) (Or.inl ⟨by rfl, ?_⟩) ?_ ?_
     rotate_left
     ·intro w'
      go_simp
      with_reducible rfl
     rotate_left
     ·simp only [Act.put, List.setIfInBounds_toArray, List.set_cons_zero, List.set_cons_succ, i64_w, i32_w]
      rfl
     refine pure_ (i := 7) (N := some 24) (v := ?_) (a' := ?_) #[true, true, true, true, true, true, true, true, true, false, false] rfl rfl (any_of HT_.out (by kernel_rfl)) (fun _ _ _ h => h) (Or.inl ⟨by rfl, ?_⟩) ?_ ?_
     rotate_left
     ·intro w'
      go_simp
      with_reducible rfl
     rotate_left
     ·simp only [Act.put, List.setIfInBounds_toArray, List.set_cons_zero, List.set_cons_succ, i64_w, i32_w]
      rfl
     exact norm_ (by simp only [putAll, Act.put, List.setIfInBounds_toArray, List.set_cons_zero, List.set_cons_succ]) (hCont (gb199) _ ⟨hHeld, (nb BK170), (nb BK171), (nb BK185), (nb BK199), GW199.out, GE199.out, NB170_199.out, NB199_170.out, NB171_199.out, NB199_171.out, NB185_199.out, NB199_185.out, (by repeat (first | (with_reducible first | exact HB.out | apply below_alloc | apply pw_below_drewN | apply below_drew1 | refine below_set ?_ GE170.out | refine below_set ?_ GE171.out | refine below_set ?_ GE185.out | refine below_set ?_ GE199.out) | exact HB.out))⟩)
   rintro gb199 w30 ⟨hS_, h0_, h1_, h2_, h3_, h4_, h5_, h6_, h7_, h8_, h9_, h10_, h11_, h12_⟩
   have n0_ : Aside0 (w30.heap[gb170]? = some (.cells #[.int .i64 a0_0, .int .i64 a0_1, .int .i64 a0_2, .int .i64 a0_3] 24 (0, 0))) := ⟨h0_⟩
   have n1_ : Aside0 (w30.heap[gb171]? = some (.cells #[.int .i64 a1_0, .int .i64 a1_1, .int .i64 a1_2, .int .i64 a1_3] 24 (0, 0))) := ⟨h1_⟩
   have n2_ : Aside0 (w30.heap[gb185]? = some (.cells #[.int .i64 t180, .int .i64 t181, .int .i64 t182, .int .i64 t183] 26 (0, 0))) := ⟨h2_⟩
   have n3_ : Aside0 (w30.heap[gb199]? = some (.cells #[.int .i64 0, .int .i64 0, .int .i64 0, .int .i64 0] 26 (0, 0))) := ⟨h3_⟩
   have n4_ : Aside0 (w.heap.size ≤ gb199) := ⟨h4_⟩
   have n5_ : Aside0 (w.heap.size ≤ gb199) := ⟨h5_⟩
   have n6_ : Aside0 (gb170 ≠ gb199) := ⟨h6_⟩
   have n7_ : Aside0 (gb199 ≠ gb170) := ⟨h7_⟩
   have n8_ : Aside0 (gb171 ≠ gb199) := ⟨h8_⟩
   have n9_ : Aside0 (gb199 ≠ gb171) := ⟨h9_⟩
   have n10_ : Aside0 (gb185 ≠ gb199) := ⟨h10_⟩
   have n11_ : Aside0 (gb199 ≠ gb185) := ⟨h11_⟩
   have n12_ : Aside0 (Below w.heap.size w w30) := ⟨h12_⟩
   clear BK170 BK171 BK185 HB
   clear h0_ h1_ h2_ h3_ h4_ h5_ h6_ h7_ h8_ h9_ h10_ h11_ h12_
   have BK170 := n0_
   have BK171 := n1_
   have BK185 := n2_
   have BK199 := n3_
   have GW199 := n4_
   have GE199 := n5_
   have NB170_199 := n6_
   have NB199_170 := n7_
   have NB171_199 := n8_
   have NB199_171 := n9_
   have NB185_199 := n10_
   have NB199_185 := n11_
   have HB := n12_
   clear n0_ n1_ n2_ n3_ n4_ n5_ n6_ n7_ n8_ n9_ n10_ n11_ n12_
   have hHeld : w30.cell? ⟨gb170, 0, none⟩ = some (.int .i64 a0_0) ∧ w30.cell? ⟨gb170, 1, none⟩ = some (.int .i64 a0_1) ∧ w30.cell? ⟨gb170, 2, none⟩ = some (.int .i64 a0_2) ∧ w30.cell? ⟨gb170, 3, none⟩ = some (.int .i64 a0_3) ∧ w30.cell? ⟨gb171, 0, none⟩ = some (.int .i64 a1_0) ∧ w30.cell? ⟨gb171, 1, none⟩ = some (.int .i64 a1_1) ∧ w30.cell? ⟨gb171, 2, none⟩ = some (.int .i64 a1_2) ∧ w30.cell? ⟨gb171, 3, none⟩ = some (.int .i64 a1_3) := hS_
   refine norm_ (a' := ?_) ?_ ?_
   rotate_left
   ·simp only [putAll, Act.put, List.setIfInBounds_toArray, List.set_cons_zero, List.set_cons_succ]
    rfl
   refine one_ (i := 9) (N := none) #[true, true, true, true, true, true, true, true, true, true, false] rfl rfl (one_of HT_.out (by kernel_rfl)) (by decide) (fun K hK => ?_)
   have hs31 : w30.cell? ⟨gb199, 0, none⟩ = some (.int .i64 0) := (blk_cell BK199.out 0).trans rfl
   have hfs31 := blk_frozen BK199.out 0
   have hns31_0 := NB170_199.out
   have hns31_1 := NB171_199.out
   have hns31_2 := NB185_199.out
   have hms31_0 := NB199_170.out
   have hms31_1 := NB199_171.out
   have hms31_2 := NB199_185.out
   have hs32 : w30.cell? ⟨gb199, 1, none⟩ = some (.int .i64 0) := (blk_cell BK199.out 1).trans rfl
   have hfs32 := blk_frozen BK199.out 1
   have hns32_0 := NB170_199.out
   have hns32_1 := NB171_199.out
   have hns32_2 := NB185_199.out
   have hms32_0 := NB199_170.out
   have hms32_1 := NB199_171.out
   have hms32_2 := NB199_185.out
   have hs33 : w30.cell? ⟨gb199, 2, none⟩ = some (.int .i64 0) := (blk_cell BK199.out 2).trans rfl
   have hfs33 := blk_frozen BK199.out 2
   have hns33_0 := NB170_199.out
   have hns33_1 := NB171_199.out
   have hns33_2 := NB185_199.out
   have hms33_0 := NB199_170.out
   have hms33_1 := NB199_171.out
   have hms33_2 := NB199_185.out
   have hs34 : w30.cell? ⟨gb199, 3, none⟩ = some (.int .i64 0) := (blk_cell BK199.out 3).trans rfl
   have hfs34 := blk_frozen BK199.out 3
   have hns34_0 := NB170_199.out
   have hns34_1 := NB171_199.out
   have hns34_2 := NB185_199.out
   have hms34_0 := NB199_170.out
   have hms34_1 := NB199_171.out
   have hms34_2 := NB199_185.out
   refine skip_ (w1 := ?_) (by rfl) rfl ?_ ?_
   rotate_left
   ·go_simp
    rfl
   refine hK.out _ _ ⟨(g4 NB170_199.out hHeld.1), (g4 NB170_199.out hHeld.2.1), (g4 NB170_199.out hHeld.2.2.1), (g4 NB170_199.out hHeld.2.2.2.1), (g4 NB171_199.out hHeld.2.2.2.2.1), (g4 NB171_199.out hHeld.2.2.2.2.2.1), (g4 NB171_199.out hHeld.2.2.2.2.2.2.1), (g4 NB171_199.out hHeld.2.2.2.2.2.2.2)⟩ (fun hHeld => ?_)
   clear hK K
   refine pure_ (i := 10) (N := some 8) (v := ?_) (a' := ?_) #[true, true, true, true, true, true, true, true, true, true, true] rfl rfl (any_of HT_.out (by kernel_rfl)) (fun _ _ _ h => h) (Or.inl ⟨by rfl, ?_⟩) ?_ ?_
   rotate_left
   ·intro w'
    go_simp
    with_reducible rfl
   rotate_left
   ·simp only [Act.put, List.setIfInBounds_toArray, List.set_cons_zero, List.set_cons_succ, i64_w, i32_w]
    rfl
   refine done_ (done_of HT_.out (by kernel_rfl)) ?_
   have hnb35 := NB199_170.out
   have hnc35 := NB170_199.out
   have hnb36 := NB199_171.out
   have hnc36 := NB171_199.out
   have hnb37 := NB199_185.out
   have hnc37 := NB185_199.out
   have hcz38_0 : w30.cell? ⟨gb199, 0, none⟩ = some (.int .i64 0) := (blk_cell BK199.out 0).trans rfl
   have hcz38_1 : w30.cell? ⟨gb199, 1, none⟩ = some (.int .i64 0) := (blk_cell BK199.out 1).trans rfl
   have hcz38_2 : w30.cell? ⟨gb199, 2, none⟩ = some (.int .i64 0) := (blk_cell BK199.out 2).trans rfl
   have hcz38_3 : w30.cell? ⟨gb199, 3, none⟩ = some (.int .i64 0) := (blk_cell BK199.out 3).trans rfl
   have hfz38_0 := blk_frozen BK199.out 0
   have hfz38_1 := blk_frozen BK199.out 1
   have hfz38_2 := blk_frozen BK199.out 2
   have hfz38_3 := blk_frozen BK199.out 3
   have hnb39 := NB185_170.out
   have hnc39 := NB170_185.out
   have hnb40 := NB185_171.out
   have hnc40 := NB171_185.out
   have hcz41_0 : w30.cell? ⟨gb185, 0, none⟩ = some (.int .i64 t180) := (blk_cell BK185.out 0).trans rfl
   have hcz41_1 : w30.cell? ⟨gb185, 1, none⟩ = some (.int .i64 t181) := (blk_cell BK185.out 1).trans rfl
   have hcz41_2 : w30.cell? ⟨gb185, 2, none⟩ = some (.int .i64 t182) := (blk_cell BK185.out 2).trans rfl
   have hcz41_3 : w30.cell? ⟨gb185, 3, none⟩ = some (.int .i64 t183) := (blk_cell BK185.out 3).trans rfl
   have hfz41_0 := blk_frozen BK185.out 0
   have hfz41_1 := blk_frozen BK185.out 1
   have hfz41_2 := blk_frozen BK185.out 2
   have hfz41_3 := blk_frozen BK185.out 3
   try go_wp2_with (first | ((with_reducible refine gate_callee (f := 27) rfl ?_); refine goesM (some 27) rfl rfl Try.func27 (by kernel_rfl) rfl #[.agg #[.int .i64 t194, .int .i64 t195, .int .i64 t196, .int .i64 t197], .agg #[.int .i64 t180, .int .i64 t181, .int .i64 t182, .int .i64 t183]] rfl ?_; (with_reducible refine (laws_eqKey.calls t194 t195 t196 t197 t180 t181 t182 t183 true _ A9.out).mono ?_); rintro e w42 ⟨rfl, hb⟩; refine ⟨_, rfl, ?_⟩; have n0_ := nblk BK170 hb; have n1_ := nblk BK171 hb; have n2_ := nblk BK185 hb; have n3_ := Aside0.mk (blk_below (g := gb199) (o := .cells #[.int .i64 t194, .int .i64 t195, .int .i64 t196, .int .i64 t197] 26 (0, 0)) (by (with_reducible repeat (first | refine blk_drewN ?_ _ | refine blk_drew ?_ | refine blk_alloc ?_ _)); refine blk_put (cs := #[.int .i64 t194, .int .i64 t195, .int .i64 t196, .int .i64 0]) ?_ 3 _ rfl; (with_reducible repeat (first | refine blk_drewN ?_ _ | refine blk_drew ?_ | refine blk_alloc ?_ _)); refine blk_put (cs := #[.int .i64 t194, .int .i64 t195, .int .i64 0, .int .i64 0]) ?_ 2 _ rfl; (with_reducible repeat (first | refine blk_drewN ?_ _ | refine blk_drew ?_ | refine blk_alloc ?_ _)); refine blk_put (cs := #[.int .i64 t194, .int .i64 0, .int .i64 0, .int .i64 0]) ?_ 1 _ rfl; (with_reducible repeat (first | refine blk_drewN ?_ _ | refine blk_drew ?_ | refine blk_alloc ?_ _)); refine blk_put (cs := #[.int .i64 0, .int .i64 0, .int .i64 0, .int .i64 0]) ?_ 0 _ rfl; (with_reducible repeat (first | refine blk_drewN ?_ _ | refine blk_drew ?_ | refine blk_alloc ?_ _)); exact BK199.out) hb); have n4_ := nbs HB hb; clear BK170 BK171 BK185 BK199 HB; have BK170 := n0_; have BK171 := n1_; have BK185 := n2_; have BK199 := n3_; have HB := n4_; clear n0_ n1_ n2_ n3_ n4_; (try clear hb)))
   go_ret
   exact ⟨by first | rfl | (simp [errW_none, errW_some] <;> rfl) | (simp [*, errW_none, errW_some] <;> rfl), by repeat (first | (with_reducible first | exact HB.out | apply below_alloc | apply pw_below_drewN | apply below_drew1 | refine below_set ?_ GE170.out | refine below_set ?_ GE171.out | refine below_set ?_ GE185.out | refine below_set ?_ GE199.out) | exact HB.out)⟩
  ·rw [if_neg c11] at H
   have c11b0 : (t198 != t184) = false := by simpa using c11
   (try (have c11b1 : decide (t198 = t184) = true := by simpa using c11))
   (try (have c11b2 : (t198 == t184) = true := by simpa using c11))
   clear c11
   obtain rfl := Option.some.inj H
   go_enter Try.func7, Try.ntmps7
   try go_wp2_with (first | ((with_reducible refine gate_dst (N := 2) rfl ?_); refine box_event ?hg (N := 2) ?hd (cs := #[.int .i64 a0_0, .int .i64 a0_1, .int .i64 a0_2, .int .i64 a0_3]) (t := 24) ?hr ?_; (case hd => rfl); (case hg => rfl); (case hr => first | (go_simp; done) | (go_simp; rfl)); intro gb170 hg w43 hbox hb; have n0_ := nbs HB hb; have n1_ := Aside0.mk (hbox); have n2_ := nge HB hg; have n3_ := nge HB hg; clear HB; have HB := n0_; have BK170 := n1_; have GW170 := n2_; have GE170 := n3_; clear n0_ n1_ n2_ n3_; clear hb hbox hg) | ((with_reducible refine gate_dst (N := 3) rfl ?_); refine box_event ?hg (N := 3) ?hd (cs := #[.int .i64 a1_0, .int .i64 a1_1, .int .i64 a1_2, .int .i64 a1_3]) (t := 24) ?hr ?_; (case hd => rfl); (case hg => rfl); (case hr => first | (go_simp; done) | (go_simp; rfl)); intro gb171 hg w44 hbox hb; have n0_ := nblk BK170 hb; have n1_ := nbs HB hb; have n2_ := Aside0.mk (hbox); have n3_ := nge HB hg; have n4_ := nge HB hg; have n5_ := nlt BK170 hg; have n6_ := ngt BK170 hg; clear BK170 HB; have BK170 := n0_; have HB := n1_; have BK171 := n2_; have GW171 := n3_; have GE171 := n4_; have NB170_171 := n5_; have NB171_170 := n6_; clear n0_ n1_ n2_ n3_ n4_ n5_ n6_; clear hb hbox hg))
   have n0_ := Aside0.mk (blk_drew BK170.out)
   have n1_ := Aside0.mk (blk_drew BK171.out)
   have n2_ := Aside0.mk (below_drew1 HB.out)
   clear BK170 BK171 HB
   have BK170 := n0_
   have BK171 := n1_
   have HB := n2_
   clear n0_ n1_ n2_
   refine start_ (n := 11) (S := fun w' => w'.cell? ⟨gb170, 0, none⟩ = some (.int .i64 a0_0) ∧ w'.cell? ⟨gb170, 1, none⟩ = some (.int .i64 a0_1) ∧ w'.cell? ⟨gb170, 2, none⟩ = some (.int .i64 a0_2) ∧ w'.cell? ⟨gb170, 3, none⟩ = some (.int .i64 a0_3) ∧ w'.cell? ⟨gb171, 0, none⟩ = some (.int .i64 a1_0) ∧ w'.cell? ⟨gb171, 1, none⟩ = some (.int .i64 a1_1) ∧ w'.cell? ⟨gb171, 2, none⟩ = some (.int .i64 a1_2) ∧ w'.cell? ⟨gb171, 3, none⟩ = some (.int .i64 a1_3)) (ds := []) #[false, false, false, false, false, false, false, false, false, false, false] (by kernel_rfl) rfl rfl (c4 BK170 (c4e BK171)) (fun hHeld => ?_); refine with_tabW laws_FnExactMeet.tab1 laws_FnExactMeet.bits1 (fun HT_ HW_ => ?_)
   generalize w44.drew = w45 at BK170 BK171 HB hHeld ⊢
   refine take_ (i := 0) (N := some 10) (v := ?_) (a' := ?_) #[true, false, false, false, false, false, false, false, false, false, false] rfl rfl (take_ofW HT_.out HW_.out (by kernel_rfl)) (fun _ _ _ h => h) (Or.inl ⟨by rfl, ?_⟩) hHeld ?_ ?_
   rotate_left
   ·rintro w' ⟨s0, s1, s2, s3, s4, s5, s6, s7⟩
    go_simp
    with_reducible rfl
   rotate_left
   ·simp only [Act.put, List.setIfInBounds_toArray, List.set_cons_zero, List.set_cons_succ, i64_w, i32_w]
    rfl
   refine take_ (i := 2) (N := some 12) (v := ?_) (a' := ?_) #[true, false, true, false, false, false, false, false, false, false, false] rfl rfl (take_ofW HT_.out HW_.out (by kernel_rfl)) (fun _ _ _ h => h) (Or.inl ⟨by rfl, ?_⟩) hHeld ?_ ?_
   rotate_left
   ·rintro w' ⟨s0, s1, s2, s3, s4, s5, s6, s7⟩
    go_simp
    with_reducible rfl
   rotate_left
   ·simp only [Act.put, List.setIfInBounds_toArray, List.set_cons_zero, List.set_cons_succ, i64_w, i32_w]
    rfl
   refine join_ (σ := Nat) 2 #[true, true, true, true, true, true, true, true, true, false, false] (fun s_ => [(11, .agg #[.int .i64 t172, .int .i64 t173, .int .i64 t174, .int .i64 t175]), (13, .agg #[.int .i64 t176, .int .i64 t177, .int .i64 t178, .int .i64 t179]), (14, .tuple #[.agg #[.int .i64 t180, .int .i64 t181, .int .i64 t182, .int .i64 t183], .bool t184]), (5, .pointer (some ⟨s_, 0, none⟩)), (9, .tuple #[.agg #[.int .i64 t180, .int .i64 t181, .int .i64 t182, .int .i64 t183], .bool t184]), (15, .agg #[.int .i64 t180, .int .i64 t181, .int .i64 t182, .int .i64 t183]), (16, .bool t184)]) (fun s_ w' => (w'.cell? ⟨gb170, 0, none⟩ = some (.int .i64 a0_0) ∧ w'.cell? ⟨gb170, 1, none⟩ = some (.int .i64 a0_1) ∧ w'.cell? ⟨gb170, 2, none⟩ = some (.int .i64 a0_2) ∧ w'.cell? ⟨gb170, 3, none⟩ = some (.int .i64 a0_3) ∧ w'.cell? ⟨gb171, 0, none⟩ = some (.int .i64 a1_0) ∧ w'.cell? ⟨gb171, 1, none⟩ = some (.int .i64 a1_1) ∧ w'.cell? ⟨gb171, 2, none⟩ = some (.int .i64 a1_2) ∧ w'.cell? ⟨gb171, 3, none⟩ = some (.int .i64 a1_3)) ∧ (w'.heap[gb170]? = some (.cells #[.int .i64 a0_0, .int .i64 a0_1, .int .i64 a0_2, .int .i64 a0_3] 24 (0, 0))) ∧ (w'.heap[gb171]? = some (.cells #[.int .i64 a1_0, .int .i64 a1_1, .int .i64 a1_2, .int .i64 a1_3] 24 (0, 0))) ∧ (w'.heap[s_]? = some (.cells #[.int .i64 0, .int .i64 0, .int .i64 0, .int .i64 0] 26 (0, 0))) ∧ (w.heap.size ≤ s_) ∧ (w.heap.size ≤ s_) ∧ (gb170 ≠ s_) ∧ (s_ ≠ gb170) ∧ (gb171 ≠ s_) ∧ (s_ ≠ gb171) ∧ (Below w.heap.size w w')) ?_ ?_
   rotate_left
   ·intro hCont
    refine two_ (i := 1) (j := 8) (Ni := some 11) (Nj := some 5) #[true, true, true, false, false, false, false, false, false, false, false] #[true, false, true, false, false, false, false, false, true, false, false] rfl rfl rfl rfl (two_of HT_.out (by kernel_rfl)) (by decide) (by decide) (fun K hK => ?_) (fun K hK => ?_)
    ·skip
     refine goesR Try.func18 (by kernel_rfl) rfl #[.agg #[.int .i64 a0_0, .int .i64 a0_1, .int .i64 a0_2, .int .i64 a0_3]] (by rfl) rfl rfl ?_
     with_reducible refine (laws_toKey.calls a0_0 a0_1 a0_2 a0_3 t172 t173 t174 t175 _ A3.out).mono ?_
     rintro e w46 ⟨rfl, hb⟩
     refine ⟨_, rfl, ?_⟩
     have n0_ := nblk BK170 hb
     have n1_ := nblk BK171 hb
     have n2_ := nbs HB hb
     clear BK170 BK171 HB
     have BK170 := n0_
     have BK171 := n1_
     have HB := n2_
     clear n0_ n1_ n2_
     (try clear hb)
     refine hK.out _ _ (c4 BK170 (c4e BK171)) (fun hHeld => ?_)
     clear hK K
     refine norm_ (a' := ?_) ?_ ?_
     rotate_left
     ·show Act.put _ (some 11) _ = _
      simp only [Act.put, List.setIfInBounds_toArray, List.set_cons_zero, List.set_cons_succ, i64_w, i32_w]
      rfl
     refine two_ (i := 3) (j := 8) (Ni := some 13) (Nj := some 5) #[true, true, true, true, false, false, false, false, false, false, false] #[true, true, true, false, false, false, false, false, true, false, false] rfl rfl rfl rfl (two_of HT_.out (by kernel_rfl)) (by decide) (by decide) (fun K hK => ?_) (fun K hK => ?_)
     ·skip
      refine goesR Try.func18 (by kernel_rfl) rfl #[.agg #[.int .i64 a1_0, .int .i64 a1_1, .int .i64 a1_2, .int .i64 a1_3]] (by rfl) rfl rfl ?_
      with_reducible refine (laws_toKey.calls a1_0 a1_1 a1_2 a1_3 t176 t177 t178 t179 _ A4.out).mono ?_
      rintro e w47 ⟨rfl, hb⟩
      refine ⟨_, rfl, ?_⟩
      have n0_ := nblk BK170 hb
      have n1_ := nblk BK171 hb
      have n2_ := nbs HB hb
      clear BK170 BK171 HB
      have BK170 := n0_
      have BK171 := n1_
      have HB := n2_
      clear n0_ n1_ n2_
      (try clear hb)
      refine hK.out _ _ (c4 BK170 (c4e BK171)) (fun hHeld => ?_)
      clear hK K
      refine norm_ (a' := ?_) ?_ ?_
      rotate_left
      ·show Act.put _ (some 13) _ = _
       simp only [Act.put, List.setIfInBounds_toArray, List.set_cons_zero, List.set_cons_succ, i64_w, i32_w]
       rfl
      refine two_ (i := 4) (j := 8) (Ni := some 14) (Nj := some 5) #[true, true, true, true, true, false, false, false, false, false, false] #[true, true, true, true, false, false, false, false, true, false, false] rfl rfl rfl rfl (two_of HT_.out (by kernel_rfl)) (by decide) (by decide) (fun K hK => ?_) (fun K hK => ?_)
      ·skip
       refine goesR Try.func25 (by kernel_rfl) rfl #[.agg #[.int .i64 t172, .int .i64 t173, .int .i64 t174, .int .i64 t175], .agg #[.int .i64 t176, .int .i64 t177, .int .i64 t178, .int .i64 t179]] (by rfl) rfl rfl ?_
       with_reducible refine (spec_Meet.calls k t172 t173 t174 t175 t176 t177 t178 t179 t180 t181 t182 t183 t184 _ A5.out).mono ?_
       rintro e w48 ⟨rfl, hb⟩
       refine ⟨_, rfl, ?_⟩
       have n0_ := nblk BK170 hb
       have n1_ := nblk BK171 hb
       have n2_ := nbs HB hb
       clear BK170 BK171 HB
       have BK170 := n0_
       have BK171 := n1_
       have HB := n2_
       clear n0_ n1_ n2_
       (try clear hb)
       refine hK.out _ _ (c4 BK170 (c4e BK171)) (fun hHeld => ?_)
       clear hK K
       refine norm_ (a' := ?_) ?_ ?_
       rotate_left
       ·show Act.put _ (some 14) _ = _
        simp only [Act.put, List.setIfInBounds_toArray, List.set_cons_zero, List.set_cons_succ, i64_w, i32_w]
        rfl
       refine pure_ (i := 5) (N := some 9) (v := ?_) (a' := ?_) #[true, true, true, true, true, true, false, false, false, false, false] rfl rfl (any_of HT_.out (by kernel_rfl)) (fun _ _ _ h => h) (Or.inl ⟨by rfl, ?_⟩) ?_ ?_
       rotate_left
       ·intro w'
        go_simp
        with_reducible rfl
       rotate_left
       ·simp only [Act.put, List.setIfInBounds_toArray, List.set_cons_zero, List.set_cons_succ, i64_w, i32_w]
        rfl
       refine pure_ (i := 6) (N := some 15) (v := ?_) (a' := ?_) #[true, true, true, true, true, true, true, false, false, false, false] rfl rfl (any_of HT_.out (by kernel_rfl)) (fun _ _ _ h => h) (Or.inl ⟨by rfl, ?_⟩) ?_ ?_
       rotate_left
       ·intro w'
        go_simp
        with_reducible rfl
       rotate_left
       ·simp only [Act.put, List.setIfInBounds_toArray, List.set_cons_zero, List.set_cons_succ, i64_w, i32_w]
        rfl
       refine pure_ (i := 7) (N := some 16) (v := ?_) (a' := ?_) #[true, true, true, true, true, true, true, true, false, false, false] rfl rfl (any_of HT_.out (by kernel_rfl)) (fun _ _ _ h => h) (Or.inl ⟨by rfl, ?_⟩) ?_ ?_
       rotate_left
       ·intro w'
        go_simp
        with_reducible rfl
       rotate_left
       ·simp only [Act.put, List.setIfInBounds_toArray, List.set_cons_zero, List.set_cons_succ, i64_w, i32_w]
        rfl
       refine one_ (i := 8) (N := some 5) #[true, true, true, true, true, true, true, true, true, false, false] rfl rfl (one_of HT_.out (by kernel_rfl)) (by decide) (fun K hK => ?_)
       refine box_step ?hg (N := 5) ?hd (cs := #[.int .i64 0, .int .i64 0, .int .i64 0, .int .i64 0]) (t := 26) ?hr ?_; (case hd => rfl); (case hg => rfl); (case hr => first | (go_simp; done) | (go_simp; rfl))
       intro gb185 hg w49 hbox hb
       have n0_ := nblk BK170 hb
       have n1_ := nblk BK171 hb
       have n2_ := nbs HB hb
       have n3_ := Aside0.mk (hbox)
       have n4_ := nge HB hg
       have n5_ := nge HB hg
       have n6_ := nlt BK170 hg
       have n7_ := ngt BK170 hg
       have n8_ := nlt BK171 hg
       have n9_ := ngt BK171 hg
       clear BK170 BK171 HB
       have BK170 := n0_
       have BK171 := n1_
       have HB := n2_
       have BK185 := n3_
       have GW185 := n4_
       have GE185 := n5_
       have NB170_185 := n6_
       have NB185_170 := n7_
       have NB171_185 := n8_
       have NB185_171 := n9_
       clear n0_ n1_ n2_ n3_ n4_ n5_ n6_ n7_ n8_ n9_
       clear hb hbox hg
       refine hK.out _ _ (c4 BK170 (c4e BK171)) (fun hHeld => ?_)
       clear hK K
       refine norm_ (a' := ?_) ?_ ?_
       rotate_left
       ·show Act.put _ (some 5) _ = _
        simp only [Act.put, List.setIfInBounds_toArray, List.set_cons_zero, List.set_cons_succ, i64_w, i32_w]
        rfl
       exact norm_ (by simp only [putAll, Act.put, List.setIfInBounds_toArray, List.set_cons_zero, List.set_cons_succ]) (hCont (gb185) _ ⟨hHeld, (nb BK170), (nb BK171), (nb BK185), GW185.out, GE185.out, NB170_185.out, NB185_170.out, NB171_185.out, NB185_171.out, (by repeat (first | (with_reducible first | exact HB.out | apply below_alloc | apply pw_below_drewN | apply below_drew1 | refine below_set ?_ GE170.out | refine below_set ?_ GE171.out | refine below_set ?_ GE185.out) | exact HB.out))⟩)
      ·skip
       refine box_step ?hg (N := 5) ?hd (cs := #[.int .i64 0, .int .i64 0, .int .i64 0, .int .i64 0]) (t := 26) ?hr ?_; (case hd => rfl); (case hg => rfl); (case hr => first | (go_simp; done) | (go_simp; rfl))
       intro gb185 hg w48 hbox hb
       have n0_ := nblk BK170 hb
       have n1_ := nblk BK171 hb
       have n2_ := nbs HB hb
       have n3_ := Aside0.mk (hbox)
       have n4_ := nge HB hg
       have n5_ := nge HB hg
       have n6_ := nlt BK170 hg
       have n7_ := ngt BK170 hg
       have n8_ := nlt BK171 hg
       have n9_ := ngt BK171 hg
       clear BK170 BK171 HB
       have BK170 := n0_
       have BK171 := n1_
       have HB := n2_
       have BK185 := n3_
       have GW185 := n4_
       have GE185 := n5_
       have NB170_185 := n6_
       have NB185_170 := n7_
       have NB171_185 := n8_
       have NB185_171 := n9_
       clear n0_ n1_ n2_ n3_ n4_ n5_ n6_ n7_ n8_ n9_
       clear hb hbox hg
       refine hK.out _ _ (c4 BK170 (c4e BK171)) (fun hHeld => ?_)
       clear hK K
       refine norm_ (a' := ?_) ?_ ?_
       rotate_left
       ·show Act.put _ (some 5) _ = _
        simp only [Act.put, List.setIfInBounds_toArray, List.set_cons_zero, List.set_cons_succ, i64_w, i32_w]
        rfl
       refine one_ (i := 4) (N := some 14) #[true, true, true, true, true, false, false, false, true, false, false] rfl rfl (one_of HT_.out (by kernel_rfl)) (by decide) (fun K hK => ?_)
       refine goesR Try.func25 (by kernel_rfl) rfl #[.agg #[.int .i64 t172, .int .i64 t173, .int .i64 t174, .int .i64 t175], .agg #[.int .i64 t176, .int .i64 t177, .int .i64 t178, .int .i64 t179]] (by rfl) rfl rfl ?_
       with_reducible refine (spec_Meet.calls k t172 t173 t174 t175 t176 t177 t178 t179 t180 t181 t182 t183 t184 _ A5.out).mono ?_
       rintro e w49 ⟨rfl, hb⟩
       refine ⟨_, rfl, ?_⟩
       have n0_ := nblk BK170 hb
       have n1_ := nblk BK171 hb
       have n2_ := nblk BK185 hb
       have n3_ := nbs HB hb
       clear BK170 BK171 BK185 HB
       have BK170 := n0_
       have BK171 := n1_
       have BK185 := n2_
       have HB := n3_
       clear n0_ n1_ n2_ n3_
       (try clear hb)
       refine hK.out _ _ (c4 BK170 (c4e BK171)) (fun hHeld => ?_)
       clear hK K
       refine norm_ (a' := ?_) ?_ ?_
       rotate_left
       ·show Act.put _ (some 14) _ = _
        simp only [Act.put, List.setIfInBounds_toArray, List.set_cons_zero, List.set_cons_succ, i64_w, i32_w]
        rfl
       refine pure_ (i := 5) (N := some 9) (v := ?_) (a' := ?_) #[true, true, true, true, true, true, false, false, true, false, false] rfl rfl (any_of HT_.out (by kernel_rfl)) (fun _ _ _ h => h) (Or.inl ⟨by rfl, ?_⟩) ?_ ?_
       rotate_left
       ·intro w'
        go_simp
        with_reducible rfl
       rotate_left
       ·simp only [Act.put, List.setIfInBounds_toArray, List.set_cons_zero, List.set_cons_succ, i64_w, i32_w]
        rfl
       refine pure_ (i := 6) (N := some 15) (v := ?_) (a' := ?_) #[true, true, true, true, true, true, true, false, true, false, false] rfl rfl (any_of HT_.out (by kernel_rfl)) (fun _ _ _ h => h) (Or.inl ⟨by rfl, ?_⟩) ?_ ?_
       rotate_left
       ·intro w'
        go_simp
        with_reducible rfl
       rotate_left
       ·simp only [Act.put, List.setIfInBounds_toArray, List.set_cons_zero, List.set_cons_succ, i64_w, i32_w]
        rfl
       refine pure_ (i := 7) (N := some 16) (v := ?_) (a' := ?_) #[true, true, true, true, true, true, true, true, true, false, false] rfl rfl (any_of HT_.out (by kernel_rfl)) (fun _ _ _ h => h) (Or.inl ⟨by rfl, ?_⟩) ?_ ?_
       rotate_left
       ·intro w'
        go_simp
        with_reducible rfl
       rotate_left
       ·simp only [Act.put, List.setIfInBounds_toArray, List.set_cons_zero, List.set_cons_succ, i64_w, i32_w]
        rfl
       exact norm_ (by simp only [putAll, Act.put, List.setIfInBounds_toArray, List.set_cons_zero, List.set_cons_succ]) (hCont (gb185) _ ⟨hHeld, (nb BK170), (nb BK171), (nb BK185), GW185.out, GE185.out, NB170_185.out, NB185_170.out, NB171_185.out, NB185_171.out, (by repeat (first | (with_reducible first | exact HB.out | apply below_alloc | apply pw_below_drewN | apply below_drew1 | refine below_set ?_ GE170.out | refine below_set ?_ GE171.out | refine below_set ?_ GE185.out) | exact HB.out))⟩)
     ·skip
      refine box_step ?hg (N := 5) ?hd (cs := #[.int .i64 0, .int .i64 0, .int .i64 0, .int .i64 0]) (t := 26) ?hr ?_; (case hd => rfl); (case hg => rfl); (case hr => first | (go_simp; done) | (go_simp; rfl))
      intro gb185 hg w47 hbox hb
      have n0_ := nblk BK170 hb
      have n1_ := nblk BK171 hb
      have n2_ := nbs HB hb
      have n3_ := Aside0.mk (hbox)
      have n4_ := nge HB hg
      have n5_ := nge HB hg
      have n6_ := nlt BK170 hg
      have n7_ := ngt BK170 hg
      have n8_ := nlt BK171 hg
      have n9_ := ngt BK171 hg
      clear BK170 BK171 HB
      have BK170 := n0_
      have BK171 := n1_
      have HB := n2_
      have BK185 := n3_
      have GW185 := n4_
      have GE185 := n5_
      have NB170_185 := n6_
      have NB185_170 := n7_
      have NB171_185 := n8_
      have NB185_171 := n9_
      clear n0_ n1_ n2_ n3_ n4_ n5_ n6_ n7_ n8_ n9_
      clear hb hbox hg
      refine hK.out _ _ (c4 BK170 (c4e BK171)) (fun hHeld => ?_)
      clear hK K
      refine norm_ (a' := ?_) ?_ ?_
      rotate_left
      ·show Act.put _ (some 5) _ = _
       simp only [Act.put, List.setIfInBounds_toArray, List.set_cons_zero, List.set_cons_succ, i64_w, i32_w]
       rfl
      refine one_ (i := 3) (N := some 13) #[true, true, true, true, false, false, false, false, true, false, false] rfl rfl (one_of HT_.out (by kernel_rfl)) (by decide) (fun K hK => ?_)
      refine goesR Try.func18 (by kernel_rfl) rfl #[.agg #[.int .i64 a1_0, .int .i64 a1_1, .int .i64 a1_2, .int .i64 a1_3]] (by rfl) rfl rfl ?_
      with_reducible refine (laws_toKey.calls a1_0 a1_1 a1_2 a1_3 t176 t177 t178 t179 _ A4.out).mono ?_
      rintro e w48 ⟨rfl, hb⟩
      refine ⟨_, rfl, ?_⟩
      have n0_ := nblk BK170 hb
      have n1_ := nblk BK171 hb
      have n2_ := nblk BK185 hb
      have n3_ := nbs HB hb
      clear BK170 BK171 BK185 HB
      have BK170 := n0_
      have BK171 := n1_
      have BK185 := n2_
      have HB := n3_
      clear n0_ n1_ n2_ n3_
      (try clear hb)
      refine hK.out _ _ (c4 BK170 (c4e BK171)) (fun hHeld => ?_)
      clear hK K
      refine norm_ (a' := ?_) ?_ ?_
      rotate_left
      ·show Act.put _ (some 13) _ = _
       simp only [Act.put, List.setIfInBounds_toArray, List.set_cons_zero, List.set_cons_succ, i64_w, i32_w]
       rfl
      refine one_ (i := 4) (N := some 14) #[true, true, true, true, true, false, false, false, true, false, false] rfl rfl (one_of HT_.out (by kernel_rfl)) (by decide) (fun K hK => ?_)
      refine goesR Try.func25 (by kernel_rfl) rfl #[.agg #[.int .i64 t172, .int .i64 t173, .int .i64 t174, .int .i64 t175], .agg #[.int .i64 t176, .int .i64 t177, .int .i64 t178, .int .i64 t179]] (by rfl) rfl rfl ?_
      with_reducible refine (spec_Meet.calls k t172 t173 t174 t175 t176 t177 t178 t179 t180 t181 t182 t183 t184 _ A5.out).mono ?_
      rintro e w49 ⟨rfl, hb⟩
      refine ⟨_, rfl, ?_⟩
      have n0_ := nblk BK170 hb
      have n1_ := nblk BK171 hb
      have n2_ := nblk BK185 hb
      have n3_ := nbs HB hb
      clear BK170 BK171 BK185 HB
      have BK170 := n0_
      have BK171 := n1_
      have BK185 := n2_
      have HB := n3_
      clear n0_ n1_ n2_ n3_
      (try clear hb)
      refine hK.out _ _ (c4 BK170 (c4e BK171)) (fun hHeld => ?_)
      clear hK K
      refine norm_ (a' := ?_) ?_ ?_
      rotate_left
      ·show Act.put _ (some 14) _ = _
       simp only [Act.put, List.setIfInBounds_toArray, List.set_cons_zero, List.set_cons_succ, i64_w, i32_w]
       rfl
      refine pure_ (i := 5) (N := some 9) (v := ?_) (a' := ?_) #[true, true, true, true, true, true, false, false, true, false, false] rfl rfl (any_of HT_.out (by kernel_rfl)) (fun _ _ _ h => h) (Or.inl ⟨by rfl, ?_⟩) ?_ ?_
      rotate_left
      ·intro w'
       go_simp
       with_reducible rfl
      rotate_left
      ·simp only [Act.put, List.setIfInBounds_toArray, List.set_cons_zero, List.set_cons_succ, i64_w, i32_w]
       rfl
      refine pure_ (i := 6) (N := some 15) (v := ?_) (a' := ?_) #[true, true, true, true, true, true, true, false, true, false, false] rfl rfl (any_of HT_.out (by kernel_rfl)) (fun _ _ _ h => h) (Or.inl ⟨by rfl, ?_⟩) ?_ ?_
      rotate_left
      ·intro w'
       go_simp
       with_reducible rfl
      rotate_left
      ·simp only [Act.put, List.setIfInBounds_toArray, List.set_cons_zero, List.set_cons_succ, i64_w, i32_w]
       rfl
      refine pure_ (i := 7) (N := some 16) (v := ?_) (a' := ?_) #[true, true, true, true, true, true, true, true, true, false, false] rfl rfl (any_of HT_.out (by kernel_rfl)) (fun _ _ _ h => h) (Or.inl ⟨by rfl, ?_⟩) ?_ ?_
      rotate_left
      ·intro w'
       go_simp
       with_reducible rfl
      rotate_left
      ·simp only [Act.put, List.setIfInBounds_toArray, List.set_cons_zero, List.set_cons_succ, i64_w, i32_w]
       rfl
      exact norm_ (by simp only [putAll, Act.put, List.setIfInBounds_toArray, List.set_cons_zero, List.set_cons_succ]) (hCont (gb185) _ ⟨hHeld, (nb BK170), (nb BK171), (nb BK185), GW185.out, GE185.out, NB170_185.out, NB185_170.out, NB171_185.out, NB185_171.out, (by repeat (first | (with_reducible first | exact HB.out | apply below_alloc | apply pw_below_drewN | apply below_drew1 | refine below_set ?_ GE170.out | refine below_set ?_ GE171.out | refine below_set ?_ GE185.out) | exact HB.out))⟩)
    ·skip
     refine box_step ?hg (N := 5) ?hd (cs := #[.int .i64 0, .int .i64 0, .int .i64 0, .int .i64 0]) (t := 26) ?hr ?_; (case hd => rfl); (case hg => rfl); (case hr => first | (go_simp; done) | (go_simp; rfl))
     intro gb185 hg w46 hbox hb
     have n0_ := nblk BK170 hb
     have n1_ := nblk BK171 hb
     have n2_ := nbs HB hb
     have n3_ := Aside0.mk (hbox)
     have n4_ := nge HB hg
     have n5_ := nge HB hg
     have n6_ := nlt BK170 hg
     have n7_ := ngt BK170 hg
     have n8_ := nlt BK171 hg
     have n9_ := ngt BK171 hg
     clear BK170 BK171 HB
     have BK170 := n0_
     have BK171 := n1_
     have HB := n2_
     have BK185 := n3_
     have GW185 := n4_
     have GE185 := n5_
     have NB170_185 := n6_
     have NB185_170 := n7_
     have NB171_185 := n8_
     have NB185_171 := n9_
     clear n0_ n1_ n2_ n3_ n4_ n5_ n6_ n7_ n8_ n9_
     clear hb hbox hg
     refine hK.out _ _ (c4 BK170 (c4e BK171)) (fun hHeld => ?_)
     clear hK K
     refine norm_ (a' := ?_) ?_ ?_
     rotate_left
     ·show Act.put _ (some 5) _ = _
      simp only [Act.put, List.setIfInBounds_toArray, List.set_cons_zero, List.set_cons_succ, i64_w, i32_w]
      rfl
     refine one_ (i := 1) (N := some 11) #[true, true, true, false, false, false, false, false, true, false, false] rfl rfl (one_of HT_.out (by kernel_rfl)) (by decide) (fun K hK => ?_)
     refine goesR Try.func18 (by kernel_rfl) rfl #[.agg #[.int .i64 a0_0, .int .i64 a0_1, .int .i64 a0_2, .int .i64 a0_3]] (by rfl) rfl rfl ?_
     with_reducible refine (laws_toKey.calls a0_0 a0_1 a0_2 a0_3 t172 t173 t174 t175 _ A3.out).mono ?_
     rintro e w47 ⟨rfl, hb⟩
     refine ⟨_, rfl, ?_⟩
     have n0_ := nblk BK170 hb
     have n1_ := nblk BK171 hb
     have n2_ := nblk BK185 hb
     have n3_ := nbs HB hb
     clear BK170 BK171 BK185 HB
     have BK170 := n0_
     have BK171 := n1_
     have BK185 := n2_
     have HB := n3_
     clear n0_ n1_ n2_ n3_
     (try clear hb)
     refine hK.out _ _ (c4 BK170 (c4e BK171)) (fun hHeld => ?_)
     clear hK K
     refine norm_ (a' := ?_) ?_ ?_
     rotate_left
     ·show Act.put _ (some 11) _ = _
      simp only [Act.put, List.setIfInBounds_toArray, List.set_cons_zero, List.set_cons_succ, i64_w, i32_w]
      rfl
     refine one_ (i := 3) (N := some 13) #[true, true, true, true, false, false, false, false, true, false, false] rfl rfl (one_of HT_.out (by kernel_rfl)) (by decide) (fun K hK => ?_)
     refine goesR Try.func18 (by kernel_rfl) rfl #[.agg #[.int .i64 a1_0, .int .i64 a1_1, .int .i64 a1_2, .int .i64 a1_3]] (by rfl) rfl rfl ?_
     with_reducible refine (laws_toKey.calls a1_0 a1_1 a1_2 a1_3 t176 t177 t178 t179 _ A4.out).mono ?_
     rintro e w48 ⟨rfl, hb⟩
     refine ⟨_, rfl, ?_⟩
     have n0_ := nblk BK170 hb
     have n1_ := nblk BK171 hb
     have n2_ := nblk BK185 hb
     have n3_ := nbs HB hb
     clear BK170 BK171 BK185 HB
     have BK170 := n0_
     have BK171 := n1_
     have BK185 := n2_
     have HB := n3_
     clear n0_ n1_ n2_ n3_
     (try clear hb)
     refine hK.out _ _ (c4 BK170 (c4e BK171)) (fun hHeld => ?_)
     clear hK K
     refine norm_ (a' := ?_) ?_ ?_
     rotate_left
     ·show Act.put _ (some 13) _ = _
      simp only [Act.put, List.setIfInBounds_toArray, List.set_cons_zero, List.set_cons_succ, i64_w, i32_w]
      rfl
     refine one_ (i := 4) (N := some 14) #[true, true, true, true, true, false, false, false, true, false, false] rfl rfl (one_of HT_.out (by kernel_rfl)) (by decide) (fun K hK => ?_)
     refine goesR Try.func25 (by kernel_rfl) rfl #[.agg #[.int .i64 t172, .int .i64 t173, .int .i64 t174, .int .i64 t175], .agg #[.int .i64 t176, .int .i64 t177, .int .i64 t178, .int .i64 t179]] (by rfl) rfl rfl ?_
     with_reducible refine (spec_Meet.calls k t172 t173 t174 t175 t176 t177 t178 t179 t180 t181 t182 t183 t184 _ A5.out).mono ?_
     rintro e w49 ⟨rfl, hb⟩
     refine ⟨_, rfl, ?_⟩
     have n0_ := nblk BK170 hb
     have n1_ := nblk BK171 hb
     have n2_ := nblk BK185 hb
     have n3_ := nbs HB hb
     clear BK170 BK171 BK185 HB
     have BK170 := n0_
     have BK171 := n1_
     have BK185 := n2_
     have HB := n3_
     clear n0_ n1_ n2_ n3_
     (try clear hb)
     refine hK.out _ _ (c4 BK170 (c4e BK171)) (fun hHeld => ?_)
     clear hK K
     refine norm_ (a' := ?_) ?_ ?_
     rotate_left
     ·show Act.put _ (some 14) _ = _
      simp only [Act.put, List.setIfInBounds_toArray, List.set_cons_zero, List.set_cons_succ, i64_w, i32_w]
      rfl
     refine pure_ (i := 5) (N := some 9) (v := ?_) (a' := ?_) #[true, true, true, true, true, true, false, false, true, false, false] rfl rfl (any_of HT_.out (by kernel_rfl)) (fun _ _ _ h => h) (Or.inl ⟨by rfl, ?_⟩) ?_ ?_
     rotate_left
     ·intro w'
      go_simp
      with_reducible rfl
     rotate_left
     ·simp only [Act.put, List.setIfInBounds_toArray, List.set_cons_zero, List.set_cons_succ, i64_w, i32_w]
      rfl
     refine pure_ (i := 6) (N := some 15) (v := ?_) (a' := ?_) #[true, true, true, true, true, true, true, false, true, false, false] rfl rfl (any_of HT_.out (by kernel_rfl)) (fun _ _ _ h => h) (Or.inl ⟨by rfl, ?_⟩) ?_ ?_
     rotate_left
     ·intro w'
      go_simp
      with_reducible rfl
     rotate_left
     ·simp only [Act.put, List.setIfInBounds_toArray, List.set_cons_zero, List.set_cons_succ, i64_w, i32_w]
      rfl
     refine pure_ (i := 7) (N := some 16) (v := ?_) (a' := ?_) #[true, true, true, true, true, true, true, true, true, false, false] rfl rfl (any_of HT_.out (by kernel_rfl)) (fun _ _ _ h => h) (Or.inl ⟨by rfl, ?_⟩) ?_ ?_
     rotate_left
     ·intro w'
      go_simp
      with_reducible rfl
     rotate_left
     ·simp only [Act.put, List.setIfInBounds_toArray, List.set_cons_zero, List.set_cons_succ, i64_w, i32_w]
      rfl
     exact norm_ (by simp only [putAll, Act.put, List.setIfInBounds_toArray, List.set_cons_zero, List.set_cons_succ]) (hCont (gb185) _ ⟨hHeld, (nb BK170), (nb BK171), (nb BK185), GW185.out, GE185.out, NB170_185.out, NB185_170.out, NB171_185.out, NB185_171.out, (by repeat (first | (with_reducible first | exact HB.out | apply below_alloc | apply pw_below_drewN | apply below_drew1 | refine below_set ?_ GE170.out | refine below_set ?_ GE171.out | refine below_set ?_ GE185.out) | exact HB.out))⟩)
   rintro gb185 w50 ⟨hS_, h0_, h1_, h2_, h3_, h4_, h5_, h6_, h7_, h8_, h9_⟩
   have n0_ : Aside0 (w50.heap[gb170]? = some (.cells #[.int .i64 a0_0, .int .i64 a0_1, .int .i64 a0_2, .int .i64 a0_3] 24 (0, 0))) := ⟨h0_⟩
   have n1_ : Aside0 (w50.heap[gb171]? = some (.cells #[.int .i64 a1_0, .int .i64 a1_1, .int .i64 a1_2, .int .i64 a1_3] 24 (0, 0))) := ⟨h1_⟩
   have n2_ : Aside0 (w50.heap[gb185]? = some (.cells #[.int .i64 0, .int .i64 0, .int .i64 0, .int .i64 0] 26 (0, 0))) := ⟨h2_⟩
   have n3_ : Aside0 (w.heap.size ≤ gb185) := ⟨h3_⟩
   have n4_ : Aside0 (w.heap.size ≤ gb185) := ⟨h4_⟩
   have n5_ : Aside0 (gb170 ≠ gb185) := ⟨h5_⟩
   have n6_ : Aside0 (gb185 ≠ gb170) := ⟨h6_⟩
   have n7_ : Aside0 (gb171 ≠ gb185) := ⟨h7_⟩
   have n8_ : Aside0 (gb185 ≠ gb171) := ⟨h8_⟩
   have n9_ : Aside0 (Below w.heap.size w w50) := ⟨h9_⟩
   clear BK170 BK171 HB
   clear h0_ h1_ h2_ h3_ h4_ h5_ h6_ h7_ h8_ h9_
   have BK170 := n0_
   have BK171 := n1_
   have BK185 := n2_
   have GW185 := n3_
   have GE185 := n4_
   have NB170_185 := n5_
   have NB185_170 := n6_
   have NB171_185 := n7_
   have NB185_171 := n8_
   have HB := n9_
   clear n0_ n1_ n2_ n3_ n4_ n5_ n6_ n7_ n8_ n9_
   have hHeld : w50.cell? ⟨gb170, 0, none⟩ = some (.int .i64 a0_0) ∧ w50.cell? ⟨gb170, 1, none⟩ = some (.int .i64 a0_1) ∧ w50.cell? ⟨gb170, 2, none⟩ = some (.int .i64 a0_2) ∧ w50.cell? ⟨gb170, 3, none⟩ = some (.int .i64 a0_3) ∧ w50.cell? ⟨gb171, 0, none⟩ = some (.int .i64 a1_0) ∧ w50.cell? ⟨gb171, 1, none⟩ = some (.int .i64 a1_1) ∧ w50.cell? ⟨gb171, 2, none⟩ = some (.int .i64 a1_2) ∧ w50.cell? ⟨gb171, 3, none⟩ = some (.int .i64 a1_3) := hS_
   refine norm_ (a' := ?_) ?_ ?_
   rotate_left
   ·simp only [putAll, Act.put, List.setIfInBounds_toArray, List.set_cons_zero, List.set_cons_succ]
    rfl
   refine one_ (i := 9) (N := none) #[true, true, true, true, true, true, true, true, true, true, false] rfl rfl (one_of HT_.out (by kernel_rfl)) (by decide) (fun K hK => ?_)
   have hs51 : w50.cell? ⟨gb185, 0, none⟩ = some (.int .i64 0) := (blk_cell BK185.out 0).trans rfl
   have hfs51 := blk_frozen BK185.out 0
   have hns51_0 := NB170_185.out
   have hns51_1 := NB171_185.out
   have hms51_0 := NB185_170.out
   have hms51_1 := NB185_171.out
   have hs52 : w50.cell? ⟨gb185, 1, none⟩ = some (.int .i64 0) := (blk_cell BK185.out 1).trans rfl
   have hfs52 := blk_frozen BK185.out 1
   have hns52_0 := NB170_185.out
   have hns52_1 := NB171_185.out
   have hms52_0 := NB185_170.out
   have hms52_1 := NB185_171.out
   have hs53 : w50.cell? ⟨gb185, 2, none⟩ = some (.int .i64 0) := (blk_cell BK185.out 2).trans rfl
   have hfs53 := blk_frozen BK185.out 2
   have hns53_0 := NB170_185.out
   have hns53_1 := NB171_185.out
   have hms53_0 := NB185_170.out
   have hms53_1 := NB185_171.out
   have hs54 : w50.cell? ⟨gb185, 3, none⟩ = some (.int .i64 0) := (blk_cell BK185.out 3).trans rfl
   have hfs54 := blk_frozen BK185.out 3
   have hns54_0 := NB170_185.out
   have hns54_1 := NB171_185.out
   have hms54_0 := NB185_170.out
   have hms54_1 := NB185_171.out
   refine skip_ (w1 := ?_) (by rfl) rfl ?_ ?_
   rotate_left
   ·go_simp
    rfl
   refine hK.out _ _ ⟨(g4 NB170_185.out hHeld.1), (g4 NB170_185.out hHeld.2.1), (g4 NB170_185.out hHeld.2.2.1), (g4 NB170_185.out hHeld.2.2.2.1), (g4 NB171_185.out hHeld.2.2.2.2.1), (g4 NB171_185.out hHeld.2.2.2.2.2.1), (g4 NB171_185.out hHeld.2.2.2.2.2.2.1), (g4 NB171_185.out hHeld.2.2.2.2.2.2.2)⟩ (fun hHeld => ?_)
   clear hK K
   refine pure_ (i := 10) (N := some 6) (v := ?_) (a' := ?_) #[true, true, true, true, true, true, true, true, true, true, true] rfl rfl (any_of HT_.out (by kernel_rfl)) (fun _ _ _ h => h) (Or.inl ⟨by rfl, ?_⟩) ?_ ?_
   rotate_left
   ·intro w'
    go_simp
    with_reducible rfl
   rotate_left
   ·simp only [Act.put, List.setIfInBounds_toArray, List.set_cons_zero, List.set_cons_succ, i64_w, i32_w]
    rfl
   refine done_ (done_of HT_.out (by kernel_rfl)) ?_
   try go_wp2
   have n0_ : Aside0 (((((w50.setCell ⟨gb185, 0, none⟩ (.int .i64 t180)).setCell ⟨gb185, 1, none⟩ (.int .i64 t181)).setCell ⟨gb185, 2, none⟩ (.int .i64 t182)).setCell ⟨gb185, 3, none⟩ (.int .i64 t183)).heap[gb170]? = some (.cells #[.int .i64 a0_0, .int .i64 a0_1, .int .i64 a0_2, .int .i64 a0_3] 24 (0, 0))) := ⟨by (with_reducible repeat (first | refine blk_drewN ?_ _ | refine blk_drew ?_ | refine blk_alloc ?_ _)); refine blk_far ?_ NB170_185.out _; (with_reducible repeat (first | refine blk_drewN ?_ _ | refine blk_drew ?_ | refine blk_alloc ?_ _)); refine blk_far ?_ NB170_185.out _; (with_reducible repeat (first | refine blk_drewN ?_ _ | refine blk_drew ?_ | refine blk_alloc ?_ _)); refine blk_far ?_ NB170_185.out _; (with_reducible repeat (first | refine blk_drewN ?_ _ | refine blk_drew ?_ | refine blk_alloc ?_ _)); refine blk_far ?_ NB170_185.out _; (with_reducible repeat (first | refine blk_drewN ?_ _ | refine blk_drew ?_ | refine blk_alloc ?_ _)); exact BK170.out⟩
   have n1_ : Aside0 (((((w50.setCell ⟨gb185, 0, none⟩ (.int .i64 t180)).setCell ⟨gb185, 1, none⟩ (.int .i64 t181)).setCell ⟨gb185, 2, none⟩ (.int .i64 t182)).setCell ⟨gb185, 3, none⟩ (.int .i64 t183)).heap[gb171]? = some (.cells #[.int .i64 a1_0, .int .i64 a1_1, .int .i64 a1_2, .int .i64 a1_3] 24 (0, 0))) := ⟨by (with_reducible repeat (first | refine blk_drewN ?_ _ | refine blk_drew ?_ | refine blk_alloc ?_ _)); refine blk_far ?_ NB171_185.out _; (with_reducible repeat (first | refine blk_drewN ?_ _ | refine blk_drew ?_ | refine blk_alloc ?_ _)); refine blk_far ?_ NB171_185.out _; (with_reducible repeat (first | refine blk_drewN ?_ _ | refine blk_drew ?_ | refine blk_alloc ?_ _)); refine blk_far ?_ NB171_185.out _; (with_reducible repeat (first | refine blk_drewN ?_ _ | refine blk_drew ?_ | refine blk_alloc ?_ _)); refine blk_far ?_ NB171_185.out _; (with_reducible repeat (first | refine blk_drewN ?_ _ | refine blk_drew ?_ | refine blk_alloc ?_ _)); exact BK171.out⟩
   have n2_ : Aside0 (((((w50.setCell ⟨gb185, 0, none⟩ (.int .i64 t180)).setCell ⟨gb185, 1, none⟩ (.int .i64 t181)).setCell ⟨gb185, 2, none⟩ (.int .i64 t182)).setCell ⟨gb185, 3, none⟩ (.int .i64 t183)).heap[gb185]? = some (.cells #[.int .i64 t180, .int .i64 t181, .int .i64 t182, .int .i64 t183] 26 (0, 0))) := ⟨by (with_reducible repeat (first | refine blk_drewN ?_ _ | refine blk_drew ?_ | refine blk_alloc ?_ _)); refine blk_put (cs := #[.int .i64 t180, .int .i64 t181, .int .i64 t182, .int .i64 0]) ?_ 3 _ rfl; (with_reducible repeat (first | refine blk_drewN ?_ _ | refine blk_drew ?_ | refine blk_alloc ?_ _)); refine blk_put (cs := #[.int .i64 t180, .int .i64 t181, .int .i64 0, .int .i64 0]) ?_ 2 _ rfl; (with_reducible repeat (first | refine blk_drewN ?_ _ | refine blk_drew ?_ | refine blk_alloc ?_ _)); refine blk_put (cs := #[.int .i64 t180, .int .i64 0, .int .i64 0, .int .i64 0]) ?_ 1 _ rfl; (with_reducible repeat (first | refine blk_drewN ?_ _ | refine blk_drew ?_ | refine blk_alloc ?_ _)); refine blk_put (cs := #[.int .i64 0, .int .i64 0, .int .i64 0, .int .i64 0]) ?_ 0 _ rfl; (with_reducible repeat (first | refine blk_drewN ?_ _ | refine blk_drew ?_ | refine blk_alloc ?_ _)); exact BK185.out⟩
   have n3_ : Aside0 (Below w.heap.size w ((((w50.setCell ⟨gb185, 0, none⟩ (.int .i64 t180)).setCell ⟨gb185, 1, none⟩ (.int .i64 t181)).setCell ⟨gb185, 2, none⟩ (.int .i64 t182)).setCell ⟨gb185, 3, none⟩ (.int .i64 t183))) := ⟨by repeat (first | (with_reducible first | exact HB.out | apply below_alloc | apply pw_below_drewN | apply below_drew1 | refine below_set ?_ GE170.out | refine below_set ?_ GE171.out | refine below_set ?_ GE185.out) | exact HB.out)⟩
   (try clear BK170)
   (try clear BK171)
   (try clear BK185)
   (try clear HB)
   generalize ((((w50.setCell ⟨gb185, 0, none⟩ (.int .i64 t180)).setCell ⟨gb185, 1, none⟩ (.int .i64 t181)).setCell ⟨gb185, 2, none⟩ (.int .i64 t182)).setCell ⟨gb185, 3, none⟩ (.int .i64 t183)) = w55 at n0_ n1_ n2_ n3_ ⊢
   have BK170 := n0_
   have BK171 := n1_
   have BK185 := n2_
   have HB := n3_
   clear n0_ n1_ n2_ n3_
   have n0_ := Aside0.mk (blk_drew BK170.out)
   have n1_ := Aside0.mk (blk_drew BK171.out)
   have n2_ := Aside0.mk (blk_drew BK185.out)
   have n3_ := Aside0.mk (below_drew1 HB.out)
   clear BK170 BK171 BK185 HB
   have BK170 := n0_
   have BK171 := n1_
   have BK185 := n2_
   have HB := n3_
   clear n0_ n1_ n2_ n3_
   refine start_ (n := 11) (S := fun w' => w'.cell? ⟨gb170, 0, none⟩ = some (.int .i64 a0_0) ∧ w'.cell? ⟨gb170, 1, none⟩ = some (.int .i64 a0_1) ∧ w'.cell? ⟨gb170, 2, none⟩ = some (.int .i64 a0_2) ∧ w'.cell? ⟨gb170, 3, none⟩ = some (.int .i64 a0_3) ∧ w'.cell? ⟨gb171, 0, none⟩ = some (.int .i64 a1_0) ∧ w'.cell? ⟨gb171, 1, none⟩ = some (.int .i64 a1_1) ∧ w'.cell? ⟨gb171, 2, none⟩ = some (.int .i64 a1_2) ∧ w'.cell? ⟨gb171, 3, none⟩ = some (.int .i64 a1_3)) (ds := []) #[false, false, false, false, false, false, false, false, false, false, false] (by kernel_rfl) rfl rfl (c4 BK170 (c4e BK171)) (fun hHeld => ?_); refine with_tabW laws_FnExactMeet.tab2 laws_FnExactMeet.bits2 (fun HT_ HW_ => ?_)
   generalize w55.drew = w56 at BK170 BK171 BK185 HB hHeld ⊢
   refine take_ (i := 0) (N := some 18) (v := ?_) (a' := ?_) #[true, false, false, false, false, false, false, false, false, false, false] rfl rfl (take_ofW HT_.out HW_.out (by kernel_rfl)) (fun _ _ _ h => h) (Or.inl ⟨by rfl, ?_⟩) hHeld ?_ ?_
   rotate_left
   ·rintro w' ⟨s0, s1, s2, s3, s4, s5, s6, s7⟩
    go_simp
    with_reducible rfl
   rotate_left
   ·simp only [Act.put, List.setIfInBounds_toArray, List.set_cons_zero, List.set_cons_succ, i64_w, i32_w]
    rfl
   refine take_ (i := 2) (N := some 20) (v := ?_) (a' := ?_) #[true, false, true, false, false, false, false, false, false, false, false] rfl rfl (take_ofW HT_.out HW_.out (by kernel_rfl)) (fun _ _ _ h => h) (Or.inl ⟨by rfl, ?_⟩) hHeld ?_ ?_
   rotate_left
   ·rintro w' ⟨s0, s1, s2, s3, s4, s5, s6, s7⟩
    go_simp
    with_reducible rfl
   rotate_left
   ·simp only [Act.put, List.setIfInBounds_toArray, List.set_cons_zero, List.set_cons_succ, i64_w, i32_w]
    rfl
   refine join_ (σ := Nat) 2 #[true, true, true, true, true, true, true, true, true, false, false] (fun s_ => [(19, .agg #[.int .i64 t186, .int .i64 t187, .int .i64 t188, .int .i64 t189]), (21, .agg #[.int .i64 t190, .int .i64 t191, .int .i64 t192, .int .i64 t193]), (22, .tuple #[.agg #[.int .i64 t194, .int .i64 t195, .int .i64 t196, .int .i64 t197], .bool t198]), (7, .pointer (some ⟨s_, 0, none⟩)), (17, .tuple #[.agg #[.int .i64 t194, .int .i64 t195, .int .i64 t196, .int .i64 t197], .bool t198]), (23, .agg #[.int .i64 t194, .int .i64 t195, .int .i64 t196, .int .i64 t197]), (24, .bool t198)]) (fun s_ w' => (w'.cell? ⟨gb170, 0, none⟩ = some (.int .i64 a0_0) ∧ w'.cell? ⟨gb170, 1, none⟩ = some (.int .i64 a0_1) ∧ w'.cell? ⟨gb170, 2, none⟩ = some (.int .i64 a0_2) ∧ w'.cell? ⟨gb170, 3, none⟩ = some (.int .i64 a0_3) ∧ w'.cell? ⟨gb171, 0, none⟩ = some (.int .i64 a1_0) ∧ w'.cell? ⟨gb171, 1, none⟩ = some (.int .i64 a1_1) ∧ w'.cell? ⟨gb171, 2, none⟩ = some (.int .i64 a1_2) ∧ w'.cell? ⟨gb171, 3, none⟩ = some (.int .i64 a1_3)) ∧ (w'.heap[gb170]? = some (.cells #[.int .i64 a0_0, .int .i64 a0_1, .int .i64 a0_2, .int .i64 a0_3] 24 (0, 0))) ∧ (w'.heap[gb171]? = some (.cells #[.int .i64 a1_0, .int .i64 a1_1, .int .i64 a1_2, .int .i64 a1_3] 24 (0, 0))) ∧ (w'.heap[gb185]? = some (.cells #[.int .i64 t180, .int .i64 t181, .int .i64 t182, .int .i64 t183] 26 (0, 0))) ∧ (w'.heap[s_]? = some (.cells #[.int .i64 0, .int .i64 0, .int .i64 0, .int .i64 0] 26 (0, 0))) ∧ (w.heap.size ≤ s_) ∧ (w.heap.size ≤ s_) ∧ (gb170 ≠ s_) ∧ (s_ ≠ gb170) ∧ (gb171 ≠ s_) ∧ (s_ ≠ gb171) ∧ (gb185 ≠ s_) ∧ (s_ ≠ gb185) ∧ (Below w.heap.size w w')) ?_ ?_
   rotate_left
   ·intro hCont
    refine two_ (i := 1) (j := 8) (Ni := some 19) (Nj := some 7) #[true, true, true, false, false, false, false, false, false, false, false] #[true, false, true, false, false, false, false, false, true, false, false] rfl rfl rfl rfl (two_of HT_.out (by kernel_rfl)) (by decide) (by decide) (fun K hK => ?_) (fun K hK => ?_)
    ·skip
     refine goesR Try.func18 (by kernel_rfl) rfl #[.agg #[.int .i64 a0_0, .int .i64 a0_1, .int .i64 a0_2, .int .i64 a0_3]] (by rfl) rfl rfl ?_
     with_reducible refine (laws_toKey.calls a0_0 a0_1 a0_2 a0_3 t186 t187 t188 t189 _ A6.out).mono ?_
     rintro e w57 ⟨rfl, hb⟩
     refine ⟨_, rfl, ?_⟩
     have n0_ := nblk BK170 hb
     have n1_ := nblk BK171 hb
     have n2_ := nblk BK185 hb
     have n3_ := nbs HB hb
     clear BK170 BK171 BK185 HB
     have BK170 := n0_
     have BK171 := n1_
     have BK185 := n2_
     have HB := n3_
     clear n0_ n1_ n2_ n3_
     (try clear hb)
     refine hK.out _ _ (c4 BK170 (c4e BK171)) (fun hHeld => ?_)
     clear hK K
     refine norm_ (a' := ?_) ?_ ?_
     rotate_left
     ·show Act.put _ (some 19) _ = _
      simp only [Act.put, List.setIfInBounds_toArray, List.set_cons_zero, List.set_cons_succ, i64_w, i32_w]
      rfl
     refine two_ (i := 3) (j := 8) (Ni := some 21) (Nj := some 7) #[true, true, true, true, false, false, false, false, false, false, false] #[true, true, true, false, false, false, false, false, true, false, false] rfl rfl rfl rfl (two_of HT_.out (by kernel_rfl)) (by decide) (by decide) (fun K hK => ?_) (fun K hK => ?_)
     ·skip
      refine goesR Try.func18 (by kernel_rfl) rfl #[.agg #[.int .i64 a1_0, .int .i64 a1_1, .int .i64 a1_2, .int .i64 a1_3]] (by rfl) rfl rfl ?_
      with_reducible refine (laws_toKey.calls a1_0 a1_1 a1_2 a1_3 t190 t191 t192 t193 _ A7.out).mono ?_
      rintro e w58 ⟨rfl, hb⟩
      refine ⟨_, rfl, ?_⟩
      have n0_ := nblk BK170 hb
      have n1_ := nblk BK171 hb
      have n2_ := nblk BK185 hb
      have n3_ := nbs HB hb
      clear BK170 BK171 BK185 HB
      have BK170 := n0_
      have BK171 := n1_
      have BK185 := n2_
      have HB := n3_
      clear n0_ n1_ n2_ n3_
      (try clear hb)
      refine hK.out _ _ (c4 BK170 (c4e BK171)) (fun hHeld => ?_)
      clear hK K
      refine norm_ (a' := ?_) ?_ ?_
      rotate_left
      ·show Act.put _ (some 21) _ = _
       simp only [Act.put, List.setIfInBounds_toArray, List.set_cons_zero, List.set_cons_succ, i64_w, i32_w]
       rfl
      refine two_ (i := 4) (j := 8) (Ni := some 22) (Nj := some 7) #[true, true, true, true, true, false, false, false, false, false, false] #[true, true, true, true, false, false, false, false, true, false, false] rfl rfl rfl rfl (two_of HT_.out (by kernel_rfl)) (by decide) (by decide) (fun K hK => ?_) (fun K hK => ?_)
      ·skip
       refine goesR Try.func26 (by kernel_rfl) rfl #[.agg #[.int .i64 t186, .int .i64 t187, .int .i64 t188, .int .i64 t189], .agg #[.int .i64 t190, .int .i64 t191, .int .i64 t192, .int .i64 t193]] (by rfl) rfl rfl ?_
       with_reducible refine (impl_Meet.calls k t186 t187 t188 t189 t190 t191 t192 t193 t194 t195 t196 t197 t198 _ A8.out).mono ?_
       rintro e w59 ⟨rfl, hb⟩
       refine ⟨_, rfl, ?_⟩
       have n0_ := nblk BK170 hb
       have n1_ := nblk BK171 hb
       have n2_ := nblk BK185 hb
       have n3_ := nbs HB hb
       clear BK170 BK171 BK185 HB
       have BK170 := n0_
       have BK171 := n1_
       have BK185 := n2_
       have HB := n3_
       clear n0_ n1_ n2_ n3_
       (try clear hb)
       refine hK.out _ _ (c4 BK170 (c4e BK171)) (fun hHeld => ?_)
       clear hK K
       refine norm_ (a' := ?_) ?_ ?_
       rotate_left
       ·show Act.put _ (some 22) _ = _
        simp only [Act.put, List.setIfInBounds_toArray, List.set_cons_zero, List.set_cons_succ, i64_w, i32_w]
        rfl
       refine pure_ (i := 5) (N := some 17) (v := ?_) (a' := ?_) #[true, true, true, true, true, true, false, false, false, false, false] rfl rfl (any_of HT_.out (by kernel_rfl)) (fun _ _ _ h => h) (Or.inl ⟨by rfl, ?_⟩) ?_ ?_
       rotate_left
       ·intro w'
        go_simp
        with_reducible rfl
       rotate_left
       ·simp only [Act.put, List.setIfInBounds_toArray, List.set_cons_zero, List.set_cons_succ, i64_w, i32_w]
        rfl
       refine pure_ (i := 6) (N := some 23) (v := ?_) (a' := ?_) #[true, true, true, true, true, true, true, false, false, false, false] rfl rfl (any_of HT_.out (by kernel_rfl)) (fun _ _ _ h => h) (Or.inl ⟨by rfl, ?_⟩) ?_ ?_
       rotate_left
       ·intro w'
        go_simp
        with_reducible rfl
       rotate_left
       ·simp only [Act.put, List.setIfInBounds_toArray, List.set_cons_zero, List.set_cons_succ, i64_w, i32_w]
        rfl
       refine pure_ (i := 7) (N := some 24) (v := ?_) (a' := ?_) #[true, true, true, true, true, true, true, true, false, false, false] rfl rfl (any_of HT_.out (by kernel_rfl)) (fun _ _ _ h => h) (Or.inl ⟨by rfl, ?_⟩) ?_ ?_
       rotate_left
       ·intro w'
        go_simp
        with_reducible rfl
       rotate_left
       ·simp only [Act.put, List.setIfInBounds_toArray, List.set_cons_zero, List.set_cons_succ, i64_w, i32_w]
        rfl
       refine one_ (i := 8) (N := some 7) #[true, true, true, true, true, true, true, true, true, false, false] rfl rfl (one_of HT_.out (by kernel_rfl)) (by decide) (fun K hK => ?_)
       refine box_step ?hg (N := 7) ?hd (cs := #[.int .i64 0, .int .i64 0, .int .i64 0, .int .i64 0]) (t := 26) ?hr ?_; (case hd => rfl); (case hg => rfl); (case hr => first | (go_simp; done) | (go_simp; rfl))
       intro gb199 hg w60 hbox hb
       have n0_ := nblk BK170 hb
       have n1_ := nblk BK171 hb
       have n2_ := nblk BK185 hb
       have n3_ := nbs HB hb
       have n4_ := Aside0.mk (hbox)
       have n5_ := nge HB hg
       have n6_ := nge HB hg
       have n7_ := nlt BK170 hg
       have n8_ := ngt BK170 hg
       have n9_ := nlt BK171 hg
       have n10_ := ngt BK171 hg
       have n11_ := nlt BK185 hg
       have n12_ := ngt BK185 hg
       clear BK170 BK171 BK185 HB
       have BK170 := n0_
       have BK171 := n1_
       have BK185 := n2_
       have HB := n3_
       have BK199 := n4_
       have GW199 := n5_
       have GE199 := n6_
       have NB170_199 := n7_
       have NB199_170 := n8_
       have NB171_199 := n9_
       have NB199_171 := n10_
       have NB185_199 := n11_
       have NB199_185 := n12_
       clear n0_ n1_ n2_ n3_ n4_ n5_ n6_ n7_ n8_ n9_ n10_ n11_ n12_
       clear hb hbox hg
       refine hK.out _ _ (c4 BK170 (c4e BK171)) (fun hHeld => ?_)
       clear hK K
       refine norm_ (a' := ?_) ?_ ?_
       rotate_left
       ·show Act.put _ (some 7) _ = _
        simp only [Act.put, List.setIfInBounds_toArray, List.set_cons_zero, List.set_cons_succ, i64_w, i32_w]
        rfl
       exact norm_ (by simp only [putAll, Act.put, List.setIfInBounds_toArray, List.set_cons_zero, List.set_cons_succ]) (hCont (gb199) _ ⟨hHeld, (nb BK170), (nb BK171), (nb BK185), (nb BK199), GW199.out, GE199.out, NB170_199.out, NB199_170.out, NB171_199.out, NB199_171.out, NB185_199.out, NB199_185.out, (by repeat (first | (with_reducible first | exact HB.out | apply below_alloc | apply pw_below_drewN | apply below_drew1 | refine below_set ?_ GE170.out | refine below_set ?_ GE171.out | refine below_set ?_ GE185.out | refine below_set ?_ GE199.out) | exact HB.out))⟩)
      ·skip
       refine box_step ?hg (N := 7) ?hd (cs := #[.int .i64 0, .int .i64 0, .int .i64 0, .int .i64 0]) (t := 26) ?hr ?_; (case hd => rfl); (case hg => rfl); (case hr => first | (go_simp; done) | (go_simp; rfl))
       intro gb199 hg w59 hbox hb
       have n0_ := nblk BK170 hb
       have n1_ := nblk BK171 hb
       have n2_ := nblk BK185 hb
       have n3_ := nbs HB hb
       have n4_ := Aside0.mk (hbox)
       have n5_ := nge HB hg
       have n6_ := nge HB hg
       have n7_ := nlt BK170 hg
       have n8_ := ngt BK170 hg
       have n9_ := nlt BK171 hg
       have n10_ := ngt BK171 hg
       have n11_ := nlt BK185 hg
       have n12_ := ngt BK185 hg
       clear BK170 BK171 BK185 HB
       have BK170 := n0_
       have BK171 := n1_
       have BK185 := n2_
       have HB := n3_
       have BK199 := n4_
       have GW199 := n5_
       have GE199 := n6_
       have NB170_199 := n7_
       have NB199_170 := n8_
       have NB171_199 := n9_
       have NB199_171 := n10_
       have NB185_199 := n11_
       have NB199_185 := n12_
       clear n0_ n1_ n2_ n3_ n4_ n5_ n6_ n7_ n8_ n9_ n10_ n11_ n12_
       clear hb hbox hg
       refine hK.out _ _ (c4 BK170 (c4e BK171)) (fun hHeld => ?_)
       clear hK K
       refine norm_ (a' := ?_) ?_ ?_
       rotate_left
       ·show Act.put _ (some 7) _ = _
        simp only [Act.put, List.setIfInBounds_toArray, List.set_cons_zero, List.set_cons_succ, i64_w, i32_w]
        rfl
       refine one_ (i := 4) (N := some 22) #[true, true, true, true, true, false, false, false, true, false, false] rfl rfl (one_of HT_.out (by kernel_rfl)) (by decide) (fun K hK => ?_)
       refine goesR Try.func26 (by kernel_rfl) rfl #[.agg #[.int .i64 t186, .int .i64 t187, .int .i64 t188, .int .i64 t189], .agg #[.int .i64 t190, .int .i64 t191, .int .i64 t192, .int .i64 t193]] (by rfl) rfl rfl ?_
       with_reducible refine (impl_Meet.calls k t186 t187 t188 t189 t190 t191 t192 t193 t194 t195 t196 t197 t198 _ A8.out).mono ?_
       rintro e w60 ⟨rfl, hb⟩
       refine ⟨_, rfl, ?_⟩
       have n0_ := nblk BK170 hb
       have n1_ := nblk BK171 hb
       have n2_ := nblk BK185 hb
       have n3_ := nblk BK199 hb
       have n4_ := nbs HB hb
       clear BK170 BK171 BK185 BK199 HB
       have BK170 := n0_
       have BK171 := n1_
       have BK185 := n2_
       have BK199 := n3_
       have HB := n4_
       clear n0_ n1_ n2_ n3_ n4_
       (try clear hb)
       refine hK.out _ _ (c4 BK170 (c4e BK171)) (fun hHeld => ?_)
       clear hK K
       refine norm_ (a' := ?_) ?_ ?_
       rotate_left
       ·show Act.put _ (some 22) _ = _
        simp only [Act.put, List.setIfInBounds_toArray, List.set_cons_zero, List.set_cons_succ, i64_w, i32_w]
        rfl
       refine pure_ (i := 5) (N := some 17) (v := ?_) (a' := ?_) #[true, true, true, true, true, true, false, false, true, false, false] rfl rfl (any_of HT_.out (by kernel_rfl)) (fun _ _ _ h => h) (Or.inl ⟨by rfl, ?_⟩) ?_ ?_
       rotate_left
       ·intro w'
        go_simp
        with_reducible rfl
       rotate_left
       ·simp only [Act.put, List.setIfInBounds_toArray, List.set_cons_zero, List.set_cons_succ, i64_w, i32_w]
        rfl
       refine pure_ (i := 6) (N := some 23) (v := ?_) (a' := ?_) #[true, true, true, true, true, true, true, false, true, false, false] rfl rfl (any_of HT_.out (by kernel_rfl)) (fun _ _ _ h => h) (Or.inl ⟨by rfl, ?_⟩) ?_ ?_
       rotate_left
       ·intro w'
        go_simp
        with_reducible rfl
       rotate_left
       ·simp only [Act.put, List.setIfInBounds_toArray, List.set_cons_zero, List.set_cons_succ, i64_w, i32_w]
        rfl
       refine pure_ (i := 7) (N := some 24) (v := ?_) (a' := ?_) #[true, true, true, true, true, true, true, true, true, false, false] rfl rfl (any_of HT_.out (by kernel_rfl)) (fun _ _ _ h => h) (Or.inl ⟨by rfl, ?_⟩) ?_ ?_
       rotate_left
       ·intro w'
        go_simp
        with_reducible rfl
       rotate_left
       ·simp only [Act.put, List.setIfInBounds_toArray, List.set_cons_zero, List.set_cons_succ, i64_w, i32_w]
        rfl
       exact norm_ (by simp only [putAll, Act.put, List.setIfInBounds_toArray, List.set_cons_zero, List.set_cons_succ]) (hCont (gb199) _ ⟨hHeld, (nb BK170), (nb BK171), (nb BK185), (nb BK199), GW199.out, GE199.out, NB170_199.out, NB199_170.out, NB171_199.out, NB199_171.out, NB185_199.out, NB199_185.out, (by repeat (first | (with_reducible first | exact HB.out | apply below_alloc | apply pw_below_drewN | apply below_drew1 | refine below_set ?_ GE170.out | refine below_set ?_ GE171.out | refine below_set ?_ GE185.out | refine below_set ?_ GE199.out) | exact HB.out))⟩)
     ·skip
      refine box_step ?hg (N := 7) ?hd (cs := #[.int .i64 0, .int .i64 0, .int .i64 0, .int .i64 0]) (t := 26) ?hr ?_; (case hd => rfl); (case hg => rfl); (case hr => first | (go_simp; done) | (go_simp; rfl))
      intro gb199 hg w58 hbox hb
      have n0_ := nblk BK170 hb
      have n1_ := nblk BK171 hb
      have n2_ := nblk BK185 hb
      have n3_ := nbs HB hb
      have n4_ := Aside0.mk (hbox)
      have n5_ := nge HB hg
      have n6_ := nge HB hg
      have n7_ := nlt BK170 hg
      have n8_ := ngt BK170 hg
      have n9_ := nlt BK171 hg
      have n10_ := ngt BK171 hg
      have n11_ := nlt BK185 hg
      have n12_ := ngt BK185 hg
      clear BK170 BK171 BK185 HB
      have BK170 := n0_
      have BK171 := n1_
      have BK185 := n2_
      have HB := n3_
      have BK199 := n4_
      have GW199 := n5_
      have GE199 := n6_
      have NB170_199 := n7_
      have NB199_170 := n8_
      have NB171_199 := n9_
      have NB199_171 := n10_
      have NB185_199 := n11_
      have NB199_185 := n12_
      clear n0_ n1_ n2_ n3_ n4_ n5_ n6_ n7_ n8_ n9_ n10_ n11_ n12_
      clear hb hbox hg
      refine hK.out _ _ (c4 BK170 (c4e BK171)) (fun hHeld => ?_)
      clear hK K
      refine norm_ (a' := ?_) ?_ ?_
      rotate_left
      ·show Act.put _ (some 7) _ = _
       simp only [Act.put, List.setIfInBounds_toArray, List.set_cons_zero, List.set_cons_succ, i64_w, i32_w]
       rfl
      refine one_ (i := 3) (N := some 21) #[true, true, true, true, false, false, false, false, true, false, false] rfl rfl (one_of HT_.out (by kernel_rfl)) (by decide) (fun K hK => ?_)
      refine goesR Try.func18 (by kernel_rfl) rfl #[.agg #[.int .i64 a1_0, .int .i64 a1_1, .int .i64 a1_2, .int .i64 a1_3]] (by rfl) rfl rfl ?_
      with_reducible refine (laws_toKey.calls a1_0 a1_1 a1_2 a1_3 t190 t191 t192 t193 _ A7.out).mono ?_
      rintro e w59 ⟨rfl, hb⟩
      refine ⟨_, rfl, ?_⟩
      have n0_ := nblk BK170 hb
      have n1_ := nblk BK171 hb
      have n2_ := nblk BK185 hb
      have n3_ := nblk BK199 hb
      have n4_ := nbs HB hb
      clear BK170 BK171 BK185 BK199 HB
      have BK170 := n0_
      have BK171 := n1_
      have BK185 := n2_
      have BK199 := n3_
      have HB := n4_
      clear n0_ n1_ n2_ n3_ n4_
      (try clear hb)
      refine hK.out _ _ (c4 BK170 (c4e BK171)) (fun hHeld => ?_)
      clear hK K
      refine norm_ (a' := ?_) ?_ ?_
      rotate_left
      ·show Act.put _ (some 21) _ = _
       simp only [Act.put, List.setIfInBounds_toArray, List.set_cons_zero, List.set_cons_succ, i64_w, i32_w]
       rfl
      refine one_ (i := 4) (N := some 22) #[true, true, true, true, true, false, false, false, true, false, false] rfl rfl (one_of HT_.out (by kernel_rfl)) (by decide) (fun K hK => ?_)
      refine goesR Try.func26 (by kernel_rfl) rfl #[.agg #[.int .i64 t186, .int .i64 t187, .int .i64 t188, .int .i64 t189], .agg #[.int .i64 t190, .int .i64 t191, .int .i64 t192, .int .i64 t193]] (by rfl) rfl rfl ?_
      with_reducible refine (impl_Meet.calls k t186 t187 t188 t189 t190 t191 t192 t193 t194 t195 t196 t197 t198 _ A8.out).mono ?_
      rintro e w60 ⟨rfl, hb⟩
      refine ⟨_, rfl, ?_⟩
      have n0_ := nblk BK170 hb
      have n1_ := nblk BK171 hb
      have n2_ := nblk BK185 hb
      have n3_ := nblk BK199 hb
      have n4_ := nbs HB hb
      clear BK170 BK171 BK185 BK199 HB
      have BK170 := n0_
      have BK171 := n1_
      have BK185 := n2_
      have BK199 := n3_
      have HB := n4_
      clear n0_ n1_ n2_ n3_ n4_
      (try clear hb)
      refine hK.out _ _ (c4 BK170 (c4e BK171)) (fun hHeld => ?_)
      clear hK K
      refine norm_ (a' := ?_) ?_ ?_
      rotate_left
      ·show Act.put _ (some 22) _ = _
       simp only [Act.put, List.setIfInBounds_toArray, List.set_cons_zero, List.set_cons_succ, i64_w, i32_w]
       rfl
      refine pure_ (i := 5) (N := some 17) (v := ?_) (a' := ?_) #[true, true, true, true, true, true, false, false, true, false, false] rfl rfl (any_of HT_.out (by kernel_rfl)) (fun _ _ _ h => h) (Or.inl ⟨by rfl, ?_⟩) ?_ ?_
      rotate_left
      ·intro w'
       go_simp
       with_reducible rfl
      rotate_left
      ·simp only [Act.put, List.setIfInBounds_toArray, List.set_cons_zero, List.set_cons_succ, i64_w, i32_w]
       rfl
      refine pure_ (i := 6) (N := some 23) (v := ?_) (a' := ?_) #[true, true, true, true, true, true, true, false, true, false, false] rfl rfl (any_of HT_.out (by kernel_rfl)) (fun _ _ _ h => h) (Or.inl ⟨by rfl, ?_⟩) ?_ ?_
      rotate_left
      ·intro w'
       go_simp
       with_reducible rfl
      rotate_left
      ·simp only [Act.put, List.setIfInBounds_toArray, List.set_cons_zero, List.set_cons_succ, i64_w, i32_w]
       rfl
      refine pure_ (i := 7) (N := some 24) (v := ?_) (a' := ?_) #[true, true, true, true, true, true, true, true, true, false, false] rfl rfl (any_of HT_.out (by kernel_rfl)) (fun _ _ _ h => h) (Or.inl ⟨by rfl, ?_⟩) ?_ ?_
      rotate_left
      ·intro w'
       go_simp
       with_reducible rfl
      rotate_left
      ·simp only [Act.put, List.setIfInBounds_toArray, List.set_cons_zero, List.set_cons_succ, i64_w, i32_w]
       rfl
      exact norm_ (by simp only [putAll, Act.put, List.setIfInBounds_toArray, List.set_cons_zero, List.set_cons_succ]) (hCont (gb199) _ ⟨hHeld, (nb BK170), (nb BK171), (nb BK185), (nb BK199), GW199.out, GE199.out, NB170_199.out, NB199_170.out, NB171_199.out, NB199_171.out, NB185_199.out, NB199_185.out, (by repeat (first | (with_reducible first | exact HB.out | apply below_alloc | apply pw_below_drewN | apply below_drew1 | refine below_set ?_ GE170.out | refine below_set ?_ GE171.out | refine below_set ?_ GE185.out | refine below_set ?_ GE199.out) | exact HB.out))⟩)
    ·skip
     refine box_step ?hg (N := 7) ?hd (cs := #[.int .i64 0, .int .i64 0, .int .i64 0, .int .i64 0]) (t := 26) ?hr ?_; (case hd => rfl); (case hg => rfl); (case hr => first | (go_simp; done) | (go_simp; rfl))
     intro gb199 hg w57 hbox hb
     have n0_ := nblk BK170 hb
     have n1_ := nblk BK171 hb
     have n2_ := nblk BK185 hb
     have n3_ := nbs HB hb
     have n4_ := Aside0.mk (hbox)
     have n5_ := nge HB hg
     have n6_ := nge HB hg
     have n7_ := nlt BK170 hg
     have n8_ := ngt BK170 hg
     have n9_ := nlt BK171 hg
     have n10_ := ngt BK171 hg
     have n11_ := nlt BK185 hg
     have n12_ := ngt BK185 hg
     clear BK170 BK171 BK185 HB
     have BK170 := n0_
     have BK171 := n1_
     have BK185 := n2_
     have HB := n3_
     have BK199 := n4_
     have GW199 := n5_
     have GE199 := n6_
     have NB170_199 := n7_
     have NB199_170 := n8_
     have NB171_199 := n9_
     have NB199_171 := n10_
     have NB185_199 := n11_
     have NB199_185 := n12_
     clear n0_ n1_ n2_ n3_ n4_ n5_ n6_ n7_ n8_ n9_ n10_ n11_ n12_
     clear hb hbox hg
     refine hK.out _ _ (c4 BK170 (c4e BK171)) (fun hHeld => ?_)
     clear hK K
     refine norm_ (a' := ?_) ?_ ?_
     rotate_left
     ·show Act.put _ (some 7) _ = _
      simp only [Act.put, List.setIfInBounds_toArray, List.set_cons_zero, List.set_cons_succ, i64_w, i32_w]
      rfl
     refine one_ (i := 1) (N := some 19) #[true, true, true, false, false, false, false, false, true, false, false] rfl rfl (one_of HT_.out (by kernel_rfl)) (by decide) (fun K hK => ?_)
     refine goesR Try.func18 (by kernel_rfl) rfl #[.agg #[.int .i64 a0_0, .int .i64 a0_1, .int .i64 a0_2, .int .i64 a0_3]] (by rfl) rfl rfl ?_
     with_reducible refine (laws_toKey.calls a0_0 a0_1 a0_2 a0_3 t186 t187 t188 t189 _ A6.out).mono ?_
     rintro e w58 ⟨rfl, hb⟩
     refine ⟨_, rfl, ?_⟩
     have n0_ := nblk BK170 hb
     have n1_ := nblk BK171 hb
     have n2_ := nblk BK185 hb
     have n3_ := nblk BK199 hb
     have n4_ := nbs HB hb
     clear BK170 BK171 BK185 BK199 HB
     have BK170 := n0_
     have BK171 := n1_
     have BK185 := n2_
     have BK199 := n3_
     have HB := n4_
     clear n0_ n1_ n2_ n3_ n4_
     (try clear hb)
     refine hK.out _ _ (c4 BK170 (c4e BK171)) (fun hHeld => ?_)
     clear hK K
     refine norm_ (a' := ?_) ?_ ?_
     rotate_left
     ·show Act.put _ (some 19) _ = _
      simp only [Act.put, List.setIfInBounds_toArray, List.set_cons_zero, List.set_cons_succ, i64_w, i32_w]
      rfl
     refine one_ (i := 3) (N := some 21) #[true, true, true, true, false, false, false, false, true, false, false] rfl rfl (one_of HT_.out (by kernel_rfl)) (by decide) (fun K hK => ?_)
     refine goesR Try.func18 (by kernel_rfl) rfl #[.agg #[.int .i64 a1_0, .int .i64 a1_1, .int .i64 a1_2, .int .i64 a1_3]] (by rfl) rfl rfl ?_
     with_reducible refine (laws_toKey.calls a1_0 a1_1 a1_2 a1_3 t190 t191 t192 t193 _ A7.out).mono ?_
     rintro e w59 ⟨rfl, hb⟩
     refine ⟨_, rfl, ?_⟩
     have n0_ := nblk BK170 hb
     have n1_ := nblk BK171 hb
     have n2_ := nblk BK185 hb
     have n3_ := nblk BK199 hb
     have n4_ := nbs HB hb
     clear BK170 BK171 BK185 BK199 HB
     have BK170 := n0_
     have BK171 := n1_
     have BK185 := n2_
     have BK199 := n3_
     have HB := n4_
     clear n0_ n1_ n2_ n3_ n4_
     (try clear hb)
     refine hK.out _ _ (c4 BK170 (c4e BK171)) (fun hHeld => ?_)
     clear hK K
     refine norm_ (a' := ?_) ?_ ?_
     rotate_left
     ·show Act.put _ (some 21) _ = _
      simp only [Act.put, List.setIfInBounds_toArray, List.set_cons_zero, List.set_cons_succ, i64_w, i32_w]
      rfl
     refine one_ (i := 4) (N := some 22) #[true, true, true, true, true, false, false, false, true, false, false] rfl rfl (one_of HT_.out (by kernel_rfl)) (by decide) (fun K hK => ?_)
     refine goesR Try.func26 (by kernel_rfl) rfl #[.agg #[.int .i64 t186, .int .i64 t187, .int .i64 t188, .int .i64 t189], .agg #[.int .i64 t190, .int .i64 t191, .int .i64 t192, .int .i64 t193]] (by rfl) rfl rfl ?_
     with_reducible refine (impl_Meet.calls k t186 t187 t188 t189 t190 t191 t192 t193 t194 t195 t196 t197 t198 _ A8.out).mono ?_
     rintro e w60 ⟨rfl, hb⟩
     refine ⟨_, rfl, ?_⟩
     have n0_ := nblk BK170 hb
     have n1_ := nblk BK171 hb
     have n2_ := nblk BK185 hb
     have n3_ := nblk BK199 hb
     have n4_ := nbs HB hb
     clear BK170 BK171 BK185 BK199 HB
     have BK170 := n0_
     have BK171 := n1_
     have BK185 := n2_
     have BK199 := n3_
     have HB := n4_
     clear n0_ n1_ n2_ n3_ n4_
     (try clear hb)
     refine hK.out _ _ (c4 BK170 (c4e BK171)) (fun hHeld => ?_)
     clear hK K
     refine norm_ (a' := ?_) ?_ ?_
     rotate_left
     ·show Act.put _ (some 22) _ = _
      simp only [Act.put, List.setIfInBounds_toArray, List.set_cons_zero, List.set_cons_succ, i64_w, i32_w]
      rfl
     refine pure_ (i := 5) (N := some 17) (v := ?_) (a' := ?_) #[true, true, true, true, true, true, false, false, true, false, false] rfl rfl (any_of HT_.out (by kernel_rfl)) (fun _ _ _ h => h) (Or.inl ⟨by rfl, ?_⟩) ?_ ?_
     rotate_left
     ·intro w'
      go_simp
      with_reducible rfl
     rotate_left
     ·simp only [Act.put, List.setIfInBounds_toArray, List.set_cons_zero, List.set_cons_succ, i64_w, i32_w]
      rfl
     refine pure_ (i := 6) (N := some 23) (v := ?_) (a' := ?_) #[true, true, true, true, true, true, true, false, true, false, false] rfl rfl (any_of HT_.out (by kernel_rfl)) (fun _ _ _ h => h) (Or.inl ⟨by rfl, ?_⟩) ?_ ?_
     rotate_left
     ·intro w'
      go_simp
      with_reducible rfl
     rotate_left
     ·simp only [Act.put, List.setIfInBounds_toArray, List.set_cons_zero, List.set_cons_succ, i64_w, i32_w]
      rfl
     refine pure_ (i := 7) (N := some 24) (v := ?_) (a' := ?_) #[true, true, true, true, true, true, true, true, true, false, false] rfl rfl (any_of HT_.out (by kernel_rfl)) (fun _ _ _ h => h) (Or.inl ⟨by rfl, ?_⟩) ?_ ?_
     rotate_left
     ·intro w'
      go_simp
      with_reducible rfl
     rotate_left
     ·simp only [Act.put, List.setIfInBounds_toArray, List.set_cons_zero, List.set_cons_succ, i64_w, i32_w]
      rfl
     exact norm_ (by simp only [putAll, Act.put, List.setIfInBounds_toArray, List.set_cons_zero, List.set_cons_succ]) (hCont (gb199) _ ⟨hHeld, (nb BK170), (nb BK171), (nb BK185), (nb BK199), GW199.out, GE199.out, NB170_199.out, NB199_170.out, NB171_199.out, NB199_171.out, NB185_199.out, NB199_185.out, (by repeat (first | (with_reducible first | exact HB.out | apply below_alloc | apply pw_below_drewN | apply below_drew1 | refine below_set ?_ GE170.out | refine below_set ?_ GE171.out | refine below_set ?_ GE185.out | refine below_set ?_ GE199.out) | exact HB.out))⟩)
   rintro gb199 w61 ⟨hS_, h0_, h1_, h2_, h3_, h4_, h5_, h6_, h7_, h8_, h9_, h10_, h11_, h12_⟩
   have n0_ : Aside0 (w61.heap[gb170]? = some (.cells #[.int .i64 a0_0, .int .i64 a0_1, .int .i64 a0_2, .int .i64 a0_3] 24 (0, 0))) := ⟨h0_⟩
   have n1_ : Aside0 (w61.heap[gb171]? = some (.cells #[.int .i64 a1_0, .int .i64 a1_1, .int .i64 a1_2, .int .i64 a1_3] 24 (0, 0))) := ⟨h1_⟩
   have n2_ : Aside0 (w61.heap[gb185]? = some (.cells #[.int .i64 t180, .int .i64 t181, .int .i64 t182, .int .i64 t183] 26 (0, 0))) := ⟨h2_⟩
   have n3_ : Aside0 (w61.heap[gb199]? = some (.cells #[.int .i64 0, .int .i64 0, .int .i64 0, .int .i64 0] 26 (0, 0))) := ⟨h3_⟩
   have n4_ : Aside0 (w.heap.size ≤ gb199) := ⟨h4_⟩
   have n5_ : Aside0 (w.heap.size ≤ gb199) := ⟨h5_⟩
   have n6_ : Aside0 (gb170 ≠ gb199) := ⟨h6_⟩
   have n7_ : Aside0 (gb199 ≠ gb170) := ⟨h7_⟩
   have n8_ : Aside0 (gb171 ≠ gb199) := ⟨h8_⟩
   have n9_ : Aside0 (gb199 ≠ gb171) := ⟨h9_⟩
   have n10_ : Aside0 (gb185 ≠ gb199) := ⟨h10_⟩
   have n11_ : Aside0 (gb199 ≠ gb185) := ⟨h11_⟩
   have n12_ : Aside0 (Below w.heap.size w w61) := ⟨h12_⟩
   clear BK170 BK171 BK185 HB
   clear h0_ h1_ h2_ h3_ h4_ h5_ h6_ h7_ h8_ h9_ h10_ h11_ h12_
   have BK170 := n0_
   have BK171 := n1_
   have BK185 := n2_
   have BK199 := n3_
   have GW199 := n4_
   have GE199 := n5_
   have NB170_199 := n6_
   have NB199_170 := n7_
   have NB171_199 := n8_
   have NB199_171 := n9_
   have NB185_199 := n10_
   have NB199_185 := n11_
   have HB := n12_
   clear n0_ n1_ n2_ n3_ n4_ n5_ n6_ n7_ n8_ n9_ n10_ n11_ n12_
   have hHeld : w61.cell? ⟨gb170, 0, none⟩ = some (.int .i64 a0_0) ∧ w61.cell? ⟨gb170, 1, none⟩ = some (.int .i64 a0_1) ∧ w61.cell? ⟨gb170, 2, none⟩ = some (.int .i64 a0_2) ∧ w61.cell? ⟨gb170, 3, none⟩ = some (.int .i64 a0_3) ∧ w61.cell? ⟨gb171, 0, none⟩ = some (.int .i64 a1_0) ∧ w61.cell? ⟨gb171, 1, none⟩ = some (.int .i64 a1_1) ∧ w61.cell? ⟨gb171, 2, none⟩ = some (.int .i64 a1_2) ∧ w61.cell? ⟨gb171, 3, none⟩ = some (.int .i64 a1_3) := hS_
   refine norm_ (a' := ?_) ?_ ?_
   rotate_left
   ·simp only [putAll, Act.put, List.setIfInBounds_toArray, List.set_cons_zero, List.set_cons_succ]
    rfl
   refine one_ (i := 9) (N := none) #[true, true, true, true, true, true, true, true, true, true, false] rfl rfl (one_of HT_.out (by kernel_rfl)) (by decide) (fun K hK => ?_)
   have hs62 : w61.cell? ⟨gb199, 0, none⟩ = some (.int .i64 0) := (blk_cell BK199.out 0).trans rfl
   have hfs62 := blk_frozen BK199.out 0
   have hns62_0 := NB170_199.out
   have hns62_1 := NB171_199.out
   have hns62_2 := NB185_199.out
   have hms62_0 := NB199_170.out
   have hms62_1 := NB199_171.out
   have hms62_2 := NB199_185.out
   have hs63 : w61.cell? ⟨gb199, 1, none⟩ = some (.int .i64 0) := (blk_cell BK199.out 1).trans rfl
   have hfs63 := blk_frozen BK199.out 1
   have hns63_0 := NB170_199.out
   have hns63_1 := NB171_199.out
   have hns63_2 := NB185_199.out
   have hms63_0 := NB199_170.out
   have hms63_1 := NB199_171.out
   have hms63_2 := NB199_185.out
   have hs64 : w61.cell? ⟨gb199, 2, none⟩ = some (.int .i64 0) := (blk_cell BK199.out 2).trans rfl
   have hfs64 := blk_frozen BK199.out 2
   have hns64_0 := NB170_199.out
   have hns64_1 := NB171_199.out
   have hns64_2 := NB185_199.out
   have hms64_0 := NB199_170.out
   have hms64_1 := NB199_171.out
   have hms64_2 := NB199_185.out
   have hs65 : w61.cell? ⟨gb199, 3, none⟩ = some (.int .i64 0) := (blk_cell BK199.out 3).trans rfl
   have hfs65 := blk_frozen BK199.out 3
   have hns65_0 := NB170_199.out
   have hns65_1 := NB171_199.out
   have hns65_2 := NB185_199.out
   have hms65_0 := NB199_170.out
   have hms65_1 := NB199_171.out
   have hms65_2 := NB199_185.out
   refine skip_ (w1 := ?_) (by rfl) rfl ?_ ?_
   rotate_left
   ·go_simp
    rfl
   refine hK.out _ _ ⟨(g4 NB170_199.out hHeld.1), (g4 NB170_199.out hHeld.2.1), (g4 NB170_199.out hHeld.2.2.1), (g4 NB170_199.out hHeld.2.2.2.1), (g4 NB171_199.out hHeld.2.2.2.2.1), (g4 NB171_199.out hHeld.2.2.2.2.2.1), (g4 NB171_199.out hHeld.2.2.2.2.2.2.1), (g4 NB171_199.out hHeld.2.2.2.2.2.2.2)⟩ (fun hHeld => ?_)
   clear hK K
   refine pure_ (i := 10) (N := some 8) (v := ?_) (a' := ?_) #[true, true, true, true, true, true, true, true, true, true, true] rfl rfl (any_of HT_.out (by kernel_rfl)) (fun _ _ _ h => h) (Or.inl ⟨by rfl, ?_⟩) ?_ ?_
   rotate_left
   ·intro w'
    go_simp
    with_reducible rfl
   rotate_left
   ·simp only [Act.put, List.setIfInBounds_toArray, List.set_cons_zero, List.set_cons_succ, i64_w, i32_w]
    rfl
   refine done_ (done_of HT_.out (by kernel_rfl)) ?_
   have hnb66 := NB199_170.out
   have hnc66 := NB170_199.out
   have hnb67 := NB199_171.out
   have hnc67 := NB171_199.out
   have hnb68 := NB199_185.out
   have hnc68 := NB185_199.out
   have hcz69_0 : w61.cell? ⟨gb199, 0, none⟩ = some (.int .i64 0) := (blk_cell BK199.out 0).trans rfl
   have hcz69_1 : w61.cell? ⟨gb199, 1, none⟩ = some (.int .i64 0) := (blk_cell BK199.out 1).trans rfl
   have hcz69_2 : w61.cell? ⟨gb199, 2, none⟩ = some (.int .i64 0) := (blk_cell BK199.out 2).trans rfl
   have hcz69_3 : w61.cell? ⟨gb199, 3, none⟩ = some (.int .i64 0) := (blk_cell BK199.out 3).trans rfl
   have hfz69_0 := blk_frozen BK199.out 0
   have hfz69_1 := blk_frozen BK199.out 1
   have hfz69_2 := blk_frozen BK199.out 2
   have hfz69_3 := blk_frozen BK199.out 3
   have hnb70 := NB185_170.out
   have hnc70 := NB170_185.out
   have hnb71 := NB185_171.out
   have hnc71 := NB171_185.out
   have hcz72_0 : w61.cell? ⟨gb185, 0, none⟩ = some (.int .i64 t180) := (blk_cell BK185.out 0).trans rfl
   have hcz72_1 : w61.cell? ⟨gb185, 1, none⟩ = some (.int .i64 t181) := (blk_cell BK185.out 1).trans rfl
   have hcz72_2 : w61.cell? ⟨gb185, 2, none⟩ = some (.int .i64 t182) := (blk_cell BK185.out 2).trans rfl
   have hcz72_3 : w61.cell? ⟨gb185, 3, none⟩ = some (.int .i64 t183) := (blk_cell BK185.out 3).trans rfl
   have hfz72_0 := blk_frozen BK185.out 0
   have hfz72_1 := blk_frozen BK185.out 1
   have hfz72_2 := blk_frozen BK185.out 2
   have hfz72_3 := blk_frozen BK185.out 3
   try go_wp2_with (first | ((with_reducible refine gate_callee (f := 27) rfl ?_); refine goesM (some 27) rfl rfl Try.func27 (by kernel_rfl) rfl #[.agg #[.int .i64 t194, .int .i64 t195, .int .i64 t196, .int .i64 t197], .agg #[.int .i64 t180, .int .i64 t181, .int .i64 t182, .int .i64 t183]] rfl ?_; (with_reducible refine (laws_eqKey.calls t194 t195 t196 t197 t180 t181 t182 t183 true _ A9.out).mono ?_); rintro e w73 ⟨rfl, hb⟩; refine ⟨_, rfl, ?_⟩; have n0_ := nblk BK170 hb; have n1_ := nblk BK171 hb; have n2_ := nblk BK185 hb; have n3_ := Aside0.mk (blk_below (g := gb199) (o := .cells #[.int .i64 t194, .int .i64 t195, .int .i64 t196, .int .i64 t197] 26 (0, 0)) (by (with_reducible repeat (first | refine blk_drewN ?_ _ | refine blk_drew ?_ | refine blk_alloc ?_ _)); refine blk_put (cs := #[.int .i64 t194, .int .i64 t195, .int .i64 t196, .int .i64 0]) ?_ 3 _ rfl; (with_reducible repeat (first | refine blk_drewN ?_ _ | refine blk_drew ?_ | refine blk_alloc ?_ _)); refine blk_put (cs := #[.int .i64 t194, .int .i64 t195, .int .i64 0, .int .i64 0]) ?_ 2 _ rfl; (with_reducible repeat (first | refine blk_drewN ?_ _ | refine blk_drew ?_ | refine blk_alloc ?_ _)); refine blk_put (cs := #[.int .i64 t194, .int .i64 0, .int .i64 0, .int .i64 0]) ?_ 1 _ rfl; (with_reducible repeat (first | refine blk_drewN ?_ _ | refine blk_drew ?_ | refine blk_alloc ?_ _)); refine blk_put (cs := #[.int .i64 0, .int .i64 0, .int .i64 0, .int .i64 0]) ?_ 0 _ rfl; (with_reducible repeat (first | refine blk_drewN ?_ _ | refine blk_drew ?_ | refine blk_alloc ?_ _)); exact BK199.out) hb); have n4_ := nbs HB hb; clear BK170 BK171 BK185 BK199 HB; have BK170 := n0_; have BK171 := n1_; have BK185 := n2_; have BK199 := n3_; have HB := n4_; clear n0_ n1_ n2_ n3_ n4_; (try clear hb)))
   go_ret
   exact ⟨by first | rfl | (simp [errW_none, errW_some] <;> rfl) | (simp [*, errW_none, errW_some] <;> rfl), by repeat (first | (with_reducible first | exact HB.out | apply below_alloc | apply pw_below_drewN | apply below_drew1 | refine below_set ?_ GE170.out | refine below_set ?_ GE171.out | refine below_set ?_ GE185.out | refine below_set ?_ GE199.out) | exact HB.out)⟩
 ·replace c10 := Bool.eq_false_iff.mpr c10
  subst c10
  have H1 : (some false) = some r := by rw [if_neg (show ¬ (false = true) by decide)] at H; exact H
  clear H
  have H := H1
  clear H1
  obtain rfl := Option.some.inj H
  go_enter Try.func7, Try.ntmps7
  try go_wp2_with (first | ((with_reducible refine gate_dst (N := 2) rfl ?_); refine box_event ?hg (N := 2) ?hd (cs := #[.int .i64 a0_0, .int .i64 a0_1, .int .i64 a0_2, .int .i64 a0_3]) (t := 24) ?hr ?_; (case hd => rfl); (case hg => rfl); (case hr => first | (go_simp; done) | (go_simp; rfl)); intro gb170 hg w74 hbox hb; have n0_ := nbs HB hb; have n1_ := Aside0.mk (hbox); have n2_ := nge HB hg; have n3_ := nge HB hg; clear HB; have HB := n0_; have BK170 := n1_; have GW170 := n2_; have GE170 := n3_; clear n0_ n1_ n2_ n3_; clear hb hbox hg) | ((with_reducible refine gate_dst (N := 3) rfl ?_); refine box_event ?hg (N := 3) ?hd (cs := #[.int .i64 a1_0, .int .i64 a1_1, .int .i64 a1_2, .int .i64 a1_3]) (t := 24) ?hr ?_; (case hd => rfl); (case hg => rfl); (case hr => first | (go_simp; done) | (go_simp; rfl)); intro gb171 hg w75 hbox hb; have n0_ := nblk BK170 hb; have n1_ := nbs HB hb; have n2_ := Aside0.mk (hbox); have n3_ := nge HB hg; have n4_ := nge HB hg; have n5_ := nlt BK170 hg; have n6_ := ngt BK170 hg; clear BK170 HB; have BK170 := n0_; have HB := n1_; have BK171 := n2_; have GW171 := n3_; have GE171 := n4_; have NB170_171 := n5_; have NB171_170 := n6_; clear n0_ n1_ n2_ n3_ n4_ n5_ n6_; clear hb hbox hg))
  have n0_ := Aside0.mk (blk_drew BK170.out)
  have n1_ := Aside0.mk (blk_drew BK171.out)
  have n2_ := Aside0.mk (below_drew1 HB.out)
  clear BK170 BK171 HB
  have BK170 := n0_
  have BK171 := n1_
  have HB := n2_
  clear n0_ n1_ n2_
  refine start_ (n := 11) (S := fun w' => w'.cell? ⟨gb170, 0, none⟩ = some (.int .i64 a0_0) ∧ w'.cell? ⟨gb170, 1, none⟩ = some (.int .i64 a0_1) ∧ w'.cell? ⟨gb170, 2, none⟩ = some (.int .i64 a0_2) ∧ w'.cell? ⟨gb170, 3, none⟩ = some (.int .i64 a0_3) ∧ w'.cell? ⟨gb171, 0, none⟩ = some (.int .i64 a1_0) ∧ w'.cell? ⟨gb171, 1, none⟩ = some (.int .i64 a1_1) ∧ w'.cell? ⟨gb171, 2, none⟩ = some (.int .i64 a1_2) ∧ w'.cell? ⟨gb171, 3, none⟩ = some (.int .i64 a1_3)) (ds := []) #[false, false, false, false, false, false, false, false, false, false, false] (by kernel_rfl) rfl rfl (c4 BK170 (c4e BK171)) (fun hHeld => ?_); refine with_tabW laws_FnExactMeet.tab1 laws_FnExactMeet.bits1 (fun HT_ HW_ => ?_)
  generalize w75.drew = w76 at BK170 BK171 HB hHeld ⊢
  refine take_ (i := 0) (N := some 10) (v := ?_) (a' := ?_) #[true, false, false, false, false, false, false, false, false, false, false] rfl rfl (take_ofW HT_.out HW_.out (by kernel_rfl)) (fun _ _ _ h => h) (Or.inl ⟨by rfl, ?_⟩) hHeld ?_ ?_
  rotate_left
  ·rintro w' ⟨s0, s1, s2, s3, s4, s5, s6, s7⟩
   go_simp
   with_reducible rfl
  rotate_left
  ·simp only [Act.put, List.setIfInBounds_toArray, List.set_cons_zero, List.set_cons_succ, i64_w, i32_w]
   rfl
  refine take_ (i := 2) (N := some 12) (v := ?_) (a' := ?_) #[true, false, true, false, false, false, false, false, false, false, false] rfl rfl (take_ofW HT_.out HW_.out (by kernel_rfl)) (fun _ _ _ h => h) (Or.inl ⟨by rfl, ?_⟩) hHeld ?_ ?_
  rotate_left
  ·rintro w' ⟨s0, s1, s2, s3, s4, s5, s6, s7⟩
   go_simp
   with_reducible rfl
  rotate_left
  ·simp only [Act.put, List.setIfInBounds_toArray, List.set_cons_zero, List.set_cons_succ, i64_w, i32_w]
   rfl
  refine join_ (σ := Nat) 2 #[true, true, true, true, true, true, true, true, true, false, false] (fun s_ => [(11, .agg #[.int .i64 t172, .int .i64 t173, .int .i64 t174, .int .i64 t175]), (13, .agg #[.int .i64 t176, .int .i64 t177, .int .i64 t178, .int .i64 t179]), (14, .tuple #[.agg #[.int .i64 t180, .int .i64 t181, .int .i64 t182, .int .i64 t183], .bool t184]), (5, .pointer (some ⟨s_, 0, none⟩)), (9, .tuple #[.agg #[.int .i64 t180, .int .i64 t181, .int .i64 t182, .int .i64 t183], .bool t184]), (15, .agg #[.int .i64 t180, .int .i64 t181, .int .i64 t182, .int .i64 t183]), (16, .bool t184)]) (fun s_ w' => (w'.cell? ⟨gb170, 0, none⟩ = some (.int .i64 a0_0) ∧ w'.cell? ⟨gb170, 1, none⟩ = some (.int .i64 a0_1) ∧ w'.cell? ⟨gb170, 2, none⟩ = some (.int .i64 a0_2) ∧ w'.cell? ⟨gb170, 3, none⟩ = some (.int .i64 a0_3) ∧ w'.cell? ⟨gb171, 0, none⟩ = some (.int .i64 a1_0) ∧ w'.cell? ⟨gb171, 1, none⟩ = some (.int .i64 a1_1) ∧ w'.cell? ⟨gb171, 2, none⟩ = some (.int .i64 a1_2) ∧ w'.cell? ⟨gb171, 3, none⟩ = some (.int .i64 a1_3)) ∧ (w'.heap[gb170]? = some (.cells #[.int .i64 a0_0, .int .i64 a0_1, .int .i64 a0_2, .int .i64 a0_3] 24 (0, 0))) ∧ (w'.heap[gb171]? = some (.cells #[.int .i64 a1_0, .int .i64 a1_1, .int .i64 a1_2, .int .i64 a1_3] 24 (0, 0))) ∧ (w'.heap[s_]? = some (.cells #[.int .i64 0, .int .i64 0, .int .i64 0, .int .i64 0] 26 (0, 0))) ∧ (w.heap.size ≤ s_) ∧ (w.heap.size ≤ s_) ∧ (gb170 ≠ s_) ∧ (s_ ≠ gb170) ∧ (gb171 ≠ s_) ∧ (s_ ≠ gb171) ∧ (Below w.heap.size w w')) ?_ ?_
  rotate_left
  ·intro hCont
   refine two_ (i := 1) (j := 8) (Ni := some 11) (Nj := some 5) #[true, true, true, false, false, false, false, false, false, false, false] #[true, false, true, false, false, false, false, false, true, false, false] rfl rfl rfl rfl (two_of HT_.out (by kernel_rfl)) (by decide) (by decide) (fun K hK => ?_) (fun K hK => ?_)
   ·skip
    refine goesR Try.func18 (by kernel_rfl) rfl #[.agg #[.int .i64 a0_0, .int .i64 a0_1, .int .i64 a0_2, .int .i64 a0_3]] (by rfl) rfl rfl ?_
    with_reducible refine (laws_toKey.calls a0_0 a0_1 a0_2 a0_3 t172 t173 t174 t175 _ A3.out).mono ?_
    rintro e w77 ⟨rfl, hb⟩
    refine ⟨_, rfl, ?_⟩
    have n0_ := nblk BK170 hb
    have n1_ := nblk BK171 hb
    have n2_ := nbs HB hb
    clear BK170 BK171 HB
    have BK170 := n0_
    have BK171 := n1_
    have HB := n2_
    clear n0_ n1_ n2_
    (try clear hb)
    refine hK.out _ _ (c4 BK170 (c4e BK171)) (fun hHeld => ?_)
    clear hK K
    refine norm_ (a' := ?_) ?_ ?_
    rotate_left
    ·show Act.put _ (some 11) _ = _
     simp only [Act.put, List.setIfInBounds_toArray, List.set_cons_zero, List.set_cons_succ, i64_w, i32_w]
     rfl
    refine two_ (i := 3) (j := 8) (Ni := some 13) (Nj := some 5) #[true, true, true, true, false, false, false, false, false, false, false] #[true, true, true, false, false, false, false, false, true, false, false] rfl rfl rfl rfl (two_of HT_.out (by kernel_rfl)) (by decide) (by decide) (fun K hK => ?_) (fun K hK => ?_)
    ·skip
     refine goesR Try.func18 (by kernel_rfl) rfl #[.agg #[.int .i64 a1_0, .int .i64 a1_1, .int .i64 a1_2, .int .i64 a1_3]] (by rfl) rfl rfl ?_
     with_reducible refine (laws_toKey.calls a1_0 a1_1 a1_2 a1_3 t176 t177 t178 t179 _ A4.out).mono ?_
     rintro e w78 ⟨rfl, hb⟩
     refine ⟨_, rfl, ?_⟩
     have n0_ := nblk BK170 hb
     have n1_ := nblk BK171 hb
     have n2_ := nbs HB hb
     clear BK170 BK171 HB
     have BK170 := n0_
     have BK171 := n1_
     have HB := n2_
     clear n0_ n1_ n2_
     (try clear hb)
     refine hK.out _ _ (c4 BK170 (c4e BK171)) (fun hHeld => ?_)
     clear hK K
     refine norm_ (a' := ?_) ?_ ?_
     rotate_left
     ·show Act.put _ (some 13) _ = _
      simp only [Act.put, List.setIfInBounds_toArray, List.set_cons_zero, List.set_cons_succ, i64_w, i32_w]
      rfl
     refine two_ (i := 4) (j := 8) (Ni := some 14) (Nj := some 5) #[true, true, true, true, true, false, false, false, false, false, false] #[true, true, true, true, false, false, false, false, true, false, false] rfl rfl rfl rfl (two_of HT_.out (by kernel_rfl)) (by decide) (by decide) (fun K hK => ?_) (fun K hK => ?_)
     ·skip
      refine goesR Try.func25 (by kernel_rfl) rfl #[.agg #[.int .i64 t172, .int .i64 t173, .int .i64 t174, .int .i64 t175], .agg #[.int .i64 t176, .int .i64 t177, .int .i64 t178, .int .i64 t179]] (by rfl) rfl rfl ?_
      with_reducible refine (spec_Meet.calls k t172 t173 t174 t175 t176 t177 t178 t179 t180 t181 t182 t183 t184 _ A5.out).mono ?_
      rintro e w79 ⟨rfl, hb⟩
      refine ⟨_, rfl, ?_⟩
      have n0_ := nblk BK170 hb
      have n1_ := nblk BK171 hb
      have n2_ := nbs HB hb
      clear BK170 BK171 HB
      have BK170 := n0_
      have BK171 := n1_
      have HB := n2_
      clear n0_ n1_ n2_
      (try clear hb)
      refine hK.out _ _ (c4 BK170 (c4e BK171)) (fun hHeld => ?_)
      clear hK K
      refine norm_ (a' := ?_) ?_ ?_
      rotate_left
      ·show Act.put _ (some 14) _ = _
       simp only [Act.put, List.setIfInBounds_toArray, List.set_cons_zero, List.set_cons_succ, i64_w, i32_w]
       rfl
      refine pure_ (i := 5) (N := some 9) (v := ?_) (a' := ?_) #[true, true, true, true, true, true, false, false, false, false, false] rfl rfl (any_of HT_.out (by kernel_rfl)) (fun _ _ _ h => h) (Or.inl ⟨by rfl, ?_⟩) ?_ ?_
      rotate_left
      ·intro w'
       go_simp
       with_reducible rfl
      rotate_left
      ·simp only [Act.put, List.setIfInBounds_toArray, List.set_cons_zero, List.set_cons_succ, i64_w, i32_w]
       rfl
      refine pure_ (i := 6) (N := some 15) (v := ?_) (a' := ?_) #[true, true, true, true, true, true, true, false, false, false, false] rfl rfl (any_of HT_.out (by kernel_rfl)) (fun _ _ _ h => h) (Or.inl ⟨by rfl, ?_⟩) ?_ ?_
      rotate_left
      ·intro w'
       go_simp
       with_reducible rfl
      rotate_left
      ·simp only [Act.put, List.setIfInBounds_toArray, List.set_cons_zero, List.set_cons_succ, i64_w, i32_w]
       rfl
      refine pure_ (i := 7) (N := some 16) (v := ?_) (a' := ?_) #[true, true, true, true, true, true, true, true, false, false, false] rfl rfl (any_of HT_.out (by kernel_rfl)) (fun _ _ _ h => h) (Or.inl ⟨by rfl, ?_⟩) ?_ ?_
      rotate_left
      ·intro w'
       go_simp
       with_reducible rfl
      rotate_left
      ·simp only [Act.put, List.setIfInBounds_toArray, List.set_cons_zero, List.set_cons_succ, i64_w, i32_w]
       rfl
      refine one_ (i := 8) (N := some 5) #[true, true, true, true, true, true, true, true, true, false, false] rfl rfl (one_of HT_.out (by kernel_rfl)) (by decide) (fun K hK => ?_)
      refine box_step ?hg (N := 5) ?hd (cs := #[.int .i64 0, .int .i64 0, .int .i64 0, .int .i64 0]) (t := 26) ?hr ?_; (case hd => rfl); (case hg => rfl); (case hr => first | (go_simp; done) | (go_simp; rfl))
      intro gb185 hg w80 hbox hb
      have n0_ := nblk BK170 hb
      have n1_ := nblk BK171 hb
      have n2_ := nbs HB hb
      have n3_ := Aside0.mk (hbox)
      have n4_ := nge HB hg
      have n5_ := nge HB hg
      have n6_ := nlt BK170 hg
      have n7_ := ngt BK170 hg
      have n8_ := nlt BK171 hg
      have n9_ := ngt BK171 hg
      clear BK170 BK171 HB
      have BK170 := n0_
      have BK171 := n1_
      have HB := n2_
      have BK185 := n3_
      have GW185 := n4_
      have GE185 := n5_
      have NB170_185 := n6_
      have NB185_170 := n7_
      have NB171_185 := n8_
      have NB185_171 := n9_
      clear n0_ n1_ n2_ n3_ n4_ n5_ n6_ n7_ n8_ n9_
      clear hb hbox hg
      refine hK.out _ _ (c4 BK170 (c4e BK171)) (fun hHeld => ?_)
      clear hK K
      refine norm_ (a' := ?_) ?_ ?_
      rotate_left
      ·show Act.put _ (some 5) _ = _
       simp only [Act.put, List.setIfInBounds_toArray, List.set_cons_zero, List.set_cons_succ, i64_w, i32_w]
       rfl
      exact norm_ (by simp only [putAll, Act.put, List.setIfInBounds_toArray, List.set_cons_zero, List.set_cons_succ]) (hCont (gb185) _ ⟨hHeld, (nb BK170), (nb BK171), (nb BK185), GW185.out, GE185.out, NB170_185.out, NB185_170.out, NB171_185.out, NB185_171.out, (by repeat (first | (with_reducible first | exact HB.out | apply below_alloc | apply pw_below_drewN | apply below_drew1 | refine below_set ?_ GE170.out | refine below_set ?_ GE171.out | refine below_set ?_ GE185.out) | exact HB.out))⟩)
     ·skip
      refine box_step ?hg (N := 5) ?hd (cs := #[.int .i64 0, .int .i64 0, .int .i64 0, .int .i64 0]) (t := 26) ?hr ?_; (case hd => rfl); (case hg => rfl); (case hr => first | (go_simp; done) | (go_simp; rfl))
      intro gb185 hg w79 hbox hb
      have n0_ := nblk BK170 hb
      have n1_ := nblk BK171 hb
      have n2_ := nbs HB hb
      have n3_ := Aside0.mk (hbox)
      have n4_ := nge HB hg
      have n5_ := nge HB hg
      have n6_ := nlt BK170 hg
      have n7_ := ngt BK170 hg
      have n8_ := nlt BK171 hg
      have n9_ := ngt BK171 hg
      clear BK170 BK171 HB
      have BK170 := n0_
      have BK171 := n1_
      have HB := n2_
      have BK185 := n3_
      have GW185 := n4_
      have GE185 := n5_
      have NB170_185 := n6_
      have NB185_170 := n7_
      have NB171_185 := n8_
      have NB185_171 := n9_
      clear n0_ n1_ n2_ n3_ n4_ n5_ n6_ n7_ n8_ n9_
      clear hb hbox hg
      refine hK.out _ _ (c4 BK170 (c4e BK171)) (fun hHeld => ?_)
      clear hK K
      refine norm_ (a' := ?_) ?_ ?_
      rotate_left
      ·show Act.put _ (some 5) _ = _
       simp only [Act.put, List.setIfInBounds_toArray, List.set_cons_zero, List.set_cons_succ, i64_w, i32_w]
       rfl
      refine one_ (i := 4) (N := some 14) #[true, true, true, true, true, false, false, false, true, false, false] rfl rfl (one_of HT_.out (by kernel_rfl)) (by decide) (fun K hK => ?_)
      refine goesR Try.func25 (by kernel_rfl) rfl #[.agg #[.int .i64 t172, .int .i64 t173, .int .i64 t174, .int .i64 t175], .agg #[.int .i64 t176, .int .i64 t177, .int .i64 t178, .int .i64 t179]] (by rfl) rfl rfl ?_
      with_reducible refine (spec_Meet.calls k t172 t173 t174 t175 t176 t177 t178 t179 t180 t181 t182 t183 t184 _ A5.out).mono ?_
      rintro e w80 ⟨rfl, hb⟩
      refine ⟨_, rfl, ?_⟩
      have n0_ := nblk BK170 hb
      have n1_ := nblk BK171 hb
      have n2_ := nblk BK185 hb
      have n3_ := nbs HB hb
      clear BK170 BK171 BK185 HB
      have BK170 := n0_
      have BK171 := n1_
      have BK185 := n2_
      have HB := n3_
      clear n0_ n1_ n2_ n3_
      (try clear hb)
      refine hK.out _ _ (c4 BK170 (c4e BK171)) (fun hHeld => ?_)
      clear hK K
      refine norm_ (a' := ?_) ?_ ?_
      rotate_left
      ·show Act.put _ (some 14) _ = _
       simp only [Act.put, List.setIfInBounds_toArray, List.set_cons_zero, List.set_cons_succ, i64_w, i32_w]
       rfl
      refine pure_ (i := 5) (N := some 9) (v := ?_) (a' := ?_) #[true, true, true, true, true, true, false, false, true, false, false] rfl rfl (any_of HT_.out (by kernel_rfl)) (fun _ _ _ h => h) (Or.inl ⟨by rfl, ?_⟩) ?_ ?_
      rotate_left
      ·intro w'
       go_simp
       with_reducible rfl
      rotate_left
      ·simp only [Act.put, List.setIfInBounds_toArray, List.set_cons_zero, List.set_cons_succ, i64_w, i32_w]
       rfl
      refine pure_ (i := 6) (N := some 15) (v := ?_) (a' := ?_) #[true, true, true, true, true, true, true, false, true, false, false] rfl rfl (any_of HT_.out (by kernel_rfl)) (fun _ _ _ h => h) (Or.inl ⟨by rfl, ?_⟩) ?_ ?_
      rotate_left
      ·intro w'
       go_simp
       with_reducible rfl
      rotate_left
      ·simp only [Act.put, List.setIfInBounds_toArray, List.set_cons_zero, List.set_cons_succ, i64_w, i32_w]
       rfl
      refine pure_ (i := 7) (N := some 16) (v := ?_) (a' := ?_) #[true, true, true, true, true, true, true, true, true, false, false] rfl rfl (any_of HT_.out (by kernel_rfl)) (fun _ _ _ h => h) (Or.inl ⟨by rfl, ?_⟩) ?_ ?_
      rotate_left
      ·intro w'
       go_simp
       with_reducible rfl
      rotate_left
      ·simp only [Act.put, List.setIfInBounds_toArray, List.set_cons_zero, List.set_cons_succ, i64_w, i32_w]
       rfl
      exact norm_ (by simp only [putAll, Act.put, List.setIfInBounds_toArray, List.set_cons_zero, List.set_cons_succ]) (hCont (gb185) _ ⟨hHeld, (nb BK170), (nb BK171), (nb BK185), GW185.out, GE185.out, NB170_185.out, NB185_170.out, NB171_185.out, NB185_171.out, (by repeat (first | (with_reducible first | exact HB.out | apply below_alloc | apply pw_below_drewN | apply below_drew1 | refine below_set ?_ GE170.out | refine below_set ?_ GE171.out | refine below_set ?_ GE185.out) | exact HB.out))⟩)
    ·skip
     refine box_step ?hg (N := 5) ?hd (cs := #[.int .i64 0, .int .i64 0, .int .i64 0, .int .i64 0]) (t := 26) ?hr ?_; (case hd => rfl); (case hg => rfl); (case hr => first | (go_simp; done) | (go_simp; rfl))
     intro gb185 hg w78 hbox hb
     have n0_ := nblk BK170 hb
     have n1_ := nblk BK171 hb
     have n2_ := nbs HB hb
     have n3_ := Aside0.mk (hbox)
     have n4_ := nge HB hg
     have n5_ := nge HB hg
     have n6_ := nlt BK170 hg
     have n7_ := ngt BK170 hg
     have n8_ := nlt BK171 hg
     have n9_ := ngt BK171 hg
     clear BK170 BK171 HB
     have BK170 := n0_
     have BK171 := n1_
     have HB := n2_
     have BK185 := n3_
     have GW185 := n4_
     have GE185 := n5_
     have NB170_185 := n6_
     have NB185_170 := n7_
     have NB171_185 := n8_
     have NB185_171 := n9_
     clear n0_ n1_ n2_ n3_ n4_ n5_ n6_ n7_ n8_ n9_
     clear hb hbox hg
     refine hK.out _ _ (c4 BK170 (c4e BK171)) (fun hHeld => ?_)
     clear hK K
     refine norm_ (a' := ?_) ?_ ?_
     rotate_left
     ·show Act.put _ (some 5) _ = _
      simp only [Act.put, List.setIfInBounds_toArray, List.set_cons_zero, List.set_cons_succ, i64_w, i32_w]
      rfl
     refine one_ (i := 3) (N := some 13) #[true, true, true, true, false, false, false, false, true, false, false] rfl rfl (one_of HT_.out (by kernel_rfl)) (by decide) (fun K hK => ?_)
     refine goesR Try.func18 (by kernel_rfl) rfl #[.agg #[.int .i64 a1_0, .int .i64 a1_1, .int .i64 a1_2, .int .i64 a1_3]] (by rfl) rfl rfl ?_
     with_reducible refine (laws_toKey.calls a1_0 a1_1 a1_2 a1_3 t176 t177 t178 t179 _ A4.out).mono ?_
     rintro e w79 ⟨rfl, hb⟩
     refine ⟨_, rfl, ?_⟩
     have n0_ := nblk BK170 hb
     have n1_ := nblk BK171 hb
     have n2_ := nblk BK185 hb
     have n3_ := nbs HB hb
     clear BK170 BK171 BK185 HB
     have BK170 := n0_
     have BK171 := n1_
     have BK185 := n2_
     have HB := n3_
     clear n0_ n1_ n2_ n3_
     (try clear hb)
     refine hK.out _ _ (c4 BK170 (c4e BK171)) (fun hHeld => ?_)
     clear hK K
     refine norm_ (a' := ?_) ?_ ?_
     rotate_left
     ·show Act.put _ (some 13) _ = _
      simp only [Act.put, List.setIfInBounds_toArray, List.set_cons_zero, List.set_cons_succ, i64_w, i32_w]
      rfl
     refine one_ (i := 4) (N := some 14) #[true, true, true, true, true, false, false, false, true, false, false] rfl rfl (one_of HT_.out (by kernel_rfl)) (by decide) (fun K hK => ?_)
     refine goesR Try.func25 (by kernel_rfl) rfl #[.agg #[.int .i64 t172, .int .i64 t173, .int .i64 t174, .int .i64 t175], .agg #[.int .i64 t176, .int .i64 t177, .int .i64 t178, .int .i64 t179]] (by rfl) rfl rfl ?_
     with_reducible refine (spec_Meet.calls k t172 t173 t174 t175 t176 t177 t178 t179 t180 t181 t182 t183 t184 _ A5.out).mono ?_
     rintro e w80 ⟨rfl, hb⟩
     refine ⟨_, rfl, ?_⟩
     have n0_ := nblk BK170 hb
     have n1_ := nblk BK171 hb
     have n2_ := nblk BK185 hb
     have n3_ := nbs HB hb
     clear BK170 BK171 BK185 HB
     have BK170 := n0_
     have BK171 := n1_
     have BK185 := n2_
     have HB := n3_
     clear n0_ n1_ n2_ n3_
     (try clear hb)
     refine hK.out _ _ (c4 BK170 (c4e BK171)) (fun hHeld => ?_)
     clear hK K
     refine norm_ (a' := ?_) ?_ ?_
     rotate_left
     ·show Act.put _ (some 14) _ = _
      simp only [Act.put, List.setIfInBounds_toArray, List.set_cons_zero, List.set_cons_succ, i64_w, i32_w]
      rfl
     refine pure_ (i := 5) (N := some 9) (v := ?_) (a' := ?_) #[true, true, true, true, true, true, false, false, true, false, false] rfl rfl (any_of HT_.out (by kernel_rfl)) (fun _ _ _ h => h) (Or.inl ⟨by rfl, ?_⟩) ?_ ?_
     rotate_left
     ·intro w'
      go_simp
      with_reducible rfl
     rotate_left
     ·simp only [Act.put, List.setIfInBounds_toArray, List.set_cons_zero, List.set_cons_succ, i64_w, i32_w]
      rfl
     refine pure_ (i := 6) (N := some 15) (v := ?_) (a' := ?_) #[true, true, true, true, true, true, true, false, true, false, false] rfl rfl (any_of HT_.out (by kernel_rfl)) (fun _ _ _ h => h) (Or.inl ⟨by rfl, ?_⟩) ?_ ?_
     rotate_left
     ·intro w'
      go_simp
      with_reducible rfl
     rotate_left
     ·simp only [Act.put, List.setIfInBounds_toArray, List.set_cons_zero, List.set_cons_succ, i64_w, i32_w]
      rfl
     refine pure_ (i := 7) (N := some 16) (v := ?_) (a' := ?_) #[true, true, true, true, true, true, true, true, true, false, false] rfl rfl (any_of HT_.out (by kernel_rfl)) (fun _ _ _ h => h) (Or.inl ⟨by rfl, ?_⟩) ?_ ?_
     rotate_left
     ·intro w'
      go_simp
      with_reducible rfl
     rotate_left
     ·simp only [Act.put, List.setIfInBounds_toArray, List.set_cons_zero, List.set_cons_succ, i64_w, i32_w]
      rfl
     exact norm_ (by simp only [putAll, Act.put, List.setIfInBounds_toArray, List.set_cons_zero, List.set_cons_succ]) (hCont (gb185) _ ⟨hHeld, (nb BK170), (nb BK171), (nb BK185), GW185.out, GE185.out, NB170_185.out, NB185_170.out, NB171_185.out, NB185_171.out, (by repeat (first | (with_reducible first | exact HB.out | apply below_alloc | apply pw_below_drewN | apply below_drew1 | refine below_set ?_ GE170.out | refine below_set ?_ GE171.out | refine below_set ?_ GE185.out) | exact HB.out))⟩)
   ·skip
    refine box_step ?hg (N := 5) ?hd (cs := #[.int .i64 0, .int .i64 0, .int .i64 0, .int .i64 0]) (t := 26) ?hr ?_; (case hd => rfl); (case hg => rfl); (case hr => first | (go_simp; done) | (go_simp; rfl))
    intro gb185 hg w77 hbox hb
    have n0_ := nblk BK170 hb
    have n1_ := nblk BK171 hb
    have n2_ := nbs HB hb
    have n3_ := Aside0.mk (hbox)
    have n4_ := nge HB hg
    have n5_ := nge HB hg
    have n6_ := nlt BK170 hg
    have n7_ := ngt BK170 hg
    have n8_ := nlt BK171 hg
    have n9_ := ngt BK171 hg
    clear BK170 BK171 HB
    have BK170 := n0_
    have BK171 := n1_
    have HB := n2_
    have BK185 := n3_
    have GW185 := n4_
    have GE185 := n5_
    have NB170_185 := n6_
    have NB185_170 := n7_
    have NB171_185 := n8_
    have NB185_171 := n9_
    clear n0_ n1_ n2_ n3_ n4_ n5_ n6_ n7_ n8_ n9_
    clear hb hbox hg
    refine hK.out _ _ (c4 BK170 (c4e BK171)) (fun hHeld => ?_)
    clear hK K
    refine norm_ (a' := ?_) ?_ ?_
    rotate_left
    ·show Act.put _ (some 5) _ = _
     simp only [Act.put, List.setIfInBounds_toArray, List.set_cons_zero, List.set_cons_succ, i64_w, i32_w]
     rfl
    refine one_ (i := 1) (N := some 11) #[true, true, true, false, false, false, false, false, true, false, false] rfl rfl (one_of HT_.out (by kernel_rfl)) (by decide) (fun K hK => ?_)
    refine goesR Try.func18 (by kernel_rfl) rfl #[.agg #[.int .i64 a0_0, .int .i64 a0_1, .int .i64 a0_2, .int .i64 a0_3]] (by rfl) rfl rfl ?_
    with_reducible refine (laws_toKey.calls a0_0 a0_1 a0_2 a0_3 t172 t173 t174 t175 _ A3.out).mono ?_
    rintro e w78 ⟨rfl, hb⟩
    refine ⟨_, rfl, ?_⟩
    have n0_ := nblk BK170 hb
    have n1_ := nblk BK171 hb
    have n2_ := nblk BK185 hb
    have n3_ := nbs HB hb
    clear BK170 BK171 BK185 HB
    have BK170 := n0_
    have BK171 := n1_
    have BK185 := n2_
    have HB := n3_
    clear n0_ n1_ n2_ n3_
    (try clear hb)
    refine hK.out _ _ (c4 BK170 (c4e BK171)) (fun hHeld => ?_)
    clear hK K
    refine norm_ (a' := ?_) ?_ ?_
    rotate_left
    ·show Act.put _ (some 11) _ = _
     simp only [Act.put, List.setIfInBounds_toArray, List.set_cons_zero, List.set_cons_succ, i64_w, i32_w]
     rfl
    refine one_ (i := 3) (N := some 13) #[true, true, true, true, false, false, false, false, true, false, false] rfl rfl (one_of HT_.out (by kernel_rfl)) (by decide) (fun K hK => ?_)
    refine goesR Try.func18 (by kernel_rfl) rfl #[.agg #[.int .i64 a1_0, .int .i64 a1_1, .int .i64 a1_2, .int .i64 a1_3]] (by rfl) rfl rfl ?_
    with_reducible refine (laws_toKey.calls a1_0 a1_1 a1_2 a1_3 t176 t177 t178 t179 _ A4.out).mono ?_
    rintro e w79 ⟨rfl, hb⟩
    refine ⟨_, rfl, ?_⟩
    have n0_ := nblk BK170 hb
    have n1_ := nblk BK171 hb
    have n2_ := nblk BK185 hb
    have n3_ := nbs HB hb
    clear BK170 BK171 BK185 HB
    have BK170 := n0_
    have BK171 := n1_
    have BK185 := n2_
    have HB := n3_
    clear n0_ n1_ n2_ n3_
    (try clear hb)
    refine hK.out _ _ (c4 BK170 (c4e BK171)) (fun hHeld => ?_)
    clear hK K
    refine norm_ (a' := ?_) ?_ ?_
    rotate_left
    ·show Act.put _ (some 13) _ = _
     simp only [Act.put, List.setIfInBounds_toArray, List.set_cons_zero, List.set_cons_succ, i64_w, i32_w]
     rfl
    refine one_ (i := 4) (N := some 14) #[true, true, true, true, true, false, false, false, true, false, false] rfl rfl (one_of HT_.out (by kernel_rfl)) (by decide) (fun K hK => ?_)
    refine goesR Try.func25 (by kernel_rfl) rfl #[.agg #[.int .i64 t172, .int .i64 t173, .int .i64 t174, .int .i64 t175], .agg #[.int .i64 t176, .int .i64 t177, .int .i64 t178, .int .i64 t179]] (by rfl) rfl rfl ?_
    with_reducible refine (spec_Meet.calls k t172 t173 t174 t175 t176 t177 t178 t179 t180 t181 t182 t183 t184 _ A5.out).mono ?_
    rintro e w80 ⟨rfl, hb⟩
    refine ⟨_, rfl, ?_⟩
    have n0_ := nblk BK170 hb
    have n1_ := nblk BK171 hb
    have n2_ := nblk BK185 hb
    have n3_ := nbs HB hb
    clear BK170 BK171 BK185 HB
    have BK170 := n0_
    have BK171 := n1_
    have BK185 := n2_
    have HB := n3_
    clear n0_ n1_ n2_ n3_
    (try clear hb)
    refine hK.out _ _ (c4 BK170 (c4e BK171)) (fun hHeld => ?_)
    clear hK K
    refine norm_ (a' := ?_) ?_ ?_
    rotate_left
    ·show Act.put _ (some 14) _ = _
     simp only [Act.put, List.setIfInBounds_toArray, List.set_cons_zero, List.set_cons_succ, i64_w, i32_w]
     rfl
    refine pure_ (i := 5) (N := some 9) (v := ?_) (a' := ?_) #[true, true, true, true, true, true, false, false, true, false, false] rfl rfl (any_of HT_.out (by kernel_rfl)) (fun _ _ _ h => h) (Or.inl ⟨by rfl, ?_⟩) ?_ ?_
    rotate_left
    ·intro w'
     go_simp
     with_reducible rfl
    rotate_left
    ·simp only [Act.put, List.setIfInBounds_toArray, List.set_cons_zero, List.set_cons_succ, i64_w, i32_w]
     rfl
    refine pure_ (i := 6) (N := some 15) (v := ?_) (a' := ?_) #[true, true, true, true, true, true, true, false, true, false, false] rfl rfl (any_of HT_.out (by kernel_rfl)) (fun _ _ _ h => h) (Or.inl ⟨by rfl, ?_⟩) ?_ ?_
    rotate_left
    ·intro w'
     go_simp
     with_reducible rfl
    rotate_left
    ·simp only [Act.put, List.setIfInBounds_toArray, List.set_cons_zero, List.set_cons_succ, i64_w, i32_w]
     rfl
    refine pure_ (i := 7) (N := some 16) (v := ?_) (a' := ?_) #[true, true, true, true, true, true, true, true, true, false, false] rfl rfl (any_of HT_.out (by kernel_rfl)) (fun _ _ _ h => h) (Or.inl ⟨by rfl, ?_⟩) ?_ ?_
    rotate_left
    ·intro w'
     go_simp
     with_reducible rfl
    rotate_left
    ·simp only [Act.put, List.setIfInBounds_toArray, List.set_cons_zero, List.set_cons_succ, i64_w, i32_w]
     rfl
    exact norm_ (by simp only [putAll, Act.put, List.setIfInBounds_toArray, List.set_cons_zero, List.set_cons_succ]) (hCont (gb185) _ ⟨hHeld, (nb BK170), (nb BK171), (nb BK185), GW185.out, GE185.out, NB170_185.out, NB185_170.out, NB171_185.out, NB185_171.out, (by repeat (first | (with_reducible first | exact HB.out | apply below_alloc | apply pw_below_drewN | apply below_drew1 | refine below_set ?_ GE170.out | refine below_set ?_ GE171.out | refine below_set ?_ GE185.out) | exact HB.out))⟩)
  rintro gb185 w81 ⟨hS_, h0_, h1_, h2_, h3_, h4_, h5_, h6_, h7_, h8_, h9_⟩
  have n0_ : Aside0 (w81.heap[gb170]? = some (.cells #[.int .i64 a0_0, .int .i64 a0_1, .int .i64 a0_2, .int .i64 a0_3] 24 (0, 0))) := ⟨h0_⟩
  have n1_ : Aside0 (w81.heap[gb171]? = some (.cells #[.int .i64 a1_0, .int .i64 a1_1, .int .i64 a1_2, .int .i64 a1_3] 24 (0, 0))) := ⟨h1_⟩
  have n2_ : Aside0 (w81.heap[gb185]? = some (.cells #[.int .i64 0, .int .i64 0, .int .i64 0, .int .i64 0] 26 (0, 0))) := ⟨h2_⟩
  have n3_ : Aside0 (w.heap.size ≤ gb185) := ⟨h3_⟩
  have n4_ : Aside0 (w.heap.size ≤ gb185) := ⟨h4_⟩
  have n5_ : Aside0 (gb170 ≠ gb185) := ⟨h5_⟩
  have n6_ : Aside0 (gb185 ≠ gb170) := ⟨h6_⟩
  have n7_ : Aside0 (gb171 ≠ gb185) := ⟨h7_⟩
  have n8_ : Aside0 (gb185 ≠ gb171) := ⟨h8_⟩
  have n9_ : Aside0 (Below w.heap.size w w81) := ⟨h9_⟩
  clear BK170 BK171 HB
  clear h0_ h1_ h2_ h3_ h4_ h5_ h6_ h7_ h8_ h9_
  have BK170 := n0_
  have BK171 := n1_
  have BK185 := n2_
  have GW185 := n3_
  have GE185 := n4_
  have NB170_185 := n5_
  have NB185_170 := n6_
  have NB171_185 := n7_
  have NB185_171 := n8_
  have HB := n9_
  clear n0_ n1_ n2_ n3_ n4_ n5_ n6_ n7_ n8_ n9_
  have hHeld : w81.cell? ⟨gb170, 0, none⟩ = some (.int .i64 a0_0) ∧ w81.cell? ⟨gb170, 1, none⟩ = some (.int .i64 a0_1) ∧ w81.cell? ⟨gb170, 2, none⟩ = some (.int .i64 a0_2) ∧ w81.cell? ⟨gb170, 3, none⟩ = some (.int .i64 a0_3) ∧ w81.cell? ⟨gb171, 0, none⟩ = some (.int .i64 a1_0) ∧ w81.cell? ⟨gb171, 1, none⟩ = some (.int .i64 a1_1) ∧ w81.cell? ⟨gb171, 2, none⟩ = some (.int .i64 a1_2) ∧ w81.cell? ⟨gb171, 3, none⟩ = some (.int .i64 a1_3) := hS_
  refine norm_ (a' := ?_) ?_ ?_
  rotate_left
  ·simp only [putAll, Act.put, List.setIfInBounds_toArray, List.set_cons_zero, List.set_cons_succ]
   rfl
  refine one_ (i := 9) (N := none) #[true, true, true, true, true, true, true, true, true, true, false] rfl rfl (one_of HT_.out (by kernel_rfl)) (by decide) (fun K hK => ?_)
  have hs82 : w81.cell? ⟨gb185, 0, none⟩ = some (.int .i64 0) := (blk_cell BK185.out 0).trans rfl
  have hfs82 := blk_frozen BK185.out 0
  have hns82_0 := NB170_185.out
  have hns82_1 := NB171_185.out
  have hms82_0 := NB185_170.out
  have hms82_1 := NB185_171.out
  have hs83 : w81.cell? ⟨gb185, 1, none⟩ = some (.int .i64 0) := (blk_cell BK185.out 1).trans rfl
  have hfs83 := blk_frozen BK185.out 1
  have hns83_0 := NB170_185.out
  have hns83_1 := NB171_185.out
  have hms83_0 := NB185_170.out
  have hms83_1 := NB185_171.out
  have hs84 : w81.cell? ⟨gb185, 2, none⟩ = some (.int .i64 0) := (blk_cell BK185.out 2).trans rfl
  have hfs84 := blk_frozen BK185.out 2
  have hns84_0 := NB170_185.out
  have hns84_1 := NB171_185.out
  have hms84_0 := NB185_170.out
  have hms84_1 := NB185_171.out
  have hs85 : w81.cell? ⟨gb185, 3, none⟩ = some (.int .i64 0) := (blk_cell BK185.out 3).trans rfl
  have hfs85 := blk_frozen BK185.out 3
  have hns85_0 := NB170_185.out
  have hns85_1 := NB171_185.out
  have hms85_0 := NB185_170.out
  have hms85_1 := NB185_171.out
  refine skip_ (w1 := ?_) (by rfl) rfl ?_ ?_
  rotate_left
  ·go_simp
   rfl
  refine hK.out _ _ ⟨(g4 NB170_185.out hHeld.1), (g4 NB170_185.out hHeld.2.1), (g4 NB170_185.out hHeld.2.2.1), (g4 NB170_185.out hHeld.2.2.2.1), (g4 NB171_185.out hHeld.2.2.2.2.1), (g4 NB171_185.out hHeld.2.2.2.2.2.1), (g4 NB171_185.out hHeld.2.2.2.2.2.2.1), (g4 NB171_185.out hHeld.2.2.2.2.2.2.2)⟩ (fun hHeld => ?_)
  clear hK K
  refine pure_ (i := 10) (N := some 6) (v := ?_) (a' := ?_) #[true, true, true, true, true, true, true, true, true, true, true] rfl rfl (any_of HT_.out (by kernel_rfl)) (fun _ _ _ h => h) (Or.inl ⟨by rfl, ?_⟩) ?_ ?_
  rotate_left
  ·intro w'
   go_simp
   with_reducible rfl
  rotate_left
  ·simp only [Act.put, List.setIfInBounds_toArray, List.set_cons_zero, List.set_cons_succ, i64_w, i32_w]
   rfl
  refine done_ (done_of HT_.out (by kernel_rfl)) ?_
  try go_wp2
  have n0_ : Aside0 (((((w81.setCell ⟨gb185, 0, none⟩ (.int .i64 t180)).setCell ⟨gb185, 1, none⟩ (.int .i64 t181)).setCell ⟨gb185, 2, none⟩ (.int .i64 t182)).setCell ⟨gb185, 3, none⟩ (.int .i64 t183)).heap[gb170]? = some (.cells #[.int .i64 a0_0, .int .i64 a0_1, .int .i64 a0_2, .int .i64 a0_3] 24 (0, 0))) := ⟨by (with_reducible repeat (first | refine blk_drewN ?_ _ | refine blk_drew ?_ | refine blk_alloc ?_ _)); refine blk_far ?_ NB170_185.out _; (with_reducible repeat (first | refine blk_drewN ?_ _ | refine blk_drew ?_ | refine blk_alloc ?_ _)); refine blk_far ?_ NB170_185.out _; (with_reducible repeat (first | refine blk_drewN ?_ _ | refine blk_drew ?_ | refine blk_alloc ?_ _)); refine blk_far ?_ NB170_185.out _; (with_reducible repeat (first | refine blk_drewN ?_ _ | refine blk_drew ?_ | refine blk_alloc ?_ _)); refine blk_far ?_ NB170_185.out _; (with_reducible repeat (first | refine blk_drewN ?_ _ | refine blk_drew ?_ | refine blk_alloc ?_ _)); exact BK170.out⟩
  have n1_ : Aside0 (((((w81.setCell ⟨gb185, 0, none⟩ (.int .i64 t180)).setCell ⟨gb185, 1, none⟩ (.int .i64 t181)).setCell ⟨gb185, 2, none⟩ (.int .i64 t182)).setCell ⟨gb185, 3, none⟩ (.int .i64 t183)).heap[gb171]? = some (.cells #[.int .i64 a1_0, .int .i64 a1_1, .int .i64 a1_2, .int .i64 a1_3] 24 (0, 0))) := ⟨by (with_reducible repeat (first | refine blk_drewN ?_ _ | refine blk_drew ?_ | refine blk_alloc ?_ _)); refine blk_far ?_ NB171_185.out _; (with_reducible repeat (first | refine blk_drewN ?_ _ | refine blk_drew ?_ | refine blk_alloc ?_ _)); refine blk_far ?_ NB171_185.out _; (with_reducible repeat (first | refine blk_drewN ?_ _ | refine blk_drew ?_ | refine blk_alloc ?_ _)); refine blk_far ?_ NB171_185.out _; (with_reducible repeat (first | refine blk_drewN ?_ _ | refine blk_drew ?_ | refine blk_alloc ?_ _)); refine blk_far ?_ NB171_185.out _; (with_reducible repeat (first | refine blk_drewN ?_ _ | refine blk_drew ?_ | refine blk_alloc ?_ _)); exact BK171.out⟩
  have n2_ : Aside0 (((((w81.setCell ⟨gb185, 0, none⟩ (.int .i64 t180)).setCell ⟨gb185, 1, none⟩ (.int .i64 t181)).setCell ⟨gb185, 2, none⟩ (.int .i64 t182)).setCell ⟨gb185, 3, none⟩ (.int .i64 t183)).heap[gb185]? = some (.cells #[.int .i64 t180, .int .i64 t181, .int .i64 t182, .int .i64 t183] 26 (0, 0))) := ⟨by (with_reducible repeat (first | refine blk_drewN ?_ _ | refine blk_drew ?_ | refine blk_alloc ?_ _)); refine blk_put (cs := #[.int .i64 t180, .int .i64 t181, .int .i64 t182, .int .i64 0]) ?_ 3 _ rfl; (with_reducible repeat (first | refine blk_drewN ?_ _ | refine blk_drew ?_ | refine blk_alloc ?_ _)); refine blk_put (cs := #[.int .i64 t180, .int .i64 t181, .int .i64 0, .int .i64 0]) ?_ 2 _ rfl; (with_reducible repeat (first | refine blk_drewN ?_ _ | refine blk_drew ?_ | refine blk_alloc ?_ _)); refine blk_put (cs := #[.int .i64 t180, .int .i64 0, .int .i64 0, .int .i64 0]) ?_ 1 _ rfl; (with_reducible repeat (first | refine blk_drewN ?_ _ | refine blk_drew ?_ | refine blk_alloc ?_ _)); refine blk_put (cs := #[.int .i64 0, .int .i64 0, .int .i64 0, .int .i64 0]) ?_ 0 _ rfl; (with_reducible repeat (first | refine blk_drewN ?_ _ | refine blk_drew ?_ | refine blk_alloc ?_ _)); exact BK185.out⟩
  have n3_ : Aside0 (Below w.heap.size w ((((w81.setCell ⟨gb185, 0, none⟩ (.int .i64 t180)).setCell ⟨gb185, 1, none⟩ (.int .i64 t181)).setCell ⟨gb185, 2, none⟩ (.int .i64 t182)).setCell ⟨gb185, 3, none⟩ (.int .i64 t183))) := ⟨by repeat (first | (with_reducible first | exact HB.out | apply below_alloc | apply pw_below_drewN | apply below_drew1 | refine below_set ?_ GE170.out | refine below_set ?_ GE171.out | refine below_set ?_ GE185.out) | exact HB.out)⟩
  (try clear BK170)
  (try clear BK171)
  (try clear BK185)
  (try clear HB)
  generalize ((((w81.setCell ⟨gb185, 0, none⟩ (.int .i64 t180)).setCell ⟨gb185, 1, none⟩ (.int .i64 t181)).setCell ⟨gb185, 2, none⟩ (.int .i64 t182)).setCell ⟨gb185, 3, none⟩ (.int .i64 t183)) = w86 at n0_ n1_ n2_ n3_ ⊢
  have BK170 := n0_
  have BK171 := n1_
  have BK185 := n2_
  have HB := n3_
  clear n0_ n1_ n2_ n3_
  have n0_ := Aside0.mk (blk_drew BK170.out)
  have n1_ := Aside0.mk (blk_drew BK171.out)
  have n2_ := Aside0.mk (blk_drew BK185.out)
  have n3_ := Aside0.mk (below_drew1 HB.out)
  clear BK170 BK171 BK185 HB
  have BK170 := n0_
  have BK171 := n1_
  have BK185 := n2_
  have HB := n3_
  clear n0_ n1_ n2_ n3_
  refine start_ (n := 11) (S := fun w' => w'.cell? ⟨gb170, 0, none⟩ = some (.int .i64 a0_0) ∧ w'.cell? ⟨gb170, 1, none⟩ = some (.int .i64 a0_1) ∧ w'.cell? ⟨gb170, 2, none⟩ = some (.int .i64 a0_2) ∧ w'.cell? ⟨gb170, 3, none⟩ = some (.int .i64 a0_3) ∧ w'.cell? ⟨gb171, 0, none⟩ = some (.int .i64 a1_0) ∧ w'.cell? ⟨gb171, 1, none⟩ = some (.int .i64 a1_1) ∧ w'.cell? ⟨gb171, 2, none⟩ = some (.int .i64 a1_2) ∧ w'.cell? ⟨gb171, 3, none⟩ = some (.int .i64 a1_3)) (ds := []) #[false, false, false, false, false, false, false, false, false, false, false] (by kernel_rfl) rfl rfl (c4 BK170 (c4e BK171)) (fun hHeld => ?_); refine with_tabW laws_FnExactMeet.tab2 laws_FnExactMeet.bits2 (fun HT_ HW_ => ?_)
  generalize w86.drew = w87 at BK170 BK171 BK185 HB hHeld ⊢
  refine take_ (i := 0) (N := some 18) (v := ?_) (a' := ?_) #[true, false, false, false, false, false, false, false, false, false, false] rfl rfl (take_ofW HT_.out HW_.out (by kernel_rfl)) (fun _ _ _ h => h) (Or.inl ⟨by rfl, ?_⟩) hHeld ?_ ?_
  rotate_left
  ·rintro w' ⟨s0, s1, s2, s3, s4, s5, s6, s7⟩
   go_simp
   with_reducible rfl
  rotate_left
  ·simp only [Act.put, List.setIfInBounds_toArray, List.set_cons_zero, List.set_cons_succ, i64_w, i32_w]
   rfl
  refine take_ (i := 2) (N := some 20) (v := ?_) (a' := ?_) #[true, false, true, false, false, false, false, false, false, false, false] rfl rfl (take_ofW HT_.out HW_.out (by kernel_rfl)) (fun _ _ _ h => h) (Or.inl ⟨by rfl, ?_⟩) hHeld ?_ ?_
  rotate_left
  ·rintro w' ⟨s0, s1, s2, s3, s4, s5, s6, s7⟩
   go_simp
   with_reducible rfl
  rotate_left
  ·simp only [Act.put, List.setIfInBounds_toArray, List.set_cons_zero, List.set_cons_succ, i64_w, i32_w]
   rfl
  refine join_ (σ := Nat) 2 #[true, true, true, true, true, true, true, true, true, false, false] (fun s_ => [(19, .agg #[.int .i64 t186, .int .i64 t187, .int .i64 t188, .int .i64 t189]), (21, .agg #[.int .i64 t190, .int .i64 t191, .int .i64 t192, .int .i64 t193]), (22, .tuple #[.agg #[.int .i64 t194, .int .i64 t195, .int .i64 t196, .int .i64 t197], .bool t198]), (7, .pointer (some ⟨s_, 0, none⟩)), (17, .tuple #[.agg #[.int .i64 t194, .int .i64 t195, .int .i64 t196, .int .i64 t197], .bool t198]), (23, .agg #[.int .i64 t194, .int .i64 t195, .int .i64 t196, .int .i64 t197]), (24, .bool t198)]) (fun s_ w' => (w'.cell? ⟨gb170, 0, none⟩ = some (.int .i64 a0_0) ∧ w'.cell? ⟨gb170, 1, none⟩ = some (.int .i64 a0_1) ∧ w'.cell? ⟨gb170, 2, none⟩ = some (.int .i64 a0_2) ∧ w'.cell? ⟨gb170, 3, none⟩ = some (.int .i64 a0_3) ∧ w'.cell? ⟨gb171, 0, none⟩ = some (.int .i64 a1_0) ∧ w'.cell? ⟨gb171, 1, none⟩ = some (.int .i64 a1_1) ∧ w'.cell? ⟨gb171, 2, none⟩ = some (.int .i64 a1_2) ∧ w'.cell? ⟨gb171, 3, none⟩ = some (.int .i64 a1_3)) ∧ (w'.heap[gb170]? = some (.cells #[.int .i64 a0_0, .int .i64 a0_1, .int .i64 a0_2, .int .i64 a0_3] 24 (0, 0))) ∧ (w'.heap[gb171]? = some (.cells #[.int .i64 a1_0, .int .i64 a1_1, .int .i64 a1_2, .int .i64 a1_3] 24 (0, 0))) ∧ (w'.heap[gb185]? = some (.cells #[.int .i64 t180, .int .i64 t181, .int .i64 t182, .int .i64 t183] 26 (0, 0))) ∧ (w'.heap[s_]? = some (.cells #[.int .i64 0, .int .i64 0, .int .i64 0, .int .i64 0] 26 (0, 0))) ∧ (w.heap.size ≤ s_) ∧ (w.heap.size ≤ s_) ∧ (gb170 ≠ s_) ∧ (s_ ≠ gb170) ∧ (gb171 ≠ s_) ∧ (s_ ≠ gb171) ∧ (gb185 ≠ s_) ∧ (s_ ≠ gb185) ∧ (Below w.heap.size w w')) ?_ ?_
  rotate_left
  ·intro hCont
   refine two_ (i := 1) (j := 8) (Ni := some 19) (Nj := some 7) #[true, true, true, false, false, false, false, false, false, false, false] #[true, false, true, false, false, false, false, false, true, false, false] rfl rfl rfl rfl (two_of HT_.out (by kernel_rfl)) (by decide) (by decide) (fun K hK => ?_) (fun K hK => ?_)
   ·skip
    refine goesR Try.func18 (by kernel_rfl) rfl #[.agg #[.int .i64 a0_0, .int .i64 a0_1, .int .i64 a0_2, .int .i64 a0_3]] (by rfl) rfl rfl ?_
    with_reducible refine (laws_toKey.calls a0_0 a0_1 a0_2 a0_3 t186 t187 t188 t189 _ A6.out).mono ?_
    rintro e w88 ⟨rfl, hb⟩
    refine ⟨_, rfl, ?_⟩
    have n0_ := nblk BK170 hb
    have n1_ := nblk BK171 hb
    have n2_ := nblk BK185 hb
    have n3_ := nbs HB hb
    clear BK170 BK171 BK185 HB
    have BK170 := n0_
    have BK171 := n1_
    have BK185 := n2_
    have HB := n3_
    clear n0_ n1_ n2_ n3_
    (try clear hb)
    refine hK.out _ _ (c4 BK170 (c4e BK171)) (fun hHeld => ?_)
    clear hK K
    refine norm_ (a' := ?_) ?_ ?_
    rotate_left
    ·show Act.put _ (some 19) _ = _
     simp only [Act.put, List.setIfInBounds_toArray, List.set_cons_zero, List.set_cons_succ, i64_w, i32_w]
     rfl
    refine two_ (i := 3) (j := 8) (Ni := some 21) (Nj := some 7) #[true, true, true, true, false, false, false, false, false, false, false] #[true, true, true, false, false, false, false, false, true, false, false] rfl rfl rfl rfl (two_of HT_.out (by kernel_rfl)) (by decide) (by decide) (fun K hK => ?_) (fun K hK => ?_)
    ·skip
     refine goesR Try.func18 (by kernel_rfl) rfl #[.agg #[.int .i64 a1_0, .int .i64 a1_1, .int .i64 a1_2, .int .i64 a1_3]] (by rfl) rfl rfl ?_
     with_reducible refine (laws_toKey.calls a1_0 a1_1 a1_2 a1_3 t190 t191 t192 t193 _ A7.out).mono ?_
     rintro e w89 ⟨rfl, hb⟩
     refine ⟨_, rfl, ?_⟩
     have n0_ := nblk BK170 hb
     have n1_ := nblk BK171 hb
     have n2_ := nblk BK185 hb
     have n3_ := nbs HB hb
     clear BK170 BK171 BK185 HB
     have BK170 := n0_
     have BK171 := n1_
     have BK185 := n2_
     have HB := n3_
     clear n0_ n1_ n2_ n3_
     (try clear hb)
     refine hK.out _ _ (c4 BK170 (c4e BK171)) (fun hHeld => ?_)
     clear hK K
     refine norm_ (a' := ?_) ?_ ?_
     rotate_left
     ·show Act.put _ (some 21) _ = _
      simp only [Act.put, List.setIfInBounds_toArray, List.set_cons_zero, List.set_cons_succ, i64_w, i32_w]
      rfl
     refine two_ (i := 4) (j := 8) (Ni := some 22) (Nj := some 7) #[true, true, true, true, true, false, false, false, false, false, false] #[true, true, true, true, false, false, false, false, true, false, false] rfl rfl rfl rfl (two_of HT_.out (by kernel_rfl)) (by decide) (by decide) (fun K hK => ?_) (fun K hK => ?_)
     ·skip
      refine goesR Try.func26 (by kernel_rfl) rfl #[.agg #[.int .i64 t186, .int .i64 t187, .int .i64 t188, .int .i64 t189], .agg #[.int .i64 t190, .int .i64 t191, .int .i64 t192, .int .i64 t193]] (by rfl) rfl rfl ?_
      with_reducible refine (impl_Meet.calls k t186 t187 t188 t189 t190 t191 t192 t193 t194 t195 t196 t197 t198 _ A8.out).mono ?_
      rintro e w90 ⟨rfl, hb⟩
      refine ⟨_, rfl, ?_⟩
      have n0_ := nblk BK170 hb
      have n1_ := nblk BK171 hb
      have n2_ := nblk BK185 hb
      have n3_ := nbs HB hb
      clear BK170 BK171 BK185 HB
      have BK170 := n0_
      have BK171 := n1_
      have BK185 := n2_
      have HB := n3_
      clear n0_ n1_ n2_ n3_
      (try clear hb)
      refine hK.out _ _ (c4 BK170 (c4e BK171)) (fun hHeld => ?_)
      clear hK K
      refine norm_ (a' := ?_) ?_ ?_
      rotate_left
      ·show Act.put _ (some 22) _ = _
       simp only [Act.put, List.setIfInBounds_toArray, List.set_cons_zero, List.set_cons_succ, i64_w, i32_w]
       rfl
      refine pure_ (i := 5) (N := some 17) (v := ?_) (a' := ?_) #[true, true, true, true, true, true, false, false, false, false, false] rfl rfl (any_of HT_.out (by kernel_rfl)) (fun _ _ _ h => h) (Or.inl ⟨by rfl, ?_⟩) ?_ ?_
      rotate_left
      ·intro w'
       go_simp
       with_reducible rfl
      rotate_left
      ·simp only [Act.put, List.setIfInBounds_toArray, List.set_cons_zero, List.set_cons_succ, i64_w, i32_w]
       rfl
      refine pure_ (i := 6) (N := some 23) (v := ?_) (a' := ?_) #[true, true, true, true, true, true, true, false, false, false, false] rfl rfl (any_of HT_.out (by kernel_rfl)) (fun _ _ _ h => h) (Or.inl ⟨by rfl, ?_⟩) ?_ ?_
      rotate_left
      ·intro w'
       go_simp
       with_reducible rfl
      rotate_left
      ·simp only [Act.put, List.setIfInBounds_toArray, List.set_cons_zero, List.set_cons_succ, i64_w, i32_w]
       rfl
      refine pure_ (i := 7) (N := some 24) (v := ?_) (a' := ?_) #[true, true, true, true, true, true, true, true, false, false, false] rfl rfl (any_of HT_.out (by kernel_rfl)) (fun _ _ _ h => h) (Or.inl ⟨by rfl, ?_⟩) ?_ ?_
      rotate_left
      ·intro w'
       go_simp
       with_reducible rfl
      rotate_left
      ·simp only [Act.put, List.setIfInBounds_toArray, List.set_cons_zero, List.set_cons_succ, i64_w, i32_w]
       rfl
      refine one_ (i := 8) (N := some 7) #[true, true, true, true, true, true, true, true, true, false, false] rfl rfl (one_of HT_.out (by kernel_rfl)) (by decide) (fun K hK => ?_)
      refine box_step ?hg (N := 7) ?hd (cs := #[.int .i64 0, .int .i64 0, .int .i64 0, .int .i64 0]) (t := 26) ?hr ?_; (case hd => rfl); (case hg => rfl); (case hr => first | (go_simp; done) | (go_simp; rfl))
      intro gb199 hg w91 hbox hb
      have n0_ := nblk BK170 hb
      have n1_ := nblk BK171 hb
      have n2_ := nblk BK185 hb
      have n3_ := nbs HB hb
      have n4_ := Aside0.mk (hbox)
      have n5_ := nge HB hg
      have n6_ := nge HB hg
      have n7_ := nlt BK170 hg
      have n8_ := ngt BK170 hg
      have n9_ := nlt BK171 hg
      have n10_ := ngt BK171 hg
      have n11_ := nlt BK185 hg
      have n12_ := ngt BK185 hg
      clear BK170 BK171 BK185 HB
      have BK170 := n0_
      have BK171 := n1_
      have BK185 := n2_
      have HB := n3_
      have BK199 := n4_
      have GW199 := n5_
      have GE199 := n6_
      have NB170_199 := n7_
      have NB199_170 := n8_
      have NB171_199 := n9_
      have NB199_171 := n10_
      have NB185_199 := n11_
      have NB199_185 := n12_
      clear n0_ n1_ n2_ n3_ n4_ n5_ n6_ n7_ n8_ n9_ n10_ n11_ n12_
      clear hb hbox hg
      refine hK.out _ _ (c4 BK170 (c4e BK171)) (fun hHeld => ?_)
      clear hK K
      refine norm_ (a' := ?_) ?_ ?_
      rotate_left
      ·show Act.put _ (some 7) _ = _
       simp only [Act.put, List.setIfInBounds_toArray, List.set_cons_zero, List.set_cons_succ, i64_w, i32_w]
       rfl
      exact norm_ (by simp only [putAll, Act.put, List.setIfInBounds_toArray, List.set_cons_zero, List.set_cons_succ]) (hCont (gb199) _ ⟨hHeld, (nb BK170), (nb BK171), (nb BK185), (nb BK199), GW199.out, GE199.out, NB170_199.out, NB199_170.out, NB171_199.out, NB199_171.out, NB185_199.out, NB199_185.out, (by repeat (first | (with_reducible first | exact HB.out | apply below_alloc | apply pw_below_drewN | apply below_drew1 | refine below_set ?_ GE170.out | refine below_set ?_ GE171.out | refine below_set ?_ GE185.out | refine below_set ?_ GE199.out) | exact HB.out))⟩)
     ·skip
      refine box_step ?hg (N := 7) ?hd (cs := #[.int .i64 0, .int .i64 0, .int .i64 0, .int .i64 0]) (t := 26) ?hr ?_; (case hd => rfl); (case hg => rfl); (case hr => first | (go_simp; done) | (go_simp; rfl))
      intro gb199 hg w90 hbox hb
      have n0_ := nblk BK170 hb
      have n1_ := nblk BK171 hb
      have n2_ := nblk BK185 hb
      have n3_ := nbs HB hb
      have n4_ := Aside0.mk (hbox)
      have n5_ := nge HB hg
      have n6_ := nge HB hg
      have n7_ := nlt BK170 hg
      have n8_ := ngt BK170 hg
      have n9_ := nlt BK171 hg
      have n10_ := ngt BK171 hg
      have n11_ := nlt BK185 hg
      have n12_ := ngt BK185 hg
      clear BK170 BK171 BK185 HB
      have BK170 := n0_
      have BK171 := n1_
      have BK185 := n2_
      have HB := n3_
      have BK199 := n4_
      have GW199 := n5_
      have GE199 := n6_
      have NB170_199 := n7_
      have NB199_170 := n8_
      have NB171_199 := n9_
      have NB199_171 := n10_
      have NB185_199 := n11_
      have NB199_185 := n12_
      clear n0_ n1_ n2_ n3_ n4_ n5_ n6_ n7_ n8_ n9_ n10_ n11_ n12_
      clear hb hbox hg
      refine hK.out _ _ (c4 BK170 (c4e BK171)) (fun hHeld => ?_)
      clear hK K
      refine norm_ (a' := ?_) ?_ ?_
      rotate_left
      ·show Act.put _ (some 7) _ = _
       simp only [Act.put, List.setIfInBounds_toArray, List.set_cons_zero, List.set_cons_succ, i64_w, i32_w]
       rfl
      refine one_ (i := 4) (N := some 22) #[true, true, true, true, true, false, false, false, true, false, false] rfl rfl (one_of HT_.out (by kernel_rfl)) (by decide) (fun K hK => ?_)
      refine goesR Try.func26 (by kernel_rfl) rfl #[.agg #[.int .i64 t186, .int .i64 t187, .int .i64 t188, .int .i64 t189], .agg #[.int .i64 t190, .int .i64 t191, .int .i64 t192, .int .i64 t193]] (by rfl) rfl rfl ?_
      with_reducible refine (impl_Meet.calls k t186 t187 t188 t189 t190 t191 t192 t193 t194 t195 t196 t197 t198 _ A8.out).mono ?_
      rintro e w91 ⟨rfl, hb⟩
      refine ⟨_, rfl, ?_⟩
      have n0_ := nblk BK170 hb
      have n1_ := nblk BK171 hb
      have n2_ := nblk BK185 hb
      have n3_ := nblk BK199 hb
      have n4_ := nbs HB hb
      clear BK170 BK171 BK185 BK199 HB
      have BK170 := n0_
      have BK171 := n1_
      have BK185 := n2_
      have BK199 := n3_
      have HB := n4_
      clear n0_ n1_ n2_ n3_ n4_
      (try clear hb)
      refine hK.out _ _ (c4 BK170 (c4e BK171)) (fun hHeld => ?_)
      clear hK K
      refine norm_ (a' := ?_) ?_ ?_
      rotate_left
      ·show Act.put _ (some 22) _ = _
       simp only [Act.put, List.setIfInBounds_toArray, List.set_cons_zero, List.set_cons_succ, i64_w, i32_w]
       rfl
      refine pure_ (i := 5) (N := some 17) (v := ?_) (a' := ?_) #[true, true, true, true, true, true, false, false, true, false, false] rfl rfl (any_of HT_.out (by kernel_rfl)) (fun _ _ _ h => h) (Or.inl ⟨by rfl, ?_⟩) ?_ ?_
      rotate_left
      ·intro w'
       go_simp
       with_reducible rfl
      rotate_left
      ·simp only [Act.put, List.setIfInBounds_toArray, List.set_cons_zero, List.set_cons_succ, i64_w, i32_w]
       rfl
      refine pure_ (i := 6) (N := some 23) (v := ?_) (a' := ?_) #[true, true, true, true, true, true, true, false, true, false, false] rfl rfl (any_of HT_.out (by kernel_rfl)) (fun _ _ _ h => h) (Or.inl ⟨by rfl, ?_⟩) ?_ ?_
      rotate_left
      ·intro w'
       go_simp
       with_reducible rfl
      rotate_left
      ·simp only [Act.put, List.setIfInBounds_toArray, List.set_cons_zero, List.set_cons_succ, i64_w, i32_w]
       rfl
      refine pure_ (i := 7) (N := some 24) (v := ?_) (a' := ?_) #[true, true, true, true, true, true, true, true, true, false, false] rfl rfl (any_of HT_.out (by kernel_rfl)) (fun _ _ _ h => h) (Or.inl ⟨by rfl, ?_⟩) ?_ ?_
      rotate_left
      ·intro w'
       go_simp
       with_reducible rfl
      rotate_left
      ·simp only [Act.put, List.setIfInBounds_toArray, List.set_cons_zero, List.set_cons_succ, i64_w, i32_w]
       rfl
      exact norm_ (by simp only [putAll, Act.put, List.setIfInBounds_toArray, List.set_cons_zero, List.set_cons_succ]) (hCont (gb199) _ ⟨hHeld, (nb BK170), (nb BK171), (nb BK185), (nb BK199), GW199.out, GE199.out, NB170_199.out, NB199_170.out, NB171_199.out, NB199_171.out, NB185_199.out, NB199_185.out, (by repeat (first | (with_reducible first | exact HB.out | apply below_alloc | apply pw_below_drewN | apply below_drew1 | refine below_set ?_ GE170.out | refine below_set ?_ GE171.out | refine below_set ?_ GE185.out | refine below_set ?_ GE199.out) | exact HB.out))⟩)
    ·skip
     refine box_step ?hg (N := 7) ?hd (cs := #[.int .i64 0, .int .i64 0, .int .i64 0, .int .i64 0]) (t := 26) ?hr ?_; (case hd => rfl); (case hg => rfl); (case hr => first | (go_simp; done) | (go_simp; rfl))
     intro gb199 hg w89 hbox hb
     have n0_ := nblk BK170 hb
     have n1_ := nblk BK171 hb
     have n2_ := nblk BK185 hb
     have n3_ := nbs HB hb
     have n4_ := Aside0.mk (hbox)
     have n5_ := nge HB hg
     have n6_ := nge HB hg
     have n7_ := nlt BK170 hg
     have n8_ := ngt BK170 hg
     have n9_ := nlt BK171 hg
     have n10_ := ngt BK171 hg
     have n11_ := nlt BK185 hg
     have n12_ := ngt BK185 hg
     clear BK170 BK171 BK185 HB
     have BK170 := n0_
     have BK171 := n1_
     have BK185 := n2_
     have HB := n3_
     have BK199 := n4_
     have GW199 := n5_
     have GE199 := n6_
     have NB170_199 := n7_
     have NB199_170 := n8_
     have NB171_199 := n9_
     have NB199_171 := n10_
     have NB185_199 := n11_
     have NB199_185 := n12_
     clear n0_ n1_ n2_ n3_ n4_ n5_ n6_ n7_ n8_ n9_ n10_ n11_ n12_
     clear hb hbox hg
     refine hK.out _ _ (c4 BK170 (c4e BK171)) (fun hHeld => ?_)
     clear hK K
     refine norm_ (a' := ?_) ?_ ?_
     rotate_left
     ·show Act.put _ (some 7) _ = _
      simp only [Act.put, List.setIfInBounds_toArray, List.set_cons_zero, List.set_cons_succ, i64_w, i32_w]
      rfl
     refine one_ (i := 3) (N := some 21) #[true, true, true, true, false, false, false, false, true, false, false] rfl rfl (one_of HT_.out (by kernel_rfl)) (by decide) (fun K hK => ?_)
     refine goesR Try.func18 (by kernel_rfl) rfl #[.agg #[.int .i64 a1_0, .int .i64 a1_1, .int .i64 a1_2, .int .i64 a1_3]] (by rfl) rfl rfl ?_
     with_reducible refine (laws_toKey.calls a1_0 a1_1 a1_2 a1_3 t190 t191 t192 t193 _ A7.out).mono ?_
     rintro e w90 ⟨rfl, hb⟩
     refine ⟨_, rfl, ?_⟩
     have n0_ := nblk BK170 hb
     have n1_ := nblk BK171 hb
     have n2_ := nblk BK185 hb
     have n3_ := nblk BK199 hb
     have n4_ := nbs HB hb
     clear BK170 BK171 BK185 BK199 HB
     have BK170 := n0_
     have BK171 := n1_
     have BK185 := n2_
     have BK199 := n3_
     have HB := n4_
     clear n0_ n1_ n2_ n3_ n4_
     (try clear hb)
     refine hK.out _ _ (c4 BK170 (c4e BK171)) (fun hHeld => ?_)
     clear hK K
     refine norm_ (a' := ?_) ?_ ?_
     rotate_left
     ·show Act.put _ (some 21) _ = _
      simp only [Act.put, List.setIfInBounds_toArray, List.set_cons_zero, List.set_cons_succ, i64_w, i32_w]
      rfl
     refine one_ (i := 4) (N := some 22) #[true, true, true, true, true, false, false, false, true, false, false] rfl rfl (one_of HT_.out (by kernel_rfl)) (by decide) (fun K hK => ?_)
     refine goesR Try.func26 (by kernel_rfl) rfl #[.agg #[.int .i64 t186, .int .i64 t187, .int .i64 t188, .int .i64 t189], .agg #[.int .i64 t190, .int .i64 t191, .int .i64 t192, .int .i64 t193]] (by rfl) rfl rfl ?_
     with_reducible refine (impl_Meet.calls k t186 t187 t188 t189 t190 t191 t192 t193 t194 t195 t196 t197 t198 _ A8.out).mono ?_
     rintro e w91 ⟨rfl, hb⟩
     refine ⟨_, rfl, ?_⟩
     have n0_ := nblk BK170 hb
     have n1_ := nblk BK171 hb
     have n2_ := nblk BK185 hb
     have n3_ := nblk BK199 hb
     have n4_ := nbs HB hb
     clear BK170 BK171 BK185 BK199 HB
     have BK170 := n0_
     have BK171 := n1_
     have BK185 := n2_
     have BK199 := n3_
     have HB := n4_
     clear n0_ n1_ n2_ n3_ n4_
     (try clear hb)
     refine hK.out _ _ (c4 BK170 (c4e BK171)) (fun hHeld => ?_)
     clear hK K
     refine norm_ (a' := ?_) ?_ ?_
     rotate_left
     ·show Act.put _ (some 22) _ = _
      simp only [Act.put, List.setIfInBounds_toArray, List.set_cons_zero, List.set_cons_succ, i64_w, i32_w]
      rfl
     refine pure_ (i := 5) (N := some 17) (v := ?_) (a' := ?_) #[true, true, true, true, true, true, false, false, true, false, false] rfl rfl (any_of HT_.out (by kernel_rfl)) (fun _ _ _ h => h) (Or.inl ⟨by rfl, ?_⟩) ?_ ?_
     rotate_left
     ·intro w'
      go_simp
      with_reducible rfl
     rotate_left
     ·simp only [Act.put, List.setIfInBounds_toArray, List.set_cons_zero, List.set_cons_succ, i64_w, i32_w]
      rfl
     refine pure_ (i := 6) (N := some 23) (v := ?_) (a' := ?_) #[true, true, true, true, true, true, true, false, true, false, false] rfl rfl (any_of HT_.out (by kernel_rfl)) (fun _ _ _ h => h) (Or.inl ⟨by rfl, ?_⟩) ?_ ?_
     rotate_left
     ·intro w'
      go_simp
      with_reducible rfl
     rotate_left
     ·simp only [Act.put, List.setIfInBounds_toArray, List.set_cons_zero, List.set_cons_succ, i64_w, i32_w]
      rfl
     refine pure_ (i := 7) (N := some 24) (v := ?_) (a' := ?_) #[true, true, true, true, true, true, true, true, true, false, false] rfl rfl (any_of HT_.out (by kernel_rfl)) (fun _ _ _ h => h) (Or.inl ⟨by rfl, ?_⟩) ?_ ?_
     rotate_left
     ·intro w'
      go_simp
      with_reducible rfl
     rotate_left
     ·simp only [Act.put, List.setIfInBounds_toArray, List.set_cons_zero, List.set_cons_succ, i64_w, i32_w]
      rfl
     exact norm_ (by simp only [putAll, Act.put, List.setIfInBounds_toArray, List.set_cons_zero, List.set_cons_succ]) (hCont (gb199) _ ⟨hHeld, (nb BK170), (nb BK171), (nb BK185), (nb BK199), GW199.out, GE199.out, NB170_199.out, NB199_170.out, NB171_199.out, NB199_171.out, NB185_199.out, NB199_185.out, (by repeat (first | (with_reducible first | exact HB.out | apply below_alloc | apply pw_below_drewN | apply below_drew1 | refine below_set ?_ GE170.out | refine below_set ?_ GE171.out | refine below_set ?_ GE185.out | refine below_set ?_ GE199.out) | exact HB.out))⟩)
   ·skip
    refine box_step ?hg (N := 7) ?hd (cs := #[.int .i64 0, .int .i64 0, .int .i64 0, .int .i64 0]) (t := 26) ?hr ?_; (case hd => rfl); (case hg => rfl); (case hr => first | (go_simp; done) | (go_simp; rfl))
    intro gb199 hg w88 hbox hb
    have n0_ := nblk BK170 hb
    have n1_ := nblk BK171 hb
    have n2_ := nblk BK185 hb
    have n3_ := nbs HB hb
    have n4_ := Aside0.mk (hbox)
    have n5_ := nge HB hg
    have n6_ := nge HB hg
    have n7_ := nlt BK170 hg
    have n8_ := ngt BK170 hg
    have n9_ := nlt BK171 hg
    have n10_ := ngt BK171 hg
    have n11_ := nlt BK185 hg
    have n12_ := ngt BK185 hg
    clear BK170 BK171 BK185 HB
    have BK170 := n0_
    have BK171 := n1_
    have BK185 := n2_
    have HB := n3_
    have BK199 := n4_
    have GW199 := n5_
    have GE199 := n6_
    have NB170_199 := n7_
    have NB199_170 := n8_
    have NB171_199 := n9_
    have NB199_171 := n10_
    have NB185_199 := n11_
    have NB199_185 := n12_
    clear n0_ n1_ n2_ n3_ n4_ n5_ n6_ n7_ n8_ n9_ n10_ n11_ n12_
    clear hb hbox hg
    refine hK.out _ _ (c4 BK170 (c4e BK171)) (fun hHeld => ?_)
    clear hK K
    refine norm_ (a' := ?_) ?_ ?_
    rotate_left
    ·show Act.put _ (some 7) _ = _
     simp only [Act.put, List.setIfInBounds_toArray, List.set_cons_zero, List.set_cons_succ, i64_w, i32_w]
     rfl
    refine one_ (i := 1) (N := some 19) #[true, true, true, false, false, false, false, false, true, false, false] rfl rfl (one_of HT_.out (by kernel_rfl)) (by decide) (fun K hK => ?_)
    refine goesR Try.func18 (by kernel_rfl) rfl #[.agg #[.int .i64 a0_0, .int .i64 a0_1, .int .i64 a0_2, .int .i64 a0_3]] (by rfl) rfl rfl ?_
    with_reducible refine (laws_toKey.calls a0_0 a0_1 a0_2 a0_3 t186 t187 t188 t189 _ A6.out).mono ?_
    rintro e w89 ⟨rfl, hb⟩
    refine ⟨_, rfl, ?_⟩
    have n0_ := nblk BK170 hb
    have n1_ := nblk BK171 hb
    have n2_ := nblk BK185 hb
    have n3_ := nblk BK199 hb
    have n4_ := nbs HB hb
    clear BK170 BK171 BK185 BK199 HB
    have BK170 := n0_
    have BK171 := n1_
    have BK185 := n2_
    have BK199 := n3_
    have HB := n4_
    clear n0_ n1_ n2_ n3_ n4_
    (try clear hb)
    refine hK.out _ _ (c4 BK170 (c4e BK171)) (fun hHeld => ?_)
    clear hK K
    refine norm_ (a' := ?_) ?_ ?_
    rotate_left
    ·show Act.put _ (some 19) _ = _
     simp only [Act.put, List.setIfInBounds_toArray, List.set_cons_zero, List.set_cons_succ, i64_w, i32_w]
     rfl
    refine one_ (i := 3) (N := some 21) #[true, true, true, true, false, false, false, false, true, false, false] rfl rfl (one_of HT_.out (by kernel_rfl)) (by decide) (fun K hK => ?_)
    refine goesR Try.func18 (by kernel_rfl) rfl #[.agg #[.int .i64 a1_0, .int .i64 a1_1, .int .i64 a1_2, .int .i64 a1_3]] (by rfl) rfl rfl ?_
    with_reducible refine (laws_toKey.calls a1_0 a1_1 a1_2 a1_3 t190 t191 t192 t193 _ A7.out).mono ?_
    rintro e w90 ⟨rfl, hb⟩
    refine ⟨_, rfl, ?_⟩
    have n0_ := nblk BK170 hb
    have n1_ := nblk BK171 hb
    have n2_ := nblk BK185 hb
    have n3_ := nblk BK199 hb
    have n4_ := nbs HB hb
    clear BK170 BK171 BK185 BK199 HB
    have BK170 := n0_
    have BK171 := n1_
    have BK185 := n2_
    have BK199 := n3_
    have HB := n4_
    clear n0_ n1_ n2_ n3_ n4_
    (try clear hb)
    refine hK.out _ _ (c4 BK170 (c4e BK171)) (fun hHeld => ?_)
    clear hK K
    refine norm_ (a' := ?_) ?_ ?_
    rotate_left
    ·show Act.put _ (some 21) _ = _
     simp only [Act.put, List.setIfInBounds_toArray, List.set_cons_zero, List.set_cons_succ, i64_w, i32_w]
     rfl
    refine one_ (i := 4) (N := some 22) #[true, true, true, true, true, false, false, false, true, false, false] rfl rfl (one_of HT_.out (by kernel_rfl)) (by decide) (fun K hK => ?_)
    refine goesR Try.func26 (by kernel_rfl) rfl #[.agg #[.int .i64 t186, .int .i64 t187, .int .i64 t188, .int .i64 t189], .agg #[.int .i64 t190, .int .i64 t191, .int .i64 t192, .int .i64 t193]] (by rfl) rfl rfl ?_
    with_reducible refine (impl_Meet.calls k t186 t187 t188 t189 t190 t191 t192 t193 t194 t195 t196 t197 t198 _ A8.out).mono ?_
    rintro e w91 ⟨rfl, hb⟩
    refine ⟨_, rfl, ?_⟩
    have n0_ := nblk BK170 hb
    have n1_ := nblk BK171 hb
    have n2_ := nblk BK185 hb
    have n3_ := nblk BK199 hb
    have n4_ := nbs HB hb
    clear BK170 BK171 BK185 BK199 HB
    have BK170 := n0_
    have BK171 := n1_
    have BK185 := n2_
    have BK199 := n3_
    have HB := n4_
    clear n0_ n1_ n2_ n3_ n4_
    (try clear hb)
    refine hK.out _ _ (c4 BK170 (c4e BK171)) (fun hHeld => ?_)
    clear hK K
    refine norm_ (a' := ?_) ?_ ?_
    rotate_left
    ·show Act.put _ (some 22) _ = _
     simp only [Act.put, List.setIfInBounds_toArray, List.set_cons_zero, List.set_cons_succ, i64_w, i32_w]
     rfl
    refine pure_ (i := 5) (N := some 17) (v := ?_) (a' := ?_) #[true, true, true, true, true, true, false, false, true, false, false] rfl rfl (any_of HT_.out (by kernel_rfl)) (fun _ _ _ h => h) (Or.inl ⟨by rfl, ?_⟩) ?_ ?_
    rotate_left
    ·intro w'
     go_simp
     with_reducible rfl
    rotate_left
    ·simp only [Act.put, List.setIfInBounds_toArray, List.set_cons_zero, List.set_cons_succ, i64_w, i32_w]
     rfl
    refine pure_ (i := 6) (N := some 23) (v := ?_) (a' := ?_) #[true, true, true, true, true, true, true, false, true, false, false] rfl rfl (any_of HT_.out (by kernel_rfl)) (fun _ _ _ h => h) (Or.inl ⟨by rfl, ?_⟩) ?_ ?_
    rotate_left
    ·intro w'
     go_simp
     with_reducible rfl
    rotate_left
    ·simp only [Act.put, List.setIfInBounds_toArray, List.set_cons_zero, List.set_cons_succ, i64_w, i32_w]
     rfl
    refine pure_ (i := 7) (N := some 24) (v := ?_) (a' := ?_) #[true, true, true, true, true, true, true, true, true, false, false] rfl rfl (any_of HT_.out (by kernel_rfl)) (fun _ _ _ h => h) (Or.inl ⟨by rfl, ?_⟩) ?_ ?_
    rotate_left
    ·intro w'
     go_simp
     with_reducible rfl
    rotate_left
    ·simp only [Act.put, List.setIfInBounds_toArray, List.set_cons_zero, List.set_cons_succ, i64_w, i32_w]
     rfl
    exact norm_ (by simp only [putAll, Act.put, List.setIfInBounds_toArray, List.set_cons_zero, List.set_cons_succ]) (hCont (gb199) _ ⟨hHeld, (nb BK170), (nb BK171), (nb BK185), (nb BK199), GW199.out, GE199.out, NB170_199.out, NB199_170.out, NB171_199.out, NB199_171.out, NB185_199.out, NB199_185.out, (by repeat (first | (with_reducible first | exact HB.out | apply below_alloc | apply pw_below_drewN | apply below_drew1 | refine below_set ?_ GE170.out | refine below_set ?_ GE171.out | refine below_set ?_ GE185.out | refine below_set ?_ GE199.out) | exact HB.out))⟩)
  rintro gb199 w92 ⟨hS_, h0_, h1_, h2_, h3_, h4_, h5_, h6_, h7_, h8_, h9_, h10_, h11_, h12_⟩
  have n0_ : Aside0 (w92.heap[gb170]? = some (.cells #[.int .i64 a0_0, .int .i64 a0_1, .int .i64 a0_2, .int .i64 a0_3] 24 (0, 0))) := ⟨h0_⟩
  have n1_ : Aside0 (w92.heap[gb171]? = some (.cells #[.int .i64 a1_0, .int .i64 a1_1, .int .i64 a1_2, .int .i64 a1_3] 24 (0, 0))) := ⟨h1_⟩
  have n2_ : Aside0 (w92.heap[gb185]? = some (.cells #[.int .i64 t180, .int .i64 t181, .int .i64 t182, .int .i64 t183] 26 (0, 0))) := ⟨h2_⟩
  have n3_ : Aside0 (w92.heap[gb199]? = some (.cells #[.int .i64 0, .int .i64 0, .int .i64 0, .int .i64 0] 26 (0, 0))) := ⟨h3_⟩
  have n4_ : Aside0 (w.heap.size ≤ gb199) := ⟨h4_⟩
  have n5_ : Aside0 (w.heap.size ≤ gb199) := ⟨h5_⟩
  have n6_ : Aside0 (gb170 ≠ gb199) := ⟨h6_⟩
  have n7_ : Aside0 (gb199 ≠ gb170) := ⟨h7_⟩
  have n8_ : Aside0 (gb171 ≠ gb199) := ⟨h8_⟩
  have n9_ : Aside0 (gb199 ≠ gb171) := ⟨h9_⟩
  have n10_ : Aside0 (gb185 ≠ gb199) := ⟨h10_⟩
  have n11_ : Aside0 (gb199 ≠ gb185) := ⟨h11_⟩
  have n12_ : Aside0 (Below w.heap.size w w92) := ⟨h12_⟩
  clear BK170 BK171 BK185 HB
  clear h0_ h1_ h2_ h3_ h4_ h5_ h6_ h7_ h8_ h9_ h10_ h11_ h12_
  have BK170 := n0_
  have BK171 := n1_
  have BK185 := n2_
  have BK199 := n3_
  have GW199 := n4_
  have GE199 := n5_
  have NB170_199 := n6_
  have NB199_170 := n7_
  have NB171_199 := n8_
  have NB199_171 := n9_
  have NB185_199 := n10_
  have NB199_185 := n11_
  have HB := n12_
  clear n0_ n1_ n2_ n3_ n4_ n5_ n6_ n7_ n8_ n9_ n10_ n11_ n12_
  have hHeld : w92.cell? ⟨gb170, 0, none⟩ = some (.int .i64 a0_0) ∧ w92.cell? ⟨gb170, 1, none⟩ = some (.int .i64 a0_1) ∧ w92.cell? ⟨gb170, 2, none⟩ = some (.int .i64 a0_2) ∧ w92.cell? ⟨gb170, 3, none⟩ = some (.int .i64 a0_3) ∧ w92.cell? ⟨gb171, 0, none⟩ = some (.int .i64 a1_0) ∧ w92.cell? ⟨gb171, 1, none⟩ = some (.int .i64 a1_1) ∧ w92.cell? ⟨gb171, 2, none⟩ = some (.int .i64 a1_2) ∧ w92.cell? ⟨gb171, 3, none⟩ = some (.int .i64 a1_3) := hS_
  refine norm_ (a' := ?_) ?_ ?_
  rotate_left
  ·simp only [putAll, Act.put, List.setIfInBounds_toArray, List.set_cons_zero, List.set_cons_succ]
   rfl
  refine one_ (i := 9) (N := none) #[true, true, true, true, true, true, true, true, true, true, false] rfl rfl (one_of HT_.out (by kernel_rfl)) (by decide) (fun K hK => ?_)
  have hs93 : w92.cell? ⟨gb199, 0, none⟩ = some (.int .i64 0) := (blk_cell BK199.out 0).trans rfl
  have hfs93 := blk_frozen BK199.out 0
  have hns93_0 := NB170_199.out
  have hns93_1 := NB171_199.out
  have hns93_2 := NB185_199.out
  have hms93_0 := NB199_170.out
  have hms93_1 := NB199_171.out
  have hms93_2 := NB199_185.out
  have hs94 : w92.cell? ⟨gb199, 1, none⟩ = some (.int .i64 0) := (blk_cell BK199.out 1).trans rfl
  have hfs94 := blk_frozen BK199.out 1
  have hns94_0 := NB170_199.out
  have hns94_1 := NB171_199.out
  have hns94_2 := NB185_199.out
  have hms94_0 := NB199_170.out
  have hms94_1 := NB199_171.out
  have hms94_2 := NB199_185.out
  have hs95 : w92.cell? ⟨gb199, 2, none⟩ = some (.int .i64 0) := (blk_cell BK199.out 2).trans rfl
  have hfs95 := blk_frozen BK199.out 2
  have hns95_0 := NB170_199.out
  have hns95_1 := NB171_199.out
  have hns95_2 := NB185_199.out
  have hms95_0 := NB199_170.out
  have hms95_1 := NB199_171.out
  have hms95_2 := NB199_185.out
  have hs96 : w92.cell? ⟨gb199, 3, none⟩ = some (.int .i64 0) := (blk_cell BK199.out 3).trans rfl
  have hfs96 := blk_frozen BK199.out 3
  have hns96_0 := NB170_199.out
  have hns96_1 := NB171_199.out
  have hns96_2 := NB185_199.out
  have hms96_0 := NB199_170.out
  have hms96_1 := NB199_171.out
  have hms96_2 := NB199_185.out
  refine skip_ (w1 := ?_) (by rfl) rfl ?_ ?_
  rotate_left
  ·go_simp
   rfl
  refine hK.out _ _ ⟨(g4 NB170_199.out hHeld.1), (g4 NB170_199.out hHeld.2.1), (g4 NB170_199.out hHeld.2.2.1), (g4 NB170_199.out hHeld.2.2.2.1), (g4 NB171_199.out hHeld.2.2.2.2.1), (g4 NB171_199.out hHeld.2.2.2.2.2.1), (g4 NB171_199.out hHeld.2.2.2.2.2.2.1), (g4 NB171_199.out hHeld.2.2.2.2.2.2.2)⟩ (fun hHeld => ?_)
  clear hK K
  refine pure_ (i := 10) (N := some 8) (v := ?_) (a' := ?_) #[true, true, true, true, true, true, true, true, true, true, true] rfl rfl (any_of HT_.out (by kernel_rfl)) (fun _ _ _ h => h) (Or.inl ⟨by rfl, ?_⟩) ?_ ?_
  rotate_left
  ·intro w'
   go_simp
   with_reducible rfl
  rotate_left
  ·simp only [Act.put, List.setIfInBounds_toArray, List.set_cons_zero, List.set_cons_succ, i64_w, i32_w]
   rfl
  refine done_ (done_of HT_.out (by kernel_rfl)) ?_
  have hnb97 := NB199_170.out
  have hnc97 := NB170_199.out
  have hnb98 := NB199_171.out
  have hnc98 := NB171_199.out
  have hnb99 := NB199_185.out
  have hnc99 := NB185_199.out
  have hcz100_0 : w92.cell? ⟨gb199, 0, none⟩ = some (.int .i64 0) := (blk_cell BK199.out 0).trans rfl
  have hcz100_1 : w92.cell? ⟨gb199, 1, none⟩ = some (.int .i64 0) := (blk_cell BK199.out 1).trans rfl
  have hcz100_2 : w92.cell? ⟨gb199, 2, none⟩ = some (.int .i64 0) := (blk_cell BK199.out 2).trans rfl
  have hcz100_3 : w92.cell? ⟨gb199, 3, none⟩ = some (.int .i64 0) := (blk_cell BK199.out 3).trans rfl
  have hfz100_0 := blk_frozen BK199.out 0
  have hfz100_1 := blk_frozen BK199.out 1
  have hfz100_2 := blk_frozen BK199.out 2
  have hfz100_3 := blk_frozen BK199.out 3
  have hnb101 := NB185_170.out
  have hnc101 := NB170_185.out
  have hnb102 := NB185_171.out
  have hnc102 := NB171_185.out
  have hcz103_0 : w92.cell? ⟨gb185, 0, none⟩ = some (.int .i64 t180) := (blk_cell BK185.out 0).trans rfl
  have hcz103_1 : w92.cell? ⟨gb185, 1, none⟩ = some (.int .i64 t181) := (blk_cell BK185.out 1).trans rfl
  have hcz103_2 : w92.cell? ⟨gb185, 2, none⟩ = some (.int .i64 t182) := (blk_cell BK185.out 2).trans rfl
  have hcz103_3 : w92.cell? ⟨gb185, 3, none⟩ = some (.int .i64 t183) := (blk_cell BK185.out 3).trans rfl
  have hfz103_0 := blk_frozen BK185.out 0
  have hfz103_1 := blk_frozen BK185.out 1
  have hfz103_2 := blk_frozen BK185.out 2
  have hfz103_3 := blk_frozen BK185.out 3
  try go_wp2_with (first | ((with_reducible refine gate_callee (f := 27) rfl ?_); refine goesM (some 27) rfl rfl Try.func27 (by kernel_rfl) rfl #[.agg #[.int .i64 t194, .int .i64 t195, .int .i64 t196, .int .i64 t197], .agg #[.int .i64 t180, .int .i64 t181, .int .i64 t182, .int .i64 t183]] rfl ?_; (with_reducible refine (laws_eqKey.calls t194 t195 t196 t197 t180 t181 t182 t183 false _ A9.out).mono ?_); rintro e w104 ⟨rfl, hb⟩; refine ⟨_, rfl, ?_⟩; have n0_ := nblk BK170 hb; have n1_ := nblk BK171 hb; have n2_ := nblk BK185 hb; have n3_ := Aside0.mk (blk_below (g := gb199) (o := .cells #[.int .i64 t194, .int .i64 t195, .int .i64 t196, .int .i64 t197] 26 (0, 0)) (by (with_reducible repeat (first | refine blk_drewN ?_ _ | refine blk_drew ?_ | refine blk_alloc ?_ _)); refine blk_put (cs := #[.int .i64 t194, .int .i64 t195, .int .i64 t196, .int .i64 0]) ?_ 3 _ rfl; (with_reducible repeat (first | refine blk_drewN ?_ _ | refine blk_drew ?_ | refine blk_alloc ?_ _)); refine blk_put (cs := #[.int .i64 t194, .int .i64 t195, .int .i64 0, .int .i64 0]) ?_ 2 _ rfl; (with_reducible repeat (first | refine blk_drewN ?_ _ | refine blk_drew ?_ | refine blk_alloc ?_ _)); refine blk_put (cs := #[.int .i64 t194, .int .i64 0, .int .i64 0, .int .i64 0]) ?_ 1 _ rfl; (with_reducible repeat (first | refine blk_drewN ?_ _ | refine blk_drew ?_ | refine blk_alloc ?_ _)); refine blk_put (cs := #[.int .i64 0, .int .i64 0, .int .i64 0, .int .i64 0]) ?_ 0 _ rfl; (with_reducible repeat (first | refine blk_drewN ?_ _ | refine blk_drew ?_ | refine blk_alloc ?_ _)); exact BK199.out) hb); have n4_ := nbs HB hb; clear BK170 BK171 BK185 BK199 HB; have BK170 := n0_; have BK171 := n1_; have BK185 := n2_; have BK199 := n3_; have HB := n4_; clear n0_ n1_ n2_ n3_ n4_; (try clear hb)))
  go_ret
  exact ⟨by first | rfl | (simp [errW_none, errW_some] <;> rfl) | (simp [*, errW_none, errW_some] <;> rfl), by repeat (first | (with_reducible first | exact HB.out | apply below_alloc | apply pw_below_drewN | apply below_drew1 | refine below_set ?_ GE170.out | refine below_set ?_ GE171.out | refine below_set ?_ GE185.out | refine below_set ?_ GE199.out) | exact HB.out)⟩

end Go.Proofs.Ytfhemgmfhbjoeaa.PFnExactMeet
