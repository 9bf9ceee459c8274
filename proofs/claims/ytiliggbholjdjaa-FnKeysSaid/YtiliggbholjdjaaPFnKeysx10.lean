-- Written by a program of this session (wip/patch.py turns a copy of the kit's print): the functions that the law reaches, and their walks.
import Derived.Test.YtiliggbholjdjaaPFnKeysx0
import Derived.Test.YtiliggbholjdjaaPFnKeysx1
import Derived.Test.YtiliggbholjdjaaPFnKeysx5
import Derived.Test.YtiliggbholjdjaaPFnKeysx6
import Derived.Test.YtiliggbholjdjaaPFnKeysx8
import Derived.Test.YtiliggbholjdjaaPFnKeysx9
import Derived.Test.YtiliggbholjdjaaCFnKeys
namespace Go.Proofs.Ytiliggbholjdjaa.PFnKeys
open Go.RowKit Go.Proofs.YtiliggbholjdjaaW.PrintWords Go.Proofs.YtiliggbholjdjaaW.PrintLast Go.Proofs.YtiliggbholjdjaaW.PrintMore Go.Proofs.YtiliggbholjdjaaW.Mine
attribute [local go_sem] max2_int min2_int max_two min_two max_three min_three max_four min_four   -- for this text's walks alone
set_option linter.unusedVariables false
set_option linter.unusedSimpArgs false

/-! ### laws_FnKeys: function 4 -/
mutual
def laws_FnKeys.j0 : Nat → Bool → Bool → Bool → Int → Int → Int → Int → Int → Int → Int → Int → Int → Int → Int → Int → Int → Int → Int → Int → Int → Int → Int → Int → Int → Int → Int → Int → Option (Bool)
 | 0, _, _, _, _, _, _, _, _, _, _, _, _, _, _, _, _, _, _, _, _, _, _, _, _, _, _, _ => none
 | k + 1, x5, x9, x58, x334000, x334001, x334002, x334003, x335000, x335001, x335002, x335003, x345000, x345001, x345002, x345003, x346000, x346001, x346002, x346003, x352000, x352001, x352002, x352003, x363000, x363001, x363002, x363003 => if x58 = true then (some false) else (if x9 = true then ((impl_Covers.f k x345000 x345001 x345002 x345003 x352000 x352001 x352002 x352003).bind fun t366 => (if t366 = true then ((impl_Covers.f k x346000 x346001 x346002 x346003 x352000 x352001 x352002 x352003).bind fun t367 => (if t367 = true then (laws_FnKeys.j1 k x5 (x352003 != 0) x334000 x334001 x334002 x334003 x335000 x335001 x335002 x335003 x363000 x363001 x363002 x363003) else (laws_FnKeys.j1 k x5 true x334000 x334001 x334002 x334003 x335000 x335001 x335002 x335003 x363000 x363001 x363002 x363003))) else (laws_FnKeys.j1 k x5 true x334000 x334001 x334002 x334003 x335000 x335001 x335002 x335003 x363000 x363001 x363002 x363003))) else (laws_FnKeys.j1 k x5 false x334000 x334001 x334002 x334003 x335000 x335001 x335002 x335003 x363000 x363001 x363002 x363003))
def laws_FnKeys.j1 : Nat → Bool → Bool → Int → Int → Int → Int → Int → Int → Int → Int → Int → Int → Int → Int → Option (Bool)
 | 0, _, _, _, _, _, _, _, _, _, _, _, _, _, _ => none
 | k + 1, x5, x76, x334000, x334001, x334002, x334003, x335000, x335001, x335002, x335003, x363000, x363001, x363002, x363003 => if x76 = true then (some false) else (if x5 = true then ((impl_Covers.f k x335000 x335001 x335002 x335003 x363000 x363001 x363002 x363003).bind fun t368 => (if t368 = true then ((impl_Covers.f k x334000 x334001 x334002 x334003 x363000 x363001 x363002 x363003).bind fun t369 => (laws_FnKeys.j2 k (!t369) x363000 x363001 x363002 x363003)) else (laws_FnKeys.j2 k false x363000 x363001 x363002 x363003))) else (laws_FnKeys.j2 k false x363000 x363001 x363002 x363003))
def laws_FnKeys.j2 : Nat → Bool → Int → Int → Int → Int → Option (Bool)
 | 0, _, _, _, _, _ => none
 | k + 1, x88, x363000, x363001, x363002, x363003 => if x88 = true then (some false) else ((impl_Root.f).bind fun bt370 => ((impl_KeyOk.f k bt370.1 bt370.2.1 bt370.2.2.1 bt370.2.2.2).bind fun t374 => (if t374 = true then ((impl_KeyOk.f k x363000 x363001 x363002 x363003).bind fun t375 => (if t375 = true then ((impl_Root.f).bind fun bt376 => ((impl_Covers.f k bt376.1 bt376.2.1 bt376.2.2.1 bt376.2.2.2 x363000 x363001 x363002 x363003).bind fun t380 => (if t380 = true then ((impl_Covers.f k x363000 x363001 x363002 x363003 x363000 x363001 x363002 x363003).bind fun t381 => (some t381)) else (some false)))) else (some true))) else (some false))))
end
def laws_FnKeys.f (k : Nat) (l0 : List Int) : Option (Bool) := (laws_big.f l0).bind fun t324 => (if t324 = true then (some true) else ((spec_DrawCovers.f k l0).bind fun bt325 => ((impl_Covers.f k bt325.1 bt325.2.1 bt325.2.2.1 bt325.2.2.2.1 bt325.2.2.2.2.1 bt325.2.2.2.2.2.1 bt325.2.2.2.2.2.2.1 bt325.2.2.2.2.2.2.2).bind fun t335 => ((spec_DrawMeet.f k l0).bind fun bt336 => ((impl_Meet.f k bt336.1 bt336.2.1 bt336.2.2.1 bt336.2.2.2.1 bt336.2.2.2.2.1 bt336.2.2.2.2.2.1 bt336.2.2.2.2.2.2.1 bt336.2.2.2.2.2.2.2).bind fun bt346 => ((spec_Meet.f k bt336.1 bt336.2.1 bt336.2.2.1 bt336.2.2.2.1 bt336.2.2.2.2.1 bt336.2.2.2.2.2.1 bt336.2.2.2.2.2.2.1 bt336.2.2.2.2.2.2.2).bind fun bt352 => ((spec_DrawKeyOk.f k l0).bind fun bt358 => ((spec_Covers.f k bt325.1 bt325.2.1 bt325.2.2.1 bt325.2.2.2.1 bt325.2.2.2.2.1 bt325.2.2.2.2.2.1 bt325.2.2.2.2.2.2.1 bt325.2.2.2.2.2.2.2).bind fun t363 => (if (t335 != t363) = true then (laws_FnKeys.j0 k t335 bt346.2.2.2.2 true bt325.1 bt325.2.1 bt325.2.2.1 bt325.2.2.2.1 bt325.2.2.2.2.1 bt325.2.2.2.2.2.1 bt325.2.2.2.2.2.2.1 bt325.2.2.2.2.2.2.2 bt336.1 bt336.2.1 bt336.2.2.1 bt336.2.2.2.1 bt336.2.2.2.2.1 bt336.2.2.2.2.2.1 bt336.2.2.2.2.2.2.1 bt336.2.2.2.2.2.2.2 bt346.1 bt346.2.1 bt346.2.2.1 bt346.2.2.2.1 bt358.1 bt358.2.1 bt358.2.2.1 bt358.2.2.2) else (if (bt346.2.2.2.2 != bt352.2.2.2.2) = true then (laws_FnKeys.j0 k t335 bt346.2.2.2.2 true bt325.1 bt325.2.1 bt325.2.2.1 bt325.2.2.2.1 bt325.2.2.2.2.1 bt325.2.2.2.2.2.1 bt325.2.2.2.2.2.2.1 bt325.2.2.2.2.2.2.2 bt336.1 bt336.2.1 bt336.2.2.1 bt336.2.2.2.1 bt336.2.2.2.2.1 bt336.2.2.2.2.2.1 bt336.2.2.2.2.2.2.1 bt336.2.2.2.2.2.2.2 bt346.1 bt346.2.1 bt346.2.2.1 bt346.2.2.2.1 bt358.1 bt358.2.1 bt358.2.2.1 bt358.2.2.2) else ((impl_KeyOk.f k bt358.1 bt358.2.1 bt358.2.2.1 bt358.2.2.2).bind fun t364 => ((spec_KeyOk.f k bt358.1 bt358.2.1 bt358.2.2.1 bt358.2.2.2).bind fun t365 => (laws_FnKeys.j0 k t335 bt346.2.2.2.2 (t364 != t365) bt325.1 bt325.2.1 bt325.2.2.1 bt325.2.2.2.1 bt325.2.2.2.2.1 bt325.2.2.2.2.2.1 bt325.2.2.2.2.2.2.1 bt325.2.2.2.2.2.2.2 bt336.1 bt336.2.1 bt336.2.2.1 bt336.2.2.2.1 bt336.2.2.2.2.1 bt336.2.2.2.2.2.1 bt336.2.2.2.2.2.2.1 bt336.2.2.2.2.2.2.2 bt346.1 bt346.2.1 bt346.2.2.1 bt346.2.2.2.1 bt358.1 bt358.2.1 bt358.2.2.1 bt358.2.2.2)))))))))))))
theorem laws_FnKeys.mono_l : ∀ k, (∀ y0 y1 y2 y3 y4 y5 y6 y7 y8 y9 y10 y11 y12 y13 y14 y15 y16 y17 y18 y19 y20 y21 y22 y23 y24 y25 y26, LeO (laws_FnKeys.j0 k y0 y1 y2 y3 y4 y5 y6 y7 y8 y9 y10 y11 y12 y13 y14 y15 y16 y17 y18 y19 y20 y21 y22 y23 y24 y25 y26) (laws_FnKeys.j0 (k + 1) y0 y1 y2 y3 y4 y5 y6 y7 y8 y9 y10 y11 y12 y13 y14 y15 y16 y17 y18 y19 y20 y21 y22 y23 y24 y25 y26)) ∧ (∀ y0 y1 y2 y3 y4 y5 y6 y7 y8 y9 y10 y11 y12 y13, LeO (laws_FnKeys.j1 k y0 y1 y2 y3 y4 y5 y6 y7 y8 y9 y10 y11 y12 y13) (laws_FnKeys.j1 (k + 1) y0 y1 y2 y3 y4 y5 y6 y7 y8 y9 y10 y11 y12 y13)) ∧ (∀ y0 y1 y2 y3 y4, LeO (laws_FnKeys.j2 k y0 y1 y2 y3 y4) (laws_FnKeys.j2 (k + 1) y0 y1 y2 y3 y4))
 | 0 => ⟨fun _ _ _ _ _ _ _ _ _ _ _ _ _ _ _ _ _ _ _ _ _ _ _ _ _ _ _ r h => by simp [laws_FnKeys.j0] at h, fun _ _ _ _ _ _ _ _ _ _ _ _ _ _ r h => by simp [laws_FnKeys.j1] at h, fun _ _ _ _ _ r h => by simp [laws_FnKeys.j2] at h⟩
 | k + 1 => by
  obtain ⟨ih0, ih1, ih2⟩ := laws_FnKeys.mono_l k
  refine ⟨?_, ?_, ?_⟩
  ·intro y0 y1 y2 y3 y4 y5 y6 y7 y8 y9 y10 y11 y12 y13 y14 y15 y16 y17 y18 y19 y20 y21 y22 y23 y24 y25 y26
   unfold laws_FnKeys.j0
   repeat' first
   | (with_reducible exact ih0 _ _ _ _ _ _ _ _ _ _ _ _ _ _ _ _ _ _ _ _ _ _ _ _ _ _ _)
   | (with_reducible exact ih1 _ _ _ _ _ _ _ _ _ _ _ _ _ _)
   | (with_reducible exact ih2 _ _ _ _ _)
   | (with_reducible exact impl_Covers.mono _ _ _ _ _ _ _ _ _)
   | (with_reducible exact impl_KeyOk.mono _ _ _ _ _)
   | (with_reducible exact impl_Meet.mono _ _ _ _ _ _ _ _ _)
   | (with_reducible exact spec_Covers.mono _ _ _ _ _ _ _ _ _)
   | (with_reducible exact spec_DrawCovers.mono _ _)
   | (with_reducible exact spec_DrawKeyOk.mono _ _)
   | (with_reducible exact spec_DrawMeet.mono _ _)
   | (with_reducible exact spec_KeyOk.mono _ _ _ _ _)
   | (with_reducible exact spec_Meet.mono _ _ _ _ _ _ _ _ _)
   | (with_reducible exact LeO.refl _)
   | (with_reducible exact LeO.none _)
   | (with_reducible refine LeO.ite ?_ ?_)
   | (with_reducible refine LeO.bind ?_ (fun _ => ?_))
   | exact ih0 _ _ _ _ _ _ _ _ _ _ _ _ _ _ _ _ _ _ _ _ _ _ _ _ _ _ _
   | exact ih1 _ _ _ _ _ _ _ _ _ _ _ _ _ _
   | exact ih2 _ _ _ _ _
   | exact impl_Covers.mono _ _ _ _ _ _ _ _ _
   | exact impl_KeyOk.mono _ _ _ _ _
   | exact impl_Meet.mono _ _ _ _ _ _ _ _ _
   | exact spec_Covers.mono _ _ _ _ _ _ _ _ _
   | exact spec_DrawCovers.mono _ _
   | exact spec_DrawKeyOk.mono _ _
   | exact spec_DrawMeet.mono _ _
   | exact spec_KeyOk.mono _ _ _ _ _
   | exact spec_Meet.mono _ _ _ _ _ _ _ _ _
   | exact LeO.none _
   | refine LeO.ite ?_ ?_
   | refine LeO.bind ?_ (fun _ => ?_)
  ·intro y0 y1 y2 y3 y4 y5 y6 y7 y8 y9 y10 y11 y12 y13
   unfold laws_FnKeys.j1
   repeat' first
   | (with_reducible exact ih0 _ _ _ _ _ _ _ _ _ _ _ _ _ _ _ _ _ _ _ _ _ _ _ _ _ _ _)
   | (with_reducible exact ih1 _ _ _ _ _ _ _ _ _ _ _ _ _ _)
   | (with_reducible exact ih2 _ _ _ _ _)
   | (with_reducible exact impl_Covers.mono _ _ _ _ _ _ _ _ _)
   | (with_reducible exact impl_KeyOk.mono _ _ _ _ _)
   | (with_reducible exact impl_Meet.mono _ _ _ _ _ _ _ _ _)
   | (with_reducible exact spec_Covers.mono _ _ _ _ _ _ _ _ _)
   | (with_reducible exact spec_DrawCovers.mono _ _)
   | (with_reducible exact spec_DrawKeyOk.mono _ _)
   | (with_reducible exact spec_DrawMeet.mono _ _)
   | (with_reducible exact spec_KeyOk.mono _ _ _ _ _)
   | (with_reducible exact spec_Meet.mono _ _ _ _ _ _ _ _ _)
   | (with_reducible exact LeO.refl _)
   | (with_reducible exact LeO.none _)
   | (with_reducible refine LeO.ite ?_ ?_)
   | (with_reducible refine LeO.bind ?_ (fun _ => ?_))
   | exact ih0 _ _ _ _ _ _ _ _ _ _ _ _ _ _ _ _ _ _ _ _ _ _ _ _ _ _ _
   | exact ih1 _ _ _ _ _ _ _ _ _ _ _ _ _ _
   | exact ih2 _ _ _ _ _
   | exact impl_Covers.mono _ _ _ _ _ _ _ _ _
   | exact impl_KeyOk.mono _ _ _ _ _
   | exact impl_Meet.mono _ _ _ _ _ _ _ _ _
   | exact spec_Covers.mono _ _ _ _ _ _ _ _ _
   | exact spec_DrawCovers.mono _ _
   | exact spec_DrawKeyOk.mono _ _
   | exact spec_DrawMeet.mono _ _
   | exact spec_KeyOk.mono _ _ _ _ _
   | exact spec_Meet.mono _ _ _ _ _ _ _ _ _
   | exact LeO.none _
   | refine LeO.ite ?_ ?_
   | refine LeO.bind ?_ (fun _ => ?_)
  ·intro y0 y1 y2 y3 y4
   unfold laws_FnKeys.j2
   repeat' first
   | (with_reducible exact ih0 _ _ _ _ _ _ _ _ _ _ _ _ _ _ _ _ _ _ _ _ _ _ _ _ _ _ _)
   | (with_reducible exact ih1 _ _ _ _ _ _ _ _ _ _ _ _ _ _)
   | (with_reducible exact ih2 _ _ _ _ _)
   | (with_reducible exact impl_Covers.mono _ _ _ _ _ _ _ _ _)
   | (with_reducible exact impl_KeyOk.mono _ _ _ _ _)
   | (with_reducible exact impl_Meet.mono _ _ _ _ _ _ _ _ _)
   | (with_reducible exact spec_Covers.mono _ _ _ _ _ _ _ _ _)
   | (with_reducible exact spec_DrawCovers.mono _ _)
   | (with_reducible exact spec_DrawKeyOk.mono _ _)
   | (with_reducible exact spec_DrawMeet.mono _ _)
   | (with_reducible exact spec_KeyOk.mono _ _ _ _ _)
   | (with_reducible exact spec_Meet.mono _ _ _ _ _ _ _ _ _)
   | (with_reducible exact LeO.refl _)
   | (with_reducible exact LeO.none _)
   | (with_reducible refine LeO.ite ?_ ?_)
   | (with_reducible refine LeO.bind ?_ (fun _ => ?_))
   | exact ih0 _ _ _ _ _ _ _ _ _ _ _ _ _ _ _ _ _ _ _ _ _ _ _ _ _ _ _
   | exact ih1 _ _ _ _ _ _ _ _ _ _ _ _ _ _
   | exact ih2 _ _ _ _ _
   | exact impl_Covers.mono _ _ _ _ _ _ _ _ _
   | exact impl_KeyOk.mono _ _ _ _ _
   | exact impl_Meet.mono _ _ _ _ _ _ _ _ _
   | exact spec_Covers.mono _ _ _ _ _ _ _ _ _
   | exact spec_DrawCovers.mono _ _
   | exact spec_DrawKeyOk.mono _ _
   | exact spec_DrawMeet.mono _ _
   | exact spec_KeyOk.mono _ _ _ _ _
   | exact spec_Meet.mono _ _ _ _ _ _ _ _ _
   | exact LeO.none _
   | refine LeO.ite ?_ ?_
   | refine LeO.bind ?_ (fun _ => ?_)
theorem laws_FnKeys.mono : ∀ a0 k, LeO (laws_FnKeys.f k a0) (laws_FnKeys.f (k + 1) a0) := by
 intro a0 k
 obtain ⟨ih0, ih1, ih2⟩ := laws_FnKeys.mono_l k
 unfold laws_FnKeys.f
 repeat' first
   | (with_reducible exact ih0 _ _ _ _ _ _ _ _ _ _ _ _ _ _ _ _ _ _ _ _ _ _ _ _ _ _ _)
   | (with_reducible exact ih1 _ _ _ _ _ _ _ _ _ _ _ _ _ _)
   | (with_reducible exact ih2 _ _ _ _ _)
   | (with_reducible exact impl_Covers.mono _ _ _ _ _ _ _ _ _)
   | (with_reducible exact impl_KeyOk.mono _ _ _ _ _)
   | (with_reducible exact impl_Meet.mono _ _ _ _ _ _ _ _ _)
   | (with_reducible exact spec_Covers.mono _ _ _ _ _ _ _ _ _)
   | (with_reducible exact spec_DrawCovers.mono _ _)
   | (with_reducible exact spec_DrawKeyOk.mono _ _)
   | (with_reducible exact spec_DrawMeet.mono _ _)
   | (with_reducible exact spec_KeyOk.mono _ _ _ _ _)
   | (with_reducible exact spec_Meet.mono _ _ _ _ _ _ _ _ _)
   | (with_reducible exact LeO.refl _)
   | (with_reducible exact LeO.none _)
   | (with_reducible refine LeO.ite ?_ ?_)
   | (with_reducible refine LeO.bind ?_ (fun _ => ?_))
   | exact ih0 _ _ _ _ _ _ _ _ _ _ _ _ _ _ _ _ _ _ _ _ _ _ _ _ _ _ _
   | exact ih1 _ _ _ _ _ _ _ _ _ _ _ _ _ _
   | exact ih2 _ _ _ _ _
   | exact impl_Covers.mono _ _ _ _ _ _ _ _ _
   | exact impl_KeyOk.mono _ _ _ _ _
   | exact impl_Meet.mono _ _ _ _ _ _ _ _ _
   | exact spec_Covers.mono _ _ _ _ _ _ _ _ _
   | exact spec_DrawCovers.mono _ _
   | exact spec_DrawKeyOk.mono _ _
   | exact spec_DrawMeet.mono _ _
   | exact spec_KeyOk.mono _ _ _ _ _
   | exact spec_Meet.mono _ _ _ _ _ _ _ _ _
   | exact LeO.none _
   | refine LeO.ite ?_ ?_
   | refine LeO.bind ?_ (fun _ => ?_)
def laws_FnKeys.T9 : Bool × List (List Nat × List Nat) := (true, [([], []), ([], []), ([], []), ([1, 2], [1, 2]), ([0, 3], [0, 3]), ([4, 3], [4]), ([5], [5]), ([5], [5]), ([6, 7, 5], [5, 6, 7]), ([5, 8], [5, 8]), ([9, 5], [9]), ([10], [10]), ([11, 10, 10], [10, 11]), ([10], [10]), ([13, 12, 10], [10, 13]), ([12, 14, 10], [10, 12, 14]), ([10, 15], [10, 15])])
def laws_FnKeys.B9 : List Nat := [0, 0, 0, 6, 15, 31, 63, 63, 255, 511, 1023, 2047, 4095, 2047, 16383, 32767, 65535]
theorem laws_FnKeys.tab9 : rtab .any (opsOf Try.f4 9) = laws_FnKeys.T9 := by kernel_rfl
theorem laws_FnKeys.bits9 : waitsOk laws_FnKeys.T9.2 laws_FnKeys.B9 = true := by kernel_rfl
def laws_FnKeys.T15 : Bool × List (List Nat × List Nat) := (true, [([], []), ([0, 0], [0]), ([1, 1], [1]), ([2], [2]), ([3, 2, 2], [2, 3]), ([4, 2], [2, 4]), ([5, 4, 2], [2, 5]), ([6, 6], [6]), ([6], [6]), ([7, 8, 7, 6], [6, 7, 8]), ([9, 9, 6], [6, 9]), ([10], [10]), ([10], [10]), ([11, 12, 10, 10], [10, 11, 12]), ([10, 13, 6], [6, 10, 13]), ([6, 14, 2], [2, 6, 14]), ([2, 15], [2, 15]), ([16, 13, 0, 1, 2, 3, 4, 5, 6, 7, 8, 9, 10, 11, 12, 13, 14, 15, 16], [16])])
def laws_FnKeys.B15 : List Nat := [0, 1, 3, 7, 15, 31, 63, 127, 127, 511, 1023, 2047, 2047, 8191, 16383, 32767, 65535, 131071]
theorem laws_FnKeys.tab15 : rtab .any (opsOf Try.f4 15) = laws_FnKeys.T15 := by kernel_rfl
theorem laws_FnKeys.bits15 : waitsOk laws_FnKeys.T15.2 laws_FnKeys.B15 = true := by kernel_rfl
set_option maxHeartbeats 8000000 in
set_option maxRecDepth 100000 in
theorem laws_FnKeys.calls (k : Nat) (A0 : Option Addr) (c0 : Nat) (l0 : List Int) (r : Bool) (w : World) (hr0 : Kd.C (Kd.int .u8) w A0 l0.length l0) (hc0 : l0.length ≤ c0) (h : laws_FnKeys.f k l0 = some r) :
  Calls Try.prog 4 #[.slice A0 l0.length c0] w fun e w' => e = .returned (.bool r) ∧ Below w.heap.size w w' := by
 have hu25 := Try.underlying25
 have HR0 := Aside0.mk hr0
 have HC0 := Aside0.mk hc0
 clear hr0 hc0
 have HB := Aside0.mk (Below.refl w.heap.size w)
 have H : ((laws_big.f l0).bind fun t324 => (if t324 = true then (some true) else ((spec_DrawCovers.f k l0).bind fun bt325 => ((impl_Covers.f k bt325.1 bt325.2.1 bt325.2.2.1 bt325.2.2.2.1 bt325.2.2.2.2.1 bt325.2.2.2.2.2.1 bt325.2.2.2.2.2.2.1 bt325.2.2.2.2.2.2.2).bind fun t335 => ((spec_DrawMeet.f k l0).bind fun bt336 => ((impl_Meet.f k bt336.1 bt336.2.1 bt336.2.2.1 bt336.2.2.2.1 bt336.2.2.2.2.1 bt336.2.2.2.2.2.1 bt336.2.2.2.2.2.2.1 bt336.2.2.2.2.2.2.2).bind fun bt346 => ((spec_Meet.f k bt336.1 bt336.2.1 bt336.2.2.1 bt336.2.2.2.1 bt336.2.2.2.2.1 bt336.2.2.2.2.2.1 bt336.2.2.2.2.2.2.1 bt336.2.2.2.2.2.2.2).bind fun bt352 => ((spec_DrawKeyOk.f k l0).bind fun bt358 => ((spec_Covers.f k bt325.1 bt325.2.1 bt325.2.2.1 bt325.2.2.2.1 bt325.2.2.2.2.1 bt325.2.2.2.2.2.1 bt325.2.2.2.2.2.2.1 bt325.2.2.2.2.2.2.2).bind fun t363 => (if (t335 != t363) = true then (laws_FnKeys.j0 k t335 bt346.2.2.2.2 true bt325.1 bt325.2.1 bt325.2.2.1 bt325.2.2.2.1 bt325.2.2.2.2.1 bt325.2.2.2.2.2.1 bt325.2.2.2.2.2.2.1 bt325.2.2.2.2.2.2.2 bt336.1 bt336.2.1 bt336.2.2.1 bt336.2.2.2.1 bt336.2.2.2.2.1 bt336.2.2.2.2.2.1 bt336.2.2.2.2.2.2.1 bt336.2.2.2.2.2.2.2 bt346.1 bt346.2.1 bt346.2.2.1 bt346.2.2.2.1 bt358.1 bt358.2.1 bt358.2.2.1 bt358.2.2.2) else (if (bt346.2.2.2.2 != bt352.2.2.2.2) = true then (laws_FnKeys.j0 k t335 bt346.2.2.2.2 true bt325.1 bt325.2.1 bt325.2.2.1 bt325.2.2.2.1 bt325.2.2.2.2.1 bt325.2.2.2.2.2.1 bt325.2.2.2.2.2.2.1 bt325.2.2.2.2.2.2.2 bt336.1 bt336.2.1 bt336.2.2.1 bt336.2.2.2.1 bt336.2.2.2.2.1 bt336.2.2.2.2.2.1 bt336.2.2.2.2.2.2.1 bt336.2.2.2.2.2.2.2 bt346.1 bt346.2.1 bt346.2.2.1 bt346.2.2.2.1 bt358.1 bt358.2.1 bt358.2.2.1 bt358.2.2.2) else ((impl_KeyOk.f k bt358.1 bt358.2.1 bt358.2.2.1 bt358.2.2.2).bind fun t364 => ((spec_KeyOk.f k bt358.1 bt358.2.1 bt358.2.2.1 bt358.2.2.2).bind fun t365 => (laws_FnKeys.j0 k t335 bt346.2.2.2.2 (t364 != t365) bt325.1 bt325.2.1 bt325.2.2.1 bt325.2.2.2.1 bt325.2.2.2.2.1 bt325.2.2.2.2.2.1 bt325.2.2.2.2.2.2.1 bt325.2.2.2.2.2.2.2 bt336.1 bt336.2.1 bt336.2.2.1 bt336.2.2.2.1 bt336.2.2.2.2.1 bt336.2.2.2.2.2.1 bt336.2.2.2.2.2.2.1 bt336.2.2.2.2.2.2.2 bt346.1 bt346.2.1 bt346.2.2.1 bt346.2.2.2.1 bt358.1 bt358.2.1 bt358.2.2.1 bt358.2.2.2)))))))))))))) = some r := h
 clear h
 replace H := Option.bind_eq_some_iff.mp H
 obtain ⟨t324, A20, H⟩ := H
 replace H : (if t324 = true then (some true) else ((spec_DrawCovers.f k l0).bind fun bt325 => ((impl_Covers.f k bt325.1 bt325.2.1 bt325.2.2.1 bt325.2.2.2.1 bt325.2.2.2.2.1 bt325.2.2.2.2.2.1 bt325.2.2.2.2.2.2.1 bt325.2.2.2.2.2.2.2).bind fun t335 => ((spec_DrawMeet.f k l0).bind fun bt336 => ((impl_Meet.f k bt336.1 bt336.2.1 bt336.2.2.1 bt336.2.2.2.1 bt336.2.2.2.2.1 bt336.2.2.2.2.2.1 bt336.2.2.2.2.2.2.1 bt336.2.2.2.2.2.2.2).bind fun bt346 => ((spec_Meet.f k bt336.1 bt336.2.1 bt336.2.2.1 bt336.2.2.2.1 bt336.2.2.2.2.1 bt336.2.2.2.2.2.1 bt336.2.2.2.2.2.2.1 bt336.2.2.2.2.2.2.2).bind fun bt352 => ((spec_DrawKeyOk.f k l0).bind fun bt358 => ((spec_Covers.f k bt325.1 bt325.2.1 bt325.2.2.1 bt325.2.2.2.1 bt325.2.2.2.2.1 bt325.2.2.2.2.2.1 bt325.2.2.2.2.2.2.1 bt325.2.2.2.2.2.2.2).bind fun t363 => (if (t335 != t363) = true then (laws_FnKeys.j0 k t335 bt346.2.2.2.2 true bt325.1 bt325.2.1 bt325.2.2.1 bt325.2.2.2.1 bt325.2.2.2.2.1 bt325.2.2.2.2.2.1 bt325.2.2.2.2.2.2.1 bt325.2.2.2.2.2.2.2 bt336.1 bt336.2.1 bt336.2.2.1 bt336.2.2.2.1 bt336.2.2.2.2.1 bt336.2.2.2.2.2.1 bt336.2.2.2.2.2.2.1 bt336.2.2.2.2.2.2.2 bt346.1 bt346.2.1 bt346.2.2.1 bt346.2.2.2.1 bt358.1 bt358.2.1 bt358.2.2.1 bt358.2.2.2) else (if (bt346.2.2.2.2 != bt352.2.2.2.2) = true then (laws_FnKeys.j0 k t335 bt346.2.2.2.2 true bt325.1 bt325.2.1 bt325.2.2.1 bt325.2.2.2.1 bt325.2.2.2.2.1 bt325.2.2.2.2.2.1 bt325.2.2.2.2.2.2.1 bt325.2.2.2.2.2.2.2 bt336.1 bt336.2.1 bt336.2.2.1 bt336.2.2.2.1 bt336.2.2.2.2.1 bt336.2.2.2.2.2.1 bt336.2.2.2.2.2.2.1 bt336.2.2.2.2.2.2.2 bt346.1 bt346.2.1 bt346.2.2.1 bt346.2.2.2.1 bt358.1 bt358.2.1 bt358.2.2.1 bt358.2.2.2) else ((impl_KeyOk.f k bt358.1 bt358.2.1 bt358.2.2.1 bt358.2.2.2).bind fun t364 => ((spec_KeyOk.f k bt358.1 bt358.2.1 bt358.2.2.1 bt358.2.2.2).bind fun t365 => (laws_FnKeys.j0 k t335 bt346.2.2.2.2 (t364 != t365) bt325.1 bt325.2.1 bt325.2.2.1 bt325.2.2.2.1 bt325.2.2.2.2.1 bt325.2.2.2.2.2.1 bt325.2.2.2.2.2.2.1 bt325.2.2.2.2.2.2.2 bt336.1 bt336.2.1 bt336.2.2.1 bt336.2.2.2.1 bt336.2.2.2.2.1 bt336.2.2.2.2.2.1 bt336.2.2.2.2.2.2.1 bt336.2.2.2.2.2.2.2 bt346.1 bt346.2.1 bt346.2.2.1 bt346.2.2.2.1 bt358.1 bt358.2.1 bt358.2.2.1 bt358.2.2.2))))))))))))) = some r := H
 have A2 := Aside0.mk A20
 clear A20
 by_cases c3 : t324 = true
 ·subst c3
  have H1 : (some true) = some r := by rw [if_pos rfl] at H; exact H
  clear H
  have H := H1
  clear H1
  obtain rfl := Option.some.inj H
  go_enter Try.func4, Try.ntmps4
  go_wp2_with (first | ((with_reducible refine gate_callee (f := 9) rfl ?_); refine goesM (some 14) rfl rfl Try.func9 (by kernel_rfl) rfl #[.slice A0 l0.length c0] rfl ?_; (with_reducible refine (laws_big.calls _ _ l0 true _ ?side1 ?side2 A2.out).mono ?_); (case side1 => repeat (first | exact HR0.out | (with_reducible refine Kd.C_alloc ?_ _) | (with_reducible refine Kd.C_drewN ?_ _) | (with_reducible refine Kd.C_drew ?_))); (case side2 => exact HC0.out); rintro e w' ⟨rfl, ⟨nd, rfl⟩⟩; refine ⟨_, rfl, ?_⟩))
  go_ret
  exact ⟨by first | rfl | (simp [errW_none, errW_some] <;> rfl) | (simp [*, errW_none, errW_some] <;> rfl), by repeat (first | (with_reducible first | exact HB.out | apply below_alloc | apply pw_below_drewN | apply below_drew1) | exact HB.out)⟩
 ·replace c3 := Bool.eq_false_iff.mpr c3
  subst c3
  have H1 : ((spec_DrawCovers.f k l0).bind fun bt325 => ((impl_Covers.f k bt325.1 bt325.2.1 bt325.2.2.1 bt325.2.2.2.1 bt325.2.2.2.2.1 bt325.2.2.2.2.2.1 bt325.2.2.2.2.2.2.1 bt325.2.2.2.2.2.2.2).bind fun t335 => ((spec_DrawMeet.f k l0).bind fun bt336 => ((impl_Meet.f k bt336.1 bt336.2.1 bt336.2.2.1 bt336.2.2.2.1 bt336.2.2.2.2.1 bt336.2.2.2.2.2.1 bt336.2.2.2.2.2.2.1 bt336.2.2.2.2.2.2.2).bind fun bt346 => ((spec_Meet.f k bt336.1 bt336.2.1 bt336.2.2.1 bt336.2.2.2.1 bt336.2.2.2.2.1 bt336.2.2.2.2.2.1 bt336.2.2.2.2.2.2.1 bt336.2.2.2.2.2.2.2).bind fun bt352 => ((spec_DrawKeyOk.f k l0).bind fun bt358 => ((spec_Covers.f k bt325.1 bt325.2.1 bt325.2.2.1 bt325.2.2.2.1 bt325.2.2.2.2.1 bt325.2.2.2.2.2.1 bt325.2.2.2.2.2.2.1 bt325.2.2.2.2.2.2.2).bind fun t363 => (if (t335 != t363) = true then (laws_FnKeys.j0 k t335 bt346.2.2.2.2 true bt325.1 bt325.2.1 bt325.2.2.1 bt325.2.2.2.1 bt325.2.2.2.2.1 bt325.2.2.2.2.2.1 bt325.2.2.2.2.2.2.1 bt325.2.2.2.2.2.2.2 bt336.1 bt336.2.1 bt336.2.2.1 bt336.2.2.2.1 bt336.2.2.2.2.1 bt336.2.2.2.2.2.1 bt336.2.2.2.2.2.2.1 bt336.2.2.2.2.2.2.2 bt346.1 bt346.2.1 bt346.2.2.1 bt346.2.2.2.1 bt358.1 bt358.2.1 bt358.2.2.1 bt358.2.2.2) else (if (bt346.2.2.2.2 != bt352.2.2.2.2) = true then (laws_FnKeys.j0 k t335 bt346.2.2.2.2 true bt325.1 bt325.2.1 bt325.2.2.1 bt325.2.2.2.1 bt325.2.2.2.2.1 bt325.2.2.2.2.2.1 bt325.2.2.2.2.2.2.1 bt325.2.2.2.2.2.2.2 bt336.1 bt336.2.1 bt336.2.2.1 bt336.2.2.2.1 bt336.2.2.2.2.1 bt336.2.2.2.2.2.1 bt336.2.2.2.2.2.2.1 bt336.2.2.2.2.2.2.2 bt346.1 bt346.2.1 bt346.2.2.1 bt346.2.2.2.1 bt358.1 bt358.2.1 bt358.2.2.1 bt358.2.2.2) else ((impl_KeyOk.f k bt358.1 bt358.2.1 bt358.2.2.1 bt358.2.2.2).bind fun t364 => ((spec_KeyOk.f k bt358.1 bt358.2.1 bt358.2.2.1 bt358.2.2.2).bind fun t365 => (laws_FnKeys.j0 k t335 bt346.2.2.2.2 (t364 != t365) bt325.1 bt325.2.1 bt325.2.2.1 bt325.2.2.2.1 bt325.2.2.2.2.1 bt325.2.2.2.2.2.1 bt325.2.2.2.2.2.2.1 bt325.2.2.2.2.2.2.2 bt336.1 bt336.2.1 bt336.2.2.1 bt336.2.2.2.1 bt336.2.2.2.2.1 bt336.2.2.2.2.2.1 bt336.2.2.2.2.2.2.1 bt336.2.2.2.2.2.2.2 bt346.1 bt346.2.1 bt346.2.2.1 bt346.2.2.2.1 bt358.1 bt358.2.1 bt358.2.2.1 bt358.2.2.2)))))))))))) = some r := by rw [if_neg (show ¬ (false = true) by decide)] at H; exact H
  clear H
  have H := H1
  clear H1
  replace H := Option.bind_eq_some_iff.mp H
  obtain ⟨⟨t325, t326, t327, t328, t329, t330, t331, t332⟩, A40, H⟩ := H
  replace H : ((impl_Covers.f k t325 t326 t327 t328 t329 t330 t331 t332).bind fun t335 => ((spec_DrawMeet.f k l0).bind fun bt336 => ((impl_Meet.f k bt336.1 bt336.2.1 bt336.2.2.1 bt336.2.2.2.1 bt336.2.2.2.2.1 bt336.2.2.2.2.2.1 bt336.2.2.2.2.2.2.1 bt336.2.2.2.2.2.2.2).bind fun bt346 => ((spec_Meet.f k bt336.1 bt336.2.1 bt336.2.2.1 bt336.2.2.2.1 bt336.2.2.2.2.1 bt336.2.2.2.2.2.1 bt336.2.2.2.2.2.2.1 bt336.2.2.2.2.2.2.2).bind fun bt352 => ((spec_DrawKeyOk.f k l0).bind fun bt358 => ((spec_Covers.f k t325 t326 t327 t328 t329 t330 t331 t332).bind fun t363 => (if (t335 != t363) = true then (laws_FnKeys.j0 k t335 bt346.2.2.2.2 true t325 t326 t327 t328 t329 t330 t331 t332 bt336.1 bt336.2.1 bt336.2.2.1 bt336.2.2.2.1 bt336.2.2.2.2.1 bt336.2.2.2.2.2.1 bt336.2.2.2.2.2.2.1 bt336.2.2.2.2.2.2.2 bt346.1 bt346.2.1 bt346.2.2.1 bt346.2.2.2.1 bt358.1 bt358.2.1 bt358.2.2.1 bt358.2.2.2) else (if (bt346.2.2.2.2 != bt352.2.2.2.2) = true then (laws_FnKeys.j0 k t335 bt346.2.2.2.2 true t325 t326 t327 t328 t329 t330 t331 t332 bt336.1 bt336.2.1 bt336.2.2.1 bt336.2.2.2.1 bt336.2.2.2.2.1 bt336.2.2.2.2.2.1 bt336.2.2.2.2.2.2.1 bt336.2.2.2.2.2.2.2 bt346.1 bt346.2.1 bt346.2.2.1 bt346.2.2.2.1 bt358.1 bt358.2.1 bt358.2.2.1 bt358.2.2.2) else ((impl_KeyOk.f k bt358.1 bt358.2.1 bt358.2.2.1 bt358.2.2.2).bind fun t364 => ((spec_KeyOk.f k bt358.1 bt358.2.1 bt358.2.2.1 bt358.2.2.2).bind fun t365 => (laws_FnKeys.j0 k t335 bt346.2.2.2.2 (t364 != t365) t325 t326 t327 t328 t329 t330 t331 t332 bt336.1 bt336.2.1 bt336.2.2.1 bt336.2.2.2.1 bt336.2.2.2.2.1 bt336.2.2.2.2.2.1 bt336.2.2.2.2.2.2.1 bt336.2.2.2.2.2.2.2 bt346.1 bt346.2.1 bt346.2.2.1 bt346.2.2.2.1 bt358.1 bt358.2.1 bt358.2.2.1 bt358.2.2.2))))))))))) = some r := H
  have A4 := Aside0.mk A40
  clear A40
  replace H := Option.bind_eq_some_iff.mp H
  obtain ⟨t335, A50, H⟩ := H
  replace H : ((spec_DrawMeet.f k l0).bind fun bt336 => ((impl_Meet.f k bt336.1 bt336.2.1 bt336.2.2.1 bt336.2.2.2.1 bt336.2.2.2.2.1 bt336.2.2.2.2.2.1 bt336.2.2.2.2.2.2.1 bt336.2.2.2.2.2.2.2).bind fun bt346 => ((spec_Meet.f k bt336.1 bt336.2.1 bt336.2.2.1 bt336.2.2.2.1 bt336.2.2.2.2.1 bt336.2.2.2.2.2.1 bt336.2.2.2.2.2.2.1 bt336.2.2.2.2.2.2.2).bind fun bt352 => ((spec_DrawKeyOk.f k l0).bind fun bt358 => ((spec_Covers.f k t325 t326 t327 t328 t329 t330 t331 t332).bind fun t363 => (if (t335 != t363) = true then (laws_FnKeys.j0 k t335 bt346.2.2.2.2 true t325 t326 t327 t328 t329 t330 t331 t332 bt336.1 bt336.2.1 bt336.2.2.1 bt336.2.2.2.1 bt336.2.2.2.2.1 bt336.2.2.2.2.2.1 bt336.2.2.2.2.2.2.1 bt336.2.2.2.2.2.2.2 bt346.1 bt346.2.1 bt346.2.2.1 bt346.2.2.2.1 bt358.1 bt358.2.1 bt358.2.2.1 bt358.2.2.2) else (if (bt346.2.2.2.2 != bt352.2.2.2.2) = true then (laws_FnKeys.j0 k t335 bt346.2.2.2.2 true t325 t326 t327 t328 t329 t330 t331 t332 bt336.1 bt336.2.1 bt336.2.2.1 bt336.2.2.2.1 bt336.2.2.2.2.1 bt336.2.2.2.2.2.1 bt336.2.2.2.2.2.2.1 bt336.2.2.2.2.2.2.2 bt346.1 bt346.2.1 bt346.2.2.1 bt346.2.2.2.1 bt358.1 bt358.2.1 bt358.2.2.1 bt358.2.2.2) else ((impl_KeyOk.f k bt358.1 bt358.2.1 bt358.2.2.1 bt358.2.2.2).bind fun t364 => ((spec_KeyOk.f k bt358.1 bt358.2.1 bt358.2.2.1 bt358.2.2.2).bind fun t365 => (laws_FnKeys.j0 k t335 bt346.2.2.2.2 (t364 != t365) t325 t326 t327 t328 t329 t330 t331 t332 bt336.1 bt336.2.1 bt336.2.2.1 bt336.2.2.2.1 bt336.2.2.2.2.1 bt336.2.2.2.2.2.1 bt336.2.2.2.2.2.2.1 bt336.2.2.2.2.2.2.2 bt346.1 bt346.2.1 bt346.2.2.1 bt346.2.2.2.1 bt358.1 bt358.2.1 bt358.2.2.1 bt358.2.2.2)))))))))) = some r := H
  have A5 := Aside0.mk A50
  clear A50
  replace H := Option.bind_eq_some_iff.mp H
  obtain ⟨⟨t336, t337, t338, t339, t340, t341, t342, t343⟩, A60, H⟩ := H
  replace H : ((impl_Meet.f k t336 t337 t338 t339 t340 t341 t342 t343).bind fun bt346 => ((spec_Meet.f k t336 t337 t338 t339 t340 t341 t342 t343).bind fun bt352 => ((spec_DrawKeyOk.f k l0).bind fun bt358 => ((spec_Covers.f k t325 t326 t327 t328 t329 t330 t331 t332).bind fun t363 => (if (t335 != t363) = true then (laws_FnKeys.j0 k t335 bt346.2.2.2.2 true t325 t326 t327 t328 t329 t330 t331 t332 t336 t337 t338 t339 t340 t341 t342 t343 bt346.1 bt346.2.1 bt346.2.2.1 bt346.2.2.2.1 bt358.1 bt358.2.1 bt358.2.2.1 bt358.2.2.2) else (if (bt346.2.2.2.2 != bt352.2.2.2.2) = true then (laws_FnKeys.j0 k t335 bt346.2.2.2.2 true t325 t326 t327 t328 t329 t330 t331 t332 t336 t337 t338 t339 t340 t341 t342 t343 bt346.1 bt346.2.1 bt346.2.2.1 bt346.2.2.2.1 bt358.1 bt358.2.1 bt358.2.2.1 bt358.2.2.2) else ((impl_KeyOk.f k bt358.1 bt358.2.1 bt358.2.2.1 bt358.2.2.2).bind fun t364 => ((spec_KeyOk.f k bt358.1 bt358.2.1 bt358.2.2.1 bt358.2.2.2).bind fun t365 => (laws_FnKeys.j0 k t335 bt346.2.2.2.2 (t364 != t365) t325 t326 t327 t328 t329 t330 t331 t332 t336 t337 t338 t339 t340 t341 t342 t343 bt346.1 bt346.2.1 bt346.2.2.1 bt346.2.2.2.1 bt358.1 bt358.2.1 bt358.2.2.1 bt358.2.2.2))))))))) = some r := H
  have A6 := Aside0.mk A60
  clear A60
  replace H := Option.bind_eq_some_iff.mp H
  obtain ⟨⟨t346, t347, t348, t349, t350⟩, A70, H⟩ := H
  replace H : ((spec_Meet.f k t336 t337 t338 t339 t340 t341 t342 t343).bind fun bt352 => ((spec_DrawKeyOk.f k l0).bind fun bt358 => ((spec_Covers.f k t325 t326 t327 t328 t329 t330 t331 t332).bind fun t363 => (if (t335 != t363) = true then (laws_FnKeys.j0 k t335 t350 true t325 t326 t327 t328 t329 t330 t331 t332 t336 t337 t338 t339 t340 t341 t342 t343 t346 t347 t348 t349 bt358.1 bt358.2.1 bt358.2.2.1 bt358.2.2.2) else (if (t350 != bt352.2.2.2.2) = true then (laws_FnKeys.j0 k t335 t350 true t325 t326 t327 t328 t329 t330 t331 t332 t336 t337 t338 t339 t340 t341 t342 t343 t346 t347 t348 t349 bt358.1 bt358.2.1 bt358.2.2.1 bt358.2.2.2) else ((impl_KeyOk.f k bt358.1 bt358.2.1 bt358.2.2.1 bt358.2.2.2).bind fun t364 => ((spec_KeyOk.f k bt358.1 bt358.2.1 bt358.2.2.1 bt358.2.2.2).bind fun t365 => (laws_FnKeys.j0 k t335 t350 (t364 != t365) t325 t326 t327 t328 t329 t330 t331 t332 t336 t337 t338 t339 t340 t341 t342 t343 t346 t347 t348 t349 bt358.1 bt358.2.1 bt358.2.2.1 bt358.2.2.2)))))))) = some r := H
  have A7 := Aside0.mk A70
  clear A70
  replace H := Option.bind_eq_some_iff.mp H
  obtain ⟨⟨t352, t353, t354, t355, t356⟩, A80, H⟩ := H
  replace H : ((spec_DrawKeyOk.f k l0).bind fun bt358 => ((spec_Covers.f k t325 t326 t327 t328 t329 t330 t331 t332).bind fun t363 => (if (t335 != t363) = true then (laws_FnKeys.j0 k t335 t350 true t325 t326 t327 t328 t329 t330 t331 t332 t336 t337 t338 t339 t340 t341 t342 t343 t346 t347 t348 t349 bt358.1 bt358.2.1 bt358.2.2.1 bt358.2.2.2) else (if (t350 != t356) = true then (laws_FnKeys.j0 k t335 t350 true t325 t326 t327 t328 t329 t330 t331 t332 t336 t337 t338 t339 t340 t341 t342 t343 t346 t347 t348 t349 bt358.1 bt358.2.1 bt358.2.2.1 bt358.2.2.2) else ((impl_KeyOk.f k bt358.1 bt358.2.1 bt358.2.2.1 bt358.2.2.2).bind fun t364 => ((spec_KeyOk.f k bt358.1 bt358.2.1 bt358.2.2.1 bt358.2.2.2).bind fun t365 => (laws_FnKeys.j0 k t335 t350 (t364 != t365) t325 t326 t327 t328 t329 t330 t331 t332 t336 t337 t338 t339 t340 t341 t342 t343 t346 t347 t348 t349 bt358.1 bt358.2.1 bt358.2.2.1 bt358.2.2.2))))))) = some r := H
  have A8 := Aside0.mk A80
  clear A80
  replace H := Option.bind_eq_some_iff.mp H
  obtain ⟨⟨t358, t359, t360, t361⟩, A90, H⟩ := H
  replace H : ((spec_Covers.f k t325 t326 t327 t328 t329 t330 t331 t332).bind fun t363 => (if (t335 != t363) = true then (laws_FnKeys.j0 k t335 t350 true t325 t326 t327 t328 t329 t330 t331 t332 t336 t337 t338 t339 t340 t341 t342 t343 t346 t347 t348 t349 t358 t359 t360 t361) else (if (t350 != t356) = true then (laws_FnKeys.j0 k t335 t350 true t325 t326 t327 t328 t329 t330 t331 t332 t336 t337 t338 t339 t340 t341 t342 t343 t346 t347 t348 t349 t358 t359 t360 t361) else ((impl_KeyOk.f k t358 t359 t360 t361).bind fun t364 => ((spec_KeyOk.f k t358 t359 t360 t361).bind fun t365 => (laws_FnKeys.j0 k t335 t350 (t364 != t365) t325 t326 t327 t328 t329 t330 t331 t332 t336 t337 t338 t339 t340 t341 t342 t343 t346 t347 t348 t349 t358 t359 t360 t361)))))) = some r := H
  have A9 := Aside0.mk A90
  clear A90
  have HC10 := Aside0.mk H
  clear H
  go_enter Try.func4, Try.ntmps4
  go_upto_region 9 with (first | ((with_reducible refine gate_callee (f := 9) rfl ?_); refine goesM (some 14) rfl rfl Try.func9 (by kernel_rfl) rfl #[.slice A0 l0.length c0] rfl ?_; (with_reducible refine (laws_big.calls _ _ l0 false _ ?side1 ?side2 A2.out).mono ?_); (case side1 => repeat (first | exact HR0.out | (with_reducible refine Kd.C_alloc ?_ _) | (with_reducible refine Kd.C_drewN ?_ _) | (with_reducible refine Kd.C_drew ?_))); (case side2 => exact HC0.out); rintro e w' ⟨rfl, ⟨nd, rfl⟩⟩; refine ⟨_, rfl, ?_⟩) | ((with_reducible refine gate_callee (f := 27) rfl ?_); refine goesM (some 17) rfl rfl Try.func27 (by kernel_rfl) rfl #[.slice A0 l0.length c0] rfl ?_; (with_reducible refine (spec_DrawCovers.calls k _ _ l0 t325 t326 t327 t328 t329 t330 t331 t332 _ ?side1 ?side2 A4.out).mono ?_); (case side1 => repeat (first | exact HR0.out | (with_reducible refine Kd.C_alloc ?_ _) | (with_reducible refine Kd.C_drewN ?_ _) | (with_reducible refine Kd.C_drew ?_))); (case side2 => exact HC0.out); rintro e w11 ⟨rfl, hb⟩; refine ⟨_, rfl, ?_⟩; have n0_ := nbs HB hb; clear HB; have HB := n0_; clear n0_; (try clear hb)) | ((with_reducible refine gate_dst (N := 3) rfl ?_); refine box_event ?hg (N := 3) ?hd (cs := #[.int .i64 0, .int .i64 0, .int .i64 0, .int .i64 0]) (t := 25) ?hr ?_; (case hd => rfl); (case hg => rfl); (case hr => first | (go_simp; done) | (go_simp; rfl)); intro gb333 hg w12 hbox hb; have n0_ := nbs HB hb; have n1_ := Aside0.mk (hbox); have n2_ := nge HB hg; have n3_ := nge HB hg; clear HB; have HB := n0_; have BK333 := n1_; have GW333 := n2_; have GE333 := n3_; clear n0_ n1_ n2_ n3_; clear hb hbox hg) | ((with_reducible refine gate_dst (N := 4) rfl ?_); refine box_event ?hg (N := 4) ?hd (cs := #[.int .i64 0, .int .i64 0, .int .i64 0, .int .i64 0]) (t := 25) ?hr ?_; (case hd => rfl); (case hg => rfl); (case hr => first | (go_simp; done) | (go_simp; rfl)); intro gb334 hg w13 hbox hb; have n0_ := nblk BK333 hb; have n1_ := nbs HB hb; have n2_ := Aside0.mk (hbox); have n3_ := nge HB hg; have n4_ := nge HB hg; have n5_ := nlt BK333 hg; have n6_ := ngt BK333 hg; clear BK333 HB; have BK333 := n0_; have HB := n1_; have BK334 := n2_; have GW334 := n3_; have GE334 := n4_; have NB333_334 := n5_; have NB334_333 := n6_; clear n0_ n1_ n2_ n3_ n4_ n5_ n6_; clear hb hbox hg; have hnb14 := NB333_334.out; have hnc14 := NB334_333.out; have hcz15_0 : w13.cell? ⟨gb333, 0, none⟩ = some (.int .i64 0) := (blk_cell BK333.out 0).trans rfl; have hcz15_1 : w13.cell? ⟨gb333, 1, none⟩ = some (.int .i64 0) := (blk_cell BK333.out 1).trans rfl; have hcz15_2 : w13.cell? ⟨gb333, 2, none⟩ = some (.int .i64 0) := (blk_cell BK333.out 2).trans rfl; have hcz15_3 : w13.cell? ⟨gb333, 3, none⟩ = some (.int .i64 0) := (blk_cell BK333.out 3).trans rfl; have hfz15_0 := blk_frozen BK333.out 0; have hfz15_1 := blk_frozen BK333.out 1; have hfz15_2 := blk_frozen BK333.out 2; have hfz15_3 := blk_frozen BK333.out 3; have hcz16_0 : w13.cell? ⟨gb334, 0, none⟩ = some (.int .i64 0) := (blk_cell BK334.out 0).trans rfl; have hcz16_1 : w13.cell? ⟨gb334, 1, none⟩ = some (.int .i64 0) := (blk_cell BK334.out 1).trans rfl; have hcz16_2 : w13.cell? ⟨gb334, 2, none⟩ = some (.int .i64 0) := (blk_cell BK334.out 2).trans rfl; have hcz16_3 : w13.cell? ⟨gb334, 3, none⟩ = some (.int .i64 0) := (blk_cell BK334.out 3).trans rfl; have hfz16_0 := blk_frozen BK334.out 0; have hfz16_1 := blk_frozen BK334.out 1; have hfz16_2 := blk_frozen BK334.out 2; have hfz16_3 := blk_frozen BK334.out 3) | ((with_reducible refine gate_callee (f := 28) rfl ?_); refine goesM (some 22) rfl rfl Try.func28 (by kernel_rfl) rfl #[.agg #[.int .i64 t325, .int .i64 t326, .int .i64 t327, .int .i64 t328], .agg #[.int .i64 t329, .int .i64 t330, .int .i64 t331, .int .i64 t332]] rfl ?_; (with_reducible refine (impl_Covers.calls k t325 t326 t327 t328 t329 t330 t331 t332 t335 _ A5.out).mono ?_); rintro e w17 ⟨rfl, hb⟩; refine ⟨_, rfl, ?_⟩; have n0_ := Aside0.mk (blk_below (g := gb333) (o := .cells #[.int .i64 t325, .int .i64 t326, .int .i64 t327, .int .i64 t328] 25 (0, 0)) (by (with_reducible repeat (first | refine blk_drewN ?_ _ | refine blk_drew ?_ | refine blk_alloc ?_ _)); refine blk_far ?_ NB333_334.out _; (with_reducible repeat (first | refine blk_drewN ?_ _ | refine blk_drew ?_ | refine blk_alloc ?_ _)); refine blk_far ?_ NB333_334.out _; (with_reducible repeat (first | refine blk_drewN ?_ _ | refine blk_drew ?_ | refine blk_alloc ?_ _)); refine blk_far ?_ NB333_334.out _; (with_reducible repeat (first | refine blk_drewN ?_ _ | refine blk_drew ?_ | refine blk_alloc ?_ _)); refine blk_far ?_ NB333_334.out _; (with_reducible repeat (first | refine blk_drewN ?_ _ | refine blk_drew ?_ | refine blk_alloc ?_ _)); refine blk_put (cs := #[.int .i64 t325, .int .i64 t326, .int .i64 t327, .int .i64 0]) ?_ 3 _ rfl; (with_reducible repeat (first | refine blk_drewN ?_ _ | refine blk_drew ?_ | refine blk_alloc ?_ _)); refine blk_put (cs := #[.int .i64 t325, .int .i64 t326, .int .i64 0, .int .i64 0]) ?_ 2 _ rfl; (with_reducible repeat (first | refine blk_drewN ?_ _ | refine blk_drew ?_ | refine blk_alloc ?_ _)); refine blk_put (cs := #[.int .i64 t325, .int .i64 0, .int .i64 0, .int .i64 0]) ?_ 1 _ rfl; (with_reducible repeat (first | refine blk_drewN ?_ _ | refine blk_drew ?_ | refine blk_alloc ?_ _)); refine blk_put (cs := #[.int .i64 0, .int .i64 0, .int .i64 0, .int .i64 0]) ?_ 0 _ rfl; (with_reducible repeat (first | refine blk_drewN ?_ _ | refine blk_drew ?_ | refine blk_alloc ?_ _)); exact BK333.out) hb); have n1_ := Aside0.mk (blk_below (g := gb334) (o := .cells #[.int .i64 t329, .int .i64 t330, .int .i64 t331, .int .i64 t332] 25 (0, 0)) (by (with_reducible repeat (first | refine blk_drewN ?_ _ | refine blk_drew ?_ | refine blk_alloc ?_ _)); refine blk_put (cs := #[.int .i64 t329, .int .i64 t330, .int .i64 t331, .int .i64 0]) ?_ 3 _ rfl; (with_reducible repeat (first | refine blk_drewN ?_ _ | refine blk_drew ?_ | refine blk_alloc ?_ _)); refine blk_put (cs := #[.int .i64 t329, .int .i64 t330, .int .i64 0, .int .i64 0]) ?_ 2 _ rfl; (with_reducible repeat (first | refine blk_drewN ?_ _ | refine blk_drew ?_ | refine blk_alloc ?_ _)); refine blk_put (cs := #[.int .i64 t329, .int .i64 0, .int .i64 0, .int .i64 0]) ?_ 1 _ rfl; (with_reducible repeat (first | refine blk_drewN ?_ _ | refine blk_drew ?_ | refine blk_alloc ?_ _)); refine blk_put (cs := #[.int .i64 0, .int .i64 0, .int .i64 0, .int .i64 0]) ?_ 0 _ rfl; (with_reducible repeat (first | refine blk_drewN ?_ _ | refine blk_drew ?_ | refine blk_alloc ?_ _)); refine blk_far ?_ NB334_333.out _; (with_reducible repeat (first | refine blk_drewN ?_ _ | refine blk_drew ?_ | refine blk_alloc ?_ _)); refine blk_far ?_ NB334_333.out _; (with_reducible repeat (first | refine blk_drewN ?_ _ | refine blk_drew ?_ | refine blk_alloc ?_ _)); refine blk_far ?_ NB334_333.out _; (with_reducible repeat (first | refine blk_drewN ?_ _ | refine blk_drew ?_ | refine blk_alloc ?_ _)); refine blk_far ?_ NB334_333.out _; (with_reducible repeat (first | refine blk_drewN ?_ _ | refine blk_drew ?_ | refine blk_alloc ?_ _)); exact BK334.out) hb); have n2_ := nbs HB hb; clear BK333 BK334 HB; have BK333 := n0_; have BK334 := n1_; have HB := n2_; clear n0_ n1_ n2_; (try clear hb)) | ((with_reducible refine gate_callee (f := 29) rfl ?_); refine goesM (some 25) rfl rfl Try.func29 (by kernel_rfl) rfl #[.slice A0 l0.length c0] rfl ?_; (with_reducible refine (spec_DrawMeet.calls k _ _ l0 t336 t337 t338 t339 t340 t341 t342 t343 _ ?side1 ?side2 A6.out).mono ?_); (case side1 => repeat (first | exact (Kd.C_below HR0.out HB.out) | (with_reducible refine Kd.C_alloc ?_ _) | (with_reducible refine Kd.C_drewN ?_ _) | (with_reducible refine Kd.C_drew ?_))); (case side2 => exact HC0.out); rintro e w18 ⟨rfl, hb⟩; refine ⟨_, rfl, ?_⟩; have n0_ := nblk BK333 hb; have n1_ := nblk BK334 hb; have n2_ := nbs HB hb; clear BK333 BK334 HB; have BK333 := n0_; have BK334 := n1_; have HB := n2_; clear n0_ n1_ n2_; (try clear hb)) | ((with_reducible refine gate_dst (N := 6) rfl ?_); refine box_event ?hg (N := 6) ?hd (cs := #[.int .i64 0, .int .i64 0, .int .i64 0, .int .i64 0]) (t := 25) ?hr ?_; (case hd => rfl); (case hg => rfl); (case hr => first | (go_simp; done) | (go_simp; rfl)); intro gb344 hg w19 hbox hb; have n0_ := nblk BK333 hb; have n1_ := nblk BK334 hb; have n2_ := nbs HB hb; have n3_ := Aside0.mk (hbox); have n4_ := nge HB hg; have n5_ := nge HB hg; have n6_ := nlt BK333 hg; have n7_ := ngt BK333 hg; have n8_ := nlt BK334 hg; have n9_ := ngt BK334 hg; clear BK333 BK334 HB; have BK333 := n0_; have BK334 := n1_; have HB := n2_; have BK344 := n3_; have GW344 := n4_; have GE344 := n5_; have NB333_344 := n6_; have NB344_333 := n7_; have NB334_344 := n8_; have NB344_334 := n9_; clear n0_ n1_ n2_ n3_ n4_ n5_ n6_ n7_ n8_ n9_; clear hb hbox hg) | ((with_reducible refine gate_dst (N := 7) rfl ?_); refine box_event ?hg (N := 7) ?hd (cs := #[.int .i64 0, .int .i64 0, .int .i64 0, .int .i64 0]) (t := 25) ?hr ?_; (case hd => rfl); (case hg => rfl); (case hr => first | (go_simp; done) | (go_simp; rfl)); intro gb345 hg w20 hbox hb; have n0_ := nblk BK333 hb; have n1_ := nblk BK334 hb; have n2_ := nblk BK344 hb; have n3_ := nbs HB hb; have n4_ := Aside0.mk (hbox); have n5_ := nge HB hg; have n6_ := nge HB hg; have n7_ := nlt BK333 hg; have n8_ := ngt BK333 hg; have n9_ := nlt BK334 hg; have n10_ := ngt BK334 hg; have n11_ := nlt BK344 hg; have n12_ := ngt BK344 hg; clear BK333 BK334 BK344 HB; have BK333 := n0_; have BK334 := n1_; have BK344 := n2_; have HB := n3_; have BK345 := n4_; have GW345 := n5_; have GE345 := n6_; have NB333_345 := n7_; have NB345_333 := n8_; have NB334_345 := n9_; have NB345_334 := n10_; have NB344_345 := n11_; have NB345_344 := n12_; clear n0_ n1_ n2_ n3_ n4_ n5_ n6_ n7_ n8_ n9_ n10_ n11_ n12_; clear hb hbox hg; have hnb21 := NB344_333.out; have hnc21 := NB333_344.out; have hnb22 := NB344_334.out; have hnc22 := NB334_344.out; have hnb23 := NB344_345.out; have hnc23 := NB345_344.out; have hcz24_0 : w20.cell? ⟨gb344, 0, none⟩ = some (.int .i64 0) := (blk_cell BK344.out 0).trans rfl; have hcz24_1 : w20.cell? ⟨gb344, 1, none⟩ = some (.int .i64 0) := (blk_cell BK344.out 1).trans rfl; have hcz24_2 : w20.cell? ⟨gb344, 2, none⟩ = some (.int .i64 0) := (blk_cell BK344.out 2).trans rfl; have hcz24_3 : w20.cell? ⟨gb344, 3, none⟩ = some (.int .i64 0) := (blk_cell BK344.out 3).trans rfl; have hfz24_0 := blk_frozen BK344.out 0; have hfz24_1 := blk_frozen BK344.out 1; have hfz24_2 := blk_frozen BK344.out 2; have hfz24_3 := blk_frozen BK344.out 3; have hnb25 := NB345_333.out; have hnc25 := NB333_345.out; have hnb26 := NB345_334.out; have hnc26 := NB334_345.out; have hcz27_0 : w20.cell? ⟨gb345, 0, none⟩ = some (.int .i64 0) := (blk_cell BK345.out 0).trans rfl; have hcz27_1 : w20.cell? ⟨gb345, 1, none⟩ = some (.int .i64 0) := (blk_cell BK345.out 1).trans rfl; have hcz27_2 : w20.cell? ⟨gb345, 2, none⟩ = some (.int .i64 0) := (blk_cell BK345.out 2).trans rfl; have hcz27_3 : w20.cell? ⟨gb345, 3, none⟩ = some (.int .i64 0) := (blk_cell BK345.out 3).trans rfl; have hfz27_0 := blk_frozen BK345.out 0; have hfz27_1 := blk_frozen BK345.out 1; have hfz27_2 := blk_frozen BK345.out 2; have hfz27_3 := blk_frozen BK345.out 3) | ((with_reducible refine gate_callee (f := 30) rfl ?_); refine goesM (some 31) rfl rfl Try.func30 (by kernel_rfl) rfl #[.agg #[.int .i64 t336, .int .i64 t337, .int .i64 t338, .int .i64 t339], .agg #[.int .i64 t340, .int .i64 t341, .int .i64 t342, .int .i64 t343]] rfl ?_; (with_reducible refine (impl_Meet.calls k t336 t337 t338 t339 t340 t341 t342 t343 t346 t347 t348 t349 t350 _ A7.out).mono ?_); rintro e w28 ⟨rfl, hb⟩; refine ⟨_, rfl, ?_⟩; have n0_ := nblk BK333 hb; have n1_ := nblk BK334 hb; have n2_ := Aside0.mk (blk_below (g := gb344) (o := .cells #[.int .i64 t336, .int .i64 t337, .int .i64 t338, .int .i64 t339] 25 (0, 0)) (by (with_reducible repeat (first | refine blk_drewN ?_ _ | refine blk_drew ?_ | refine blk_alloc ?_ _)); refine blk_far ?_ NB344_345.out _; (with_reducible repeat (first | refine blk_drewN ?_ _ | refine blk_drew ?_ | refine blk_alloc ?_ _)); refine blk_far ?_ NB344_345.out _; (with_reducible repeat (first | refine blk_drewN ?_ _ | refine blk_drew ?_ | refine blk_alloc ?_ _)); refine blk_far ?_ NB344_345.out _; (with_reducible repeat (first | refine blk_drewN ?_ _ | refine blk_drew ?_ | refine blk_alloc ?_ _)); refine blk_far ?_ NB344_345.out _; (with_reducible repeat (first | refine blk_drewN ?_ _ | refine blk_drew ?_ | refine blk_alloc ?_ _)); refine blk_put (cs := #[.int .i64 t336, .int .i64 t337, .int .i64 t338, .int .i64 0]) ?_ 3 _ rfl; (with_reducible repeat (first | refine blk_drewN ?_ _ | refine blk_drew ?_ | refine blk_alloc ?_ _)); refine blk_put (cs := #[.int .i64 t336, .int .i64 t337, .int .i64 0, .int .i64 0]) ?_ 2 _ rfl; (with_reducible repeat (first | refine blk_drewN ?_ _ | refine blk_drew ?_ | refine blk_alloc ?_ _)); refine blk_put (cs := #[.int .i64 t336, .int .i64 0, .int .i64 0, .int .i64 0]) ?_ 1 _ rfl; (with_reducible repeat (first | refine blk_drewN ?_ _ | refine blk_drew ?_ | refine blk_alloc ?_ _)); refine blk_put (cs := #[.int .i64 0, .int .i64 0, .int .i64 0, .int .i64 0]) ?_ 0 _ rfl; (with_reducible repeat (first | refine blk_drewN ?_ _ | refine blk_drew ?_ | refine blk_alloc ?_ _)); exact BK344.out) hb); have n3_ := Aside0.mk (blk_below (g := gb345) (o := .cells #[.int .i64 t340, .int .i64 t341, .int .i64 t342, .int .i64 t343] 25 (0, 0)) (by (with_reducible repeat (first | refine blk_drewN ?_ _ | refine blk_drew ?_ | refine blk_alloc ?_ _)); refine blk_put (cs := #[.int .i64 t340, .int .i64 t341, .int .i64 t342, .int .i64 0]) ?_ 3 _ rfl; (with_reducible repeat (first | refine blk_drewN ?_ _ | refine blk_drew ?_ | refine blk_alloc ?_ _)); refine blk_put (cs := #[.int .i64 t340, .int .i64 t341, .int .i64 0, .int .i64 0]) ?_ 2 _ rfl; (with_reducible repeat (first | refine blk_drewN ?_ _ | refine blk_drew ?_ | refine blk_alloc ?_ _)); refine blk_put (cs := #[.int .i64 t340, .int .i64 0, .int .i64 0, .int .i64 0]) ?_ 1 _ rfl; (with_reducible repeat (first | refine blk_drewN ?_ _ | refine blk_drew ?_ | refine blk_alloc ?_ _)); refine blk_put (cs := #[.int .i64 0, .int .i64 0, .int .i64 0, .int .i64 0]) ?_ 0 _ rfl; (with_reducible repeat (first | refine blk_drewN ?_ _ | refine blk_drew ?_ | refine blk_alloc ?_ _)); refine blk_far ?_ NB345_344.out _; (with_reducible repeat (first | refine blk_drewN ?_ _ | refine blk_drew ?_ | refine blk_alloc ?_ _)); refine blk_far ?_ NB345_344.out _; (with_reducible repeat (first | refine blk_drewN ?_ _ | refine blk_drew ?_ | refine blk_alloc ?_ _)); refine blk_far ?_ NB345_344.out _; (with_reducible repeat (first | refine blk_drewN ?_ _ | refine blk_drew ?_ | refine blk_alloc ?_ _)); refine blk_far ?_ NB345_344.out _; (with_reducible repeat (first | refine blk_drewN ?_ _ | refine blk_drew ?_ | refine blk_alloc ?_ _)); exact BK345.out) hb); have n4_ := nbs HB hb; clear BK333 BK334 BK344 BK345 HB; have BK333 := n0_; have BK334 := n1_; have BK344 := n2_; have BK345 := n3_; have HB := n4_; clear n0_ n1_ n2_ n3_ n4_; (try clear hb)) | ((with_reducible refine gate_dst (N := 8) rfl ?_); refine box_event ?hg (N := 8) ?hd (cs := #[.int .i64 0, .int .i64 0, .int .i64 0, .int .i64 0]) (t := 25) ?hr ?_; (case hd => rfl); (case hg => rfl); (case hr => first | (go_simp; done) | (go_simp; rfl)); intro gb351 hg w29 hbox hb; have n0_ := nblk BK333 hb; have n1_ := nblk BK334 hb; have n2_ := nblk BK344 hb; have n3_ := nblk BK345 hb; have n4_ := nbs HB hb; have n5_ := Aside0.mk (hbox); have n6_ := nge HB hg; have n7_ := nge HB hg; have n8_ := nlt BK333 hg; have n9_ := ngt BK333 hg; have n10_ := nlt BK334 hg; have n11_ := ngt BK334 hg; have n12_ := nlt BK344 hg; have n13_ := ngt BK344 hg; have n14_ := nlt BK345 hg; have n15_ := ngt BK345 hg; clear BK333 BK334 BK344 BK345 HB; have BK333 := n0_; have BK334 := n1_; have BK344 := n2_; have BK345 := n3_; have HB := n4_; have BK351 := n5_; have GW351 := n6_; have GE351 := n7_; have NB333_351 := n8_; have NB351_333 := n9_; have NB334_351 := n10_; have NB351_334 := n11_; have NB344_351 := n12_; have NB351_344 := n13_; have NB345_351 := n14_; have NB351_345 := n15_; clear n0_ n1_ n2_ n3_ n4_ n5_ n6_ n7_ n8_ n9_ n10_ n11_ n12_ n13_ n14_ n15_; clear hb hbox hg; have hnb30 := NB351_333.out; have hnc30 := NB333_351.out; have hnb31 := NB351_334.out; have hnc31 := NB334_351.out; have hnb32 := NB351_344.out; have hnc32 := NB344_351.out; have hnb33 := NB351_345.out; have hnc33 := NB345_351.out; have hcz34_0 : w29.cell? ⟨gb351, 0, none⟩ = some (.int .i64 0) := (blk_cell BK351.out 0).trans rfl; have hcz34_1 : w29.cell? ⟨gb351, 1, none⟩ = some (.int .i64 0) := (blk_cell BK351.out 1).trans rfl; have hcz34_2 : w29.cell? ⟨gb351, 2, none⟩ = some (.int .i64 0) := (blk_cell BK351.out 2).trans rfl; have hcz34_3 : w29.cell? ⟨gb351, 3, none⟩ = some (.int .i64 0) := (blk_cell BK351.out 3).trans rfl; have hfz34_0 := blk_frozen BK351.out 0; have hfz34_1 := blk_frozen BK351.out 1; have hfz34_2 := blk_frozen BK351.out 2; have hfz34_3 := blk_frozen BK351.out 3; have hcz35_0 : w29.cell? ⟨gb344, 0, none⟩ = some (.int .i64 t336) := (blk_cell BK344.out 0).trans rfl; have hcz35_1 : w29.cell? ⟨gb344, 1, none⟩ = some (.int .i64 t337) := (blk_cell BK344.out 1).trans rfl; have hcz35_2 : w29.cell? ⟨gb344, 2, none⟩ = some (.int .i64 t338) := (blk_cell BK344.out 2).trans rfl; have hcz35_3 : w29.cell? ⟨gb344, 3, none⟩ = some (.int .i64 t339) := (blk_cell BK344.out 3).trans rfl; have hfz35_0 := blk_frozen BK344.out 0; have hfz35_1 := blk_frozen BK344.out 1; have hfz35_2 := blk_frozen BK344.out 2; have hfz35_3 := blk_frozen BK344.out 3; have hcz36_0 : w29.cell? ⟨gb345, 0, none⟩ = some (.int .i64 t340) := (blk_cell BK345.out 0).trans rfl; have hcz36_1 : w29.cell? ⟨gb345, 1, none⟩ = some (.int .i64 t341) := (blk_cell BK345.out 1).trans rfl; have hcz36_2 : w29.cell? ⟨gb345, 2, none⟩ = some (.int .i64 t342) := (blk_cell BK345.out 2).trans rfl; have hcz36_3 : w29.cell? ⟨gb345, 3, none⟩ = some (.int .i64 t343) := (blk_cell BK345.out 3).trans rfl; have hfz36_0 := blk_frozen BK345.out 0; have hfz36_1 := blk_frozen BK345.out 1; have hfz36_2 := blk_frozen BK345.out 2; have hfz36_3 := blk_frozen BK345.out 3) | ((with_reducible refine gate_callee (f := 31) rfl ?_); refine goesM (some 37) rfl rfl Try.func31 (by kernel_rfl) rfl #[.agg #[.int .i64 t336, .int .i64 t337, .int .i64 t338, .int .i64 t339], .agg #[.int .i64 t340, .int .i64 t341, .int .i64 t342, .int .i64 t343]] rfl ?_; (with_reducible refine (spec_Meet.calls k t336 t337 t338 t339 t340 t341 t342 t343 t352 t353 t354 t355 t356 _ A8.out).mono ?_); rintro e w37 ⟨rfl, hb⟩; refine ⟨_, rfl, ?_⟩; have n0_ := nblk BK333 hb; have n1_ := nblk BK334 hb; have n2_ := nblk BK344 hb; have n3_ := nblk BK345 hb; have n4_ := Aside0.mk (blk_below (g := gb351) (o := .cells #[.int .i64 t346, .int .i64 t347, .int .i64 t348, .int .i64 t349] 25 (0, 0)) (by (with_reducible repeat (first | refine blk_drewN ?_ _ | refine blk_drew ?_ | refine blk_alloc ?_ _)); refine blk_put (cs := #[.int .i64 t346, .int .i64 t347, .int .i64 t348, .int .i64 0]) ?_ 3 _ rfl; (with_reducible repeat (first | refine blk_drewN ?_ _ | refine blk_drew ?_ | refine blk_alloc ?_ _)); refine blk_put (cs := #[.int .i64 t346, .int .i64 t347, .int .i64 0, .int .i64 0]) ?_ 2 _ rfl; (with_reducible repeat (first | refine blk_drewN ?_ _ | refine blk_drew ?_ | refine blk_alloc ?_ _)); refine blk_put (cs := #[.int .i64 t346, .int .i64 0, .int .i64 0, .int .i64 0]) ?_ 1 _ rfl; (with_reducible repeat (first | refine blk_drewN ?_ _ | refine blk_drew ?_ | refine blk_alloc ?_ _)); refine blk_put (cs := #[.int .i64 0, .int .i64 0, .int .i64 0, .int .i64 0]) ?_ 0 _ rfl; (with_reducible repeat (first | refine blk_drewN ?_ _ | refine blk_drew ?_ | refine blk_alloc ?_ _)); exact BK351.out) hb); have n5_ := nbs HB hb; clear BK333 BK334 BK344 BK345 BK351 HB; have BK333 := n0_; have BK334 := n1_; have BK344 := n2_; have BK345 := n3_; have BK351 := n4_; have HB := n5_; clear n0_ n1_ n2_ n3_ n4_ n5_; (try clear hb)) | ((with_reducible refine gate_dst (N := 10) rfl ?_); refine box_event ?hg (N := 10) ?hd (cs := #[.int .i64 0, .int .i64 0, .int .i64 0, .int .i64 0]) (t := 25) ?hr ?_; (case hd => rfl); (case hg => rfl); (case hr => first | (go_simp; done) | (go_simp; rfl)); intro gb357 hg w38 hbox hb; have n0_ := nblk BK333 hb; have n1_ := nblk BK334 hb; have n2_ := nblk BK344 hb; have n3_ := nblk BK345 hb; have n4_ := nblk BK351 hb; have n5_ := nbs HB hb; have n6_ := Aside0.mk (hbox); have n7_ := nge HB hg; have n8_ := nge HB hg; have n9_ := nlt BK333 hg; have n10_ := ngt BK333 hg; have n11_ := nlt BK334 hg; have n12_ := ngt BK334 hg; have n13_ := nlt BK344 hg; have n14_ := ngt BK344 hg; have n15_ := nlt BK345 hg; have n16_ := ngt BK345 hg; have n17_ := nlt BK351 hg; have n18_ := ngt BK351 hg; clear BK333 BK334 BK344 BK345 BK351 HB; have BK333 := n0_; have BK334 := n1_; have BK344 := n2_; have BK345 := n3_; have BK351 := n4_; have HB := n5_; have BK357 := n6_; have GW357 := n7_; have GE357 := n8_; have NB333_357 := n9_; have NB357_333 := n10_; have NB334_357 := n11_; have NB357_334 := n12_; have NB344_357 := n13_; have NB357_344 := n14_; have NB345_357 := n15_; have NB357_345 := n16_; have NB351_357 := n17_; have NB357_351 := n18_; clear n0_ n1_ n2_ n3_ n4_ n5_ n6_ n7_ n8_ n9_ n10_ n11_ n12_ n13_ n14_ n15_ n16_ n17_ n18_; clear hb hbox hg; have hnb39 := NB357_333.out; have hnc39 := NB333_357.out; have hnb40 := NB357_334.out; have hnc40 := NB334_357.out; have hnb41 := NB357_344.out; have hnc41 := NB344_357.out; have hnb42 := NB357_345.out; have hnc42 := NB345_357.out; have hnb43 := NB357_351.out; have hnc43 := NB351_357.out; have hcz44_0 : w38.cell? ⟨gb357, 0, none⟩ = some (.int .i64 0) := (blk_cell BK357.out 0).trans rfl; have hcz44_1 : w38.cell? ⟨gb357, 1, none⟩ = some (.int .i64 0) := (blk_cell BK357.out 1).trans rfl; have hcz44_2 : w38.cell? ⟨gb357, 2, none⟩ = some (.int .i64 0) := (blk_cell BK357.out 2).trans rfl; have hcz44_3 : w38.cell? ⟨gb357, 3, none⟩ = some (.int .i64 0) := (blk_cell BK357.out 3).trans rfl; have hfz44_0 := blk_frozen BK357.out 0; have hfz44_1 := blk_frozen BK357.out 1; have hfz44_2 := blk_frozen BK357.out 2; have hfz44_3 := blk_frozen BK357.out 3) | ((with_reducible refine gate_callee (f := 32) rfl ?_); refine goesM (some 41) rfl rfl Try.func32 (by kernel_rfl) rfl #[.slice A0 l0.length c0] rfl ?_; (with_reducible refine (spec_DrawKeyOk.calls k _ _ l0 t358 t359 t360 t361 _ ?side1 ?side2 A9.out).mono ?_); (case side1 => exact Kd.C_below HR0.out (by repeat (first | (with_reducible first | exact HB.out | apply below_alloc | apply pw_below_drewN | apply below_drew1 | refine below_set ?_ GE333.out | refine below_set ?_ GE334.out | refine below_set ?_ GE344.out | refine below_set ?_ GE345.out | refine below_set ?_ GE351.out | refine below_set ?_ GE357.out) | exact HB.out))); (case side2 => exact HC0.out); rintro e w45 ⟨rfl, hb⟩; refine ⟨_, rfl, ?_⟩; have n0_ := nblk BK333 hb; have n1_ := nblk BK334 hb; have n2_ := nblk BK344 hb; have n3_ := nblk BK345 hb; have n4_ := nblk BK351 hb; have n5_ := Aside0.mk (blk_below (g := gb357) (o := .cells #[.int .i64 t352, .int .i64 t353, .int .i64 t354, .int .i64 t355] 25 (0, 0)) (by (with_reducible repeat (first | refine blk_drewN ?_ _ | refine blk_drew ?_ | refine blk_alloc ?_ _)); refine blk_put (cs := #[.int .i64 t352, .int .i64 t353, .int .i64 t354, .int .i64 0]) ?_ 3 _ rfl; (with_reducible repeat (first | refine blk_drewN ?_ _ | refine blk_drew ?_ | refine blk_alloc ?_ _)); refine blk_put (cs := #[.int .i64 t352, .int .i64 t353, .int .i64 0, .int .i64 0]) ?_ 2 _ rfl; (with_reducible repeat (first | refine blk_drewN ?_ _ | refine blk_drew ?_ | refine blk_alloc ?_ _)); refine blk_put (cs := #[.int .i64 t352, .int .i64 0, .int .i64 0, .int .i64 0]) ?_ 1 _ rfl; (with_reducible repeat (first | refine blk_drewN ?_ _ | refine blk_drew ?_ | refine blk_alloc ?_ _)); refine blk_put (cs := #[.int .i64 0, .int .i64 0, .int .i64 0, .int .i64 0]) ?_ 0 _ rfl; (with_reducible repeat (first | refine blk_drewN ?_ _ | refine blk_drew ?_ | refine blk_alloc ?_ _)); exact BK357.out) hb); have n6_ := nbs HB hb; clear BK333 BK334 BK344 BK345 BK351 BK357 HB; have BK333 := n0_; have BK334 := n1_; have BK344 := n2_; have BK345 := n3_; have BK351 := n4_; have BK357 := n5_; have HB := n6_; clear n0_ n1_ n2_ n3_ n4_ n5_ n6_; (try clear hb)) | ((with_reducible refine gate_dst (N := 12) rfl ?_); refine box_event ?hg (N := 12) ?hd (cs := #[.int .i64 0, .int .i64 0, .int .i64 0, .int .i64 0]) (t := 25) ?hr ?_; (case hd => rfl); (case hg => rfl); (case hr => first | (go_simp; done) | (go_simp; rfl)); intro gb362 hg w46 hbox hb; have n0_ := nblk BK333 hb; have n1_ := nblk BK334 hb; have n2_ := nblk BK344 hb; have n3_ := nblk BK345 hb; have n4_ := nblk BK351 hb; have n5_ := nblk BK357 hb; have n6_ := nbs HB hb; have n7_ := Aside0.mk (hbox); have n8_ := nge HB hg; have n9_ := nge HB hg; have n10_ := nlt BK333 hg; have n11_ := ngt BK333 hg; have n12_ := nlt BK334 hg; have n13_ := ngt BK334 hg; have n14_ := nlt BK344 hg; have n15_ := ngt BK344 hg; have n16_ := nlt BK345 hg; have n17_ := ngt BK345 hg; have n18_ := nlt BK351 hg; have n19_ := ngt BK351 hg; have n20_ := nlt BK357 hg; have n21_ := ngt BK357 hg; clear BK333 BK334 BK344 BK345 BK351 BK357 HB; have BK333 := n0_; have BK334 := n1_; have BK344 := n2_; have BK345 := n3_; have BK351 := n4_; have BK357 := n5_; have HB := n6_; have BK362 := n7_; have GW362 := n8_; have GE362 := n9_; have NB333_362 := n10_; have NB362_333 := n11_; have NB334_362 := n12_; have NB362_334 := n13_; have NB344_362 := n14_; have NB362_344 := n15_; have NB345_362 := n16_; have NB362_345 := n17_; have NB351_362 := n18_; have NB362_351 := n19_; have NB357_362 := n20_; have NB362_357 := n21_; clear n0_ n1_ n2_ n3_ n4_ n5_ n6_ n7_ n8_ n9_ n10_ n11_ n12_ n13_ n14_ n15_ n16_ n17_ n18_ n19_ n20_ n21_; clear hb hbox hg; have hnb47 := NB362_333.out; have hnc47 := NB333_362.out; have hnb48 := NB362_334.out; have hnc48 := NB334_362.out; have hnb49 := NB362_344.out; have hnc49 := NB344_362.out; have hnb50 := NB362_345.out; have hnc50 := NB345_362.out; have hnb51 := NB362_351.out; have hnc51 := NB351_362.out; have hnb52 := NB362_357.out; have hnc52 := NB357_362.out; have hcz53_0 : w46.cell? ⟨gb362, 0, none⟩ = some (.int .i64 0) := (blk_cell BK362.out 0).trans rfl; have hcz53_1 : w46.cell? ⟨gb362, 1, none⟩ = some (.int .i64 0) := (blk_cell BK362.out 1).trans rfl; have hcz53_2 : w46.cell? ⟨gb362, 2, none⟩ = some (.int .i64 0) := (blk_cell BK362.out 2).trans rfl; have hcz53_3 : w46.cell? ⟨gb362, 3, none⟩ = some (.int .i64 0) := (blk_cell BK362.out 3).trans rfl; have hfz53_0 := blk_frozen BK362.out 0; have hfz53_1 := blk_frozen BK362.out 1; have hfz53_2 := blk_frozen BK362.out 2; have hfz53_3 := blk_frozen BK362.out 3))
  (try simp only [Act.put, List.setIfInBounds_toArray, List.set_cons_zero, List.set_cons_succ])
  go_cut [58] (fun v58 wc => ∃ (kq : Nat) (x58_9 : Bool), v58 = .bool x58_9 ∧ Aside0 (laws_FnKeys.j0 kq t335 t350 x58_9 t325 t326 t327 t328 t329 t330 t331 t332 t336 t337 t338 t339 t340 t341 t342 t343 t346 t347 t348 t349 t358 t359 t360 t361 = some r) ∧ Aside0 (kq ≤ k) ∧ Aside0 (wc.heap[gb333]? = some (.cells #[.int .i64 t325, .int .i64 t326, .int .i64 t327, .int .i64 t328] 25 (0, 0))) ∧ Aside0 (wc.heap[gb334]? = some (.cells #[.int .i64 t329, .int .i64 t330, .int .i64 t331, .int .i64 t332] 25 (0, 0))) ∧ Aside0 (wc.heap[gb344]? = some (.cells #[.int .i64 t336, .int .i64 t337, .int .i64 t338, .int .i64 t339] 25 (0, 0))) ∧ Aside0 (wc.heap[gb345]? = some (.cells #[.int .i64 t340, .int .i64 t341, .int .i64 t342, .int .i64 t343] 25 (0, 0))) ∧ Aside0 (wc.heap[gb351]? = some (.cells #[.int .i64 t346, .int .i64 t347, .int .i64 t348, .int .i64 t349] 25 (0, 0))) ∧ Aside0 (wc.heap[gb357]? = some (.cells #[.int .i64 t352, .int .i64 t353, .int .i64 t354, .int .i64 t355] 25 (0, 0))) ∧ Aside0 (wc.heap[gb362]? = some (.cells #[.int .i64 t358, .int .i64 t359, .int .i64 t360, .int .i64 t361] 25 (0, 0))) ∧ Aside0 (Below w.heap.size w wc))
  case first =>
   have H := HC10.out
   clear HC10
   replace H := Option.bind_eq_some_iff.mp H
   obtain ⟨t363, A540, H⟩ := H
   replace H : (if (t335 != t363) = true then (laws_FnKeys.j0 k t335 t350 true t325 t326 t327 t328 t329 t330 t331 t332 t336 t337 t338 t339 t340 t341 t342 t343 t346 t347 t348 t349 t358 t359 t360 t361) else (if (t350 != t356) = true then (laws_FnKeys.j0 k t335 t350 true t325 t326 t327 t328 t329 t330 t331 t332 t336 t337 t338 t339 t340 t341 t342 t343 t346 t347 t348 t349 t358 t359 t360 t361) else ((impl_KeyOk.f k t358 t359 t360 t361).bind fun t364 => ((spec_KeyOk.f k t358 t359 t360 t361).bind fun t365 => (laws_FnKeys.j0 k t335 t350 (t364 != t365) t325 t326 t327 t328 t329 t330 t331 t332 t336 t337 t338 t339 t340 t341 t342 t343 t346 t347 t348 t349 t358 t359 t360 t361))))) = some r := H
   have A54 := Aside0.mk A540
   clear A540
   by_cases c55 : (t335 != t363) = true
   ·rw [if_pos c55] at H
    have c55b0 : (t335 != t363) = true := c55
    (try (have c55b1 : decide (t335 = t363) = false := by simpa using c55))
    (try (have c55b2 : (t335 == t363) = false := by simpa using c55))
    (try (have c55b3 : ¬ (t335 = t363) := by simpa using c55))
    clear c55
    (first | rw [c55b0] | (simp only [i64_w, i32_w]; rw [c55b0]) | skip)
    have H' := Aside0.mk H
    clear H
    try go_wp2
    have n0_ : Aside0 (((((w46.setCell ⟨gb362, 0, none⟩ (.int .i64 t358)).setCell ⟨gb362, 1, none⟩ (.int .i64 t359)).setCell ⟨gb362, 2, none⟩ (.int .i64 t360)).setCell ⟨gb362, 3, none⟩ (.int .i64 t361)).heap[gb333]? = some (.cells #[.int .i64 t325, .int .i64 t326, .int .i64 t327, .int .i64 t328] 25 (0, 0))) := ⟨by (with_reducible repeat (first | refine blk_drewN ?_ _ | refine blk_drew ?_ | refine blk_alloc ?_ _)); refine blk_far ?_ NB333_362.out _; (with_reducible repeat (first | refine blk_drewN ?_ _ | refine blk_drew ?_ | refine blk_alloc ?_ _)); refine blk_far ?_ NB333_362.out _; (with_reducible repeat (first | refine blk_drewN ?_ _ | refine blk_drew ?_ | refine blk_alloc ?_ _)); refine blk_far ?_ NB333_362.out _; (with_reducible repeat (first | refine blk_drewN ?_ _ | refine blk_drew ?_ | refine blk_alloc ?_ _)); refine blk_far ?_ NB333_362.out _; (with_reducible repeat (first | refine blk_drewN ?_ _ | refine blk_drew ?_ | refine blk_alloc ?_ _)); exact BK333.out⟩
    have n1_ : Aside0 (((((w46.setCell ⟨gb362, 0, none⟩ (.int .i64 t358)).setCell ⟨gb362, 1, none⟩ (.int .i64 t359)).setCell ⟨gb362, 2, none⟩ (.int .i64 t360)).setCell ⟨gb362, 3, none⟩ (.int .i64 t361)).heap[gb334]? = some (.cells #[.int .i64 t329, .int .i64 t330, .int .i64 t331, .int .i64 t332] 25 (0, 0))) := ⟨by (with_reducible repeat (first | refine blk_drewN ?_ _ | refine blk_drew ?_ | refine blk_alloc ?_ _)); refine blk_far ?_ NB334_362.out _; (with_reducible repeat (first | refine blk_drewN ?_ _ | refine blk_drew ?_ | refine blk_alloc ?_ _)); refine blk_far ?_ NB334_362.out _; (with_reducible repeat (first | refine blk_drewN ?_ _ | refine blk_drew ?_ | refine blk_alloc ?_ _)); refine blk_far ?_ NB334_362.out _; (with_reducible repeat (first | refine blk_drewN ?_ _ | refine blk_drew ?_ | refine blk_alloc ?_ _)); refine blk_far ?_ NB334_362.out _; (with_reducible repeat (first | refine blk_drewN ?_ _ | refine blk_drew ?_ | refine blk_alloc ?_ _)); exact BK334.out⟩
    have n2_ : Aside0 (((((w46.setCell ⟨gb362, 0, none⟩ (.int .i64 t358)).setCell ⟨gb362, 1, none⟩ (.int .i64 t359)).setCell ⟨gb362, 2, none⟩ (.int .i64 t360)).setCell ⟨gb362, 3, none⟩ (.int .i64 t361)).heap[gb344]? = some (.cells #[.int .i64 t336, .int .i64 t337, .int .i64 t338, .int .i64 t339] 25 (0, 0))) := ⟨by (with_reducible repeat (first | refine blk_drewN ?_ _ | refine blk_drew ?_ | refine blk_alloc ?_ _)); refine blk_far ?_ NB344_362.out _; (with_reducible repeat (first | refine blk_drewN ?_ _ | refine blk_drew ?_ | refine blk_alloc ?_ _)); refine blk_far ?_ NB344_362.out _; (with_reducible repeat (first | refine blk_drewN ?_ _ | refine blk_drew ?_ | refine blk_alloc ?_ _)); refine blk_far ?_ NB344_362.out _; (with_reducible repeat (first | refine blk_drewN ?_ _ | refine blk_drew ?_ | refine blk_alloc ?_ _)); refine blk_far ?_ NB344_362.out _; (with_reducible repeat (first | refine blk_drewN ?_ _ | refine blk_drew ?_ | refine blk_alloc ?_ _)); exact BK344.out⟩
    have n3_ : Aside0 (((((w46.setCell ⟨gb362, 0, none⟩ (.int .i64 t358)).setCell ⟨gb362, 1, none⟩ (.int .i64 t359)).setCell ⟨gb362, 2, none⟩ (.int .i64 t360)).setCell ⟨gb362, 3, none⟩ (.int .i64 t361)).heap[gb345]? = some (.cells #[.int .i64 t340, .int .i64 t341, .int .i64 t342, .int .i64 t343] 25 (0, 0))) := ⟨by (with_reducible repeat (first | refine blk_drewN ?_ _ | refine blk_drew ?_ | refine blk_alloc ?_ _)); refine blk_far ?_ NB345_362.out _; (with_reducible repeat (first | refine blk_drewN ?_ _ | refine blk_drew ?_ | refine blk_alloc ?_ _)); refine blk_far ?_ NB345_362.out _; (with_reducible repeat (first | refine blk_drewN ?_ _ | refine blk_drew ?_ | refine blk_alloc ?_ _)); refine blk_far ?_ NB345_362.out _; (with_reducible repeat (first | refine blk_drewN ?_ _ | refine blk_drew ?_ | refine blk_alloc ?_ _)); refine blk_far ?_ NB345_362.out _; (with_reducible repeat (first | refine blk_drewN ?_ _ | refine blk_drew ?_ | refine blk_alloc ?_ _)); exact BK345.out⟩
    have n4_ : Aside0 (((((w46.setCell ⟨gb362, 0, none⟩ (.int .i64 t358)).setCell ⟨gb362, 1, none⟩ (.int .i64 t359)).setCell ⟨gb362, 2, none⟩ (.int .i64 t360)).setCell ⟨gb362, 3, none⟩ (.int .i64 t361)).heap[gb351]? = some (.cells #[.int .i64 t346, .int .i64 t347, .int .i64 t348, .int .i64 t349] 25 (0, 0))) := ⟨by (with_reducible repeat (first | refine blk_drewN ?_ _ | refine blk_drew ?_ | refine blk_alloc ?_ _)); refine blk_far ?_ NB351_362.out _; (with_reducible repeat (first | refine blk_drewN ?_ _ | refine blk_drew ?_ | refine blk_alloc ?_ _)); refine blk_far ?_ NB351_362.out _; (with_reducible repeat (first | refine blk_drewN ?_ _ | refine blk_drew ?_ | refine blk_alloc ?_ _)); refine blk_far ?_ NB351_362.out _; (with_reducible repeat (first | refine blk_drewN ?_ _ | refine blk_drew ?_ | refine blk_alloc ?_ _)); refine blk_far ?_ NB351_362.out _; (with_reducible repeat (first | refine blk_drewN ?_ _ | refine blk_drew ?_ | refine blk_alloc ?_ _)); exact BK351.out⟩
    have n5_ : Aside0 (((((w46.setCell ⟨gb362, 0, none⟩ (.int .i64 t358)).setCell ⟨gb362, 1, none⟩ (.int .i64 t359)).setCell ⟨gb362, 2, none⟩ (.int .i64 t360)).setCell ⟨gb362, 3, none⟩ (.int .i64 t361)).heap[gb357]? = some (.cells #[.int .i64 t352, .int .i64 t353, .int .i64 t354, .int .i64 t355] 25 (0, 0))) := ⟨by (with_reducible repeat (first | refine blk_drewN ?_ _ | refine blk_drew ?_ | refine blk_alloc ?_ _)); refine blk_far ?_ NB357_362.out _; (with_reducible repeat (first | refine blk_drewN ?_ _ | refine blk_drew ?_ | refine blk_alloc ?_ _)); refine blk_far ?_ NB357_362.out _; (with_reducible repeat (first | refine blk_drewN ?_ _ | refine blk_drew ?_ | refine blk_alloc ?_ _)); refine blk_far ?_ NB357_362.out _; (with_reducible repeat (first | refine blk_drewN ?_ _ | refine blk_drew ?_ | refine blk_alloc ?_ _)); refine blk_far ?_ NB357_362.out _; (with_reducible repeat (first | refine blk_drewN ?_ _ | refine blk_drew ?_ | refine blk_alloc ?_ _)); exact BK357.out⟩
    have n6_ : Aside0 (((((w46.setCell ⟨gb362, 0, none⟩ (.int .i64 t358)).setCell ⟨gb362, 1, none⟩ (.int .i64 t359)).setCell ⟨gb362, 2, none⟩ (.int .i64 t360)).setCell ⟨gb362, 3, none⟩ (.int .i64 t361)).heap[gb362]? = some (.cells #[.int .i64 t358, .int .i64 t359, .int .i64 t360, .int .i64 t361] 25 (0, 0))) := ⟨by (with_reducible repeat (first | refine blk_drewN ?_ _ | refine blk_drew ?_ | refine blk_alloc ?_ _)); refine blk_put (cs := #[.int .i64 t358, .int .i64 t359, .int .i64 t360, .int .i64 0]) ?_ 3 _ rfl; (with_reducible repeat (first | refine blk_drewN ?_ _ | refine blk_drew ?_ | refine blk_alloc ?_ _)); refine blk_put (cs := #[.int .i64 t358, .int .i64 t359, .int .i64 0, .int .i64 0]) ?_ 2 _ rfl; (with_reducible repeat (first | refine blk_drewN ?_ _ | refine blk_drew ?_ | refine blk_alloc ?_ _)); refine blk_put (cs := #[.int .i64 t358, .int .i64 0, .int .i64 0, .int .i64 0]) ?_ 1 _ rfl; (with_reducible repeat (first | refine blk_drewN ?_ _ | refine blk_drew ?_ | refine blk_alloc ?_ _)); refine blk_put (cs := #[.int .i64 0, .int .i64 0, .int .i64 0, .int .i64 0]) ?_ 0 _ rfl; (with_reducible repeat (first | refine blk_drewN ?_ _ | refine blk_drew ?_ | refine blk_alloc ?_ _)); exact BK362.out⟩
    have n7_ : Aside0 (Below w.heap.size w ((((w46.setCell ⟨gb362, 0, none⟩ (.int .i64 t358)).setCell ⟨gb362, 1, none⟩ (.int .i64 t359)).setCell ⟨gb362, 2, none⟩ (.int .i64 t360)).setCell ⟨gb362, 3, none⟩ (.int .i64 t361))) := ⟨by repeat (first | (with_reducible first | exact HB.out | apply below_alloc | apply pw_below_drewN | apply below_drew1 | refine below_set ?_ GE333.out | refine below_set ?_ GE334.out | refine below_set ?_ GE344.out | refine below_set ?_ GE345.out | refine below_set ?_ GE351.out | refine below_set ?_ GE357.out | refine below_set ?_ GE362.out) | exact HB.out)⟩
    (try clear BK333)
    (try clear BK334)
    (try clear BK344)
    (try clear BK345)
    (try clear BK351)
    (try clear BK357)
    (try clear BK362)
    (try clear HB)
    generalize ((((w46.setCell ⟨gb362, 0, none⟩ (.int .i64 t358)).setCell ⟨gb362, 1, none⟩ (.int .i64 t359)).setCell ⟨gb362, 2, none⟩ (.int .i64 t360)).setCell ⟨gb362, 3, none⟩ (.int .i64 t361)) = w56 at n0_ n1_ n2_ n3_ n4_ n5_ n6_ n7_ ⊢
    have BK333 := n0_
    have BK334 := n1_
    have BK344 := n2_
    have BK345 := n3_
    have BK351 := n4_
    have BK357 := n5_
    have BK362 := n6_
    have HB := n7_
    clear n0_ n1_ n2_ n3_ n4_ n5_ n6_ n7_
    have n0_ := Aside0.mk (blk_drew BK333.out)
    have n1_ := Aside0.mk (blk_drew BK334.out)
    have n2_ := Aside0.mk (blk_drew BK344.out)
    have n3_ := Aside0.mk (blk_drew BK345.out)
    have n4_ := Aside0.mk (blk_drew BK351.out)
    have n5_ := Aside0.mk (blk_drew BK357.out)
    have n6_ := Aside0.mk (blk_drew BK362.out)
    have n7_ := Aside0.mk (below_drew1 HB.out)
    clear BK333 BK334 BK344 BK345 BK351 BK357 BK362 HB
    have BK333 := n0_
    have BK334 := n1_
    have BK344 := n2_
    have BK345 := n3_
    have BK351 := n4_
    have BK357 := n5_
    have BK362 := n6_
    have HB := n7_
    clear n0_ n1_ n2_ n3_ n4_ n5_ n6_ n7_
    refine start_ (n := 17) (S := fun w' => w'.cell? ⟨gb333, 0, none⟩ = some (.int .i64 t325) ∧ w'.cell? ⟨gb333, 1, none⟩ = some (.int .i64 t326) ∧ w'.cell? ⟨gb333, 2, none⟩ = some (.int .i64 t327) ∧ w'.cell? ⟨gb333, 3, none⟩ = some (.int .i64 t328) ∧ w'.cell? ⟨gb334, 0, none⟩ = some (.int .i64 t329) ∧ w'.cell? ⟨gb334, 1, none⟩ = some (.int .i64 t330) ∧ w'.cell? ⟨gb334, 2, none⟩ = some (.int .i64 t331) ∧ w'.cell? ⟨gb334, 3, none⟩ = some (.int .i64 t332)) (ds := []) #[false, false, false, false, false, false, false, false, false, false, false, false, false, false, false, false, false] (by kernel_rfl) rfl rfl (c4 BK333 (c4e BK334)) (fun hHeld => ?_); refine with_tabW laws_FnKeys.tab9 laws_FnKeys.bits9 (fun HT_ HW_ => ?_)
    generalize w56.drew = w57 at BK333 BK334 BK344 BK345 BK351 BK357 BK362 HB hHeld ⊢
    refine pure_ (i := 0) (N := some 42) (v := ?_) (a' := ?_) #[true, false, false, false, false, false, false, false, false, false, false, false, false, false, false, false, false] rfl rfl (any_of HT_.out (by kernel_rfl)) (fun _ _ _ h => h) (Or.inl ⟨by rfl, ?_⟩) ?_ ?_
    rotate_left
    ·intro w'
     go_simp
     with_reducible rfl
    rotate_left
    ·simp only [Act.put, List.setIfInBounds_toArray, List.set_cons_zero, List.set_cons_succ, i64_w, i32_w]
     rfl
    refine take_ (i := 1) (N := some 43) (v := ?_) (a' := ?_) #[true, true, false, false, false, false, false, false, false, false, false, false, false, false, false, false, false] rfl rfl (take_ofW HT_.out HW_.out (by kernel_rfl)) (fun _ _ _ h => h) (Or.inl ⟨by rfl, ?_⟩) hHeld ?_ ?_
    rotate_left
    ·rintro w' ⟨s0, s1, s2, s3, s4, s5, s6, s7⟩
     go_simp
     with_reducible rfl
    rotate_left
    ·simp only [Act.put, List.setIfInBounds_toArray, List.set_cons_zero, List.set_cons_succ, i64_w, i32_w]
     rfl
    refine take_ (i := 2) (N := some 44) (v := ?_) (a' := ?_) #[true, true, true, false, false, false, false, false, false, false, false, false, false, false, false, false, false] rfl rfl (take_ofW HT_.out HW_.out (by kernel_rfl)) (fun _ _ _ h => h) (Or.inl ⟨by rfl, ?_⟩) hHeld ?_ ?_
    rotate_left
    ·rintro w' ⟨s0, s1, s2, s3, s4, s5, s6, s7⟩
     go_simp
     with_reducible rfl
    rotate_left
    ·simp only [Act.put, List.setIfInBounds_toArray, List.set_cons_zero, List.set_cons_succ, i64_w, i32_w]
     rfl
    refine one_ (i := 3) (N := some 45) #[true, true, true, true, false, false, false, false, false, false, false, false, false, false, false, false, false] rfl rfl (one_of HT_.out (by kernel_rfl)) (by decide) (fun K hK => ?_)
    refine goesR Try.func33 (by kernel_rfl) rfl #[.agg #[.int .i64 t325, .int .i64 t326, .int .i64 t327, .int .i64 t328], .agg #[.int .i64 t329, .int .i64 t330, .int .i64 t331, .int .i64 t332]] (by rfl) rfl rfl ?_
    with_reducible refine (spec_Covers.calls k t325 t326 t327 t328 t329 t330 t331 t332 t363 _ A54.out).mono ?_
    rintro e w58 ⟨rfl, hb⟩
    refine ⟨_, rfl, ?_⟩
    have n0_ := nblk BK333 hb
    have n1_ := nblk BK334 hb
    have n2_ := nblk BK344 hb
    have n3_ := nblk BK345 hb
    have n4_ := nblk BK351 hb
    have n5_ := nblk BK357 hb
    have n6_ := nblk BK362 hb
    have n7_ := nbs HB hb
    clear BK333 BK334 BK344 BK345 BK351 BK357 BK362 HB
    have BK333 := n0_
    have BK334 := n1_
    have BK344 := n2_
    have BK345 := n3_
    have BK351 := n4_
    have BK357 := n5_
    have BK362 := n6_
    have HB := n7_
    clear n0_ n1_ n2_ n3_ n4_ n5_ n6_ n7_
    (try clear hb)
    refine hK.out _ _ (c4 BK333 (c4e BK334)) (fun hHeld => ?_)
    clear hK K
    refine norm_ (a' := ?_) ?_ ?_
    rotate_left
    ·show Act.put _ (some 45) _ = _
     simp only [Act.put, List.setIfInBounds_toArray, List.set_cons_zero, List.set_cons_succ, i64_w, i32_w]
     rfl
    refine pure_ (i := 4) (N := some 46) (v := ?_) (a' := ?_) #[true, true, true, true, true, false, false, false, false, false, false, false, false, false, false, false, false] rfl rfl (any_of HT_.out (by kernel_rfl)) (fun _ _ _ h => h) (Or.inl ⟨by rfl, ?_⟩) ?_ ?_
    rotate_left
    ·intro w'
     go_simp
     with_reducible rfl
    rotate_left
    ·simp only [Act.put, List.setIfInBounds_toArray, List.set_cons_zero, List.set_cons_succ, i64_w, i32_w]
     rfl
    refine pure_ (i := 5) (N := some 47) (v := ?_) (a' := ?_) #[true, true, true, true, true, true, false, false, false, false, false, false, false, false, false, false, false] rfl rfl (any_of HT_.out (by kernel_rfl)) (fun _ _ _ h => h) (Or.inl ⟨by rfl, ?_⟩) ?_ ?_
    rotate_left
    ·intro w'
     go_simp
     with_reducible rfl
    rotate_left
    ·simp only [Act.put, List.setIfInBounds_toArray, List.set_cons_zero, List.set_cons_succ, i64_w, i32_w]
     rfl
    refine pure_ (i := 6) (N := some 48) (v := undef) (a' := ?_) #[true, true, true, true, true, true, true, false, false, false, false, false, false, false, false, false, false] rfl rfl (any_of HT_.out (by kernel_rfl)) (fun _ _ _ h => h) (Or.inr ⟨by rfl, rfl⟩) ?_ ?_
    rotate_left
    ·simp only [Act.put, List.setIfInBounds_toArray, List.set_cons_zero, List.set_cons_succ, i64_w, i32_w]
     rfl
    refine pure_ (i := 7) (N := some 49) (v := undef) (a' := ?_) #[true, true, true, true, true, true, true, true, false, false, false, false, false, false, false, false, false] rfl rfl (any_of HT_.out (by kernel_rfl)) (fun _ _ _ h => h) (Or.inr ⟨by rfl, rfl⟩) ?_ ?_
    rotate_left
    ·simp only [Act.put, List.setIfInBounds_toArray, List.set_cons_zero, List.set_cons_succ, i64_w, i32_w]
     rfl
    refine pure_ (i := 8) (N := some 50) (v := undef) (a' := ?_) #[true, true, true, true, true, true, true, true, true, false, false, false, false, false, false, false, false] rfl rfl (any_of HT_.out (by kernel_rfl)) (fun _ _ _ h => h) (Or.inr ⟨by rfl, rfl⟩) ?_ ?_
    rotate_left
    ·simp only [Act.put, List.setIfInBounds_toArray, List.set_cons_zero, List.set_cons_succ, i64_w, i32_w]
     rfl
    refine pure_ (i := 9) (N := some 51) (v := ?_) (a' := ?_) #[true, true, true, true, true, true, true, true, true, true, false, false, false, false, false, false, false] rfl rfl (any_of HT_.out (by kernel_rfl)) (fun _ _ _ h => h) (Or.inl ⟨by rfl, ?_⟩) ?_ ?_
    rotate_left
    ·intro w'
     go_simp
     with_reducible rfl
    rotate_left
    ·simp only [Act.put, List.setIfInBounds_toArray, List.set_cons_zero, List.set_cons_succ, i64_w, i32_w]
     rfl
    refine pure_ (i := 10) (N := some 52) (v := ?_) (a' := ?_) #[true, true, true, true, true, true, true, true, true, true, true, false, false, false, false, false, false] rfl rfl (any_of HT_.out (by kernel_rfl)) (fun _ _ _ h => h) (Or.inl ⟨by rfl, ?_⟩) ?_ ?_
    rotate_left
    ·intro w'
     go_simp
     with_reducible rfl
    rotate_left
    ·simp only [Act.put, List.setIfInBounds_toArray, List.set_cons_zero, List.set_cons_succ, i64_w, i32_w]
     rfl
    refine pure_ (i := 11) (N := some 53) (v := undef) (a' := ?_) #[true, true, true, true, true, true, true, true, true, true, true, true, false, false, false, false, false] rfl rfl (any_of HT_.out (by kernel_rfl)) (fun _ _ _ h => h) (Or.inr ⟨by rfl, rfl⟩) ?_ ?_
    rotate_left
    ·simp only [Act.put, List.setIfInBounds_toArray, List.set_cons_zero, List.set_cons_succ, i64_w, i32_w]
     rfl
    refine pure_ (i := 12) (N := some 54) (v := undef) (a' := ?_) #[true, true, true, true, true, true, true, true, true, true, true, true, true, false, false, false, false] rfl rfl (any_of HT_.out (by kernel_rfl)) (fun _ _ _ h => h) (Or.inr ⟨by rfl, rfl⟩) ?_ ?_
    rotate_left
    ·simp only [Act.put, List.setIfInBounds_toArray, List.set_cons_zero, List.set_cons_succ, i64_w, i32_w]
     rfl
    refine pure_ (i := 13) (N := some 55) (v := undef) (a' := ?_) #[true, true, true, true, true, true, true, true, true, true, true, true, true, true, false, false, false] rfl rfl (any_of HT_.out (by kernel_rfl)) (fun _ _ _ h => h) (Or.inr ⟨by rfl, rfl⟩) ?_ ?_
    rotate_left
    ·simp only [Act.put, List.setIfInBounds_toArray, List.set_cons_zero, List.set_cons_succ, i64_w, i32_w]
     rfl
    refine pure_ (i := 14) (N := some 56) (v := undef) (a' := ?_) #[true, true, true, true, true, true, true, true, true, true, true, true, true, true, true, false, false] rfl rfl (any_of HT_.out (by kernel_rfl)) (fun _ _ _ h => h) (Or.inr ⟨by rfl, rfl⟩) ?_ ?_
    rotate_left
    ·simp only [Act.put, List.setIfInBounds_toArray, List.set_cons_zero, List.set_cons_succ, i64_w, i32_w]
     rfl
    refine pure_ (i := 15) (N := some 57) (v := undef) (a' := ?_) #[true, true, true, true, true, true, true, true, true, true, true, true, true, true, true, true, false] rfl rfl (any_of HT_.out (by kernel_rfl)) (fun _ _ _ h => h) (Or.inr ⟨by rfl, rfl⟩) ?_ ?_
    rotate_left
    ·simp only [Act.put, List.setIfInBounds_toArray, List.set_cons_zero, List.set_cons_succ, i64_w, i32_w]
     rfl
    refine pure_ (i := 16) (N := some 58) (v := ?_) (a' := ?_) #[true, true, true, true, true, true, true, true, true, true, true, true, true, true, true, true, true] rfl rfl (any_of HT_.out (by kernel_rfl)) (fun _ _ _ h => h) (Or.inl ⟨by rfl, ?_⟩) ?_ ?_
    rotate_left
    ·intro w'
     go_simp
     with_reducible rfl
    rotate_left
    ·simp only [Act.put, List.setIfInBounds_toArray, List.set_cons_zero, List.set_cons_succ, i64_w, i32_w]
     rfl
    refine done_ (done_of HT_.out (by kernel_rfl)) ?_
    try go_wp2
    go_meet
    case rel => exact ⟨_, (true), (by first | rfl | (simp; done) | (simp [*]; done)), H', ⟨by first | omega | exact Nat.le_refl _⟩, ⟨by (with_reducible repeat (first | refine blk_drewN ?_ _ | refine blk_drew ?_ | refine blk_alloc ?_ _)); exact BK333.out⟩, ⟨by (with_reducible repeat (first | refine blk_drewN ?_ _ | refine blk_drew ?_ | refine blk_alloc ?_ _)); exact BK334.out⟩, ⟨by (with_reducible repeat (first | refine blk_drewN ?_ _ | refine blk_drew ?_ | refine blk_alloc ?_ _)); exact BK344.out⟩, ⟨by (with_reducible repeat (first | refine blk_drewN ?_ _ | refine blk_drew ?_ | refine blk_alloc ?_ _)); exact BK345.out⟩, ⟨by (with_reducible repeat (first | refine blk_drewN ?_ _ | refine blk_drew ?_ | refine blk_alloc ?_ _)); exact BK351.out⟩, ⟨by (with_reducible repeat (first | refine blk_drewN ?_ _ | refine blk_drew ?_ | refine blk_alloc ?_ _)); exact BK357.out⟩, ⟨by (with_reducible repeat (first | refine blk_drewN ?_ _ | refine blk_drew ?_ | refine blk_alloc ?_ _)); exact BK362.out⟩, ⟨by repeat (first | (with_reducible first | exact HB.out | apply below_alloc | apply pw_below_drewN | apply below_drew1 | refine below_set ?_ GE333.out | refine below_set ?_ GE334.out | refine below_set ?_ GE344.out | refine below_set ?_ GE345.out | refine below_set ?_ GE351.out | refine below_set ?_ GE357.out | refine below_set ?_ GE362.out) | exact HB.out)⟩⟩
   ·rw [if_neg c55] at H
    have c55b0 : (t335 != t363) = false := by simpa using c55
    (try (have c55b1 : decide (t335 = t363) = true := by simpa using c55))
    (try (have c55b2 : (t335 == t363) = true := by simpa using c55))
    clear c55
    (first | rw [c55b0] | (simp only [i64_w, i32_w]; rw [c55b0]) | skip)
    by_cases c59 : (t350 != t356) = true
    ·rw [if_pos c59] at H
     have c59b0 : (t350 != t356) = true := c59
     (try (have c59b1 : decide (t350 = t356) = false := by simpa using c59))
     (try (have c59b2 : (t350 == t356) = false := by simpa using c59))
     (try (have c59b3 : ¬ (t350 = t356) := by simpa using c59))
     clear c59
     have H' := Aside0.mk H
     clear H
     try go_wp2
     have n0_ : Aside0 (((((w46.setCell ⟨gb362, 0, none⟩ (.int .i64 t358)).setCell ⟨gb362, 1, none⟩ (.int .i64 t359)).setCell ⟨gb362, 2, none⟩ (.int .i64 t360)).setCell ⟨gb362, 3, none⟩ (.int .i64 t361)).heap[gb333]? = some (.cells #[.int .i64 t325, .int .i64 t326, .int .i64 t327, .int .i64 t328] 25 (0, 0))) := ⟨by (with_reducible repeat (first | refine blk_drewN ?_ _ | refine blk_drew ?_ | refine blk_alloc ?_ _)); refine blk_far ?_ NB333_362.out _; (with_reducible repeat (first | refine blk_drewN ?_ _ | refine blk_drew ?_ | refine blk_alloc ?_ _)); refine blk_far ?_ NB333_362.out _; (with_reducible repeat (first | refine blk_drewN ?_ _ | refine blk_drew ?_ | refine blk_alloc ?_ _)); refine blk_far ?_ NB333_362.out _; (with_reducible repeat (first | refine blk_drewN ?_ _ | refine blk_drew ?_ | refine blk_alloc ?_ _)); refine blk_far ?_ NB333_362.out _; (with_reducible repeat (first | refine blk_drewN ?_ _ | refine blk_drew ?_ | refine blk_alloc ?_ _)); exact BK333.out⟩
     have n1_ : Aside0 (((((w46.setCell ⟨gb362, 0, none⟩ (.int .i64 t358)).setCell ⟨gb362, 1, none⟩ (.int .i64 t359)).setCell ⟨gb362, 2, none⟩ (.int .i64 t360)).setCell ⟨gb362, 3, none⟩ (.int .i64 t361)).heap[gb334]? = some (.cells #[.int .i64 t329, .int .i64 t330, .int .i64 t331, .int .i64 t332] 25 (0, 0))) := ⟨by (with_reducible repeat (first | refine blk_drewN ?_ _ | refine blk_drew ?_ | refine blk_alloc ?_ _)); refine blk_far ?_ NB334_362.out _; (with_reducible repeat (first | refine blk_drewN ?_ _ | refine blk_drew ?_ | refine blk_alloc ?_ _)); refine blk_far ?_ NB334_362.out _; (with_reducible repeat (first | refine blk_drewN ?_ _ | refine blk_drew ?_ | refine blk_alloc ?_ _)); refine blk_far ?_ NB334_362.out _; (with_reducible repeat (first | refine blk_drewN ?_ _ | refine blk_drew ?_ | refine blk_alloc ?_ _)); refine blk_far ?_ NB334_362.out _; (with_reducible repeat (first | refine blk_drewN ?_ _ | refine blk_drew ?_ | refine blk_alloc ?_ _)); exact BK334.out⟩
     have n2_ : Aside0 (((((w46.setCell ⟨gb362, 0, none⟩ (.int .i64 t358)).setCell ⟨gb362, 1, none⟩ (.int .i64 t359)).setCell ⟨gb362, 2, none⟩ (.int .i64 t360)).setCell ⟨gb362, 3, none⟩ (.int .i64 t361)).heap[gb344]? = some (.cells #[.int .i64 t336, .int .i64 t337, .int .i64 t338, .int .i64 t339] 25 (0, 0))) := ⟨by (with_reducible repeat (first | refine blk_drewN ?_ _ | refine blk_drew ?_ | refine blk_alloc ?_ _)); refine blk_far ?_ NB344_362.out _; (with_reducible repeat (first | refine blk_drewN ?_ _ | refine blk_drew ?_ | refine blk_alloc ?_ _)); refine blk_far ?_ NB344_362.out _; (with_reducible repeat (first | refine blk_drewN ?_ _ | refine blk_drew ?_ | refine blk_alloc ?_ _)); refine blk_far ?_ NB344_362.out _; (with_reducible repeat (first | refine blk_drewN ?_ _ | refine blk_drew ?_ | refine blk_alloc ?_ _)); refine blk_far ?_ NB344_362.out _; (with_reducible repeat (first | refine blk_drewN ?_ _ | refine blk_drew ?_ | refine blk_alloc ?_ _)); exact BK344.out⟩
     have n3_ : Aside0 (((((w46.setCell ⟨gb362, 0, none⟩ (.int .i64 t358)).setCell ⟨gb362, 1, none⟩ (.int .i64 t359)).setCell ⟨gb362, 2, none⟩ (.int .i64 t360)).setCell ⟨gb362, 3, none⟩ (.int .i64 t361)).heap[gb345]? = some (.cells #[.int .i64 t340, .int .i64 t341, .int .i64 t342, .int .i64 t343] 25 (0, 0))) := ⟨by (with_reducible repeat (first | refine blk_drewN ?_ _ | refine blk_drew ?_ | refine blk_alloc ?_ _)); refine blk_far ?_ NB345_362.out _; (with_reducible repeat (first | refine blk_drewN ?_ _ | refine blk_drew ?_ | refine blk_alloc ?_ _)); refine blk_far ?_ NB345_362.out _; (with_reducible repeat (first | refine blk_drewN ?_ _ | refine blk_drew ?_ | refine blk_alloc ?_ _)); refine blk_far ?_ NB345_362.out _; (with_reducible repeat (first | refine blk_drewN ?_ _ | refine blk_drew ?_ | refine blk_alloc ?_ _)); refine blk_far ?_ NB345_362.out _; (with_reducible repeat (first | refine blk_drewN ?_ _ | refine blk_drew ?_ | refine blk_alloc ?_ _)); exact BK345.out⟩
     have n4_ : Aside0 (((((w46.setCell ⟨gb362, 0, none⟩ (.int .i64 t358)).setCell ⟨gb362, 1, none⟩ (.int .i64 t359)).setCell ⟨gb362, 2, none⟩ (.int .i64 t360)).setCell ⟨gb362, 3, none⟩ (.int .i64 t361)).heap[gb351]? = some (.cells #[.int .i64 t346, .int .i64 t347, .int .i64 t348, .int .i64 t349] 25 (0, 0))) := ⟨by (with_reducible repeat (first | refine blk_drewN ?_ _ | refine blk_drew ?_ | refine blk_alloc ?_ _)); refine blk_far ?_ NB351_362.out _; (with_reducible repeat (first | refine blk_drewN ?_ _ | refine blk_drew ?_ | refine blk_alloc ?_ _)); refine blk_far ?_ NB351_362.out _; (with_reducible repeat (first | refine blk_drewN ?_ _ | refine blk_drew ?_ | refine blk_alloc ?_ _)); refine blk_far ?_ NB351_362.out _; (with_reducible repeat (first | refine blk_drewN ?_ _ | refine blk_drew ?_ | refine blk_alloc ?_ _)); refine blk_far ?_ NB351_362.out _; (with_reducible repeat (first | refine blk_drewN ?_ _ | refine blk_drew ?_ | refine blk_alloc ?_ _)); exact BK351.out⟩
     have n5_ : Aside0 (((((w46.setCell ⟨gb362, 0, none⟩ (.int .i64 t358)).setCell ⟨gb362, 1, none⟩ (.int .i64 t359)).setCell ⟨gb362, 2, none⟩ (.int .i64 t360)).setCell ⟨gb362, 3, none⟩ (.int .i64 t361)).heap[gb357]? = some (.cells #[.int .i64 t352, .int .i64 t353, .int .i64 t354, .int .i64 t355] 25 (0, 0))) := ⟨by (with_reducible repeat (first | refine blk_drewN ?_ _ | refine blk_drew ?_ | refine blk_alloc ?_ _)); refine blk_far ?_ NB357_362.out _; (with_reducible repeat (first | refine blk_drewN ?_ _ | refine blk_drew ?_ | refine blk_alloc ?_ _)); refine blk_far ?_ NB357_362.out _; (with_reducible repeat (first | refine blk_drewN ?_ _ | refine blk_drew ?_ | refine blk_alloc ?_ _)); refine blk_far ?_ NB357_362.out _; (with_reducible repeat (first | refine blk_drewN ?_ _ | refine blk_drew ?_ | refine blk_alloc ?_ _)); refine blk_far ?_ NB357_362.out _; (with_reducible repeat (first | refine blk_drewN ?_ _ | refine blk_drew ?_ | refine blk_alloc ?_ _)); exact BK357.out⟩
     have n6_ : Aside0 (((((w46.setCell ⟨gb362, 0, none⟩ (.int .i64 t358)).setCell ⟨gb362, 1, none⟩ (.int .i64 t359)).setCell ⟨gb362, 2, none⟩ (.int .i64 t360)).setCell ⟨gb362, 3, none⟩ (.int .i64 t361)).heap[gb362]? = some (.cells #[.int .i64 t358, .int .i64 t359, .int .i64 t360, .int .i64 t361] 25 (0, 0))) := ⟨by (with_reducible repeat (first | refine blk_drewN ?_ _ | refine blk_drew ?_ | refine blk_alloc ?_ _)); refine blk_put (cs := #[.int .i64 t358, .int .i64 t359, .int .i64 t360, .int .i64 0]) ?_ 3 _ rfl; (with_reducible repeat (first | refine blk_drewN ?_ _ | refine blk_drew ?_ | refine blk_alloc ?_ _)); refine blk_put (cs := #[.int .i64 t358, .int .i64 t359, .int .i64 0, .int .i64 0]) ?_ 2 _ rfl; (with_reducible repeat (first | refine blk_drewN ?_ _ | refine blk_drew ?_ | refine blk_alloc ?_ _)); refine blk_put (cs := #[.int .i64 t358, .int .i64 0, .int .i64 0, .int .i64 0]) ?_ 1 _ rfl; (with_reducible repeat (first | refine blk_drewN ?_ _ | refine blk_drew ?_ | refine blk_alloc ?_ _)); refine blk_put (cs := #[.int .i64 0, .int .i64 0, .int .i64 0, .int .i64 0]) ?_ 0 _ rfl; (with_reducible repeat (first | refine blk_drewN ?_ _ | refine blk_drew ?_ | refine blk_alloc ?_ _)); exact BK362.out⟩
     have n7_ : Aside0 (Below w.heap.size w ((((w46.setCell ⟨gb362, 0, none⟩ (.int .i64 t358)).setCell ⟨gb362, 1, none⟩ (.int .i64 t359)).setCell ⟨gb362, 2, none⟩ (.int .i64 t360)).setCell ⟨gb362, 3, none⟩ (.int .i64 t361))) := ⟨by repeat (first | (with_reducible first | exact HB.out | apply below_alloc | apply pw_below_drewN | apply below_drew1 | refine below_set ?_ GE333.out | refine below_set ?_ GE334.out | refine below_set ?_ GE344.out | refine below_set ?_ GE345.out | refine below_set ?_ GE351.out | refine below_set ?_ GE357.out | refine below_set ?_ GE362.out) | exact HB.out)⟩
     (try clear BK333)
     (try clear BK334)
     (try clear BK344)
     (try clear BK345)
     (try clear BK351)
     (try clear BK357)
     (try clear BK362)
     (try clear HB)
     generalize ((((w46.setCell ⟨gb362, 0, none⟩ (.int .i64 t358)).setCell ⟨gb362, 1, none⟩ (.int .i64 t359)).setCell ⟨gb362, 2, none⟩ (.int .i64 t360)).setCell ⟨gb362, 3, none⟩ (.int .i64 t361)) = w60 at n0_ n1_ n2_ n3_ n4_ n5_ n6_ n7_ ⊢
     have BK333 := n0_
     have BK334 := n1_
     have BK344 := n2_
     have BK345 := n3_
     have BK351 := n4_
     have BK357 := n5_
     have BK362 := n6_
     have HB := n7_
     clear n0_ n1_ n2_ n3_ n4_ n5_ n6_ n7_
     have n0_ := Aside0.mk (blk_drew BK333.out)
     have n1_ := Aside0.mk (blk_drew BK334.out)
     have n2_ := Aside0.mk (blk_drew BK344.out)
     have n3_ := Aside0.mk (blk_drew BK345.out)
     have n4_ := Aside0.mk (blk_drew BK351.out)
     have n5_ := Aside0.mk (blk_drew BK357.out)
     have n6_ := Aside0.mk (blk_drew BK362.out)
     have n7_ := Aside0.mk (below_drew1 HB.out)
     clear BK333 BK334 BK344 BK345 BK351 BK357 BK362 HB
     have BK333 := n0_
     have BK334 := n1_
     have BK344 := n2_
     have BK345 := n3_
     have BK351 := n4_
     have BK357 := n5_
     have BK362 := n6_
     have HB := n7_
     clear n0_ n1_ n2_ n3_ n4_ n5_ n6_ n7_
     refine start_ (n := 17) (S := fun w' => w'.cell? ⟨gb333, 0, none⟩ = some (.int .i64 t325) ∧ w'.cell? ⟨gb333, 1, none⟩ = some (.int .i64 t326) ∧ w'.cell? ⟨gb333, 2, none⟩ = some (.int .i64 t327) ∧ w'.cell? ⟨gb333, 3, none⟩ = some (.int .i64 t328) ∧ w'.cell? ⟨gb334, 0, none⟩ = some (.int .i64 t329) ∧ w'.cell? ⟨gb334, 1, none⟩ = some (.int .i64 t330) ∧ w'.cell? ⟨gb334, 2, none⟩ = some (.int .i64 t331) ∧ w'.cell? ⟨gb334, 3, none⟩ = some (.int .i64 t332)) (ds := []) #[false, false, false, false, false, false, false, false, false, false, false, false, false, false, false, false, false] (by kernel_rfl) rfl rfl (c4 BK333 (c4e BK334)) (fun hHeld => ?_); refine with_tabW laws_FnKeys.tab9 laws_FnKeys.bits9 (fun HT_ HW_ => ?_)
     generalize w60.drew = w61 at BK333 BK334 BK344 BK345 BK351 BK357 BK362 HB hHeld ⊢
     refine pure_ (i := 0) (N := some 42) (v := ?_) (a' := ?_) #[true, false, false, false, false, false, false, false, false, false, false, false, false, false, false, false, false] rfl rfl (any_of HT_.out (by kernel_rfl)) (fun _ _ _ h => h) (Or.inl ⟨by rfl, ?_⟩) ?_ ?_
     rotate_left
     ·intro w'
      go_simp
      with_reducible rfl
     rotate_left
     ·simp only [Act.put, List.setIfInBounds_toArray, List.set_cons_zero, List.set_cons_succ, i64_w, i32_w]
      rfl
     refine take_ (i := 1) (N := some 43) (v := ?_) (a' := ?_) #[true, true, false, false, false, false, false, false, false, false, false, false, false, false, false, false, false] rfl rfl (take_ofW HT_.out HW_.out (by kernel_rfl)) (fun _ _ _ h => h) (Or.inl ⟨by rfl, ?_⟩) hHeld ?_ ?_
     rotate_left
     ·rintro w' ⟨s0, s1, s2, s3, s4, s5, s6, s7⟩
      go_simp
      with_reducible rfl
     rotate_left
     ·simp only [Act.put, List.setIfInBounds_toArray, List.set_cons_zero, List.set_cons_succ, i64_w, i32_w]
      rfl
     refine take_ (i := 2) (N := some 44) (v := ?_) (a' := ?_) #[true, true, true, false, false, false, false, false, false, false, false, false, false, false, false, false, false] rfl rfl (take_ofW HT_.out HW_.out (by kernel_rfl)) (fun _ _ _ h => h) (Or.inl ⟨by rfl, ?_⟩) hHeld ?_ ?_
     rotate_left
     ·rintro w' ⟨s0, s1, s2, s3, s4, s5, s6, s7⟩
      go_simp
      with_reducible rfl
     rotate_left
     ·simp only [Act.put, List.setIfInBounds_toArray, List.set_cons_zero, List.set_cons_succ, i64_w, i32_w]
      rfl
     refine one_ (i := 3) (N := some 45) #[true, true, true, true, false, false, false, false, false, false, false, false, false, false, false, false, false] rfl rfl (one_of HT_.out (by kernel_rfl)) (by decide) (fun K hK => ?_)
     refine goesR Try.func33 (by kernel_rfl) rfl #[.agg #[.int .i64 t325, .int .i64 t326, .int .i64 t327, .int .i64 t328], .agg #[.int .i64 t329, .int .i64 t330, .int .i64 t331, .int .i64 t332]] (by rfl) rfl rfl ?_
     with_reducible refine (spec_Covers.calls k t325 t326 t327 t328 t329 t330 t331 t332 t363 _ A54.out).mono ?_
     rintro e w62 ⟨rfl, hb⟩
     refine ⟨_, rfl, ?_⟩
     have n0_ := nblk BK333 hb
     have n1_ := nblk BK334 hb
     have n2_ := nblk BK344 hb
     have n3_ := nblk BK345 hb
     have n4_ := nblk BK351 hb
     have n5_ := nblk BK357 hb
     have n6_ := nblk BK362 hb
     have n7_ := nbs HB hb
     clear BK333 BK334 BK344 BK345 BK351 BK357 BK362 HB
     have BK333 := n0_
     have BK334 := n1_
     have BK344 := n2_
     have BK345 := n3_
     have BK351 := n4_
     have BK357 := n5_
     have BK362 := n6_
     have HB := n7_
     clear n0_ n1_ n2_ n3_ n4_ n5_ n6_ n7_
     (try clear hb)
     refine hK.out _ _ (c4 BK333 (c4e BK334)) (fun hHeld => ?_)
     clear hK K
     refine norm_ (a' := ?_) ?_ ?_
     rotate_left
     ·show Act.put _ (some 45) _ = _
      simp only [Act.put, List.setIfInBounds_toArray, List.set_cons_zero, List.set_cons_succ, i64_w, i32_w]
      rfl
     refine pure_ (i := 4) (N := some 46) (v := ?_) (a' := ?_) #[true, true, true, true, true, false, false, false, false, false, false, false, false, false, false, false, false] rfl rfl (any_of HT_.out (by kernel_rfl)) (fun _ _ _ h => h) (Or.inl ⟨by rfl, ?_⟩) ?_ ?_
     rotate_left
     ·intro w'
      go_simp
      with_reducible rfl
     rotate_left
     ·simp only [Act.put, List.setIfInBounds_toArray, List.set_cons_zero, List.set_cons_succ, i64_w, i32_w]
      rfl
     refine pure_ (i := 5) (N := some 47) (v := ?_) (a' := ?_) #[true, true, true, true, true, true, false, false, false, false, false, false, false, false, false, false, false] rfl rfl (any_of HT_.out (by kernel_rfl)) (fun _ _ _ h => h) (Or.inl ⟨by rfl, ?_⟩) ?_ ?_
     rotate_left
     ·intro w'
      go_simp
      with_reducible rfl
     rotate_left
     ·simp only [Act.put, List.setIfInBounds_toArray, List.set_cons_zero, List.set_cons_succ, i64_w, i32_w]
      rfl
     refine pure_ (i := 6) (N := some 48) (v := ?_) (a' := ?_) #[true, true, true, true, true, true, true, false, false, false, false, false, false, false, false, false, false] rfl rfl (any_of HT_.out (by kernel_rfl)) (fun _ _ _ h => h) (Or.inl ⟨by rfl, ?_⟩) ?_ ?_
     rotate_left
     ·intro w'
      go_simp
      with_reducible rfl
     rotate_left
     ·simp only [Act.put, List.setIfInBounds_toArray, List.set_cons_zero, List.set_cons_succ, i64_w, i32_w]
      rfl
     refine pure_ (i := 7) (N := some 49) (v := ?_) (a' := ?_) #[true, true, true, true, true, true, true, true, false, false, false, false, false, false, false, false, false] rfl rfl (any_of HT_.out (by kernel_rfl)) (fun _ _ _ h => h) (Or.inl ⟨by rfl, ?_⟩) ?_ ?_
     rotate_left
     ·intro w'
      go_simp
      with_reducible rfl
     rotate_left
     ·simp only [Act.put, List.setIfInBounds_toArray, List.set_cons_zero, List.set_cons_succ, i64_w, i32_w]
      rfl
     refine pure_ (i := 8) (N := some 50) (v := ?_) (a' := ?_) #[true, true, true, true, true, true, true, true, true, false, false, false, false, false, false, false, false] rfl rfl (any_of HT_.out (by kernel_rfl)) (fun _ _ _ h => h) (Or.inl ⟨by rfl, ?_⟩) ?_ ?_
     rotate_left
     ·intro w'
      go_simp
      with_reducible rfl
     rotate_left
     ·simp only [Act.put, List.setIfInBounds_toArray, List.set_cons_zero, List.set_cons_succ, i64_w, i32_w]
      rfl
     refine pure_ (i := 9) (N := some 51) (v := ?_) (a' := ?_) #[true, true, true, true, true, true, true, true, true, true, false, false, false, false, false, false, false] rfl rfl (any_of HT_.out (by kernel_rfl)) (fun _ _ _ h => h) (Or.inl ⟨by rfl, ?_⟩) ?_ ?_
     rotate_left
     ·intro w'
      go_simp
      with_reducible rfl
     rotate_left
     ·simp only [Act.put, List.setIfInBounds_toArray, List.set_cons_zero, List.set_cons_succ, i64_w, i32_w]
      rfl
     refine pure_ (i := 10) (N := some 52) (v := ?_) (a' := ?_) #[true, true, true, true, true, true, true, true, true, true, true, false, false, false, false, false, false] rfl rfl (any_of HT_.out (by kernel_rfl)) (fun _ _ _ h => h) (Or.inl ⟨by rfl, ?_⟩) ?_ ?_
     rotate_left
     ·intro w'
      go_simp
      with_reducible rfl
     rotate_left
     ·simp only [Act.put, List.setIfInBounds_toArray, List.set_cons_zero, List.set_cons_succ, i64_w, i32_w]
      rfl
     refine pure_ (i := 11) (N := some 53) (v := undef) (a' := ?_) #[true, true, true, true, true, true, true, true, true, true, true, true, false, false, false, false, false] rfl rfl (any_of HT_.out (by kernel_rfl)) (fun _ _ _ h => h) (Or.inr ⟨by rfl, rfl⟩) ?_ ?_
     rotate_left
     ·simp only [Act.put, List.setIfInBounds_toArray, List.set_cons_zero, List.set_cons_succ, i64_w, i32_w]
      rfl
     refine pure_ (i := 12) (N := some 54) (v := undef) (a' := ?_) #[true, true, true, true, true, true, true, true, true, true, true, true, true, false, false, false, false] rfl rfl (any_of HT_.out (by kernel_rfl)) (fun _ _ _ h => h) (Or.inr ⟨by rfl, rfl⟩) ?_ ?_
     rotate_left
     ·simp only [Act.put, List.setIfInBounds_toArray, List.set_cons_zero, List.set_cons_succ, i64_w, i32_w]
      rfl
     refine pure_ (i := 13) (N := some 55) (v := undef) (a' := ?_) #[true, true, true, true, true, true, true, true, true, true, true, true, true, true, false, false, false] rfl rfl (any_of HT_.out (by kernel_rfl)) (fun _ _ _ h => h) (Or.inr ⟨by rfl, rfl⟩) ?_ ?_
     rotate_left
     ·simp only [Act.put, List.setIfInBounds_toArray, List.set_cons_zero, List.set_cons_succ, i64_w, i32_w]
      rfl
     refine pure_ (i := 14) (N := some 56) (v := undef) (a' := ?_) #[true, true, true, true, true, true, true, true, true, true, true, true, true, true, true, false, false] rfl rfl (any_of HT_.out (by kernel_rfl)) (fun _ _ _ h => h) (Or.inr ⟨by rfl, rfl⟩) ?_ ?_
     rotate_left
     ·simp only [Act.put, List.setIfInBounds_toArray, List.set_cons_zero, List.set_cons_succ, i64_w, i32_w]
      rfl
     refine pure_ (i := 15) (N := some 57) (v := undef) (a' := ?_) #[true, true, true, true, true, true, true, true, true, true, true, true, true, true, true, true, false] rfl rfl (any_of HT_.out (by kernel_rfl)) (fun _ _ _ h => h) (Or.inr ⟨by rfl, rfl⟩) ?_ ?_
     rotate_left
     ·simp only [Act.put, List.setIfInBounds_toArray, List.set_cons_zero, List.set_cons_succ, i64_w, i32_w]
      rfl
     refine pure_ (i := 16) (N := some 58) (v := ?_) (a' := ?_) #[true, true, true, true, true, true, true, true, true, true, true, true, true, true, true, true, true] rfl rfl (any_of HT_.out (by kernel_rfl)) (fun _ _ _ h => h) (Or.inl ⟨by rfl, ?_⟩) ?_ ?_
     rotate_left
     ·intro w'
      go_simp
      with_reducible rfl
     rotate_left
     ·simp only [Act.put, List.setIfInBounds_toArray, List.set_cons_zero, List.set_cons_succ, i64_w, i32_w]
      rfl
     refine done_ (done_of HT_.out (by kernel_rfl)) ?_
     try go_wp2
     go_meet
     case rel => exact ⟨_, (true), (by first | rfl | (simp; done) | (simp [*]; done)), H', ⟨by first | omega | exact Nat.le_refl _⟩, ⟨by (with_reducible repeat (first | refine blk_drewN ?_ _ | refine blk_drew ?_ | refine blk_alloc ?_ _)); exact BK333.out⟩, ⟨by (with_reducible repeat (first | refine blk_drewN ?_ _ | refine blk_drew ?_ | refine blk_alloc ?_ _)); exact BK334.out⟩, ⟨by (with_reducible repeat (first | refine blk_drewN ?_ _ | refine blk_drew ?_ | refine blk_alloc ?_ _)); exact BK344.out⟩, ⟨by (with_reducible repeat (first | refine blk_drewN ?_ _ | refine blk_drew ?_ | refine blk_alloc ?_ _)); exact BK345.out⟩, ⟨by (with_reducible repeat (first | refine blk_drewN ?_ _ | refine blk_drew ?_ | refine blk_alloc ?_ _)); exact BK351.out⟩, ⟨by (with_reducible repeat (first | refine blk_drewN ?_ _ | refine blk_drew ?_ | refine blk_alloc ?_ _)); exact BK357.out⟩, ⟨by (with_reducible repeat (first | refine blk_drewN ?_ _ | refine blk_drew ?_ | refine blk_alloc ?_ _)); exact BK362.out⟩, ⟨by repeat (first | (with_reducible first | exact HB.out | apply below_alloc | apply pw_below_drewN | apply below_drew1 | refine below_set ?_ GE333.out | refine below_set ?_ GE334.out | refine below_set ?_ GE344.out | refine below_set ?_ GE345.out | refine below_set ?_ GE351.out | refine below_set ?_ GE357.out | refine below_set ?_ GE362.out) | exact HB.out)⟩⟩
    ·rw [if_neg c59] at H
     have c59b0 : (t350 != t356) = false := by simpa using c59
     (try (have c59b1 : decide (t350 = t356) = true := by simpa using c59))
     (try (have c59b2 : (t350 == t356) = true := by simpa using c59))
     clear c59
     replace H := Option.bind_eq_some_iff.mp H
     obtain ⟨t364, A630, H⟩ := H
     replace H : ((spec_KeyOk.f k t358 t359 t360 t361).bind fun t365 => (laws_FnKeys.j0 k t335 t350 (t364 != t365) t325 t326 t327 t328 t329 t330 t331 t332 t336 t337 t338 t339 t340 t341 t342 t343 t346 t347 t348 t349 t358 t359 t360 t361)) = some r := H
     have A63 := Aside0.mk A630
     clear A630
     replace H := Option.bind_eq_some_iff.mp H
     obtain ⟨t365, A640, H⟩ := H
     replace H : (laws_FnKeys.j0 k t335 t350 (t364 != t365) t325 t326 t327 t328 t329 t330 t331 t332 t336 t337 t338 t339 t340 t341 t342 t343 t346 t347 t348 t349 t358 t359 t360 t361) = some r := H
     have A64 := Aside0.mk A640
     clear A640
     have H' := Aside0.mk H
     clear H
     try go_wp2
     have n0_ : Aside0 (((((w46.setCell ⟨gb362, 0, none⟩ (.int .i64 t358)).setCell ⟨gb362, 1, none⟩ (.int .i64 t359)).setCell ⟨gb362, 2, none⟩ (.int .i64 t360)).setCell ⟨gb362, 3, none⟩ (.int .i64 t361)).heap[gb333]? = some (.cells #[.int .i64 t325, .int .i64 t326, .int .i64 t327, .int .i64 t328] 25 (0, 0))) := ⟨by (with_reducible repeat (first | refine blk_drewN ?_ _ | refine blk_drew ?_ | refine blk_alloc ?_ _)); refine blk_far ?_ NB333_362.out _; (with_reducible repeat (first | refine blk_drewN ?_ _ | refine blk_drew ?_ | refine blk_alloc ?_ _)); refine blk_far ?_ NB333_362.out _; (with_reducible repeat (first | refine blk_drewN ?_ _ | refine blk_drew ?_ | refine blk_alloc ?_ _)); refine blk_far ?_ NB333_362.out _; (with_reducible repeat (first | refine blk_drewN ?_ _ | refine blk_drew ?_ | refine blk_alloc ?_ _)); refine blk_far ?_ NB333_362.out _; (with_reducible repeat (first | refine blk_drewN ?_ _ | refine blk_drew ?_ | refine blk_alloc ?_ _)); exact BK333.out⟩
     have n1_ : Aside0 (((((w46.setCell ⟨gb362, 0, none⟩ (.int .i64 t358)).setCell ⟨gb362, 1, none⟩ (.int .i64 t359)).setCell ⟨gb362, 2, none⟩ (.int .i64 t360)).setCell ⟨gb362, 3, none⟩ (.int .i64 t361)).heap[gb334]? = some (.cells #[.int .i64 t329, .int .i64 t330, .int .i64 t331, .int .i64 t332] 25 (0, 0))) := ⟨by (with_reducible repeat (first | refine blk_drewN ?_ _ | refine blk_drew ?_ | refine blk_alloc ?_ _)); refine blk_far ?_ NB334_362.out _; (with_reducible repeat (first | refine blk_drewN ?_ _ | refine blk_drew ?_ | refine blk_alloc ?_ _)); refine blk_far ?_ NB334_362.out _; (with_reducible repeat (first | refine blk_drewN ?_ _ | refine blk_drew ?_ | refine blk_alloc ?_ _)); refine blk_far ?_ NB334_362.out _; (with_reducible repeat (first | refine blk_drewN ?_ _ | refine blk_drew ?_ | refine blk_alloc ?_ _)); refine blk_far ?_ NB334_362.out _; (with_reducible repeat (first | refine blk_drewN ?_ _ | refine blk_drew ?_ | refine blk_alloc ?_ _)); exact BK334.out⟩
     have n2_ : Aside0 (((((w46.setCell ⟨gb362, 0, none⟩ (.int .i64 t358)).setCell ⟨gb362, 1, none⟩ (.int .i64 t359)).setCell ⟨gb362, 2, none⟩ (.int .i64 t360)).setCell ⟨gb362, 3, none⟩ (.int .i64 t361)).heap[gb344]? = some (.cells #[.int .i64 t336, .int .i64 t337, .int .i64 t338, .int .i64 t339] 25 (0, 0))) := ⟨by (with_reducible repeat (first | refine blk_drewN ?_ _ | refine blk_drew ?_ | refine blk_alloc ?_ _)); refine blk_far ?_ NB344_362.out _; (with_reducible repeat (first | refine blk_drewN ?_ _ | refine blk_drew ?_ | refine blk_alloc ?_ _)); refine blk_far ?_ NB344_362.out _; (with_reducible repeat (first | refine blk_drewN ?_ _ | refine blk_drew ?_ | refine blk_alloc ?_ _)); refine blk_far ?_ NB344_362.out _; (with_reducible repeat (first | refine blk_drewN ?_ _ | refine blk_drew ?_ | refine blk_alloc ?_ _)); refine blk_far ?_ NB344_362.out _; (with_reducible repeat (first | refine blk_drewN ?_ _ | refine blk_drew ?_ | refine blk_alloc ?_ _)); exact BK344.out⟩
     have n3_ : Aside0 (((((w46.setCell ⟨gb362, 0, none⟩ (.int .i64 t358)).setCell ⟨gb362, 1, none⟩ (.int .i64 t359)).setCell ⟨gb362, 2, none⟩ (.int .i64 t360)).setCell ⟨gb362, 3, none⟩ (.int .i64 t361)).heap[gb345]? = some (.cells #[.int .i64 t340, .int .i64 t341, .int .i64 t342, .int .i64 t343] 25 (0, 0))) := ⟨by (with_reducible repeat (first | refine blk_drewN ?_ _ | refine blk_drew ?_ | refine blk_alloc ?_ _)); refine blk_far ?_ NB345_362.out _; (with_reducible repeat (first | refine blk_drewN ?_ _ | refine blk_drew ?_ | refine blk_alloc ?_ _)); refine blk_far ?_ NB345_362.out _; (with_reducible repeat (first | refine blk_drewN ?_ _ | refine blk_drew ?_ | refine blk_alloc ?_ _)); refine blk_far ?_ NB345_362.out _; (with_reducible repeat (first | refine blk_drewN ?_ _ | refine blk_drew ?_ | refine blk_alloc ?_ _)); refine blk_far ?_ NB345_362.out _; (with_reducible repeat (first | refine blk_drewN ?_ _ | refine blk_drew ?_ | refine blk_alloc ?_ _)); exact BK345.out⟩
     have n4_ : Aside0 (((((w46.setCell ⟨gb362, 0, none⟩ (.int .i64 t358)).setCell ⟨gb362, 1, none⟩ (.int .i64 t359)).setCell ⟨gb362, 2, none⟩ (.int .i64 t360)).setCell ⟨gb362, 3, none⟩ (.int .i64 t361)).heap[gb351]? = some (.cells #[.int .i64 t346, .int .i64 t347, .int .i64 t348, .int .i64 t349] 25 (0, 0))) := ⟨by (with_reducible repeat (first | refine blk_drewN ?_ _ | refine blk_drew ?_ | refine blk_alloc ?_ _)); refine blk_far ?_ NB351_362.out _; (with_reducible repeat (first | refine blk_drewN ?_ _ | refine blk_drew ?_ | refine blk_alloc ?_ _)); refine blk_far ?_ NB351_362.out _; (with_reducible repeat (first | refine blk_drewN ?_ _ | refine blk_drew ?_ | refine blk_alloc ?_ _)); refine blk_far ?_ NB351_362.out _; (with_reducible repeat (first | refine blk_drewN ?_ _ | refine blk_drew ?_ | refine blk_alloc ?_ _)); refine blk_far ?_ NB351_362.out _; (with_reducible repeat (first | refine blk_drewN ?_ _ | refine blk_drew ?_ | refine blk_alloc ?_ _)); exact BK351.out⟩
     have n5_ : Aside0 (((((w46.setCell ⟨gb362, 0, none⟩ (.int .i64 t358)).setCell ⟨gb362, 1, none⟩ (.int .i64 t359)).setCell ⟨gb362, 2, none⟩ (.int .i64 t360)).setCell ⟨gb362, 3, none⟩ (.int .i64 t361)).heap[gb357]? = some (.cells #[.int .i64 t352, .int .i64 t353, .int .i64 t354, .int .i64 t355] 25 (0, 0))) := ⟨by (with_reducible repeat (first | refine blk_drewN ?_ _ | refine blk_drew ?_ | refine blk_alloc ?_ _)); refine blk_far ?_ NB357_362.out _; (with_reducible repeat (first | refine blk_drewN ?_ _ | refine blk_drew ?_ | refine blk_alloc ?_ _)); refine blk_far ?_ NB357_362.out _; (with_reducible repeat (first | refine blk_drewN ?_ _ | refine blk_drew ?_ | refine blk_alloc ?_ _)); refine blk_far ?_ NB357_362.out _; (with_reducible repeat (first | refine blk_drewN ?_ _ | refine blk_drew ?_ | refine blk_alloc ?_ _)); refine blk_far ?_ NB357_362.out _; (with_reducible repeat (first | refine blk_drewN ?_ _ | refine blk_drew ?_ | refine blk_alloc ?_ _)); exact BK357.out⟩
     have n6_ : Aside0 (((((w46.setCell ⟨gb362, 0, none⟩ (.int .i64 t358)).setCell ⟨gb362, 1, none⟩ (.int .i64 t359)).setCell ⟨gb362, 2, none⟩ (.int .i64 t360)).setCell ⟨gb362, 3, none⟩ (.int .i64 t361)).heap[gb362]? = some (.cells #[.int .i64 t358, .int .i64 t359, .int .i64 t360, .int .i64 t361] 25 (0, 0))) := ⟨by (with_reducible repeat (first | refine blk_drewN ?_ _ | refine blk_drew ?_ | refine blk_alloc ?_ _)); refine blk_put (cs := #[.int .i64 t358, .int .i64 t359, .int .i64 t360, .int .i64 0]) ?_ 3 _ rfl; (with_reducible repeat (first | refine blk_drewN ?_ _ | refine blk_drew ?_ | refine blk_alloc ?_ _)); refine blk_put (cs := #[.int .i64 t358, .int .i64 t359, .int .i64 0, .int .i64 0]) ?_ 2 _ rfl; (with_reducible repeat (first | refine blk_drewN ?_ _ | refine blk_drew ?_ | refine blk_alloc ?_ _)); refine blk_put (cs := #[.int .i64 t358, .int .i64 0, .int .i64 0, .int .i64 0]) ?_ 1 _ rfl; (with_reducible repeat (first | refine blk_drewN ?_ _ | refine blk_drew ?_ | refine blk_alloc ?_ _)); refine blk_put (cs := #[.int .i64 0, .int .i64 0, .int .i64 0, .int .i64 0]) ?_ 0 _ rfl; (with_reducible repeat (first | refine blk_drewN ?_ _ | refine blk_drew ?_ | refine blk_alloc ?_ _)); exact BK362.out⟩
     have n7_ : Aside0 (Below w.heap.size w ((((w46.setCell ⟨gb362, 0, none⟩ (.int .i64 t358)).setCell ⟨gb362, 1, none⟩ (.int .i64 t359)).setCell ⟨gb362, 2, none⟩ (.int .i64 t360)).setCell ⟨gb362, 3, none⟩ (.int .i64 t361))) := ⟨by repeat (first | (with_reducible first | exact HB.out | apply below_alloc | apply pw_below_drewN | apply below_drew1 | refine below_set ?_ GE333.out | refine below_set ?_ GE334.out | refine below_set ?_ GE344.out | refine below_set ?_ GE345.out | refine below_set ?_ GE351.out | refine below_set ?_ GE357.out | refine below_set ?_ GE362.out) | exact HB.out)⟩
     (try clear BK333)
     (try clear BK334)
     (try clear BK344)
     (try clear BK345)
     (try clear BK351)
     (try clear BK357)
     (try clear BK362)
     (try clear HB)
     generalize ((((w46.setCell ⟨gb362, 0, none⟩ (.int .i64 t358)).setCell ⟨gb362, 1, none⟩ (.int .i64 t359)).setCell ⟨gb362, 2, none⟩ (.int .i64 t360)).setCell ⟨gb362, 3, none⟩ (.int .i64 t361)) = w65 at n0_ n1_ n2_ n3_ n4_ n5_ n6_ n7_ ⊢
     have BK333 := n0_
     have BK334 := n1_
     have BK344 := n2_
     have BK345 := n3_
     have BK351 := n4_
     have BK357 := n5_
     have BK362 := n6_
     have HB := n7_
     clear n0_ n1_ n2_ n3_ n4_ n5_ n6_ n7_
     have n0_ := Aside0.mk (blk_drew BK333.out)
     have n1_ := Aside0.mk (blk_drew BK334.out)
     have n2_ := Aside0.mk (blk_drew BK344.out)
     have n3_ := Aside0.mk (blk_drew BK345.out)
     have n4_ := Aside0.mk (blk_drew BK351.out)
     have n5_ := Aside0.mk (blk_drew BK357.out)
     have n6_ := Aside0.mk (blk_drew BK362.out)
     have n7_ := Aside0.mk (below_drew1 HB.out)
     clear BK333 BK334 BK344 BK345 BK351 BK357 BK362 HB
     have BK333 := n0_
     have BK334 := n1_
     have BK344 := n2_
     have BK345 := n3_
     have BK351 := n4_
     have BK357 := n5_
     have BK362 := n6_
     have HB := n7_
     clear n0_ n1_ n2_ n3_ n4_ n5_ n6_ n7_
     refine start_ (n := 17) (S := fun w' => w'.cell? ⟨gb333, 0, none⟩ = some (.int .i64 t325) ∧ w'.cell? ⟨gb333, 1, none⟩ = some (.int .i64 t326) ∧ w'.cell? ⟨gb333, 2, none⟩ = some (.int .i64 t327) ∧ w'.cell? ⟨gb333, 3, none⟩ = some (.int .i64 t328) ∧ w'.cell? ⟨gb334, 0, none⟩ = some (.int .i64 t329) ∧ w'.cell? ⟨gb334, 1, none⟩ = some (.int .i64 t330) ∧ w'.cell? ⟨gb334, 2, none⟩ = some (.int .i64 t331) ∧ w'.cell? ⟨gb334, 3, none⟩ = some (.int .i64 t332) ∧ w'.cell? ⟨gb362, 0, none⟩ = some (.int .i64 t358) ∧ w'.cell? ⟨gb362, 1, none⟩ = some (.int .i64 t359) ∧ w'.cell? ⟨gb362, 2, none⟩ = some (.int .i64 t360) ∧ w'.cell? ⟨gb362, 3, none⟩ = some (.int .i64 t361)) (ds := []) #[false, false, false, false, false, false, false, false, false, false, false, false, false, false, false, false, false] (by kernel_rfl) rfl rfl (c4 BK333 (c4 BK334 (c4e BK362))) (fun hHeld => ?_); refine with_tabW laws_FnKeys.tab9 laws_FnKeys.bits9 (fun HT_ HW_ => ?_)
     generalize w65.drew = w66 at BK333 BK334 BK344 BK345 BK351 BK357 BK362 HB hHeld ⊢
     refine pure_ (i := 0) (N := some 42) (v := ?_) (a' := ?_) #[true, false, false, false, false, false, false, false, false, false, false, false, false, false, false, false, false] rfl rfl (any_of HT_.out (by kernel_rfl)) (fun _ _ _ h => h) (Or.inl ⟨by rfl, ?_⟩) ?_ ?_
     rotate_left
     ·intro w'
      go_simp
      with_reducible rfl
     rotate_left
     ·simp only [Act.put, List.setIfInBounds_toArray, List.set_cons_zero, List.set_cons_succ, i64_w, i32_w]
      rfl
     refine take_ (i := 1) (N := some 43) (v := ?_) (a' := ?_) #[true, true, false, false, false, false, false, false, false, false, false, false, false, false, false, false, false] rfl rfl (take_ofW HT_.out HW_.out (by kernel_rfl)) (fun _ _ _ h => h) (Or.inl ⟨by rfl, ?_⟩) hHeld ?_ ?_
     rotate_left
     ·rintro w' ⟨s0, s1, s2, s3, s4, s5, s6, s7, s8, s9, s10, s11⟩
      go_simp
      with_reducible rfl
     rotate_left
     ·simp only [Act.put, List.setIfInBounds_toArray, List.set_cons_zero, List.set_cons_succ, i64_w, i32_w]
      rfl
     refine take_ (i := 2) (N := some 44) (v := ?_) (a' := ?_) #[true, true, true, false, false, false, false, false, false, false, false, false, false, false, false, false, false] rfl rfl (take_ofW HT_.out HW_.out (by kernel_rfl)) (fun _ _ _ h => h) (Or.inl ⟨by rfl, ?_⟩) hHeld ?_ ?_
     rotate_left
     ·rintro w' ⟨s0, s1, s2, s3, s4, s5, s6, s7, s8, s9, s10, s11⟩
      go_simp
      with_reducible rfl
     rotate_left
     ·simp only [Act.put, List.setIfInBounds_toArray, List.set_cons_zero, List.set_cons_succ, i64_w, i32_w]
      rfl
     refine one_ (i := 3) (N := some 45) #[true, true, true, true, false, false, false, false, false, false, false, false, false, false, false, false, false] rfl rfl (one_of HT_.out (by kernel_rfl)) (by decide) (fun K hK => ?_)
     refine goesR Try.func33 (by kernel_rfl) rfl #[.agg #[.int .i64 t325, .int .i64 t326, .int .i64 t327, .int .i64 t328], .agg #[.int .i64 t329, .int .i64 t330, .int .i64 t331, .int .i64 t332]] (by rfl) rfl rfl ?_
     with_reducible refine (spec_Covers.calls k t325 t326 t327 t328 t329 t330 t331 t332 t363 _ A54.out).mono ?_
     rintro e w67 ⟨rfl, hb⟩
     refine ⟨_, rfl, ?_⟩
     have n0_ := nblk BK333 hb
     have n1_ := nblk BK334 hb
     have n2_ := nblk BK344 hb
     have n3_ := nblk BK345 hb
     have n4_ := nblk BK351 hb
     have n5_ := nblk BK357 hb
     have n6_ := nblk BK362 hb
     have n7_ := nbs HB hb
     clear BK333 BK334 BK344 BK345 BK351 BK357 BK362 HB
     have BK333 := n0_
     have BK334 := n1_
     have BK344 := n2_
     have BK345 := n3_
     have BK351 := n4_
     have BK357 := n5_
     have BK362 := n6_
     have HB := n7_
     clear n0_ n1_ n2_ n3_ n4_ n5_ n6_ n7_
     (try clear hb)
     refine hK.out _ _ (c4 BK333 (c4 BK334 (c4e BK362))) (fun hHeld => ?_)
     clear hK K
     refine norm_ (a' := ?_) ?_ ?_
     rotate_left
     ·show Act.put _ (some 45) _ = _
      simp only [Act.put, List.setIfInBounds_toArray, List.set_cons_zero, List.set_cons_succ, i64_w, i32_w]
      rfl
     refine pure_ (i := 4) (N := some 46) (v := ?_) (a' := ?_) #[true, true, true, true, true, false, false, false, false, false, false, false, false, false, false, false, false] rfl rfl (any_of HT_.out (by kernel_rfl)) (fun _ _ _ h => h) (Or.inl ⟨by rfl, ?_⟩) ?_ ?_
     rotate_left
     ·intro w'
      go_simp
      with_reducible rfl
     rotate_left
     ·simp only [Act.put, List.setIfInBounds_toArray, List.set_cons_zero, List.set_cons_succ, i64_w, i32_w]
      rfl
     refine pure_ (i := 5) (N := some 47) (v := ?_) (a' := ?_) #[true, true, true, true, true, true, false, false, false, false, false, false, false, false, false, false, false] rfl rfl (any_of HT_.out (by kernel_rfl)) (fun _ _ _ h => h) (Or.inl ⟨by rfl, ?_⟩) ?_ ?_
     rotate_left
     ·intro w'
      go_simp
      with_reducible rfl
     rotate_left
     ·simp only [Act.put, List.setIfInBounds_toArray, List.set_cons_zero, List.set_cons_succ, i64_w, i32_w]
      rfl
     refine pure_ (i := 6) (N := some 48) (v := ?_) (a' := ?_) #[true, true, true, true, true, true, true, false, false, false, false, false, false, false, false, false, false] rfl rfl (any_of HT_.out (by kernel_rfl)) (fun _ _ _ h => h) (Or.inl ⟨by rfl, ?_⟩) ?_ ?_
     rotate_left
     ·intro w'
      go_simp
      with_reducible rfl
     rotate_left
     ·simp only [Act.put, List.setIfInBounds_toArray, List.set_cons_zero, List.set_cons_succ, i64_w, i32_w]
      rfl
     refine pure_ (i := 7) (N := some 49) (v := ?_) (a' := ?_) #[true, true, true, true, true, true, true, true, false, false, false, false, false, false, false, false, false] rfl rfl (any_of HT_.out (by kernel_rfl)) (fun _ _ _ h => h) (Or.inl ⟨by rfl, ?_⟩) ?_ ?_
     rotate_left
     ·intro w'
      go_simp
      with_reducible rfl
     rotate_left
     ·simp only [Act.put, List.setIfInBounds_toArray, List.set_cons_zero, List.set_cons_succ, i64_w, i32_w]
      rfl
     refine pure_ (i := 8) (N := some 50) (v := ?_) (a' := ?_) #[true, true, true, true, true, true, true, true, true, false, false, false, false, false, false, false, false] rfl rfl (any_of HT_.out (by kernel_rfl)) (fun _ _ _ h => h) (Or.inl ⟨by rfl, ?_⟩) ?_ ?_
     rotate_left
     ·intro w'
      go_simp
      with_reducible rfl
     rotate_left
     ·simp only [Act.put, List.setIfInBounds_toArray, List.set_cons_zero, List.set_cons_succ, i64_w, i32_w]
      rfl
     refine pure_ (i := 9) (N := some 51) (v := ?_) (a' := ?_) #[true, true, true, true, true, true, true, true, true, true, false, false, false, false, false, false, false] rfl rfl (any_of HT_.out (by kernel_rfl)) (fun _ _ _ h => h) (Or.inl ⟨by rfl, ?_⟩) ?_ ?_
     rotate_left
     ·intro w'
      go_simp
      with_reducible rfl
     rotate_left
     ·simp only [Act.put, List.setIfInBounds_toArray, List.set_cons_zero, List.set_cons_succ, i64_w, i32_w]
      rfl
     refine pure_ (i := 10) (N := some 52) (v := ?_) (a' := ?_) #[true, true, true, true, true, true, true, true, true, true, true, false, false, false, false, false, false] rfl rfl (any_of HT_.out (by kernel_rfl)) (fun _ _ _ h => h) (Or.inl ⟨by rfl, ?_⟩) ?_ ?_
     rotate_left
     ·intro w'
      go_simp
      with_reducible rfl
     rotate_left
     ·simp only [Act.put, List.setIfInBounds_toArray, List.set_cons_zero, List.set_cons_succ, i64_w, i32_w]
      rfl
     refine take_ (i := 11) (N := some 53) (v := ?_) (a' := ?_) #[true, true, true, true, true, true, true, true, true, true, true, true, false, false, false, false, false] rfl rfl (take_ofW HT_.out HW_.out (by kernel_rfl)) (fun _ _ _ h => h) (Or.inl ⟨by rfl, ?_⟩) hHeld ?_ ?_
     rotate_left
     ·rintro w' ⟨s0, s1, s2, s3, s4, s5, s6, s7, s8, s9, s10, s11⟩
      go_simp
      with_reducible rfl
     rotate_left
     ·simp only [Act.put, List.setIfInBounds_toArray, List.set_cons_zero, List.set_cons_succ, i64_w, i32_w]
      rfl
     refine take_ (i := 13) (N := some 55) (v := ?_) (a' := ?_) #[true, true, true, true, true, true, true, true, true, true, true, true, false, true, false, false, false] rfl rfl (take_ofW HT_.out HW_.out (by kernel_rfl)) (fun _ _ _ h => h) (Or.inl ⟨by rfl, ?_⟩) hHeld ?_ ?_
     rotate_left
     ·rintro w' ⟨s0, s1, s2, s3, s4, s5, s6, s7, s8, s9, s10, s11⟩
      go_simp
      with_reducible rfl
     rotate_left
     ·simp only [Act.put, List.setIfInBounds_toArray, List.set_cons_zero, List.set_cons_succ, i64_w, i32_w]
      rfl
     refine one_ (i := 12) (N := some 54) #[true, true, true, true, true, true, true, true, true, true, true, true, true, true, false, false, false] rfl rfl (one_of HT_.out (by kernel_rfl)) (by decide) (fun K hK => ?_)
     refine goesR Try.func34 (by kernel_rfl) rfl #[.agg #[.int .i64 t358, .int .i64 t359, .int .i64 t360, .int .i64 t361]] (by rfl) rfl rfl ?_
     with_reducible refine (impl_KeyOk.calls k t358 t359 t360 t361 t364 _ A63.out).mono ?_
     rintro e w68 ⟨rfl, hb⟩
     refine ⟨_, rfl, ?_⟩
     have n0_ := nblk BK333 hb
     have n1_ := nblk BK334 hb
     have n2_ := nblk BK344 hb
     have n3_ := nblk BK345 hb
     have n4_ := nblk BK351 hb
     have n5_ := nblk BK357 hb
     have n6_ := nblk BK362 hb
     have n7_ := nbs HB hb
     clear BK333 BK334 BK344 BK345 BK351 BK357 BK362 HB
     have BK333 := n0_
     have BK334 := n1_
     have BK344 := n2_
     have BK345 := n3_
     have BK351 := n4_
     have BK357 := n5_
     have BK362 := n6_
     have HB := n7_
     clear n0_ n1_ n2_ n3_ n4_ n5_ n6_ n7_
     (try clear hb)
     refine hK.out _ _ (c4 BK333 (c4 BK334 (c4e BK362))) (fun hHeld => ?_)
     clear hK K
     refine norm_ (a' := ?_) ?_ ?_
     rotate_left
     ·show Act.put _ (some 54) _ = _
      simp only [Act.put, List.setIfInBounds_toArray, List.set_cons_zero, List.set_cons_succ, i64_w, i32_w]
      rfl
     refine one_ (i := 14) (N := some 56) #[true, true, true, true, true, true, true, true, true, true, true, true, true, true, true, false, false] rfl rfl (one_of HT_.out (by kernel_rfl)) (by decide) (fun K hK => ?_)
     refine goesR Try.func35 (by kernel_rfl) rfl #[.agg #[.int .i64 t358, .int .i64 t359, .int .i64 t360, .int .i64 t361]] (by rfl) rfl rfl ?_
     with_reducible refine (spec_KeyOk.calls k t358 t359 t360 t361 t365 _ A64.out).mono ?_
     rintro e w69 ⟨rfl, hb⟩
     refine ⟨_, rfl, ?_⟩
     have n0_ := nblk BK333 hb
     have n1_ := nblk BK334 hb
     have n2_ := nblk BK344 hb
     have n3_ := nblk BK345 hb
     have n4_ := nblk BK351 hb
     have n5_ := nblk BK357 hb
     have n6_ := nblk BK362 hb
     have n7_ := nbs HB hb
     clear BK333 BK334 BK344 BK345 BK351 BK357 BK362 HB
     have BK333 := n0_
     have BK334 := n1_
     have BK344 := n2_
     have BK345 := n3_
     have BK351 := n4_
     have BK357 := n5_
     have BK362 := n6_
     have HB := n7_
     clear n0_ n1_ n2_ n3_ n4_ n5_ n6_ n7_
     (try clear hb)
     refine hK.out _ _ (c4 BK333 (c4 BK334 (c4e BK362))) (fun hHeld => ?_)
     clear hK K
     refine norm_ (a' := ?_) ?_ ?_
     rotate_left
     ·show Act.put _ (some 56) _ = _
      simp only [Act.put, List.setIfInBounds_toArray, List.set_cons_zero, List.set_cons_succ, i64_w, i32_w]
      rfl
     refine pure_ (i := 15) (N := some 57) (v := ?_) (a' := ?_) #[true, true, true, true, true, true, true, true, true, true, true, true, true, true, true, true, false] rfl rfl (any_of HT_.out (by kernel_rfl)) (fun _ _ _ h => h) (Or.inl ⟨by rfl, ?_⟩) ?_ ?_
     rotate_left
     ·intro w'
      go_simp
      with_reducible rfl
     rotate_left
     ·simp only [Act.put, List.setIfInBounds_toArray, List.set_cons_zero, List.set_cons_succ, i64_w, i32_w]
      rfl
     refine pure_ (i := 16) (N := some 58) (v := ?_) (a' := ?_) #[true, true, true, true, true, true, true, true, true, true, true, true, true, true, true, true, true] rfl rfl (any_of HT_.out (by kernel_rfl)) (fun _ _ _ h => h) (Or.inl ⟨by rfl, ?_⟩) ?_ ?_
     rotate_left
     ·intro w'
      go_simp
      with_reducible rfl
     rotate_left
     ·simp only [Act.put, List.setIfInBounds_toArray, List.set_cons_zero, List.set_cons_succ, i64_w, i32_w]
      rfl
     refine done_ (done_of HT_.out (by kernel_rfl)) ?_
     try go_wp2
     go_meet
     case rel => exact ⟨_, ((t364 != t365)), (by first | rfl | (simp; done) | (simp [*]; done)), H', ⟨by first | omega | exact Nat.le_refl _⟩, ⟨by (with_reducible repeat (first | refine blk_drewN ?_ _ | refine blk_drew ?_ | refine blk_alloc ?_ _)); exact BK333.out⟩, ⟨by (with_reducible repeat (first | refine blk_drewN ?_ _ | refine blk_drew ?_ | refine blk_alloc ?_ _)); exact BK334.out⟩, ⟨by (with_reducible repeat (first | refine blk_drewN ?_ _ | refine blk_drew ?_ | refine blk_alloc ?_ _)); exact BK344.out⟩, ⟨by (with_reducible repeat (first | refine blk_drewN ?_ _ | refine blk_drew ?_ | refine blk_alloc ?_ _)); exact BK345.out⟩, ⟨by (with_reducible repeat (first | refine blk_drewN ?_ _ | refine blk_drew ?_ | refine blk_alloc ?_ _)); exact BK351.out⟩, ⟨by (with_reducible repeat (first | refine blk_drewN ?_ _ | refine blk_drew ?_ | refine blk_alloc ?_ _)); exact BK357.out⟩, ⟨by (with_reducible repeat (first | refine blk_drewN ?_ _ | refine blk_drew ?_ | refine blk_alloc ?_ _)); exact BK362.out⟩, ⟨by repeat (first | (with_reducible first | exact HB.out | apply below_alloc | apply pw_below_drewN | apply below_drew1 | refine below_set ?_ GE333.out | refine below_set ?_ GE334.out | refine below_set ?_ GE344.out | refine below_set ?_ GE345.out | refine below_set ?_ GE351.out | refine below_set ?_ GE357.out | refine below_set ?_ GE362.out) | exact HB.out)⟩⟩
  case rest =>
   clear HC10
   try clear p2
   try clear c3
   try clear c5
   try clear c33
   try clear c34
   try clear c35
   try clear c55
   try clear c55b0
   try clear c55b1
   try clear c55b2
   try clear c59
   try clear c59b0
   try clear c59b1
   try clear c59b2
   obtain ⟨kq, x58_9, rfl, HA, HJ9, BK333, BK334, BK344, BK345, BK351, BK357, BK362, HB⟩ := hcut
   cases kq with
   | zero => exact absurd HA.out (by simp [laws_FnKeys.j0])
   | succ kj9 =>
    have H := HA.out
    clear HA
    simp only [laws_FnKeys.j0] at H
    by_cases c70 : x58_9 = true
    ·subst c70
     have H1 : (some false) = some r := by rw [if_pos rfl] at H; exact H
     clear H
     have H := H1
     clear H1
     obtain rfl := Option.some.inj H
     go_wp2
     go_ret
     exact ⟨by first | rfl | (simp [errW_none, errW_some] <;> rfl) | (simp [*, errW_none, errW_some] <;> rfl), by repeat (first | (with_reducible first | exact HB.out | apply below_alloc | apply pw_below_drewN | apply below_drew1 | refine below_set ?_ GE333.out | refine below_set ?_ GE334.out | refine below_set ?_ GE344.out | refine below_set ?_ GE345.out | refine below_set ?_ GE351.out | refine below_set ?_ GE357.out | refine below_set ?_ GE362.out) | exact HB.out)⟩
    ·replace c70 := Bool.eq_false_iff.mpr c70
     subst c70
     have H1 : (if t350 = true then ((impl_Covers.f kj9 t336 t337 t338 t339 t346 t347 t348 t349).bind fun t366 => (if t366 = true then ((impl_Covers.f kj9 t340 t341 t342 t343 t346 t347 t348 t349).bind fun t367 => (if t367 = true then (laws_FnKeys.j1 kj9 t335 (t349 != 0) t325 t326 t327 t328 t329 t330 t331 t332 t358 t359 t360 t361) else (laws_FnKeys.j1 kj9 t335 true t325 t326 t327 t328 t329 t330 t331 t332 t358 t359 t360 t361))) else (laws_FnKeys.j1 kj9 t335 true t325 t326 t327 t328 t329 t330 t331 t332 t358 t359 t360 t361))) else (laws_FnKeys.j1 kj9 t335 false t325 t326 t327 t328 t329 t330 t331 t332 t358 t359 t360 t361)) = some r := by rw [if_neg (show ¬ (false = true) by decide)] at H; exact H
     clear H
     have H := H1
     clear H1
     have HC71 := Aside0.mk H
     clear H
     go_upto_region 11 with (fail)
     go_cut [76] (fun v76 wc => ∃ (kq : Nat) (x76_70 : Bool), v76 = .bool x76_70 ∧ Aside0 (laws_FnKeys.j1 kq t335 x76_70 t325 t326 t327 t328 t329 t330 t331 t332 t358 t359 t360 t361 = some r) ∧ Aside0 (kq ≤ kj9) ∧ Aside0 (wc.heap[gb333]? = some (.cells #[.int .i64 t325, .int .i64 t326, .int .i64 t327, .int .i64 t328] 25 (0, 0))) ∧ Aside0 (wc.heap[gb334]? = some (.cells #[.int .i64 t329, .int .i64 t330, .int .i64 t331, .int .i64 t332] 25 (0, 0))) ∧ Aside0 (wc.heap[gb344]? = some (.cells #[.int .i64 t336, .int .i64 t337, .int .i64 t338, .int .i64 t339] 25 (0, 0))) ∧ Aside0 (wc.heap[gb345]? = some (.cells #[.int .i64 t340, .int .i64 t341, .int .i64 t342, .int .i64 t343] 25 (0, 0))) ∧ Aside0 (wc.heap[gb351]? = some (.cells #[.int .i64 t346, .int .i64 t347, .int .i64 t348, .int .i64 t349] 25 (0, 0))) ∧ Aside0 (wc.heap[gb357]? = some (.cells #[.int .i64 t352, .int .i64 t353, .int .i64 t354, .int .i64 t355] 25 (0, 0))) ∧ Aside0 (wc.heap[gb362]? = some (.cells #[.int .i64 t358, .int .i64 t359, .int .i64 t360, .int .i64 t361] 25 (0, 0))) ∧ Aside0 (Below w.heap.size w wc))
     case first =>
      have H := HC71.out
      clear HC71
      by_cases c72 : t350 = true
      ·subst c72
       have H1 : ((impl_Covers.f kj9 t336 t337 t338 t339 t346 t347 t348 t349).bind fun t366 => (if t366 = true then ((impl_Covers.f kj9 t340 t341 t342 t343 t346 t347 t348 t349).bind fun t367 => (if t367 = true then (laws_FnKeys.j1 kj9 t335 (t349 != 0) t325 t326 t327 t328 t329 t330 t331 t332 t358 t359 t360 t361) else (laws_FnKeys.j1 kj9 t335 true t325 t326 t327 t328 t329 t330 t331 t332 t358 t359 t360 t361))) else (laws_FnKeys.j1 kj9 t335 true t325 t326 t327 t328 t329 t330 t331 t332 t358 t359 t360 t361))) = some r := by rw [if_pos rfl] at H; exact H
       clear H
       have H := H1
       clear H1
       replace H := Option.bind_eq_some_iff.mp H
       obtain ⟨t366, A730, H⟩ := H
       replace H : (if t366 = true then ((impl_Covers.f kj9 t340 t341 t342 t343 t346 t347 t348 t349).bind fun t367 => (if t367 = true then (laws_FnKeys.j1 kj9 t335 (t349 != 0) t325 t326 t327 t328 t329 t330 t331 t332 t358 t359 t360 t361) else (laws_FnKeys.j1 kj9 t335 true t325 t326 t327 t328 t329 t330 t331 t332 t358 t359 t360 t361))) else (laws_FnKeys.j1 kj9 t335 true t325 t326 t327 t328 t329 t330 t331 t332 t358 t359 t360 t361)) = some r := H
       have A73 := Aside0.mk A730
       clear A730
       by_cases c74 : t366 = true
       ·subst c74
        have H1 : ((impl_Covers.f kj9 t340 t341 t342 t343 t346 t347 t348 t349).bind fun t367 => (if t367 = true then (laws_FnKeys.j1 kj9 t335 (t349 != 0) t325 t326 t327 t328 t329 t330 t331 t332 t358 t359 t360 t361) else (laws_FnKeys.j1 kj9 t335 true t325 t326 t327 t328 t329 t330 t331 t332 t358 t359 t360 t361))) = some r := by rw [if_pos rfl] at H; exact H
        clear H
        have H := H1
        clear H1
        replace H := Option.bind_eq_some_iff.mp H
        obtain ⟨t367, A750, H⟩ := H
        replace H : (if t367 = true then (laws_FnKeys.j1 kj9 t335 (t349 != 0) t325 t326 t327 t328 t329 t330 t331 t332 t358 t359 t360 t361) else (laws_FnKeys.j1 kj9 t335 true t325 t326 t327 t328 t329 t330 t331 t332 t358 t359 t360 t361)) = some r := H
        have A75 := Aside0.mk A750
        clear A750
        by_cases c76 : t367 = true
        ·subst c76
         have H1 : (laws_FnKeys.j1 kj9 t335 (t349 != 0) t325 t326 t327 t328 t329 t330 t331 t332 t358 t359 t360 t361) = some r := by rw [if_pos rfl] at H; exact H
         clear H
         have H := H1
         clear H1
         have H' := Aside0.mk H
         clear H
         have hnb77 := NB344_333.out
         have hnc77 := NB333_344.out
         have hnb78 := NB344_334.out
         have hnc78 := NB334_344.out
         have hnb79 := NB344_345.out
         have hnc79 := NB345_344.out
         have hnb80 := NB344_351.out
         have hnc80 := NB351_344.out
         have hnb81 := NB344_357.out
         have hnc81 := NB357_344.out
         have hnb82 := NB344_362.out
         have hnc82 := NB362_344.out
         have hcz83_0 : wc.cell? ⟨gb344, 0, none⟩ = some (.int .i64 t336) := (blk_cell BK344.out 0).trans rfl
         have hcz83_1 : wc.cell? ⟨gb344, 1, none⟩ = some (.int .i64 t337) := (blk_cell BK344.out 1).trans rfl
         have hcz83_2 : wc.cell? ⟨gb344, 2, none⟩ = some (.int .i64 t338) := (blk_cell BK344.out 2).trans rfl
         have hcz83_3 : wc.cell? ⟨gb344, 3, none⟩ = some (.int .i64 t339) := (blk_cell BK344.out 3).trans rfl
         have hfz83_0 := blk_frozen BK344.out 0
         have hfz83_1 := blk_frozen BK344.out 1
         have hfz83_2 := blk_frozen BK344.out 2
         have hfz83_3 := blk_frozen BK344.out 3
         have hnb84 := NB351_333.out
         have hnc84 := NB333_351.out
         have hnb85 := NB351_334.out
         have hnc85 := NB334_351.out
         have hnb86 := NB351_345.out
         have hnc86 := NB345_351.out
         have hnb87 := NB351_357.out
         have hnc87 := NB357_351.out
         have hnb88 := NB351_362.out
         have hnc88 := NB362_351.out
         have hcz89_0 : wc.cell? ⟨gb351, 0, none⟩ = some (.int .i64 t346) := (blk_cell BK351.out 0).trans rfl
         have hcz89_1 : wc.cell? ⟨gb351, 1, none⟩ = some (.int .i64 t347) := (blk_cell BK351.out 1).trans rfl
         have hcz89_2 : wc.cell? ⟨gb351, 2, none⟩ = some (.int .i64 t348) := (blk_cell BK351.out 2).trans rfl
         have hcz89_3 : wc.cell? ⟨gb351, 3, none⟩ = some (.int .i64 t349) := (blk_cell BK351.out 3).trans rfl
         have hfz89_0 := blk_frozen BK351.out 0
         have hfz89_1 := blk_frozen BK351.out 1
         have hfz89_2 := blk_frozen BK351.out 2
         have hfz89_3 := blk_frozen BK351.out 3
         go_wp2_with (first | (go_at_call 28; (with_reducible refine (impl_Covers.calls kj9 t336 t337 t338 t339 t346 t347 t348 t349 true _ A73.out).mono ?_); rintro e w90 ⟨rfl, hb⟩; have n0_ := nblk BK333 hb; have n1_ := nblk BK334 hb; have n2_ := nblk BK344 hb; have n3_ := nblk BK345 hb; have n4_ := nblk BK351 hb; have n5_ := nblk BK357 hb; have n6_ := nblk BK362 hb; have n7_ := nbs HB hb; clear BK333 BK334 BK344 BK345 BK351 BK357 BK362 HB; have BK333 := n0_; have BK334 := n1_; have BK344 := n2_; have BK345 := n3_; have BK351 := n4_; have BK357 := n5_; have BK362 := n6_; have HB := n7_; clear n0_ n1_ n2_ n3_ n4_ n5_ n6_ n7_; (try clear hb); have hnb91 := NB345_333.out; have hnc91 := NB333_345.out; have hnb92 := NB345_334.out; have hnc92 := NB334_345.out; have hnb93 := NB345_357.out; have hnc93 := NB357_345.out; have hnb94 := NB345_362.out; have hnc94 := NB362_345.out; have hcz95_0 : w90.cell? ⟨gb345, 0, none⟩ = some (.int .i64 t340) := (blk_cell BK345.out 0).trans rfl; have hcz95_1 : w90.cell? ⟨gb345, 1, none⟩ = some (.int .i64 t341) := (blk_cell BK345.out 1).trans rfl; have hcz95_2 : w90.cell? ⟨gb345, 2, none⟩ = some (.int .i64 t342) := (blk_cell BK345.out 2).trans rfl; have hcz95_3 : w90.cell? ⟨gb345, 3, none⟩ = some (.int .i64 t343) := (blk_cell BK345.out 3).trans rfl; have hfz95_0 := blk_frozen BK345.out 0; have hfz95_1 := blk_frozen BK345.out 1; have hfz95_2 := blk_frozen BK345.out 2; have hfz95_3 := blk_frozen BK345.out 3; have hcz96_0 : w90.cell? ⟨gb351, 0, none⟩ = some (.int .i64 t346) := (blk_cell BK351.out 0).trans rfl; have hcz96_1 : w90.cell? ⟨gb351, 1, none⟩ = some (.int .i64 t347) := (blk_cell BK351.out 1).trans rfl; have hcz96_2 : w90.cell? ⟨gb351, 2, none⟩ = some (.int .i64 t348) := (blk_cell BK351.out 2).trans rfl; have hcz96_3 : w90.cell? ⟨gb351, 3, none⟩ = some (.int .i64 t349) := (blk_cell BK351.out 3).trans rfl; have hfz96_0 := blk_frozen BK351.out 0; have hfz96_1 := blk_frozen BK351.out 1; have hfz96_2 := blk_frozen BK351.out 2; have hfz96_3 := blk_frozen BK351.out 3) | (go_at_call 28; (with_reducible refine (impl_Covers.calls kj9 t340 t341 t342 t343 t346 t347 t348 t349 true _ A75.out).mono ?_); rintro e w97 ⟨rfl, hb⟩; have n0_ := nblk BK333 hb; have n1_ := nblk BK334 hb; have n2_ := nblk BK344 hb; have n3_ := nblk BK345 hb; have n4_ := nblk BK351 hb; have n5_ := nblk BK357 hb; have n6_ := nblk BK362 hb; have n7_ := nbs HB hb; clear BK333 BK334 BK344 BK345 BK351 BK357 BK362 HB; have BK333 := n0_; have BK334 := n1_; have BK344 := n2_; have BK345 := n3_; have BK351 := n4_; have BK357 := n5_; have BK362 := n6_; have HB := n7_; clear n0_ n1_ n2_ n3_ n4_ n5_ n6_ n7_; (try clear hb); have hcz98_0 : w97.cell? ⟨gb351, 0, none⟩ = some (.int .i64 t346) := (blk_cell BK351.out 0).trans rfl; have hcz98_1 : w97.cell? ⟨gb351, 1, none⟩ = some (.int .i64 t347) := (blk_cell BK351.out 1).trans rfl; have hcz98_2 : w97.cell? ⟨gb351, 2, none⟩ = some (.int .i64 t348) := (blk_cell BK351.out 2).trans rfl; have hcz98_3 : w97.cell? ⟨gb351, 3, none⟩ = some (.int .i64 t349) := (blk_cell BK351.out 3).trans rfl; have hfz98_0 := blk_frozen BK351.out 0; have hfz98_1 := blk_frozen BK351.out 1; have hfz98_2 := blk_frozen BK351.out 2; have hfz98_3 := blk_frozen BK351.out 3))
         go_meet
         case rel => exact ⟨_, ((t349 != 0)), (by first | rfl | (simp; done) | (simp [*]; done)), H', ⟨by have := HJ9.out; first | omega | exact Nat.le_refl _⟩, ⟨by (with_reducible repeat (first | refine blk_drewN ?_ _ | refine blk_drew ?_ | refine blk_alloc ?_ _)); exact BK333.out⟩, ⟨by (with_reducible repeat (first | refine blk_drewN ?_ _ | refine blk_drew ?_ | refine blk_alloc ?_ _)); exact BK334.out⟩, ⟨by (with_reducible repeat (first | refine blk_drewN ?_ _ | refine blk_drew ?_ | refine blk_alloc ?_ _)); exact BK344.out⟩, ⟨by (with_reducible repeat (first | refine blk_drewN ?_ _ | refine blk_drew ?_ | refine blk_alloc ?_ _)); exact BK345.out⟩, ⟨by (with_reducible repeat (first | refine blk_drewN ?_ _ | refine blk_drew ?_ | refine blk_alloc ?_ _)); exact BK351.out⟩, ⟨by (with_reducible repeat (first | refine blk_drewN ?_ _ | refine blk_drew ?_ | refine blk_alloc ?_ _)); exact BK357.out⟩, ⟨by (with_reducible repeat (first | refine blk_drewN ?_ _ | refine blk_drew ?_ | refine blk_alloc ?_ _)); exact BK362.out⟩, ⟨by repeat (first | (with_reducible first | exact HB.out | apply below_alloc | apply pw_below_drewN | apply below_drew1 | refine below_set ?_ GE333.out | refine below_set ?_ GE334.out | refine below_set ?_ GE344.out | refine below_set ?_ GE345.out | refine below_set ?_ GE351.out | refine below_set ?_ GE357.out | refine below_set ?_ GE362.out) | exact HB.out)⟩⟩
        ·replace c76 := Bool.eq_false_iff.mpr c76
         subst c76
         have H1 : (laws_FnKeys.j1 kj9 t335 true t325 t326 t327 t328 t329 t330 t331 t332 t358 t359 t360 t361) = some r := by rw [if_neg (show ¬ (false = true) by decide)] at H; exact H
         clear H
         have H := H1
         clear H1
         have H' := Aside0.mk H
         clear H
         have hnb99 := NB344_333.out
         have hnc99 := NB333_344.out
         have hnb100 := NB344_334.out
         have hnc100 := NB334_344.out
         have hnb101 := NB344_345.out
         have hnc101 := NB345_344.out
         have hnb102 := NB344_351.out
         have hnc102 := NB351_344.out
         have hnb103 := NB344_357.out
         have hnc103 := NB357_344.out
         have hnb104 := NB344_362.out
         have hnc104 := NB362_344.out
         have hcz105_0 : wc.cell? ⟨gb344, 0, none⟩ = some (.int .i64 t336) := (blk_cell BK344.out 0).trans rfl
         have hcz105_1 : wc.cell? ⟨gb344, 1, none⟩ = some (.int .i64 t337) := (blk_cell BK344.out 1).trans rfl
         have hcz105_2 : wc.cell? ⟨gb344, 2, none⟩ = some (.int .i64 t338) := (blk_cell BK344.out 2).trans rfl
         have hcz105_3 : wc.cell? ⟨gb344, 3, none⟩ = some (.int .i64 t339) := (blk_cell BK344.out 3).trans rfl
         have hfz105_0 := blk_frozen BK344.out 0
         have hfz105_1 := blk_frozen BK344.out 1
         have hfz105_2 := blk_frozen BK344.out 2
         have hfz105_3 := blk_frozen BK344.out 3
         have hnb106 := NB351_333.out
         have hnc106 := NB333_351.out
         have hnb107 := NB351_334.out
         have hnc107 := NB334_351.out
         have hnb108 := NB351_345.out
         have hnc108 := NB345_351.out
         have hnb109 := NB351_357.out
         have hnc109 := NB357_351.out
         have hnb110 := NB351_362.out
         have hnc110 := NB362_351.out
         have hcz111_0 : wc.cell? ⟨gb351, 0, none⟩ = some (.int .i64 t346) := (blk_cell BK351.out 0).trans rfl
         have hcz111_1 : wc.cell? ⟨gb351, 1, none⟩ = some (.int .i64 t347) := (blk_cell BK351.out 1).trans rfl
         have hcz111_2 : wc.cell? ⟨gb351, 2, none⟩ = some (.int .i64 t348) := (blk_cell BK351.out 2).trans rfl
         have hcz111_3 : wc.cell? ⟨gb351, 3, none⟩ = some (.int .i64 t349) := (blk_cell BK351.out 3).trans rfl
         have hfz111_0 := blk_frozen BK351.out 0
         have hfz111_1 := blk_frozen BK351.out 1
         have hfz111_2 := blk_frozen BK351.out 2
         have hfz111_3 := blk_frozen BK351.out 3
         go_wp2_with (first | (go_at_call 28; (with_reducible refine (impl_Covers.calls kj9 t336 t337 t338 t339 t346 t347 t348 t349 true _ A73.out).mono ?_); rintro e w112 ⟨rfl, hb⟩; have n0_ := nblk BK333 hb; have n1_ := nblk BK334 hb; have n2_ := nblk BK344 hb; have n3_ := nblk BK345 hb; have n4_ := nblk BK351 hb; have n5_ := nblk BK357 hb; have n6_ := nblk BK362 hb; have n7_ := nbs HB hb; clear BK333 BK334 BK344 BK345 BK351 BK357 BK362 HB; have BK333 := n0_; have BK334 := n1_; have BK344 := n2_; have BK345 := n3_; have BK351 := n4_; have BK357 := n5_; have BK362 := n6_; have HB := n7_; clear n0_ n1_ n2_ n3_ n4_ n5_ n6_ n7_; (try clear hb); have hnb113 := NB345_333.out; have hnc113 := NB333_345.out; have hnb114 := NB345_334.out; have hnc114 := NB334_345.out; have hnb115 := NB345_357.out; have hnc115 := NB357_345.out; have hnb116 := NB345_362.out; have hnc116 := NB362_345.out; have hcz117_0 : w112.cell? ⟨gb345, 0, none⟩ = some (.int .i64 t340) := (blk_cell BK345.out 0).trans rfl; have hcz117_1 : w112.cell? ⟨gb345, 1, none⟩ = some (.int .i64 t341) := (blk_cell BK345.out 1).trans rfl; have hcz117_2 : w112.cell? ⟨gb345, 2, none⟩ = some (.int .i64 t342) := (blk_cell BK345.out 2).trans rfl; have hcz117_3 : w112.cell? ⟨gb345, 3, none⟩ = some (.int .i64 t343) := (blk_cell BK345.out 3).trans rfl; have hfz117_0 := blk_frozen BK345.out 0; have hfz117_1 := blk_frozen BK345.out 1; have hfz117_2 := blk_frozen BK345.out 2; have hfz117_3 := blk_frozen BK345.out 3; have hcz118_0 : w112.cell? ⟨gb351, 0, none⟩ = some (.int .i64 t346) := (blk_cell BK351.out 0).trans rfl; have hcz118_1 : w112.cell? ⟨gb351, 1, none⟩ = some (.int .i64 t347) := (blk_cell BK351.out 1).trans rfl; have hcz118_2 : w112.cell? ⟨gb351, 2, none⟩ = some (.int .i64 t348) := (blk_cell BK351.out 2).trans rfl; have hcz118_3 : w112.cell? ⟨gb351, 3, none⟩ = some (.int .i64 t349) := (blk_cell BK351.out 3).trans rfl; have hfz118_0 := blk_frozen BK351.out 0; have hfz118_1 := blk_frozen BK351.out 1; have hfz118_2 := blk_frozen BK351.out 2; have hfz118_3 := blk_frozen BK351.out 3) | (go_at_call 28; (with_reducible refine (impl_Covers.calls kj9 t340 t341 t342 t343 t346 t347 t348 t349 false _ A75.out).mono ?_); rintro e w119 ⟨rfl, hb⟩; have n0_ := nblk BK333 hb; have n1_ := nblk BK334 hb; have n2_ := nblk BK344 hb; have n3_ := nblk BK345 hb; have n4_ := nblk BK351 hb; have n5_ := nblk BK357 hb; have n6_ := nblk BK362 hb; have n7_ := nbs HB hb; clear BK333 BK334 BK344 BK345 BK351 BK357 BK362 HB; have BK333 := n0_; have BK334 := n1_; have BK344 := n2_; have BK345 := n3_; have BK351 := n4_; have BK357 := n5_; have BK362 := n6_; have HB := n7_; clear n0_ n1_ n2_ n3_ n4_ n5_ n6_ n7_; (try clear hb)))
         go_meet
         case rel => exact ⟨_, (true), (by first | rfl | (simp; done) | (simp [*]; done)), H', ⟨by have := HJ9.out; first | omega | exact Nat.le_refl _⟩, ⟨by (with_reducible repeat (first | refine blk_drewN ?_ _ | refine blk_drew ?_ | refine blk_alloc ?_ _)); exact BK333.out⟩, ⟨by (with_reducible repeat (first | refine blk_drewN ?_ _ | refine blk_drew ?_ | refine blk_alloc ?_ _)); exact BK334.out⟩, ⟨by (with_reducible repeat (first | refine blk_drewN ?_ _ | refine blk_drew ?_ | refine blk_alloc ?_ _)); exact BK344.out⟩, ⟨by (with_reducible repeat (first | refine blk_drewN ?_ _ | refine blk_drew ?_ | refine blk_alloc ?_ _)); exact BK345.out⟩, ⟨by (with_reducible repeat (first | refine blk_drewN ?_ _ | refine blk_drew ?_ | refine blk_alloc ?_ _)); exact BK351.out⟩, ⟨by (with_reducible repeat (first | refine blk_drewN ?_ _ | refine blk_drew ?_ | refine blk_alloc ?_ _)); exact BK357.out⟩, ⟨by (with_reducible repeat (first | refine blk_drewN ?_ _ | refine blk_drew ?_ | refine blk_alloc ?_ _)); exact BK362.out⟩, ⟨by repeat (first | (with_reducible first | exact HB.out | apply below_alloc | apply pw_below_drewN | apply below_drew1 | refine below_set ?_ GE333.out | refine below_set ?_ GE334.out | refine below_set ?_ GE344.out | refine below_set ?_ GE345.out | refine below_set ?_ GE351.out | refine below_set ?_ GE357.out | refine below_set ?_ GE362.out) | exact HB.out)⟩⟩
       ·replace c74 := Bool.eq_false_iff.mpr c74
        subst c74
        have H1 : (laws_FnKeys.j1 kj9 t335 true t325 t326 t327 t328 t329 t330 t331 t332 t358 t359 t360 t361) = some r := by rw [if_neg (show ¬ (false = true) by decide)] at H; exact H
        clear H
        have H := H1
        clear H1
        have H' := Aside0.mk H
        clear H
        have hnb120 := NB344_333.out
        have hnc120 := NB333_344.out
        have hnb121 := NB344_334.out
        have hnc121 := NB334_344.out
        have hnb122 := NB344_345.out
        have hnc122 := NB345_344.out
        have hnb123 := NB344_351.out
        have hnc123 := NB351_344.out
        have hnb124 := NB344_357.out
        have hnc124 := NB357_344.out
        have hnb125 := NB344_362.out
        have hnc125 := NB362_344.out
        have hcz126_0 : wc.cell? ⟨gb344, 0, none⟩ = some (.int .i64 t336) := (blk_cell BK344.out 0).trans rfl
        have hcz126_1 : wc.cell? ⟨gb344, 1, none⟩ = some (.int .i64 t337) := (blk_cell BK344.out 1).trans rfl
        have hcz126_2 : wc.cell? ⟨gb344, 2, none⟩ = some (.int .i64 t338) := (blk_cell BK344.out 2).trans rfl
        have hcz126_3 : wc.cell? ⟨gb344, 3, none⟩ = some (.int .i64 t339) := (blk_cell BK344.out 3).trans rfl
        have hfz126_0 := blk_frozen BK344.out 0
        have hfz126_1 := blk_frozen BK344.out 1
        have hfz126_2 := blk_frozen BK344.out 2
        have hfz126_3 := blk_frozen BK344.out 3
        have hnb127 := NB351_333.out
        have hnc127 := NB333_351.out
        have hnb128 := NB351_334.out
        have hnc128 := NB334_351.out
        have hnb129 := NB351_345.out
        have hnc129 := NB345_351.out
        have hnb130 := NB351_357.out
        have hnc130 := NB357_351.out
        have hnb131 := NB351_362.out
        have hnc131 := NB362_351.out
        have hcz132_0 : wc.cell? ⟨gb351, 0, none⟩ = some (.int .i64 t346) := (blk_cell BK351.out 0).trans rfl
        have hcz132_1 : wc.cell? ⟨gb351, 1, none⟩ = some (.int .i64 t347) := (blk_cell BK351.out 1).trans rfl
        have hcz132_2 : wc.cell? ⟨gb351, 2, none⟩ = some (.int .i64 t348) := (blk_cell BK351.out 2).trans rfl
        have hcz132_3 : wc.cell? ⟨gb351, 3, none⟩ = some (.int .i64 t349) := (blk_cell BK351.out 3).trans rfl
        have hfz132_0 := blk_frozen BK351.out 0
        have hfz132_1 := blk_frozen BK351.out 1
        have hfz132_2 := blk_frozen BK351.out 2
        have hfz132_3 := blk_frozen BK351.out 3
        go_wp2_with (first | (go_at_call 28; (with_reducible refine (impl_Covers.calls kj9 t336 t337 t338 t339 t346 t347 t348 t349 false _ A73.out).mono ?_); rintro e w133 ⟨rfl, hb⟩; have n0_ := nblk BK333 hb; have n1_ := nblk BK334 hb; have n2_ := nblk BK344 hb; have n3_ := nblk BK345 hb; have n4_ := nblk BK351 hb; have n5_ := nblk BK357 hb; have n6_ := nblk BK362 hb; have n7_ := nbs HB hb; clear BK333 BK334 BK344 BK345 BK351 BK357 BK362 HB; have BK333 := n0_; have BK334 := n1_; have BK344 := n2_; have BK345 := n3_; have BK351 := n4_; have BK357 := n5_; have BK362 := n6_; have HB := n7_; clear n0_ n1_ n2_ n3_ n4_ n5_ n6_ n7_; (try clear hb)))
        go_meet
        case rel => exact ⟨_, (true), (by first | rfl | (simp; done) | (simp [*]; done)), H', ⟨by have := HJ9.out; first | omega | exact Nat.le_refl _⟩, ⟨by (with_reducible repeat (first | refine blk_drewN ?_ _ | refine blk_drew ?_ | refine blk_alloc ?_ _)); exact BK333.out⟩, ⟨by (with_reducible repeat (first | refine blk_drewN ?_ _ | refine blk_drew ?_ | refine blk_alloc ?_ _)); exact BK334.out⟩, ⟨by (with_reducible repeat (first | refine blk_drewN ?_ _ | refine blk_drew ?_ | refine blk_alloc ?_ _)); exact BK344.out⟩, ⟨by (with_reducible repeat (first | refine blk_drewN ?_ _ | refine blk_drew ?_ | refine blk_alloc ?_ _)); exact BK345.out⟩, ⟨by (with_reducible repeat (first | refine blk_drewN ?_ _ | refine blk_drew ?_ | refine blk_alloc ?_ _)); exact BK351.out⟩, ⟨by (with_reducible repeat (first | refine blk_drewN ?_ _ | refine blk_drew ?_ | refine blk_alloc ?_ _)); exact BK357.out⟩, ⟨by (with_reducible repeat (first | refine blk_drewN ?_ _ | refine blk_drew ?_ | refine blk_alloc ?_ _)); exact BK362.out⟩, ⟨by repeat (first | (with_reducible first | exact HB.out | apply below_alloc | apply pw_below_drewN | apply below_drew1 | refine below_set ?_ GE333.out | refine below_set ?_ GE334.out | refine below_set ?_ GE344.out | refine below_set ?_ GE345.out | refine below_set ?_ GE351.out | refine below_set ?_ GE357.out | refine below_set ?_ GE362.out) | exact HB.out)⟩⟩
      ·replace c72 := Bool.eq_false_iff.mpr c72
       subst c72
       have H1 : (laws_FnKeys.j1 kj9 t335 false t325 t326 t327 t328 t329 t330 t331 t332 t358 t359 t360 t361) = some r := by rw [if_neg (show ¬ (false = true) by decide)] at H; exact H
       clear H
       have H := H1
       clear H1
       have H' := Aside0.mk H
       clear H
       go_wp2
       go_meet
       case rel => exact ⟨_, (false), (by first | rfl | (simp; done) | (simp [*]; done)), H', ⟨by have := HJ9.out; first | omega | exact Nat.le_refl _⟩, ⟨by (with_reducible repeat (first | refine blk_drewN ?_ _ | refine blk_drew ?_ | refine blk_alloc ?_ _)); exact BK333.out⟩, ⟨by (with_reducible repeat (first | refine blk_drewN ?_ _ | refine blk_drew ?_ | refine blk_alloc ?_ _)); exact BK334.out⟩, ⟨by (with_reducible repeat (first | refine blk_drewN ?_ _ | refine blk_drew ?_ | refine blk_alloc ?_ _)); exact BK344.out⟩, ⟨by (with_reducible repeat (first | refine blk_drewN ?_ _ | refine blk_drew ?_ | refine blk_alloc ?_ _)); exact BK345.out⟩, ⟨by (with_reducible repeat (first | refine blk_drewN ?_ _ | refine blk_drew ?_ | refine blk_alloc ?_ _)); exact BK351.out⟩, ⟨by (with_reducible repeat (first | refine blk_drewN ?_ _ | refine blk_drew ?_ | refine blk_alloc ?_ _)); exact BK357.out⟩, ⟨by (with_reducible repeat (first | refine blk_drewN ?_ _ | refine blk_drew ?_ | refine blk_alloc ?_ _)); exact BK362.out⟩, ⟨by repeat (first | (with_reducible first | exact HB.out | apply below_alloc | apply pw_below_drewN | apply below_drew1 | refine below_set ?_ GE333.out | refine below_set ?_ GE334.out | refine below_set ?_ GE344.out | refine below_set ?_ GE345.out | refine below_set ?_ GE351.out | refine below_set ?_ GE357.out | refine below_set ?_ GE362.out) | exact HB.out)⟩⟩
     case rest =>
      clear HC71
      try clear c1
      try clear p2
      try clear c3
      try clear c5
      try clear c7
      try clear c8
      try clear c9
      try clear c10
      try clear c11
      try clear c12
      try clear c13
      try clear c33
      try clear c34
      try clear c35
      try clear c55
      try clear c55b0
      try clear c55b1
      try clear c55b2
      try clear c59
      try clear c59b0
      try clear c59b1
      try clear c59b2
      try clear c70
      try clear c72
      try clear c74
      try clear c76
      try clear c77
      try clear c78
      try clear c79
      try clear c80
      try clear c81
      try clear c82
      try clear c84
      try clear c85
      try clear c86
      try clear c87
      try clear c88
      try clear c91
      try clear c92
      try clear c93
      try clear c94
      try clear c99
      try clear c100
      try clear c101
      try clear c102
      try clear c103
      try clear c104
      try clear c106
      try clear c107
      try clear c108
      try clear c109
      try clear c110
      try clear c113
      try clear c114
      try clear c115
      try clear c116
      try clear c120
      try clear c121
      try clear c122
      try clear c123
      try clear c124
      try clear c125
      try clear c127
      try clear c128
      try clear c129
      try clear c130
      try clear c131
      try clear hcz105_0
      try clear hcz105_1
      try clear hcz105_2
      try clear hcz105_3
      try clear hcz111_0
      try clear hcz111_1
      try clear hcz111_2
      try clear hcz111_3
      try clear hcz117_0
      try clear hcz117_1
      try clear hcz117_2
      try clear hcz117_3
      try clear hcz118_0
      try clear hcz118_1
      try clear hcz118_2
      try clear hcz118_3
      try clear hcz126_0
      try clear hcz126_1
      try clear hcz126_2
      try clear hcz126_3
      try clear hcz132_0
      try clear hcz132_1
      try clear hcz132_2
      try clear hcz132_3
      try clear hcz83_0
      try clear hcz83_1
      try clear hcz83_2
      try clear hcz83_3
      try clear hcz89_0
      try clear hcz89_1
      try clear hcz89_2
      try clear hcz89_3
      try clear hcz95_0
      try clear hcz95_1
      try clear hcz95_2
      try clear hcz95_3
      try clear hcz96_0
      try clear hcz96_1
      try clear hcz96_2
      try clear hcz96_3
      try clear hcz98_0
      try clear hcz98_1
      try clear hcz98_2
      try clear hcz98_3
      try clear hfz105_0
      try clear hfz105_1
      try clear hfz105_2
      try clear hfz105_3
      try clear hfz111_0
      try clear hfz111_1
      try clear hfz111_2
      try clear hfz111_3
      try clear hfz117_0
      try clear hfz117_1
      try clear hfz117_2
      try clear hfz117_3
      try clear hfz118_0
      try clear hfz118_1
      try clear hfz118_2
      try clear hfz118_3
      try clear hfz126_0
      try clear hfz126_1
      try clear hfz126_2
      try clear hfz126_3
      try clear hfz132_0
      try clear hfz132_1
      try clear hfz132_2
      try clear hfz132_3
      try clear hfz83_0
      try clear hfz83_1
      try clear hfz83_2
      try clear hfz83_3
      try clear hfz89_0
      try clear hfz89_1
      try clear hfz89_2
      try clear hfz89_3
      try clear hfz95_0
      try clear hfz95_1
      try clear hfz95_2
      try clear hfz95_3
      try clear hfz96_0
      try clear hfz96_1
      try clear hfz96_2
      try clear hfz96_3
      try clear hfz98_0
      try clear hfz98_1
      try clear hfz98_2
      try clear hfz98_3
      try clear p2
      obtain ⟨kq, x76_70, rfl, HA, HJ70, BK333, BK334, BK344, BK345, BK351, BK357, BK362, HB⟩ := hcut
      cases kq with
      | zero => exact absurd HA.out (by simp [laws_FnKeys.j1])
      | succ kj70 =>
       have H := HA.out
       clear HA
       simp only [laws_FnKeys.j1] at H
       by_cases c134 : x76_70 = true
       ·subst c134
        have H1 : (some false) = some r := by rw [if_pos rfl] at H; exact H
        clear H
        have H := H1
        clear H1
        obtain rfl := Option.some.inj H
        go_wp2
        go_ret
        exact ⟨by first | rfl | (simp [errW_none, errW_some] <;> rfl) | (simp [*, errW_none, errW_some] <;> rfl), by repeat (first | (with_reducible first | exact HB.out | apply below_alloc | apply pw_below_drewN | apply below_drew1 | refine below_set ?_ GE333.out | refine below_set ?_ GE334.out | refine below_set ?_ GE344.out | refine below_set ?_ GE345.out | refine below_set ?_ GE351.out | refine below_set ?_ GE357.out | refine below_set ?_ GE362.out) | exact HB.out)⟩
       ·replace c134 := Bool.eq_false_iff.mpr c134
        subst c134
        have H1 : (if t335 = true then ((impl_Covers.f kj70 t329 t330 t331 t332 t358 t359 t360 t361).bind fun t368 => (if t368 = true then ((impl_Covers.f kj70 t325 t326 t327 t328 t358 t359 t360 t361).bind fun t369 => (laws_FnKeys.j2 kj70 (!t369) t358 t359 t360 t361)) else (laws_FnKeys.j2 kj70 false t358 t359 t360 t361))) else (laws_FnKeys.j2 kj70 false t358 t359 t360 t361)) = some r := by rw [if_neg (show ¬ (false = true) by decide)] at H; exact H
        clear H
        have H := H1
        clear H1
        have HC135 := Aside0.mk H
        clear H
        go_upto_region 13 with (fail)
        go_cut [88] (fun v88 wc => ∃ (kq : Nat) (x88_134 : Bool), v88 = .bool x88_134 ∧ Aside0 (laws_FnKeys.j2 kq x88_134 t358 t359 t360 t361 = some r) ∧ Aside0 (kq ≤ kj70) ∧ Aside0 (wc.heap[gb333]? = some (.cells #[.int .i64 t325, .int .i64 t326, .int .i64 t327, .int .i64 t328] 25 (0, 0))) ∧ Aside0 (wc.heap[gb334]? = some (.cells #[.int .i64 t329, .int .i64 t330, .int .i64 t331, .int .i64 t332] 25 (0, 0))) ∧ Aside0 (wc.heap[gb344]? = some (.cells #[.int .i64 t336, .int .i64 t337, .int .i64 t338, .int .i64 t339] 25 (0, 0))) ∧ Aside0 (wc.heap[gb345]? = some (.cells #[.int .i64 t340, .int .i64 t341, .int .i64 t342, .int .i64 t343] 25 (0, 0))) ∧ Aside0 (wc.heap[gb351]? = some (.cells #[.int .i64 t346, .int .i64 t347, .int .i64 t348, .int .i64 t349] 25 (0, 0))) ∧ Aside0 (wc.heap[gb357]? = some (.cells #[.int .i64 t352, .int .i64 t353, .int .i64 t354, .int .i64 t355] 25 (0, 0))) ∧ Aside0 (wc.heap[gb362]? = some (.cells #[.int .i64 t358, .int .i64 t359, .int .i64 t360, .int .i64 t361] 25 (0, 0))) ∧ Aside0 (Below w.heap.size w wc))
        case first =>
         have H := HC135.out
         clear HC135
         by_cases c136 : t335 = true
         ·subst c136
          have H1 : ((impl_Covers.f kj70 t329 t330 t331 t332 t358 t359 t360 t361).bind fun t368 => (if t368 = true then ((impl_Covers.f kj70 t325 t326 t327 t328 t358 t359 t360 t361).bind fun t369 => (laws_FnKeys.j2 kj70 (!t369) t358 t359 t360 t361)) else (laws_FnKeys.j2 kj70 false t358 t359 t360 t361))) = some r := by rw [if_pos rfl] at H; exact H
          clear H
          have H := H1
          clear H1
          replace H := Option.bind_eq_some_iff.mp H
          obtain ⟨t368, A1370, H⟩ := H
          replace H : (if t368 = true then ((impl_Covers.f kj70 t325 t326 t327 t328 t358 t359 t360 t361).bind fun t369 => (laws_FnKeys.j2 kj70 (!t369) t358 t359 t360 t361)) else (laws_FnKeys.j2 kj70 false t358 t359 t360 t361)) = some r := H
          have A137 := Aside0.mk A1370
          clear A1370
          by_cases c138 : t368 = true
          ·subst c138
           have H1 : ((impl_Covers.f kj70 t325 t326 t327 t328 t358 t359 t360 t361).bind fun t369 => (laws_FnKeys.j2 kj70 (!t369) t358 t359 t360 t361)) = some r := by rw [if_pos rfl] at H; exact H
           clear H
           have H := H1
           clear H1
           replace H := Option.bind_eq_some_iff.mp H
           obtain ⟨t369, A1390, H⟩ := H
           replace H : (laws_FnKeys.j2 kj70 (!t369) t358 t359 t360 t361) = some r := H
           have A139 := Aside0.mk A1390
           clear A1390
           have H' := Aside0.mk H
           clear H
           have hnb140 := NB334_333.out
           have hnc140 := NB333_334.out
           have hnb141 := NB334_344.out
           have hnc141 := NB344_334.out
           have hnb142 := NB334_345.out
           have hnc142 := NB345_334.out
           have hnb143 := NB334_351.out
           have hnc143 := NB351_334.out
           have hnb144 := NB334_357.out
           have hnc144 := NB357_334.out
           have hnb145 := NB334_362.out
           have hnc145 := NB362_334.out
           have hcz146_0 : wc.cell? ⟨gb334, 0, none⟩ = some (.int .i64 t329) := (blk_cell BK334.out 0).trans rfl
           have hcz146_1 : wc.cell? ⟨gb334, 1, none⟩ = some (.int .i64 t330) := (blk_cell BK334.out 1).trans rfl
           have hcz146_2 : wc.cell? ⟨gb334, 2, none⟩ = some (.int .i64 t331) := (blk_cell BK334.out 2).trans rfl
           have hcz146_3 : wc.cell? ⟨gb334, 3, none⟩ = some (.int .i64 t332) := (blk_cell BK334.out 3).trans rfl
           have hfz146_0 := blk_frozen BK334.out 0
           have hfz146_1 := blk_frozen BK334.out 1
           have hfz146_2 := blk_frozen BK334.out 2
           have hfz146_3 := blk_frozen BK334.out 3
           have hnb147 := NB362_333.out
           have hnc147 := NB333_362.out
           have hnb148 := NB362_344.out
           have hnc148 := NB344_362.out
           have hnb149 := NB362_345.out
           have hnc149 := NB345_362.out
           have hnb150 := NB362_351.out
           have hnc150 := NB351_362.out
           have hnb151 := NB362_357.out
           have hnc151 := NB357_362.out
           have hcz152_0 : wc.cell? ⟨gb362, 0, none⟩ = some (.int .i64 t358) := (blk_cell BK362.out 0).trans rfl
           have hcz152_1 : wc.cell? ⟨gb362, 1, none⟩ = some (.int .i64 t359) := (blk_cell BK362.out 1).trans rfl
           have hcz152_2 : wc.cell? ⟨gb362, 2, none⟩ = some (.int .i64 t360) := (blk_cell BK362.out 2).trans rfl
           have hcz152_3 : wc.cell? ⟨gb362, 3, none⟩ = some (.int .i64 t361) := (blk_cell BK362.out 3).trans rfl
           have hfz152_0 := blk_frozen BK362.out 0
           have hfz152_1 := blk_frozen BK362.out 1
           have hfz152_2 := blk_frozen BK362.out 2
           have hfz152_3 := blk_frozen BK362.out 3
           go_wp2_with (first | (go_at_call 28; (with_reducible refine (impl_Covers.calls kj70 t329 t330 t331 t332 t358 t359 t360 t361 true _ A137.out).mono ?_); rintro e w153 ⟨rfl, hb⟩; have n0_ := nblk BK333 hb; have n1_ := nblk BK334 hb; have n2_ := nblk BK344 hb; have n3_ := nblk BK345 hb; have n4_ := nblk BK351 hb; have n5_ := nblk BK357 hb; have n6_ := nblk BK362 hb; have n7_ := nbs HB hb; clear BK333 BK334 BK344 BK345 BK351 BK357 BK362 HB; have BK333 := n0_; have BK334 := n1_; have BK344 := n2_; have BK345 := n3_; have BK351 := n4_; have BK357 := n5_; have BK362 := n6_; have HB := n7_; clear n0_ n1_ n2_ n3_ n4_ n5_ n6_ n7_; (try clear hb); have hnb154 := NB333_344.out; have hnc154 := NB344_333.out; have hnb155 := NB333_345.out; have hnc155 := NB345_333.out; have hnb156 := NB333_351.out; have hnc156 := NB351_333.out; have hnb157 := NB333_357.out; have hnc157 := NB357_333.out; have hcz158_0 : w153.cell? ⟨gb333, 0, none⟩ = some (.int .i64 t325) := (blk_cell BK333.out 0).trans rfl; have hcz158_1 : w153.cell? ⟨gb333, 1, none⟩ = some (.int .i64 t326) := (blk_cell BK333.out 1).trans rfl; have hcz158_2 : w153.cell? ⟨gb333, 2, none⟩ = some (.int .i64 t327) := (blk_cell BK333.out 2).trans rfl; have hcz158_3 : w153.cell? ⟨gb333, 3, none⟩ = some (.int .i64 t328) := (blk_cell BK333.out 3).trans rfl; have hfz158_0 := blk_frozen BK333.out 0; have hfz158_1 := blk_frozen BK333.out 1; have hfz158_2 := blk_frozen BK333.out 2; have hfz158_3 := blk_frozen BK333.out 3; have hcz159_0 : w153.cell? ⟨gb362, 0, none⟩ = some (.int .i64 t358) := (blk_cell BK362.out 0).trans rfl; have hcz159_1 : w153.cell? ⟨gb362, 1, none⟩ = some (.int .i64 t359) := (blk_cell BK362.out 1).trans rfl; have hcz159_2 : w153.cell? ⟨gb362, 2, none⟩ = some (.int .i64 t360) := (blk_cell BK362.out 2).trans rfl; have hcz159_3 : w153.cell? ⟨gb362, 3, none⟩ = some (.int .i64 t361) := (blk_cell BK362.out 3).trans rfl; have hfz159_0 := blk_frozen BK362.out 0; have hfz159_1 := blk_frozen BK362.out 1; have hfz159_2 := blk_frozen BK362.out 2; have hfz159_3 := blk_frozen BK362.out 3) | (go_at_call 28; (with_reducible refine (impl_Covers.calls kj70 t325 t326 t327 t328 t358 t359 t360 t361 t369 _ A139.out).mono ?_); rintro e w160 ⟨rfl, hb⟩; have n0_ := nblk BK333 hb; have n1_ := nblk BK334 hb; have n2_ := nblk BK344 hb; have n3_ := nblk BK345 hb; have n4_ := nblk BK351 hb; have n5_ := nblk BK357 hb; have n6_ := nblk BK362 hb; have n7_ := nbs HB hb; clear BK333 BK334 BK344 BK345 BK351 BK357 BK362 HB; have BK333 := n0_; have BK334 := n1_; have BK344 := n2_; have BK345 := n3_; have BK351 := n4_; have BK357 := n5_; have BK362 := n6_; have HB := n7_; clear n0_ n1_ n2_ n3_ n4_ n5_ n6_ n7_; (try clear hb)))
           go_meet
           case rel => exact ⟨_, (!t369), (by first | rfl | (simp; done) | (simp [*]; done)), H', ⟨by have := HJ9.out; have := HJ70.out; first | omega | exact Nat.le_refl _⟩, ⟨by (with_reducible repeat (first | refine blk_drewN ?_ _ | refine blk_drew ?_ | refine blk_alloc ?_ _)); exact BK333.out⟩, ⟨by (with_reducible repeat (first | refine blk_drewN ?_ _ | refine blk_drew ?_ | refine blk_alloc ?_ _)); exact BK334.out⟩, ⟨by (with_reducible repeat (first | refine blk_drewN ?_ _ | refine blk_drew ?_ | refine blk_alloc ?_ _)); exact BK344.out⟩, ⟨by (with_reducible repeat (first | refine blk_drewN ?_ _ | refine blk_drew ?_ | refine blk_alloc ?_ _)); exact BK345.out⟩, ⟨by (with_reducible repeat (first | refine blk_drewN ?_ _ | refine blk_drew ?_ | refine blk_alloc ?_ _)); exact BK351.out⟩, ⟨by (with_reducible repeat (first | refine blk_drewN ?_ _ | refine blk_drew ?_ | refine blk_alloc ?_ _)); exact BK357.out⟩, ⟨by (with_reducible repeat (first | refine blk_drewN ?_ _ | refine blk_drew ?_ | refine blk_alloc ?_ _)); exact BK362.out⟩, ⟨by repeat (first | (with_reducible first | exact HB.out | apply below_alloc | apply pw_below_drewN | apply below_drew1 | refine below_set ?_ GE333.out | refine below_set ?_ GE334.out | refine below_set ?_ GE344.out | refine below_set ?_ GE345.out | refine below_set ?_ GE351.out | refine below_set ?_ GE357.out | refine below_set ?_ GE362.out) | exact HB.out)⟩⟩
          ·replace c138 := Bool.eq_false_iff.mpr c138
           subst c138
           have H1 : (laws_FnKeys.j2 kj70 false t358 t359 t360 t361) = some r := by rw [if_neg (show ¬ (false = true) by decide)] at H; exact H
           clear H
           have H := H1
           clear H1
           have H' := Aside0.mk H
           clear H
           have hnb161 := NB334_333.out
           have hnc161 := NB333_334.out
           have hnb162 := NB334_344.out
           have hnc162 := NB344_334.out
           have hnb163 := NB334_345.out
           have hnc163 := NB345_334.out
           have hnb164 := NB334_351.out
           have hnc164 := NB351_334.out
           have hnb165 := NB334_357.out
           have hnc165 := NB357_334.out
           have hnb166 := NB334_362.out
           have hnc166 := NB362_334.out
           have hcz167_0 : wc.cell? ⟨gb334, 0, none⟩ = some (.int .i64 t329) := (blk_cell BK334.out 0).trans rfl
           have hcz167_1 : wc.cell? ⟨gb334, 1, none⟩ = some (.int .i64 t330) := (blk_cell BK334.out 1).trans rfl
           have hcz167_2 : wc.cell? ⟨gb334, 2, none⟩ = some (.int .i64 t331) := (blk_cell BK334.out 2).trans rfl
           have hcz167_3 : wc.cell? ⟨gb334, 3, none⟩ = some (.int .i64 t332) := (blk_cell BK334.out 3).trans rfl
           have hfz167_0 := blk_frozen BK334.out 0
           have hfz167_1 := blk_frozen BK334.out 1
           have hfz167_2 := blk_frozen BK334.out 2
           have hfz167_3 := blk_frozen BK334.out 3
           have hnb168 := NB362_333.out
           have hnc168 := NB333_362.out
           have hnb169 := NB362_344.out
           have hnc169 := NB344_362.out
           have hnb170 := NB362_345.out
           have hnc170 := NB345_362.out
           have hnb171 := NB362_351.out
           have hnc171 := NB351_362.out
           have hnb172 := NB362_357.out
           have hnc172 := NB357_362.out
           have hcz173_0 : wc.cell? ⟨gb362, 0, none⟩ = some (.int .i64 t358) := (blk_cell BK362.out 0).trans rfl
           have hcz173_1 : wc.cell? ⟨gb362, 1, none⟩ = some (.int .i64 t359) := (blk_cell BK362.out 1).trans rfl
           have hcz173_2 : wc.cell? ⟨gb362, 2, none⟩ = some (.int .i64 t360) := (blk_cell BK362.out 2).trans rfl
           have hcz173_3 : wc.cell? ⟨gb362, 3, none⟩ = some (.int .i64 t361) := (blk_cell BK362.out 3).trans rfl
           have hfz173_0 := blk_frozen BK362.out 0
           have hfz173_1 := blk_frozen BK362.out 1
           have hfz173_2 := blk_frozen BK362.out 2
           have hfz173_3 := blk_frozen BK362.out 3
           go_wp2_with (first | (go_at_call 28; (with_reducible refine (impl_Covers.calls kj70 t329 t330 t331 t332 t358 t359 t360 t361 false _ A137.out).mono ?_); rintro e w174 ⟨rfl, hb⟩; have n0_ := nblk BK333 hb; have n1_ := nblk BK334 hb; have n2_ := nblk BK344 hb; have n3_ := nblk BK345 hb; have n4_ := nblk BK351 hb; have n5_ := nblk BK357 hb; have n6_ := nblk BK362 hb; have n7_ := nbs HB hb; clear BK333 BK334 BK344 BK345 BK351 BK357 BK362 HB; have BK333 := n0_; have BK334 := n1_; have BK344 := n2_; have BK345 := n3_; have BK351 := n4_; have BK357 := n5_; have BK362 := n6_; have HB := n7_; clear n0_ n1_ n2_ n3_ n4_ n5_ n6_ n7_; (try clear hb)))
           go_meet
           case rel => exact ⟨_, (false), (by first | rfl | (simp; done) | (simp [*]; done)), H', ⟨by have := HJ9.out; have := HJ70.out; first | omega | exact Nat.le_refl _⟩, ⟨by (with_reducible repeat (first | refine blk_drewN ?_ _ | refine blk_drew ?_ | refine blk_alloc ?_ _)); exact BK333.out⟩, ⟨by (with_reducible repeat (first | refine blk_drewN ?_ _ | refine blk_drew ?_ | refine blk_alloc ?_ _)); exact BK334.out⟩, ⟨by (with_reducible repeat (first | refine blk_drewN ?_ _ | refine blk_drew ?_ | refine blk_alloc ?_ _)); exact BK344.out⟩, ⟨by (with_reducible repeat (first | refine blk_drewN ?_ _ | refine blk_drew ?_ | refine blk_alloc ?_ _)); exact BK345.out⟩, ⟨by (with_reducible repeat (first | refine blk_drewN ?_ _ | refine blk_drew ?_ | refine blk_alloc ?_ _)); exact BK351.out⟩, ⟨by (with_reducible repeat (first | refine blk_drewN ?_ _ | refine blk_drew ?_ | refine blk_alloc ?_ _)); exact BK357.out⟩, ⟨by (with_reducible repeat (first | refine blk_drewN ?_ _ | refine blk_drew ?_ | refine blk_alloc ?_ _)); exact BK362.out⟩, ⟨by repeat (first | (with_reducible first | exact HB.out | apply below_alloc | apply pw_below_drewN | apply below_drew1 | refine below_set ?_ GE333.out | refine below_set ?_ GE334.out | refine below_set ?_ GE344.out | refine below_set ?_ GE345.out | refine below_set ?_ GE351.out | refine below_set ?_ GE357.out | refine below_set ?_ GE362.out) | exact HB.out)⟩⟩
         ·replace c136 := Bool.eq_false_iff.mpr c136
          subst c136
          have H1 : (laws_FnKeys.j2 kj70 false t358 t359 t360 t361) = some r := by rw [if_neg (show ¬ (false = true) by decide)] at H; exact H
          clear H
          have H := H1
          clear H1
          have H' := Aside0.mk H
          clear H
          go_wp2
          go_meet
          case rel => exact ⟨_, (false), (by first | rfl | (simp; done) | (simp [*]; done)), H', ⟨by have := HJ9.out; have := HJ70.out; first | omega | exact Nat.le_refl _⟩, ⟨by (with_reducible repeat (first | refine blk_drewN ?_ _ | refine blk_drew ?_ | refine blk_alloc ?_ _)); exact BK333.out⟩, ⟨by (with_reducible repeat (first | refine blk_drewN ?_ _ | refine blk_drew ?_ | refine blk_alloc ?_ _)); exact BK334.out⟩, ⟨by (with_reducible repeat (first | refine blk_drewN ?_ _ | refine blk_drew ?_ | refine blk_alloc ?_ _)); exact BK344.out⟩, ⟨by (with_reducible repeat (first | refine blk_drewN ?_ _ | refine blk_drew ?_ | refine blk_alloc ?_ _)); exact BK345.out⟩, ⟨by (with_reducible repeat (first | refine blk_drewN ?_ _ | refine blk_drew ?_ | refine blk_alloc ?_ _)); exact BK351.out⟩, ⟨by (with_reducible repeat (first | refine blk_drewN ?_ _ | refine blk_drew ?_ | refine blk_alloc ?_ _)); exact BK357.out⟩, ⟨by (with_reducible repeat (first | refine blk_drewN ?_ _ | refine blk_drew ?_ | refine blk_alloc ?_ _)); exact BK362.out⟩, ⟨by repeat (first | (with_reducible first | exact HB.out | apply below_alloc | apply pw_below_drewN | apply below_drew1 | refine below_set ?_ GE333.out | refine below_set ?_ GE334.out | refine below_set ?_ GE344.out | refine below_set ?_ GE345.out | refine below_set ?_ GE351.out | refine below_set ?_ GE357.out | refine below_set ?_ GE362.out) | exact HB.out)⟩⟩
        case rest =>
         clear HC135
         try clear c1
         try clear p2
         try clear c3
         try clear c5
         try clear c7
         try clear c8
         try clear c9
         try clear c10
         try clear c11
         try clear c12
         try clear c13
         try clear c14
         try clear c15
         try clear c16
         try clear c17
         try clear c33
         try clear c34
         try clear c35
         try clear c55
         try clear c55b0
         try clear c55b1
         try clear c55b2
         try clear c59
         try clear c59b0
         try clear c59b1
         try clear c59b2
         try clear c70
         try clear c72
         try clear c74
         try clear c76
         try clear c77
         try clear c78
         try clear c79
         try clear c80
         try clear c81
         try clear c82
         try clear c84
         try clear c85
         try clear c86
         try clear c87
         try clear c88
         try clear c91
         try clear c92
         try clear c93
         try clear c94
         try clear c99
         try clear c100
         try clear c101
         try clear c102
         try clear c103
         try clear c104
         try clear c106
         try clear c107
         try clear c108
         try clear c109
         try clear c110
         try clear c113
         try clear c114
         try clear c115
         try clear c116
         try clear c120
         try clear c121
         try clear c122
         try clear c123
         try clear c124
         try clear c125
         try clear c127
         try clear c128
         try clear c129
         try clear c130
         try clear c131
         try clear c134
         try clear c136
         try clear c138
         try clear c140
         try clear c141
         try clear c142
         try clear c143
         try clear c144
         try clear c145
         try clear c147
         try clear c148
         try clear c149
         try clear c150
         try clear c151
         try clear c154
         try clear c155
         try clear c156
         try clear c157
         try clear c161
         try clear c162
         try clear c163
         try clear c164
         try clear c165
         try clear c166
         try clear c168
         try clear c169
         try clear c170
         try clear c171
         try clear c172
         try clear hcz105_0
         try clear hcz105_1
         try clear hcz105_2
         try clear hcz105_3
         try clear hcz111_0
         try clear hcz111_1
         try clear hcz111_2
         try clear hcz111_3
         try clear hcz117_0
         try clear hcz117_1
         try clear hcz117_2
         try clear hcz117_3
         try clear hcz118_0
         try clear hcz118_1
         try clear hcz118_2
         try clear hcz118_3
         try clear hcz126_0
         try clear hcz126_1
         try clear hcz126_2
         try clear hcz126_3
         try clear hcz132_0
         try clear hcz132_1
         try clear hcz132_2
         try clear hcz132_3
         try clear hcz146_0
         try clear hcz146_1
         try clear hcz146_2
         try clear hcz146_3
         try clear hcz152_0
         try clear hcz152_1
         try clear hcz152_2
         try clear hcz152_3
         try clear hcz158_0
         try clear hcz158_1
         try clear hcz158_2
         try clear hcz158_3
         try clear hcz159_0
         try clear hcz159_1
         try clear hcz159_2
         try clear hcz159_3
         try clear hcz167_0
         try clear hcz167_1
         try clear hcz167_2
         try clear hcz167_3
         try clear hcz173_0
         try clear hcz173_1
         try clear hcz173_2
         try clear hcz173_3
         try clear hcz83_0
         try clear hcz83_1
         try clear hcz83_2
         try clear hcz83_3
         try clear hcz89_0
         try clear hcz89_1
         try clear hcz89_2
         try clear hcz89_3
         try clear hcz95_0
         try clear hcz95_1
         try clear hcz95_2
         try clear hcz95_3
         try clear hcz96_0
         try clear hcz96_1
         try clear hcz96_2
         try clear hcz96_3
         try clear hcz98_0
         try clear hcz98_1
         try clear hcz98_2
         try clear hcz98_3
         try clear hfz105_0
         try clear hfz105_1
         try clear hfz105_2
         try clear hfz105_3
         try clear hfz111_0
         try clear hfz111_1
         try clear hfz111_2
         try clear hfz111_3
         try clear hfz117_0
         try clear hfz117_1
         try clear hfz117_2
         try clear hfz117_3
         try clear hfz118_0
         try clear hfz118_1
         try clear hfz118_2
         try clear hfz118_3
         try clear hfz126_0
         try clear hfz126_1
         try clear hfz126_2
         try clear hfz126_3
         try clear hfz132_0
         try clear hfz132_1
         try clear hfz132_2
         try clear hfz132_3
         try clear hfz146_0
         try clear hfz146_1
         try clear hfz146_2
         try clear hfz146_3
         try clear hfz152_0
         try clear hfz152_1
         try clear hfz152_2
         try clear hfz152_3
         try clear hfz158_0
         try clear hfz158_1
         try clear hfz158_2
         try clear hfz158_3
         try clear hfz159_0
         try clear hfz159_1
         try clear hfz159_2
         try clear hfz159_3
         try clear hfz167_0
         try clear hfz167_1
         try clear hfz167_2
         try clear hfz167_3
         try clear hfz173_0
         try clear hfz173_1
         try clear hfz173_2
         try clear hfz173_3
         try clear hfz83_0
         try clear hfz83_1
         try clear hfz83_2
         try clear hfz83_3
         try clear hfz89_0
         try clear hfz89_1
         try clear hfz89_2
         try clear hfz89_3
         try clear hfz95_0
         try clear hfz95_1
         try clear hfz95_2
         try clear hfz95_3
         try clear hfz96_0
         try clear hfz96_1
         try clear hfz96_2
         try clear hfz96_3
         try clear hfz98_0
         try clear hfz98_1
         try clear hfz98_2
         try clear hfz98_3
         try clear p2
         obtain ⟨kq, x88_134, rfl, HA, HJ134, BK333, BK334, BK344, BK345, BK351, BK357, BK362, HB⟩ := hcut
         cases kq with
         | zero => exact absurd HA.out (by simp [laws_FnKeys.j2])
         | succ kj134 =>
          have H := HA.out
          clear HA
          simp only [laws_FnKeys.j2] at H
          by_cases c175 : x88_134 = true
          ·subst c175
           have H1 : (some false) = some r := by rw [if_pos rfl] at H; exact H
           clear H
           have H := H1
           clear H1
           obtain rfl := Option.some.inj H
           go_wp2
           go_ret
           exact ⟨by first | rfl | (simp [errW_none, errW_some] <;> rfl) | (simp [*, errW_none, errW_some] <;> rfl), by repeat (first | (with_reducible first | exact HB.out | apply below_alloc | apply pw_below_drewN | apply below_drew1 | refine below_set ?_ GE333.out | refine below_set ?_ GE334.out | refine below_set ?_ GE344.out | refine below_set ?_ GE345.out | refine below_set ?_ GE351.out | refine below_set ?_ GE357.out | refine below_set ?_ GE362.out) | exact HB.out)⟩
          ·replace c175 := Bool.eq_false_iff.mpr c175
           subst c175
           have H1 : ((impl_Root.f).bind fun bt370 => ((impl_KeyOk.f kj134 bt370.1 bt370.2.1 bt370.2.2.1 bt370.2.2.2).bind fun t374 => (if t374 = true then ((impl_KeyOk.f kj134 t358 t359 t360 t361).bind fun t375 => (if t375 = true then ((impl_Root.f).bind fun bt376 => ((impl_Covers.f kj134 bt376.1 bt376.2.1 bt376.2.2.1 bt376.2.2.2 t358 t359 t360 t361).bind fun t380 => (if t380 = true then ((impl_Covers.f kj134 t358 t359 t360 t361 t358 t359 t360 t361).bind fun t381 => (some t381)) else (some false)))) else (some true))) else (some false)))) = some r := by rw [if_neg (show ¬ (false = true) by decide)] at H; exact H
           clear H
           have H := H1
           clear H1
           replace H := Option.bind_eq_some_iff.mp H
           obtain ⟨⟨t370, t371, t372, t373⟩, A1760, H⟩ := H
           replace H : ((impl_KeyOk.f kj134 t370 t371 t372 t373).bind fun t374 => (if t374 = true then ((impl_KeyOk.f kj134 t358 t359 t360 t361).bind fun t375 => (if t375 = true then ((impl_Root.f).bind fun bt376 => ((impl_Covers.f kj134 bt376.1 bt376.2.1 bt376.2.2.1 bt376.2.2.2 t358 t359 t360 t361).bind fun t380 => (if t380 = true then ((impl_Covers.f kj134 t358 t359 t360 t361 t358 t359 t360 t361).bind fun t381 => (some t381)) else (some false)))) else (some true))) else (some false))) = some r := H
           have A176 := Aside0.mk A1760
           clear A1760
           replace H := Option.bind_eq_some_iff.mp H
           obtain ⟨t374, A1770, H⟩ := H
           replace H : (if t374 = true then ((impl_KeyOk.f kj134 t358 t359 t360 t361).bind fun t375 => (if t375 = true then ((impl_Root.f).bind fun bt376 => ((impl_Covers.f kj134 bt376.1 bt376.2.1 bt376.2.2.1 bt376.2.2.2 t358 t359 t360 t361).bind fun t380 => (if t380 = true then ((impl_Covers.f kj134 t358 t359 t360 t361 t358 t359 t360 t361).bind fun t381 => (some t381)) else (some false)))) else (some true))) else (some false)) = some r := H
           have A177 := Aside0.mk A1770
           clear A1770
           by_cases c178 : t374 = true
           ·subst c178
            have H1 : ((impl_KeyOk.f kj134 t358 t359 t360 t361).bind fun t375 => (if t375 = true then ((impl_Root.f).bind fun bt376 => ((impl_Covers.f kj134 bt376.1 bt376.2.1 bt376.2.2.1 bt376.2.2.2 t358 t359 t360 t361).bind fun t380 => (if t380 = true then ((impl_Covers.f kj134 t358 t359 t360 t361 t358 t359 t360 t361).bind fun t381 => (some t381)) else (some false)))) else (some true))) = some r := by rw [if_pos rfl] at H; exact H
            clear H
            have H := H1
            clear H1
            replace H := Option.bind_eq_some_iff.mp H
            obtain ⟨t375, A1790, H⟩ := H
            replace H : (if t375 = true then ((impl_Root.f).bind fun bt376 => ((impl_Covers.f kj134 bt376.1 bt376.2.1 bt376.2.2.1 bt376.2.2.2 t358 t359 t360 t361).bind fun t380 => (if t380 = true then ((impl_Covers.f kj134 t358 t359 t360 t361 t358 t359 t360 t361).bind fun t381 => (some t381)) else (some false)))) else (some true)) = some r := H
            have A179 := Aside0.mk A1790
            clear A1790
            by_cases c180 : t375 = true
            ·subst c180
             have H1 : ((impl_Root.f).bind fun bt376 => ((impl_Covers.f kj134 bt376.1 bt376.2.1 bt376.2.2.1 bt376.2.2.2 t358 t359 t360 t361).bind fun t380 => (if t380 = true then ((impl_Covers.f kj134 t358 t359 t360 t361 t358 t359 t360 t361).bind fun t381 => (some t381)) else (some false)))) = some r := by rw [if_pos rfl] at H; exact H
             clear H
             have H := H1
             clear H1
             replace H := Option.bind_eq_some_iff.mp H
             obtain ⟨⟨t376, t377, t378, t379⟩, A1810, H⟩ := H
             replace H : ((impl_Covers.f kj134 t376 t377 t378 t379 t358 t359 t360 t361).bind fun t380 => (if t380 = true then ((impl_Covers.f kj134 t358 t359 t360 t361 t358 t359 t360 t361).bind fun t381 => (some t381)) else (some false))) = some r := H
             have A181 := Aside0.mk A1810
             clear A1810
             replace H := Option.bind_eq_some_iff.mp H
             obtain ⟨t380, A1820, H⟩ := H
             replace H : (if t380 = true then ((impl_Covers.f kj134 t358 t359 t360 t361 t358 t359 t360 t361).bind fun t381 => (some t381)) else (some false)) = some r := H
             have A182 := Aside0.mk A1820
             clear A1820
             by_cases c183 : t380 = true
             ·subst c183
              have H1 : ((impl_Covers.f kj134 t358 t359 t360 t361 t358 t359 t360 t361).bind fun t381 => (some t381)) = some r := by rw [if_pos rfl] at H; exact H
              clear H
              have H := H1
              clear H1
              replace H := Option.bind_eq_some_iff.mp H
              obtain ⟨t381, A1840, H⟩ := H
              replace H : (some t381) = some r := H
              have A184 := Aside0.mk A1840
              clear A1840
              obtain rfl := Option.some.inj H
              try go_wp2
              have n0_ := Aside0.mk (blk_drew BK333.out)
              have n1_ := Aside0.mk (blk_drew BK334.out)
              have n2_ := Aside0.mk (blk_drew BK344.out)
              have n3_ := Aside0.mk (blk_drew BK345.out)
              have n4_ := Aside0.mk (blk_drew BK351.out)
              have n5_ := Aside0.mk (blk_drew BK357.out)
              have n6_ := Aside0.mk (blk_drew BK362.out)
              have n7_ := Aside0.mk (below_drew1 HB.out)
              clear BK333 BK334 BK344 BK345 BK351 BK357 BK362 HB
              have BK333 := n0_
              have BK334 := n1_
              have BK344 := n2_
              have BK345 := n3_
              have BK351 := n4_
              have BK357 := n5_
              have BK362 := n6_
              have HB := n7_
              clear n0_ n1_ n2_ n3_ n4_ n5_ n6_ n7_
              refine start_ (n := 18) (S := fun w' => w'.cell? ⟨gb362, 0, none⟩ = some (.int .i64 t358) ∧ w'.cell? ⟨gb362, 1, none⟩ = some (.int .i64 t359) ∧ w'.cell? ⟨gb362, 2, none⟩ = some (.int .i64 t360) ∧ w'.cell? ⟨gb362, 3, none⟩ = some (.int .i64 t361)) (ds := []) #[false, false, false, false, false, false, false, false, false, false, false, false, false, false, false, false, false, false] (by kernel_rfl) rfl rfl (c4e BK362) (fun hHeld => ?_); refine with_tabW laws_FnKeys.tab15 laws_FnKeys.bits15 (fun HT_ HW_ => ?_)
              generalize wc.drew = w185 at BK333 BK334 BK344 BK345 BK351 BK357 BK362 HB hHeld ⊢
              refine one_ (i := 0) (N := some 89) #[true, false, false, false, false, false, false, false, false, false, false, false, false, false, false, false, false, false] rfl rfl (one_of HT_.out (by kernel_rfl)) (by decide) (fun K hK => ?_)
              refine goesR Try.func36 (by kernel_rfl) rfl #[] (by rfl) rfl rfl ?_
              with_reducible refine (impl_Root.calls  t370 t371 t372 t373 _ A176.out).mono ?_
              rintro e w186 ⟨rfl, hb⟩
              refine ⟨_, rfl, ?_⟩
              have n0_ := nblk BK333 hb
              have n1_ := nblk BK334 hb
              have n2_ := nblk BK344 hb
              have n3_ := nblk BK345 hb
              have n4_ := nblk BK351 hb
              have n5_ := nblk BK357 hb
              have n6_ := nblk BK362 hb
              have n7_ := nbs HB hb
              clear BK333 BK334 BK344 BK345 BK351 BK357 BK362 HB
              have BK333 := n0_
              have BK334 := n1_
              have BK344 := n2_
              have BK345 := n3_
              have BK351 := n4_
              have BK357 := n5_
              have BK362 := n6_
              have HB := n7_
              clear n0_ n1_ n2_ n3_ n4_ n5_ n6_ n7_
              (try clear hb)
              refine hK.out _ _ (c4e BK362) (fun hHeld => ?_)
              clear hK K
              refine norm_ (a' := ?_) ?_ ?_
              rotate_left
              ·show Act.put _ (some 89) _ = _
               simp only [Act.put, List.setIfInBounds_toArray, List.set_cons_zero, List.set_cons_succ, i64_w, i32_w]
               rfl
              refine one_ (i := 1) (N := some 90) #[true, true, false, false, false, false, false, false, false, false, false, false, false, false, false, false, false, false] rfl rfl (one_of HT_.out (by kernel_rfl)) (by decide) (fun K hK => ?_)
              refine goesR Try.func34 (by kernel_rfl) rfl #[.agg #[.int .i64 t370, .int .i64 t371, .int .i64 t372, .int .i64 t373]] (by rfl) rfl rfl ?_
              with_reducible refine (impl_KeyOk.calls kj134 t370 t371 t372 t373 true _ A177.out).mono ?_
              rintro e w187 ⟨rfl, hb⟩
              refine ⟨_, rfl, ?_⟩
              have n0_ := nblk BK333 hb
              have n1_ := nblk BK334 hb
              have n2_ := nblk BK344 hb
              have n3_ := nblk BK345 hb
              have n4_ := nblk BK351 hb
              have n5_ := nblk BK357 hb
              have n6_ := nblk BK362 hb
              have n7_ := nbs HB hb
              clear BK333 BK334 BK344 BK345 BK351 BK357 BK362 HB
              have BK333 := n0_
              have BK334 := n1_
              have BK344 := n2_
              have BK345 := n3_
              have BK351 := n4_
              have BK357 := n5_
              have BK362 := n6_
              have HB := n7_
              clear n0_ n1_ n2_ n3_ n4_ n5_ n6_ n7_
              (try clear hb)
              refine hK.out _ _ (c4e BK362) (fun hHeld => ?_)
              clear hK K
              refine norm_ (a' := ?_) ?_ ?_
              rotate_left
              ·show Act.put _ (some 90) _ = _
               simp only [Act.put, List.setIfInBounds_toArray, List.set_cons_zero, List.set_cons_succ, i64_w, i32_w]
               rfl
              refine pure_ (i := 2) (N := some 91) (v := ?_) (a' := ?_) #[true, true, true, false, false, false, false, false, false, false, false, false, false, false, false, false, false, false] rfl rfl (any_of HT_.out (by kernel_rfl)) (fun _ _ _ h => h) (Or.inl ⟨by rfl, ?_⟩) ?_ ?_
              rotate_left
              ·intro w'
               go_simp
               with_reducible rfl
              rotate_left
              ·simp only [Act.put, List.setIfInBounds_toArray, List.set_cons_zero, List.set_cons_succ, i64_w, i32_w]
               rfl
              refine take_ (i := 3) (N := some 92) (v := ?_) (a' := ?_) #[true, true, true, true, false, false, false, false, false, false, false, false, false, false, false, false, false, false] rfl rfl (take_ofW HT_.out HW_.out (by kernel_rfl)) (fun _ _ _ h => h) (Or.inl ⟨by rfl, ?_⟩) hHeld ?_ ?_
              rotate_left
              ·rintro w' ⟨s0, s1, s2, s3⟩
               go_simp
               with_reducible rfl
              rotate_left
              ·simp only [Act.put, List.setIfInBounds_toArray, List.set_cons_zero, List.set_cons_succ, i64_w, i32_w]
               rfl
              refine one_ (i := 4) (N := some 93) #[true, true, true, true, true, false, false, false, false, false, false, false, false, false, false, false, false, false] rfl rfl (one_of HT_.out (by kernel_rfl)) (by decide) (fun K hK => ?_)
              refine goesR Try.func34 (by kernel_rfl) rfl #[.agg #[.int .i64 t358, .int .i64 t359, .int .i64 t360, .int .i64 t361]] (by rfl) rfl rfl ?_
              with_reducible refine (impl_KeyOk.calls kj134 t358 t359 t360 t361 true _ A179.out).mono ?_
              rintro e w188 ⟨rfl, hb⟩
              refine ⟨_, rfl, ?_⟩
              have n0_ := nblk BK333 hb
              have n1_ := nblk BK334 hb
              have n2_ := nblk BK344 hb
              have n3_ := nblk BK345 hb
              have n4_ := nblk BK351 hb
              have n5_ := nblk BK357 hb
              have n6_ := nblk BK362 hb
              have n7_ := nbs HB hb
              clear BK333 BK334 BK344 BK345 BK351 BK357 BK362 HB
              have BK333 := n0_
              have BK334 := n1_
              have BK344 := n2_
              have BK345 := n3_
              have BK351 := n4_
              have BK357 := n5_
              have BK362 := n6_
              have HB := n7_
              clear n0_ n1_ n2_ n3_ n4_ n5_ n6_ n7_
              (try clear hb)
              refine hK.out _ _ (c4e BK362) (fun hHeld => ?_)
              clear hK K
              refine norm_ (a' := ?_) ?_ ?_
              rotate_left
              ·show Act.put _ (some 93) _ = _
               simp only [Act.put, List.setIfInBounds_toArray, List.set_cons_zero, List.set_cons_succ, i64_w, i32_w]
               rfl
              refine pure_ (i := 5) (N := some 94) (v := ?_) (a' := ?_) #[true, true, true, true, true, true, false, false, false, false, false, false, false, false, false, false, false, false] rfl rfl (any_of HT_.out (by kernel_rfl)) (fun _ _ _ h => h) (Or.inl ⟨by rfl, ?_⟩) ?_ ?_
              rotate_left
              ·intro w'
               go_simp
               with_reducible rfl
              rotate_left
              ·simp only [Act.put, List.setIfInBounds_toArray, List.set_cons_zero, List.set_cons_succ, i64_w, i32_w]
               rfl
              refine pure_ (i := 6) (N := some 95) (v := ?_) (a' := ?_) #[true, true, true, true, true, true, true, false, false, false, false, false, false, false, false, false, false, false] rfl rfl (any_of HT_.out (by kernel_rfl)) (fun _ _ _ h => h) (Or.inl ⟨by rfl, ?_⟩) ?_ ?_
              rotate_left
              ·intro w'
               go_simp
               with_reducible rfl
              rotate_left
              ·simp only [Act.put, List.setIfInBounds_toArray, List.set_cons_zero, List.set_cons_succ, i64_w, i32_w]
               rfl
              refine take_ (i := 8) (N := some 97) (v := ?_) (a' := ?_) #[true, true, true, true, true, true, true, false, true, false, false, false, false, false, false, false, false, false] rfl rfl (take_ofW HT_.out HW_.out (by kernel_rfl)) (fun _ _ _ h => h) (Or.inl ⟨by rfl, ?_⟩) hHeld ?_ ?_
              rotate_left
              ·rintro w' ⟨s0, s1, s2, s3⟩
               go_simp
               with_reducible rfl
              rotate_left
              ·simp only [Act.put, List.setIfInBounds_toArray, List.set_cons_zero, List.set_cons_succ, i64_w, i32_w]
               rfl
              refine one_ (i := 7) (N := some 96) #[true, true, true, true, true, true, true, true, true, false, false, false, false, false, false, false, false, false] rfl rfl (one_of HT_.out (by kernel_rfl)) (by decide) (fun K hK => ?_)
              refine goesR Try.func36 (by kernel_rfl) rfl #[] (by rfl) rfl rfl ?_
              with_reducible refine (impl_Root.calls  t376 t377 t378 t379 _ A181.out).mono ?_
              rintro e w189 ⟨rfl, hb⟩
              refine ⟨_, rfl, ?_⟩
              have n0_ := nblk BK333 hb
              have n1_ := nblk BK334 hb
              have n2_ := nblk BK344 hb
              have n3_ := nblk BK345 hb
              have n4_ := nblk BK351 hb
              have n5_ := nblk BK357 hb
              have n6_ := nblk BK362 hb
              have n7_ := nbs HB hb
              clear BK333 BK334 BK344 BK345 BK351 BK357 BK362 HB
              have BK333 := n0_
              have BK334 := n1_
              have BK344 := n2_
              have BK345 := n3_
              have BK351 := n4_
              have BK357 := n5_
              have BK362 := n6_
              have HB := n7_
              clear n0_ n1_ n2_ n3_ n4_ n5_ n6_ n7_
              (try clear hb)
              refine hK.out _ _ (c4e BK362) (fun hHeld => ?_)
              clear hK K
              refine norm_ (a' := ?_) ?_ ?_
              rotate_left
              ·show Act.put _ (some 96) _ = _
               simp only [Act.put, List.setIfInBounds_toArray, List.set_cons_zero, List.set_cons_succ, i64_w, i32_w]
               rfl
              refine one_ (i := 9) (N := some 98) #[true, true, true, true, true, true, true, true, true, true, false, false, false, false, false, false, false, false] rfl rfl (one_of HT_.out (by kernel_rfl)) (by decide) (fun K hK => ?_)
              refine goesR Try.func28 (by kernel_rfl) rfl #[.agg #[.int .i64 t376, .int .i64 t377, .int .i64 t378, .int .i64 t379], .agg #[.int .i64 t358, .int .i64 t359, .int .i64 t360, .int .i64 t361]] (by rfl) rfl rfl ?_
              with_reducible refine (impl_Covers.calls kj134 t376 t377 t378 t379 t358 t359 t360 t361 true _ A182.out).mono ?_
              rintro e w190 ⟨rfl, hb⟩
              refine ⟨_, rfl, ?_⟩
              have n0_ := nblk BK333 hb
              have n1_ := nblk BK334 hb
              have n2_ := nblk BK344 hb
              have n3_ := nblk BK345 hb
              have n4_ := nblk BK351 hb
              have n5_ := nblk BK357 hb
              have n6_ := nblk BK362 hb
              have n7_ := nbs HB hb
              clear BK333 BK334 BK344 BK345 BK351 BK357 BK362 HB
              have BK333 := n0_
              have BK334 := n1_
              have BK344 := n2_
              have BK345 := n3_
              have BK351 := n4_
              have BK357 := n5_
              have BK362 := n6_
              have HB := n7_
              clear n0_ n1_ n2_ n3_ n4_ n5_ n6_ n7_
              (try clear hb)
              refine hK.out _ _ (c4e BK362) (fun hHeld => ?_)
              clear hK K
              refine norm_ (a' := ?_) ?_ ?_
              rotate_left
              ·show Act.put _ (some 98) _ = _
               simp only [Act.put, List.setIfInBounds_toArray, List.set_cons_zero, List.set_cons_succ, i64_w, i32_w]
               rfl
              refine pure_ (i := 10) (N := some 99) (v := ?_) (a' := ?_) #[true, true, true, true, true, true, true, true, true, true, true, false, false, false, false, false, false, false] rfl rfl (any_of HT_.out (by kernel_rfl)) (fun _ _ _ h => h) (Or.inl ⟨by rfl, ?_⟩) ?_ ?_
              rotate_left
              ·intro w'
               go_simp
               with_reducible rfl
              rotate_left
              ·simp only [Act.put, List.setIfInBounds_toArray, List.set_cons_zero, List.set_cons_succ, i64_w, i32_w]
               rfl
              refine take_ (i := 11) (N := some 100) (v := ?_) (a' := ?_) #[true, true, true, true, true, true, true, true, true, true, true, true, false, false, false, false, false, false] rfl rfl (take_ofW HT_.out HW_.out (by kernel_rfl)) (fun _ _ _ h => h) (Or.inl ⟨by rfl, ?_⟩) hHeld ?_ ?_
              rotate_left
              ·rintro w' ⟨s0, s1, s2, s3⟩
               go_simp
               with_reducible rfl
              rotate_left
              ·simp only [Act.put, List.setIfInBounds_toArray, List.set_cons_zero, List.set_cons_succ, i64_w, i32_w]
               rfl
              refine take_ (i := 12) (N := some 101) (v := ?_) (a' := ?_) #[true, true, true, true, true, true, true, true, true, true, true, true, true, false, false, false, false, false] rfl rfl (take_ofW HT_.out HW_.out (by kernel_rfl)) (fun _ _ _ h => h) (Or.inl ⟨by rfl, ?_⟩) hHeld ?_ ?_
              rotate_left
              ·rintro w' ⟨s0, s1, s2, s3⟩
               go_simp
               with_reducible rfl
              rotate_left
              ·simp only [Act.put, List.setIfInBounds_toArray, List.set_cons_zero, List.set_cons_succ, i64_w, i32_w]
               rfl
              refine one_ (i := 13) (N := some 102) #[true, true, true, true, true, true, true, true, true, true, true, true, true, true, false, false, false, false] rfl rfl (one_of HT_.out (by kernel_rfl)) (by decide) (fun K hK => ?_)
              refine goesR Try.func28 (by kernel_rfl) rfl #[.agg #[.int .i64 t358, .int .i64 t359, .int .i64 t360, .int .i64 t361], .agg #[.int .i64 t358, .int .i64 t359, .int .i64 t360, .int .i64 t361]] (by rfl) rfl rfl ?_
              with_reducible refine (impl_Covers.calls kj134 t358 t359 t360 t361 t358 t359 t360 t361 t381 _ A184.out).mono ?_
              rintro e w191 ⟨rfl, hb⟩
              refine ⟨_, rfl, ?_⟩
              have n0_ := nblk BK333 hb
              have n1_ := nblk BK334 hb
              have n2_ := nblk BK344 hb
              have n3_ := nblk BK345 hb
              have n4_ := nblk BK351 hb
              have n5_ := nblk BK357 hb
              have n6_ := nblk BK362 hb
              have n7_ := nbs HB hb
              clear BK333 BK334 BK344 BK345 BK351 BK357 BK362 HB
              have BK333 := n0_
              have BK334 := n1_
              have BK344 := n2_
              have BK345 := n3_
              have BK351 := n4_
              have BK357 := n5_
              have BK362 := n6_
              have HB := n7_
              clear n0_ n1_ n2_ n3_ n4_ n5_ n6_ n7_
              (try clear hb)
              refine hK.out _ _ (c4e BK362) (fun hHeld => ?_)
              clear hK K
              refine norm_ (a' := ?_) ?_ ?_
              rotate_left
              ·show Act.put _ (some 102) _ = _
               simp only [Act.put, List.setIfInBounds_toArray, List.set_cons_zero, List.set_cons_succ, i64_w, i32_w]
               rfl
              refine pure_ (i := 14) (N := some 103) (v := ?_) (a' := ?_) #[true, true, true, true, true, true, true, true, true, true, true, true, true, true, true, false, false, false] rfl rfl (any_of HT_.out (by kernel_rfl)) (fun _ _ _ h => h) (Or.inl ⟨by rfl, ?_⟩) ?_ ?_
              rotate_left
              ·intro w'
               go_simp
               with_reducible rfl
              rotate_left
              ·simp only [Act.put, List.setIfInBounds_toArray, List.set_cons_zero, List.set_cons_succ, i64_w, i32_w]
               rfl
              refine pure_ (i := 15) (N := some 104) (v := ?_) (a' := ?_) #[true, true, true, true, true, true, true, true, true, true, true, true, true, true, true, true, false, false] rfl rfl (any_of HT_.out (by kernel_rfl)) (fun _ _ _ h => h) (Or.inl ⟨by rfl, ?_⟩) ?_ ?_
              rotate_left
              ·intro w'
               go_simp
               with_reducible rfl
              rotate_left
              ·simp only [Act.put, List.setIfInBounds_toArray, List.set_cons_zero, List.set_cons_succ, i64_w, i32_w]
               rfl
              refine pure_ (i := 16) (N := some 105) (v := ?_) (a' := ?_) #[true, true, true, true, true, true, true, true, true, true, true, true, true, true, true, true, true, false] rfl rfl (any_of HT_.out (by kernel_rfl)) (fun _ _ _ h => h) (Or.inl ⟨by rfl, ?_⟩) ?_ ?_
              rotate_left
              ·intro w'
               go_simp
               with_reducible rfl
              rotate_left
              ·simp only [Act.put, List.setIfInBounds_toArray, List.set_cons_zero, List.set_cons_succ, i64_w, i32_w]
               rfl
              refine pure_ (i := 17) (N := some 2) (v := ?_) (a' := ?_) #[true, true, true, true, true, true, true, true, true, true, true, true, true, true, true, true, true, true] rfl rfl (any_of HT_.out (by kernel_rfl)) (fun _ _ _ h => h) (Or.inl ⟨by rfl, ?_⟩) ?_ ?_
              rotate_left
              ·intro w'
               go_simp
               with_reducible rfl
              rotate_left
              ·simp only [Act.put, List.setIfInBounds_toArray, List.set_cons_zero, List.set_cons_succ, i64_w, i32_w]
               rfl
              refine done_ (done_of HT_.out (by kernel_rfl)) ?_
              try go_wp2
              go_ret
              exact ⟨by first | rfl | (simp [errW_none, errW_some] <;> rfl) | (simp [*, errW_none, errW_some] <;> rfl), by repeat (first | (with_reducible first | exact HB.out | apply below_alloc | apply pw_below_drewN | apply below_drew1 | refine below_set ?_ GE333.out | refine below_set ?_ GE334.out | refine below_set ?_ GE344.out | refine below_set ?_ GE345.out | refine below_set ?_ GE351.out | refine below_set ?_ GE357.out | refine below_set ?_ GE362.out) | exact HB.out)⟩
             ·replace c183 := Bool.eq_false_iff.mpr c183
              subst c183
              have H1 : (some false) = some r := by rw [if_neg (show ¬ (false = true) by decide)] at H; exact H
              clear H
              have H := H1
              clear H1
              obtain rfl := Option.some.inj H
              try go_wp2
              have n0_ := Aside0.mk (blk_drew BK333.out)
              have n1_ := Aside0.mk (blk_drew BK334.out)
              have n2_ := Aside0.mk (blk_drew BK344.out)
              have n3_ := Aside0.mk (blk_drew BK345.out)
              have n4_ := Aside0.mk (blk_drew BK351.out)
              have n5_ := Aside0.mk (blk_drew BK357.out)
              have n6_ := Aside0.mk (blk_drew BK362.out)
              have n7_ := Aside0.mk (below_drew1 HB.out)
              clear BK333 BK334 BK344 BK345 BK351 BK357 BK362 HB
              have BK333 := n0_
              have BK334 := n1_
              have BK344 := n2_
              have BK345 := n3_
              have BK351 := n4_
              have BK357 := n5_
              have BK362 := n6_
              have HB := n7_
              clear n0_ n1_ n2_ n3_ n4_ n5_ n6_ n7_
              refine start_ (n := 18) (S := fun w' => w'.cell? ⟨gb362, 0, none⟩ = some (.int .i64 t358) ∧ w'.cell? ⟨gb362, 1, none⟩ = some (.int .i64 t359) ∧ w'.cell? ⟨gb362, 2, none⟩ = some (.int .i64 t360) ∧ w'.cell? ⟨gb362, 3, none⟩ = some (.int .i64 t361)) (ds := []) #[false, false, false, false, false, false, false, false, false, false, false, false, false, false, false, false, false, false] (by kernel_rfl) rfl rfl (c4e BK362) (fun hHeld => ?_); refine with_tabW laws_FnKeys.tab15 laws_FnKeys.bits15 (fun HT_ HW_ => ?_)
              generalize wc.drew = w192 at BK333 BK334 BK344 BK345 BK351 BK357 BK362 HB hHeld ⊢
              refine one_ (i := 0) (N := some 89) #[true, false, false, false, false, false, false, false, false, false, false, false, false, false, false, false, false, false] rfl rfl (one_of HT_.out (by kernel_rfl)) (by decide) (fun K hK => ?_)
              refine goesR Try.func36 (by kernel_rfl) rfl #[] (by rfl) rfl rfl ?_
              with_reducible refine (impl_Root.calls  t370 t371 t372 t373 _ A176.out).mono ?_
              rintro e w193 ⟨rfl, hb⟩
              refine ⟨_, rfl, ?_⟩
              have n0_ := nblk BK333 hb
              have n1_ := nblk BK334 hb
              have n2_ := nblk BK344 hb
              have n3_ := nblk BK345 hb
              have n4_ := nblk BK351 hb
              have n5_ := nblk BK357 hb
              have n6_ := nblk BK362 hb
              have n7_ := nbs HB hb
              clear BK333 BK334 BK344 BK345 BK351 BK357 BK362 HB
              have BK333 := n0_
              have BK334 := n1_
              have BK344 := n2_
              have BK345 := n3_
              have BK351 := n4_
              have BK357 := n5_
              have BK362 := n6_
              have HB := n7_
              clear n0_ n1_ n2_ n3_ n4_ n5_ n6_ n7_
              (try clear hb)
              refine hK.out _ _ (c4e BK362) (fun hHeld => ?_)
              clear hK K
              refine norm_ (a' := ?_) ?_ ?_
              rotate_left
              ·show Act.put _ (some 89) _ = _
               simp only [Act.put, List.setIfInBounds_toArray, List.set_cons_zero, List.set_cons_succ, i64_w, i32_w]
               rfl
              refine one_ (i := 1) (N := some 90) #[true, true, false, false, false, false, false, false, false, false, false, false, false, false, false, false, false, false] rfl rfl (one_of HT_.out (by kernel_rfl)) (by decide) (fun K hK => ?_)
              refine goesR Try.func34 (by kernel_rfl) rfl #[.agg #[.int .i64 t370, .int .i64 t371, .int .i64 t372, .int .i64 t373]] (by rfl) rfl rfl ?_
              with_reducible refine (impl_KeyOk.calls kj134 t370 t371 t372 t373 true _ A177.out).mono ?_
              rintro e w194 ⟨rfl, hb⟩
              refine ⟨_, rfl, ?_⟩
              have n0_ := nblk BK333 hb
              have n1_ := nblk BK334 hb
              have n2_ := nblk BK344 hb
              have n3_ := nblk BK345 hb
              have n4_ := nblk BK351 hb
              have n5_ := nblk BK357 hb
              have n6_ := nblk BK362 hb
              have n7_ := nbs HB hb
              clear BK333 BK334 BK344 BK345 BK351 BK357 BK362 HB
              have BK333 := n0_
              have BK334 := n1_
              have BK344 := n2_
              have BK345 := n3_
              have BK351 := n4_
              have BK357 := n5_
              have BK362 := n6_
              have HB := n7_
              clear n0_ n1_ n2_ n3_ n4_ n5_ n6_ n7_
              (try clear hb)
              refine hK.out _ _ (c4e BK362) (fun hHeld => ?_)
              clear hK K
              refine norm_ (a' := ?_) ?_ ?_
              rotate_left
              ·show Act.put _ (some 90) _ = _
               simp only [Act.put, List.setIfInBounds_toArray, List.set_cons_zero, List.set_cons_succ, i64_w, i32_w]
               rfl
              refine pure_ (i := 2) (N := some 91) (v := ?_) (a' := ?_) #[true, true, true, false, false, false, false, false, false, false, false, false, false, false, false, false, false, false] rfl rfl (any_of HT_.out (by kernel_rfl)) (fun _ _ _ h => h) (Or.inl ⟨by rfl, ?_⟩) ?_ ?_
              rotate_left
              ·intro w'
               go_simp
               with_reducible rfl
              rotate_left
              ·simp only [Act.put, List.setIfInBounds_toArray, List.set_cons_zero, List.set_cons_succ, i64_w, i32_w]
               rfl
              refine take_ (i := 3) (N := some 92) (v := ?_) (a' := ?_) #[true, true, true, true, false, false, false, false, false, false, false, false, false, false, false, false, false, false] rfl rfl (take_ofW HT_.out HW_.out (by kernel_rfl)) (fun _ _ _ h => h) (Or.inl ⟨by rfl, ?_⟩) hHeld ?_ ?_
              rotate_left
              ·rintro w' ⟨s0, s1, s2, s3⟩
               go_simp
               with_reducible rfl
              rotate_left
              ·simp only [Act.put, List.setIfInBounds_toArray, List.set_cons_zero, List.set_cons_succ, i64_w, i32_w]
               rfl
              refine one_ (i := 4) (N := some 93) #[true, true, true, true, true, false, false, false, false, false, false, false, false, false, false, false, false, false] rfl rfl (one_of HT_.out (by kernel_rfl)) (by decide) (fun K hK => ?_)
              refine goesR Try.func34 (by kernel_rfl) rfl #[.agg #[.int .i64 t358, .int .i64 t359, .int .i64 t360, .int .i64 t361]] (by rfl) rfl rfl ?_
              with_reducible refine (impl_KeyOk.calls kj134 t358 t359 t360 t361 true _ A179.out).mono ?_
              rintro e w195 ⟨rfl, hb⟩
              refine ⟨_, rfl, ?_⟩
              have n0_ := nblk BK333 hb
              have n1_ := nblk BK334 hb
              have n2_ := nblk BK344 hb
              have n3_ := nblk BK345 hb
              have n4_ := nblk BK351 hb
              have n5_ := nblk BK357 hb
              have n6_ := nblk BK362 hb
              have n7_ := nbs HB hb
              clear BK333 BK334 BK344 BK345 BK351 BK357 BK362 HB
              have BK333 := n0_
              have BK334 := n1_
              have BK344 := n2_
              have BK345 := n3_
              have BK351 := n4_
              have BK357 := n5_
              have BK362 := n6_
              have HB := n7_
              clear n0_ n1_ n2_ n3_ n4_ n5_ n6_ n7_
              (try clear hb)
              refine hK.out _ _ (c4e BK362) (fun hHeld => ?_)
              clear hK K
              refine norm_ (a' := ?_) ?_ ?_
              rotate_left
              ·show Act.put _ (some 93) _ = _
               simp only [Act.put, List.setIfInBounds_toArray, List.set_cons_zero, List.set_cons_succ, i64_w, i32_w]
               rfl
              refine pure_ (i := 5) (N := some 94) (v := ?_) (a' := ?_) #[true, true, true, true, true, true, false, false, false, false, false, false, false, false, false, false, false, false] rfl rfl (any_of HT_.out (by kernel_rfl)) (fun _ _ _ h => h) (Or.inl ⟨by rfl, ?_⟩) ?_ ?_
              rotate_left
              ·intro w'
               go_simp
               with_reducible rfl
              rotate_left
              ·simp only [Act.put, List.setIfInBounds_toArray, List.set_cons_zero, List.set_cons_succ, i64_w, i32_w]
               rfl
              refine pure_ (i := 6) (N := some 95) (v := ?_) (a' := ?_) #[true, true, true, true, true, true, true, false, false, false, false, false, false, false, false, false, false, false] rfl rfl (any_of HT_.out (by kernel_rfl)) (fun _ _ _ h => h) (Or.inl ⟨by rfl, ?_⟩) ?_ ?_
              rotate_left
              ·intro w'
               go_simp
               with_reducible rfl
              rotate_left
              ·simp only [Act.put, List.setIfInBounds_toArray, List.set_cons_zero, List.set_cons_succ, i64_w, i32_w]
               rfl
              refine take_ (i := 8) (N := some 97) (v := ?_) (a' := ?_) #[true, true, true, true, true, true, true, false, true, false, false, false, false, false, false, false, false, false] rfl rfl (take_ofW HT_.out HW_.out (by kernel_rfl)) (fun _ _ _ h => h) (Or.inl ⟨by rfl, ?_⟩) hHeld ?_ ?_
              rotate_left
              ·rintro w' ⟨s0, s1, s2, s3⟩
               go_simp
               with_reducible rfl
              rotate_left
              ·simp only [Act.put, List.setIfInBounds_toArray, List.set_cons_zero, List.set_cons_succ, i64_w, i32_w]
               rfl
              refine one_ (i := 7) (N := some 96) #[true, true, true, true, true, true, true, true, true, false, false, false, false, false, false, false, false, false] rfl rfl (one_of HT_.out (by kernel_rfl)) (by decide) (fun K hK => ?_)
              refine goesR Try.func36 (by kernel_rfl) rfl #[] (by rfl) rfl rfl ?_
              with_reducible refine (impl_Root.calls  t376 t377 t378 t379 _ A181.out).mono ?_
              rintro e w196 ⟨rfl, hb⟩
              refine ⟨_, rfl, ?_⟩
              have n0_ := nblk BK333 hb
              have n1_ := nblk BK334 hb
              have n2_ := nblk BK344 hb
              have n3_ := nblk BK345 hb
              have n4_ := nblk BK351 hb
              have n5_ := nblk BK357 hb
              have n6_ := nblk BK362 hb
              have n7_ := nbs HB hb
              clear BK333 BK334 BK344 BK345 BK351 BK357 BK362 HB
              have BK333 := n0_
              have BK334 := n1_
              have BK344 := n2_
              have BK345 := n3_
              have BK351 := n4_
              have BK357 := n5_
              have BK362 := n6_
              have HB := n7_
              clear n0_ n1_ n2_ n3_ n4_ n5_ n6_ n7_
              (try clear hb)
              refine hK.out _ _ (c4e BK362) (fun hHeld => ?_)
              clear hK K
              refine norm_ (a' := ?_) ?_ ?_
              rotate_left
              ·show Act.put _ (some 96) _ = _
               simp only [Act.put, List.setIfInBounds_toArray, List.set_cons_zero, List.set_cons_succ, i64_w, i32_w]
               rfl
              refine one_ (i := 9) (N := some 98) #[true, true, true, true, true, true, true, true, true, true, false, false, false, false, false, false, false, false] rfl rfl (one_of HT_.out (by kernel_rfl)) (by decide) (fun K hK => ?_)
              refine goesR Try.func28 (by kernel_rfl) rfl #[.agg #[.int .i64 t376, .int .i64 t377, .int .i64 t378, .int .i64 t379], .agg #[.int .i64 t358, .int .i64 t359, .int .i64 t360, .int .i64 t361]] (by rfl) rfl rfl ?_
              with_reducible refine (impl_Covers.calls kj134 t376 t377 t378 t379 t358 t359 t360 t361 false _ A182.out).mono ?_
              rintro e w197 ⟨rfl, hb⟩
              refine ⟨_, rfl, ?_⟩
              have n0_ := nblk BK333 hb
              have n1_ := nblk BK334 hb
              have n2_ := nblk BK344 hb
              have n3_ := nblk BK345 hb
              have n4_ := nblk BK351 hb
              have n5_ := nblk BK357 hb
              have n6_ := nblk BK362 hb
              have n7_ := nbs HB hb
              clear BK333 BK334 BK344 BK345 BK351 BK357 BK362 HB
              have BK333 := n0_
              have BK334 := n1_
              have BK344 := n2_
              have BK345 := n3_
              have BK351 := n4_
              have BK357 := n5_
              have BK362 := n6_
              have HB := n7_
              clear n0_ n1_ n2_ n3_ n4_ n5_ n6_ n7_
              (try clear hb)
              refine hK.out _ _ (c4e BK362) (fun hHeld => ?_)
              clear hK K
              refine norm_ (a' := ?_) ?_ ?_
              rotate_left
              ·show Act.put _ (some 98) _ = _
               simp only [Act.put, List.setIfInBounds_toArray, List.set_cons_zero, List.set_cons_succ, i64_w, i32_w]
               rfl
              refine pure_ (i := 10) (N := some 99) (v := ?_) (a' := ?_) #[true, true, true, true, true, true, true, true, true, true, true, false, false, false, false, false, false, false] rfl rfl (any_of HT_.out (by kernel_rfl)) (fun _ _ _ h => h) (Or.inl ⟨by rfl, ?_⟩) ?_ ?_
              rotate_left
              ·intro w'
               go_simp
               with_reducible rfl
              rotate_left
              ·simp only [Act.put, List.setIfInBounds_toArray, List.set_cons_zero, List.set_cons_succ, i64_w, i32_w]
               rfl
              refine pure_ (i := 11) (N := some 100) (v := undef) (a' := ?_) #[true, true, true, true, true, true, true, true, true, true, true, true, false, false, false, false, false, false] rfl rfl (any_of HT_.out (by kernel_rfl)) (fun _ _ _ h => h) (Or.inr ⟨by rfl, rfl⟩) ?_ ?_
              rotate_left
              ·simp only [Act.put, List.setIfInBounds_toArray, List.set_cons_zero, List.set_cons_succ, i64_w, i32_w]
               rfl
              refine pure_ (i := 12) (N := some 101) (v := undef) (a' := ?_) #[true, true, true, true, true, true, true, true, true, true, true, true, true, false, false, false, false, false] rfl rfl (any_of HT_.out (by kernel_rfl)) (fun _ _ _ h => h) (Or.inr ⟨by rfl, rfl⟩) ?_ ?_
              rotate_left
              ·simp only [Act.put, List.setIfInBounds_toArray, List.set_cons_zero, List.set_cons_succ, i64_w, i32_w]
               rfl
              refine pure_ (i := 13) (N := some 102) (v := undef) (a' := ?_) #[true, true, true, true, true, true, true, true, true, true, true, true, true, true, false, false, false, false] rfl rfl (any_of HT_.out (by kernel_rfl)) (fun _ _ _ h => h) (Or.inr ⟨by rfl, rfl⟩) ?_ ?_
              rotate_left
              ·simp only [Act.put, List.setIfInBounds_toArray, List.set_cons_zero, List.set_cons_succ, i64_w, i32_w]
               rfl
              refine pure_ (i := 14) (N := some 103) (v := ?_) (a' := ?_) #[true, true, true, true, true, true, true, true, true, true, true, true, true, true, true, false, false, false] rfl rfl (any_of HT_.out (by kernel_rfl)) (fun _ _ _ h => h) (Or.inl ⟨by rfl, ?_⟩) ?_ ?_
              rotate_left
              ·intro w'
               go_simp
               with_reducible rfl
              rotate_left
              ·simp only [Act.put, List.setIfInBounds_toArray, List.set_cons_zero, List.set_cons_succ, i64_w, i32_w]
               rfl
              refine pure_ (i := 15) (N := some 104) (v := ?_) (a' := ?_) #[true, true, true, true, true, true, true, true, true, true, true, true, true, true, true, true, false, false] rfl rfl (any_of HT_.out (by kernel_rfl)) (fun _ _ _ h => h) (Or.inl ⟨by rfl, ?_⟩) ?_ ?_
              rotate_left
              ·intro w'
               go_simp
               with_reducible rfl
              rotate_left
              ·simp only [Act.put, List.setIfInBounds_toArray, List.set_cons_zero, List.set_cons_succ, i64_w, i32_w]
               rfl
              refine pure_ (i := 16) (N := some 105) (v := ?_) (a' := ?_) #[true, true, true, true, true, true, true, true, true, true, true, true, true, true, true, true, true, false] rfl rfl (any_of HT_.out (by kernel_rfl)) (fun _ _ _ h => h) (Or.inl ⟨by rfl, ?_⟩) ?_ ?_
              rotate_left
              ·intro w'
               go_simp
               with_reducible rfl
              rotate_left
              ·simp only [Act.put, List.setIfInBounds_toArray, List.set_cons_zero, List.set_cons_succ, i64_w, i32_w]
               rfl
              refine pure_ (i := 17) (N := some 2) (v := ?_) (a' := ?_) #[true, true, true, true, true, true, true, true, true, true, true, true, true, true, true, true, true, true] rfl rfl (any_of HT_.out (by kernel_rfl)) (fun _ _ _ h => h) (Or.inl ⟨by rfl, ?_⟩) ?_ ?_
              rotate_left
              ·intro w'
               go_simp
               with_reducible rfl
              rotate_left
              ·simp only [Act.put, List.setIfInBounds_toArray, List.set_cons_zero, List.set_cons_succ, i64_w, i32_w]
               rfl
              refine done_ (done_of HT_.out (by kernel_rfl)) ?_
              try go_wp2
              go_ret
              exact ⟨by first | rfl | (simp [errW_none, errW_some] <;> rfl) | (simp [*, errW_none, errW_some] <;> rfl), by repeat (first | (with_reducible first | exact HB.out | apply below_alloc | apply pw_below_drewN | apply below_drew1 | refine below_set ?_ GE333.out | refine below_set ?_ GE334.out | refine below_set ?_ GE344.out | refine below_set ?_ GE345.out | refine below_set ?_ GE351.out | refine below_set ?_ GE357.out | refine below_set ?_ GE362.out) | exact HB.out)⟩
            ·replace c180 := Bool.eq_false_iff.mpr c180
             subst c180
             have H1 : (some true) = some r := by rw [if_neg (show ¬ (false = true) by decide)] at H; exact H
             clear H
             have H := H1
             clear H1
             obtain rfl := Option.some.inj H
             try go_wp2
             have n0_ := Aside0.mk (blk_drew BK333.out)
             have n1_ := Aside0.mk (blk_drew BK334.out)
             have n2_ := Aside0.mk (blk_drew BK344.out)
             have n3_ := Aside0.mk (blk_drew BK345.out)
             have n4_ := Aside0.mk (blk_drew BK351.out)
             have n5_ := Aside0.mk (blk_drew BK357.out)
             have n6_ := Aside0.mk (blk_drew BK362.out)
             have n7_ := Aside0.mk (below_drew1 HB.out)
             clear BK333 BK334 BK344 BK345 BK351 BK357 BK362 HB
             have BK333 := n0_
             have BK334 := n1_
             have BK344 := n2_
             have BK345 := n3_
             have BK351 := n4_
             have BK357 := n5_
             have BK362 := n6_
             have HB := n7_
             clear n0_ n1_ n2_ n3_ n4_ n5_ n6_ n7_
             refine start_ (n := 18) (S := fun w' => w'.cell? ⟨gb362, 0, none⟩ = some (.int .i64 t358) ∧ w'.cell? ⟨gb362, 1, none⟩ = some (.int .i64 t359) ∧ w'.cell? ⟨gb362, 2, none⟩ = some (.int .i64 t360) ∧ w'.cell? ⟨gb362, 3, none⟩ = some (.int .i64 t361)) (ds := []) #[false, false, false, false, false, false, false, false, false, false, false, false, false, false, false, false, false, false] (by kernel_rfl) rfl rfl (c4e BK362) (fun hHeld => ?_); refine with_tabW laws_FnKeys.tab15 laws_FnKeys.bits15 (fun HT_ HW_ => ?_)
             generalize wc.drew = w198 at BK333 BK334 BK344 BK345 BK351 BK357 BK362 HB hHeld ⊢
             refine one_ (i := 0) (N := some 89) #[true, false, false, false, false, false, false, false, false, false, false, false, false, false, false, false, false, false] rfl rfl (one_of HT_.out (by kernel_rfl)) (by decide) (fun K hK => ?_)
             refine goesR Try.func36 (by kernel_rfl) rfl #[] (by rfl) rfl rfl ?_
             with_reducible refine (impl_Root.calls  t370 t371 t372 t373 _ A176.out).mono ?_
             rintro e w199 ⟨rfl, hb⟩
             refine ⟨_, rfl, ?_⟩
             have n0_ := nblk BK333 hb
             have n1_ := nblk BK334 hb
             have n2_ := nblk BK344 hb
             have n3_ := nblk BK345 hb
             have n4_ := nblk BK351 hb
             have n5_ := nblk BK357 hb
             have n6_ := nblk BK362 hb
             have n7_ := nbs HB hb
             clear BK333 BK334 BK344 BK345 BK351 BK357 BK362 HB
             have BK333 := n0_
             have BK334 := n1_
             have BK344 := n2_
             have BK345 := n3_
             have BK351 := n4_
             have BK357 := n5_
             have BK362 := n6_
             have HB := n7_
             clear n0_ n1_ n2_ n3_ n4_ n5_ n6_ n7_
             (try clear hb)
             refine hK.out _ _ (c4e BK362) (fun hHeld => ?_)
             clear hK K
             refine norm_ (a' := ?_) ?_ ?_
             rotate_left
             ·show Act.put _ (some 89) _ = _
              simp only [Act.put, List.setIfInBounds_toArray, List.set_cons_zero, List.set_cons_succ, i64_w, i32_w]
              rfl
             refine one_ (i := 1) (N := some 90) #[true, true, false, false, false, false, false, false, false, false, false, false, false, false, false, false, false, false] rfl rfl (one_of HT_.out (by kernel_rfl)) (by decide) (fun K hK => ?_)
             refine goesR Try.func34 (by kernel_rfl) rfl #[.agg #[.int .i64 t370, .int .i64 t371, .int .i64 t372, .int .i64 t373]] (by rfl) rfl rfl ?_
             with_reducible refine (impl_KeyOk.calls kj134 t370 t371 t372 t373 true _ A177.out).mono ?_
             rintro e w200 ⟨rfl, hb⟩
             refine ⟨_, rfl, ?_⟩
             have n0_ := nblk BK333 hb
             have n1_ := nblk BK334 hb
             have n2_ := nblk BK344 hb
             have n3_ := nblk BK345 hb
             have n4_ := nblk BK351 hb
             have n5_ := nblk BK357 hb
             have n6_ := nblk BK362 hb
             have n7_ := nbs HB hb
             clear BK333 BK334 BK344 BK345 BK351 BK357 BK362 HB
             have BK333 := n0_
             have BK334 := n1_
             have BK344 := n2_
             have BK345 := n3_
             have BK351 := n4_
             have BK357 := n5_
             have BK362 := n6_
             have HB := n7_
             clear n0_ n1_ n2_ n3_ n4_ n5_ n6_ n7_
             (try clear hb)
             refine hK.out _ _ (c4e BK362) (fun hHeld => ?_)
             clear hK K
             refine norm_ (a' := ?_) ?_ ?_
             rotate_left
             ·show Act.put _ (some 90) _ = _
              simp only [Act.put, List.setIfInBounds_toArray, List.set_cons_zero, List.set_cons_succ, i64_w, i32_w]
              rfl
             refine pure_ (i := 2) (N := some 91) (v := ?_) (a' := ?_) #[true, true, true, false, false, false, false, false, false, false, false, false, false, false, false, false, false, false] rfl rfl (any_of HT_.out (by kernel_rfl)) (fun _ _ _ h => h) (Or.inl ⟨by rfl, ?_⟩) ?_ ?_
             rotate_left
             ·intro w'
              go_simp
              with_reducible rfl
             rotate_left
             ·simp only [Act.put, List.setIfInBounds_toArray, List.set_cons_zero, List.set_cons_succ, i64_w, i32_w]
              rfl
             refine take_ (i := 3) (N := some 92) (v := ?_) (a' := ?_) #[true, true, true, true, false, false, false, false, false, false, false, false, false, false, false, false, false, false] rfl rfl (take_ofW HT_.out HW_.out (by kernel_rfl)) (fun _ _ _ h => h) (Or.inl ⟨by rfl, ?_⟩) hHeld ?_ ?_
             rotate_left
             ·rintro w' ⟨s0, s1, s2, s3⟩
              go_simp
              with_reducible rfl
             rotate_left
             ·simp only [Act.put, List.setIfInBounds_toArray, List.set_cons_zero, List.set_cons_succ, i64_w, i32_w]
              rfl
             refine one_ (i := 4) (N := some 93) #[true, true, true, true, true, false, false, false, false, false, false, false, false, false, false, false, false, false] rfl rfl (one_of HT_.out (by kernel_rfl)) (by decide) (fun K hK => ?_)
             refine goesR Try.func34 (by kernel_rfl) rfl #[.agg #[.int .i64 t358, .int .i64 t359, .int .i64 t360, .int .i64 t361]] (by rfl) rfl rfl ?_
             with_reducible refine (impl_KeyOk.calls kj134 t358 t359 t360 t361 false _ A179.out).mono ?_
             rintro e w201 ⟨rfl, hb⟩
             refine ⟨_, rfl, ?_⟩
             have n0_ := nblk BK333 hb
             have n1_ := nblk BK334 hb
             have n2_ := nblk BK344 hb
             have n3_ := nblk BK345 hb
             have n4_ := nblk BK351 hb
             have n5_ := nblk BK357 hb
             have n6_ := nblk BK362 hb
             have n7_ := nbs HB hb
             clear BK333 BK334 BK344 BK345 BK351 BK357 BK362 HB
             have BK333 := n0_
             have BK334 := n1_
             have BK344 := n2_
             have BK345 := n3_
             have BK351 := n4_
             have BK357 := n5_
             have BK362 := n6_
             have HB := n7_
             clear n0_ n1_ n2_ n3_ n4_ n5_ n6_ n7_
             (try clear hb)
             refine hK.out _ _ (c4e BK362) (fun hHeld => ?_)
             clear hK K
             refine norm_ (a' := ?_) ?_ ?_
             rotate_left
             ·show Act.put _ (some 93) _ = _
              simp only [Act.put, List.setIfInBounds_toArray, List.set_cons_zero, List.set_cons_succ, i64_w, i32_w]
              rfl
             refine pure_ (i := 5) (N := some 94) (v := ?_) (a' := ?_) #[true, true, true, true, true, true, false, false, false, false, false, false, false, false, false, false, false, false] rfl rfl (any_of HT_.out (by kernel_rfl)) (fun _ _ _ h => h) (Or.inl ⟨by rfl, ?_⟩) ?_ ?_
             rotate_left
             ·intro w'
              go_simp
              with_reducible rfl
             rotate_left
             ·simp only [Act.put, List.setIfInBounds_toArray, List.set_cons_zero, List.set_cons_succ, i64_w, i32_w]
              rfl
             refine pure_ (i := 6) (N := some 95) (v := ?_) (a' := ?_) #[true, true, true, true, true, true, true, false, false, false, false, false, false, false, false, false, false, false] rfl rfl (any_of HT_.out (by kernel_rfl)) (fun _ _ _ h => h) (Or.inl ⟨by rfl, ?_⟩) ?_ ?_
             rotate_left
             ·intro w'
              go_simp
              with_reducible rfl
             rotate_left
             ·simp only [Act.put, List.setIfInBounds_toArray, List.set_cons_zero, List.set_cons_succ, i64_w, i32_w]
              rfl
             refine pure_ (i := 7) (N := some 96) (v := undef) (a' := ?_) #[true, true, true, true, true, true, true, true, false, false, false, false, false, false, false, false, false, false] rfl rfl (any_of HT_.out (by kernel_rfl)) (fun _ _ _ h => h) (Or.inr ⟨by rfl, rfl⟩) ?_ ?_
             rotate_left
             ·simp only [Act.put, List.setIfInBounds_toArray, List.set_cons_zero, List.set_cons_succ, i64_w, i32_w]
              rfl
             refine pure_ (i := 8) (N := some 97) (v := undef) (a' := ?_) #[true, true, true, true, true, true, true, true, true, false, false, false, false, false, false, false, false, false] rfl rfl (any_of HT_.out (by kernel_rfl)) (fun _ _ _ h => h) (Or.inr ⟨by rfl, rfl⟩) ?_ ?_
             rotate_left
             ·simp only [Act.put, List.setIfInBounds_toArray, List.set_cons_zero, List.set_cons_succ, i64_w, i32_w]
              rfl
             refine pure_ (i := 9) (N := some 98) (v := undef) (a' := ?_) #[true, true, true, true, true, true, true, true, true, true, false, false, false, false, false, false, false, false] rfl rfl (any_of HT_.out (by kernel_rfl)) (fun _ _ _ h => h) (Or.inr ⟨by rfl, rfl⟩) ?_ ?_
             rotate_left
             ·simp only [Act.put, List.setIfInBounds_toArray, List.set_cons_zero, List.set_cons_succ, i64_w, i32_w]
              rfl
             refine pure_ (i := 10) (N := some 99) (v := undef) (a' := ?_) #[true, true, true, true, true, true, true, true, true, true, true, false, false, false, false, false, false, false] rfl rfl (any_of HT_.out (by kernel_rfl)) (fun _ _ _ h => h) (Or.inr ⟨by rfl, rfl⟩) ?_ ?_
             rotate_left
             ·simp only [Act.put, List.setIfInBounds_toArray, List.set_cons_zero, List.set_cons_succ, i64_w, i32_w]
              rfl
             refine pure_ (i := 11) (N := some 100) (v := undef) (a' := ?_) #[true, true, true, true, true, true, true, true, true, true, true, true, false, false, false, false, false, false] rfl rfl (any_of HT_.out (by kernel_rfl)) (fun _ _ _ h => h) (Or.inr ⟨by rfl, rfl⟩) ?_ ?_
             rotate_left
             ·simp only [Act.put, List.setIfInBounds_toArray, List.set_cons_zero, List.set_cons_succ, i64_w, i32_w]
              rfl
             refine pure_ (i := 12) (N := some 101) (v := undef) (a' := ?_) #[true, true, true, true, true, true, true, true, true, true, true, true, true, false, false, false, false, false] rfl rfl (any_of HT_.out (by kernel_rfl)) (fun _ _ _ h => h) (Or.inr ⟨by rfl, rfl⟩) ?_ ?_
             rotate_left
             ·simp only [Act.put, List.setIfInBounds_toArray, List.set_cons_zero, List.set_cons_succ, i64_w, i32_w]
              rfl
             refine pure_ (i := 13) (N := some 102) (v := undef) (a' := ?_) #[true, true, true, true, true, true, true, true, true, true, true, true, true, true, false, false, false, false] rfl rfl (any_of HT_.out (by kernel_rfl)) (fun _ _ _ h => h) (Or.inr ⟨by rfl, rfl⟩) ?_ ?_
             rotate_left
             ·simp only [Act.put, List.setIfInBounds_toArray, List.set_cons_zero, List.set_cons_succ, i64_w, i32_w]
              rfl
             refine pure_ (i := 14) (N := some 103) (v := undef) (a' := ?_) #[true, true, true, true, true, true, true, true, true, true, true, true, true, true, true, false, false, false] rfl rfl (any_of HT_.out (by kernel_rfl)) (fun _ _ _ h => h) (Or.inr ⟨by rfl, rfl⟩) ?_ ?_
             rotate_left
             ·simp only [Act.put, List.setIfInBounds_toArray, List.set_cons_zero, List.set_cons_succ, i64_w, i32_w]
              rfl
             refine pure_ (i := 15) (N := some 104) (v := ?_) (a' := ?_) #[true, true, true, true, true, true, true, true, true, true, true, true, true, true, true, true, false, false] rfl rfl (any_of HT_.out (by kernel_rfl)) (fun _ _ _ h => h) (Or.inl ⟨by rfl, ?_⟩) ?_ ?_
             rotate_left
             ·intro w'
              go_simp
              with_reducible rfl
             rotate_left
             ·simp only [Act.put, List.setIfInBounds_toArray, List.set_cons_zero, List.set_cons_succ, i64_w, i32_w]
              rfl
             refine pure_ (i := 16) (N := some 105) (v := ?_) (a' := ?_) #[true, true, true, true, true, true, true, true, true, true, true, true, true, true, true, true, true, false] rfl rfl (any_of HT_.out (by kernel_rfl)) (fun _ _ _ h => h) (Or.inl ⟨by rfl, ?_⟩) ?_ ?_
             rotate_left
             ·intro w'
              go_simp
              with_reducible rfl
             rotate_left
             ·simp only [Act.put, List.setIfInBounds_toArray, List.set_cons_zero, List.set_cons_succ, i64_w, i32_w]
              rfl
             refine pure_ (i := 17) (N := some 2) (v := ?_) (a' := ?_) #[true, true, true, true, true, true, true, true, true, true, true, true, true, true, true, true, true, true] rfl rfl (any_of HT_.out (by kernel_rfl)) (fun _ _ _ h => h) (Or.inl ⟨by rfl, ?_⟩) ?_ ?_
             rotate_left
             ·intro w'
              go_simp
              with_reducible rfl
             rotate_left
             ·simp only [Act.put, List.setIfInBounds_toArray, List.set_cons_zero, List.set_cons_succ, i64_w, i32_w]
              rfl
             refine done_ (done_of HT_.out (by kernel_rfl)) ?_
             try go_wp2
             go_ret
             exact ⟨by first | rfl | (simp [errW_none, errW_some] <;> rfl) | (simp [*, errW_none, errW_some] <;> rfl), by repeat (first | (with_reducible first | exact HB.out | apply below_alloc | apply pw_below_drewN | apply below_drew1 | refine below_set ?_ GE333.out | refine below_set ?_ GE334.out | refine below_set ?_ GE344.out | refine below_set ?_ GE345.out | refine below_set ?_ GE351.out | refine below_set ?_ GE357.out | refine below_set ?_ GE362.out) | exact HB.out)⟩
           ·replace c178 := Bool.eq_false_iff.mpr c178
            subst c178
            have H1 : (some false) = some r := by rw [if_neg (show ¬ (false = true) by decide)] at H; exact H
            clear H
            have H := H1
            clear H1
            obtain rfl := Option.some.inj H
            try go_wp2
            have n0_ := Aside0.mk (blk_drew BK333.out)
            have n1_ := Aside0.mk (blk_drew BK334.out)
            have n2_ := Aside0.mk (blk_drew BK344.out)
            have n3_ := Aside0.mk (blk_drew BK345.out)
            have n4_ := Aside0.mk (blk_drew BK351.out)
            have n5_ := Aside0.mk (blk_drew BK357.out)
            have n6_ := Aside0.mk (blk_drew BK362.out)
            have n7_ := Aside0.mk (below_drew1 HB.out)
            clear BK333 BK334 BK344 BK345 BK351 BK357 BK362 HB
            have BK333 := n0_
            have BK334 := n1_
            have BK344 := n2_
            have BK345 := n3_
            have BK351 := n4_
            have BK357 := n5_
            have BK362 := n6_
            have HB := n7_
            clear n0_ n1_ n2_ n3_ n4_ n5_ n6_ n7_
            refine start_ (n := 18) (S := fun w' => True) (ds := []) #[false, false, false, false, false, false, false, false, false, false, false, false, false, false, false, false, false, false] (by kernel_rfl) rfl rfl trivial (fun hHeld => ?_); refine with_tabW laws_FnKeys.tab15 laws_FnKeys.bits15 (fun HT_ HW_ => ?_)
            generalize wc.drew = w202 at BK333 BK334 BK344 BK345 BK351 BK357 BK362 HB hHeld ⊢
            refine one_ (i := 0) (N := some 89) #[true, false, false, false, false, false, false, false, false, false, false, false, false, false, false, false, false, false] rfl rfl (one_of HT_.out (by kernel_rfl)) (by decide) (fun K hK => ?_)
            refine goesR Try.func36 (by kernel_rfl) rfl #[] (by rfl) rfl rfl ?_
            with_reducible refine (impl_Root.calls  t370 t371 t372 t373 _ A176.out).mono ?_
            rintro e w203 ⟨rfl, hb⟩
            refine ⟨_, rfl, ?_⟩
            have n0_ := nblk BK333 hb
            have n1_ := nblk BK334 hb
            have n2_ := nblk BK344 hb
            have n3_ := nblk BK345 hb
            have n4_ := nblk BK351 hb
            have n5_ := nblk BK357 hb
            have n6_ := nblk BK362 hb
            have n7_ := nbs HB hb
            clear BK333 BK334 BK344 BK345 BK351 BK357 BK362 HB
            have BK333 := n0_
            have BK334 := n1_
            have BK344 := n2_
            have BK345 := n3_
            have BK351 := n4_
            have BK357 := n5_
            have BK362 := n6_
            have HB := n7_
            clear n0_ n1_ n2_ n3_ n4_ n5_ n6_ n7_
            (try clear hb)
            refine hK.out _ _ trivial (fun hHeld => ?_)
            clear hK K
            refine norm_ (a' := ?_) ?_ ?_
            rotate_left
            ·show Act.put _ (some 89) _ = _
             simp only [Act.put, List.setIfInBounds_toArray, List.set_cons_zero, List.set_cons_succ, i64_w, i32_w]
             rfl
            refine one_ (i := 1) (N := some 90) #[true, true, false, false, false, false, false, false, false, false, false, false, false, false, false, false, false, false] rfl rfl (one_of HT_.out (by kernel_rfl)) (by decide) (fun K hK => ?_)
            refine goesR Try.func34 (by kernel_rfl) rfl #[.agg #[.int .i64 t370, .int .i64 t371, .int .i64 t372, .int .i64 t373]] (by rfl) rfl rfl ?_
            with_reducible refine (impl_KeyOk.calls kj134 t370 t371 t372 t373 false _ A177.out).mono ?_
            rintro e w204 ⟨rfl, hb⟩
            refine ⟨_, rfl, ?_⟩
            have n0_ := nblk BK333 hb
            have n1_ := nblk BK334 hb
            have n2_ := nblk BK344 hb
            have n3_ := nblk BK345 hb
            have n4_ := nblk BK351 hb
            have n5_ := nblk BK357 hb
            have n6_ := nblk BK362 hb
            have n7_ := nbs HB hb
            clear BK333 BK334 BK344 BK345 BK351 BK357 BK362 HB
            have BK333 := n0_
            have BK334 := n1_
            have BK344 := n2_
            have BK345 := n3_
            have BK351 := n4_
            have BK357 := n5_
            have BK362 := n6_
            have HB := n7_
            clear n0_ n1_ n2_ n3_ n4_ n5_ n6_ n7_
            (try clear hb)
            refine hK.out _ _ trivial (fun hHeld => ?_)
            clear hK K
            refine norm_ (a' := ?_) ?_ ?_
            rotate_left
            ·show Act.put _ (some 90) _ = _
             simp only [Act.put, List.setIfInBounds_toArray, List.set_cons_zero, List.set_cons_succ, i64_w, i32_w]
             rfl
            refine pure_ (i := 2) (N := some 91) (v := ?_) (a' := ?_) #[true, true, true, false, false, false, false, false, false, false, false, false, false, false, false, false, false, false] rfl rfl (any_of HT_.out (by kernel_rfl)) (fun _ _ _ h => h) (Or.inl ⟨by rfl, ?_⟩) ?_ ?_
            rotate_left
            ·intro w'
             go_simp
             with_reducible rfl
            rotate_left
            ·simp only [Act.put, List.setIfInBounds_toArray, List.set_cons_zero, List.set_cons_succ, i64_w, i32_w]
             rfl
            refine pure_ (i := 3) (N := some 92) (v := undef) (a' := ?_) #[true, true, true, true, false, false, false, false, false, false, false, false, false, false, false, false, false, false] rfl rfl (any_of HT_.out (by kernel_rfl)) (fun _ _ _ h => h) (Or.inr ⟨by rfl, rfl⟩) ?_ ?_
            rotate_left
            ·simp only [Act.put, List.setIfInBounds_toArray, List.set_cons_zero, List.set_cons_succ, i64_w, i32_w]
             rfl
            refine pure_ (i := 4) (N := some 93) (v := undef) (a' := ?_) #[true, true, true, true, true, false, false, false, false, false, false, false, false, false, false, false, false, false] rfl rfl (any_of HT_.out (by kernel_rfl)) (fun _ _ _ h => h) (Or.inr ⟨by rfl, rfl⟩) ?_ ?_
            rotate_left
            ·simp only [Act.put, List.setIfInBounds_toArray, List.set_cons_zero, List.set_cons_succ, i64_w, i32_w]
             rfl
            refine pure_ (i := 5) (N := some 94) (v := undef) (a' := ?_) #[true, true, true, true, true, true, false, false, false, false, false, false, false, false, false, false, false, false] rfl rfl (any_of HT_.out (by kernel_rfl)) (fun _ _ _ h => h) (Or.inr ⟨by rfl, rfl⟩) ?_ ?_
            rotate_left
            ·simp only [Act.put, List.setIfInBounds_toArray, List.set_cons_zero, List.set_cons_succ, i64_w, i32_w]
             rfl
            refine pure_ (i := 6) (N := some 95) (v := undef) (a' := ?_) #[true, true, true, true, true, true, true, false, false, false, false, false, false, false, false, false, false, false] rfl rfl (any_of HT_.out (by kernel_rfl)) (fun _ _ _ h => h) (Or.inr ⟨by rfl, rfl⟩) ?_ ?_
            rotate_left
            ·simp only [Act.put, List.setIfInBounds_toArray, List.set_cons_zero, List.set_cons_succ, i64_w, i32_w]
             rfl
            refine pure_ (i := 7) (N := some 96) (v := undef) (a' := ?_) #[true, true, true, true, true, true, true, true, false, false, false, false, false, false, false, false, false, false] rfl rfl (any_of HT_.out (by kernel_rfl)) (fun _ _ _ h => h) (Or.inr ⟨by rfl, rfl⟩) ?_ ?_
            rotate_left
            ·simp only [Act.put, List.setIfInBounds_toArray, List.set_cons_zero, List.set_cons_succ, i64_w, i32_w]
             rfl
            refine pure_ (i := 8) (N := some 97) (v := undef) (a' := ?_) #[true, true, true, true, true, true, true, true, true, false, false, false, false, false, false, false, false, false] rfl rfl (any_of HT_.out (by kernel_rfl)) (fun _ _ _ h => h) (Or.inr ⟨by rfl, rfl⟩) ?_ ?_
            rotate_left
            ·simp only [Act.put, List.setIfInBounds_toArray, List.set_cons_zero, List.set_cons_succ, i64_w, i32_w]
             rfl
            refine pure_ (i := 9) (N := some 98) (v := undef) (a' := ?_) #[true, true, true, true, true, true, true, true, true, true, false, false, false, false, false, false, false, false] rfl rfl (any_of HT_.out (by kernel_rfl)) (fun _ _ _ h => h) (Or.inr ⟨by rfl, rfl⟩) ?_ ?_
            rotate_left
            ·simp only [Act.put, List.setIfInBounds_toArray, List.set_cons_zero, List.set_cons_succ, i64_w, i32_w]
             rfl
            refine pure_ (i := 10) (N := some 99) (v := undef) (a' := ?_) #[true, true, true, true, true, true, true, true, true, true, true, false, false, false, false, false, false, false] rfl rfl (any_of HT_.out (by kernel_rfl)) (fun _ _ _ h => h) (Or.inr ⟨by rfl, rfl⟩) ?_ ?_
            rotate_left
            ·simp only [Act.put, List.setIfInBounds_toArray, List.set_cons_zero, List.set_cons_succ, i64_w, i32_w]
             rfl
            refine pure_ (i := 11) (N := some 100) (v := undef) (a' := ?_) #[true, true, true, true, true, true, true, true, true, true, true, true, false, false, false, false, false, false] rfl rfl (any_of HT_.out (by kernel_rfl)) (fun _ _ _ h => h) (Or.inr ⟨by rfl, rfl⟩) ?_ ?_
            rotate_left
            ·simp only [Act.put, List.setIfInBounds_toArray, List.set_cons_zero, List.set_cons_succ, i64_w, i32_w]
             rfl
            refine pure_ (i := 12) (N := some 101) (v := undef) (a' := ?_) #[true, true, true, true, true, true, true, true, true, true, true, true, true, false, false, false, false, false] rfl rfl (any_of HT_.out (by kernel_rfl)) (fun _ _ _ h => h) (Or.inr ⟨by rfl, rfl⟩) ?_ ?_
            rotate_left
            ·simp only [Act.put, List.setIfInBounds_toArray, List.set_cons_zero, List.set_cons_succ, i64_w, i32_w]
             rfl
            refine pure_ (i := 13) (N := some 102) (v := undef) (a' := ?_) #[true, true, true, true, true, true, true, true, true, true, true, true, true, true, false, false, false, false] rfl rfl (any_of HT_.out (by kernel_rfl)) (fun _ _ _ h => h) (Or.inr ⟨by rfl, rfl⟩) ?_ ?_
            rotate_left
            ·simp only [Act.put, List.setIfInBounds_toArray, List.set_cons_zero, List.set_cons_succ, i64_w, i32_w]
             rfl
            refine pure_ (i := 14) (N := some 103) (v := undef) (a' := ?_) #[true, true, true, true, true, true, true, true, true, true, true, true, true, true, true, false, false, false] rfl rfl (any_of HT_.out (by kernel_rfl)) (fun _ _ _ h => h) (Or.inr ⟨by rfl, rfl⟩) ?_ ?_
            rotate_left
            ·simp only [Act.put, List.setIfInBounds_toArray, List.set_cons_zero, List.set_cons_succ, i64_w, i32_w]
             rfl
            refine pure_ (i := 15) (N := some 104) (v := undef) (a' := ?_) #[true, true, true, true, true, true, true, true, true, true, true, true, true, true, true, true, false, false] rfl rfl (any_of HT_.out (by kernel_rfl)) (fun _ _ _ h => h) (Or.inr ⟨by rfl, rfl⟩) ?_ ?_
            rotate_left
            ·simp only [Act.put, List.setIfInBounds_toArray, List.set_cons_zero, List.set_cons_succ, i64_w, i32_w]
             rfl
            refine pure_ (i := 16) (N := some 105) (v := ?_) (a' := ?_) #[true, true, true, true, true, true, true, true, true, true, true, true, true, true, true, true, true, false] rfl rfl (any_of HT_.out (by kernel_rfl)) (fun _ _ _ h => h) (Or.inl ⟨by rfl, ?_⟩) ?_ ?_
            rotate_left
            ·intro w'
             go_simp
             with_reducible rfl
            rotate_left
            ·simp only [Act.put, List.setIfInBounds_toArray, List.set_cons_zero, List.set_cons_succ, i64_w, i32_w]
             rfl
            refine pure_ (i := 17) (N := some 2) (v := ?_) (a' := ?_) #[true, true, true, true, true, true, true, true, true, true, true, true, true, true, true, true, true, true] rfl rfl (any_of HT_.out (by kernel_rfl)) (fun _ _ _ h => h) (Or.inl ⟨by rfl, ?_⟩) ?_ ?_
            rotate_left
            ·intro w'
             go_simp
             with_reducible rfl
            rotate_left
            ·simp only [Act.put, List.setIfInBounds_toArray, List.set_cons_zero, List.set_cons_succ, i64_w, i32_w]
             rfl
            refine done_ (done_of HT_.out (by kernel_rfl)) ?_
            try go_wp2
            go_ret
            exact ⟨by first | rfl | (simp [errW_none, errW_some] <;> rfl) | (simp [*, errW_none, errW_some] <;> rfl), by repeat (first | (with_reducible first | exact HB.out | apply below_alloc | apply pw_below_drewN | apply below_drew1 | refine below_set ?_ GE333.out | refine below_set ?_ GE334.out | refine below_set ?_ GE344.out | refine below_set ?_ GE345.out | refine below_set ?_ GE351.out | refine below_set ?_ GE357.out | refine below_set ?_ GE362.out) | exact HB.out)⟩

/-- THE ONE PURE STATEMENT of laws_FnKeys: yours. -/
def laws_FnKeys.Pure : Prop := ∀ (l0 : List Int), l0.length ≤ maxLen → l0.length * 1 ≤ 140737488351232 → (∀ x ∈ l0, (Lit.int .u8 x).wf = true) → ∃ k, laws_FnKeys.f k l0 = some true
theorem laws_FnKeys.walk (P : laws_FnKeys.Pure) (a0 : Option Addr) (len0 cap0 : Nat) (z0 : List Int) (w : World) (w0 : (a0 = none ∧ len0 = 0 ∧ cap0 = 0 ∧ z0 = []) ∨ ∃ x, a0 = some x ∧ len0 ≤ cap0 ∧ cap0 ≤ maxLen ∧ z0.length = cap0 ∧ (∀ i, i < z0.length → w.cell? (x.add i) = some (.int .u8 (z0.getD i 0))) ∧ ∀ n ∈ z0, (Lit.int .u8 n).wf = true) (y0 : len0 * 1 ≤ 140737488351232) :
  Calls Try.prog 4 #[.slice a0 len0 cap0] w fun e w' => e = .returned (.bool true) ∧ Below w.heap.size w w' := by
 obtain ⟨l0, rfl, hr0, hm0, hw0, hc0⟩ := ReadsInt.ofRowC w0
 obtain ⟨k, h⟩ := P l0 hm0 y0 hw0
 refine (laws_FnKeys.calls k _ _ l0 true w (Kd.C_of_reads (d := (0 : Int)) (h1 := fun _ => rfl) hr0) hc0 h).mono ?_
 rintro e w' ⟨rfl, hd⟩
 exact ⟨rfl, hd⟩

end Go.Proofs.Ytiliggbholjdjaa.PFnKeys
