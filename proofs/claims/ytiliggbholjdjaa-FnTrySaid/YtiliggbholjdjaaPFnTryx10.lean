-- Written by a program of this session (wip/patch.py turns a copy of the kit's print): the functions that the law reaches, and their walks.
import Derived.Test.YtiliggbholjdjaaPFnTryx0
import Derived.Test.YtiliggbholjdjaaPFnTryx2
import Derived.Test.YtiliggbholjdjaaPFnTryx3
import Derived.Test.YtiliggbholjdjaaPFnTryx7
import Derived.Test.YtiliggbholjdjaaPFnTryx8
import Derived.Test.YtiliggbholjdjaaPFnTryx9
import Derived.Test.YtiliggbholjdjaaCFnTry
namespace Go.Proofs.Ytiliggbholjdjaa.PFnTry
open Go.RowKit Go.Proofs.YtiliggbholjdjaaW.PrintWords Go.Proofs.YtiliggbholjdjaaW.PrintLast Go.Proofs.YtiliggbholjdjaaW.PrintMore Go.Proofs.YtiliggbholjdjaaW.Mine
attribute [local go_sem] max2_int min2_int max_two min_two max_three min_three max_four min_four   -- for this text's walks alone
set_option linter.unusedVariables false
set_option linter.unusedSimpArgs false

attribute [local go_sem high] eqA27
/-! ### laws_FnTry: function 6 -/
mutual
def laws_FnTry.j0 : Nat → Int → Int → Int → Bool → Int → Bool → Int → Int → Int → Int → Option (Bool)
 | 0, _, _, _, _, _, _, _, _, _, _ => none
 | k + 1, x4, x5, x6, x55, x455000, x455001, x455002, x455003, x455004, x455005 => if x55 = true then (some false) else (if x6 = 0 then (if x455001 = true then (if x455005 = 0 then (if x4 < x455002 then (laws_FnTry.j1 k x4 x5 x6 true x455000 x455001 x455002 x455003 x455004 x455005) else (laws_FnTry.j1 k x4 x5 x6 (decide (x4 ≥ x455003)) x455000 x455001 x455002 x455003 x455004 x455005)) else (laws_FnTry.j1 k x4 x5 x6 true x455000 x455001 x455002 x455003 x455004 x455005)) else (laws_FnTry.j1 k x4 x5 x6 true x455000 x455001 x455002 x455003 x455004 x455005)) else (laws_FnTry.j1 k x4 x5 x6 false x455000 x455001 x455002 x455003 x455004 x455005))
def laws_FnTry.j1 : Nat → Int → Int → Int → Bool → Int → Bool → Int → Int → Int → Int → Option (Bool)
 | 0, _, _, _, _, _, _, _, _, _, _ => none
 | k + 1, x4, x5, x6, x82, x455000, x455001, x455002, x455003, x455004, x455005 => if x82 = true then (some false) else ((impl_Root.f).bind fun bt499 => ((impl_KeyWord.f k bt499.1 bt499.2.1 bt499.2.2.1 bt499.2.2.2 x455000).bind fun bt503 => (if x6 = 0 then ((impl_Try.f k bt503.1 bt503.2.1 bt503.2.2.1 bt503.2.2.2.1 bt503.2.2.2.2.1 bt503.2.2.2.2.2 x4 x5).bind fun t510 => (if t510 = 0 then ((impl_Try.f k x455000 x455001 x455002 x455003 x455004 x455005 x4 0).bind fun t511 => (some (t511 == 0))) else (some false))) else (some true))))
end
def laws_FnTry.f (k : Nat) (l0 : List Int) : Option (Bool) := (laws_big.f l0).bind fun t445 => (if t445 = true then (some true) else ((spec_DrawTry.f k l0).bind fun bt446 => ((impl_Try.f k bt446.1 bt446.2.1 bt446.2.2.1 bt446.2.2.2.1 bt446.2.2.2.2.1 bt446.2.2.2.2.2.1 bt446.2.2.2.2.2.2.1 bt446.2.2.2.2.2.2.2).bind fun t455 => ((spec_Try.f k bt446.1 bt446.2.1 bt446.2.2.1 bt446.2.2.2.1 bt446.2.2.2.2.1 bt446.2.2.2.2.2.1 bt446.2.2.2.2.2.2.1 bt446.2.2.2.2.2.2.2).bind fun t456 => (if t455 = t456 then ((spec_DrawTaken.f k l0).bind fun bt457 => ((spec_DrawMayPut.f k l0).bind fun bt471 => ((impl_Taken.f bt457.1 bt457.2.1 bt457.2.2.1 bt457.2.2.2.1 bt457.2.2.2.2.1 bt457.2.2.2.2.2.1 bt457.2.2.2.2.2.2.1 bt457.2.2.2.2.2.2.2.1 bt457.2.2.2.2.2.2.2.2.1 bt457.2.2.2.2.2.2.2.2.2.1 bt457.2.2.2.2.2.2.2.2.2.2.1 bt457.2.2.2.2.2.2.2.2.2.2.2).bind fun bt485 => ((spec_Taken.f bt457.1 bt457.2.1 bt457.2.2.1 bt457.2.2.2.1 bt457.2.2.2.2.1 bt457.2.2.2.2.2.1 bt457.2.2.2.2.2.2.1 bt457.2.2.2.2.2.2.2.1 bt457.2.2.2.2.2.2.2.2.1 bt457.2.2.2.2.2.2.2.2.2.1 bt457.2.2.2.2.2.2.2.2.2.2.1 bt457.2.2.2.2.2.2.2.2.2.2.2).bind fun bt491 => (if (!(bt485.1 == bt491.1) || (!(bt485.2.1 == bt491.2.1) || ((!(bt485.2.2.1 == bt491.2.2.1) || (!(bt485.2.2.2.1 == bt491.2.2.2.1) || (!(bt485.2.2.2.2.1 == bt491.2.2.2.2.1) || (!(bt485.2.2.2.2.2 == bt491.2.2.2.2.2)))))))) = true then (laws_FnTry.j0 k bt446.2.2.2.2.2.2.1 bt446.2.2.2.2.2.2.2 t455 true bt446.1 bt446.2.1 bt446.2.2.1 bt446.2.2.2.1 bt446.2.2.2.2.1 bt446.2.2.2.2.2.1) else ((impl_MayPut.f bt471.1 bt471.2.1 bt471.2.2.1 bt471.2.2.2.1 bt471.2.2.2.2.1 bt471.2.2.2.2.2.1 bt471.2.2.2.2.2.2.1 bt471.2.2.2.2.2.2.2.1 bt471.2.2.2.2.2.2.2.2.1 bt471.2.2.2.2.2.2.2.2.2.1 bt471.2.2.2.2.2.2.2.2.2.2.1 bt471.2.2.2.2.2.2.2.2.2.2.2).bind fun t497 => ((spec_MayPut.f bt471.1 bt471.2.1 bt471.2.2.1 bt471.2.2.2.1 bt471.2.2.2.2.1 bt471.2.2.2.2.2.1 bt471.2.2.2.2.2.2.1 bt471.2.2.2.2.2.2.2.1 bt471.2.2.2.2.2.2.2.2.1 bt471.2.2.2.2.2.2.2.2.2.1 bt471.2.2.2.2.2.2.2.2.2.2.1 bt471.2.2.2.2.2.2.2.2.2.2.2).bind fun t498 => (laws_FnTry.j0 k bt446.2.2.2.2.2.2.1 bt446.2.2.2.2.2.2.2 t455 (t497 != t498) bt446.1 bt446.2.1 bt446.2.2.1 bt446.2.2.2.1 bt446.2.2.2.2.1 bt446.2.2.2.2.2.1)))))))) else (some false))))))
theorem laws_FnTry.mono_l : ∀ k, (∀ y0 y1 y2 y3 y4 y5 y6 y7 y8 y9, LeO (laws_FnTry.j0 k y0 y1 y2 y3 y4 y5 y6 y7 y8 y9) (laws_FnTry.j0 (k + 1) y0 y1 y2 y3 y4 y5 y6 y7 y8 y9)) ∧ (∀ y0 y1 y2 y3 y4 y5 y6 y7 y8 y9, LeO (laws_FnTry.j1 k y0 y1 y2 y3 y4 y5 y6 y7 y8 y9) (laws_FnTry.j1 (k + 1) y0 y1 y2 y3 y4 y5 y6 y7 y8 y9))
 | 0 => ⟨fun _ _ _ _ _ _ _ _ _ _ r h => by simp [laws_FnTry.j0] at h, fun _ _ _ _ _ _ _ _ _ _ r h => by simp [laws_FnTry.j1] at h⟩
 | k + 1 => by
  obtain ⟨ih0, ih1⟩ := laws_FnTry.mono_l k
  refine ⟨?_, ?_⟩
  ·intro y0 y1 y2 y3 y4 y5 y6 y7 y8 y9
   unfold laws_FnTry.j0
   repeat' first
   | (with_reducible exact ih0 _ _ _ _ _ _ _ _ _ _)
   | (with_reducible exact ih1 _ _ _ _ _ _ _ _ _ _)
   | (with_reducible exact impl_KeyWord.mono _ _ _ _ _ _)
   | (with_reducible exact impl_Try.mono _ _ _ _ _ _ _ _ _)
   | (with_reducible exact spec_DrawMayPut.mono _ _)
   | (with_reducible exact spec_DrawTaken.mono _ _)
   | (with_reducible exact spec_DrawTry.mono _ _)
   | (with_reducible exact spec_Try.mono _ _ _ _ _ _ _ _ _)
   | (with_reducible exact LeO.refl _)
   | (with_reducible exact LeO.none _)
   | (with_reducible refine LeO.ite ?_ ?_)
   | (with_reducible refine LeO.bind ?_ (fun _ => ?_))
   | exact ih0 _ _ _ _ _ _ _ _ _ _
   | exact ih1 _ _ _ _ _ _ _ _ _ _
   | exact impl_KeyWord.mono _ _ _ _ _ _
   | exact impl_Try.mono _ _ _ _ _ _ _ _ _
   | exact spec_DrawMayPut.mono _ _
   | exact spec_DrawTaken.mono _ _
   | exact spec_DrawTry.mono _ _
   | exact spec_Try.mono _ _ _ _ _ _ _ _ _
   | exact LeO.none _
   | refine LeO.ite ?_ ?_
   | refine LeO.bind ?_ (fun _ => ?_)
  ·intro y0 y1 y2 y3 y4 y5 y6 y7 y8 y9
   unfold laws_FnTry.j1
   repeat' first
   | (with_reducible exact ih0 _ _ _ _ _ _ _ _ _ _)
   | (with_reducible exact ih1 _ _ _ _ _ _ _ _ _ _)
   | (with_reducible exact impl_KeyWord.mono _ _ _ _ _ _)
   | (with_reducible exact impl_Try.mono _ _ _ _ _ _ _ _ _)
   | (with_reducible exact spec_DrawMayPut.mono _ _)
   | (with_reducible exact spec_DrawTaken.mono _ _)
   | (with_reducible exact spec_DrawTry.mono _ _)
   | (with_reducible exact spec_Try.mono _ _ _ _ _ _ _ _ _)
   | (with_reducible exact LeO.refl _)
   | (with_reducible exact LeO.none _)
   | (with_reducible refine LeO.ite ?_ ?_)
   | (with_reducible refine LeO.bind ?_ (fun _ => ?_))
   | exact ih0 _ _ _ _ _ _ _ _ _ _
   | exact ih1 _ _ _ _ _ _ _ _ _ _
   | exact impl_KeyWord.mono _ _ _ _ _ _
   | exact impl_Try.mono _ _ _ _ _ _ _ _ _
   | exact spec_DrawMayPut.mono _ _
   | exact spec_DrawTaken.mono _ _
   | exact spec_DrawTry.mono _ _
   | exact spec_Try.mono _ _ _ _ _ _ _ _ _
   | exact LeO.none _
   | refine LeO.ite ?_ ?_
   | refine LeO.bind ?_ (fun _ => ?_)
theorem laws_FnTry.mono : ∀ a0 k, LeO (laws_FnTry.f k a0) (laws_FnTry.f (k + 1) a0) := by
 intro a0 k
 obtain ⟨ih0, ih1⟩ := laws_FnTry.mono_l k
 unfold laws_FnTry.f
 repeat' first
   | (with_reducible exact ih0 _ _ _ _ _ _ _ _ _ _)
   | (with_reducible exact ih1 _ _ _ _ _ _ _ _ _ _)
   | (with_reducible exact impl_KeyWord.mono _ _ _ _ _ _)
   | (with_reducible exact impl_Try.mono _ _ _ _ _ _ _ _ _)
   | (with_reducible exact spec_DrawMayPut.mono _ _)
   | (with_reducible exact spec_DrawTaken.mono _ _)
   | (with_reducible exact spec_DrawTry.mono _ _)
   | (with_reducible exact spec_Try.mono _ _ _ _ _ _ _ _ _)
   | (with_reducible exact LeO.refl _)
   | (with_reducible exact LeO.none _)
   | (with_reducible refine LeO.ite ?_ ?_)
   | (with_reducible refine LeO.bind ?_ (fun _ => ?_))
   | exact ih0 _ _ _ _ _ _ _ _ _ _
   | exact ih1 _ _ _ _ _ _ _ _ _ _
   | exact impl_KeyWord.mono _ _ _ _ _ _
   | exact impl_Try.mono _ _ _ _ _ _ _ _ _
   | exact spec_DrawMayPut.mono _ _
   | exact spec_DrawTaken.mono _ _
   | exact spec_DrawTry.mono _ _
   | exact spec_Try.mono _ _ _ _ _ _ _ _ _
   | exact LeO.none _
   | refine LeO.ite ?_ ?_
   | refine LeO.bind ?_ (fun _ => ?_)
def laws_FnTry.T9 : Bool × List (List Nat × List Nat) := (true, [([], []), ([], []), ([0, 1], [0, 1]), ([], []), ([], []), ([3, 4, 2], [3, 4]), ([2, 5], [2, 5]), ([6, 5], [6]), ([7], [7]), ([7], [7]), ([8, 9, 7, 7], [7, 8, 9]), ([7], [7]), ([7], [7]), ([11, 12, 10, 7], [7, 11, 12]), ([10, 13, 7], [7, 10, 13]), ([7, 14], [7, 14])])
def laws_FnTry.B9 : List Nat := [0, 0, 3, 0, 0, 31, 63, 127, 255, 255, 1023, 255, 255, 8191, 16383, 32767]
theorem laws_FnTry.tab9 : rtab .any (opsOf Try.f6 9) = laws_FnTry.T9 := by kernel_rfl
theorem laws_FnTry.bits9 : waitsOk laws_FnTry.T9.2 laws_FnTry.B9 = true := by kernel_rfl
set_option maxHeartbeats 8000000 in
set_option maxRecDepth 100000 in
theorem laws_FnTry.calls (k : Nat) (A0 : Option Addr) (c0 : Nat) (l0 : List Int) (r : Bool) (w : World) (hr0 : Kd.C (Kd.int .u8) w A0 l0.length l0) (hc0 : l0.length ≤ c0) (h : laws_FnTry.f k l0 = some r) :
  Calls Try.prog 6 #[.slice A0 l0.length c0] w fun e w' => e = .returned (.bool r) ∧ Below w.heap.size w w' := by
 have hu27 := Try.underlying27
 have HR0 := Aside0.mk hr0
 have HC0 := Aside0.mk hc0
 clear hr0 hc0
 have HB := Aside0.mk (Below.refl w.heap.size w)
 have H : ((laws_big.f l0).bind fun t445 => (if t445 = true then (some true) else ((spec_DrawTry.f k l0).bind fun bt446 => ((impl_Try.f k bt446.1 bt446.2.1 bt446.2.2.1 bt446.2.2.2.1 bt446.2.2.2.2.1 bt446.2.2.2.2.2.1 bt446.2.2.2.2.2.2.1 bt446.2.2.2.2.2.2.2).bind fun t455 => ((spec_Try.f k bt446.1 bt446.2.1 bt446.2.2.1 bt446.2.2.2.1 bt446.2.2.2.2.1 bt446.2.2.2.2.2.1 bt446.2.2.2.2.2.2.1 bt446.2.2.2.2.2.2.2).bind fun t456 => (if t455 = t456 then ((spec_DrawTaken.f k l0).bind fun bt457 => ((spec_DrawMayPut.f k l0).bind fun bt471 => ((impl_Taken.f bt457.1 bt457.2.1 bt457.2.2.1 bt457.2.2.2.1 bt457.2.2.2.2.1 bt457.2.2.2.2.2.1 bt457.2.2.2.2.2.2.1 bt457.2.2.2.2.2.2.2.1 bt457.2.2.2.2.2.2.2.2.1 bt457.2.2.2.2.2.2.2.2.2.1 bt457.2.2.2.2.2.2.2.2.2.2.1 bt457.2.2.2.2.2.2.2.2.2.2.2).bind fun bt485 => ((spec_Taken.f bt457.1 bt457.2.1 bt457.2.2.1 bt457.2.2.2.1 bt457.2.2.2.2.1 bt457.2.2.2.2.2.1 bt457.2.2.2.2.2.2.1 bt457.2.2.2.2.2.2.2.1 bt457.2.2.2.2.2.2.2.2.1 bt457.2.2.2.2.2.2.2.2.2.1 bt457.2.2.2.2.2.2.2.2.2.2.1 bt457.2.2.2.2.2.2.2.2.2.2.2).bind fun bt491 => (if (!(bt485.1 == bt491.1) || (!(bt485.2.1 == bt491.2.1) || ((!(bt485.2.2.1 == bt491.2.2.1) || (!(bt485.2.2.2.1 == bt491.2.2.2.1) || (!(bt485.2.2.2.2.1 == bt491.2.2.2.2.1) || (!(bt485.2.2.2.2.2 == bt491.2.2.2.2.2)))))))) = true then (laws_FnTry.j0 k bt446.2.2.2.2.2.2.1 bt446.2.2.2.2.2.2.2 t455 true bt446.1 bt446.2.1 bt446.2.2.1 bt446.2.2.2.1 bt446.2.2.2.2.1 bt446.2.2.2.2.2.1) else ((impl_MayPut.f bt471.1 bt471.2.1 bt471.2.2.1 bt471.2.2.2.1 bt471.2.2.2.2.1 bt471.2.2.2.2.2.1 bt471.2.2.2.2.2.2.1 bt471.2.2.2.2.2.2.2.1 bt471.2.2.2.2.2.2.2.2.1 bt471.2.2.2.2.2.2.2.2.2.1 bt471.2.2.2.2.2.2.2.2.2.2.1 bt471.2.2.2.2.2.2.2.2.2.2.2).bind fun t497 => ((spec_MayPut.f bt471.1 bt471.2.1 bt471.2.2.1 bt471.2.2.2.1 bt471.2.2.2.2.1 bt471.2.2.2.2.2.1 bt471.2.2.2.2.2.2.1 bt471.2.2.2.2.2.2.2.1 bt471.2.2.2.2.2.2.2.2.1 bt471.2.2.2.2.2.2.2.2.2.1 bt471.2.2.2.2.2.2.2.2.2.2.1 bt471.2.2.2.2.2.2.2.2.2.2.2).bind fun t498 => (laws_FnTry.j0 k bt446.2.2.2.2.2.2.1 bt446.2.2.2.2.2.2.2 t455 (t497 != t498) bt446.1 bt446.2.1 bt446.2.2.1 bt446.2.2.2.1 bt446.2.2.2.2.1 bt446.2.2.2.2.2.1)))))))) else (some false))))))) = some r := h
 clear h
 replace H := Option.bind_eq_some_iff.mp H
 obtain ⟨t445, A20, H⟩ := H
 replace H : (if t445 = true then (some true) else ((spec_DrawTry.f k l0).bind fun bt446 => ((impl_Try.f k bt446.1 bt446.2.1 bt446.2.2.1 bt446.2.2.2.1 bt446.2.2.2.2.1 bt446.2.2.2.2.2.1 bt446.2.2.2.2.2.2.1 bt446.2.2.2.2.2.2.2).bind fun t455 => ((spec_Try.f k bt446.1 bt446.2.1 bt446.2.2.1 bt446.2.2.2.1 bt446.2.2.2.2.1 bt446.2.2.2.2.2.1 bt446.2.2.2.2.2.2.1 bt446.2.2.2.2.2.2.2).bind fun t456 => (if t455 = t456 then ((spec_DrawTaken.f k l0).bind fun bt457 => ((spec_DrawMayPut.f k l0).bind fun bt471 => ((impl_Taken.f bt457.1 bt457.2.1 bt457.2.2.1 bt457.2.2.2.1 bt457.2.2.2.2.1 bt457.2.2.2.2.2.1 bt457.2.2.2.2.2.2.1 bt457.2.2.2.2.2.2.2.1 bt457.2.2.2.2.2.2.2.2.1 bt457.2.2.2.2.2.2.2.2.2.1 bt457.2.2.2.2.2.2.2.2.2.2.1 bt457.2.2.2.2.2.2.2.2.2.2.2).bind fun bt485 => ((spec_Taken.f bt457.1 bt457.2.1 bt457.2.2.1 bt457.2.2.2.1 bt457.2.2.2.2.1 bt457.2.2.2.2.2.1 bt457.2.2.2.2.2.2.1 bt457.2.2.2.2.2.2.2.1 bt457.2.2.2.2.2.2.2.2.1 bt457.2.2.2.2.2.2.2.2.2.1 bt457.2.2.2.2.2.2.2.2.2.2.1 bt457.2.2.2.2.2.2.2.2.2.2.2).bind fun bt491 => (if (!(bt485.1 == bt491.1) || (!(bt485.2.1 == bt491.2.1) || ((!(bt485.2.2.1 == bt491.2.2.1) || (!(bt485.2.2.2.1 == bt491.2.2.2.1) || (!(bt485.2.2.2.2.1 == bt491.2.2.2.2.1) || (!(bt485.2.2.2.2.2 == bt491.2.2.2.2.2)))))))) = true then (laws_FnTry.j0 k bt446.2.2.2.2.2.2.1 bt446.2.2.2.2.2.2.2 t455 true bt446.1 bt446.2.1 bt446.2.2.1 bt446.2.2.2.1 bt446.2.2.2.2.1 bt446.2.2.2.2.2.1) else ((impl_MayPut.f bt471.1 bt471.2.1 bt471.2.2.1 bt471.2.2.2.1 bt471.2.2.2.2.1 bt471.2.2.2.2.2.1 bt471.2.2.2.2.2.2.1 bt471.2.2.2.2.2.2.2.1 bt471.2.2.2.2.2.2.2.2.1 bt471.2.2.2.2.2.2.2.2.2.1 bt471.2.2.2.2.2.2.2.2.2.2.1 bt471.2.2.2.2.2.2.2.2.2.2.2).bind fun t497 => ((spec_MayPut.f bt471.1 bt471.2.1 bt471.2.2.1 bt471.2.2.2.1 bt471.2.2.2.2.1 bt471.2.2.2.2.2.1 bt471.2.2.2.2.2.2.1 bt471.2.2.2.2.2.2.2.1 bt471.2.2.2.2.2.2.2.2.1 bt471.2.2.2.2.2.2.2.2.2.1 bt471.2.2.2.2.2.2.2.2.2.2.1 bt471.2.2.2.2.2.2.2.2.2.2.2).bind fun t498 => (laws_FnTry.j0 k bt446.2.2.2.2.2.2.1 bt446.2.2.2.2.2.2.2 t455 (t497 != t498) bt446.1 bt446.2.1 bt446.2.2.1 bt446.2.2.2.1 bt446.2.2.2.2.1 bt446.2.2.2.2.2.1)))))))) else (some false)))))) = some r := H
 have A2 := Aside0.mk A20
 clear A20
 by_cases c3 : t445 = true
 ·subst c3
  have H1 : (some true) = some r := by rw [if_pos rfl] at H; exact H
  clear H
  have H := H1
  clear H1
  obtain rfl := Option.some.inj H
  go_enter Try.func6, Try.ntmps6
  go_wp2_with (first | ((with_reducible refine gate_callee (f := 9) rfl ?_); refine goesM (some 13) rfl rfl Try.func9 (by kernel_rfl) rfl #[.slice A0 l0.length c0] rfl ?_; (with_reducible refine (laws_big.calls _ _ l0 true _ ?side1 ?side2 A2.out).mono ?_); (case side1 => repeat (first | exact HR0.out | (with_reducible refine Kd.C_alloc ?_ _) | (with_reducible refine Kd.C_drewN ?_ _) | (with_reducible refine Kd.C_drew ?_))); (case side2 => exact HC0.out); rintro e w' ⟨rfl, ⟨nd, rfl⟩⟩; refine ⟨_, rfl, ?_⟩))
  go_ret
  exact ⟨by first | rfl | (simp [errW_none, errW_some] <;> rfl) | (simp [*, errW_none, errW_some] <;> rfl), by repeat (first | (with_reducible first | exact HB.out | apply below_alloc | apply pw_below_drewN | apply below_drew1) | exact HB.out)⟩
 ·replace c3 := Bool.eq_false_iff.mpr c3
  subst c3
  have H1 : ((spec_DrawTry.f k l0).bind fun bt446 => ((impl_Try.f k bt446.1 bt446.2.1 bt446.2.2.1 bt446.2.2.2.1 bt446.2.2.2.2.1 bt446.2.2.2.2.2.1 bt446.2.2.2.2.2.2.1 bt446.2.2.2.2.2.2.2).bind fun t455 => ((spec_Try.f k bt446.1 bt446.2.1 bt446.2.2.1 bt446.2.2.2.1 bt446.2.2.2.2.1 bt446.2.2.2.2.2.1 bt446.2.2.2.2.2.2.1 bt446.2.2.2.2.2.2.2).bind fun t456 => (if t455 = t456 then ((spec_DrawTaken.f k l0).bind fun bt457 => ((spec_DrawMayPut.f k l0).bind fun bt471 => ((impl_Taken.f bt457.1 bt457.2.1 bt457.2.2.1 bt457.2.2.2.1 bt457.2.2.2.2.1 bt457.2.2.2.2.2.1 bt457.2.2.2.2.2.2.1 bt457.2.2.2.2.2.2.2.1 bt457.2.2.2.2.2.2.2.2.1 bt457.2.2.2.2.2.2.2.2.2.1 bt457.2.2.2.2.2.2.2.2.2.2.1 bt457.2.2.2.2.2.2.2.2.2.2.2).bind fun bt485 => ((spec_Taken.f bt457.1 bt457.2.1 bt457.2.2.1 bt457.2.2.2.1 bt457.2.2.2.2.1 bt457.2.2.2.2.2.1 bt457.2.2.2.2.2.2.1 bt457.2.2.2.2.2.2.2.1 bt457.2.2.2.2.2.2.2.2.1 bt457.2.2.2.2.2.2.2.2.2.1 bt457.2.2.2.2.2.2.2.2.2.2.1 bt457.2.2.2.2.2.2.2.2.2.2.2).bind fun bt491 => (if (!(bt485.1 == bt491.1) || (!(bt485.2.1 == bt491.2.1) || ((!(bt485.2.2.1 == bt491.2.2.1) || (!(bt485.2.2.2.1 == bt491.2.2.2.1) || (!(bt485.2.2.2.2.1 == bt491.2.2.2.2.1) || (!(bt485.2.2.2.2.2 == bt491.2.2.2.2.2)))))))) = true then (laws_FnTry.j0 k bt446.2.2.2.2.2.2.1 bt446.2.2.2.2.2.2.2 t455 true bt446.1 bt446.2.1 bt446.2.2.1 bt446.2.2.2.1 bt446.2.2.2.2.1 bt446.2.2.2.2.2.1) else ((impl_MayPut.f bt471.1 bt471.2.1 bt471.2.2.1 bt471.2.2.2.1 bt471.2.2.2.2.1 bt471.2.2.2.2.2.1 bt471.2.2.2.2.2.2.1 bt471.2.2.2.2.2.2.2.1 bt471.2.2.2.2.2.2.2.2.1 bt471.2.2.2.2.2.2.2.2.2.1 bt471.2.2.2.2.2.2.2.2.2.2.1 bt471.2.2.2.2.2.2.2.2.2.2.2).bind fun t497 => ((spec_MayPut.f bt471.1 bt471.2.1 bt471.2.2.1 bt471.2.2.2.1 bt471.2.2.2.2.1 bt471.2.2.2.2.2.1 bt471.2.2.2.2.2.2.1 bt471.2.2.2.2.2.2.2.1 bt471.2.2.2.2.2.2.2.2.1 bt471.2.2.2.2.2.2.2.2.2.1 bt471.2.2.2.2.2.2.2.2.2.2.1 bt471.2.2.2.2.2.2.2.2.2.2.2).bind fun t498 => (laws_FnTry.j0 k bt446.2.2.2.2.2.2.1 bt446.2.2.2.2.2.2.2 t455 (t497 != t498) bt446.1 bt446.2.1 bt446.2.2.1 bt446.2.2.2.1 bt446.2.2.2.2.1 bt446.2.2.2.2.2.1)))))))) else (some false))))) = some r := by rw [if_neg (show ¬ (false = true) by decide)] at H; exact H
  clear H
  have H := H1
  clear H1
  replace H := Option.bind_eq_some_iff.mp H
  obtain ⟨⟨t446, t447, t448, t449, t450, t451, t452, t453⟩, A40, H⟩ := H
  replace H : ((impl_Try.f k t446 t447 t448 t449 t450 t451 t452 t453).bind fun t455 => ((spec_Try.f k t446 t447 t448 t449 t450 t451 t452 t453).bind fun t456 => (if t455 = t456 then ((spec_DrawTaken.f k l0).bind fun bt457 => ((spec_DrawMayPut.f k l0).bind fun bt471 => ((impl_Taken.f bt457.1 bt457.2.1 bt457.2.2.1 bt457.2.2.2.1 bt457.2.2.2.2.1 bt457.2.2.2.2.2.1 bt457.2.2.2.2.2.2.1 bt457.2.2.2.2.2.2.2.1 bt457.2.2.2.2.2.2.2.2.1 bt457.2.2.2.2.2.2.2.2.2.1 bt457.2.2.2.2.2.2.2.2.2.2.1 bt457.2.2.2.2.2.2.2.2.2.2.2).bind fun bt485 => ((spec_Taken.f bt457.1 bt457.2.1 bt457.2.2.1 bt457.2.2.2.1 bt457.2.2.2.2.1 bt457.2.2.2.2.2.1 bt457.2.2.2.2.2.2.1 bt457.2.2.2.2.2.2.2.1 bt457.2.2.2.2.2.2.2.2.1 bt457.2.2.2.2.2.2.2.2.2.1 bt457.2.2.2.2.2.2.2.2.2.2.1 bt457.2.2.2.2.2.2.2.2.2.2.2).bind fun bt491 => (if (!(bt485.1 == bt491.1) || (!(bt485.2.1 == bt491.2.1) || ((!(bt485.2.2.1 == bt491.2.2.1) || (!(bt485.2.2.2.1 == bt491.2.2.2.1) || (!(bt485.2.2.2.2.1 == bt491.2.2.2.2.1) || (!(bt485.2.2.2.2.2 == bt491.2.2.2.2.2)))))))) = true then (laws_FnTry.j0 k t452 t453 t455 true t446 t447 t448 t449 t450 t451) else ((impl_MayPut.f bt471.1 bt471.2.1 bt471.2.2.1 bt471.2.2.2.1 bt471.2.2.2.2.1 bt471.2.2.2.2.2.1 bt471.2.2.2.2.2.2.1 bt471.2.2.2.2.2.2.2.1 bt471.2.2.2.2.2.2.2.2.1 bt471.2.2.2.2.2.2.2.2.2.1 bt471.2.2.2.2.2.2.2.2.2.2.1 bt471.2.2.2.2.2.2.2.2.2.2.2).bind fun t497 => ((spec_MayPut.f bt471.1 bt471.2.1 bt471.2.2.1 bt471.2.2.2.1 bt471.2.2.2.2.1 bt471.2.2.2.2.2.1 bt471.2.2.2.2.2.2.1 bt471.2.2.2.2.2.2.2.1 bt471.2.2.2.2.2.2.2.2.1 bt471.2.2.2.2.2.2.2.2.2.1 bt471.2.2.2.2.2.2.2.2.2.2.1 bt471.2.2.2.2.2.2.2.2.2.2.2).bind fun t498 => (laws_FnTry.j0 k t452 t453 t455 (t497 != t498) t446 t447 t448 t449 t450 t451)))))))) else (some false)))) = some r := H
  have A4 := Aside0.mk A40
  clear A40
  replace H := Option.bind_eq_some_iff.mp H
  obtain ⟨t455, A50, H⟩ := H
  replace H : ((spec_Try.f k t446 t447 t448 t449 t450 t451 t452 t453).bind fun t456 => (if t455 = t456 then ((spec_DrawTaken.f k l0).bind fun bt457 => ((spec_DrawMayPut.f k l0).bind fun bt471 => ((impl_Taken.f bt457.1 bt457.2.1 bt457.2.2.1 bt457.2.2.2.1 bt457.2.2.2.2.1 bt457.2.2.2.2.2.1 bt457.2.2.2.2.2.2.1 bt457.2.2.2.2.2.2.2.1 bt457.2.2.2.2.2.2.2.2.1 bt457.2.2.2.2.2.2.2.2.2.1 bt457.2.2.2.2.2.2.2.2.2.2.1 bt457.2.2.2.2.2.2.2.2.2.2.2).bind fun bt485 => ((spec_Taken.f bt457.1 bt457.2.1 bt457.2.2.1 bt457.2.2.2.1 bt457.2.2.2.2.1 bt457.2.2.2.2.2.1 bt457.2.2.2.2.2.2.1 bt457.2.2.2.2.2.2.2.1 bt457.2.2.2.2.2.2.2.2.1 bt457.2.2.2.2.2.2.2.2.2.1 bt457.2.2.2.2.2.2.2.2.2.2.1 bt457.2.2.2.2.2.2.2.2.2.2.2).bind fun bt491 => (if (!(bt485.1 == bt491.1) || (!(bt485.2.1 == bt491.2.1) || ((!(bt485.2.2.1 == bt491.2.2.1) || (!(bt485.2.2.2.1 == bt491.2.2.2.1) || (!(bt485.2.2.2.2.1 == bt491.2.2.2.2.1) || (!(bt485.2.2.2.2.2 == bt491.2.2.2.2.2)))))))) = true then (laws_FnTry.j0 k t452 t453 t455 true t446 t447 t448 t449 t450 t451) else ((impl_MayPut.f bt471.1 bt471.2.1 bt471.2.2.1 bt471.2.2.2.1 bt471.2.2.2.2.1 bt471.2.2.2.2.2.1 bt471.2.2.2.2.2.2.1 bt471.2.2.2.2.2.2.2.1 bt471.2.2.2.2.2.2.2.2.1 bt471.2.2.2.2.2.2.2.2.2.1 bt471.2.2.2.2.2.2.2.2.2.2.1 bt471.2.2.2.2.2.2.2.2.2.2.2).bind fun t497 => ((spec_MayPut.f bt471.1 bt471.2.1 bt471.2.2.1 bt471.2.2.2.1 bt471.2.2.2.2.1 bt471.2.2.2.2.2.1 bt471.2.2.2.2.2.2.1 bt471.2.2.2.2.2.2.2.1 bt471.2.2.2.2.2.2.2.2.1 bt471.2.2.2.2.2.2.2.2.2.1 bt471.2.2.2.2.2.2.2.2.2.2.1 bt471.2.2.2.2.2.2.2.2.2.2.2).bind fun t498 => (laws_FnTry.j0 k t452 t453 t455 (t497 != t498) t446 t447 t448 t449 t450 t451)))))))) else (some false))) = some r := H
  have A5 := Aside0.mk A50
  clear A50
  replace H := Option.bind_eq_some_iff.mp H
  obtain ⟨t456, A60, H⟩ := H
  replace H : (if t455 = t456 then ((spec_DrawTaken.f k l0).bind fun bt457 => ((spec_DrawMayPut.f k l0).bind fun bt471 => ((impl_Taken.f bt457.1 bt457.2.1 bt457.2.2.1 bt457.2.2.2.1 bt457.2.2.2.2.1 bt457.2.2.2.2.2.1 bt457.2.2.2.2.2.2.1 bt457.2.2.2.2.2.2.2.1 bt457.2.2.2.2.2.2.2.2.1 bt457.2.2.2.2.2.2.2.2.2.1 bt457.2.2.2.2.2.2.2.2.2.2.1 bt457.2.2.2.2.2.2.2.2.2.2.2).bind fun bt485 => ((spec_Taken.f bt457.1 bt457.2.1 bt457.2.2.1 bt457.2.2.2.1 bt457.2.2.2.2.1 bt457.2.2.2.2.2.1 bt457.2.2.2.2.2.2.1 bt457.2.2.2.2.2.2.2.1 bt457.2.2.2.2.2.2.2.2.1 bt457.2.2.2.2.2.2.2.2.2.1 bt457.2.2.2.2.2.2.2.2.2.2.1 bt457.2.2.2.2.2.2.2.2.2.2.2).bind fun bt491 => (if (!(bt485.1 == bt491.1) || (!(bt485.2.1 == bt491.2.1) || ((!(bt485.2.2.1 == bt491.2.2.1) || (!(bt485.2.2.2.1 == bt491.2.2.2.1) || (!(bt485.2.2.2.2.1 == bt491.2.2.2.2.1) || (!(bt485.2.2.2.2.2 == bt491.2.2.2.2.2)))))))) = true then (laws_FnTry.j0 k t452 t453 t455 true t446 t447 t448 t449 t450 t451) else ((impl_MayPut.f bt471.1 bt471.2.1 bt471.2.2.1 bt471.2.2.2.1 bt471.2.2.2.2.1 bt471.2.2.2.2.2.1 bt471.2.2.2.2.2.2.1 bt471.2.2.2.2.2.2.2.1 bt471.2.2.2.2.2.2.2.2.1 bt471.2.2.2.2.2.2.2.2.2.1 bt471.2.2.2.2.2.2.2.2.2.2.1 bt471.2.2.2.2.2.2.2.2.2.2.2).bind fun t497 => ((spec_MayPut.f bt471.1 bt471.2.1 bt471.2.2.1 bt471.2.2.2.1 bt471.2.2.2.2.1 bt471.2.2.2.2.2.1 bt471.2.2.2.2.2.2.1 bt471.2.2.2.2.2.2.2.1 bt471.2.2.2.2.2.2.2.2.1 bt471.2.2.2.2.2.2.2.2.2.1 bt471.2.2.2.2.2.2.2.2.2.2.1 bt471.2.2.2.2.2.2.2.2.2.2.2).bind fun t498 => (laws_FnTry.j0 k t452 t453 t455 (t497 != t498) t446 t447 t448 t449 t450 t451)))))))) else (some false)) = some r := H
  have A6 := Aside0.mk A60
  clear A60
  by_cases c7 : t455 = t456
  ·rw [if_pos c7] at H
   have c7b0 : (t455 == t456) = true := beq_iff_eq.mpr c7
   have c7b1 : (t455 != t456) = false := bne_eq_false_iff_eq.mpr c7
   clear c7
   replace H := Option.bind_eq_some_iff.mp H
   obtain ⟨⟨t457, t458, t459, t460, t461, t462, t463, t464, t465, t466, t467, t468⟩, A80, H⟩ := H
   replace H : ((spec_DrawMayPut.f k l0).bind fun bt471 => ((impl_Taken.f t457 t458 t459 t460 t461 t462 t463 t464 t465 t466 t467 t468).bind fun bt485 => ((spec_Taken.f t457 t458 t459 t460 t461 t462 t463 t464 t465 t466 t467 t468).bind fun bt491 => (if (!(bt485.1 == bt491.1) || (!(bt485.2.1 == bt491.2.1) || ((!(bt485.2.2.1 == bt491.2.2.1) || (!(bt485.2.2.2.1 == bt491.2.2.2.1) || (!(bt485.2.2.2.2.1 == bt491.2.2.2.2.1) || (!(bt485.2.2.2.2.2 == bt491.2.2.2.2.2)))))))) = true then (laws_FnTry.j0 k t452 t453 t455 true t446 t447 t448 t449 t450 t451) else ((impl_MayPut.f bt471.1 bt471.2.1 bt471.2.2.1 bt471.2.2.2.1 bt471.2.2.2.2.1 bt471.2.2.2.2.2.1 bt471.2.2.2.2.2.2.1 bt471.2.2.2.2.2.2.2.1 bt471.2.2.2.2.2.2.2.2.1 bt471.2.2.2.2.2.2.2.2.2.1 bt471.2.2.2.2.2.2.2.2.2.2.1 bt471.2.2.2.2.2.2.2.2.2.2.2).bind fun t497 => ((spec_MayPut.f bt471.1 bt471.2.1 bt471.2.2.1 bt471.2.2.2.1 bt471.2.2.2.2.1 bt471.2.2.2.2.2.1 bt471.2.2.2.2.2.2.1 bt471.2.2.2.2.2.2.2.1 bt471.2.2.2.2.2.2.2.2.1 bt471.2.2.2.2.2.2.2.2.2.1 bt471.2.2.2.2.2.2.2.2.2.2.1 bt471.2.2.2.2.2.2.2.2.2.2.2).bind fun t498 => (laws_FnTry.j0 k t452 t453 t455 (t497 != t498) t446 t447 t448 t449 t450 t451))))))) = some r := H
   have A8 := Aside0.mk A80
   clear A80
   replace H := Option.bind_eq_some_iff.mp H
   obtain ⟨⟨t471, t472, t473, t474, t475, t476, t477, t478, t479, t480, t481, t482⟩, A90, H⟩ := H
   replace H : ((impl_Taken.f t457 t458 t459 t460 t461 t462 t463 t464 t465 t466 t467 t468).bind fun bt485 => ((spec_Taken.f t457 t458 t459 t460 t461 t462 t463 t464 t465 t466 t467 t468).bind fun bt491 => (if (!(bt485.1 == bt491.1) || (!(bt485.2.1 == bt491.2.1) || ((!(bt485.2.2.1 == bt491.2.2.1) || (!(bt485.2.2.2.1 == bt491.2.2.2.1) || (!(bt485.2.2.2.2.1 == bt491.2.2.2.2.1) || (!(bt485.2.2.2.2.2 == bt491.2.2.2.2.2)))))))) = true then (laws_FnTry.j0 k t452 t453 t455 true t446 t447 t448 t449 t450 t451) else ((impl_MayPut.f t471 t472 t473 t474 t475 t476 t477 t478 t479 t480 t481 t482).bind fun t497 => ((spec_MayPut.f t471 t472 t473 t474 t475 t476 t477 t478 t479 t480 t481 t482).bind fun t498 => (laws_FnTry.j0 k t452 t453 t455 (t497 != t498) t446 t447 t448 t449 t450 t451)))))) = some r := H
   have A9 := Aside0.mk A90
   clear A90
   have HC10 := Aside0.mk H
   clear H
   go_enter Try.func6, Try.ntmps6
   go_upto_region 9 with (first | ((with_reducible refine gate_callee (f := 9) rfl ?_); refine goesM (some 13) rfl rfl Try.func9 (by kernel_rfl) rfl #[.slice A0 l0.length c0] rfl ?_; (with_reducible refine (laws_big.calls _ _ l0 false _ ?side1 ?side2 A2.out).mono ?_); (case side1 => repeat (first | exact HR0.out | (with_reducible refine Kd.C_alloc ?_ _) | (with_reducible refine Kd.C_drewN ?_ _) | (with_reducible refine Kd.C_drew ?_))); (case side2 => exact HC0.out); rintro e w' ⟨rfl, ⟨nd, rfl⟩⟩; refine ⟨_, rfl, ?_⟩) | ((with_reducible refine gate_callee (f := 50) rfl ?_); refine goesM (some 16) rfl rfl Try.func50 (by kernel_rfl) rfl #[.slice A0 l0.length c0] rfl ?_; (with_reducible refine (spec_DrawTry.calls k _ _ l0 t446 t447 t448 t449 t450 t451 t452 t453 _ ?side1 ?side2 A4.out).mono ?_); (case side1 => repeat (first | exact HR0.out | (with_reducible refine Kd.C_alloc ?_ _) | (with_reducible refine Kd.C_drewN ?_ _) | (with_reducible refine Kd.C_drew ?_))); (case side2 => exact HC0.out); rintro e w11 ⟨rfl, hb⟩; refine ⟨_, rfl, ?_⟩; have n0_ := nbs HB hb; clear HB; have HB := n0_; clear n0_; (try clear hb)) | ((with_reducible refine gate_dst (N := 3) rfl ?_); refine box_event ?hg (N := 3) ?hd (cs := #[.int .i64 0, .bool false, .int .i64 0, .int .i64 0, .int .i64 0, .int .i64 0]) (t := 27) ?hr ?_; (case hd => rfl); (case hg => rfl); (case hr => first | (go_simp; done) | (go_simp; rfl)); intro gb454 hg w12 hbox hb; have n0_ := nbs HB hb; have n1_ := Aside0.mk (hbox); have n2_ := nge HB hg; have n3_ := nge HB hg; clear HB; have HB := n0_; have BK454 := n1_; have GW454 := n2_; have GE454 := n3_; clear n0_ n1_ n2_ n3_; clear hb hbox hg; have hcz13_0 : w12.cell? ⟨gb454, 0, none⟩ = some (.int .i64 0) := (blk_cell BK454.out 0).trans rfl; have hcz13_1 : w12.cell? ⟨gb454, 1, none⟩ = some (.bool false) := (blk_cell BK454.out 1).trans rfl; have hcz13_2 : w12.cell? ⟨gb454, 2, none⟩ = some (.int .i64 0) := (blk_cell BK454.out 2).trans rfl; have hcz13_3 : w12.cell? ⟨gb454, 3, none⟩ = some (.int .i64 0) := (blk_cell BK454.out 3).trans rfl; have hcz13_4 : w12.cell? ⟨gb454, 4, none⟩ = some (.int .i64 0) := (blk_cell BK454.out 4).trans rfl; have hcz13_5 : w12.cell? ⟨gb454, 5, none⟩ = some (.int .i64 0) := (blk_cell BK454.out 5).trans rfl; have hfz13_0 := blk_frozen BK454.out 0; have hfz13_1 := blk_frozen BK454.out 1; have hfz13_2 := blk_frozen BK454.out 2; have hfz13_3 := blk_frozen BK454.out 3; have hfz13_4 := blk_frozen BK454.out 4; have hfz13_5 := blk_frozen BK454.out 5) | ((with_reducible refine gate_callee (f := 51) rfl ?_); refine goesM (some 23) rfl rfl Try.func51 (by kernel_rfl) rfl #[.agg #[.int .i64 t446, .bool t447, .int .i64 t448, .int .i64 t449, .int .i64 t450, .int .i64 t451], .int .i64 t452, .int .i64 t453] rfl ?_; (with_reducible refine (impl_Try.calls k t446 t447 t448 t449 t450 t451 t452 t453 t455 _ A5.out).mono ?_); rintro e w14 ⟨rfl, hb⟩; refine ⟨_, rfl, ?_⟩; have n0_ := Aside0.mk (blk_below (g := gb454) (o := .cells #[.int .i64 t446, .bool t447, .int .i64 t448, .int .i64 t449, .int .i64 t450, .int .i64 t451] 27 (0, 0)) (by (with_reducible repeat (first | refine blk_drewN ?_ _ | refine blk_drew ?_ | refine blk_alloc ?_ _)); refine blk_put (cs := #[.int .i64 t446, .bool t447, .int .i64 t448, .int .i64 t449, .int .i64 t450, .int .i64 0]) ?_ 5 _ rfl; (with_reducible repeat (first | refine blk_drewN ?_ _ | refine blk_drew ?_ | refine blk_alloc ?_ _)); refine blk_put (cs := #[.int .i64 t446, .bool t447, .int .i64 t448, .int .i64 t449, .int .i64 0, .int .i64 0]) ?_ 4 _ rfl; (with_reducible repeat (first | refine blk_drewN ?_ _ | refine blk_drew ?_ | refine blk_alloc ?_ _)); refine blk_put (cs := #[.int .i64 t446, .bool t447, .int .i64 t448, .int .i64 0, .int .i64 0, .int .i64 0]) ?_ 3 _ rfl; (with_reducible repeat (first | refine blk_drewN ?_ _ | refine blk_drew ?_ | refine blk_alloc ?_ _)); refine blk_put (cs := #[.int .i64 t446, .bool t447, .int .i64 0, .int .i64 0, .int .i64 0, .int .i64 0]) ?_ 2 _ rfl; (with_reducible repeat (first | refine blk_drewN ?_ _ | refine blk_drew ?_ | refine blk_alloc ?_ _)); refine blk_put (cs := #[.int .i64 t446, .bool false, .int .i64 0, .int .i64 0, .int .i64 0, .int .i64 0]) ?_ 1 _ rfl; (with_reducible repeat (first | refine blk_drewN ?_ _ | refine blk_drew ?_ | refine blk_alloc ?_ _)); refine blk_put (cs := #[.int .i64 0, .bool false, .int .i64 0, .int .i64 0, .int .i64 0, .int .i64 0]) ?_ 0 _ rfl; (with_reducible repeat (first | refine blk_drewN ?_ _ | refine blk_drew ?_ | refine blk_alloc ?_ _)); exact BK454.out) hb); have n1_ := nbs HB hb; clear BK454 HB; have BK454 := n0_; have HB := n1_; clear n0_ n1_; (try clear hb); have hcz15_0 : w14.cell? ⟨gb454, 0, none⟩ = some (.int .i64 t446) := (blk_cell BK454.out 0).trans rfl; have hcz15_1 : w14.cell? ⟨gb454, 1, none⟩ = some (.bool t447) := (blk_cell BK454.out 1).trans rfl; have hcz15_2 : w14.cell? ⟨gb454, 2, none⟩ = some (.int .i64 t448) := (blk_cell BK454.out 2).trans rfl; have hcz15_3 : w14.cell? ⟨gb454, 3, none⟩ = some (.int .i64 t449) := (blk_cell BK454.out 3).trans rfl; have hcz15_4 : w14.cell? ⟨gb454, 4, none⟩ = some (.int .i64 t450) := (blk_cell BK454.out 4).trans rfl; have hcz15_5 : w14.cell? ⟨gb454, 5, none⟩ = some (.int .i64 t451) := (blk_cell BK454.out 5).trans rfl; have hfz15_0 := blk_frozen BK454.out 0; have hfz15_1 := blk_frozen BK454.out 1; have hfz15_2 := blk_frozen BK454.out 2; have hfz15_3 := blk_frozen BK454.out 3; have hfz15_4 := blk_frozen BK454.out 4; have hfz15_5 := blk_frozen BK454.out 5) | ((with_reducible refine gate_callee (f := 52) rfl ?_); refine goesM (some 28) rfl rfl Try.func52 (by kernel_rfl) rfl #[.agg #[.int .i64 t446, .bool t447, .int .i64 t448, .int .i64 t449, .int .i64 t450, .int .i64 t451], .int .i64 t452, .int .i64 t453] rfl ?_; (with_reducible refine (spec_Try.calls k t446 t447 t448 t449 t450 t451 t452 t453 t456 _ A6.out).mono ?_); rintro e w16 ⟨rfl, hb⟩; refine ⟨_, rfl, ?_⟩; have n0_ := nblk BK454 hb; have n1_ := nbs HB hb; clear BK454 HB; have BK454 := n0_; have HB := n1_; clear n0_ n1_; (try clear hb)) | ((with_reducible refine gate_callee (f := 53) rfl ?_); refine goesM (some 32) rfl rfl Try.func53 (by kernel_rfl) rfl #[.slice A0 l0.length c0] rfl ?_; (with_reducible refine (spec_DrawTaken.calls k _ _ l0 t457 t458 t459 t460 t461 t462 t463 t464 t465 t466 t467 t468 _ ?side1 ?side2 A8.out).mono ?_); (case side1 => repeat (first | exact (Kd.C_below HR0.out HB.out) | (with_reducible refine Kd.C_alloc ?_ _) | (with_reducible refine Kd.C_drewN ?_ _) | (with_reducible refine Kd.C_drew ?_))); (case side2 => exact HC0.out); rintro e w17 ⟨rfl, hb⟩; refine ⟨_, rfl, ?_⟩; have n0_ := nblk BK454 hb; have n1_ := nbs HB hb; clear BK454 HB; have BK454 := n0_; have HB := n1_; clear n0_ n1_; (try clear hb)) | ((with_reducible refine gate_dst (N := 7) rfl ?_); refine box_event ?hg (N := 7) ?hd (cs := #[.int .i64 0, .bool false, .int .i64 0, .int .i64 0, .int .i64 0, .int .i64 0]) (t := 27) ?hr ?_; (case hd => rfl); (case hg => rfl); (case hr => first | (go_simp; done) | (go_simp; rfl)); intro gb469 hg w18 hbox hb; have n0_ := nblk BK454 hb; have n1_ := nbs HB hb; have n2_ := Aside0.mk (hbox); have n3_ := nge HB hg; have n4_ := nge HB hg; have n5_ := nlt BK454 hg; have n6_ := ngt BK454 hg; clear BK454 HB; have BK454 := n0_; have HB := n1_; have BK469 := n2_; have GW469 := n3_; have GE469 := n4_; have NB454_469 := n5_; have NB469_454 := n6_; clear n0_ n1_ n2_ n3_ n4_ n5_ n6_; clear hb hbox hg) | ((with_reducible refine gate_dst (N := 8) rfl ?_); refine box_event ?hg (N := 8) ?hd (cs := #[.int .i64 0, .bool false, .int .i64 0, .int .i64 0, .int .i64 0, .int .i64 0]) (t := 27) ?hr ?_; (case hd => rfl); (case hg => rfl); (case hr => first | (go_simp; done) | (go_simp; rfl)); intro gb470 hg w19 hbox hb; have n0_ := nblk BK454 hb; have n1_ := nblk BK469 hb; have n2_ := nbs HB hb; have n3_ := Aside0.mk (hbox); have n4_ := nge HB hg; have n5_ := nge HB hg; have n6_ := nlt BK454 hg; have n7_ := ngt BK454 hg; have n8_ := nlt BK469 hg; have n9_ := ngt BK469 hg; clear BK454 BK469 HB; have BK454 := n0_; have BK469 := n1_; have HB := n2_; have BK470 := n3_; have GW470 := n4_; have GE470 := n5_; have NB454_470 := n6_; have NB470_454 := n7_; have NB469_470 := n8_; have NB470_469 := n9_; clear n0_ n1_ n2_ n3_ n4_ n5_ n6_ n7_ n8_ n9_; clear hb hbox hg; have hnb20 := NB469_454.out; have hnc20 := NB454_469.out; have hnb21 := NB469_470.out; have hnc21 := NB470_469.out; have hcz22_0 : w19.cell? ⟨gb469, 0, none⟩ = some (.int .i64 0) := (blk_cell BK469.out 0).trans rfl; have hcz22_1 : w19.cell? ⟨gb469, 1, none⟩ = some (.bool false) := (blk_cell BK469.out 1).trans rfl; have hcz22_2 : w19.cell? ⟨gb469, 2, none⟩ = some (.int .i64 0) := (blk_cell BK469.out 2).trans rfl; have hcz22_3 : w19.cell? ⟨gb469, 3, none⟩ = some (.int .i64 0) := (blk_cell BK469.out 3).trans rfl; have hcz22_4 : w19.cell? ⟨gb469, 4, none⟩ = some (.int .i64 0) := (blk_cell BK469.out 4).trans rfl; have hcz22_5 : w19.cell? ⟨gb469, 5, none⟩ = some (.int .i64 0) := (blk_cell BK469.out 5).trans rfl; have hfz22_0 := blk_frozen BK469.out 0; have hfz22_1 := blk_frozen BK469.out 1; have hfz22_2 := blk_frozen BK469.out 2; have hfz22_3 := blk_frozen BK469.out 3; have hfz22_4 := blk_frozen BK469.out 4; have hfz22_5 := blk_frozen BK469.out 5; have hnb23 := NB470_454.out; have hnc23 := NB454_470.out; have hcz24_0 : w19.cell? ⟨gb470, 0, none⟩ = some (.int .i64 0) := (blk_cell BK470.out 0).trans rfl; have hcz24_1 : w19.cell? ⟨gb470, 1, none⟩ = some (.bool false) := (blk_cell BK470.out 1).trans rfl; have hcz24_2 : w19.cell? ⟨gb470, 2, none⟩ = some (.int .i64 0) := (blk_cell BK470.out 2).trans rfl; have hcz24_3 : w19.cell? ⟨gb470, 3, none⟩ = some (.int .i64 0) := (blk_cell BK470.out 3).trans rfl; have hcz24_4 : w19.cell? ⟨gb470, 4, none⟩ = some (.int .i64 0) := (blk_cell BK470.out 4).trans rfl; have hcz24_5 : w19.cell? ⟨gb470, 5, none⟩ = some (.int .i64 0) := (blk_cell BK470.out 5).trans rfl; have hfz24_0 := blk_frozen BK470.out 0; have hfz24_1 := blk_frozen BK470.out 1; have hfz24_2 := blk_frozen BK470.out 2; have hfz24_3 := blk_frozen BK470.out 3; have hfz24_4 := blk_frozen BK470.out 4; have hfz24_5 := blk_frozen BK470.out 5) | ((with_reducible refine gate_callee (f := 54) rfl ?_); refine goesM (some 37) rfl rfl Try.func54 (by kernel_rfl) rfl #[.slice A0 l0.length c0] rfl ?_; (with_reducible refine (spec_DrawMayPut.calls k _ _ l0 t471 t472 t473 t474 t475 t476 t477 t478 t479 t480 t481 t482 _ ?side1 ?side2 A9.out).mono ?_); (case side1 => exact Kd.C_below HR0.out (by repeat (first | (with_reducible first | exact HB.out | apply below_alloc | apply pw_below_drewN | apply below_drew1 | refine below_set ?_ GE454.out | refine below_set ?_ GE469.out | refine below_set ?_ GE470.out) | exact HB.out))); (case side2 => exact HC0.out); rintro e w25 ⟨rfl, hb⟩; refine ⟨_, rfl, ?_⟩; have n0_ := nblk BK454 hb; have n1_ := Aside0.mk (blk_below (g := gb469) (o := .cells #[.int .i64 t457, .bool t458, .int .i64 t459, .int .i64 t460, .int .i64 t461, .int .i64 t462] 27 (0, 0)) (by (with_reducible repeat (first | refine blk_drewN ?_ _ | refine blk_drew ?_ | refine blk_alloc ?_ _)); refine blk_far ?_ NB469_470.out _; (with_reducible repeat (first | refine blk_drewN ?_ _ | refine blk_drew ?_ | refine blk_alloc ?_ _)); refine blk_far ?_ NB469_470.out _; (with_reducible repeat (first | refine blk_drewN ?_ _ | refine blk_drew ?_ | refine blk_alloc ?_ _)); refine blk_far ?_ NB469_470.out _; (with_reducible repeat (first | refine blk_drewN ?_ _ | refine blk_drew ?_ | refine blk_alloc ?_ _)); refine blk_far ?_ NB469_470.out _; (with_reducible repeat (first | refine blk_drewN ?_ _ | refine blk_drew ?_ | refine blk_alloc ?_ _)); refine blk_far ?_ NB469_470.out _; (with_reducible repeat (first | refine blk_drewN ?_ _ | refine blk_drew ?_ | refine blk_alloc ?_ _)); refine blk_far ?_ NB469_470.out _; (with_reducible repeat (first | refine blk_drewN ?_ _ | refine blk_drew ?_ | refine blk_alloc ?_ _)); refine blk_put (cs := #[.int .i64 t457, .bool t458, .int .i64 t459, .int .i64 t460, .int .i64 t461, .int .i64 0]) ?_ 5 _ rfl; (with_reducible repeat (first | refine blk_drewN ?_ _ | refine blk_drew ?_ | refine blk_alloc ?_ _)); refine blk_put (cs := #[.int .i64 t457, .bool t458, .int .i64 t459, .int .i64 t460, .int .i64 0, .int .i64 0]) ?_ 4 _ rfl; (with_reducible repeat (first | refine blk_drewN ?_ _ | refine blk_drew ?_ | refine blk_alloc ?_ _)); refine blk_put (cs := #[.int .i64 t457, .bool t458, .int .i64 t459, .int .i64 0, .int .i64 0, .int .i64 0]) ?_ 3 _ rfl; (with_reducible repeat (first | refine blk_drewN ?_ _ | refine blk_drew ?_ | refine blk_alloc ?_ _)); refine blk_put (cs := #[.int .i64 t457, .bool t458, .int .i64 0, .int .i64 0, .int .i64 0, .int .i64 0]) ?_ 2 _ rfl; (with_reducible repeat (first | refine blk_drewN ?_ _ | refine blk_drew ?_ | refine blk_alloc ?_ _)); refine blk_put (cs := #[.int .i64 t457, .bool false, .int .i64 0, .int .i64 0, .int .i64 0, .int .i64 0]) ?_ 1 _ rfl; (with_reducible repeat (first | refine blk_drewN ?_ _ | refine blk_drew ?_ | refine blk_alloc ?_ _)); refine blk_put (cs := #[.int .i64 0, .bool false, .int .i64 0, .int .i64 0, .int .i64 0, .int .i64 0]) ?_ 0 _ rfl; (with_reducible repeat (first | refine blk_drewN ?_ _ | refine blk_drew ?_ | refine blk_alloc ?_ _)); exact BK469.out) hb); have n2_ := Aside0.mk (blk_below (g := gb470) (o := .cells #[.int .i64 t463, .bool t464, .int .i64 t465, .int .i64 t466, .int .i64 t467, .int .i64 t468] 27 (0, 0)) (by (with_reducible repeat (first | refine blk_drewN ?_ _ | refine blk_drew ?_ | refine blk_alloc ?_ _)); refine blk_put (cs := #[.int .i64 t463, .bool t464, .int .i64 t465, .int .i64 t466, .int .i64 t467, .int .i64 0]) ?_ 5 _ rfl; (with_reducible repeat (first | refine blk_drewN ?_ _ | refine blk_drew ?_ | refine blk_alloc ?_ _)); refine blk_put (cs := #[.int .i64 t463, .bool t464, .int .i64 t465, .int .i64 t466, .int .i64 0, .int .i64 0]) ?_ 4 _ rfl; (with_reducible repeat (first | refine blk_drewN ?_ _ | refine blk_drew ?_ | refine blk_alloc ?_ _)); refine blk_put (cs := #[.int .i64 t463, .bool t464, .int .i64 t465, .int .i64 0, .int .i64 0, .int .i64 0]) ?_ 3 _ rfl; (with_reducible repeat (first | refine blk_drewN ?_ _ | refine blk_drew ?_ | refine blk_alloc ?_ _)); refine blk_put (cs := #[.int .i64 t463, .bool t464, .int .i64 0, .int .i64 0, .int .i64 0, .int .i64 0]) ?_ 2 _ rfl; (with_reducible repeat (first | refine blk_drewN ?_ _ | refine blk_drew ?_ | refine blk_alloc ?_ _)); refine blk_put (cs := #[.int .i64 t463, .bool false, .int .i64 0, .int .i64 0, .int .i64 0, .int .i64 0]) ?_ 1 _ rfl; (with_reducible repeat (first | refine blk_drewN ?_ _ | refine blk_drew ?_ | refine blk_alloc ?_ _)); refine blk_put (cs := #[.int .i64 0, .bool false, .int .i64 0, .int .i64 0, .int .i64 0, .int .i64 0]) ?_ 0 _ rfl; (with_reducible repeat (first | refine blk_drewN ?_ _ | refine blk_drew ?_ | refine blk_alloc ?_ _)); refine blk_far ?_ NB470_469.out _; (with_reducible repeat (first | refine blk_drewN ?_ _ | refine blk_drew ?_ | refine blk_alloc ?_ _)); refine blk_far ?_ NB470_469.out _; (with_reducible repeat (first | refine blk_drewN ?_ _ | refine blk_drew ?_ | refine blk_alloc ?_ _)); refine blk_far ?_ NB470_469.out _; (with_reducible repeat (first | refine blk_drewN ?_ _ | refine blk_drew ?_ | refine blk_alloc ?_ _)); refine blk_far ?_ NB470_469.out _; (with_reducible repeat (first | refine blk_drewN ?_ _ | refine blk_drew ?_ | refine blk_alloc ?_ _)); refine blk_far ?_ NB470_469.out _; (with_reducible repeat (first | refine blk_drewN ?_ _ | refine blk_drew ?_ | refine blk_alloc ?_ _)); refine blk_far ?_ NB470_469.out _; (with_reducible repeat (first | refine blk_drewN ?_ _ | refine blk_drew ?_ | refine blk_alloc ?_ _)); exact BK470.out) hb); have n3_ := nbs HB hb; clear BK454 BK469 BK470 HB; have BK454 := n0_; have BK469 := n1_; have BK470 := n2_; have HB := n3_; clear n0_ n1_ n2_ n3_; (try clear hb)) | ((with_reducible refine gate_dst (N := 9) rfl ?_); refine box_event ?hg (N := 9) ?hd (cs := #[.int .i64 0, .bool false, .int .i64 0, .int .i64 0, .int .i64 0, .int .i64 0]) (t := 27) ?hr ?_; (case hd => rfl); (case hg => rfl); (case hr => first | (go_simp; done) | (go_simp; rfl)); intro gb483 hg w26 hbox hb; have n0_ := nblk BK454 hb; have n1_ := nblk BK469 hb; have n2_ := nblk BK470 hb; have n3_ := nbs HB hb; have n4_ := Aside0.mk (hbox); have n5_ := nge HB hg; have n6_ := nge HB hg; have n7_ := nlt BK454 hg; have n8_ := ngt BK454 hg; have n9_ := nlt BK469 hg; have n10_ := ngt BK469 hg; have n11_ := nlt BK470 hg; have n12_ := ngt BK470 hg; clear BK454 BK469 BK470 HB; have BK454 := n0_; have BK469 := n1_; have BK470 := n2_; have HB := n3_; have BK483 := n4_; have GW483 := n5_; have GE483 := n6_; have NB454_483 := n7_; have NB483_454 := n8_; have NB469_483 := n9_; have NB483_469 := n10_; have NB470_483 := n11_; have NB483_470 := n12_; clear n0_ n1_ n2_ n3_ n4_ n5_ n6_ n7_ n8_ n9_ n10_ n11_ n12_; clear hb hbox hg) | ((with_reducible refine gate_dst (N := 10) rfl ?_); refine box_event ?hg (N := 10) ?hd (cs := #[.int .i64 0, .bool false, .int .i64 0, .int .i64 0, .int .i64 0, .int .i64 0]) (t := 27) ?hr ?_; (case hd => rfl); (case hg => rfl); (case hr => first | (go_simp; done) | (go_simp; rfl)); intro gb484 hg w27 hbox hb; have n0_ := nblk BK454 hb; have n1_ := nblk BK469 hb; have n2_ := nblk BK470 hb; have n3_ := nblk BK483 hb; have n4_ := nbs HB hb; have n5_ := Aside0.mk (hbox); have n6_ := nge HB hg; have n7_ := nge HB hg; have n8_ := nlt BK454 hg; have n9_ := ngt BK454 hg; have n10_ := nlt BK469 hg; have n11_ := ngt BK469 hg; have n12_ := nlt BK470 hg; have n13_ := ngt BK470 hg; have n14_ := nlt BK483 hg; have n15_ := ngt BK483 hg; clear BK454 BK469 BK470 BK483 HB; have BK454 := n0_; have BK469 := n1_; have BK470 := n2_; have BK483 := n3_; have HB := n4_; have BK484 := n5_; have GW484 := n6_; have GE484 := n7_; have NB454_484 := n8_; have NB484_454 := n9_; have NB469_484 := n10_; have NB484_469 := n11_; have NB470_484 := n12_; have NB484_470 := n13_; have NB483_484 := n14_; have NB484_483 := n15_; clear n0_ n1_ n2_ n3_ n4_ n5_ n6_ n7_ n8_ n9_ n10_ n11_ n12_ n13_ n14_ n15_; clear hb hbox hg; have hnb28 := NB483_454.out; have hnc28 := NB454_483.out; have hnb29 := NB483_469.out; have hnc29 := NB469_483.out; have hnb30 := NB483_470.out; have hnc30 := NB470_483.out; have hnb31 := NB483_484.out; have hnc31 := NB484_483.out; have hcz32_0 : w27.cell? ⟨gb483, 0, none⟩ = some (.int .i64 0) := (blk_cell BK483.out 0).trans rfl; have hcz32_1 : w27.cell? ⟨gb483, 1, none⟩ = some (.bool false) := (blk_cell BK483.out 1).trans rfl; have hcz32_2 : w27.cell? ⟨gb483, 2, none⟩ = some (.int .i64 0) := (blk_cell BK483.out 2).trans rfl; have hcz32_3 : w27.cell? ⟨gb483, 3, none⟩ = some (.int .i64 0) := (blk_cell BK483.out 3).trans rfl; have hcz32_4 : w27.cell? ⟨gb483, 4, none⟩ = some (.int .i64 0) := (blk_cell BK483.out 4).trans rfl; have hcz32_5 : w27.cell? ⟨gb483, 5, none⟩ = some (.int .i64 0) := (blk_cell BK483.out 5).trans rfl; have hfz32_0 := blk_frozen BK483.out 0; have hfz32_1 := blk_frozen BK483.out 1; have hfz32_2 := blk_frozen BK483.out 2; have hfz32_3 := blk_frozen BK483.out 3; have hfz32_4 := blk_frozen BK483.out 4; have hfz32_5 := blk_frozen BK483.out 5; have hnb33 := NB484_454.out; have hnc33 := NB454_484.out; have hnb34 := NB484_469.out; have hnc34 := NB469_484.out; have hnb35 := NB484_470.out; have hnc35 := NB470_484.out; have hcz36_0 : w27.cell? ⟨gb484, 0, none⟩ = some (.int .i64 0) := (blk_cell BK484.out 0).trans rfl; have hcz36_1 : w27.cell? ⟨gb484, 1, none⟩ = some (.bool false) := (blk_cell BK484.out 1).trans rfl; have hcz36_2 : w27.cell? ⟨gb484, 2, none⟩ = some (.int .i64 0) := (blk_cell BK484.out 2).trans rfl; have hcz36_3 : w27.cell? ⟨gb484, 3, none⟩ = some (.int .i64 0) := (blk_cell BK484.out 3).trans rfl; have hcz36_4 : w27.cell? ⟨gb484, 4, none⟩ = some (.int .i64 0) := (blk_cell BK484.out 4).trans rfl; have hcz36_5 : w27.cell? ⟨gb484, 5, none⟩ = some (.int .i64 0) := (blk_cell BK484.out 5).trans rfl; have hfz36_0 := blk_frozen BK484.out 0; have hfz36_1 := blk_frozen BK484.out 1; have hfz36_2 := blk_frozen BK484.out 2; have hfz36_3 := blk_frozen BK484.out 3; have hfz36_4 := blk_frozen BK484.out 4; have hfz36_5 := blk_frozen BK484.out 5))
   (try simp only [Act.put, List.setIfInBounds_toArray, List.set_cons_zero, List.set_cons_succ])
   go_cut [55] (fun v55 wc => ∃ (kq : Nat) (x55_9 : Bool), v55 = .bool x55_9 ∧ Aside0 (laws_FnTry.j0 kq t452 t453 t455 x55_9 t446 t447 t448 t449 t450 t451 = some r) ∧ Aside0 (kq ≤ k) ∧ Aside0 (wc.heap[gb454]? = some (.cells #[.int .i64 t446, .bool t447, .int .i64 t448, .int .i64 t449, .int .i64 t450, .int .i64 t451] 27 (0, 0))) ∧ Aside0 (wc.heap[gb469]? = some (.cells #[.int .i64 t457, .bool t458, .int .i64 t459, .int .i64 t460, .int .i64 t461, .int .i64 t462] 27 (0, 0))) ∧ Aside0 (wc.heap[gb470]? = some (.cells #[.int .i64 t463, .bool t464, .int .i64 t465, .int .i64 t466, .int .i64 t467, .int .i64 t468] 27 (0, 0))) ∧ Aside0 (wc.heap[gb483]? = some (.cells #[.int .i64 t471, .bool t472, .int .i64 t473, .int .i64 t474, .int .i64 t475, .int .i64 t476] 27 (0, 0))) ∧ Aside0 (wc.heap[gb484]? = some (.cells #[.int .i64 t477, .bool t478, .int .i64 t479, .int .i64 t480, .int .i64 t481, .int .i64 t482] 27 (0, 0))) ∧ Aside0 (Below w.heap.size w wc))
   case first =>
    have H := HC10.out
    clear HC10
    replace H := Option.bind_eq_some_iff.mp H
    obtain ⟨⟨t485, t486, t487, t488, t489, t490⟩, A370, H⟩ := H
    replace H : ((spec_Taken.f t457 t458 t459 t460 t461 t462 t463 t464 t465 t466 t467 t468).bind fun bt491 => (if (!(t485 == bt491.1) || (!(t486 == bt491.2.1) || ((!(t487 == bt491.2.2.1) || (!(t488 == bt491.2.2.2.1) || (!(t489 == bt491.2.2.2.2.1) || (!(t490 == bt491.2.2.2.2.2)))))))) = true then (laws_FnTry.j0 k t452 t453 t455 true t446 t447 t448 t449 t450 t451) else ((impl_MayPut.f t471 t472 t473 t474 t475 t476 t477 t478 t479 t480 t481 t482).bind fun t497 => ((spec_MayPut.f t471 t472 t473 t474 t475 t476 t477 t478 t479 t480 t481 t482).bind fun t498 => (laws_FnTry.j0 k t452 t453 t455 (t497 != t498) t446 t447 t448 t449 t450 t451))))) = some r := H
    have A37 := Aside0.mk A370
    clear A370
    replace H := Option.bind_eq_some_iff.mp H
    obtain ⟨⟨t491, t492, t493, t494, t495, t496⟩, A380, H⟩ := H
    replace H : (if (!(t485 == t491) || (!(t486 == t492) || ((!(t487 == t493) || (!(t488 == t494) || (!(t489 == t495) || (!(t490 == t496)))))))) = true then (laws_FnTry.j0 k t452 t453 t455 true t446 t447 t448 t449 t450 t451) else ((impl_MayPut.f t471 t472 t473 t474 t475 t476 t477 t478 t479 t480 t481 t482).bind fun t497 => ((spec_MayPut.f t471 t472 t473 t474 t475 t476 t477 t478 t479 t480 t481 t482).bind fun t498 => (laws_FnTry.j0 k t452 t453 t455 (t497 != t498) t446 t447 t448 t449 t450 t451)))) = some r := H
    have A38 := Aside0.mk A380
    clear A380
    by_cases c39 : (!(t485 == t491) || (!(t486 == t492) || ((!(t487 == t493) || (!(t488 == t494) || (!(t489 == t495) || (!(t490 == t496)))))))) = true
    ·rw [if_pos c39] at H
     have c39b0 : (!(t485 == t491) || (!(t486 == t492) || ((!(t487 == t493) || (!(t488 == t494) || (!(t489 == t495) || (!(t490 == t496)))))))) = true := c39
     clear c39
     (first | rw [c39b0] | (simp only [i64_w, i32_w]; rw [c39b0]) | skip)
     have H' := Aside0.mk H
     clear H
     try go_wp2
     have n0_ : Aside0 (((((((((((((w27.setCell ⟨gb483, 0, none⟩ (.int .i64 t471)).setCell ⟨gb483, 1, none⟩ (.bool t472)).setCell ⟨gb483, 2, none⟩ (.int .i64 t473)).setCell ⟨gb483, 3, none⟩ (.int .i64 t474)).setCell ⟨gb483, 4, none⟩ (.int .i64 t475)).setCell ⟨gb483, 5, none⟩ (.int .i64 t476)).setCell ⟨gb484, 0, none⟩ (.int .i64 t477)).setCell ⟨gb484, 1, none⟩ (.bool t478)).setCell ⟨gb484, 2, none⟩ (.int .i64 t479)).setCell ⟨gb484, 3, none⟩ (.int .i64 t480)).setCell ⟨gb484, 4, none⟩ (.int .i64 t481)).setCell ⟨gb484, 5, none⟩ (.int .i64 t482)).heap[gb454]? = some (.cells #[.int .i64 t446, .bool t447, .int .i64 t448, .int .i64 t449, .int .i64 t450, .int .i64 t451] 27 (0, 0))) := ⟨by (with_reducible repeat (first | refine blk_drewN ?_ _ | refine blk_drew ?_ | refine blk_alloc ?_ _)); refine blk_far ?_ NB454_484.out _; (with_reducible repeat (first | refine blk_drewN ?_ _ | refine blk_drew ?_ | refine blk_alloc ?_ _)); refine blk_far ?_ NB454_484.out _; (with_reducible repeat (first | refine blk_drewN ?_ _ | refine blk_drew ?_ | refine blk_alloc ?_ _)); refine blk_far ?_ NB454_484.out _; (with_reducible repeat (first | refine blk_drewN ?_ _ | refine blk_drew ?_ | refine blk_alloc ?_ _)); refine blk_far ?_ NB454_484.out _; (with_reducible repeat (first | refine blk_drewN ?_ _ | refine blk_drew ?_ | refine blk_alloc ?_ _)); refine blk_far ?_ NB454_484.out _; (with_reducible repeat (first | refine blk_drewN ?_ _ | refine blk_drew ?_ | refine blk_alloc ?_ _)); refine blk_far ?_ NB454_484.out _; (with_reducible repeat (first | refine blk_drewN ?_ _ | refine blk_drew ?_ | refine blk_alloc ?_ _)); refine blk_far ?_ NB454_483.out _; (with_reducible repeat (first | refine blk_drewN ?_ _ | refine blk_drew ?_ | refine blk_alloc ?_ _)); refine blk_far ?_ NB454_483.out _; (with_reducible repeat (first | refine blk_drewN ?_ _ | refine blk_drew ?_ | refine blk_alloc ?_ _)); refine blk_far ?_ NB454_483.out _; (with_reducible repeat (first | refine blk_drewN ?_ _ | refine blk_drew ?_ | refine blk_alloc ?_ _)); refine blk_far ?_ NB454_483.out _; (with_reducible repeat (first | refine blk_drewN ?_ _ | refine blk_drew ?_ | refine blk_alloc ?_ _)); refine blk_far ?_ NB454_483.out _; (with_reducible repeat (first | refine blk_drewN ?_ _ | refine blk_drew ?_ | refine blk_alloc ?_ _)); refine blk_far ?_ NB454_483.out _; (with_reducible repeat (first | refine blk_drewN ?_ _ | refine blk_drew ?_ | refine blk_alloc ?_ _)); exact BK454.out⟩
     have n1_ : Aside0 (((((((((((((w27.setCell ⟨gb483, 0, none⟩ (.int .i64 t471)).setCell ⟨gb483, 1, none⟩ (.bool t472)).setCell ⟨gb483, 2, none⟩ (.int .i64 t473)).setCell ⟨gb483, 3, none⟩ (.int .i64 t474)).setCell ⟨gb483, 4, none⟩ (.int .i64 t475)).setCell ⟨gb483, 5, none⟩ (.int .i64 t476)).setCell ⟨gb484, 0, none⟩ (.int .i64 t477)).setCell ⟨gb484, 1, none⟩ (.bool t478)).setCell ⟨gb484, 2, none⟩ (.int .i64 t479)).setCell ⟨gb484, 3, none⟩ (.int .i64 t480)).setCell ⟨gb484, 4, none⟩ (.int .i64 t481)).setCell ⟨gb484, 5, none⟩ (.int .i64 t482)).heap[gb469]? = some (.cells #[.int .i64 t457, .bool t458, .int .i64 t459, .int .i64 t460, .int .i64 t461, .int .i64 t462] 27 (0, 0))) := ⟨by (with_reducible repeat (first | refine blk_drewN ?_ _ | refine blk_drew ?_ | refine blk_alloc ?_ _)); refine blk_far ?_ NB469_484.out _; (with_reducible repeat (first | refine blk_drewN ?_ _ | refine blk_drew ?_ | refine blk_alloc ?_ _)); refine blk_far ?_ NB469_484.out _; (with_reducible repeat (first | refine blk_drewN ?_ _ | refine blk_drew ?_ | refine blk_alloc ?_ _)); refine blk_far ?_ NB469_484.out _; (with_reducible repeat (first | refine blk_drewN ?_ _ | refine blk_drew ?_ | refine blk_alloc ?_ _)); refine blk_far ?_ NB469_484.out _; (with_reducible repeat (first | refine blk_drewN ?_ _ | refine blk_drew ?_ | refine blk_alloc ?_ _)); refine blk_far ?_ NB469_484.out _; (with_reducible repeat (first | refine blk_drewN ?_ _ | refine blk_drew ?_ | refine blk_alloc ?_ _)); refine blk_far ?_ NB469_484.out _; (with_reducible repeat (first | refine blk_drewN ?_ _ | refine blk_drew ?_ | refine blk_alloc ?_ _)); refine blk_far ?_ NB469_483.out _; (with_reducible repeat (first | refine blk_drewN ?_ _ | refine blk_drew ?_ | refine blk_alloc ?_ _)); refine blk_far ?_ NB469_483.out _; (with_reducible repeat (first | refine blk_drewN ?_ _ | refine blk_drew ?_ | refine blk_alloc ?_ _)); refine blk_far ?_ NB469_483.out _; (with_reducible repeat (first | refine blk_drewN ?_ _ | refine blk_drew ?_ | refine blk_alloc ?_ _)); refine blk_far ?_ NB469_483.out _; (with_reducible repeat (first | refine blk_drewN ?_ _ | refine blk_drew ?_ | refine blk_alloc ?_ _)); refine blk_far ?_ NB469_483.out _; (with_reducible repeat (first | refine blk_drewN ?_ _ | refine blk_drew ?_ | refine blk_alloc ?_ _)); refine blk_far ?_ NB469_483.out _; (with_reducible repeat (first | refine blk_drewN ?_ _ | refine blk_drew ?_ | refine blk_alloc ?_ _)); exact BK469.out⟩
     have n2_ : Aside0 (((((((((((((w27.setCell ⟨gb483, 0, none⟩ (.int .i64 t471)).setCell ⟨gb483, 1, none⟩ (.bool t472)).setCell ⟨gb483, 2, none⟩ (.int .i64 t473)).setCell ⟨gb483, 3, none⟩ (.int .i64 t474)).setCell ⟨gb483, 4, none⟩ (.int .i64 t475)).setCell ⟨gb483, 5, none⟩ (.int .i64 t476)).setCell ⟨gb484, 0, none⟩ (.int .i64 t477)).setCell ⟨gb484, 1, none⟩ (.bool t478)).setCell ⟨gb484, 2, none⟩ (.int .i64 t479)).setCell ⟨gb484, 3, none⟩ (.int .i64 t480)).setCell ⟨gb484, 4, none⟩ (.int .i64 t481)).setCell ⟨gb484, 5, none⟩ (.int .i64 t482)).heap[gb470]? = some (.cells #[.int .i64 t463, .bool t464, .int .i64 t465, .int .i64 t466, .int .i64 t467, .int .i64 t468] 27 (0, 0))) := ⟨by (with_reducible repeat (first | refine blk_drewN ?_ _ | refine blk_drew ?_ | refine blk_alloc ?_ _)); refine blk_far ?_ NB470_484.out _; (with_reducible repeat (first | refine blk_drewN ?_ _ | refine blk_drew ?_ | refine blk_alloc ?_ _)); refine blk_far ?_ NB470_484.out _; (with_reducible repeat (first | refine blk_drewN ?_ _ | refine blk_drew ?_ | refine blk_alloc ?_ _)); refine blk_far ?_ NB470_484.out _; (with_reducible repeat (first | refine blk_drewN ?_ _ | refine blk_drew ?_ | refine blk_alloc ?_ _)); refine blk_far ?_ NB470_484.out _; (with_reducible repeat (first | refine blk_drewN ?_ _ | refine blk_drew ?_ | refine blk_alloc ?_ _)); refine blk_far ?_ NB470_484.out _; (with_reducible repeat (first | refine blk_drewN ?_ _ | refine blk_drew ?_ | refine blk_alloc ?_ _)); refine blk_far ?_ NB470_484.out _; (with_reducible repeat (first | refine blk_drewN ?_ _ | refine blk_drew ?_ | refine blk_alloc ?_ _)); refine blk_far ?_ NB470_483.out _; (with_reducible repeat (first | refine blk_drewN ?_ _ | refine blk_drew ?_ | refine blk_alloc ?_ _)); refine blk_far ?_ NB470_483.out _; (with_reducible repeat (first | refine blk_drewN ?_ _ | refine blk_drew ?_ | refine blk_alloc ?_ _)); refine blk_far ?_ NB470_483.out _; (with_reducible repeat (first | refine blk_drewN ?_ _ | refine blk_drew ?_ | refine blk_alloc ?_ _)); refine blk_far ?_ NB470_483.out _; (with_reducible repeat (first | refine blk_drewN ?_ _ | refine blk_drew ?_ | refine blk_alloc ?_ _)); refine blk_far ?_ NB470_483.out _; (with_reducible repeat (first | refine blk_drewN ?_ _ | refine blk_drew ?_ | refine blk_alloc ?_ _)); refine blk_far ?_ NB470_483.out _; (with_reducible repeat (first | refine blk_drewN ?_ _ | refine blk_drew ?_ | refine blk_alloc ?_ _)); exact BK470.out⟩
     have n3_ : Aside0 (((((((((((((w27.setCell ⟨gb483, 0, none⟩ (.int .i64 t471)).setCell ⟨gb483, 1, none⟩ (.bool t472)).setCell ⟨gb483, 2, none⟩ (.int .i64 t473)).setCell ⟨gb483, 3, none⟩ (.int .i64 t474)).setCell ⟨gb483, 4, none⟩ (.int .i64 t475)).setCell ⟨gb483, 5, none⟩ (.int .i64 t476)).setCell ⟨gb484, 0, none⟩ (.int .i64 t477)).setCell ⟨gb484, 1, none⟩ (.bool t478)).setCell ⟨gb484, 2, none⟩ (.int .i64 t479)).setCell ⟨gb484, 3, none⟩ (.int .i64 t480)).setCell ⟨gb484, 4, none⟩ (.int .i64 t481)).setCell ⟨gb484, 5, none⟩ (.int .i64 t482)).heap[gb483]? = some (.cells #[.int .i64 t471, .bool t472, .int .i64 t473, .int .i64 t474, .int .i64 t475, .int .i64 t476] 27 (0, 0))) := ⟨by (with_reducible repeat (first | refine blk_drewN ?_ _ | refine blk_drew ?_ | refine blk_alloc ?_ _)); refine blk_far ?_ NB483_484.out _; (with_reducible repeat (first | refine blk_drewN ?_ _ | refine blk_drew ?_ | refine blk_alloc ?_ _)); refine blk_far ?_ NB483_484.out _; (with_reducible repeat (first | refine blk_drewN ?_ _ | refine blk_drew ?_ | refine blk_alloc ?_ _)); refine blk_far ?_ NB483_484.out _; (with_reducible repeat (first | refine blk_drewN ?_ _ | refine blk_drew ?_ | refine blk_alloc ?_ _)); refine blk_far ?_ NB483_484.out _; (with_reducible repeat (first | refine blk_drewN ?_ _ | refine blk_drew ?_ | refine blk_alloc ?_ _)); refine blk_far ?_ NB483_484.out _; (with_reducible repeat (first | refine blk_drewN ?_ _ | refine blk_drew ?_ | refine blk_alloc ?_ _)); refine blk_far ?_ NB483_484.out _; (with_reducible repeat (first | refine blk_drewN ?_ _ | refine blk_drew ?_ | refine blk_alloc ?_ _)); refine blk_put (cs := #[.int .i64 t471, .bool t472, .int .i64 t473, .int .i64 t474, .int .i64 t475, .int .i64 0]) ?_ 5 _ rfl; (with_reducible repeat (first | refine blk_drewN ?_ _ | refine blk_drew ?_ | refine blk_alloc ?_ _)); refine blk_put (cs := #[.int .i64 t471, .bool t472, .int .i64 t473, .int .i64 t474, .int .i64 0, .int .i64 0]) ?_ 4 _ rfl; (with_reducible repeat (first | refine blk_drewN ?_ _ | refine blk_drew ?_ | refine blk_alloc ?_ _)); refine blk_put (cs := #[.int .i64 t471, .bool t472, .int .i64 t473, .int .i64 0, .int .i64 0, .int .i64 0]) ?_ 3 _ rfl; (with_reducible repeat (first | refine blk_drewN ?_ _ | refine blk_drew ?_ | refine blk_alloc ?_ _)); refine blk_put (cs := #[.int .i64 t471, .bool t472, .int .i64 0, .int .i64 0, .int .i64 0, .int .i64 0]) ?_ 2 _ rfl; (with_reducible repeat (first | refine blk_drewN ?_ _ | refine blk_drew ?_ | refine blk_alloc ?_ _)); refine blk_put (cs := #[.int .i64 t471, .bool false, .int .i64 0, .int .i64 0, .int .i64 0, .int .i64 0]) ?_ 1 _ rfl; (with_reducible repeat (first | refine blk_drewN ?_ _ | refine blk_drew ?_ | refine blk_alloc ?_ _)); refine blk_put (cs := #[.int .i64 0, .bool false, .int .i64 0, .int .i64 0, .int .i64 0, .int .i64 0]) ?_ 0 _ rfl; (with_reducible repeat (first | refine blk_drewN ?_ _ | refine blk_drew ?_ | refine blk_alloc ?_ _)); exact BK483.out⟩
     have n4_ : Aside0 (((((((((((((w27.setCell ⟨gb483, 0, none⟩ (.int .i64 t471)).setCell ⟨gb483, 1, none⟩ (.bool t472)).setCell ⟨gb483, 2, none⟩ (.int .i64 t473)).setCell ⟨gb483, 3, none⟩ (.int .i64 t474)).setCell ⟨gb483, 4, none⟩ (.int .i64 t475)).setCell ⟨gb483, 5, none⟩ (.int .i64 t476)).setCell ⟨gb484, 0, none⟩ (.int .i64 t477)).setCell ⟨gb484, 1, none⟩ (.bool t478)).setCell ⟨gb484, 2, none⟩ (.int .i64 t479)).setCell ⟨gb484, 3, none⟩ (.int .i64 t480)).setCell ⟨gb484, 4, none⟩ (.int .i64 t481)).setCell ⟨gb484, 5, none⟩ (.int .i64 t482)).heap[gb484]? = some (.cells #[.int .i64 t477, .bool t478, .int .i64 t479, .int .i64 t480, .int .i64 t481, .int .i64 t482] 27 (0, 0))) := ⟨by (with_reducible repeat (first | refine blk_drewN ?_ _ | refine blk_drew ?_ | refine blk_alloc ?_ _)); refine blk_put (cs := #[.int .i64 t477, .bool t478, .int .i64 t479, .int .i64 t480, .int .i64 t481, .int .i64 0]) ?_ 5 _ rfl; (with_reducible repeat (first | refine blk_drewN ?_ _ | refine blk_drew ?_ | refine blk_alloc ?_ _)); refine blk_put (cs := #[.int .i64 t477, .bool t478, .int .i64 t479, .int .i64 t480, .int .i64 0, .int .i64 0]) ?_ 4 _ rfl; (with_reducible repeat (first | refine blk_drewN ?_ _ | refine blk_drew ?_ | refine blk_alloc ?_ _)); refine blk_put (cs := #[.int .i64 t477, .bool t478, .int .i64 t479, .int .i64 0, .int .i64 0, .int .i64 0]) ?_ 3 _ rfl; (with_reducible repeat (first | refine blk_drewN ?_ _ | refine blk_drew ?_ | refine blk_alloc ?_ _)); refine blk_put (cs := #[.int .i64 t477, .bool t478, .int .i64 0, .int .i64 0, .int .i64 0, .int .i64 0]) ?_ 2 _ rfl; (with_reducible repeat (first | refine blk_drewN ?_ _ | refine blk_drew ?_ | refine blk_alloc ?_ _)); refine blk_put (cs := #[.int .i64 t477, .bool false, .int .i64 0, .int .i64 0, .int .i64 0, .int .i64 0]) ?_ 1 _ rfl; (with_reducible repeat (first | refine blk_drewN ?_ _ | refine blk_drew ?_ | refine blk_alloc ?_ _)); refine blk_put (cs := #[.int .i64 0, .bool false, .int .i64 0, .int .i64 0, .int .i64 0, .int .i64 0]) ?_ 0 _ rfl; (with_reducible repeat (first | refine blk_drewN ?_ _ | refine blk_drew ?_ | refine blk_alloc ?_ _)); refine blk_far ?_ NB484_483.out _; (with_reducible repeat (first | refine blk_drewN ?_ _ | refine blk_drew ?_ | refine blk_alloc ?_ _)); refine blk_far ?_ NB484_483.out _; (with_reducible repeat (first | refine blk_drewN ?_ _ | refine blk_drew ?_ | refine blk_alloc ?_ _)); refine blk_far ?_ NB484_483.out _; (with_reducible repeat (first | refine blk_drewN ?_ _ | refine blk_drew ?_ | refine blk_alloc ?_ _)); refine blk_far ?_ NB484_483.out _; (with_reducible repeat (first | refine blk_drewN ?_ _ | refine blk_drew ?_ | refine blk_alloc ?_ _)); refine blk_far ?_ NB484_483.out _; (with_reducible repeat (first | refine blk_drewN ?_ _ | refine blk_drew ?_ | refine blk_alloc ?_ _)); refine blk_far ?_ NB484_483.out _; (with_reducible repeat (first | refine blk_drewN ?_ _ | refine blk_drew ?_ | refine blk_alloc ?_ _)); exact BK484.out⟩
     have n5_ : Aside0 (Below w.heap.size w ((((((((((((w27.setCell ⟨gb483, 0, none⟩ (.int .i64 t471)).setCell ⟨gb483, 1, none⟩ (.bool t472)).setCell ⟨gb483, 2, none⟩ (.int .i64 t473)).setCell ⟨gb483, 3, none⟩ (.int .i64 t474)).setCell ⟨gb483, 4, none⟩ (.int .i64 t475)).setCell ⟨gb483, 5, none⟩ (.int .i64 t476)).setCell ⟨gb484, 0, none⟩ (.int .i64 t477)).setCell ⟨gb484, 1, none⟩ (.bool t478)).setCell ⟨gb484, 2, none⟩ (.int .i64 t479)).setCell ⟨gb484, 3, none⟩ (.int .i64 t480)).setCell ⟨gb484, 4, none⟩ (.int .i64 t481)).setCell ⟨gb484, 5, none⟩ (.int .i64 t482))) := ⟨by repeat (first | (with_reducible first | exact HB.out | apply below_alloc | apply pw_below_drewN | apply below_drew1 | refine below_set ?_ GE454.out | refine below_set ?_ GE469.out | refine below_set ?_ GE470.out | refine below_set ?_ GE483.out | refine below_set ?_ GE484.out) | exact HB.out)⟩
     (try clear BK454)
     (try clear BK469)
     (try clear BK470)
     (try clear BK483)
     (try clear BK484)
     (try clear HB)
     generalize ((((((((((((w27.setCell ⟨gb483, 0, none⟩ (.int .i64 t471)).setCell ⟨gb483, 1, none⟩ (.bool t472)).setCell ⟨gb483, 2, none⟩ (.int .i64 t473)).setCell ⟨gb483, 3, none⟩ (.int .i64 t474)).setCell ⟨gb483, 4, none⟩ (.int .i64 t475)).setCell ⟨gb483, 5, none⟩ (.int .i64 t476)).setCell ⟨gb484, 0, none⟩ (.int .i64 t477)).setCell ⟨gb484, 1, none⟩ (.bool t478)).setCell ⟨gb484, 2, none⟩ (.int .i64 t479)).setCell ⟨gb484, 3, none⟩ (.int .i64 t480)).setCell ⟨gb484, 4, none⟩ (.int .i64 t481)).setCell ⟨gb484, 5, none⟩ (.int .i64 t482)) = w40 at n0_ n1_ n2_ n3_ n4_ n5_ ⊢
     have BK454 := n0_
     have BK469 := n1_
     have BK470 := n2_
     have BK483 := n3_
     have BK484 := n4_
     have HB := n5_
     clear n0_ n1_ n2_ n3_ n4_ n5_
     have n0_ := Aside0.mk (blk_drew BK454.out)
     have n1_ := Aside0.mk (blk_drew BK469.out)
     have n2_ := Aside0.mk (blk_drew BK470.out)
     have n3_ := Aside0.mk (blk_drew BK483.out)
     have n4_ := Aside0.mk (blk_drew BK484.out)
     have n5_ := Aside0.mk (below_drew1 HB.out)
     clear BK454 BK469 BK470 BK483 BK484 HB
     have BK454 := n0_
     have BK469 := n1_
     have BK470 := n2_
     have BK483 := n3_
     have BK484 := n4_
     have HB := n5_
     clear n0_ n1_ n2_ n3_ n4_ n5_
     refine start_ (n := 16) (S := fun w' => w'.cell? ⟨gb469, 0, none⟩ = some (.int .i64 t457) ∧ w'.cell? ⟨gb469, 1, none⟩ = some (.bool t458) ∧ w'.cell? ⟨gb469, 2, none⟩ = some (.int .i64 t459) ∧ w'.cell? ⟨gb469, 3, none⟩ = some (.int .i64 t460) ∧ w'.cell? ⟨gb469, 4, none⟩ = some (.int .i64 t461) ∧ w'.cell? ⟨gb469, 5, none⟩ = some (.int .i64 t462) ∧ w'.cell? ⟨gb470, 0, none⟩ = some (.int .i64 t463) ∧ w'.cell? ⟨gb470, 1, none⟩ = some (.bool t464) ∧ w'.cell? ⟨gb470, 2, none⟩ = some (.int .i64 t465) ∧ w'.cell? ⟨gb470, 3, none⟩ = some (.int .i64 t466) ∧ w'.cell? ⟨gb470, 4, none⟩ = some (.int .i64 t467) ∧ w'.cell? ⟨gb470, 5, none⟩ = some (.int .i64 t468)) (ds := []) #[false, false, false, false, false, false, false, false, false, false, false, false, false, false, false, false] (by kernel_rfl) rfl rfl (c6 BK469 (c6e BK470)) (fun hHeld => ?_); refine with_tabW laws_FnTry.tab9 laws_FnTry.bits9 (fun HT_ HW_ => ?_)
     generalize w40.drew = w41 at BK454 BK469 BK470 BK483 BK484 HB hHeld ⊢
     refine take_ (i := 0) (N := some 40) (v := ?_) (a' := ?_) #[true, false, false, false, false, false, false, false, false, false, false, false, false, false, false, false] rfl rfl (take_ofW HT_.out HW_.out (by kernel_rfl)) (fun _ _ _ h => h) (Or.inl ⟨by rfl, ?_⟩) hHeld ?_ ?_
     rotate_left
     ·rintro w' ⟨s0, s1, s2, s3, s4, s5, s6, s7, s8, s9, s10, s11⟩
      go_simp
      with_reducible rfl
     rotate_left
     ·simp only [Act.put, List.setIfInBounds_toArray, List.set_cons_zero, List.set_cons_succ, i64_w, i32_w]
      rfl
     refine take_ (i := 1) (N := some 41) (v := ?_) (a' := ?_) #[true, true, false, false, false, false, false, false, false, false, false, false, false, false, false, false] rfl rfl (take_ofW HT_.out HW_.out (by kernel_rfl)) (fun _ _ _ h => h) (Or.inl ⟨by rfl, ?_⟩) hHeld ?_ ?_
     rotate_left
     ·rintro w' ⟨s0, s1, s2, s3, s4, s5, s6, s7, s8, s9, s10, s11⟩
      go_simp
      with_reducible rfl
     rotate_left
     ·simp only [Act.put, List.setIfInBounds_toArray, List.set_cons_zero, List.set_cons_succ, i64_w, i32_w]
      rfl
     refine take_ (i := 3) (N := some 43) (v := ?_) (a' := ?_) #[true, true, false, true, false, false, false, false, false, false, false, false, false, false, false, false] rfl rfl (take_ofW HT_.out HW_.out (by kernel_rfl)) (fun _ _ _ h => h) (Or.inl ⟨by rfl, ?_⟩) hHeld ?_ ?_
     rotate_left
     ·rintro w' ⟨s0, s1, s2, s3, s4, s5, s6, s7, s8, s9, s10, s11⟩
      go_simp
      with_reducible rfl
     rotate_left
     ·simp only [Act.put, List.setIfInBounds_toArray, List.set_cons_zero, List.set_cons_succ, i64_w, i32_w]
      rfl
     refine take_ (i := 4) (N := some 44) (v := ?_) (a' := ?_) #[true, true, false, true, true, false, false, false, false, false, false, false, false, false, false, false] rfl rfl (take_ofW HT_.out HW_.out (by kernel_rfl)) (fun _ _ _ h => h) (Or.inl ⟨by rfl, ?_⟩) hHeld ?_ ?_
     rotate_left
     ·rintro w' ⟨s0, s1, s2, s3, s4, s5, s6, s7, s8, s9, s10, s11⟩
      go_simp
      with_reducible rfl
     rotate_left
     ·simp only [Act.put, List.setIfInBounds_toArray, List.set_cons_zero, List.set_cons_succ, i64_w, i32_w]
      rfl
     refine one_ (i := 2) (N := some 42) #[true, true, true, true, true, false, false, false, false, false, false, false, false, false, false, false] rfl rfl (one_of HT_.out (by kernel_rfl)) (by decide) (fun K hK => ?_)
     refine goesR Try.func55 (by kernel_rfl) rfl #[.agg #[.int .i64 t457, .bool t458, .int .i64 t459, .int .i64 t460, .int .i64 t461, .int .i64 t462], .agg #[.int .i64 t463, .bool t464, .int .i64 t465, .int .i64 t466, .int .i64 t467, .int .i64 t468]] (by rfl) rfl rfl ?_
     with_reducible refine (impl_Taken.calls t457 t458 t459 t460 t461 t462 t463 t464 t465 t466 t467 t468 t485 t486 t487 t488 t489 t490 _ A37.out).mono ?_
     rintro e w42 ⟨rfl, hb⟩
     refine ⟨_, rfl, ?_⟩
     have n0_ := nblk BK454 hb
     have n1_ := nblk BK469 hb
     have n2_ := nblk BK470 hb
     have n3_ := nblk BK483 hb
     have n4_ := nblk BK484 hb
     have n5_ := nbs HB hb
     clear BK454 BK469 BK470 BK483 BK484 HB
     have BK454 := n0_
     have BK469 := n1_
     have BK470 := n2_
     have BK483 := n3_
     have BK484 := n4_
     have HB := n5_
     clear n0_ n1_ n2_ n3_ n4_ n5_
     (try clear hb)
     refine hK.out _ _ (c6 BK469 (c6e BK470)) (fun hHeld => ?_)
     clear hK K
     refine norm_ (a' := ?_) ?_ ?_
     rotate_left
     ·show Act.put _ (some 42) _ = _
      simp only [Act.put, List.setIfInBounds_toArray, List.set_cons_zero, List.set_cons_succ, i64_w, i32_w]
      rfl
     refine one_ (i := 5) (N := some 45) #[true, true, true, true, true, true, false, false, false, false, false, false, false, false, false, false] rfl rfl (one_of HT_.out (by kernel_rfl)) (by decide) (fun K hK => ?_)
     refine goesR Try.func56 (by kernel_rfl) rfl #[.agg #[.int .i64 t457, .bool t458, .int .i64 t459, .int .i64 t460, .int .i64 t461, .int .i64 t462], .agg #[.int .i64 t463, .bool t464, .int .i64 t465, .int .i64 t466, .int .i64 t467, .int .i64 t468]] (by rfl) rfl rfl ?_
     with_reducible refine (spec_Taken.calls t457 t458 t459 t460 t461 t462 t463 t464 t465 t466 t467 t468 t491 t492 t493 t494 t495 t496 _ A38.out).mono ?_
     rintro e w43 ⟨rfl, hb⟩
     refine ⟨_, rfl, ?_⟩
     have n0_ := nblk BK454 hb
     have n1_ := nblk BK469 hb
     have n2_ := nblk BK470 hb
     have n3_ := nblk BK483 hb
     have n4_ := nblk BK484 hb
     have n5_ := nbs HB hb
     clear BK454 BK469 BK470 BK483 BK484 HB
     have BK454 := n0_
     have BK469 := n1_
     have BK470 := n2_
     have BK483 := n3_
     have BK484 := n4_
     have HB := n5_
     clear n0_ n1_ n2_ n3_ n4_ n5_
     (try clear hb)
     refine hK.out _ _ (c6 BK469 (c6e BK470)) (fun hHeld => ?_)
     clear hK K
     refine norm_ (a' := ?_) ?_ ?_
     rotate_left
     ·show Act.put _ (some 45) _ = _
      simp only [Act.put, List.setIfInBounds_toArray, List.set_cons_zero, List.set_cons_succ, i64_w, i32_w]
      rfl
     refine pure_ (i := 6) (N := some 46) (v := ?_) (a' := ?_) #[true, true, true, true, true, true, true, false, false, false, false, false, false, false, false, false] rfl rfl (any_of HT_.out (by kernel_rfl)) (fun _ _ _ h => h) (Or.inl ⟨by rfl, ?_⟩) ?_ ?_
     rotate_left
     ·intro w'
      go_simp
      with_reducible rfl
     rotate_left
     ·simp only [Act.put, List.setIfInBounds_toArray, List.set_cons_zero, List.set_cons_succ, i64_w, i32_w]
      rfl
     refine pure_ (i := 7) (N := some 47) (v := ?_) (a' := ?_) #[true, true, true, true, true, true, true, true, false, false, false, false, false, false, false, false] rfl rfl (any_of HT_.out (by kernel_rfl)) (fun _ _ _ h => h) (Or.inl ⟨by rfl, ?_⟩) ?_ ?_
     rotate_left
     ·intro w'
      go_simp
      with_reducible rfl
     rotate_left
     ·simp only [Act.put, List.setIfInBounds_toArray, List.set_cons_zero, List.set_cons_succ, i64_w, i32_w]
      rfl
     refine pure_ (i := 8) (N := some 48) (v := undef) (a' := ?_) #[true, true, true, true, true, true, true, true, true, false, false, false, false, false, false, false] rfl rfl (any_of HT_.out (by kernel_rfl)) (fun _ _ _ h => h) (Or.inr ⟨by rfl, rfl⟩) ?_ ?_
     rotate_left
     ·simp only [Act.put, List.setIfInBounds_toArray, List.set_cons_zero, List.set_cons_succ, i64_w, i32_w]
      rfl
     refine pure_ (i := 9) (N := some 49) (v := undef) (a' := ?_) #[true, true, true, true, true, true, true, true, true, true, false, false, false, false, false, false] rfl rfl (any_of HT_.out (by kernel_rfl)) (fun _ _ _ h => h) (Or.inr ⟨by rfl, rfl⟩) ?_ ?_
     rotate_left
     ·simp only [Act.put, List.setIfInBounds_toArray, List.set_cons_zero, List.set_cons_succ, i64_w, i32_w]
      rfl
     refine pure_ (i := 10) (N := some 50) (v := undef) (a' := ?_) #[true, true, true, true, true, true, true, true, true, true, true, false, false, false, false, false] rfl rfl (any_of HT_.out (by kernel_rfl)) (fun _ _ _ h => h) (Or.inr ⟨by rfl, rfl⟩) ?_ ?_
     rotate_left
     ·simp only [Act.put, List.setIfInBounds_toArray, List.set_cons_zero, List.set_cons_succ, i64_w, i32_w]
      rfl
     refine pure_ (i := 11) (N := some 51) (v := undef) (a' := ?_) #[true, true, true, true, true, true, true, true, true, true, true, true, false, false, false, false] rfl rfl (any_of HT_.out (by kernel_rfl)) (fun _ _ _ h => h) (Or.inr ⟨by rfl, rfl⟩) ?_ ?_
     rotate_left
     ·simp only [Act.put, List.setIfInBounds_toArray, List.set_cons_zero, List.set_cons_succ, i64_w, i32_w]
      rfl
     refine pure_ (i := 12) (N := some 52) (v := undef) (a' := ?_) #[true, true, true, true, true, true, true, true, true, true, true, true, true, false, false, false] rfl rfl (any_of HT_.out (by kernel_rfl)) (fun _ _ _ h => h) (Or.inr ⟨by rfl, rfl⟩) ?_ ?_
     rotate_left
     ·simp only [Act.put, List.setIfInBounds_toArray, List.set_cons_zero, List.set_cons_succ, i64_w, i32_w]
      rfl
     refine pure_ (i := 13) (N := some 53) (v := undef) (a' := ?_) #[true, true, true, true, true, true, true, true, true, true, true, true, true, true, false, false] rfl rfl (any_of HT_.out (by kernel_rfl)) (fun _ _ _ h => h) (Or.inr ⟨by rfl, rfl⟩) ?_ ?_
     rotate_left
     ·simp only [Act.put, List.setIfInBounds_toArray, List.set_cons_zero, List.set_cons_succ, i64_w, i32_w]
      rfl
     refine pure_ (i := 14) (N := some 54) (v := undef) (a' := ?_) #[true, true, true, true, true, true, true, true, true, true, true, true, true, true, true, false] rfl rfl (any_of HT_.out (by kernel_rfl)) (fun _ _ _ h => h) (Or.inr ⟨by rfl, rfl⟩) ?_ ?_
     rotate_left
     ·simp only [Act.put, List.setIfInBounds_toArray, List.set_cons_zero, List.set_cons_succ, i64_w, i32_w]
      rfl
     refine pure_ (i := 15) (N := some 55) (v := ?_) (a' := ?_) #[true, true, true, true, true, true, true, true, true, true, true, true, true, true, true, true] rfl rfl (any_of HT_.out (by kernel_rfl)) (fun _ _ _ h => h) (Or.inl ⟨by rfl, ?_⟩) ?_ ?_
     rotate_left
     ·intro w'
      go_simp
      with_reducible rfl
     rotate_left
     ·simp only [Act.put, List.setIfInBounds_toArray, List.set_cons_zero, List.set_cons_succ, i64_w, i32_w]
      rfl
     refine done_ (done_of HT_.out (by kernel_rfl)) ?_
     try go_wp2
     go_meet
     case rel => exact ⟨_, (true), (by first | rfl | (simp; done) | (simp [*]; done)), H', ⟨by first | omega | exact Nat.le_refl _⟩, ⟨by (with_reducible repeat (first | refine blk_drewN ?_ _ | refine blk_drew ?_ | refine blk_alloc ?_ _)); exact BK454.out⟩, ⟨by (with_reducible repeat (first | refine blk_drewN ?_ _ | refine blk_drew ?_ | refine blk_alloc ?_ _)); exact BK469.out⟩, ⟨by (with_reducible repeat (first | refine blk_drewN ?_ _ | refine blk_drew ?_ | refine blk_alloc ?_ _)); exact BK470.out⟩, ⟨by (with_reducible repeat (first | refine blk_drewN ?_ _ | refine blk_drew ?_ | refine blk_alloc ?_ _)); exact BK483.out⟩, ⟨by (with_reducible repeat (first | refine blk_drewN ?_ _ | refine blk_drew ?_ | refine blk_alloc ?_ _)); exact BK484.out⟩, ⟨by repeat (first | (with_reducible first | exact HB.out | apply below_alloc | apply pw_below_drewN | apply below_drew1 | refine below_set ?_ GE454.out | refine below_set ?_ GE469.out | refine below_set ?_ GE470.out | refine below_set ?_ GE483.out | refine below_set ?_ GE484.out) | exact HB.out)⟩⟩
    ·rw [if_neg c39] at H
     have c39b0 : (!(t485 == t491) || (!(t486 == t492) || ((!(t487 == t493) || (!(t488 == t494) || (!(t489 == t495) || (!(t490 == t496)))))))) = false := by simpa using c39
     clear c39
     (first | rw [c39b0] | (simp only [i64_w, i32_w]; rw [c39b0]) | skip)
     replace H := Option.bind_eq_some_iff.mp H
     obtain ⟨t497, A440, H⟩ := H
     replace H : ((spec_MayPut.f t471 t472 t473 t474 t475 t476 t477 t478 t479 t480 t481 t482).bind fun t498 => (laws_FnTry.j0 k t452 t453 t455 (t497 != t498) t446 t447 t448 t449 t450 t451)) = some r := H
     have A44 := Aside0.mk A440
     clear A440
     replace H := Option.bind_eq_some_iff.mp H
     obtain ⟨t498, A450, H⟩ := H
     replace H : (laws_FnTry.j0 k t452 t453 t455 (t497 != t498) t446 t447 t448 t449 t450 t451) = some r := H
     have A45 := Aside0.mk A450
     clear A450
     have H' := Aside0.mk H
     clear H
     try go_wp2
     have n0_ : Aside0 (((((((((((((w27.setCell ⟨gb483, 0, none⟩ (.int .i64 t471)).setCell ⟨gb483, 1, none⟩ (.bool t472)).setCell ⟨gb483, 2, none⟩ (.int .i64 t473)).setCell ⟨gb483, 3, none⟩ (.int .i64 t474)).setCell ⟨gb483, 4, none⟩ (.int .i64 t475)).setCell ⟨gb483, 5, none⟩ (.int .i64 t476)).setCell ⟨gb484, 0, none⟩ (.int .i64 t477)).setCell ⟨gb484, 1, none⟩ (.bool t478)).setCell ⟨gb484, 2, none⟩ (.int .i64 t479)).setCell ⟨gb484, 3, none⟩ (.int .i64 t480)).setCell ⟨gb484, 4, none⟩ (.int .i64 t481)).setCell ⟨gb484, 5, none⟩ (.int .i64 t482)).heap[gb454]? = some (.cells #[.int .i64 t446, .bool t447, .int .i64 t448, .int .i64 t449, .int .i64 t450, .int .i64 t451] 27 (0, 0))) := ⟨by (with_reducible repeat (first | refine blk_drewN ?_ _ | refine blk_drew ?_ | refine blk_alloc ?_ _)); refine blk_far ?_ NB454_484.out _; (with_reducible repeat (first | refine blk_drewN ?_ _ | refine blk_drew ?_ | refine blk_alloc ?_ _)); refine blk_far ?_ NB454_484.out _; (with_reducible repeat (first | refine blk_drewN ?_ _ | refine blk_drew ?_ | refine blk_alloc ?_ _)); refine blk_far ?_ NB454_484.out _; (with_reducible repeat (first | refine blk_drewN ?_ _ | refine blk_drew ?_ | refine blk_alloc ?_ _)); refine blk_far ?_ NB454_484.out _; (with_reducible repeat (first | refine blk_drewN ?_ _ | refine blk_drew ?_ | refine blk_alloc ?_ _)); refine blk_far ?_ NB454_484.out _; (with_reducible repeat (first | refine blk_drewN ?_ _ | refine blk_drew ?_ | refine blk_alloc ?_ _)); refine blk_far ?_ NB454_484.out _; (with_reducible repeat (first | refine blk_drewN ?_ _ | refine blk_drew ?_ | refine blk_alloc ?_ _)); refine blk_far ?_ NB454_483.out _; (with_reducible repeat (first | refine blk_drewN ?_ _ | refine blk_drew ?_ | refine blk_alloc ?_ _)); refine blk_far ?_ NB454_483.out _; (with_reducible repeat (first | refine blk_drewN ?_ _ | refine blk_drew ?_ | refine blk_alloc ?_ _)); refine blk_far ?_ NB454_483.out _; (with_reducible repeat (first | refine blk_drewN ?_ _ | refine blk_drew ?_ | refine blk_alloc ?_ _)); refine blk_far ?_ NB454_483.out _; (with_reducible repeat (first | refine blk_drewN ?_ _ | refine blk_drew ?_ | refine blk_alloc ?_ _)); refine blk_far ?_ NB454_483.out _; (with_reducible repeat (first | refine blk_drewN ?_ _ | refine blk_drew ?_ | refine blk_alloc ?_ _)); refine blk_far ?_ NB454_483.out _; (with_reducible repeat (first | refine blk_drewN ?_ _ | refine blk_drew ?_ | refine blk_alloc ?_ _)); exact BK454.out⟩
     have n1_ : Aside0 (((((((((((((w27.setCell ⟨gb483, 0, none⟩ (.int .i64 t471)).setCell ⟨gb483, 1, none⟩ (.bool t472)).setCell ⟨gb483, 2, none⟩ (.int .i64 t473)).setCell ⟨gb483, 3, none⟩ (.int .i64 t474)).setCell ⟨gb483, 4, none⟩ (.int .i64 t475)).setCell ⟨gb483, 5, none⟩ (.int .i64 t476)).setCell ⟨gb484, 0, none⟩ (.int .i64 t477)).setCell ⟨gb484, 1, none⟩ (.bool t478)).setCell ⟨gb484, 2, none⟩ (.int .i64 t479)).setCell ⟨gb484, 3, none⟩ (.int .i64 t480)).setCell ⟨gb484, 4, none⟩ (.int .i64 t481)).setCell ⟨gb484, 5, none⟩ (.int .i64 t482)).heap[gb469]? = some (.cells #[.int .i64 t457, .bool t458, .int .i64 t459, .int .i64 t460, .int .i64 t461, .int .i64 t462] 27 (0, 0))) := ⟨by (with_reducible repeat (first | refine blk_drewN ?_ _ | refine blk_drew ?_ | refine blk_alloc ?_ _)); refine blk_far ?_ NB469_484.out _; (with_reducible repeat (first | refine blk_drewN ?_ _ | refine blk_drew ?_ | refine blk_alloc ?_ _)); refine blk_far ?_ NB469_484.out _; (with_reducible repeat (first | refine blk_drewN ?_ _ | refine blk_drew ?_ | refine blk_alloc ?_ _)); refine blk_far ?_ NB469_484.out _; (with_reducible repeat (first | refine blk_drewN ?_ _ | refine blk_drew ?_ | refine blk_alloc ?_ _)); refine blk_far ?_ NB469_484.out _; (with_reducible repeat (first | refine blk_drewN ?_ _ | refine blk_drew ?_ | refine blk_alloc ?_ _)); refine blk_far ?_ NB469_484.out _; (with_reducible repeat (first | refine blk_drewN ?_ _ | refine blk_drew ?_ | refine blk_alloc ?_ _)); refine blk_far ?_ NB469_484.out _; (with_reducible repeat (first | refine blk_drewN ?_ _ | refine blk_drew ?_ | refine blk_alloc ?_ _)); refine blk_far ?_ NB469_483.out _; (with_reducible repeat (first | refine blk_drewN ?_ _ | refine blk_drew ?_ | refine blk_alloc ?_ _)); refine blk_far ?_ NB469_483.out _; (with_reducible repeat (first | refine blk_drewN ?_ _ | refine blk_drew ?_ | refine blk_alloc ?_ _)); refine blk_far ?_ NB469_483.out _; (with_reducible repeat (first | refine blk_drewN ?_ _ | refine blk_drew ?_ | refine blk_alloc ?_ _)); refine blk_far ?_ NB469_483.out _; (with_reducible repeat (first | refine blk_drewN ?_ _ | refine blk_drew ?_ | refine blk_alloc ?_ _)); refine blk_far ?_ NB469_483.out _; (with_reducible repeat (first | refine blk_drewN ?_ _ | refine blk_drew ?_ | refine blk_alloc ?_ _)); refine blk_far ?_ NB469_483.out _; (with_reducible repeat (first | refine blk_drewN ?_ _ | refine blk_drew ?_ | refine blk_alloc ?_ _)); exact BK469.out⟩
     have n2_ : Aside0 (((((((((((((w27.setCell ⟨gb483, 0, none⟩ (.int .i64 t471)).setCell ⟨gb483, 1, none⟩ (.bool t472)).setCell ⟨gb483, 2, none⟩ (.int .i64 t473)).setCell ⟨gb483, 3, none⟩ (.int .i64 t474)).setCell ⟨gb483, 4, none⟩ (.int .i64 t475)).setCell ⟨gb483, 5, none⟩ (.int .i64 t476)).setCell ⟨gb484, 0, none⟩ (.int .i64 t477)).setCell ⟨gb484, 1, none⟩ (.bool t478)).setCell ⟨gb484, 2, none⟩ (.int .i64 t479)).setCell ⟨gb484, 3, none⟩ (.int .i64 t480)).setCell ⟨gb484, 4, none⟩ (.int .i64 t481)).setCell ⟨gb484, 5, none⟩ (.int .i64 t482)).heap[gb470]? = some (.cells #[.int .i64 t463, .bool t464, .int .i64 t465, .int .i64 t466, .int .i64 t467, .int .i64 t468] 27 (0, 0))) := ⟨by (with_reducible repeat (first | refine blk_drewN ?_ _ | refine blk_drew ?_ | refine blk_alloc ?_ _)); refine blk_far ?_ NB470_484.out _; (with_reducible repeat (first | refine blk_drewN ?_ _ | refine blk_drew ?_ | refine blk_alloc ?_ _)); refine blk_far ?_ NB470_484.out _; (with_reducible repeat (first | refine blk_drewN ?_ _ | refine blk_drew ?_ | refine blk_alloc ?_ _)); refine blk_far ?_ NB470_484.out _; (with_reducible repeat (first | refine blk_drewN ?_ _ | refine blk_drew ?_ | refine blk_alloc ?_ _)); refine blk_far ?_ NB470_484.out _; (with_reducible repeat (first | refine blk_drewN ?_ _ | refine blk_drew ?_ | refine blk_alloc ?_ _)); refine blk_far ?_ NB470_484.out _; (with_reducible repeat (first | refine blk_drewN ?_ _ | refine blk_drew ?_ | refine blk_alloc ?_ _)); refine blk_far ?_ NB470_484.out _; (with_reducible repeat (first | refine blk_drewN ?_ _ | refine blk_drew ?_ | refine blk_alloc ?_ _)); refine blk_far ?_ NB470_483.out _; (with_reducible repeat (first | refine blk_drewN ?_ _ | refine blk_drew ?_ | refine blk_alloc ?_ _)); refine blk_far ?_ NB470_483.out _; (with_reducible repeat (first | refine blk_drewN ?_ _ | refine blk_drew ?_ | refine blk_alloc ?_ _)); refine blk_far ?_ NB470_483.out _; (with_reducible repeat (first | refine blk_drewN ?_ _ | refine blk_drew ?_ | refine blk_alloc ?_ _)); refine blk_far ?_ NB470_483.out _; (with_reducible repeat (first | refine blk_drewN ?_ _ | refine blk_drew ?_ | refine blk_alloc ?_ _)); refine blk_far ?_ NB470_483.out _; (with_reducible repeat (first | refine blk_drewN ?_ _ | refine blk_drew ?_ | refine blk_alloc ?_ _)); refine blk_far ?_ NB470_483.out _; (with_reducible repeat (first | refine blk_drewN ?_ _ | refine blk_drew ?_ | refine blk_alloc ?_ _)); exact BK470.out⟩
     have n3_ : Aside0 (((((((((((((w27.setCell ⟨gb483, 0, none⟩ (.int .i64 t471)).setCell ⟨gb483, 1, none⟩ (.bool t472)).setCell ⟨gb483, 2, none⟩ (.int .i64 t473)).setCell ⟨gb483, 3, none⟩ (.int .i64 t474)).setCell ⟨gb483, 4, none⟩ (.int .i64 t475)).setCell ⟨gb483, 5, none⟩ (.int .i64 t476)).setCell ⟨gb484, 0, none⟩ (.int .i64 t477)).setCell ⟨gb484, 1, none⟩ (.bool t478)).setCell ⟨gb484, 2, none⟩ (.int .i64 t479)).setCell ⟨gb484, 3, none⟩ (.int .i64 t480)).setCell ⟨gb484, 4, none⟩ (.int .i64 t481)).setCell ⟨gb484, 5, none⟩ (.int .i64 t482)).heap[gb483]? = some (.cells #[.int .i64 t471, .bool t472, .int .i64 t473, .int .i64 t474, .int .i64 t475, .int .i64 t476] 27 (0, 0))) := ⟨by (with_reducible repeat (first | refine blk_drewN ?_ _ | refine blk_drew ?_ | refine blk_alloc ?_ _)); refine blk_far ?_ NB483_484.out _; (with_reducible repeat (first | refine blk_drewN ?_ _ | refine blk_drew ?_ | refine blk_alloc ?_ _)); refine blk_far ?_ NB483_484.out _; (with_reducible repeat (first | refine blk_drewN ?_ _ | refine blk_drew ?_ | refine blk_alloc ?_ _)); refine blk_far ?_ NB483_484.out _; (with_reducible repeat (first | refine blk_drewN ?_ _ | refine blk_drew ?_ | refine blk_alloc ?_ _)); refine blk_far ?_ NB483_484.out _; (with_reducible repeat (first | refine blk_drewN ?_ _ | refine blk_drew ?_ | refine blk_alloc ?_ _)); refine blk_far ?_ NB483_484.out _; (with_reducible repeat (first | refine blk_drewN ?_ _ | refine blk_drew ?_ | refine blk_alloc ?_ _)); refine blk_far ?_ NB483_484.out _; (with_reducible repeat (first | refine blk_drewN ?_ _ | refine blk_drew ?_ | refine blk_alloc ?_ _)); refine blk_put (cs := #[.int .i64 t471, .bool t472, .int .i64 t473, .int .i64 t474, .int .i64 t475, .int .i64 0]) ?_ 5 _ rfl; (with_reducible repeat (first | refine blk_drewN ?_ _ | refine blk_drew ?_ | refine blk_alloc ?_ _)); refine blk_put (cs := #[.int .i64 t471, .bool t472, .int .i64 t473, .int .i64 t474, .int .i64 0, .int .i64 0]) ?_ 4 _ rfl; (with_reducible repeat (first | refine blk_drewN ?_ _ | refine blk_drew ?_ | refine blk_alloc ?_ _)); refine blk_put (cs := #[.int .i64 t471, .bool t472, .int .i64 t473, .int .i64 0, .int .i64 0, .int .i64 0]) ?_ 3 _ rfl; (with_reducible repeat (first | refine blk_drewN ?_ _ | refine blk_drew ?_ | refine blk_alloc ?_ _)); refine blk_put (cs := #[.int .i64 t471, .bool t472, .int .i64 0, .int .i64 0, .int .i64 0, .int .i64 0]) ?_ 2 _ rfl; (with_reducible repeat (first | refine blk_drewN ?_ _ | refine blk_drew ?_ | refine blk_alloc ?_ _)); refine blk_put (cs := #[.int .i64 t471, .bool false, .int .i64 0, .int .i64 0, .int .i64 0, .int .i64 0]) ?_ 1 _ rfl; (with_reducible repeat (first | refine blk_drewN ?_ _ | refine blk_drew ?_ | refine blk_alloc ?_ _)); refine blk_put (cs := #[.int .i64 0, .bool false, .int .i64 0, .int .i64 0, .int .i64 0, .int .i64 0]) ?_ 0 _ rfl; (with_reducible repeat (first | refine blk_drewN ?_ _ | refine blk_drew ?_ | refine blk_alloc ?_ _)); exact BK483.out⟩
     have n4_ : Aside0 (((((((((((((w27.setCell ⟨gb483, 0, none⟩ (.int .i64 t471)).setCell ⟨gb483, 1, none⟩ (.bool t472)).setCell ⟨gb483, 2, none⟩ (.int .i64 t473)).setCell ⟨gb483, 3, none⟩ (.int .i64 t474)).setCell ⟨gb483, 4, none⟩ (.int .i64 t475)).setCell ⟨gb483, 5, none⟩ (.int .i64 t476)).setCell ⟨gb484, 0, none⟩ (.int .i64 t477)).setCell ⟨gb484, 1, none⟩ (.bool t478)).setCell ⟨gb484, 2, none⟩ (.int .i64 t479)).setCell ⟨gb484, 3, none⟩ (.int .i64 t480)).setCell ⟨gb484, 4, none⟩ (.int .i64 t481)).setCell ⟨gb484, 5, none⟩ (.int .i64 t482)).heap[gb484]? = some (.cells #[.int .i64 t477, .bool t478, .int .i64 t479, .int .i64 t480, .int .i64 t481, .int .i64 t482] 27 (0, 0))) := ⟨by (with_reducible repeat (first | refine blk_drewN ?_ _ | refine blk_drew ?_ | refine blk_alloc ?_ _)); refine blk_put (cs := #[.int .i64 t477, .bool t478, .int .i64 t479, .int .i64 t480, .int .i64 t481, .int .i64 0]) ?_ 5 _ rfl; (with_reducible repeat (first | refine blk_drewN ?_ _ | refine blk_drew ?_ | refine blk_alloc ?_ _)); refine blk_put (cs := #[.int .i64 t477, .bool t478, .int .i64 t479, .int .i64 t480, .int .i64 0, .int .i64 0]) ?_ 4 _ rfl; (with_reducible repeat (first | refine blk_drewN ?_ _ | refine blk_drew ?_ | refine blk_alloc ?_ _)); refine blk_put (cs := #[.int .i64 t477, .bool t478, .int .i64 t479, .int .i64 0, .int .i64 0, .int .i64 0]) ?_ 3 _ rfl; (with_reducible repeat (first | refine blk_drewN ?_ _ | refine blk_drew ?_ | refine blk_alloc ?_ _)); refine blk_put (cs := #[.int .i64 t477, .bool t478, .int .i64 0, .int .i64 0, .int .i64 0, .int .i64 0]) ?_ 2 _ rfl; (with_reducible repeat (first | refine blk_drewN ?_ _ | refine blk_drew ?_ | refine blk_alloc ?_ _)); refine blk_put (cs := #[.int .i64 t477, .bool false, .int .i64 0, .int .i64 0, .int .i64 0, .int .i64 0]) ?_ 1 _ rfl; (with_reducible repeat (first | refine blk_drewN ?_ _ | refine blk_drew ?_ | refine blk_alloc ?_ _)); refine blk_put (cs := #[.int .i64 0, .bool false, .int .i64 0, .int .i64 0, .int .i64 0, .int .i64 0]) ?_ 0 _ rfl; (with_reducible repeat (first | refine blk_drewN ?_ _ | refine blk_drew ?_ | refine blk_alloc ?_ _)); refine blk_far ?_ NB484_483.out _; (with_reducible repeat (first | refine blk_drewN ?_ _ | refine blk_drew ?_ | refine blk_alloc ?_ _)); refine blk_far ?_ NB484_483.out _; (with_reducible repeat (first | refine blk_drewN ?_ _ | refine blk_drew ?_ | refine blk_alloc ?_ _)); refine blk_far ?_ NB484_483.out _; (with_reducible repeat (first | refine blk_drewN ?_ _ | refine blk_drew ?_ | refine blk_alloc ?_ _)); refine blk_far ?_ NB484_483.out _; (with_reducible repeat (first | refine blk_drewN ?_ _ | refine blk_drew ?_ | refine blk_alloc ?_ _)); refine blk_far ?_ NB484_483.out _; (with_reducible repeat (first | refine blk_drewN ?_ _ | refine blk_drew ?_ | refine blk_alloc ?_ _)); refine blk_far ?_ NB484_483.out _; (with_reducible repeat (first | refine blk_drewN ?_ _ | refine blk_drew ?_ | refine blk_alloc ?_ _)); exact BK484.out⟩
     have n5_ : Aside0 (Below w.heap.size w ((((((((((((w27.setCell ⟨gb483, 0, none⟩ (.int .i64 t471)).setCell ⟨gb483, 1, none⟩ (.bool t472)).setCell ⟨gb483, 2, none⟩ (.int .i64 t473)).setCell ⟨gb483, 3, none⟩ (.int .i64 t474)).setCell ⟨gb483, 4, none⟩ (.int .i64 t475)).setCell ⟨gb483, 5, none⟩ (.int .i64 t476)).setCell ⟨gb484, 0, none⟩ (.int .i64 t477)).setCell ⟨gb484, 1, none⟩ (.bool t478)).setCell ⟨gb484, 2, none⟩ (.int .i64 t479)).setCell ⟨gb484, 3, none⟩ (.int .i64 t480)).setCell ⟨gb484, 4, none⟩ (.int .i64 t481)).setCell ⟨gb484, 5, none⟩ (.int .i64 t482))) := ⟨by repeat (first | (with_reducible first | exact HB.out | apply below_alloc | apply pw_below_drewN | apply below_drew1 | refine below_set ?_ GE454.out | refine below_set ?_ GE469.out | refine below_set ?_ GE470.out | refine below_set ?_ GE483.out | refine below_set ?_ GE484.out) | exact HB.out)⟩
     (try clear BK454)
     (try clear BK469)
     (try clear BK470)
     (try clear BK483)
     (try clear BK484)
     (try clear HB)
     generalize ((((((((((((w27.setCell ⟨gb483, 0, none⟩ (.int .i64 t471)).setCell ⟨gb483, 1, none⟩ (.bool t472)).setCell ⟨gb483, 2, none⟩ (.int .i64 t473)).setCell ⟨gb483, 3, none⟩ (.int .i64 t474)).setCell ⟨gb483, 4, none⟩ (.int .i64 t475)).setCell ⟨gb483, 5, none⟩ (.int .i64 t476)).setCell ⟨gb484, 0, none⟩ (.int .i64 t477)).setCell ⟨gb484, 1, none⟩ (.bool t478)).setCell ⟨gb484, 2, none⟩ (.int .i64 t479)).setCell ⟨gb484, 3, none⟩ (.int .i64 t480)).setCell ⟨gb484, 4, none⟩ (.int .i64 t481)).setCell ⟨gb484, 5, none⟩ (.int .i64 t482)) = w46 at n0_ n1_ n2_ n3_ n4_ n5_ ⊢
     have BK454 := n0_
     have BK469 := n1_
     have BK470 := n2_
     have BK483 := n3_
     have BK484 := n4_
     have HB := n5_
     clear n0_ n1_ n2_ n3_ n4_ n5_
     have n0_ := Aside0.mk (blk_drew BK454.out)
     have n1_ := Aside0.mk (blk_drew BK469.out)
     have n2_ := Aside0.mk (blk_drew BK470.out)
     have n3_ := Aside0.mk (blk_drew BK483.out)
     have n4_ := Aside0.mk (blk_drew BK484.out)
     have n5_ := Aside0.mk (below_drew1 HB.out)
     clear BK454 BK469 BK470 BK483 BK484 HB
     have BK454 := n0_
     have BK469 := n1_
     have BK470 := n2_
     have BK483 := n3_
     have BK484 := n4_
     have HB := n5_
     clear n0_ n1_ n2_ n3_ n4_ n5_
     refine start_ (n := 16) (S := fun w' => w'.cell? ⟨gb469, 0, none⟩ = some (.int .i64 t457) ∧ w'.cell? ⟨gb469, 1, none⟩ = some (.bool t458) ∧ w'.cell? ⟨gb469, 2, none⟩ = some (.int .i64 t459) ∧ w'.cell? ⟨gb469, 3, none⟩ = some (.int .i64 t460) ∧ w'.cell? ⟨gb469, 4, none⟩ = some (.int .i64 t461) ∧ w'.cell? ⟨gb469, 5, none⟩ = some (.int .i64 t462) ∧ w'.cell? ⟨gb470, 0, none⟩ = some (.int .i64 t463) ∧ w'.cell? ⟨gb470, 1, none⟩ = some (.bool t464) ∧ w'.cell? ⟨gb470, 2, none⟩ = some (.int .i64 t465) ∧ w'.cell? ⟨gb470, 3, none⟩ = some (.int .i64 t466) ∧ w'.cell? ⟨gb470, 4, none⟩ = some (.int .i64 t467) ∧ w'.cell? ⟨gb470, 5, none⟩ = some (.int .i64 t468) ∧ w'.cell? ⟨gb483, 0, none⟩ = some (.int .i64 t471) ∧ w'.cell? ⟨gb483, 1, none⟩ = some (.bool t472) ∧ w'.cell? ⟨gb483, 2, none⟩ = some (.int .i64 t473) ∧ w'.cell? ⟨gb483, 3, none⟩ = some (.int .i64 t474) ∧ w'.cell? ⟨gb483, 4, none⟩ = some (.int .i64 t475) ∧ w'.cell? ⟨gb483, 5, none⟩ = some (.int .i64 t476) ∧ w'.cell? ⟨gb484, 0, none⟩ = some (.int .i64 t477) ∧ w'.cell? ⟨gb484, 1, none⟩ = some (.bool t478) ∧ w'.cell? ⟨gb484, 2, none⟩ = some (.int .i64 t479) ∧ w'.cell? ⟨gb484, 3, none⟩ = some (.int .i64 t480) ∧ w'.cell? ⟨gb484, 4, none⟩ = some (.int .i64 t481) ∧ w'.cell? ⟨gb484, 5, none⟩ = some (.int .i64 t482)) (ds := []) #[false, false, false, false, false, false, false, false, false, false, false, false, false, false, false, false] (by kernel_rfl) rfl rfl (c6 BK469 (c6 BK470 (c6 BK483 (c6e BK484)))) (fun hHeld => ?_); refine with_tabW laws_FnTry.tab9 laws_FnTry.bits9 (fun HT_ HW_ => ?_)
     generalize w46.drew = w47 at BK454 BK469 BK470 BK483 BK484 HB hHeld ⊢
     refine take_ (i := 0) (N := some 40) (v := ?_) (a' := ?_) #[true, false, false, false, false, false, false, false, false, false, false, false, false, false, false, false] rfl rfl (take_ofW HT_.out HW_.out (by kernel_rfl)) (fun _ _ _ h => h) (Or.inl ⟨by rfl, ?_⟩) hHeld ?_ ?_
     rotate_left
     ·rintro w' ⟨s0, s1, s2, s3, s4, s5, s6, s7, s8, s9, s10, s11, s12, s13, s14, s15, s16, s17, s18, s19, s20, s21, s22, s23⟩
      go_simp
      with_reducible rfl
     rotate_left
     ·simp only [Act.put, List.setIfInBounds_toArray, List.set_cons_zero, List.set_cons_succ, i64_w, i32_w]
      rfl
     refine take_ (i := 1) (N := some 41) (v := ?_) (a' := ?_) #[true, true, false, false, false, false, false, false, false, false, false, false, false, false, false, false] rfl rfl (take_ofW HT_.out HW_.out (by kernel_rfl)) (fun _ _ _ h => h) (Or.inl ⟨by rfl, ?_⟩) hHeld ?_ ?_
     rotate_left
     ·rintro w' ⟨s0, s1, s2, s3, s4, s5, s6, s7, s8, s9, s10, s11, s12, s13, s14, s15, s16, s17, s18, s19, s20, s21, s22, s23⟩
      go_simp
      with_reducible rfl
     rotate_left
     ·simp only [Act.put, List.setIfInBounds_toArray, List.set_cons_zero, List.set_cons_succ, i64_w, i32_w]
      rfl
     refine take_ (i := 3) (N := some 43) (v := ?_) (a' := ?_) #[true, true, false, true, false, false, false, false, false, false, false, false, false, false, false, false] rfl rfl (take_ofW HT_.out HW_.out (by kernel_rfl)) (fun _ _ _ h => h) (Or.inl ⟨by rfl, ?_⟩) hHeld ?_ ?_
     rotate_left
     ·rintro w' ⟨s0, s1, s2, s3, s4, s5, s6, s7, s8, s9, s10, s11, s12, s13, s14, s15, s16, s17, s18, s19, s20, s21, s22, s23⟩
      go_simp
      with_reducible rfl
     rotate_left
     ·simp only [Act.put, List.setIfInBounds_toArray, List.set_cons_zero, List.set_cons_succ, i64_w, i32_w]
      rfl
     refine take_ (i := 4) (N := some 44) (v := ?_) (a' := ?_) #[true, true, false, true, true, false, false, false, false, false, false, false, false, false, false, false] rfl rfl (take_ofW HT_.out HW_.out (by kernel_rfl)) (fun _ _ _ h => h) (Or.inl ⟨by rfl, ?_⟩) hHeld ?_ ?_
     rotate_left
     ·rintro w' ⟨s0, s1, s2, s3, s4, s5, s6, s7, s8, s9, s10, s11, s12, s13, s14, s15, s16, s17, s18, s19, s20, s21, s22, s23⟩
      go_simp
      with_reducible rfl
     rotate_left
     ·simp only [Act.put, List.setIfInBounds_toArray, List.set_cons_zero, List.set_cons_succ, i64_w, i32_w]
      rfl
     refine one_ (i := 2) (N := some 42) #[true, true, true, true, true, false, false, false, false, false, false, false, false, false, false, false] rfl rfl (one_of HT_.out (by kernel_rfl)) (by decide) (fun K hK => ?_)
     refine goesR Try.func55 (by kernel_rfl) rfl #[.agg #[.int .i64 t457, .bool t458, .int .i64 t459, .int .i64 t460, .int .i64 t461, .int .i64 t462], .agg #[.int .i64 t463, .bool t464, .int .i64 t465, .int .i64 t466, .int .i64 t467, .int .i64 t468]] (by rfl) rfl rfl ?_
     with_reducible refine (impl_Taken.calls t457 t458 t459 t460 t461 t462 t463 t464 t465 t466 t467 t468 t485 t486 t487 t488 t489 t490 _ A37.out).mono ?_
     rintro e w48 ⟨rfl, hb⟩
     refine ⟨_, rfl, ?_⟩
     have n0_ := nblk BK454 hb
     have n1_ := nblk BK469 hb
     have n2_ := nblk BK470 hb
     have n3_ := nblk BK483 hb
     have n4_ := nblk BK484 hb
     have n5_ := nbs HB hb
     clear BK454 BK469 BK470 BK483 BK484 HB
     have BK454 := n0_
     have BK469 := n1_
     have BK470 := n2_
     have BK483 := n3_
     have BK484 := n4_
     have HB := n5_
     clear n0_ n1_ n2_ n3_ n4_ n5_
     (try clear hb)
     refine hK.out _ _ (c6 BK469 (c6 BK470 (c6 BK483 (c6e BK484)))) (fun hHeld => ?_)
     clear hK K
     refine norm_ (a' := ?_) ?_ ?_
     rotate_left
     ·show Act.put _ (some 42) _ = _
      simp only [Act.put, List.setIfInBounds_toArray, List.set_cons_zero, List.set_cons_succ, i64_w, i32_w]
      rfl
     refine one_ (i := 5) (N := some 45) #[true, true, true, true, true, true, false, false, false, false, false, false, false, false, false, false] rfl rfl (one_of HT_.out (by kernel_rfl)) (by decide) (fun K hK => ?_)
     refine goesR Try.func56 (by kernel_rfl) rfl #[.agg #[.int .i64 t457, .bool t458, .int .i64 t459, .int .i64 t460, .int .i64 t461, .int .i64 t462], .agg #[.int .i64 t463, .bool t464, .int .i64 t465, .int .i64 t466, .int .i64 t467, .int .i64 t468]] (by rfl) rfl rfl ?_
     with_reducible refine (spec_Taken.calls t457 t458 t459 t460 t461 t462 t463 t464 t465 t466 t467 t468 t491 t492 t493 t494 t495 t496 _ A38.out).mono ?_
     rintro e w49 ⟨rfl, hb⟩
     refine ⟨_, rfl, ?_⟩
     have n0_ := nblk BK454 hb
     have n1_ := nblk BK469 hb
     have n2_ := nblk BK470 hb
     have n3_ := nblk BK483 hb
     have n4_ := nblk BK484 hb
     have n5_ := nbs HB hb
     clear BK454 BK469 BK470 BK483 BK484 HB
     have BK454 := n0_
     have BK469 := n1_
     have BK470 := n2_
     have BK483 := n3_
     have BK484 := n4_
     have HB := n5_
     clear n0_ n1_ n2_ n3_ n4_ n5_
     (try clear hb)
     refine hK.out _ _ (c6 BK469 (c6 BK470 (c6 BK483 (c6e BK484)))) (fun hHeld => ?_)
     clear hK K
     refine norm_ (a' := ?_) ?_ ?_
     rotate_left
     ·show Act.put _ (some 45) _ = _
      simp only [Act.put, List.setIfInBounds_toArray, List.set_cons_zero, List.set_cons_succ, i64_w, i32_w]
      rfl
     refine pure_ (i := 6) (N := some 46) (v := ?_) (a' := ?_) #[true, true, true, true, true, true, true, false, false, false, false, false, false, false, false, false] rfl rfl (any_of HT_.out (by kernel_rfl)) (fun _ _ _ h => h) (Or.inl ⟨by rfl, ?_⟩) ?_ ?_
     rotate_left
     ·intro w'
      go_simp
      with_reducible rfl
     rotate_left
     ·simp only [Act.put, List.setIfInBounds_toArray, List.set_cons_zero, List.set_cons_succ, i64_w, i32_w]
      rfl
     refine pure_ (i := 7) (N := some 47) (v := ?_) (a' := ?_) #[true, true, true, true, true, true, true, true, false, false, false, false, false, false, false, false] rfl rfl (any_of HT_.out (by kernel_rfl)) (fun _ _ _ h => h) (Or.inl ⟨by rfl, ?_⟩) ?_ ?_
     rotate_left
     ·intro w'
      go_simp
      with_reducible rfl
     rotate_left
     ·simp only [Act.put, List.setIfInBounds_toArray, List.set_cons_zero, List.set_cons_succ, i64_w, i32_w]
      rfl
     refine take_ (i := 8) (N := some 48) (v := ?_) (a' := ?_) #[true, true, true, true, true, true, true, true, true, false, false, false, false, false, false, false] rfl rfl (take_ofW HT_.out HW_.out (by kernel_rfl)) (fun _ _ _ h => h) (Or.inl ⟨by rfl, ?_⟩) hHeld ?_ ?_
     rotate_left
     ·rintro w' ⟨s0, s1, s2, s3, s4, s5, s6, s7, s8, s9, s10, s11, s12, s13, s14, s15, s16, s17, s18, s19, s20, s21, s22, s23⟩
      go_simp
      with_reducible rfl
     rotate_left
     ·simp only [Act.put, List.setIfInBounds_toArray, List.set_cons_zero, List.set_cons_succ, i64_w, i32_w]
      rfl
     refine take_ (i := 9) (N := some 49) (v := ?_) (a' := ?_) #[true, true, true, true, true, true, true, true, true, true, false, false, false, false, false, false] rfl rfl (take_ofW HT_.out HW_.out (by kernel_rfl)) (fun _ _ _ h => h) (Or.inl ⟨by rfl, ?_⟩) hHeld ?_ ?_
     rotate_left
     ·rintro w' ⟨s0, s1, s2, s3, s4, s5, s6, s7, s8, s9, s10, s11, s12, s13, s14, s15, s16, s17, s18, s19, s20, s21, s22, s23⟩
      go_simp
      with_reducible rfl
     rotate_left
     ·simp only [Act.put, List.setIfInBounds_toArray, List.set_cons_zero, List.set_cons_succ, i64_w, i32_w]
      rfl
     refine take_ (i := 11) (N := some 51) (v := ?_) (a' := ?_) #[true, true, true, true, true, true, true, true, true, true, false, true, false, false, false, false] rfl rfl (take_ofW HT_.out HW_.out (by kernel_rfl)) (fun _ _ _ h => h) (Or.inl ⟨by rfl, ?_⟩) hHeld ?_ ?_
     rotate_left
     ·rintro w' ⟨s0, s1, s2, s3, s4, s5, s6, s7, s8, s9, s10, s11, s12, s13, s14, s15, s16, s17, s18, s19, s20, s21, s22, s23⟩
      go_simp
      with_reducible rfl
     rotate_left
     ·simp only [Act.put, List.setIfInBounds_toArray, List.set_cons_zero, List.set_cons_succ, i64_w, i32_w]
      rfl
     refine take_ (i := 12) (N := some 52) (v := ?_) (a' := ?_) #[true, true, true, true, true, true, true, true, true, true, false, true, true, false, false, false] rfl rfl (take_ofW HT_.out HW_.out (by kernel_rfl)) (fun _ _ _ h => h) (Or.inl ⟨by rfl, ?_⟩) hHeld ?_ ?_
     rotate_left
     ·rintro w' ⟨s0, s1, s2, s3, s4, s5, s6, s7, s8, s9, s10, s11, s12, s13, s14, s15, s16, s17, s18, s19, s20, s21, s22, s23⟩
      go_simp
      with_reducible rfl
     rotate_left
     ·simp only [Act.put, List.setIfInBounds_toArray, List.set_cons_zero, List.set_cons_succ, i64_w, i32_w]
      rfl
     refine one_ (i := 10) (N := some 50) #[true, true, true, true, true, true, true, true, true, true, true, true, true, false, false, false] rfl rfl (one_of HT_.out (by kernel_rfl)) (by decide) (fun K hK => ?_)
     refine goesR Try.func57 (by kernel_rfl) rfl #[.agg #[.int .i64 t471, .bool t472, .int .i64 t473, .int .i64 t474, .int .i64 t475, .int .i64 t476], .agg #[.int .i64 t477, .bool t478, .int .i64 t479, .int .i64 t480, .int .i64 t481, .int .i64 t482]] (by rfl) rfl rfl ?_
     with_reducible refine (impl_MayPut.calls t471 t472 t473 t474 t475 t476 t477 t478 t479 t480 t481 t482 t497 _ A44.out).mono ?_
     rintro e w50 ⟨rfl, hb⟩
     refine ⟨_, rfl, ?_⟩
     have n0_ := nblk BK454 hb
     have n1_ := nblk BK469 hb
     have n2_ := nblk BK470 hb
     have n3_ := nblk BK483 hb
     have n4_ := nblk BK484 hb
     have n5_ := nbs HB hb
     clear BK454 BK469 BK470 BK483 BK484 HB
     have BK454 := n0_
     have BK469 := n1_
     have BK470 := n2_
     have BK483 := n3_
     have BK484 := n4_
     have HB := n5_
     clear n0_ n1_ n2_ n3_ n4_ n5_
     (try clear hb)
     refine hK.out _ _ (c6 BK469 (c6 BK470 (c6 BK483 (c6e BK484)))) (fun hHeld => ?_)
     clear hK K
     refine norm_ (a' := ?_) ?_ ?_
     rotate_left
     ·show Act.put _ (some 50) _ = _
      simp only [Act.put, List.setIfInBounds_toArray, List.set_cons_zero, List.set_cons_succ, i64_w, i32_w]
      rfl
     refine one_ (i := 13) (N := some 53) #[true, true, true, true, true, true, true, true, true, true, true, true, true, true, false, false] rfl rfl (one_of HT_.out (by kernel_rfl)) (by decide) (fun K hK => ?_)
     refine goesR Try.func58 (by kernel_rfl) rfl #[.agg #[.int .i64 t471, .bool t472, .int .i64 t473, .int .i64 t474, .int .i64 t475, .int .i64 t476], .agg #[.int .i64 t477, .bool t478, .int .i64 t479, .int .i64 t480, .int .i64 t481, .int .i64 t482]] (by rfl) rfl rfl ?_
     with_reducible refine (spec_MayPut.calls t471 t472 t473 t474 t475 t476 t477 t478 t479 t480 t481 t482 t498 _ A45.out).mono ?_
     rintro e w51 ⟨rfl, hb⟩
     refine ⟨_, rfl, ?_⟩
     have n0_ := nblk BK454 hb
     have n1_ := nblk BK469 hb
     have n2_ := nblk BK470 hb
     have n3_ := nblk BK483 hb
     have n4_ := nblk BK484 hb
     have n5_ := nbs HB hb
     clear BK454 BK469 BK470 BK483 BK484 HB
     have BK454 := n0_
     have BK469 := n1_
     have BK470 := n2_
     have BK483 := n3_
     have BK484 := n4_
     have HB := n5_
     clear n0_ n1_ n2_ n3_ n4_ n5_
     (try clear hb)
     refine hK.out _ _ (c6 BK469 (c6 BK470 (c6 BK483 (c6e BK484)))) (fun hHeld => ?_)
     clear hK K
     refine norm_ (a' := ?_) ?_ ?_
     rotate_left
     ·show Act.put _ (some 53) _ = _
      simp only [Act.put, List.setIfInBounds_toArray, List.set_cons_zero, List.set_cons_succ, i64_w, i32_w]
      rfl
     refine pure_ (i := 14) (N := some 54) (v := ?_) (a' := ?_) #[true, true, true, true, true, true, true, true, true, true, true, true, true, true, true, false] rfl rfl (any_of HT_.out (by kernel_rfl)) (fun _ _ _ h => h) (Or.inl ⟨by rfl, ?_⟩) ?_ ?_
     rotate_left
     ·intro w'
      go_simp
      with_reducible rfl
     rotate_left
     ·simp only [Act.put, List.setIfInBounds_toArray, List.set_cons_zero, List.set_cons_succ, i64_w, i32_w]
      rfl
     refine pure_ (i := 15) (N := some 55) (v := ?_) (a' := ?_) #[true, true, true, true, true, true, true, true, true, true, true, true, true, true, true, true] rfl rfl (any_of HT_.out (by kernel_rfl)) (fun _ _ _ h => h) (Or.inl ⟨by rfl, ?_⟩) ?_ ?_
     rotate_left
     ·intro w'
      go_simp
      with_reducible rfl
     rotate_left
     ·simp only [Act.put, List.setIfInBounds_toArray, List.set_cons_zero, List.set_cons_succ, i64_w, i32_w]
      rfl
     refine done_ (done_of HT_.out (by kernel_rfl)) ?_
     try go_wp2
     go_meet
     case rel => exact ⟨_, ((t497 != t498)), (by first | rfl | (simp; done) | (simp [*]; done)), H', ⟨by first | omega | exact Nat.le_refl _⟩, ⟨by (with_reducible repeat (first | refine blk_drewN ?_ _ | refine blk_drew ?_ | refine blk_alloc ?_ _)); exact BK454.out⟩, ⟨by (with_reducible repeat (first | refine blk_drewN ?_ _ | refine blk_drew ?_ | refine blk_alloc ?_ _)); exact BK469.out⟩, ⟨by (with_reducible repeat (first | refine blk_drewN ?_ _ | refine blk_drew ?_ | refine blk_alloc ?_ _)); exact BK470.out⟩, ⟨by (with_reducible repeat (first | refine blk_drewN ?_ _ | refine blk_drew ?_ | refine blk_alloc ?_ _)); exact BK483.out⟩, ⟨by (with_reducible repeat (first | refine blk_drewN ?_ _ | refine blk_drew ?_ | refine blk_alloc ?_ _)); exact BK484.out⟩, ⟨by repeat (first | (with_reducible first | exact HB.out | apply below_alloc | apply pw_below_drewN | apply below_drew1 | refine below_set ?_ GE454.out | refine below_set ?_ GE469.out | refine below_set ?_ GE470.out | refine below_set ?_ GE483.out | refine below_set ?_ GE484.out) | exact HB.out)⟩⟩
   case rest =>
    clear HC10
    try clear c2
    try clear p2
    try clear c3
    try clear c5
    try clear c6
    try clear c7
    try clear c7b0
    try clear c7b1
    try clear c9
    try clear c20
    try clear c21
    try clear c23
    try clear c28
    try clear c29
    try clear c30
    try clear c31
    try clear c33
    try clear c34
    try clear c35
    try clear c39
    try clear c39b0
    try clear c50
    try clear c51
    try clear hcz13_0
    try clear hcz13_1
    try clear hcz13_2
    try clear hcz13_3
    try clear hcz13_4
    try clear hcz13_5
    try clear hcz15_0
    try clear hcz15_1
    try clear hcz15_2
    try clear hcz15_3
    try clear hcz15_4
    try clear hcz15_5
    try clear hcz22_0
    try clear hcz22_1
    try clear hcz22_2
    try clear hcz22_3
    try clear hcz22_4
    try clear hcz22_5
    try clear hcz24_0
    try clear hcz24_1
    try clear hcz24_2
    try clear hcz24_3
    try clear hcz24_4
    try clear hcz24_5
    try clear hcz32_0
    try clear hcz32_1
    try clear hcz32_2
    try clear hcz32_3
    try clear hcz32_4
    try clear hcz32_5
    try clear hcz36_0
    try clear hcz36_1
    try clear hcz36_2
    try clear hcz36_3
    try clear hcz36_4
    try clear hcz36_5
    try clear hfz13_0
    try clear hfz13_1
    try clear hfz13_2
    try clear hfz13_3
    try clear hfz13_4
    try clear hfz13_5
    try clear hfz15_0
    try clear hfz15_1
    try clear hfz15_2
    try clear hfz15_3
    try clear hfz15_4
    try clear hfz15_5
    try clear hfz22_0
    try clear hfz22_1
    try clear hfz22_2
    try clear hfz22_3
    try clear hfz22_4
    try clear hfz22_5
    try clear hfz24_0
    try clear hfz24_1
    try clear hfz24_2
    try clear hfz24_3
    try clear hfz24_4
    try clear hfz24_5
    try clear hfz32_0
    try clear hfz32_1
    try clear hfz32_2
    try clear hfz32_3
    try clear hfz32_4
    try clear hfz32_5
    try clear hfz36_0
    try clear hfz36_1
    try clear hfz36_2
    try clear hfz36_3
    try clear hfz36_4
    try clear hfz36_5
    obtain ⟨kq, x55_9, rfl, HA, HJ9, BK454, BK469, BK470, BK483, BK484, HB⟩ := hcut
    cases kq with
    | zero => exact absurd HA.out (by simp [laws_FnTry.j0])
    | succ kj9 =>
     have H := HA.out
     clear HA
     simp only [laws_FnTry.j0] at H
     by_cases c52 : x55_9 = true
     ·subst c52
      have H1 : (some false) = some r := by rw [if_pos rfl] at H; exact H
      clear H
      have H := H1
      clear H1
      obtain rfl := Option.some.inj H
      go_wp2
      go_ret
      exact ⟨by first | rfl | (simp [errW_none, errW_some] <;> rfl) | (simp [*, errW_none, errW_some] <;> rfl), by repeat (first | (with_reducible first | exact HB.out | apply below_alloc | apply pw_below_drewN | apply below_drew1 | refine below_set ?_ GE454.out | refine below_set ?_ GE469.out | refine below_set ?_ GE470.out | refine below_set ?_ GE483.out | refine below_set ?_ GE484.out) | exact HB.out)⟩
     ·replace c52 := Bool.eq_false_iff.mpr c52
      subst c52
      have H1 : (if t455 = 0 then (if t447 = true then (if t451 = 0 then (if t452 < t448 then (laws_FnTry.j1 kj9 t452 t453 t455 true t446 t447 t448 t449 t450 t451) else (laws_FnTry.j1 kj9 t452 t453 t455 (decide (t452 ≥ t449)) t446 t447 t448 t449 t450 t451)) else (laws_FnTry.j1 kj9 t452 t453 t455 true t446 t447 t448 t449 t450 t451)) else (laws_FnTry.j1 kj9 t452 t453 t455 true t446 t447 t448 t449 t450 t451)) else (laws_FnTry.j1 kj9 t452 t453 t455 false t446 t447 t448 t449 t450 t451)) = some r := by rw [if_neg (show ¬ (false = true) by decide)] at H; exact H
      clear H
      have H := H1
      clear H1
      have HC53 := Aside0.mk H
      clear H
      go_upto_region 11 with (fail)
      go_cut [82] (fun v82 wc => ∃ (kq : Nat) (x82_52 : Bool), v82 = .bool x82_52 ∧ Aside0 (laws_FnTry.j1 kq t452 t453 t455 x82_52 t446 t447 t448 t449 t450 t451 = some r) ∧ Aside0 (kq ≤ kj9) ∧ Aside0 (wc.heap[gb454]? = some (.cells #[.int .i64 t446, .bool t447, .int .i64 t448, .int .i64 t449, .int .i64 t450, .int .i64 t451] 27 (0, 0))) ∧ Aside0 (wc.heap[gb469]? = some (.cells #[.int .i64 t457, .bool t458, .int .i64 t459, .int .i64 t460, .int .i64 t461, .int .i64 t462] 27 (0, 0))) ∧ Aside0 (wc.heap[gb470]? = some (.cells #[.int .i64 t463, .bool t464, .int .i64 t465, .int .i64 t466, .int .i64 t467, .int .i64 t468] 27 (0, 0))) ∧ Aside0 (wc.heap[gb483]? = some (.cells #[.int .i64 t471, .bool t472, .int .i64 t473, .int .i64 t474, .int .i64 t475, .int .i64 t476] 27 (0, 0))) ∧ Aside0 (wc.heap[gb484]? = some (.cells #[.int .i64 t477, .bool t478, .int .i64 t479, .int .i64 t480, .int .i64 t481, .int .i64 t482] 27 (0, 0))) ∧ Aside0 (Below w.heap.size w wc))
      case first =>
       have H := HC53.out
       clear HC53
       by_cases c54 : t455 = 0
       ·rw [if_pos c54] at H
        have c54b0 : (t455 == 0) = true := beq_iff_eq.mpr c54
        have c54b1 : (t455 != 0) = false := bne_eq_false_iff_eq.mpr c54
        clear c54
        (first | rw [c54b0] | (simp only [i64_w, i32_w]; rw [c54b0]) | skip)
        by_cases c55 : t447 = true
        ·subst c55
         have H1 : (if t451 = 0 then (if t452 < t448 then (laws_FnTry.j1 kj9 t452 t453 t455 true t446 true t448 t449 t450 t451) else (laws_FnTry.j1 kj9 t452 t453 t455 (decide (t452 ≥ t449)) t446 true t448 t449 t450 t451)) else (laws_FnTry.j1 kj9 t452 t453 t455 true t446 true t448 t449 t450 t451)) = some r := by rw [if_pos rfl] at H; exact H
         clear H
         have H := H1
         clear H1
         by_cases c56 : t451 = 0
         ·rw [if_pos c56] at H
          have c56b0 : (t451 == 0) = true := beq_iff_eq.mpr c56
          have c56b1 : (t451 != 0) = false := bne_eq_false_iff_eq.mpr c56
          clear c56
          by_cases c57 : t452 < t448
          ·rw [if_pos c57] at H
           have c57b0 : decide (t452 < t448) = true := decide_eq_true c57
           clear c57
           have H' := Aside0.mk H
           clear H
           have hnb58 := NB454_469.out
           have hnc58 := NB469_454.out
           have hnb59 := NB454_470.out
           have hnc59 := NB470_454.out
           have hnb60 := NB454_483.out
           have hnc60 := NB483_454.out
           have hnb61 := NB454_484.out
           have hnc61 := NB484_454.out
           have hcz62_0 : wc.cell? ⟨gb454, 0, none⟩ = some (.int .i64 t446) := (blk_cell BK454.out 0).trans rfl
           have hcz62_1 : wc.cell? ⟨gb454, 1, none⟩ = some (.bool true) := (blk_cell BK454.out 1).trans rfl
           have hcz62_2 : wc.cell? ⟨gb454, 2, none⟩ = some (.int .i64 t448) := (blk_cell BK454.out 2).trans rfl
           have hcz62_3 : wc.cell? ⟨gb454, 3, none⟩ = some (.int .i64 t449) := (blk_cell BK454.out 3).trans rfl
           have hcz62_4 : wc.cell? ⟨gb454, 4, none⟩ = some (.int .i64 t450) := (blk_cell BK454.out 4).trans rfl
           have hcz62_5 : wc.cell? ⟨gb454, 5, none⟩ = some (.int .i64 t451) := (blk_cell BK454.out 5).trans rfl
           have hfz62_0 := blk_frozen BK454.out 0
           have hfz62_1 := blk_frozen BK454.out 1
           have hfz62_2 := blk_frozen BK454.out 2
           have hfz62_3 := blk_frozen BK454.out 3
           have hfz62_4 := blk_frozen BK454.out 4
           have hfz62_5 := blk_frozen BK454.out 5
           go_wp2
           go_meet
           case rel => exact ⟨_, (true), (by first | rfl | (simp; done) | (simp [*]; done)), H', ⟨by have := HJ9.out; first | omega | exact Nat.le_refl _⟩, ⟨by (with_reducible repeat (first | refine blk_drewN ?_ _ | refine blk_drew ?_ | refine blk_alloc ?_ _)); exact BK454.out⟩, ⟨by (with_reducible repeat (first | refine blk_drewN ?_ _ | refine blk_drew ?_ | refine blk_alloc ?_ _)); exact BK469.out⟩, ⟨by (with_reducible repeat (first | refine blk_drewN ?_ _ | refine blk_drew ?_ | refine blk_alloc ?_ _)); exact BK470.out⟩, ⟨by (with_reducible repeat (first | refine blk_drewN ?_ _ | refine blk_drew ?_ | refine blk_alloc ?_ _)); exact BK483.out⟩, ⟨by (with_reducible repeat (first | refine blk_drewN ?_ _ | refine blk_drew ?_ | refine blk_alloc ?_ _)); exact BK484.out⟩, ⟨by repeat (first | (with_reducible first | exact HB.out | apply below_alloc | apply pw_below_drewN | apply below_drew1 | refine below_set ?_ GE454.out | refine below_set ?_ GE469.out | refine below_set ?_ GE470.out | refine below_set ?_ GE483.out | refine below_set ?_ GE484.out) | exact HB.out)⟩⟩
          ·rw [if_neg c57] at H
           have c57b0 : decide (t452 < t448) = false := decide_eq_false c57
           clear c57
           have H' := Aside0.mk H
           clear H
           have hnb63 := NB454_469.out
           have hnc63 := NB469_454.out
           have hnb64 := NB454_470.out
           have hnc64 := NB470_454.out
           have hnb65 := NB454_483.out
           have hnc65 := NB483_454.out
           have hnb66 := NB454_484.out
           have hnc66 := NB484_454.out
           have hcz67_0 : wc.cell? ⟨gb454, 0, none⟩ = some (.int .i64 t446) := (blk_cell BK454.out 0).trans rfl
           have hcz67_1 : wc.cell? ⟨gb454, 1, none⟩ = some (.bool true) := (blk_cell BK454.out 1).trans rfl
           have hcz67_2 : wc.cell? ⟨gb454, 2, none⟩ = some (.int .i64 t448) := (blk_cell BK454.out 2).trans rfl
           have hcz67_3 : wc.cell? ⟨gb454, 3, none⟩ = some (.int .i64 t449) := (blk_cell BK454.out 3).trans rfl
           have hcz67_4 : wc.cell? ⟨gb454, 4, none⟩ = some (.int .i64 t450) := (blk_cell BK454.out 4).trans rfl
           have hcz67_5 : wc.cell? ⟨gb454, 5, none⟩ = some (.int .i64 t451) := (blk_cell BK454.out 5).trans rfl
           have hfz67_0 := blk_frozen BK454.out 0
           have hfz67_1 := blk_frozen BK454.out 1
           have hfz67_2 := blk_frozen BK454.out 2
           have hfz67_3 := blk_frozen BK454.out 3
           have hfz67_4 := blk_frozen BK454.out 4
           have hfz67_5 := blk_frozen BK454.out 5
           go_wp2
           go_meet
           case rel => exact ⟨_, (decide (t452 ≥ t449)), (by first | rfl | (simp; done) | (simp [*]; done)), H', ⟨by have := HJ9.out; first | omega | exact Nat.le_refl _⟩, ⟨by (with_reducible repeat (first | refine blk_drewN ?_ _ | refine blk_drew ?_ | refine blk_alloc ?_ _)); exact BK454.out⟩, ⟨by (with_reducible repeat (first | refine blk_drewN ?_ _ | refine blk_drew ?_ | refine blk_alloc ?_ _)); exact BK469.out⟩, ⟨by (with_reducible repeat (first | refine blk_drewN ?_ _ | refine blk_drew ?_ | refine blk_alloc ?_ _)); exact BK470.out⟩, ⟨by (with_reducible repeat (first | refine blk_drewN ?_ _ | refine blk_drew ?_ | refine blk_alloc ?_ _)); exact BK483.out⟩, ⟨by (with_reducible repeat (first | refine blk_drewN ?_ _ | refine blk_drew ?_ | refine blk_alloc ?_ _)); exact BK484.out⟩, ⟨by repeat (first | (with_reducible first | exact HB.out | apply below_alloc | apply pw_below_drewN | apply below_drew1 | refine below_set ?_ GE454.out | refine below_set ?_ GE469.out | refine below_set ?_ GE470.out | refine below_set ?_ GE483.out | refine below_set ?_ GE484.out) | exact HB.out)⟩⟩
         ·rw [if_neg c56] at H
          have c56b0 : (t451 == 0) = false := beq_eq_false_iff_ne.mpr c56
          have c56b1 : (t451 != 0) = true := bne_iff_ne.mpr c56
          have H' := Aside0.mk H
          clear H
          have hnb68 := NB454_469.out
          have hnc68 := NB469_454.out
          have hnb69 := NB454_470.out
          have hnc69 := NB470_454.out
          have hnb70 := NB454_483.out
          have hnc70 := NB483_454.out
          have hnb71 := NB454_484.out
          have hnc71 := NB484_454.out
          have hcz72_0 : wc.cell? ⟨gb454, 0, none⟩ = some (.int .i64 t446) := (blk_cell BK454.out 0).trans rfl
          have hcz72_1 : wc.cell? ⟨gb454, 1, none⟩ = some (.bool true) := (blk_cell BK454.out 1).trans rfl
          have hcz72_2 : wc.cell? ⟨gb454, 2, none⟩ = some (.int .i64 t448) := (blk_cell BK454.out 2).trans rfl
          have hcz72_3 : wc.cell? ⟨gb454, 3, none⟩ = some (.int .i64 t449) := (blk_cell BK454.out 3).trans rfl
          have hcz72_4 : wc.cell? ⟨gb454, 4, none⟩ = some (.int .i64 t450) := (blk_cell BK454.out 4).trans rfl
          have hcz72_5 : wc.cell? ⟨gb454, 5, none⟩ = some (.int .i64 t451) := (blk_cell BK454.out 5).trans rfl
          have hfz72_0 := blk_frozen BK454.out 0
          have hfz72_1 := blk_frozen BK454.out 1
          have hfz72_2 := blk_frozen BK454.out 2
          have hfz72_3 := blk_frozen BK454.out 3
          have hfz72_4 := blk_frozen BK454.out 4
          have hfz72_5 := blk_frozen BK454.out 5
          go_wp2
          go_meet
          case rel => exact ⟨_, (true), (by first | rfl | (simp; done) | (simp [*]; done)), H', ⟨by have := HJ9.out; first | omega | exact Nat.le_refl _⟩, ⟨by (with_reducible repeat (first | refine blk_drewN ?_ _ | refine blk_drew ?_ | refine blk_alloc ?_ _)); exact BK454.out⟩, ⟨by (with_reducible repeat (first | refine blk_drewN ?_ _ | refine blk_drew ?_ | refine blk_alloc ?_ _)); exact BK469.out⟩, ⟨by (with_reducible repeat (first | refine blk_drewN ?_ _ | refine blk_drew ?_ | refine blk_alloc ?_ _)); exact BK470.out⟩, ⟨by (with_reducible repeat (first | refine blk_drewN ?_ _ | refine blk_drew ?_ | refine blk_alloc ?_ _)); exact BK483.out⟩, ⟨by (with_reducible repeat (first | refine blk_drewN ?_ _ | refine blk_drew ?_ | refine blk_alloc ?_ _)); exact BK484.out⟩, ⟨by repeat (first | (with_reducible first | exact HB.out | apply below_alloc | apply pw_below_drewN | apply below_drew1 | refine below_set ?_ GE454.out | refine below_set ?_ GE469.out | refine below_set ?_ GE470.out | refine below_set ?_ GE483.out | refine below_set ?_ GE484.out) | exact HB.out)⟩⟩
        ·replace c55 := Bool.eq_false_iff.mpr c55
         subst c55
         have H1 : (laws_FnTry.j1 kj9 t452 t453 t455 true t446 false t448 t449 t450 t451) = some r := by rw [if_neg (show ¬ (false = true) by decide)] at H; exact H
         clear H
         have H := H1
         clear H1
         have H' := Aside0.mk H
         clear H
         have hnb73 := NB454_469.out
         have hnc73 := NB469_454.out
         have hnb74 := NB454_470.out
         have hnc74 := NB470_454.out
         have hnb75 := NB454_483.out
         have hnc75 := NB483_454.out
         have hnb76 := NB454_484.out
         have hnc76 := NB484_454.out
         have hcz77_0 : wc.cell? ⟨gb454, 0, none⟩ = some (.int .i64 t446) := (blk_cell BK454.out 0).trans rfl
         have hcz77_1 : wc.cell? ⟨gb454, 1, none⟩ = some (.bool false) := (blk_cell BK454.out 1).trans rfl
         have hcz77_2 : wc.cell? ⟨gb454, 2, none⟩ = some (.int .i64 t448) := (blk_cell BK454.out 2).trans rfl
         have hcz77_3 : wc.cell? ⟨gb454, 3, none⟩ = some (.int .i64 t449) := (blk_cell BK454.out 3).trans rfl
         have hcz77_4 : wc.cell? ⟨gb454, 4, none⟩ = some (.int .i64 t450) := (blk_cell BK454.out 4).trans rfl
         have hcz77_5 : wc.cell? ⟨gb454, 5, none⟩ = some (.int .i64 t451) := (blk_cell BK454.out 5).trans rfl
         have hfz77_0 := blk_frozen BK454.out 0
         have hfz77_1 := blk_frozen BK454.out 1
         have hfz77_2 := blk_frozen BK454.out 2
         have hfz77_3 := blk_frozen BK454.out 3
         have hfz77_4 := blk_frozen BK454.out 4
         have hfz77_5 := blk_frozen BK454.out 5
         go_wp2
         go_meet
         case rel => exact ⟨_, (true), (by first | rfl | (simp; done) | (simp [*]; done)), H', ⟨by have := HJ9.out; first | omega | exact Nat.le_refl _⟩, ⟨by (with_reducible repeat (first | refine blk_drewN ?_ _ | refine blk_drew ?_ | refine blk_alloc ?_ _)); exact BK454.out⟩, ⟨by (with_reducible repeat (first | refine blk_drewN ?_ _ | refine blk_drew ?_ | refine blk_alloc ?_ _)); exact BK469.out⟩, ⟨by (with_reducible repeat (first | refine blk_drewN ?_ _ | refine blk_drew ?_ | refine blk_alloc ?_ _)); exact BK470.out⟩, ⟨by (with_reducible repeat (first | refine blk_drewN ?_ _ | refine blk_drew ?_ | refine blk_alloc ?_ _)); exact BK483.out⟩, ⟨by (with_reducible repeat (first | refine blk_drewN ?_ _ | refine blk_drew ?_ | refine blk_alloc ?_ _)); exact BK484.out⟩, ⟨by repeat (first | (with_reducible first | exact HB.out | apply below_alloc | apply pw_below_drewN | apply below_drew1 | refine below_set ?_ GE454.out | refine below_set ?_ GE469.out | refine below_set ?_ GE470.out | refine below_set ?_ GE483.out | refine below_set ?_ GE484.out) | exact HB.out)⟩⟩
       ·rw [if_neg c54] at H
        have c54b0 : (t455 == 0) = false := beq_eq_false_iff_ne.mpr c54
        have c54b1 : (t455 != 0) = true := bne_iff_ne.mpr c54
        (first | rw [c54b0] | (simp only [i64_w, i32_w]; rw [c54b0]) | skip)
        have H' := Aside0.mk H
        clear H
        go_wp2
        go_meet
        case rel => exact ⟨_, (false), (by first | rfl | (simp; done) | (simp [*]; done)), H', ⟨by have := HJ9.out; first | omega | exact Nat.le_refl _⟩, ⟨by (with_reducible repeat (first | refine blk_drewN ?_ _ | refine blk_drew ?_ | refine blk_alloc ?_ _)); exact BK454.out⟩, ⟨by (with_reducible repeat (first | refine blk_drewN ?_ _ | refine blk_drew ?_ | refine blk_alloc ?_ _)); exact BK469.out⟩, ⟨by (with_reducible repeat (first | refine blk_drewN ?_ _ | refine blk_drew ?_ | refine blk_alloc ?_ _)); exact BK470.out⟩, ⟨by (with_reducible repeat (first | refine blk_drewN ?_ _ | refine blk_drew ?_ | refine blk_alloc ?_ _)); exact BK483.out⟩, ⟨by (with_reducible repeat (first | refine blk_drewN ?_ _ | refine blk_drew ?_ | refine blk_alloc ?_ _)); exact BK484.out⟩, ⟨by repeat (first | (with_reducible first | exact HB.out | apply below_alloc | apply pw_below_drewN | apply below_drew1 | refine below_set ?_ GE454.out | refine below_set ?_ GE469.out | refine below_set ?_ GE470.out | refine below_set ?_ GE483.out | refine below_set ?_ GE484.out) | exact HB.out)⟩⟩
      case rest =>
       clear HC53
       try clear c2
       try clear p2
       try clear c3
       try clear c5
       try clear c6
       try clear c7
       try clear c7b0
       try clear c7b1
       try clear c9
       try clear c20
       try clear c21
       try clear c23
       try clear c28
       try clear c29
       try clear c30
       try clear c31
       try clear c33
       try clear c34
       try clear c35
       try clear c39
       try clear c39b0
       try clear c50
       try clear c51
       try clear c52
       try clear c54
       try clear c54b0
       try clear c54b1
       try clear c55
       try clear c56
       try clear c56b0
       try clear c56b1
       try clear c57
       try clear c57b0
       try clear c58
       try clear c59
       try clear c60
       try clear c61
       try clear c63
       try clear c64
       try clear c65
       try clear c66
       try clear c68
       try clear c69
       try clear c70
       try clear c71
       try clear c73
       try clear c74
       try clear c75
       try clear c76
       try clear hcz13_0
       try clear hcz13_1
       try clear hcz13_2
       try clear hcz13_3
       try clear hcz13_4
       try clear hcz13_5
       try clear hcz15_0
       try clear hcz15_1
       try clear hcz15_2
       try clear hcz15_3
       try clear hcz15_4
       try clear hcz15_5
       try clear hcz22_0
       try clear hcz22_1
       try clear hcz22_2
       try clear hcz22_3
       try clear hcz22_4
       try clear hcz22_5
       try clear hcz24_0
       try clear hcz24_1
       try clear hcz24_2
       try clear hcz24_3
       try clear hcz24_4
       try clear hcz24_5
       try clear hcz32_0
       try clear hcz32_1
       try clear hcz32_2
       try clear hcz32_3
       try clear hcz32_4
       try clear hcz32_5
       try clear hcz36_0
       try clear hcz36_1
       try clear hcz36_2
       try clear hcz36_3
       try clear hcz36_4
       try clear hcz36_5
       try clear hcz62_0
       try clear hcz62_1
       try clear hcz62_2
       try clear hcz62_3
       try clear hcz62_4
       try clear hcz62_5
       try clear hcz67_0
       try clear hcz67_1
       try clear hcz67_2
       try clear hcz67_3
       try clear hcz67_4
       try clear hcz67_5
       try clear hcz72_0
       try clear hcz72_1
       try clear hcz72_2
       try clear hcz72_3
       try clear hcz72_4
       try clear hcz72_5
       try clear hcz77_0
       try clear hcz77_1
       try clear hcz77_2
       try clear hcz77_3
       try clear hcz77_4
       try clear hcz77_5
       try clear hfz13_0
       try clear hfz13_1
       try clear hfz13_2
       try clear hfz13_3
       try clear hfz13_4
       try clear hfz13_5
       try clear hfz15_0
       try clear hfz15_1
       try clear hfz15_2
       try clear hfz15_3
       try clear hfz15_4
       try clear hfz15_5
       try clear hfz22_0
       try clear hfz22_1
       try clear hfz22_2
       try clear hfz22_3
       try clear hfz22_4
       try clear hfz22_5
       try clear hfz24_0
       try clear hfz24_1
       try clear hfz24_2
       try clear hfz24_3
       try clear hfz24_4
       try clear hfz24_5
       try clear hfz32_0
       try clear hfz32_1
       try clear hfz32_2
       try clear hfz32_3
       try clear hfz32_4
       try clear hfz32_5
       try clear hfz36_0
       try clear hfz36_1
       try clear hfz36_2
       try clear hfz36_3
       try clear hfz36_4
       try clear hfz36_5
       try clear hfz62_0
       try clear hfz62_1
       try clear hfz62_2
       try clear hfz62_3
       try clear hfz62_4
       try clear hfz62_5
       try clear hfz67_0
       try clear hfz67_1
       try clear hfz67_2
       try clear hfz67_3
       try clear hfz67_4
       try clear hfz67_5
       try clear hfz72_0
       try clear hfz72_1
       try clear hfz72_2
       try clear hfz72_3
       try clear hfz72_4
       try clear hfz72_5
       try clear hfz77_0
       try clear hfz77_1
       try clear hfz77_2
       try clear hfz77_3
       try clear hfz77_4
       try clear hfz77_5
       try clear p2
       obtain ⟨kq, x82_52, rfl, HA, HJ52, BK454, BK469, BK470, BK483, BK484, HB⟩ := hcut
       cases kq with
       | zero => exact absurd HA.out (by simp [laws_FnTry.j1])
       | succ kj52 =>
        have H := HA.out
        clear HA
        simp only [laws_FnTry.j1] at H
        by_cases c78 : x82_52 = true
        ·subst c78
         have H1 : (some false) = some r := by rw [if_pos rfl] at H; exact H
         clear H
         have H := H1
         clear H1
         obtain rfl := Option.some.inj H
         go_wp2
         go_ret
         exact ⟨by first | rfl | (simp [errW_none, errW_some] <;> rfl) | (simp [*, errW_none, errW_some] <;> rfl), by repeat (first | (with_reducible first | exact HB.out | apply below_alloc | apply pw_below_drewN | apply below_drew1 | refine below_set ?_ GE454.out | refine below_set ?_ GE469.out | refine below_set ?_ GE470.out | refine below_set ?_ GE483.out | refine below_set ?_ GE484.out) | exact HB.out)⟩
        ·replace c78 := Bool.eq_false_iff.mpr c78
         subst c78
         have H1 : ((impl_Root.f).bind fun bt499 => ((impl_KeyWord.f kj52 bt499.1 bt499.2.1 bt499.2.2.1 bt499.2.2.2 t446).bind fun bt503 => (if t455 = 0 then ((impl_Try.f kj52 bt503.1 bt503.2.1 bt503.2.2.1 bt503.2.2.2.1 bt503.2.2.2.2.1 bt503.2.2.2.2.2 t452 t453).bind fun t510 => (if t510 = 0 then ((impl_Try.f kj52 t446 t447 t448 t449 t450 t451 t452 0).bind fun t511 => (some (t511 == 0))) else (some false))) else (some true)))) = some r := by rw [if_neg (show ¬ (false = true) by decide)] at H; exact H
         clear H
         have H := H1
         clear H1
         replace H := Option.bind_eq_some_iff.mp H
         obtain ⟨⟨t499, t500, t501, t502⟩, A790, H⟩ := H
         replace H : ((impl_KeyWord.f kj52 t499 t500 t501 t502 t446).bind fun bt503 => (if t455 = 0 then ((impl_Try.f kj52 bt503.1 bt503.2.1 bt503.2.2.1 bt503.2.2.2.1 bt503.2.2.2.2.1 bt503.2.2.2.2.2 t452 t453).bind fun t510 => (if t510 = 0 then ((impl_Try.f kj52 t446 t447 t448 t449 t450 t451 t452 0).bind fun t511 => (some (t511 == 0))) else (some false))) else (some true))) = some r := H
         have A79 := Aside0.mk A790
         clear A790
         replace H := Option.bind_eq_some_iff.mp H
         obtain ⟨⟨t503, t504, t505, t506, t507, t508⟩, A800, H⟩ := H
         replace H : (if t455 = 0 then ((impl_Try.f kj52 t503 t504 t505 t506 t507 t508 t452 t453).bind fun t510 => (if t510 = 0 then ((impl_Try.f kj52 t446 t447 t448 t449 t450 t451 t452 0).bind fun t511 => (some (t511 == 0))) else (some false))) else (some true)) = some r := H
         have A80 := Aside0.mk A800
         clear A800
         by_cases c81 : t455 = 0
         ·rw [if_pos c81] at H
          have c81b0 : (t455 == 0) = true := beq_iff_eq.mpr c81
          have c81b1 : (t455 != 0) = false := bne_eq_false_iff_eq.mpr c81
          clear c81
          replace H := Option.bind_eq_some_iff.mp H
          obtain ⟨t510, A820, H⟩ := H
          replace H : (if t510 = 0 then ((impl_Try.f kj52 t446 t447 t448 t449 t450 t451 t452 0).bind fun t511 => (some (t511 == 0))) else (some false)) = some r := H
          have A82 := Aside0.mk A820
          clear A820
          by_cases c83 : t510 = 0
          ·rw [if_pos c83] at H
           have c83b0 : (t510 == 0) = true := beq_iff_eq.mpr c83
           have c83b1 : (t510 != 0) = false := bne_eq_false_iff_eq.mpr c83
           clear c83
           replace H := Option.bind_eq_some_iff.mp H
           obtain ⟨t511, A840, H⟩ := H
           replace H : (some (t511 == 0)) = some r := H
           have A84 := Aside0.mk A840
           clear A840
           obtain rfl := Option.some.inj H
           try go_wp2
           have n0_ := Aside0.mk (blk_drew BK454.out)
           have n1_ := Aside0.mk (blk_drew BK469.out)
           have n2_ := Aside0.mk (blk_drew BK470.out)
           have n3_ := Aside0.mk (blk_drew BK483.out)
           have n4_ := Aside0.mk (blk_drew BK484.out)
           have n5_ := Aside0.mk (below_drew1 HB.out)
           clear BK454 BK469 BK470 BK483 BK484 HB
           have BK454 := n0_
           have BK469 := n1_
           have BK470 := n2_
           have BK483 := n3_
           have BK484 := n4_
           have HB := n5_
           clear n0_ n1_ n2_ n3_ n4_ n5_
           refine start_ (n := 6) (S := fun w' => w'.cell? ⟨gb454, 0, none⟩ = some (.int .i64 t446) ∧ w'.cell? ⟨gb454, 1, none⟩ = some (.bool t447) ∧ w'.cell? ⟨gb454, 2, none⟩ = some (.int .i64 t448) ∧ w'.cell? ⟨gb454, 3, none⟩ = some (.int .i64 t449) ∧ w'.cell? ⟨gb454, 4, none⟩ = some (.int .i64 t450) ∧ w'.cell? ⟨gb454, 5, none⟩ = some (.int .i64 t451)) (ds := []) #[false, false, false, false, false, false] (by kernel_rfl) rfl rfl (c6e BK454) (fun hHeld => ?_)
           generalize wc.drew = w85 at BK454 BK469 BK470 BK483 BK484 HB hHeld ⊢
           refine pure_ (i := 1) (N := some 84) (v := ?_) (a' := ?_) #[false, true, false, false, false, false] rfl rfl (by kernel_rfl) (fun _ _ _ h => h) (Or.inl ⟨by rfl, ?_⟩) ?_ ?_
           rotate_left
           ·intro w'
            go_simp
            with_reducible rfl
           rotate_left
           ·simp only [Act.put, List.setIfInBounds_toArray, List.set_cons_zero, List.set_cons_succ, i64_w, i32_w]
            rfl
           refine take_ (i := 2) (N := some 85) (v := ?_) (a' := ?_) #[false, true, true, false, false, false] rfl rfl (by kernel_rfl) (fun _ _ _ h => h) (Or.inl ⟨by rfl, ?_⟩) hHeld ?_ ?_
           rotate_left
           ·rintro w' ⟨s0, s1, s2, s3, s4, s5⟩
            go_simp
            with_reducible rfl
           rotate_left
           ·simp only [Act.put, List.setIfInBounds_toArray, List.set_cons_zero, List.set_cons_succ, i64_w, i32_w]
            rfl
           refine join_ (σ := Nat) 1 #[true, true, true, true, true, false] (fun s_ => [(83, .agg #[.int .i64 t499, .int .i64 t500, .int .i64 t501, .int .i64 t502]), (86, .agg #[.int .i64 t503, .bool t504, .int .i64 t505, .int .i64 t506, .int .i64 t507, .int .i64 t508]), (11, .pointer (some ⟨s_, 0, none⟩))]) (fun s_ w' => (w'.cell? ⟨gb454, 0, none⟩ = some (.int .i64 t446) ∧ w'.cell? ⟨gb454, 1, none⟩ = some (.bool t447) ∧ w'.cell? ⟨gb454, 2, none⟩ = some (.int .i64 t448) ∧ w'.cell? ⟨gb454, 3, none⟩ = some (.int .i64 t449) ∧ w'.cell? ⟨gb454, 4, none⟩ = some (.int .i64 t450) ∧ w'.cell? ⟨gb454, 5, none⟩ = some (.int .i64 t451)) ∧ (w'.heap[gb454]? = some (.cells #[.int .i64 t446, .bool t447, .int .i64 t448, .int .i64 t449, .int .i64 t450, .int .i64 t451] 27 (0, 0))) ∧ (w'.heap[gb469]? = some (.cells #[.int .i64 t457, .bool t458, .int .i64 t459, .int .i64 t460, .int .i64 t461, .int .i64 t462] 27 (0, 0))) ∧ (w'.heap[gb470]? = some (.cells #[.int .i64 t463, .bool t464, .int .i64 t465, .int .i64 t466, .int .i64 t467, .int .i64 t468] 27 (0, 0))) ∧ (w'.heap[gb483]? = some (.cells #[.int .i64 t471, .bool t472, .int .i64 t473, .int .i64 t474, .int .i64 t475, .int .i64 t476] 27 (0, 0))) ∧ (w'.heap[gb484]? = some (.cells #[.int .i64 t477, .bool t478, .int .i64 t479, .int .i64 t480, .int .i64 t481, .int .i64 t482] 27 (0, 0))) ∧ (w'.heap[s_]? = some (.cells #[.int .i64 0, .bool false, .int .i64 0, .int .i64 0, .int .i64 0, .int .i64 0] 27 (0, 0))) ∧ (w.heap.size ≤ s_) ∧ (w.heap.size ≤ s_) ∧ (gb454 ≠ s_) ∧ (s_ ≠ gb454) ∧ (gb469 ≠ s_) ∧ (s_ ≠ gb469) ∧ (gb470 ≠ s_) ∧ (s_ ≠ gb470) ∧ (gb483 ≠ s_) ∧ (s_ ≠ gb483) ∧ (gb484 ≠ s_) ∧ (s_ ≠ gb484) ∧ (Below w.heap.size w w')) ?_ ?_
           rotate_left
           ·intro hCont
            refine two_ (i := 0) (j := 4) (Ni := some 83) (Nj := some 11) #[true, true, true, false, false, false] #[false, true, true, false, true, false] rfl rfl rfl rfl (by kernel_rfl) (by decide) (by decide) (fun K hK => ?_) (fun K hK => ?_)
            ·skip
             refine goesR Try.func36 (by kernel_rfl) rfl #[] (by rfl) rfl rfl ?_
             with_reducible refine (impl_Root.calls  t499 t500 t501 t502 _ A79.out).mono ?_
             rintro e w86 ⟨rfl, hb⟩
             refine ⟨_, rfl, ?_⟩
             have n0_ := nblk BK454 hb
             have n1_ := nblk BK469 hb
             have n2_ := nblk BK470 hb
             have n3_ := nblk BK483 hb
             have n4_ := nblk BK484 hb
             have n5_ := nbs HB hb
             clear BK454 BK469 BK470 BK483 BK484 HB
             have BK454 := n0_
             have BK469 := n1_
             have BK470 := n2_
             have BK483 := n3_
             have BK484 := n4_
             have HB := n5_
             clear n0_ n1_ n2_ n3_ n4_ n5_
             (try clear hb)
             refine hK.out _ _ (c6e BK454) (fun hHeld => ?_)
             clear hK K
             refine norm_ (a' := ?_) ?_ ?_
             rotate_left
             ·show Act.put _ (some 83) _ = _
              simp only [Act.put, List.setIfInBounds_toArray, List.set_cons_zero, List.set_cons_succ, i64_w, i32_w]
              rfl
             refine two_ (i := 3) (j := 4) (Ni := some 86) (Nj := some 11) #[true, true, true, true, false, false] #[true, true, true, false, true, false] rfl rfl rfl rfl (by kernel_rfl) (by decide) (by decide) (fun K hK => ?_) (fun K hK => ?_)
             ·skip
              refine goesR Try.func46 (by kernel_rfl) rfl #[.agg #[.int .i64 t499, .int .i64 t500, .int .i64 t501, .int .i64 t502], .int .i64 t446] (by rfl) rfl rfl ?_
              with_reducible refine (impl_KeyWord.calls kj52 t499 t500 t501 t502 t446 t503 t504 t505 t506 t507 t508 _ A80.out).mono ?_
              rintro e w87 ⟨rfl, hb⟩
              refine ⟨_, rfl, ?_⟩
              have n0_ := nblk BK454 hb
              have n1_ := nblk BK469 hb
              have n2_ := nblk BK470 hb
              have n3_ := nblk BK483 hb
              have n4_ := nblk BK484 hb
              have n5_ := nbs HB hb
              clear BK454 BK469 BK470 BK483 BK484 HB
              have BK454 := n0_
              have BK469 := n1_
              have BK470 := n2_
              have BK483 := n3_
              have BK484 := n4_
              have HB := n5_
              clear n0_ n1_ n2_ n3_ n4_ n5_
              (try clear hb)
              refine hK.out _ _ (c6e BK454) (fun hHeld => ?_)
              clear hK K
              refine norm_ (a' := ?_) ?_ ?_
              rotate_left
              ·show Act.put _ (some 86) _ = _
               simp only [Act.put, List.setIfInBounds_toArray, List.set_cons_zero, List.set_cons_succ, i64_w, i32_w]
               rfl
              refine one_ (i := 4) (N := some 11) #[true, true, true, true, true, false] rfl rfl (by kernel_rfl) (by decide) (fun K hK => ?_)
              refine box_step ?hg (N := 11) ?hd (cs := #[.int .i64 0, .bool false, .int .i64 0, .int .i64 0, .int .i64 0, .int .i64 0]) (t := 27) ?hr ?_; (case hd => rfl); (case hg => rfl); (case hr => first | (go_simp; done) | (go_simp; rfl))
              intro gb509 hg w88 hbox hb
              have n0_ := nblk BK454 hb
              have n1_ := nblk BK469 hb
              have n2_ := nblk BK470 hb
              have n3_ := nblk BK483 hb
              have n4_ := nblk BK484 hb
              have n5_ := nbs HB hb
              have n6_ := Aside0.mk (hbox)
              have n7_ := nge HB hg
              have n8_ := nge HB hg
              have n9_ := nlt BK454 hg
              have n10_ := ngt BK454 hg
              have n11_ := nlt BK469 hg
              have n12_ := ngt BK469 hg
              have n13_ := nlt BK470 hg
              have n14_ := ngt BK470 hg
              have n15_ := nlt BK483 hg
              have n16_ := ngt BK483 hg
              have n17_ := nlt BK484 hg
              have n18_ := ngt BK484 hg
              clear BK454 BK469 BK470 BK483 BK484 HB
              have BK454 := n0_
              have BK469 := n1_
              have BK470 := n2_
              have BK483 := n3_
              have BK484 := n4_
              have HB := n5_
              have BK509 := n6_
              have GW509 := n7_
              have GE509 := n8_
              have NB454_509 := n9_
              have NB509_454 := n10_
              have NB469_509 := n11_
              have NB509_469 := n12_
              have NB470_509 := n13_
              have NB509_470 := n14_
              have NB483_509 := n15_
              have NB509_483 := n16_
              have NB484_509 := n17_
              have NB509_484 := n18_
              clear n0_ n1_ n2_ n3_ n4_ n5_ n6_ n7_ n8_ n9_ n10_ n11_ n12_ n13_ n14_ n15_ n16_ n17_ n18_
              clear hb hbox hg
              refine hK.out _ _ (c6e BK454) (fun hHeld => ?_)
              clear hK K
              refine norm_ (a' := ?_) ?_ ?_
              rotate_left
              ·show Act.put _ (some 11) _ = _
               simp only [Act.put, List.setIfInBounds_toArray, List.set_cons_zero, List.set_cons_succ, i64_w, i32_w]
               rfl
              exact norm_ (by simp only [putAll, Act.put, List.setIfInBounds_toArray, List.set_cons_zero, List.set_cons_succ]) (hCont (gb509) _ ⟨hHeld, (nb BK454), (nb BK469), (nb BK470), (nb BK483), (nb BK484), (nb BK509), GW509.out, GE509.out, NB454_509.out, NB509_454.out, NB469_509.out, NB509_469.out, NB470_509.out, NB509_470.out, NB483_509.out, NB509_483.out, NB484_509.out, NB509_484.out, (by repeat (first | (with_reducible first | exact HB.out | apply below_alloc | apply pw_below_drewN | apply below_drew1 | refine below_set ?_ GE454.out | refine below_set ?_ GE469.out | refine below_set ?_ GE470.out | refine below_set ?_ GE483.out | refine below_set ?_ GE484.out | refine below_set ?_ GE509.out) | exact HB.out))⟩)
             ·skip
              refine box_step ?hg (N := 11) ?hd (cs := #[.int .i64 0, .bool false, .int .i64 0, .int .i64 0, .int .i64 0, .int .i64 0]) (t := 27) ?hr ?_; (case hd => rfl); (case hg => rfl); (case hr => first | (go_simp; done) | (go_simp; rfl))
              intro gb509 hg w87 hbox hb
              have n0_ := nblk BK454 hb
              have n1_ := nblk BK469 hb
              have n2_ := nblk BK470 hb
              have n3_ := nblk BK483 hb
              have n4_ := nblk BK484 hb
              have n5_ := nbs HB hb
              have n6_ := Aside0.mk (hbox)
              have n7_ := nge HB hg
              have n8_ := nge HB hg
              have n9_ := nlt BK454 hg
              have n10_ := ngt BK454 hg
              have n11_ := nlt BK469 hg
              have n12_ := ngt BK469 hg
              have n13_ := nlt BK470 hg
              have n14_ := ngt BK470 hg
              have n15_ := nlt BK483 hg
              have n16_ := ngt BK483 hg
              have n17_ := nlt BK484 hg
              have n18_ := ngt BK484 hg
              clear BK454 BK469 BK470 BK483 BK484 HB
              have BK454 := n0_
              have BK469 := n1_
              have BK470 := n2_
              have BK483 := n3_
              have BK484 := n4_
              have HB := n5_
              have BK509 := n6_
              have GW509 := n7_
              have GE509 := n8_
              have NB454_509 := n9_
              have NB509_454 := n10_
              have NB469_509 := n11_
              have NB509_469 := n12_
              have NB470_509 := n13_
              have NB509_470 := n14_
              have NB483_509 := n15_
              have NB509_483 := n16_
              have NB484_509 := n17_
              have NB509_484 := n18_
              clear n0_ n1_ n2_ n3_ n4_ n5_ n6_ n7_ n8_ n9_ n10_ n11_ n12_ n13_ n14_ n15_ n16_ n17_ n18_
              clear hb hbox hg
              refine hK.out _ _ (c6e BK454) (fun hHeld => ?_)
              clear hK K
              refine norm_ (a' := ?_) ?_ ?_
              rotate_left
              ·show Act.put _ (some 11) _ = _
               simp only [Act.put, List.setIfInBounds_toArray, List.set_cons_zero, List.set_cons_succ, i64_w, i32_w]
               rfl
              refine one_ (i := 3) (N := some 86) #[true, true, true, true, true, false] rfl rfl (by kernel_rfl) (by decide) (fun K hK => ?_)
              refine goesR Try.func46 (by kernel_rfl) rfl #[.agg #[.int .i64 t499, .int .i64 t500, .int .i64 t501, .int .i64 t502], .int .i64 t446] (by rfl) rfl rfl ?_
              with_reducible refine (impl_KeyWord.calls kj52 t499 t500 t501 t502 t446 t503 t504 t505 t506 t507 t508 _ A80.out).mono ?_
              rintro e w88 ⟨rfl, hb⟩
              refine ⟨_, rfl, ?_⟩
              have n0_ := nblk BK454 hb
              have n1_ := nblk BK469 hb
              have n2_ := nblk BK470 hb
              have n3_ := nblk BK483 hb
              have n4_ := nblk BK484 hb
              have n5_ := nblk BK509 hb
              have n6_ := nbs HB hb
              clear BK454 BK469 BK470 BK483 BK484 BK509 HB
              have BK454 := n0_
              have BK469 := n1_
              have BK470 := n2_
              have BK483 := n3_
              have BK484 := n4_
              have BK509 := n5_
              have HB := n6_
              clear n0_ n1_ n2_ n3_ n4_ n5_ n6_
              (try clear hb)
              refine hK.out _ _ (c6e BK454) (fun hHeld => ?_)
              clear hK K
              refine norm_ (a' := ?_) ?_ ?_
              rotate_left
              ·show Act.put _ (some 86) _ = _
               simp only [Act.put, List.setIfInBounds_toArray, List.set_cons_zero, List.set_cons_succ, i64_w, i32_w]
               rfl
              exact norm_ (by simp only [putAll, Act.put, List.setIfInBounds_toArray, List.set_cons_zero, List.set_cons_succ]) (hCont (gb509) _ ⟨hHeld, (nb BK454), (nb BK469), (nb BK470), (nb BK483), (nb BK484), (nb BK509), GW509.out, GE509.out, NB454_509.out, NB509_454.out, NB469_509.out, NB509_469.out, NB470_509.out, NB509_470.out, NB483_509.out, NB509_483.out, NB484_509.out, NB509_484.out, (by repeat (first | (with_reducible first | exact HB.out | apply below_alloc | apply pw_below_drewN | apply below_drew1 | refine below_set ?_ GE454.out | refine below_set ?_ GE469.out | refine below_set ?_ GE470.out | refine below_set ?_ GE483.out | refine below_set ?_ GE484.out | refine below_set ?_ GE509.out) | exact HB.out))⟩)
            ·skip
             refine box_step ?hg (N := 11) ?hd (cs := #[.int .i64 0, .bool false, .int .i64 0, .int .i64 0, .int .i64 0, .int .i64 0]) (t := 27) ?hr ?_; (case hd => rfl); (case hg => rfl); (case hr => first | (go_simp; done) | (go_simp; rfl))
             intro gb509 hg w86 hbox hb
             have n0_ := nblk BK454 hb
             have n1_ := nblk BK469 hb
             have n2_ := nblk BK470 hb
             have n3_ := nblk BK483 hb
             have n4_ := nblk BK484 hb
             have n5_ := nbs HB hb
             have n6_ := Aside0.mk (hbox)
             have n7_ := nge HB hg
             have n8_ := nge HB hg
             have n9_ := nlt BK454 hg
             have n10_ := ngt BK454 hg
             have n11_ := nlt BK469 hg
             have n12_ := ngt BK469 hg
             have n13_ := nlt BK470 hg
             have n14_ := ngt BK470 hg
             have n15_ := nlt BK483 hg
             have n16_ := ngt BK483 hg
             have n17_ := nlt BK484 hg
             have n18_ := ngt BK484 hg
             clear BK454 BK469 BK470 BK483 BK484 HB
             have BK454 := n0_
             have BK469 := n1_
             have BK470 := n2_
             have BK483 := n3_
             have BK484 := n4_
             have HB := n5_
             have BK509 := n6_
             have GW509 := n7_
             have GE509 := n8_
             have NB454_509 := n9_
             have NB509_454 := n10_
             have NB469_509 := n11_
             have NB509_469 := n12_
             have NB470_509 := n13_
             have NB509_470 := n14_
             have NB483_509 := n15_
             have NB509_483 := n16_
             have NB484_509 := n17_
             have NB509_484 := n18_
             clear n0_ n1_ n2_ n3_ n4_ n5_ n6_ n7_ n8_ n9_ n10_ n11_ n12_ n13_ n14_ n15_ n16_ n17_ n18_
             clear hb hbox hg
             refine hK.out _ _ (c6e BK454) (fun hHeld => ?_)
             clear hK K
             refine norm_ (a' := ?_) ?_ ?_
             rotate_left
             ·show Act.put _ (some 11) _ = _
              simp only [Act.put, List.setIfInBounds_toArray, List.set_cons_zero, List.set_cons_succ, i64_w, i32_w]
              rfl
             refine one_ (i := 0) (N := some 83) #[true, true, true, false, true, false] rfl rfl (by kernel_rfl) (by decide) (fun K hK => ?_)
             refine goesR Try.func36 (by kernel_rfl) rfl #[] (by rfl) rfl rfl ?_
             with_reducible refine (impl_Root.calls  t499 t500 t501 t502 _ A79.out).mono ?_
             rintro e w87 ⟨rfl, hb⟩
             refine ⟨_, rfl, ?_⟩
             have n0_ := nblk BK454 hb
             have n1_ := nblk BK469 hb
             have n2_ := nblk BK470 hb
             have n3_ := nblk BK483 hb
             have n4_ := nblk BK484 hb
             have n5_ := nblk BK509 hb
             have n6_ := nbs HB hb
             clear BK454 BK469 BK470 BK483 BK484 BK509 HB
             have BK454 := n0_
             have BK469 := n1_
             have BK470 := n2_
             have BK483 := n3_
             have BK484 := n4_
             have BK509 := n5_
             have HB := n6_
             clear n0_ n1_ n2_ n3_ n4_ n5_ n6_
             (try clear hb)
             refine hK.out _ _ (c6e BK454) (fun hHeld => ?_)
             clear hK K
             refine norm_ (a' := ?_) ?_ ?_
             rotate_left
             ·show Act.put _ (some 83) _ = _
              simp only [Act.put, List.setIfInBounds_toArray, List.set_cons_zero, List.set_cons_succ, i64_w, i32_w]
              rfl
             refine one_ (i := 3) (N := some 86) #[true, true, true, true, true, false] rfl rfl (by kernel_rfl) (by decide) (fun K hK => ?_)
             refine goesR Try.func46 (by kernel_rfl) rfl #[.agg #[.int .i64 t499, .int .i64 t500, .int .i64 t501, .int .i64 t502], .int .i64 t446] (by rfl) rfl rfl ?_
             with_reducible refine (impl_KeyWord.calls kj52 t499 t500 t501 t502 t446 t503 t504 t505 t506 t507 t508 _ A80.out).mono ?_
             rintro e w88 ⟨rfl, hb⟩
             refine ⟨_, rfl, ?_⟩
             have n0_ := nblk BK454 hb
             have n1_ := nblk BK469 hb
             have n2_ := nblk BK470 hb
             have n3_ := nblk BK483 hb
             have n4_ := nblk BK484 hb
             have n5_ := nblk BK509 hb
             have n6_ := nbs HB hb
             clear BK454 BK469 BK470 BK483 BK484 BK509 HB
             have BK454 := n0_
             have BK469 := n1_
             have BK470 := n2_
             have BK483 := n3_
             have BK484 := n4_
             have BK509 := n5_
             have HB := n6_
             clear n0_ n1_ n2_ n3_ n4_ n5_ n6_
             (try clear hb)
             refine hK.out _ _ (c6e BK454) (fun hHeld => ?_)
             clear hK K
             refine norm_ (a' := ?_) ?_ ?_
             rotate_left
             ·show Act.put _ (some 86) _ = _
              simp only [Act.put, List.setIfInBounds_toArray, List.set_cons_zero, List.set_cons_succ, i64_w, i32_w]
              rfl
             exact norm_ (by simp only [putAll, Act.put, List.setIfInBounds_toArray, List.set_cons_zero, List.set_cons_succ]) (hCont (gb509) _ ⟨hHeld, (nb BK454), (nb BK469), (nb BK470), (nb BK483), (nb BK484), (nb BK509), GW509.out, GE509.out, NB454_509.out, NB509_454.out, NB469_509.out, NB509_469.out, NB470_509.out, NB509_470.out, NB483_509.out, NB509_483.out, NB484_509.out, NB509_484.out, (by repeat (first | (with_reducible first | exact HB.out | apply below_alloc | apply pw_below_drewN | apply below_drew1 | refine below_set ?_ GE454.out | refine below_set ?_ GE469.out | refine below_set ?_ GE470.out | refine below_set ?_ GE483.out | refine below_set ?_ GE484.out | refine below_set ?_ GE509.out) | exact HB.out))⟩)
           rintro gb509 w89 ⟨hS_, h0_, h1_, h2_, h3_, h4_, h5_, h6_, h7_, h8_, h9_, h10_, h11_, h12_, h13_, h14_, h15_, h16_, h17_, h18_⟩
           have n0_ : Aside0 (w89.heap[gb454]? = some (.cells #[.int .i64 t446, .bool t447, .int .i64 t448, .int .i64 t449, .int .i64 t450, .int .i64 t451] 27 (0, 0))) := ⟨h0_⟩
           have n1_ : Aside0 (w89.heap[gb469]? = some (.cells #[.int .i64 t457, .bool t458, .int .i64 t459, .int .i64 t460, .int .i64 t461, .int .i64 t462] 27 (0, 0))) := ⟨h1_⟩
           have n2_ : Aside0 (w89.heap[gb470]? = some (.cells #[.int .i64 t463, .bool t464, .int .i64 t465, .int .i64 t466, .int .i64 t467, .int .i64 t468] 27 (0, 0))) := ⟨h2_⟩
           have n3_ : Aside0 (w89.heap[gb483]? = some (.cells #[.int .i64 t471, .bool t472, .int .i64 t473, .int .i64 t474, .int .i64 t475, .int .i64 t476] 27 (0, 0))) := ⟨h3_⟩
           have n4_ : Aside0 (w89.heap[gb484]? = some (.cells #[.int .i64 t477, .bool t478, .int .i64 t479, .int .i64 t480, .int .i64 t481, .int .i64 t482] 27 (0, 0))) := ⟨h4_⟩
           have n5_ : Aside0 (w89.heap[gb509]? = some (.cells #[.int .i64 0, .bool false, .int .i64 0, .int .i64 0, .int .i64 0, .int .i64 0] 27 (0, 0))) := ⟨h5_⟩
           have n6_ : Aside0 (w.heap.size ≤ gb509) := ⟨h6_⟩
           have n7_ : Aside0 (w.heap.size ≤ gb509) := ⟨h7_⟩
           have n8_ : Aside0 (gb454 ≠ gb509) := ⟨h8_⟩
           have n9_ : Aside0 (gb509 ≠ gb454) := ⟨h9_⟩
           have n10_ : Aside0 (gb469 ≠ gb509) := ⟨h10_⟩
           have n11_ : Aside0 (gb509 ≠ gb469) := ⟨h11_⟩
           have n12_ : Aside0 (gb470 ≠ gb509) := ⟨h12_⟩
           have n13_ : Aside0 (gb509 ≠ gb470) := ⟨h13_⟩
           have n14_ : Aside0 (gb483 ≠ gb509) := ⟨h14_⟩
           have n15_ : Aside0 (gb509 ≠ gb483) := ⟨h15_⟩
           have n16_ : Aside0 (gb484 ≠ gb509) := ⟨h16_⟩
           have n17_ : Aside0 (gb509 ≠ gb484) := ⟨h17_⟩
           have n18_ : Aside0 (Below w.heap.size w w89) := ⟨h18_⟩
           clear BK454 BK469 BK470 BK483 BK484 HB
           clear h0_ h1_ h2_ h3_ h4_ h5_ h6_ h7_ h8_ h9_ h10_ h11_ h12_ h13_ h14_ h15_ h16_ h17_ h18_
           have BK454 := n0_
           have BK469 := n1_
           have BK470 := n2_
           have BK483 := n3_
           have BK484 := n4_
           have BK509 := n5_
           have GW509 := n6_
           have GE509 := n7_
           have NB454_509 := n8_
           have NB509_454 := n9_
           have NB469_509 := n10_
           have NB509_469 := n11_
           have NB470_509 := n12_
           have NB509_470 := n13_
           have NB483_509 := n14_
           have NB509_483 := n15_
           have NB484_509 := n16_
           have NB509_484 := n17_
           have HB := n18_
           clear n0_ n1_ n2_ n3_ n4_ n5_ n6_ n7_ n8_ n9_ n10_ n11_ n12_ n13_ n14_ n15_ n16_ n17_ n18_
           have hHeld : w89.cell? ⟨gb454, 0, none⟩ = some (.int .i64 t446) ∧ w89.cell? ⟨gb454, 1, none⟩ = some (.bool t447) ∧ w89.cell? ⟨gb454, 2, none⟩ = some (.int .i64 t448) ∧ w89.cell? ⟨gb454, 3, none⟩ = some (.int .i64 t449) ∧ w89.cell? ⟨gb454, 4, none⟩ = some (.int .i64 t450) ∧ w89.cell? ⟨gb454, 5, none⟩ = some (.int .i64 t451) := hS_
           refine norm_ (a' := ?_) ?_ ?_
           rotate_left
           ·simp only [putAll, Act.put, List.setIfInBounds_toArray, List.set_cons_zero, List.set_cons_succ]
            rfl
           refine one_ (i := 5) (N := none) #[true, true, true, true, true, true] rfl rfl (by kernel_rfl) (by decide) (fun K hK => ?_)
           have hs90 : w89.cell? ⟨gb509, 0, none⟩ = some (.int .i64 0) := (blk_cell BK509.out 0).trans rfl
           have hfs90 := blk_frozen BK509.out 0
           have hns90_0 := NB454_509.out
           have hns90_1 := NB469_509.out
           have hns90_2 := NB470_509.out
           have hns90_3 := NB483_509.out
           have hns90_4 := NB484_509.out
           have hms90_0 := NB509_454.out
           have hms90_1 := NB509_469.out
           have hms90_2 := NB509_470.out
           have hms90_3 := NB509_483.out
           have hms90_4 := NB509_484.out
           have hs91 : w89.cell? ⟨gb509, 1, none⟩ = some (.bool false) := (blk_cell BK509.out 1).trans rfl
           have hfs91 := blk_frozen BK509.out 1
           have hns91_0 := NB454_509.out
           have hns91_1 := NB469_509.out
           have hns91_2 := NB470_509.out
           have hns91_3 := NB483_509.out
           have hns91_4 := NB484_509.out
           have hms91_0 := NB509_454.out
           have hms91_1 := NB509_469.out
           have hms91_2 := NB509_470.out
           have hms91_3 := NB509_483.out
           have hms91_4 := NB509_484.out
           have hs92 : w89.cell? ⟨gb509, 2, none⟩ = some (.int .i64 0) := (blk_cell BK509.out 2).trans rfl
           have hfs92 := blk_frozen BK509.out 2
           have hns92_0 := NB454_509.out
           have hns92_1 := NB469_509.out
           have hns92_2 := NB470_509.out
           have hns92_3 := NB483_509.out
           have hns92_4 := NB484_509.out
           have hms92_0 := NB509_454.out
           have hms92_1 := NB509_469.out
           have hms92_2 := NB509_470.out
           have hms92_3 := NB509_483.out
           have hms92_4 := NB509_484.out
           have hs93 : w89.cell? ⟨gb509, 3, none⟩ = some (.int .i64 0) := (blk_cell BK509.out 3).trans rfl
           have hfs93 := blk_frozen BK509.out 3
           have hns93_0 := NB454_509.out
           have hns93_1 := NB469_509.out
           have hns93_2 := NB470_509.out
           have hns93_3 := NB483_509.out
           have hns93_4 := NB484_509.out
           have hms93_0 := NB509_454.out
           have hms93_1 := NB509_469.out
           have hms93_2 := NB509_470.out
           have hms93_3 := NB509_483.out
           have hms93_4 := NB509_484.out
           have hs94 : w89.cell? ⟨gb509, 4, none⟩ = some (.int .i64 0) := (blk_cell BK509.out 4).trans rfl
           have hfs94 := blk_frozen BK509.out 4
           have hns94_0 := NB454_509.out
           have hns94_1 := NB469_509.out
           have hns94_2 := NB470_509.out
           have hns94_3 := NB483_509.out
           have hns94_4 := NB484_509.out
           have hms94_0 := NB509_454.out
           have hms94_1 := NB509_469.out
           have hms94_2 := NB509_470.out
           have hms94_3 := NB509_483.out
           have hms94_4 := NB509_484.out
           have hs95 : w89.cell? ⟨gb509, 5, none⟩ = some (.int .i64 0) := (blk_cell BK509.out 5).trans rfl
           have hfs95 := blk_frozen BK509.out 5
           have hns95_0 := NB454_509.out
           have hns95_1 := NB469_509.out
           have hns95_2 := NB470_509.out
           have hns95_3 := NB483_509.out
           have hns95_4 := NB484_509.out
           have hms95_0 := NB509_454.out
           have hms95_1 := NB509_469.out
           have hms95_2 := NB509_470.out
           have hms95_3 := NB509_483.out
           have hms95_4 := NB509_484.out
           refine skip_ (w1 := ?_) (by rfl) rfl ?_ ?_
           rotate_left
           ·go_simp
            rfl
           refine hK.out _ _ ⟨(g6 NB454_509.out hHeld.1), (g6 NB454_509.out hHeld.2.1), (g6 NB454_509.out hHeld.2.2.1), (g6 NB454_509.out hHeld.2.2.2.1), (g6 NB454_509.out hHeld.2.2.2.2.1), (g6 NB454_509.out hHeld.2.2.2.2.2)⟩ (fun hHeld => ?_)
           clear hK K
           refine done_ (by kernel_rfl) ?_
           have hnb96 := NB509_454.out
           have hnc96 := NB454_509.out
           have hnb97 := NB509_469.out
           have hnc97 := NB469_509.out
           have hnb98 := NB509_470.out
           have hnc98 := NB470_509.out
           have hnb99 := NB509_483.out
           have hnc99 := NB483_509.out
           have hnb100 := NB509_484.out
           have hnc100 := NB484_509.out
           have hcz101_0 : w89.cell? ⟨gb509, 0, none⟩ = some (.int .i64 0) := (blk_cell BK509.out 0).trans rfl
           have hcz101_1 : w89.cell? ⟨gb509, 1, none⟩ = some (.bool false) := (blk_cell BK509.out 1).trans rfl
           have hcz101_2 : w89.cell? ⟨gb509, 2, none⟩ = some (.int .i64 0) := (blk_cell BK509.out 2).trans rfl
           have hcz101_3 : w89.cell? ⟨gb509, 3, none⟩ = some (.int .i64 0) := (blk_cell BK509.out 3).trans rfl
           have hcz101_4 : w89.cell? ⟨gb509, 4, none⟩ = some (.int .i64 0) := (blk_cell BK509.out 4).trans rfl
           have hcz101_5 : w89.cell? ⟨gb509, 5, none⟩ = some (.int .i64 0) := (blk_cell BK509.out 5).trans rfl
           have hfz101_0 := blk_frozen BK509.out 0
           have hfz101_1 := blk_frozen BK509.out 1
           have hfz101_2 := blk_frozen BK509.out 2
           have hfz101_3 := blk_frozen BK509.out 3
           have hfz101_4 := blk_frozen BK509.out 4
           have hfz101_5 := blk_frozen BK509.out 5
           try go_wp2_with (first | (go_at_call 51; (with_reducible refine (impl_Try.calls kj52 t503 t504 t505 t506 t507 t508 t452 t453 t510 _ A82.out).mono ?_); rintro e w102 ⟨rfl, hb⟩; have n0_ := nblk BK454 hb; have n1_ := nblk BK469 hb; have n2_ := nblk BK470 hb; have n3_ := nblk BK483 hb; have n4_ := nblk BK484 hb; have n5_ := Aside0.mk (blk_below (g := gb509) (o := .cells #[.int .i64 t503, .bool t504, .int .i64 t505, .int .i64 t506, .int .i64 t507, .int .i64 t508] 27 (0, 0)) (by (with_reducible repeat (first | refine blk_drewN ?_ _ | refine blk_drew ?_ | refine blk_alloc ?_ _)); refine blk_put (cs := #[.int .i64 t503, .bool t504, .int .i64 t505, .int .i64 t506, .int .i64 t507, .int .i64 0]) ?_ 5 _ rfl; (with_reducible repeat (first | refine blk_drewN ?_ _ | refine blk_drew ?_ | refine blk_alloc ?_ _)); refine blk_put (cs := #[.int .i64 t503, .bool t504, .int .i64 t505, .int .i64 t506, .int .i64 0, .int .i64 0]) ?_ 4 _ rfl; (with_reducible repeat (first | refine blk_drewN ?_ _ | refine blk_drew ?_ | refine blk_alloc ?_ _)); refine blk_put (cs := #[.int .i64 t503, .bool t504, .int .i64 t505, .int .i64 0, .int .i64 0, .int .i64 0]) ?_ 3 _ rfl; (with_reducible repeat (first | refine blk_drewN ?_ _ | refine blk_drew ?_ | refine blk_alloc ?_ _)); refine blk_put (cs := #[.int .i64 t503, .bool t504, .int .i64 0, .int .i64 0, .int .i64 0, .int .i64 0]) ?_ 2 _ rfl; (with_reducible repeat (first | refine blk_drewN ?_ _ | refine blk_drew ?_ | refine blk_alloc ?_ _)); refine blk_put (cs := #[.int .i64 t503, .bool false, .int .i64 0, .int .i64 0, .int .i64 0, .int .i64 0]) ?_ 1 _ rfl; (with_reducible repeat (first | refine blk_drewN ?_ _ | refine blk_drew ?_ | refine blk_alloc ?_ _)); refine blk_put (cs := #[.int .i64 0, .bool false, .int .i64 0, .int .i64 0, .int .i64 0, .int .i64 0]) ?_ 0 _ rfl; (with_reducible repeat (first | refine blk_drewN ?_ _ | refine blk_drew ?_ | refine blk_alloc ?_ _)); exact BK509.out) hb); have n6_ := nbs HB hb; clear BK454 BK469 BK470 BK483 BK484 BK509 HB; have BK454 := n0_; have BK469 := n1_; have BK470 := n2_; have BK483 := n3_; have BK484 := n4_; have BK509 := n5_; have HB := n6_; clear n0_ n1_ n2_ n3_ n4_ n5_ n6_; (try clear hb); have hnb103 := NB454_469.out; have hnc103 := NB469_454.out; have hnb104 := NB454_470.out; have hnc104 := NB470_454.out; have hnb105 := NB454_483.out; have hnc105 := NB483_454.out; have hnb106 := NB454_484.out; have hnc106 := NB484_454.out; have hcz107_0 : w102.cell? ⟨gb454, 0, none⟩ = some (.int .i64 t446) := (blk_cell BK454.out 0).trans rfl; have hcz107_1 : w102.cell? ⟨gb454, 1, none⟩ = some (.bool t447) := (blk_cell BK454.out 1).trans rfl; have hcz107_2 : w102.cell? ⟨gb454, 2, none⟩ = some (.int .i64 t448) := (blk_cell BK454.out 2).trans rfl; have hcz107_3 : w102.cell? ⟨gb454, 3, none⟩ = some (.int .i64 t449) := (blk_cell BK454.out 3).trans rfl; have hcz107_4 : w102.cell? ⟨gb454, 4, none⟩ = some (.int .i64 t450) := (blk_cell BK454.out 4).trans rfl; have hcz107_5 : w102.cell? ⟨gb454, 5, none⟩ = some (.int .i64 t451) := (blk_cell BK454.out 5).trans rfl; have hfz107_0 := blk_frozen BK454.out 0; have hfz107_1 := blk_frozen BK454.out 1; have hfz107_2 := blk_frozen BK454.out 2; have hfz107_3 := blk_frozen BK454.out 3; have hfz107_4 := blk_frozen BK454.out 4; have hfz107_5 := blk_frozen BK454.out 5) | (go_at_call 51; (with_reducible refine (impl_Try.calls kj52 t446 t447 t448 t449 t450 t451 t452 0 t511 _ A84.out).mono ?_); rintro e w108 ⟨rfl, hb⟩; have n0_ := nblk BK454 hb; have n1_ := nblk BK469 hb; have n2_ := nblk BK470 hb; have n3_ := nblk BK483 hb; have n4_ := nblk BK484 hb; have n5_ := nblk BK509 hb; have n6_ := nbs HB hb; clear BK454 BK469 BK470 BK483 BK484 BK509 HB; have BK454 := n0_; have BK469 := n1_; have BK470 := n2_; have BK483 := n3_; have BK484 := n4_; have BK509 := n5_; have HB := n6_; clear n0_ n1_ n2_ n3_ n4_ n5_ n6_; (try clear hb)))
           go_ret
           exact ⟨by first | rfl | (simp [errW_none, errW_some] <;> rfl) | (simp [*, errW_none, errW_some] <;> rfl), by repeat (first | (with_reducible first | exact HB.out | apply below_alloc | apply pw_below_drewN | apply below_drew1 | refine below_set ?_ GE454.out | refine below_set ?_ GE469.out | refine below_set ?_ GE470.out | refine below_set ?_ GE483.out | refine below_set ?_ GE484.out | refine below_set ?_ GE509.out) | exact HB.out)⟩
          ·rw [if_neg c83] at H
           have c83b0 : (t510 == 0) = false := beq_eq_false_iff_ne.mpr c83
           have c83b1 : (t510 != 0) = true := bne_iff_ne.mpr c83
           obtain rfl := Option.some.inj H
           try go_wp2
           have n0_ := Aside0.mk (blk_drew BK454.out)
           have n1_ := Aside0.mk (blk_drew BK469.out)
           have n2_ := Aside0.mk (blk_drew BK470.out)
           have n3_ := Aside0.mk (blk_drew BK483.out)
           have n4_ := Aside0.mk (blk_drew BK484.out)
           have n5_ := Aside0.mk (below_drew1 HB.out)
           clear BK454 BK469 BK470 BK483 BK484 HB
           have BK454 := n0_
           have BK469 := n1_
           have BK470 := n2_
           have BK483 := n3_
           have BK484 := n4_
           have HB := n5_
           clear n0_ n1_ n2_ n3_ n4_ n5_
           refine start_ (n := 6) (S := fun w' => w'.cell? ⟨gb454, 0, none⟩ = some (.int .i64 t446) ∧ w'.cell? ⟨gb454, 1, none⟩ = some (.bool t447) ∧ w'.cell? ⟨gb454, 2, none⟩ = some (.int .i64 t448) ∧ w'.cell? ⟨gb454, 3, none⟩ = some (.int .i64 t449) ∧ w'.cell? ⟨gb454, 4, none⟩ = some (.int .i64 t450) ∧ w'.cell? ⟨gb454, 5, none⟩ = some (.int .i64 t451)) (ds := []) #[false, false, false, false, false, false] (by kernel_rfl) rfl rfl (c6e BK454) (fun hHeld => ?_)
           generalize wc.drew = w109 at BK454 BK469 BK470 BK483 BK484 HB hHeld ⊢
           refine pure_ (i := 1) (N := some 84) (v := ?_) (a' := ?_) #[false, true, false, false, false, false] rfl rfl (by kernel_rfl) (fun _ _ _ h => h) (Or.inl ⟨by rfl, ?_⟩) ?_ ?_
           rotate_left
           ·intro w'
            go_simp
            with_reducible rfl
           rotate_left
           ·simp only [Act.put, List.setIfInBounds_toArray, List.set_cons_zero, List.set_cons_succ, i64_w, i32_w]
            rfl
           refine take_ (i := 2) (N := some 85) (v := ?_) (a' := ?_) #[false, true, true, false, false, false] rfl rfl (by kernel_rfl) (fun _ _ _ h => h) (Or.inl ⟨by rfl, ?_⟩) hHeld ?_ ?_
           rotate_left
           ·rintro w' ⟨s0, s1, s2, s3, s4, s5⟩
            go_simp
            with_reducible rfl
           rotate_left
           ·simp only [Act.put, List.setIfInBounds_toArray, List.set_cons_zero, List.set_cons_succ, i64_w, i32_w]
            rfl
           refine join_ (σ := Nat) 1 #[true, true, true, true, true, false] (fun s_ => [(83, .agg #[.int .i64 t499, .int .i64 t500, .int .i64 t501, .int .i64 t502]), (86, .agg #[.int .i64 t503, .bool t504, .int .i64 t505, .int .i64 t506, .int .i64 t507, .int .i64 t508]), (11, .pointer (some ⟨s_, 0, none⟩))]) (fun s_ w' => (w'.cell? ⟨gb454, 0, none⟩ = some (.int .i64 t446) ∧ w'.cell? ⟨gb454, 1, none⟩ = some (.bool t447) ∧ w'.cell? ⟨gb454, 2, none⟩ = some (.int .i64 t448) ∧ w'.cell? ⟨gb454, 3, none⟩ = some (.int .i64 t449) ∧ w'.cell? ⟨gb454, 4, none⟩ = some (.int .i64 t450) ∧ w'.cell? ⟨gb454, 5, none⟩ = some (.int .i64 t451)) ∧ (w'.heap[gb454]? = some (.cells #[.int .i64 t446, .bool t447, .int .i64 t448, .int .i64 t449, .int .i64 t450, .int .i64 t451] 27 (0, 0))) ∧ (w'.heap[gb469]? = some (.cells #[.int .i64 t457, .bool t458, .int .i64 t459, .int .i64 t460, .int .i64 t461, .int .i64 t462] 27 (0, 0))) ∧ (w'.heap[gb470]? = some (.cells #[.int .i64 t463, .bool t464, .int .i64 t465, .int .i64 t466, .int .i64 t467, .int .i64 t468] 27 (0, 0))) ∧ (w'.heap[gb483]? = some (.cells #[.int .i64 t471, .bool t472, .int .i64 t473, .int .i64 t474, .int .i64 t475, .int .i64 t476] 27 (0, 0))) ∧ (w'.heap[gb484]? = some (.cells #[.int .i64 t477, .bool t478, .int .i64 t479, .int .i64 t480, .int .i64 t481, .int .i64 t482] 27 (0, 0))) ∧ (w'.heap[s_]? = some (.cells #[.int .i64 0, .bool false, .int .i64 0, .int .i64 0, .int .i64 0, .int .i64 0] 27 (0, 0))) ∧ (w.heap.size ≤ s_) ∧ (w.heap.size ≤ s_) ∧ (gb454 ≠ s_) ∧ (s_ ≠ gb454) ∧ (gb469 ≠ s_) ∧ (s_ ≠ gb469) ∧ (gb470 ≠ s_) ∧ (s_ ≠ gb470) ∧ (gb483 ≠ s_) ∧ (s_ ≠ gb483) ∧ (gb484 ≠ s_) ∧ (s_ ≠ gb484) ∧ (Below w.heap.size w w')) ?_ ?_
           rotate_left
           ·intro hCont
            refine two_ (i := 0) (j := 4) (Ni := some 83) (Nj := some 11) #[true, true, true, false, false, false] #[false, true, true, false, true, false] rfl rfl rfl rfl (by kernel_rfl) (by decide) (by decide) (fun K hK => ?_) (fun K hK => ?_)
            ·skip
             refine goesR Try.func36 (by kernel_rfl) rfl #[] (by rfl) rfl rfl ?_
             with_reducible refine (impl_Root.calls  t499 t500 t501 t502 _ A79.out).mono ?_
             rintro e w110 ⟨rfl, hb⟩
             refine ⟨_, rfl, ?_⟩
             have n0_ := nblk BK454 hb
             have n1_ := nblk BK469 hb
             have n2_ := nblk BK470 hb
             have n3_ := nblk BK483 hb
             have n4_ := nblk BK484 hb
             have n5_ := nbs HB hb
             clear BK454 BK469 BK470 BK483 BK484 HB
             have BK454 := n0_
             have BK469 := n1_
             have BK470 := n2_
             have BK483 := n3_
             have BK484 := n4_
             have HB := n5_
             clear n0_ n1_ n2_ n3_ n4_ n5_
             (try clear hb)
             refine hK.out _ _ (c6e BK454) (fun hHeld => ?_)
             clear hK K
             refine norm_ (a' := ?_) ?_ ?_
             rotate_left
             ·show Act.put _ (some 83) _ = _
              simp only [Act.put, List.setIfInBounds_toArray, List.set_cons_zero, List.set_cons_succ, i64_w, i32_w]
              rfl
             refine two_ (i := 3) (j := 4) (Ni := some 86) (Nj := some 11) #[true, true, true, true, false, false] #[true, true, true, false, true, false] rfl rfl rfl rfl (by kernel_rfl) (by decide) (by decide) (fun K hK => ?_) (fun K hK => ?_)
             ·skip
              refine goesR Try.func46 (by kernel_rfl) rfl #[.agg #[.int .i64 t499, .int .i64 t500, .int .i64 t501, .int .i64 t502], .int .i64 t446] (by rfl) rfl rfl ?_
              with_reducible refine (impl_KeyWord.calls kj52 t499 t500 t501 t502 t446 t503 t504 t505 t506 t507 t508 _ A80.out).mono ?_
              rintro e w111 ⟨rfl, hb⟩
              refine ⟨_, rfl, ?_⟩
              have n0_ := nblk BK454 hb
              have n1_ := nblk BK469 hb
              have n2_ := nblk BK470 hb
              have n3_ := nblk BK483 hb
              have n4_ := nblk BK484 hb
              have n5_ := nbs HB hb
              clear BK454 BK469 BK470 BK483 BK484 HB
              have BK454 := n0_
              have BK469 := n1_
              have BK470 := n2_
              have BK483 := n3_
              have BK484 := n4_
              have HB := n5_
              clear n0_ n1_ n2_ n3_ n4_ n5_
              (try clear hb)
              refine hK.out _ _ (c6e BK454) (fun hHeld => ?_)
              clear hK K
              refine norm_ (a' := ?_) ?_ ?_
              rotate_left
              ·show Act.put _ (some 86) _ = _
               simp only [Act.put, List.setIfInBounds_toArray, List.set_cons_zero, List.set_cons_succ, i64_w, i32_w]
               rfl
              refine one_ (i := 4) (N := some 11) #[true, true, true, true, true, false] rfl rfl (by kernel_rfl) (by decide) (fun K hK => ?_)
              refine box_step ?hg (N := 11) ?hd (cs := #[.int .i64 0, .bool false, .int .i64 0, .int .i64 0, .int .i64 0, .int .i64 0]) (t := 27) ?hr ?_; (case hd => rfl); (case hg => rfl); (case hr => first | (go_simp; done) | (go_simp; rfl))
              intro gb509 hg w112 hbox hb
              have n0_ := nblk BK454 hb
              have n1_ := nblk BK469 hb
              have n2_ := nblk BK470 hb
              have n3_ := nblk BK483 hb
              have n4_ := nblk BK484 hb
              have n5_ := nbs HB hb
              have n6_ := Aside0.mk (hbox)
              have n7_ := nge HB hg
              have n8_ := nge HB hg
              have n9_ := nlt BK454 hg
              have n10_ := ngt BK454 hg
              have n11_ := nlt BK469 hg
              have n12_ := ngt BK469 hg
              have n13_ := nlt BK470 hg
              have n14_ := ngt BK470 hg
              have n15_ := nlt BK483 hg
              have n16_ := ngt BK483 hg
              have n17_ := nlt BK484 hg
              have n18_ := ngt BK484 hg
              clear BK454 BK469 BK470 BK483 BK484 HB
              have BK454 := n0_
              have BK469 := n1_
              have BK470 := n2_
              have BK483 := n3_
              have BK484 := n4_
              have HB := n5_
              have BK509 := n6_
              have GW509 := n7_
              have GE509 := n8_
              have NB454_509 := n9_
              have NB509_454 := n10_
              have NB469_509 := n11_
              have NB509_469 := n12_
              have NB470_509 := n13_
              have NB509_470 := n14_
              have NB483_509 := n15_
              have NB509_483 := n16_
              have NB484_509 := n17_
              have NB509_484 := n18_
              clear n0_ n1_ n2_ n3_ n4_ n5_ n6_ n7_ n8_ n9_ n10_ n11_ n12_ n13_ n14_ n15_ n16_ n17_ n18_
              clear hb hbox hg
              refine hK.out _ _ (c6e BK454) (fun hHeld => ?_)
              clear hK K
              refine norm_ (a' := ?_) ?_ ?_
              rotate_left
              ·show Act.put _ (some 11) _ = _
               simp only [Act.put, List.setIfInBounds_toArray, List.set_cons_zero, List.set_cons_succ, i64_w, i32_w]
               rfl
              exact norm_ (by simp only [putAll, Act.put, List.setIfInBounds_toArray, List.set_cons_zero, List.set_cons_succ]) (hCont (gb509) _ ⟨hHeld, (nb BK454), (nb BK469), (nb BK470), (nb BK483), (nb BK484), (nb BK509), GW509.out, GE509.out, NB454_509.out, NB509_454.out, NB469_509.out, NB509_469.out, NB470_509.out, NB509_470.out, NB483_509.out, NB509_483.out, NB484_509.out, NB509_484.out, (by repeat (first | (with_reducible first | exact HB.out | apply below_alloc | apply pw_below_drewN | apply below_drew1 | refine below_set ?_ GE454.out | refine below_set ?_ GE469.out | refine below_set ?_ GE470.out | refine below_set ?_ GE483.out | refine below_set ?_ GE484.out | refine below_set ?_ GE509.out) | exact HB.out))⟩)
             ·skip
              refine box_step ?hg (N := 11) ?hd (cs := #[.int .i64 0, .bool false, .int .i64 0, .int .i64 0, .int .i64 0, .int .i64 0]) (t := 27) ?hr ?_; (case hd => rfl); (case hg => rfl); (case hr => first | (go_simp; done) | (go_simp; rfl))
              intro gb509 hg w111 hbox hb
              have n0_ := nblk BK454 hb
              have n1_ := nblk BK469 hb
              have n2_ := nblk BK470 hb
              have n3_ := nblk BK483 hb
              have n4_ := nblk BK484 hb
              have n5_ := nbs HB hb
              have n6_ := Aside0.mk (hbox)
              have n7_ := nge HB hg
              have n8_ := nge HB hg
              have n9_ := nlt BK454 hg
              have n10_ := ngt BK454 hg
              have n11_ := nlt BK469 hg
              have n12_ := ngt BK469 hg
              have n13_ := nlt BK470 hg
              have n14_ := ngt BK470 hg
              have n15_ := nlt BK483 hg
              have n16_ := ngt BK483 hg
              have n17_ := nlt BK484 hg
              have n18_ := ngt BK484 hg
              clear BK454 BK469 BK470 BK483 BK484 HB
              have BK454 := n0_
              have BK469 := n1_
              have BK470 := n2_
              have BK483 := n3_
              have BK484 := n4_
              have HB := n5_
              have BK509 := n6_
              have GW509 := n7_
              have GE509 := n8_
              have NB454_509 := n9_
              have NB509_454 := n10_
              have NB469_509 := n11_
              have NB509_469 := n12_
              have NB470_509 := n13_
              have NB509_470 := n14_
              have NB483_509 := n15_
              have NB509_483 := n16_
              have NB484_509 := n17_
              have NB509_484 := n18_
              clear n0_ n1_ n2_ n3_ n4_ n5_ n6_ n7_ n8_ n9_ n10_ n11_ n12_ n13_ n14_ n15_ n16_ n17_ n18_
              clear hb hbox hg
              refine hK.out _ _ (c6e BK454) (fun hHeld => ?_)
              clear hK K
              refine norm_ (a' := ?_) ?_ ?_
              rotate_left
              ·show Act.put _ (some 11) _ = _
               simp only [Act.put, List.setIfInBounds_toArray, List.set_cons_zero, List.set_cons_succ, i64_w, i32_w]
               rfl
              refine one_ (i := 3) (N := some 86) #[true, true, true, true, true, false] rfl rfl (by kernel_rfl) (by decide) (fun K hK => ?_)
              refine goesR Try.func46 (by kernel_rfl) rfl #[.agg #[.int .i64 t499, .int .i64 t500, .int .i64 t501, .int .i64 t502], .int .i64 t446] (by rfl) rfl rfl ?_
              with_reducible refine (impl_KeyWord.calls kj52 t499 t500 t501 t502 t446 t503 t504 t505 t506 t507 t508 _ A80.out).mono ?_
              rintro e w112 ⟨rfl, hb⟩
              refine ⟨_, rfl, ?_⟩
              have n0_ := nblk BK454 hb
              have n1_ := nblk BK469 hb
              have n2_ := nblk BK470 hb
              have n3_ := nblk BK483 hb
              have n4_ := nblk BK484 hb
              have n5_ := nblk BK509 hb
              have n6_ := nbs HB hb
              clear BK454 BK469 BK470 BK483 BK484 BK509 HB
              have BK454 := n0_
              have BK469 := n1_
              have BK470 := n2_
              have BK483 := n3_
              have BK484 := n4_
              have BK509 := n5_
              have HB := n6_
              clear n0_ n1_ n2_ n3_ n4_ n5_ n6_
              (try clear hb)
              refine hK.out _ _ (c6e BK454) (fun hHeld => ?_)
              clear hK K
              refine norm_ (a' := ?_) ?_ ?_
              rotate_left
              ·show Act.put _ (some 86) _ = _
               simp only [Act.put, List.setIfInBounds_toArray, List.set_cons_zero, List.set_cons_succ, i64_w, i32_w]
               rfl
              exact norm_ (by simp only [putAll, Act.put, List.setIfInBounds_toArray, List.set_cons_zero, List.set_cons_succ]) (hCont (gb509) _ ⟨hHeld, (nb BK454), (nb BK469), (nb BK470), (nb BK483), (nb BK484), (nb BK509), GW509.out, GE509.out, NB454_509.out, NB509_454.out, NB469_509.out, NB509_469.out, NB470_509.out, NB509_470.out, NB483_509.out, NB509_483.out, NB484_509.out, NB509_484.out, (by repeat (first | (with_reducible first | exact HB.out | apply below_alloc | apply pw_below_drewN | apply below_drew1 | refine below_set ?_ GE454.out | refine below_set ?_ GE469.out | refine below_set ?_ GE470.out | refine below_set ?_ GE483.out | refine below_set ?_ GE484.out | refine below_set ?_ GE509.out) | exact HB.out))⟩)
            ·skip
             refine box_step ?hg (N := 11) ?hd (cs := #[.int .i64 0, .bool false, .int .i64 0, .int .i64 0, .int .i64 0, .int .i64 0]) (t := 27) ?hr ?_; (case hd => rfl); (case hg => rfl); (case hr => first | (go_simp; done) | (go_simp; rfl))
             intro gb509 hg w110 hbox hb
             have n0_ := nblk BK454 hb
             have n1_ := nblk BK469 hb
             have n2_ := nblk BK470 hb
             have n3_ := nblk BK483 hb
             have n4_ := nblk BK484 hb
             have n5_ := nbs HB hb
             have n6_ := Aside0.mk (hbox)
             have n7_ := nge HB hg
             have n8_ := nge HB hg
             have n9_ := nlt BK454 hg
             have n10_ := ngt BK454 hg
             have n11_ := nlt BK469 hg
             have n12_ := ngt BK469 hg
             have n13_ := nlt BK470 hg
             have n14_ := ngt BK470 hg
             have n15_ := nlt BK483 hg
             have n16_ := ngt BK483 hg
             have n17_ := nlt BK484 hg
             have n18_ := ngt BK484 hg
             clear BK454 BK469 BK470 BK483 BK484 HB
             have BK454 := n0_
             have BK469 := n1_
             have BK470 := n2_
             have BK483 := n3_
             have BK484 := n4_
             have HB := n5_
             have BK509 := n6_
             have GW509 := n7_
             have GE509 := n8_
             have NB454_509 := n9_
             have NB509_454 := n10_
             have NB469_509 := n11_
             have NB509_469 := n12_
             have NB470_509 := n13_
             have NB509_470 := n14_
             have NB483_509 := n15_
             have NB509_483 := n16_
             have NB484_509 := n17_
             have NB509_484 := n18_
             clear n0_ n1_ n2_ n3_ n4_ n5_ n6_ n7_ n8_ n9_ n10_ n11_ n12_ n13_ n14_ n15_ n16_ n17_ n18_
             clear hb hbox hg
             refine hK.out _ _ (c6e BK454) (fun hHeld => ?_)
             clear hK K
             refine norm_ (a' := ?_) ?_ ?_
             rotate_left
             ·show Act.put _ (some 11) _ = _
              simp only [Act.put, List.setIfInBounds_toArray, List.set_cons_zero, List.set_cons_succ, i64_w, i32_w]
              rfl
             refine one_ (i := 0) (N := some 83) #[true, true, true, false, true, false] rfl rfl (by kernel_rfl) (by decide) (fun K hK => ?_)
             refine goesR Try.func36 (by kernel_rfl) rfl #[] (by rfl) rfl rfl ?_
             with_reducible refine (impl_Root.calls  t499 t500 t501 t502 _ A79.out).mono ?_
             rintro e w111 ⟨rfl, hb⟩
             refine ⟨_, rfl, ?_⟩
             have n0_ := nblk BK454 hb
             have n1_ := nblk BK469 hb
             have n2_ := nblk BK470 hb
             have n3_ := nblk BK483 hb
             have n4_ := nblk BK484 hb
             have n5_ := nblk BK509 hb
             have n6_ := nbs HB hb
             clear BK454 BK469 BK470 BK483 BK484 BK509 HB
             have BK454 := n0_
             have BK469 := n1_
             have BK470 := n2_
             have BK483 := n3_
             have BK484 := n4_
             have BK509 := n5_
             have HB := n6_
             clear n0_ n1_ n2_ n3_ n4_ n5_ n6_
             (try clear hb)
             refine hK.out _ _ (c6e BK454) (fun hHeld => ?_)
             clear hK K
             refine norm_ (a' := ?_) ?_ ?_
             rotate_left
             ·show Act.put _ (some 83) _ = _
              simp only [Act.put, List.setIfInBounds_toArray, List.set_cons_zero, List.set_cons_succ, i64_w, i32_w]
              rfl
             refine one_ (i := 3) (N := some 86) #[true, true, true, true, true, false] rfl rfl (by kernel_rfl) (by decide) (fun K hK => ?_)
             refine goesR Try.func46 (by kernel_rfl) rfl #[.agg #[.int .i64 t499, .int .i64 t500, .int .i64 t501, .int .i64 t502], .int .i64 t446] (by rfl) rfl rfl ?_
             with_reducible refine (impl_KeyWord.calls kj52 t499 t500 t501 t502 t446 t503 t504 t505 t506 t507 t508 _ A80.out).mono ?_
             rintro e w112 ⟨rfl, hb⟩
             refine ⟨_, rfl, ?_⟩
             have n0_ := nblk BK454 hb
             have n1_ := nblk BK469 hb
             have n2_ := nblk BK470 hb
             have n3_ := nblk BK483 hb
             have n4_ := nblk BK484 hb
             have n5_ := nblk BK509 hb
             have n6_ := nbs HB hb
             clear BK454 BK469 BK470 BK483 BK484 BK509 HB
             have BK454 := n0_
             have BK469 := n1_
             have BK470 := n2_
             have BK483 := n3_
             have BK484 := n4_
             have BK509 := n5_
             have HB := n6_
             clear n0_ n1_ n2_ n3_ n4_ n5_ n6_
             (try clear hb)
             refine hK.out _ _ (c6e BK454) (fun hHeld => ?_)
             clear hK K
             refine norm_ (a' := ?_) ?_ ?_
             rotate_left
             ·show Act.put _ (some 86) _ = _
              simp only [Act.put, List.setIfInBounds_toArray, List.set_cons_zero, List.set_cons_succ, i64_w, i32_w]
              rfl
             exact norm_ (by simp only [putAll, Act.put, List.setIfInBounds_toArray, List.set_cons_zero, List.set_cons_succ]) (hCont (gb509) _ ⟨hHeld, (nb BK454), (nb BK469), (nb BK470), (nb BK483), (nb BK484), (nb BK509), GW509.out, GE509.out, NB454_509.out, NB509_454.out, NB469_509.out, NB509_469.out, NB470_509.out, NB509_470.out, NB483_509.out, NB509_483.out, NB484_509.out, NB509_484.out, (by repeat (first | (with_reducible first | exact HB.out | apply below_alloc | apply pw_below_drewN | apply below_drew1 | refine below_set ?_ GE454.out | refine below_set ?_ GE469.out | refine below_set ?_ GE470.out | refine below_set ?_ GE483.out | refine below_set ?_ GE484.out | refine below_set ?_ GE509.out) | exact HB.out))⟩)
           rintro gb509 w113 ⟨hS_, h0_, h1_, h2_, h3_, h4_, h5_, h6_, h7_, h8_, h9_, h10_, h11_, h12_, h13_, h14_, h15_, h16_, h17_, h18_⟩
           have n0_ : Aside0 (w113.heap[gb454]? = some (.cells #[.int .i64 t446, .bool t447, .int .i64 t448, .int .i64 t449, .int .i64 t450, .int .i64 t451] 27 (0, 0))) := ⟨h0_⟩
           have n1_ : Aside0 (w113.heap[gb469]? = some (.cells #[.int .i64 t457, .bool t458, .int .i64 t459, .int .i64 t460, .int .i64 t461, .int .i64 t462] 27 (0, 0))) := ⟨h1_⟩
           have n2_ : Aside0 (w113.heap[gb470]? = some (.cells #[.int .i64 t463, .bool t464, .int .i64 t465, .int .i64 t466, .int .i64 t467, .int .i64 t468] 27 (0, 0))) := ⟨h2_⟩
           have n3_ : Aside0 (w113.heap[gb483]? = some (.cells #[.int .i64 t471, .bool t472, .int .i64 t473, .int .i64 t474, .int .i64 t475, .int .i64 t476] 27 (0, 0))) := ⟨h3_⟩
           have n4_ : Aside0 (w113.heap[gb484]? = some (.cells #[.int .i64 t477, .bool t478, .int .i64 t479, .int .i64 t480, .int .i64 t481, .int .i64 t482] 27 (0, 0))) := ⟨h4_⟩
           have n5_ : Aside0 (w113.heap[gb509]? = some (.cells #[.int .i64 0, .bool false, .int .i64 0, .int .i64 0, .int .i64 0, .int .i64 0] 27 (0, 0))) := ⟨h5_⟩
           have n6_ : Aside0 (w.heap.size ≤ gb509) := ⟨h6_⟩
           have n7_ : Aside0 (w.heap.size ≤ gb509) := ⟨h7_⟩
           have n8_ : Aside0 (gb454 ≠ gb509) := ⟨h8_⟩
           have n9_ : Aside0 (gb509 ≠ gb454) := ⟨h9_⟩
           have n10_ : Aside0 (gb469 ≠ gb509) := ⟨h10_⟩
           have n11_ : Aside0 (gb509 ≠ gb469) := ⟨h11_⟩
           have n12_ : Aside0 (gb470 ≠ gb509) := ⟨h12_⟩
           have n13_ : Aside0 (gb509 ≠ gb470) := ⟨h13_⟩
           have n14_ : Aside0 (gb483 ≠ gb509) := ⟨h14_⟩
           have n15_ : Aside0 (gb509 ≠ gb483) := ⟨h15_⟩
           have n16_ : Aside0 (gb484 ≠ gb509) := ⟨h16_⟩
           have n17_ : Aside0 (gb509 ≠ gb484) := ⟨h17_⟩
           have n18_ : Aside0 (Below w.heap.size w w113) := ⟨h18_⟩
           clear BK454 BK469 BK470 BK483 BK484 HB
           clear h0_ h1_ h2_ h3_ h4_ h5_ h6_ h7_ h8_ h9_ h10_ h11_ h12_ h13_ h14_ h15_ h16_ h17_ h18_
           have BK454 := n0_
           have BK469 := n1_
           have BK470 := n2_
           have BK483 := n3_
           have BK484 := n4_
           have BK509 := n5_
           have GW509 := n6_
           have GE509 := n7_
           have NB454_509 := n8_
           have NB509_454 := n9_
           have NB469_509 := n10_
           have NB509_469 := n11_
           have NB470_509 := n12_
           have NB509_470 := n13_
           have NB483_509 := n14_
           have NB509_483 := n15_
           have NB484_509 := n16_
           have NB509_484 := n17_
           have HB := n18_
           clear n0_ n1_ n2_ n3_ n4_ n5_ n6_ n7_ n8_ n9_ n10_ n11_ n12_ n13_ n14_ n15_ n16_ n17_ n18_
           have hHeld : w113.cell? ⟨gb454, 0, none⟩ = some (.int .i64 t446) ∧ w113.cell? ⟨gb454, 1, none⟩ = some (.bool t447) ∧ w113.cell? ⟨gb454, 2, none⟩ = some (.int .i64 t448) ∧ w113.cell? ⟨gb454, 3, none⟩ = some (.int .i64 t449) ∧ w113.cell? ⟨gb454, 4, none⟩ = some (.int .i64 t450) ∧ w113.cell? ⟨gb454, 5, none⟩ = some (.int .i64 t451) := hS_
           refine norm_ (a' := ?_) ?_ ?_
           rotate_left
           ·simp only [putAll, Act.put, List.setIfInBounds_toArray, List.set_cons_zero, List.set_cons_succ]
            rfl
           refine one_ (i := 5) (N := none) #[true, true, true, true, true, true] rfl rfl (by kernel_rfl) (by decide) (fun K hK => ?_)
           have hs114 : w113.cell? ⟨gb509, 0, none⟩ = some (.int .i64 0) := (blk_cell BK509.out 0).trans rfl
           have hfs114 := blk_frozen BK509.out 0
           have hns114_0 := NB454_509.out
           have hns114_1 := NB469_509.out
           have hns114_2 := NB470_509.out
           have hns114_3 := NB483_509.out
           have hns114_4 := NB484_509.out
           have hms114_0 := NB509_454.out
           have hms114_1 := NB509_469.out
           have hms114_2 := NB509_470.out
           have hms114_3 := NB509_483.out
           have hms114_4 := NB509_484.out
           have hs115 : w113.cell? ⟨gb509, 1, none⟩ = some (.bool false) := (blk_cell BK509.out 1).trans rfl
           have hfs115 := blk_frozen BK509.out 1
           have hns115_0 := NB454_509.out
           have hns115_1 := NB469_509.out
           have hns115_2 := NB470_509.out
           have hns115_3 := NB483_509.out
           have hns115_4 := NB484_509.out
           have hms115_0 := NB509_454.out
           have hms115_1 := NB509_469.out
           have hms115_2 := NB509_470.out
           have hms115_3 := NB509_483.out
           have hms115_4 := NB509_484.out
           have hs116 : w113.cell? ⟨gb509, 2, none⟩ = some (.int .i64 0) := (blk_cell BK509.out 2).trans rfl
           have hfs116 := blk_frozen BK509.out 2
           have hns116_0 := NB454_509.out
           have hns116_1 := NB469_509.out
           have hns116_2 := NB470_509.out
           have hns116_3 := NB483_509.out
           have hns116_4 := NB484_509.out
           have hms116_0 := NB509_454.out
           have hms116_1 := NB509_469.out
           have hms116_2 := NB509_470.out
           have hms116_3 := NB509_483.out
           have hms116_4 := NB509_484.out
           have hs117 : w113.cell? ⟨gb509, 3, none⟩ = some (.int .i64 0) := (blk_cell BK509.out 3).trans rfl
           have hfs117 := blk_frozen BK509.out 3
           have hns117_0 := NB454_509.out
           have hns117_1 := NB469_509.out
           have hns117_2 := NB470_509.out
           have hns117_3 := NB483_509.out
           have hns117_4 := NB484_509.out
           have hms117_0 := NB509_454.out
           have hms117_1 := NB509_469.out
           have hms117_2 := NB509_470.out
           have hms117_3 := NB509_483.out
           have hms117_4 := NB509_484.out
           have hs118 : w113.cell? ⟨gb509, 4, none⟩ = some (.int .i64 0) := (blk_cell BK509.out 4).trans rfl
           have hfs118 := blk_frozen BK509.out 4
           have hns118_0 := NB454_509.out
           have hns118_1 := NB469_509.out
           have hns118_2 := NB470_509.out
           have hns118_3 := NB483_509.out
           have hns118_4 := NB484_509.out
           have hms118_0 := NB509_454.out
           have hms118_1 := NB509_469.out
           have hms118_2 := NB509_470.out
           have hms118_3 := NB509_483.out
           have hms118_4 := NB509_484.out
           have hs119 : w113.cell? ⟨gb509, 5, none⟩ = some (.int .i64 0) := (blk_cell BK509.out 5).trans rfl
           have hfs119 := blk_frozen BK509.out 5
           have hns119_0 := NB454_509.out
           have hns119_1 := NB469_509.out
           have hns119_2 := NB470_509.out
           have hns119_3 := NB483_509.out
           have hns119_4 := NB484_509.out
           have hms119_0 := NB509_454.out
           have hms119_1 := NB509_469.out
           have hms119_2 := NB509_470.out
           have hms119_3 := NB509_483.out
           have hms119_4 := NB509_484.out
           refine skip_ (w1 := ?_) (by rfl) rfl ?_ ?_
           rotate_left
           ·go_simp
            rfl
           refine hK.out _ _ ⟨(g6 NB454_509.out hHeld.1), (g6 NB454_509.out hHeld.2.1), (g6 NB454_509.out hHeld.2.2.1), (g6 NB454_509.out hHeld.2.2.2.1), (g6 NB454_509.out hHeld.2.2.2.2.1), (g6 NB454_509.out hHeld.2.2.2.2.2)⟩ (fun hHeld => ?_)
           clear hK K
           refine done_ (by kernel_rfl) ?_
           have hnb120 := NB509_454.out
           have hnc120 := NB454_509.out
           have hnb121 := NB509_469.out
           have hnc121 := NB469_509.out
           have hnb122 := NB509_470.out
           have hnc122 := NB470_509.out
           have hnb123 := NB509_483.out
           have hnc123 := NB483_509.out
           have hnb124 := NB509_484.out
           have hnc124 := NB484_509.out
           have hcz125_0 : w113.cell? ⟨gb509, 0, none⟩ = some (.int .i64 0) := (blk_cell BK509.out 0).trans rfl
           have hcz125_1 : w113.cell? ⟨gb509, 1, none⟩ = some (.bool false) := (blk_cell BK509.out 1).trans rfl
           have hcz125_2 : w113.cell? ⟨gb509, 2, none⟩ = some (.int .i64 0) := (blk_cell BK509.out 2).trans rfl
           have hcz125_3 : w113.cell? ⟨gb509, 3, none⟩ = some (.int .i64 0) := (blk_cell BK509.out 3).trans rfl
           have hcz125_4 : w113.cell? ⟨gb509, 4, none⟩ = some (.int .i64 0) := (blk_cell BK509.out 4).trans rfl
           have hcz125_5 : w113.cell? ⟨gb509, 5, none⟩ = some (.int .i64 0) := (blk_cell BK509.out 5).trans rfl
           have hfz125_0 := blk_frozen BK509.out 0
           have hfz125_1 := blk_frozen BK509.out 1
           have hfz125_2 := blk_frozen BK509.out 2
           have hfz125_3 := blk_frozen BK509.out 3
           have hfz125_4 := blk_frozen BK509.out 4
           have hfz125_5 := blk_frozen BK509.out 5
           try go_wp2_with (first | (go_at_call 51; (with_reducible refine (impl_Try.calls kj52 t503 t504 t505 t506 t507 t508 t452 t453 t510 _ A82.out).mono ?_); rintro e w126 ⟨rfl, hb⟩; have n0_ := nblk BK454 hb; have n1_ := nblk BK469 hb; have n2_ := nblk BK470 hb; have n3_ := nblk BK483 hb; have n4_ := nblk BK484 hb; have n5_ := Aside0.mk (blk_below (g := gb509) (o := .cells #[.int .i64 t503, .bool t504, .int .i64 t505, .int .i64 t506, .int .i64 t507, .int .i64 t508] 27 (0, 0)) (by (with_reducible repeat (first | refine blk_drewN ?_ _ | refine blk_drew ?_ | refine blk_alloc ?_ _)); refine blk_put (cs := #[.int .i64 t503, .bool t504, .int .i64 t505, .int .i64 t506, .int .i64 t507, .int .i64 0]) ?_ 5 _ rfl; (with_reducible repeat (first | refine blk_drewN ?_ _ | refine blk_drew ?_ | refine blk_alloc ?_ _)); refine blk_put (cs := #[.int .i64 t503, .bool t504, .int .i64 t505, .int .i64 t506, .int .i64 0, .int .i64 0]) ?_ 4 _ rfl; (with_reducible repeat (first | refine blk_drewN ?_ _ | refine blk_drew ?_ | refine blk_alloc ?_ _)); refine blk_put (cs := #[.int .i64 t503, .bool t504, .int .i64 t505, .int .i64 0, .int .i64 0, .int .i64 0]) ?_ 3 _ rfl; (with_reducible repeat (first | refine blk_drewN ?_ _ | refine blk_drew ?_ | refine blk_alloc ?_ _)); refine blk_put (cs := #[.int .i64 t503, .bool t504, .int .i64 0, .int .i64 0, .int .i64 0, .int .i64 0]) ?_ 2 _ rfl; (with_reducible repeat (first | refine blk_drewN ?_ _ | refine blk_drew ?_ | refine blk_alloc ?_ _)); refine blk_put (cs := #[.int .i64 t503, .bool false, .int .i64 0, .int .i64 0, .int .i64 0, .int .i64 0]) ?_ 1 _ rfl; (with_reducible repeat (first | refine blk_drewN ?_ _ | refine blk_drew ?_ | refine blk_alloc ?_ _)); refine blk_put (cs := #[.int .i64 0, .bool false, .int .i64 0, .int .i64 0, .int .i64 0, .int .i64 0]) ?_ 0 _ rfl; (with_reducible repeat (first | refine blk_drewN ?_ _ | refine blk_drew ?_ | refine blk_alloc ?_ _)); exact BK509.out) hb); have n6_ := nbs HB hb; clear BK454 BK469 BK470 BK483 BK484 BK509 HB; have BK454 := n0_; have BK469 := n1_; have BK470 := n2_; have BK483 := n3_; have BK484 := n4_; have BK509 := n5_; have HB := n6_; clear n0_ n1_ n2_ n3_ n4_ n5_ n6_; (try clear hb)))
           go_ret
           exact ⟨by first | rfl | (simp [errW_none, errW_some] <;> rfl) | (simp [*, errW_none, errW_some] <;> rfl), by repeat (first | (with_reducible first | exact HB.out | apply below_alloc | apply pw_below_drewN | apply below_drew1 | refine below_set ?_ GE454.out | refine below_set ?_ GE469.out | refine below_set ?_ GE470.out | refine below_set ?_ GE483.out | refine below_set ?_ GE484.out | refine below_set ?_ GE509.out) | exact HB.out)⟩
         ·rw [if_neg c81] at H
          have c81b0 : (t455 == 0) = false := beq_eq_false_iff_ne.mpr c81
          have c81b1 : (t455 != 0) = true := bne_iff_ne.mpr c81
          obtain rfl := Option.some.inj H
          try go_wp2
          have n0_ := Aside0.mk (blk_drew BK454.out)
          have n1_ := Aside0.mk (blk_drew BK469.out)
          have n2_ := Aside0.mk (blk_drew BK470.out)
          have n3_ := Aside0.mk (blk_drew BK483.out)
          have n4_ := Aside0.mk (blk_drew BK484.out)
          have n5_ := Aside0.mk (below_drew1 HB.out)
          clear BK454 BK469 BK470 BK483 BK484 HB
          have BK454 := n0_
          have BK469 := n1_
          have BK470 := n2_
          have BK483 := n3_
          have BK484 := n4_
          have HB := n5_
          clear n0_ n1_ n2_ n3_ n4_ n5_
          refine start_ (n := 6) (S := fun w' => w'.cell? ⟨gb454, 0, none⟩ = some (.int .i64 t446) ∧ w'.cell? ⟨gb454, 1, none⟩ = some (.bool t447) ∧ w'.cell? ⟨gb454, 2, none⟩ = some (.int .i64 t448) ∧ w'.cell? ⟨gb454, 3, none⟩ = some (.int .i64 t449) ∧ w'.cell? ⟨gb454, 4, none⟩ = some (.int .i64 t450) ∧ w'.cell? ⟨gb454, 5, none⟩ = some (.int .i64 t451)) (ds := []) #[false, false, false, false, false, false] (by kernel_rfl) rfl rfl (c6e BK454) (fun hHeld => ?_)
          generalize wc.drew = w127 at BK454 BK469 BK470 BK483 BK484 HB hHeld ⊢
          refine pure_ (i := 1) (N := some 84) (v := ?_) (a' := ?_) #[false, true, false, false, false, false] rfl rfl (by kernel_rfl) (fun _ _ _ h => h) (Or.inl ⟨by rfl, ?_⟩) ?_ ?_
          rotate_left
          ·intro w'
           go_simp
           with_reducible rfl
          rotate_left
          ·simp only [Act.put, List.setIfInBounds_toArray, List.set_cons_zero, List.set_cons_succ, i64_w, i32_w]
           rfl
          refine take_ (i := 2) (N := some 85) (v := ?_) (a' := ?_) #[false, true, true, false, false, false] rfl rfl (by kernel_rfl) (fun _ _ _ h => h) (Or.inl ⟨by rfl, ?_⟩) hHeld ?_ ?_
          rotate_left
          ·rintro w' ⟨s0, s1, s2, s3, s4, s5⟩
           go_simp
           with_reducible rfl
          rotate_left
          ·simp only [Act.put, List.setIfInBounds_toArray, List.set_cons_zero, List.set_cons_succ, i64_w, i32_w]
           rfl
          refine join_ (σ := Nat) 1 #[true, true, true, true, true, false] (fun s_ => [(83, .agg #[.int .i64 t499, .int .i64 t500, .int .i64 t501, .int .i64 t502]), (86, .agg #[.int .i64 t503, .bool t504, .int .i64 t505, .int .i64 t506, .int .i64 t507, .int .i64 t508]), (11, .pointer (some ⟨s_, 0, none⟩))]) (fun s_ w' => (w'.cell? ⟨gb454, 0, none⟩ = some (.int .i64 t446) ∧ w'.cell? ⟨gb454, 1, none⟩ = some (.bool t447) ∧ w'.cell? ⟨gb454, 2, none⟩ = some (.int .i64 t448) ∧ w'.cell? ⟨gb454, 3, none⟩ = some (.int .i64 t449) ∧ w'.cell? ⟨gb454, 4, none⟩ = some (.int .i64 t450) ∧ w'.cell? ⟨gb454, 5, none⟩ = some (.int .i64 t451)) ∧ (w'.heap[gb454]? = some (.cells #[.int .i64 t446, .bool t447, .int .i64 t448, .int .i64 t449, .int .i64 t450, .int .i64 t451] 27 (0, 0))) ∧ (w'.heap[gb469]? = some (.cells #[.int .i64 t457, .bool t458, .int .i64 t459, .int .i64 t460, .int .i64 t461, .int .i64 t462] 27 (0, 0))) ∧ (w'.heap[gb470]? = some (.cells #[.int .i64 t463, .bool t464, .int .i64 t465, .int .i64 t466, .int .i64 t467, .int .i64 t468] 27 (0, 0))) ∧ (w'.heap[gb483]? = some (.cells #[.int .i64 t471, .bool t472, .int .i64 t473, .int .i64 t474, .int .i64 t475, .int .i64 t476] 27 (0, 0))) ∧ (w'.heap[gb484]? = some (.cells #[.int .i64 t477, .bool t478, .int .i64 t479, .int .i64 t480, .int .i64 t481, .int .i64 t482] 27 (0, 0))) ∧ (w'.heap[s_]? = some (.cells #[.int .i64 0, .bool false, .int .i64 0, .int .i64 0, .int .i64 0, .int .i64 0] 27 (0, 0))) ∧ (w.heap.size ≤ s_) ∧ (w.heap.size ≤ s_) ∧ (gb454 ≠ s_) ∧ (s_ ≠ gb454) ∧ (gb469 ≠ s_) ∧ (s_ ≠ gb469) ∧ (gb470 ≠ s_) ∧ (s_ ≠ gb470) ∧ (gb483 ≠ s_) ∧ (s_ ≠ gb483) ∧ (gb484 ≠ s_) ∧ (s_ ≠ gb484) ∧ (Below w.heap.size w w')) ?_ ?_
          rotate_left
          ·intro hCont
           refine two_ (i := 0) (j := 4) (Ni := some 83) (Nj := some 11) #[true, true, true, false, false, false] #[false, true, true, false, true, false] rfl rfl rfl rfl (by kernel_rfl) (by decide) (by decide) (fun K hK => ?_) (fun K hK => ?_)
           ·skip
            refine goesR Try.func36 (by kernel_rfl) rfl #[] (by rfl) rfl rfl ?_
            with_reducible refine (impl_Root.calls  t499 t500 t501 t502 _ A79.out).mono ?_
            rintro e w128 ⟨rfl, hb⟩
            refine ⟨_, rfl, ?_⟩
            have n0_ := nblk BK454 hb
            have n1_ := nblk BK469 hb
            have n2_ := nblk BK470 hb
            have n3_ := nblk BK483 hb
            have n4_ := nblk BK484 hb
            have n5_ := nbs HB hb
            clear BK454 BK469 BK470 BK483 BK484 HB
            have BK454 := n0_
            have BK469 := n1_
            have BK470 := n2_
            have BK483 := n3_
            have BK484 := n4_
            have HB := n5_
            clear n0_ n1_ n2_ n3_ n4_ n5_
            (try clear hb)
            refine hK.out _ _ (c6e BK454) (fun hHeld => ?_)
            clear hK K
            refine norm_ (a' := ?_) ?_ ?_
            rotate_left
            ·show Act.put _ (some 83) _ = _
             simp only [Act.put, List.setIfInBounds_toArray, List.set_cons_zero, List.set_cons_succ, i64_w, i32_w]
             rfl
            refine two_ (i := 3) (j := 4) (Ni := some 86) (Nj := some 11) #[true, true, true, true, false, false] #[true, true, true, false, true, false] rfl rfl rfl rfl (by kernel_rfl) (by decide) (by decide) (fun K hK => ?_) (fun K hK => ?_)
            ·skip
             refine goesR Try.func46 (by kernel_rfl) rfl #[.agg #[.int .i64 t499, .int .i64 t500, .int .i64 t501, .int .i64 t502], .int .i64 t446] (by rfl) rfl rfl ?_
             with_reducible refine (impl_KeyWord.calls kj52 t499 t500 t501 t502 t446 t503 t504 t505 t506 t507 t508 _ A80.out).mono ?_
             rintro e w129 ⟨rfl, hb⟩
             refine ⟨_, rfl, ?_⟩
             have n0_ := nblk BK454 hb
             have n1_ := nblk BK469 hb
             have n2_ := nblk BK470 hb
             have n3_ := nblk BK483 hb
             have n4_ := nblk BK484 hb
             have n5_ := nbs HB hb
             clear BK454 BK469 BK470 BK483 BK484 HB
             have BK454 := n0_
             have BK469 := n1_
             have BK470 := n2_
             have BK483 := n3_
             have BK484 := n4_
             have HB := n5_
             clear n0_ n1_ n2_ n3_ n4_ n5_
             (try clear hb)
             refine hK.out _ _ (c6e BK454) (fun hHeld => ?_)
             clear hK K
             refine norm_ (a' := ?_) ?_ ?_
             rotate_left
             ·show Act.put _ (some 86) _ = _
              simp only [Act.put, List.setIfInBounds_toArray, List.set_cons_zero, List.set_cons_succ, i64_w, i32_w]
              rfl
             refine one_ (i := 4) (N := some 11) #[true, true, true, true, true, false] rfl rfl (by kernel_rfl) (by decide) (fun K hK => ?_)
             refine box_step ?hg (N := 11) ?hd (cs := #[.int .i64 0, .bool false, .int .i64 0, .int .i64 0, .int .i64 0, .int .i64 0]) (t := 27) ?hr ?_; (case hd => rfl); (case hg => rfl); (case hr => first | (go_simp; done) | (go_simp; rfl))
             intro gb509 hg w130 hbox hb
             have n0_ := nblk BK454 hb
             have n1_ := nblk BK469 hb
             have n2_ := nblk BK470 hb
             have n3_ := nblk BK483 hb
             have n4_ := nblk BK484 hb
             have n5_ := nbs HB hb
             have n6_ := Aside0.mk (hbox)
             have n7_ := nge HB hg
             have n8_ := nge HB hg
             have n9_ := nlt BK454 hg
             have n10_ := ngt BK454 hg
             have n11_ := nlt BK469 hg
             have n12_ := ngt BK469 hg
             have n13_ := nlt BK470 hg
             have n14_ := ngt BK470 hg
             have n15_ := nlt BK483 hg
             have n16_ := ngt BK483 hg
             have n17_ := nlt BK484 hg
             have n18_ := ngt BK484 hg
             clear BK454 BK469 BK470 BK483 BK484 HB
             have BK454 := n0_
             have BK469 := n1_
             have BK470 := n2_
             have BK483 := n3_
             have BK484 := n4_
             have HB := n5_
             have BK509 := n6_
             have GW509 := n7_
             have GE509 := n8_
             have NB454_509 := n9_
             have NB509_454 := n10_
             have NB469_509 := n11_
             have NB509_469 := n12_
             have NB470_509 := n13_
             have NB509_470 := n14_
             have NB483_509 := n15_
             have NB509_483 := n16_
             have NB484_509 := n17_
             have NB509_484 := n18_
             clear n0_ n1_ n2_ n3_ n4_ n5_ n6_ n7_ n8_ n9_ n10_ n11_ n12_ n13_ n14_ n15_ n16_ n17_ n18_
             clear hb hbox hg
             refine hK.out _ _ (c6e BK454) (fun hHeld => ?_)
             clear hK K
             refine norm_ (a' := ?_) ?_ ?_
             rotate_left
             ·show Act.put _ (some 11) _ = _
              simp only [Act.put, List.setIfInBounds_toArray, List.set_cons_zero, List.set_cons_succ, i64_w, i32_w]
              rfl
             exact norm_ (by simp only [putAll, Act.put, List.setIfInBounds_toArray, List.set_cons_zero, List.set_cons_succ]) (hCont (gb509) _ ⟨hHeld, (nb BK454), (nb BK469), (nb BK470), (nb BK483), (nb BK484), (nb BK509), GW509.out, GE509.out, NB454_509.out, NB509_454.out, NB469_509.out, NB509_469.out, NB470_509.out, NB509_470.out, NB483_509.out, NB509_483.out, NB484_509.out, NB509_484.out, (by repeat (first | (with_reducible first | exact HB.out | apply below_alloc | apply pw_below_drewN | apply below_drew1 | refine below_set ?_ GE454.out | refine below_set ?_ GE469.out | refine below_set ?_ GE470.out | refine below_set ?_ GE483.out | refine below_set ?_ GE484.out | refine below_set ?_ GE509.out) | exact HB.out))⟩)
            ·skip
             refine box_step ?hg (N := 11) ?hd (cs := #[.int .i64 0, .bool false, .int .i64 0, .int .i64 0, .int .i64 0, .int .i64 0]) (t := 27) ?hr ?_; (case hd => rfl); (case hg => rfl); (case hr => first | (go_simp; done) | (go_simp; rfl))
             intro gb509 hg w129 hbox hb
             have n0_ := nblk BK454 hb
             have n1_ := nblk BK469 hb
             have n2_ := nblk BK470 hb
             have n3_ := nblk BK483 hb
             have n4_ := nblk BK484 hb
             have n5_ := nbs HB hb
             have n6_ := Aside0.mk (hbox)
             have n7_ := nge HB hg
             have n8_ := nge HB hg
             have n9_ := nlt BK454 hg
             have n10_ := ngt BK454 hg
             have n11_ := nlt BK469 hg
             have n12_ := ngt BK469 hg
             have n13_ := nlt BK470 hg
             have n14_ := ngt BK470 hg
             have n15_ := nlt BK483 hg
             have n16_ := ngt BK483 hg
             have n17_ := nlt BK484 hg
             have n18_ := ngt BK484 hg
             clear BK454 BK469 BK470 BK483 BK484 HB
             have BK454 := n0_
             have BK469 := n1_
             have BK470 := n2_
             have BK483 := n3_
             have BK484 := n4_
             have HB := n5_
             have BK509 := n6_
             have GW509 := n7_
             have GE509 := n8_
             have NB454_509 := n9_
             have NB509_454 := n10_
             have NB469_509 := n11_
             have NB509_469 := n12_
             have NB470_509 := n13_
             have NB509_470 := n14_
             have NB483_509 := n15_
             have NB509_483 := n16_
             have NB484_509 := n17_
             have NB509_484 := n18_
             clear n0_ n1_ n2_ n3_ n4_ n5_ n6_ n7_ n8_ n9_ n10_ n11_ n12_ n13_ n14_ n15_ n16_ n17_ n18_
             clear hb hbox hg
             refine hK.out _ _ (c6e BK454) (fun hHeld => ?_)
             clear hK K
             refine norm_ (a' := ?_) ?_ ?_
             rotate_left
             ·show Act.put _ (some 11) _ = _
              simp only [Act.put, List.setIfInBounds_toArray, List.set_cons_zero, List.set_cons_succ, i64_w, i32_w]
              rfl
             refine one_ (i := 3) (N := some 86) #[true, true, true, true, true, false] rfl rfl (by kernel_rfl) (by decide) (fun K hK => ?_)
             refine goesR Try.func46 (by kernel_rfl) rfl #[.agg #[.int .i64 t499, .int .i64 t500, .int .i64 t501, .int .i64 t502], .int .i64 t446] (by rfl) rfl rfl ?_
             with_reducible refine (impl_KeyWord.calls kj52 t499 t500 t501 t502 t446 t503 t504 t505 t506 t507 t508 _ A80.out).mono ?_
             rintro e w130 ⟨rfl, hb⟩
             refine ⟨_, rfl, ?_⟩
             have n0_ := nblk BK454 hb
             have n1_ := nblk BK469 hb
             have n2_ := nblk BK470 hb
             have n3_ := nblk BK483 hb
             have n4_ := nblk BK484 hb
             have n5_ := nblk BK509 hb
             have n6_ := nbs HB hb
             clear BK454 BK469 BK470 BK483 BK484 BK509 HB
             have BK454 := n0_
             have BK469 := n1_
             have BK470 := n2_
             have BK483 := n3_
             have BK484 := n4_
             have BK509 := n5_
             have HB := n6_
             clear n0_ n1_ n2_ n3_ n4_ n5_ n6_
             (try clear hb)
             refine hK.out _ _ (c6e BK454) (fun hHeld => ?_)
             clear hK K
             refine norm_ (a' := ?_) ?_ ?_
             rotate_left
             ·show Act.put _ (some 86) _ = _
              simp only [Act.put, List.setIfInBounds_toArray, List.set_cons_zero, List.set_cons_succ, i64_w, i32_w]
              rfl
             exact norm_ (by simp only [putAll, Act.put, List.setIfInBounds_toArray, List.set_cons_zero, List.set_cons_succ]) (hCont (gb509) _ ⟨hHeld, (nb BK454), (nb BK469), (nb BK470), (nb BK483), (nb BK484), (nb BK509), GW509.out, GE509.out, NB454_509.out, NB509_454.out, NB469_509.out, NB509_469.out, NB470_509.out, NB509_470.out, NB483_509.out, NB509_483.out, NB484_509.out, NB509_484.out, (by repeat (first | (with_reducible first | exact HB.out | apply below_alloc | apply pw_below_drewN | apply below_drew1 | refine below_set ?_ GE454.out | refine below_set ?_ GE469.out | refine below_set ?_ GE470.out | refine below_set ?_ GE483.out | refine below_set ?_ GE484.out | refine below_set ?_ GE509.out) | exact HB.out))⟩)
           ·skip
            refine box_step ?hg (N := 11) ?hd (cs := #[.int .i64 0, .bool false, .int .i64 0, .int .i64 0, .int .i64 0, .int .i64 0]) (t := 27) ?hr ?_; (case hd => rfl); (case hg => rfl); (case hr => first | (go_simp; done) | (go_simp; rfl))
            intro gb509 hg w128 hbox hb
            have n0_ := nblk BK454 hb
            have n1_ := nblk BK469 hb
            have n2_ := nblk BK470 hb
            have n3_ := nblk BK483 hb
            have n4_ := nblk BK484 hb
            have n5_ := nbs HB hb
            have n6_ := Aside0.mk (hbox)
            have n7_ := nge HB hg
            have n8_ := nge HB hg
            have n9_ := nlt BK454 hg
            have n10_ := ngt BK454 hg
            have n11_ := nlt BK469 hg
            have n12_ := ngt BK469 hg
            have n13_ := nlt BK470 hg
            have n14_ := ngt BK470 hg
            have n15_ := nlt BK483 hg
            have n16_ := ngt BK483 hg
            have n17_ := nlt BK484 hg
            have n18_ := ngt BK484 hg
            clear BK454 BK469 BK470 BK483 BK484 HB
            have BK454 := n0_
            have BK469 := n1_
            have BK470 := n2_
            have BK483 := n3_
            have BK484 := n4_
            have HB := n5_
            have BK509 := n6_
            have GW509 := n7_
            have GE509 := n8_
            have NB454_509 := n9_
            have NB509_454 := n10_
            have NB469_509 := n11_
            have NB509_469 := n12_
            have NB470_509 := n13_
            have NB509_470 := n14_
            have NB483_509 := n15_
            have NB509_483 := n16_
            have NB484_509 := n17_
            have NB509_484 := n18_
            clear n0_ n1_ n2_ n3_ n4_ n5_ n6_ n7_ n8_ n9_ n10_ n11_ n12_ n13_ n14_ n15_ n16_ n17_ n18_
            clear hb hbox hg
            refine hK.out _ _ (c6e BK454) (fun hHeld => ?_)
            clear hK K
            refine norm_ (a' := ?_) ?_ ?_
            rotate_left
            ·show Act.put _ (some 11) _ = _
             simp only [Act.put, List.setIfInBounds_toArray, List.set_cons_zero, List.set_cons_succ, i64_w, i32_w]
             rfl
            refine one_ (i := 0) (N := some 83) #[true, true, true, false, true, false] rfl rfl (by kernel_rfl) (by decide) (fun K hK => ?_)
            refine goesR Try.func36 (by kernel_rfl) rfl #[] (by rfl) rfl rfl ?_
            with_reducible refine (impl_Root.calls  t499 t500 t501 t502 _ A79.out).mono ?_
            rintro e w129 ⟨rfl, hb⟩
            refine ⟨_, rfl, ?_⟩
            have n0_ := nblk BK454 hb
            have n1_ := nblk BK469 hb
            have n2_ := nblk BK470 hb
            have n3_ := nblk BK483 hb
            have n4_ := nblk BK484 hb
            have n5_ := nblk BK509 hb
            have n6_ := nbs HB hb
            clear BK454 BK469 BK470 BK483 BK484 BK509 HB
            have BK454 := n0_
            have BK469 := n1_
            have BK470 := n2_
            have BK483 := n3_
            have BK484 := n4_
            have BK509 := n5_
            have HB := n6_
            clear n0_ n1_ n2_ n3_ n4_ n5_ n6_
            (try clear hb)
            refine hK.out _ _ (c6e BK454) (fun hHeld => ?_)
            clear hK K
            refine norm_ (a' := ?_) ?_ ?_
            rotate_left
            ·show Act.put _ (some 83) _ = _
             simp only [Act.put, List.setIfInBounds_toArray, List.set_cons_zero, List.set_cons_succ, i64_w, i32_w]
             rfl
            refine one_ (i := 3) (N := some 86) #[true, true, true, true, true, false] rfl rfl (by kernel_rfl) (by decide) (fun K hK => ?_)
            refine goesR Try.func46 (by kernel_rfl) rfl #[.agg #[.int .i64 t499, .int .i64 t500, .int .i64 t501, .int .i64 t502], .int .i64 t446] (by rfl) rfl rfl ?_
            with_reducible refine (impl_KeyWord.calls kj52 t499 t500 t501 t502 t446 t503 t504 t505 t506 t507 t508 _ A80.out).mono ?_
            rintro e w130 ⟨rfl, hb⟩
            refine ⟨_, rfl, ?_⟩
            have n0_ := nblk BK454 hb
            have n1_ := nblk BK469 hb
            have n2_ := nblk BK470 hb
            have n3_ := nblk BK483 hb
            have n4_ := nblk BK484 hb
            have n5_ := nblk BK509 hb
            have n6_ := nbs HB hb
            clear BK454 BK469 BK470 BK483 BK484 BK509 HB
            have BK454 := n0_
            have BK469 := n1_
            have BK470 := n2_
            have BK483 := n3_
            have BK484 := n4_
            have BK509 := n5_
            have HB := n6_
            clear n0_ n1_ n2_ n3_ n4_ n5_ n6_
            (try clear hb)
            refine hK.out _ _ (c6e BK454) (fun hHeld => ?_)
            clear hK K
            refine norm_ (a' := ?_) ?_ ?_
            rotate_left
            ·show Act.put _ (some 86) _ = _
             simp only [Act.put, List.setIfInBounds_toArray, List.set_cons_zero, List.set_cons_succ, i64_w, i32_w]
             rfl
            exact norm_ (by simp only [putAll, Act.put, List.setIfInBounds_toArray, List.set_cons_zero, List.set_cons_succ]) (hCont (gb509) _ ⟨hHeld, (nb BK454), (nb BK469), (nb BK470), (nb BK483), (nb BK484), (nb BK509), GW509.out, GE509.out, NB454_509.out, NB509_454.out, NB469_509.out, NB509_469.out, NB470_509.out, NB509_470.out, NB483_509.out, NB509_483.out, NB484_509.out, NB509_484.out, (by repeat (first | (with_reducible first | exact HB.out | apply below_alloc | apply pw_below_drewN | apply below_drew1 | refine below_set ?_ GE454.out | refine below_set ?_ GE469.out | refine below_set ?_ GE470.out | refine below_set ?_ GE483.out | refine below_set ?_ GE484.out | refine below_set ?_ GE509.out) | exact HB.out))⟩)
          rintro gb509 w131 ⟨hS_, h0_, h1_, h2_, h3_, h4_, h5_, h6_, h7_, h8_, h9_, h10_, h11_, h12_, h13_, h14_, h15_, h16_, h17_, h18_⟩
          have n0_ : Aside0 (w131.heap[gb454]? = some (.cells #[.int .i64 t446, .bool t447, .int .i64 t448, .int .i64 t449, .int .i64 t450, .int .i64 t451] 27 (0, 0))) := ⟨h0_⟩
          have n1_ : Aside0 (w131.heap[gb469]? = some (.cells #[.int .i64 t457, .bool t458, .int .i64 t459, .int .i64 t460, .int .i64 t461, .int .i64 t462] 27 (0, 0))) := ⟨h1_⟩
          have n2_ : Aside0 (w131.heap[gb470]? = some (.cells #[.int .i64 t463, .bool t464, .int .i64 t465, .int .i64 t466, .int .i64 t467, .int .i64 t468] 27 (0, 0))) := ⟨h2_⟩
          have n3_ : Aside0 (w131.heap[gb483]? = some (.cells #[.int .i64 t471, .bool t472, .int .i64 t473, .int .i64 t474, .int .i64 t475, .int .i64 t476] 27 (0, 0))) := ⟨h3_⟩
          have n4_ : Aside0 (w131.heap[gb484]? = some (.cells #[.int .i64 t477, .bool t478, .int .i64 t479, .int .i64 t480, .int .i64 t481, .int .i64 t482] 27 (0, 0))) := ⟨h4_⟩
          have n5_ : Aside0 (w131.heap[gb509]? = some (.cells #[.int .i64 0, .bool false, .int .i64 0, .int .i64 0, .int .i64 0, .int .i64 0] 27 (0, 0))) := ⟨h5_⟩
          have n6_ : Aside0 (w.heap.size ≤ gb509) := ⟨h6_⟩
          have n7_ : Aside0 (w.heap.size ≤ gb509) := ⟨h7_⟩
          have n8_ : Aside0 (gb454 ≠ gb509) := ⟨h8_⟩
          have n9_ : Aside0 (gb509 ≠ gb454) := ⟨h9_⟩
          have n10_ : Aside0 (gb469 ≠ gb509) := ⟨h10_⟩
          have n11_ : Aside0 (gb509 ≠ gb469) := ⟨h11_⟩
          have n12_ : Aside0 (gb470 ≠ gb509) := ⟨h12_⟩
          have n13_ : Aside0 (gb509 ≠ gb470) := ⟨h13_⟩
          have n14_ : Aside0 (gb483 ≠ gb509) := ⟨h14_⟩
          have n15_ : Aside0 (gb509 ≠ gb483) := ⟨h15_⟩
          have n16_ : Aside0 (gb484 ≠ gb509) := ⟨h16_⟩
          have n17_ : Aside0 (gb509 ≠ gb484) := ⟨h17_⟩
          have n18_ : Aside0 (Below w.heap.size w w131) := ⟨h18_⟩
          clear BK454 BK469 BK470 BK483 BK484 HB
          clear h0_ h1_ h2_ h3_ h4_ h5_ h6_ h7_ h8_ h9_ h10_ h11_ h12_ h13_ h14_ h15_ h16_ h17_ h18_
          have BK454 := n0_
          have BK469 := n1_
          have BK470 := n2_
          have BK483 := n3_
          have BK484 := n4_
          have BK509 := n5_
          have GW509 := n6_
          have GE509 := n7_
          have NB454_509 := n8_
          have NB509_454 := n9_
          have NB469_509 := n10_
          have NB509_469 := n11_
          have NB470_509 := n12_
          have NB509_470 := n13_
          have NB483_509 := n14_
          have NB509_483 := n15_
          have NB484_509 := n16_
          have NB509_484 := n17_
          have HB := n18_
          clear n0_ n1_ n2_ n3_ n4_ n5_ n6_ n7_ n8_ n9_ n10_ n11_ n12_ n13_ n14_ n15_ n16_ n17_ n18_
          have hHeld : w131.cell? ⟨gb454, 0, none⟩ = some (.int .i64 t446) ∧ w131.cell? ⟨gb454, 1, none⟩ = some (.bool t447) ∧ w131.cell? ⟨gb454, 2, none⟩ = some (.int .i64 t448) ∧ w131.cell? ⟨gb454, 3, none⟩ = some (.int .i64 t449) ∧ w131.cell? ⟨gb454, 4, none⟩ = some (.int .i64 t450) ∧ w131.cell? ⟨gb454, 5, none⟩ = some (.int .i64 t451) := hS_
          refine norm_ (a' := ?_) ?_ ?_
          rotate_left
          ·simp only [putAll, Act.put, List.setIfInBounds_toArray, List.set_cons_zero, List.set_cons_succ]
           rfl
          refine one_ (i := 5) (N := none) #[true, true, true, true, true, true] rfl rfl (by kernel_rfl) (by decide) (fun K hK => ?_)
          have hs132 : w131.cell? ⟨gb509, 0, none⟩ = some (.int .i64 0) := (blk_cell BK509.out 0).trans rfl
          have hfs132 := blk_frozen BK509.out 0
          have hns132_0 := NB454_509.out
          have hns132_1 := NB469_509.out
          have hns132_2 := NB470_509.out
          have hns132_3 := NB483_509.out
          have hns132_4 := NB484_509.out
          have hms132_0 := NB509_454.out
          have hms132_1 := NB509_469.out
          have hms132_2 := NB509_470.out
          have hms132_3 := NB509_483.out
          have hms132_4 := NB509_484.out
          have hs133 : w131.cell? ⟨gb509, 1, none⟩ = some (.bool false) := (blk_cell BK509.out 1).trans rfl
          have hfs133 := blk_frozen BK509.out 1
          have hns133_0 := NB454_509.out
          have hns133_1 := NB469_509.out
          have hns133_2 := NB470_509.out
          have hns133_3 := NB483_509.out
          have hns133_4 := NB484_509.out
          have hms133_0 := NB509_454.out
          have hms133_1 := NB509_469.out
          have hms133_2 := NB509_470.out
          have hms133_3 := NB509_483.out
          have hms133_4 := NB509_484.out
          have hs134 : w131.cell? ⟨gb509, 2, none⟩ = some (.int .i64 0) := (blk_cell BK509.out 2).trans rfl
          have hfs134 := blk_frozen BK509.out 2
          have hns134_0 := NB454_509.out
          have hns134_1 := NB469_509.out
          have hns134_2 := NB470_509.out
          have hns134_3 := NB483_509.out
          have hns134_4 := NB484_509.out
          have hms134_0 := NB509_454.out
          have hms134_1 := NB509_469.out
          have hms134_2 := NB509_470.out
          have hms134_3 := NB509_483.out
          have hms134_4 := NB509_484.out
          have hs135 : w131.cell? ⟨gb509, 3, none⟩ = some (.int .i64 0) := (blk_cell BK509.out 3).trans rfl
          have hfs135 := blk_frozen BK509.out 3
          have hns135_0 := NB454_509.out
          have hns135_1 := NB469_509.out
          have hns135_2 := NB470_509.out
          have hns135_3 := NB483_509.out
          have hns135_4 := NB484_509.out
          have hms135_0 := NB509_454.out
          have hms135_1 := NB509_469.out
          have hms135_2 := NB509_470.out
          have hms135_3 := NB509_483.out
          have hms135_4 := NB509_484.out
          have hs136 : w131.cell? ⟨gb509, 4, none⟩ = some (.int .i64 0) := (blk_cell BK509.out 4).trans rfl
          have hfs136 := blk_frozen BK509.out 4
          have hns136_0 := NB454_509.out
          have hns136_1 := NB469_509.out
          have hns136_2 := NB470_509.out
          have hns136_3 := NB483_509.out
          have hns136_4 := NB484_509.out
          have hms136_0 := NB509_454.out
          have hms136_1 := NB509_469.out
          have hms136_2 := NB509_470.out
          have hms136_3 := NB509_483.out
          have hms136_4 := NB509_484.out
          have hs137 : w131.cell? ⟨gb509, 5, none⟩ = some (.int .i64 0) := (blk_cell BK509.out 5).trans rfl
          have hfs137 := blk_frozen BK509.out 5
          have hns137_0 := NB454_509.out
          have hns137_1 := NB469_509.out
          have hns137_2 := NB470_509.out
          have hns137_3 := NB483_509.out
          have hns137_4 := NB484_509.out
          have hms137_0 := NB509_454.out
          have hms137_1 := NB509_469.out
          have hms137_2 := NB509_470.out
          have hms137_3 := NB509_483.out
          have hms137_4 := NB509_484.out
          refine skip_ (w1 := ?_) (by rfl) rfl ?_ ?_
          rotate_left
          ·go_simp
           rfl
          refine hK.out _ _ ⟨(g6 NB454_509.out hHeld.1), (g6 NB454_509.out hHeld.2.1), (g6 NB454_509.out hHeld.2.2.1), (g6 NB454_509.out hHeld.2.2.2.1), (g6 NB454_509.out hHeld.2.2.2.2.1), (g6 NB454_509.out hHeld.2.2.2.2.2)⟩ (fun hHeld => ?_)
          clear hK K
          refine done_ (by kernel_rfl) ?_
          try go_wp2
          go_ret
          exact ⟨by first | rfl | (simp [errW_none, errW_some] <;> rfl) | (simp [*, errW_none, errW_some] <;> rfl), by repeat (first | (with_reducible first | exact HB.out | apply below_alloc | apply pw_below_drewN | apply below_drew1 | refine below_set ?_ GE454.out | refine below_set ?_ GE469.out | refine below_set ?_ GE470.out | refine below_set ?_ GE483.out | refine below_set ?_ GE484.out | refine below_set ?_ GE509.out) | exact HB.out)⟩
  ·rw [if_neg c7] at H
   have c7b0 : (t455 == t456) = false := beq_eq_false_iff_ne.mpr c7
   have c7b1 : (t455 != t456) = true := bne_iff_ne.mpr c7
   obtain rfl := Option.some.inj H
   go_enter Try.func6, Try.ntmps6
   go_wp2_with (first | ((with_reducible refine gate_callee (f := 9) rfl ?_); refine goesM (some 13) rfl rfl Try.func9 (by kernel_rfl) rfl #[.slice A0 l0.length c0] rfl ?_; (with_reducible refine (laws_big.calls _ _ l0 false _ ?side1 ?side2 A2.out).mono ?_); (case side1 => repeat (first | exact HR0.out | (with_reducible refine Kd.C_alloc ?_ _) | (with_reducible refine Kd.C_drewN ?_ _) | (with_reducible refine Kd.C_drew ?_))); (case side2 => exact HC0.out); rintro e w' ⟨rfl, ⟨nd, rfl⟩⟩; refine ⟨_, rfl, ?_⟩) | ((with_reducible refine gate_callee (f := 50) rfl ?_); refine goesM (some 16) rfl rfl Try.func50 (by kernel_rfl) rfl #[.slice A0 l0.length c0] rfl ?_; (with_reducible refine (spec_DrawTry.calls k _ _ l0 t446 t447 t448 t449 t450 t451 t452 t453 _ ?side1 ?side2 A4.out).mono ?_); (case side1 => repeat (first | exact HR0.out | (with_reducible refine Kd.C_alloc ?_ _) | (with_reducible refine Kd.C_drewN ?_ _) | (with_reducible refine Kd.C_drew ?_))); (case side2 => exact HC0.out); rintro e w138 ⟨rfl, hb⟩; refine ⟨_, rfl, ?_⟩; have n0_ := nbs HB hb; clear HB; have HB := n0_; clear n0_; (try clear hb)) | ((with_reducible refine gate_dst (N := 3) rfl ?_); refine box_event ?hg (N := 3) ?hd (cs := #[.int .i64 0, .bool false, .int .i64 0, .int .i64 0, .int .i64 0, .int .i64 0]) (t := 27) ?hr ?_; (case hd => rfl); (case hg => rfl); (case hr => first | (go_simp; done) | (go_simp; rfl)); intro gb454 hg w139 hbox hb; have n0_ := nbs HB hb; have n1_ := Aside0.mk (hbox); have n2_ := nge HB hg; have n3_ := nge HB hg; clear HB; have HB := n0_; have BK454 := n1_; have GW454 := n2_; have GE454 := n3_; clear n0_ n1_ n2_ n3_; clear hb hbox hg; have hcz140_0 : w139.cell? ⟨gb454, 0, none⟩ = some (.int .i64 0) := (blk_cell BK454.out 0).trans rfl; have hcz140_1 : w139.cell? ⟨gb454, 1, none⟩ = some (.bool false) := (blk_cell BK454.out 1).trans rfl; have hcz140_2 : w139.cell? ⟨gb454, 2, none⟩ = some (.int .i64 0) := (blk_cell BK454.out 2).trans rfl; have hcz140_3 : w139.cell? ⟨gb454, 3, none⟩ = some (.int .i64 0) := (blk_cell BK454.out 3).trans rfl; have hcz140_4 : w139.cell? ⟨gb454, 4, none⟩ = some (.int .i64 0) := (blk_cell BK454.out 4).trans rfl; have hcz140_5 : w139.cell? ⟨gb454, 5, none⟩ = some (.int .i64 0) := (blk_cell BK454.out 5).trans rfl; have hfz140_0 := blk_frozen BK454.out 0; have hfz140_1 := blk_frozen BK454.out 1; have hfz140_2 := blk_frozen BK454.out 2; have hfz140_3 := blk_frozen BK454.out 3; have hfz140_4 := blk_frozen BK454.out 4; have hfz140_5 := blk_frozen BK454.out 5) | ((with_reducible refine gate_callee (f := 51) rfl ?_); refine goesM (some 23) rfl rfl Try.func51 (by kernel_rfl) rfl #[.agg #[.int .i64 t446, .bool t447, .int .i64 t448, .int .i64 t449, .int .i64 t450, .int .i64 t451], .int .i64 t452, .int .i64 t453] rfl ?_; (with_reducible refine (impl_Try.calls k t446 t447 t448 t449 t450 t451 t452 t453 t455 _ A5.out).mono ?_); rintro e w141 ⟨rfl, hb⟩; refine ⟨_, rfl, ?_⟩; have n0_ := Aside0.mk (blk_below (g := gb454) (o := .cells #[.int .i64 t446, .bool t447, .int .i64 t448, .int .i64 t449, .int .i64 t450, .int .i64 t451] 27 (0, 0)) (by (with_reducible repeat (first | refine blk_drewN ?_ _ | refine blk_drew ?_ | refine blk_alloc ?_ _)); refine blk_put (cs := #[.int .i64 t446, .bool t447, .int .i64 t448, .int .i64 t449, .int .i64 t450, .int .i64 0]) ?_ 5 _ rfl; (with_reducible repeat (first | refine blk_drewN ?_ _ | refine blk_drew ?_ | refine blk_alloc ?_ _)); refine blk_put (cs := #[.int .i64 t446, .bool t447, .int .i64 t448, .int .i64 t449, .int .i64 0, .int .i64 0]) ?_ 4 _ rfl; (with_reducible repeat (first | refine blk_drewN ?_ _ | refine blk_drew ?_ | refine blk_alloc ?_ _)); refine blk_put (cs := #[.int .i64 t446, .bool t447, .int .i64 t448, .int .i64 0, .int .i64 0, .int .i64 0]) ?_ 3 _ rfl; (with_reducible repeat (first | refine blk_drewN ?_ _ | refine blk_drew ?_ | refine blk_alloc ?_ _)); refine blk_put (cs := #[.int .i64 t446, .bool t447, .int .i64 0, .int .i64 0, .int .i64 0, .int .i64 0]) ?_ 2 _ rfl; (with_reducible repeat (first | refine blk_drewN ?_ _ | refine blk_drew ?_ | refine blk_alloc ?_ _)); refine blk_put (cs := #[.int .i64 t446, .bool false, .int .i64 0, .int .i64 0, .int .i64 0, .int .i64 0]) ?_ 1 _ rfl; (with_reducible repeat (first | refine blk_drewN ?_ _ | refine blk_drew ?_ | refine blk_alloc ?_ _)); refine blk_put (cs := #[.int .i64 0, .bool false, .int .i64 0, .int .i64 0, .int .i64 0, .int .i64 0]) ?_ 0 _ rfl; (with_reducible repeat (first | refine blk_drewN ?_ _ | refine blk_drew ?_ | refine blk_alloc ?_ _)); exact BK454.out) hb); have n1_ := nbs HB hb; clear BK454 HB; have BK454 := n0_; have HB := n1_; clear n0_ n1_; (try clear hb); have hcz142_0 : w141.cell? ⟨gb454, 0, none⟩ = some (.int .i64 t446) := (blk_cell BK454.out 0).trans rfl; have hcz142_1 : w141.cell? ⟨gb454, 1, none⟩ = some (.bool t447) := (blk_cell BK454.out 1).trans rfl; have hcz142_2 : w141.cell? ⟨gb454, 2, none⟩ = some (.int .i64 t448) := (blk_cell BK454.out 2).trans rfl; have hcz142_3 : w141.cell? ⟨gb454, 3, none⟩ = some (.int .i64 t449) := (blk_cell BK454.out 3).trans rfl; have hcz142_4 : w141.cell? ⟨gb454, 4, none⟩ = some (.int .i64 t450) := (blk_cell BK454.out 4).trans rfl; have hcz142_5 : w141.cell? ⟨gb454, 5, none⟩ = some (.int .i64 t451) := (blk_cell BK454.out 5).trans rfl; have hfz142_0 := blk_frozen BK454.out 0; have hfz142_1 := blk_frozen BK454.out 1; have hfz142_2 := blk_frozen BK454.out 2; have hfz142_3 := blk_frozen BK454.out 3; have hfz142_4 := blk_frozen BK454.out 4; have hfz142_5 := blk_frozen BK454.out 5) | ((with_reducible refine gate_callee (f := 52) rfl ?_); refine goesM (some 28) rfl rfl Try.func52 (by kernel_rfl) rfl #[.agg #[.int .i64 t446, .bool t447, .int .i64 t448, .int .i64 t449, .int .i64 t450, .int .i64 t451], .int .i64 t452, .int .i64 t453] rfl ?_; (with_reducible refine (spec_Try.calls k t446 t447 t448 t449 t450 t451 t452 t453 t456 _ A6.out).mono ?_); rintro e w143 ⟨rfl, hb⟩; refine ⟨_, rfl, ?_⟩; have n0_ := nblk BK454 hb; have n1_ := nbs HB hb; clear BK454 HB; have BK454 := n0_; have HB := n1_; clear n0_ n1_; (try clear hb)))
   go_ret
   exact ⟨by first | rfl | (simp [errW_none, errW_some] <;> rfl) | (simp [*, errW_none, errW_some] <;> rfl), by repeat (first | (with_reducible first | exact HB.out | apply below_alloc | apply pw_below_drewN | apply below_drew1 | refine below_set ?_ GE454.out) | exact HB.out)⟩

/-- THE ONE PURE STATEMENT of laws_FnTry: yours. -/
def laws_FnTry.Pure : Prop := ∀ (l0 : List Int), l0.length ≤ maxLen → l0.length * 1 ≤ 140737488351232 → (∀ x ∈ l0, (Lit.int .u8 x).wf = true) → ∃ k, laws_FnTry.f k l0 = some true
theorem laws_FnTry.walk (P : laws_FnTry.Pure) (a0 : Option Addr) (len0 cap0 : Nat) (z0 : List Int) (w : World) (w0 : (a0 = none ∧ len0 = 0 ∧ cap0 = 0 ∧ z0 = []) ∨ ∃ x, a0 = some x ∧ len0 ≤ cap0 ∧ cap0 ≤ maxLen ∧ z0.length = cap0 ∧ (∀ i, i < z0.length → w.cell? (x.add i) = some (.int .u8 (z0.getD i 0))) ∧ ∀ n ∈ z0, (Lit.int .u8 n).wf = true) (y0 : len0 * 1 ≤ 140737488351232) :
  Calls Try.prog 6 #[.slice a0 len0 cap0] w fun e w' => e = .returned (.bool true) ∧ Below w.heap.size w w' := by
 obtain ⟨l0, rfl, hr0, hm0, hw0, hc0⟩ := ReadsInt.ofRowC w0
 obtain ⟨k, h⟩ := P l0 hm0 y0 hw0
 refine (laws_FnTry.calls k _ _ l0 true w (Kd.C_of_reads (d := (0 : Int)) (h1 := fun _ => rfl) hr0) hc0 h).mono ?_
 rintro e w' ⟨rfl, hd⟩
 exact ⟨rfl, hd⟩

end Go.Proofs.Ytiliggbholjdjaa.PFnTry
