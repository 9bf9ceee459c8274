-- Written by a program of this session (wip/patch.py turns a copy of the kit's print): the functions that the law reaches, and their walks.
import Derived.Test.YtednioabjiabiaaPFnMemoryx0
import Derived.Test.YtednioabjiabiaaPFnMemoryx2
import Derived.Test.YtednioabjiabiaaPFnMemoryx3
import Derived.Test.YtednioabjiabiaaPFnMemoryx4
import Derived.Test.YtednioabjiabiaaPFnMemoryx6
import Derived.Test.YtednioabjiabiaaPFnMemoryx10
import Derived.Test.YtednioabjiabiaaPFnMemoryx11
import Derived.Test.YtednioabjiabiaaPFnMemoryx12
import Derived.Test.YtednioabjiabiaaPFnMemoryx13
import Derived.Test.YtednioabjiabiaaPFnMemoryx14
import Derived.Test.YtednioabjiabiaaCFnMemory
namespace Go.Proofs.Ytednioabjiabiaa.PFnMemory
open Go.RowKit Go.Proofs.YtednioabjiabiaaW.PrintWords Go.Proofs.YtednioabjiabiaaW.PrintLast Go.Proofs.YtednioabjiabiaaW.PrintMore Go.Proofs.YtednioabjiabiaaW.Mine
attribute [local go_sem] max2_int min2_int max_two min_two max_three min_three max_four min_four   -- for this text's walks alone
set_option linter.unusedVariables false
set_option linter.unusedSimpArgs false

attribute [local go_sem high] eqA36
/-! ### laws_FnMemory: function 4 -/
mutual
def laws_FnMemory.j0 : Nat → Int → Int → Int → Bool → List (S36) → List Bool → Int → Bool → Int → Int → Int → Int → Int → Bool → Int → Int → Int → Int → List (S36) → List Bool → Int → Bool → Int → Int → Int → Int → Option (Bool)
 | 0, _, _, _, _, _, _, _, _, _, _, _, _, _, _, _, _, _, _, _, _, _, _, _, _, _, _ => none
 | k + 1, x5, x8, oL, oM, d4, eY, gn, gp, gq, gr, eZ, gs, e0, eU, e1, e2, e3, e4, ds, gt, oN, oO, oP, oQ, oR, oS => if oM = true then (some false) else (if oL = 0 then (laws_FnMemory.j1 k x5 x8 false d4 eY gn gp gq gr eZ gs e0 eU e1 e2 e3 e4 ds gt) else (laws_FnMemory.j1 k x5 x8 (!(oN == 0) || (oO || ((!(oP == 0) || (!(oQ == 0) || (!(oR == 0) || (!(oS == 0)))))))) d4 eY gn gp gq gr eZ gs e0 eU e1 e2 e3 e4 ds gt))
def laws_FnMemory.j1 : Nat → Int → Int → Bool → List (S36) → List Bool → Int → Bool → Int → Int → Int → Int → Int → Bool → Int → Int → Int → Int → List (S36) → List Bool → Option (Bool)
 | 0, _, _, _, _, _, _, _, _, _, _, _, _, _, _, _, _, _, _, _ => none
 | k + 1, x5, x8, oT, d4, eY, gn, gp, gq, gr, eZ, gs, e0, eU, e1, e2, e3, e4, ds, gt => if oT = true then (some false) else (if x8 = 0 then ((spec_MemoryOk.f k d4 eY).bind fun gw => (if gw = true then (laws_FnMemory.l0 k x5 0 d4 eY gn gp gq gr eZ gs e0 eU e1 e2 e3 e4 ds gt) else (some ((ds.length : Int) == 0)))) else (if (ds.length : Int) = 0 then (some true) else ((laws_sameWords.f k ds d4).bind fun e5 => (some e5))))
def laws_FnMemory.l0 : Nat → Int → Int → List (S36) → List Bool → Int → Bool → Int → Int → Int → Int → Int → Bool → Int → Int → Int → Int → List (S36) → List Bool → Option (Bool)
 | 0, _, _, _, _, _, _, _, _, _, _, _, _, _, _, _, _, _, _ => none
 | k + 1, x5, dz, d4, eY, gn, gp, gq, gr, eZ, gs, e0, eU, e1, e2, e3, e4, ds, gt => if dz < 24 then (if dz = x5 then (laws_FnMemory.l0 k x5 (wrap64 (dz + 1)) d4 eY gn gp gq gr eZ gs e0 eU e1 e2 e3 e4 ds gt) else (if 0 ≤ dz then (if dz < (ds.length : Int) then (if dz < (d4.length : Int) then (if (!(((rd_T36 ds dz).f0) == ((rd_T36 d4 dz).f0)) || (!(((rd_T36 ds dz).f1) == ((rd_T36 d4 dz).f1)) || ((!(((rd_T36 ds dz).f2.f0) == ((rd_T36 d4 dz).f2.f0)) || (!(((rd_T36 ds dz).f2.f1) == ((rd_T36 d4 dz).f2.f1)) || (!(((rd_T36 ds dz).f2.f2) == ((rd_T36 d4 dz).f2.f2)) || (!(((rd_T36 ds dz).f2.f3) == ((rd_T36 d4 dz).f2.f3))))))))) = true then (some false) else (laws_FnMemory.l0 k x5 (wrap64 (dz + 1)) d4 eY gn gp gq gr eZ gs e0 eU e1 e2 e3 e4 ds gt)) else (none)) else (none)) else (none))) else (if 0 ≤ x5 then (if x5 < (ds.length : Int) then (if (((rd_T36 ds x5).f0) == e0 && (((rd_T36 ds x5).f1) == eU && ((((rd_T36 ds x5).f2.f0) == e1 && (((rd_T36 ds x5).f2.f1) == e2 && (((rd_T36 ds x5).f2.f2) == e3 && (((rd_T36 ds x5).f2.f3) == e4))))))) = true then (if eU = true then (some ((Go.bits .and .i64 eZ 16) != 0)) else (some true)) else (some false)) else (none)) else (none))
end
def laws_FnMemory.f (k : Nat) (l0 : List Int) : Option (Bool) := (laws_big.f l0).bind fun gx => (if gx = true then (some true) else ((spec_DrawWrite.f k l0).bind fun ba => ((impl_Write.f k ba.1 ba.2.1 ba.2.2.1 ba.2.2.2.1 ba.2.2.2.2.1 ba.2.2.2.2.2.1 ba.2.2.2.2.2.2.1 ba.2.2.2.2.2.2.2.1 ba.2.2.2.2.2.2.2.2.1 ba.2.2.2.2.2.2.2.2.2.1 ba.2.2.2.2.2.2.2.2.2.2.1 ba.2.2.2.2.2.2.2.2.2.2.2.1 ba.2.2.2.2.2.2.2.2.2.2.2.2.1 ba.2.2.2.2.2.2.2.2.2.2.2.2.2.1 ba.2.2.2.2.2.2.2.2.2.2.2.2.2.2).bind fun bw => ((spec_Write.f k ba.1 ba.2.1 ba.2.2.1 ba.2.2.2.1 ba.2.2.2.2.1 ba.2.2.2.2.2.1 ba.2.2.2.2.2.2.1 ba.2.2.2.2.2.2.2.1 ba.2.2.2.2.2.2.2.2.1 ba.2.2.2.2.2.2.2.2.2.1 ba.2.2.2.2.2.2.2.2.2.2.1 ba.2.2.2.2.2.2.2.2.2.2.2.1 ba.2.2.2.2.2.2.2.2.2.2.2.2.1 ba.2.2.2.2.2.2.2.2.2.2.2.2.2.1 ba.2.2.2.2.2.2.2.2.2.2.2.2.2.2).bind fun dY => ((spec_DrawRead.f k l0).bind fun bk => ((impl_Read.f k bk.1 bk.2.1 bk.2.2.1 bk.2.2.2.1 bk.2.2.2.2.1 bk.2.2.2.2.2.1 bk.2.2.2.2.2.2.1 bk.2.2.2.2.2.2.2.1 bk.2.2.2.2.2.2.2.2).bind fun bb => ((spec_Read.f k bk.1 bk.2.1 bk.2.2.1 bk.2.2.2.1 bk.2.2.2.2.1 bk.2.2.2.2.2.1 bk.2.2.2.2.2.2.1 bk.2.2.2.2.2.2.2.1 bk.2.2.2.2.2.2.2.2).bind fun bE => (if bw.2.2 = dY.2.2 then ((laws_sameWords.f k bw.1 dY.1).bind fun dt => (if dt = true then (if (!(bb.1 == bE.1) || (!(bb.2.1 == bE.2.1) || ((!(bb.2.2.1 == bE.2.2.1) || (!(bb.2.2.2.1 == bE.2.2.2.1) || (!(bb.2.2.2.2.1 == bE.2.2.2.2.1) || (!(bb.2.2.2.2.2.1 == bE.2.2.2.2.2.1)))))))) = true then (laws_FnMemory.j0 k ba.2.2.2.2.2.2.2.2.1 bw.2.2 bb.2.2.2.2.2.2 true ba.1 ba.2.1 ba.2.2.1 ba.2.2.2.1 ba.2.2.2.2.1 ba.2.2.2.2.2.1 ba.2.2.2.2.2.2.1 ba.2.2.2.2.2.2.2.1 ba.2.2.2.2.2.2.2.2.2.1 ba.2.2.2.2.2.2.2.2.2.2.1 ba.2.2.2.2.2.2.2.2.2.2.2.1 ba.2.2.2.2.2.2.2.2.2.2.2.2.1 ba.2.2.2.2.2.2.2.2.2.2.2.2.2.1 ba.2.2.2.2.2.2.2.2.2.2.2.2.2.2 bw.1 bw.2.1 bb.1 bb.2.1 bb.2.2.1 bb.2.2.2.1 bb.2.2.2.2.1 bb.2.2.2.2.2.1) else (laws_FnMemory.j0 k ba.2.2.2.2.2.2.2.2.1 bw.2.2 bb.2.2.2.2.2.2 (bb.2.2.2.2.2.2 != bE.2.2.2.2.2.2) ba.1 ba.2.1 ba.2.2.1 ba.2.2.2.1 ba.2.2.2.2.1 ba.2.2.2.2.2.1 ba.2.2.2.2.2.2.1 ba.2.2.2.2.2.2.2.1 ba.2.2.2.2.2.2.2.2.2.1 ba.2.2.2.2.2.2.2.2.2.2.1 ba.2.2.2.2.2.2.2.2.2.2.2.1 ba.2.2.2.2.2.2.2.2.2.2.2.2.1 ba.2.2.2.2.2.2.2.2.2.2.2.2.2.1 ba.2.2.2.2.2.2.2.2.2.2.2.2.2.2 bw.1 bw.2.1 bb.1 bb.2.1 bb.2.2.1 bb.2.2.2.1 bb.2.2.2.2.1 bb.2.2.2.2.2.1)) else (laws_FnMemory.j0 k ba.2.2.2.2.2.2.2.2.1 bw.2.2 bb.2.2.2.2.2.2 true ba.1 ba.2.1 ba.2.2.1 ba.2.2.2.1 ba.2.2.2.2.1 ba.2.2.2.2.2.1 ba.2.2.2.2.2.2.1 ba.2.2.2.2.2.2.2.1 ba.2.2.2.2.2.2.2.2.2.1 ba.2.2.2.2.2.2.2.2.2.2.1 ba.2.2.2.2.2.2.2.2.2.2.2.1 ba.2.2.2.2.2.2.2.2.2.2.2.2.1 ba.2.2.2.2.2.2.2.2.2.2.2.2.2.1 ba.2.2.2.2.2.2.2.2.2.2.2.2.2.2 bw.1 bw.2.1 bb.1 bb.2.1 bb.2.2.1 bb.2.2.2.1 bb.2.2.2.2.1 bb.2.2.2.2.2.1))) else (laws_FnMemory.j0 k ba.2.2.2.2.2.2.2.2.1 bw.2.2 bb.2.2.2.2.2.2 true ba.1 ba.2.1 ba.2.2.1 ba.2.2.2.1 ba.2.2.2.2.1 ba.2.2.2.2.2.1 ba.2.2.2.2.2.2.1 ba.2.2.2.2.2.2.2.1 ba.2.2.2.2.2.2.2.2.2.1 ba.2.2.2.2.2.2.2.2.2.2.1 ba.2.2.2.2.2.2.2.2.2.2.2.1 ba.2.2.2.2.2.2.2.2.2.2.2.2.1 ba.2.2.2.2.2.2.2.2.2.2.2.2.2.1 ba.2.2.2.2.2.2.2.2.2.2.2.2.2.2 bw.1 bw.2.1 bb.1 bb.2.1 bb.2.2.1 bb.2.2.2.1 bb.2.2.2.2.1 bb.2.2.2.2.2.1)))))))))
theorem laws_FnMemory.mono_l : ∀ k, (∀ y0 y1 y2 y3 y4 y5 y6 y7 y8 y9 eF eG eH eI eJ eK eL eM gu jL jM jN jO jP jQ jR, LeO (laws_FnMemory.j0 k y0 y1 y2 y3 y4 y5 y6 y7 y8 y9 eF eG eH eI eJ eK eL eM gu jL jM jN jO jP jQ jR) (laws_FnMemory.j0 (k + 1) y0 y1 y2 y3 y4 y5 y6 y7 y8 y9 eF eG eH eI eJ eK eL eM gu jL jM jN jO jP jQ jR)) ∧ (∀ y0 y1 y2 y3 y4 y5 y6 y7 y8 y9 eF eG eH eI eJ eK eL eM gu, LeO (laws_FnMemory.j1 k y0 y1 y2 y3 y4 y5 y6 y7 y8 y9 eF eG eH eI eJ eK eL eM gu) (laws_FnMemory.j1 (k + 1) y0 y1 y2 y3 y4 y5 y6 y7 y8 y9 eF eG eH eI eJ eK eL eM gu)) ∧ (∀ y0 y1 y2 y3 y4 y5 y6 y7 y8 y9 eF eG eH eI eJ eK eL eM, LeO (laws_FnMemory.l0 k y0 y1 y2 y3 y4 y5 y6 y7 y8 y9 eF eG eH eI eJ eK eL eM) (laws_FnMemory.l0 (k + 1) y0 y1 y2 y3 y4 y5 y6 y7 y8 y9 eF eG eH eI eJ eK eL eM))
 | 0 => ⟨fun _ _ _ _ _ _ _ _ _ _ _ _ _ _ _ _ _ _ _ _ _ _ _ _ _ _ r h => by simp [laws_FnMemory.j0] at h, fun _ _ _ _ _ _ _ _ _ _ _ _ _ _ _ _ _ _ _ r h => by simp [laws_FnMemory.j1] at h, fun _ _ _ _ _ _ _ _ _ _ _ _ _ _ _ _ _ _ r h => by simp [laws_FnMemory.l0] at h⟩
 | k + 1 => by
  obtain ⟨ih0, ih1, ih2⟩ := laws_FnMemory.mono_l k; refine ⟨?_, ?_, ?_⟩
  ·intro y0 y1 y2 y3 y4 y5 y6 y7 y8 y9 eF eG eH eI eJ eK eL eM gu jL jM jN jO jP jQ jR
   unfold laws_FnMemory.j0
   repeat' first
   | (with_reducible exact ih0 _ _ _ _ _ _ _ _ _ _ _ _ _ _ _ _ _ _ _ _ _ _ _ _ _ _)
   | (with_reducible exact ih1 _ _ _ _ _ _ _ _ _ _ _ _ _ _ _ _ _ _ _)
   | (with_reducible exact ih2 _ _ _ _ _ _ _ _ _ _ _ _ _ _ _ _ _ _)
   | (with_reducible exact impl_Read.mono _ _ _ _ _ _ _ _ _ _)
   | (with_reducible exact impl_Write.mono _ _ _ _ _ _ _ _ _ _ _ _ _ _ _ _)
   | (with_reducible exact laws_sameWords.mono _ _ _)
   | (with_reducible exact spec_DrawRead.mono _ _)
   | (with_reducible exact spec_DrawWrite.mono _ _)
   | (with_reducible exact spec_MemoryOk.mono _ _ _)
   | (with_reducible exact spec_Read.mono _ _ _ _ _ _ _ _ _ _)
   | (with_reducible exact spec_Write.mono _ _ _ _ _ _ _ _ _ _ _ _ _ _ _ _)
   | (with_reducible exact LeO.refl _)
   | (with_reducible exact LeO.none _)
   | (with_reducible refine LeO.ite ?_ ?_)
   | (with_reducible refine LeO.bind ?_ (fun _ => ?_))
   | exact ih0 _ _ _ _ _ _ _ _ _ _ _ _ _ _ _ _ _ _ _ _ _ _ _ _ _ _
   | exact ih1 _ _ _ _ _ _ _ _ _ _ _ _ _ _ _ _ _ _ _
   | exact ih2 _ _ _ _ _ _ _ _ _ _ _ _ _ _ _ _ _ _
   | exact impl_Read.mono _ _ _ _ _ _ _ _ _ _
   | exact impl_Write.mono _ _ _ _ _ _ _ _ _ _ _ _ _ _ _ _
   | exact laws_sameWords.mono _ _ _
   | exact spec_DrawRead.mono _ _
   | exact spec_DrawWrite.mono _ _
   | exact spec_MemoryOk.mono _ _ _
   | exact spec_Read.mono _ _ _ _ _ _ _ _ _ _
   | exact spec_Write.mono _ _ _ _ _ _ _ _ _ _ _ _ _ _ _ _
   | exact LeO.none _
   | refine LeO.ite ?_ ?_
   | refine LeO.bind ?_ (fun _ => ?_)
  ·intro y0 y1 y2 y3 y4 y5 y6 y7 y8 y9 eF eG eH eI eJ eK eL eM gu
   unfold laws_FnMemory.j1
   repeat' first
   | (with_reducible exact ih0 _ _ _ _ _ _ _ _ _ _ _ _ _ _ _ _ _ _ _ _ _ _ _ _ _ _)
   | (with_reducible exact ih1 _ _ _ _ _ _ _ _ _ _ _ _ _ _ _ _ _ _ _)
   | (with_reducible exact ih2 _ _ _ _ _ _ _ _ _ _ _ _ _ _ _ _ _ _)
   | (with_reducible exact impl_Read.mono _ _ _ _ _ _ _ _ _ _)
   | (with_reducible exact impl_Write.mono _ _ _ _ _ _ _ _ _ _ _ _ _ _ _ _)
   | (with_reducible exact laws_sameWords.mono _ _ _)
   | (with_reducible exact spec_DrawRead.mono _ _)
   | (with_reducible exact spec_DrawWrite.mono _ _)
   | (with_reducible exact spec_MemoryOk.mono _ _ _)
   | (with_reducible exact spec_Read.mono _ _ _ _ _ _ _ _ _ _)
   | (with_reducible exact spec_Write.mono _ _ _ _ _ _ _ _ _ _ _ _ _ _ _ _)
   | (with_reducible exact LeO.refl _)
   | (with_reducible exact LeO.none _)
   | (with_reducible refine LeO.ite ?_ ?_)
   | (with_reducible refine LeO.bind ?_ (fun _ => ?_))
   | exact ih0 _ _ _ _ _ _ _ _ _ _ _ _ _ _ _ _ _ _ _ _ _ _ _ _ _ _
   | exact ih1 _ _ _ _ _ _ _ _ _ _ _ _ _ _ _ _ _ _ _
   | exact ih2 _ _ _ _ _ _ _ _ _ _ _ _ _ _ _ _ _ _
   | exact impl_Read.mono _ _ _ _ _ _ _ _ _ _
   | exact impl_Write.mono _ _ _ _ _ _ _ _ _ _ _ _ _ _ _ _
   | exact laws_sameWords.mono _ _ _
   | exact spec_DrawRead.mono _ _
   | exact spec_DrawWrite.mono _ _
   | exact spec_MemoryOk.mono _ _ _
   | exact spec_Read.mono _ _ _ _ _ _ _ _ _ _
   | exact spec_Write.mono _ _ _ _ _ _ _ _ _ _ _ _ _ _ _ _
   | exact LeO.none _
   | refine LeO.ite ?_ ?_
   | refine LeO.bind ?_ (fun _ => ?_)
  ·intro y0 y1 y2 y3 y4 y5 y6 y7 y8 y9 eF eG eH eI eJ eK eL eM
   unfold laws_FnMemory.l0
   repeat' first
   | (with_reducible exact ih0 _ _ _ _ _ _ _ _ _ _ _ _ _ _ _ _ _ _ _ _ _ _ _ _ _ _)
   | (with_reducible exact ih1 _ _ _ _ _ _ _ _ _ _ _ _ _ _ _ _ _ _ _)
   | (with_reducible exact ih2 _ _ _ _ _ _ _ _ _ _ _ _ _ _ _ _ _ _)
   | (with_reducible exact impl_Read.mono _ _ _ _ _ _ _ _ _ _)
   | (with_reducible exact impl_Write.mono _ _ _ _ _ _ _ _ _ _ _ _ _ _ _ _)
   | (with_reducible exact laws_sameWords.mono _ _ _)
   | (with_reducible exact spec_DrawRead.mono _ _)
   | (with_reducible exact spec_DrawWrite.mono _ _)
   | (with_reducible exact spec_MemoryOk.mono _ _ _)
   | (with_reducible exact spec_Read.mono _ _ _ _ _ _ _ _ _ _)
   | (with_reducible exact spec_Write.mono _ _ _ _ _ _ _ _ _ _ _ _ _ _ _ _)
   | (with_reducible exact LeO.refl _)
   | (with_reducible exact LeO.none _)
   | (with_reducible refine LeO.ite ?_ ?_)
   | (with_reducible refine LeO.bind ?_ (fun _ => ?_))
   | exact ih0 _ _ _ _ _ _ _ _ _ _ _ _ _ _ _ _ _ _ _ _ _ _ _ _ _ _
   | exact ih1 _ _ _ _ _ _ _ _ _ _ _ _ _ _ _ _ _ _ _
   | exact ih2 _ _ _ _ _ _ _ _ _ _ _ _ _ _ _ _ _ _
   | exact impl_Read.mono _ _ _ _ _ _ _ _ _ _
   | exact impl_Write.mono _ _ _ _ _ _ _ _ _ _ _ _ _ _ _ _
   | exact laws_sameWords.mono _ _ _
   | exact spec_DrawRead.mono _ _
   | exact spec_DrawWrite.mono _ _
   | exact spec_MemoryOk.mono _ _ _
   | exact spec_Read.mono _ _ _ _ _ _ _ _ _ _
   | exact spec_Write.mono _ _ _ _ _ _ _ _ _ _ _ _ _ _ _ _
   | exact LeO.none _
   | refine LeO.ite ?_ ?_
   | refine LeO.bind ?_ (fun _ => ?_)
theorem laws_FnMemory.mono : ∀ a0 k, LeO (laws_FnMemory.f k a0) (laws_FnMemory.f (k + 1) a0) := by
 intro a0 k; obtain ⟨ih0, ih1, ih2⟩ := laws_FnMemory.mono_l k
 unfold laws_FnMemory.f
 repeat' first
   | (with_reducible exact ih0 _ _ _ _ _ _ _ _ _ _ _ _ _ _ _ _ _ _ _ _ _ _ _ _ _ _)
   | (with_reducible exact ih1 _ _ _ _ _ _ _ _ _ _ _ _ _ _ _ _ _ _ _)
   | (with_reducible exact ih2 _ _ _ _ _ _ _ _ _ _ _ _ _ _ _ _ _ _)
   | (with_reducible exact impl_Read.mono _ _ _ _ _ _ _ _ _ _)
   | (with_reducible exact impl_Write.mono _ _ _ _ _ _ _ _ _ _ _ _ _ _ _ _)
   | (with_reducible exact laws_sameWords.mono _ _ _)
   | (with_reducible exact spec_DrawRead.mono _ _)
   | (with_reducible exact spec_DrawWrite.mono _ _)
   | (with_reducible exact spec_MemoryOk.mono _ _ _)
   | (with_reducible exact spec_Read.mono _ _ _ _ _ _ _ _ _ _)
   | (with_reducible exact spec_Write.mono _ _ _ _ _ _ _ _ _ _ _ _ _ _ _ _)
   | (with_reducible exact LeO.refl _)
   | (with_reducible exact LeO.none _)
   | (with_reducible refine LeO.ite ?_ ?_)
   | (with_reducible refine LeO.bind ?_ (fun _ => ?_))
   | exact ih0 _ _ _ _ _ _ _ _ _ _ _ _ _ _ _ _ _ _ _ _ _ _ _ _ _ _
   | exact ih1 _ _ _ _ _ _ _ _ _ _ _ _ _ _ _ _ _ _ _
   | exact ih2 _ _ _ _ _ _ _ _ _ _ _ _ _ _ _ _ _ _
   | exact impl_Read.mono _ _ _ _ _ _ _ _ _ _
   | exact impl_Write.mono _ _ _ _ _ _ _ _ _ _ _ _ _ _ _ _
   | exact laws_sameWords.mono _ _ _
   | exact spec_DrawRead.mono _ _
   | exact spec_DrawWrite.mono _ _
   | exact spec_MemoryOk.mono _ _ _
   | exact spec_Read.mono _ _ _ _ _ _ _ _ _ _
   | exact spec_Write.mono _ _ _ _ _ _ _ _ _ _ _ _ _ _ _ _
   | exact LeO.none _
   | refine LeO.ite ?_ ?_
   | refine LeO.bind ?_ (fun _ => ?_)
set_option maxHeartbeats 8000000 in
set_option maxRecDepth 100000 in
theorem laws_FnMemory.calls (k : Nat) (A0 : Option Addr) (c0 : Nat) (l0 : List Int) (r : Bool) (w : World) (hr0 : Kd.C (Kd.int .u8) w A0 l0.length l0) (hc0 : l0.length ≤ c0) (h : laws_FnMemory.f k l0 = some r) :
  Calls Try.prog 4 #[.slice A0 l0.length c0] w fun e w' => e = .returned (.bool r) ∧ Below w.heap.size w w' := by
 have hu27 := Try.underlying27; have hu36 := Try.underlying36; have em := Aside0.mk hr0; have en := Aside0.mk hc0; clear hr0 hc0; have HB := Aside0.mk (Below.refl w.heap.size w); have H : ((laws_big.f l0).bind fun gx => (if gx = true then (some true) else ((spec_DrawWrite.f k l0).bind fun ba => ((impl_Write.f k ba.1 ba.2.1 ba.2.2.1 ba.2.2.2.1 ba.2.2.2.2.1 ba.2.2.2.2.2.1 ba.2.2.2.2.2.2.1 ba.2.2.2.2.2.2.2.1 ba.2.2.2.2.2.2.2.2.1 ba.2.2.2.2.2.2.2.2.2.1 ba.2.2.2.2.2.2.2.2.2.2.1 ba.2.2.2.2.2.2.2.2.2.2.2.1 ba.2.2.2.2.2.2.2.2.2.2.2.2.1 ba.2.2.2.2.2.2.2.2.2.2.2.2.2.1 ba.2.2.2.2.2.2.2.2.2.2.2.2.2.2).bind fun bw => ((spec_Write.f k ba.1 ba.2.1 ba.2.2.1 ba.2.2.2.1 ba.2.2.2.2.1 ba.2.2.2.2.2.1 ba.2.2.2.2.2.2.1 ba.2.2.2.2.2.2.2.1 ba.2.2.2.2.2.2.2.2.1 ba.2.2.2.2.2.2.2.2.2.1 ba.2.2.2.2.2.2.2.2.2.2.1 ba.2.2.2.2.2.2.2.2.2.2.2.1 ba.2.2.2.2.2.2.2.2.2.2.2.2.1 ba.2.2.2.2.2.2.2.2.2.2.2.2.2.1 ba.2.2.2.2.2.2.2.2.2.2.2.2.2.2).bind fun dY => ((spec_DrawRead.f k l0).bind fun bk => ((impl_Read.f k bk.1 bk.2.1 bk.2.2.1 bk.2.2.2.1 bk.2.2.2.2.1 bk.2.2.2.2.2.1 bk.2.2.2.2.2.2.1 bk.2.2.2.2.2.2.2.1 bk.2.2.2.2.2.2.2.2).bind fun bb => ((spec_Read.f k bk.1 bk.2.1 bk.2.2.1 bk.2.2.2.1 bk.2.2.2.2.1 bk.2.2.2.2.2.1 bk.2.2.2.2.2.2.1 bk.2.2.2.2.2.2.2.1 bk.2.2.2.2.2.2.2.2).bind fun bE => (if bw.2.2 = dY.2.2 then ((laws_sameWords.f k bw.1 dY.1).bind fun dt => (if dt = true then (if (!(bb.1 == bE.1) || (!(bb.2.1 == bE.2.1) || ((!(bb.2.2.1 == bE.2.2.1) || (!(bb.2.2.2.1 == bE.2.2.2.1) || (!(bb.2.2.2.2.1 == bE.2.2.2.2.1) || (!(bb.2.2.2.2.2.1 == bE.2.2.2.2.2.1)))))))) = true then (laws_FnMemory.j0 k ba.2.2.2.2.2.2.2.2.1 bw.2.2 bb.2.2.2.2.2.2 true ba.1 ba.2.1 ba.2.2.1 ba.2.2.2.1 ba.2.2.2.2.1 ba.2.2.2.2.2.1 ba.2.2.2.2.2.2.1 ba.2.2.2.2.2.2.2.1 ba.2.2.2.2.2.2.2.2.2.1 ba.2.2.2.2.2.2.2.2.2.2.1 ba.2.2.2.2.2.2.2.2.2.2.2.1 ba.2.2.2.2.2.2.2.2.2.2.2.2.1 ba.2.2.2.2.2.2.2.2.2.2.2.2.2.1 ba.2.2.2.2.2.2.2.2.2.2.2.2.2.2 bw.1 bw.2.1 bb.1 bb.2.1 bb.2.2.1 bb.2.2.2.1 bb.2.2.2.2.1 bb.2.2.2.2.2.1) else (laws_FnMemory.j0 k ba.2.2.2.2.2.2.2.2.1 bw.2.2 bb.2.2.2.2.2.2 (bb.2.2.2.2.2.2 != bE.2.2.2.2.2.2) ba.1 ba.2.1 ba.2.2.1 ba.2.2.2.1 ba.2.2.2.2.1 ba.2.2.2.2.2.1 ba.2.2.2.2.2.2.1 ba.2.2.2.2.2.2.2.1 ba.2.2.2.2.2.2.2.2.2.1 ba.2.2.2.2.2.2.2.2.2.2.1 ba.2.2.2.2.2.2.2.2.2.2.2.1 ba.2.2.2.2.2.2.2.2.2.2.2.2.1 ba.2.2.2.2.2.2.2.2.2.2.2.2.2.1 ba.2.2.2.2.2.2.2.2.2.2.2.2.2.2 bw.1 bw.2.1 bb.1 bb.2.1 bb.2.2.1 bb.2.2.2.1 bb.2.2.2.2.1 bb.2.2.2.2.2.1)) else (laws_FnMemory.j0 k ba.2.2.2.2.2.2.2.2.1 bw.2.2 bb.2.2.2.2.2.2 true ba.1 ba.2.1 ba.2.2.1 ba.2.2.2.1 ba.2.2.2.2.1 ba.2.2.2.2.2.1 ba.2.2.2.2.2.2.1 ba.2.2.2.2.2.2.2.1 ba.2.2.2.2.2.2.2.2.2.1 ba.2.2.2.2.2.2.2.2.2.2.1 ba.2.2.2.2.2.2.2.2.2.2.2.1 ba.2.2.2.2.2.2.2.2.2.2.2.2.1 ba.2.2.2.2.2.2.2.2.2.2.2.2.2.1 ba.2.2.2.2.2.2.2.2.2.2.2.2.2.2 bw.1 bw.2.1 bb.1 bb.2.1 bb.2.2.1 bb.2.2.2.1 bb.2.2.2.2.1 bb.2.2.2.2.2.1))) else (laws_FnMemory.j0 k ba.2.2.2.2.2.2.2.2.1 bw.2.2 bb.2.2.2.2.2.2 true ba.1 ba.2.1 ba.2.2.1 ba.2.2.2.1 ba.2.2.2.2.1 ba.2.2.2.2.2.1 ba.2.2.2.2.2.2.1 ba.2.2.2.2.2.2.2.1 ba.2.2.2.2.2.2.2.2.2.1 ba.2.2.2.2.2.2.2.2.2.2.1 ba.2.2.2.2.2.2.2.2.2.2.2.1 ba.2.2.2.2.2.2.2.2.2.2.2.2.1 ba.2.2.2.2.2.2.2.2.2.2.2.2.2.1 ba.2.2.2.2.2.2.2.2.2.2.2.2.2.2 bw.1 bw.2.1 bb.1 bb.2.1 bb.2.2.1 bb.2.2.2.1 bb.2.2.2.2.1 bb.2.2.2.2.2.1)))))))))) = some r := h; clear h; replace H := Option.bind_eq_some_iff.mp H; obtain ⟨gx, A20, H⟩ := H; replace H : (if gx = true then (some true) else ((spec_DrawWrite.f k l0).bind fun ba => ((impl_Write.f k ba.1 ba.2.1 ba.2.2.1 ba.2.2.2.1 ba.2.2.2.2.1 ba.2.2.2.2.2.1 ba.2.2.2.2.2.2.1 ba.2.2.2.2.2.2.2.1 ba.2.2.2.2.2.2.2.2.1 ba.2.2.2.2.2.2.2.2.2.1 ba.2.2.2.2.2.2.2.2.2.2.1 ba.2.2.2.2.2.2.2.2.2.2.2.1 ba.2.2.2.2.2.2.2.2.2.2.2.2.1 ba.2.2.2.2.2.2.2.2.2.2.2.2.2.1 ba.2.2.2.2.2.2.2.2.2.2.2.2.2.2).bind fun bw => ((spec_Write.f k ba.1 ba.2.1 ba.2.2.1 ba.2.2.2.1 ba.2.2.2.2.1 ba.2.2.2.2.2.1 ba.2.2.2.2.2.2.1 ba.2.2.2.2.2.2.2.1 ba.2.2.2.2.2.2.2.2.1 ba.2.2.2.2.2.2.2.2.2.1 ba.2.2.2.2.2.2.2.2.2.2.1 ba.2.2.2.2.2.2.2.2.2.2.2.1 ba.2.2.2.2.2.2.2.2.2.2.2.2.1 ba.2.2.2.2.2.2.2.2.2.2.2.2.2.1 ba.2.2.2.2.2.2.2.2.2.2.2.2.2.2).bind fun dY => ((spec_DrawRead.f k l0).bind fun bk => ((impl_Read.f k bk.1 bk.2.1 bk.2.2.1 bk.2.2.2.1 bk.2.2.2.2.1 bk.2.2.2.2.2.1 bk.2.2.2.2.2.2.1 bk.2.2.2.2.2.2.2.1 bk.2.2.2.2.2.2.2.2).bind fun bb => ((spec_Read.f k bk.1 bk.2.1 bk.2.2.1 bk.2.2.2.1 bk.2.2.2.2.1 bk.2.2.2.2.2.1 bk.2.2.2.2.2.2.1 bk.2.2.2.2.2.2.2.1 bk.2.2.2.2.2.2.2.2).bind fun bE => (if bw.2.2 = dY.2.2 then ((laws_sameWords.f k bw.1 dY.1).bind fun dt => (if dt = true then (if (!(bb.1 == bE.1) || (!(bb.2.1 == bE.2.1) || ((!(bb.2.2.1 == bE.2.2.1) || (!(bb.2.2.2.1 == bE.2.2.2.1) || (!(bb.2.2.2.2.1 == bE.2.2.2.2.1) || (!(bb.2.2.2.2.2.1 == bE.2.2.2.2.2.1)))))))) = true then (laws_FnMemory.j0 k ba.2.2.2.2.2.2.2.2.1 bw.2.2 bb.2.2.2.2.2.2 true ba.1 ba.2.1 ba.2.2.1 ba.2.2.2.1 ba.2.2.2.2.1 ba.2.2.2.2.2.1 ba.2.2.2.2.2.2.1 ba.2.2.2.2.2.2.2.1 ba.2.2.2.2.2.2.2.2.2.1 ba.2.2.2.2.2.2.2.2.2.2.1 ba.2.2.2.2.2.2.2.2.2.2.2.1 ba.2.2.2.2.2.2.2.2.2.2.2.2.1 ba.2.2.2.2.2.2.2.2.2.2.2.2.2.1 ba.2.2.2.2.2.2.2.2.2.2.2.2.2.2 bw.1 bw.2.1 bb.1 bb.2.1 bb.2.2.1 bb.2.2.2.1 bb.2.2.2.2.1 bb.2.2.2.2.2.1) else (laws_FnMemory.j0 k ba.2.2.2.2.2.2.2.2.1 bw.2.2 bb.2.2.2.2.2.2 (bb.2.2.2.2.2.2 != bE.2.2.2.2.2.2) ba.1 ba.2.1 ba.2.2.1 ba.2.2.2.1 ba.2.2.2.2.1 ba.2.2.2.2.2.1 ba.2.2.2.2.2.2.1 ba.2.2.2.2.2.2.2.1 ba.2.2.2.2.2.2.2.2.2.1 ba.2.2.2.2.2.2.2.2.2.2.1 ba.2.2.2.2.2.2.2.2.2.2.2.1 ba.2.2.2.2.2.2.2.2.2.2.2.2.1 ba.2.2.2.2.2.2.2.2.2.2.2.2.2.1 ba.2.2.2.2.2.2.2.2.2.2.2.2.2.2 bw.1 bw.2.1 bb.1 bb.2.1 bb.2.2.1 bb.2.2.2.1 bb.2.2.2.2.1 bb.2.2.2.2.2.1)) else (laws_FnMemory.j0 k ba.2.2.2.2.2.2.2.2.1 bw.2.2 bb.2.2.2.2.2.2 true ba.1 ba.2.1 ba.2.2.1 ba.2.2.2.1 ba.2.2.2.2.1 ba.2.2.2.2.2.1 ba.2.2.2.2.2.2.1 ba.2.2.2.2.2.2.2.1 ba.2.2.2.2.2.2.2.2.2.1 ba.2.2.2.2.2.2.2.2.2.2.1 ba.2.2.2.2.2.2.2.2.2.2.2.1 ba.2.2.2.2.2.2.2.2.2.2.2.2.1 ba.2.2.2.2.2.2.2.2.2.2.2.2.2.1 ba.2.2.2.2.2.2.2.2.2.2.2.2.2.2 bw.1 bw.2.1 bb.1 bb.2.1 bb.2.2.1 bb.2.2.2.1 bb.2.2.2.2.1 bb.2.2.2.2.2.1))) else (laws_FnMemory.j0 k ba.2.2.2.2.2.2.2.2.1 bw.2.2 bb.2.2.2.2.2.2 true ba.1 ba.2.1 ba.2.2.1 ba.2.2.2.1 ba.2.2.2.2.1 ba.2.2.2.2.2.1 ba.2.2.2.2.2.2.1 ba.2.2.2.2.2.2.2.1 ba.2.2.2.2.2.2.2.2.2.1 ba.2.2.2.2.2.2.2.2.2.2.1 ba.2.2.2.2.2.2.2.2.2.2.2.1 ba.2.2.2.2.2.2.2.2.2.2.2.2.1 ba.2.2.2.2.2.2.2.2.2.2.2.2.2.1 ba.2.2.2.2.2.2.2.2.2.2.2.2.2.2 bw.1 bw.2.1 bb.1 bb.2.1 bb.2.2.1 bb.2.2.2.1 bb.2.2.2.2.1 bb.2.2.2.2.2.1))))))))) = some r := H; have A2 := Aside0.mk A20; clear A20
 by_cases c3 : gx = true
 ·subst c3
  have H1 : (some true) = some r := by rw [if_pos rfl] at H; exact H
  clear H; have H := H1; clear H1; obtain rfl := Option.some.inj H
  go_enter Try.func4, Try.ntmps4
  go_wp2_with (first | (go_at_call 5; (with_reducible refine (laws_big.calls _ _ l0 true _ ?side1 ?side2 A2.out).mono ?_); (case side1 => exact nC em); (case side2 => exact en.out); rintro e w' ⟨rfl, ⟨nd, rfl⟩⟩; (try first | exact ⟨rfl, _, World.drewN_drewN _ _ _⟩ | exact ⟨rfl, _, Eq.trans (World.drewN_drewN _ _ _) (congrArg (World.drewN _) (Nat.add_assoc _ _ _))⟩)))
  repeat (go_quiet (first | (go_at_call 5; (with_reducible refine (laws_big.calls _ _ l0 true _ ?side1 ?side2 A2.out).mono ?_); (case side1 => exact nC em); (case side2 => exact en.out); rintro e w' ⟨rfl, ⟨nd, rfl⟩⟩; (try first | exact ⟨rfl, _, World.drewN_drewN _ _ _⟩ | exact ⟨rfl, _, Eq.trans (World.drewN_drewN _ _ _) (congrArg (World.drewN _) (Nat.add_assoc _ _ _))⟩))); try go_wp2_with (first | (go_at_call 5; (with_reducible refine (laws_big.calls _ _ l0 true _ ?side1 ?side2 A2.out).mono ?_); (case side1 => exact nC em); (case side2 => exact en.out); rintro e w' ⟨rfl, ⟨nd, rfl⟩⟩; (try first | exact ⟨rfl, _, World.drewN_drewN _ _ _⟩ | exact ⟨rfl, _, Eq.trans (World.drewN_drewN _ _ _) (congrArg (World.drewN _) (Nat.add_assoc _ _ _))⟩))))
  go_ret
  exact ⟨er_, nbe HB⟩
 ·replace c3 := Bool.eq_false_iff.mpr c3
  subst c3; have H1 : ((spec_DrawWrite.f k l0).bind fun ba => ((impl_Write.f k ba.1 ba.2.1 ba.2.2.1 ba.2.2.2.1 ba.2.2.2.2.1 ba.2.2.2.2.2.1 ba.2.2.2.2.2.2.1 ba.2.2.2.2.2.2.2.1 ba.2.2.2.2.2.2.2.2.1 ba.2.2.2.2.2.2.2.2.2.1 ba.2.2.2.2.2.2.2.2.2.2.1 ba.2.2.2.2.2.2.2.2.2.2.2.1 ba.2.2.2.2.2.2.2.2.2.2.2.2.1 ba.2.2.2.2.2.2.2.2.2.2.2.2.2.1 ba.2.2.2.2.2.2.2.2.2.2.2.2.2.2).bind fun bw => ((spec_Write.f k ba.1 ba.2.1 ba.2.2.1 ba.2.2.2.1 ba.2.2.2.2.1 ba.2.2.2.2.2.1 ba.2.2.2.2.2.2.1 ba.2.2.2.2.2.2.2.1 ba.2.2.2.2.2.2.2.2.1 ba.2.2.2.2.2.2.2.2.2.1 ba.2.2.2.2.2.2.2.2.2.2.1 ba.2.2.2.2.2.2.2.2.2.2.2.1 ba.2.2.2.2.2.2.2.2.2.2.2.2.1 ba.2.2.2.2.2.2.2.2.2.2.2.2.2.1 ba.2.2.2.2.2.2.2.2.2.2.2.2.2.2).bind fun dY => ((spec_DrawRead.f k l0).bind fun bk => ((impl_Read.f k bk.1 bk.2.1 bk.2.2.1 bk.2.2.2.1 bk.2.2.2.2.1 bk.2.2.2.2.2.1 bk.2.2.2.2.2.2.1 bk.2.2.2.2.2.2.2.1 bk.2.2.2.2.2.2.2.2).bind fun bb => ((spec_Read.f k bk.1 bk.2.1 bk.2.2.1 bk.2.2.2.1 bk.2.2.2.2.1 bk.2.2.2.2.2.1 bk.2.2.2.2.2.2.1 bk.2.2.2.2.2.2.2.1 bk.2.2.2.2.2.2.2.2).bind fun bE => (if bw.2.2 = dY.2.2 then ((laws_sameWords.f k bw.1 dY.1).bind fun dt => (if dt = true then (if (!(bb.1 == bE.1) || (!(bb.2.1 == bE.2.1) || ((!(bb.2.2.1 == bE.2.2.1) || (!(bb.2.2.2.1 == bE.2.2.2.1) || (!(bb.2.2.2.2.1 == bE.2.2.2.2.1) || (!(bb.2.2.2.2.2.1 == bE.2.2.2.2.2.1)))))))) = true then (laws_FnMemory.j0 k ba.2.2.2.2.2.2.2.2.1 bw.2.2 bb.2.2.2.2.2.2 true ba.1 ba.2.1 ba.2.2.1 ba.2.2.2.1 ba.2.2.2.2.1 ba.2.2.2.2.2.1 ba.2.2.2.2.2.2.1 ba.2.2.2.2.2.2.2.1 ba.2.2.2.2.2.2.2.2.2.1 ba.2.2.2.2.2.2.2.2.2.2.1 ba.2.2.2.2.2.2.2.2.2.2.2.1 ba.2.2.2.2.2.2.2.2.2.2.2.2.1 ba.2.2.2.2.2.2.2.2.2.2.2.2.2.1 ba.2.2.2.2.2.2.2.2.2.2.2.2.2.2 bw.1 bw.2.1 bb.1 bb.2.1 bb.2.2.1 bb.2.2.2.1 bb.2.2.2.2.1 bb.2.2.2.2.2.1) else (laws_FnMemory.j0 k ba.2.2.2.2.2.2.2.2.1 bw.2.2 bb.2.2.2.2.2.2 (bb.2.2.2.2.2.2 != bE.2.2.2.2.2.2) ba.1 ba.2.1 ba.2.2.1 ba.2.2.2.1 ba.2.2.2.2.1 ba.2.2.2.2.2.1 ba.2.2.2.2.2.2.1 ba.2.2.2.2.2.2.2.1 ba.2.2.2.2.2.2.2.2.2.1 ba.2.2.2.2.2.2.2.2.2.2.1 ba.2.2.2.2.2.2.2.2.2.2.2.1 ba.2.2.2.2.2.2.2.2.2.2.2.2.1 ba.2.2.2.2.2.2.2.2.2.2.2.2.2.1 ba.2.2.2.2.2.2.2.2.2.2.2.2.2.2 bw.1 bw.2.1 bb.1 bb.2.1 bb.2.2.1 bb.2.2.2.1 bb.2.2.2.2.1 bb.2.2.2.2.2.1)) else (laws_FnMemory.j0 k ba.2.2.2.2.2.2.2.2.1 bw.2.2 bb.2.2.2.2.2.2 true ba.1 ba.2.1 ba.2.2.1 ba.2.2.2.1 ba.2.2.2.2.1 ba.2.2.2.2.2.1 ba.2.2.2.2.2.2.1 ba.2.2.2.2.2.2.2.1 ba.2.2.2.2.2.2.2.2.2.1 ba.2.2.2.2.2.2.2.2.2.2.1 ba.2.2.2.2.2.2.2.2.2.2.2.1 ba.2.2.2.2.2.2.2.2.2.2.2.2.1 ba.2.2.2.2.2.2.2.2.2.2.2.2.2.1 ba.2.2.2.2.2.2.2.2.2.2.2.2.2.2 bw.1 bw.2.1 bb.1 bb.2.1 bb.2.2.1 bb.2.2.2.1 bb.2.2.2.2.1 bb.2.2.2.2.2.1))) else (laws_FnMemory.j0 k ba.2.2.2.2.2.2.2.2.1 bw.2.2 bb.2.2.2.2.2.2 true ba.1 ba.2.1 ba.2.2.1 ba.2.2.2.1 ba.2.2.2.2.1 ba.2.2.2.2.2.1 ba.2.2.2.2.2.2.1 ba.2.2.2.2.2.2.2.1 ba.2.2.2.2.2.2.2.2.2.1 ba.2.2.2.2.2.2.2.2.2.2.1 ba.2.2.2.2.2.2.2.2.2.2.2.1 ba.2.2.2.2.2.2.2.2.2.2.2.2.1 ba.2.2.2.2.2.2.2.2.2.2.2.2.2.1 ba.2.2.2.2.2.2.2.2.2.2.2.2.2.2 bw.1 bw.2.1 bb.1 bb.2.1 bb.2.2.1 bb.2.2.2.1 bb.2.2.2.2.1 bb.2.2.2.2.2.1)))))))) = some r := by rw [if_neg (show ¬ (false = true) by decide)] at H; exact H
  clear H; have H := H1; clear H1; replace H := Option.bind_eq_some_iff.mp H; obtain ⟨⟨bj, br, bM, bN, bO, bP, bL, bQ, bl, bz, bx, bA, bB, bC, bD⟩, A40, H⟩ := H; replace H : ((impl_Write.f k bj br bM bN bO bP bL bQ bl bz bx bA bB bC bD).bind fun bw => ((spec_Write.f k bj br bM bN bO bP bL bQ bl bz bx bA bB bC bD).bind fun dY => ((spec_DrawRead.f k l0).bind fun bk => ((impl_Read.f k bk.1 bk.2.1 bk.2.2.1 bk.2.2.2.1 bk.2.2.2.2.1 bk.2.2.2.2.2.1 bk.2.2.2.2.2.2.1 bk.2.2.2.2.2.2.2.1 bk.2.2.2.2.2.2.2.2).bind fun bb => ((spec_Read.f k bk.1 bk.2.1 bk.2.2.1 bk.2.2.2.1 bk.2.2.2.2.1 bk.2.2.2.2.2.1 bk.2.2.2.2.2.2.1 bk.2.2.2.2.2.2.2.1 bk.2.2.2.2.2.2.2.2).bind fun bE => (if bw.2.2 = dY.2.2 then ((laws_sameWords.f k bw.1 dY.1).bind fun dt => (if dt = true then (if (!(bb.1 == bE.1) || (!(bb.2.1 == bE.2.1) || ((!(bb.2.2.1 == bE.2.2.1) || (!(bb.2.2.2.1 == bE.2.2.2.1) || (!(bb.2.2.2.2.1 == bE.2.2.2.2.1) || (!(bb.2.2.2.2.2.1 == bE.2.2.2.2.2.1)))))))) = true then (laws_FnMemory.j0 k bl bw.2.2 bb.2.2.2.2.2.2 true bj br bM bN bO bP bL bQ bz bx bA bB bC bD bw.1 bw.2.1 bb.1 bb.2.1 bb.2.2.1 bb.2.2.2.1 bb.2.2.2.2.1 bb.2.2.2.2.2.1) else (laws_FnMemory.j0 k bl bw.2.2 bb.2.2.2.2.2.2 (bb.2.2.2.2.2.2 != bE.2.2.2.2.2.2) bj br bM bN bO bP bL bQ bz bx bA bB bC bD bw.1 bw.2.1 bb.1 bb.2.1 bb.2.2.1 bb.2.2.2.1 bb.2.2.2.2.1 bb.2.2.2.2.2.1)) else (laws_FnMemory.j0 k bl bw.2.2 bb.2.2.2.2.2.2 true bj br bM bN bO bP bL bQ bz bx bA bB bC bD bw.1 bw.2.1 bb.1 bb.2.1 bb.2.2.1 bb.2.2.2.1 bb.2.2.2.2.1 bb.2.2.2.2.2.1))) else (laws_FnMemory.j0 k bl bw.2.2 bb.2.2.2.2.2.2 true bj br bM bN bO bP bL bQ bz bx bA bB bC bD bw.1 bw.2.1 bb.1 bb.2.1 bb.2.2.1 bb.2.2.2.1 bb.2.2.2.2.1 bb.2.2.2.2.2.1))))))) = some r := H; have A4 := Aside0.mk A40; clear A40; replace H := Option.bind_eq_some_iff.mp H; obtain ⟨⟨bd, bJ, b0⟩, A50, H⟩ := H; replace H : ((spec_Write.f k bj br bM bN bO bP bL bQ bl bz bx bA bB bC bD).bind fun dY => ((spec_DrawRead.f k l0).bind fun bk => ((impl_Read.f k bk.1 bk.2.1 bk.2.2.1 bk.2.2.2.1 bk.2.2.2.2.1 bk.2.2.2.2.2.1 bk.2.2.2.2.2.2.1 bk.2.2.2.2.2.2.2.1 bk.2.2.2.2.2.2.2.2).bind fun bb => ((spec_Read.f k bk.1 bk.2.1 bk.2.2.1 bk.2.2.2.1 bk.2.2.2.2.1 bk.2.2.2.2.2.1 bk.2.2.2.2.2.2.1 bk.2.2.2.2.2.2.2.1 bk.2.2.2.2.2.2.2.2).bind fun bE => (if b0 = dY.2.2 then ((laws_sameWords.f k bd dY.1).bind fun dt => (if dt = true then (if (!(bb.1 == bE.1) || (!(bb.2.1 == bE.2.1) || ((!(bb.2.2.1 == bE.2.2.1) || (!(bb.2.2.2.1 == bE.2.2.2.1) || (!(bb.2.2.2.2.1 == bE.2.2.2.2.1) || (!(bb.2.2.2.2.2.1 == bE.2.2.2.2.2.1)))))))) = true then (laws_FnMemory.j0 k bl b0 bb.2.2.2.2.2.2 true bj br bM bN bO bP bL bQ bz bx bA bB bC bD bd bJ bb.1 bb.2.1 bb.2.2.1 bb.2.2.2.1 bb.2.2.2.2.1 bb.2.2.2.2.2.1) else (laws_FnMemory.j0 k bl b0 bb.2.2.2.2.2.2 (bb.2.2.2.2.2.2 != bE.2.2.2.2.2.2) bj br bM bN bO bP bL bQ bz bx bA bB bC bD bd bJ bb.1 bb.2.1 bb.2.2.1 bb.2.2.2.1 bb.2.2.2.2.1 bb.2.2.2.2.2.1)) else (laws_FnMemory.j0 k bl b0 bb.2.2.2.2.2.2 true bj br bM bN bO bP bL bQ bz bx bA bB bC bD bd bJ bb.1 bb.2.1 bb.2.2.1 bb.2.2.2.1 bb.2.2.2.2.1 bb.2.2.2.2.2.1))) else (laws_FnMemory.j0 k bl b0 bb.2.2.2.2.2.2 true bj br bM bN bO bP bL bQ bz bx bA bB bC bD bd bJ bb.1 bb.2.1 bb.2.2.1 bb.2.2.2.1 bb.2.2.2.2.1 bb.2.2.2.2.2.1)))))) = some r := H; have A5 := Aside0.mk A50; clear A50; replace H := Option.bind_eq_some_iff.mp H; obtain ⟨⟨bR, di, eo⟩, A60, H⟩ := H; replace H : ((spec_DrawRead.f k l0).bind fun bk => ((impl_Read.f k bk.1 bk.2.1 bk.2.2.1 bk.2.2.2.1 bk.2.2.2.2.1 bk.2.2.2.2.2.1 bk.2.2.2.2.2.2.1 bk.2.2.2.2.2.2.2.1 bk.2.2.2.2.2.2.2.2).bind fun bb => ((spec_Read.f k bk.1 bk.2.1 bk.2.2.1 bk.2.2.2.1 bk.2.2.2.2.1 bk.2.2.2.2.2.1 bk.2.2.2.2.2.2.1 bk.2.2.2.2.2.2.2.1 bk.2.2.2.2.2.2.2.2).bind fun bE => (if b0 = eo then ((laws_sameWords.f k bd bR).bind fun dt => (if dt = true then (if (!(bb.1 == bE.1) || (!(bb.2.1 == bE.2.1) || ((!(bb.2.2.1 == bE.2.2.1) || (!(bb.2.2.2.1 == bE.2.2.2.1) || (!(bb.2.2.2.2.1 == bE.2.2.2.2.1) || (!(bb.2.2.2.2.2.1 == bE.2.2.2.2.2.1)))))))) = true then (laws_FnMemory.j0 k bl b0 bb.2.2.2.2.2.2 true bj br bM bN bO bP bL bQ bz bx bA bB bC bD bd bJ bb.1 bb.2.1 bb.2.2.1 bb.2.2.2.1 bb.2.2.2.2.1 bb.2.2.2.2.2.1) else (laws_FnMemory.j0 k bl b0 bb.2.2.2.2.2.2 (bb.2.2.2.2.2.2 != bE.2.2.2.2.2.2) bj br bM bN bO bP bL bQ bz bx bA bB bC bD bd bJ bb.1 bb.2.1 bb.2.2.1 bb.2.2.2.1 bb.2.2.2.2.1 bb.2.2.2.2.2.1)) else (laws_FnMemory.j0 k bl b0 bb.2.2.2.2.2.2 true bj br bM bN bO bP bL bQ bz bx bA bB bC bD bd bJ bb.1 bb.2.1 bb.2.2.1 bb.2.2.2.1 bb.2.2.2.2.1 bb.2.2.2.2.2.1))) else (laws_FnMemory.j0 k bl b0 bb.2.2.2.2.2.2 true bj br bM bN bO bP bL bQ bz bx bA bB bC bD bd bJ bb.1 bb.2.1 bb.2.2.1 bb.2.2.2.1 bb.2.2.2.2.1 bb.2.2.2.2.2.1))))) = some r := H; have A6 := Aside0.mk A60; clear A60; replace H := Option.bind_eq_some_iff.mp H; obtain ⟨⟨bU, b5, dI, dJ, dK, dL, dM, dN, ep⟩, A70, H⟩ := H; replace H : ((impl_Read.f k bU b5 dI dJ dK dL dM dN ep).bind fun bb => ((spec_Read.f k bU b5 dI dJ dK dL dM dN ep).bind fun bE => (if b0 = eo then ((laws_sameWords.f k bd bR).bind fun dt => (if dt = true then (if (!(bb.1 == bE.1) || (!(bb.2.1 == bE.2.1) || ((!(bb.2.2.1 == bE.2.2.1) || (!(bb.2.2.2.1 == bE.2.2.2.1) || (!(bb.2.2.2.2.1 == bE.2.2.2.2.1) || (!(bb.2.2.2.2.2.1 == bE.2.2.2.2.2.1)))))))) = true then (laws_FnMemory.j0 k bl b0 bb.2.2.2.2.2.2 true bj br bM bN bO bP bL bQ bz bx bA bB bC bD bd bJ bb.1 bb.2.1 bb.2.2.1 bb.2.2.2.1 bb.2.2.2.2.1 bb.2.2.2.2.2.1) else (laws_FnMemory.j0 k bl b0 bb.2.2.2.2.2.2 (bb.2.2.2.2.2.2 != bE.2.2.2.2.2.2) bj br bM bN bO bP bL bQ bz bx bA bB bC bD bd bJ bb.1 bb.2.1 bb.2.2.1 bb.2.2.2.1 bb.2.2.2.2.1 bb.2.2.2.2.2.1)) else (laws_FnMemory.j0 k bl b0 bb.2.2.2.2.2.2 true bj br bM bN bO bP bL bQ bz bx bA bB bC bD bd bJ bb.1 bb.2.1 bb.2.2.1 bb.2.2.2.1 bb.2.2.2.2.1 bb.2.2.2.2.2.1))) else (laws_FnMemory.j0 k bl b0 bb.2.2.2.2.2.2 true bj br bM bN bO bP bL bQ bz bx bA bB bC bD bd bJ bb.1 bb.2.1 bb.2.2.1 bb.2.2.2.1 bb.2.2.2.2.1 bb.2.2.2.2.2.1)))) = some r := H; have A7 := Aside0.mk A70; clear A70; replace H := Option.bind_eq_some_iff.mp H; obtain ⟨⟨da, db, dc, dd, de, df, dk⟩, A80, H⟩ := H; replace H : ((spec_Read.f k bU b5 dI dJ dK dL dM dN ep).bind fun bE => (if b0 = eo then ((laws_sameWords.f k bd bR).bind fun dt => (if dt = true then (if (!(da == bE.1) || (!(db == bE.2.1) || ((!(dc == bE.2.2.1) || (!(dd == bE.2.2.2.1) || (!(de == bE.2.2.2.2.1) || (!(df == bE.2.2.2.2.2.1)))))))) = true then (laws_FnMemory.j0 k bl b0 dk true bj br bM bN bO bP bL bQ bz bx bA bB bC bD bd bJ da db dc dd de df) else (laws_FnMemory.j0 k bl b0 dk (dk != bE.2.2.2.2.2.2) bj br bM bN bO bP bL bQ bz bx bA bB bC bD bd bJ da db dc dd de df)) else (laws_FnMemory.j0 k bl b0 dk true bj br bM bN bO bP bL bQ bz bx bA bB bC bD bd bJ da db dc dd de df))) else (laws_FnMemory.j0 k bl b0 dk true bj br bM bN bO bP bL bQ bz bx bA bB bC bD bd bJ da db dc dd de df))) = some r := H; have A8 := Aside0.mk A80; clear A80; replace H := Option.bind_eq_some_iff.mp H; obtain ⟨⟨er, es, et, eu, ev, ew, gv⟩, A90, H⟩ := H; replace H : (if b0 = eo then ((laws_sameWords.f k bd bR).bind fun dt => (if dt = true then (if (!(da == er) || (!(db == es) || ((!(dc == et) || (!(dd == eu) || (!(de == ev) || (!(df == ew)))))))) = true then (laws_FnMemory.j0 k bl b0 dk true bj br bM bN bO bP bL bQ bz bx bA bB bC bD bd bJ da db dc dd de df) else (laws_FnMemory.j0 k bl b0 dk (dk != gv) bj br bM bN bO bP bL bQ bz bx bA bB bC bD bd bJ da db dc dd de df)) else (laws_FnMemory.j0 k bl b0 dk true bj br bM bN bO bP bL bQ bz bx bA bB bC bD bd bJ da db dc dd de df))) else (laws_FnMemory.j0 k bl b0 dk true bj br bM bN bO bP bL bQ bz bx bA bB bC bD bd bJ da db dc dd de df)) = some r := H; have A9 := Aside0.mk A90; clear A90; have jS := Aside0.mk H; clear H
  go_enter Try.func4, Try.ntmps4
  go_upto_region 9 with (first | (go_at_call 5; (with_reducible refine (laws_big.calls _ _ l0 false _ ?side1 ?side2 A2.out).mono ?_); (case side1 => exact nC em); (case side2 => exact en.out); rintro e w' ⟨rfl, ⟨nd, rfl⟩⟩; (try first | exact ⟨rfl, _, World.drewN_drewN _ _ _⟩ | exact ⟨rfl, _, Eq.trans (World.drewN_drewN _ _ _) (congrArg (World.drewN _) (Nat.add_assoc _ _ _))⟩)) | (go_at_call 21; (with_reducible refine (spec_DrawWrite.calls k _ _ l0 bj br bM bN bO bP bL bQ bl bz bx bA bB bC bD _ ?side1 ?side2 A4.out).mono ?_); (case side1 => exact nC em); (case side2 => exact en.out); rintro e kk ⟨kl, km, rfl, bX, bY, hb⟩; have bn := Aside0.mk (Kd.Q_lower bX (bsz HB)); have bo := Aside0.mk (Kd.R_lower bY (bsz HB)); replace HB := nbs HB hb; (try clear hb); (try clear bX); (try clear bY)) | ((with_reducible refine gate_dst (N := 3) rfl ?_); refine bxe 3 #[.slice none 0 0, .slice none 0 0] 27 ?_; intro e6 hg kn hbox hb; have bc := hbox; have ko := nge HB hg; have kp := nge HB hg; replace bn := nQ bn hb; replace bo := nR bo hb; replace HB := nbs HB hb; clear hb hbox hg) | ((with_reducible refine gate_dst (N := 4) rfl ?_); refine bxe 4 #[.int .i64 0, .bool false, .int .i64 0, .int .i64 0, .int .i64 0, .int .i64 0] 36 ?_; intro bF hg kr hbox hb; have bf := hbox; have ks := nge HB hg; have kt := nge HB hg; have ed := nlt bc hg; have dZ := ngt bc hg; replace bn := Aside0.mk (Kd.Q_below (Kd.Q_elderB (nQo bn) bF (Nat.le_of_eq hg.symm)) hb); replace bo := nR bo hb; replace bc := nblk bc hb; replace HB := nbs HB hb; clear hb hbox hg) | ((with_reducible refine gate_dst (N := 6) rfl ?_); refine bxe 6 #[.int .i64 0, .bool false, .int .i64 0, .int .i64 0, .int .i64 0, .int .i64 0] 36 ?_; intro bG hg ku hbox hb; have bh := hbox; have kv := nge HB hg; have kw := nge HB hg; have d5 := nlt bc hg; have dA := ngt bc hg; have ee := nlt bf hg; have ef := ngt bf hg; replace bn := Aside0.mk (Kd.Q_below (Kd.Q_elderB (nQo bn) bG (Nat.le_of_eq hg.symm)) hb); replace bo := nR bo hb; replace bc := nblk bc hb; replace bf := nblk bf hb; replace HB := nbs HB hb; clear hb hbox hg; obtain ⟨b2, bZ, gD, _⟩ := Kd.Q_slice bn.out; subst gD; have kx := ed.out; have ky := dZ.out; have kz := d5.out; have kA := dA.out; obtain ⟨gE, gF⟩ := c2e bc; obtain ⟨gG, gH⟩ := z2_ bc; obtain ⟨dn, dg, gI⟩ := Kd.R_slice bo.out; subst gI; have kB := ee.out; have kC := ef.out; obtain ⟨gJ, gK, gL, gM, gN, gO⟩ := c6e bf; obtain ⟨gP, gQ, gR, gS, gT, gU⟩ := z6_ bf; obtain ⟨gV, gW, gX, gY, gZ, g0⟩ := c6e bh; obtain ⟨g1, g2, g3, g4, g5, g6⟩ := z6_ bh) | (go_at_call 22; (with_reducible refine (impl_Write.calls k _ _ bj _ _ br bM bN bO bP bL bQ bl bz bx bA bB bC bD bd bJ b0 _ ?side1 ?side2 ?side3 ?side4 A5.out).mono ?_); (case side1 => refine (Kd.Q_reads' (e := 36) (base := w.heap.size) (ok := fun k_ => ((True ∧ k_ ≠ bF) ∧ k_ ≠ bG)) (n := bj.length) (c := bZ) ?_).2.2; exact (by (with_reducible repeat (first | apply Kd.Q_alloc | apply Kd.Q_drewN | apply Kd.Q_drew)); exact (Kd.Q_mono (Kd.Q_mono (Kd.Q_mono (hQ6_ (fun _ hk => hk.2) (hQ6_ (fun _ hk => hk.1.2) (hQ2_ (fun _ hk => hk.1.1.2) (Kd.Q_mono (Kd.Q_mono (Kd.Q_types bn.out bc.out (by decide)) (fun k_ hk => (⟨hk, hk.1.1.2⟩ : _ ∧ k_ ≠ bF))) (fun k_ hk => (⟨hk, hk.1.1.2⟩ : _ ∧ k_ ≠ bG)))))) (fun _ h_ => h_.1)) (fun _ h_ => h_.1)) (fun _ h_ => h_.1)))); (case side2 => exact (Kd.Q_reads' bn.out).2.1); (case side3 => refine (Kd.R_reads' (e := 4) (base := w.heap.size) (ok := fun k_ => True) (n := br.length) (c := dg) ?_).2.2; exact (by (with_reducible repeat (first | apply Kd.R_alloc | apply Kd.R_drewN | apply Kd.R_drew)); exact (Kd.R_mono (Kd.R_mono (Kd.R_mono (hR6_ (fun _ hk => hk.2) (hR6_ (fun _ hk => hk.1.2) (hR2_ (fun _ hk => hk.1.1.2) (Kd.R_types (Kd.R_types (Kd.R_types bo.out bc.out (by decide)) bf.out (by decide)) bh.out (by decide))))) (fun _ h_ => h_.1)) (fun _ h_ => h_.1)) (fun _ h_ => h_.1)))); (case side4 => exact (Kd.R_reads' bo.out).2.1); rintro e kD ⟨kE, kF, rfl, bX, bY, hb⟩; have bp := Aside0.mk (Kd.R_lower (Kd.R_newB (Kd.R_newB (Kd.R_new' bX (Kd.Q_lt (by (with_reducible repeat (first | apply Kd.Q_alloc | apply Kd.Q_drewN | apply Kd.Q_drew)); exact (Kd.Q_mono (Kd.Q_mono (Kd.Q_mono (hQ6_ (fun _ hk => hk.2) (hQ6_ (fun _ hk => hk.1.2) (hQ2_ (fun _ hk => hk.1.1.2) (Kd.Q_mono (Kd.Q_mono (Kd.Q_types bn.out bc.out (by decide)) (fun k_ hk => (⟨hk, hk.1.1.2⟩ : _ ∧ k_ ≠ bF))) (fun k_ hk => (⟨hk, hk.1.1.2⟩ : _ ∧ k_ ≠ bG)))))) (fun _ h_ => h_.1)) (fun _ h_ => h_.1)) (fun _ h_ => h_.1))))) (g := bF) (o := .cells #[.int .i64 bM, .bool bN, .int .i64 bO, .int .i64 bP, .int .i64 bL, .int .i64 bQ] 36 (0, 0)) (k6_ ee.out (p6 bf (k2_ dZ.out (nb bf))))) (g := bG) (o := .cells #[.int .i64 bz, .bool bx, .int .i64 bA, .int .i64 bB, .int .i64 bC, .int .i64 bD] 36 (0, 0)) (p6 bh (k6_ ef.out (k2_ dA.out (nb bh))))) (bsz HB)); have bv := Aside0.mk (Kd.R_lower (Kd.R_new' bY (Kd.R_lt (by (with_reducible repeat (first | apply Kd.R_alloc | apply Kd.R_drewN | apply Kd.R_drew)); exact (Kd.R_mono (Kd.R_mono (Kd.R_mono (hR6_ (fun _ hk => hk.2) (hR6_ (fun _ hk => hk.1.2) (hR2_ (fun _ hk => hk.1.1.2) (Kd.R_types (Kd.R_types (Kd.R_types bo.out bc.out (by decide)) bf.out (by decide)) bh.out (by decide))))) (fun _ h_ => h_.1)) (fun _ h_ => h_.1)) (fun _ h_ => h_.1))))) (bsz HB)); replace bn := Aside0.mk (Kd.Q_elder' (by (with_reducible repeat (first | apply Kd.Q_alloc | apply Kd.Q_drewN | apply Kd.Q_drew)); exact (Kd.Q_mono (Kd.Q_mono (Kd.Q_mono (hQ6_ (fun _ hk => hk.2) (hQ6_ (fun _ hk => hk.1.2) (hQ2_ (fun _ hk => hk.1.1.2) (Kd.Q_mono (Kd.Q_mono (Kd.Q_types bn.out bc.out (by decide)) (fun k_ hk => (⟨hk, hk.1.1.2⟩ : _ ∧ k_ ≠ bF))) (fun k_ hk => (⟨hk, hk.1.1.2⟩ : _ ∧ k_ ≠ bG)))))) (fun _ h_ => h_.1)) (fun _ h_ => h_.1)) (fun _ h_ => h_.1))) (Kd.R_base bX) hb); replace bo := Aside0.mk (Kd.R_elder' (by (with_reducible repeat (first | apply Kd.R_alloc | apply Kd.R_drewN | apply Kd.R_drew)); exact (Kd.R_mono (Kd.R_mono (Kd.R_mono (hR6_ (fun _ hk => hk.2) (hR6_ (fun _ hk => hk.1.2) (hR2_ (fun _ hk => hk.1.1.2) (Kd.R_types (Kd.R_types (Kd.R_types bo.out bc.out (by decide)) bf.out (by decide)) bh.out (by decide))))) (fun _ h_ => h_.1)) (fun _ h_ => h_.1)) (fun _ h_ => h_.1))) (Kd.R_base bY) hb); replace bc := Aside0.mk (blk_below (g := e6) (o := .cells #[.slice b2 bj.length bZ, .slice dn br.length dg] 27 (0, 0)) (k6_ d5.out (k6_ ed.out (q2 bc))) hb); replace bf := Aside0.mk (blk_below (g := bF) (o := .cells #[.int .i64 bM, .bool bN, .int .i64 bO, .int .i64 bP, .int .i64 bL, .int .i64 bQ] 36 (0, 0)) (k6_ ee.out (p6 bf (k2_ dZ.out (nb bf)))) hb); replace bh := Aside0.mk (blk_below (g := bG) (o := .cells #[.int .i64 bz, .bool bx, .int .i64 bA, .int .i64 bB, .int .i64 bC, .int .i64 bD] 36 (0, 0)) (p6 bh (k6_ ef.out (k2_ dA.out (nb bh)))) hb); replace HB := nbs HB hb; (try clear hb); (try clear bX); (try clear bY)) | ((with_reducible refine gate_dst (N := 7) rfl ?_); refine bxe 7 #[.slice none 0 0, .slice none 0 0] 27 ?_; intro e7 hg kG hbox hb; have bg := hbox; have kH := nge HB hg; have kI := nge HB hg; have d0 := nlt bc hg; have d1 := ngt bc hg; have dv := nlt bf hg; have dO := ngt bf hg; have dw := nlt bh hg; have dP := ngt bh hg; replace bn := nQ bn hb; replace bo := nR bo hb; replace bp := nR bp hb; replace bv := nR bv hb; replace bc := nblk bc hb; replace bf := nblk bf hb; replace bh := nblk bh hb; replace HB := nbs HB hb; clear hb hbox hg; obtain ⟨b7, b1, g7⟩ := Kd.R_slice bp.out; subst g7; have kJ := d1.out; have kK := d0.out; have kL := dO.out; have kM := dv.out; have kN := dP.out; have kO := dw.out; obtain ⟨g8, g9⟩ := c2e bg; obtain ⟨ha, hc⟩ := z2_ bg; obtain ⟨dl, dm, hf⟩ := Kd.R_slice bv.out; subst hf; obtain ⟨hh, hj⟩ := c2e bc; obtain ⟨hl, hm⟩ := z2_ bc; obtain ⟨hn, ho, hp, hq, hr, hs⟩ := c6e bf; obtain ⟨ht, hu, hv, hw, hx, hy⟩ := z6_ bf; obtain ⟨hz, hA, hB, hC, hD, hE⟩ := c6e bh; obtain ⟨hF, hG, hH, hI, hJ, hK⟩ := z6_ bh) | (go_at_call 23; (with_reducible refine (spec_Write.calls k _ _ bj _ _ br bM bN bO bP bL bQ bl bz bx bA bB bC bD bR di eo _ ?side1 ?side2 ?side3 ?side4 A6.out).mono ?_); (case side1 => refine (Kd.Q_reads' (e := 36) (base := w.heap.size) (ok := fun k_ => (((True ∧ k_ ≠ bF) ∧ k_ ≠ bG) ∧ some k_ ≠ (.slice b7 bd.length b1 : Value).ownBlock)) (n := bj.length) (c := bZ) ?_).2.2; exact (by (with_reducible repeat (first | apply Kd.Q_alloc | apply Kd.Q_drewN | apply Kd.Q_drew)); exact (fQ2 (Kd.Q_types bn.out bg.out (by decide))))); (case side2 => exact (Kd.Q_reads' bn.out).2.1); (case side3 => refine (Kd.R_reads' (e := 4) (base := w.heap.size) (ok := fun k_ => (True ∧ some k_ ≠ (.slice dl bJ.length dm : Value).ownBlock)) (n := br.length) (c := dg) ?_).2.2; exact (by (with_reducible repeat (first | apply Kd.R_alloc | apply Kd.R_drewN | apply Kd.R_drew)); exact (f2 (Kd.R_types bo.out bg.out (by decide))))); (case side4 => exact (Kd.R_reads' bo.out).2.1); rintro e kP ⟨kQ, kR, rfl, bX, bY, hb⟩; have bu := Aside0.mk (Kd.R_lower (Kd.R_newB (Kd.R_newB (Kd.R_new' (Kd.R_new' bX (Kd.Q_lt (by (with_reducible repeat (first | apply Kd.Q_alloc | apply Kd.Q_drewN | apply Kd.Q_drew)); exact (fQ2 (Kd.Q_types bn.out bg.out (by decide)))))) (Kd.R_lt (by (with_reducible repeat (first | apply Kd.R_alloc | apply Kd.R_drewN | apply Kd.R_drew)); exact (f2 (Kd.R_types bp.out bg.out (by decide)))))) (g := bF) (o := .cells #[.int .i64 bM, .bool bN, .int .i64 bO, .int .i64 bP, .int .i64 bL, .int .i64 bQ] 36 (0, 0)) (nb bf)) (g := bG) (o := .cells #[.int .i64 bz, .bool bx, .int .i64 bA, .int .i64 bB, .int .i64 bC, .int .i64 bD] 36 (0, 0)) (nb bh)) (bsz HB)); have bS := Aside0.mk (Kd.R_lower (Kd.R_new' (Kd.R_new' bY (Kd.R_lt (by (with_reducible repeat (first | apply Kd.R_alloc | apply Kd.R_drewN | apply Kd.R_drew)); exact (f2 (Kd.R_types bo.out bg.out (by decide)))))) (Kd.R_lt (by (with_reducible repeat (first | apply Kd.R_alloc | apply Kd.R_drewN | apply Kd.R_drew)); exact (f2 (Kd.R_types bv.out bg.out (by decide)))))) (bsz HB)); replace bn := Aside0.mk (Kd.Q_elder' (by (with_reducible repeat (first | apply Kd.Q_alloc | apply Kd.Q_drewN | apply Kd.Q_drew)); exact (fQ2 (Kd.Q_types bn.out bg.out (by decide)))) (Kd.R_base bX) hb); replace bo := Aside0.mk (Kd.R_elder' (by (with_reducible repeat (first | apply Kd.R_alloc | apply Kd.R_drewN | apply Kd.R_drew)); exact (f2 (Kd.R_types bo.out bg.out (by decide)))) (Kd.R_base bY) hb); replace bp := Aside0.mk (Kd.R_elder' (by (with_reducible repeat (first | apply Kd.R_alloc | apply Kd.R_drewN | apply Kd.R_drew)); exact (f2 (Kd.R_types bp.out bg.out (by decide)))) (Kd.R_base bX) hb); replace bv := Aside0.mk (Kd.R_elder' (by (with_reducible repeat (first | apply Kd.R_alloc | apply Kd.R_drewN | apply Kd.R_drew)); exact (f2 (Kd.R_types bv.out bg.out (by decide)))) (Kd.R_base bY) hb); replace bc := nblk bc hb; replace bf := nblk bf hb; replace bh := nblk bh hb; replace bg := Aside0.mk (blk_below (g := e7) (o := .cells #[.slice b7 bd.length b1, .slice dl bJ.length dm] 27 (0, 0)) (q2 bg) hb); replace HB := nbs HB hb; (try clear hb); (try clear bX); (try clear bY)) | ((with_reducible refine gate_dst (N := 9) rfl ?_); refine bxe 9 #[.slice none 0 0, .slice none 0 0] 27 ?_; intro e8 hg kS hbox hb; have bi := hbox; have kT := nge HB hg; have kU := nge HB hg; have ei := nlt bc hg; have ej := ngt bc hg; have ex := nlt bf hg; have eV := ngt bf hg; have eg := nlt bh hg; have eN := ngt bh hg; have dQ := nlt bg hg; have dR := ngt bg hg; replace bn := nQ bn hb; replace bo := nR bo hb; replace bp := nR bp hb; replace bv := nR bv hb; replace bu := nR bu hb; replace bS := nR bS hb; replace bc := nblk bc hb; replace bf := nblk bf hb; replace bh := nblk bh hb; replace bg := nblk bg hb; replace HB := nbs HB hb; clear hb hbox hg; obtain ⟨b9, b3, hL⟩ := Kd.R_slice bu.out; subst hL; have kV := ej.out; have kW := ei.out; have kX := eV.out; have kY := ex.out; have kZ := eN.out; have k0 := eg.out; have k1 := dR.out; have k2 := dQ.out; obtain ⟨hM, hN⟩ := c2e bi; obtain ⟨hO, hQ⟩ := z2_ bi; obtain ⟨dp, dq, hR⟩ := Kd.R_slice bS.out; subst hR) | (go_at_call 24; (with_reducible refine (spec_DrawRead.calls k _ _ l0 bU b5 dI dJ dK dL dM dN ep _ ?side1 ?side2 A7.out).mono ?_); (case side1 => exact Kd.C_below em.out (nbe HB)); (case side2 => exact en.out); rintro e k4 ⟨k5, k6, rfl, bX, bY, hb⟩; have bV := Aside0.mk (Kd.Q_lower (Kd.Q_newB (Kd.Q_newB (Kd.Q_new' (Kd.Q_new' (Kd.Q_new' bX (Kd.Q_lt (by (with_reducible repeat (first | apply Kd.Q_alloc | apply Kd.Q_drewN | apply Kd.Q_drew)); exact (fQ2 (Kd.Q_types bn.out bi.out (by decide)))))) (Kd.R_lt (by (with_reducible repeat (first | apply Kd.R_alloc | apply Kd.R_drewN | apply Kd.R_drew)); exact (f2 (Kd.R_types bp.out bi.out (by decide)))))) (Kd.R_lt (by (with_reducible repeat (first | apply Kd.R_alloc | apply Kd.R_drewN | apply Kd.R_drew)); exact (f2 (Kd.R_types bu.out bi.out (by decide)))))) (g := bF) (o := .cells #[.int .i64 bM, .bool bN, .int .i64 bO, .int .i64 bP, .int .i64 bL, .int .i64 bQ] 36 (0, 0)) (nb bf)) (g := bG) (o := .cells #[.int .i64 bz, .bool bx, .int .i64 bA, .int .i64 bB, .int .i64 bC, .int .i64 bD] 36 (0, 0)) (nb bh)) (bsz HB)); have bW := Aside0.mk (Kd.R_lower (Kd.R_new' (Kd.R_new' (Kd.R_new' bY (Kd.R_lt (by (with_reducible repeat (first | apply Kd.R_alloc | apply Kd.R_drewN | apply Kd.R_drew)); exact (f2 (Kd.R_types bo.out bi.out (by decide)))))) (Kd.R_lt (by (with_reducible repeat (first | apply Kd.R_alloc | apply Kd.R_drewN | apply Kd.R_drew)); exact (f2 (Kd.R_types bv.out bi.out (by decide)))))) (Kd.R_lt (by (with_reducible repeat (first | apply Kd.R_alloc | apply Kd.R_drewN | apply Kd.R_drew)); exact (f2 (Kd.R_types bS.out bi.out (by decide)))))) (bsz HB)); replace bn := Aside0.mk (Kd.Q_elder' (by (with_reducible repeat (first | apply Kd.Q_alloc | apply Kd.Q_drewN | apply Kd.Q_drew)); exact (fQ2 (Kd.Q_types bn.out bi.out (by decide)))) (Kd.Q_base bX) hb); replace bo := Aside0.mk (Kd.R_elder' (by (with_reducible repeat (first | apply Kd.R_alloc | apply Kd.R_drewN | apply Kd.R_drew)); exact (f2 (Kd.R_types bo.out bi.out (by decide)))) (Kd.R_base bY) hb); replace bp := Aside0.mk (Kd.R_elder' (by (with_reducible repeat (first | apply Kd.R_alloc | apply Kd.R_drewN | apply Kd.R_drew)); exact (f2 (Kd.R_types bp.out bi.out (by decide)))) (Kd.Q_base bX) hb); replace bv := Aside0.mk (Kd.R_elder' (by (with_reducible repeat (first | apply Kd.R_alloc | apply Kd.R_drewN | apply Kd.R_drew)); exact (f2 (Kd.R_types bv.out bi.out (by decide)))) (Kd.R_base bY) hb); replace bu := Aside0.mk (Kd.R_elder' (by (with_reducible repeat (first | apply Kd.R_alloc | apply Kd.R_drewN | apply Kd.R_drew)); exact (f2 (Kd.R_types bu.out bi.out (by decide)))) (Kd.Q_base bX) hb); replace bS := Aside0.mk (Kd.R_elder' (by (with_reducible repeat (first | apply Kd.R_alloc | apply Kd.R_drewN | apply Kd.R_drew)); exact (f2 (Kd.R_types bS.out bi.out (by decide)))) (Kd.R_base bY) hb); replace bc := nblk bc hb; replace bf := nblk bf hb; replace bh := nblk bh hb; replace bg := nblk bg hb; replace bi := Aside0.mk (blk_below (g := e8) (o := .cells #[.slice b9 bR.length b3, .slice dp di.length dq] 27 (0, 0)) (q2 bi) hb); replace HB := nbs HB hb; (try clear hb); (try clear bX); (try clear bY)) | ((with_reducible refine gate_dst (N := 11) rfl ?_); refine bxe 11 #[.slice none 0 0, .slice none 0 0] 27 ?_; intro e9 hg k7 hbox hb; have bm := hbox; have k8 := nge HB hg; have k9 := nge HB hg; have eQ := nlt bc hg; have eR := ngt bc hg; have gy := nlt bf hg; have gz := ngt bf hg; have ga := nlt bh hg; have gb := ngt bh hg; have dS := nlt bg hg; have dT := ngt bg hg; have gc := nlt bi hg; have gd := ngt bi hg; replace bn := nQ bn hb; replace bo := nR bo hb; replace bp := nR bp hb; replace bv := nR bv hb; replace bu := nR bu hb; replace bS := nR bS hb; replace bV := nQ bV hb; replace bW := nR bW hb; replace bc := nblk bc hb; replace bf := nblk bf hb; replace bh := nblk bh hb; replace bg := nblk bg hb; replace bi := nblk bi hb; replace HB := nbs HB hb; clear hb hbox hg) | ((with_reducible refine gate_dst (N := 12) rfl ?_); refine bxe 12 #[.int .i64 0, .bool false, .int .i64 0, .int .i64 0, .int .i64 0, .int .i64 0] 36 ?_; intro bH hg ma hbox hb; have bq := hbox; have mb := nge HB hg; have mc := nge HB hg; have eS := nlt bc hg; have eT := ngt bc hg; have gA := nlt bf hg; have gB := ngt bf hg; have gf := nlt bh hg; have gg := ngt bh hg; have dU := nlt bg hg; have dV := ngt bg hg; have gh := nlt bi hg; have gi := ngt bi hg; have gj := nlt bm hg; have gl := ngt bm hg; replace bn := Aside0.mk (Kd.Q_below (Kd.Q_elderB (nQo bn) bH (Nat.le_of_eq hg.symm)) hb); replace bo := nR bo hb; replace bp := Aside0.mk (Kd.R_below (Kd.R_elderB (nRo bp) bH (Nat.le_of_eq hg.symm)) hb); replace bv := nR bv hb; replace bu := Aside0.mk (Kd.R_below (Kd.R_elderB (nRo bu) bH (Nat.le_of_eq hg.symm)) hb); replace bS := nR bS hb; replace bV := Aside0.mk (Kd.Q_below (Kd.Q_elderB (nQo bV) bH (Nat.le_of_eq hg.symm)) hb); replace bW := nR bW hb; replace bc := nblk bc hb; replace bf := nblk bf hb; replace bh := nblk bh hb; replace bg := nblk bg hb; replace bi := nblk bi hb; replace bm := nblk bm hb; replace HB := nbs HB hb; clear hb hbox hg; obtain ⟨b8, b4, hS, _⟩ := Kd.Q_slice bV.out; subst hS; have md := eR.out; have mf := eQ.out; have mg := gz.out; have mh := gy.out; have mi := gb.out; have mj := ga.out; have ml := dT.out; have mm := dS.out; have mn := gd.out; have mo := gc.out; have mq := gj.out; have mr := gl.out; obtain ⟨hT, hU⟩ := c2e bm; obtain ⟨hV, hW⟩ := z2_ bm; obtain ⟨dx, dr, hX⟩ := Kd.R_slice bW.out; subst hX; have ms := eT.out; have mt := eS.out; have mu := gB.out; have mv := gA.out; have mw := gg.out; have mx := gf.out; have mz := dV.out; have mA := dU.out; have mB := gi.out; have mC := gh.out; obtain ⟨hY, hZ, h0, h2, h3, h4⟩ := c6e bq; obtain ⟨h5, h6, h7, h8, h9, ia⟩ := z6_ bq) | (go_at_call 20; (with_reducible refine (impl_Read.calls k _ _ bU _ _ b5 dI dJ dK dL dM dN ep da db dc dd de df dk _ ?side1 ?side2 ?side3 ?side4 A8.out).mono ?_); (case side1 => refine (Kd.Q_reads' (e := 36) (base := w.heap.size) (ok := fun k_ => ((((((True ∧ some k_ ≠ (.slice b2 bj.length bZ : Value).ownBlock) ∧ some k_ ≠ (.slice b7 bd.length b1 : Value).ownBlock) ∧ some k_ ≠ (.slice b9 bR.length b3 : Value).ownBlock) ∧ k_ ≠ bF) ∧ k_ ≠ bG) ∧ k_ ≠ bH)) (n := bU.length) (c := b4) ?_).2.2; exact (by (with_reducible repeat (first | apply Kd.Q_alloc | apply Kd.Q_drewN | apply Kd.Q_drew)); exact (Kd.Q_mono (Kd.Q_mono (hQ6_ (fun _ hk => hk.2) (hQ2_ (fun _ hk => hk.1.2) (Kd.Q_mono (Kd.Q_types bV.out bm.out (by decide)) (fun k_ hk => (⟨hk, hk.1.2⟩ : _ ∧ k_ ≠ bH))))) (fun _ h_ => h_.1)) (fun _ h_ => h_.1)))); (case side2 => exact (Kd.Q_reads' bV.out).2.1); (case side3 => refine (Kd.R_reads' (e := 4) (base := w.heap.size) (ok := fun k_ => (((True ∧ some k_ ≠ (.slice dn br.length dg : Value).ownBlock) ∧ some k_ ≠ (.slice dl bJ.length dm : Value).ownBlock) ∧ some k_ ≠ (.slice dp di.length dq : Value).ownBlock)) (n := b5.length) (c := dr) ?_).2.2; exact (by (with_reducible repeat (first | apply Kd.R_alloc | apply Kd.R_drewN | apply Kd.R_drew)); exact (Kd.R_mono (Kd.R_mono (hR6_ (fun _ hk => hk.2) (hR2_ (fun _ hk => hk.1.2) (Kd.R_types (Kd.R_types bW.out bm.out (by decide)) bq.out (by decide)))) (fun _ h_ => h_.1)) (fun _ h_ => h_.1)))); (case side4 => exact (Kd.R_reads' bW.out).2.1); rintro e mD ⟨rfl, hb⟩; replace bn := Aside0.mk (Kd.Q_below (by (with_reducible repeat (first | apply Kd.Q_alloc | apply Kd.Q_drewN | apply Kd.Q_drew)); exact (Kd.Q_mono (Kd.Q_mono (hQ6_ (fun _ hk => hk.2) (hQ2_ (fun _ hk => hk.1.2) (Kd.Q_mono (Kd.Q_types bn.out bm.out (by decide)) (fun k_ hk => (⟨hk, hk.1.2⟩ : _ ∧ k_ ≠ bH))))) (fun _ h_ => h_.1)) (fun _ h_ => h_.1))) hb); replace bo := Aside0.mk (Kd.R_below (by (with_reducible repeat (first | apply Kd.R_alloc | apply Kd.R_drewN | apply Kd.R_drew)); exact (Kd.R_mono (Kd.R_mono (hR6_ (fun _ hk => hk.2) (hR2_ (fun _ hk => hk.1.2) (Kd.R_types (Kd.R_types bo.out bm.out (by decide)) bq.out (by decide)))) (fun _ h_ => h_.1)) (fun _ h_ => h_.1))) hb); replace bp := Aside0.mk (Kd.R_below (by (with_reducible repeat (first | apply Kd.R_alloc | apply Kd.R_drewN | apply Kd.R_drew)); exact (Kd.R_mono (Kd.R_mono (hR6_ (fun _ hk => hk.2) (hR2_ (fun _ hk => hk.1.2) (Kd.R_mono (Kd.R_types bp.out bm.out (by decide)) (fun k_ hk => (⟨hk, hk.1.2⟩ : _ ∧ k_ ≠ bH))))) (fun _ h_ => h_.1)) (fun _ h_ => h_.1))) hb); replace bv := Aside0.mk (Kd.R_below (by (with_reducible repeat (first | apply Kd.R_alloc | apply Kd.R_drewN | apply Kd.R_drew)); exact (Kd.R_mono (Kd.R_mono (hR6_ (fun _ hk => hk.2) (hR2_ (fun _ hk => hk.1.2) (Kd.R_types (Kd.R_types bv.out bm.out (by decide)) bq.out (by decide)))) (fun _ h_ => h_.1)) (fun _ h_ => h_.1))) hb); replace bu := Aside0.mk (Kd.R_below (by (with_reducible repeat (first | apply Kd.R_alloc | apply Kd.R_drewN | apply Kd.R_drew)); exact (Kd.R_mono (Kd.R_mono (hR6_ (fun _ hk => hk.2) (hR2_ (fun _ hk => hk.1.2) (Kd.R_mono (Kd.R_types bu.out bm.out (by decide)) (fun k_ hk => (⟨hk, hk.1.2⟩ : _ ∧ k_ ≠ bH))))) (fun _ h_ => h_.1)) (fun _ h_ => h_.1))) hb); replace bS := Aside0.mk (Kd.R_below (by (with_reducible repeat (first | apply Kd.R_alloc | apply Kd.R_drewN | apply Kd.R_drew)); exact (Kd.R_mono (Kd.R_mono (hR6_ (fun _ hk => hk.2) (hR2_ (fun _ hk => hk.1.2) (Kd.R_types (Kd.R_types bS.out bm.out (by decide)) bq.out (by decide)))) (fun _ h_ => h_.1)) (fun _ h_ => h_.1))) hb); replace bV := Aside0.mk (Kd.Q_below (by (with_reducible repeat (first | apply Kd.Q_alloc | apply Kd.Q_drewN | apply Kd.Q_drew)); exact (Kd.Q_mono (Kd.Q_mono (hQ6_ (fun _ hk => hk.2) (hQ2_ (fun _ hk => hk.1.2) (Kd.Q_mono (Kd.Q_types bV.out bm.out (by decide)) (fun k_ hk => (⟨hk, hk.1.2⟩ : _ ∧ k_ ≠ bH))))) (fun _ h_ => h_.1)) (fun _ h_ => h_.1))) hb); replace bW := Aside0.mk (Kd.R_below (by (with_reducible repeat (first | apply Kd.R_alloc | apply Kd.R_drewN | apply Kd.R_drew)); exact (Kd.R_mono (Kd.R_mono (hR6_ (fun _ hk => hk.2) (hR2_ (fun _ hk => hk.1.2) (Kd.R_types (Kd.R_types bW.out bm.out (by decide)) bq.out (by decide)))) (fun _ h_ => h_.1)) (fun _ h_ => h_.1))) hb); replace bc := nblk bc hb; replace bf := nblk bf hb; replace bh := nblk bh hb; replace bg := nblk bg hb; replace bi := nblk bi hb; replace bm := Aside0.mk (blk_below (g := e9) (o := .cells #[.slice b8 bU.length b4, .slice dx b5.length dr] 27 (0, 0)) (k6_ gj.out (q2 bm)) hb); replace bq := Aside0.mk (blk_below (g := bH) (o := .cells #[.int .i64 dI, .bool dJ, .int .i64 dK, .int .i64 dL, .int .i64 dM, .int .i64 dN] 36 (0, 0)) (p6 bq (k2_ gl.out (nb bq))) hb); replace HB := nbs HB hb; (try clear hb)) | ((with_reducible refine gate_dst (N := 14) rfl ?_); refine bxe 14 #[.int .i64 0, .bool false, .int .i64 0, .int .i64 0, .int .i64 0, .int .i64 0] 36 ?_; intro bI hg mE hbox hb; have bt := hbox; have mF := nge HB hg; have mG := nge HB hg; have d2 := nlt bc hg; have d3 := ngt bc hg; have ek := nlt bf hg; have el := ngt bf hg; have d9 := nlt bh hg; have ea := ngt bh hg; have dB := nlt bg hg; have dC := ngt bg hg; have eW := nlt bi hg; have eX := ngt bi hg; have ey := nlt bm hg; have ez := ngt bm hg; have eA := nlt bq hg; have eB := ngt bq hg; replace bn := Aside0.mk (Kd.Q_below (Kd.Q_elderB (nQo bn) bI (Nat.le_of_eq hg.symm)) hb); replace bo := nR bo hb; replace bp := Aside0.mk (Kd.R_below (Kd.R_elderB (nRo bp) bI (Nat.le_of_eq hg.symm)) hb); replace bv := nR bv hb; replace bu := Aside0.mk (Kd.R_below (Kd.R_elderB (nRo bu) bI (Nat.le_of_eq hg.symm)) hb); replace bS := nR bS hb; replace bV := Aside0.mk (Kd.Q_below (Kd.Q_elderB (nQo bV) bI (Nat.le_of_eq hg.symm)) hb); replace bW := nR bW hb; replace bc := nblk bc hb; replace bf := nblk bf hb; replace bh := nblk bh hb; replace bg := nblk bg hb; replace bi := nblk bi hb; replace bm := nblk bm hb; replace bq := nblk bq hb; replace HB := nbs HB hb; clear hb hbox hg; have mH := d3.out; have mI := d2.out; have mJ := el.out; have mK := ek.out; have mL := ea.out; have mM := d9.out; have mN := dC.out; have mO := dB.out; have mP := eX.out; have mQ := eW.out; have mR := ez.out; have mS := ey.out; have mT := eB.out; have mU := eA.out; obtain ⟨ib, ic, ig, ih, ii, ij⟩ := c6e bt; obtain ⟨ik, il, im, io, ip, iq⟩ := z6_ bt; obtain ⟨ir, iu⟩ := c2e bm; obtain ⟨iv, iw⟩ := z2_ bm; obtain ⟨ix, iy, iz, iA, iB, iC⟩ := c6e bq; obtain ⟨iD, iE, iF, iG, iH, iI⟩ := z6_ bq) | (go_at_call 25; (with_reducible refine (spec_Read.calls k _ _ bU _ _ b5 dI dJ dK dL dM dN ep er es et eu ev ew gv _ ?side1 ?side2 ?side3 ?side4 A9.out).mono ?_); (case side1 => refine (Kd.Q_reads' (e := 36) (base := w.heap.size) (ok := fun k_ => (((((((True ∧ some k_ ≠ (.slice b2 bj.length bZ : Value).ownBlock) ∧ some k_ ≠ (.slice b7 bd.length b1 : Value).ownBlock) ∧ some k_ ≠ (.slice b9 bR.length b3 : Value).ownBlock) ∧ k_ ≠ bF) ∧ k_ ≠ bG) ∧ k_ ≠ bH) ∧ k_ ≠ bI)) (n := bU.length) (c := b4) ?_).2.2; exact (by (with_reducible repeat (first | apply Kd.Q_alloc | apply Kd.Q_drewN | apply Kd.Q_drew)); exact (fQ6 (Kd.Q_mono bV.out (fun k_ hk => (⟨hk, hk.2⟩ : _ ∧ k_ ≠ bI)))))); (case side2 => exact (Kd.Q_reads' bV.out).2.1); (case side3 => refine (Kd.R_reads' (e := 4) (base := w.heap.size) (ok := fun k_ => (((True ∧ some k_ ≠ (.slice dn br.length dg : Value).ownBlock) ∧ some k_ ≠ (.slice dl bJ.length dm : Value).ownBlock) ∧ some k_ ≠ (.slice dp di.length dq : Value).ownBlock)) (n := b5.length) (c := dr) ?_).2.2; exact (by (with_reducible repeat (first | apply Kd.R_alloc | apply Kd.R_drewN | apply Kd.R_drew)); exact (f6 (Kd.R_types bW.out bt.out (by decide))))); (case side4 => exact (Kd.R_reads' bW.out).2.1); rintro e mV ⟨rfl, hb⟩; replace bn := Aside0.mk (Kd.Q_below (by (with_reducible repeat (first | apply Kd.Q_alloc | apply Kd.Q_drewN | apply Kd.Q_drew)); exact (fQ6 (Kd.Q_mono bn.out (fun k_ hk => (⟨hk, hk.2⟩ : _ ∧ k_ ≠ bI))))) hb); replace bo := Aside0.mk (Kd.R_below (by (with_reducible repeat (first | apply Kd.R_alloc | apply Kd.R_drewN | apply Kd.R_drew)); exact (f6 (Kd.R_types bo.out bt.out (by decide)))) hb); replace bp := Aside0.mk (Kd.R_below (by (with_reducible repeat (first | apply Kd.R_alloc | apply Kd.R_drewN | apply Kd.R_drew)); exact (f6 (Kd.R_mono bp.out (fun k_ hk => (⟨hk, hk.2⟩ : _ ∧ k_ ≠ bI))))) hb); replace bv := Aside0.mk (Kd.R_below (by (with_reducible repeat (first | apply Kd.R_alloc | apply Kd.R_drewN | apply Kd.R_drew)); exact (f6 (Kd.R_types bv.out bt.out (by decide)))) hb); replace bu := Aside0.mk (Kd.R_below (by (with_reducible repeat (first | apply Kd.R_alloc | apply Kd.R_drewN | apply Kd.R_drew)); exact (f6 (Kd.R_mono bu.out (fun k_ hk => (⟨hk, hk.2⟩ : _ ∧ k_ ≠ bI))))) hb); replace bS := Aside0.mk (Kd.R_below (by (with_reducible repeat (first | apply Kd.R_alloc | apply Kd.R_drewN | apply Kd.R_drew)); exact (f6 (Kd.R_types bS.out bt.out (by decide)))) hb); replace bV := Aside0.mk (Kd.Q_below (by (with_reducible repeat (first | apply Kd.Q_alloc | apply Kd.Q_drewN | apply Kd.Q_drew)); exact (fQ6 (Kd.Q_mono bV.out (fun k_ hk => (⟨hk, hk.2⟩ : _ ∧ k_ ≠ bI))))) hb); replace bW := Aside0.mk (Kd.R_below (by (with_reducible repeat (first | apply Kd.R_alloc | apply Kd.R_drewN | apply Kd.R_drew)); exact (f6 (Kd.R_types bW.out bt.out (by decide)))) hb); replace bc := nblk bc hb; replace bf := nblk bf hb; replace bh := nblk bh hb; replace bg := nblk bg hb; replace bi := nblk bi hb; replace bm := nblk bm hb; replace bq := nblk bq hb; replace bt := Aside0.mk (blk_below (g := bI) (o := .cells #[.int .i64 da, .bool db, .int .i64 dc, .int .i64 dd, .int .i64 de, .int .i64 df] 36 (0, 0)) (q6 bt) hb); replace HB := nbs HB hb; (try clear hb)) | ((with_reducible refine gate_dst (N := 16) rfl ?_); refine bxe 16 #[.int .i64 0, .bool false, .int .i64 0, .int .i64 0, .int .i64 0, .int .i64 0] 36 ?_; intro bs hg mW hbox hb; have bT := hbox; have mX := nge HB hg; have mY := nge HB hg; have dy := nlt bc hg; have d6 := ngt bc hg; have d7 := nlt bf hg; have eC := ngt bf hg; have dW := nlt bh hg; have eh := ngt bh hg; have du := nlt bg hg; have dX := ngt bg hg; have eD := nlt bi hg; have gm := ngt bi hg; have eb := nlt bm hg; have eO := ngt bm hg; have ec := nlt bq hg; have eP := ngt bq hg; have d8 := nlt bt hg; have eE := ngt bt hg; replace bn := Aside0.mk (Kd.Q_below (Kd.Q_elderB (nQo bn) bs (Nat.le_of_eq hg.symm)) hb); replace bo := nR bo hb; replace bp := Aside0.mk (Kd.R_below (Kd.R_elderB (nRo bp) bs (Nat.le_of_eq hg.symm)) hb); replace bv := nR bv hb; replace bu := Aside0.mk (Kd.R_below (Kd.R_elderB (nRo bu) bs (Nat.le_of_eq hg.symm)) hb); replace bS := nR bS hb; replace bV := Aside0.mk (Kd.Q_below (Kd.Q_elderB (nQo bV) bs (Nat.le_of_eq hg.symm)) hb); replace bW := nR bW hb; replace bc := nblk bc hb; replace bf := nblk bf hb; replace bh := nblk bh hb; replace bg := nblk bg hb; replace bi := nblk bi hb; replace bm := nblk bm hb; replace bq := nblk bq hb; replace bt := nblk bt hb; replace HB := nbs HB hb; clear hb hbox hg; have mZ := d6.out; have m0 := dy.out; have m1 := eC.out; have m2 := d7.out; have m3 := eh.out; have m4 := dW.out; have m5 := dX.out; have m6 := du.out; have m7 := gm.out; have m8 := eD.out; have m9 := eO.out; have na := eb.out; have nc := eP.out; have nf := ec.out; have ng := eE.out; have nh := d8.out; obtain ⟨iJ, iK, iL, iM, iN, iO⟩ := c6e bT; obtain ⟨iP, iQ, iR, iS, iT, iU⟩ := z6_ bT))
  repeat (go_quiet (first | (go_at_call 5; (with_reducible refine (laws_big.calls _ _ l0 false _ ?side1 ?side2 A2.out).mono ?_); (case side1 => exact nC em); (case side2 => exact en.out); rintro e w' ⟨rfl, ⟨nd, rfl⟩⟩; (try first | exact ⟨rfl, _, World.drewN_drewN _ _ _⟩ | exact ⟨rfl, _, Eq.trans (World.drewN_drewN _ _ _) (congrArg (World.drewN _) (Nat.add_assoc _ _ _))⟩)) | (go_at_call 21; (with_reducible refine (spec_DrawWrite.calls k _ _ l0 bj br bM bN bO bP bL bQ bl bz bx bA bB bC bD _ ?side1 ?side2 A4.out).mono ?_); (case side1 => exact nC em); (case side2 => exact en.out); rintro e kk ⟨kl, km, rfl, bX, bY, hb⟩; have bn := Aside0.mk (Kd.Q_lower bX (bsz HB)); have bo := Aside0.mk (Kd.R_lower bY (bsz HB)); replace HB := nbs HB hb; (try clear hb); (try clear bX); (try clear bY)) | ((with_reducible refine gate_dst (N := 3) rfl ?_); refine bxe 3 #[.slice none 0 0, .slice none 0 0] 27 ?_; intro e6 hg kn hbox hb; have bc := hbox; have ko := nge HB hg; have kp := nge HB hg; replace bn := nQ bn hb; replace bo := nR bo hb; replace HB := nbs HB hb; clear hb hbox hg) | ((with_reducible refine gate_dst (N := 4) rfl ?_); refine bxe 4 #[.int .i64 0, .bool false, .int .i64 0, .int .i64 0, .int .i64 0, .int .i64 0] 36 ?_; intro bF hg kr hbox hb; have bf := hbox; have ks := nge HB hg; have kt := nge HB hg; have ed := nlt bc hg; have dZ := ngt bc hg; replace bn := Aside0.mk (Kd.Q_below (Kd.Q_elderB (nQo bn) bF (Nat.le_of_eq hg.symm)) hb); replace bo := nR bo hb; replace bc := nblk bc hb; replace HB := nbs HB hb; clear hb hbox hg) | ((with_reducible refine gate_dst (N := 6) rfl ?_); refine bxe 6 #[.int .i64 0, .bool false, .int .i64 0, .int .i64 0, .int .i64 0, .int .i64 0] 36 ?_; intro bG hg ku hbox hb; have bh := hbox; have kv := nge HB hg; have kw := nge HB hg; have d5 := nlt bc hg; have dA := ngt bc hg; have ee := nlt bf hg; have ef := ngt bf hg; replace bn := Aside0.mk (Kd.Q_below (Kd.Q_elderB (nQo bn) bG (Nat.le_of_eq hg.symm)) hb); replace bo := nR bo hb; replace bc := nblk bc hb; replace bf := nblk bf hb; replace HB := nbs HB hb; clear hb hbox hg; obtain ⟨b2, bZ, gD, _⟩ := Kd.Q_slice bn.out; subst gD; have kx := ed.out; have ky := dZ.out; have kz := d5.out; have kA := dA.out; obtain ⟨gE, gF⟩ := c2e bc; obtain ⟨gG, gH⟩ := z2_ bc; obtain ⟨dn, dg, gI⟩ := Kd.R_slice bo.out; subst gI; have kB := ee.out; have kC := ef.out; obtain ⟨gJ, gK, gL, gM, gN, gO⟩ := c6e bf; obtain ⟨gP, gQ, gR, gS, gT, gU⟩ := z6_ bf; obtain ⟨gV, gW, gX, gY, gZ, g0⟩ := c6e bh; obtain ⟨g1, g2, g3, g4, g5, g6⟩ := z6_ bh) | (go_at_call 22; (with_reducible refine (impl_Write.calls k _ _ bj _ _ br bM bN bO bP bL bQ bl bz bx bA bB bC bD bd bJ b0 _ ?side1 ?side2 ?side3 ?side4 A5.out).mono ?_); (case side1 => refine (Kd.Q_reads' (e := 36) (base := w.heap.size) (ok := fun k_ => ((True ∧ k_ ≠ bF) ∧ k_ ≠ bG)) (n := bj.length) (c := bZ) ?_).2.2; exact (by (with_reducible repeat (first | apply Kd.Q_alloc | apply Kd.Q_drewN | apply Kd.Q_drew)); exact (Kd.Q_mono (Kd.Q_mono (Kd.Q_mono (hQ6_ (fun _ hk => hk.2) (hQ6_ (fun _ hk => hk.1.2) (hQ2_ (fun _ hk => hk.1.1.2) (Kd.Q_mono (Kd.Q_mono (Kd.Q_types bn.out bc.out (by decide)) (fun k_ hk => (⟨hk, hk.1.1.2⟩ : _ ∧ k_ ≠ bF))) (fun k_ hk => (⟨hk, hk.1.1.2⟩ : _ ∧ k_ ≠ bG)))))) (fun _ h_ => h_.1)) (fun _ h_ => h_.1)) (fun _ h_ => h_.1)))); (case side2 => exact (Kd.Q_reads' bn.out).2.1); (case side3 => refine (Kd.R_reads' (e := 4) (base := w.heap.size) (ok := fun k_ => True) (n := br.length) (c := dg) ?_).2.2; exact (by (with_reducible repeat (first | apply Kd.R_alloc | apply Kd.R_drewN | apply Kd.R_drew)); exact (Kd.R_mono (Kd.R_mono (Kd.R_mono (hR6_ (fun _ hk => hk.2) (hR6_ (fun _ hk => hk.1.2) (hR2_ (fun _ hk => hk.1.1.2) (Kd.R_types (Kd.R_types (Kd.R_types bo.out bc.out (by decide)) bf.out (by decide)) bh.out (by decide))))) (fun _ h_ => h_.1)) (fun _ h_ => h_.1)) (fun _ h_ => h_.1)))); (case side4 => exact (Kd.R_reads' bo.out).2.1); rintro e kD ⟨kE, kF, rfl, bX, bY, hb⟩; have bp := Aside0.mk (Kd.R_lower (Kd.R_newB (Kd.R_newB (Kd.R_new' bX (Kd.Q_lt (by (with_reducible repeat (first | apply Kd.Q_alloc | apply Kd.Q_drewN | apply Kd.Q_drew)); exact (Kd.Q_mono (Kd.Q_mono (Kd.Q_mono (hQ6_ (fun _ hk => hk.2) (hQ6_ (fun _ hk => hk.1.2) (hQ2_ (fun _ hk => hk.1.1.2) (Kd.Q_mono (Kd.Q_mono (Kd.Q_types bn.out bc.out (by decide)) (fun k_ hk => (⟨hk, hk.1.1.2⟩ : _ ∧ k_ ≠ bF))) (fun k_ hk => (⟨hk, hk.1.1.2⟩ : _ ∧ k_ ≠ bG)))))) (fun _ h_ => h_.1)) (fun _ h_ => h_.1)) (fun _ h_ => h_.1))))) (g := bF) (o := .cells #[.int .i64 bM, .bool bN, .int .i64 bO, .int .i64 bP, .int .i64 bL, .int .i64 bQ] 36 (0, 0)) (k6_ ee.out (p6 bf (k2_ dZ.out (nb bf))))) (g := bG) (o := .cells #[.int .i64 bz, .bool bx, .int .i64 bA, .int .i64 bB, .int .i64 bC, .int .i64 bD] 36 (0, 0)) (p6 bh (k6_ ef.out (k2_ dA.out (nb bh))))) (bsz HB)); have bv := Aside0.mk (Kd.R_lower (Kd.R_new' bY (Kd.R_lt (by (with_reducible repeat (first | apply Kd.R_alloc | apply Kd.R_drewN | apply Kd.R_drew)); exact (Kd.R_mono (Kd.R_mono (Kd.R_mono (hR6_ (fun _ hk => hk.2) (hR6_ (fun _ hk => hk.1.2) (hR2_ (fun _ hk => hk.1.1.2) (Kd.R_types (Kd.R_types (Kd.R_types bo.out bc.out (by decide)) bf.out (by decide)) bh.out (by decide))))) (fun _ h_ => h_.1)) (fun _ h_ => h_.1)) (fun _ h_ => h_.1))))) (bsz HB)); replace bn := Aside0.mk (Kd.Q_elder' (by (with_reducible repeat (first | apply Kd.Q_alloc | apply Kd.Q_drewN | apply Kd.Q_drew)); exact (Kd.Q_mono (Kd.Q_mono (Kd.Q_mono (hQ6_ (fun _ hk => hk.2) (hQ6_ (fun _ hk => hk.1.2) (hQ2_ (fun _ hk => hk.1.1.2) (Kd.Q_mono (Kd.Q_mono (Kd.Q_types bn.out bc.out (by decide)) (fun k_ hk => (⟨hk, hk.1.1.2⟩ : _ ∧ k_ ≠ bF))) (fun k_ hk => (⟨hk, hk.1.1.2⟩ : _ ∧ k_ ≠ bG)))))) (fun _ h_ => h_.1)) (fun _ h_ => h_.1)) (fun _ h_ => h_.1))) (Kd.R_base bX) hb); replace bo := Aside0.mk (Kd.R_elder' (by (with_reducible repeat (first | apply Kd.R_alloc | apply Kd.R_drewN | apply Kd.R_drew)); exact (Kd.R_mono (Kd.R_mono (Kd.R_mono (hR6_ (fun _ hk => hk.2) (hR6_ (fun _ hk => hk.1.2) (hR2_ (fun _ hk => hk.1.1.2) (Kd.R_types (Kd.R_types (Kd.R_types bo.out bc.out (by decide)) bf.out (by decide)) bh.out (by decide))))) (fun _ h_ => h_.1)) (fun _ h_ => h_.1)) (fun _ h_ => h_.1))) (Kd.R_base bY) hb); replace bc := Aside0.mk (blk_below (g := e6) (o := .cells #[.slice b2 bj.length bZ, .slice dn br.length dg] 27 (0, 0)) (k6_ d5.out (k6_ ed.out (q2 bc))) hb); replace bf := Aside0.mk (blk_below (g := bF) (o := .cells #[.int .i64 bM, .bool bN, .int .i64 bO, .int .i64 bP, .int .i64 bL, .int .i64 bQ] 36 (0, 0)) (k6_ ee.out (p6 bf (k2_ dZ.out (nb bf)))) hb); replace bh := Aside0.mk (blk_below (g := bG) (o := .cells #[.int .i64 bz, .bool bx, .int .i64 bA, .int .i64 bB, .int .i64 bC, .int .i64 bD] 36 (0, 0)) (p6 bh (k6_ ef.out (k2_ dA.out (nb bh)))) hb); replace HB := nbs HB hb; (try clear hb); (try clear bX); (try clear bY)) | ((with_reducible refine gate_dst (N := 7) rfl ?_); refine bxe 7 #[.slice none 0 0, .slice none 0 0] 27 ?_; intro e7 hg kG hbox hb; have bg := hbox; have kH := nge HB hg; have kI := nge HB hg; have d0 := nlt bc hg; have d1 := ngt bc hg; have dv := nlt bf hg; have dO := ngt bf hg; have dw := nlt bh hg; have dP := ngt bh hg; replace bn := nQ bn hb; replace bo := nR bo hb; replace bp := nR bp hb; replace bv := nR bv hb; replace bc := nblk bc hb; replace bf := nblk bf hb; replace bh := nblk bh hb; replace HB := nbs HB hb; clear hb hbox hg; obtain ⟨b7, b1, g7⟩ := Kd.R_slice bp.out; subst g7; have kJ := d1.out; have kK := d0.out; have kL := dO.out; have kM := dv.out; have kN := dP.out; have kO := dw.out; obtain ⟨g8, g9⟩ := c2e bg; obtain ⟨ha, hc⟩ := z2_ bg; obtain ⟨dl, dm, hf⟩ := Kd.R_slice bv.out; subst hf; obtain ⟨hh, hj⟩ := c2e bc; obtain ⟨hl, hm⟩ := z2_ bc; obtain ⟨hn, ho, hp, hq, hr, hs⟩ := c6e bf; obtain ⟨ht, hu, hv, hw, hx, hy⟩ := z6_ bf; obtain ⟨hz, hA, hB, hC, hD, hE⟩ := c6e bh; obtain ⟨hF, hG, hH, hI, hJ, hK⟩ := z6_ bh) | (go_at_call 23; (with_reducible refine (spec_Write.calls k _ _ bj _ _ br bM bN bO bP bL bQ bl bz bx bA bB bC bD bR di eo _ ?side1 ?side2 ?side3 ?side4 A6.out).mono ?_); (case side1 => refine (Kd.Q_reads' (e := 36) (base := w.heap.size) (ok := fun k_ => (((True ∧ k_ ≠ bF) ∧ k_ ≠ bG) ∧ some k_ ≠ (.slice b7 bd.length b1 : Value).ownBlock)) (n := bj.length) (c := bZ) ?_).2.2; exact (by (with_reducible repeat (first | apply Kd.Q_alloc | apply Kd.Q_drewN | apply Kd.Q_drew)); exact (fQ2 (Kd.Q_types bn.out bg.out (by decide))))); (case side2 => exact (Kd.Q_reads' bn.out).2.1); (case side3 => refine (Kd.R_reads' (e := 4) (base := w.heap.size) (ok := fun k_ => (True ∧ some k_ ≠ (.slice dl bJ.length dm : Value).ownBlock)) (n := br.length) (c := dg) ?_).2.2; exact (by (with_reducible repeat (first | apply Kd.R_alloc | apply Kd.R_drewN | apply Kd.R_drew)); exact (f2 (Kd.R_types bo.out bg.out (by decide))))); (case side4 => exact (Kd.R_reads' bo.out).2.1); rintro e kP ⟨kQ, kR, rfl, bX, bY, hb⟩; have bu := Aside0.mk (Kd.R_lower (Kd.R_newB (Kd.R_newB (Kd.R_new' (Kd.R_new' bX (Kd.Q_lt (by (with_reducible repeat (first | apply Kd.Q_alloc | apply Kd.Q_drewN | apply Kd.Q_drew)); exact (fQ2 (Kd.Q_types bn.out bg.out (by decide)))))) (Kd.R_lt (by (with_reducible repeat (first | apply Kd.R_alloc | apply Kd.R_drewN | apply Kd.R_drew)); exact (f2 (Kd.R_types bp.out bg.out (by decide)))))) (g := bF) (o := .cells #[.int .i64 bM, .bool bN, .int .i64 bO, .int .i64 bP, .int .i64 bL, .int .i64 bQ] 36 (0, 0)) (nb bf)) (g := bG) (o := .cells #[.int .i64 bz, .bool bx, .int .i64 bA, .int .i64 bB, .int .i64 bC, .int .i64 bD] 36 (0, 0)) (nb bh)) (bsz HB)); have bS := Aside0.mk (Kd.R_lower (Kd.R_new' (Kd.R_new' bY (Kd.R_lt (by (with_reducible repeat (first | apply Kd.R_alloc | apply Kd.R_drewN | apply Kd.R_drew)); exact (f2 (Kd.R_types bo.out bg.out (by decide)))))) (Kd.R_lt (by (with_reducible repeat (first | apply Kd.R_alloc | apply Kd.R_drewN | apply Kd.R_drew)); exact (f2 (Kd.R_types bv.out bg.out (by decide)))))) (bsz HB)); replace bn := Aside0.mk (Kd.Q_elder' (by (with_reducible repeat (first | apply Kd.Q_alloc | apply Kd.Q_drewN | apply Kd.Q_drew)); exact (fQ2 (Kd.Q_types bn.out bg.out (by decide)))) (Kd.R_base bX) hb); replace bo := Aside0.mk (Kd.R_elder' (by (with_reducible repeat (first | apply Kd.R_alloc | apply Kd.R_drewN | apply Kd.R_drew)); exact (f2 (Kd.R_types bo.out bg.out (by decide)))) (Kd.R_base bY) hb); replace bp := Aside0.mk (Kd.R_elder' (by (with_reducible repeat (first | apply Kd.R_alloc | apply Kd.R_drewN | apply Kd.R_drew)); exact (f2 (Kd.R_types bp.out bg.out (by decide)))) (Kd.R_base bX) hb); replace bv := Aside0.mk (Kd.R_elder' (by (with_reducible repeat (first | apply Kd.R_alloc | apply Kd.R_drewN | apply Kd.R_drew)); exact (f2 (Kd.R_types bv.out bg.out (by decide)))) (Kd.R_base bY) hb); replace bc := nblk bc hb; replace bf := nblk bf hb; replace bh := nblk bh hb; replace bg := Aside0.mk (blk_below (g := e7) (o := .cells #[.slice b7 bd.length b1, .slice dl bJ.length dm] 27 (0, 0)) (q2 bg) hb); replace HB := nbs HB hb; (try clear hb); (try clear bX); (try clear bY)) | ((with_reducible refine gate_dst (N := 9) rfl ?_); refine bxe 9 #[.slice none 0 0, .slice none 0 0] 27 ?_; intro e8 hg kS hbox hb; have bi := hbox; have kT := nge HB hg; have kU := nge HB hg; have ei := nlt bc hg; have ej := ngt bc hg; have ex := nlt bf hg; have eV := ngt bf hg; have eg := nlt bh hg; have eN := ngt bh hg; have dQ := nlt bg hg; have dR := ngt bg hg; replace bn := nQ bn hb; replace bo := nR bo hb; replace bp := nR bp hb; replace bv := nR bv hb; replace bu := nR bu hb; replace bS := nR bS hb; replace bc := nblk bc hb; replace bf := nblk bf hb; replace bh := nblk bh hb; replace bg := nblk bg hb; replace HB := nbs HB hb; clear hb hbox hg; obtain ⟨b9, b3, hL⟩ := Kd.R_slice bu.out; subst hL; have kV := ej.out; have kW := ei.out; have kX := eV.out; have kY := ex.out; have kZ := eN.out; have k0 := eg.out; have k1 := dR.out; have k2 := dQ.out; obtain ⟨hM, hN⟩ := c2e bi; obtain ⟨hO, hQ⟩ := z2_ bi; obtain ⟨dp, dq, hR⟩ := Kd.R_slice bS.out; subst hR) | (go_at_call 24; (with_reducible refine (spec_DrawRead.calls k _ _ l0 bU b5 dI dJ dK dL dM dN ep _ ?side1 ?side2 A7.out).mono ?_); (case side1 => exact Kd.C_below em.out (nbe HB)); (case side2 => exact en.out); rintro e k4 ⟨k5, k6, rfl, bX, bY, hb⟩; have bV := Aside0.mk (Kd.Q_lower (Kd.Q_newB (Kd.Q_newB (Kd.Q_new' (Kd.Q_new' (Kd.Q_new' bX (Kd.Q_lt (by (with_reducible repeat (first | apply Kd.Q_alloc | apply Kd.Q_drewN | apply Kd.Q_drew)); exact (fQ2 (Kd.Q_types bn.out bi.out (by decide)))))) (Kd.R_lt (by (with_reducible repeat (first | apply Kd.R_alloc | apply Kd.R_drewN | apply Kd.R_drew)); exact (f2 (Kd.R_types bp.out bi.out (by decide)))))) (Kd.R_lt (by (with_reducible repeat (first | apply Kd.R_alloc | apply Kd.R_drewN | apply Kd.R_drew)); exact (f2 (Kd.R_types bu.out bi.out (by decide)))))) (g := bF) (o := .cells #[.int .i64 bM, .bool bN, .int .i64 bO, .int .i64 bP, .int .i64 bL, .int .i64 bQ] 36 (0, 0)) (nb bf)) (g := bG) (o := .cells #[.int .i64 bz, .bool bx, .int .i64 bA, .int .i64 bB, .int .i64 bC, .int .i64 bD] 36 (0, 0)) (nb bh)) (bsz HB)); have bW := Aside0.mk (Kd.R_lower (Kd.R_new' (Kd.R_new' (Kd.R_new' bY (Kd.R_lt (by (with_reducible repeat (first | apply Kd.R_alloc | apply Kd.R_drewN | apply Kd.R_drew)); exact (f2 (Kd.R_types bo.out bi.out (by decide)))))) (Kd.R_lt (by (with_reducible repeat (first | apply Kd.R_alloc | apply Kd.R_drewN | apply Kd.R_drew)); exact (f2 (Kd.R_types bv.out bi.out (by decide)))))) (Kd.R_lt (by (with_reducible repeat (first | apply Kd.R_alloc | apply Kd.R_drewN | apply Kd.R_drew)); exact (f2 (Kd.R_types bS.out bi.out (by decide)))))) (bsz HB)); replace bn := Aside0.mk (Kd.Q_elder' (by (with_reducible repeat (first | apply Kd.Q_alloc | apply Kd.Q_drewN | apply Kd.Q_drew)); exact (fQ2 (Kd.Q_types bn.out bi.out (by decide)))) (Kd.Q_base bX) hb); replace bo := Aside0.mk (Kd.R_elder' (by (with_reducible repeat (first | apply Kd.R_alloc | apply Kd.R_drewN | apply Kd.R_drew)); exact (f2 (Kd.R_types bo.out bi.out (by decide)))) (Kd.R_base bY) hb); replace bp := Aside0.mk (Kd.R_elder' (by (with_reducible repeat (first | apply Kd.R_alloc | apply Kd.R_drewN | apply Kd.R_drew)); exact (f2 (Kd.R_types bp.out bi.out (by decide)))) (Kd.Q_base bX) hb); replace bv := Aside0.mk (Kd.R_elder' (by (with_reducible repeat (first | apply Kd.R_alloc | apply Kd.R_drewN | apply Kd.R_drew)); exact (f2 (Kd.R_types bv.out bi.out (by decide)))) (Kd.R_base bY) hb); replace bu := Aside0.mk (Kd.R_elder' (by (with_reducible repeat (first | apply Kd.R_alloc | apply Kd.R_drewN | apply Kd.R_drew)); exact (f2 (Kd.R_types bu.out bi.out (by decide)))) (Kd.Q_base bX) hb); replace bS := Aside0.mk (Kd.R_elder' (by (with_reducible repeat (first | apply Kd.R_alloc | apply Kd.R_drewN | apply Kd.R_drew)); exact (f2 (Kd.R_types bS.out bi.out (by decide)))) (Kd.R_base bY) hb); replace bc := nblk bc hb; replace bf := nblk bf hb; replace bh := nblk bh hb; replace bg := nblk bg hb; replace bi := Aside0.mk (blk_below (g := e8) (o := .cells #[.slice b9 bR.length b3, .slice dp di.length dq] 27 (0, 0)) (q2 bi) hb); replace HB := nbs HB hb; (try clear hb); (try clear bX); (try clear bY)) | ((with_reducible refine gate_dst (N := 11) rfl ?_); refine bxe 11 #[.slice none 0 0, .slice none 0 0] 27 ?_; intro e9 hg k7 hbox hb; have bm := hbox; have k8 := nge HB hg; have k9 := nge HB hg; have eQ := nlt bc hg; have eR := ngt bc hg; have gy := nlt bf hg; have gz := ngt bf hg; have ga := nlt bh hg; have gb := ngt bh hg; have dS := nlt bg hg; have dT := ngt bg hg; have gc := nlt bi hg; have gd := ngt bi hg; replace bn := nQ bn hb; replace bo := nR bo hb; replace bp := nR bp hb; replace bv := nR bv hb; replace bu := nR bu hb; replace bS := nR bS hb; replace bV := nQ bV hb; replace bW := nR bW hb; replace bc := nblk bc hb; replace bf := nblk bf hb; replace bh := nblk bh hb; replace bg := nblk bg hb; replace bi := nblk bi hb; replace HB := nbs HB hb; clear hb hbox hg) | ((with_reducible refine gate_dst (N := 12) rfl ?_); refine bxe 12 #[.int .i64 0, .bool false, .int .i64 0, .int .i64 0, .int .i64 0, .int .i64 0] 36 ?_; intro bH hg ma hbox hb; have bq := hbox; have mb := nge HB hg; have mc := nge HB hg; have eS := nlt bc hg; have eT := ngt bc hg; have gA := nlt bf hg; have gB := ngt bf hg; have gf := nlt bh hg; have gg := ngt bh hg; have dU := nlt bg hg; have dV := ngt bg hg; have gh := nlt bi hg; have gi := ngt bi hg; have gj := nlt bm hg; have gl := ngt bm hg; replace bn := Aside0.mk (Kd.Q_below (Kd.Q_elderB (nQo bn) bH (Nat.le_of_eq hg.symm)) hb); replace bo := nR bo hb; replace bp := Aside0.mk (Kd.R_below (Kd.R_elderB (nRo bp) bH (Nat.le_of_eq hg.symm)) hb); replace bv := nR bv hb; replace bu := Aside0.mk (Kd.R_below (Kd.R_elderB (nRo bu) bH (Nat.le_of_eq hg.symm)) hb); replace bS := nR bS hb; replace bV := Aside0.mk (Kd.Q_below (Kd.Q_elderB (nQo bV) bH (Nat.le_of_eq hg.symm)) hb); replace bW := nR bW hb; replace bc := nblk bc hb; replace bf := nblk bf hb; replace bh := nblk bh hb; replace bg := nblk bg hb; replace bi := nblk bi hb; replace bm := nblk bm hb; replace HB := nbs HB hb; clear hb hbox hg; obtain ⟨b8, b4, hS, _⟩ := Kd.Q_slice bV.out; subst hS; have md := eR.out; have mf := eQ.out; have mg := gz.out; have mh := gy.out; have mi := gb.out; have mj := ga.out; have ml := dT.out; have mm := dS.out; have mn := gd.out; have mo := gc.out; have mq := gj.out; have mr := gl.out; obtain ⟨hT, hU⟩ := c2e bm; obtain ⟨hV, hW⟩ := z2_ bm; obtain ⟨dx, dr, hX⟩ := Kd.R_slice bW.out; subst hX; have ms := eT.out; have mt := eS.out; have mu := gB.out; have mv := gA.out; have mw := gg.out; have mx := gf.out; have mz := dV.out; have mA := dU.out; have mB := gi.out; have mC := gh.out; obtain ⟨hY, hZ, h0, h2, h3, h4⟩ := c6e bq; obtain ⟨h5, h6, h7, h8, h9, ia⟩ := z6_ bq) | (go_at_call 20; (with_reducible refine (impl_Read.calls k _ _ bU _ _ b5 dI dJ dK dL dM dN ep da db dc dd de df dk _ ?side1 ?side2 ?side3 ?side4 A8.out).mono ?_); (case side1 => refine (Kd.Q_reads' (e := 36) (base := w.heap.size) (ok := fun k_ => ((((((True ∧ some k_ ≠ (.slice b2 bj.length bZ : Value).ownBlock) ∧ some k_ ≠ (.slice b7 bd.length b1 : Value).ownBlock) ∧ some k_ ≠ (.slice b9 bR.length b3 : Value).ownBlock) ∧ k_ ≠ bF) ∧ k_ ≠ bG) ∧ k_ ≠ bH)) (n := bU.length) (c := b4) ?_).2.2; exact (by (with_reducible repeat (first | apply Kd.Q_alloc | apply Kd.Q_drewN | apply Kd.Q_drew)); exact (Kd.Q_mono (Kd.Q_mono (hQ6_ (fun _ hk => hk.2) (hQ2_ (fun _ hk => hk.1.2) (Kd.Q_mono (Kd.Q_types bV.out bm.out (by decide)) (fun k_ hk => (⟨hk, hk.1.2⟩ : _ ∧ k_ ≠ bH))))) (fun _ h_ => h_.1)) (fun _ h_ => h_.1)))); (case side2 => exact (Kd.Q_reads' bV.out).2.1); (case side3 => refine (Kd.R_reads' (e := 4) (base := w.heap.size) (ok := fun k_ => (((True ∧ some k_ ≠ (.slice dn br.length dg : Value).ownBlock) ∧ some k_ ≠ (.slice dl bJ.length dm : Value).ownBlock) ∧ some k_ ≠ (.slice dp di.length dq : Value).ownBlock)) (n := b5.length) (c := dr) ?_).2.2; exact (by (with_reducible repeat (first | apply Kd.R_alloc | apply Kd.R_drewN | apply Kd.R_drew)); exact (Kd.R_mono (Kd.R_mono (hR6_ (fun _ hk => hk.2) (hR2_ (fun _ hk => hk.1.2) (Kd.R_types (Kd.R_types bW.out bm.out (by decide)) bq.out (by decide)))) (fun _ h_ => h_.1)) (fun _ h_ => h_.1)))); (case side4 => exact (Kd.R_reads' bW.out).2.1); rintro e mD ⟨rfl, hb⟩; replace bn := Aside0.mk (Kd.Q_below (by (with_reducible repeat (first | apply Kd.Q_alloc | apply Kd.Q_drewN | apply Kd.Q_drew)); exact (Kd.Q_mono (Kd.Q_mono (hQ6_ (fun _ hk => hk.2) (hQ2_ (fun _ hk => hk.1.2) (Kd.Q_mono (Kd.Q_types bn.out bm.out (by decide)) (fun k_ hk => (⟨hk, hk.1.2⟩ : _ ∧ k_ ≠ bH))))) (fun _ h_ => h_.1)) (fun _ h_ => h_.1))) hb); replace bo := Aside0.mk (Kd.R_below (by (with_reducible repeat (first | apply Kd.R_alloc | apply Kd.R_drewN | apply Kd.R_drew)); exact (Kd.R_mono (Kd.R_mono (hR6_ (fun _ hk => hk.2) (hR2_ (fun _ hk => hk.1.2) (Kd.R_types (Kd.R_types bo.out bm.out (by decide)) bq.out (by decide)))) (fun _ h_ => h_.1)) (fun _ h_ => h_.1))) hb); replace bp := Aside0.mk (Kd.R_below (by (with_reducible repeat (first | apply Kd.R_alloc | apply Kd.R_drewN | apply Kd.R_drew)); exact (Kd.R_mono (Kd.R_mono (hR6_ (fun _ hk => hk.2) (hR2_ (fun _ hk => hk.1.2) (Kd.R_mono (Kd.R_types bp.out bm.out (by decide)) (fun k_ hk => (⟨hk, hk.1.2⟩ : _ ∧ k_ ≠ bH))))) (fun _ h_ => h_.1)) (fun _ h_ => h_.1))) hb); replace bv := Aside0.mk (Kd.R_below (by (with_reducible repeat (first | apply Kd.R_alloc | apply Kd.R_drewN | apply Kd.R_drew)); exact (Kd.R_mono (Kd.R_mono (hR6_ (fun _ hk => hk.2) (hR2_ (fun _ hk => hk.1.2) (Kd.R_types (Kd.R_types bv.out bm.out (by decide)) bq.out (by decide)))) (fun _ h_ => h_.1)) (fun _ h_ => h_.1))) hb); replace bu := Aside0.mk (Kd.R_below (by (with_reducible repeat (first | apply Kd.R_alloc | apply Kd.R_drewN | apply Kd.R_drew)); exact (Kd.R_mono (Kd.R_mono (hR6_ (fun _ hk => hk.2) (hR2_ (fun _ hk => hk.1.2) (Kd.R_mono (Kd.R_types bu.out bm.out (by decide)) (fun k_ hk => (⟨hk, hk.1.2⟩ : _ ∧ k_ ≠ bH))))) (fun _ h_ => h_.1)) (fun _ h_ => h_.1))) hb); replace bS := Aside0.mk (Kd.R_below (by (with_reducible repeat (first | apply Kd.R_alloc | apply Kd.R_drewN | apply Kd.R_drew)); exact (Kd.R_mono (Kd.R_mono (hR6_ (fun _ hk => hk.2) (hR2_ (fun _ hk => hk.1.2) (Kd.R_types (Kd.R_types bS.out bm.out (by decide)) bq.out (by decide)))) (fun _ h_ => h_.1)) (fun _ h_ => h_.1))) hb); replace bV := Aside0.mk (Kd.Q_below (by (with_reducible repeat (first | apply Kd.Q_alloc | apply Kd.Q_drewN | apply Kd.Q_drew)); exact (Kd.Q_mono (Kd.Q_mono (hQ6_ (fun _ hk => hk.2) (hQ2_ (fun _ hk => hk.1.2) (Kd.Q_mono (Kd.Q_types bV.out bm.out (by decide)) (fun k_ hk => (⟨hk, hk.1.2⟩ : _ ∧ k_ ≠ bH))))) (fun _ h_ => h_.1)) (fun _ h_ => h_.1))) hb); replace bW := Aside0.mk (Kd.R_below (by (with_reducible repeat (first | apply Kd.R_alloc | apply Kd.R_drewN | apply Kd.R_drew)); exact (Kd.R_mono (Kd.R_mono (hR6_ (fun _ hk => hk.2) (hR2_ (fun _ hk => hk.1.2) (Kd.R_types (Kd.R_types bW.out bm.out (by decide)) bq.out (by decide)))) (fun _ h_ => h_.1)) (fun _ h_ => h_.1))) hb); replace bc := nblk bc hb; replace bf := nblk bf hb; replace bh := nblk bh hb; replace bg := nblk bg hb; replace bi := nblk bi hb; replace bm := Aside0.mk (blk_below (g := e9) (o := .cells #[.slice b8 bU.length b4, .slice dx b5.length dr] 27 (0, 0)) (k6_ gj.out (q2 bm)) hb); replace bq := Aside0.mk (blk_below (g := bH) (o := .cells #[.int .i64 dI, .bool dJ, .int .i64 dK, .int .i64 dL, .int .i64 dM, .int .i64 dN] 36 (0, 0)) (p6 bq (k2_ gl.out (nb bq))) hb); replace HB := nbs HB hb; (try clear hb)) | ((with_reducible refine gate_dst (N := 14) rfl ?_); refine bxe 14 #[.int .i64 0, .bool false, .int .i64 0, .int .i64 0, .int .i64 0, .int .i64 0] 36 ?_; intro bI hg mE hbox hb; have bt := hbox; have mF := nge HB hg; have mG := nge HB hg; have d2 := nlt bc hg; have d3 := ngt bc hg; have ek := nlt bf hg; have el := ngt bf hg; have d9 := nlt bh hg; have ea := ngt bh hg; have dB := nlt bg hg; have dC := ngt bg hg; have eW := nlt bi hg; have eX := ngt bi hg; have ey := nlt bm hg; have ez := ngt bm hg; have eA := nlt bq hg; have eB := ngt bq hg; replace bn := Aside0.mk (Kd.Q_below (Kd.Q_elderB (nQo bn) bI (Nat.le_of_eq hg.symm)) hb); replace bo := nR bo hb; replace bp := Aside0.mk (Kd.R_below (Kd.R_elderB (nRo bp) bI (Nat.le_of_eq hg.symm)) hb); replace bv := nR bv hb; replace bu := Aside0.mk (Kd.R_below (Kd.R_elderB (nRo bu) bI (Nat.le_of_eq hg.symm)) hb); replace bS := nR bS hb; replace bV := Aside0.mk (Kd.Q_below (Kd.Q_elderB (nQo bV) bI (Nat.le_of_eq hg.symm)) hb); replace bW := nR bW hb; replace bc := nblk bc hb; replace bf := nblk bf hb; replace bh := nblk bh hb; replace bg := nblk bg hb; replace bi := nblk bi hb; replace bm := nblk bm hb; replace bq := nblk bq hb; replace HB := nbs HB hb; clear hb hbox hg; have mH := d3.out; have mI := d2.out; have mJ := el.out; have mK := ek.out; have mL := ea.out; have mM := d9.out; have mN := dC.out; have mO := dB.out; have mP := eX.out; have mQ := eW.out; have mR := ez.out; have mS := ey.out; have mT := eB.out; have mU := eA.out; obtain ⟨ib, ic, ig, ih, ii, ij⟩ := c6e bt; obtain ⟨ik, il, im, io, ip, iq⟩ := z6_ bt; obtain ⟨ir, iu⟩ := c2e bm; obtain ⟨iv, iw⟩ := z2_ bm; obtain ⟨ix, iy, iz, iA, iB, iC⟩ := c6e bq; obtain ⟨iD, iE, iF, iG, iH, iI⟩ := z6_ bq) | (go_at_call 25; (with_reducible refine (spec_Read.calls k _ _ bU _ _ b5 dI dJ dK dL dM dN ep er es et eu ev ew gv _ ?side1 ?side2 ?side3 ?side4 A9.out).mono ?_); (case side1 => refine (Kd.Q_reads' (e := 36) (base := w.heap.size) (ok := fun k_ => (((((((True ∧ some k_ ≠ (.slice b2 bj.length bZ : Value).ownBlock) ∧ some k_ ≠ (.slice b7 bd.length b1 : Value).ownBlock) ∧ some k_ ≠ (.slice b9 bR.length b3 : Value).ownBlock) ∧ k_ ≠ bF) ∧ k_ ≠ bG) ∧ k_ ≠ bH) ∧ k_ ≠ bI)) (n := bU.length) (c := b4) ?_).2.2; exact (by (with_reducible repeat (first | apply Kd.Q_alloc | apply Kd.Q_drewN | apply Kd.Q_drew)); exact (fQ6 (Kd.Q_mono bV.out (fun k_ hk => (⟨hk, hk.2⟩ : _ ∧ k_ ≠ bI)))))); (case side2 => exact (Kd.Q_reads' bV.out).2.1); (case side3 => refine (Kd.R_reads' (e := 4) (base := w.heap.size) (ok := fun k_ => (((True ∧ some k_ ≠ (.slice dn br.length dg : Value).ownBlock) ∧ some k_ ≠ (.slice dl bJ.length dm : Value).ownBlock) ∧ some k_ ≠ (.slice dp di.length dq : Value).ownBlock)) (n := b5.length) (c := dr) ?_).2.2; exact (by (with_reducible repeat (first | apply Kd.R_alloc | apply Kd.R_drewN | apply Kd.R_drew)); exact (f6 (Kd.R_types bW.out bt.out (by decide))))); (case side4 => exact (Kd.R_reads' bW.out).2.1); rintro e mV ⟨rfl, hb⟩; replace bn := Aside0.mk (Kd.Q_below (by (with_reducible repeat (first | apply Kd.Q_alloc | apply Kd.Q_drewN | apply Kd.Q_drew)); exact (fQ6 (Kd.Q_mono bn.out (fun k_ hk => (⟨hk, hk.2⟩ : _ ∧ k_ ≠ bI))))) hb); replace bo := Aside0.mk (Kd.R_below (by (with_reducible repeat (first | apply Kd.R_alloc | apply Kd.R_drewN | apply Kd.R_drew)); exact (f6 (Kd.R_types bo.out bt.out (by decide)))) hb); replace bp := Aside0.mk (Kd.R_below (by (with_reducible repeat (first | apply Kd.R_alloc | apply Kd.R_drewN | apply Kd.R_drew)); exact (f6 (Kd.R_mono bp.out (fun k_ hk => (⟨hk, hk.2⟩ : _ ∧ k_ ≠ bI))))) hb); replace bv := Aside0.mk (Kd.R_below (by (with_reducible repeat (first | apply Kd.R_alloc | apply Kd.R_drewN | apply Kd.R_drew)); exact (f6 (Kd.R_types bv.out bt.out (by decide)))) hb); replace bu := Aside0.mk (Kd.R_below (by (with_reducible repeat (first | apply Kd.R_alloc | apply Kd.R_drewN | apply Kd.R_drew)); exact (f6 (Kd.R_mono bu.out (fun k_ hk => (⟨hk, hk.2⟩ : _ ∧ k_ ≠ bI))))) hb); replace bS := Aside0.mk (Kd.R_below (by (with_reducible repeat (first | apply Kd.R_alloc | apply Kd.R_drewN | apply Kd.R_drew)); exact (f6 (Kd.R_types bS.out bt.out (by decide)))) hb); replace bV := Aside0.mk (Kd.Q_below (by (with_reducible repeat (first | apply Kd.Q_alloc | apply Kd.Q_drewN | apply Kd.Q_drew)); exact (fQ6 (Kd.Q_mono bV.out (fun k_ hk => (⟨hk, hk.2⟩ : _ ∧ k_ ≠ bI))))) hb); replace bW := Aside0.mk (Kd.R_below (by (with_reducible repeat (first | apply Kd.R_alloc | apply Kd.R_drewN | apply Kd.R_drew)); exact (f6 (Kd.R_types bW.out bt.out (by decide)))) hb); replace bc := nblk bc hb; replace bf := nblk bf hb; replace bh := nblk bh hb; replace bg := nblk bg hb; replace bi := nblk bi hb; replace bm := nblk bm hb; replace bq := nblk bq hb; replace bt := Aside0.mk (blk_below (g := bI) (o := .cells #[.int .i64 da, .bool db, .int .i64 dc, .int .i64 dd, .int .i64 de, .int .i64 df] 36 (0, 0)) (q6 bt) hb); replace HB := nbs HB hb; (try clear hb)) | ((with_reducible refine gate_dst (N := 16) rfl ?_); refine bxe 16 #[.int .i64 0, .bool false, .int .i64 0, .int .i64 0, .int .i64 0, .int .i64 0] 36 ?_; intro bs hg mW hbox hb; have bT := hbox; have mX := nge HB hg; have mY := nge HB hg; have dy := nlt bc hg; have d6 := ngt bc hg; have d7 := nlt bf hg; have eC := ngt bf hg; have dW := nlt bh hg; have eh := ngt bh hg; have du := nlt bg hg; have dX := ngt bg hg; have eD := nlt bi hg; have gm := ngt bi hg; have eb := nlt bm hg; have eO := ngt bm hg; have ec := nlt bq hg; have eP := ngt bq hg; have d8 := nlt bt hg; have eE := ngt bt hg; replace bn := Aside0.mk (Kd.Q_below (Kd.Q_elderB (nQo bn) bs (Nat.le_of_eq hg.symm)) hb); replace bo := nR bo hb; replace bp := Aside0.mk (Kd.R_below (Kd.R_elderB (nRo bp) bs (Nat.le_of_eq hg.symm)) hb); replace bv := nR bv hb; replace bu := Aside0.mk (Kd.R_below (Kd.R_elderB (nRo bu) bs (Nat.le_of_eq hg.symm)) hb); replace bS := nR bS hb; replace bV := Aside0.mk (Kd.Q_below (Kd.Q_elderB (nQo bV) bs (Nat.le_of_eq hg.symm)) hb); replace bW := nR bW hb; replace bc := nblk bc hb; replace bf := nblk bf hb; replace bh := nblk bh hb; replace bg := nblk bg hb; replace bi := nblk bi hb; replace bm := nblk bm hb; replace bq := nblk bq hb; replace bt := nblk bt hb; replace HB := nbs HB hb; clear hb hbox hg; have mZ := d6.out; have m0 := dy.out; have m1 := eC.out; have m2 := d7.out; have m3 := eh.out; have m4 := dW.out; have m5 := dX.out; have m6 := du.out; have m7 := gm.out; have m8 := eD.out; have m9 := eO.out; have na := eb.out; have nc := eP.out; have nf := ec.out; have ng := eE.out; have nh := d8.out; obtain ⟨iJ, iK, iL, iM, iN, iO⟩ := c6e bT; obtain ⟨iP, iQ, iR, iS, iT, iU⟩ := z6_ bT)); go_upto_region 9 with (first | (go_at_call 5; (with_reducible refine (laws_big.calls _ _ l0 false _ ?side1 ?side2 A2.out).mono ?_); (case side1 => exact nC em); (case side2 => exact en.out); rintro e w' ⟨rfl, ⟨nd, rfl⟩⟩; (try first | exact ⟨rfl, _, World.drewN_drewN _ _ _⟩ | exact ⟨rfl, _, Eq.trans (World.drewN_drewN _ _ _) (congrArg (World.drewN _) (Nat.add_assoc _ _ _))⟩)) | (go_at_call 21; (with_reducible refine (spec_DrawWrite.calls k _ _ l0 bj br bM bN bO bP bL bQ bl bz bx bA bB bC bD _ ?side1 ?side2 A4.out).mono ?_); (case side1 => exact nC em); (case side2 => exact en.out); rintro e kk ⟨kl, km, rfl, bX, bY, hb⟩; have bn := Aside0.mk (Kd.Q_lower bX (bsz HB)); have bo := Aside0.mk (Kd.R_lower bY (bsz HB)); replace HB := nbs HB hb; (try clear hb); (try clear bX); (try clear bY)) | ((with_reducible refine gate_dst (N := 3) rfl ?_); refine bxe 3 #[.slice none 0 0, .slice none 0 0] 27 ?_; intro e6 hg kn hbox hb; have bc := hbox; have ko := nge HB hg; have kp := nge HB hg; replace bn := nQ bn hb; replace bo := nR bo hb; replace HB := nbs HB hb; clear hb hbox hg) | ((with_reducible refine gate_dst (N := 4) rfl ?_); refine bxe 4 #[.int .i64 0, .bool false, .int .i64 0, .int .i64 0, .int .i64 0, .int .i64 0] 36 ?_; intro bF hg kr hbox hb; have bf := hbox; have ks := nge HB hg; have kt := nge HB hg; have ed := nlt bc hg; have dZ := ngt bc hg; replace bn := Aside0.mk (Kd.Q_below (Kd.Q_elderB (nQo bn) bF (Nat.le_of_eq hg.symm)) hb); replace bo := nR bo hb; replace bc := nblk bc hb; replace HB := nbs HB hb; clear hb hbox hg) | ((with_reducible refine gate_dst (N := 6) rfl ?_); refine bxe 6 #[.int .i64 0, .bool false, .int .i64 0, .int .i64 0, .int .i64 0, .int .i64 0] 36 ?_; intro bG hg ku hbox hb; have bh := hbox; have kv := nge HB hg; have kw := nge HB hg; have d5 := nlt bc hg; have dA := ngt bc hg; have ee := nlt bf hg; have ef := ngt bf hg; replace bn := Aside0.mk (Kd.Q_below (Kd.Q_elderB (nQo bn) bG (Nat.le_of_eq hg.symm)) hb); replace bo := nR bo hb; replace bc := nblk bc hb; replace bf := nblk bf hb; replace HB := nbs HB hb; clear hb hbox hg; obtain ⟨b2, bZ, gD, _⟩ := Kd.Q_slice bn.out; subst gD; have kx := ed.out; have ky := dZ.out; have kz := d5.out; have kA := dA.out; obtain ⟨gE, gF⟩ := c2e bc; obtain ⟨gG, gH⟩ := z2_ bc; obtain ⟨dn, dg, gI⟩ := Kd.R_slice bo.out; subst gI; have kB := ee.out; have kC := ef.out; obtain ⟨gJ, gK, gL, gM, gN, gO⟩ := c6e bf; obtain ⟨gP, gQ, gR, gS, gT, gU⟩ := z6_ bf; obtain ⟨gV, gW, gX, gY, gZ, g0⟩ := c6e bh; obtain ⟨g1, g2, g3, g4, g5, g6⟩ := z6_ bh) | (go_at_call 22; (with_reducible refine (impl_Write.calls k _ _ bj _ _ br bM bN bO bP bL bQ bl bz bx bA bB bC bD bd bJ b0 _ ?side1 ?side2 ?side3 ?side4 A5.out).mono ?_); (case side1 => refine (Kd.Q_reads' (e := 36) (base := w.heap.size) (ok := fun k_ => ((True ∧ k_ ≠ bF) ∧ k_ ≠ bG)) (n := bj.length) (c := bZ) ?_).2.2; exact (by (with_reducible repeat (first | apply Kd.Q_alloc | apply Kd.Q_drewN | apply Kd.Q_drew)); exact (Kd.Q_mono (Kd.Q_mono (Kd.Q_mono (hQ6_ (fun _ hk => hk.2) (hQ6_ (fun _ hk => hk.1.2) (hQ2_ (fun _ hk => hk.1.1.2) (Kd.Q_mono (Kd.Q_mono (Kd.Q_types bn.out bc.out (by decide)) (fun k_ hk => (⟨hk, hk.1.1.2⟩ : _ ∧ k_ ≠ bF))) (fun k_ hk => (⟨hk, hk.1.1.2⟩ : _ ∧ k_ ≠ bG)))))) (fun _ h_ => h_.1)) (fun _ h_ => h_.1)) (fun _ h_ => h_.1)))); (case side2 => exact (Kd.Q_reads' bn.out).2.1); (case side3 => refine (Kd.R_reads' (e := 4) (base := w.heap.size) (ok := fun k_ => True) (n := br.length) (c := dg) ?_).2.2; exact (by (with_reducible repeat (first | apply Kd.R_alloc | apply Kd.R_drewN | apply Kd.R_drew)); exact (Kd.R_mono (Kd.R_mono (Kd.R_mono (hR6_ (fun _ hk => hk.2) (hR6_ (fun _ hk => hk.1.2) (hR2_ (fun _ hk => hk.1.1.2) (Kd.R_types (Kd.R_types (Kd.R_types bo.out bc.out (by decide)) bf.out (by decide)) bh.out (by decide))))) (fun _ h_ => h_.1)) (fun _ h_ => h_.1)) (fun _ h_ => h_.1)))); (case side4 => exact (Kd.R_reads' bo.out).2.1); rintro e kD ⟨kE, kF, rfl, bX, bY, hb⟩; have bp := Aside0.mk (Kd.R_lower (Kd.R_newB (Kd.R_newB (Kd.R_new' bX (Kd.Q_lt (by (with_reducible repeat (first | apply Kd.Q_alloc | apply Kd.Q_drewN | apply Kd.Q_drew)); exact (Kd.Q_mono (Kd.Q_mono (Kd.Q_mono (hQ6_ (fun _ hk => hk.2) (hQ6_ (fun _ hk => hk.1.2) (hQ2_ (fun _ hk => hk.1.1.2) (Kd.Q_mono (Kd.Q_mono (Kd.Q_types bn.out bc.out (by decide)) (fun k_ hk => (⟨hk, hk.1.1.2⟩ : _ ∧ k_ ≠ bF))) (fun k_ hk => (⟨hk, hk.1.1.2⟩ : _ ∧ k_ ≠ bG)))))) (fun _ h_ => h_.1)) (fun _ h_ => h_.1)) (fun _ h_ => h_.1))))) (g := bF) (o := .cells #[.int .i64 bM, .bool bN, .int .i64 bO, .int .i64 bP, .int .i64 bL, .int .i64 bQ] 36 (0, 0)) (k6_ ee.out (p6 bf (k2_ dZ.out (nb bf))))) (g := bG) (o := .cells #[.int .i64 bz, .bool bx, .int .i64 bA, .int .i64 bB, .int .i64 bC, .int .i64 bD] 36 (0, 0)) (p6 bh (k6_ ef.out (k2_ dA.out (nb bh))))) (bsz HB)); have bv := Aside0.mk (Kd.R_lower (Kd.R_new' bY (Kd.R_lt (by (with_reducible repeat (first | apply Kd.R_alloc | apply Kd.R_drewN | apply Kd.R_drew)); exact (Kd.R_mono (Kd.R_mono (Kd.R_mono (hR6_ (fun _ hk => hk.2) (hR6_ (fun _ hk => hk.1.2) (hR2_ (fun _ hk => hk.1.1.2) (Kd.R_types (Kd.R_types (Kd.R_types bo.out bc.out (by decide)) bf.out (by decide)) bh.out (by decide))))) (fun _ h_ => h_.1)) (fun _ h_ => h_.1)) (fun _ h_ => h_.1))))) (bsz HB)); replace bn := Aside0.mk (Kd.Q_elder' (by (with_reducible repeat (first | apply Kd.Q_alloc | apply Kd.Q_drewN | apply Kd.Q_drew)); exact (Kd.Q_mono (Kd.Q_mono (Kd.Q_mono (hQ6_ (fun _ hk => hk.2) (hQ6_ (fun _ hk => hk.1.2) (hQ2_ (fun _ hk => hk.1.1.2) (Kd.Q_mono (Kd.Q_mono (Kd.Q_types bn.out bc.out (by decide)) (fun k_ hk => (⟨hk, hk.1.1.2⟩ : _ ∧ k_ ≠ bF))) (fun k_ hk => (⟨hk, hk.1.1.2⟩ : _ ∧ k_ ≠ bG)))))) (fun _ h_ => h_.1)) (fun _ h_ => h_.1)) (fun _ h_ => h_.1))) (Kd.R_base bX) hb); replace bo := Aside0.mk (Kd.R_elder' (by (with_reducible repeat (first | apply Kd.R_alloc | apply Kd.R_drewN | apply Kd.R_drew)); exact (Kd.R_mono (Kd.R_mono (Kd.R_mono (hR6_ (fun _ hk => hk.2) (hR6_ (fun _ hk => hk.1.2) (hR2_ (fun _ hk => hk.1.1.2) (Kd.R_types (Kd.R_types (Kd.R_types bo.out bc.out (by decide)) bf.out (by decide)) bh.out (by decide))))) (fun _ h_ => h_.1)) (fun _ h_ => h_.1)) (fun _ h_ => h_.1))) (Kd.R_base bY) hb); replace bc := Aside0.mk (blk_below (g := e6) (o := .cells #[.slice b2 bj.length bZ, .slice dn br.length dg] 27 (0, 0)) (k6_ d5.out (k6_ ed.out (q2 bc))) hb); replace bf := Aside0.mk (blk_below (g := bF) (o := .cells #[.int .i64 bM, .bool bN, .int .i64 bO, .int .i64 bP, .int .i64 bL, .int .i64 bQ] 36 (0, 0)) (k6_ ee.out (p6 bf (k2_ dZ.out (nb bf)))) hb); replace bh := Aside0.mk (blk_below (g := bG) (o := .cells #[.int .i64 bz, .bool bx, .int .i64 bA, .int .i64 bB, .int .i64 bC, .int .i64 bD] 36 (0, 0)) (p6 bh (k6_ ef.out (k2_ dA.out (nb bh)))) hb); replace HB := nbs HB hb; (try clear hb); (try clear bX); (try clear bY)) | ((with_reducible refine gate_dst (N := 7) rfl ?_); refine bxe 7 #[.slice none 0 0, .slice none 0 0] 27 ?_; intro e7 hg kG hbox hb; have bg := hbox; have kH := nge HB hg; have kI := nge HB hg; have d0 := nlt bc hg; have d1 := ngt bc hg; have dv := nlt bf hg; have dO := ngt bf hg; have dw := nlt bh hg; have dP := ngt bh hg; replace bn := nQ bn hb; replace bo := nR bo hb; replace bp := nR bp hb; replace bv := nR bv hb; replace bc := nblk bc hb; replace bf := nblk bf hb; replace bh := nblk bh hb; replace HB := nbs HB hb; clear hb hbox hg; obtain ⟨b7, b1, g7⟩ := Kd.R_slice bp.out; subst g7; have kJ := d1.out; have kK := d0.out; have kL := dO.out; have kM := dv.out; have kN := dP.out; have kO := dw.out; obtain ⟨g8, g9⟩ := c2e bg; obtain ⟨ha, hc⟩ := z2_ bg; obtain ⟨dl, dm, hf⟩ := Kd.R_slice bv.out; subst hf; obtain ⟨hh, hj⟩ := c2e bc; obtain ⟨hl, hm⟩ := z2_ bc; obtain ⟨hn, ho, hp, hq, hr, hs⟩ := c6e bf; obtain ⟨ht, hu, hv, hw, hx, hy⟩ := z6_ bf; obtain ⟨hz, hA, hB, hC, hD, hE⟩ := c6e bh; obtain ⟨hF, hG, hH, hI, hJ, hK⟩ := z6_ bh) | (go_at_call 23; (with_reducible refine (spec_Write.calls k _ _ bj _ _ br bM bN bO bP bL bQ bl bz bx bA bB bC bD bR di eo _ ?side1 ?side2 ?side3 ?side4 A6.out).mono ?_); (case side1 => refine (Kd.Q_reads' (e := 36) (base := w.heap.size) (ok := fun k_ => (((True ∧ k_ ≠ bF) ∧ k_ ≠ bG) ∧ some k_ ≠ (.slice b7 bd.length b1 : Value).ownBlock)) (n := bj.length) (c := bZ) ?_).2.2; exact (by (with_reducible repeat (first | apply Kd.Q_alloc | apply Kd.Q_drewN | apply Kd.Q_drew)); exact (fQ2 (Kd.Q_types bn.out bg.out (by decide))))); (case side2 => exact (Kd.Q_reads' bn.out).2.1); (case side3 => refine (Kd.R_reads' (e := 4) (base := w.heap.size) (ok := fun k_ => (True ∧ some k_ ≠ (.slice dl bJ.length dm : Value).ownBlock)) (n := br.length) (c := dg) ?_).2.2; exact (by (with_reducible repeat (first | apply Kd.R_alloc | apply Kd.R_drewN | apply Kd.R_drew)); exact (f2 (Kd.R_types bo.out bg.out (by decide))))); (case side4 => exact (Kd.R_reads' bo.out).2.1); rintro e kP ⟨kQ, kR, rfl, bX, bY, hb⟩; have bu := Aside0.mk (Kd.R_lower (Kd.R_newB (Kd.R_newB (Kd.R_new' (Kd.R_new' bX (Kd.Q_lt (by (with_reducible repeat (first | apply Kd.Q_alloc | apply Kd.Q_drewN | apply Kd.Q_drew)); exact (fQ2 (Kd.Q_types bn.out bg.out (by decide)))))) (Kd.R_lt (by (with_reducible repeat (first | apply Kd.R_alloc | apply Kd.R_drewN | apply Kd.R_drew)); exact (f2 (Kd.R_types bp.out bg.out (by decide)))))) (g := bF) (o := .cells #[.int .i64 bM, .bool bN, .int .i64 bO, .int .i64 bP, .int .i64 bL, .int .i64 bQ] 36 (0, 0)) (nb bf)) (g := bG) (o := .cells #[.int .i64 bz, .bool bx, .int .i64 bA, .int .i64 bB, .int .i64 bC, .int .i64 bD] 36 (0, 0)) (nb bh)) (bsz HB)); have bS := Aside0.mk (Kd.R_lower (Kd.R_new' (Kd.R_new' bY (Kd.R_lt (by (with_reducible repeat (first | apply Kd.R_alloc | apply Kd.R_drewN | apply Kd.R_drew)); exact (f2 (Kd.R_types bo.out bg.out (by decide)))))) (Kd.R_lt (by (with_reducible repeat (first | apply Kd.R_alloc | apply Kd.R_drewN | apply Kd.R_drew)); exact (f2 (Kd.R_types bv.out bg.out (by decide)))))) (bsz HB)); replace bn := Aside0.mk (Kd.Q_elder' (by (with_reducible repeat (first | apply Kd.Q_alloc | apply Kd.Q_drewN | apply Kd.Q_drew)); exact (fQ2 (Kd.Q_types bn.out bg.out (by decide)))) (Kd.R_base bX) hb); replace bo := Aside0.mk (Kd.R_elder' (by (with_reducible repeat (first | apply Kd.R_alloc | apply Kd.R_drewN | apply Kd.R_drew)); exact (f2 (Kd.R_types bo.out bg.out (by decide)))) (Kd.R_base bY) hb); replace bp := Aside0.mk (Kd.R_elder' (by (with_reducible repeat (first | apply Kd.R_alloc | apply Kd.R_drewN | apply Kd.R_drew)); exact (f2 (Kd.R_types bp.out bg.out (by decide)))) (Kd.R_base bX) hb); replace bv := Aside0.mk (Kd.R_elder' (by (with_reducible repeat (first | apply Kd.R_alloc | apply Kd.R_drewN | apply Kd.R_drew)); exact (f2 (Kd.R_types bv.out bg.out (by decide)))) (Kd.R_base bY) hb); replace bc := nblk bc hb; replace bf := nblk bf hb; replace bh := nblk bh hb; replace bg := Aside0.mk (blk_below (g := e7) (o := .cells #[.slice b7 bd.length b1, .slice dl bJ.length dm] 27 (0, 0)) (q2 bg) hb); replace HB := nbs HB hb; (try clear hb); (try clear bX); (try clear bY)) | ((with_reducible refine gate_dst (N := 9) rfl ?_); refine bxe 9 #[.slice none 0 0, .slice none 0 0] 27 ?_; intro e8 hg kS hbox hb; have bi := hbox; have kT := nge HB hg; have kU := nge HB hg; have ei := nlt bc hg; have ej := ngt bc hg; have ex := nlt bf hg; have eV := ngt bf hg; have eg := nlt bh hg; have eN := ngt bh hg; have dQ := nlt bg hg; have dR := ngt bg hg; replace bn := nQ bn hb; replace bo := nR bo hb; replace bp := nR bp hb; replace bv := nR bv hb; replace bu := nR bu hb; replace bS := nR bS hb; replace bc := nblk bc hb; replace bf := nblk bf hb; replace bh := nblk bh hb; replace bg := nblk bg hb; replace HB := nbs HB hb; clear hb hbox hg; obtain ⟨b9, b3, hL⟩ := Kd.R_slice bu.out; subst hL; have kV := ej.out; have kW := ei.out; have kX := eV.out; have kY := ex.out; have kZ := eN.out; have k0 := eg.out; have k1 := dR.out; have k2 := dQ.out; obtain ⟨hM, hN⟩ := c2e bi; obtain ⟨hO, hQ⟩ := z2_ bi; obtain ⟨dp, dq, hR⟩ := Kd.R_slice bS.out; subst hR) | (go_at_call 24; (with_reducible refine (spec_DrawRead.calls k _ _ l0 bU b5 dI dJ dK dL dM dN ep _ ?side1 ?side2 A7.out).mono ?_); (case side1 => exact Kd.C_below em.out (nbe HB)); (case side2 => exact en.out); rintro e k4 ⟨k5, k6, rfl, bX, bY, hb⟩; have bV := Aside0.mk (Kd.Q_lower (Kd.Q_newB (Kd.Q_newB (Kd.Q_new' (Kd.Q_new' (Kd.Q_new' bX (Kd.Q_lt (by (with_reducible repeat (first | apply Kd.Q_alloc | apply Kd.Q_drewN | apply Kd.Q_drew)); exact (fQ2 (Kd.Q_types bn.out bi.out (by decide)))))) (Kd.R_lt (by (with_reducible repeat (first | apply Kd.R_alloc | apply Kd.R_drewN | apply Kd.R_drew)); exact (f2 (Kd.R_types bp.out bi.out (by decide)))))) (Kd.R_lt (by (with_reducible repeat (first | apply Kd.R_alloc | apply Kd.R_drewN | apply Kd.R_drew)); exact (f2 (Kd.R_types bu.out bi.out (by decide)))))) (g := bF) (o := .cells #[.int .i64 bM, .bool bN, .int .i64 bO, .int .i64 bP, .int .i64 bL, .int .i64 bQ] 36 (0, 0)) (nb bf)) (g := bG) (o := .cells #[.int .i64 bz, .bool bx, .int .i64 bA, .int .i64 bB, .int .i64 bC, .int .i64 bD] 36 (0, 0)) (nb bh)) (bsz HB)); have bW := Aside0.mk (Kd.R_lower (Kd.R_new' (Kd.R_new' (Kd.R_new' bY (Kd.R_lt (by (with_reducible repeat (first | apply Kd.R_alloc | apply Kd.R_drewN | apply Kd.R_drew)); exact (f2 (Kd.R_types bo.out bi.out (by decide)))))) (Kd.R_lt (by (with_reducible repeat (first | apply Kd.R_alloc | apply Kd.R_drewN | apply Kd.R_drew)); exact (f2 (Kd.R_types bv.out bi.out (by decide)))))) (Kd.R_lt (by (with_reducible repeat (first | apply Kd.R_alloc | apply Kd.R_drewN | apply Kd.R_drew)); exact (f2 (Kd.R_types bS.out bi.out (by decide)))))) (bsz HB)); replace bn := Aside0.mk (Kd.Q_elder' (by (with_reducible repeat (first | apply Kd.Q_alloc | apply Kd.Q_drewN | apply Kd.Q_drew)); exact (fQ2 (Kd.Q_types bn.out bi.out (by decide)))) (Kd.Q_base bX) hb); replace bo := Aside0.mk (Kd.R_elder' (by (with_reducible repeat (first | apply Kd.R_alloc | apply Kd.R_drewN | apply Kd.R_drew)); exact (f2 (Kd.R_types bo.out bi.out (by decide)))) (Kd.R_base bY) hb); replace bp := Aside0.mk (Kd.R_elder' (by (with_reducible repeat (first | apply Kd.R_alloc | apply Kd.R_drewN | apply Kd.R_drew)); exact (f2 (Kd.R_types bp.out bi.out (by decide)))) (Kd.Q_base bX) hb); replace bv := Aside0.mk (Kd.R_elder' (by (with_reducible repeat (first | apply Kd.R_alloc | apply Kd.R_drewN | apply Kd.R_drew)); exact (f2 (Kd.R_types bv.out bi.out (by decide)))) (Kd.R_base bY) hb); replace bu := Aside0.mk (Kd.R_elder' (by (with_reducible repeat (first | apply Kd.R_alloc | apply Kd.R_drewN | apply Kd.R_drew)); exact (f2 (Kd.R_types bu.out bi.out (by decide)))) (Kd.Q_base bX) hb); replace bS := Aside0.mk (Kd.R_elder' (by (with_reducible repeat (first | apply Kd.R_alloc | apply Kd.R_drewN | apply Kd.R_drew)); exact (f2 (Kd.R_types bS.out bi.out (by decide)))) (Kd.R_base bY) hb); replace bc := nblk bc hb; replace bf := nblk bf hb; replace bh := nblk bh hb; replace bg := nblk bg hb; replace bi := Aside0.mk (blk_below (g := e8) (o := .cells #[.slice b9 bR.length b3, .slice dp di.length dq] 27 (0, 0)) (q2 bi) hb); replace HB := nbs HB hb; (try clear hb); (try clear bX); (try clear bY)) | ((with_reducible refine gate_dst (N := 11) rfl ?_); refine bxe 11 #[.slice none 0 0, .slice none 0 0] 27 ?_; intro e9 hg k7 hbox hb; have bm := hbox; have k8 := nge HB hg; have k9 := nge HB hg; have eQ := nlt bc hg; have eR := ngt bc hg; have gy := nlt bf hg; have gz := ngt bf hg; have ga := nlt bh hg; have gb := ngt bh hg; have dS := nlt bg hg; have dT := ngt bg hg; have gc := nlt bi hg; have gd := ngt bi hg; replace bn := nQ bn hb; replace bo := nR bo hb; replace bp := nR bp hb; replace bv := nR bv hb; replace bu := nR bu hb; replace bS := nR bS hb; replace bV := nQ bV hb; replace bW := nR bW hb; replace bc := nblk bc hb; replace bf := nblk bf hb; replace bh := nblk bh hb; replace bg := nblk bg hb; replace bi := nblk bi hb; replace HB := nbs HB hb; clear hb hbox hg) | ((with_reducible refine gate_dst (N := 12) rfl ?_); refine bxe 12 #[.int .i64 0, .bool false, .int .i64 0, .int .i64 0, .int .i64 0, .int .i64 0] 36 ?_; intro bH hg ma hbox hb; have bq := hbox; have mb := nge HB hg; have mc := nge HB hg; have eS := nlt bc hg; have eT := ngt bc hg; have gA := nlt bf hg; have gB := ngt bf hg; have gf := nlt bh hg; have gg := ngt bh hg; have dU := nlt bg hg; have dV := ngt bg hg; have gh := nlt bi hg; have gi := ngt bi hg; have gj := nlt bm hg; have gl := ngt bm hg; replace bn := Aside0.mk (Kd.Q_below (Kd.Q_elderB (nQo bn) bH (Nat.le_of_eq hg.symm)) hb); replace bo := nR bo hb; replace bp := Aside0.mk (Kd.R_below (Kd.R_elderB (nRo bp) bH (Nat.le_of_eq hg.symm)) hb); replace bv := nR bv hb; replace bu := Aside0.mk (Kd.R_below (Kd.R_elderB (nRo bu) bH (Nat.le_of_eq hg.symm)) hb); replace bS := nR bS hb; replace bV := Aside0.mk (Kd.Q_below (Kd.Q_elderB (nQo bV) bH (Nat.le_of_eq hg.symm)) hb); replace bW := nR bW hb; replace bc := nblk bc hb; replace bf := nblk bf hb; replace bh := nblk bh hb; replace bg := nblk bg hb; replace bi := nblk bi hb; replace bm := nblk bm hb; replace HB := nbs HB hb; clear hb hbox hg; obtain ⟨b8, b4, hS, _⟩ := Kd.Q_slice bV.out; subst hS; have md := eR.out; have mf := eQ.out; have mg := gz.out; have mh := gy.out; have mi := gb.out; have mj := ga.out; have ml := dT.out; have mm := dS.out; have mn := gd.out; have mo := gc.out; have mq := gj.out; have mr := gl.out; obtain ⟨hT, hU⟩ := c2e bm; obtain ⟨hV, hW⟩ := z2_ bm; obtain ⟨dx, dr, hX⟩ := Kd.R_slice bW.out; subst hX; have ms := eT.out; have mt := eS.out; have mu := gB.out; have mv := gA.out; have mw := gg.out; have mx := gf.out; have mz := dV.out; have mA := dU.out; have mB := gi.out; have mC := gh.out; obtain ⟨hY, hZ, h0, h2, h3, h4⟩ := c6e bq; obtain ⟨h5, h6, h7, h8, h9, ia⟩ := z6_ bq) | (go_at_call 20; (with_reducible refine (impl_Read.calls k _ _ bU _ _ b5 dI dJ dK dL dM dN ep da db dc dd de df dk _ ?side1 ?side2 ?side3 ?side4 A8.out).mono ?_); (case side1 => refine (Kd.Q_reads' (e := 36) (base := w.heap.size) (ok := fun k_ => ((((((True ∧ some k_ ≠ (.slice b2 bj.length bZ : Value).ownBlock) ∧ some k_ ≠ (.slice b7 bd.length b1 : Value).ownBlock) ∧ some k_ ≠ (.slice b9 bR.length b3 : Value).ownBlock) ∧ k_ ≠ bF) ∧ k_ ≠ bG) ∧ k_ ≠ bH)) (n := bU.length) (c := b4) ?_).2.2; exact (by (with_reducible repeat (first | apply Kd.Q_alloc | apply Kd.Q_drewN | apply Kd.Q_drew)); exact (Kd.Q_mono (Kd.Q_mono (hQ6_ (fun _ hk => hk.2) (hQ2_ (fun _ hk => hk.1.2) (Kd.Q_mono (Kd.Q_types bV.out bm.out (by decide)) (fun k_ hk => (⟨hk, hk.1.2⟩ : _ ∧ k_ ≠ bH))))) (fun _ h_ => h_.1)) (fun _ h_ => h_.1)))); (case side2 => exact (Kd.Q_reads' bV.out).2.1); (case side3 => refine (Kd.R_reads' (e := 4) (base := w.heap.size) (ok := fun k_ => (((True ∧ some k_ ≠ (.slice dn br.length dg : Value).ownBlock) ∧ some k_ ≠ (.slice dl bJ.length dm : Value).ownBlock) ∧ some k_ ≠ (.slice dp di.length dq : Value).ownBlock)) (n := b5.length) (c := dr) ?_).2.2; exact (by (with_reducible repeat (first | apply Kd.R_alloc | apply Kd.R_drewN | apply Kd.R_drew)); exact (Kd.R_mono (Kd.R_mono (hR6_ (fun _ hk => hk.2) (hR2_ (fun _ hk => hk.1.2) (Kd.R_types (Kd.R_types bW.out bm.out (by decide)) bq.out (by decide)))) (fun _ h_ => h_.1)) (fun _ h_ => h_.1)))); (case side4 => exact (Kd.R_reads' bW.out).2.1); rintro e mD ⟨rfl, hb⟩; replace bn := Aside0.mk (Kd.Q_below (by (with_reducible repeat (first | apply Kd.Q_alloc | apply Kd.Q_drewN | apply Kd.Q_drew)); exact (Kd.Q_mono (Kd.Q_mono (hQ6_ (fun _ hk => hk.2) (hQ2_ (fun _ hk => hk.1.2) (Kd.Q_mono (Kd.Q_types bn.out bm.out (by decide)) (fun k_ hk => (⟨hk, hk.1.2⟩ : _ ∧ k_ ≠ bH))))) (fun _ h_ => h_.1)) (fun _ h_ => h_.1))) hb); replace bo := Aside0.mk (Kd.R_below (by (with_reducible repeat (first | apply Kd.R_alloc | apply Kd.R_drewN | apply Kd.R_drew)); exact (Kd.R_mono (Kd.R_mono (hR6_ (fun _ hk => hk.2) (hR2_ (fun _ hk => hk.1.2) (Kd.R_types (Kd.R_types bo.out bm.out (by decide)) bq.out (by decide)))) (fun _ h_ => h_.1)) (fun _ h_ => h_.1))) hb); replace bp := Aside0.mk (Kd.R_below (by (with_reducible repeat (first | apply Kd.R_alloc | apply Kd.R_drewN | apply Kd.R_drew)); exact (Kd.R_mono (Kd.R_mono (hR6_ (fun _ hk => hk.2) (hR2_ (fun _ hk => hk.1.2) (Kd.R_mono (Kd.R_types bp.out bm.out (by decide)) (fun k_ hk => (⟨hk, hk.1.2⟩ : _ ∧ k_ ≠ bH))))) (fun _ h_ => h_.1)) (fun _ h_ => h_.1))) hb); replace bv := Aside0.mk (Kd.R_below (by (with_reducible repeat (first | apply Kd.R_alloc | apply Kd.R_drewN | apply Kd.R_drew)); exact (Kd.R_mono (Kd.R_mono (hR6_ (fun _ hk => hk.2) (hR2_ (fun _ hk => hk.1.2) (Kd.R_types (Kd.R_types bv.out bm.out (by decide)) bq.out (by decide)))) (fun _ h_ => h_.1)) (fun _ h_ => h_.1))) hb); replace bu := Aside0.mk (Kd.R_below (by (with_reducible repeat (first | apply Kd.R_alloc | apply Kd.R_drewN | apply Kd.R_drew)); exact (Kd.R_mono (Kd.R_mono (hR6_ (fun _ hk => hk.2) (hR2_ (fun _ hk => hk.1.2) (Kd.R_mono (Kd.R_types bu.out bm.out (by decide)) (fun k_ hk => (⟨hk, hk.1.2⟩ : _ ∧ k_ ≠ bH))))) (fun _ h_ => h_.1)) (fun _ h_ => h_.1))) hb); replace bS := Aside0.mk (Kd.R_below (by (with_reducible repeat (first | apply Kd.R_alloc | apply Kd.R_drewN | apply Kd.R_drew)); exact (Kd.R_mono (Kd.R_mono (hR6_ (fun _ hk => hk.2) (hR2_ (fun _ hk => hk.1.2) (Kd.R_types (Kd.R_types bS.out bm.out (by decide)) bq.out (by decide)))) (fun _ h_ => h_.1)) (fun _ h_ => h_.1))) hb); replace bV := Aside0.mk (Kd.Q_below (by (with_reducible repeat (first | apply Kd.Q_alloc | apply Kd.Q_drewN | apply Kd.Q_drew)); exact (Kd.Q_mono (Kd.Q_mono (hQ6_ (fun _ hk => hk.2) (hQ2_ (fun _ hk => hk.1.2) (Kd.Q_mono (Kd.Q_types bV.out bm.out (by decide)) (fun k_ hk => (⟨hk, hk.1.2⟩ : _ ∧ k_ ≠ bH))))) (fun _ h_ => h_.1)) (fun _ h_ => h_.1))) hb); replace bW := Aside0.mk (Kd.R_below (by (with_reducible repeat (first | apply Kd.R_alloc | apply Kd.R_drewN | apply Kd.R_drew)); exact (Kd.R_mono (Kd.R_mono (hR6_ (fun _ hk => hk.2) (hR2_ (fun _ hk => hk.1.2) (Kd.R_types (Kd.R_types bW.out bm.out (by decide)) bq.out (by decide)))) (fun _ h_ => h_.1)) (fun _ h_ => h_.1))) hb); replace bc := nblk bc hb; replace bf := nblk bf hb; replace bh := nblk bh hb; replace bg := nblk bg hb; replace bi := nblk bi hb; replace bm := Aside0.mk (blk_below (g := e9) (o := .cells #[.slice b8 bU.length b4, .slice dx b5.length dr] 27 (0, 0)) (k6_ gj.out (q2 bm)) hb); replace bq := Aside0.mk (blk_below (g := bH) (o := .cells #[.int .i64 dI, .bool dJ, .int .i64 dK, .int .i64 dL, .int .i64 dM, .int .i64 dN] 36 (0, 0)) (p6 bq (k2_ gl.out (nb bq))) hb); replace HB := nbs HB hb; (try clear hb)) | ((with_reducible refine gate_dst (N := 14) rfl ?_); refine bxe 14 #[.int .i64 0, .bool false, .int .i64 0, .int .i64 0, .int .i64 0, .int .i64 0] 36 ?_; intro bI hg mE hbox hb; have bt := hbox; have mF := nge HB hg; have mG := nge HB hg; have d2 := nlt bc hg; have d3 := ngt bc hg; have ek := nlt bf hg; have el := ngt bf hg; have d9 := nlt bh hg; have ea := ngt bh hg; have dB := nlt bg hg; have dC := ngt bg hg; have eW := nlt bi hg; have eX := ngt bi hg; have ey := nlt bm hg; have ez := ngt bm hg; have eA := nlt bq hg; have eB := ngt bq hg; replace bn := Aside0.mk (Kd.Q_below (Kd.Q_elderB (nQo bn) bI (Nat.le_of_eq hg.symm)) hb); replace bo := nR bo hb; replace bp := Aside0.mk (Kd.R_below (Kd.R_elderB (nRo bp) bI (Nat.le_of_eq hg.symm)) hb); replace bv := nR bv hb; replace bu := Aside0.mk (Kd.R_below (Kd.R_elderB (nRo bu) bI (Nat.le_of_eq hg.symm)) hb); replace bS := nR bS hb; replace bV := Aside0.mk (Kd.Q_below (Kd.Q_elderB (nQo bV) bI (Nat.le_of_eq hg.symm)) hb); replace bW := nR bW hb; replace bc := nblk bc hb; replace bf := nblk bf hb; replace bh := nblk bh hb; replace bg := nblk bg hb; replace bi := nblk bi hb; replace bm := nblk bm hb; replace bq := nblk bq hb; replace HB := nbs HB hb; clear hb hbox hg; have mH := d3.out; have mI := d2.out; have mJ := el.out; have mK := ek.out; have mL := ea.out; have mM := d9.out; have mN := dC.out; have mO := dB.out; have mP := eX.out; have mQ := eW.out; have mR := ez.out; have mS := ey.out; have mT := eB.out; have mU := eA.out; obtain ⟨ib, ic, ig, ih, ii, ij⟩ := c6e bt; obtain ⟨ik, il, im, io, ip, iq⟩ := z6_ bt; obtain ⟨ir, iu⟩ := c2e bm; obtain ⟨iv, iw⟩ := z2_ bm; obtain ⟨ix, iy, iz, iA, iB, iC⟩ := c6e bq; obtain ⟨iD, iE, iF, iG, iH, iI⟩ := z6_ bq) | (go_at_call 25; (with_reducible refine (spec_Read.calls k _ _ bU _ _ b5 dI dJ dK dL dM dN ep er es et eu ev ew gv _ ?side1 ?side2 ?side3 ?side4 A9.out).mono ?_); (case side1 => refine (Kd.Q_reads' (e := 36) (base := w.heap.size) (ok := fun k_ => (((((((True ∧ some k_ ≠ (.slice b2 bj.length bZ : Value).ownBlock) ∧ some k_ ≠ (.slice b7 bd.length b1 : Value).ownBlock) ∧ some k_ ≠ (.slice b9 bR.length b3 : Value).ownBlock) ∧ k_ ≠ bF) ∧ k_ ≠ bG) ∧ k_ ≠ bH) ∧ k_ ≠ bI)) (n := bU.length) (c := b4) ?_).2.2; exact (by (with_reducible repeat (first | apply Kd.Q_alloc | apply Kd.Q_drewN | apply Kd.Q_drew)); exact (fQ6 (Kd.Q_mono bV.out (fun k_ hk => (⟨hk, hk.2⟩ : _ ∧ k_ ≠ bI)))))); (case side2 => exact (Kd.Q_reads' bV.out).2.1); (case side3 => refine (Kd.R_reads' (e := 4) (base := w.heap.size) (ok := fun k_ => (((True ∧ some k_ ≠ (.slice dn br.length dg : Value).ownBlock) ∧ some k_ ≠ (.slice dl bJ.length dm : Value).ownBlock) ∧ some k_ ≠ (.slice dp di.length dq : Value).ownBlock)) (n := b5.length) (c := dr) ?_).2.2; exact (by (with_reducible repeat (first | apply Kd.R_alloc | apply Kd.R_drewN | apply Kd.R_drew)); exact (f6 (Kd.R_types bW.out bt.out (by decide))))); (case side4 => exact (Kd.R_reads' bW.out).2.1); rintro e mV ⟨rfl, hb⟩; replace bn := Aside0.mk (Kd.Q_below (by (with_reducible repeat (first | apply Kd.Q_alloc | apply Kd.Q_drewN | apply Kd.Q_drew)); exact (fQ6 (Kd.Q_mono bn.out (fun k_ hk => (⟨hk, hk.2⟩ : _ ∧ k_ ≠ bI))))) hb); replace bo := Aside0.mk (Kd.R_below (by (with_reducible repeat (first | apply Kd.R_alloc | apply Kd.R_drewN | apply Kd.R_drew)); exact (f6 (Kd.R_types bo.out bt.out (by decide)))) hb); replace bp := Aside0.mk (Kd.R_below (by (with_reducible repeat (first | apply Kd.R_alloc | apply Kd.R_drewN | apply Kd.R_drew)); exact (f6 (Kd.R_mono bp.out (fun k_ hk => (⟨hk, hk.2⟩ : _ ∧ k_ ≠ bI))))) hb); replace bv := Aside0.mk (Kd.R_below (by (with_reducible repeat (first | apply Kd.R_alloc | apply Kd.R_drewN | apply Kd.R_drew)); exact (f6 (Kd.R_types bv.out bt.out (by decide)))) hb); replace bu := Aside0.mk (Kd.R_below (by (with_reducible repeat (first | apply Kd.R_alloc | apply Kd.R_drewN | apply Kd.R_drew)); exact (f6 (Kd.R_mono bu.out (fun k_ hk => (⟨hk, hk.2⟩ : _ ∧ k_ ≠ bI))))) hb); replace bS := Aside0.mk (Kd.R_below (by (with_reducible repeat (first | apply Kd.R_alloc | apply Kd.R_drewN | apply Kd.R_drew)); exact (f6 (Kd.R_types bS.out bt.out (by decide)))) hb); replace bV := Aside0.mk (Kd.Q_below (by (with_reducible repeat (first | apply Kd.Q_alloc | apply Kd.Q_drewN | apply Kd.Q_drew)); exact (fQ6 (Kd.Q_mono bV.out (fun k_ hk => (⟨hk, hk.2⟩ : _ ∧ k_ ≠ bI))))) hb); replace bW := Aside0.mk (Kd.R_below (by (with_reducible repeat (first | apply Kd.R_alloc | apply Kd.R_drewN | apply Kd.R_drew)); exact (f6 (Kd.R_types bW.out bt.out (by decide)))) hb); replace bc := nblk bc hb; replace bf := nblk bf hb; replace bh := nblk bh hb; replace bg := nblk bg hb; replace bi := nblk bi hb; replace bm := nblk bm hb; replace bq := nblk bq hb; replace bt := Aside0.mk (blk_below (g := bI) (o := .cells #[.int .i64 da, .bool db, .int .i64 dc, .int .i64 dd, .int .i64 de, .int .i64 df] 36 (0, 0)) (q6 bt) hb); replace HB := nbs HB hb; (try clear hb)) | ((with_reducible refine gate_dst (N := 16) rfl ?_); refine bxe 16 #[.int .i64 0, .bool false, .int .i64 0, .int .i64 0, .int .i64 0, .int .i64 0] 36 ?_; intro bs hg mW hbox hb; have bT := hbox; have mX := nge HB hg; have mY := nge HB hg; have dy := nlt bc hg; have d6 := ngt bc hg; have d7 := nlt bf hg; have eC := ngt bf hg; have dW := nlt bh hg; have eh := ngt bh hg; have du := nlt bg hg; have dX := ngt bg hg; have eD := nlt bi hg; have gm := ngt bi hg; have eb := nlt bm hg; have eO := ngt bm hg; have ec := nlt bq hg; have eP := ngt bq hg; have d8 := nlt bt hg; have eE := ngt bt hg; replace bn := Aside0.mk (Kd.Q_below (Kd.Q_elderB (nQo bn) bs (Nat.le_of_eq hg.symm)) hb); replace bo := nR bo hb; replace bp := Aside0.mk (Kd.R_below (Kd.R_elderB (nRo bp) bs (Nat.le_of_eq hg.symm)) hb); replace bv := nR bv hb; replace bu := Aside0.mk (Kd.R_below (Kd.R_elderB (nRo bu) bs (Nat.le_of_eq hg.symm)) hb); replace bS := nR bS hb; replace bV := Aside0.mk (Kd.Q_below (Kd.Q_elderB (nQo bV) bs (Nat.le_of_eq hg.symm)) hb); replace bW := nR bW hb; replace bc := nblk bc hb; replace bf := nblk bf hb; replace bh := nblk bh hb; replace bg := nblk bg hb; replace bi := nblk bi hb; replace bm := nblk bm hb; replace bq := nblk bq hb; replace bt := nblk bt hb; replace HB := nbs HB hb; clear hb hbox hg; have mZ := d6.out; have m0 := dy.out; have m1 := eC.out; have m2 := d7.out; have m3 := eh.out; have m4 := dW.out; have m5 := dX.out; have m6 := du.out; have m7 := gm.out; have m8 := eD.out; have m9 := eO.out; have na := eb.out; have nc := eP.out; have nf := ec.out; have ng := eE.out; have nh := d8.out; obtain ⟨iJ, iK, iL, iM, iN, iO⟩ := c6e bT; obtain ⟨iP, iQ, iR, iS, iT, iU⟩ := z6_ bT)))
  (try simp only [Act.put, List.setIfInBounds_toArray, List.set_cons_zero, List.set_cons_succ])
  go_cut [84] (fun oU wc => ∃ (kq : Nat) (jH : Bool), oU = .bool jH ∧ Aside0 (laws_FnMemory.j0 kq bl b0 dk jH bj br bM bN bO bP bL bQ bz bx bA bB bC bD bd bJ da db dc dd de df = some r) ∧ Aside0 (kq ≤ k) ∧ Aside0 (Kd.Q k36 36 wc w.heap.size (fun k_ => some k_ ≠ ((.slice b7 bd.length b1) : Value).ownBlock ∧ some k_ ≠ ((.slice b9 bR.length b3) : Value).ownBlock ∧ some k_ ≠ ((.slice b8 bU.length b4) : Value).ownBlock ∧ k_ ≠ bF ∧ k_ ≠ bG ∧ k_ ≠ bH ∧ k_ ≠ bI ∧ k_ ≠ bs) (.slice b2 bj.length bZ) bj) ∧ Aside0 (Kd.R Kd.bool 4 wc w.heap.size (fun k_ => some k_ ≠ ((.slice dl bJ.length dm) : Value).ownBlock ∧ some k_ ≠ ((.slice dp di.length dq) : Value).ownBlock ∧ some k_ ≠ ((.slice dx b5.length dr) : Value).ownBlock) (.slice dn br.length dg) br) ∧ Aside0 (Kd.Q k36 36 wc w.heap.size (fun k_ => some k_ ≠ ((.slice b2 bj.length bZ) : Value).ownBlock ∧ some k_ ≠ ((.slice b9 bR.length b3) : Value).ownBlock ∧ some k_ ≠ ((.slice b8 bU.length b4) : Value).ownBlock ∧ k_ ≠ bF ∧ k_ ≠ bG ∧ k_ ≠ bH ∧ k_ ≠ bI ∧ k_ ≠ bs) (.slice b7 bd.length b1) bd) ∧ Aside0 (Kd.R Kd.bool 4 wc w.heap.size (fun k_ => some k_ ≠ ((.slice dn br.length dg) : Value).ownBlock ∧ some k_ ≠ ((.slice dp di.length dq) : Value).ownBlock ∧ some k_ ≠ ((.slice dx b5.length dr) : Value).ownBlock) (.slice dl bJ.length dm) bJ) ∧ Aside0 (Kd.Q k36 36 wc w.heap.size (fun k_ => some k_ ≠ ((.slice b2 bj.length bZ) : Value).ownBlock ∧ some k_ ≠ ((.slice b7 bd.length b1) : Value).ownBlock ∧ some k_ ≠ ((.slice b8 bU.length b4) : Value).ownBlock ∧ k_ ≠ bF ∧ k_ ≠ bG ∧ k_ ≠ bH ∧ k_ ≠ bI ∧ k_ ≠ bs) (.slice b9 bR.length b3) bR) ∧ Aside0 (Kd.R Kd.bool 4 wc w.heap.size (fun k_ => some k_ ≠ ((.slice dn br.length dg) : Value).ownBlock ∧ some k_ ≠ ((.slice dl bJ.length dm) : Value).ownBlock ∧ some k_ ≠ ((.slice dx b5.length dr) : Value).ownBlock) (.slice dp di.length dq) di) ∧ Aside0 (Kd.Q k36 36 wc w.heap.size (fun k_ => some k_ ≠ ((.slice b2 bj.length bZ) : Value).ownBlock ∧ some k_ ≠ ((.slice b7 bd.length b1) : Value).ownBlock ∧ some k_ ≠ ((.slice b9 bR.length b3) : Value).ownBlock ∧ k_ ≠ bF ∧ k_ ≠ bG ∧ k_ ≠ bH ∧ k_ ≠ bI ∧ k_ ≠ bs) (.slice b8 bU.length b4) bU) ∧ Aside0 (Kd.R Kd.bool 4 wc w.heap.size (fun k_ => some k_ ≠ ((.slice dn br.length dg) : Value).ownBlock ∧ some k_ ≠ ((.slice dl bJ.length dm) : Value).ownBlock ∧ some k_ ≠ ((.slice dp di.length dq) : Value).ownBlock) (.slice dx b5.length dr) b5) ∧ Aside0 (wc.heap[e6]? = some (.cells #[(.slice b2 bj.length bZ), (.slice dn br.length dg)] 27 (0, 0))) ∧ Aside0 (wc.heap[bF]? = some (.cells #[.int .i64 bM, .bool bN, .int .i64 bO, .int .i64 bP, .int .i64 bL, .int .i64 bQ] 36 (0, 0))) ∧ Aside0 (wc.heap[bG]? = some (.cells #[.int .i64 bz, .bool bx, .int .i64 bA, .int .i64 bB, .int .i64 bC, .int .i64 bD] 36 (0, 0))) ∧ Aside0 (wc.heap[e7]? = some (.cells #[(.slice b7 bd.length b1), (.slice dl bJ.length dm)] 27 (0, 0))) ∧ Aside0 (wc.heap[e8]? = some (.cells #[(.slice b9 bR.length b3), (.slice dp di.length dq)] 27 (0, 0))) ∧ Aside0 (wc.heap[e9]? = some (.cells #[(.slice b8 bU.length b4), (.slice dx b5.length dr)] 27 (0, 0))) ∧ Aside0 (wc.heap[bH]? = some (.cells #[.int .i64 dI, .bool dJ, .int .i64 dK, .int .i64 dL, .int .i64 dM, .int .i64 dN] 36 (0, 0))) ∧ Aside0 (wc.heap[bI]? = some (.cells #[.int .i64 da, .bool db, .int .i64 dc, .int .i64 dd, .int .i64 de, .int .i64 df] 36 (0, 0))) ∧ Aside0 (wc.heap[bs]? = some (.cells #[.int .i64 er, .bool es, .int .i64 et, .int .i64 eu, .int .i64 ev, .int .i64 ew] 36 (0, 0))) ∧ Aside0 (Below w.heap.size w wc))
  case first =>
   have H := jS.out; clear jS
   by_cases c84 : b0 = eo
   ·rw [if_pos c84] at H
    have c84b0 : (b0 == eo) = true := beq_iff_eq.mpr c84; have c84b1 : (b0 != eo) = false := bne_eq_false_iff_eq.mpr c84; clear c84; (first | rw [c84b0] | (simp only [i64_w, i32_w]; rw [c84b0]) | skip); replace H := Option.bind_eq_some_iff.mp H; obtain ⟨dt, A850, H⟩ := H; replace H : (if dt = true then (if (!(da == er) || (!(db == es) || ((!(dc == et) || (!(dd == eu) || (!(de == ev) || (!(df == ew)))))))) = true then (laws_FnMemory.j0 k bl b0 dk true bj br bM bN bO bP bL bQ bz bx bA bB bC bD bd bJ da db dc dd de df) else (laws_FnMemory.j0 k bl b0 dk (dk != gv) bj br bM bN bO bP bL bQ bz bx bA bB bC bD bd bJ da db dc dd de df)) else (laws_FnMemory.j0 k bl b0 dk true bj br bM bN bO bP bL bQ bz bx bA bB bC bD bd bJ da db dc dd de df)) = some r := H; have A85 := Aside0.mk A850; clear A850
    by_cases c86 : dt = true
    ·subst c86
     have H1 : (if (!(da == er) || (!(db == es) || ((!(dc == et) || (!(dd == eu) || (!(de == ev) || (!(df == ew)))))))) = true then (laws_FnMemory.j0 k bl b0 dk true bj br bM bN bO bP bL bQ bz bx bA bB bC bD bd bJ da db dc dd de df) else (laws_FnMemory.j0 k bl b0 dk (dk != gv) bj br bM bN bO bP bL bQ bz bx bA bB bC bD bd bJ da db dc dd de df)) = some r := by rw [if_pos rfl] at H; exact H
     clear H; have H := H1; clear H1
     by_cases c87 : (!(da == er) || (!(db == es) || ((!(dc == et) || (!(dd == eu) || (!(de == ev) || (!(df == ew)))))))) = true
     ·rw [if_pos c87] at H
      have c87b0 : (!(da == er) || (!(db == es) || ((!(dc == et) || (!(dd == eu) || (!(de == ev) || (!(df == ew)))))))) = true := c87; clear c87; have H' := Aside0.mk H; clear H; have pg := d1.out; have ph := d0.out; have pi := dO.out; have pj := dv.out; have pk := dP.out; have pl := dw.out; have pm := dQ.out; have pn := dR.out; have po := dS.out; have pp := dT.out; have pq := dU.out; have pr := dV.out; have ps := dB.out; have pt := dC.out; have pu := du.out; have pv := dX.out; obtain ⟨jT, jU⟩ := c2e bg; obtain ⟨jV, jW⟩ := z2_ bg; have pw := ej.out; have px := ei.out; have pz := eV.out; have pA := ex.out; have pB := eN.out; have pC := eg.out; have pD := gc.out; have pE := gd.out; have pF := gh.out; have pG := gi.out; have pH := eW.out; have pI := eX.out; have pJ := eD.out; have pK := gm.out; obtain ⟨jX, jY⟩ := c2e bi; obtain ⟨jZ, j2⟩ := z2_ bi
      go_wp2_with (first | (go_at_call 11; (with_reducible refine (laws_sameWords.calls k _ _ bd _ _ bR true _ ?side1 ?side2 ?side3 ?side4 A85.out).mono ?_); (case side1 => refine (Kd.R_reads' (e := 36) (base := w.heap.size) (ok := fun k_ => ((((((((True ∧ some k_ ≠ (.slice b2 bj.length bZ : Value).ownBlock) ∧ k_ ≠ bF) ∧ k_ ≠ bG) ∧ some k_ ≠ (.slice b9 bR.length b3 : Value).ownBlock) ∧ some k_ ≠ (.slice b8 bU.length b4 : Value).ownBlock) ∧ k_ ≠ bH) ∧ k_ ≠ bI) ∧ k_ ≠ bs)) (n := bd.length) (c := b1) ?_).2.2; exact (by (with_reducible repeat (first | apply Kd.R_alloc | apply Kd.R_drewN | apply Kd.R_drew)); exact (f6 (Kd.R_mono bp.out (fun k_ hk => (⟨hk, hk.2⟩ : _ ∧ k_ ≠ bs)))))); (case side2 => exact (Kd.R_reads' bp.out).2.1); (case side3 => refine (Kd.R_reads' (e := 36) (base := w.heap.size) (ok := fun k_ => ((((((((True ∧ some k_ ≠ (.slice b2 bj.length bZ : Value).ownBlock) ∧ some k_ ≠ (.slice b7 bd.length b1 : Value).ownBlock) ∧ k_ ≠ bF) ∧ k_ ≠ bG) ∧ some k_ ≠ (.slice b8 bU.length b4 : Value).ownBlock) ∧ k_ ≠ bH) ∧ k_ ≠ bI) ∧ k_ ≠ bs)) (n := bR.length) (c := b3) ?_).2.2; exact (by (with_reducible repeat (first | apply Kd.R_alloc | apply Kd.R_drewN | apply Kd.R_drew)); exact (f6 (Kd.R_mono bu.out (fun k_ hk => (⟨hk, hk.2⟩ : _ ∧ k_ ≠ bs)))))); (case side4 => exact (Kd.R_reads' bu.out).2.1); rintro e w' ⟨rfl, ⟨nd, rfl⟩⟩; (try first | exact ⟨rfl, _, World.drewN_drewN _ _ _⟩ | exact ⟨rfl, _, Eq.trans (World.drewN_drewN _ _ _) (congrArg (World.drewN _) (Nat.add_assoc _ _ _))⟩); have ni := d3.out; have nj := d2.out; have nk := el.out; have nl := ek.out; have nm := ea.out; have nn := d9.out; have np := ez.out; have nq := ey.out; have nr := eB.out; have ns := eA.out; have nt := d8.out; have nu := eE.out; obtain ⟨iV, iW, iX, iY, iZ, i0⟩ := c6e bt; obtain ⟨i1, i2, i3, i4, i5, i6⟩ := z6_ bt; have nv := d6.out; have nw := dy.out; have nx := eC.out; have ny := d7.out; have nz := eh.out; have nA := dW.out; have nB := eO.out; have nD := eb.out; have nE := eP.out; have nF := ec.out; obtain ⟨i7, i8, i9, ja, jb, jc⟩ := c6e bT; obtain ⟨jd, je, jf, jg, jh, ji⟩ := z6_ bT))
      repeat (go_quiet (first | (go_at_call 11; (with_reducible refine (laws_sameWords.calls k _ _ bd _ _ bR true _ ?side1 ?side2 ?side3 ?side4 A85.out).mono ?_); (case side1 => refine (Kd.R_reads' (e := 36) (base := w.heap.size) (ok := fun k_ => ((((((((True ∧ some k_ ≠ (.slice b2 bj.length bZ : Value).ownBlock) ∧ k_ ≠ bF) ∧ k_ ≠ bG) ∧ some k_ ≠ (.slice b9 bR.length b3 : Value).ownBlock) ∧ some k_ ≠ (.slice b8 bU.length b4 : Value).ownBlock) ∧ k_ ≠ bH) ∧ k_ ≠ bI) ∧ k_ ≠ bs)) (n := bd.length) (c := b1) ?_).2.2; exact (by (with_reducible repeat (first | apply Kd.R_alloc | apply Kd.R_drewN | apply Kd.R_drew)); exact (f6 (Kd.R_mono bp.out (fun k_ hk => (⟨hk, hk.2⟩ : _ ∧ k_ ≠ bs)))))); (case side2 => exact (Kd.R_reads' bp.out).2.1); (case side3 => refine (Kd.R_reads' (e := 36) (base := w.heap.size) (ok := fun k_ => ((((((((True ∧ some k_ ≠ (.slice b2 bj.length bZ : Value).ownBlock) ∧ some k_ ≠ (.slice b7 bd.length b1 : Value).ownBlock) ∧ k_ ≠ bF) ∧ k_ ≠ bG) ∧ some k_ ≠ (.slice b8 bU.length b4 : Value).ownBlock) ∧ k_ ≠ bH) ∧ k_ ≠ bI) ∧ k_ ≠ bs)) (n := bR.length) (c := b3) ?_).2.2; exact (by (with_reducible repeat (first | apply Kd.R_alloc | apply Kd.R_drewN | apply Kd.R_drew)); exact (f6 (Kd.R_mono bu.out (fun k_ hk => (⟨hk, hk.2⟩ : _ ∧ k_ ≠ bs)))))); (case side4 => exact (Kd.R_reads' bu.out).2.1); rintro e w' ⟨rfl, ⟨nd, rfl⟩⟩; (try first | exact ⟨rfl, _, World.drewN_drewN _ _ _⟩ | exact ⟨rfl, _, Eq.trans (World.drewN_drewN _ _ _) (congrArg (World.drewN _) (Nat.add_assoc _ _ _))⟩); have ni := d3.out; have nj := d2.out; have nk := el.out; have nl := ek.out; have nm := ea.out; have nn := d9.out; have np := ez.out; have nq := ey.out; have nr := eB.out; have ns := eA.out; have nt := d8.out; have nu := eE.out; obtain ⟨iV, iW, iX, iY, iZ, i0⟩ := c6e bt; obtain ⟨i1, i2, i3, i4, i5, i6⟩ := z6_ bt; have nv := d6.out; have nw := dy.out; have nx := eC.out; have ny := d7.out; have nz := eh.out; have nA := dW.out; have nB := eO.out; have nD := eb.out; have nE := eP.out; have nF := ec.out; obtain ⟨i7, i8, i9, ja, jb, jc⟩ := c6e bT; obtain ⟨jd, je, jf, jg, jh, ji⟩ := z6_ bT)); try go_wp2_with (first | (go_at_call 11; (with_reducible refine (laws_sameWords.calls k _ _ bd _ _ bR true _ ?side1 ?side2 ?side3 ?side4 A85.out).mono ?_); (case side1 => refine (Kd.R_reads' (e := 36) (base := w.heap.size) (ok := fun k_ => ((((((((True ∧ some k_ ≠ (.slice b2 bj.length bZ : Value).ownBlock) ∧ k_ ≠ bF) ∧ k_ ≠ bG) ∧ some k_ ≠ (.slice b9 bR.length b3 : Value).ownBlock) ∧ some k_ ≠ (.slice b8 bU.length b4 : Value).ownBlock) ∧ k_ ≠ bH) ∧ k_ ≠ bI) ∧ k_ ≠ bs)) (n := bd.length) (c := b1) ?_).2.2; exact (by (with_reducible repeat (first | apply Kd.R_alloc | apply Kd.R_drewN | apply Kd.R_drew)); exact (f6 (Kd.R_mono bp.out (fun k_ hk => (⟨hk, hk.2⟩ : _ ∧ k_ ≠ bs)))))); (case side2 => exact (Kd.R_reads' bp.out).2.1); (case side3 => refine (Kd.R_reads' (e := 36) (base := w.heap.size) (ok := fun k_ => ((((((((True ∧ some k_ ≠ (.slice b2 bj.length bZ : Value).ownBlock) ∧ some k_ ≠ (.slice b7 bd.length b1 : Value).ownBlock) ∧ k_ ≠ bF) ∧ k_ ≠ bG) ∧ some k_ ≠ (.slice b8 bU.length b4 : Value).ownBlock) ∧ k_ ≠ bH) ∧ k_ ≠ bI) ∧ k_ ≠ bs)) (n := bR.length) (c := b3) ?_).2.2; exact (by (with_reducible repeat (first | apply Kd.R_alloc | apply Kd.R_drewN | apply Kd.R_drew)); exact (f6 (Kd.R_mono bu.out (fun k_ hk => (⟨hk, hk.2⟩ : _ ∧ k_ ≠ bs)))))); (case side4 => exact (Kd.R_reads' bu.out).2.1); rintro e w' ⟨rfl, ⟨nd, rfl⟩⟩; (try first | exact ⟨rfl, _, World.drewN_drewN _ _ _⟩ | exact ⟨rfl, _, Eq.trans (World.drewN_drewN _ _ _) (congrArg (World.drewN _) (Nat.add_assoc _ _ _))⟩); have ni := d3.out; have nj := d2.out; have nk := el.out; have nl := ek.out; have nm := ea.out; have nn := d9.out; have np := ez.out; have nq := ey.out; have nr := eB.out; have ns := eA.out; have nt := d8.out; have nu := eE.out; obtain ⟨iV, iW, iX, iY, iZ, i0⟩ := c6e bt; obtain ⟨i1, i2, i3, i4, i5, i6⟩ := z6_ bt; have nv := d6.out; have nw := dy.out; have nx := eC.out; have ny := d7.out; have nz := eh.out; have nA := dW.out; have nB := eO.out; have nD := eb.out; have nE := eP.out; have nF := ec.out; obtain ⟨i7, i8, i9, ja, jb, jc⟩ := c6e bT; obtain ⟨jd, je, jf, jg, jh, ji⟩ := z6_ bT)))
      go_meet
      case rel => exact ⟨_, (true), (by first | rfl | (simp; done) | (simp [*]; done)), H', ⟨by first | omega | exact Nat.le_refl _⟩, ⟨by (with_reducible repeat (first | apply Kd.Q_alloc | apply Kd.Q_drewN | apply Kd.Q_drew)); exact Kd.Q_mono (eQ6_ (Kd.Q_mono bn.out (fun k_ hk => (⟨hk, hk.2⟩ : _ ∧ k_ ≠ bs)))) (fun _ hk => ⟨hk.1.1.1.1.1.1.2, ⟨hk.1.1.1.1.1.2, ⟨hk.1.1.1.1.2, ⟨hk.1.1.1.1.1.1.1.1.2, ⟨hk.1.1.1.1.1.1.1.2, ⟨hk.1.1.1.2, ⟨hk.1.1.2, hk.1.2⟩⟩⟩⟩⟩⟩⟩)⟩, ⟨by (with_reducible repeat (first | apply Kd.R_alloc | apply Kd.R_drewN | apply Kd.R_drew)); exact Kd.R_mono (eR6_ (Kd.R_types bo.out bT.out (by decide))) (fun _ hk => ⟨hk.1.1.1.2, ⟨hk.1.1.2, hk.1.2⟩⟩)⟩, ⟨Kd.Q_of_R (by (with_reducible repeat (first | apply Kd.R_alloc | apply Kd.R_drewN | apply Kd.R_drew)); exact Kd.R_mono (eR6_ (Kd.R_mono bp.out (fun k_ hk => (⟨hk, hk.2⟩ : _ ∧ k_ ≠ bs)))) (fun _ hk => ⟨hk.1.1.1.1.1.1.1.1.2, ⟨hk.1.1.1.1.1.2, ⟨hk.1.1.1.1.2, ⟨hk.1.1.1.1.1.1.1.2, ⟨hk.1.1.1.1.1.1.2, ⟨hk.1.1.1.2, ⟨hk.1.1.2, hk.1.2⟩⟩⟩⟩⟩⟩⟩))⟩, ⟨by (with_reducible repeat (first | apply Kd.R_alloc | apply Kd.R_drewN | apply Kd.R_drew)); exact Kd.R_mono (eR6_ (Kd.R_types bv.out bT.out (by decide))) (fun _ hk => ⟨hk.1.1.1.2, ⟨hk.1.1.2, hk.1.2⟩⟩)⟩, ⟨Kd.Q_of_R (by (with_reducible repeat (first | apply Kd.R_alloc | apply Kd.R_drewN | apply Kd.R_drew)); exact Kd.R_mono (eR6_ (Kd.R_mono bu.out (fun k_ hk => (⟨hk, hk.2⟩ : _ ∧ k_ ≠ bs)))) (fun _ hk => ⟨hk.1.1.1.1.1.1.1.1.2, ⟨hk.1.1.1.1.1.1.1.2, ⟨hk.1.1.1.1.2, ⟨hk.1.1.1.1.1.1.2, ⟨hk.1.1.1.1.1.2, ⟨hk.1.1.1.2, ⟨hk.1.1.2, hk.1.2⟩⟩⟩⟩⟩⟩⟩))⟩, ⟨by (with_reducible repeat (first | apply Kd.R_alloc | apply Kd.R_drewN | apply Kd.R_drew)); exact Kd.R_mono (eR6_ (Kd.R_types bS.out bT.out (by decide))) (fun _ hk => ⟨hk.1.1.1.2, ⟨hk.1.1.2, hk.1.2⟩⟩)⟩, ⟨by (with_reducible repeat (first | apply Kd.Q_alloc | apply Kd.Q_drewN | apply Kd.Q_drew)); exact Kd.Q_mono (eQ6_ (Kd.Q_mono bV.out (fun k_ hk => (⟨hk, hk.2⟩ : _ ∧ k_ ≠ bs)))) (fun _ hk => ⟨hk.1.1.1.1.1.1.1.1.2, ⟨hk.1.1.1.1.1.1.1.2, ⟨hk.1.1.1.1.1.1.2, ⟨hk.1.1.1.1.1.2, ⟨hk.1.1.1.1.2, ⟨hk.1.1.1.2, ⟨hk.1.1.2, hk.1.2⟩⟩⟩⟩⟩⟩⟩)⟩, ⟨by (with_reducible repeat (first | apply Kd.R_alloc | apply Kd.R_drewN | apply Kd.R_drew)); exact Kd.R_mono (eR6_ (Kd.R_types bW.out bT.out (by decide))) (fun _ hk => ⟨hk.1.1.1.2, ⟨hk.1.1.2, hk.1.2⟩⟩)⟩, ⟨nb bc⟩, ⟨nb bf⟩, ⟨nb bh⟩, ⟨nb bg⟩, ⟨nb bi⟩, ⟨nb bm⟩, ⟨nb bq⟩, ⟨nb bt⟩, ⟨q6 bT⟩, ⟨nbe HB⟩⟩
     ·rw [if_neg c87] at H
      have c87b0 : (!(da == er) || (!(db == es) || ((!(dc == et) || (!(dd == eu) || (!(de == ev) || (!(df == ew)))))))) = false := by simpa using c87
      clear c87; have H' := Aside0.mk H; clear H; have pL := d1.out; have pM := d0.out; have pN := dO.out; have pO := dv.out; have pP := dP.out; have pQ := dw.out; have pR := dQ.out; have pS := dR.out; have pT := dS.out; have pU := dT.out; have pV := dU.out; have pW := dV.out; have pX := dB.out; have pY := dC.out; have pZ := du.out; have p0 := dX.out; obtain ⟨j3, j4⟩ := c2e bg; obtain ⟨j5, j6⟩ := z2_ bg; have p1 := ej.out; have p3 := ei.out; have p4 := eV.out; have p5 := ex.out; have p7 := eN.out; have p8 := eg.out; have p9 := gc.out; have qa := gd.out; have qb := gh.out; have qc := gi.out; have qd := eW.out; have qe := eX.out; have qf := eD.out; have qg := gm.out; obtain ⟨j7, j8⟩ := c2e bi; obtain ⟨j9, ka⟩ := z2_ bi
      go_wp2_with (first | (go_at_call 11; (with_reducible refine (laws_sameWords.calls k _ _ bd _ _ bR true _ ?side1 ?side2 ?side3 ?side4 A85.out).mono ?_); (case side1 => refine (Kd.R_reads' (e := 36) (base := w.heap.size) (ok := fun k_ => ((((((((True ∧ some k_ ≠ (.slice b2 bj.length bZ : Value).ownBlock) ∧ k_ ≠ bF) ∧ k_ ≠ bG) ∧ some k_ ≠ (.slice b9 bR.length b3 : Value).ownBlock) ∧ some k_ ≠ (.slice b8 bU.length b4 : Value).ownBlock) ∧ k_ ≠ bH) ∧ k_ ≠ bI) ∧ k_ ≠ bs)) (n := bd.length) (c := b1) ?_).2.2; exact (by (with_reducible repeat (first | apply Kd.R_alloc | apply Kd.R_drewN | apply Kd.R_drew)); exact (f6 (Kd.R_mono bp.out (fun k_ hk => (⟨hk, hk.2⟩ : _ ∧ k_ ≠ bs)))))); (case side2 => exact (Kd.R_reads' bp.out).2.1); (case side3 => refine (Kd.R_reads' (e := 36) (base := w.heap.size) (ok := fun k_ => ((((((((True ∧ some k_ ≠ (.slice b2 bj.length bZ : Value).ownBlock) ∧ some k_ ≠ (.slice b7 bd.length b1 : Value).ownBlock) ∧ k_ ≠ bF) ∧ k_ ≠ bG) ∧ some k_ ≠ (.slice b8 bU.length b4 : Value).ownBlock) ∧ k_ ≠ bH) ∧ k_ ≠ bI) ∧ k_ ≠ bs)) (n := bR.length) (c := b3) ?_).2.2; exact (by (with_reducible repeat (first | apply Kd.R_alloc | apply Kd.R_drewN | apply Kd.R_drew)); exact (f6 (Kd.R_mono bu.out (fun k_ hk => (⟨hk, hk.2⟩ : _ ∧ k_ ≠ bs)))))); (case side4 => exact (Kd.R_reads' bu.out).2.1); rintro e w' ⟨rfl, ⟨nd, rfl⟩⟩; (try first | exact ⟨rfl, _, World.drewN_drewN _ _ _⟩ | exact ⟨rfl, _, Eq.trans (World.drewN_drewN _ _ _) (congrArg (World.drewN _) (Nat.add_assoc _ _ _))⟩); have nG := d3.out; have nH := d2.out; have nI := el.out; have nJ := ek.out; have nK := ea.out; have nL := d9.out; have nM := ez.out; have nN := ey.out; have nO := eB.out; have nP := eA.out; have nS := d8.out; have nT := eE.out; obtain ⟨jj, jk, jl, jm, jn, jo⟩ := c6e bt; obtain ⟨jp, jq, jr, js, jt, ju⟩ := z6_ bt; have nU := d6.out; have nV := dy.out; have nW := eC.out; have nX := d7.out; have nY := eh.out; have nZ := dW.out; have n0 := eO.out; have n1 := eb.out; have n2 := eP.out; have n3 := ec.out; obtain ⟨jv, jw, jx, jy, jz, jA⟩ := c6e bT; obtain ⟨jB, jC, jD, jE, jF, jG⟩ := z6_ bT))
      repeat (go_quiet (first | (go_at_call 11; (with_reducible refine (laws_sameWords.calls k _ _ bd _ _ bR true _ ?side1 ?side2 ?side3 ?side4 A85.out).mono ?_); (case side1 => refine (Kd.R_reads' (e := 36) (base := w.heap.size) (ok := fun k_ => ((((((((True ∧ some k_ ≠ (.slice b2 bj.length bZ : Value).ownBlock) ∧ k_ ≠ bF) ∧ k_ ≠ bG) ∧ some k_ ≠ (.slice b9 bR.length b3 : Value).ownBlock) ∧ some k_ ≠ (.slice b8 bU.length b4 : Value).ownBlock) ∧ k_ ≠ bH) ∧ k_ ≠ bI) ∧ k_ ≠ bs)) (n := bd.length) (c := b1) ?_).2.2; exact (by (with_reducible repeat (first | apply Kd.R_alloc | apply Kd.R_drewN | apply Kd.R_drew)); exact (f6 (Kd.R_mono bp.out (fun k_ hk => (⟨hk, hk.2⟩ : _ ∧ k_ ≠ bs)))))); (case side2 => exact (Kd.R_reads' bp.out).2.1); (case side3 => refine (Kd.R_reads' (e := 36) (base := w.heap.size) (ok := fun k_ => ((((((((True ∧ some k_ ≠ (.slice b2 bj.length bZ : Value).ownBlock) ∧ some k_ ≠ (.slice b7 bd.length b1 : Value).ownBlock) ∧ k_ ≠ bF) ∧ k_ ≠ bG) ∧ some k_ ≠ (.slice b8 bU.length b4 : Value).ownBlock) ∧ k_ ≠ bH) ∧ k_ ≠ bI) ∧ k_ ≠ bs)) (n := bR.length) (c := b3) ?_).2.2; exact (by (with_reducible repeat (first | apply Kd.R_alloc | apply Kd.R_drewN | apply Kd.R_drew)); exact (f6 (Kd.R_mono bu.out (fun k_ hk => (⟨hk, hk.2⟩ : _ ∧ k_ ≠ bs)))))); (case side4 => exact (Kd.R_reads' bu.out).2.1); rintro e w' ⟨rfl, ⟨nd, rfl⟩⟩; (try first | exact ⟨rfl, _, World.drewN_drewN _ _ _⟩ | exact ⟨rfl, _, Eq.trans (World.drewN_drewN _ _ _) (congrArg (World.drewN _) (Nat.add_assoc _ _ _))⟩); have nG := d3.out; have nH := d2.out; have nI := el.out; have nJ := ek.out; have nK := ea.out; have nL := d9.out; have nM := ez.out; have nN := ey.out; have nO := eB.out; have nP := eA.out; have nS := d8.out; have nT := eE.out; obtain ⟨jj, jk, jl, jm, jn, jo⟩ := c6e bt; obtain ⟨jp, jq, jr, js, jt, ju⟩ := z6_ bt; have nU := d6.out; have nV := dy.out; have nW := eC.out; have nX := d7.out; have nY := eh.out; have nZ := dW.out; have n0 := eO.out; have n1 := eb.out; have n2 := eP.out; have n3 := ec.out; obtain ⟨jv, jw, jx, jy, jz, jA⟩ := c6e bT; obtain ⟨jB, jC, jD, jE, jF, jG⟩ := z6_ bT)); try go_wp2_with (first | (go_at_call 11; (with_reducible refine (laws_sameWords.calls k _ _ bd _ _ bR true _ ?side1 ?side2 ?side3 ?side4 A85.out).mono ?_); (case side1 => refine (Kd.R_reads' (e := 36) (base := w.heap.size) (ok := fun k_ => ((((((((True ∧ some k_ ≠ (.slice b2 bj.length bZ : Value).ownBlock) ∧ k_ ≠ bF) ∧ k_ ≠ bG) ∧ some k_ ≠ (.slice b9 bR.length b3 : Value).ownBlock) ∧ some k_ ≠ (.slice b8 bU.length b4 : Value).ownBlock) ∧ k_ ≠ bH) ∧ k_ ≠ bI) ∧ k_ ≠ bs)) (n := bd.length) (c := b1) ?_).2.2; exact (by (with_reducible repeat (first | apply Kd.R_alloc | apply Kd.R_drewN | apply Kd.R_drew)); exact (f6 (Kd.R_mono bp.out (fun k_ hk => (⟨hk, hk.2⟩ : _ ∧ k_ ≠ bs)))))); (case side2 => exact (Kd.R_reads' bp.out).2.1); (case side3 => refine (Kd.R_reads' (e := 36) (base := w.heap.size) (ok := fun k_ => ((((((((True ∧ some k_ ≠ (.slice b2 bj.length bZ : Value).ownBlock) ∧ some k_ ≠ (.slice b7 bd.length b1 : Value).ownBlock) ∧ k_ ≠ bF) ∧ k_ ≠ bG) ∧ some k_ ≠ (.slice b8 bU.length b4 : Value).ownBlock) ∧ k_ ≠ bH) ∧ k_ ≠ bI) ∧ k_ ≠ bs)) (n := bR.length) (c := b3) ?_).2.2; exact (by (with_reducible repeat (first | apply Kd.R_alloc | apply Kd.R_drewN | apply Kd.R_drew)); exact (f6 (Kd.R_mono bu.out (fun k_ hk => (⟨hk, hk.2⟩ : _ ∧ k_ ≠ bs)))))); (case side4 => exact (Kd.R_reads' bu.out).2.1); rintro e w' ⟨rfl, ⟨nd, rfl⟩⟩; (try first | exact ⟨rfl, _, World.drewN_drewN _ _ _⟩ | exact ⟨rfl, _, Eq.trans (World.drewN_drewN _ _ _) (congrArg (World.drewN _) (Nat.add_assoc _ _ _))⟩); have nG := d3.out; have nH := d2.out; have nI := el.out; have nJ := ek.out; have nK := ea.out; have nL := d9.out; have nM := ez.out; have nN := ey.out; have nO := eB.out; have nP := eA.out; have nS := d8.out; have nT := eE.out; obtain ⟨jj, jk, jl, jm, jn, jo⟩ := c6e bt; obtain ⟨jp, jq, jr, js, jt, ju⟩ := z6_ bt; have nU := d6.out; have nV := dy.out; have nW := eC.out; have nX := d7.out; have nY := eh.out; have nZ := dW.out; have n0 := eO.out; have n1 := eb.out; have n2 := eP.out; have n3 := ec.out; obtain ⟨jv, jw, jx, jy, jz, jA⟩ := c6e bT; obtain ⟨jB, jC, jD, jE, jF, jG⟩ := z6_ bT)))
      go_meet
      case rel => exact ⟨_, ((dk != gv)), (by first | rfl | (simp; done) | (simp [*]; done)), H', ⟨by first | omega | exact Nat.le_refl _⟩, ⟨by (with_reducible repeat (first | apply Kd.Q_alloc | apply Kd.Q_drewN | apply Kd.Q_drew)); exact Kd.Q_mono (eQ6_ (Kd.Q_mono bn.out (fun k_ hk => (⟨hk, hk.2⟩ : _ ∧ k_ ≠ bs)))) (fun _ hk => ⟨hk.1.1.1.1.1.1.2, ⟨hk.1.1.1.1.1.2, ⟨hk.1.1.1.1.2, ⟨hk.1.1.1.1.1.1.1.1.2, ⟨hk.1.1.1.1.1.1.1.2, ⟨hk.1.1.1.2, ⟨hk.1.1.2, hk.1.2⟩⟩⟩⟩⟩⟩⟩)⟩, ⟨by (with_reducible repeat (first | apply Kd.R_alloc | apply Kd.R_drewN | apply Kd.R_drew)); exact Kd.R_mono (eR6_ (Kd.R_types bo.out bT.out (by decide))) (fun _ hk => ⟨hk.1.1.1.2, ⟨hk.1.1.2, hk.1.2⟩⟩)⟩, ⟨Kd.Q_of_R (by (with_reducible repeat (first | apply Kd.R_alloc | apply Kd.R_drewN | apply Kd.R_drew)); exact Kd.R_mono (eR6_ (Kd.R_mono bp.out (fun k_ hk => (⟨hk, hk.2⟩ : _ ∧ k_ ≠ bs)))) (fun _ hk => ⟨hk.1.1.1.1.1.1.1.1.2, ⟨hk.1.1.1.1.1.2, ⟨hk.1.1.1.1.2, ⟨hk.1.1.1.1.1.1.1.2, ⟨hk.1.1.1.1.1.1.2, ⟨hk.1.1.1.2, ⟨hk.1.1.2, hk.1.2⟩⟩⟩⟩⟩⟩⟩))⟩, ⟨by (with_reducible repeat (first | apply Kd.R_alloc | apply Kd.R_drewN | apply Kd.R_drew)); exact Kd.R_mono (eR6_ (Kd.R_types bv.out bT.out (by decide))) (fun _ hk => ⟨hk.1.1.1.2, ⟨hk.1.1.2, hk.1.2⟩⟩)⟩, ⟨Kd.Q_of_R (by (with_reducible repeat (first | apply Kd.R_alloc | apply Kd.R_drewN | apply Kd.R_drew)); exact Kd.R_mono (eR6_ (Kd.R_mono bu.out (fun k_ hk => (⟨hk, hk.2⟩ : _ ∧ k_ ≠ bs)))) (fun _ hk => ⟨hk.1.1.1.1.1.1.1.1.2, ⟨hk.1.1.1.1.1.1.1.2, ⟨hk.1.1.1.1.2, ⟨hk.1.1.1.1.1.1.2, ⟨hk.1.1.1.1.1.2, ⟨hk.1.1.1.2, ⟨hk.1.1.2, hk.1.2⟩⟩⟩⟩⟩⟩⟩))⟩, ⟨by (with_reducible repeat (first | apply Kd.R_alloc | apply Kd.R_drewN | apply Kd.R_drew)); exact Kd.R_mono (eR6_ (Kd.R_types bS.out bT.out (by decide))) (fun _ hk => ⟨hk.1.1.1.2, ⟨hk.1.1.2, hk.1.2⟩⟩)⟩, ⟨by (with_reducible repeat (first | apply Kd.Q_alloc | apply Kd.Q_drewN | apply Kd.Q_drew)); exact Kd.Q_mono (eQ6_ (Kd.Q_mono bV.out (fun k_ hk => (⟨hk, hk.2⟩ : _ ∧ k_ ≠ bs)))) (fun _ hk => ⟨hk.1.1.1.1.1.1.1.1.2, ⟨hk.1.1.1.1.1.1.1.2, ⟨hk.1.1.1.1.1.1.2, ⟨hk.1.1.1.1.1.2, ⟨hk.1.1.1.1.2, ⟨hk.1.1.1.2, ⟨hk.1.1.2, hk.1.2⟩⟩⟩⟩⟩⟩⟩)⟩, ⟨by (with_reducible repeat (first | apply Kd.R_alloc | apply Kd.R_drewN | apply Kd.R_drew)); exact Kd.R_mono (eR6_ (Kd.R_types bW.out bT.out (by decide))) (fun _ hk => ⟨hk.1.1.1.2, ⟨hk.1.1.2, hk.1.2⟩⟩)⟩, ⟨nb bc⟩, ⟨nb bf⟩, ⟨nb bh⟩, ⟨nb bg⟩, ⟨nb bi⟩, ⟨nb bm⟩, ⟨nb bq⟩, ⟨nb bt⟩, ⟨q6 bT⟩, ⟨nbe HB⟩⟩
    ·replace c86 := Bool.eq_false_iff.mpr c86
     subst c86; have H1 : (laws_FnMemory.j0 k bl b0 dk true bj br bM bN bO bP bL bQ bz bx bA bB bC bD bd bJ da db dc dd de df) = some r := by rw [if_neg (show ¬ (false = true) by decide)] at H; exact H
     clear H; have H := H1; clear H1; have H' := Aside0.mk H; clear H; have qh := d1.out; have qi := d0.out; have qj := dO.out; have qk := dv.out; have ql := dP.out; have qm := dw.out; have qn := dQ.out; have qo := dR.out; have qp := dS.out; have qq := dT.out; have qr := dU.out; have qs := dV.out; have qt := dB.out; have qu := dC.out; have qv := du.out; have qw := dX.out; obtain ⟨kb, kc⟩ := c2e bg; obtain ⟨kd, ke⟩ := z2_ bg; have qx := ej.out; have qy := ei.out; have qz := eV.out; have qA := ex.out; have qB := eN.out; have qC := eg.out; have qD := gc.out; have qE := gd.out; have qF := gh.out; have qG := gi.out; have qH := eW.out; have qI := eX.out; have qJ := eD.out; have qK := gm.out; obtain ⟨kf, kg⟩ := c2e bi; obtain ⟨kh, ki⟩ := z2_ bi
     go_wp2_with (first | (go_at_call 11; (with_reducible refine (laws_sameWords.calls k _ _ bd _ _ bR false _ ?side1 ?side2 ?side3 ?side4 A85.out).mono ?_); (case side1 => refine (Kd.R_reads' (e := 36) (base := w.heap.size) (ok := fun k_ => ((((((((True ∧ some k_ ≠ (.slice b2 bj.length bZ : Value).ownBlock) ∧ k_ ≠ bF) ∧ k_ ≠ bG) ∧ some k_ ≠ (.slice b9 bR.length b3 : Value).ownBlock) ∧ some k_ ≠ (.slice b8 bU.length b4 : Value).ownBlock) ∧ k_ ≠ bH) ∧ k_ ≠ bI) ∧ k_ ≠ bs)) (n := bd.length) (c := b1) ?_).2.2; exact (by (with_reducible repeat (first | apply Kd.R_alloc | apply Kd.R_drewN | apply Kd.R_drew)); exact (f6 (Kd.R_mono bp.out (fun k_ hk => (⟨hk, hk.2⟩ : _ ∧ k_ ≠ bs)))))); (case side2 => exact (Kd.R_reads' bp.out).2.1); (case side3 => refine (Kd.R_reads' (e := 36) (base := w.heap.size) (ok := fun k_ => ((((((((True ∧ some k_ ≠ (.slice b2 bj.length bZ : Value).ownBlock) ∧ some k_ ≠ (.slice b7 bd.length b1 : Value).ownBlock) ∧ k_ ≠ bF) ∧ k_ ≠ bG) ∧ some k_ ≠ (.slice b8 bU.length b4 : Value).ownBlock) ∧ k_ ≠ bH) ∧ k_ ≠ bI) ∧ k_ ≠ bs)) (n := bR.length) (c := b3) ?_).2.2; exact (by (with_reducible repeat (first | apply Kd.R_alloc | apply Kd.R_drewN | apply Kd.R_drew)); exact (f6 (Kd.R_mono bu.out (fun k_ hk => (⟨hk, hk.2⟩ : _ ∧ k_ ≠ bs)))))); (case side4 => exact (Kd.R_reads' bu.out).2.1); rintro e w' ⟨rfl, ⟨nd, rfl⟩⟩; (try first | exact ⟨rfl, _, World.drewN_drewN _ _ _⟩ | exact ⟨rfl, _, Eq.trans (World.drewN_drewN _ _ _) (congrArg (World.drewN _) (Nat.add_assoc _ _ _))⟩)))
     repeat (go_quiet (first | (go_at_call 11; (with_reducible refine (laws_sameWords.calls k _ _ bd _ _ bR false _ ?side1 ?side2 ?side3 ?side4 A85.out).mono ?_); (case side1 => refine (Kd.R_reads' (e := 36) (base := w.heap.size) (ok := fun k_ => ((((((((True ∧ some k_ ≠ (.slice b2 bj.length bZ : Value).ownBlock) ∧ k_ ≠ bF) ∧ k_ ≠ bG) ∧ some k_ ≠ (.slice b9 bR.length b3 : Value).ownBlock) ∧ some k_ ≠ (.slice b8 bU.length b4 : Value).ownBlock) ∧ k_ ≠ bH) ∧ k_ ≠ bI) ∧ k_ ≠ bs)) (n := bd.length) (c := b1) ?_).2.2; exact (by (with_reducible repeat (first | apply Kd.R_alloc | apply Kd.R_drewN | apply Kd.R_drew)); exact (f6 (Kd.R_mono bp.out (fun k_ hk => (⟨hk, hk.2⟩ : _ ∧ k_ ≠ bs)))))); (case side2 => exact (Kd.R_reads' bp.out).2.1); (case side3 => refine (Kd.R_reads' (e := 36) (base := w.heap.size) (ok := fun k_ => ((((((((True ∧ some k_ ≠ (.slice b2 bj.length bZ : Value).ownBlock) ∧ some k_ ≠ (.slice b7 bd.length b1 : Value).ownBlock) ∧ k_ ≠ bF) ∧ k_ ≠ bG) ∧ some k_ ≠ (.slice b8 bU.length b4 : Value).ownBlock) ∧ k_ ≠ bH) ∧ k_ ≠ bI) ∧ k_ ≠ bs)) (n := bR.length) (c := b3) ?_).2.2; exact (by (with_reducible repeat (first | apply Kd.R_alloc | apply Kd.R_drewN | apply Kd.R_drew)); exact (f6 (Kd.R_mono bu.out (fun k_ hk => (⟨hk, hk.2⟩ : _ ∧ k_ ≠ bs)))))); (case side4 => exact (Kd.R_reads' bu.out).2.1); rintro e w' ⟨rfl, ⟨nd, rfl⟩⟩; (try first | exact ⟨rfl, _, World.drewN_drewN _ _ _⟩ | exact ⟨rfl, _, Eq.trans (World.drewN_drewN _ _ _) (congrArg (World.drewN _) (Nat.add_assoc _ _ _))⟩))); try go_wp2_with (first | (go_at_call 11; (with_reducible refine (laws_sameWords.calls k _ _ bd _ _ bR false _ ?side1 ?side2 ?side3 ?side4 A85.out).mono ?_); (case side1 => refine (Kd.R_reads' (e := 36) (base := w.heap.size) (ok := fun k_ => ((((((((True ∧ some k_ ≠ (.slice b2 bj.length bZ : Value).ownBlock) ∧ k_ ≠ bF) ∧ k_ ≠ bG) ∧ some k_ ≠ (.slice b9 bR.length b3 : Value).ownBlock) ∧ some k_ ≠ (.slice b8 bU.length b4 : Value).ownBlock) ∧ k_ ≠ bH) ∧ k_ ≠ bI) ∧ k_ ≠ bs)) (n := bd.length) (c := b1) ?_).2.2; exact (by (with_reducible repeat (first | apply Kd.R_alloc | apply Kd.R_drewN | apply Kd.R_drew)); exact (f6 (Kd.R_mono bp.out (fun k_ hk => (⟨hk, hk.2⟩ : _ ∧ k_ ≠ bs)))))); (case side2 => exact (Kd.R_reads' bp.out).2.1); (case side3 => refine (Kd.R_reads' (e := 36) (base := w.heap.size) (ok := fun k_ => ((((((((True ∧ some k_ ≠ (.slice b2 bj.length bZ : Value).ownBlock) ∧ some k_ ≠ (.slice b7 bd.length b1 : Value).ownBlock) ∧ k_ ≠ bF) ∧ k_ ≠ bG) ∧ some k_ ≠ (.slice b8 bU.length b4 : Value).ownBlock) ∧ k_ ≠ bH) ∧ k_ ≠ bI) ∧ k_ ≠ bs)) (n := bR.length) (c := b3) ?_).2.2; exact (by (with_reducible repeat (first | apply Kd.R_alloc | apply Kd.R_drewN | apply Kd.R_drew)); exact (f6 (Kd.R_mono bu.out (fun k_ hk => (⟨hk, hk.2⟩ : _ ∧ k_ ≠ bs)))))); (case side4 => exact (Kd.R_reads' bu.out).2.1); rintro e w' ⟨rfl, ⟨nd, rfl⟩⟩; (try first | exact ⟨rfl, _, World.drewN_drewN _ _ _⟩ | exact ⟨rfl, _, Eq.trans (World.drewN_drewN _ _ _) (congrArg (World.drewN _) (Nat.add_assoc _ _ _))⟩))))
     go_meet
     case rel => exact ⟨_, (true), (by first | rfl | (simp; done) | (simp [*]; done)), H', ⟨by first | omega | exact Nat.le_refl _⟩, ⟨by (with_reducible repeat (first | apply Kd.Q_alloc | apply Kd.Q_drewN | apply Kd.Q_drew)); exact Kd.Q_mono (eQ6_ (Kd.Q_mono bn.out (fun k_ hk => (⟨hk, hk.2⟩ : _ ∧ k_ ≠ bs)))) (fun _ hk => ⟨hk.1.1.1.1.1.1.2, ⟨hk.1.1.1.1.1.2, ⟨hk.1.1.1.1.2, ⟨hk.1.1.1.1.1.1.1.1.2, ⟨hk.1.1.1.1.1.1.1.2, ⟨hk.1.1.1.2, ⟨hk.1.1.2, hk.1.2⟩⟩⟩⟩⟩⟩⟩)⟩, ⟨by (with_reducible repeat (first | apply Kd.R_alloc | apply Kd.R_drewN | apply Kd.R_drew)); exact Kd.R_mono (eR6_ (Kd.R_types bo.out bT.out (by decide))) (fun _ hk => ⟨hk.1.1.1.2, ⟨hk.1.1.2, hk.1.2⟩⟩)⟩, ⟨Kd.Q_of_R (by (with_reducible repeat (first | apply Kd.R_alloc | apply Kd.R_drewN | apply Kd.R_drew)); exact Kd.R_mono (eR6_ (Kd.R_mono bp.out (fun k_ hk => (⟨hk, hk.2⟩ : _ ∧ k_ ≠ bs)))) (fun _ hk => ⟨hk.1.1.1.1.1.1.1.1.2, ⟨hk.1.1.1.1.1.2, ⟨hk.1.1.1.1.2, ⟨hk.1.1.1.1.1.1.1.2, ⟨hk.1.1.1.1.1.1.2, ⟨hk.1.1.1.2, ⟨hk.1.1.2, hk.1.2⟩⟩⟩⟩⟩⟩⟩))⟩, ⟨by (with_reducible repeat (first | apply Kd.R_alloc | apply Kd.R_drewN | apply Kd.R_drew)); exact Kd.R_mono (eR6_ (Kd.R_types bv.out bT.out (by decide))) (fun _ hk => ⟨hk.1.1.1.2, ⟨hk.1.1.2, hk.1.2⟩⟩)⟩, ⟨Kd.Q_of_R (by (with_reducible repeat (first | apply Kd.R_alloc | apply Kd.R_drewN | apply Kd.R_drew)); exact Kd.R_mono (eR6_ (Kd.R_mono bu.out (fun k_ hk => (⟨hk, hk.2⟩ : _ ∧ k_ ≠ bs)))) (fun _ hk => ⟨hk.1.1.1.1.1.1.1.1.2, ⟨hk.1.1.1.1.1.1.1.2, ⟨hk.1.1.1.1.2, ⟨hk.1.1.1.1.1.1.2, ⟨hk.1.1.1.1.1.2, ⟨hk.1.1.1.2, ⟨hk.1.1.2, hk.1.2⟩⟩⟩⟩⟩⟩⟩))⟩, ⟨by (with_reducible repeat (first | apply Kd.R_alloc | apply Kd.R_drewN | apply Kd.R_drew)); exact Kd.R_mono (eR6_ (Kd.R_types bS.out bT.out (by decide))) (fun _ hk => ⟨hk.1.1.1.2, ⟨hk.1.1.2, hk.1.2⟩⟩)⟩, ⟨by (with_reducible repeat (first | apply Kd.Q_alloc | apply Kd.Q_drewN | apply Kd.Q_drew)); exact Kd.Q_mono (eQ6_ (Kd.Q_mono bV.out (fun k_ hk => (⟨hk, hk.2⟩ : _ ∧ k_ ≠ bs)))) (fun _ hk => ⟨hk.1.1.1.1.1.1.1.1.2, ⟨hk.1.1.1.1.1.1.1.2, ⟨hk.1.1.1.1.1.1.2, ⟨hk.1.1.1.1.1.2, ⟨hk.1.1.1.1.2, ⟨hk.1.1.1.2, ⟨hk.1.1.2, hk.1.2⟩⟩⟩⟩⟩⟩⟩)⟩, ⟨by (with_reducible repeat (first | apply Kd.R_alloc | apply Kd.R_drewN | apply Kd.R_drew)); exact Kd.R_mono (eR6_ (Kd.R_types bW.out bT.out (by decide))) (fun _ hk => ⟨hk.1.1.1.2, ⟨hk.1.1.2, hk.1.2⟩⟩)⟩, ⟨nb bc⟩, ⟨nb bf⟩, ⟨nb bh⟩, ⟨nb bg⟩, ⟨nb bi⟩, ⟨nb bm⟩, ⟨nb bq⟩, ⟨nb bt⟩, ⟨q6 bT⟩, ⟨nbe HB⟩⟩
   ·rw [if_neg c84] at H
    have c84b0 : (b0 == eo) = false := beq_eq_false_iff_ne.mpr c84; have c84b1 : (b0 != eo) = true := bne_iff_ne.mpr c84; (first | rw [c84b0] | (simp only [i64_w, i32_w]; rw [c84b0]) | skip); have H' := Aside0.mk H; clear H; go_wp2
    repeat (go_quiet (fail); try go_wp2)
    go_meet
    case rel => exact ⟨_, (true), (by first | rfl | (simp; done) | (simp [*]; done)), H', ⟨by first | omega | exact Nat.le_refl _⟩, ⟨by (with_reducible repeat (first | apply Kd.Q_alloc | apply Kd.Q_drewN | apply Kd.Q_drew)); exact Kd.Q_mono (eQ6_ (Kd.Q_mono bn.out (fun k_ hk => (⟨hk, hk.2⟩ : _ ∧ k_ ≠ bs)))) (fun _ hk => ⟨hk.1.1.1.1.1.1.2, ⟨hk.1.1.1.1.1.2, ⟨hk.1.1.1.1.2, ⟨hk.1.1.1.1.1.1.1.1.2, ⟨hk.1.1.1.1.1.1.1.2, ⟨hk.1.1.1.2, ⟨hk.1.1.2, hk.1.2⟩⟩⟩⟩⟩⟩⟩)⟩, ⟨by (with_reducible repeat (first | apply Kd.R_alloc | apply Kd.R_drewN | apply Kd.R_drew)); exact Kd.R_mono (eR6_ (Kd.R_types bo.out bT.out (by decide))) (fun _ hk => ⟨hk.1.1.1.2, ⟨hk.1.1.2, hk.1.2⟩⟩)⟩, ⟨Kd.Q_of_R (by (with_reducible repeat (first | apply Kd.R_alloc | apply Kd.R_drewN | apply Kd.R_drew)); exact Kd.R_mono (eR6_ (Kd.R_mono bp.out (fun k_ hk => (⟨hk, hk.2⟩ : _ ∧ k_ ≠ bs)))) (fun _ hk => ⟨hk.1.1.1.1.1.1.1.1.2, ⟨hk.1.1.1.1.1.2, ⟨hk.1.1.1.1.2, ⟨hk.1.1.1.1.1.1.1.2, ⟨hk.1.1.1.1.1.1.2, ⟨hk.1.1.1.2, ⟨hk.1.1.2, hk.1.2⟩⟩⟩⟩⟩⟩⟩))⟩, ⟨by (with_reducible repeat (first | apply Kd.R_alloc | apply Kd.R_drewN | apply Kd.R_drew)); exact Kd.R_mono (eR6_ (Kd.R_types bv.out bT.out (by decide))) (fun _ hk => ⟨hk.1.1.1.2, ⟨hk.1.1.2, hk.1.2⟩⟩)⟩, ⟨Kd.Q_of_R (by (with_reducible repeat (first | apply Kd.R_alloc | apply Kd.R_drewN | apply Kd.R_drew)); exact Kd.R_mono (eR6_ (Kd.R_mono bu.out (fun k_ hk => (⟨hk, hk.2⟩ : _ ∧ k_ ≠ bs)))) (fun _ hk => ⟨hk.1.1.1.1.1.1.1.1.2, ⟨hk.1.1.1.1.1.1.1.2, ⟨hk.1.1.1.1.2, ⟨hk.1.1.1.1.1.1.2, ⟨hk.1.1.1.1.1.2, ⟨hk.1.1.1.2, ⟨hk.1.1.2, hk.1.2⟩⟩⟩⟩⟩⟩⟩))⟩, ⟨by (with_reducible repeat (first | apply Kd.R_alloc | apply Kd.R_drewN | apply Kd.R_drew)); exact Kd.R_mono (eR6_ (Kd.R_types bS.out bT.out (by decide))) (fun _ hk => ⟨hk.1.1.1.2, ⟨hk.1.1.2, hk.1.2⟩⟩)⟩, ⟨by (with_reducible repeat (first | apply Kd.Q_alloc | apply Kd.Q_drewN | apply Kd.Q_drew)); exact Kd.Q_mono (eQ6_ (Kd.Q_mono bV.out (fun k_ hk => (⟨hk, hk.2⟩ : _ ∧ k_ ≠ bs)))) (fun _ hk => ⟨hk.1.1.1.1.1.1.1.1.2, ⟨hk.1.1.1.1.1.1.1.2, ⟨hk.1.1.1.1.1.1.2, ⟨hk.1.1.1.1.1.2, ⟨hk.1.1.1.1.2, ⟨hk.1.1.1.2, ⟨hk.1.1.2, hk.1.2⟩⟩⟩⟩⟩⟩⟩)⟩, ⟨by (with_reducible repeat (first | apply Kd.R_alloc | apply Kd.R_drewN | apply Kd.R_drew)); exact Kd.R_mono (eR6_ (Kd.R_types bW.out bT.out (by decide))) (fun _ hk => ⟨hk.1.1.1.2, ⟨hk.1.1.2, hk.1.2⟩⟩)⟩, ⟨nb bc⟩, ⟨nb bf⟩, ⟨nb bh⟩, ⟨nb bg⟩, ⟨nb bi⟩, ⟨nb bm⟩, ⟨nb bq⟩, ⟨nb bt⟩, ⟨q6 bT⟩, ⟨nbe HB⟩⟩
  case rest =>
   clear jS; try clear c1
   try clear c2
   try clear p2
   try clear c3
   try clear c4
   try clear c5
   try clear c6
   try clear c7
   try clear c8
   try clear c9
   try clear c10
   try clear c11
   try clear c12
   try clear c13
   try clear c14
   try clear c15
   try clear c16
   try clear c17
   try clear c20
   try clear c26
   try clear c27
   try clear c28
   try clear c37
   try clear c38
   try clear c39
   try clear c40
   try clear c47
   try clear c48
   try clear c49
   try clear c50
   try clear c51
   try clear c52
   try clear c55
   try clear c56
   try clear c57
   try clear c58
   try clear c59
   try clear c63
   try clear c64
   try clear c65
   try clear c66
   try clear c67
   try clear c68
   try clear c69
   try clear c75
   try clear c76
   try clear c77
   try clear c78
   try clear c79
   try clear c80
   try clear c81
   try clear c82
   try clear c84
   try clear c84b0
   try clear c84b1
   try clear c86
   try clear c87
   try clear c87b0
   try clear c88
   try clear c89
   try clear c90
   try clear c91
   try clear c92
   try clear c93
   try clear c94
   try clear c95
   try clear c97
   try clear c98
   try clear c99
   try clear c100
   try clear c101
   try clear c102
   try clear c103
   try clear c105
   try clear c106
   try clear c107
   try clear c108
   try clear c109
   try clear c110
   try clear c112
   try clear c113
   try clear c114
   try clear c115
   try clear c116
   try clear c118
   try clear c119
   try clear c120
   try clear c121
   try clear c122
   try clear c123
   try clear c124
   try clear c125
   try clear c127
   try clear c128
   try clear c129
   try clear c130
   try clear c131
   try clear c132
   try clear c133
   try clear c135
   try clear c136
   try clear c137
   try clear c138
   try clear c139
   try clear c140
   try clear c142
   try clear c143
   try clear c144
   try clear c145
   try clear c146
   try clear c148
   try clear c149
   try clear c150
   try clear c151
   try clear c152
   try clear c153
   try clear c154
   try clear c155
   try clear c157
   try clear c158
   try clear c159
   try clear c160
   try clear c161
   try clear c162
   try clear c163
   try clear jX
   try clear jY
   try clear iV
   try clear iW
   try clear iX
   try clear iY
   try clear iZ
   try clear i0
   try clear i7
   try clear i8
   try clear i9
   try clear ja
   try clear jb
   try clear jc
   try clear j3
   try clear j4
   try clear j7
   try clear j8
   try clear jj
   try clear jk
   try clear jl
   try clear jm
   try clear jn
   try clear jo
   try clear jv
   try clear jw
   try clear jx
   try clear jy
   try clear jz
   try clear jA
   try clear kb
   try clear kc
   try clear kf
   try clear kg
   try clear gE
   try clear gF
   try clear gJ
   try clear gK
   try clear gL
   try clear gM
   try clear gN
   try clear gO
   try clear gV
   try clear gW
   try clear gX
   try clear gY
   try clear gZ
   try clear g0
   try clear g8
   try clear g9
   try clear hh
   try clear hj
   try clear hn
   try clear ho
   try clear hp
   try clear hq
   try clear hr
   try clear hs
   try clear hz
   try clear hA
   try clear hB
   try clear hC
   try clear hD
   try clear hE
   try clear hM
   try clear hN
   try clear hT
   try clear hU
   try clear hY
   try clear hZ
   try clear h0
   try clear h2
   try clear h3
   try clear h4
   try clear ib
   try clear ic
   try clear ig
   try clear ih
   try clear ii
   try clear ij
   try clear ir
   try clear iu
   try clear ix
   try clear iy
   try clear iz
   try clear iA
   try clear iB
   try clear iC
   try clear iJ
   try clear iK
   try clear iL
   try clear iM
   try clear iN
   try clear iO
   try clear jT
   try clear jU
   try clear jZ
   try clear j2
   try clear i1
   try clear i2
   try clear i3
   try clear i4
   try clear i5
   try clear i6
   try clear jd
   try clear je
   try clear jf
   try clear jg
   try clear jh
   try clear ji
   try clear j5
   try clear j6
   try clear j9
   try clear ka
   try clear jp
   try clear jq
   try clear jr
   try clear js
   try clear jt
   try clear ju
   try clear jB
   try clear jC
   try clear jD
   try clear jE
   try clear jF
   try clear jG
   try clear kd
   try clear ke
   try clear kh
   try clear ki
   try clear gG
   try clear gH
   try clear gP
   try clear gQ
   try clear gR
   try clear gS
   try clear gT
   try clear gU
   try clear g1
   try clear g2
   try clear g3
   try clear g4
   try clear g5
   try clear g6
   try clear ha
   try clear hc
   try clear hl
   try clear hm
   try clear ht
   try clear hu
   try clear hv
   try clear hw
   try clear hx
   try clear hy
   try clear hF
   try clear hG
   try clear hH
   try clear hI
   try clear hJ
   try clear hK
   try clear hO
   try clear hQ
   try clear hV
   try clear hW
   try clear h5
   try clear h6
   try clear h7
   try clear h8
   try clear h9
   try clear ia
   try clear ik
   try clear il
   try clear im
   try clear io
   try clear ip
   try clear iq
   try clear iv
   try clear iw
   try clear iD
   try clear iE
   try clear iF
   try clear iG
   try clear iH
   try clear iI
   try clear iP
   try clear iQ
   try clear iR
   try clear iS
   try clear iT
   try clear iU
   try clear jV
   try clear jW
   obtain ⟨kq, jH, rfl, HA, gC, b6, dh, dj, dD, dE, dF, dG, dH, bc, bf, bh, bg, bi, bm, bq, bt, bT, HB⟩ := hcut
   cases kq with
   | zero => exact absurd HA.out (by simp [laws_FnMemory.j0])
   | succ kj9 =>
    have H := HA.out; clear HA; simp only [laws_FnMemory.j0] at H
    by_cases c165 : jH = true
    ·subst c165
     have H1 : (some false) = some r := by rw [if_pos rfl] at H; exact H
     clear H; have H := H1; clear H1; obtain rfl := Option.some.inj H; go_wp2
     repeat (go_quiet (fail); try go_wp2)
     go_ret
     exact ⟨er_, nbe HB⟩
    ·replace c165 := Bool.eq_false_iff.mpr c165
     subst c165; have H1 : (if dk = 0 then (laws_FnMemory.j1 kj9 bl b0 false bj br bM bN bO bP bL bQ bz bx bA bB bC bD bd bJ) else (laws_FnMemory.j1 kj9 bl b0 (!(da == 0) || (db || ((!(dc == 0) || (!(dd == 0) || (!(de == 0) || (!(df == 0)))))))) bj br bM bN bO bP bL bQ bz bx bA bB bC bD bd bJ)) = some r := by rw [if_neg (show ¬ (false = true) by decide)] at H; exact H
     clear H; have H := H1; clear H1; have kj := Aside0.mk H; clear H
     go_upto_region 11 with (fail)
     repeat (go_quiet (fail); go_upto_region 11 with (fail))
     go_cut [91] (fun oV wc => ∃ (kq : Nat) (jI : Bool), oV = .bool jI ∧ Aside0 (laws_FnMemory.j1 kq bl b0 jI bj br bM bN bO bP bL bQ bz bx bA bB bC bD bd bJ = some r) ∧ Aside0 (kq ≤ kj9) ∧ Aside0 (Kd.Q k36 36 wc w.heap.size (fun k_ => some k_ ≠ ((.slice b7 bd.length b1) : Value).ownBlock ∧ some k_ ≠ ((.slice b9 bR.length b3) : Value).ownBlock ∧ some k_ ≠ ((.slice b8 bU.length b4) : Value).ownBlock ∧ k_ ≠ bF ∧ k_ ≠ bG ∧ k_ ≠ bH ∧ k_ ≠ bI ∧ k_ ≠ bs) (.slice b2 bj.length bZ) bj) ∧ Aside0 (Kd.R Kd.bool 4 wc w.heap.size (fun k_ => some k_ ≠ ((.slice dl bJ.length dm) : Value).ownBlock ∧ some k_ ≠ ((.slice dp di.length dq) : Value).ownBlock ∧ some k_ ≠ ((.slice dx b5.length dr) : Value).ownBlock) (.slice dn br.length dg) br) ∧ Aside0 (Kd.Q k36 36 wc w.heap.size (fun k_ => some k_ ≠ ((.slice b2 bj.length bZ) : Value).ownBlock ∧ some k_ ≠ ((.slice b9 bR.length b3) : Value).ownBlock ∧ some k_ ≠ ((.slice b8 bU.length b4) : Value).ownBlock ∧ k_ ≠ bF ∧ k_ ≠ bG ∧ k_ ≠ bH ∧ k_ ≠ bI ∧ k_ ≠ bs) (.slice b7 bd.length b1) bd) ∧ Aside0 (Kd.R Kd.bool 4 wc w.heap.size (fun k_ => some k_ ≠ ((.slice dn br.length dg) : Value).ownBlock ∧ some k_ ≠ ((.slice dp di.length dq) : Value).ownBlock ∧ some k_ ≠ ((.slice dx b5.length dr) : Value).ownBlock) (.slice dl bJ.length dm) bJ) ∧ Aside0 (Kd.Q k36 36 wc w.heap.size (fun k_ => some k_ ≠ ((.slice b2 bj.length bZ) : Value).ownBlock ∧ some k_ ≠ ((.slice b7 bd.length b1) : Value).ownBlock ∧ some k_ ≠ ((.slice b8 bU.length b4) : Value).ownBlock ∧ k_ ≠ bF ∧ k_ ≠ bG ∧ k_ ≠ bH ∧ k_ ≠ bI ∧ k_ ≠ bs) (.slice b9 bR.length b3) bR) ∧ Aside0 (Kd.R Kd.bool 4 wc w.heap.size (fun k_ => some k_ ≠ ((.slice dn br.length dg) : Value).ownBlock ∧ some k_ ≠ ((.slice dl bJ.length dm) : Value).ownBlock ∧ some k_ ≠ ((.slice dx b5.length dr) : Value).ownBlock) (.slice dp di.length dq) di) ∧ Aside0 (Kd.Q k36 36 wc w.heap.size (fun k_ => some k_ ≠ ((.slice b2 bj.length bZ) : Value).ownBlock ∧ some k_ ≠ ((.slice b7 bd.length b1) : Value).ownBlock ∧ some k_ ≠ ((.slice b9 bR.length b3) : Value).ownBlock ∧ k_ ≠ bF ∧ k_ ≠ bG ∧ k_ ≠ bH ∧ k_ ≠ bI ∧ k_ ≠ bs) (.slice b8 bU.length b4) bU) ∧ Aside0 (Kd.R Kd.bool 4 wc w.heap.size (fun k_ => some k_ ≠ ((.slice dn br.length dg) : Value).ownBlock ∧ some k_ ≠ ((.slice dl bJ.length dm) : Value).ownBlock ∧ some k_ ≠ ((.slice dp di.length dq) : Value).ownBlock) (.slice dx b5.length dr) b5) ∧ Aside0 (wc.heap[e6]? = some (.cells #[(.slice b2 bj.length bZ), (.slice dn br.length dg)] 27 (0, 0))) ∧ Aside0 (wc.heap[bF]? = some (.cells #[.int .i64 bM, .bool bN, .int .i64 bO, .int .i64 bP, .int .i64 bL, .int .i64 bQ] 36 (0, 0))) ∧ Aside0 (wc.heap[bG]? = some (.cells #[.int .i64 bz, .bool bx, .int .i64 bA, .int .i64 bB, .int .i64 bC, .int .i64 bD] 36 (0, 0))) ∧ Aside0 (wc.heap[e7]? = some (.cells #[(.slice b7 bd.length b1), (.slice dl bJ.length dm)] 27 (0, 0))) ∧ Aside0 (wc.heap[e8]? = some (.cells #[(.slice b9 bR.length b3), (.slice dp di.length dq)] 27 (0, 0))) ∧ Aside0 (wc.heap[e9]? = some (.cells #[(.slice b8 bU.length b4), (.slice dx b5.length dr)] 27 (0, 0))) ∧ Aside0 (wc.heap[bH]? = some (.cells #[.int .i64 dI, .bool dJ, .int .i64 dK, .int .i64 dL, .int .i64 dM, .int .i64 dN] 36 (0, 0))) ∧ Aside0 (wc.heap[bI]? = some (.cells #[.int .i64 da, .bool db, .int .i64 dc, .int .i64 dd, .int .i64 de, .int .i64 df] 36 (0, 0))) ∧ Aside0 (wc.heap[bs]? = some (.cells #[.int .i64 er, .bool es, .int .i64 et, .int .i64 eu, .int .i64 ev, .int .i64 ew] 36 (0, 0))) ∧ Aside0 (Below w.heap.size w wc))
     case first =>
      have H := kj.out; clear kj
      by_cases c167 : dk = 0
      ·rw [if_pos c167] at H
       have c167b0 : (dk == 0) = true := beq_iff_eq.mpr c167; have c167b1 : (dk != 0) = false := bne_eq_false_iff_eq.mpr c167; clear c167; (first | rw [c167b0] | (simp only [i64_w, i32_w]; rw [c167b0]) | skip); have H' := Aside0.mk H; clear H; go_wp2
       repeat (go_quiet (fail); try go_wp2)
       go_meet
       case rel => exact ⟨_, (false), (by first | rfl | (simp; done) | (simp [*]; done)), H', ⟨by have := gC.out; first | omega | exact Nat.le_refl _⟩, ⟨by (with_reducible repeat (first | apply Kd.Q_alloc | apply Kd.Q_drewN | apply Kd.Q_drew)); exact b6.out⟩, ⟨by (with_reducible repeat (first | apply Kd.R_alloc | apply Kd.R_drewN | apply Kd.R_drew)); exact dh.out⟩, ⟨by (with_reducible repeat (first | apply Kd.Q_alloc | apply Kd.Q_drewN | apply Kd.Q_drew)); exact dj.out⟩, ⟨by (with_reducible repeat (first | apply Kd.R_alloc | apply Kd.R_drewN | apply Kd.R_drew)); exact dD.out⟩, ⟨by (with_reducible repeat (first | apply Kd.Q_alloc | apply Kd.Q_drewN | apply Kd.Q_drew)); exact dE.out⟩, ⟨by (with_reducible repeat (first | apply Kd.R_alloc | apply Kd.R_drewN | apply Kd.R_drew)); exact dF.out⟩, ⟨by (with_reducible repeat (first | apply Kd.Q_alloc | apply Kd.Q_drewN | apply Kd.Q_drew)); exact dG.out⟩, ⟨by (with_reducible repeat (first | apply Kd.R_alloc | apply Kd.R_drewN | apply Kd.R_drew)); exact dH.out⟩, ⟨nb bc⟩, ⟨nb bf⟩, ⟨nb bh⟩, ⟨nb bg⟩, ⟨nb bi⟩, ⟨nb bm⟩, ⟨nb bq⟩, ⟨nb bt⟩, ⟨nb bT⟩, ⟨nbe HB⟩⟩
      ·rw [if_neg c167] at H
       have c167b0 : (dk == 0) = false := beq_eq_false_iff_ne.mpr c167; have c167b1 : (dk != 0) = true := bne_iff_ne.mpr c167; (first | rw [c167b0] | (simp only [i64_w, i32_w]; rw [c167b0]) | skip); have H' := Aside0.mk H; clear H; have qL := d3.out; have qM := d2.out; have qN := el.out; have qO := ek.out; have qP := ea.out; have qQ := d9.out; have qR := dC.out; have qS := dB.out; have qT := eX.out; have qU := eW.out; have qV := ez.out; have qW := ey.out; have qX := eB.out; have qY := eA.out; have qZ := d8.out; have q0 := eE.out; obtain ⟨n4, n5, n6, n7, n8, n9⟩ := c6e bt; obtain ⟨oa, ob, oc, od, oe, og⟩ := z6_ bt; go_wp2
       repeat (go_quiet (fail); try go_wp2)
       go_meet
       case rel => exact ⟨_, ((!(da == 0) || (db || ((!(dc == 0) || (!(dd == 0) || (!(de == 0) || (!(df == 0))))))))), (by first | rfl | (simp; done) | (simp [*]; done)), H', ⟨by have := gC.out; first | omega | exact Nat.le_refl _⟩, ⟨by (with_reducible repeat (first | apply Kd.Q_alloc | apply Kd.Q_drewN | apply Kd.Q_drew)); exact b6.out⟩, ⟨by (with_reducible repeat (first | apply Kd.R_alloc | apply Kd.R_drewN | apply Kd.R_drew)); exact dh.out⟩, ⟨by (with_reducible repeat (first | apply Kd.Q_alloc | apply Kd.Q_drewN | apply Kd.Q_drew)); exact dj.out⟩, ⟨by (with_reducible repeat (first | apply Kd.R_alloc | apply Kd.R_drewN | apply Kd.R_drew)); exact dD.out⟩, ⟨by (with_reducible repeat (first | apply Kd.Q_alloc | apply Kd.Q_drewN | apply Kd.Q_drew)); exact dE.out⟩, ⟨by (with_reducible repeat (first | apply Kd.R_alloc | apply Kd.R_drewN | apply Kd.R_drew)); exact dF.out⟩, ⟨by (with_reducible repeat (first | apply Kd.Q_alloc | apply Kd.Q_drewN | apply Kd.Q_drew)); exact dG.out⟩, ⟨by (with_reducible repeat (first | apply Kd.R_alloc | apply Kd.R_drewN | apply Kd.R_drew)); exact dH.out⟩, ⟨nb bc⟩, ⟨nb bf⟩, ⟨nb bh⟩, ⟨nb bg⟩, ⟨nb bi⟩, ⟨nb bm⟩, ⟨nb bq⟩, ⟨nb bt⟩, ⟨nb bT⟩, ⟨nbe HB⟩⟩
     case rest =>
      clear kj; try clear c1
      try clear c2
      try clear p2
      try clear c3
      try clear c4
      try clear c5
      try clear c6
      try clear c7
      try clear c8
      try clear c9
      try clear c10
      try clear c11
      try clear c12
      try clear c13
      try clear c14
      try clear c15
      try clear c16
      try clear c17
      try clear c20
      try clear c26
      try clear c27
      try clear c28
      try clear c37
      try clear c38
      try clear c39
      try clear c40
      try clear c47
      try clear c48
      try clear c49
      try clear c50
      try clear c51
      try clear c52
      try clear c55
      try clear c56
      try clear c57
      try clear c58
      try clear c59
      try clear c63
      try clear c64
      try clear c65
      try clear c66
      try clear c67
      try clear c68
      try clear c69
      try clear c75
      try clear c76
      try clear c77
      try clear c78
      try clear c79
      try clear c80
      try clear c81
      try clear c82
      try clear c84
      try clear c84b0
      try clear c84b1
      try clear c86
      try clear c87
      try clear c87b0
      try clear c88
      try clear c89
      try clear c90
      try clear c91
      try clear c92
      try clear c93
      try clear c94
      try clear c95
      try clear c97
      try clear c98
      try clear c99
      try clear c100
      try clear c101
      try clear c102
      try clear c103
      try clear c105
      try clear c106
      try clear c107
      try clear c108
      try clear c109
      try clear c110
      try clear c112
      try clear c113
      try clear c114
      try clear c115
      try clear c116
      try clear c118
      try clear c119
      try clear c120
      try clear c121
      try clear c122
      try clear c123
      try clear c124
      try clear c125
      try clear c127
      try clear c128
      try clear c129
      try clear c130
      try clear c131
      try clear c132
      try clear c133
      try clear c135
      try clear c136
      try clear c137
      try clear c138
      try clear c139
      try clear c140
      try clear c142
      try clear c143
      try clear c144
      try clear c145
      try clear c146
      try clear c148
      try clear c149
      try clear c150
      try clear c151
      try clear c152
      try clear c153
      try clear c154
      try clear c155
      try clear c157
      try clear c158
      try clear c159
      try clear c160
      try clear c161
      try clear c162
      try clear c163
      try clear c165
      try clear c167
      try clear c167b0
      try clear c167b1
      try clear c168
      try clear c169
      try clear c170
      try clear c171
      try clear c172
      try clear c173
      try clear c174
      try clear c175
      try clear jX
      try clear jY
      try clear iV
      try clear iW
      try clear iX
      try clear iY
      try clear iZ
      try clear i0
      try clear i7
      try clear i8
      try clear i9
      try clear ja
      try clear jb
      try clear jc
      try clear j3
      try clear j4
      try clear j7
      try clear j8
      try clear jj
      try clear jk
      try clear jl
      try clear jm
      try clear jn
      try clear jo
      try clear jv
      try clear jw
      try clear jx
      try clear jy
      try clear jz
      try clear jA
      try clear kb
      try clear kc
      try clear kf
      try clear kg
      try clear n4
      try clear n5
      try clear n6
      try clear n7
      try clear n8
      try clear n9
      try clear gE
      try clear gF
      try clear gJ
      try clear gK
      try clear gL
      try clear gM
      try clear gN
      try clear gO
      try clear gV
      try clear gW
      try clear gX
      try clear gY
      try clear gZ
      try clear g0
      try clear g8
      try clear g9
      try clear hh
      try clear hj
      try clear hn
      try clear ho
      try clear hp
      try clear hq
      try clear hr
      try clear hs
      try clear hz
      try clear hA
      try clear hB
      try clear hC
      try clear hD
      try clear hE
      try clear hM
      try clear hN
      try clear hT
      try clear hU
      try clear hY
      try clear hZ
      try clear h0
      try clear h2
      try clear h3
      try clear h4
      try clear ib
      try clear ic
      try clear ig
      try clear ih
      try clear ii
      try clear ij
      try clear ir
      try clear iu
      try clear ix
      try clear iy
      try clear iz
      try clear iA
      try clear iB
      try clear iC
      try clear iJ
      try clear iK
      try clear iL
      try clear iM
      try clear iN
      try clear iO
      try clear jT
      try clear jU
      try clear jZ
      try clear j2
      try clear i1
      try clear i2
      try clear i3
      try clear i4
      try clear i5
      try clear i6
      try clear jd
      try clear je
      try clear jf
      try clear jg
      try clear jh
      try clear ji
      try clear j5
      try clear j6
      try clear j9
      try clear ka
      try clear jp
      try clear jq
      try clear jr
      try clear js
      try clear jt
      try clear ju
      try clear jB
      try clear jC
      try clear jD
      try clear jE
      try clear jF
      try clear jG
      try clear kd
      try clear ke
      try clear kh
      try clear ki
      try clear oa
      try clear ob
      try clear oc
      try clear od
      try clear oe
      try clear og
      try clear gG
      try clear gH
      try clear gP
      try clear gQ
      try clear gR
      try clear gS
      try clear gT
      try clear gU
      try clear g1
      try clear g2
      try clear g3
      try clear g4
      try clear g5
      try clear g6
      try clear ha
      try clear hc
      try clear hl
      try clear hm
      try clear ht
      try clear hu
      try clear hv
      try clear hw
      try clear hx
      try clear hy
      try clear hF
      try clear hG
      try clear hH
      try clear hI
      try clear hJ
      try clear hK
      try clear hO
      try clear hQ
      try clear hV
      try clear hW
      try clear h5
      try clear h6
      try clear h7
      try clear h8
      try clear h9
      try clear ia
      try clear ik
      try clear il
      try clear im
      try clear io
      try clear ip
      try clear iq
      try clear iv
      try clear iw
      try clear iD
      try clear iE
      try clear iF
      try clear iG
      try clear iH
      try clear iI
      try clear iP
      try clear iQ
      try clear iR
      try clear iS
      try clear iT
      try clear iU
      try clear jV
      try clear jW
      try clear p2
      obtain ⟨kq, jI, rfl, HA, jJ, b6, dh, dj, dD, dE, dF, dG, dH, bc, bf, bh, bg, bi, bm, bq, bt, bT, HB⟩ := hcut
      cases kq with
      | zero => exact absurd HA.out (by simp [laws_FnMemory.j1])
      | succ kj165 =>
       have H := HA.out; clear HA; simp only [laws_FnMemory.j1] at H
       by_cases c177 : jI = true
       ·subst c177
        have H1 : (some false) = some r := by rw [if_pos rfl] at H; exact H
        clear H; have H := H1; clear H1; obtain rfl := Option.some.inj H; go_wp2
        repeat (go_quiet (fail); try go_wp2)
        go_ret
        exact ⟨er_, nbe HB⟩
       ·replace c177 := Bool.eq_false_iff.mpr c177
        subst c177; have H1 : (if b0 = 0 then ((spec_MemoryOk.f kj165 bj br).bind fun gw => (if gw = true then (laws_FnMemory.l0 kj165 bl 0 bj br bM bN bO bP bL bQ bz bx bA bB bC bD bd bJ) else (some ((bd.length : Int) == 0)))) else (if (bd.length : Int) = 0 then (some true) else ((laws_sameWords.f kj165 bd bj).bind fun e5 => (some e5)))) = some r := by rw [if_neg (show ¬ (false = true) by decide)] at H; exact H
        clear H; have H := H1; clear H1
        by_cases c178 : b0 = 0
        ·rw [if_pos c178] at H
         have c178b0 : (b0 == 0) = true := beq_iff_eq.mpr c178; have c178b1 : (b0 != 0) = false := bne_eq_false_iff_eq.mpr c178; clear c178; replace H := Option.bind_eq_some_iff.mp H; obtain ⟨gw, A1790, H⟩ := H; replace H : (if gw = true then (laws_FnMemory.l0 kj165 bl 0 bj br bM bN bO bP bL bQ bz bx bA bB bC bD bd bJ) else (some ((bd.length : Int) == 0))) = some r := H; have A179 := Aside0.mk A1790; clear A1790
         by_cases c180 : gw = true
         ·subst c180
          have H1 : (laws_FnMemory.l0 kj165 bl 0 bj br bM bN bO bP bL bQ bz bx bA bB bC bD bd bJ) = some r := by rw [if_pos rfl] at H; exact H
          clear H; have H := H1; clear H1; have H' := Aside0.mk H; clear H; have q1 := ed.out; have q3 := dZ.out; have q4 := d5.out; have q5 := dA.out; have q7 := d0.out; have q8 := d1.out; have q9 := ei.out; have sa := ej.out; have sb := eQ.out; have sc := eR.out; have sd := eS.out; have se := eT.out; have sf := d2.out; have sg := d3.out; have sh := dy.out; have si := d6.out; obtain ⟨oW, oX⟩ := c2e bc; obtain ⟨oY, oZ⟩ := z2_ bc
          go_wp2_with (first | (go_at_call 13; (with_reducible refine (spec_MemoryOk.calls kj165 _ _ bj _ _ br true _ ?side1 ?side2 ?side3 ?side4 A179.out).mono ?_); (case side1 => repeat (first | exact (Kd.Q_reads' b6.out).2.2 | (with_reducible refine Kd.C_alloc ?_ _) | (with_reducible refine Kd.C_drewN ?_ _) | (with_reducible refine Kd.C_drew ?_))); (case side2 => exact (Kd.Q_reads' b6.out).2.1); (case side3 => repeat (first | exact (Kd.R_reads' dh.out).2.2 | (with_reducible refine Kd.C_alloc ?_ _) | (with_reducible refine Kd.C_drewN ?_ _) | (with_reducible refine Kd.C_drew ?_))); (case side4 => exact (Kd.R_reads' dh.out).2.1); rintro e oh ⟨rfl, hb⟩; replace b6 := nQ b6 hb; replace dh := nR dh hb; replace dj := nQ dj hb; replace dD := nR dD hb; replace dE := nQ dE hb; replace dF := nR dF hb; replace dG := nQ dG hb; replace dH := nR dH hb; replace bc := nblk bc hb; replace bf := nblk bf hb; replace bh := nblk bh hb; replace bg := nblk bg hb; replace bi := nblk bi hb; replace bm := nblk bm hb; replace bq := nblk bq hb; replace bt := nblk bt hb; replace bT := nblk bT hb; replace HB := nbs HB hb; (try clear hb)))
          repeat (go_quiet (first | (go_at_call 13; (with_reducible refine (spec_MemoryOk.calls kj165 _ _ bj _ _ br true _ ?side1 ?side2 ?side3 ?side4 A179.out).mono ?_); (case side1 => repeat (first | exact (Kd.Q_reads' b6.out).2.2 | (with_reducible refine Kd.C_alloc ?_ _) | (with_reducible refine Kd.C_drewN ?_ _) | (with_reducible refine Kd.C_drew ?_))); (case side2 => exact (Kd.Q_reads' b6.out).2.1); (case side3 => repeat (first | exact (Kd.R_reads' dh.out).2.2 | (with_reducible refine Kd.C_alloc ?_ _) | (with_reducible refine Kd.C_drewN ?_ _) | (with_reducible refine Kd.C_drew ?_))); (case side4 => exact (Kd.R_reads' dh.out).2.1); rintro e oh ⟨rfl, hb⟩; replace b6 := nQ b6 hb; replace dh := nR dh hb; replace dj := nQ dj hb; replace dD := nR dD hb; replace dE := nQ dE hb; replace dF := nR dF hb; replace dG := nQ dG hb; replace dH := nR dH hb; replace bc := nblk bc hb; replace bf := nblk bf hb; replace bh := nblk bh hb; replace bg := nblk bg hb; replace bi := nblk bi hb; replace bm := nblk bm hb; replace bq := nblk bq hb; replace bt := nblk bt hb; replace bT := nblk bT hb; replace HB := nbs HB hb; (try clear hb))); try go_wp2_with (first | (go_at_call 13; (with_reducible refine (spec_MemoryOk.calls kj165 _ _ bj _ _ br true _ ?side1 ?side2 ?side3 ?side4 A179.out).mono ?_); (case side1 => repeat (first | exact (Kd.Q_reads' b6.out).2.2 | (with_reducible refine Kd.C_alloc ?_ _) | (with_reducible refine Kd.C_drewN ?_ _) | (with_reducible refine Kd.C_drew ?_))); (case side2 => exact (Kd.Q_reads' b6.out).2.1); (case side3 => repeat (first | exact (Kd.R_reads' dh.out).2.2 | (with_reducible refine Kd.C_alloc ?_ _) | (with_reducible refine Kd.C_drewN ?_ _) | (with_reducible refine Kd.C_drew ?_))); (case side4 => exact (Kd.R_reads' dh.out).2.1); rintro e oh ⟨rfl, hb⟩; replace b6 := nQ b6 hb; replace dh := nR dh hb; replace dj := nQ dj hb; replace dD := nR dD hb; replace dE := nQ dE hb; replace dF := nR dF hb; replace dG := nQ dG hb; replace dH := nR dH hb; replace bc := nblk bc hb; replace bf := nblk bf hb; replace bh := nblk bh hb; replace bg := nblk bg hb; replace bi := nblk bi hb; replace bm := nblk bm hb; replace bq := nblk bq hb; replace bt := nblk bt hb; replace bT := nblk bT hb; replace HB := nbs HB hb; (try clear hb))))
          go_loopg [18] kj165 (fun kq o0 w' => ∃ (bK : Int), o0 = .int .i64 bK ∧ Aside0 (laws_FnMemory.l0 kq bl bK bj br bM bN bO bP bL bQ bz bx bA bB bC bD bd bJ = some r) ∧ Aside0 (kq ≤ kj165) ∧ Aside0 (Kd.Q k36 36 w' w.heap.size (fun k_ => some k_ ≠ ((.slice b7 bd.length b1) : Value).ownBlock ∧ some k_ ≠ ((.slice b9 bR.length b3) : Value).ownBlock ∧ some k_ ≠ ((.slice b8 bU.length b4) : Value).ownBlock ∧ k_ ≠ bF ∧ k_ ≠ bG ∧ k_ ≠ bH ∧ k_ ≠ bI ∧ k_ ≠ bs) (.slice b2 bj.length bZ) bj) ∧ Aside0 (Kd.R Kd.bool 4 w' w.heap.size (fun k_ => some k_ ≠ ((.slice dl bJ.length dm) : Value).ownBlock ∧ some k_ ≠ ((.slice dp di.length dq) : Value).ownBlock ∧ some k_ ≠ ((.slice dx b5.length dr) : Value).ownBlock) (.slice dn br.length dg) br) ∧ Aside0 (Kd.Q k36 36 w' w.heap.size (fun k_ => some k_ ≠ ((.slice b2 bj.length bZ) : Value).ownBlock ∧ some k_ ≠ ((.slice b9 bR.length b3) : Value).ownBlock ∧ some k_ ≠ ((.slice b8 bU.length b4) : Value).ownBlock ∧ k_ ≠ bF ∧ k_ ≠ bG ∧ k_ ≠ bH ∧ k_ ≠ bI ∧ k_ ≠ bs) (.slice b7 bd.length b1) bd) ∧ Aside0 (Kd.R Kd.bool 4 w' w.heap.size (fun k_ => some k_ ≠ ((.slice dn br.length dg) : Value).ownBlock ∧ some k_ ≠ ((.slice dp di.length dq) : Value).ownBlock ∧ some k_ ≠ ((.slice dx b5.length dr) : Value).ownBlock) (.slice dl bJ.length dm) bJ) ∧ Aside0 (Kd.Q k36 36 w' w.heap.size (fun k_ => some k_ ≠ ((.slice b2 bj.length bZ) : Value).ownBlock ∧ some k_ ≠ ((.slice b7 bd.length b1) : Value).ownBlock ∧ some k_ ≠ ((.slice b8 bU.length b4) : Value).ownBlock ∧ k_ ≠ bF ∧ k_ ≠ bG ∧ k_ ≠ bH ∧ k_ ≠ bI ∧ k_ ≠ bs) (.slice b9 bR.length b3) bR) ∧ Aside0 (Kd.R Kd.bool 4 w' w.heap.size (fun k_ => some k_ ≠ ((.slice dn br.length dg) : Value).ownBlock ∧ some k_ ≠ ((.slice dl bJ.length dm) : Value).ownBlock ∧ some k_ ≠ ((.slice dx b5.length dr) : Value).ownBlock) (.slice dp di.length dq) di) ∧ Aside0 (Kd.Q k36 36 w' w.heap.size (fun k_ => some k_ ≠ ((.slice b2 bj.length bZ) : Value).ownBlock ∧ some k_ ≠ ((.slice b7 bd.length b1) : Value).ownBlock ∧ some k_ ≠ ((.slice b9 bR.length b3) : Value).ownBlock ∧ k_ ≠ bF ∧ k_ ≠ bG ∧ k_ ≠ bH ∧ k_ ≠ bI ∧ k_ ≠ bs) (.slice b8 bU.length b4) bU) ∧ Aside0 (Kd.R Kd.bool 4 w' w.heap.size (fun k_ => some k_ ≠ ((.slice dn br.length dg) : Value).ownBlock ∧ some k_ ≠ ((.slice dl bJ.length dm) : Value).ownBlock ∧ some k_ ≠ ((.slice dp di.length dq) : Value).ownBlock) (.slice dx b5.length dr) b5) ∧ Aside0 (w'.heap[e6]? = some (.cells #[(.slice b2 bj.length bZ), (.slice dn br.length dg)] 27 (0, 0))) ∧ Aside0 (w'.heap[bF]? = some (.cells #[.int .i64 bM, .bool bN, .int .i64 bO, .int .i64 bP, .int .i64 bL, .int .i64 bQ] 36 (0, 0))) ∧ Aside0 (w'.heap[bG]? = some (.cells #[.int .i64 bz, .bool bx, .int .i64 bA, .int .i64 bB, .int .i64 bC, .int .i64 bD] 36 (0, 0))) ∧ Aside0 (w'.heap[e7]? = some (.cells #[(.slice b7 bd.length b1), (.slice dl bJ.length dm)] 27 (0, 0))) ∧ Aside0 (w'.heap[e8]? = some (.cells #[(.slice b9 bR.length b3), (.slice dp di.length dq)] 27 (0, 0))) ∧ Aside0 (w'.heap[e9]? = some (.cells #[(.slice b8 bU.length b4), (.slice dx b5.length dr)] 27 (0, 0))) ∧ Aside0 (w'.heap[bH]? = some (.cells #[.int .i64 dI, .bool dJ, .int .i64 dK, .int .i64 dL, .int .i64 dM, .int .i64 dN] 36 (0, 0))) ∧ Aside0 (w'.heap[bI]? = some (.cells #[.int .i64 da, .bool db, .int .i64 dc, .int .i64 dd, .int .i64 de, .int .i64 df] 36 (0, 0))) ∧ Aside0 (w'.heap[bs]? = some (.cells #[.int .i64 er, .bool es, .int .i64 et, .int .i64 eu, .int .i64 ev, .int .i64 ew] 36 (0, 0))) ∧ Aside0 (Below w.heap.size w w'))
          case atStart => exact ⟨(0), (by first | rfl | (simp; done) | (simp [*]; done)), H', ⟨Nat.le_refl _⟩, ⟨by (with_reducible repeat (first | apply Kd.Q_alloc | apply Kd.Q_drewN | apply Kd.Q_drew)); exact b6.out⟩, ⟨by (with_reducible repeat (first | apply Kd.R_alloc | apply Kd.R_drewN | apply Kd.R_drew)); exact dh.out⟩, ⟨by (with_reducible repeat (first | apply Kd.Q_alloc | apply Kd.Q_drewN | apply Kd.Q_drew)); exact dj.out⟩, ⟨by (with_reducible repeat (first | apply Kd.R_alloc | apply Kd.R_drewN | apply Kd.R_drew)); exact dD.out⟩, ⟨by (with_reducible repeat (first | apply Kd.Q_alloc | apply Kd.Q_drewN | apply Kd.Q_drew)); exact dE.out⟩, ⟨by (with_reducible repeat (first | apply Kd.R_alloc | apply Kd.R_drewN | apply Kd.R_drew)); exact dF.out⟩, ⟨by (with_reducible repeat (first | apply Kd.Q_alloc | apply Kd.Q_drewN | apply Kd.Q_drew)); exact dG.out⟩, ⟨by (with_reducible repeat (first | apply Kd.R_alloc | apply Kd.R_drewN | apply Kd.R_drew)); exact dH.out⟩, ⟨nb bc⟩, ⟨nb bf⟩, ⟨nb bh⟩, ⟨nb bg⟩, ⟨nb bi⟩, ⟨nb bm⟩, ⟨nb bq⟩, ⟨nb bt⟩, ⟨nb bT⟩, ⟨nbe HB⟩⟩
          case round =>
           clear H'; try clear c1
           try clear c2
           try clear p2
           try clear c3
           try clear c4
           try clear c5
           try clear c6
           try clear c7
           try clear c8
           try clear c9
           try clear c10
           try clear c11
           try clear c12
           try clear c13
           try clear c14
           try clear c15
           try clear c16
           try clear c17
           try clear c18
           try clear c20
           try clear c26
           try clear c27
           try clear c28
           try clear c37
           try clear c38
           try clear c39
           try clear c40
           try clear c47
           try clear c48
           try clear c49
           try clear c50
           try clear c51
           try clear c52
           try clear c55
           try clear c56
           try clear c57
           try clear c58
           try clear c59
           try clear c63
           try clear c64
           try clear c65
           try clear c66
           try clear c67
           try clear c68
           try clear c69
           try clear c75
           try clear c76
           try clear c77
           try clear c78
           try clear c79
           try clear c80
           try clear c81
           try clear c82
           try clear c84
           try clear c84b0
           try clear c84b1
           try clear c86
           try clear c87
           try clear c87b0
           try clear c88
           try clear c89
           try clear c90
           try clear c91
           try clear c92
           try clear c93
           try clear c94
           try clear c95
           try clear c97
           try clear c98
           try clear c99
           try clear c100
           try clear c101
           try clear c102
           try clear c103
           try clear c105
           try clear c106
           try clear c107
           try clear c108
           try clear c109
           try clear c110
           try clear c112
           try clear c113
           try clear c114
           try clear c115
           try clear c116
           try clear c118
           try clear c119
           try clear c120
           try clear c121
           try clear c122
           try clear c123
           try clear c124
           try clear c125
           try clear c127
           try clear c128
           try clear c129
           try clear c130
           try clear c131
           try clear c132
           try clear c133
           try clear c135
           try clear c136
           try clear c137
           try clear c138
           try clear c139
           try clear c140
           try clear c142
           try clear c143
           try clear c144
           try clear c145
           try clear c146
           try clear c148
           try clear c149
           try clear c150
           try clear c151
           try clear c152
           try clear c153
           try clear c154
           try clear c155
           try clear c157
           try clear c158
           try clear c159
           try clear c160
           try clear c161
           try clear c162
           try clear c163
           try clear c165
           try clear c167
           try clear c167b0
           try clear c167b1
           try clear c168
           try clear c169
           try clear c170
           try clear c171
           try clear c172
           try clear c173
           try clear c174
           try clear c175
           try clear c177
           try clear c178
           try clear c178b0
           try clear c178b1
           try clear c180
           try clear c181
           try clear c182
           try clear c183
           try clear c184
           try clear c185
           try clear c186
           try clear c187
           try clear c188
           try clear jX
           try clear jY
           try clear iV
           try clear iW
           try clear iX
           try clear iY
           try clear iZ
           try clear i0
           try clear i7
           try clear i8
           try clear i9
           try clear ja
           try clear jb
           try clear jc
           try clear j3
           try clear j4
           try clear j7
           try clear j8
           try clear jj
           try clear jk
           try clear jl
           try clear jm
           try clear jn
           try clear jo
           try clear jv
           try clear jw
           try clear jx
           try clear jy
           try clear jz
           try clear jA
           try clear kb
           try clear kc
           try clear kf
           try clear kg
           try clear n4
           try clear n5
           try clear n6
           try clear n7
           try clear n8
           try clear n9
           try clear oW
           try clear oX
           try clear gE
           try clear gF
           try clear gJ
           try clear gK
           try clear gL
           try clear gM
           try clear gN
           try clear gO
           try clear gV
           try clear gW
           try clear gX
           try clear gY
           try clear gZ
           try clear g0
           try clear g8
           try clear g9
           try clear hh
           try clear hj
           try clear hn
           try clear ho
           try clear hp
           try clear hq
           try clear hr
           try clear hs
           try clear hz
           try clear hA
           try clear hB
           try clear hC
           try clear hD
           try clear hE
           try clear hM
           try clear hN
           try clear hT
           try clear hU
           try clear hY
           try clear hZ
           try clear h0
           try clear h2
           try clear h3
           try clear h4
           try clear ib
           try clear ic
           try clear ig
           try clear ih
           try clear ii
           try clear ij
           try clear ir
           try clear iu
           try clear ix
           try clear iy
           try clear iz
           try clear iA
           try clear iB
           try clear iC
           try clear iJ
           try clear iK
           try clear iL
           try clear iM
           try clear iN
           try clear iO
           try clear jT
           try clear jU
           try clear jZ
           try clear j2
           try clear i1
           try clear i2
           try clear i3
           try clear i4
           try clear i5
           try clear i6
           try clear jd
           try clear je
           try clear jf
           try clear jg
           try clear jh
           try clear ji
           try clear j5
           try clear j6
           try clear j9
           try clear ka
           try clear jp
           try clear jq
           try clear jr
           try clear js
           try clear jt
           try clear ju
           try clear jB
           try clear jC
           try clear jD
           try clear jE
           try clear jF
           try clear jG
           try clear kd
           try clear ke
           try clear kh
           try clear ki
           try clear oa
           try clear ob
           try clear oc
           try clear od
           try clear oe
           try clear og
           try clear oY
           try clear oZ
           try clear gG
           try clear gH
           try clear gP
           try clear gQ
           try clear gR
           try clear gS
           try clear gT
           try clear gU
           try clear g1
           try clear g2
           try clear g3
           try clear g4
           try clear g5
           try clear g6
           try clear ha
           try clear hc
           try clear hl
           try clear hm
           try clear ht
           try clear hu
           try clear hv
           try clear hw
           try clear hx
           try clear hy
           try clear hF
           try clear hG
           try clear hH
           try clear hI
           try clear hJ
           try clear hK
           try clear hO
           try clear hQ
           try clear hV
           try clear hW
           try clear h5
           try clear h6
           try clear h7
           try clear h8
           try clear h9
           try clear ia
           try clear ik
           try clear il
           try clear im
           try clear io
           try clear ip
           try clear iq
           try clear iv
           try clear iw
           try clear iD
           try clear iE
           try clear iF
           try clear iG
           try clear iH
           try clear iI
           try clear iP
           try clear iQ
           try clear iR
           try clear iS
           try clear iT
           try clear iU
           try clear jV
           try clear jW
           try clear p2
           obtain ⟨bK, rfl, HA, jK, b6, dh, dj, dD, dE, dF, dG, dH, bc, bf, bh, bg, bi, bm, bq, bt, bT, HB⟩ := hrel
           cases gk with
           | zero => exact absurd HA.out (by simp [laws_FnMemory.l0])
           | succ k3 =>
            have H := HA.out; clear HA; simp only [laws_FnMemory.l0] at H
            by_cases c191 : bK < 24
            ·rw [if_pos c191] at H
             have c191b0 : decide (bK < 24) = true := decide_eq_true c191; clear c191
             by_cases c192 : bK = bl
             ·rw [if_pos c192] at H
              have c192b0 : (bK == bl) = true := beq_iff_eq.mpr c192; have c192b1 : (bK != bl) = false := bne_eq_false_iff_eq.mpr c192; clear c192; have H' := Aside0.mk H; clear H; go_wp2
              repeat (go_quiet (fail); try go_wp2)
              go_roundg k3
              case measure => have := gC.out; have := jJ.out; have := jK.out; omega
              case rel => exact ⟨(wrap64 (bK + 1)), (by first | rfl | (simp; done) | (simp [*]; done)), H', ⟨by have := gC.out; have := jJ.out; have := jK.out; omega⟩, ⟨by (with_reducible repeat (first | apply Kd.Q_alloc | apply Kd.Q_drewN | apply Kd.Q_drew)); exact b6.out⟩, ⟨by (with_reducible repeat (first | apply Kd.R_alloc | apply Kd.R_drewN | apply Kd.R_drew)); exact dh.out⟩, ⟨by (with_reducible repeat (first | apply Kd.Q_alloc | apply Kd.Q_drewN | apply Kd.Q_drew)); exact dj.out⟩, ⟨by (with_reducible repeat (first | apply Kd.R_alloc | apply Kd.R_drewN | apply Kd.R_drew)); exact dD.out⟩, ⟨by (with_reducible repeat (first | apply Kd.Q_alloc | apply Kd.Q_drewN | apply Kd.Q_drew)); exact dE.out⟩, ⟨by (with_reducible repeat (first | apply Kd.R_alloc | apply Kd.R_drewN | apply Kd.R_drew)); exact dF.out⟩, ⟨by (with_reducible repeat (first | apply Kd.Q_alloc | apply Kd.Q_drewN | apply Kd.Q_drew)); exact dG.out⟩, ⟨by (with_reducible repeat (first | apply Kd.R_alloc | apply Kd.R_drewN | apply Kd.R_drew)); exact dH.out⟩, ⟨nb bc⟩, ⟨nb bf⟩, ⟨nb bh⟩, ⟨nb bg⟩, ⟨nb bi⟩, ⟨nb bm⟩, ⟨nb bq⟩, ⟨nb bt⟩, ⟨nb bT⟩, ⟨nbe HB⟩⟩
             ·rw [if_neg c192] at H
              have c192b0 : (bK == bl) = false := beq_eq_false_iff_ne.mpr c192; have c192b1 : (bK != bl) = true := bne_iff_ne.mpr c192
              by_cases c193 : 0 ≤ bK
              ·rw [if_pos c193] at H
               have c193b0 : decide (0 ≤ bK) = true := decide_eq_true c193; clear c193
               by_cases c194 : bK < (bd.length : Int)
               ·rw [if_pos c194] at H
                have c194b0 : decide (bK < (bd.length : Int)) = true := decide_eq_true c194; clear c194
                by_cases c195 : bK < (bj.length : Int)
                ·rw [if_pos c195] at H
                 have c195b0 : decide (bK < (bj.length : Int)) = true := decide_eq_true c195; clear c195
                 by_cases c196 : (!(((rd_T36 bd bK).f0) == ((rd_T36 bj bK).f0)) || (!(((rd_T36 bd bK).f1) == ((rd_T36 bj bK).f1)) || ((!(((rd_T36 bd bK).f2.f0) == ((rd_T36 bj bK).f2.f0)) || (!(((rd_T36 bd bK).f2.f1) == ((rd_T36 bj bK).f2.f1)) || (!(((rd_T36 bd bK).f2.f2) == ((rd_T36 bj bK).f2.f2)) || (!(((rd_T36 bd bK).f2.f3) == ((rd_T36 bj bK).f2.f3))))))))) = true
                 ·rw [if_pos c196] at H
                  have c196b0 : (!(((rd_T36 bd bK).f0) == ((rd_T36 bj bK).f0)) || (!(((rd_T36 bd bK).f1) == ((rd_T36 bj bK).f1)) || ((!(((rd_T36 bd bK).f2.f0) == ((rd_T36 bj bK).f2.f0)) || (!(((rd_T36 bd bK).f2.f1) == ((rd_T36 bj bK).f2.f1)) || (!(((rd_T36 bd bK).f2.f2) == ((rd_T36 bj bK).f2.f2)) || (!(((rd_T36 bd bK).f2.f3) == ((rd_T36 bj bK).f2.f3))))))))) = true := c196; clear c196; obtain rfl := Option.some.inj H; have sj := d1.out; have sk := d0.out; have sl := dO.out; have sm := dv.out; have sn := dP.out; have sp := dw.out; have sq := dQ.out; have sr := dR.out; have ss := dS.out; have st := dT.out; have su := dU.out; have sv := dV.out; have sw := dB.out; have sx := dC.out; have sy := du.out; have sz := dX.out; obtain ⟨sA, sB⟩ := c2e bg; obtain ⟨sC, sD⟩ := z2_ bg; have p719 : 0 ≤ (bK : Int) := of_decide_eq_true (by first | (with_reducible assumption) | assumption); have q719 : bK < (bd.length : Int) := of_decide_eq_true (by first | (with_reducible assumption) | assumption); obtain ⟨o1, e719, o2, o3, o4, o5, o6, o7⟩ := at_T36 (Kd.Q_reads' dj.out).2.2 bK p719 q719
                  cases e719
                  replace p719 := eq_true p719; replace q719 := eq_true q719; have sE := ed.out; have sF := dZ.out; have sG := d5.out; have sH := dA.out; have sI := ei.out; have sJ := ej.out; have sK := eQ.out; have sL := eR.out; have sM := eS.out; have sN := eT.out; have sO := d2.out; have sP := d3.out; have sQ := dy.out; have sR := d6.out; obtain ⟨sS, sT⟩ := c2e bc; obtain ⟨sU, sV⟩ := z2_ bc; have p720 : 0 ≤ (bK : Int) := of_decide_eq_true (by first | (with_reducible assumption) | assumption); have q720 : bK < (bj.length : Int) := of_decide_eq_true (by first | (with_reducible assumption) | assumption); obtain ⟨o8, e720, o9, pa, pb, pc, pd, pe⟩ := at_T36 (Kd.Q_reads' b6.out).2.2 bK p720 q720
                  cases e720
                  replace p720 := eq_true p720; replace q720 := eq_true q720; go_wp2
                  repeat (go_quiet (fail); try go_wp2)
                  go_ret
                  exact ⟨er_, nbe HB⟩
                 ·rw [if_neg c196] at H
                  have c196b0 : (!(((rd_T36 bd bK).f0) == ((rd_T36 bj bK).f0)) || (!(((rd_T36 bd bK).f1) == ((rd_T36 bj bK).f1)) || ((!(((rd_T36 bd bK).f2.f0) == ((rd_T36 bj bK).f2.f0)) || (!(((rd_T36 bd bK).f2.f1) == ((rd_T36 bj bK).f2.f1)) || (!(((rd_T36 bd bK).f2.f2) == ((rd_T36 bj bK).f2.f2)) || (!(((rd_T36 bd bK).f2.f3) == ((rd_T36 bj bK).f2.f3))))))))) = false := by simpa using c196
                  clear c196; have H' := Aside0.mk H; clear H; have sW := d1.out; have sX := d0.out; have sY := dO.out; have sZ := dv.out; have s0 := dP.out; have s1 := dw.out; have s2 := dQ.out; have s3 := dR.out; have s4 := dS.out; have s5 := dT.out; have s6 := dU.out; have s7 := dV.out; have s8 := dB.out; have s9 := dC.out; have ua := du.out; have ub := dX.out; obtain ⟨uc, ud⟩ := c2e bg; obtain ⟨ue, uf⟩ := z2_ bg; have p719 : 0 ≤ (bK : Int) := of_decide_eq_true (by first | (with_reducible assumption) | assumption); have q719 : bK < (bd.length : Int) := of_decide_eq_true (by first | (with_reducible assumption) | assumption); obtain ⟨o1, e719, o2, o3, o4, o5, o6, o7⟩ := at_T36 (Kd.Q_reads' dj.out).2.2 bK p719 q719
                  cases e719
                  replace p719 := eq_true p719; replace q719 := eq_true q719; have ug := ed.out; have uh := dZ.out; have ui := d5.out; have uj := dA.out; have uk := ei.out; have ul := ej.out; have um := eQ.out; have un := eR.out; have uo := eS.out; have uq := eT.out; have ur := d2.out; have ut := d3.out; have uu := dy.out; have uv := d6.out; obtain ⟨uw, ux⟩ := c2e bc; obtain ⟨uy, uz⟩ := z2_ bc; have p720 : 0 ≤ (bK : Int) := of_decide_eq_true (by first | (with_reducible assumption) | assumption); have q720 : bK < (bj.length : Int) := of_decide_eq_true (by first | (with_reducible assumption) | assumption); obtain ⟨o8, e720, o9, pa, pb, pc, pd, pe⟩ := at_T36 (Kd.Q_reads' b6.out).2.2 bK p720 q720
                  cases e720
                  replace p720 := eq_true p720; replace q720 := eq_true q720; go_wp2
                  repeat (go_quiet (fail); try go_wp2)
                  go_roundg k3
                  case measure => have := gC.out; have := jJ.out; have := jK.out; omega
                  case rel => exact ⟨(wrap64 (bK + 1)), (by first | rfl | (simp; done) | (simp [*]; done)), H', ⟨by have := gC.out; have := jJ.out; have := jK.out; omega⟩, ⟨by (with_reducible repeat (first | apply Kd.Q_alloc | apply Kd.Q_drewN | apply Kd.Q_drew)); exact b6.out⟩, ⟨by (with_reducible repeat (first | apply Kd.R_alloc | apply Kd.R_drewN | apply Kd.R_drew)); exact dh.out⟩, ⟨by (with_reducible repeat (first | apply Kd.Q_alloc | apply Kd.Q_drewN | apply Kd.Q_drew)); exact dj.out⟩, ⟨by (with_reducible repeat (first | apply Kd.R_alloc | apply Kd.R_drewN | apply Kd.R_drew)); exact dD.out⟩, ⟨by (with_reducible repeat (first | apply Kd.Q_alloc | apply Kd.Q_drewN | apply Kd.Q_drew)); exact dE.out⟩, ⟨by (with_reducible repeat (first | apply Kd.R_alloc | apply Kd.R_drewN | apply Kd.R_drew)); exact dF.out⟩, ⟨by (with_reducible repeat (first | apply Kd.Q_alloc | apply Kd.Q_drewN | apply Kd.Q_drew)); exact dG.out⟩, ⟨by (with_reducible repeat (first | apply Kd.R_alloc | apply Kd.R_drewN | apply Kd.R_drew)); exact dH.out⟩, ⟨nb bc⟩, ⟨nb bf⟩, ⟨nb bh⟩, ⟨nb bg⟩, ⟨nb bi⟩, ⟨nb bm⟩, ⟨nb bq⟩, ⟨nb bt⟩, ⟨nb bT⟩, ⟨nbe HB⟩⟩
                ·rw [if_neg c195] at H
                 exact absurd H (by simp)
               ·rw [if_neg c194] at H
                exact absurd H (by simp)
              ·rw [if_neg c193] at H
               exact absurd H (by simp)
            ·rw [if_neg c191] at H
             have c191b0 : decide (bK < 24) = false := decide_eq_false c191; clear c191
             by_cases c231 : 0 ≤ bl
             ·rw [if_pos c231] at H
              have c231b0 : decide (0 ≤ bl) = true := decide_eq_true c231; clear c231
              by_cases c232 : bl < (bd.length : Int)
              ·rw [if_pos c232] at H
               have c232b0 : decide (bl < (bd.length : Int)) = true := decide_eq_true c232; clear c232
               by_cases c233 : (((rd_T36 bd bl).f0) == bz && (((rd_T36 bd bl).f1) == bx && ((((rd_T36 bd bl).f2.f0) == bA && (((rd_T36 bd bl).f2.f1) == bB && (((rd_T36 bd bl).f2.f2) == bC && (((rd_T36 bd bl).f2.f3) == bD))))))) = true
               ·rw [if_pos c233] at H
                have c233b0 : (((rd_T36 bd bl).f0) == bz && (((rd_T36 bd bl).f1) == bx && ((((rd_T36 bd bl).f2.f0) == bA && (((rd_T36 bd bl).f2.f1) == bB && (((rd_T36 bd bl).f2.f2) == bC && (((rd_T36 bd bl).f2.f3) == bD))))))) = true := c233; (try (have c233b1 : decide (((rd_T36 bd bl).f0) = bz && (((rd_T36 bd bl).f1) == bx && ((((rd_T36 bd bl).f2.f0) == bA && (((rd_T36 bd bl).f2.f1) == bB && (((rd_T36 bd bl).f2.f2) == bC && (((rd_T36 bd bl).f2.f3) == bD))))))) = true := by simpa using c233)); (try (have c233b2 : (((rd_T36 bd bl).f0) == bz && (((rd_T36 bd bl).f1) == bx && ((((rd_T36 bd bl).f2.f0) == bA && (((rd_T36 bd bl).f2.f1) == bB && (((rd_T36 bd bl).f2.f2) == bC && (((rd_T36 bd bl).f2.f3) == bD))))))) = true := by simpa using c233)); clear c233
                by_cases c234 : bx = true
                ·subst c234; (try simp only [beq_true, beq_false] at c233b0)
                 have H1 : (some ((Go.bits .and .i64 bL 16) != 0)) = some r := by rw [if_pos rfl] at H; exact H
                 clear H; have H := H1; clear H1; obtain rfl := Option.some.inj H; have uA := d1.out; have uB := d0.out; have uC := dO.out; have uD := dv.out; have uE := dP.out; have uF := dw.out; have uG := dQ.out; have uH := dR.out; have uI := dS.out; have uJ := dT.out; have uK := dU.out; have uL := dV.out; have uM := dB.out; have uN := dC.out; have uO := du.out; have uP := dX.out; obtain ⟨uQ, uR⟩ := c2e bg; obtain ⟨uS, uT⟩ := z2_ bg; have p721 : 0 ≤ (bl : Int) := of_decide_eq_true (by first | (with_reducible assumption) | assumption); have q721 : bl < (bd.length : Int) := of_decide_eq_true (by first | (with_reducible assumption) | assumption); obtain ⟨oi, e721, oj, ol, om, oo, op, oq⟩ := at_T36 (Kd.Q_reads' dj.out).2.2 bl p721 q721
                 cases e721
                 replace p721 := eq_true p721; replace q721 := eq_true q721; have uU := dA.out; have uV := d5.out; have uW := ef.out; have uX := ee.out; have uY := eg.out; have uZ := eN.out; have u0 := ga.out; have u1 := gb.out; have u2 := gf.out; have u3 := gg.out; have u4 := d9.out; have u5 := ea.out; have u6 := dW.out; have u7 := eh.out; obtain ⟨u9, va, vb, vc, vd, ve⟩ := c6e bh; obtain ⟨vf, vg, vh, vi, vj, vk⟩ := z6_ bh; have vl := dZ.out; have vm := ed.out; have vn := ex.out; have vo := eV.out; have vp := gy.out; have vq := gz.out; have vr := gA.out; have vs := gB.out; have vt := ek.out; have vu := el.out; have vv := d7.out; have vw := eC.out; obtain ⟨vx, vy, vz, vA, vB, vC⟩ := c6e bf; obtain ⟨vD, vE, vF, vG, vH, vI⟩ := z6_ bf; go_wp2
                 repeat (go_quiet (fail); try go_wp2)
                 go_ret
                 exact ⟨er_, nbe HB⟩
                ·replace c234 := Bool.eq_false_iff.mpr c234
                 subst c234; (try simp only [beq_true, beq_false] at c233b0); have H1 : (some true) = some r := by rw [if_neg (show ¬ (false = true) by decide)] at H; exact H
                 clear H; have H := H1; clear H1; obtain rfl := Option.some.inj H; have vJ := d1.out; have vK := d0.out; have vL := dO.out; have vM := dv.out; have vN := dP.out; have vO := dw.out; have vP := dQ.out; have vQ := dR.out; have vR := dS.out; have vS := dT.out; have vT := dU.out; have vU := dV.out; have vV := dB.out; have vW := dC.out; have vX := du.out; have vY := dX.out; obtain ⟨vZ, v0⟩ := c2e bg; obtain ⟨v1, v2⟩ := z2_ bg; have p721 : 0 ≤ (bl : Int) := of_decide_eq_true (by first | (with_reducible assumption) | assumption); have q721 : bl < (bd.length : Int) := of_decide_eq_true (by first | (with_reducible assumption) | assumption); obtain ⟨oi, e721, oj, ol, om, oo, op, oq⟩ := at_T36 (Kd.Q_reads' dj.out).2.2 bl p721 q721
                 cases e721
                 replace p721 := eq_true p721; replace q721 := eq_true q721; have v3 := dA.out; have v4 := d5.out; have v5 := ef.out; have v6 := ee.out; have v7 := eg.out; have v8 := eN.out; have v9 := ga.out; have ya := gb.out; have yb := gf.out; have yc := gg.out; have yd := d9.out; have ye := ea.out; have yf := dW.out; have yg := eh.out; obtain ⟨yh, yi, yj, yk, yl, ym⟩ := c6e bh; obtain ⟨yn, yo, yp, yq, yr, ys⟩ := z6_ bh; go_wp2
                 repeat (go_quiet (fail); try go_wp2)
                 go_ret
                 exact ⟨er_, nbe HB⟩
               ·rw [if_neg c233] at H
                have c233b0 : (((rd_T36 bd bl).f0) == bz && (((rd_T36 bd bl).f1) == bx && ((((rd_T36 bd bl).f2.f0) == bA && (((rd_T36 bd bl).f2.f1) == bB && (((rd_T36 bd bl).f2.f2) == bC && (((rd_T36 bd bl).f2.f3) == bD))))))) = false := by simpa using c233
                (try (have c233b1 : decide (((rd_T36 bd bl).f0) = bz && (((rd_T36 bd bl).f1) == bx && ((((rd_T36 bd bl).f2.f0) == bA && (((rd_T36 bd bl).f2.f1) == bB && (((rd_T36 bd bl).f2.f2) == bC && (((rd_T36 bd bl).f2.f3) == bD))))))) = false := by simpa using c233)); (try (have c233b2 : (((rd_T36 bd bl).f0) == bz && (((rd_T36 bd bl).f1) == bx && ((((rd_T36 bd bl).f2.f0) == bA && (((rd_T36 bd bl).f2.f1) == bB && (((rd_T36 bd bl).f2.f2) == bC && (((rd_T36 bd bl).f2.f3) == bD))))))) = false := by simpa using c233)); (try (have c233b3 : ¬ (((rd_T36 bd bl).f0) = bz && (((rd_T36 bd bl).f1) == bx && ((((rd_T36 bd bl).f2.f0) == bA && (((rd_T36 bd bl).f2.f1) == bB && (((rd_T36 bd bl).f2.f2) == bC && (((rd_T36 bd bl).f2.f3) == bD))))))) := by simpa using c233)); clear c233; obtain rfl := Option.some.inj H; have yt := d1.out; have yu := d0.out; have yv := dO.out; have yw := dv.out; have yx := dP.out; have yy := dw.out; have yz := dQ.out; have yA := dR.out; have yB := dS.out; have yC := dT.out; have yD := dU.out; have yE := dV.out; have yF := dB.out; have yG := dC.out; have yH := du.out; have yI := dX.out; obtain ⟨yJ, yK⟩ := c2e bg; obtain ⟨yL, yM⟩ := z2_ bg; have p721 : 0 ≤ (bl : Int) := of_decide_eq_true (by first | (with_reducible assumption) | assumption); have q721 : bl < (bd.length : Int) := of_decide_eq_true (by first | (with_reducible assumption) | assumption); obtain ⟨oi, e721, oj, ol, om, oo, op, oq⟩ := at_T36 (Kd.Q_reads' dj.out).2.2 bl p721 q721
                cases e721
                replace p721 := eq_true p721; replace q721 := eq_true q721; have yN := dA.out; have yO := d5.out; have yP := ef.out; have yQ := ee.out; have yR := eg.out; have yS := eN.out; have yT := ga.out; have yU := gb.out; have yV := gf.out; have yW := gg.out; have yX := d9.out; have yY := ea.out; have yZ := dW.out; have za := eh.out; obtain ⟨zb, zc, zd, ze, zf, zg⟩ := c6e bh; obtain ⟨zh, zi, zj, zk, zl, zm⟩ := z6_ bh; go_wp2
                repeat (go_quiet (fail); try go_wp2)
                go_ret
                exact ⟨er_, nbe HB⟩
              ·rw [if_neg c232] at H
               exact absurd H (by simp)
             ·rw [if_neg c231] at H
              exact absurd H (by simp)
         ·replace c180 := Bool.eq_false_iff.mpr c180
          subst c180; have H1 : (some ((bd.length : Int) == 0)) = some r := by rw [if_neg (show ¬ (false = true) by decide)] at H; exact H
          clear H; have H := H1; clear H1; obtain rfl := Option.some.inj H; have zn := ed.out; have zo := dZ.out; have zp := d5.out; have zq := dA.out; have zr := d0.out; have zs := d1.out; have zt := ei.out; have zu := ej.out; have zv := eQ.out; have zw := eR.out; have zx := eS.out; have zy := eT.out; have zz := d2.out; have zA := d3.out; have zB := dy.out; have zC := d6.out; obtain ⟨zD, zE⟩ := c2e bc; obtain ⟨zF, zG⟩ := z2_ bc
          go_wp2_with (first | (go_at_call 13; (with_reducible refine (spec_MemoryOk.calls kj165 _ _ bj _ _ br false _ ?side1 ?side2 ?side3 ?side4 A179.out).mono ?_); (case side1 => repeat (first | exact (Kd.Q_reads' b6.out).2.2 | (with_reducible refine Kd.C_alloc ?_ _) | (with_reducible refine Kd.C_drewN ?_ _) | (with_reducible refine Kd.C_drew ?_))); (case side2 => exact (Kd.Q_reads' b6.out).2.1); (case side3 => repeat (first | exact (Kd.R_reads' dh.out).2.2 | (with_reducible refine Kd.C_alloc ?_ _) | (with_reducible refine Kd.C_drewN ?_ _) | (with_reducible refine Kd.C_drew ?_))); (case side4 => exact (Kd.R_reads' dh.out).2.1); rintro e os ⟨rfl, hb⟩; replace b6 := nQ b6 hb; replace dh := nR dh hb; replace dj := nQ dj hb; replace dD := nR dD hb; replace dE := nQ dE hb; replace dF := nR dF hb; replace dG := nQ dG hb; replace dH := nR dH hb; replace bc := nblk bc hb; replace bf := nblk bf hb; replace bh := nblk bh hb; replace bg := nblk bg hb; replace bi := nblk bi hb; replace bm := nblk bm hb; replace bq := nblk bq hb; replace bt := nblk bt hb; replace bT := nblk bT hb; replace HB := nbs HB hb; (try clear hb); have ot := dO.out; have ou := dv.out; have ov := dP.out; have ow := dw.out; have ox := dQ.out; have oy := dR.out; have oz := dS.out; have oA := dT.out; have oB := dU.out; have oC := dV.out; have oD := dB.out; have oE := dC.out; have oF := du.out; have oG := dX.out; obtain ⟨oH, oI⟩ := c2e bg; obtain ⟨oJ, oK⟩ := z2_ bg))
          repeat (go_quiet (first | (go_at_call 13; (with_reducible refine (spec_MemoryOk.calls kj165 _ _ bj _ _ br false _ ?side1 ?side2 ?side3 ?side4 A179.out).mono ?_); (case side1 => repeat (first | exact (Kd.Q_reads' b6.out).2.2 | (with_reducible refine Kd.C_alloc ?_ _) | (with_reducible refine Kd.C_drewN ?_ _) | (with_reducible refine Kd.C_drew ?_))); (case side2 => exact (Kd.Q_reads' b6.out).2.1); (case side3 => repeat (first | exact (Kd.R_reads' dh.out).2.2 | (with_reducible refine Kd.C_alloc ?_ _) | (with_reducible refine Kd.C_drewN ?_ _) | (with_reducible refine Kd.C_drew ?_))); (case side4 => exact (Kd.R_reads' dh.out).2.1); rintro e os ⟨rfl, hb⟩; replace b6 := nQ b6 hb; replace dh := nR dh hb; replace dj := nQ dj hb; replace dD := nR dD hb; replace dE := nQ dE hb; replace dF := nR dF hb; replace dG := nQ dG hb; replace dH := nR dH hb; replace bc := nblk bc hb; replace bf := nblk bf hb; replace bh := nblk bh hb; replace bg := nblk bg hb; replace bi := nblk bi hb; replace bm := nblk bm hb; replace bq := nblk bq hb; replace bt := nblk bt hb; replace bT := nblk bT hb; replace HB := nbs HB hb; (try clear hb); have ot := dO.out; have ou := dv.out; have ov := dP.out; have ow := dw.out; have ox := dQ.out; have oy := dR.out; have oz := dS.out; have oA := dT.out; have oB := dU.out; have oC := dV.out; have oD := dB.out; have oE := dC.out; have oF := du.out; have oG := dX.out; obtain ⟨oH, oI⟩ := c2e bg; obtain ⟨oJ, oK⟩ := z2_ bg)); try go_wp2_with (first | (go_at_call 13; (with_reducible refine (spec_MemoryOk.calls kj165 _ _ bj _ _ br false _ ?side1 ?side2 ?side3 ?side4 A179.out).mono ?_); (case side1 => repeat (first | exact (Kd.Q_reads' b6.out).2.2 | (with_reducible refine Kd.C_alloc ?_ _) | (with_reducible refine Kd.C_drewN ?_ _) | (with_reducible refine Kd.C_drew ?_))); (case side2 => exact (Kd.Q_reads' b6.out).2.1); (case side3 => repeat (first | exact (Kd.R_reads' dh.out).2.2 | (with_reducible refine Kd.C_alloc ?_ _) | (with_reducible refine Kd.C_drewN ?_ _) | (with_reducible refine Kd.C_drew ?_))); (case side4 => exact (Kd.R_reads' dh.out).2.1); rintro e os ⟨rfl, hb⟩; replace b6 := nQ b6 hb; replace dh := nR dh hb; replace dj := nQ dj hb; replace dD := nR dD hb; replace dE := nQ dE hb; replace dF := nR dF hb; replace dG := nQ dG hb; replace dH := nR dH hb; replace bc := nblk bc hb; replace bf := nblk bf hb; replace bh := nblk bh hb; replace bg := nblk bg hb; replace bi := nblk bi hb; replace bm := nblk bm hb; replace bq := nblk bq hb; replace bt := nblk bt hb; replace bT := nblk bT hb; replace HB := nbs HB hb; (try clear hb); have ot := dO.out; have ou := dv.out; have ov := dP.out; have ow := dw.out; have ox := dQ.out; have oy := dR.out; have oz := dS.out; have oA := dT.out; have oB := dU.out; have oC := dV.out; have oD := dB.out; have oE := dC.out; have oF := du.out; have oG := dX.out; obtain ⟨oH, oI⟩ := c2e bg; obtain ⟨oJ, oK⟩ := z2_ bg)))
          go_ret
          exact ⟨er_, nbe HB⟩
        ·rw [if_neg c178] at H
         have c178b0 : (b0 == 0) = false := beq_eq_false_iff_ne.mpr c178; have c178b1 : (b0 != 0) = true := bne_iff_ne.mpr c178
         by_cases c311 : (bd.length : Int) = 0
         ·rw [if_pos c311] at H
          have c311b0 : ((bd.length : Int) == 0) = true := beq_iff_eq.mpr c311; have c311b1 : ((bd.length : Int) != 0) = false := bne_eq_false_iff_eq.mpr c311; clear c311; obtain rfl := Option.some.inj H; have zH := d1.out; have zI := d0.out; have zJ := dO.out; have zK := dv.out; have zL := dP.out; have zM := dw.out; have zN := dQ.out; have zO := dR.out; have zP := dS.out; have zQ := dT.out; have zR := dU.out; have zS := dV.out; have zT := dB.out; have zU := dC.out; have zV := du.out; have zW := dX.out; obtain ⟨zX, zY⟩ := c2e bg; obtain ⟨zZ, z1⟩ := z2_ bg; go_wp2
          repeat (go_quiet (fail); try go_wp2)
          go_ret
          exact ⟨er_, nbe HB⟩
         ·rw [if_neg c311] at H
          have c311b0 : ((bd.length : Int) == 0) = false := beq_eq_false_iff_ne.mpr c311; have c311b1 : ((bd.length : Int) != 0) = true := bne_iff_ne.mpr c311; have c311b2 : ¬ (bd = []) := fun h_ => c311 (by rw [h_]; rfl)
          replace H := Option.bind_eq_some_iff.mp H; obtain ⟨e5, A3210, H⟩ := H; replace H : (some e5) = some r := H; have A321 := Aside0.mk A3210; clear A3210; obtain rfl := Option.some.inj H; have z2 := d1.out; have z3 := d0.out; have z4 := dO.out; have z5 := dv.out; have z6 := dP.out; have z7 := dw.out; have z8 := dQ.out; have z9 := dR.out; have Ba := dS.out; have Bb := dT.out; have Bc := dU.out; have Bd := dV.out; have Be := dB.out; have Bf := dC.out; have Bg := du.out; have Bh := dX.out; obtain ⟨Bi, Bj⟩ := c2e bg; obtain ⟨Bk, Bl⟩ := z2_ bg; have Bm := ed.out; have Bn := dZ.out; have Bo := d5.out; have Bp := dA.out; have Bq := ei.out; have Br := ej.out; have Bs := eQ.out; have Bt := eR.out; have Bu := eS.out; have Bv := eT.out; have Bw := d2.out; have Bx := d3.out; have By := dy.out; have Bz := d6.out; obtain ⟨BA, BB⟩ := c2e bc; obtain ⟨BC, BD⟩ := z2_ bc
          go_wp2_with (first | (go_at_call 11; (with_reducible refine (laws_sameWords.calls kj165 _ _ bd _ _ bj e5 _ ?side1 ?side2 ?side3 ?side4 A321.out).mono ?_); (case side1 => repeat (first | exact (Kd.Q_reads' dj.out).2.2 | (with_reducible refine Kd.C_alloc ?_ _) | (with_reducible refine Kd.C_drewN ?_ _) | (with_reducible refine Kd.C_drew ?_))); (case side2 => exact (Kd.Q_reads' dj.out).2.1); (case side3 => repeat (first | exact (Kd.Q_reads' b6.out).2.2 | (with_reducible refine Kd.C_alloc ?_ _) | (with_reducible refine Kd.C_drewN ?_ _) | (with_reducible refine Kd.C_drew ?_))); (case side4 => exact (Kd.Q_reads' b6.out).2.1); rintro e w' ⟨rfl, ⟨nd, rfl⟩⟩; (try first | exact ⟨rfl, _, World.drewN_drewN _ _ _⟩ | exact ⟨rfl, _, Eq.trans (World.drewN_drewN _ _ _) (congrArg (World.drewN _) (Nat.add_assoc _ _ _))⟩)))
          repeat (go_quiet (first | (go_at_call 11; (with_reducible refine (laws_sameWords.calls kj165 _ _ bd _ _ bj e5 _ ?side1 ?side2 ?side3 ?side4 A321.out).mono ?_); (case side1 => repeat (first | exact (Kd.Q_reads' dj.out).2.2 | (with_reducible refine Kd.C_alloc ?_ _) | (with_reducible refine Kd.C_drewN ?_ _) | (with_reducible refine Kd.C_drew ?_))); (case side2 => exact (Kd.Q_reads' dj.out).2.1); (case side3 => repeat (first | exact (Kd.Q_reads' b6.out).2.2 | (with_reducible refine Kd.C_alloc ?_ _) | (with_reducible refine Kd.C_drewN ?_ _) | (with_reducible refine Kd.C_drew ?_))); (case side4 => exact (Kd.Q_reads' b6.out).2.1); rintro e w' ⟨rfl, ⟨nd, rfl⟩⟩; (try first | exact ⟨rfl, _, World.drewN_drewN _ _ _⟩ | exact ⟨rfl, _, Eq.trans (World.drewN_drewN _ _ _) (congrArg (World.drewN _) (Nat.add_assoc _ _ _))⟩))); try go_wp2_with (first | (go_at_call 11; (with_reducible refine (laws_sameWords.calls kj165 _ _ bd _ _ bj e5 _ ?side1 ?side2 ?side3 ?side4 A321.out).mono ?_); (case side1 => repeat (first | exact (Kd.Q_reads' dj.out).2.2 | (with_reducible refine Kd.C_alloc ?_ _) | (with_reducible refine Kd.C_drewN ?_ _) | (with_reducible refine Kd.C_drew ?_))); (case side2 => exact (Kd.Q_reads' dj.out).2.1); (case side3 => repeat (first | exact (Kd.Q_reads' b6.out).2.2 | (with_reducible refine Kd.C_alloc ?_ _) | (with_reducible refine Kd.C_drewN ?_ _) | (with_reducible refine Kd.C_drew ?_))); (case side4 => exact (Kd.Q_reads' b6.out).2.1); rintro e w' ⟨rfl, ⟨nd, rfl⟩⟩; (try first | exact ⟨rfl, _, World.drewN_drewN _ _ _⟩ | exact ⟨rfl, _, Eq.trans (World.drewN_drewN _ _ _) (congrArg (World.drewN _) (Nat.add_assoc _ _ _))⟩))))
          go_ret
          exact ⟨er_, nbe HB⟩

/-- THE ONE PURE STATEMENT of laws_FnMemory: yours. -/
def laws_FnMemory.Pure : Prop := ∀ (l0 : List Int), l0.length ≤ maxLen → l0.length * 1 ≤ 140737488351232 → (∀ x ∈ l0, (Lit.int .u8 x).wf = true) → ∃ k, laws_FnMemory.f k l0 = some true
theorem laws_FnMemory.walk (P : laws_FnMemory.Pure) (a0 : Option Addr) (len0 cap0 : Nat) (z0 : List Int) (w : World) (w0 : (a0 = none ∧ len0 = 0 ∧ cap0 = 0 ∧ z0 = []) ∨ ∃ x, a0 = some x ∧ len0 ≤ cap0 ∧ cap0 ≤ maxLen ∧ z0.length = cap0 ∧ (∀ i, i < z0.length → w.cell? (x.add i) = some (.int .u8 (z0.getD i 0))) ∧ ∀ n ∈ z0, (Lit.int .u8 n).wf = true) (y0 : len0 * 1 ≤ 140737488351232) :
  Calls Try.prog 4 #[.slice a0 len0 cap0] w fun e w' => e = .returned (.bool true) ∧ Below w.heap.size w w' := by
 obtain ⟨l0, rfl, hr0, hm0, pf, hc0⟩ := ReadsInt.ofRowC w0; obtain ⟨k, h⟩ := P l0 hm0 y0 pf; refine (laws_FnMemory.calls k _ _ l0 true w (Kd.C_of_reads (d := (0 : Int)) (h1 := fun _ => rfl) hr0) hc0 h).mono ?_; rintro e w' ⟨rfl, hd⟩; exact ⟨rfl, hd⟩

end Go.Proofs.Ytednioabjiabiaa.PFnMemory
