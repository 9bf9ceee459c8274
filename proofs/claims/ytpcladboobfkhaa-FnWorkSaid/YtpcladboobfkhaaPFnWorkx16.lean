-- Written by a program of this session (wip/patch.py turns a copy of the kit's print): the functions that the law reaches, and their walks.
import Derived.Test.YtpcladboobfkhaaPFnWorkx0
import Derived.Test.YtpcladboobfkhaaPFnWorkx11
import Derived.Test.YtpcladboobfkhaaPFnWorkx12
import Derived.Test.YtpcladboobfkhaaPFnWorkx14
import Derived.Test.YtpcladboobfkhaaPFnWorkx15
import Derived.Test.YtpcladboobfkhaaCFnWork
import Derived.Test.YtpcladboobfkhaaEFnWork
import Derived.Test.YtpcladboobfkhaaPFnWorkx41
namespace Go.Proofs.Ytpcladboobfkhaa.PFnWork
open Go.RowKit Go.Proofs.YtpcladboobfkhaaW.PrintWords Go.Proofs.YtpcladboobfkhaaW.PrintLast Go.Proofs.YtpcladboobfkhaaW.PrintMore Go.Proofs.YtpcladboobfkhaaW.Mine
attribute [local go_sem] dsc dhs dha ddr ddrN ddz ddc nn2 nn3 nn4 nn5 nn6 nn7 nn8 nn9
attribute [local go_sem] max2_int min2_int max_two min_two max_three min_three max_four min_four   -- for this text's walks alone
set_option linter.unusedVariables false
set_option linter.unusedSimpArgs false

/-! ### impl_Work: function 6 -/
def impl_Work.f (k : Nat) (a0_0 : Int) (a0_1 : Int) (a0_2 : Int) (a0_3 : Int) (a0_4 : Int) (a1_0 : Int) (a1_1 : Bool) (a1_2 : Int) (a1_3 : Int) (a1_4 : Int) (a1_5 : Int) (a2_0 : Int) (a2_1 : Bool) (a2_2 : Int) (a2_3 : Int) (a2_4 : Int) (a2_5 : Int) (a3_0 : Int) (a3_1 : Bool) (a3_2 : Int) (a3_3 : Int) (a3_4 : Int) (a3_5 : Int) (a4_0 : Int) (a4_1 : Bool) (a4_2 : Int) (a4_3 : Int) (a4_4 : Int) (a4_5 : Int) : Option (Int × Int × Int × Bool × Int × Int × Int × Int × Int × Bool × Int × Int × Int × Int × Int × Int × Bool × Int × Int × Int × Int × Int) := (impl_Point.f k a1_0 a1_1 a1_2 a1_3 a1_4 a1_5 (wrap64 (a1_0 + 1))).bind fun bu => (if a0_0 = 11 then (if 0 = 0 then (some (0, (-1), 0, false, 0, 0, 0, 0, bu.1, bu.2.1, bu.2.2.1, bu.2.2.2.1, bu.2.2.2.2.1, bu.2.2.2.2.2, wrap64 (a2_0 + a0_4), a3_0, a3_1, a3_2, a3_3, a3_4, a3_5, (-1))) else ((impl_trapped.f 0 a1_0 a1_1 a1_2 a1_3 a1_4 a1_5).bind fun bA => (some (bA.1, bA.2.1, bA.2.2.1, bA.2.2.2.1, bA.2.2.2.2.1, bA.2.2.2.2.2.1, bA.2.2.2.2.2.2.1, bA.2.2.2.2.2.2.2.1, bA.2.2.2.2.2.2.2.2.1, bA.2.2.2.2.2.2.2.2.2.1, bA.2.2.2.2.2.2.2.2.2.2.1, bA.2.2.2.2.2.2.2.2.2.2.2.1, bA.2.2.2.2.2.2.2.2.2.2.2.2.1, bA.2.2.2.2.2.2.2.2.2.2.2.2.2.1, bA.2.2.2.2.2.2.2.2.2.2.2.2.2.2.1, bA.2.2.2.2.2.2.2.2.2.2.2.2.2.2.2.1, bA.2.2.2.2.2.2.2.2.2.2.2.2.2.2.2.2.1, bA.2.2.2.2.2.2.2.2.2.2.2.2.2.2.2.2.2.1, bA.2.2.2.2.2.2.2.2.2.2.2.2.2.2.2.2.2.2.1, bA.2.2.2.2.2.2.2.2.2.2.2.2.2.2.2.2.2.2.2.1, bA.2.2.2.2.2.2.2.2.2.2.2.2.2.2.2.2.2.2.2.2.1, bA.2.2.2.2.2.2.2.2.2.2.2.2.2.2.2.2.2.2.2.2.2)))) else (if a0_0 = 12 then ((impl_Try.f k a2_0 a2_1 a2_2 a2_3 a2_4 a2_5 a2_0 4).bind fun bN => (if bN = 0 then (some (bN, a0_1, bu.1, bu.2.1, bu.2.2.1, bu.2.2.2.1, bu.2.2.2.2.1, bu.2.2.2.2.2, a2_0, a2_1, a2_2, a2_3, a2_4, a2_5, (-1), 0, false, 0, 0, 0, 0, (-1))) else ((impl_trapped.f bN a1_0 a1_1 a1_2 a1_3 a1_4 a1_5).bind fun bv => (some (bv.1, bv.2.1, bv.2.2.1, bv.2.2.2.1, bv.2.2.2.2.1, bv.2.2.2.2.2.1, bv.2.2.2.2.2.2.1, bv.2.2.2.2.2.2.2.1, bv.2.2.2.2.2.2.2.2.1, bv.2.2.2.2.2.2.2.2.2.1, bv.2.2.2.2.2.2.2.2.2.2.1, bv.2.2.2.2.2.2.2.2.2.2.2.1, bv.2.2.2.2.2.2.2.2.2.2.2.2.1, bv.2.2.2.2.2.2.2.2.2.2.2.2.2.1, bv.2.2.2.2.2.2.2.2.2.2.2.2.2.2.1, bv.2.2.2.2.2.2.2.2.2.2.2.2.2.2.2.1, bv.2.2.2.2.2.2.2.2.2.2.2.2.2.2.2.2.1, bv.2.2.2.2.2.2.2.2.2.2.2.2.2.2.2.2.2.1, bv.2.2.2.2.2.2.2.2.2.2.2.2.2.2.2.2.2.2.1, bv.2.2.2.2.2.2.2.2.2.2.2.2.2.2.2.2.2.2.2.1, bv.2.2.2.2.2.2.2.2.2.2.2.2.2.2.2.2.2.2.2.2.1, bv.2.2.2.2.2.2.2.2.2.2.2.2.2.2.2.2.2.2.2.2.2))))) else (if a0_0 = 13 then (if a2_0 = 0 then ((impl_Point.f k a1_0 a1_1 a1_2 a1_3 a1_4 a1_5 (wrap64 (a1_0 + a0_4))).bind fun dq => (if 0 = 0 then (some (0, (-1), 0, false, 0, 0, 0, 0, dq.1, dq.2.1, dq.2.2.1, dq.2.2.2.1, dq.2.2.2.2.1, dq.2.2.2.2.2, (-1), 0, false, 0, 0, 0, 0, (-1))) else ((impl_trapped.f 0 a1_0 a1_1 a1_2 a1_3 a1_4 a1_5).bind fun bw => (some (bw.1, bw.2.1, bw.2.2.1, bw.2.2.2.1, bw.2.2.2.2.1, bw.2.2.2.2.2.1, bw.2.2.2.2.2.2.1, bw.2.2.2.2.2.2.2.1, bw.2.2.2.2.2.2.2.2.1, bw.2.2.2.2.2.2.2.2.2.1, bw.2.2.2.2.2.2.2.2.2.2.1, bw.2.2.2.2.2.2.2.2.2.2.2.1, bw.2.2.2.2.2.2.2.2.2.2.2.2.1, bw.2.2.2.2.2.2.2.2.2.2.2.2.2.1, bw.2.2.2.2.2.2.2.2.2.2.2.2.2.2.1, bw.2.2.2.2.2.2.2.2.2.2.2.2.2.2.2.1, bw.2.2.2.2.2.2.2.2.2.2.2.2.2.2.2.2.1, bw.2.2.2.2.2.2.2.2.2.2.2.2.2.2.2.2.2.1, bw.2.2.2.2.2.2.2.2.2.2.2.2.2.2.2.2.2.2.1, bw.2.2.2.2.2.2.2.2.2.2.2.2.2.2.2.2.2.2.2.1, bw.2.2.2.2.2.2.2.2.2.2.2.2.2.2.2.2.2.2.2.2.1, bw.2.2.2.2.2.2.2.2.2.2.2.2.2.2.2.2.2.2.2.2.2))))) else (if 0 = 0 then (some (0, (-1), 0, false, 0, 0, 0, 0, bu.1, bu.2.1, bu.2.2.1, bu.2.2.2.1, bu.2.2.2.2.1, bu.2.2.2.2.2, (-1), 0, false, 0, 0, 0, 0, (-1))) else ((impl_trapped.f 0 a1_0 a1_1 a1_2 a1_3 a1_4 a1_5).bind fun bB => (some (bB.1, bB.2.1, bB.2.2.1, bB.2.2.2.1, bB.2.2.2.2.1, bB.2.2.2.2.2.1, bB.2.2.2.2.2.2.1, bB.2.2.2.2.2.2.2.1, bB.2.2.2.2.2.2.2.2.1, bB.2.2.2.2.2.2.2.2.2.1, bB.2.2.2.2.2.2.2.2.2.2.1, bB.2.2.2.2.2.2.2.2.2.2.2.1, bB.2.2.2.2.2.2.2.2.2.2.2.2.1, bB.2.2.2.2.2.2.2.2.2.2.2.2.2.1, bB.2.2.2.2.2.2.2.2.2.2.2.2.2.2.1, bB.2.2.2.2.2.2.2.2.2.2.2.2.2.2.2.1, bB.2.2.2.2.2.2.2.2.2.2.2.2.2.2.2.2.1, bB.2.2.2.2.2.2.2.2.2.2.2.2.2.2.2.2.2.1, bB.2.2.2.2.2.2.2.2.2.2.2.2.2.2.2.2.2.2.1, bB.2.2.2.2.2.2.2.2.2.2.2.2.2.2.2.2.2.2.2.1, bB.2.2.2.2.2.2.2.2.2.2.2.2.2.2.2.2.2.2.2.2.1, bB.2.2.2.2.2.2.2.2.2.2.2.2.2.2.2.2.2.2.2.2.2))))) else (if a0_0 = 14 then ((impl_Try.f k a2_0 a2_1 a2_2 a2_3 a2_4 a2_5 a2_0 32).bind fun dj => (if dj = 0 then (some (dj, (-1), 0, false, 0, 0, 0, 0, bu.1, bu.2.1, bu.2.2.1, bu.2.2.2.1, bu.2.2.2.2.1, bu.2.2.2.2.2, (-1), 0, false, 0, 0, 0, 0, a2_2)) else ((impl_trapped.f dj a1_0 a1_1 a1_2 a1_3 a1_4 a1_5).bind fun bx => (some (bx.1, bx.2.1, bx.2.2.1, bx.2.2.2.1, bx.2.2.2.2.1, bx.2.2.2.2.2.1, bx.2.2.2.2.2.2.1, bx.2.2.2.2.2.2.2.1, bx.2.2.2.2.2.2.2.2.1, bx.2.2.2.2.2.2.2.2.2.1, bx.2.2.2.2.2.2.2.2.2.2.1, bx.2.2.2.2.2.2.2.2.2.2.2.1, bx.2.2.2.2.2.2.2.2.2.2.2.2.1, bx.2.2.2.2.2.2.2.2.2.2.2.2.2.1, bx.2.2.2.2.2.2.2.2.2.2.2.2.2.2.1, bx.2.2.2.2.2.2.2.2.2.2.2.2.2.2.2.1, bx.2.2.2.2.2.2.2.2.2.2.2.2.2.2.2.2.1, bx.2.2.2.2.2.2.2.2.2.2.2.2.2.2.2.2.2.1, bx.2.2.2.2.2.2.2.2.2.2.2.2.2.2.2.2.2.2.1, bx.2.2.2.2.2.2.2.2.2.2.2.2.2.2.2.2.2.2.2.1, bx.2.2.2.2.2.2.2.2.2.2.2.2.2.2.2.2.2.2.2.2.1, bx.2.2.2.2.2.2.2.2.2.2.2.2.2.2.2.2.2.2.2.2.2))))) else (if a0_0 = 15 then (if 5 = 0 then (some (5, (-1), 0, false, 0, 0, 0, 0, bu.1, bu.2.1, bu.2.2.1, bu.2.2.2.1, bu.2.2.2.2.1, bu.2.2.2.2.2, (-1), 0, false, 0, 0, 0, 0, (-1))) else ((impl_trapped.f 5 a1_0 a1_1 a1_2 a1_3 a1_4 a1_5).bind fun bC => (some (bC.1, bC.2.1, bC.2.2.1, bC.2.2.2.1, bC.2.2.2.2.1, bC.2.2.2.2.2.1, bC.2.2.2.2.2.2.1, bC.2.2.2.2.2.2.2.1, bC.2.2.2.2.2.2.2.2.1, bC.2.2.2.2.2.2.2.2.2.1, bC.2.2.2.2.2.2.2.2.2.2.1, bC.2.2.2.2.2.2.2.2.2.2.2.1, bC.2.2.2.2.2.2.2.2.2.2.2.2.1, bC.2.2.2.2.2.2.2.2.2.2.2.2.2.1, bC.2.2.2.2.2.2.2.2.2.2.2.2.2.2.1, bC.2.2.2.2.2.2.2.2.2.2.2.2.2.2.2.1, bC.2.2.2.2.2.2.2.2.2.2.2.2.2.2.2.2.1, bC.2.2.2.2.2.2.2.2.2.2.2.2.2.2.2.2.2.1, bC.2.2.2.2.2.2.2.2.2.2.2.2.2.2.2.2.2.2.1, bC.2.2.2.2.2.2.2.2.2.2.2.2.2.2.2.2.2.2.2.1, bC.2.2.2.2.2.2.2.2.2.2.2.2.2.2.2.2.2.2.2.2.1, bC.2.2.2.2.2.2.2.2.2.2.2.2.2.2.2.2.2.2.2.2.2)))) else ((impl_hasPart.f k a0_0 a0_1 a0_2 a0_3 a0_4 82).bind fun dU => (if dU = true then (if a0_1 ≥ 0 then ((impl_made.f k a0_0 a0_1 a0_2 a0_3 a0_4 a2_0 a2_1 a2_2 a2_3 a2_4 a2_5 a3_0 a3_1 a3_2 a3_3 a3_4 a3_5 a4_0 a4_1 a4_2 a4_3 a4_4 a4_5).bind fun di => (if 0 = 0 then (some (0, a0_1, di.1, di.2.1, di.2.2.1, di.2.2.2.1, di.2.2.2.2.1, di.2.2.2.2.2, bu.1, bu.2.1, bu.2.2.1, bu.2.2.2.1, bu.2.2.2.2.1, bu.2.2.2.2.2, (-1), 0, false, 0, 0, 0, 0, (-1))) else ((impl_trapped.f 0 a1_0 a1_1 a1_2 a1_3 a1_4 a1_5).bind fun bj => (some (bj.1, bj.2.1, bj.2.2.1, bj.2.2.2.1, bj.2.2.2.2.1, bj.2.2.2.2.2.1, bj.2.2.2.2.2.2.1, bj.2.2.2.2.2.2.2.1, bj.2.2.2.2.2.2.2.2.1, bj.2.2.2.2.2.2.2.2.2.1, bj.2.2.2.2.2.2.2.2.2.2.1, bj.2.2.2.2.2.2.2.2.2.2.2.1, bj.2.2.2.2.2.2.2.2.2.2.2.2.1, bj.2.2.2.2.2.2.2.2.2.2.2.2.2.1, bj.2.2.2.2.2.2.2.2.2.2.2.2.2.2.1, bj.2.2.2.2.2.2.2.2.2.2.2.2.2.2.2.1, bj.2.2.2.2.2.2.2.2.2.2.2.2.2.2.2.2.1, bj.2.2.2.2.2.2.2.2.2.2.2.2.2.2.2.2.2.1, bj.2.2.2.2.2.2.2.2.2.2.2.2.2.2.2.2.2.2.1, bj.2.2.2.2.2.2.2.2.2.2.2.2.2.2.2.2.2.2.2.1, bj.2.2.2.2.2.2.2.2.2.2.2.2.2.2.2.2.2.2.2.2.1, bj.2.2.2.2.2.2.2.2.2.2.2.2.2.2.2.2.2.2.2.2.2))))) else (if 0 = 0 then (some (0, a0_1, 0, false, 0, 0, 0, 0, bu.1, bu.2.1, bu.2.2.1, bu.2.2.2.1, bu.2.2.2.2.1, bu.2.2.2.2.2, (-1), 0, false, 0, 0, 0, 0, (-1))) else ((impl_trapped.f 0 a1_0 a1_1 a1_2 a1_3 a1_4 a1_5).bind fun bl => (some (bl.1, bl.2.1, bl.2.2.1, bl.2.2.2.1, bl.2.2.2.2.1, bl.2.2.2.2.2.1, bl.2.2.2.2.2.2.1, bl.2.2.2.2.2.2.2.1, bl.2.2.2.2.2.2.2.2.1, bl.2.2.2.2.2.2.2.2.2.1, bl.2.2.2.2.2.2.2.2.2.2.1, bl.2.2.2.2.2.2.2.2.2.2.2.1, bl.2.2.2.2.2.2.2.2.2.2.2.2.1, bl.2.2.2.2.2.2.2.2.2.2.2.2.2.1, bl.2.2.2.2.2.2.2.2.2.2.2.2.2.2.1, bl.2.2.2.2.2.2.2.2.2.2.2.2.2.2.2.1, bl.2.2.2.2.2.2.2.2.2.2.2.2.2.2.2.2.1, bl.2.2.2.2.2.2.2.2.2.2.2.2.2.2.2.2.2.1, bl.2.2.2.2.2.2.2.2.2.2.2.2.2.2.2.2.2.2.1, bl.2.2.2.2.2.2.2.2.2.2.2.2.2.2.2.2.2.2.2.1, bl.2.2.2.2.2.2.2.2.2.2.2.2.2.2.2.2.2.2.2.2.1, bl.2.2.2.2.2.2.2.2.2.2.2.2.2.2.2.2.2.2.2.2.2))))) else (if 0 = 0 then (some (0, (-1), 0, false, 0, 0, 0, 0, bu.1, bu.2.1, bu.2.2.1, bu.2.2.2.1, bu.2.2.2.2.1, bu.2.2.2.2.2, (-1), 0, false, 0, 0, 0, 0, (-1))) else ((impl_trapped.f 0 a1_0 a1_1 a1_2 a1_3 a1_4 a1_5).bind fun bm => (some (bm.1, bm.2.1, bm.2.2.1, bm.2.2.2.1, bm.2.2.2.2.1, bm.2.2.2.2.2.1, bm.2.2.2.2.2.2.1, bm.2.2.2.2.2.2.2.1, bm.2.2.2.2.2.2.2.2.1, bm.2.2.2.2.2.2.2.2.2.1, bm.2.2.2.2.2.2.2.2.2.2.1, bm.2.2.2.2.2.2.2.2.2.2.2.1, bm.2.2.2.2.2.2.2.2.2.2.2.2.1, bm.2.2.2.2.2.2.2.2.2.2.2.2.2.1, bm.2.2.2.2.2.2.2.2.2.2.2.2.2.2.1, bm.2.2.2.2.2.2.2.2.2.2.2.2.2.2.2.1, bm.2.2.2.2.2.2.2.2.2.2.2.2.2.2.2.2.1, bm.2.2.2.2.2.2.2.2.2.2.2.2.2.2.2.2.2.1, bm.2.2.2.2.2.2.2.2.2.2.2.2.2.2.2.2.2.2.1, bm.2.2.2.2.2.2.2.2.2.2.2.2.2.2.2.2.2.2.2.1, bm.2.2.2.2.2.2.2.2.2.2.2.2.2.2.2.2.2.2.2.2.1, bm.2.2.2.2.2.2.2.2.2.2.2.2.2.2.2.2.2.2.2.2.2)))))))))))
theorem impl_Work.mono : ∀ a0 a1 a2 a3 a4 a5 a6 a7 a8 a9 a10 a11 a12 a13 a14 a15 a16 a17 a18 a19 a20 a21 a22 a23 a24 a25 a26 a27 a28 k, LeO (impl_Work.f k a0 a1 a2 a3 a4 a5 a6 a7 a8 a9 a10 a11 a12 a13 a14 a15 a16 a17 a18 a19 a20 a21 a22 a23 a24 a25 a26 a27 a28) (impl_Work.f (k + 1) a0 a1 a2 a3 a4 a5 a6 a7 a8 a9 a10 a11 a12 a13 a14 a15 a16 a17 a18 a19 a20 a21 a22 a23 a24 a25 a26 a27 a28) := by
 intro a0 a1 a2 a3 a4 a5 a6 a7 a8 a9 a10 a11 a12 a13 a14 a15 a16 a17 a18 a19 a20 a21 a22 a23 a24 a25 a26 a27 a28 k
 unfold impl_Work.f
 repeat' first
   | (with_reducible exact impl_Point.mono _ _ _ _ _ _ _ _)
   | (with_reducible exact impl_Try.mono _ _ _ _ _ _ _ _ _)
   | (with_reducible exact impl_hasPart.mono _ _ _ _ _ _ _)
   | (with_reducible exact impl_made.mono _ _ _ _ _ _ _ _ _ _ _ _ _ _ _ _ _ _ _ _ _ _ _ _)
   | (with_reducible exact LeO.refl _)
   | (with_reducible exact LeO.none _)
   | (with_reducible refine LeO.ite ?_ ?_)
   | (with_reducible refine LeO.bind ?_ (fun _ => ?_))
   | exact impl_Point.mono _ _ _ _ _ _ _ _
   | exact impl_Try.mono _ _ _ _ _ _ _ _ _
   | exact impl_hasPart.mono _ _ _ _ _ _ _
   | exact impl_made.mono _ _ _ _ _ _ _ _ _ _ _ _ _ _ _ _ _ _ _ _ _ _ _ _
   | exact LeO.none _
   | refine LeO.ite ?_ ?_
   | refine LeO.bind ?_ (fun _ => ?_)
def impl_Work.T8 : Bool × List (List Nat × List Nat) := (true, [([], []), ([0], [0]), ([], []), ([2], [2]), ([1, 3], [1, 3]), ([], []), ([0, 1, 2, 3, 4], []), ([6, 4, 0, 1, 2, 3, 4], [4, 6]), ([0, 1, 2, 3, 4, 5, 6, 7], []), ([8, 5, 7, 0, 1, 2, 3, 4, 5, 6, 7], [5, 8])])
def impl_Work.B8 : List Nat := [0, 1, 0, 4, 15, 0, 31, 95, 255, 511]
theorem impl_Work.tab8 : rtab .any (opsOf Try.f6 8) = impl_Work.T8 := by kernel_rfl
theorem impl_Work.bits8 : waitsOk impl_Work.T8.2 impl_Work.B8 = true := by kernel_rfl
def impl_Work.T11 : Bool × List (List Nat × List Nat) := (true, [([], []), ([0], [0]), ([], []), ([2], [2]), ([], []), ([0, 1, 2, 3], []), ([5, 1, 0, 1, 2, 3], [1, 5]), ([0, 1, 2, 3, 5, 6], []), ([7, 3, 6, 0, 1, 2, 3, 5, 6], [3, 7]), ([0, 1, 2, 3, 4, 5, 6, 7, 8], []), ([9, 4, 8, 0, 1, 2, 3, 4, 5, 6, 7, 8], [4, 9])])
def impl_Work.B11 : List Nat := [0, 1, 0, 4, 0, 15, 47, 111, 239, 511, 1023]
theorem impl_Work.tab11 : rtab .any (opsOf Try.f6 11) = impl_Work.T11 := by kernel_rfl
theorem impl_Work.bits11 : waitsOk impl_Work.T11.2 impl_Work.B11 = true := by kernel_rfl
set_option maxHeartbeats 8000000 in
set_option maxRecDepth 100000 in
theorem impl_Work.calls (k : Nat) (a0_0 : Int) (a0_1 : Int) (a0_2 : Int) (a0_3 : Int) (a0_4 : Int) (a1_0 : Int) (a1_1 : Bool) (a1_2 : Int) (a1_3 : Int) (a1_4 : Int) (a1_5 : Int) (a2_0 : Int) (a2_1 : Bool) (a2_2 : Int) (a2_3 : Int) (a2_4 : Int) (a2_5 : Int) (a3_0 : Int) (a3_1 : Bool) (a3_2 : Int) (a3_3 : Int) (a3_4 : Int) (a3_5 : Int) (a4_0 : Int) (a4_1 : Bool) (a4_2 : Int) (a4_3 : Int) (a4_4 : Int) (a4_5 : Int) (r1 : Int) (r2 : Int) (r3 : Int) (r4 : Bool) (r5 : Int) (r6 : Int) (r7 : Int) (r8 : Int) (r9 : Int) (r10 : Bool) (r11 : Int) (r12 : Int) (r13 : Int) (r14 : Int) (r15 : Int) (r16 : Int) (r17 : Bool) (r18 : Int) (r19 : Int) (r20 : Int) (r21 : Int) (r22 : Int) (w : World) (h : impl_Work.f k a0_0 a0_1 a0_2 a0_3 a0_4 a1_0 a1_1 a1_2 a1_3 a1_4 a1_5 a2_0 a2_1 a2_2 a2_3 a2_4 a2_5 a3_0 a3_1 a3_2 a3_3 a3_4 a3_5 a4_0 a4_1 a4_2 a4_3 a4_4 a4_5 = some (r1, r2, r3, r4, r5, r6, r7, r8, r9, r10, r11, r12, r13, r14, r15, r16, r17, r18, r19, r20, r21, r22)) :
  Calls Try.prog 6 #[.agg #[.int .i64 a0_0, .int .i64 a0_1, .int .i64 a0_2, .int .i64 a0_3, .int .i64 a0_4], .agg #[.int .i64 a1_0, .bool a1_1, .int .i64 a1_2, .int .i64 a1_3, .int .i64 a1_4, .int .i64 a1_5], .agg #[.int .i64 a2_0, .bool a2_1, .int .i64 a2_2, .int .i64 a2_3, .int .i64 a2_4, .int .i64 a2_5], .agg #[.int .i64 a3_0, .bool a3_1, .int .i64 a3_2, .int .i64 a3_3, .int .i64 a3_4, .int .i64 a3_5], .agg #[.int .i64 a4_0, .bool a4_1, .int .i64 a4_2, .int .i64 a4_3, .int .i64 a4_4, .int .i64 a4_5]] w fun e w' => e = .returned (.agg #[.int .i64 r1, .int .i64 r2, .int .i64 r3, .bool r4, .int .i64 r5, .int .i64 r6, .int .i64 r7, .int .i64 r8, .int .i64 r9, .bool r10, .int .i64 r11, .int .i64 r12, .int .i64 r13, .int .i64 r14, .int .i64 r15, .int .i64 r16, .bool r17, .int .i64 r18, .int .i64 r19, .int .i64 r20, .int .i64 r21, .int .i64 r22]) ∧ Below w.heap.size w w' := by
 have hu25 := Try.underlying25; have hu29 := Try.underlying29; have hu33 := Try.underlying33; have HB := Aside0.mk (Below.refl w.heap.size w); have H := h; clear h; unfold impl_Work.f at H; (try dsimp only at H); replace H := Option.bind_eq_some_iff.mp H; obtain ⟨⟨bo, bp, bq, br, bs, bt⟩, A60, H⟩ := H; (try dsimp only at H); have A6 := Aside0.mk A60; clear A60
 by_cases c7 : a0_0 = 11
 ·rw [if_pos c7] at H
  have c7b0 : (a0_0 == 11) = true := beq_iff_eq.mpr c7; have c7b1 : (a0_0 != 11) = false := bne_eq_false_iff_eq.mpr c7; clear c7
  by_cases c8 : 0 = 0
  ·rw [if_pos c8] at H
   have c8b0 : (0 == 0) = true := beq_iff_eq.mpr c8; have c8b1 : (0 != 0) = false := bne_eq_false_iff_eq.mpr c8; clear c8; simp only [Option.some.injEq, Prod.mk.injEq] at H; obtain ⟨rfl, rfl, rfl, rfl, rfl, rfl, rfl, rfl, rfl, rfl, rfl, rfl, rfl, rfl, rfl, rfl, rfl, rfl, rfl, rfl, rfl, rfl⟩ := H
   go_enter Try.func6, Try.ntmps6
   go_wp2_with (first | (go_at_call 19; (with_reducible refine dmn (impl_Point.calls (h := A6.out) (w := _)) ?_); intro x1 hb1 hc; have z := dz6 (n := w.heap.size) hb1.size) | ((with_reducible refine gate_store (t := 33) (p := 11) rfl ?_); refine drowx 33 ?_; intro wr_ hx_ hc_; have zw : x1.heap.size + 1 ≤ wr_.heap.size := (by have hq := hc_.2.2.2.1; simp at hq; omega)))
   refine dst 0 (some x1.heap.size) [] (ml [0, 10]) impl_Work.tab8 impl_Work.bits8 (fun HT_ HW_ hH => ?_)
   refine rP HT_.out 0 36 (ml [1, 9]) ?_; refine rP HT_.out 2 38 (ml [1, 1, 1, 7]) ?_; refine dT HT_.out HW_.out hH 1 37 (ml [3, 7]) ?_; refine dT HT_.out HW_.out hH 3 39 (ml [4, 6]) ?_; refine rP HT_.out 4 40 (ml [5, 5]) ?_; refine rP HT_.out 6 42 (ml [5, 1, 1, 3]) ?_; refine dT HT_.out HW_.out hH 5 41 (ml [7, 3]) ?_
   refine dS HT_.out 7 (ml [8, 2]) (fun hH => ?_); refine rP HT_.out 8 43 (ml [9, 1]) ?_; refine dS HT_.out 9 (ml [10]) (fun hH => ?_)
   refine done_ (done_of HT_.out (by kernel_rfl)) ?_
   go_wp2_with (first | ((with_reducible refine gate_store (t := 33) (p := 10) rfl ?_); refine drowx 33 ?_; intro wr_ hx_ hc_) | ((with_reducible refine dgl (t := 33) rfl ?_); refine drowl (ty := 33) Try.underlying33 ?_))
   refine bodyPost_ret (drr rfl _ _ rfl Try.underlying33) rfl ?_; exact ⟨rfl, dfi⟩
  ·exact absurd rfl c8
 ·rw [if_neg c7] at H
  have c7b0 : (a0_0 == 11) = false := beq_eq_false_iff_ne.mpr c7; have c7b1 : (a0_0 != 11) = true := bne_iff_ne.mpr c7
  by_cases c94 : a0_0 = 12
  ·rw [if_pos c94] at H
   have c94b0 : (a0_0 == 12) = true := beq_iff_eq.mpr c94; have c94b1 : (a0_0 != 12) = false := bne_eq_false_iff_eq.mpr c94; clear c94; replace H := Option.bind_eq_some_iff.mp H; obtain ⟨bN, A950, H⟩ := H; (try dsimp only at H); have A95 := Aside0.mk A950; clear A950
   by_cases c96 : bN = 0
   ·rw [if_pos c96] at H
    have c96b0 : (bN == 0) = true := beq_iff_eq.mpr c96; have c96b1 : (bN != 0) = false := bne_eq_false_iff_eq.mpr c96; clear c96; simp only [Option.some.injEq, Prod.mk.injEq] at H; obtain ⟨rfl, rfl, rfl, rfl, rfl, rfl, rfl, rfl, rfl, rfl, rfl, rfl, rfl, rfl, rfl, rfl, rfl, rfl, rfl, rfl, rfl, rfl⟩ := H
    go_enter Try.func6, Try.ntmps6
    go_wp2_with (first | (go_at_call 19; (with_reducible refine dmn (impl_Point.calls (h := A6.out) (w := _)) ?_); intro x1 hb1 hc; have z := dz6 (n := w.heap.size) hb1.size) | (go_at_call 20; (with_reducible refine dmn (impl_Try.calls (h := A95.out) (w := _)) ?_); intro x2 hb1 hc; have z := dz6 (n := w.heap.size) hb1.size; have z1 := dz1 (n := x1.heap.size) hb1.size) | ((with_reducible refine gate_store (t := 33) (p := 11) rfl ?_); refine drowx 33 ?_; intro wr_ hx_ hc_; have zw : x1.heap.size + 1 ≤ wr_.heap.size := (by have hq := hc_.2.2.2.1; simp at hq; omega)))
    refine dst 0 (some x1.heap.size) [] (ml [0, 11]) impl_Work.tab11 impl_Work.bits11 (fun HT_ HW_ hH => ?_)
    refine rP HT_.out 0 51 (ml [1, 10]) ?_; refine rP HT_.out 2 53 (ml [1, 1, 1, 8]) ?_; refine dT HT_.out HW_.out hH 1 52 (ml [3, 8]) ?_; refine dT HT_.out HW_.out hH 4 55 (ml [3, 1, 1, 6]) ?_; refine dA HT_.out 3 (ml [5, 6]) (fun hH => ?_)
    refine rP HT_.out 5 56 (ml [6, 5]) ?_; refine dS HT_.out 6 (ml [7, 4]) (fun hH => ?_); refine rP HT_.out 7 57 (ml [8, 3]) ?_; refine dS HT_.out 8 (ml [9, 2]) (fun hH => ?_); refine rP HT_.out 9 58 (ml [10, 1]) ?_; refine dS HT_.out 10 (ml [11]) (fun hH => ?_)
    refine done_ (done_of HT_.out (by kernel_rfl)) ?_
    go_wp2_with (first | ((with_reducible refine gate_store (t := 33) (p := 10) rfl ?_); refine drowx 33 ?_; intro wr_ hx_ hc_) | ((with_reducible refine dgl (t := 33) rfl ?_); refine drowl (ty := 33) Try.underlying33 ?_))
    refine bodyPost_ret (drr rfl _ _ rfl Try.underlying33) rfl ?_; exact ⟨rfl, dfi⟩
   ·rw [if_neg c96] at H
    have c96b0 : (bN == 0) = false := beq_eq_false_iff_ne.mpr c96; have c96b1 : (bN != 0) = true := bne_iff_ne.mpr c96; replace H := Option.bind_eq_some_iff.mp H; obtain ⟨⟨ej, ek, el, em, en, eo, ep, er, es, et, eu, ev, ew, ex, ey, ez, eA, eB, eC, eD, eE, eF⟩, A1500, H⟩ := H; (try dsimp only at H); have A150 := Aside0.mk A1500; clear A1500; simp only [Option.some.injEq, Prod.mk.injEq] at H; obtain ⟨rfl, rfl, rfl, rfl, rfl, rfl, rfl, rfl, rfl, rfl, rfl, rfl, rfl, rfl, rfl, rfl, rfl, rfl, rfl, rfl, rfl, rfl⟩ := H
    go_enter Try.func6, Try.ntmps6
    go_wp2_with (first | (go_at_call 19; (with_reducible refine dmn (impl_Point.calls (h := A6.out) (w := _)) ?_); intro x1 hb1 hc; have z := dz6 (n := w.heap.size) hb1.size) | (go_at_call 20; (with_reducible refine dmn (impl_Try.calls (h := A95.out) (w := _)) ?_); intro x2 hb1 hc; have z := dz6 (n := w.heap.size) hb1.size; have z1 := dz1 (n := x1.heap.size) hb1.size) | ((with_reducible refine gate_store (t := 33) (p := 11) rfl ?_); refine drowx 33 ?_; intro wr_ hx_ hc_; have zw : x1.heap.size + 1 ≤ wr_.heap.size := (by have hq := hc_.2.2.2.1; simp at hq; omega)))
    refine dst 0 (some x1.heap.size) [] (ml [0, 11]) impl_Work.tab11 impl_Work.bits11 (fun HT_ HW_ hH => ?_)
    refine rP HT_.out 0 51 (ml [1, 10]) ?_; refine rP HT_.out 2 53 (ml [1, 1, 1, 8]) ?_; refine dT HT_.out HW_.out hH 1 52 (ml [3, 8]) ?_; refine dT HT_.out HW_.out hH 4 55 (ml [3, 1, 1, 6]) ?_; refine dA HT_.out 3 (ml [5, 6]) (fun hH => ?_)
    refine rP HT_.out 5 56 (ml [6, 5]) ?_; refine dS HT_.out 6 (ml [7, 4]) (fun hH => ?_); refine rP HT_.out 7 57 (ml [8, 3]) ?_; refine dS HT_.out 8 (ml [9, 2]) (fun hH => ?_); refine rP HT_.out 9 58 (ml [10, 1]) ?_; refine dS HT_.out 10 (ml [11]) (fun hH => ?_)
    refine done_ (done_of HT_.out (by kernel_rfl)) ?_
    go_wp2_with (first | (go_at_call 23; (with_reducible refine dmn (impl_trapped.calls (h := A150.out) (w := _)) ?_); intro x3 hb1 hc; have z := dz6 (n := w.heap.size) hb1.size) | ((with_reducible refine gate_store (t := 33) (p := 10) rfl ?_); refine drowx 33 ?_; intro wr_ hx_ hc_) | ((with_reducible refine dgl (t := 33) rfl ?_); refine drowl (ty := 33) Try.underlying33 ?_))
    refine bodyPost_ret (drr rfl _ _ rfl Try.underlying33) rfl ?_; exact ⟨rfl, dfi⟩
  ·rw [if_neg c94] at H
   have c94b0 : (a0_0 == 12) = false := beq_eq_false_iff_ne.mpr c94; have c94b1 : (a0_0 != 12) = true := bne_iff_ne.mpr c94
   by_cases c206 : a0_0 = 13
   ·rw [if_pos c206] at H
    have c206b0 : (a0_0 == 13) = true := beq_iff_eq.mpr c206; have c206b1 : (a0_0 != 13) = false := bne_eq_false_iff_eq.mpr c206; clear c206
    by_cases c207 : a2_0 = 0
    ·rw [if_pos c207] at H
     have c207b0 : (a2_0 == 0) = true := beq_iff_eq.mpr c207; have c207b1 : (a2_0 != 0) = false := bne_eq_false_iff_eq.mpr c207; clear c207; replace H := Option.bind_eq_some_iff.mp H; obtain ⟨⟨dI, dJ, dK, dL, dM, dN⟩, A2080, H⟩ := H; (try dsimp only at H); have A208 := Aside0.mk A2080; clear A2080
     by_cases c209 : 0 = 0
     ·rw [if_pos c209] at H
      have c209b0 : (0 == 0) = true := beq_iff_eq.mpr c209; have c209b1 : (0 != 0) = false := bne_eq_false_iff_eq.mpr c209; clear c209; simp only [Option.some.injEq, Prod.mk.injEq] at H; obtain ⟨rfl, rfl, rfl, rfl, rfl, rfl, rfl, rfl, rfl, rfl, rfl, rfl, rfl, rfl, rfl, rfl, rfl, rfl, rfl, rfl, rfl, rfl⟩ := H
      go_enter Try.func6, Try.ntmps6
      go_wp2_with (first | ((with_reducible refine dgl (t := 33) rfl ?_); refine drowl (ty := 33) Try.underlying33 ?_) | (go_at_call 19; (with_reducible refine dmn (impl_Point.calls (h := A6.out) (w := _)) ?_); intro x1 hb1 hc; have hw := dsz (n := w.heap.size + 1 + 1 + 1 + 1 + 1 + 1) hb1; have z := dl6 hw) | ((with_reducible refine gate_store (t := 33) (p := 11) rfl ?_); refine drowx 33 ?_; intro wr_ hx_ hc_) | (go_at_call 19; (with_reducible refine dmn (impl_Point.calls (h := A208.out) (w := _)) ?_); intro x2 hb2 hc; have hw := dsz (n := w.heap.size + 1 + 1 + 1 + 1 + 1 + 1) hb2; have z := dl6 hw; have hx1 := dsz (n := x1.heap.size + 1) hb2; have z := dl1 hx1) | ((with_reducible refine gate_store (t := 33) (p := 10) rfl ?_); refine drowx 33 ?_; intro wr_ hx_ hc_))
      refine bodyPost_ret (drr rfl _ _ rfl Try.underlying33) rfl ?_; exact ⟨rfl, dfi⟩
     ·exact absurd rfl c209
    ·rw [if_neg c207] at H
     have c207b0 : (a2_0 == 0) = false := beq_eq_false_iff_ne.mpr c207; have c207b1 : (a2_0 != 0) = true := bne_iff_ne.mpr c207
     by_cases c293 : 0 = 0
     ·rw [if_pos c293] at H
      have c293b0 : (0 == 0) = true := beq_iff_eq.mpr c293; have c293b1 : (0 != 0) = false := bne_eq_false_iff_eq.mpr c293; clear c293; simp only [Option.some.injEq, Prod.mk.injEq] at H; obtain ⟨rfl, rfl, rfl, rfl, rfl, rfl, rfl, rfl, rfl, rfl, rfl, rfl, rfl, rfl, rfl, rfl, rfl, rfl, rfl, rfl, rfl, rfl⟩ := H
      go_enter Try.func6, Try.ntmps6
      go_wp2_with (first | ((with_reducible refine dgl (t := 33) rfl ?_); refine drowl (ty := 33) Try.underlying33 ?_) | (go_at_call 19; (with_reducible refine dmn (impl_Point.calls (h := A6.out) (w := _)) ?_); intro x1 hb1 hc; have hw := dsz (n := w.heap.size + 1 + 1 + 1 + 1 + 1 + 1) hb1; have z := dl6 hw) | ((with_reducible refine gate_store (t := 33) (p := 11) rfl ?_); refine drowx 33 ?_; intro wr_ hx_ hc_) | ((with_reducible refine gate_store (t := 33) (p := 10) rfl ?_); refine drowx 33 ?_; intro wr_ hx_ hc_))
      refine bodyPost_ret (drr rfl _ _ rfl Try.underlying33) rfl ?_; exact ⟨rfl, dfi⟩
     ·exact absurd rfl c293
   ·rw [if_neg c206] at H
    have c206b0 : (a0_0 == 13) = false := beq_eq_false_iff_ne.mpr c206; have c206b1 : (a0_0 != 13) = true := bne_iff_ne.mpr c206
    by_cases c369 : a0_0 = 14
    ·rw [if_pos c369] at H
     have c369b0 : (a0_0 == 14) = true := beq_iff_eq.mpr c369; have c369b1 : (a0_0 != 14) = false := bne_eq_false_iff_eq.mpr c369; clear c369; replace H := Option.bind_eq_some_iff.mp H; obtain ⟨dj, A3700, H⟩ := H; (try dsimp only at H); have A370 := Aside0.mk A3700; clear A3700
     by_cases c371 : dj = 0
     ·rw [if_pos c371] at H
      have c371b0 : (dj == 0) = true := beq_iff_eq.mpr c371; have c371b1 : (dj != 0) = false := bne_eq_false_iff_eq.mpr c371; clear c371; simp only [Option.some.injEq, Prod.mk.injEq] at H; obtain ⟨rfl, rfl, rfl, rfl, rfl, rfl, rfl, rfl, rfl, rfl, rfl, rfl, rfl, rfl, rfl, rfl, rfl, rfl, rfl, rfl, rfl, rfl⟩ := H
      go_enter Try.func6, Try.ntmps6
      go_wp2_with (first | ((with_reducible refine dgl (t := 33) rfl ?_); refine drowl (ty := 33) Try.underlying33 ?_) | (go_at_call 19; (with_reducible refine dmn (impl_Point.calls (h := A6.out) (w := _)) ?_); intro x1 hb1 hc; have hw := dsz (n := w.heap.size + 1 + 1 + 1 + 1 + 1 + 1) hb1; have z := dl6 hw) | ((with_reducible refine gate_store (t := 33) (p := 11) rfl ?_); refine drowx 33 ?_; intro wr_ hx_ hc_) | (go_at_call 20; (with_reducible refine dmn (impl_Try.calls (h := A370.out) (w := _)) ?_); intro x2 hb2 hc; have hw := dsz (n := w.heap.size + 1 + 1 + 1 + 1 + 1 + 1) hb2; have z := dl6 hw; have hx1 := dsz (n := x1.heap.size + 1) hb2; have z := dl1 hx1) | ((with_reducible refine gate_store (t := 33) (p := 10) rfl ?_); refine drowx 33 ?_; intro wr_ hx_ hc_))
      refine bodyPost_ret (drr rfl _ _ rfl Try.underlying33) rfl ?_; exact ⟨rfl, dfi⟩
     ·rw [if_neg c371] at H
      have c371b0 : (dj == 0) = false := beq_eq_false_iff_ne.mpr c371; have c371b1 : (dj != 0) = true := bne_iff_ne.mpr c371; replace H := Option.bind_eq_some_iff.mp H; obtain ⟨⟨gr, gs, gt, gu, gv, gw, gx, gy, gz, gA, gB, gC, gD, gE, gF, gG, gH, gI, gJ, gK, gL, gM⟩, A4140, H⟩ := H; (try dsimp only at H); have A414 := Aside0.mk A4140; clear A4140; simp only [Option.some.injEq, Prod.mk.injEq] at H; obtain ⟨rfl, rfl, rfl, rfl, rfl, rfl, rfl, rfl, rfl, rfl, rfl, rfl, rfl, rfl, rfl, rfl, rfl, rfl, rfl, rfl, rfl, rfl⟩ := H
      go_enter Try.func6, Try.ntmps6
      go_wp2_with (first | ((with_reducible refine dgl (t := 33) rfl ?_); refine drowl (ty := 33) Try.underlying33 ?_) | (go_at_call 19; (with_reducible refine dmn (impl_Point.calls (h := A6.out) (w := _)) ?_); intro x1 hb1 hc; have hw := dsz (n := w.heap.size + 1 + 1 + 1 + 1 + 1 + 1) hb1; have z := dl6 hw) | ((with_reducible refine gate_store (t := 33) (p := 11) rfl ?_); refine drowx 33 ?_; intro wr_ hx_ hc_) | (go_at_call 20; (with_reducible refine dmn (impl_Try.calls (h := A370.out) (w := _)) ?_); intro x2 hb2 hc; have hw := dsz (n := w.heap.size + 1 + 1 + 1 + 1 + 1 + 1) hb2; have z := dl6 hw; have hx1 := dsz (n := x1.heap.size + 1) hb2; have z := dl1 hx1) | (go_at_call 23; (with_reducible refine dmn (impl_trapped.calls (h := A414.out) (w := _)) ?_); intro x3 hb3 hc; have hw := dsz (n := w.heap.size + 1 + 1 + 1 + 1 + 1 + 1) hb3; have z := dl6 hw; have hx1 := dsz (n := x1.heap.size + 1) hb3; have z := dl1 hx1) | ((with_reducible refine gate_store (t := 33) (p := 10) rfl ?_); refine drowx 33 ?_; intro wr_ hx_ hc_))
      refine bodyPost_ret (drr rfl _ _ rfl Try.underlying33) rfl ?_; exact ⟨rfl, dfi⟩
    ·rw [if_neg c369] at H
     have c369b0 : (a0_0 == 14) = false := beq_eq_false_iff_ne.mpr c369; have c369b1 : (a0_0 != 14) = true := bne_iff_ne.mpr c369
     by_cases c459 : a0_0 = 15
     ·rw [if_pos c459] at H
      have c459b0 : (a0_0 == 15) = true := beq_iff_eq.mpr c459; have c459b1 : (a0_0 != 15) = false := bne_eq_false_iff_eq.mpr c459; clear c459
      by_cases c460 : 5 = 0
      ·exact absurd c460 (by decide)
      ·rw [if_neg c460] at H
       have c460b0 : (5 == 0) = false := beq_eq_false_iff_ne.mpr c460; have c460b1 : (5 != 0) = true := bne_iff_ne.mpr c460; replace H := Option.bind_eq_some_iff.mp H; obtain ⟨⟨gN, gO, gP, gQ, gR, gS, gT, gU, gV, gW, gX, gY, gZ, g0, g2, g3, g4, g5, g7, g8, g9, ha⟩, A4960, H⟩ := H; (try dsimp only at H); have A496 := Aside0.mk A4960; clear A4960; simp only [Option.some.injEq, Prod.mk.injEq] at H; obtain ⟨rfl, rfl, rfl, rfl, rfl, rfl, rfl, rfl, rfl, rfl, rfl, rfl, rfl, rfl, rfl, rfl, rfl, rfl, rfl, rfl, rfl, rfl⟩ := H
       go_enter Try.func6, Try.ntmps6
       go_wp2_with (first | ((with_reducible refine dgl (t := 33) rfl ?_); refine drowl (ty := 33) Try.underlying33 ?_) | (go_at_call 19; (with_reducible refine dmn (impl_Point.calls (h := A6.out) (w := _)) ?_); intro x1 hb1 hc; have hw := dsz (n := w.heap.size + 1 + 1 + 1 + 1 + 1 + 1) hb1; have z := dl6 hw) | ((with_reducible refine gate_store (t := 33) (p := 11) rfl ?_); refine drowx 33 ?_; intro wr_ hx_ hc_) | (go_at_call 23; (with_reducible refine dmn (impl_trapped.calls (h := A496.out) (w := _)) ?_); intro x2 hb2 hc; have hw := dsz (n := w.heap.size + 1 + 1 + 1 + 1 + 1 + 1) hb2; have z := dl6 hw; have hx1 := dsz (n := x1.heap.size + 1) hb2; have z := dl1 hx1) | ((with_reducible refine gate_store (t := 33) (p := 10) rfl ?_); refine drowx 33 ?_; intro wr_ hx_ hc_))
       refine bodyPost_ret (drr rfl _ _ rfl Try.underlying33) rfl ?_; exact ⟨rfl, dfi⟩
     ·rw [if_neg c459] at H
      have c459b0 : (a0_0 == 15) = false := beq_eq_false_iff_ne.mpr c459; have c459b1 : (a0_0 != 15) = true := bne_iff_ne.mpr c459; replace H := Option.bind_eq_some_iff.mp H; obtain ⟨dU, A5340, H⟩ := H; (try dsimp only at H); have A534 := Aside0.mk A5340; clear A5340
      by_cases c535 : dU = true
      ·subst c535
       rw [if_pos rfl] at H; (try dsimp only at H)
       by_cases c536 : a0_1 ≥ 0
       ·rw [if_pos c536] at H
        have c536b0 : decide (0 ≤ a0_1) = true := decide_eq_true c536; clear c536; replace H := Option.bind_eq_some_iff.mp H; obtain ⟨⟨dO, dP, dQ, dR, dS, dT⟩, A5370, H⟩ := H; (try dsimp only at H); have A537 := Aside0.mk A5370; clear A5370
        by_cases c538 : 0 = 0
        ·rw [if_pos c538] at H
         have c538b0 : (0 == 0) = true := beq_iff_eq.mpr c538; have c538b1 : (0 != 0) = false := bne_eq_false_iff_eq.mpr c538; clear c538; simp only [Option.some.injEq, Prod.mk.injEq] at H; obtain ⟨rfl, rfl, rfl, rfl, rfl, rfl, rfl, rfl, rfl, rfl, rfl, rfl, rfl, rfl, rfl, rfl, rfl, rfl, rfl, rfl, rfl, rfl⟩ := H
         go_enter Try.func6, Try.ntmps6
         go_wp2_with (first | ((with_reducible refine dgl (t := 33) rfl ?_); refine drowl (ty := 33) Try.underlying33 ?_) | (go_at_call 19; (with_reducible refine dmn (impl_Point.calls (h := A6.out) (w := _)) ?_); intro x1 hb1 hc; have hw := dsz (n := w.heap.size + 1 + 1 + 1 + 1 + 1 + 1) hb1; have z := dl6 hw) | ((with_reducible refine gate_store (t := 33) (p := 11) rfl ?_); refine drowx 33 ?_; intro wr_ hx_ hc_) | (go_at_call 21; (with_reducible refine dmn (impl_hasPart.calls (h := A534.out) (w := _)) ?_); intro x2 hb2 hc; have hw := dsz (n := w.heap.size + 1 + 1 + 1 + 1 + 1 + 1) hb2; have z := dl6 hw; have hx1 := dsz (n := x1.heap.size + 1) hb2; have z := dl1 hx1) | (go_at_call 22; (with_reducible refine dmn (impl_made.calls (h := A537.out) (w := _)) ?_); intro x3 hb3 hc; have hw := dsz (n := w.heap.size + 1 + 1 + 1 + 1 + 1 + 1) hb3; have z := dl6 hw; have hx1 := dsz (n := x1.heap.size + 1) hb3; have z := dl1 hx1) | ((with_reducible refine gate_store (t := 33) (p := 10) rfl ?_); refine drowx 33 ?_; intro wr_ hx_ hc_))
         refine bodyPost_ret (drr rfl _ _ rfl Try.underlying33) rfl ?_; exact ⟨rfl, dfi⟩
        ·exact absurd rfl c538
       ·rw [if_neg c536] at H
        have c536b0 : decide (0 ≤ a0_1) = false := decide_eq_false c536; clear c536
        by_cases c636 : 0 = 0
        ·rw [if_pos c636] at H
         have c636b0 : (0 == 0) = true := beq_iff_eq.mpr c636; have c636b1 : (0 != 0) = false := bne_eq_false_iff_eq.mpr c636; clear c636; simp only [Option.some.injEq, Prod.mk.injEq] at H; obtain ⟨rfl, rfl, rfl, rfl, rfl, rfl, rfl, rfl, rfl, rfl, rfl, rfl, rfl, rfl, rfl, rfl, rfl, rfl, rfl, rfl, rfl, rfl⟩ := H
         go_enter Try.func6, Try.ntmps6
         go_wp2_with (first | ((with_reducible refine dgl (t := 33) rfl ?_); refine drowl (ty := 33) Try.underlying33 ?_) | (go_at_call 19; (with_reducible refine dmn (impl_Point.calls (h := A6.out) (w := _)) ?_); intro x1 hb1 hc; have hw := dsz (n := w.heap.size + 1 + 1 + 1 + 1 + 1 + 1) hb1; have z := dl6 hw) | ((with_reducible refine gate_store (t := 33) (p := 11) rfl ?_); refine drowx 33 ?_; intro wr_ hx_ hc_) | (go_at_call 21; (with_reducible refine dmn (impl_hasPart.calls (h := A534.out) (w := _)) ?_); intro x2 hb2 hc; have hw := dsz (n := w.heap.size + 1 + 1 + 1 + 1 + 1 + 1) hb2; have z := dl6 hw; have hx1 := dsz (n := x1.heap.size + 1) hb2; have z := dl1 hx1) | ((with_reducible refine gate_store (t := 33) (p := 10) rfl ?_); refine drowx 33 ?_; intro wr_ hx_ hc_))
         refine bodyPost_ret (drr rfl _ _ rfl Try.underlying33) rfl ?_; exact ⟨rfl, dfi⟩
        ·exact absurd rfl c636
      ·replace c535 := Bool.eq_false_iff.mpr c535
       subst c535; rw [if_neg (show ¬ (false = true) by decide)] at H; (try dsimp only at H)
       by_cases c716 : 0 = 0
       ·rw [if_pos c716] at H
        have c716b0 : (0 == 0) = true := beq_iff_eq.mpr c716; have c716b1 : (0 != 0) = false := bne_eq_false_iff_eq.mpr c716; clear c716; simp only [Option.some.injEq, Prod.mk.injEq] at H; obtain ⟨rfl, rfl, rfl, rfl, rfl, rfl, rfl, rfl, rfl, rfl, rfl, rfl, rfl, rfl, rfl, rfl, rfl, rfl, rfl, rfl, rfl, rfl⟩ := H
        go_enter Try.func6, Try.ntmps6
        go_wp2_with (first | ((with_reducible refine dgl (t := 33) rfl ?_); refine drowl (ty := 33) Try.underlying33 ?_) | (go_at_call 19; (with_reducible refine dmn (impl_Point.calls (h := A6.out) (w := _)) ?_); intro x1 hb1 hc; have hw := dsz (n := w.heap.size + 1 + 1 + 1 + 1 + 1 + 1) hb1; have z := dl6 hw) | ((with_reducible refine gate_store (t := 33) (p := 11) rfl ?_); refine drowx 33 ?_; intro wr_ hx_ hc_) | (go_at_call 21; (with_reducible refine dmn (impl_hasPart.calls (h := A534.out) (w := _)) ?_); intro x2 hb2 hc; have hw := dsz (n := w.heap.size + 1 + 1 + 1 + 1 + 1 + 1) hb2; have z := dl6 hw; have hx1 := dsz (n := x1.heap.size + 1) hb2; have z := dl1 hx1) | ((with_reducible refine gate_store (t := 33) (p := 10) rfl ?_); refine drowx 33 ?_; intro wr_ hx_ hc_))
        refine bodyPost_ret (drr rfl _ _ rfl Try.underlying33) rfl ?_; exact ⟨rfl, dfi⟩
       ·exact absurd rfl c716
end Go.Proofs.Ytpcladboobfkhaa.PFnWork
