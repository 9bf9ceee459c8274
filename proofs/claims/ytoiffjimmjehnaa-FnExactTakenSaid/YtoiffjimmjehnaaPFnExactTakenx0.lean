-- Written by a program of this session (wip/patch.py turns a copy of the kit's print): the functions that the law reaches, and their walks.
import Derived.Test.YtoiffjimmjehnaaProg
import Derived.Below
import Derived.Deep.Draws
import Derived.Deep.AppendLies
import Derived.Maps.AppendAt
import Derived.OwnWalk
import Derived.Laws.BytesArg
import Derived.Laws.MakeOwn
import Derived.Laws.OwnMore
import Derived.Deep.OwnRows
import Derived.Tactics
import Derived.Lib.ConvBytes
import Derived.Laws.Slices
import Derived.WalkKit
import Derived.KernelRfl
import Derived.RowKit3
import Derived.Deep.LoopGhost
import Derived.Deep.QuietTactic
import Derived.BigQuiet
import Derived.WideLaws
import Derived.Deep.DeepCutAuto
import Derived.Deep.CutBlock
import Derived.Deep.RegionHeld3
import Derived.Laws.Rows
import Derived.Lib.AppendStr
import Derived.ArgAppend
import Derived.Laws.IdiomCopy
import Derived.OrdersHeld
import Derived.Laws.BitsLemmas
import Derived.RowKit
import Derived.Test.YtoiffjimmjehnaaWWords
import Derived.Test.YtoiffjimmjehnaaWLast
import Derived.Test.YtoiffjimmjehnaaWTab
import Derived.Test.YtoiffjimmjehnaaWFour
import Derived.Test.YtoiffjimmjehnaaWQPut
import Derived.Test.YtoiffjimmjehnaaWApart
import Derived.Test.YtoiffjimmjehnaaWArr
import Derived.Test.YtoiffjimmjehnaaWZeros
import Derived.Test.YtoiffjimmjehnaaWFoot
import Derived.Test.YtoiffjimmjehnaaWKept
import Derived.Test.YtoiffjimmjehnaaWShare
import Derived.Test.YtoiffjimmjehnaaWN
import Derived.Test.YtoiffjimmjehnaaWFootNe
import Derived.Test.YtoiffjimmjehnaaWAt
import Derived.Test.YtoiffjimmjehnaaWEqStruct
import Derived.Test.YtoiffjimmjehnaaWRepsOne
import Derived.Test.YtoiffjimmjehnaaWInv
import Derived.Test.YtoiffjimmjehnaaWInvWords
import Derived.Test.YtoiffjimmjehnaaWGuard
import Derived.Test.YtoiffjimmjehnaaWNEv
import Derived.Test.YtoiffjimmjehnaaWMore
namespace Go.Proofs.Ytoiffjimmjehnaa.PFnExactTaken
open Go.RowKit Go.Proofs.YtoiffjimmjehnaaW.PrintWords Go.Proofs.YtoiffjimmjehnaaW.PrintLast Go.Proofs.YtoiffjimmjehnaaW.PrintMore
attribute [local go_sem] max2_int min2_int max_two min_two max_three min_three max_four min_four   -- for this text's walks alone
set_option linter.unusedVariables false
set_option linter.unusedSimpArgs false



def errW : Option Int → Value
  | none => .nilIface
  | some c => .iface 0 (.int .i64 c)
theorem errW_none : errW none = .nilIface := rfl
theorem errW_some (c : Int) : errW (some c) = .iface 0 (.int .i64 c) := rfl

-- the values' own types

end Go.Proofs.Ytoiffjimmjehnaa.PFnExactTaken
