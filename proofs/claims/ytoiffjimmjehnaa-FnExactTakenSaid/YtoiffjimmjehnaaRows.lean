/-
  No cell of these rows narrows 'for every input' (looked for: loops, veiled, ifaces, maps, wideKeys, modest, calm, conditions, laid).
  DERIVED. THE GIVEN ROWS OF THIS SEAT. 12 by the template 'for every input the law returns true; each argument reads behind the call as it read before'; 0 by the template 'total and deterministic' (their statements: YtoiffjimmjehnaaTotals.lean).
  GIVEN WITH THE SEED: the statements are not yours to turn. If you find one false, say at which input.
  Laid BY PROGRAM, IN A SANDBOX (cutbox-rows.mjs): the forced cells as the released guide's own fill.sh prints them over the translation 20753cf94f3c6a86… (all of the seat's roots in one cut). By AI agents, Wed Nov 11 2026. No macro, syntax, notation, axiom, sorry.
-/
import Derived.Test.YtoiffjimmjehnaaChecked
import GoSem.Claim
import GoSem.ClaimJoined
import GoSem.ClaimMapViews
import Derived.JoinedTies
import Derived.KernelRfl
namespace Go.Proofs.Ytoiffjimmjehnaa
/- THE CELL 'sum', in the pinned program and in every row, IS THE sha256 OF THE DUMP (.gsa) THAT YtoiffjimmjehnaaProg.lean LOADS. Nothing in Lean hashes anything: it is a label: what it is worth is what the hold of that sum in a sandbox is worth. -/
noncomputable def Try.pinned : Pinned := { name := "ytoiffjimmjehnaa", sum := "20753cf94f3c6a8605e348a5c3f1fd36564a62d4266a8b95adab8b3adbca429f", checked := Try.checked }
namespace Rows
def none {H : Type} : Left H := { results := [], args := [] }

/-- 'laws.FnExactConstants': WHATEVER THE INPUT: true; the input reads as it did. -/
def fnExactConstantsSpec : ChangeSpec := { name := "fnExactConstants", fn := fun _ => fun
  | [] => { results := [.lit (.bool true)], args := [] }
  | _ => none }
def fnExactConstantsRow : OpenClaim := { program := "ytoiffjimmjehnaa", sum := "20753cf94f3c6a8605e348a5c3f1fd36564a62d4266a8b95adab8b3adbca429f", func := "loop.example/g00249/laws.FnExactConstants", spec := "fnExactConstants", apart := false }
def FnExactConstantsSaid : Prop := fnExactConstantsRow.holds Try.pinned (OpenSpec.ofChange fnExactConstantsSpec)

/-- ITS FALSE NEIGHBOUR: 'it returns false'. Refute it at one input. -/
def fnExactConstantsWrong : ChangeSpec := { name := "fnExactConstants", fn := fun _ => fun
  | [] => { results := [.lit (.bool false)], args := [] }
  | _ => none }
def FnExactConstantsWrongFalsely : Prop := fnExactConstantsRow.holds Try.pinned (OpenSpec.ofChange fnExactConstantsWrong)

/-- 'laws.FnExactBoundsOk': WHATEVER THE INPUT: true; the input reads as it did. -/
def fnExactBoundsOkSpec : ChangeSpec := { name := "fnExactBoundsOk", fn := fun _ => fun
  | [d1, d2] => { results := [.lit (.bool true)], args := [d1, d2] }
  | _ => none }
def fnExactBoundsOkRow : OpenClaim := { program := "ytoiffjimmjehnaa", sum := "20753cf94f3c6a8605e348a5c3f1fd36564a62d4266a8b95adab8b3adbca429f", func := "loop.example/g00249/laws.FnExactBoundsOk", spec := "fnExactBoundsOk", apart := false }
def FnExactBoundsOkSaid : Prop := fnExactBoundsOkRow.holds Try.pinned (OpenSpec.ofChange fnExactBoundsOkSpec)

/-- ITS FALSE NEIGHBOUR: 'it returns false'. Refute it at one input. -/
def fnExactBoundsOkWrong : ChangeSpec := { name := "fnExactBoundsOk", fn := fun _ => fun
  | [d1, d2] => { results := [.lit (.bool false)], args := [d1, d2] }
  | _ => none }
def FnExactBoundsOkWrongFalsely : Prop := fnExactBoundsOkRow.holds Try.pinned (OpenSpec.ofChange fnExactBoundsOkWrong)

/-- 'laws.FnExactRoot': WHATEVER THE INPUT: true; the input reads as it did. -/
def fnExactRootSpec : ChangeSpec := { name := "fnExactRoot", fn := fun _ => fun
  | [] => { results := [.lit (.bool true)], args := [] }
  | _ => none }
def fnExactRootRow : OpenClaim := { program := "ytoiffjimmjehnaa", sum := "20753cf94f3c6a8605e348a5c3f1fd36564a62d4266a8b95adab8b3adbca429f", func := "loop.example/g00249/laws.FnExactRoot", spec := "fnExactRoot", apart := false }
def FnExactRootSaid : Prop := fnExactRootRow.holds Try.pinned (OpenSpec.ofChange fnExactRootSpec)

/-- ITS FALSE NEIGHBOUR: 'it returns false'. Refute it at one input. -/
def fnExactRootWrong : ChangeSpec := { name := "fnExactRoot", fn := fun _ => fun
  | [] => { results := [.lit (.bool false)], args := [] }
  | _ => none }
def FnExactRootWrongFalsely : Prop := fnExactRootRow.holds Try.pinned (OpenSpec.ofChange fnExactRootWrong)

/-- 'laws.FnExactMayPut': WHATEVER THE INPUT: true; the input reads as it did. -/
def fnExactMayPutSpec : ChangeSpec := { name := "fnExactMayPut", fn := fun _ => fun
  | [d1, d2] => { results := [.lit (.bool true)], args := [d1, d2] }
  | _ => none }
def fnExactMayPutRow : OpenClaim := { program := "ytoiffjimmjehnaa", sum := "20753cf94f3c6a8605e348a5c3f1fd36564a62d4266a8b95adab8b3adbca429f", func := "loop.example/g00249/laws.FnExactMayPut", spec := "fnExactMayPut", apart := false }
def FnExactMayPutSaid : Prop := fnExactMayPutRow.holds Try.pinned (OpenSpec.ofChange fnExactMayPutSpec)

/-- ITS FALSE NEIGHBOUR: 'it returns false'. Refute it at one input. -/
def fnExactMayPutWrong : ChangeSpec := { name := "fnExactMayPut", fn := fun _ => fun
  | [d1, d2] => { results := [.lit (.bool false)], args := [d1, d2] }
  | _ => none }
def FnExactMayPutWrongFalsely : Prop := fnExactMayPutRow.holds Try.pinned (OpenSpec.ofChange fnExactMayPutWrong)

/-- 'laws.FnExactUnpack': WHATEVER THE INPUT: true; the input reads as it did. -/
def fnExactUnpackSpec : ChangeSpec := { name := "fnExactUnpack", fn := fun _ => fun
  | [d] => { results := [.lit (.bool true)], args := [d] }
  | _ => none }
def fnExactUnpackRow : OpenClaim := { program := "ytoiffjimmjehnaa", sum := "20753cf94f3c6a8605e348a5c3f1fd36564a62d4266a8b95adab8b3adbca429f", func := "loop.example/g00249/laws.FnExactUnpack", spec := "fnExactUnpack", apart := false }
def FnExactUnpackSaid : Prop := fnExactUnpackRow.holds Try.pinned (OpenSpec.ofChange fnExactUnpackSpec)

/-- ITS FALSE NEIGHBOUR: 'it returns false'. Refute it at one input. -/
def fnExactUnpackWrong : ChangeSpec := { name := "fnExactUnpack", fn := fun _ => fun
  | [d] => { results := [.lit (.bool false)], args := [d] }
  | _ => none }
def FnExactUnpackWrongFalsely : Prop := fnExactUnpackRow.holds Try.pinned (OpenSpec.ofChange fnExactUnpackWrong)

/-- 'laws.FnExactPlain': WHATEVER THE INPUT: true; the input reads as it did. -/
def fnExactPlainSpec : ChangeSpec := { name := "fnExactPlain", fn := fun _ => fun
  | [d] => { results := [.lit (.bool true)], args := [d] }
  | _ => none }
def fnExactPlainRow : OpenClaim := { program := "ytoiffjimmjehnaa", sum := "20753cf94f3c6a8605e348a5c3f1fd36564a62d4266a8b95adab8b3adbca429f", func := "loop.example/g00249/laws.FnExactPlain", spec := "fnExactPlain", apart := false }
def FnExactPlainSaid : Prop := fnExactPlainRow.holds Try.pinned (OpenSpec.ofChange fnExactPlainSpec)

/-- ITS FALSE NEIGHBOUR: 'it returns false'. Refute it at one input. -/
def fnExactPlainWrong : ChangeSpec := { name := "fnExactPlain", fn := fun _ => fun
  | [d] => { results := [.lit (.bool false)], args := [d] }
  | _ => none }
def FnExactPlainWrongFalsely : Prop := fnExactPlainRow.holds Try.pinned (OpenSpec.ofChange fnExactPlainWrong)

/-- 'laws.FnBounds': WHATEVER THE INPUT: true; the input reads as it did. -/
def fnBoundsSpec : ChangeSpec := { name := "fnBounds", fn := fun _ => fun
  | [d] => { results := [.lit (.bool true)], args := [d] }
  | _ => none }
def fnBoundsRow : OpenClaim := { program := "ytoiffjimmjehnaa", sum := "20753cf94f3c6a8605e348a5c3f1fd36564a62d4266a8b95adab8b3adbca429f", func := "loop.example/g00249/laws.FnBounds", spec := "fnBounds", apart := false }
def FnBoundsSaid : Prop := fnBoundsRow.holds Try.pinned (OpenSpec.ofChange fnBoundsSpec)

/-- ITS FALSE NEIGHBOUR: 'it returns false'. Refute it at one input. -/
def fnBoundsWrong : ChangeSpec := { name := "fnBounds", fn := fun _ => fun
  | [d] => { results := [.lit (.bool false)], args := [d] }
  | _ => none }
def FnBoundsWrongFalsely : Prop := fnBoundsRow.holds Try.pinned (OpenSpec.ofChange fnBoundsWrong)

/-- 'laws.FnExactPack': WHATEVER THE INPUT: true; the input reads as it did. -/
def fnExactPackSpec : ChangeSpec := { name := "fnExactPack", fn := fun _ => fun
  | [d1, d2] => { results := [.lit (.bool true)], args := [d1, d2] }
  | _ => none }
def fnExactPackRow : OpenClaim := { program := "ytoiffjimmjehnaa", sum := "20753cf94f3c6a8605e348a5c3f1fd36564a62d4266a8b95adab8b3adbca429f", func := "loop.example/g00249/laws.FnExactPack", spec := "fnExactPack", apart := false }
def FnExactPackSaid : Prop := fnExactPackRow.holds Try.pinned (OpenSpec.ofChange fnExactPackSpec)

/-- ITS FALSE NEIGHBOUR: 'it returns false'. Refute it at one input. -/
def fnExactPackWrong : ChangeSpec := { name := "fnExactPack", fn := fun _ => fun
  | [d1, d2] => { results := [.lit (.bool false)], args := [d1, d2] }
  | _ => none }
def FnExactPackWrongFalsely : Prop := fnExactPackRow.holds Try.pinned (OpenSpec.ofChange fnExactPackWrong)

/-- 'laws.FnExactBare': WHATEVER THE INPUT: true; the input reads as it did. -/
def fnExactBareSpec : ChangeSpec := { name := "fnExactBare", fn := fun _ => fun
  | [d] => { results := [.lit (.bool true)], args := [d] }
  | _ => none }
def fnExactBareRow : OpenClaim := { program := "ytoiffjimmjehnaa", sum := "20753cf94f3c6a8605e348a5c3f1fd36564a62d4266a8b95adab8b3adbca429f", func := "loop.example/g00249/laws.FnExactBare", spec := "fnExactBare", apart := false }
def FnExactBareSaid : Prop := fnExactBareRow.holds Try.pinned (OpenSpec.ofChange fnExactBareSpec)

/-- ITS FALSE NEIGHBOUR: 'it returns false'. Refute it at one input. -/
def fnExactBareWrong : ChangeSpec := { name := "fnExactBare", fn := fun _ => fun
  | [d] => { results := [.lit (.bool false)], args := [d] }
  | _ => none }
def FnExactBareWrongFalsely : Prop := fnExactBareRow.holds Try.pinned (OpenSpec.ofChange fnExactBareWrong)

/-- 'laws.FnExactTaken': WHATEVER THE INPUT: true; the input reads as it did. -/
def fnExactTakenSpec : ChangeSpec := { name := "fnExactTaken", fn := fun _ => fun
  | [d1, d2] => { results := [.lit (.bool true)], args := [d1, d2] }
  | _ => none }
def fnExactTakenRow : OpenClaim := { program := "ytoiffjimmjehnaa", sum := "20753cf94f3c6a8605e348a5c3f1fd36564a62d4266a8b95adab8b3adbca429f", func := "loop.example/g00249/laws.FnExactTaken", spec := "fnExactTaken", apart := false }
def FnExactTakenSaid : Prop := fnExactTakenRow.holds Try.pinned (OpenSpec.ofChange fnExactTakenSpec)

/-- ITS FALSE NEIGHBOUR: 'it returns false'. Refute it at one input. -/
def fnExactTakenWrong : ChangeSpec := { name := "fnExactTaken", fn := fun _ => fun
  | [d1, d2] => { results := [.lit (.bool false)], args := [d1, d2] }
  | _ => none }
def FnExactTakenWrongFalsely : Prop := fnExactTakenRow.holds Try.pinned (OpenSpec.ofChange fnExactTakenWrong)

/-- 'laws.FnExactSets': WHATEVER THE INPUT: true; the input reads as it did. -/
def fnExactSetsSpec : ChangeSpec := { name := "fnExactSets", fn := fun _ => fun
  | [d] => { results := [.lit (.bool true)], args := [d] }
  | _ => none }
def fnExactSetsRow : OpenClaim := { program := "ytoiffjimmjehnaa", sum := "20753cf94f3c6a8605e348a5c3f1fd36564a62d4266a8b95adab8b3adbca429f", func := "loop.example/g00249/laws.FnExactSets", spec := "fnExactSets", apart := false }
def FnExactSetsSaid : Prop := fnExactSetsRow.holds Try.pinned (OpenSpec.ofChange fnExactSetsSpec)

/-- ITS FALSE NEIGHBOUR: 'it returns false'. Refute it at one input. -/
def fnExactSetsWrong : ChangeSpec := { name := "fnExactSets", fn := fun _ => fun
  | [d] => { results := [.lit (.bool false)], args := [d] }
  | _ => none }
def FnExactSetsWrongFalsely : Prop := fnExactSetsRow.holds Try.pinned (OpenSpec.ofChange fnExactSetsWrong)

/-- 'laws.FnExactWide': WHATEVER THE INPUT: true; the input reads as it did. -/
def fnExactWideSpec : ChangeSpec := { name := "fnExactWide", fn := fun _ => fun
  | [d1, d2] => { results := [.lit (.bool true)], args := [d1, d2] }
  | _ => none }
def fnExactWideRow : OpenClaim := { program := "ytoiffjimmjehnaa", sum := "20753cf94f3c6a8605e348a5c3f1fd36564a62d4266a8b95adab8b3adbca429f", func := "loop.example/g00249/laws.FnExactWide", spec := "fnExactWide", apart := false }
def FnExactWideSaid : Prop := fnExactWideRow.holds Try.pinned (OpenSpec.ofChange fnExactWideSpec)

/-- ITS FALSE NEIGHBOUR: 'it returns false'. Refute it at one input. -/
def fnExactWideWrong : ChangeSpec := { name := "fnExactWide", fn := fun _ => fun
  | [d1, d2] => { results := [.lit (.bool false)], args := [d1, d2] }
  | _ => none }
def FnExactWideWrongFalsely : Prop := fnExactWideRow.holds Try.pinned (OpenSpec.ofChange fnExactWideWrong)

/- THE SECOND FORM. 'bulk': how many values and letters a reading holds, each counted each time it is reached (what is shared counts as often as it is met; a slice's spare places count too). A statement '..UptoSaid' is the law's where the arguments, and the package variables that the reading takes, are together of bulk at most 1048576: NARROWER than '..Said'. Prove '..Said' where nothing that the law and all that it calls make is longer than what came in: it says more and counts as full. Else prove '..UptoSaid'. A law counts once. -/
mutual
def uptoBulk {H : Type} : DataW H → Nat
  | .lit (.string bytes) => bytes.length + 1
  | .lit _ => 1
  | .nil => 1
  | .ptr d => uptoBulk d + 1
  | .slice elems spare => uptoBulkAll elems + uptoBulkAll spare + 1
  | .agg parts => uptoBulkAll parts + 1
  | .iface _ d => uptoBulk d + 1
  | .map entries => uptoBulkEntries entries + 1
  | .held _ => 1
def uptoBulkAll {H : Type} : List (DataW H) → Nat
  | [] => 0
  | d :: r => uptoBulk d + uptoBulkAll r
def uptoBulkEntries {H : Type} : List (Lit × DataW H) → Nat
  | [] => 0
  | x :: r => uptoBulkEntry x + uptoBulkEntries r
def uptoBulkEntry {H : Type} : Lit × DataW H → Nat
  | (.string bytes, d) => bytes.length + uptoBulk d + 1
  | (_, d) => uptoBulk d + 1
 end
def uptoSmall : (H : Type) → List (DataW H) → Bool := fun _ ds => decide (uptoBulkAll ds ≤ 1048576)
def OpenSpec.upto (s : _root_.Go.ChangeSpec) : _root_.Go.OpenSpec := { _root_.Go.OpenSpec.ofChange s with cond := some uptoSmall }

/-- 'laws.FnExactConstants', WHERE WHAT IT READS IS OF BULK AT MOST 1048576: true; the input reads as it did. -/
def fnExactConstantsUptoRow : OpenClaim := { program := "ytoiffjimmjehnaa", sum := "20753cf94f3c6a8605e348a5c3f1fd36564a62d4266a8b95adab8b3adbca429f", func := "loop.example/g00249/laws.FnExactConstants", spec := "fnExactConstants", apart := false, narrowed := true }
def FnExactConstantsUptoSaid : Prop := fnExactConstantsUptoRow.holds Try.pinned (OpenSpec.upto fnExactConstantsSpec)

/-- 'laws.FnExactBoundsOk', WHERE WHAT IT READS IS OF BULK AT MOST 1048576: true; the input reads as it did. -/
def fnExactBoundsOkUptoRow : OpenClaim := { program := "ytoiffjimmjehnaa", sum := "20753cf94f3c6a8605e348a5c3f1fd36564a62d4266a8b95adab8b3adbca429f", func := "loop.example/g00249/laws.FnExactBoundsOk", spec := "fnExactBoundsOk", apart := false, narrowed := true }
def FnExactBoundsOkUptoSaid : Prop := fnExactBoundsOkUptoRow.holds Try.pinned (OpenSpec.upto fnExactBoundsOkSpec)

/-- 'laws.FnExactRoot', WHERE WHAT IT READS IS OF BULK AT MOST 1048576: true; the input reads as it did. -/
def fnExactRootUptoRow : OpenClaim := { program := "ytoiffjimmjehnaa", sum := "20753cf94f3c6a8605e348a5c3f1fd36564a62d4266a8b95adab8b3adbca429f", func := "loop.example/g00249/laws.FnExactRoot", spec := "fnExactRoot", apart := false, narrowed := true }
def FnExactRootUptoSaid : Prop := fnExactRootUptoRow.holds Try.pinned (OpenSpec.upto fnExactRootSpec)

/-- 'laws.FnExactMayPut', WHERE WHAT IT READS IS OF BULK AT MOST 1048576: true; the input reads as it did. -/
def fnExactMayPutUptoRow : OpenClaim := { program := "ytoiffjimmjehnaa", sum := "20753cf94f3c6a8605e348a5c3f1fd36564a62d4266a8b95adab8b3adbca429f", func := "loop.example/g00249/laws.FnExactMayPut", spec := "fnExactMayPut", apart := false, narrowed := true }
def FnExactMayPutUptoSaid : Prop := fnExactMayPutUptoRow.holds Try.pinned (OpenSpec.upto fnExactMayPutSpec)

/-- 'laws.FnExactUnpack', WHERE WHAT IT READS IS OF BULK AT MOST 1048576: true; the input reads as it did. -/
def fnExactUnpackUptoRow : OpenClaim := { program := "ytoiffjimmjehnaa", sum := "20753cf94f3c6a8605e348a5c3f1fd36564a62d4266a8b95adab8b3adbca429f", func := "loop.example/g00249/laws.FnExactUnpack", spec := "fnExactUnpack", apart := false, narrowed := true }
def FnExactUnpackUptoSaid : Prop := fnExactUnpackUptoRow.holds Try.pinned (OpenSpec.upto fnExactUnpackSpec)

/-- 'laws.FnExactPlain', WHERE WHAT IT READS IS OF BULK AT MOST 1048576: true; the input reads as it did. -/
def fnExactPlainUptoRow : OpenClaim := { program := "ytoiffjimmjehnaa", sum := "20753cf94f3c6a8605e348a5c3f1fd36564a62d4266a8b95adab8b3adbca429f", func := "loop.example/g00249/laws.FnExactPlain", spec := "fnExactPlain", apart := false, narrowed := true }
def FnExactPlainUptoSaid : Prop := fnExactPlainUptoRow.holds Try.pinned (OpenSpec.upto fnExactPlainSpec)

/-- 'laws.FnBounds', WHERE WHAT IT READS IS OF BULK AT MOST 1048576: true; the input reads as it did. -/
def fnBoundsUptoRow : OpenClaim := { program := "ytoiffjimmjehnaa", sum := "20753cf94f3c6a8605e348a5c3f1fd36564a62d4266a8b95adab8b3adbca429f", func := "loop.example/g00249/laws.FnBounds", spec := "fnBounds", apart := false, narrowed := true }
def FnBoundsUptoSaid : Prop := fnBoundsUptoRow.holds Try.pinned (OpenSpec.upto fnBoundsSpec)

/-- 'laws.FnExactPack', WHERE WHAT IT READS IS OF BULK AT MOST 1048576: true; the input reads as it did. -/
def fnExactPackUptoRow : OpenClaim := { program := "ytoiffjimmjehnaa", sum := "20753cf94f3c6a8605e348a5c3f1fd36564a62d4266a8b95adab8b3adbca429f", func := "loop.example/g00249/laws.FnExactPack", spec := "fnExactPack", apart := false, narrowed := true }
def FnExactPackUptoSaid : Prop := fnExactPackUptoRow.holds Try.pinned (OpenSpec.upto fnExactPackSpec)

/-- 'laws.FnExactBare', WHERE WHAT IT READS IS OF BULK AT MOST 1048576: true; the input reads as it did. -/
def fnExactBareUptoRow : OpenClaim := { program := "ytoiffjimmjehnaa", sum := "20753cf94f3c6a8605e348a5c3f1fd36564a62d4266a8b95adab8b3adbca429f", func := "loop.example/g00249/laws.FnExactBare", spec := "fnExactBare", apart := false, narrowed := true }
def FnExactBareUptoSaid : Prop := fnExactBareUptoRow.holds Try.pinned (OpenSpec.upto fnExactBareSpec)

/-- 'laws.FnExactTaken', WHERE WHAT IT READS IS OF BULK AT MOST 1048576: true; the input reads as it did. -/
def fnExactTakenUptoRow : OpenClaim := { program := "ytoiffjimmjehnaa", sum := "20753cf94f3c6a8605e348a5c3f1fd36564a62d4266a8b95adab8b3adbca429f", func := "loop.example/g00249/laws.FnExactTaken", spec := "fnExactTaken", apart := false, narrowed := true }
def FnExactTakenUptoSaid : Prop := fnExactTakenUptoRow.holds Try.pinned (OpenSpec.upto fnExactTakenSpec)

/-- 'laws.FnExactSets', WHERE WHAT IT READS IS OF BULK AT MOST 1048576: true; the input reads as it did. -/
def fnExactSetsUptoRow : OpenClaim := { program := "ytoiffjimmjehnaa", sum := "20753cf94f3c6a8605e348a5c3f1fd36564a62d4266a8b95adab8b3adbca429f", func := "loop.example/g00249/laws.FnExactSets", spec := "fnExactSets", apart := false, narrowed := true }
def FnExactSetsUptoSaid : Prop := fnExactSetsUptoRow.holds Try.pinned (OpenSpec.upto fnExactSetsSpec)

/-- 'laws.FnExactWide', WHERE WHAT IT READS IS OF BULK AT MOST 1048576: true; the input reads as it did. -/
def fnExactWideUptoRow : OpenClaim := { program := "ytoiffjimmjehnaa", sum := "20753cf94f3c6a8605e348a5c3f1fd36564a62d4266a8b95adab8b3adbca429f", func := "loop.example/g00249/laws.FnExactWide", spec := "fnExactWide", apart := false, narrowed := true }
def FnExactWideUptoSaid : Prop := fnExactWideUptoRow.holds Try.pinned (OpenSpec.upto fnExactWideSpec)

end Rows
end Go.Proofs.Ytoiffjimmjehnaa
