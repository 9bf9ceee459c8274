/-
  No cell of these rows narrows 'for every input' (looked for: loops, veiled, ifaces, maps, wideKeys, modest, calm, conditions, laid).
  DERIVED. THE GIVEN ROWS OF THIS SEAT. 7 by the template 'for every input the law returns true; each argument reads behind the call as it read before'; 0 by the template 'total and deterministic' (their statements: YtopbiecjfhfhdaaTotals.lean).
  GIVEN WITH THE SEED: the statements are not yours to turn. If you find one false, say at which input.
  Laid BY PROGRAM, IN A SANDBOX (cutbox-rows.mjs): the forced cells as the released guide's own fill.sh prints them over the translation 4be1c3f480172d9d… (all of the seat's roots in one cut). By AI agents, Wed Nov 11 2026. No macro, syntax, notation, axiom, sorry.
-/
import Derived.Test.YtopbiecjfhfhdaaChecked
import GoSem.Claim
import GoSem.ClaimJoined
import GoSem.ClaimMapViews
import Derived.JoinedTies
import Derived.KernelRfl
namespace Go.Proofs.Ytopbiecjfhfhdaa
/- THE CELL 'sum', in the pinned program and in every row, IS THE sha256 OF THE DUMP (.gsa) THAT YtopbiecjfhfhdaaProg.lean LOADS. Nothing in Lean hashes anything: it is a label: what it is worth is what the hold of that sum in a sandbox is worth. -/
noncomputable def Try.pinned : Pinned := { name := "ytopbiecjfhfhdaa", sum := "4be1c3f480172d9de535a3eaed89b8c8a31f3c86a646b1755f0326ca2ab400af", checked := Try.checked }
namespace Rows
def none {H : Type} : Left H := { results := [], args := [] }

/-- 'laws.FnExactSets': WHATEVER THE INPUT: true; the input reads as it did. -/
def fnExactSetsSpec : ChangeSpec := { name := "fnExactSets", fn := fun _ => fun
  | [d] => { results := [.lit (.bool true)], args := [d] }
  | _ => none }
def fnExactSetsRow : OpenClaim := { program := "ytopbiecjfhfhdaa", sum := "4be1c3f480172d9de535a3eaed89b8c8a31f3c86a646b1755f0326ca2ab400af", func := "loop.example/g00249/laws.FnExactSets", spec := "fnExactSets", apart := false }
def FnExactSetsSaid : Prop := fnExactSetsRow.holds Try.pinned (OpenSpec.ofChange fnExactSetsSpec)

/-- ITS FALSE NEIGHBOUR: 'it returns false'. Refute it at one input. -/
def fnExactSetsWrong : ChangeSpec := { name := "fnExactSets", fn := fun _ => fun
  | [d] => { results := [.lit (.bool false)], args := [d] }
  | _ => none }
def FnExactSetsWrongFalsely : Prop := fnExactSetsRow.holds Try.pinned (OpenSpec.ofChange fnExactSetsWrong)

/-- 'laws.FnExactInsOk': WHATEVER THE INPUT: true; the input reads as it did. -/
def fnExactInsOkSpec : ChangeSpec := { name := "fnExactInsOk", fn := fun _ => fun
  | [d] => { results := [.lit (.bool true)], args := [d] }
  | _ => none }
def fnExactInsOkRow : OpenClaim := { program := "ytopbiecjfhfhdaa", sum := "4be1c3f480172d9de535a3eaed89b8c8a31f3c86a646b1755f0326ca2ab400af", func := "loop.example/g00249/laws.FnExactInsOk", spec := "fnExactInsOk", apart := false }
def FnExactInsOkSaid : Prop := fnExactInsOkRow.holds Try.pinned (OpenSpec.ofChange fnExactInsOkSpec)

/-- ITS FALSE NEIGHBOUR: 'it returns false'. Refute it at one input. -/
def fnExactInsOkWrong : ChangeSpec := { name := "fnExactInsOk", fn := fun _ => fun
  | [d] => { results := [.lit (.bool false)], args := [d] }
  | _ => none }
def FnExactInsOkWrongFalsely : Prop := fnExactInsOkRow.holds Try.pinned (OpenSpec.ofChange fnExactInsOkWrong)

/-- 'laws.FnExactWord32': WHATEVER THE INPUT: true; the input reads as it did. -/
def fnExactWord32Spec : ChangeSpec := { name := "fnExactWord32", fn := fun _ => fun
  | [d] => { results := [.lit (.bool true)], args := [d] }
  | _ => none }
def fnExactWord32Row : OpenClaim := { program := "ytopbiecjfhfhdaa", sum := "4be1c3f480172d9de535a3eaed89b8c8a31f3c86a646b1755f0326ca2ab400af", func := "loop.example/g00249/laws.FnExactWord32", spec := "fnExactWord32", apart := false }
def FnExactWord32Said : Prop := fnExactWord32Row.holds Try.pinned (OpenSpec.ofChange fnExactWord32Spec)

/-- ITS FALSE NEIGHBOUR: 'it returns false'. Refute it at one input. -/
def fnExactWord32Wrong : ChangeSpec := { name := "fnExactWord32", fn := fun _ => fun
  | [d] => { results := [.lit (.bool false)], args := [d] }
  | _ => none }
def FnExactWord32WrongFalsely : Prop := fnExactWord32Row.holds Try.pinned (OpenSpec.ofChange fnExactWord32Wrong)

/-- 'laws.FnExactInsOf': WHATEVER THE INPUT: true; the input reads as it did. -/
def fnExactInsOfSpec : ChangeSpec := { name := "fnExactInsOf", fn := fun _ => fun
  | [d] => { results := [.lit (.bool true)], args := [d] }
  | _ => none }
def fnExactInsOfRow : OpenClaim := { program := "ytopbiecjfhfhdaa", sum := "4be1c3f480172d9de535a3eaed89b8c8a31f3c86a646b1755f0326ca2ab400af", func := "loop.example/g00249/laws.FnExactInsOf", spec := "fnExactInsOf", apart := false }
def FnExactInsOfSaid : Prop := fnExactInsOfRow.holds Try.pinned (OpenSpec.ofChange fnExactInsOfSpec)

/-- ITS FALSE NEIGHBOUR: 'it returns false'. Refute it at one input. -/
def fnExactInsOfWrong : ChangeSpec := { name := "fnExactInsOf", fn := fun _ => fun
  | [d] => { results := [.lit (.bool false)], args := [d] }
  | _ => none }
def FnExactInsOfWrongFalsely : Prop := fnExactInsOfRow.holds Try.pinned (OpenSpec.ofChange fnExactInsOfWrong)

/-- 'laws.FnExactCodeOk': WHATEVER THE INPUT: true; the input reads as it did. -/
def fnExactCodeOkSpec : ChangeSpec := { name := "fnExactCodeOk", fn := fun _ => fun
  | [d] => { results := [.lit (.bool true)], args := [d] }
  | _ => none }
def fnExactCodeOkRow : OpenClaim := { program := "ytopbiecjfhfhdaa", sum := "4be1c3f480172d9de535a3eaed89b8c8a31f3c86a646b1755f0326ca2ab400af", func := "loop.example/g00249/laws.FnExactCodeOk", spec := "fnExactCodeOk", unfollowed := true, recurses := true, apart := false }
def FnExactCodeOkSaid : Prop := fnExactCodeOkRow.holds Try.pinned (OpenSpec.ofChange fnExactCodeOkSpec)

/-- ITS FALSE NEIGHBOUR: 'it returns false'. Refute it at one input. -/
def fnExactCodeOkWrong : ChangeSpec := { name := "fnExactCodeOk", fn := fun _ => fun
  | [d] => { results := [.lit (.bool false)], args := [d] }
  | _ => none }
def FnExactCodeOkWrongFalsely : Prop := fnExactCodeOkRow.holds Try.pinned (OpenSpec.ofChange fnExactCodeOkWrong)

/-- 'laws.FnCodes': WHATEVER THE INPUT: true; the input reads as it did. -/
def fnCodesSpec : ChangeSpec := { name := "fnCodes", fn := fun _ => fun
  | [d] => { results := [.lit (.bool true)], args := [d] }
  | _ => none }
def fnCodesRow : OpenClaim := { program := "ytopbiecjfhfhdaa", sum := "4be1c3f480172d9de535a3eaed89b8c8a31f3c86a646b1755f0326ca2ab400af", func := "loop.example/g00249/laws.FnCodes", spec := "fnCodes", unfollowed := true, recurses := true, apart := false }
def FnCodesSaid : Prop := fnCodesRow.holds Try.pinned (OpenSpec.ofChange fnCodesSpec)

/-- ITS FALSE NEIGHBOUR: 'it returns false'. Refute it at one input. -/
def fnCodesWrong : ChangeSpec := { name := "fnCodes", fn := fun _ => fun
  | [d] => { results := [.lit (.bool false)], args := [d] }
  | _ => none }
def FnCodesWrongFalsely : Prop := fnCodesRow.holds Try.pinned (OpenSpec.ofChange fnCodesWrong)

/-- 'laws.FnExactFetch': WHATEVER THE INPUT: true; the input reads as it did. -/
def fnExactFetchSpec : ChangeSpec := { name := "fnExactFetch", fn := fun _ => fun
  | [d1, d2] => { results := [.lit (.bool true)], args := [d1, d2] }
  | _ => none }
def fnExactFetchRow : OpenClaim := { program := "ytopbiecjfhfhdaa", sum := "4be1c3f480172d9de535a3eaed89b8c8a31f3c86a646b1755f0326ca2ab400af", func := "loop.example/g00249/laws.FnExactFetch", spec := "fnExactFetch", apart := false }
def FnExactFetchSaid : Prop := fnExactFetchRow.holds Try.pinned (OpenSpec.ofChange fnExactFetchSpec)

/-- ITS FALSE NEIGHBOUR: 'it returns false'. Refute it at one input. -/
def fnExactFetchWrong : ChangeSpec := { name := "fnExactFetch", fn := fun _ => fun
  | [d1, d2] => { results := [.lit (.bool false)], args := [d1, d2] }
  | _ => none }
def FnExactFetchWrongFalsely : Prop := fnExactFetchRow.holds Try.pinned (OpenSpec.ofChange fnExactFetchWrong)

/- THE SECOND FORM. 'bulk': how many values and letters a reading holds, each counted each time it is reached (what is shared counts as often as it is met; a slice's spare places count too). A statement '..UptoSaid' is the law's where the arguments, and the package variables that the reading takes, are together of bulk at most 1048576: NARROWER than '..Said'. Prove '..Said' where nothing that the law and all that it calls make is longer than what came in: it says more and counts as full. Else prove '..UptoSaid'. A law counts once. -/
mutual
def uptoBulk {H : Type} : DataW H → Nat
  | .lit (.string bytes) => bytes.length + 1
  | .lit _ => 1
  | .nil => 1
  | .ptr d => uptoBulk d + 1
  | .slice elems spare => uptoBulkAll elems + uptoBulkAll spare + 1
  | .agg parts => uptoBulkAll parts + 1
  | .iface _ d => uptoBulk d + 1
  | .map entries => uptoBulkEntries entries + 1
  | .held _ => 1
def uptoBulkAll {H : Type} : List (DataW H) → Nat
  | [] => 0
  | d :: r => uptoBulk d + uptoBulkAll r
def uptoBulkEntries {H : Type} : List (Lit × DataW H) → Nat
  | [] => 0
  | x :: r => uptoBulkEntry x + uptoBulkEntries r
def uptoBulkEntry {H : Type} : Lit × DataW H → Nat
  | (.string bytes, d) => bytes.length + uptoBulk d + 1
  | (_, d) => uptoBulk d + 1
 end
def uptoSmall : (H : Type) → List (DataW H) → Bool := fun _ ds => decide (uptoBulkAll ds ≤ 1048576)
def OpenSpec.upto (s : _root_.Go.ChangeSpec) : _root_.Go.OpenSpec := { _root_.Go.OpenSpec.ofChange s with cond := some uptoSmall }

/-- 'laws.FnExactSets', WHERE WHAT IT READS IS OF BULK AT MOST 1048576: true; the input reads as it did. -/
def fnExactSetsUptoRow : OpenClaim := { program := "ytopbiecjfhfhdaa", sum := "4be1c3f480172d9de535a3eaed89b8c8a31f3c86a646b1755f0326ca2ab400af", func := "loop.example/g00249/laws.FnExactSets", spec := "fnExactSets", apart := false, narrowed := true }
def FnExactSetsUptoSaid : Prop := fnExactSetsUptoRow.holds Try.pinned (OpenSpec.upto fnExactSetsSpec)

/-- 'laws.FnExactInsOk', WHERE WHAT IT READS IS OF BULK AT MOST 1048576: true; the input reads as it did. -/
def fnExactInsOkUptoRow : OpenClaim := { program := "ytopbiecjfhfhdaa", sum := "4be1c3f480172d9de535a3eaed89b8c8a31f3c86a646b1755f0326ca2ab400af", func := "loop.example/g00249/laws.FnExactInsOk", spec := "fnExactInsOk", apart := false, narrowed := true }
def FnExactInsOkUptoSaid : Prop := fnExactInsOkUptoRow.holds Try.pinned (OpenSpec.upto fnExactInsOkSpec)

/-- 'laws.FnExactWord32', WHERE WHAT IT READS IS OF BULK AT MOST 1048576: true; the input reads as it did. -/
def fnExactWord32UptoRow : OpenClaim := { program := "ytopbiecjfhfhdaa", sum := "4be1c3f480172d9de535a3eaed89b8c8a31f3c86a646b1755f0326ca2ab400af", func := "loop.example/g00249/laws.FnExactWord32", spec := "fnExactWord32", apart := false, narrowed := true }
def FnExactWord32UptoSaid : Prop := fnExactWord32UptoRow.holds Try.pinned (OpenSpec.upto fnExactWord32Spec)

/-- 'laws.FnExactInsOf', WHERE WHAT IT READS IS OF BULK AT MOST 1048576: true; the input reads as it did. -/
def fnExactInsOfUptoRow : OpenClaim := { program := "ytopbiecjfhfhdaa", sum := "4be1c3f480172d9de535a3eaed89b8c8a31f3c86a646b1755f0326ca2ab400af", func := "loop.example/g00249/laws.FnExactInsOf", spec := "fnExactInsOf", apart := false, narrowed := true }
def FnExactInsOfUptoSaid : Prop := fnExactInsOfUptoRow.holds Try.pinned (OpenSpec.upto fnExactInsOfSpec)

/-- 'laws.FnExactCodeOk', WHERE WHAT IT READS IS OF BULK AT MOST 1048576: true; the input reads as it did. -/
def fnExactCodeOkUptoRow : OpenClaim := { program := "ytopbiecjfhfhdaa", sum := "4be1c3f480172d9de535a3eaed89b8c8a31f3c86a646b1755f0326ca2ab400af", func := "loop.example/g00249/laws.FnExactCodeOk", spec := "fnExactCodeOk", unfollowed := true, recurses := true, apart := false, narrowed := true }
def FnExactCodeOkUptoSaid : Prop := fnExactCodeOkUptoRow.holds Try.pinned (OpenSpec.upto fnExactCodeOkSpec)

/-- 'laws.FnCodes', WHERE WHAT IT READS IS OF BULK AT MOST 1048576: true; the input reads as it did. -/
def fnCodesUptoRow : OpenClaim := { program := "ytopbiecjfhfhdaa", sum := "4be1c3f480172d9de535a3eaed89b8c8a31f3c86a646b1755f0326ca2ab400af", func := "loop.example/g00249/laws.FnCodes", spec := "fnCodes", unfollowed := true, recurses := true, apart := false, narrowed := true }
def FnCodesUptoSaid : Prop := fnCodesUptoRow.holds Try.pinned (OpenSpec.upto fnCodesSpec)

/-- 'laws.FnExactFetch', WHERE WHAT IT READS IS OF BULK AT MOST 1048576: true; the input reads as it did. -/
def fnExactFetchUptoRow : OpenClaim := { program := "ytopbiecjfhfhdaa", sum := "4be1c3f480172d9de535a3eaed89b8c8a31f3c86a646b1755f0326ca2ab400af", func := "loop.example/g00249/laws.FnExactFetch", spec := "fnExactFetch", apart := false, narrowed := true }
def FnExactFetchUptoSaid : Prop := fnExactFetchUptoRow.holds Try.pinned (OpenSpec.upto fnExactFetchSpec)

end Rows
end Go.Proofs.Ytopbiecjfhfhdaa
