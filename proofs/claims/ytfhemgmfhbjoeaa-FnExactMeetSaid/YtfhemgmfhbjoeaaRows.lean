/-
  No cell of these rows narrows 'for every input' (looked for: loops, veiled, ifaces, maps, wideKeys, modest, calm, conditions, laid).
  DERIVED. THE GIVEN ROWS OF THIS SEAT. 12 by the template 'for every input the law returns true; each argument reads behind the call as it read before'; 0 by the template 'total and deterministic' (their statements: YtfhemgmfhbjoeaaTotals.lean).
  GIVEN WITH THE SEED: the statements are not yours to turn. If you find one false, say at which input.
  Laid BY PROGRAM, IN A SANDBOX (cutbox-rows.mjs): the forced cells as the released guide's own fill.sh prints them over the translation 3f9880b8cf8c4255… (all of the seat's roots in one cut). By AI agents, Wed Nov 11 2026. No macro, syntax, notation, axiom, sorry.
-/
import Derived.Test.YtfhemgmfhbjoeaaChecked
import GoSem.Claim
import GoSem.ClaimJoined
import GoSem.ClaimMapViews
import Derived.JoinedTies
import Derived.KernelRfl
namespace Go.Proofs.Ytfhemgmfhbjoeaa
/- THE CELL 'sum', in the pinned program and in every row, IS THE sha256 OF THE DUMP (.gsa) THAT YtfhemgmfhbjoeaaProg.lean LOADS. Nothing in Lean hashes anything: it is a label: what it is worth is what the hold of that sum in a sandbox is worth. -/
noncomputable def Try.pinned : Pinned := { name := "ytfhemgmfhbjoeaa", sum := "3f9880b8cf8c4255ebe524a8a5c74549c8e2d41a2541983b38d307e2978624ee", checked := Try.checked }
namespace Rows
def none {H : Type} : Left H := { results := [], args := [] }

/-- 'laws.FnExactExact': WHATEVER THE INPUT: true; the input reads as it did. -/
def fnExactExactSpec : ChangeSpec := { name := "fnExactExact", fn := fun _ => fun
  | [d1, d2] => { results := [.lit (.bool true)], args := [d1, d2] }
  | _ => none }
def fnExactExactRow : OpenClaim := { program := "ytfhemgmfhbjoeaa", sum := "3f9880b8cf8c4255ebe524a8a5c74549c8e2d41a2541983b38d307e2978624ee", func := "loop.example/g00249/laws.FnExactExact", spec := "fnExactExact", apart := false }
def FnExactExactSaid : Prop := fnExactExactRow.holds Try.pinned (OpenSpec.ofChange fnExactExactSpec)

/-- ITS FALSE NEIGHBOUR: 'it returns false'. Refute it at one input. -/
def fnExactExactWrong : ChangeSpec := { name := "fnExactExact", fn := fun _ => fun
  | [d1, d2] => { results := [.lit (.bool false)], args := [d1, d2] }
  | _ => none }
def FnExactExactWrongFalsely : Prop := fnExactExactRow.holds Try.pinned (OpenSpec.ofChange fnExactExactWrong)

/-- 'laws.FnExactKeyOk': WHATEVER THE INPUT: true; the input reads as it did. -/
def fnExactKeyOkSpec : ChangeSpec := { name := "fnExactKeyOk", fn := fun _ => fun
  | [d] => { results := [.lit (.bool true)], args := [d] }
  | _ => none }
def fnExactKeyOkRow : OpenClaim := { program := "ytfhemgmfhbjoeaa", sum := "3f9880b8cf8c4255ebe524a8a5c74549c8e2d41a2541983b38d307e2978624ee", func := "loop.example/g00249/laws.FnExactKeyOk", spec := "fnExactKeyOk", apart := false }
def FnExactKeyOkSaid : Prop := fnExactKeyOkRow.holds Try.pinned (OpenSpec.ofChange fnExactKeyOkSpec)

/-- ITS FALSE NEIGHBOUR: 'it returns false'. Refute it at one input. -/
def fnExactKeyOkWrong : ChangeSpec := { name := "fnExactKeyOk", fn := fun _ => fun
  | [d] => { results := [.lit (.bool false)], args := [d] }
  | _ => none }
def FnExactKeyOkWrongFalsely : Prop := fnExactKeyOkRow.holds Try.pinned (OpenSpec.ofChange fnExactKeyOkWrong)

/-- 'laws.FnExactCovers': WHATEVER THE INPUT: true; the input reads as it did. -/
def fnExactCoversSpec : ChangeSpec := { name := "fnExactCovers", fn := fun _ => fun
  | [d1, d2] => { results := [.lit (.bool true)], args := [d1, d2] }
  | _ => none }
def fnExactCoversRow : OpenClaim := { program := "ytfhemgmfhbjoeaa", sum := "3f9880b8cf8c4255ebe524a8a5c74549c8e2d41a2541983b38d307e2978624ee", func := "loop.example/g00249/laws.FnExactCovers", spec := "fnExactCovers", apart := false }
def FnExactCoversSaid : Prop := fnExactCoversRow.holds Try.pinned (OpenSpec.ofChange fnExactCoversSpec)

/-- ITS FALSE NEIGHBOUR: 'it returns false'. Refute it at one input. -/
def fnExactCoversWrong : ChangeSpec := { name := "fnExactCovers", fn := fun _ => fun
  | [d1, d2] => { results := [.lit (.bool false)], args := [d1, d2] }
  | _ => none }
def FnExactCoversWrongFalsely : Prop := fnExactCoversRow.holds Try.pinned (OpenSpec.ofChange fnExactCoversWrong)

/-- 'laws.FnExactWordOk': WHATEVER THE INPUT: true; the input reads as it did. -/
def fnExactWordOkSpec : ChangeSpec := { name := "fnExactWordOk", fn := fun _ => fun
  | [d] => { results := [.lit (.bool true)], args := [d] }
  | _ => none }
def fnExactWordOkRow : OpenClaim := { program := "ytfhemgmfhbjoeaa", sum := "3f9880b8cf8c4255ebe524a8a5c74549c8e2d41a2541983b38d307e2978624ee", func := "loop.example/g00249/laws.FnExactWordOk", spec := "fnExactWordOk", apart := false }
def FnExactWordOkSaid : Prop := fnExactWordOkRow.holds Try.pinned (OpenSpec.ofChange fnExactWordOkSpec)

/-- ITS FALSE NEIGHBOUR: 'it returns false'. Refute it at one input. -/
def fnExactWordOkWrong : ChangeSpec := { name := "fnExactWordOk", fn := fun _ => fun
  | [d] => { results := [.lit (.bool false)], args := [d] }
  | _ => none }
def FnExactWordOkWrongFalsely : Prop := fnExactWordOkRow.holds Try.pinned (OpenSpec.ofChange fnExactWordOkWrong)

/-- 'laws.FnExactMeet': WHATEVER THE INPUT: true; the input reads as it did. -/
def fnExactMeetSpec : ChangeSpec := { name := "fnExactMeet", fn := fun _ => fun
  | [d1, d2] => { results := [.lit (.bool true)], args := [d1, d2] }
  | _ => none }
def fnExactMeetRow : OpenClaim := { program := "ytfhemgmfhbjoeaa", sum := "3f9880b8cf8c4255ebe524a8a5c74549c8e2d41a2541983b38d307e2978624ee", func := "loop.example/g00249/laws.FnExactMeet", spec := "fnExactMeet", apart := false }
def FnExactMeetSaid : Prop := fnExactMeetRow.holds Try.pinned (OpenSpec.ofChange fnExactMeetSpec)

/-- ITS FALSE NEIGHBOUR: 'it returns false'. Refute it at one input. -/
def fnExactMeetWrong : ChangeSpec := { name := "fnExactMeet", fn := fun _ => fun
  | [d1, d2] => { results := [.lit (.bool false)], args := [d1, d2] }
  | _ => none }
def FnExactMeetWrongFalsely : Prop := fnExactMeetRow.holds Try.pinned (OpenSpec.ofChange fnExactMeetWrong)

/-- 'laws.FnExactTry': WHATEVER THE INPUT: true; the input reads as it did. -/
def fnExactTrySpec : ChangeSpec := { name := "fnExactTry", fn := fun _ => fun
  | [d1, d2, d3] => { results := [.lit (.bool true)], args := [d1, d2, d3] }
  | _ => none }
def fnExactTryRow : OpenClaim := { program := "ytfhemgmfhbjoeaa", sum := "3f9880b8cf8c4255ebe524a8a5c74549c8e2d41a2541983b38d307e2978624ee", func := "loop.example/g00249/laws.FnExactTry", spec := "fnExactTry", apart := false }
def FnExactTrySaid : Prop := fnExactTryRow.holds Try.pinned (OpenSpec.ofChange fnExactTrySpec)

/-- ITS FALSE NEIGHBOUR: 'it returns false'. Refute it at one input. -/
def fnExactTryWrong : ChangeSpec := { name := "fnExactTry", fn := fun _ => fun
  | [d1, d2, d3] => { results := [.lit (.bool false)], args := [d1, d2, d3] }
  | _ => none }
def FnExactTryWrongFalsely : Prop := fnExactTryRow.holds Try.pinned (OpenSpec.ofChange fnExactTryWrong)

/-- 'laws.FnExactKeyWord': WHATEVER THE INPUT: true; the input reads as it did. -/
def fnExactKeyWordSpec : ChangeSpec := { name := "fnExactKeyWord", fn := fun _ => fun
  | [d1, d2] => { results := [.lit (.bool true)], args := [d1, d2] }
  | _ => none }
def fnExactKeyWordRow : OpenClaim := { program := "ytfhemgmfhbjoeaa", sum := "3f9880b8cf8c4255ebe524a8a5c74549c8e2d41a2541983b38d307e2978624ee", func := "loop.example/g00249/laws.FnExactKeyWord", spec := "fnExactKeyWord", apart := false }
def FnExactKeyWordSaid : Prop := fnExactKeyWordRow.holds Try.pinned (OpenSpec.ofChange fnExactKeyWordSpec)

/-- ITS FALSE NEIGHBOUR: 'it returns false'. Refute it at one input. -/
def fnExactKeyWordWrong : ChangeSpec := { name := "fnExactKeyWord", fn := fun _ => fun
  | [d1, d2] => { results := [.lit (.bool false)], args := [d1, d2] }
  | _ => none }
def FnExactKeyWordWrongFalsely : Prop := fnExactKeyWordRow.holds Try.pinned (OpenSpec.ofChange fnExactKeyWordWrong)

/-- 'laws.FnExactPoint': WHATEVER THE INPUT: true; the input reads as it did. -/
def fnExactPointSpec : ChangeSpec := { name := "fnExactPoint", fn := fun _ => fun
  | [d1, d2] => { results := [.lit (.bool true)], args := [d1, d2] }
  | _ => none }
def fnExactPointRow : OpenClaim := { program := "ytfhemgmfhbjoeaa", sum := "3f9880b8cf8c4255ebe524a8a5c74549c8e2d41a2541983b38d307e2978624ee", func := "loop.example/g00249/laws.FnExactPoint", spec := "fnExactPoint", apart := false }
def FnExactPointSaid : Prop := fnExactPointRow.holds Try.pinned (OpenSpec.ofChange fnExactPointSpec)

/-- ITS FALSE NEIGHBOUR: 'it returns false'. Refute it at one input. -/
def fnExactPointWrong : ChangeSpec := { name := "fnExactPoint", fn := fun _ => fun
  | [d1, d2] => { results := [.lit (.bool false)], args := [d1, d2] }
  | _ => none }
def FnExactPointWrongFalsely : Prop := fnExactPointRow.holds Try.pinned (OpenSpec.ofChange fnExactPointWrong)

/-- 'laws.FnExactWeaken': WHATEVER THE INPUT: true; the input reads as it did. -/
def fnExactWeakenSpec : ChangeSpec := { name := "fnExactWeaken", fn := fun _ => fun
  | [d1, d2] => { results := [.lit (.bool true)], args := [d1, d2] }
  | _ => none }
def fnExactWeakenRow : OpenClaim := { program := "ytfhemgmfhbjoeaa", sum := "3f9880b8cf8c4255ebe524a8a5c74549c8e2d41a2541983b38d307e2978624ee", func := "loop.example/g00249/laws.FnExactWeaken", spec := "fnExactWeaken", apart := false }
def FnExactWeakenSaid : Prop := fnExactWeakenRow.holds Try.pinned (OpenSpec.ofChange fnExactWeakenSpec)

/-- ITS FALSE NEIGHBOUR: 'it returns false'. Refute it at one input. -/
def fnExactWeakenWrong : ChangeSpec := { name := "fnExactWeaken", fn := fun _ => fun
  | [d1, d2] => { results := [.lit (.bool false)], args := [d1, d2] }
  | _ => none }
def FnExactWeakenWrongFalsely : Prop := fnExactWeakenRow.holds Try.pinned (OpenSpec.ofChange fnExactWeakenWrong)

/-- 'laws.FnExactOpenBy': WHATEVER THE INPUT: true; the input reads as it did. -/
def fnExactOpenBySpec : ChangeSpec := { name := "fnExactOpenBy", fn := fun _ => fun
  | [d1, d2] => { results := [.lit (.bool true)], args := [d1, d2] }
  | _ => none }
def fnExactOpenByRow : OpenClaim := { program := "ytfhemgmfhbjoeaa", sum := "3f9880b8cf8c4255ebe524a8a5c74549c8e2d41a2541983b38d307e2978624ee", func := "loop.example/g00249/laws.FnExactOpenBy", spec := "fnExactOpenBy", apart := false }
def FnExactOpenBySaid : Prop := fnExactOpenByRow.holds Try.pinned (OpenSpec.ofChange fnExactOpenBySpec)

/-- ITS FALSE NEIGHBOUR: 'it returns false'. Refute it at one input. -/
def fnExactOpenByWrong : ChangeSpec := { name := "fnExactOpenBy", fn := fun _ => fun
  | [d1, d2] => { results := [.lit (.bool false)], args := [d1, d2] }
  | _ => none }
def FnExactOpenByWrongFalsely : Prop := fnExactOpenByRow.holds Try.pinned (OpenSpec.ofChange fnExactOpenByWrong)

/-- 'laws.FnExactSealBy': WHATEVER THE INPUT: true; the input reads as it did. -/
def fnExactSealBySpec : ChangeSpec := { name := "fnExactSealBy", fn := fun _ => fun
  | [d1, d2] => { results := [.lit (.bool true)], args := [d1, d2] }
  | _ => none }
def fnExactSealByRow : OpenClaim := { program := "ytfhemgmfhbjoeaa", sum := "3f9880b8cf8c4255ebe524a8a5c74549c8e2d41a2541983b38d307e2978624ee", func := "loop.example/g00249/laws.FnExactSealBy", spec := "fnExactSealBy", apart := false }
def FnExactSealBySaid : Prop := fnExactSealByRow.holds Try.pinned (OpenSpec.ofChange fnExactSealBySpec)

/-- ITS FALSE NEIGHBOUR: 'it returns false'. Refute it at one input. -/
def fnExactSealByWrong : ChangeSpec := { name := "fnExactSealBy", fn := fun _ => fun
  | [d1, d2] => { results := [.lit (.bool false)], args := [d1, d2] }
  | _ => none }
def FnExactSealByWrongFalsely : Prop := fnExactSealByRow.holds Try.pinned (OpenSpec.ofChange fnExactSealByWrong)

/-- 'laws.FnExactNarrow': WHATEVER THE INPUT: true; the input reads as it did. -/
def fnExactNarrowSpec : ChangeSpec := { name := "fnExactNarrow", fn := fun _ => fun
  | [d1, d2] => { results := [.lit (.bool true)], args := [d1, d2] }
  | _ => none }
def fnExactNarrowRow : OpenClaim := { program := "ytfhemgmfhbjoeaa", sum := "3f9880b8cf8c4255ebe524a8a5c74549c8e2d41a2541983b38d307e2978624ee", func := "loop.example/g00249/laws.FnExactNarrow", spec := "fnExactNarrow", apart := false }
def FnExactNarrowSaid : Prop := fnExactNarrowRow.holds Try.pinned (OpenSpec.ofChange fnExactNarrowSpec)

/-- ITS FALSE NEIGHBOUR: 'it returns false'. Refute it at one input. -/
def fnExactNarrowWrong : ChangeSpec := { name := "fnExactNarrow", fn := fun _ => fun
  | [d1, d2] => { results := [.lit (.bool false)], args := [d1, d2] }
  | _ => none }
def FnExactNarrowWrongFalsely : Prop := fnExactNarrowRow.holds Try.pinned (OpenSpec.ofChange fnExactNarrowWrong)

/- THE SECOND FORM. 'bulk': how many values and letters a reading holds, each counted each time it is reached (what is shared counts as often as it is met; a slice's spare places count too). A statement '..UptoSaid' is the law's where the arguments, and the package variables that the reading takes, are together of bulk at most 1048576: NARROWER than '..Said'. Prove '..Said' where nothing that the law and all that it calls make is longer than what came in: it says more and counts as full. Else prove '..UptoSaid'. A law counts once. -/
mutual
def uptoBulk {H : Type} : DataW H → Nat
  | .lit (.string bytes) => bytes.length + 1
  | .lit _ => 1
  | .nil => 1
  | .ptr d => uptoBulk d + 1
  | .slice elems spare => uptoBulkAll elems + uptoBulkAll spare + 1
  | .agg parts => uptoBulkAll parts + 1
  | .iface _ d => uptoBulk d + 1
  | .map entries => uptoBulkEntries entries + 1
  | .held _ => 1
def uptoBulkAll {H : Type} : List (DataW H) → Nat
  | [] => 0
  | d :: r => uptoBulk d + uptoBulkAll r
def uptoBulkEntries {H : Type} : List (Lit × DataW H) → Nat
  | [] => 0
  | x :: r => uptoBulkEntry x + uptoBulkEntries r
def uptoBulkEntry {H : Type} : Lit × DataW H → Nat
  | (.string bytes, d) => bytes.length + uptoBulk d + 1
  | (_, d) => uptoBulk d + 1
 end
def uptoSmall : (H : Type) → List (DataW H) → Bool := fun _ ds => decide (uptoBulkAll ds ≤ 1048576)
def OpenSpec.upto (s : _root_.Go.ChangeSpec) : _root_.Go.OpenSpec := { _root_.Go.OpenSpec.ofChange s with cond := some uptoSmall }

/-- 'laws.FnExactExact', WHERE WHAT IT READS IS OF BULK AT MOST 1048576: true; the input reads as it did. -/
def fnExactExactUptoRow : OpenClaim := { program := "ytfhemgmfhbjoeaa", sum := "3f9880b8cf8c4255ebe524a8a5c74549c8e2d41a2541983b38d307e2978624ee", func := "loop.example/g00249/laws.FnExactExact", spec := "fnExactExact", apart := false, narrowed := true }
def FnExactExactUptoSaid : Prop := fnExactExactUptoRow.holds Try.pinned (OpenSpec.upto fnExactExactSpec)

/-- 'laws.FnExactKeyOk', WHERE WHAT IT READS IS OF BULK AT MOST 1048576: true; the input reads as it did. -/
def fnExactKeyOkUptoRow : OpenClaim := { program := "ytfhemgmfhbjoeaa", sum := "3f9880b8cf8c4255ebe524a8a5c74549c8e2d41a2541983b38d307e2978624ee", func := "loop.example/g00249/laws.FnExactKeyOk", spec := "fnExactKeyOk", apart := false, narrowed := true }
def FnExactKeyOkUptoSaid : Prop := fnExactKeyOkUptoRow.holds Try.pinned (OpenSpec.upto fnExactKeyOkSpec)

/-- 'laws.FnExactCovers', WHERE WHAT IT READS IS OF BULK AT MOST 1048576: true; the input reads as it did. -/
def fnExactCoversUptoRow : OpenClaim := { program := "ytfhemgmfhbjoeaa", sum := "3f9880b8cf8c4255ebe524a8a5c74549c8e2d41a2541983b38d307e2978624ee", func := "loop.example/g00249/laws.FnExactCovers", spec := "fnExactCovers", apart := false, narrowed := true }
def FnExactCoversUptoSaid : Prop := fnExactCoversUptoRow.holds Try.pinned (OpenSpec.upto fnExactCoversSpec)

/-- 'laws.FnExactWordOk', WHERE WHAT IT READS IS OF BULK AT MOST 1048576: true; the input reads as it did. -/
def fnExactWordOkUptoRow : OpenClaim := { program := "ytfhemgmfhbjoeaa", sum := "3f9880b8cf8c4255ebe524a8a5c74549c8e2d41a2541983b38d307e2978624ee", func := "loop.example/g00249/laws.FnExactWordOk", spec := "fnExactWordOk", apart := false, narrowed := true }
def FnExactWordOkUptoSaid : Prop := fnExactWordOkUptoRow.holds Try.pinned (OpenSpec.upto fnExactWordOkSpec)

/-- 'laws.FnExactMeet', WHERE WHAT IT READS IS OF BULK AT MOST 1048576: true; the input reads as it did. -/
def fnExactMeetUptoRow : OpenClaim := { program := "ytfhemgmfhbjoeaa", sum := "3f9880b8cf8c4255ebe524a8a5c74549c8e2d41a2541983b38d307e2978624ee", func := "loop.example/g00249/laws.FnExactMeet", spec := "fnExactMeet", apart := false, narrowed := true }
def FnExactMeetUptoSaid : Prop := fnExactMeetUptoRow.holds Try.pinned (OpenSpec.upto fnExactMeetSpec)

/-- 'laws.FnExactTry', WHERE WHAT IT READS IS OF BULK AT MOST 1048576: true; the input reads as it did. -/
def fnExactTryUptoRow : OpenClaim := { program := "ytfhemgmfhbjoeaa", sum := "3f9880b8cf8c4255ebe524a8a5c74549c8e2d41a2541983b38d307e2978624ee", func := "loop.example/g00249/laws.FnExactTry", spec := "fnExactTry", apart := false, narrowed := true }
def FnExactTryUptoSaid : Prop := fnExactTryUptoRow.holds Try.pinned (OpenSpec.upto fnExactTrySpec)

/-- 'laws.FnExactKeyWord', WHERE WHAT IT READS IS OF BULK AT MOST 1048576: true; the input reads as it did. -/
def fnExactKeyWordUptoRow : OpenClaim := { program := "ytfhemgmfhbjoeaa", sum := "3f9880b8cf8c4255ebe524a8a5c74549c8e2d41a2541983b38d307e2978624ee", func := "loop.example/g00249/laws.FnExactKeyWord", spec := "fnExactKeyWord", apart := false, narrowed := true }
def FnExactKeyWordUptoSaid : Prop := fnExactKeyWordUptoRow.holds Try.pinned (OpenSpec.upto fnExactKeyWordSpec)

/-- 'laws.FnExactPoint', WHERE WHAT IT READS IS OF BULK AT MOST 1048576: true; the input reads as it did. -/
def fnExactPointUptoRow : OpenClaim := { program := "ytfhemgmfhbjoeaa", sum := "3f9880b8cf8c4255ebe524a8a5c74549c8e2d41a2541983b38d307e2978624ee", func := "loop.example/g00249/laws.FnExactPoint", spec := "fnExactPoint", apart := false, narrowed := true }
def FnExactPointUptoSaid : Prop := fnExactPointUptoRow.holds Try.pinned (OpenSpec.upto fnExactPointSpec)

/-- 'laws.FnExactWeaken', WHERE WHAT IT READS IS OF BULK AT MOST 1048576: true; the input reads as it did. -/
def fnExactWeakenUptoRow : OpenClaim := { program := "ytfhemgmfhbjoeaa", sum := "3f9880b8cf8c4255ebe524a8a5c74549c8e2d41a2541983b38d307e2978624ee", func := "loop.example/g00249/laws.FnExactWeaken", spec := "fnExactWeaken", apart := false, narrowed := true }
def FnExactWeakenUptoSaid : Prop := fnExactWeakenUptoRow.holds Try.pinned (OpenSpec.upto fnExactWeakenSpec)

/-- 'laws.FnExactOpenBy', WHERE WHAT IT READS IS OF BULK AT MOST 1048576: true; the input reads as it did. -/
def fnExactOpenByUptoRow : OpenClaim := { program := "ytfhemgmfhbjoeaa", sum := "3f9880b8cf8c4255ebe524a8a5c74549c8e2d41a2541983b38d307e2978624ee", func := "loop.example/g00249/laws.FnExactOpenBy", spec := "fnExactOpenBy", apart := false, narrowed := true }
def FnExactOpenByUptoSaid : Prop := fnExactOpenByUptoRow.holds Try.pinned (OpenSpec.upto fnExactOpenBySpec)

/-- 'laws.FnExactSealBy', WHERE WHAT IT READS IS OF BULK AT MOST 1048576: true; the input reads as it did. -/
def fnExactSealByUptoRow : OpenClaim := { program := "ytfhemgmfhbjoeaa", sum := "3f9880b8cf8c4255ebe524a8a5c74549c8e2d41a2541983b38d307e2978624ee", func := "loop.example/g00249/laws.FnExactSealBy", spec := "fnExactSealBy", apart := false, narrowed := true }
def FnExactSealByUptoSaid : Prop := fnExactSealByUptoRow.holds Try.pinned (OpenSpec.upto fnExactSealBySpec)

/-- 'laws.FnExactNarrow', WHERE WHAT IT READS IS OF BULK AT MOST 1048576: true; the input reads as it did. -/
def fnExactNarrowUptoRow : OpenClaim := { program := "ytfhemgmfhbjoeaa", sum := "3f9880b8cf8c4255ebe524a8a5c74549c8e2d41a2541983b38d307e2978624ee", func := "loop.example/g00249/laws.FnExactNarrow", spec := "fnExactNarrow", apart := false, narrowed := true }
def FnExactNarrowUptoSaid : Prop := fnExactNarrowUptoRow.holds Try.pinned (OpenSpec.upto fnExactNarrowSpec)

end Rows
end Go.Proofs.Ytfhemgmfhbjoeaa
