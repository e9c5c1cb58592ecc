/-
  No cell of these rows narrows 'for every input' (looked for: loops, veiled, ifaces, maps, wideKeys, modest, calm, conditions, laid).
  DERIVED. THE GIVEN ROWS OF THIS SEAT. 7 by the template 'for every input the law returns true; each argument reads behind the call as it read before'; 0 by the template 'total and deterministic' (their statements: YtoccddagjnebbaaGreatTotals.lean).
  GIVEN WITH THE SEED: the statements are not yours to turn. If you find one false, say at which input.
  Laid BY PROGRAM, IN A SANDBOX (cutbox-rows.mjs): the forced cells as the released guide's own fill.sh prints them over the translation 25b2d4f7f9f97273… (all of the seat's roots in one cut). By AI agents, Wed Nov 11 2026. No macro, syntax, notation, axiom, sorry.
-/
import Derived.Test.YtoccddagjnebbaaGreatChecked
import GoSem.Claim
import GoSem.ClaimJoined
import GoSem.ClaimMapViews
import Derived.JoinedTies
import Derived.KernelRfl
namespace Go.Proofs.YtoccddagjnebbaaGreat
/- THE CELL 'sum', in the pinned program and in every row, IS THE sha256 OF THE DUMP (.gsa) THAT YtoccddagjnebbaaGreatProg.lean LOADS. Nothing in Lean hashes anything: it is a label: what it is worth is what the hold of that sum in a sandbox is worth. -/
noncomputable def Tryz.pinned : Pinned := { name := "ytoccddagjnebbaagreat", sum := "25b2d4f7f9f972739783d388d2b50556c87c81b106c0e1dbfedded87fc1a4351", checked := Tryz.checked }
namespace Rows
def none {H : Type} : Left H := { results := [], args := [] }

/-- 'laws.FnExactJudgeDigests': WHATEVER THE INPUT: true; the input reads as it did. -/
def fnExactJudgeDigestsSpec : ChangeSpec := { name := "fnExactJudgeDigests", fn := fun _ => fun
  | [d1, d2, d3, d4, d5] => { results := [.lit (.bool true)], args := [d1, d2, d3, d4, d5] }
  | _ => none }
def fnExactJudgeDigestsRow : OpenClaim := { program := "ytoccddagjnebbaagreat", sum := "25b2d4f7f9f972739783d388d2b50556c87c81b106c0e1dbfedded87fc1a4351", func := "loop.example/g00597/laws.FnExactJudgeDigests", spec := "fnExactJudgeDigests", unfollowed := true, recurses := true, apart := false }
def FnExactJudgeDigestsSaid : Prop := fnExactJudgeDigestsRow.holds Tryz.pinned (OpenSpec.ofChange fnExactJudgeDigestsSpec)

/-- ITS FALSE NEIGHBOUR: 'it returns false'. Refute it at one input. -/
def fnExactJudgeDigestsWrong : ChangeSpec := { name := "fnExactJudgeDigests", fn := fun _ => fun
  | [d1, d2, d3, d4, d5] => { results := [.lit (.bool false)], args := [d1, d2, d3, d4, d5] }
  | _ => none }
def FnExactJudgeDigestsWrongFalsely : Prop := fnExactJudgeDigestsRow.holds Tryz.pinned (OpenSpec.ofChange fnExactJudgeDigestsWrong)

/-- 'laws.FnExactJudge': WHATEVER THE INPUT: true; the input reads as it did. -/
def fnExactJudgeSpec : ChangeSpec := { name := "fnExactJudge", fn := fun _ => fun
  | [d1, d2, d3, d4] => { results := [.lit (.bool true)], args := [d1, d2, d3, d4] }
  | _ => none }
def fnExactJudgeRow : OpenClaim := { program := "ytoccddagjnebbaagreat", sum := "25b2d4f7f9f972739783d388d2b50556c87c81b106c0e1dbfedded87fc1a4351", func := "loop.example/g00597/laws.FnExactJudge", spec := "fnExactJudge", unfollowed := true, recurses := true, apart := false }
def FnExactJudgeSaid : Prop := fnExactJudgeRow.holds Tryz.pinned (OpenSpec.ofChange fnExactJudgeSpec)

/-- ITS FALSE NEIGHBOUR: 'it returns false'. Refute it at one input. -/
def fnExactJudgeWrong : ChangeSpec := { name := "fnExactJudge", fn := fun _ => fun
  | [d1, d2, d3, d4] => { results := [.lit (.bool false)], args := [d1, d2, d3, d4] }
  | _ => none }
def FnExactJudgeWrongFalsely : Prop := fnExactJudgeRow.holds Tryz.pinned (OpenSpec.ofChange fnExactJudgeWrong)

/-- 'laws.FnExactJudgeItem': WHATEVER THE INPUT: true; the input reads as it did. -/
def fnExactJudgeItemSpec : ChangeSpec := { name := "fnExactJudgeItem", fn := fun _ => fun
  | [d1, d2] => { results := [.lit (.bool true)], args := [d1, d2] }
  | _ => none }
def fnExactJudgeItemRow : OpenClaim := { program := "ytoccddagjnebbaagreat", sum := "25b2d4f7f9f972739783d388d2b50556c87c81b106c0e1dbfedded87fc1a4351", func := "loop.example/g00597/laws.FnExactJudgeItem", spec := "fnExactJudgeItem", unfollowed := true, recurses := true, apart := false }
def FnExactJudgeItemSaid : Prop := fnExactJudgeItemRow.holds Tryz.pinned (OpenSpec.ofChange fnExactJudgeItemSpec)

/-- ITS FALSE NEIGHBOUR: 'it returns false'. Refute it at one input. -/
def fnExactJudgeItemWrong : ChangeSpec := { name := "fnExactJudgeItem", fn := fun _ => fun
  | [d1, d2] => { results := [.lit (.bool false)], args := [d1, d2] }
  | _ => none }
def FnExactJudgeItemWrongFalsely : Prop := fnExactJudgeItemRow.holds Tryz.pinned (OpenSpec.ofChange fnExactJudgeItemWrong)

/-- 'laws.FnExactJudgeRedacted': WHATEVER THE INPUT: true; the input reads as it did. -/
def fnExactJudgeRedactedSpec : ChangeSpec := { name := "fnExactJudgeRedacted", fn := fun _ => fun
  | [d1, d2, d3, d4] => { results := [.lit (.bool true)], args := [d1, d2, d3, d4] }
  | _ => none }
def fnExactJudgeRedactedRow : OpenClaim := { program := "ytoccddagjnebbaagreat", sum := "25b2d4f7f9f972739783d388d2b50556c87c81b106c0e1dbfedded87fc1a4351", func := "loop.example/g00597/laws.FnExactJudgeRedacted", spec := "fnExactJudgeRedacted", unfollowed := true, recurses := true, apart := false }
def FnExactJudgeRedactedSaid : Prop := fnExactJudgeRedactedRow.holds Tryz.pinned (OpenSpec.ofChange fnExactJudgeRedactedSpec)

/-- ITS FALSE NEIGHBOUR: 'it returns false'. Refute it at one input. -/
def fnExactJudgeRedactedWrong : ChangeSpec := { name := "fnExactJudgeRedacted", fn := fun _ => fun
  | [d1, d2, d3, d4] => { results := [.lit (.bool false)], args := [d1, d2, d3, d4] }
  | _ => none }
def FnExactJudgeRedactedWrongFalsely : Prop := fnExactJudgeRedactedRow.holds Tryz.pinned (OpenSpec.ofChange fnExactJudgeRedactedWrong)

/-- 'laws.FnExactJudgeBoth': WHATEVER THE INPUT: true; the input reads as it did. -/
def fnExactJudgeBothSpec : ChangeSpec := { name := "fnExactJudgeBoth", fn := fun _ => fun
  | [d1, d2, d3, d4, d5] => { results := [.lit (.bool true)], args := [d1, d2, d3, d4, d5] }
  | _ => none }
def fnExactJudgeBothRow : OpenClaim := { program := "ytoccddagjnebbaagreat", sum := "25b2d4f7f9f972739783d388d2b50556c87c81b106c0e1dbfedded87fc1a4351", func := "loop.example/g00597/laws.FnExactJudgeBoth", spec := "fnExactJudgeBoth", unfollowed := true, recurses := true, apart := false }
def FnExactJudgeBothSaid : Prop := fnExactJudgeBothRow.holds Tryz.pinned (OpenSpec.ofChange fnExactJudgeBothSpec)

/-- ITS FALSE NEIGHBOUR: 'it returns false'. Refute it at one input. -/
def fnExactJudgeBothWrong : ChangeSpec := { name := "fnExactJudgeBoth", fn := fun _ => fun
  | [d1, d2, d3, d4, d5] => { results := [.lit (.bool false)], args := [d1, d2, d3, d4, d5] }
  | _ => none }
def FnExactJudgeBothWrongFalsely : Prop := fnExactJudgeBothRow.holds Tryz.pinned (OpenSpec.ofChange fnExactJudgeBothWrong)

/-- 'laws.FnExactEnoughOf': WHATEVER THE INPUT: true; the input reads as it did. -/
def fnExactEnoughOfSpec : ChangeSpec := { name := "fnExactEnoughOf", fn := fun _ => fun
  | [d1, d2, d3, d4, d5] => { results := [.lit (.bool true)], args := [d1, d2, d3, d4, d5] }
  | _ => none }
def fnExactEnoughOfRow : OpenClaim := { program := "ytoccddagjnebbaagreat", sum := "25b2d4f7f9f972739783d388d2b50556c87c81b106c0e1dbfedded87fc1a4351", func := "loop.example/g00597/laws.FnExactEnoughOf", spec := "fnExactEnoughOf", unfollowed := true, recurses := true, apart := false }
def FnExactEnoughOfSaid : Prop := fnExactEnoughOfRow.holds Tryz.pinned (OpenSpec.ofChange fnExactEnoughOfSpec)

/-- ITS FALSE NEIGHBOUR: 'it returns false'. Refute it at one input. -/
def fnExactEnoughOfWrong : ChangeSpec := { name := "fnExactEnoughOf", fn := fun _ => fun
  | [d1, d2, d3, d4, d5] => { results := [.lit (.bool false)], args := [d1, d2, d3, d4, d5] }
  | _ => none }
def FnExactEnoughOfWrongFalsely : Prop := fnExactEnoughOfRow.holds Tryz.pinned (OpenSpec.ofChange fnExactEnoughOfWrong)

/-- 'laws.FnExactJudgeHidden': WHATEVER THE INPUT: true; the input reads as it did. -/
def fnExactJudgeHiddenSpec : ChangeSpec := { name := "fnExactJudgeHidden", fn := fun _ => fun
  | [d1, d2, d3] => { results := [.lit (.bool true)], args := [d1, d2, d3] }
  | _ => none }
def fnExactJudgeHiddenRow : OpenClaim := { program := "ytoccddagjnebbaagreat", sum := "25b2d4f7f9f972739783d388d2b50556c87c81b106c0e1dbfedded87fc1a4351", func := "loop.example/g00597/laws.FnExactJudgeHidden", spec := "fnExactJudgeHidden", unfollowed := true, recurses := true, apart := false }
def FnExactJudgeHiddenSaid : Prop := fnExactJudgeHiddenRow.holds Tryz.pinned (OpenSpec.ofChange fnExactJudgeHiddenSpec)

/-- ITS FALSE NEIGHBOUR: 'it returns false'. Refute it at one input. -/
def fnExactJudgeHiddenWrong : ChangeSpec := { name := "fnExactJudgeHidden", fn := fun _ => fun
  | [d1, d2, d3] => { results := [.lit (.bool false)], args := [d1, d2, d3] }
  | _ => none }
def FnExactJudgeHiddenWrongFalsely : Prop := fnExactJudgeHiddenRow.holds Tryz.pinned (OpenSpec.ofChange fnExactJudgeHiddenWrong)

/- THE SECOND FORM. 'bulk': how many values and letters a reading holds, each counted each time it is reached (what is shared counts as often as it is met; a slice's spare places count too). A statement '..UptoSaid' is the law's where the arguments, and the package variables that the reading takes, are together of bulk at most 1048576: NARROWER than '..Said'. Prove '..Said' where nothing that the law and all that it calls make is longer than what came in: it says more and counts as full. Else prove '..UptoSaid'. A law counts once. -/
mutual
def uptoBulk {H : Type} : DataW H → Nat
  | .lit (.string bytes) => bytes.length + 1
  | .lit _ => 1
  | .nil => 1
  | .ptr d => uptoBulk d + 1
  | .slice elems spare => uptoBulkAll elems + uptoBulkAll spare + 1
  | .agg parts => uptoBulkAll parts + 1
  | .iface _ d => uptoBulk d + 1
  | .map entries => uptoBulkEntries entries + 1
  | .held _ => 1
def uptoBulkAll {H : Type} : List (DataW H) → Nat
  | [] => 0
  | d :: r => uptoBulk d + uptoBulkAll r
def uptoBulkEntries {H : Type} : List (Lit × DataW H) → Nat
  | [] => 0
  | x :: r => uptoBulkEntry x + uptoBulkEntries r
def uptoBulkEntry {H : Type} : Lit × DataW H → Nat
  | (.string bytes, d) => bytes.length + uptoBulk d + 1
  | (_, d) => uptoBulk d + 1
 end
def uptoSmall : (H : Type) → List (DataW H) → Bool := fun _ ds => decide (uptoBulkAll ds ≤ 1048576)
def OpenSpec.upto (s : _root_.Go.ChangeSpec) : _root_.Go.OpenSpec := { _root_.Go.OpenSpec.ofChange s with cond := some uptoSmall }

/-- 'laws.FnExactJudgeDigests', WHERE WHAT IT READS IS OF BULK AT MOST 1048576: true; the input reads as it did. -/
def fnExactJudgeDigestsUptoRow : OpenClaim := { program := "ytoccddagjnebbaagreat", sum := "25b2d4f7f9f972739783d388d2b50556c87c81b106c0e1dbfedded87fc1a4351", func := "loop.example/g00597/laws.FnExactJudgeDigests", spec := "fnExactJudgeDigests", unfollowed := true, recurses := true, apart := false, narrowed := true }
def FnExactJudgeDigestsUptoSaid : Prop := fnExactJudgeDigestsUptoRow.holds Tryz.pinned (OpenSpec.upto fnExactJudgeDigestsSpec)

/-- 'laws.FnExactJudge', WHERE WHAT IT READS IS OF BULK AT MOST 1048576: true; the input reads as it did. -/
def fnExactJudgeUptoRow : OpenClaim := { program := "ytoccddagjnebbaagreat", sum := "25b2d4f7f9f972739783d388d2b50556c87c81b106c0e1dbfedded87fc1a4351", func := "loop.example/g00597/laws.FnExactJudge", spec := "fnExactJudge", unfollowed := true, recurses := true, apart := false, narrowed := true }
def FnExactJudgeUptoSaid : Prop := fnExactJudgeUptoRow.holds Tryz.pinned (OpenSpec.upto fnExactJudgeSpec)

/-- 'laws.FnExactJudgeItem', WHERE WHAT IT READS IS OF BULK AT MOST 1048576: true; the input reads as it did. -/
def fnExactJudgeItemUptoRow : OpenClaim := { program := "ytoccddagjnebbaagreat", sum := "25b2d4f7f9f972739783d388d2b50556c87c81b106c0e1dbfedded87fc1a4351", func := "loop.example/g00597/laws.FnExactJudgeItem", spec := "fnExactJudgeItem", unfollowed := true, recurses := true, apart := false, narrowed := true }
def FnExactJudgeItemUptoSaid : Prop := fnExactJudgeItemUptoRow.holds Tryz.pinned (OpenSpec.upto fnExactJudgeItemSpec)

/-- 'laws.FnExactJudgeRedacted', WHERE WHAT IT READS IS OF BULK AT MOST 1048576: true; the input reads as it did. -/
def fnExactJudgeRedactedUptoRow : OpenClaim := { program := "ytoccddagjnebbaagreat", sum := "25b2d4f7f9f972739783d388d2b50556c87c81b106c0e1dbfedded87fc1a4351", func := "loop.example/g00597/laws.FnExactJudgeRedacted", spec := "fnExactJudgeRedacted", unfollowed := true, recurses := true, apart := false, narrowed := true }
def FnExactJudgeRedactedUptoSaid : Prop := fnExactJudgeRedactedUptoRow.holds Tryz.pinned (OpenSpec.upto fnExactJudgeRedactedSpec)

/-- 'laws.FnExactJudgeBoth', WHERE WHAT IT READS IS OF BULK AT MOST 1048576: true; the input reads as it did. -/
def fnExactJudgeBothUptoRow : OpenClaim := { program := "ytoccddagjnebbaagreat", sum := "25b2d4f7f9f972739783d388d2b50556c87c81b106c0e1dbfedded87fc1a4351", func := "loop.example/g00597/laws.FnExactJudgeBoth", spec := "fnExactJudgeBoth", unfollowed := true, recurses := true, apart := false, narrowed := true }
def FnExactJudgeBothUptoSaid : Prop := fnExactJudgeBothUptoRow.holds Tryz.pinned (OpenSpec.upto fnExactJudgeBothSpec)

/-- 'laws.FnExactEnoughOf', WHERE WHAT IT READS IS OF BULK AT MOST 1048576: true; the input reads as it did. -/
def fnExactEnoughOfUptoRow : OpenClaim := { program := "ytoccddagjnebbaagreat", sum := "25b2d4f7f9f972739783d388d2b50556c87c81b106c0e1dbfedded87fc1a4351", func := "loop.example/g00597/laws.FnExactEnoughOf", spec := "fnExactEnoughOf", unfollowed := true, recurses := true, apart := false, narrowed := true }
def FnExactEnoughOfUptoSaid : Prop := fnExactEnoughOfUptoRow.holds Tryz.pinned (OpenSpec.upto fnExactEnoughOfSpec)

/-- 'laws.FnExactJudgeHidden', WHERE WHAT IT READS IS OF BULK AT MOST 1048576: true; the input reads as it did. -/
def fnExactJudgeHiddenUptoRow : OpenClaim := { program := "ytoccddagjnebbaagreat", sum := "25b2d4f7f9f972739783d388d2b50556c87c81b106c0e1dbfedded87fc1a4351", func := "loop.example/g00597/laws.FnExactJudgeHidden", spec := "fnExactJudgeHidden", unfollowed := true, recurses := true, apart := false, narrowed := true }
def FnExactJudgeHiddenUptoSaid : Prop := fnExactJudgeHiddenUptoRow.holds Tryz.pinned (OpenSpec.upto fnExactJudgeHiddenSpec)

end Rows
end Go.Proofs.YtoccddagjnebbaaGreat
