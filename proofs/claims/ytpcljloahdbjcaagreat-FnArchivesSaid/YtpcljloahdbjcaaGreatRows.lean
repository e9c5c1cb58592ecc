/-
  No cell of these rows narrows 'for every input' (looked for: loops, veiled, ifaces, maps, wideKeys, modest, calm, conditions, laid).
  DERIVED. THE GIVEN ROWS OF THIS SEAT. 7 by the template 'for every input the law returns true; each argument reads behind the call as it read before'; 0 by the template 'total and deterministic' (their statements: YtpcljloahdbjcaaGreatTotals.lean).
  GIVEN WITH THE SEED: the statements are not yours to turn. If you find one false, say at which input.
  Laid BY PROGRAM, IN A SANDBOX (cutbox-rows.mjs): the forced cells as the released guide's own fill.sh prints them over the translation e67b25f8055870b3… (all of the seat's roots in one cut). By AI agents, Wed Nov 11 2026. No macro, syntax, notation, axiom, sorry.
-/
import Derived.Test.YtpcljloahdbjcaaGreatChecked
import GoSem.Claim
import GoSem.ClaimJoined
import GoSem.ClaimMapViews
import Derived.JoinedTies
import Derived.KernelRfl
namespace Go.Proofs.YtpcljloahdbjcaaGreat
/- THE CELL 'sum', in the pinned program and in every row, IS THE sha256 OF THE DUMP (.gsa) THAT YtpcljloahdbjcaaGreatProg.lean LOADS. Nothing in Lean hashes anything: it is a label: what it is worth is what the hold of that sum in a sandbox is worth. -/
noncomputable def Tryz.pinned : Pinned := { name := "ytpcljloahdbjcaagreat", sum := "e67b25f8055870b3d2ba58f751a471952199a2f5dfa45d560cb0643a397c5068", checked := Tryz.checked }
namespace Rows
def none {H : Type} : Left H := { results := [], args := [] }

/-- 'laws.FnSealed': WHATEVER THE INPUT: true; the input reads as it did. -/
def fnSealedSpec : ChangeSpec := { name := "fnSealed", fn := fun _ => fun
  | [d] => { results := [.lit (.bool true)], args := [d] }
  | _ => none }
def fnSealedRow : OpenClaim := { program := "ytpcljloahdbjcaagreat", sum := "e67b25f8055870b3d2ba58f751a471952199a2f5dfa45d560cb0643a397c5068", func := "loop.example/g00597/laws.FnSealed", spec := "fnSealed", apart := false }
def FnSealedSaid : Prop := fnSealedRow.holds Tryz.pinned (OpenSpec.ofChange fnSealedSpec)

/-- ITS FALSE NEIGHBOUR: 'it returns false'. Refute it at one input. -/
def fnSealedWrong : ChangeSpec := { name := "fnSealed", fn := fun _ => fun
  | [d] => { results := [.lit (.bool false)], args := [d] }
  | _ => none }
def FnSealedWrongFalsely : Prop := fnSealedRow.holds Tryz.pinned (OpenSpec.ofChange fnSealedWrong)

/-- 'laws.FnEvidence': WHATEVER THE INPUT: true; the input reads as it did. -/
def fnEvidenceSpec : ChangeSpec := { name := "fnEvidence", fn := fun _ => fun
  | [d] => { results := [.lit (.bool true)], args := [d] }
  | _ => none }
def fnEvidenceRow : OpenClaim := { program := "ytpcljloahdbjcaagreat", sum := "e67b25f8055870b3d2ba58f751a471952199a2f5dfa45d560cb0643a397c5068", func := "loop.example/g00597/laws.FnEvidence", spec := "fnEvidence", apart := false }
def FnEvidenceSaid : Prop := fnEvidenceRow.holds Tryz.pinned (OpenSpec.ofChange fnEvidenceSpec)

/-- ITS FALSE NEIGHBOUR: 'it returns false'. Refute it at one input. -/
def fnEvidenceWrong : ChangeSpec := { name := "fnEvidence", fn := fun _ => fun
  | [d] => { results := [.lit (.bool false)], args := [d] }
  | _ => none }
def FnEvidenceWrongFalsely : Prop := fnEvidenceRow.holds Tryz.pinned (OpenSpec.ofChange fnEvidenceWrong)

/-- 'laws.FnJudged': WHATEVER THE INPUT: true; the input reads as it did. -/
def fnJudgedSpec : ChangeSpec := { name := "fnJudged", fn := fun _ => fun
  | [d] => { results := [.lit (.bool true)], args := [d] }
  | _ => none }
def fnJudgedRow : OpenClaim := { program := "ytpcljloahdbjcaagreat", sum := "e67b25f8055870b3d2ba58f751a471952199a2f5dfa45d560cb0643a397c5068", func := "loop.example/g00597/laws.FnJudged", spec := "fnJudged", unfollowed := true, recurses := true, apart := false }
def FnJudgedSaid : Prop := fnJudgedRow.holds Tryz.pinned (OpenSpec.ofChange fnJudgedSpec)

/-- ITS FALSE NEIGHBOUR: 'it returns false'. Refute it at one input. -/
def fnJudgedWrong : ChangeSpec := { name := "fnJudged", fn := fun _ => fun
  | [d] => { results := [.lit (.bool false)], args := [d] }
  | _ => none }
def FnJudgedWrongFalsely : Prop := fnJudgedRow.holds Tryz.pinned (OpenSpec.ofChange fnJudgedWrong)

/-- 'laws.FnArchives': WHATEVER THE INPUT: true; the input reads as it did. -/
def fnArchivesSpec : ChangeSpec := { name := "fnArchives", fn := fun _ => fun
  | [d] => { results := [.lit (.bool true)], args := [d] }
  | _ => none }
def fnArchivesRow : OpenClaim := { program := "ytpcljloahdbjcaagreat", sum := "e67b25f8055870b3d2ba58f751a471952199a2f5dfa45d560cb0643a397c5068", func := "loop.example/g00597/laws.FnArchives", spec := "fnArchives", unfollowed := true, recurses := true, apart := false }
def FnArchivesSaid : Prop := fnArchivesRow.holds Tryz.pinned (OpenSpec.ofChange fnArchivesSpec)

/-- ITS FALSE NEIGHBOUR: 'it returns false'. Refute it at one input. -/
def fnArchivesWrong : ChangeSpec := { name := "fnArchives", fn := fun _ => fun
  | [d] => { results := [.lit (.bool false)], args := [d] }
  | _ => none }
def FnArchivesWrongFalsely : Prop := fnArchivesRow.holds Tryz.pinned (OpenSpec.ofChange fnArchivesWrong)

/-- 'laws.FnForgotten': WHATEVER THE INPUT: true; the input reads as it did. -/
def fnForgottenSpec : ChangeSpec := { name := "fnForgotten", fn := fun _ => fun
  | [d] => { results := [.lit (.bool true)], args := [d] }
  | _ => none }
def fnForgottenRow : OpenClaim := { program := "ytpcljloahdbjcaagreat", sum := "e67b25f8055870b3d2ba58f751a471952199a2f5dfa45d560cb0643a397c5068", func := "loop.example/g00597/laws.FnForgotten", spec := "fnForgotten", unfollowed := true, recurses := true, apart := false }
def FnForgottenSaid : Prop := fnForgottenRow.holds Tryz.pinned (OpenSpec.ofChange fnForgottenSpec)

/-- ITS FALSE NEIGHBOUR: 'it returns false'. Refute it at one input. -/
def fnForgottenWrong : ChangeSpec := { name := "fnForgotten", fn := fun _ => fun
  | [d] => { results := [.lit (.bool false)], args := [d] }
  | _ => none }
def FnForgottenWrongFalsely : Prop := fnForgottenRow.holds Tryz.pinned (OpenSpec.ofChange fnForgottenWrong)

/-- 'laws.FnMonotone': WHATEVER THE INPUT: true; the input reads as it did. -/
def fnMonotoneSpec : ChangeSpec := { name := "fnMonotone", fn := fun _ => fun
  | [d] => { results := [.lit (.bool true)], args := [d] }
  | _ => none }
def fnMonotoneRow : OpenClaim := { program := "ytpcljloahdbjcaagreat", sum := "e67b25f8055870b3d2ba58f751a471952199a2f5dfa45d560cb0643a397c5068", func := "loop.example/g00597/laws.FnMonotone", spec := "fnMonotone", unfollowed := true, recurses := true, apart := false }
def FnMonotoneSaid : Prop := fnMonotoneRow.holds Tryz.pinned (OpenSpec.ofChange fnMonotoneSpec)

/-- ITS FALSE NEIGHBOUR: 'it returns false'. Refute it at one input. -/
def fnMonotoneWrong : ChangeSpec := { name := "fnMonotone", fn := fun _ => fun
  | [d] => { results := [.lit (.bool false)], args := [d] }
  | _ => none }
def FnMonotoneWrongFalsely : Prop := fnMonotoneRow.holds Tryz.pinned (OpenSpec.ofChange fnMonotoneWrong)

/-- 'laws.FnOrderless': WHATEVER THE INPUT: true; the input reads as it did. -/
def fnOrderlessSpec : ChangeSpec := { name := "fnOrderless", fn := fun _ => fun
  | [d] => { results := [.lit (.bool true)], args := [d] }
  | _ => none }
def fnOrderlessRow : OpenClaim := { program := "ytpcljloahdbjcaagreat", sum := "e67b25f8055870b3d2ba58f751a471952199a2f5dfa45d560cb0643a397c5068", func := "loop.example/g00597/laws.FnOrderless", spec := "fnOrderless", unfollowed := true, recurses := true, apart := false }
def FnOrderlessSaid : Prop := fnOrderlessRow.holds Tryz.pinned (OpenSpec.ofChange fnOrderlessSpec)

/-- ITS FALSE NEIGHBOUR: 'it returns false'. Refute it at one input. -/
def fnOrderlessWrong : ChangeSpec := { name := "fnOrderless", fn := fun _ => fun
  | [d] => { results := [.lit (.bool false)], args := [d] }
  | _ => none }
def FnOrderlessWrongFalsely : Prop := fnOrderlessRow.holds Tryz.pinned (OpenSpec.ofChange fnOrderlessWrong)

/- THE SECOND FORM. 'bulk': how many values and letters a reading holds, each counted each time it is reached (what is shared counts as often as it is met; a slice's spare places count too). A statement '..UptoSaid' is the law's where the arguments, and the package variables that the reading takes, are together of bulk at most 1048576: NARROWER than '..Said'. Prove '..Said' where nothing that the law and all that it calls make is longer than what came in: it says more and counts as full. Else prove '..UptoSaid'. A law counts once. -/
mutual
def uptoBulk {H : Type} : DataW H → Nat
  | .lit (.string bytes) => bytes.length + 1
  | .lit _ => 1
  | .nil => 1
  | .ptr d => uptoBulk d + 1
  | .slice elems spare => uptoBulkAll elems + uptoBulkAll spare + 1
  | .agg parts => uptoBulkAll parts + 1
  | .iface _ d => uptoBulk d + 1
  | .map entries => uptoBulkEntries entries + 1
  | .held _ => 1
def uptoBulkAll {H : Type} : List (DataW H) → Nat
  | [] => 0
  | d :: r => uptoBulk d + uptoBulkAll r
def uptoBulkEntries {H : Type} : List (Lit × DataW H) → Nat
  | [] => 0
  | x :: r => uptoBulkEntry x + uptoBulkEntries r
def uptoBulkEntry {H : Type} : Lit × DataW H → Nat
  | (.string bytes, d) => bytes.length + uptoBulk d + 1
  | (_, d) => uptoBulk d + 1
 end
def uptoSmall : (H : Type) → List (DataW H) → Bool := fun _ ds => decide (uptoBulkAll ds ≤ 1048576)
def OpenSpec.upto (s : _root_.Go.ChangeSpec) : _root_.Go.OpenSpec := { _root_.Go.OpenSpec.ofChange s with cond := some uptoSmall }

/-- 'laws.FnSealed', WHERE WHAT IT READS IS OF BULK AT MOST 1048576: true; the input reads as it did. -/
def fnSealedUptoRow : OpenClaim := { program := "ytpcljloahdbjcaagreat", sum := "e67b25f8055870b3d2ba58f751a471952199a2f5dfa45d560cb0643a397c5068", func := "loop.example/g00597/laws.FnSealed", spec := "fnSealed", apart := false, narrowed := true }
def FnSealedUptoSaid : Prop := fnSealedUptoRow.holds Tryz.pinned (OpenSpec.upto fnSealedSpec)

/-- 'laws.FnEvidence', WHERE WHAT IT READS IS OF BULK AT MOST 1048576: true; the input reads as it did. -/
def fnEvidenceUptoRow : OpenClaim := { program := "ytpcljloahdbjcaagreat", sum := "e67b25f8055870b3d2ba58f751a471952199a2f5dfa45d560cb0643a397c5068", func := "loop.example/g00597/laws.FnEvidence", spec := "fnEvidence", apart := false, narrowed := true }
def FnEvidenceUptoSaid : Prop := fnEvidenceUptoRow.holds Tryz.pinned (OpenSpec.upto fnEvidenceSpec)

/-- 'laws.FnJudged', WHERE WHAT IT READS IS OF BULK AT MOST 1048576: true; the input reads as it did. -/
def fnJudgedUptoRow : OpenClaim := { program := "ytpcljloahdbjcaagreat", sum := "e67b25f8055870b3d2ba58f751a471952199a2f5dfa45d560cb0643a397c5068", func := "loop.example/g00597/laws.FnJudged", spec := "fnJudged", unfollowed := true, recurses := true, apart := false, narrowed := true }
def FnJudgedUptoSaid : Prop := fnJudgedUptoRow.holds Tryz.pinned (OpenSpec.upto fnJudgedSpec)

/-- 'laws.FnArchives', WHERE WHAT IT READS IS OF BULK AT MOST 1048576: true; the input reads as it did. -/
def fnArchivesUptoRow : OpenClaim := { program := "ytpcljloahdbjcaagreat", sum := "e67b25f8055870b3d2ba58f751a471952199a2f5dfa45d560cb0643a397c5068", func := "loop.example/g00597/laws.FnArchives", spec := "fnArchives", unfollowed := true, recurses := true, apart := false, narrowed := true }
def FnArchivesUptoSaid : Prop := fnArchivesUptoRow.holds Tryz.pinned (OpenSpec.upto fnArchivesSpec)

/-- 'laws.FnForgotten', WHERE WHAT IT READS IS OF BULK AT MOST 1048576: true; the input reads as it did. -/
def fnForgottenUptoRow : OpenClaim := { program := "ytpcljloahdbjcaagreat", sum := "e67b25f8055870b3d2ba58f751a471952199a2f5dfa45d560cb0643a397c5068", func := "loop.example/g00597/laws.FnForgotten", spec := "fnForgotten", unfollowed := true, recurses := true, apart := false, narrowed := true }
def FnForgottenUptoSaid : Prop := fnForgottenUptoRow.holds Tryz.pinned (OpenSpec.upto fnForgottenSpec)

/-- 'laws.FnMonotone', WHERE WHAT IT READS IS OF BULK AT MOST 1048576: true; the input reads as it did. -/
def fnMonotoneUptoRow : OpenClaim := { program := "ytpcljloahdbjcaagreat", sum := "e67b25f8055870b3d2ba58f751a471952199a2f5dfa45d560cb0643a397c5068", func := "loop.example/g00597/laws.FnMonotone", spec := "fnMonotone", unfollowed := true, recurses := true, apart := false, narrowed := true }
def FnMonotoneUptoSaid : Prop := fnMonotoneUptoRow.holds Tryz.pinned (OpenSpec.upto fnMonotoneSpec)

/-- 'laws.FnOrderless', WHERE WHAT IT READS IS OF BULK AT MOST 1048576: true; the input reads as it did. -/
def fnOrderlessUptoRow : OpenClaim := { program := "ytpcljloahdbjcaagreat", sum := "e67b25f8055870b3d2ba58f751a471952199a2f5dfa45d560cb0643a397c5068", func := "loop.example/g00597/laws.FnOrderless", spec := "fnOrderless", unfollowed := true, recurses := true, apart := false, narrowed := true }
def FnOrderlessUptoSaid : Prop := fnOrderlessUptoRow.holds Tryz.pinned (OpenSpec.upto fnOrderlessSpec)

end Rows
end Go.Proofs.YtpcljloahdbjcaaGreat
