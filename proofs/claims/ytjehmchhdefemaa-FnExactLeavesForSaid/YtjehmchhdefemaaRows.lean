/-
  No cell of these rows narrows 'for every input' (looked for: loops, veiled, ifaces, maps, wideKeys, modest, calm, conditions, laid).
  DERIVED. THE GIVEN ROWS OF THIS SEAT. 6 by the template 'for every input the law returns true; each argument reads behind the call as it read before'; 0 by the template 'total and deterministic' (their statements: YtjehmchhdefemaaTotals.lean).
  GIVEN WITH THE SEED: the statements are not yours to turn. If you find one false, say at which input.
  Laid BY PROGRAM, IN A SANDBOX (cutbox-rows.mjs): the forced cells as the released guide's own fill.sh prints them over the translation 45a90f1cde875ce4… (all of the seat's roots in one cut). By AI agents, Wed Nov 11 2026. No macro, syntax, notation, axiom, sorry.
-/
import Derived.Test.YtjehmchhdefemaaChecked
import GoSem.Claim
import GoSem.ClaimJoined
import GoSem.ClaimMapViews
import Derived.JoinedTies
import Derived.KernelRfl
namespace Go.Proofs.Ytjehmchhdefemaa
/- THE CELL 'sum', in the pinned program and in every row, IS THE sha256 OF THE DUMP (.gsa) THAT YtjehmchhdefemaaProg.lean LOADS. Nothing in Lean hashes anything: it is a label: what it is worth is what the hold of that sum in a sandbox is worth. -/
noncomputable def Try.pinned : Pinned := { name := "ytjehmchhdefemaa", sum := "45a90f1cde875ce4532206eeccdd62df0018c61ff873dd1f8f52eb56b3baa726", checked := Try.checked }
namespace Rows
def none {H : Type} : Left H := { results := [], args := [] }

/-- 'laws.FnExactItemEvidence': WHATEVER THE INPUT: true; the input reads as it did. -/
def fnExactItemEvidenceSpec : ChangeSpec := { name := "fnExactItemEvidence", fn := fun _ => fun
  | [d] => { results := [.lit (.bool true)], args := [d] }
  | _ => none }
def fnExactItemEvidenceRow : OpenClaim := { program := "ytjehmchhdefemaa", sum := "45a90f1cde875ce4532206eeccdd62df0018c61ff873dd1f8f52eb56b3baa726", func := "loop.example/g00597/laws.FnExactItemEvidence", spec := "fnExactItemEvidence", apart := false }
def FnExactItemEvidenceSaid : Prop := fnExactItemEvidenceRow.holds Try.pinned (OpenSpec.ofChange fnExactItemEvidenceSpec)

/-- ITS FALSE NEIGHBOUR: 'it returns false'. Refute it at one input. -/
def fnExactItemEvidenceWrong : ChangeSpec := { name := "fnExactItemEvidence", fn := fun _ => fun
  | [d] => { results := [.lit (.bool false)], args := [d] }
  | _ => none }
def FnExactItemEvidenceWrongFalsely : Prop := fnExactItemEvidenceRow.holds Try.pinned (OpenSpec.ofChange fnExactItemEvidenceWrong)

/-- 'laws.FnExactLeavesFor': WHATEVER THE INPUT: true; the input reads as it did. -/
def fnExactLeavesForSpec : ChangeSpec := { name := "fnExactLeavesFor", fn := fun _ => fun
  | [d1, d2] => { results := [.lit (.bool true)], args := [d1, d2] }
  | _ => none }
def fnExactLeavesForRow : OpenClaim := { program := "ytjehmchhdefemaa", sum := "45a90f1cde875ce4532206eeccdd62df0018c61ff873dd1f8f52eb56b3baa726", func := "loop.example/g00597/laws.FnExactLeavesFor", spec := "fnExactLeavesFor", apart := false }
def FnExactLeavesForSaid : Prop := fnExactLeavesForRow.holds Try.pinned (OpenSpec.ofChange fnExactLeavesForSpec)

/-- ITS FALSE NEIGHBOUR: 'it returns false'. Refute it at one input. -/
def fnExactLeavesForWrong : ChangeSpec := { name := "fnExactLeavesFor", fn := fun _ => fun
  | [d1, d2] => { results := [.lit (.bool false)], args := [d1, d2] }
  | _ => none }
def FnExactLeavesForWrongFalsely : Prop := fnExactLeavesForRow.holds Try.pinned (OpenSpec.ofChange fnExactLeavesForWrong)

/-- 'laws.FnExactForgetPast': WHATEVER THE INPUT: true; the input reads as it did. -/
def fnExactForgetPastSpec : ChangeSpec := { name := "fnExactForgetPast", fn := fun _ => fun
  | [d1, d2] => { results := [.lit (.bool true)], args := [d1, d2] }
  | _ => none }
def fnExactForgetPastRow : OpenClaim := { program := "ytjehmchhdefemaa", sum := "45a90f1cde875ce4532206eeccdd62df0018c61ff873dd1f8f52eb56b3baa726", func := "loop.example/g00597/laws.FnExactForgetPast", spec := "fnExactForgetPast", apart := false }
def FnExactForgetPastSaid : Prop := fnExactForgetPastRow.holds Try.pinned (OpenSpec.ofChange fnExactForgetPastSpec)

/-- ITS FALSE NEIGHBOUR: 'it returns false'. Refute it at one input. -/
def fnExactForgetPastWrong : ChangeSpec := { name := "fnExactForgetPast", fn := fun _ => fun
  | [d1, d2] => { results := [.lit (.bool false)], args := [d1, d2] }
  | _ => none }
def FnExactForgetPastWrongFalsely : Prop := fnExactForgetPastRow.holds Try.pinned (OpenSpec.ofChange fnExactForgetPastWrong)

/-- 'laws.FnExactDropItem': WHATEVER THE INPUT: true; the input reads as it did. -/
def fnExactDropItemSpec : ChangeSpec := { name := "fnExactDropItem", fn := fun _ => fun
  | [d1, d2] => { results := [.lit (.bool true)], args := [d1, d2] }
  | _ => none }
def fnExactDropItemRow : OpenClaim := { program := "ytjehmchhdefemaa", sum := "45a90f1cde875ce4532206eeccdd62df0018c61ff873dd1f8f52eb56b3baa726", func := "loop.example/g00597/laws.FnExactDropItem", spec := "fnExactDropItem", apart := false }
def FnExactDropItemSaid : Prop := fnExactDropItemRow.holds Try.pinned (OpenSpec.ofChange fnExactDropItemSpec)

/-- ITS FALSE NEIGHBOUR: 'it returns false'. Refute it at one input. -/
def fnExactDropItemWrong : ChangeSpec := { name := "fnExactDropItem", fn := fun _ => fun
  | [d1, d2] => { results := [.lit (.bool false)], args := [d1, d2] }
  | _ => none }
def FnExactDropItemWrongFalsely : Prop := fnExactDropItemRow.holds Try.pinned (OpenSpec.ofChange fnExactDropItemWrong)

/-- 'laws.FnExactAddToItem': WHATEVER THE INPUT: true; the input reads as it did. -/
def fnExactAddToItemSpec : ChangeSpec := { name := "fnExactAddToItem", fn := fun _ => fun
  | [d1, d2, d3] => { results := [.lit (.bool true)], args := [d1, d2, d3] }
  | _ => none }
def fnExactAddToItemRow : OpenClaim := { program := "ytjehmchhdefemaa", sum := "45a90f1cde875ce4532206eeccdd62df0018c61ff873dd1f8f52eb56b3baa726", func := "loop.example/g00597/laws.FnExactAddToItem", spec := "fnExactAddToItem", apart := false }
def FnExactAddToItemSaid : Prop := fnExactAddToItemRow.holds Try.pinned (OpenSpec.ofChange fnExactAddToItemSpec)

/-- ITS FALSE NEIGHBOUR: 'it returns false'. Refute it at one input. -/
def fnExactAddToItemWrong : ChangeSpec := { name := "fnExactAddToItem", fn := fun _ => fun
  | [d1, d2, d3] => { results := [.lit (.bool false)], args := [d1, d2, d3] }
  | _ => none }
def FnExactAddToItemWrongFalsely : Prop := fnExactAddToItemRow.holds Try.pinned (OpenSpec.ofChange fnExactAddToItemWrong)

/-- 'laws.FnExactRedactItem': WHATEVER THE INPUT: true; the input reads as it did. -/
def fnExactRedactItemSpec : ChangeSpec := { name := "fnExactRedactItem", fn := fun _ => fun
  | [d1, d2] => { results := [.lit (.bool true)], args := [d1, d2] }
  | _ => none }
def fnExactRedactItemRow : OpenClaim := { program := "ytjehmchhdefemaa", sum := "45a90f1cde875ce4532206eeccdd62df0018c61ff873dd1f8f52eb56b3baa726", func := "loop.example/g00597/laws.FnExactRedactItem", spec := "fnExactRedactItem", apart := false }
def FnExactRedactItemSaid : Prop := fnExactRedactItemRow.holds Try.pinned (OpenSpec.ofChange fnExactRedactItemSpec)

/-- ITS FALSE NEIGHBOUR: 'it returns false'. Refute it at one input. -/
def fnExactRedactItemWrong : ChangeSpec := { name := "fnExactRedactItem", fn := fun _ => fun
  | [d1, d2] => { results := [.lit (.bool false)], args := [d1, d2] }
  | _ => none }
def FnExactRedactItemWrongFalsely : Prop := fnExactRedactItemRow.holds Try.pinned (OpenSpec.ofChange fnExactRedactItemWrong)

/- THE SECOND FORM. 'bulk': how many values and letters a reading holds, each counted each time it is reached (what is shared counts as often as it is met; a slice's spare places count too). A statement '..UptoSaid' is the law's where the arguments, and the package variables that the reading takes, are together of bulk at most 1048576: NARROWER than '..Said'. Prove '..Said' where nothing that the law and all that it calls make is longer than what came in: it says more and counts as full. Else prove '..UptoSaid'. A law counts once. -/
mutual
def uptoBulk {H : Type} : DataW H → Nat
  | .lit (.string bytes) => bytes.length + 1
  | .lit _ => 1
  | .nil => 1
  | .ptr d => uptoBulk d + 1
  | .slice elems spare => uptoBulkAll elems + uptoBulkAll spare + 1
  | .agg parts => uptoBulkAll parts + 1
  | .iface _ d => uptoBulk d + 1
  | .map entries => uptoBulkEntries entries + 1
  | .held _ => 1
def uptoBulkAll {H : Type} : List (DataW H) → Nat
  | [] => 0
  | d :: r => uptoBulk d + uptoBulkAll r
def uptoBulkEntries {H : Type} : List (Lit × DataW H) → Nat
  | [] => 0
  | x :: r => uptoBulkEntry x + uptoBulkEntries r
def uptoBulkEntry {H : Type} : Lit × DataW H → Nat
  | (.string bytes, d) => bytes.length + uptoBulk d + 1
  | (_, d) => uptoBulk d + 1
 end
def uptoSmall : (H : Type) → List (DataW H) → Bool := fun _ ds => decide (uptoBulkAll ds ≤ 1048576)
def OpenSpec.upto (s : _root_.Go.ChangeSpec) : _root_.Go.OpenSpec := { _root_.Go.OpenSpec.ofChange s with cond := some uptoSmall }

/-- 'laws.FnExactItemEvidence', WHERE WHAT IT READS IS OF BULK AT MOST 1048576: true; the input reads as it did. -/
def fnExactItemEvidenceUptoRow : OpenClaim := { program := "ytjehmchhdefemaa", sum := "45a90f1cde875ce4532206eeccdd62df0018c61ff873dd1f8f52eb56b3baa726", func := "loop.example/g00597/laws.FnExactItemEvidence", spec := "fnExactItemEvidence", apart := false, narrowed := true }
def FnExactItemEvidenceUptoSaid : Prop := fnExactItemEvidenceUptoRow.holds Try.pinned (OpenSpec.upto fnExactItemEvidenceSpec)

/-- 'laws.FnExactLeavesFor', WHERE WHAT IT READS IS OF BULK AT MOST 1048576: true; the input reads as it did. -/
def fnExactLeavesForUptoRow : OpenClaim := { program := "ytjehmchhdefemaa", sum := "45a90f1cde875ce4532206eeccdd62df0018c61ff873dd1f8f52eb56b3baa726", func := "loop.example/g00597/laws.FnExactLeavesFor", spec := "fnExactLeavesFor", apart := false, narrowed := true }
def FnExactLeavesForUptoSaid : Prop := fnExactLeavesForUptoRow.holds Try.pinned (OpenSpec.upto fnExactLeavesForSpec)

/-- 'laws.FnExactForgetPast', WHERE WHAT IT READS IS OF BULK AT MOST 1048576: true; the input reads as it did. -/
def fnExactForgetPastUptoRow : OpenClaim := { program := "ytjehmchhdefemaa", sum := "45a90f1cde875ce4532206eeccdd62df0018c61ff873dd1f8f52eb56b3baa726", func := "loop.example/g00597/laws.FnExactForgetPast", spec := "fnExactForgetPast", apart := false, narrowed := true }
def FnExactForgetPastUptoSaid : Prop := fnExactForgetPastUptoRow.holds Try.pinned (OpenSpec.upto fnExactForgetPastSpec)

/-- 'laws.FnExactDropItem', WHERE WHAT IT READS IS OF BULK AT MOST 1048576: true; the input reads as it did. -/
def fnExactDropItemUptoRow : OpenClaim := { program := "ytjehmchhdefemaa", sum := "45a90f1cde875ce4532206eeccdd62df0018c61ff873dd1f8f52eb56b3baa726", func := "loop.example/g00597/laws.FnExactDropItem", spec := "fnExactDropItem", apart := false, narrowed := true }
def FnExactDropItemUptoSaid : Prop := fnExactDropItemUptoRow.holds Try.pinned (OpenSpec.upto fnExactDropItemSpec)

/-- 'laws.FnExactAddToItem', WHERE WHAT IT READS IS OF BULK AT MOST 1048576: true; the input reads as it did. -/
def fnExactAddToItemUptoRow : OpenClaim := { program := "ytjehmchhdefemaa", sum := "45a90f1cde875ce4532206eeccdd62df0018c61ff873dd1f8f52eb56b3baa726", func := "loop.example/g00597/laws.FnExactAddToItem", spec := "fnExactAddToItem", apart := false, narrowed := true }
def FnExactAddToItemUptoSaid : Prop := fnExactAddToItemUptoRow.holds Try.pinned (OpenSpec.upto fnExactAddToItemSpec)

/-- 'laws.FnExactRedactItem', WHERE WHAT IT READS IS OF BULK AT MOST 1048576: true; the input reads as it did. -/
def fnExactRedactItemUptoRow : OpenClaim := { program := "ytjehmchhdefemaa", sum := "45a90f1cde875ce4532206eeccdd62df0018c61ff873dd1f8f52eb56b3baa726", func := "loop.example/g00597/laws.FnExactRedactItem", spec := "fnExactRedactItem", apart := false, narrowed := true }
def FnExactRedactItemUptoSaid : Prop := fnExactRedactItemUptoRow.holds Try.pinned (OpenSpec.upto fnExactRedactItemSpec)

end Rows
end Go.Proofs.Ytjehmchhdefemaa
