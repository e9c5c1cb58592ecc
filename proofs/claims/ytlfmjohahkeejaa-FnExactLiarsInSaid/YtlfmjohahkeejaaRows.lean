/-
  No cell of these rows narrows 'for every input' (looked for: loops, veiled, ifaces, maps, wideKeys, modest, calm, conditions, laid).
  DERIVED. THE GIVEN ROWS OF THIS SEAT. 7 by the template 'for every input the law returns true; each argument reads behind the call as it read before'; 0 by the template 'total and deterministic' (their statements: YtlfmjohahkeejaaTotals.lean).
  GIVEN WITH THE SEED: the statements are not yours to turn. If you find one false, say at which input.
  Laid BY PROGRAM, IN A SANDBOX (cutbox-rows.mjs): the forced cells as the released guide's own fill.sh prints them over the translation b162b9544fd77d4f… (all of the seat's roots in one cut). By AI agents, Wed Nov 11 2026. No macro, syntax, notation, axiom, sorry.
-/
import Derived.Test.YtlfmjohahkeejaaChecked
import GoSem.Claim
import GoSem.ClaimJoined
import GoSem.ClaimMapViews
import Derived.JoinedTies
import Derived.KernelRfl
namespace Go.Proofs.Ytlfmjohahkeejaa
/- THE CELL 'sum', in the pinned program and in every row, IS THE sha256 OF THE DUMP (.gsa) THAT YtlfmjohahkeejaaProg.lean LOADS. Nothing in Lean hashes anything: it is a label: what it is worth is what the hold of that sum in a sandbox is worth. -/
noncomputable def Try.pinned : Pinned := { name := "ytlfmjohahkeejaa", sum := "b162b9544fd77d4fc553b29a933f2faac46b9a7acbcdc85dbfe8ae2edfd8a984", checked := Try.checked }
namespace Rows
def none {H : Type} : Left H := { results := [], args := [] }

/-- 'laws.FnExactForgetPast': WHATEVER THE INPUT: true; the input reads as it did. -/
def fnExactForgetPastSpec : ChangeSpec := { name := "fnExactForgetPast", fn := fun _ => fun
  | [d1, d2] => { results := [.lit (.bool true)], args := [d1, d2] }
  | _ => none }
def fnExactForgetPastRow : OpenClaim := { program := "ytlfmjohahkeejaa", sum := "b162b9544fd77d4fc553b29a933f2faac46b9a7acbcdc85dbfe8ae2edfd8a984", func := "loop.example/g00597/laws.FnExactForgetPast", spec := "fnExactForgetPast", apart := false }
def FnExactForgetPastSaid : Prop := fnExactForgetPastRow.holds Try.pinned (OpenSpec.ofChange fnExactForgetPastSpec)

/-- ITS FALSE NEIGHBOUR: 'it returns false'. Refute it at one input. -/
def fnExactForgetPastWrong : ChangeSpec := { name := "fnExactForgetPast", fn := fun _ => fun
  | [d1, d2] => { results := [.lit (.bool false)], args := [d1, d2] }
  | _ => none }
def FnExactForgetPastWrongFalsely : Prop := fnExactForgetPastRow.holds Try.pinned (OpenSpec.ofChange fnExactForgetPastWrong)

/-- 'laws.FnExactAddToItem': WHATEVER THE INPUT: true; the input reads as it did. -/
def fnExactAddToItemSpec : ChangeSpec := { name := "fnExactAddToItem", fn := fun _ => fun
  | [d1, d2, d3] => { results := [.lit (.bool true)], args := [d1, d2, d3] }
  | _ => none }
def fnExactAddToItemRow : OpenClaim := { program := "ytlfmjohahkeejaa", sum := "b162b9544fd77d4fc553b29a933f2faac46b9a7acbcdc85dbfe8ae2edfd8a984", func := "loop.example/g00597/laws.FnExactAddToItem", spec := "fnExactAddToItem", apart := false }
def FnExactAddToItemSaid : Prop := fnExactAddToItemRow.holds Try.pinned (OpenSpec.ofChange fnExactAddToItemSpec)

/-- ITS FALSE NEIGHBOUR: 'it returns false'. Refute it at one input. -/
def fnExactAddToItemWrong : ChangeSpec := { name := "fnExactAddToItem", fn := fun _ => fun
  | [d1, d2, d3] => { results := [.lit (.bool false)], args := [d1, d2, d3] }
  | _ => none }
def FnExactAddToItemWrongFalsely : Prop := fnExactAddToItemRow.holds Try.pinned (OpenSpec.ofChange fnExactAddToItemWrong)

/-- 'laws.FnExactRedactItem': WHATEVER THE INPUT: true; the input reads as it did. -/
def fnExactRedactItemSpec : ChangeSpec := { name := "fnExactRedactItem", fn := fun _ => fun
  | [d1, d2] => { results := [.lit (.bool true)], args := [d1, d2] }
  | _ => none }
def fnExactRedactItemRow : OpenClaim := { program := "ytlfmjohahkeejaa", sum := "b162b9544fd77d4fc553b29a933f2faac46b9a7acbcdc85dbfe8ae2edfd8a984", func := "loop.example/g00597/laws.FnExactRedactItem", spec := "fnExactRedactItem", apart := false }
def FnExactRedactItemSaid : Prop := fnExactRedactItemRow.holds Try.pinned (OpenSpec.ofChange fnExactRedactItemSpec)

/-- ITS FALSE NEIGHBOUR: 'it returns false'. Refute it at one input. -/
def fnExactRedactItemWrong : ChangeSpec := { name := "fnExactRedactItem", fn := fun _ => fun
  | [d1, d2] => { results := [.lit (.bool false)], args := [d1, d2] }
  | _ => none }
def FnExactRedactItemWrongFalsely : Prop := fnExactRedactItemRow.holds Try.pinned (OpenSpec.ofChange fnExactRedactItemWrong)

/-- 'laws.FnExactDropItem': WHATEVER THE INPUT: true; the input reads as it did. -/
def fnExactDropItemSpec : ChangeSpec := { name := "fnExactDropItem", fn := fun _ => fun
  | [d1, d2] => { results := [.lit (.bool true)], args := [d1, d2] }
  | _ => none }
def fnExactDropItemRow : OpenClaim := { program := "ytlfmjohahkeejaa", sum := "b162b9544fd77d4fc553b29a933f2faac46b9a7acbcdc85dbfe8ae2edfd8a984", func := "loop.example/g00597/laws.FnExactDropItem", spec := "fnExactDropItem", apart := false }
def FnExactDropItemSaid : Prop := fnExactDropItemRow.holds Try.pinned (OpenSpec.ofChange fnExactDropItemSpec)

/-- ITS FALSE NEIGHBOUR: 'it returns false'. Refute it at one input. -/
def fnExactDropItemWrong : ChangeSpec := { name := "fnExactDropItem", fn := fun _ => fun
  | [d1, d2] => { results := [.lit (.bool false)], args := [d1, d2] }
  | _ => none }
def FnExactDropItemWrongFalsely : Prop := fnExactDropItemRow.holds Try.pinned (OpenSpec.ofChange fnExactDropItemWrong)

/-- 'laws.FnExactStampsOf': WHATEVER THE INPUT: true; the input reads as it did. -/
def fnExactStampsOfSpec : ChangeSpec := { name := "fnExactStampsOf", fn := fun _ => fun
  | [d] => { results := [.lit (.bool true)], args := [d] }
  | _ => none }
def fnExactStampsOfRow : OpenClaim := { program := "ytlfmjohahkeejaa", sum := "b162b9544fd77d4fc553b29a933f2faac46b9a7acbcdc85dbfe8ae2edfd8a984", func := "loop.example/g00597/laws.FnExactStampsOf", spec := "fnExactStampsOf", unfollowed := true, recurses := true, apart := false }
def FnExactStampsOfSaid : Prop := fnExactStampsOfRow.holds Try.pinned (OpenSpec.ofChange fnExactStampsOfSpec)

/-- ITS FALSE NEIGHBOUR: 'it returns false'. Refute it at one input. -/
def fnExactStampsOfWrong : ChangeSpec := { name := "fnExactStampsOf", fn := fun _ => fun
  | [d] => { results := [.lit (.bool false)], args := [d] }
  | _ => none }
def FnExactStampsOfWrongFalsely : Prop := fnExactStampsOfRow.holds Try.pinned (OpenSpec.ofChange fnExactStampsOfWrong)

/-- 'laws.FnExactLiarsIn': WHATEVER THE INPUT: true; the input reads as it did. -/
def fnExactLiarsInSpec : ChangeSpec := { name := "fnExactLiarsIn", fn := fun _ => fun
  | [d1, d2, d3] => { results := [.lit (.bool true)], args := [d1, d2, d3] }
  | _ => none }
def fnExactLiarsInRow : OpenClaim := { program := "ytlfmjohahkeejaa", sum := "b162b9544fd77d4fc553b29a933f2faac46b9a7acbcdc85dbfe8ae2edfd8a984", func := "loop.example/g00597/laws.FnExactLiarsIn", spec := "fnExactLiarsIn", apart := false }
def FnExactLiarsInSaid : Prop := fnExactLiarsInRow.holds Try.pinned (OpenSpec.ofChange fnExactLiarsInSpec)

/-- ITS FALSE NEIGHBOUR: 'it returns false'. Refute it at one input. -/
def fnExactLiarsInWrong : ChangeSpec := { name := "fnExactLiarsIn", fn := fun _ => fun
  | [d1, d2, d3] => { results := [.lit (.bool false)], args := [d1, d2, d3] }
  | _ => none }
def FnExactLiarsInWrongFalsely : Prop := fnExactLiarsInRow.holds Try.pinned (OpenSpec.ofChange fnExactLiarsInWrong)

/-- 'laws.FnReasons': WHATEVER THE INPUT: true; the input reads as it did. -/
def fnReasonsSpec : ChangeSpec := { name := "fnReasons", fn := fun _ => fun
  | [d] => { results := [.lit (.bool true)], args := [d] }
  | _ => none }
def fnReasonsRow : OpenClaim := { program := "ytlfmjohahkeejaa", sum := "b162b9544fd77d4fc553b29a933f2faac46b9a7acbcdc85dbfe8ae2edfd8a984", func := "loop.example/g00597/laws.FnReasons", spec := "fnReasons", apart := false }
def FnReasonsSaid : Prop := fnReasonsRow.holds Try.pinned (OpenSpec.ofChange fnReasonsSpec)

/-- ITS FALSE NEIGHBOUR: 'it returns false'. Refute it at one input. -/
def fnReasonsWrong : ChangeSpec := { name := "fnReasons", fn := fun _ => fun
  | [d] => { results := [.lit (.bool false)], args := [d] }
  | _ => none }
def FnReasonsWrongFalsely : Prop := fnReasonsRow.holds Try.pinned (OpenSpec.ofChange fnReasonsWrong)

/- THE SECOND FORM. 'bulk': how many values and letters a reading holds, each counted each time it is reached (what is shared counts as often as it is met; a slice's spare places count too). A statement '..UptoSaid' is the law's where the arguments, and the package variables that the reading takes, are together of bulk at most 1048576: NARROWER than '..Said'. Prove '..Said' where nothing that the law and all that it calls make is longer than what came in: it says more and counts as full. Else prove '..UptoSaid'. A law counts once. -/
mutual
def uptoBulk {H : Type} : DataW H → Nat
  | .lit (.string bytes) => bytes.length + 1
  | .lit _ => 1
  | .nil => 1
  | .ptr d => uptoBulk d + 1
  | .slice elems spare => uptoBulkAll elems + uptoBulkAll spare + 1
  | .agg parts => uptoBulkAll parts + 1
  | .iface _ d => uptoBulk d + 1
  | .map entries => uptoBulkEntries entries + 1
  | .held _ => 1
def uptoBulkAll {H : Type} : List (DataW H) → Nat
  | [] => 0
  | d :: r => uptoBulk d + uptoBulkAll r
def uptoBulkEntries {H : Type} : List (Lit × DataW H) → Nat
  | [] => 0
  | x :: r => uptoBulkEntry x + uptoBulkEntries r
def uptoBulkEntry {H : Type} : Lit × DataW H → Nat
  | (.string bytes, d) => bytes.length + uptoBulk d + 1
  | (_, d) => uptoBulk d + 1
 end
def uptoSmall : (H : Type) → List (DataW H) → Bool := fun _ ds => decide (uptoBulkAll ds ≤ 1048576)
def OpenSpec.upto (s : _root_.Go.ChangeSpec) : _root_.Go.OpenSpec := { _root_.Go.OpenSpec.ofChange s with cond := some uptoSmall }

/-- 'laws.FnExactForgetPast', WHERE WHAT IT READS IS OF BULK AT MOST 1048576: true; the input reads as it did. -/
def fnExactForgetPastUptoRow : OpenClaim := { program := "ytlfmjohahkeejaa", sum := "b162b9544fd77d4fc553b29a933f2faac46b9a7acbcdc85dbfe8ae2edfd8a984", func := "loop.example/g00597/laws.FnExactForgetPast", spec := "fnExactForgetPast", apart := false, narrowed := true }
def FnExactForgetPastUptoSaid : Prop := fnExactForgetPastUptoRow.holds Try.pinned (OpenSpec.upto fnExactForgetPastSpec)

/-- 'laws.FnExactAddToItem', WHERE WHAT IT READS IS OF BULK AT MOST 1048576: true; the input reads as it did. -/
def fnExactAddToItemUptoRow : OpenClaim := { program := "ytlfmjohahkeejaa", sum := "b162b9544fd77d4fc553b29a933f2faac46b9a7acbcdc85dbfe8ae2edfd8a984", func := "loop.example/g00597/laws.FnExactAddToItem", spec := "fnExactAddToItem", apart := false, narrowed := true }
def FnExactAddToItemUptoSaid : Prop := fnExactAddToItemUptoRow.holds Try.pinned (OpenSpec.upto fnExactAddToItemSpec)

/-- 'laws.FnExactRedactItem', WHERE WHAT IT READS IS OF BULK AT MOST 1048576: true; the input reads as it did. -/
def fnExactRedactItemUptoRow : OpenClaim := { program := "ytlfmjohahkeejaa", sum := "b162b9544fd77d4fc553b29a933f2faac46b9a7acbcdc85dbfe8ae2edfd8a984", func := "loop.example/g00597/laws.FnExactRedactItem", spec := "fnExactRedactItem", apart := false, narrowed := true }
def FnExactRedactItemUptoSaid : Prop := fnExactRedactItemUptoRow.holds Try.pinned (OpenSpec.upto fnExactRedactItemSpec)

/-- 'laws.FnExactDropItem', WHERE WHAT IT READS IS OF BULK AT MOST 1048576: true; the input reads as it did. -/
def fnExactDropItemUptoRow : OpenClaim := { program := "ytlfmjohahkeejaa", sum := "b162b9544fd77d4fc553b29a933f2faac46b9a7acbcdc85dbfe8ae2edfd8a984", func := "loop.example/g00597/laws.FnExactDropItem", spec := "fnExactDropItem", apart := false, narrowed := true }
def FnExactDropItemUptoSaid : Prop := fnExactDropItemUptoRow.holds Try.pinned (OpenSpec.upto fnExactDropItemSpec)

/-- 'laws.FnExactStampsOf', WHERE WHAT IT READS IS OF BULK AT MOST 1048576: true; the input reads as it did. -/
def fnExactStampsOfUptoRow : OpenClaim := { program := "ytlfmjohahkeejaa", sum := "b162b9544fd77d4fc553b29a933f2faac46b9a7acbcdc85dbfe8ae2edfd8a984", func := "loop.example/g00597/laws.FnExactStampsOf", spec := "fnExactStampsOf", unfollowed := true, recurses := true, apart := false, narrowed := true }
def FnExactStampsOfUptoSaid : Prop := fnExactStampsOfUptoRow.holds Try.pinned (OpenSpec.upto fnExactStampsOfSpec)

/-- 'laws.FnExactLiarsIn', WHERE WHAT IT READS IS OF BULK AT MOST 1048576: true; the input reads as it did. -/
def fnExactLiarsInUptoRow : OpenClaim := { program := "ytlfmjohahkeejaa", sum := "b162b9544fd77d4fc553b29a933f2faac46b9a7acbcdc85dbfe8ae2edfd8a984", func := "loop.example/g00597/laws.FnExactLiarsIn", spec := "fnExactLiarsIn", apart := false, narrowed := true }
def FnExactLiarsInUptoSaid : Prop := fnExactLiarsInUptoRow.holds Try.pinned (OpenSpec.upto fnExactLiarsInSpec)

/-- 'laws.FnReasons', WHERE WHAT IT READS IS OF BULK AT MOST 1048576: true; the input reads as it did. -/
def fnReasonsUptoRow : OpenClaim := { program := "ytlfmjohahkeejaa", sum := "b162b9544fd77d4fc553b29a933f2faac46b9a7acbcdc85dbfe8ae2edfd8a984", func := "loop.example/g00597/laws.FnReasons", spec := "fnReasons", apart := false, narrowed := true }
def FnReasonsUptoSaid : Prop := fnReasonsUptoRow.holds Try.pinned (OpenSpec.upto fnReasonsSpec)

end Rows
end Go.Proofs.Ytlfmjohahkeejaa
