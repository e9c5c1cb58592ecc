/-
  No cell of these rows narrows 'for every input' (looked for: loops, veiled, ifaces, maps, wideKeys, modest, calm, conditions, laid).
  DERIVED. THE GIVEN ROWS OF THIS SEAT. 5 by the template 'for every input the law returns true; each argument reads behind the call as it read before'; 0 by the template 'total and deterministic' (their statements: YtlfmjohahkeejaaGreatTotals.lean).
  GIVEN WITH THE SEED: the statements are not yours to turn. If you find one false, say at which input.
  Laid BY PROGRAM, IN A SANDBOX (cutbox-rows.mjs): the forced cells as the released guide's own fill.sh prints them over the translation 1c28648b661b82ff… (all of the seat's roots in one cut). By AI agents, Wed Nov 11 2026. No macro, syntax, notation, axiom, sorry.
-/
import Derived.Test.YtlfmjohahkeejaaGreatChecked
import GoSem.Claim
import GoSem.ClaimJoined
import GoSem.ClaimMapViews
import Derived.JoinedTies
import Derived.KernelRfl
namespace Go.Proofs.YtlfmjohahkeejaaGreat
/- THE CELL 'sum', in the pinned program and in every row, IS THE sha256 OF THE DUMP (.gsa) THAT YtlfmjohahkeejaaGreatProg.lean LOADS. Nothing in Lean hashes anything: it is a label: what it is worth is what the hold of that sum in a sandbox is worth. -/
noncomputable def Tryz.pinned : Pinned := { name := "ytlfmjohahkeejaagreat", sum := "1c28648b661b82ff61b4b9995e319a8d00ffde3954e8d9fe235d1a6e5fad83fe", checked := Tryz.checked }
namespace Rows
def none {H : Type} : Left H := { results := [], args := [] }

/-- 'laws.FnExactAddItem': WHATEVER THE INPUT: true; the input reads as it did. -/
def fnExactAddItemSpec : ChangeSpec := { name := "fnExactAddItem", fn := fun _ => fun
  | [d1, d2] => { results := [.lit (.bool true)], args := [d1, d2] }
  | _ => none }
def fnExactAddItemRow : OpenClaim := { program := "ytlfmjohahkeejaagreat", sum := "1c28648b661b82ff61b4b9995e319a8d00ffde3954e8d9fe235d1a6e5fad83fe", func := "loop.example/g00597/laws.FnExactAddItem", spec := "fnExactAddItem", apart := false }
def FnExactAddItemSaid : Prop := fnExactAddItemRow.holds Tryz.pinned (OpenSpec.ofChange fnExactAddItemSpec)

/-- ITS FALSE NEIGHBOUR: 'it returns false'. Refute it at one input. -/
def fnExactAddItemWrong : ChangeSpec := { name := "fnExactAddItem", fn := fun _ => fun
  | [d1, d2] => { results := [.lit (.bool false)], args := [d1, d2] }
  | _ => none }
def FnExactAddItemWrongFalsely : Prop := fnExactAddItemRow.holds Tryz.pinned (OpenSpec.ofChange fnExactAddItemWrong)

/-- 'laws.FnExactMakeParcel': WHATEVER THE INPUT: true; the input reads as it did. -/
def fnExactMakeParcelSpec : ChangeSpec := { name := "fnExactMakeParcel", fn := fun _ => fun
  | [d1, d2, d3, d4] => { results := [.lit (.bool true)], args := [d1, d2, d3, d4] }
  | _ => none }
def fnExactMakeParcelRow : OpenClaim := { program := "ytlfmjohahkeejaagreat", sum := "1c28648b661b82ff61b4b9995e319a8d00ffde3954e8d9fe235d1a6e5fad83fe", func := "loop.example/g00597/laws.FnExactMakeParcel", spec := "fnExactMakeParcel", apart := false }
def FnExactMakeParcelSaid : Prop := fnExactMakeParcelRow.holds Tryz.pinned (OpenSpec.ofChange fnExactMakeParcelSpec)

/-- ITS FALSE NEIGHBOUR: 'it returns false'. Refute it at one input. -/
def fnExactMakeParcelWrong : ChangeSpec := { name := "fnExactMakeParcel", fn := fun _ => fun
  | [d1, d2, d3, d4] => { results := [.lit (.bool false)], args := [d1, d2, d3, d4] }
  | _ => none }
def FnExactMakeParcelWrongFalsely : Prop := fnExactMakeParcelRow.holds Tryz.pinned (OpenSpec.ofChange fnExactMakeParcelWrong)

/-- 'laws.FnExactSealArchive': WHATEVER THE INPUT: true; the input reads as it did. -/
def fnExactSealArchiveSpec : ChangeSpec := { name := "fnExactSealArchive", fn := fun _ => fun
  | [d1, d2, d3] => { results := [.lit (.bool true)], args := [d1, d2, d3] }
  | _ => none }
def fnExactSealArchiveRow : OpenClaim := { program := "ytlfmjohahkeejaagreat", sum := "1c28648b661b82ff61b4b9995e319a8d00ffde3954e8d9fe235d1a6e5fad83fe", func := "loop.example/g00597/laws.FnExactSealArchive", spec := "fnExactSealArchive", apart := false }
def FnExactSealArchiveSaid : Prop := fnExactSealArchiveRow.holds Tryz.pinned (OpenSpec.ofChange fnExactSealArchiveSpec)

/-- ITS FALSE NEIGHBOUR: 'it returns false'. Refute it at one input. -/
def fnExactSealArchiveWrong : ChangeSpec := { name := "fnExactSealArchive", fn := fun _ => fun
  | [d1, d2, d3] => { results := [.lit (.bool false)], args := [d1, d2, d3] }
  | _ => none }
def FnExactSealArchiveWrongFalsely : Prop := fnExactSealArchiveRow.holds Tryz.pinned (OpenSpec.ofChange fnExactSealArchiveWrong)

/-- 'laws.FnExactAcceptParcel': WHATEVER THE INPUT: true; the input reads as it did. -/
def fnExactAcceptParcelSpec : ChangeSpec := { name := "fnExactAcceptParcel", fn := fun _ => fun
  | [d1, d2, d3] => { results := [.lit (.bool true)], args := [d1, d2, d3] }
  | _ => none }
def fnExactAcceptParcelRow : OpenClaim := { program := "ytlfmjohahkeejaagreat", sum := "1c28648b661b82ff61b4b9995e319a8d00ffde3954e8d9fe235d1a6e5fad83fe", func := "loop.example/g00597/laws.FnExactAcceptParcel", spec := "fnExactAcceptParcel", apart := false }
def FnExactAcceptParcelSaid : Prop := fnExactAcceptParcelRow.holds Tryz.pinned (OpenSpec.ofChange fnExactAcceptParcelSpec)

/-- ITS FALSE NEIGHBOUR: 'it returns false'. Refute it at one input. -/
def fnExactAcceptParcelWrong : ChangeSpec := { name := "fnExactAcceptParcel", fn := fun _ => fun
  | [d1, d2, d3] => { results := [.lit (.bool false)], args := [d1, d2, d3] }
  | _ => none }
def FnExactAcceptParcelWrongFalsely : Prop := fnExactAcceptParcelRow.holds Tryz.pinned (OpenSpec.ofChange fnExactAcceptParcelWrong)

/-- 'laws.FnExactMoveItems': WHATEVER THE INPUT: true; the input reads as it did. -/
def fnExactMoveItemsSpec : ChangeSpec := { name := "fnExactMoveItems", fn := fun _ => fun
  | [d1, d2, d3, d4] => { results := [.lit (.bool true)], args := [d1, d2, d3, d4] }
  | _ => none }
def fnExactMoveItemsRow : OpenClaim := { program := "ytlfmjohahkeejaagreat", sum := "1c28648b661b82ff61b4b9995e319a8d00ffde3954e8d9fe235d1a6e5fad83fe", func := "loop.example/g00597/laws.FnExactMoveItems", spec := "fnExactMoveItems", apart := false }
def FnExactMoveItemsSaid : Prop := fnExactMoveItemsRow.holds Tryz.pinned (OpenSpec.ofChange fnExactMoveItemsSpec)

/-- ITS FALSE NEIGHBOUR: 'it returns false'. Refute it at one input. -/
def fnExactMoveItemsWrong : ChangeSpec := { name := "fnExactMoveItems", fn := fun _ => fun
  | [d1, d2, d3, d4] => { results := [.lit (.bool false)], args := [d1, d2, d3, d4] }
  | _ => none }
def FnExactMoveItemsWrongFalsely : Prop := fnExactMoveItemsRow.holds Tryz.pinned (OpenSpec.ofChange fnExactMoveItemsWrong)

/- THE SECOND FORM. 'bulk': how many values and letters a reading holds, each counted each time it is reached (what is shared counts as often as it is met; a slice's spare places count too). A statement '..UptoSaid' is the law's where the arguments, and the package variables that the reading takes, are together of bulk at most 1048576: NARROWER than '..Said'. Prove '..Said' where nothing that the law and all that it calls make is longer than what came in: it says more and counts as full. Else prove '..UptoSaid'. A law counts once. -/
mutual
def uptoBulk {H : Type} : DataW H → Nat
  | .lit (.string bytes) => bytes.length + 1
  | .lit _ => 1
  | .nil => 1
  | .ptr d => uptoBulk d + 1
  | .slice elems spare => uptoBulkAll elems + uptoBulkAll spare + 1
  | .agg parts => uptoBulkAll parts + 1
  | .iface _ d => uptoBulk d + 1
  | .map entries => uptoBulkEntries entries + 1
  | .held _ => 1
def uptoBulkAll {H : Type} : List (DataW H) → Nat
  | [] => 0
  | d :: r => uptoBulk d + uptoBulkAll r
def uptoBulkEntries {H : Type} : List (Lit × DataW H) → Nat
  | [] => 0
  | x :: r => uptoBulkEntry x + uptoBulkEntries r
def uptoBulkEntry {H : Type} : Lit × DataW H → Nat
  | (.string bytes, d) => bytes.length + uptoBulk d + 1
  | (_, d) => uptoBulk d + 1
 end
def uptoSmall : (H : Type) → List (DataW H) → Bool := fun _ ds => decide (uptoBulkAll ds ≤ 1048576)
def OpenSpec.upto (s : _root_.Go.ChangeSpec) : _root_.Go.OpenSpec := { _root_.Go.OpenSpec.ofChange s with cond := some uptoSmall }

/-- 'laws.FnExactAddItem', WHERE WHAT IT READS IS OF BULK AT MOST 1048576: true; the input reads as it did. -/
def fnExactAddItemUptoRow : OpenClaim := { program := "ytlfmjohahkeejaagreat", sum := "1c28648b661b82ff61b4b9995e319a8d00ffde3954e8d9fe235d1a6e5fad83fe", func := "loop.example/g00597/laws.FnExactAddItem", spec := "fnExactAddItem", apart := false, narrowed := true }
def FnExactAddItemUptoSaid : Prop := fnExactAddItemUptoRow.holds Tryz.pinned (OpenSpec.upto fnExactAddItemSpec)

/-- 'laws.FnExactMakeParcel', WHERE WHAT IT READS IS OF BULK AT MOST 1048576: true; the input reads as it did. -/
def fnExactMakeParcelUptoRow : OpenClaim := { program := "ytlfmjohahkeejaagreat", sum := "1c28648b661b82ff61b4b9995e319a8d00ffde3954e8d9fe235d1a6e5fad83fe", func := "loop.example/g00597/laws.FnExactMakeParcel", spec := "fnExactMakeParcel", apart := false, narrowed := true }
def FnExactMakeParcelUptoSaid : Prop := fnExactMakeParcelUptoRow.holds Tryz.pinned (OpenSpec.upto fnExactMakeParcelSpec)

/-- 'laws.FnExactSealArchive', WHERE WHAT IT READS IS OF BULK AT MOST 1048576: true; the input reads as it did. -/
def fnExactSealArchiveUptoRow : OpenClaim := { program := "ytlfmjohahkeejaagreat", sum := "1c28648b661b82ff61b4b9995e319a8d00ffde3954e8d9fe235d1a6e5fad83fe", func := "loop.example/g00597/laws.FnExactSealArchive", spec := "fnExactSealArchive", apart := false, narrowed := true }
def FnExactSealArchiveUptoSaid : Prop := fnExactSealArchiveUptoRow.holds Tryz.pinned (OpenSpec.upto fnExactSealArchiveSpec)

/-- 'laws.FnExactAcceptParcel', WHERE WHAT IT READS IS OF BULK AT MOST 1048576: true; the input reads as it did. -/
def fnExactAcceptParcelUptoRow : OpenClaim := { program := "ytlfmjohahkeejaagreat", sum := "1c28648b661b82ff61b4b9995e319a8d00ffde3954e8d9fe235d1a6e5fad83fe", func := "loop.example/g00597/laws.FnExactAcceptParcel", spec := "fnExactAcceptParcel", apart := false, narrowed := true }
def FnExactAcceptParcelUptoSaid : Prop := fnExactAcceptParcelUptoRow.holds Tryz.pinned (OpenSpec.upto fnExactAcceptParcelSpec)

/-- 'laws.FnExactMoveItems', WHERE WHAT IT READS IS OF BULK AT MOST 1048576: true; the input reads as it did. -/
def fnExactMoveItemsUptoRow : OpenClaim := { program := "ytlfmjohahkeejaagreat", sum := "1c28648b661b82ff61b4b9995e319a8d00ffde3954e8d9fe235d1a6e5fad83fe", func := "loop.example/g00597/laws.FnExactMoveItems", spec := "fnExactMoveItems", apart := false, narrowed := true }
def FnExactMoveItemsUptoSaid : Prop := fnExactMoveItemsUptoRow.holds Tryz.pinned (OpenSpec.upto fnExactMoveItemsSpec)

end Rows
end Go.Proofs.YtlfmjohahkeejaaGreat
