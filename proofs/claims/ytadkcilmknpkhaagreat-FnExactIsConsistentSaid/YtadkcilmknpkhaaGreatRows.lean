/-
  No cell of these rows narrows 'for every input' (looked for: loops, veiled, ifaces, maps, wideKeys, modest, calm, conditions, laid).
  DERIVED. THE GIVEN ROWS OF THIS SEAT. 3 by the template 'for every input the law returns true; each argument reads behind the call as it read before'; 0 by the template 'total and deterministic' (their statements: YtadkcilmknpkhaaGreatTotals.lean).
  GIVEN WITH THE SEED: the statements are not yours to turn. If you find one false, say at which input.
  Laid BY PROGRAM, IN A SANDBOX (cutbox-rows.mjs): the forced cells as the released guide's own fill.sh prints them over the translation df7a4c62421714d0… (all of the seat's roots in one cut). By AI agents, Wed Nov 11 2026. No macro, syntax, notation, axiom, sorry.
-/
import Derived.Test.YtadkcilmknpkhaaGreatChecked
import GoSem.Claim
import GoSem.ClaimJoined
import GoSem.ClaimMapViews
import Derived.JoinedTies
import Derived.KernelRfl
namespace Go.Proofs.YtadkcilmknpkhaaGreat
/- THE CELL 'sum', in the pinned program and in every row, IS THE sha256 OF THE DUMP (.gsa) THAT YtadkcilmknpkhaaGreatProg.lean LOADS. Nothing in Lean hashes anything: it is a label: what it is worth is what the hold of that sum in a sandbox is worth. -/
noncomputable def Tryz.pinned : Pinned := { name := "ytadkcilmknpkhaagreat", sum := "df7a4c62421714d0967c843d6d227955c8afb47e82102ec619f76af29c409b92", checked := Tryz.checked }
namespace Rows
def none {H : Type} : Left H := { results := [], args := [] }

/-- 'laws.FnExactEvidenceBound': WHATEVER THE INPUT: true; the input reads as it did. -/
def fnExactEvidenceBoundSpec : ChangeSpec := { name := "fnExactEvidenceBound", fn := fun _ => fun
  | [d1, d2, d3, d4] => { results := [.lit (.bool true)], args := [d1, d2, d3, d4] }
  | _ => none }
def fnExactEvidenceBoundRow : OpenClaim := { program := "ytadkcilmknpkhaagreat", sum := "df7a4c62421714d0967c843d6d227955c8afb47e82102ec619f76af29c409b92", func := "loop.example/g00597/laws.FnExactEvidenceBound", spec := "fnExactEvidenceBound", apart := false }
def FnExactEvidenceBoundSaid : Prop := fnExactEvidenceBoundRow.holds Tryz.pinned (OpenSpec.ofChange fnExactEvidenceBoundSpec)

/-- ITS FALSE NEIGHBOUR: 'it returns false'. Refute it at one input. -/
def fnExactEvidenceBoundWrong : ChangeSpec := { name := "fnExactEvidenceBound", fn := fun _ => fun
  | [d1, d2, d3, d4] => { results := [.lit (.bool false)], args := [d1, d2, d3, d4] }
  | _ => none }
def FnExactEvidenceBoundWrongFalsely : Prop := fnExactEvidenceBoundRow.holds Tryz.pinned (OpenSpec.ofChange fnExactEvidenceBoundWrong)

/-- 'laws.FnExactUsablePieces': WHATEVER THE INPUT: true; the input reads as it did. -/
def fnExactUsablePiecesSpec : ChangeSpec := { name := "fnExactUsablePieces", fn := fun _ => fun
  | [d1, d2, d3] => { results := [.lit (.bool true)], args := [d1, d2, d3] }
  | _ => none }
def fnExactUsablePiecesRow : OpenClaim := { program := "ytadkcilmknpkhaagreat", sum := "df7a4c62421714d0967c843d6d227955c8afb47e82102ec619f76af29c409b92", func := "loop.example/g00597/laws.FnExactUsablePieces", spec := "fnExactUsablePieces", apart := false }
def FnExactUsablePiecesSaid : Prop := fnExactUsablePiecesRow.holds Tryz.pinned (OpenSpec.ofChange fnExactUsablePiecesSpec)

/-- ITS FALSE NEIGHBOUR: 'it returns false'. Refute it at one input. -/
def fnExactUsablePiecesWrong : ChangeSpec := { name := "fnExactUsablePieces", fn := fun _ => fun
  | [d1, d2, d3] => { results := [.lit (.bool false)], args := [d1, d2, d3] }
  | _ => none }
def FnExactUsablePiecesWrongFalsely : Prop := fnExactUsablePiecesRow.holds Tryz.pinned (OpenSpec.ofChange fnExactUsablePiecesWrong)

/-- 'laws.FnExactIsConsistent': WHATEVER THE INPUT: true; the input reads as it did. -/
def fnExactIsConsistentSpec : ChangeSpec := { name := "fnExactIsConsistent", fn := fun _ => fun
  | [d1, d2, d3, d4] => { results := [.lit (.bool true)], args := [d1, d2, d3, d4] }
  | _ => none }
def fnExactIsConsistentRow : OpenClaim := { program := "ytadkcilmknpkhaagreat", sum := "df7a4c62421714d0967c843d6d227955c8afb47e82102ec619f76af29c409b92", func := "loop.example/g00597/laws.FnExactIsConsistent", spec := "fnExactIsConsistent", apart := false }
def FnExactIsConsistentSaid : Prop := fnExactIsConsistentRow.holds Tryz.pinned (OpenSpec.ofChange fnExactIsConsistentSpec)

/-- ITS FALSE NEIGHBOUR: 'it returns false'. Refute it at one input. -/
def fnExactIsConsistentWrong : ChangeSpec := { name := "fnExactIsConsistent", fn := fun _ => fun
  | [d1, d2, d3, d4] => { results := [.lit (.bool false)], args := [d1, d2, d3, d4] }
  | _ => none }
def FnExactIsConsistentWrongFalsely : Prop := fnExactIsConsistentRow.holds Tryz.pinned (OpenSpec.ofChange fnExactIsConsistentWrong)

/- THE SECOND FORM. 'bulk': how many values and letters a reading holds, each counted each time it is reached (what is shared counts as often as it is met; a slice's spare places count too). A statement '..UptoSaid' is the law's where the arguments, and the package variables that the reading takes, are together of bulk at most 1048576: NARROWER than '..Said'. Prove '..Said' where nothing that the law and all that it calls make is longer than what came in: it says more and counts as full. Else prove '..UptoSaid'. A law counts once. -/
mutual
def uptoBulk {H : Type} : DataW H → Nat
  | .lit (.string bytes) => bytes.length + 1
  | .lit _ => 1
  | .nil => 1
  | .ptr d => uptoBulk d + 1
  | .slice elems spare => uptoBulkAll elems + uptoBulkAll spare + 1
  | .agg parts => uptoBulkAll parts + 1
  | .iface _ d => uptoBulk d + 1
  | .map entries => uptoBulkEntries entries + 1
  | .held _ => 1
def uptoBulkAll {H : Type} : List (DataW H) → Nat
  | [] => 0
  | d :: r => uptoBulk d + uptoBulkAll r
def uptoBulkEntries {H : Type} : List (Lit × DataW H) → Nat
  | [] => 0
  | x :: r => uptoBulkEntry x + uptoBulkEntries r
def uptoBulkEntry {H : Type} : Lit × DataW H → Nat
  | (.string bytes, d) => bytes.length + uptoBulk d + 1
  | (_, d) => uptoBulk d + 1
 end
def uptoSmall : (H : Type) → List (DataW H) → Bool := fun _ ds => decide (uptoBulkAll ds ≤ 1048576)
def OpenSpec.upto (s : _root_.Go.ChangeSpec) : _root_.Go.OpenSpec := { _root_.Go.OpenSpec.ofChange s with cond := some uptoSmall }

/-- 'laws.FnExactEvidenceBound', WHERE WHAT IT READS IS OF BULK AT MOST 1048576: true; the input reads as it did. -/
def fnExactEvidenceBoundUptoRow : OpenClaim := { program := "ytadkcilmknpkhaagreat", sum := "df7a4c62421714d0967c843d6d227955c8afb47e82102ec619f76af29c409b92", func := "loop.example/g00597/laws.FnExactEvidenceBound", spec := "fnExactEvidenceBound", apart := false, narrowed := true }
def FnExactEvidenceBoundUptoSaid : Prop := fnExactEvidenceBoundUptoRow.holds Tryz.pinned (OpenSpec.upto fnExactEvidenceBoundSpec)

/-- 'laws.FnExactUsablePieces', WHERE WHAT IT READS IS OF BULK AT MOST 1048576: true; the input reads as it did. -/
def fnExactUsablePiecesUptoRow : OpenClaim := { program := "ytadkcilmknpkhaagreat", sum := "df7a4c62421714d0967c843d6d227955c8afb47e82102ec619f76af29c409b92", func := "loop.example/g00597/laws.FnExactUsablePieces", spec := "fnExactUsablePieces", apart := false, narrowed := true }
def FnExactUsablePiecesUptoSaid : Prop := fnExactUsablePiecesUptoRow.holds Tryz.pinned (OpenSpec.upto fnExactUsablePiecesSpec)

/-- 'laws.FnExactIsConsistent', WHERE WHAT IT READS IS OF BULK AT MOST 1048576: true; the input reads as it did. -/
def fnExactIsConsistentUptoRow : OpenClaim := { program := "ytadkcilmknpkhaagreat", sum := "df7a4c62421714d0967c843d6d227955c8afb47e82102ec619f76af29c409b92", func := "loop.example/g00597/laws.FnExactIsConsistent", spec := "fnExactIsConsistent", apart := false, narrowed := true }
def FnExactIsConsistentUptoSaid : Prop := fnExactIsConsistentUptoRow.holds Tryz.pinned (OpenSpec.upto fnExactIsConsistentSpec)

end Rows
end Go.Proofs.YtadkcilmknpkhaaGreat
