/-
  No cell of these rows narrows 'for every input' (looked for: loops, veiled, ifaces, maps, wideKeys, modest, calm, conditions, laid).
  DERIVED. THE GIVEN ROWS OF THIS SEAT. 3 by the template 'for every input the law returns true; each argument reads behind the call as it read before'; 0 by the template 'total and deterministic' (their statements: YtajkcodhmabmnaaGreatTotals.lean).
  GIVEN WITH THE SEED: the statements are not yours to turn. If you find one false, say at which input.
  Laid BY PROGRAM, IN A SANDBOX (cutbox-rows.mjs): the forced cells as the released guide's own fill.sh prints them over the translation 9dd0d712dc3afacd… (all of the seat's roots in one cut). By AI agents, Wed Nov 11 2026. No macro, syntax, notation, axiom, sorry.
-/
import Derived.Test.YtajkcodhmabmnaaGreatChecked
import GoSem.Claim
import GoSem.ClaimJoined
import GoSem.ClaimMapViews
import Derived.JoinedTies
import Derived.KernelRfl
namespace Go.Proofs.YtajkcodhmabmnaaGreat
/- THE CELL 'sum', in the pinned program and in every row, IS THE sha256 OF THE DUMP (.gsa) THAT YtajkcodhmabmnaaGreatProg.lean LOADS. Nothing in Lean hashes anything: it is a label: what it is worth is what the hold of that sum in a sandbox is worth. -/
noncomputable def Tryz.pinned : Pinned := { name := "ytajkcodhmabmnaagreat", sum := "9dd0d712dc3afacda07b9f62af8df5e2bdd0254b33dbddc44a408cf840288ae4", checked := Tryz.checked }
namespace Rows
def none {H : Type} : Left H := { results := [], args := [] }

/-- 'laws.FnSealed': WHATEVER THE INPUT: true; the input reads as it did. -/
def fnSealedSpec : ChangeSpec := { name := "fnSealed", fn := fun _ => fun
  | [d] => { results := [.lit (.bool true)], args := [d] }
  | _ => none }
def fnSealedRow : OpenClaim := { program := "ytajkcodhmabmnaagreat", sum := "9dd0d712dc3afacda07b9f62af8df5e2bdd0254b33dbddc44a408cf840288ae4", func := "loop.example/g00597/laws.FnSealed", spec := "fnSealed", apart := false }
def FnSealedSaid : Prop := fnSealedRow.holds Tryz.pinned (OpenSpec.ofChange fnSealedSpec)

/-- ITS FALSE NEIGHBOUR: 'it returns false'. Refute it at one input. -/
def fnSealedWrong : ChangeSpec := { name := "fnSealed", fn := fun _ => fun
  | [d] => { results := [.lit (.bool false)], args := [d] }
  | _ => none }
def FnSealedWrongFalsely : Prop := fnSealedRow.holds Tryz.pinned (OpenSpec.ofChange fnSealedWrong)

/-- 'laws.FnForgotten': WHATEVER THE INPUT: true; the input reads as it did. -/
def fnForgottenSpec : ChangeSpec := { name := "fnForgotten", fn := fun _ => fun
  | [d] => { results := [.lit (.bool true)], args := [d] }
  | _ => none }
def fnForgottenRow : OpenClaim := { program := "ytajkcodhmabmnaagreat", sum := "9dd0d712dc3afacda07b9f62af8df5e2bdd0254b33dbddc44a408cf840288ae4", func := "loop.example/g00597/laws.FnForgotten", spec := "fnForgotten", unfollowed := true, recurses := true, apart := false }
def FnForgottenSaid : Prop := fnForgottenRow.holds Tryz.pinned (OpenSpec.ofChange fnForgottenSpec)

/-- ITS FALSE NEIGHBOUR: 'it returns false'. Refute it at one input. -/
def fnForgottenWrong : ChangeSpec := { name := "fnForgotten", fn := fun _ => fun
  | [d] => { results := [.lit (.bool false)], args := [d] }
  | _ => none }
def FnForgottenWrongFalsely : Prop := fnForgottenRow.holds Tryz.pinned (OpenSpec.ofChange fnForgottenWrong)

/-- 'laws.FnOrderless': WHATEVER THE INPUT: true; the input reads as it did. -/
def fnOrderlessSpec : ChangeSpec := { name := "fnOrderless", fn := fun _ => fun
  | [d] => { results := [.lit (.bool true)], args := [d] }
  | _ => none }
def fnOrderlessRow : OpenClaim := { program := "ytajkcodhmabmnaagreat", sum := "9dd0d712dc3afacda07b9f62af8df5e2bdd0254b33dbddc44a408cf840288ae4", func := "loop.example/g00597/laws.FnOrderless", spec := "fnOrderless", unfollowed := true, recurses := true, apart := false }
def FnOrderlessSaid : Prop := fnOrderlessRow.holds Tryz.pinned (OpenSpec.ofChange fnOrderlessSpec)

/-- ITS FALSE NEIGHBOUR: 'it returns false'. Refute it at one input. -/
def fnOrderlessWrong : ChangeSpec := { name := "fnOrderless", fn := fun _ => fun
  | [d] => { results := [.lit (.bool false)], args := [d] }
  | _ => none }
def FnOrderlessWrongFalsely : Prop := fnOrderlessRow.holds Tryz.pinned (OpenSpec.ofChange fnOrderlessWrong)

/- THE SECOND FORM. 'bulk': how many values and letters a reading holds, each counted each time it is reached (what is shared counts as often as it is met; a slice's spare places count too). A statement '..UptoSaid' is the law's where the arguments, and the package variables that the reading takes, are together of bulk at most 1048576: NARROWER than '..Said'. Prove '..Said' where nothing that the law and all that it calls make is longer than what came in: it says more and counts as full. Else prove '..UptoSaid'. A law counts once. -/
mutual
def uptoBulk {H : Type} : DataW H → Nat
  | .lit (.string bytes) => bytes.length + 1
  | .lit _ => 1
  | .nil => 1
  | .ptr d => uptoBulk d + 1
  | .slice elems spare => uptoBulkAll elems + uptoBulkAll spare + 1
  | .agg parts => uptoBulkAll parts + 1
  | .iface _ d => uptoBulk d + 1
  | .map entries => uptoBulkEntries entries + 1
  | .held _ => 1
def uptoBulkAll {H : Type} : List (DataW H) → Nat
  | [] => 0
  | d :: r => uptoBulk d + uptoBulkAll r
def uptoBulkEntries {H : Type} : List (Lit × DataW H) → Nat
  | [] => 0
  | x :: r => uptoBulkEntry x + uptoBulkEntries r
def uptoBulkEntry {H : Type} : Lit × DataW H → Nat
  | (.string bytes, d) => bytes.length + uptoBulk d + 1
  | (_, d) => uptoBulk d + 1
 end
def uptoSmall : (H : Type) → List (DataW H) → Bool := fun _ ds => decide (uptoBulkAll ds ≤ 1048576)
def OpenSpec.upto (s : _root_.Go.ChangeSpec) : _root_.Go.OpenSpec := { _root_.Go.OpenSpec.ofChange s with cond := some uptoSmall }

/-- 'laws.FnSealed', WHERE WHAT IT READS IS OF BULK AT MOST 1048576: true; the input reads as it did. -/
def fnSealedUptoRow : OpenClaim := { program := "ytajkcodhmabmnaagreat", sum := "9dd0d712dc3afacda07b9f62af8df5e2bdd0254b33dbddc44a408cf840288ae4", func := "loop.example/g00597/laws.FnSealed", spec := "fnSealed", apart := false, narrowed := true }
def FnSealedUptoSaid : Prop := fnSealedUptoRow.holds Tryz.pinned (OpenSpec.upto fnSealedSpec)

/-- 'laws.FnForgotten', WHERE WHAT IT READS IS OF BULK AT MOST 1048576: true; the input reads as it did. -/
def fnForgottenUptoRow : OpenClaim := { program := "ytajkcodhmabmnaagreat", sum := "9dd0d712dc3afacda07b9f62af8df5e2bdd0254b33dbddc44a408cf840288ae4", func := "loop.example/g00597/laws.FnForgotten", spec := "fnForgotten", unfollowed := true, recurses := true, apart := false, narrowed := true }
def FnForgottenUptoSaid : Prop := fnForgottenUptoRow.holds Tryz.pinned (OpenSpec.upto fnForgottenSpec)

/-- 'laws.FnOrderless', WHERE WHAT IT READS IS OF BULK AT MOST 1048576: true; the input reads as it did. -/
def fnOrderlessUptoRow : OpenClaim := { program := "ytajkcodhmabmnaagreat", sum := "9dd0d712dc3afacda07b9f62af8df5e2bdd0254b33dbddc44a408cf840288ae4", func := "loop.example/g00597/laws.FnOrderless", spec := "fnOrderless", unfollowed := true, recurses := true, apart := false, narrowed := true }
def FnOrderlessUptoSaid : Prop := fnOrderlessUptoRow.holds Tryz.pinned (OpenSpec.upto fnOrderlessSpec)

end Rows
end Go.Proofs.YtajkcodhmabmnaaGreat
