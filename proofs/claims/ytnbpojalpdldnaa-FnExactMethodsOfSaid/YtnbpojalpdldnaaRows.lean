/-
  No cell of these rows narrows 'for every input' (looked for: loops, veiled, ifaces, maps, wideKeys, modest, calm, conditions, laid).
  DERIVED. THE GIVEN ROWS OF THIS SEAT. 8 by the template 'for every input the law returns true; each argument reads behind the call as it read before'; 0 by the template 'total and deterministic' (their statements: YtnbpojalpdldnaaTotals.lean).
  GIVEN WITH THE SEED: the statements are not yours to turn. If you find one false, say at which input.
  Laid BY PROGRAM, IN A SANDBOX (cutbox-rows.mjs): the forced cells as the released guide's own fill.sh prints them over the translation 1230cb5113649c65… (all of the seat's roots in one cut). By AI agents, Wed Nov 11 2026. No macro, syntax, notation, axiom, sorry.
-/
import Derived.Test.YtnbpojalpdldnaaChecked
import GoSem.Claim
import GoSem.ClaimJoined
import GoSem.ClaimMapViews
import Derived.JoinedTies
import Derived.KernelRfl
namespace Go.Proofs.Ytnbpojalpdldnaa
/- THE CELL 'sum', in the pinned program and in every row, IS THE sha256 OF THE DUMP (.gsa) THAT YtnbpojalpdldnaaProg.lean LOADS. Nothing in Lean hashes anything: it is a label: what it is worth is what the hold of that sum in a sandbox is worth. -/
noncomputable def Try.pinned : Pinned := { name := "ytnbpojalpdldnaa", sum := "1230cb5113649c65170601251e373605ccb372217894b8d2a574035b555bfbcd", checked := Try.checked }
namespace Rows
def none {H : Type} : Left H := { results := [], args := [] }

/-- 'laws.FnExactMandatesIn': WHATEVER THE INPUT: true; the input reads as it did. -/
def fnExactMandatesInSpec : ChangeSpec := { name := "fnExactMandatesIn", fn := fun _ => fun
  | [d] => { results := [.lit (.bool true)], args := [d] }
  | _ => none }
def fnExactMandatesInRow : OpenClaim := { program := "ytnbpojalpdldnaa", sum := "1230cb5113649c65170601251e373605ccb372217894b8d2a574035b555bfbcd", func := "loop.example/g00597/laws.FnExactMandatesIn", spec := "fnExactMandatesIn", apart := false }
def FnExactMandatesInSaid : Prop := fnExactMandatesInRow.holds Try.pinned (OpenSpec.ofChange fnExactMandatesInSpec)

/-- ITS FALSE NEIGHBOUR: 'it returns false'. Refute it at one input. -/
def fnExactMandatesInWrong : ChangeSpec := { name := "fnExactMandatesIn", fn := fun _ => fun
  | [d] => { results := [.lit (.bool false)], args := [d] }
  | _ => none }
def FnExactMandatesInWrongFalsely : Prop := fnExactMandatesInRow.holds Try.pinned (OpenSpec.ofChange fnExactMandatesInWrong)

/-- 'laws.FnExactStatusesFor': WHATEVER THE INPUT: true; the input reads as it did. -/
def fnExactStatusesForSpec : ChangeSpec := { name := "fnExactStatusesFor", fn := fun _ => fun
  | [d1, d2] => { results := [.lit (.bool true)], args := [d1, d2] }
  | _ => none }
def fnExactStatusesForRow : OpenClaim := { program := "ytnbpojalpdldnaa", sum := "1230cb5113649c65170601251e373605ccb372217894b8d2a574035b555bfbcd", func := "loop.example/g00597/laws.FnExactStatusesFor", spec := "fnExactStatusesFor", apart := false }
def FnExactStatusesForSaid : Prop := fnExactStatusesForRow.holds Try.pinned (OpenSpec.ofChange fnExactStatusesForSpec)

/-- ITS FALSE NEIGHBOUR: 'it returns false'. Refute it at one input. -/
def fnExactStatusesForWrong : ChangeSpec := { name := "fnExactStatusesFor", fn := fun _ => fun
  | [d1, d2] => { results := [.lit (.bool false)], args := [d1, d2] }
  | _ => none }
def FnExactStatusesForWrongFalsely : Prop := fnExactStatusesForRow.holds Try.pinned (OpenSpec.ofChange fnExactStatusesForWrong)

/-- 'laws.FnExactPlanAuthorities': WHATEVER THE INPUT: true; the input reads as it did. -/
def fnExactPlanAuthoritiesSpec : ChangeSpec := { name := "fnExactPlanAuthorities", fn := fun _ => fun
  | [d] => { results := [.lit (.bool true)], args := [d] }
  | _ => none }
def fnExactPlanAuthoritiesRow : OpenClaim := { program := "ytnbpojalpdldnaa", sum := "1230cb5113649c65170601251e373605ccb372217894b8d2a574035b555bfbcd", func := "loop.example/g00597/laws.FnExactPlanAuthorities", spec := "fnExactPlanAuthorities", apart := false }
def FnExactPlanAuthoritiesSaid : Prop := fnExactPlanAuthoritiesRow.holds Try.pinned (OpenSpec.ofChange fnExactPlanAuthoritiesSpec)

/-- ITS FALSE NEIGHBOUR: 'it returns false'. Refute it at one input. -/
def fnExactPlanAuthoritiesWrong : ChangeSpec := { name := "fnExactPlanAuthorities", fn := fun _ => fun
  | [d] => { results := [.lit (.bool false)], args := [d] }
  | _ => none }
def FnExactPlanAuthoritiesWrongFalsely : Prop := fnExactPlanAuthoritiesRow.holds Try.pinned (OpenSpec.ofChange fnExactPlanAuthoritiesWrong)

/-- 'laws.FnExactStampAll': WHATEVER THE INPUT: true; the input reads as it did. -/
def fnExactStampAllSpec : ChangeSpec := { name := "fnExactStampAll", fn := fun _ => fun
  | [d1, d2, d3, d4, d5, d6] => { results := [.lit (.bool true)], args := [d1, d2, d3, d4, d5, d6] }
  | _ => none }
def fnExactStampAllRow : OpenClaim := { program := "ytnbpojalpdldnaa", sum := "1230cb5113649c65170601251e373605ccb372217894b8d2a574035b555bfbcd", func := "loop.example/g00597/laws.FnExactStampAll", spec := "fnExactStampAll", apart := false }
def FnExactStampAllSaid : Prop := fnExactStampAllRow.holds Try.pinned (OpenSpec.ofChange fnExactStampAllSpec)

/-- ITS FALSE NEIGHBOUR: 'it returns false'. Refute it at one input. -/
def fnExactStampAllWrong : ChangeSpec := { name := "fnExactStampAll", fn := fun _ => fun
  | [d1, d2, d3, d4, d5, d6] => { results := [.lit (.bool false)], args := [d1, d2, d3, d4, d5, d6] }
  | _ => none }
def FnExactStampAllWrongFalsely : Prop := fnExactStampAllRow.holds Try.pinned (OpenSpec.ofChange fnExactStampAllWrong)

/-- 'laws.FnExactLiarsIn': WHATEVER THE INPUT: true; the input reads as it did. -/
def fnExactLiarsInSpec : ChangeSpec := { name := "fnExactLiarsIn", fn := fun _ => fun
  | [d1, d2, d3] => { results := [.lit (.bool true)], args := [d1, d2, d3] }
  | _ => none }
def fnExactLiarsInRow : OpenClaim := { program := "ytnbpojalpdldnaa", sum := "1230cb5113649c65170601251e373605ccb372217894b8d2a574035b555bfbcd", func := "loop.example/g00597/laws.FnExactLiarsIn", spec := "fnExactLiarsIn", apart := false }
def FnExactLiarsInSaid : Prop := fnExactLiarsInRow.holds Try.pinned (OpenSpec.ofChange fnExactLiarsInSpec)

/-- ITS FALSE NEIGHBOUR: 'it returns false'. Refute it at one input. -/
def fnExactLiarsInWrong : ChangeSpec := { name := "fnExactLiarsIn", fn := fun _ => fun
  | [d1, d2, d3] => { results := [.lit (.bool false)], args := [d1, d2, d3] }
  | _ => none }
def FnExactLiarsInWrongFalsely : Prop := fnExactLiarsInRow.holds Try.pinned (OpenSpec.ofChange fnExactLiarsInWrong)

/-- 'laws.FnExactEndsOf': WHATEVER THE INPUT: true; the input reads as it did. -/
def fnExactEndsOfSpec : ChangeSpec := { name := "fnExactEndsOf", fn := fun _ => fun
  | [d1, d2] => { results := [.lit (.bool true)], args := [d1, d2] }
  | _ => none }
def fnExactEndsOfRow : OpenClaim := { program := "ytnbpojalpdldnaa", sum := "1230cb5113649c65170601251e373605ccb372217894b8d2a574035b555bfbcd", func := "loop.example/g00597/laws.FnExactEndsOf", spec := "fnExactEndsOf", apart := false }
def FnExactEndsOfSaid : Prop := fnExactEndsOfRow.holds Try.pinned (OpenSpec.ofChange fnExactEndsOfSpec)

/-- ITS FALSE NEIGHBOUR: 'it returns false'. Refute it at one input. -/
def fnExactEndsOfWrong : ChangeSpec := { name := "fnExactEndsOf", fn := fun _ => fun
  | [d1, d2] => { results := [.lit (.bool false)], args := [d1, d2] }
  | _ => none }
def FnExactEndsOfWrongFalsely : Prop := fnExactEndsOfRow.holds Try.pinned (OpenSpec.ofChange fnExactEndsOfWrong)

/-- 'laws.FnExactStampsOf': WHATEVER THE INPUT: true; the input reads as it did. -/
def fnExactStampsOfSpec : ChangeSpec := { name := "fnExactStampsOf", fn := fun _ => fun
  | [d] => { results := [.lit (.bool true)], args := [d] }
  | _ => none }
def fnExactStampsOfRow : OpenClaim := { program := "ytnbpojalpdldnaa", sum := "1230cb5113649c65170601251e373605ccb372217894b8d2a574035b555bfbcd", func := "loop.example/g00597/laws.FnExactStampsOf", spec := "fnExactStampsOf", unfollowed := true, recurses := true, apart := false }
def FnExactStampsOfSaid : Prop := fnExactStampsOfRow.holds Try.pinned (OpenSpec.ofChange fnExactStampsOfSpec)

/-- ITS FALSE NEIGHBOUR: 'it returns false'. Refute it at one input. -/
def fnExactStampsOfWrong : ChangeSpec := { name := "fnExactStampsOf", fn := fun _ => fun
  | [d] => { results := [.lit (.bool false)], args := [d] }
  | _ => none }
def FnExactStampsOfWrongFalsely : Prop := fnExactStampsOfRow.holds Try.pinned (OpenSpec.ofChange fnExactStampsOfWrong)

/-- 'laws.FnExactMethodsOf': WHATEVER THE INPUT: true; the input reads as it did. -/
def fnExactMethodsOfSpec : ChangeSpec := { name := "fnExactMethodsOf", fn := fun _ => fun
  | [d] => { results := [.lit (.bool true)], args := [d] }
  | _ => none }
def fnExactMethodsOfRow : OpenClaim := { program := "ytnbpojalpdldnaa", sum := "1230cb5113649c65170601251e373605ccb372217894b8d2a574035b555bfbcd", func := "loop.example/g00597/laws.FnExactMethodsOf", spec := "fnExactMethodsOf", apart := false }
def FnExactMethodsOfSaid : Prop := fnExactMethodsOfRow.holds Try.pinned (OpenSpec.ofChange fnExactMethodsOfSpec)

/-- ITS FALSE NEIGHBOUR: 'it returns false'. Refute it at one input. -/
def fnExactMethodsOfWrong : ChangeSpec := { name := "fnExactMethodsOf", fn := fun _ => fun
  | [d] => { results := [.lit (.bool false)], args := [d] }
  | _ => none }
def FnExactMethodsOfWrongFalsely : Prop := fnExactMethodsOfRow.holds Try.pinned (OpenSpec.ofChange fnExactMethodsOfWrong)

/- THE SECOND FORM. 'bulk': how many values and letters a reading holds, each counted each time it is reached (what is shared counts as often as it is met; a slice's spare places count too). A statement '..UptoSaid' is the law's where the arguments, and the package variables that the reading takes, are together of bulk at most 1048576: NARROWER than '..Said'. Prove '..Said' where nothing that the law and all that it calls make is longer than what came in: it says more and counts as full. Else prove '..UptoSaid'. A law counts once. -/
mutual
def uptoBulk {H : Type} : DataW H → Nat
  | .lit (.string bytes) => bytes.length + 1
  | .lit _ => 1
  | .nil => 1
  | .ptr d => uptoBulk d + 1
  | .slice elems spare => uptoBulkAll elems + uptoBulkAll spare + 1
  | .agg parts => uptoBulkAll parts + 1
  | .iface _ d => uptoBulk d + 1
  | .map entries => uptoBulkEntries entries + 1
  | .held _ => 1
def uptoBulkAll {H : Type} : List (DataW H) → Nat
  | [] => 0
  | d :: r => uptoBulk d + uptoBulkAll r
def uptoBulkEntries {H : Type} : List (Lit × DataW H) → Nat
  | [] => 0
  | x :: r => uptoBulkEntry x + uptoBulkEntries r
def uptoBulkEntry {H : Type} : Lit × DataW H → Nat
  | (.string bytes, d) => bytes.length + uptoBulk d + 1
  | (_, d) => uptoBulk d + 1
 end
def uptoSmall : (H : Type) → List (DataW H) → Bool := fun _ ds => decide (uptoBulkAll ds ≤ 1048576)
def OpenSpec.upto (s : _root_.Go.ChangeSpec) : _root_.Go.OpenSpec := { _root_.Go.OpenSpec.ofChange s with cond := some uptoSmall }

/-- 'laws.FnExactMandatesIn', WHERE WHAT IT READS IS OF BULK AT MOST 1048576: true; the input reads as it did. -/
def fnExactMandatesInUptoRow : OpenClaim := { program := "ytnbpojalpdldnaa", sum := "1230cb5113649c65170601251e373605ccb372217894b8d2a574035b555bfbcd", func := "loop.example/g00597/laws.FnExactMandatesIn", spec := "fnExactMandatesIn", apart := false, narrowed := true }
def FnExactMandatesInUptoSaid : Prop := fnExactMandatesInUptoRow.holds Try.pinned (OpenSpec.upto fnExactMandatesInSpec)

/-- 'laws.FnExactStatusesFor', WHERE WHAT IT READS IS OF BULK AT MOST 1048576: true; the input reads as it did. -/
def fnExactStatusesForUptoRow : OpenClaim := { program := "ytnbpojalpdldnaa", sum := "1230cb5113649c65170601251e373605ccb372217894b8d2a574035b555bfbcd", func := "loop.example/g00597/laws.FnExactStatusesFor", spec := "fnExactStatusesFor", apart := false, narrowed := true }
def FnExactStatusesForUptoSaid : Prop := fnExactStatusesForUptoRow.holds Try.pinned (OpenSpec.upto fnExactStatusesForSpec)

/-- 'laws.FnExactPlanAuthorities', WHERE WHAT IT READS IS OF BULK AT MOST 1048576: true; the input reads as it did. -/
def fnExactPlanAuthoritiesUptoRow : OpenClaim := { program := "ytnbpojalpdldnaa", sum := "1230cb5113649c65170601251e373605ccb372217894b8d2a574035b555bfbcd", func := "loop.example/g00597/laws.FnExactPlanAuthorities", spec := "fnExactPlanAuthorities", apart := false, narrowed := true }
def FnExactPlanAuthoritiesUptoSaid : Prop := fnExactPlanAuthoritiesUptoRow.holds Try.pinned (OpenSpec.upto fnExactPlanAuthoritiesSpec)

/-- 'laws.FnExactStampAll', WHERE WHAT IT READS IS OF BULK AT MOST 1048576: true; the input reads as it did. -/
def fnExactStampAllUptoRow : OpenClaim := { program := "ytnbpojalpdldnaa", sum := "1230cb5113649c65170601251e373605ccb372217894b8d2a574035b555bfbcd", func := "loop.example/g00597/laws.FnExactStampAll", spec := "fnExactStampAll", apart := false, narrowed := true }
def FnExactStampAllUptoSaid : Prop := fnExactStampAllUptoRow.holds Try.pinned (OpenSpec.upto fnExactStampAllSpec)

/-- 'laws.FnExactLiarsIn', WHERE WHAT IT READS IS OF BULK AT MOST 1048576: true; the input reads as it did. -/
def fnExactLiarsInUptoRow : OpenClaim := { program := "ytnbpojalpdldnaa", sum := "1230cb5113649c65170601251e373605ccb372217894b8d2a574035b555bfbcd", func := "loop.example/g00597/laws.FnExactLiarsIn", spec := "fnExactLiarsIn", apart := false, narrowed := true }
def FnExactLiarsInUptoSaid : Prop := fnExactLiarsInUptoRow.holds Try.pinned (OpenSpec.upto fnExactLiarsInSpec)

/-- 'laws.FnExactEndsOf', WHERE WHAT IT READS IS OF BULK AT MOST 1048576: true; the input reads as it did. -/
def fnExactEndsOfUptoRow : OpenClaim := { program := "ytnbpojalpdldnaa", sum := "1230cb5113649c65170601251e373605ccb372217894b8d2a574035b555bfbcd", func := "loop.example/g00597/laws.FnExactEndsOf", spec := "fnExactEndsOf", apart := false, narrowed := true }
def FnExactEndsOfUptoSaid : Prop := fnExactEndsOfUptoRow.holds Try.pinned (OpenSpec.upto fnExactEndsOfSpec)

/-- 'laws.FnExactStampsOf', WHERE WHAT IT READS IS OF BULK AT MOST 1048576: true; the input reads as it did. -/
def fnExactStampsOfUptoRow : OpenClaim := { program := "ytnbpojalpdldnaa", sum := "1230cb5113649c65170601251e373605ccb372217894b8d2a574035b555bfbcd", func := "loop.example/g00597/laws.FnExactStampsOf", spec := "fnExactStampsOf", unfollowed := true, recurses := true, apart := false, narrowed := true }
def FnExactStampsOfUptoSaid : Prop := fnExactStampsOfUptoRow.holds Try.pinned (OpenSpec.upto fnExactStampsOfSpec)

/-- 'laws.FnExactMethodsOf', WHERE WHAT IT READS IS OF BULK AT MOST 1048576: true; the input reads as it did. -/
def fnExactMethodsOfUptoRow : OpenClaim := { program := "ytnbpojalpdldnaa", sum := "1230cb5113649c65170601251e373605ccb372217894b8d2a574035b555bfbcd", func := "loop.example/g00597/laws.FnExactMethodsOf", spec := "fnExactMethodsOf", apart := false, narrowed := true }
def FnExactMethodsOfUptoSaid : Prop := fnExactMethodsOfUptoRow.holds Try.pinned (OpenSpec.upto fnExactMethodsOfSpec)

end Rows
end Go.Proofs.Ytnbpojalpdldnaa
