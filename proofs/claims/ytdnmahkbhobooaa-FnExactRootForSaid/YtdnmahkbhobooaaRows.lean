/-
  No cell of these rows narrows 'for every input' (looked for: loops, veiled, ifaces, maps, wideKeys, modest, calm, conditions, laid).
  DERIVED. THE GIVEN ROWS OF THIS SEAT. 5 by the template 'for every input the law returns true; each argument reads behind the call as it read before'; 0 by the template 'total and deterministic' (their statements: YtdnmahkbhobooaaTotals.lean).
  GIVEN WITH THE SEED: the statements are not yours to turn. If you find one false, say at which input.
  Laid BY PROGRAM, IN A SANDBOX (cutbox-rows.mjs): the forced cells as the released guide's own fill.sh prints them over the translation ead5b506c968ac89… (all of the seat's roots in one cut). By AI agents, Wed Nov 11 2026. No macro, syntax, notation, axiom, sorry.
-/
import Derived.Test.YtdnmahkbhobooaaChecked
import GoSem.Claim
import GoSem.ClaimJoined
import GoSem.ClaimMapViews
import Derived.JoinedTies
import Derived.KernelRfl
namespace Go.Proofs.Ytdnmahkbhobooaa
/- THE CELL 'sum', in the pinned program and in every row, IS THE sha256 OF THE DUMP (.gsa) THAT YtdnmahkbhobooaaProg.lean LOADS. Nothing in Lean hashes anything: it is a label: what it is worth is what the hold of that sum in a sandbox is worth. -/
noncomputable def Try.pinned : Pinned := { name := "ytdnmahkbhobooaa", sum := "ead5b506c968ac89f58cfcc681da3ea82afa9e0ac2e29452e15af08f1b01bab9", checked := Try.checked }
namespace Rows
def none {H : Type} : Left H := { results := [], args := [] }

/-- 'laws.FnExactEqualArchives': WHATEVER THE INPUT: true; the input reads as it did. -/
def fnExactEqualArchivesSpec : ChangeSpec := { name := "fnExactEqualArchives", fn := fun _ => fun
  | [d1, d2] => { results := [.lit (.bool true)], args := [d1, d2] }
  | _ => none }
def fnExactEqualArchivesRow : OpenClaim := { program := "ytdnmahkbhobooaa", sum := "ead5b506c968ac89f58cfcc681da3ea82afa9e0ac2e29452e15af08f1b01bab9", func := "loop.example/g00597/laws.FnExactEqualArchives", spec := "fnExactEqualArchives", apart := false }
def FnExactEqualArchivesSaid : Prop := fnExactEqualArchivesRow.holds Try.pinned (OpenSpec.ofChange fnExactEqualArchivesSpec)

/-- ITS FALSE NEIGHBOUR: 'it returns false'. Refute it at one input. -/
def fnExactEqualArchivesWrong : ChangeSpec := { name := "fnExactEqualArchives", fn := fun _ => fun
  | [d1, d2] => { results := [.lit (.bool false)], args := [d1, d2] }
  | _ => none }
def FnExactEqualArchivesWrongFalsely : Prop := fnExactEqualArchivesRow.holds Try.pinned (OpenSpec.ofChange fnExactEqualArchivesWrong)

/-- 'laws.FnExactItemDigest': WHATEVER THE INPUT: true; the input reads as it did. -/
def fnExactItemDigestSpec : ChangeSpec := { name := "fnExactItemDigest", fn := fun _ => fun
  | [d1, d2] => { results := [.lit (.bool true)], args := [d1, d2] }
  | _ => none }
def fnExactItemDigestRow : OpenClaim := { program := "ytdnmahkbhobooaa", sum := "ead5b506c968ac89f58cfcc681da3ea82afa9e0ac2e29452e15af08f1b01bab9", func := "loop.example/g00597/laws.FnExactItemDigest", spec := "fnExactItemDigest", apart := false }
def FnExactItemDigestSaid : Prop := fnExactItemDigestRow.holds Try.pinned (OpenSpec.ofChange fnExactItemDigestSpec)

/-- ITS FALSE NEIGHBOUR: 'it returns false'. Refute it at one input. -/
def fnExactItemDigestWrong : ChangeSpec := { name := "fnExactItemDigest", fn := fun _ => fun
  | [d1, d2] => { results := [.lit (.bool false)], args := [d1, d2] }
  | _ => none }
def FnExactItemDigestWrongFalsely : Prop := fnExactItemDigestRow.holds Try.pinned (OpenSpec.ofChange fnExactItemDigestWrong)

/-- 'laws.FnExactEndsOf': WHATEVER THE INPUT: true; the input reads as it did. -/
def fnExactEndsOfSpec : ChangeSpec := { name := "fnExactEndsOf", fn := fun _ => fun
  | [d1, d2] => { results := [.lit (.bool true)], args := [d1, d2] }
  | _ => none }
def fnExactEndsOfRow : OpenClaim := { program := "ytdnmahkbhobooaa", sum := "ead5b506c968ac89f58cfcc681da3ea82afa9e0ac2e29452e15af08f1b01bab9", func := "loop.example/g00597/laws.FnExactEndsOf", spec := "fnExactEndsOf", apart := false }
def FnExactEndsOfSaid : Prop := fnExactEndsOfRow.holds Try.pinned (OpenSpec.ofChange fnExactEndsOfSpec)

/-- ITS FALSE NEIGHBOUR: 'it returns false'. Refute it at one input. -/
def fnExactEndsOfWrong : ChangeSpec := { name := "fnExactEndsOf", fn := fun _ => fun
  | [d1, d2] => { results := [.lit (.bool false)], args := [d1, d2] }
  | _ => none }
def FnExactEndsOfWrongFalsely : Prop := fnExactEndsOfRow.holds Try.pinned (OpenSpec.ofChange fnExactEndsOfWrong)

/-- 'laws.FnExactRootFor': WHATEVER THE INPUT: true; the input reads as it did. -/
def fnExactRootForSpec : ChangeSpec := { name := "fnExactRootFor", fn := fun _ => fun
  | [d1, d2] => { results := [.lit (.bool true)], args := [d1, d2] }
  | _ => none }
def fnExactRootForRow : OpenClaim := { program := "ytdnmahkbhobooaa", sum := "ead5b506c968ac89f58cfcc681da3ea82afa9e0ac2e29452e15af08f1b01bab9", func := "loop.example/g00597/laws.FnExactRootFor", spec := "fnExactRootFor", apart := false }
def FnExactRootForSaid : Prop := fnExactRootForRow.holds Try.pinned (OpenSpec.ofChange fnExactRootForSpec)

/-- ITS FALSE NEIGHBOUR: 'it returns false'. Refute it at one input. -/
def fnExactRootForWrong : ChangeSpec := { name := "fnExactRootFor", fn := fun _ => fun
  | [d1, d2] => { results := [.lit (.bool false)], args := [d1, d2] }
  | _ => none }
def FnExactRootForWrongFalsely : Prop := fnExactRootForRow.holds Try.pinned (OpenSpec.ofChange fnExactRootForWrong)

/-- 'laws.FnExactCheckParcel': WHATEVER THE INPUT: true; the input reads as it did. -/
def fnExactCheckParcelSpec : ChangeSpec := { name := "fnExactCheckParcel", fn := fun _ => fun
  | [d1, d2] => { results := [.lit (.bool true)], args := [d1, d2] }
  | _ => none }
def fnExactCheckParcelRow : OpenClaim := { program := "ytdnmahkbhobooaa", sum := "ead5b506c968ac89f58cfcc681da3ea82afa9e0ac2e29452e15af08f1b01bab9", func := "loop.example/g00597/laws.FnExactCheckParcel", spec := "fnExactCheckParcel", apart := false }
def FnExactCheckParcelSaid : Prop := fnExactCheckParcelRow.holds Try.pinned (OpenSpec.ofChange fnExactCheckParcelSpec)

/-- ITS FALSE NEIGHBOUR: 'it returns false'. Refute it at one input. -/
def fnExactCheckParcelWrong : ChangeSpec := { name := "fnExactCheckParcel", fn := fun _ => fun
  | [d1, d2] => { results := [.lit (.bool false)], args := [d1, d2] }
  | _ => none }
def FnExactCheckParcelWrongFalsely : Prop := fnExactCheckParcelRow.holds Try.pinned (OpenSpec.ofChange fnExactCheckParcelWrong)

/- THE SECOND FORM. 'bulk': how many values and letters a reading holds, each counted each time it is reached (what is shared counts as often as it is met; a slice's spare places count too). A statement '..UptoSaid' is the law's where the arguments, and the package variables that the reading takes, are together of bulk at most 1048576: NARROWER than '..Said'. Prove '..Said' where nothing that the law and all that it calls make is longer than what came in: it says more and counts as full. Else prove '..UptoSaid'. A law counts once. -/
mutual
def uptoBulk {H : Type} : DataW H → Nat
  | .lit (.string bytes) => bytes.length + 1
  | .lit _ => 1
  | .nil => 1
  | .ptr d => uptoBulk d + 1
  | .slice elems spare => uptoBulkAll elems + uptoBulkAll spare + 1
  | .agg parts => uptoBulkAll parts + 1
  | .iface _ d => uptoBulk d + 1
  | .map entries => uptoBulkEntries entries + 1
  | .held _ => 1
def uptoBulkAll {H : Type} : List (DataW H) → Nat
  | [] => 0
  | d :: r => uptoBulk d + uptoBulkAll r
def uptoBulkEntries {H : Type} : List (Lit × DataW H) → Nat
  | [] => 0
  | x :: r => uptoBulkEntry x + uptoBulkEntries r
def uptoBulkEntry {H : Type} : Lit × DataW H → Nat
  | (.string bytes, d) => bytes.length + uptoBulk d + 1
  | (_, d) => uptoBulk d + 1
 end
def uptoSmall : (H : Type) → List (DataW H) → Bool := fun _ ds => decide (uptoBulkAll ds ≤ 1048576)
def OpenSpec.upto (s : _root_.Go.ChangeSpec) : _root_.Go.OpenSpec := { _root_.Go.OpenSpec.ofChange s with cond := some uptoSmall }

/-- 'laws.FnExactEqualArchives', WHERE WHAT IT READS IS OF BULK AT MOST 1048576: true; the input reads as it did. -/
def fnExactEqualArchivesUptoRow : OpenClaim := { program := "ytdnmahkbhobooaa", sum := "ead5b506c968ac89f58cfcc681da3ea82afa9e0ac2e29452e15af08f1b01bab9", func := "loop.example/g00597/laws.FnExactEqualArchives", spec := "fnExactEqualArchives", apart := false, narrowed := true }
def FnExactEqualArchivesUptoSaid : Prop := fnExactEqualArchivesUptoRow.holds Try.pinned (OpenSpec.upto fnExactEqualArchivesSpec)

/-- 'laws.FnExactItemDigest', WHERE WHAT IT READS IS OF BULK AT MOST 1048576: true; the input reads as it did. -/
def fnExactItemDigestUptoRow : OpenClaim := { program := "ytdnmahkbhobooaa", sum := "ead5b506c968ac89f58cfcc681da3ea82afa9e0ac2e29452e15af08f1b01bab9", func := "loop.example/g00597/laws.FnExactItemDigest", spec := "fnExactItemDigest", apart := false, narrowed := true }
def FnExactItemDigestUptoSaid : Prop := fnExactItemDigestUptoRow.holds Try.pinned (OpenSpec.upto fnExactItemDigestSpec)

/-- 'laws.FnExactEndsOf', WHERE WHAT IT READS IS OF BULK AT MOST 1048576: true; the input reads as it did. -/
def fnExactEndsOfUptoRow : OpenClaim := { program := "ytdnmahkbhobooaa", sum := "ead5b506c968ac89f58cfcc681da3ea82afa9e0ac2e29452e15af08f1b01bab9", func := "loop.example/g00597/laws.FnExactEndsOf", spec := "fnExactEndsOf", apart := false, narrowed := true }
def FnExactEndsOfUptoSaid : Prop := fnExactEndsOfUptoRow.holds Try.pinned (OpenSpec.upto fnExactEndsOfSpec)

/-- 'laws.FnExactRootFor', WHERE WHAT IT READS IS OF BULK AT MOST 1048576: true; the input reads as it did. -/
def fnExactRootForUptoRow : OpenClaim := { program := "ytdnmahkbhobooaa", sum := "ead5b506c968ac89f58cfcc681da3ea82afa9e0ac2e29452e15af08f1b01bab9", func := "loop.example/g00597/laws.FnExactRootFor", spec := "fnExactRootFor", apart := false, narrowed := true }
def FnExactRootForUptoSaid : Prop := fnExactRootForUptoRow.holds Try.pinned (OpenSpec.upto fnExactRootForSpec)

/-- 'laws.FnExactCheckParcel', WHERE WHAT IT READS IS OF BULK AT MOST 1048576: true; the input reads as it did. -/
def fnExactCheckParcelUptoRow : OpenClaim := { program := "ytdnmahkbhobooaa", sum := "ead5b506c968ac89f58cfcc681da3ea82afa9e0ac2e29452e15af08f1b01bab9", func := "loop.example/g00597/laws.FnExactCheckParcel", spec := "fnExactCheckParcel", apart := false, narrowed := true }
def FnExactCheckParcelUptoSaid : Prop := fnExactCheckParcelUptoRow.holds Try.pinned (OpenSpec.upto fnExactCheckParcelSpec)

end Rows
end Go.Proofs.Ytdnmahkbhobooaa
