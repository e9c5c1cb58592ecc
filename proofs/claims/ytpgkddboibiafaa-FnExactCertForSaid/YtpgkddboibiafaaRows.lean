/-
  No cell of these rows narrows 'for every input' (looked for: loops, veiled, ifaces, maps, wideKeys, modest, calm, conditions, laid).
  DERIVED. THE GIVEN ROWS OF THIS SEAT. 12 by the template 'for every input the law returns true; each argument reads behind the call as it read before'; 0 by the template 'total and deterministic' (their statements: YtpgkddboibiafaaTotals.lean).
  GIVEN WITH THE SEED: the statements are not yours to turn. If you find one false, say at which input.
  Laid BY PROGRAM, IN A SANDBOX (cutbox-rows.mjs): the forced cells as the released guide's own fill.sh prints them over the translation c3c8bef624e4b7b2… (all of the seat's roots in one cut). By AI agents, Wed Nov 11 2026. No macro, syntax, notation, axiom, sorry.
-/
import Derived.Test.YtpgkddboibiafaaChecked
import GoSem.Claim
import GoSem.ClaimJoined
import GoSem.ClaimMapViews
import Derived.JoinedTies
import Derived.KernelRfl
namespace Go.Proofs.Ytpgkddboibiafaa
/- THE CELL 'sum', in the pinned program and in every row, IS THE sha256 OF THE DUMP (.gsa) THAT YtpgkddboibiafaaProg.lean LOADS. Nothing in Lean hashes anything: it is a label: what it is worth is what the hold of that sum in a sandbox is worth. -/
noncomputable def Try.pinned : Pinned := { name := "ytpgkddboibiafaa", sum := "c3c8bef624e4b7b2f20fdbac01f2c7aefb5228639b51d0c7765e23fb463b3d5e", checked := Try.checked }
namespace Rows
def none {H : Type} : Left H := { results := [], args := [] }

/-- 'laws.FnExactAreContrary': WHATEVER THE INPUT: true; the input reads as it did. -/
def fnExactAreContrarySpec : ChangeSpec := { name := "fnExactAreContrary", fn := fun _ => fun
  | [d1, d2, d3, d4] => { results := [.lit (.bool true)], args := [d1, d2, d3, d4] }
  | _ => none }
def fnExactAreContraryRow : OpenClaim := { program := "ytpgkddboibiafaa", sum := "c3c8bef624e4b7b2f20fdbac01f2c7aefb5228639b51d0c7765e23fb463b3d5e", func := "loop.example/g00597/laws.FnExactAreContrary", spec := "fnExactAreContrary", apart := false }
def FnExactAreContrarySaid : Prop := fnExactAreContraryRow.holds Try.pinned (OpenSpec.ofChange fnExactAreContrarySpec)

/-- ITS FALSE NEIGHBOUR: 'it returns false'. Refute it at one input. -/
def fnExactAreContraryWrong : ChangeSpec := { name := "fnExactAreContrary", fn := fun _ => fun
  | [d1, d2, d3, d4] => { results := [.lit (.bool false)], args := [d1, d2, d3, d4] }
  | _ => none }
def FnExactAreContraryWrongFalsely : Prop := fnExactAreContraryRow.holds Try.pinned (OpenSpec.ofChange fnExactAreContraryWrong)

/-- 'laws.FnExactIsProof': WHATEVER THE INPUT: true; the input reads as it did. -/
def fnExactIsProofSpec : ChangeSpec := { name := "fnExactIsProof", fn := fun _ => fun
  | [d1, d2, d3, d4] => { results := [.lit (.bool true)], args := [d1, d2, d3, d4] }
  | _ => none }
def fnExactIsProofRow : OpenClaim := { program := "ytpgkddboibiafaa", sum := "c3c8bef624e4b7b2f20fdbac01f2c7aefb5228639b51d0c7765e23fb463b3d5e", func := "loop.example/g00597/laws.FnExactIsProof", spec := "fnExactIsProof", apart := false }
def FnExactIsProofSaid : Prop := fnExactIsProofRow.holds Try.pinned (OpenSpec.ofChange fnExactIsProofSpec)

/-- ITS FALSE NEIGHBOUR: 'it returns false'. Refute it at one input. -/
def fnExactIsProofWrong : ChangeSpec := { name := "fnExactIsProof", fn := fun _ => fun
  | [d1, d2, d3, d4] => { results := [.lit (.bool false)], args := [d1, d2, d3, d4] }
  | _ => none }
def FnExactIsProofWrongFalsely : Prop := fnExactIsProofRow.holds Try.pinned (OpenSpec.ofChange fnExactIsProofWrong)

/-- 'laws.FnExactFindContradiction': WHATEVER THE INPUT: true; the input reads as it did. -/
def fnExactFindContradictionSpec : ChangeSpec := { name := "fnExactFindContradiction", fn := fun _ => fun
  | [d1, d2, d3] => { results := [.lit (.bool true)], args := [d1, d2, d3] }
  | _ => none }
def fnExactFindContradictionRow : OpenClaim := { program := "ytpgkddboibiafaa", sum := "c3c8bef624e4b7b2f20fdbac01f2c7aefb5228639b51d0c7765e23fb463b3d5e", func := "loop.example/g00597/laws.FnExactFindContradiction", spec := "fnExactFindContradiction", apart := false }
def FnExactFindContradictionSaid : Prop := fnExactFindContradictionRow.holds Try.pinned (OpenSpec.ofChange fnExactFindContradictionSpec)

/-- ITS FALSE NEIGHBOUR: 'it returns false'. Refute it at one input. -/
def fnExactFindContradictionWrong : ChangeSpec := { name := "fnExactFindContradiction", fn := fun _ => fun
  | [d1, d2, d3] => { results := [.lit (.bool false)], args := [d1, d2, d3] }
  | _ => none }
def FnExactFindContradictionWrongFalsely : Prop := fnExactFindContradictionRow.holds Try.pinned (OpenSpec.ofChange fnExactFindContradictionWrong)

/-- 'laws.FnExactCountPieces': WHATEVER THE INPUT: true; the input reads as it did. -/
def fnExactCountPiecesSpec : ChangeSpec := { name := "fnExactCountPieces", fn := fun _ => fun
  | [d] => { results := [.lit (.bool true)], args := [d] }
  | _ => none }
def fnExactCountPiecesRow : OpenClaim := { program := "ytpgkddboibiafaa", sum := "c3c8bef624e4b7b2f20fdbac01f2c7aefb5228639b51d0c7765e23fb463b3d5e", func := "loop.example/g00597/laws.FnExactCountPieces", spec := "fnExactCountPieces", apart := false }
def FnExactCountPiecesSaid : Prop := fnExactCountPiecesRow.holds Try.pinned (OpenSpec.ofChange fnExactCountPiecesSpec)

/-- ITS FALSE NEIGHBOUR: 'it returns false'. Refute it at one input. -/
def fnExactCountPiecesWrong : ChangeSpec := { name := "fnExactCountPieces", fn := fun _ => fun
  | [d] => { results := [.lit (.bool false)], args := [d] }
  | _ => none }
def FnExactCountPiecesWrongFalsely : Prop := fnExactCountPiecesRow.holds Try.pinned (OpenSpec.ofChange fnExactCountPiecesWrong)

/-- 'laws.FnExactCertFor': WHATEVER THE INPUT: true; the input reads as it did. -/
def fnExactCertForSpec : ChangeSpec := { name := "fnExactCertFor", fn := fun _ => fun
  | [d1, d2, d3] => { results := [.lit (.bool true)], args := [d1, d2, d3] }
  | _ => none }
def fnExactCertForRow : OpenClaim := { program := "ytpgkddboibiafaa", sum := "c3c8bef624e4b7b2f20fdbac01f2c7aefb5228639b51d0c7765e23fb463b3d5e", func := "loop.example/g00597/laws.FnExactCertFor", spec := "fnExactCertFor", apart := false }
def FnExactCertForSaid : Prop := fnExactCertForRow.holds Try.pinned (OpenSpec.ofChange fnExactCertForSpec)

/-- ITS FALSE NEIGHBOUR: 'it returns false'. Refute it at one input. -/
def fnExactCertForWrong : ChangeSpec := { name := "fnExactCertFor", fn := fun _ => fun
  | [d1, d2, d3] => { results := [.lit (.bool false)], args := [d1, d2, d3] }
  | _ => none }
def FnExactCertForWrongFalsely : Prop := fnExactCertForRow.holds Try.pinned (OpenSpec.ofChange fnExactCertForWrong)

/-- 'laws.FnExactFindItem': WHATEVER THE INPUT: true; the input reads as it did. -/
def fnExactFindItemSpec : ChangeSpec := { name := "fnExactFindItem", fn := fun _ => fun
  | [d1, d2] => { results := [.lit (.bool true)], args := [d1, d2] }
  | _ => none }
def fnExactFindItemRow : OpenClaim := { program := "ytpgkddboibiafaa", sum := "c3c8bef624e4b7b2f20fdbac01f2c7aefb5228639b51d0c7765e23fb463b3d5e", func := "loop.example/g00597/laws.FnExactFindItem", spec := "fnExactFindItem", apart := false }
def FnExactFindItemSaid : Prop := fnExactFindItemRow.holds Try.pinned (OpenSpec.ofChange fnExactFindItemSpec)

/-- ITS FALSE NEIGHBOUR: 'it returns false'. Refute it at one input. -/
def fnExactFindItemWrong : ChangeSpec := { name := "fnExactFindItem", fn := fun _ => fun
  | [d1, d2] => { results := [.lit (.bool false)], args := [d1, d2] }
  | _ => none }
def FnExactFindItemWrongFalsely : Prop := fnExactFindItemRow.holds Try.pinned (OpenSpec.ofChange fnExactFindItemWrong)

/-- 'laws.FnExactIsItem': WHATEVER THE INPUT: true; the input reads as it did. -/
def fnExactIsItemSpec : ChangeSpec := { name := "fnExactIsItem", fn := fun _ => fun
  | [d] => { results := [.lit (.bool true)], args := [d] }
  | _ => none }
def fnExactIsItemRow : OpenClaim := { program := "ytpgkddboibiafaa", sum := "c3c8bef624e4b7b2f20fdbac01f2c7aefb5228639b51d0c7765e23fb463b3d5e", func := "loop.example/g00597/laws.FnExactIsItem", spec := "fnExactIsItem", apart := false }
def FnExactIsItemSaid : Prop := fnExactIsItemRow.holds Try.pinned (OpenSpec.ofChange fnExactIsItemSpec)

/-- ITS FALSE NEIGHBOUR: 'it returns false'. Refute it at one input. -/
def fnExactIsItemWrong : ChangeSpec := { name := "fnExactIsItem", fn := fun _ => fun
  | [d] => { results := [.lit (.bool false)], args := [d] }
  | _ => none }
def FnExactIsItemWrongFalsely : Prop := fnExactIsItemRow.holds Try.pinned (OpenSpec.ofChange fnExactIsItemWrong)

/-- 'laws.FnExactItemDigest': WHATEVER THE INPUT: true; the input reads as it did. -/
def fnExactItemDigestSpec : ChangeSpec := { name := "fnExactItemDigest", fn := fun _ => fun
  | [d1, d2] => { results := [.lit (.bool true)], args := [d1, d2] }
  | _ => none }
def fnExactItemDigestRow : OpenClaim := { program := "ytpgkddboibiafaa", sum := "c3c8bef624e4b7b2f20fdbac01f2c7aefb5228639b51d0c7765e23fb463b3d5e", func := "loop.example/g00597/laws.FnExactItemDigest", spec := "fnExactItemDigest", apart := false }
def FnExactItemDigestSaid : Prop := fnExactItemDigestRow.holds Try.pinned (OpenSpec.ofChange fnExactItemDigestSpec)

/-- ITS FALSE NEIGHBOUR: 'it returns false'. Refute it at one input. -/
def fnExactItemDigestWrong : ChangeSpec := { name := "fnExactItemDigest", fn := fun _ => fun
  | [d1, d2] => { results := [.lit (.bool false)], args := [d1, d2] }
  | _ => none }
def FnExactItemDigestWrongFalsely : Prop := fnExactItemDigestRow.holds Try.pinned (OpenSpec.ofChange fnExactItemDigestWrong)

/-- 'laws.FnExactIsArchive': WHATEVER THE INPUT: true; the input reads as it did. -/
def fnExactIsArchiveSpec : ChangeSpec := { name := "fnExactIsArchive", fn := fun _ => fun
  | [d] => { results := [.lit (.bool true)], args := [d] }
  | _ => none }
def fnExactIsArchiveRow : OpenClaim := { program := "ytpgkddboibiafaa", sum := "c3c8bef624e4b7b2f20fdbac01f2c7aefb5228639b51d0c7765e23fb463b3d5e", func := "loop.example/g00597/laws.FnExactIsArchive", spec := "fnExactIsArchive", apart := false }
def FnExactIsArchiveSaid : Prop := fnExactIsArchiveRow.holds Try.pinned (OpenSpec.ofChange fnExactIsArchiveSpec)

/-- ITS FALSE NEIGHBOUR: 'it returns false'. Refute it at one input. -/
def fnExactIsArchiveWrong : ChangeSpec := { name := "fnExactIsArchive", fn := fun _ => fun
  | [d] => { results := [.lit (.bool false)], args := [d] }
  | _ => none }
def FnExactIsArchiveWrongFalsely : Prop := fnExactIsArchiveRow.holds Try.pinned (OpenSpec.ofChange fnExactIsArchiveWrong)

/-- 'laws.FnExactEqualArchives': WHATEVER THE INPUT: true; the input reads as it did. -/
def fnExactEqualArchivesSpec : ChangeSpec := { name := "fnExactEqualArchives", fn := fun _ => fun
  | [d1, d2] => { results := [.lit (.bool true)], args := [d1, d2] }
  | _ => none }
def fnExactEqualArchivesRow : OpenClaim := { program := "ytpgkddboibiafaa", sum := "c3c8bef624e4b7b2f20fdbac01f2c7aefb5228639b51d0c7765e23fb463b3d5e", func := "loop.example/g00597/laws.FnExactEqualArchives", spec := "fnExactEqualArchives", apart := false }
def FnExactEqualArchivesSaid : Prop := fnExactEqualArchivesRow.holds Try.pinned (OpenSpec.ofChange fnExactEqualArchivesSpec)

/-- ITS FALSE NEIGHBOUR: 'it returns false'. Refute it at one input. -/
def fnExactEqualArchivesWrong : ChangeSpec := { name := "fnExactEqualArchives", fn := fun _ => fun
  | [d1, d2] => { results := [.lit (.bool false)], args := [d1, d2] }
  | _ => none }
def FnExactEqualArchivesWrongFalsely : Prop := fnExactEqualArchivesRow.holds Try.pinned (OpenSpec.ofChange fnExactEqualArchivesWrong)

/-- 'laws.FnExactRenewalCount': WHATEVER THE INPUT: true; the input reads as it did. -/
def fnExactRenewalCountSpec : ChangeSpec := { name := "fnExactRenewalCount", fn := fun _ => fun
  | [d] => { results := [.lit (.bool true)], args := [d] }
  | _ => none }
def fnExactRenewalCountRow : OpenClaim := { program := "ytpgkddboibiafaa", sum := "c3c8bef624e4b7b2f20fdbac01f2c7aefb5228639b51d0c7765e23fb463b3d5e", func := "loop.example/g00597/laws.FnExactRenewalCount", spec := "fnExactRenewalCount", apart := false }
def FnExactRenewalCountSaid : Prop := fnExactRenewalCountRow.holds Try.pinned (OpenSpec.ofChange fnExactRenewalCountSpec)

/-- ITS FALSE NEIGHBOUR: 'it returns false'. Refute it at one input. -/
def fnExactRenewalCountWrong : ChangeSpec := { name := "fnExactRenewalCount", fn := fun _ => fun
  | [d] => { results := [.lit (.bool false)], args := [d] }
  | _ => none }
def FnExactRenewalCountWrongFalsely : Prop := fnExactRenewalCountRow.holds Try.pinned (OpenSpec.ofChange fnExactRenewalCountWrong)

/-- 'laws.FnExactKeptUntil': WHATEVER THE INPUT: true; the input reads as it did. -/
def fnExactKeptUntilSpec : ChangeSpec := { name := "fnExactKeptUntil", fn := fun _ => fun
  | [d] => { results := [.lit (.bool true)], args := [d] }
  | _ => none }
def fnExactKeptUntilRow : OpenClaim := { program := "ytpgkddboibiafaa", sum := "c3c8bef624e4b7b2f20fdbac01f2c7aefb5228639b51d0c7765e23fb463b3d5e", func := "loop.example/g00597/laws.FnExactKeptUntil", spec := "fnExactKeptUntil", apart := false }
def FnExactKeptUntilSaid : Prop := fnExactKeptUntilRow.holds Try.pinned (OpenSpec.ofChange fnExactKeptUntilSpec)

/-- ITS FALSE NEIGHBOUR: 'it returns false'. Refute it at one input. -/
def fnExactKeptUntilWrong : ChangeSpec := { name := "fnExactKeptUntil", fn := fun _ => fun
  | [d] => { results := [.lit (.bool false)], args := [d] }
  | _ => none }
def FnExactKeptUntilWrongFalsely : Prop := fnExactKeptUntilRow.holds Try.pinned (OpenSpec.ofChange fnExactKeptUntilWrong)

/- THE SECOND FORM. 'bulk': how many values and letters a reading holds, each counted each time it is reached (what is shared counts as often as it is met; a slice's spare places count too). A statement '..UptoSaid' is the law's where the arguments, and the package variables that the reading takes, are together of bulk at most 1048576: NARROWER than '..Said'. Prove '..Said' where nothing that the law and all that it calls make is longer than what came in: it says more and counts as full. Else prove '..UptoSaid'. A law counts once. -/
mutual
def uptoBulk {H : Type} : DataW H → Nat
  | .lit (.string bytes) => bytes.length + 1
  | .lit _ => 1
  | .nil => 1
  | .ptr d => uptoBulk d + 1
  | .slice elems spare => uptoBulkAll elems + uptoBulkAll spare + 1
  | .agg parts => uptoBulkAll parts + 1
  | .iface _ d => uptoBulk d + 1
  | .map entries => uptoBulkEntries entries + 1
  | .held _ => 1
def uptoBulkAll {H : Type} : List (DataW H) → Nat
  | [] => 0
  | d :: r => uptoBulk d + uptoBulkAll r
def uptoBulkEntries {H : Type} : List (Lit × DataW H) → Nat
  | [] => 0
  | x :: r => uptoBulkEntry x + uptoBulkEntries r
def uptoBulkEntry {H : Type} : Lit × DataW H → Nat
  | (.string bytes, d) => bytes.length + uptoBulk d + 1
  | (_, d) => uptoBulk d + 1
 end
def uptoSmall : (H : Type) → List (DataW H) → Bool := fun _ ds => decide (uptoBulkAll ds ≤ 1048576)
def OpenSpec.upto (s : _root_.Go.ChangeSpec) : _root_.Go.OpenSpec := { _root_.Go.OpenSpec.ofChange s with cond := some uptoSmall }

/-- 'laws.FnExactAreContrary', WHERE WHAT IT READS IS OF BULK AT MOST 1048576: true; the input reads as it did. -/
def fnExactAreContraryUptoRow : OpenClaim := { program := "ytpgkddboibiafaa", sum := "c3c8bef624e4b7b2f20fdbac01f2c7aefb5228639b51d0c7765e23fb463b3d5e", func := "loop.example/g00597/laws.FnExactAreContrary", spec := "fnExactAreContrary", apart := false, narrowed := true }
def FnExactAreContraryUptoSaid : Prop := fnExactAreContraryUptoRow.holds Try.pinned (OpenSpec.upto fnExactAreContrarySpec)

/-- 'laws.FnExactIsProof', WHERE WHAT IT READS IS OF BULK AT MOST 1048576: true; the input reads as it did. -/
def fnExactIsProofUptoRow : OpenClaim := { program := "ytpgkddboibiafaa", sum := "c3c8bef624e4b7b2f20fdbac01f2c7aefb5228639b51d0c7765e23fb463b3d5e", func := "loop.example/g00597/laws.FnExactIsProof", spec := "fnExactIsProof", apart := false, narrowed := true }
def FnExactIsProofUptoSaid : Prop := fnExactIsProofUptoRow.holds Try.pinned (OpenSpec.upto fnExactIsProofSpec)

/-- 'laws.FnExactFindContradiction', WHERE WHAT IT READS IS OF BULK AT MOST 1048576: true; the input reads as it did. -/
def fnExactFindContradictionUptoRow : OpenClaim := { program := "ytpgkddboibiafaa", sum := "c3c8bef624e4b7b2f20fdbac01f2c7aefb5228639b51d0c7765e23fb463b3d5e", func := "loop.example/g00597/laws.FnExactFindContradiction", spec := "fnExactFindContradiction", apart := false, narrowed := true }
def FnExactFindContradictionUptoSaid : Prop := fnExactFindContradictionUptoRow.holds Try.pinned (OpenSpec.upto fnExactFindContradictionSpec)

/-- 'laws.FnExactCountPieces', WHERE WHAT IT READS IS OF BULK AT MOST 1048576: true; the input reads as it did. -/
def fnExactCountPiecesUptoRow : OpenClaim := { program := "ytpgkddboibiafaa", sum := "c3c8bef624e4b7b2f20fdbac01f2c7aefb5228639b51d0c7765e23fb463b3d5e", func := "loop.example/g00597/laws.FnExactCountPieces", spec := "fnExactCountPieces", apart := false, narrowed := true }
def FnExactCountPiecesUptoSaid : Prop := fnExactCountPiecesUptoRow.holds Try.pinned (OpenSpec.upto fnExactCountPiecesSpec)

/-- 'laws.FnExactCertFor', WHERE WHAT IT READS IS OF BULK AT MOST 1048576: true; the input reads as it did. -/
def fnExactCertForUptoRow : OpenClaim := { program := "ytpgkddboibiafaa", sum := "c3c8bef624e4b7b2f20fdbac01f2c7aefb5228639b51d0c7765e23fb463b3d5e", func := "loop.example/g00597/laws.FnExactCertFor", spec := "fnExactCertFor", apart := false, narrowed := true }
def FnExactCertForUptoSaid : Prop := fnExactCertForUptoRow.holds Try.pinned (OpenSpec.upto fnExactCertForSpec)

/-- 'laws.FnExactFindItem', WHERE WHAT IT READS IS OF BULK AT MOST 1048576: true; the input reads as it did. -/
def fnExactFindItemUptoRow : OpenClaim := { program := "ytpgkddboibiafaa", sum := "c3c8bef624e4b7b2f20fdbac01f2c7aefb5228639b51d0c7765e23fb463b3d5e", func := "loop.example/g00597/laws.FnExactFindItem", spec := "fnExactFindItem", apart := false, narrowed := true }
def FnExactFindItemUptoSaid : Prop := fnExactFindItemUptoRow.holds Try.pinned (OpenSpec.upto fnExactFindItemSpec)

/-- 'laws.FnExactIsItem', WHERE WHAT IT READS IS OF BULK AT MOST 1048576: true; the input reads as it did. -/
def fnExactIsItemUptoRow : OpenClaim := { program := "ytpgkddboibiafaa", sum := "c3c8bef624e4b7b2f20fdbac01f2c7aefb5228639b51d0c7765e23fb463b3d5e", func := "loop.example/g00597/laws.FnExactIsItem", spec := "fnExactIsItem", apart := false, narrowed := true }
def FnExactIsItemUptoSaid : Prop := fnExactIsItemUptoRow.holds Try.pinned (OpenSpec.upto fnExactIsItemSpec)

/-- 'laws.FnExactItemDigest', WHERE WHAT IT READS IS OF BULK AT MOST 1048576: true; the input reads as it did. -/
def fnExactItemDigestUptoRow : OpenClaim := { program := "ytpgkddboibiafaa", sum := "c3c8bef624e4b7b2f20fdbac01f2c7aefb5228639b51d0c7765e23fb463b3d5e", func := "loop.example/g00597/laws.FnExactItemDigest", spec := "fnExactItemDigest", apart := false, narrowed := true }
def FnExactItemDigestUptoSaid : Prop := fnExactItemDigestUptoRow.holds Try.pinned (OpenSpec.upto fnExactItemDigestSpec)

/-- 'laws.FnExactIsArchive', WHERE WHAT IT READS IS OF BULK AT MOST 1048576: true; the input reads as it did. -/
def fnExactIsArchiveUptoRow : OpenClaim := { program := "ytpgkddboibiafaa", sum := "c3c8bef624e4b7b2f20fdbac01f2c7aefb5228639b51d0c7765e23fb463b3d5e", func := "loop.example/g00597/laws.FnExactIsArchive", spec := "fnExactIsArchive", apart := false, narrowed := true }
def FnExactIsArchiveUptoSaid : Prop := fnExactIsArchiveUptoRow.holds Try.pinned (OpenSpec.upto fnExactIsArchiveSpec)

/-- 'laws.FnExactEqualArchives', WHERE WHAT IT READS IS OF BULK AT MOST 1048576: true; the input reads as it did. -/
def fnExactEqualArchivesUptoRow : OpenClaim := { program := "ytpgkddboibiafaa", sum := "c3c8bef624e4b7b2f20fdbac01f2c7aefb5228639b51d0c7765e23fb463b3d5e", func := "loop.example/g00597/laws.FnExactEqualArchives", spec := "fnExactEqualArchives", apart := false, narrowed := true }
def FnExactEqualArchivesUptoSaid : Prop := fnExactEqualArchivesUptoRow.holds Try.pinned (OpenSpec.upto fnExactEqualArchivesSpec)

/-- 'laws.FnExactRenewalCount', WHERE WHAT IT READS IS OF BULK AT MOST 1048576: true; the input reads as it did. -/
def fnExactRenewalCountUptoRow : OpenClaim := { program := "ytpgkddboibiafaa", sum := "c3c8bef624e4b7b2f20fdbac01f2c7aefb5228639b51d0c7765e23fb463b3d5e", func := "loop.example/g00597/laws.FnExactRenewalCount", spec := "fnExactRenewalCount", apart := false, narrowed := true }
def FnExactRenewalCountUptoSaid : Prop := fnExactRenewalCountUptoRow.holds Try.pinned (OpenSpec.upto fnExactRenewalCountSpec)

/-- 'laws.FnExactKeptUntil', WHERE WHAT IT READS IS OF BULK AT MOST 1048576: true; the input reads as it did. -/
def fnExactKeptUntilUptoRow : OpenClaim := { program := "ytpgkddboibiafaa", sum := "c3c8bef624e4b7b2f20fdbac01f2c7aefb5228639b51d0c7765e23fb463b3d5e", func := "loop.example/g00597/laws.FnExactKeptUntil", spec := "fnExactKeptUntil", apart := false, narrowed := true }
def FnExactKeptUntilUptoSaid : Prop := fnExactKeptUntilUptoRow.holds Try.pinned (OpenSpec.upto fnExactKeptUntilSpec)

end Rows
end Go.Proofs.Ytpgkddboibiafaa
