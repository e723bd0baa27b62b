/-
  No cell of these rows narrows 'for every input' (looked for: loops, veiled, ifaces, maps, wideKeys, modest, calm, conditions, laid).
  DERIVED. THE GIVEN ROWS OF THIS SEAT. 13 by the template 'for every input the law returns true; each argument reads behind the call as it read before'; 0 by the template 'total and deterministic' (their statements: YtbpjicbpcfkpfaaTotals.lean).
  GIVEN WITH THE SEED: the statements are not yours to turn. If you find one false, say at which input.
  Laid BY PROGRAM, IN A SANDBOX (cutbox-rows.mjs): the forced cells as the released guide's own fill.sh prints them over the translation 3c6c48442d8d181c… (all of the seat's roots in one cut). By AI agents, Wed Nov 11 2026. No macro, syntax, notation, axiom, sorry.
-/
import Derived.Test.YtbpjicbpcfkpfaaChecked
import GoSem.Claim
import GoSem.ClaimJoined
import GoSem.ClaimMapViews
import Derived.JoinedTies
import Derived.KernelRfl
namespace Go.Proofs.Ytbpjicbpcfkpfaa
/- THE CELL 'sum', in the pinned program and in every row, IS THE sha256 OF THE DUMP (.gsa) THAT YtbpjicbpcfkpfaaProg.lean LOADS. Nothing in Lean hashes anything: it is a label: what it is worth is what the hold of that sum in a sandbox is worth. -/
noncomputable def Try.pinned : Pinned := { name := "ytbpjicbpcfkpfaa", sum := "3c6c48442d8d181ce62738e6166f23c090c4f194b0ddc8422c779c14a426def9", checked := Try.checked }
namespace Rows
def none {H : Type} : Left H := { results := [], args := [] }

/-- 'plexuslaw34.RadiusMatchesReference': WHATEVER THE INPUT: true; the input reads as it did. -/
def radiusMatchesReferenceSpec : ChangeSpec := { name := "radiusMatchesReference", fn := fun _ => fun
  | [d1, d2, d3] => { results := [.lit (.bool true)], args := [d1, d2, d3] }
  | _ => none }
def radiusMatchesReferenceRow : OpenClaim := { program := "ytbpjicbpcfkpfaa", sum := "3c6c48442d8d181ce62738e6166f23c090c4f194b0ddc8422c779c14a426def9", func := "plexus/plexuslaw34.RadiusMatchesReference", spec := "radiusMatchesReference", unfollowed := true, recurses := true, apart := false }
def RadiusMatchesReferenceSaid : Prop := radiusMatchesReferenceRow.holds Try.pinned (OpenSpec.ofChange radiusMatchesReferenceSpec)

/-- ITS FALSE NEIGHBOUR: 'it returns false'. Refute it at one input. -/
def radiusMatchesReferenceWrong : ChangeSpec := { name := "radiusMatchesReference", fn := fun _ => fun
  | [d1, d2, d3] => { results := [.lit (.bool false)], args := [d1, d2, d3] }
  | _ => none }
def RadiusMatchesReferenceWrongFalsely : Prop := radiusMatchesReferenceRow.holds Try.pinned (OpenSpec.ofChange radiusMatchesReferenceWrong)

/-- 'plexuslaw34.RadiusLists': WHATEVER THE INPUT: true; the input reads as it did. -/
def radiusListsSpec : ChangeSpec := { name := "radiusLists", fn := fun _ => fun
  | [d1, d2] => { results := [.lit (.bool true)], args := [d1, d2] }
  | _ => none }
def radiusListsRow : OpenClaim := { program := "ytbpjicbpcfkpfaa", sum := "3c6c48442d8d181ce62738e6166f23c090c4f194b0ddc8422c779c14a426def9", func := "plexus/plexuslaw34.RadiusLists", spec := "radiusLists", unfollowed := true, recurses := true, apart := false }
def RadiusListsSaid : Prop := radiusListsRow.holds Try.pinned (OpenSpec.ofChange radiusListsSpec)

/-- ITS FALSE NEIGHBOUR: 'it returns false'. Refute it at one input. -/
def radiusListsWrong : ChangeSpec := { name := "radiusLists", fn := fun _ => fun
  | [d1, d2] => { results := [.lit (.bool false)], args := [d1, d2] }
  | _ => none }
def RadiusListsWrongFalsely : Prop := radiusListsRow.holds Try.pinned (OpenSpec.ofChange radiusListsWrong)

/-- 'plexuslaw34.RadiusNearest': WHATEVER THE INPUT: true; the input reads as it did. -/
def radiusNearestSpec : ChangeSpec := { name := "radiusNearest", fn := fun _ => fun
  | [d1, d2] => { results := [.lit (.bool true)], args := [d1, d2] }
  | _ => none }
def radiusNearestRow : OpenClaim := { program := "ytbpjicbpcfkpfaa", sum := "3c6c48442d8d181ce62738e6166f23c090c4f194b0ddc8422c779c14a426def9", func := "plexus/plexuslaw34.RadiusNearest", spec := "radiusNearest", unfollowed := true, recurses := true, apart := false }
def RadiusNearestSaid : Prop := radiusNearestRow.holds Try.pinned (OpenSpec.ofChange radiusNearestSpec)

/-- ITS FALSE NEIGHBOUR: 'it returns false'. Refute it at one input. -/
def radiusNearestWrong : ChangeSpec := { name := "radiusNearest", fn := fun _ => fun
  | [d1, d2] => { results := [.lit (.bool false)], args := [d1, d2] }
  | _ => none }
def RadiusNearestWrongFalsely : Prop := radiusNearestRow.holds Try.pinned (OpenSpec.ofChange radiusNearestWrong)

/-- 'plexuslaw34.RadiusSums': WHATEVER THE INPUT: true; the input reads as it did. -/
def radiusSumsSpec : ChangeSpec := { name := "radiusSums", fn := fun _ => fun
  | [d1, d2, d3] => { results := [.lit (.bool true)], args := [d1, d2, d3] }
  | _ => none }
def radiusSumsRow : OpenClaim := { program := "ytbpjicbpcfkpfaa", sum := "3c6c48442d8d181ce62738e6166f23c090c4f194b0ddc8422c779c14a426def9", func := "plexus/plexuslaw34.RadiusSums", spec := "radiusSums", unfollowed := true, recurses := true, apart := false }
def RadiusSumsSaid : Prop := radiusSumsRow.holds Try.pinned (OpenSpec.ofChange radiusSumsSpec)

/-- ITS FALSE NEIGHBOUR: 'it returns false'. Refute it at one input. -/
def radiusSumsWrong : ChangeSpec := { name := "radiusSums", fn := fun _ => fun
  | [d1, d2, d3] => { results := [.lit (.bool false)], args := [d1, d2, d3] }
  | _ => none }
def RadiusSumsWrongFalsely : Prop := radiusSumsRow.holds Try.pinned (OpenSpec.ofChange radiusSumsWrong)

/-- 'plexuslaw34.RadiusRefuses': WHATEVER THE INPUT: true; the input reads as it did. -/
def radiusRefusesSpec : ChangeSpec := { name := "radiusRefuses", fn := fun _ => fun
  | [d1, d2, d3] => { results := [.lit (.bool true)], args := [d1, d2, d3] }
  | _ => none }
def radiusRefusesRow : OpenClaim := { program := "ytbpjicbpcfkpfaa", sum := "3c6c48442d8d181ce62738e6166f23c090c4f194b0ddc8422c779c14a426def9", func := "plexus/plexuslaw34.RadiusRefuses", spec := "radiusRefuses", unfollowed := true, recurses := true, apart := false }
def RadiusRefusesSaid : Prop := radiusRefusesRow.holds Try.pinned (OpenSpec.ofChange radiusRefusesSpec)

/-- ITS FALSE NEIGHBOUR: 'it returns false'. Refute it at one input. -/
def radiusRefusesWrong : ChangeSpec := { name := "radiusRefuses", fn := fun _ => fun
  | [d1, d2, d3] => { results := [.lit (.bool false)], args := [d1, d2, d3] }
  | _ => none }
def RadiusRefusesWrongFalsely : Prop := radiusRefusesRow.holds Try.pinned (OpenSpec.ofChange radiusRefusesWrong)

/-- 'plexuslaw13.CodeDuality': WHATEVER THE INPUT: true; the input reads as it did. -/
def codeDualitySpec : ChangeSpec := { name := "codeDuality", fn := fun _ => fun
  | [d] => { results := [.lit (.bool true)], args := [d] }
  | _ => none }
def codeDualityRow : OpenClaim := { program := "ytbpjicbpcfkpfaa", sum := "3c6c48442d8d181ce62738e6166f23c090c4f194b0ddc8422c779c14a426def9", func := "plexus/plexuslaw13.CodeDuality", spec := "codeDuality", unfollowed := true, recurses := true, apart := false }
def CodeDualitySaid : Prop := codeDualityRow.holds Try.pinned (OpenSpec.ofChange codeDualitySpec)

/-- ITS FALSE NEIGHBOUR: 'it returns false'. Refute it at one input. -/
def codeDualityWrong : ChangeSpec := { name := "codeDuality", fn := fun _ => fun
  | [d] => { results := [.lit (.bool false)], args := [d] }
  | _ => none }
def CodeDualityWrongFalsely : Prop := codeDualityRow.holds Try.pinned (OpenSpec.ofChange codeDualityWrong)

/-- 'plexuslaw13.CodeDistance': WHATEVER THE INPUT: true; the input reads as it did. -/
def codeDistanceSpec : ChangeSpec := { name := "codeDistance", fn := fun _ => fun
  | [d1, d2] => { results := [.lit (.bool true)], args := [d1, d2] }
  | _ => none }
def codeDistanceRow : OpenClaim := { program := "ytbpjicbpcfkpfaa", sum := "3c6c48442d8d181ce62738e6166f23c090c4f194b0ddc8422c779c14a426def9", func := "plexus/plexuslaw13.CodeDistance", spec := "codeDistance", unfollowed := true, recurses := true, apart := false }
def CodeDistanceSaid : Prop := codeDistanceRow.holds Try.pinned (OpenSpec.ofChange codeDistanceSpec)

/-- ITS FALSE NEIGHBOUR: 'it returns false'. Refute it at one input. -/
def codeDistanceWrong : ChangeSpec := { name := "codeDistance", fn := fun _ => fun
  | [d1, d2] => { results := [.lit (.bool false)], args := [d1, d2] }
  | _ => none }
def CodeDistanceWrongFalsely : Prop := codeDistanceRow.holds Try.pinned (OpenSpec.ofChange codeDistanceWrong)

/-- 'plexuslaw13.CodeGenerators': WHATEVER THE INPUT: true; the input reads as it did. -/
def codeGeneratorsSpec : ChangeSpec := { name := "codeGenerators", fn := fun _ => fun
  | [d1, d2, d3] => { results := [.lit (.bool true)], args := [d1, d2, d3] }
  | _ => none }
def codeGeneratorsRow : OpenClaim := { program := "ytbpjicbpcfkpfaa", sum := "3c6c48442d8d181ce62738e6166f23c090c4f194b0ddc8422c779c14a426def9", func := "plexus/plexuslaw13.CodeGenerators", spec := "codeGenerators", unfollowed := true, recurses := true, apart := false }
def CodeGeneratorsSaid : Prop := codeGeneratorsRow.holds Try.pinned (OpenSpec.ofChange codeGeneratorsSpec)

/-- ITS FALSE NEIGHBOUR: 'it returns false'. Refute it at one input. -/
def codeGeneratorsWrong : ChangeSpec := { name := "codeGenerators", fn := fun _ => fun
  | [d1, d2, d3] => { results := [.lit (.bool false)], args := [d1, d2, d3] }
  | _ => none }
def CodeGeneratorsWrongFalsely : Prop := codeGeneratorsRow.holds Try.pinned (OpenSpec.ofChange codeGeneratorsWrong)

/-- 'plexuslaw13.CodeWords': WHATEVER THE INPUT: true; the input reads as it did. -/
def codeWordsSpec : ChangeSpec := { name := "codeWords", fn := fun _ => fun
  | [d1, d2, d3] => { results := [.lit (.bool true)], args := [d1, d2, d3] }
  | _ => none }
def codeWordsRow : OpenClaim := { program := "ytbpjicbpcfkpfaa", sum := "3c6c48442d8d181ce62738e6166f23c090c4f194b0ddc8422c779c14a426def9", func := "plexus/plexuslaw13.CodeWords", spec := "codeWords", unfollowed := true, recurses := true, apart := false }
def CodeWordsSaid : Prop := codeWordsRow.holds Try.pinned (OpenSpec.ofChange codeWordsSpec)

/-- ITS FALSE NEIGHBOUR: 'it returns false'. Refute it at one input. -/
def codeWordsWrong : ChangeSpec := { name := "codeWords", fn := fun _ => fun
  | [d1, d2, d3] => { results := [.lit (.bool false)], args := [d1, d2, d3] }
  | _ => none }
def CodeWordsWrongFalsely : Prop := codeWordsRow.holds Try.pinned (OpenSpec.ofChange codeWordsWrong)

/-- 'plexuslaw34.RadiusCorrects': WHATEVER THE INPUT: true; the input reads as it did. -/
def radiusCorrectsSpec : ChangeSpec := { name := "radiusCorrects", fn := fun _ => fun
  | [d1, d2] => { results := [.lit (.bool true)], args := [d1, d2] }
  | _ => none }
def radiusCorrectsRow : OpenClaim := { program := "ytbpjicbpcfkpfaa", sum := "3c6c48442d8d181ce62738e6166f23c090c4f194b0ddc8422c779c14a426def9", func := "plexus/plexuslaw34.RadiusCorrects", spec := "radiusCorrects", unfollowed := true, recurses := true, apart := false }
def RadiusCorrectsSaid : Prop := radiusCorrectsRow.holds Try.pinned (OpenSpec.ofChange radiusCorrectsSpec)

/-- ITS FALSE NEIGHBOUR: 'it returns false'. Refute it at one input. -/
def radiusCorrectsWrong : ChangeSpec := { name := "radiusCorrects", fn := fun _ => fun
  | [d1, d2] => { results := [.lit (.bool false)], args := [d1, d2] }
  | _ => none }
def RadiusCorrectsWrongFalsely : Prop := radiusCorrectsRow.holds Try.pinned (OpenSpec.ofChange radiusCorrectsWrong)

/-- 'plexuslaw13.CodeMatchesReference': WHATEVER THE INPUT: true; the input reads as it did. -/
def codeMatchesReferenceSpec : ChangeSpec := { name := "codeMatchesReference", fn := fun _ => fun
  | [d1, d2, d3] => { results := [.lit (.bool true)], args := [d1, d2, d3] }
  | _ => none }
def codeMatchesReferenceRow : OpenClaim := { program := "ytbpjicbpcfkpfaa", sum := "3c6c48442d8d181ce62738e6166f23c090c4f194b0ddc8422c779c14a426def9", func := "plexus/plexuslaw13.CodeMatchesReference", spec := "codeMatchesReference", unfollowed := true, recurses := true, apart := false }
def CodeMatchesReferenceSaid : Prop := codeMatchesReferenceRow.holds Try.pinned (OpenSpec.ofChange codeMatchesReferenceSpec)

/-- ITS FALSE NEIGHBOUR: 'it returns false'. Refute it at one input. -/
def codeMatchesReferenceWrong : ChangeSpec := { name := "codeMatchesReference", fn := fun _ => fun
  | [d1, d2, d3] => { results := [.lit (.bool false)], args := [d1, d2, d3] }
  | _ => none }
def CodeMatchesReferenceWrongFalsely : Prop := codeMatchesReferenceRow.holds Try.pinned (OpenSpec.ofChange codeMatchesReferenceWrong)

/-- 'plexuslaw13.CodeSyndromes': WHATEVER THE INPUT: true; the input reads as it did. -/
def codeSyndromesSpec : ChangeSpec := { name := "codeSyndromes", fn := fun _ => fun
  | [d1, d2, d3] => { results := [.lit (.bool true)], args := [d1, d2, d3] }
  | _ => none }
def codeSyndromesRow : OpenClaim := { program := "ytbpjicbpcfkpfaa", sum := "3c6c48442d8d181ce62738e6166f23c090c4f194b0ddc8422c779c14a426def9", func := "plexus/plexuslaw13.CodeSyndromes", spec := "codeSyndromes", unfollowed := true, recurses := true, apart := false }
def CodeSyndromesSaid : Prop := codeSyndromesRow.holds Try.pinned (OpenSpec.ofChange codeSyndromesSpec)

/-- ITS FALSE NEIGHBOUR: 'it returns false'. Refute it at one input. -/
def codeSyndromesWrong : ChangeSpec := { name := "codeSyndromes", fn := fun _ => fun
  | [d1, d2, d3] => { results := [.lit (.bool false)], args := [d1, d2, d3] }
  | _ => none }
def CodeSyndromesWrongFalsely : Prop := codeSyndromesRow.holds Try.pinned (OpenSpec.ofChange codeSyndromesWrong)

/-- 'plexuslaw13.CodeRefuses': WHATEVER THE INPUT: true; the input reads as it did. -/
def codeRefusesSpec : ChangeSpec := { name := "codeRefuses", fn := fun _ => fun
  | [d1, d2, d3] => { results := [.lit (.bool true)], args := [d1, d2, d3] }
  | _ => none }
def codeRefusesRow : OpenClaim := { program := "ytbpjicbpcfkpfaa", sum := "3c6c48442d8d181ce62738e6166f23c090c4f194b0ddc8422c779c14a426def9", func := "plexus/plexuslaw13.CodeRefuses", spec := "codeRefuses", unfollowed := true, recurses := true, apart := false }
def CodeRefusesSaid : Prop := codeRefusesRow.holds Try.pinned (OpenSpec.ofChange codeRefusesSpec)

/-- ITS FALSE NEIGHBOUR: 'it returns false'. Refute it at one input. -/
def codeRefusesWrong : ChangeSpec := { name := "codeRefuses", fn := fun _ => fun
  | [d1, d2, d3] => { results := [.lit (.bool false)], args := [d1, d2, d3] }
  | _ => none }
def CodeRefusesWrongFalsely : Prop := codeRefusesRow.holds Try.pinned (OpenSpec.ofChange codeRefusesWrong)

/- THE SECOND FORM. 'bulk': how many values and letters a reading holds, each counted each time it is reached (what is shared counts as often as it is met; a slice's spare places count too). A statement '..UptoSaid' is the law's where the arguments, and the package variables that the reading takes, are together of bulk at most 1048576: NARROWER than '..Said'. Prove '..Said' where nothing that the law and all that it calls make is longer than what came in: it says more and counts as full. Else prove '..UptoSaid'. A law counts once. -/
mutual
def uptoBulk {H : Type} : DataW H → Nat
  | .lit (.string bytes) => bytes.length + 1
  | .lit _ => 1
  | .nil => 1
  | .ptr d => uptoBulk d + 1
  | .slice elems spare => uptoBulkAll elems + uptoBulkAll spare + 1
  | .agg parts => uptoBulkAll parts + 1
  | .iface _ d => uptoBulk d + 1
  | .map entries => uptoBulkEntries entries + 1
  | .held _ => 1
def uptoBulkAll {H : Type} : List (DataW H) → Nat
  | [] => 0
  | d :: r => uptoBulk d + uptoBulkAll r
def uptoBulkEntries {H : Type} : List (Lit × DataW H) → Nat
  | [] => 0
  | x :: r => uptoBulkEntry x + uptoBulkEntries r
def uptoBulkEntry {H : Type} : Lit × DataW H → Nat
  | (.string bytes, d) => bytes.length + uptoBulk d + 1
  | (_, d) => uptoBulk d + 1
 end
def uptoSmall : (H : Type) → List (DataW H) → Bool := fun _ ds => decide (uptoBulkAll ds ≤ 1048576)
def OpenSpec.upto (s : _root_.Go.ChangeSpec) : _root_.Go.OpenSpec := { _root_.Go.OpenSpec.ofChange s with cond := some uptoSmall }

/-- 'plexuslaw34.RadiusMatchesReference', WHERE WHAT IT READS IS OF BULK AT MOST 1048576: true; the input reads as it did. -/
def radiusMatchesReferenceUptoRow : OpenClaim := { program := "ytbpjicbpcfkpfaa", sum := "3c6c48442d8d181ce62738e6166f23c090c4f194b0ddc8422c779c14a426def9", func := "plexus/plexuslaw34.RadiusMatchesReference", spec := "radiusMatchesReference", unfollowed := true, recurses := true, apart := false, narrowed := true }
def RadiusMatchesReferenceUptoSaid : Prop := radiusMatchesReferenceUptoRow.holds Try.pinned (OpenSpec.upto radiusMatchesReferenceSpec)

/-- 'plexuslaw34.RadiusLists', WHERE WHAT IT READS IS OF BULK AT MOST 1048576: true; the input reads as it did. -/
def radiusListsUptoRow : OpenClaim := { program := "ytbpjicbpcfkpfaa", sum := "3c6c48442d8d181ce62738e6166f23c090c4f194b0ddc8422c779c14a426def9", func := "plexus/plexuslaw34.RadiusLists", spec := "radiusLists", unfollowed := true, recurses := true, apart := false, narrowed := true }
def RadiusListsUptoSaid : Prop := radiusListsUptoRow.holds Try.pinned (OpenSpec.upto radiusListsSpec)

/-- 'plexuslaw34.RadiusNearest', WHERE WHAT IT READS IS OF BULK AT MOST 1048576: true; the input reads as it did. -/
def radiusNearestUptoRow : OpenClaim := { program := "ytbpjicbpcfkpfaa", sum := "3c6c48442d8d181ce62738e6166f23c090c4f194b0ddc8422c779c14a426def9", func := "plexus/plexuslaw34.RadiusNearest", spec := "radiusNearest", unfollowed := true, recurses := true, apart := false, narrowed := true }
def RadiusNearestUptoSaid : Prop := radiusNearestUptoRow.holds Try.pinned (OpenSpec.upto radiusNearestSpec)

/-- 'plexuslaw34.RadiusSums', WHERE WHAT IT READS IS OF BULK AT MOST 1048576: true; the input reads as it did. -/
def radiusSumsUptoRow : OpenClaim := { program := "ytbpjicbpcfkpfaa", sum := "3c6c48442d8d181ce62738e6166f23c090c4f194b0ddc8422c779c14a426def9", func := "plexus/plexuslaw34.RadiusSums", spec := "radiusSums", unfollowed := true, recurses := true, apart := false, narrowed := true }
def RadiusSumsUptoSaid : Prop := radiusSumsUptoRow.holds Try.pinned (OpenSpec.upto radiusSumsSpec)

/-- 'plexuslaw34.RadiusRefuses', WHERE WHAT IT READS IS OF BULK AT MOST 1048576: true; the input reads as it did. -/
def radiusRefusesUptoRow : OpenClaim := { program := "ytbpjicbpcfkpfaa", sum := "3c6c48442d8d181ce62738e6166f23c090c4f194b0ddc8422c779c14a426def9", func := "plexus/plexuslaw34.RadiusRefuses", spec := "radiusRefuses", unfollowed := true, recurses := true, apart := false, narrowed := true }
def RadiusRefusesUptoSaid : Prop := radiusRefusesUptoRow.holds Try.pinned (OpenSpec.upto radiusRefusesSpec)

/-- 'plexuslaw13.CodeDuality', WHERE WHAT IT READS IS OF BULK AT MOST 1048576: true; the input reads as it did. -/
def codeDualityUptoRow : OpenClaim := { program := "ytbpjicbpcfkpfaa", sum := "3c6c48442d8d181ce62738e6166f23c090c4f194b0ddc8422c779c14a426def9", func := "plexus/plexuslaw13.CodeDuality", spec := "codeDuality", unfollowed := true, recurses := true, apart := false, narrowed := true }
def CodeDualityUptoSaid : Prop := codeDualityUptoRow.holds Try.pinned (OpenSpec.upto codeDualitySpec)

/-- 'plexuslaw13.CodeDistance', WHERE WHAT IT READS IS OF BULK AT MOST 1048576: true; the input reads as it did. -/
def codeDistanceUptoRow : OpenClaim := { program := "ytbpjicbpcfkpfaa", sum := "3c6c48442d8d181ce62738e6166f23c090c4f194b0ddc8422c779c14a426def9", func := "plexus/plexuslaw13.CodeDistance", spec := "codeDistance", unfollowed := true, recurses := true, apart := false, narrowed := true }
def CodeDistanceUptoSaid : Prop := codeDistanceUptoRow.holds Try.pinned (OpenSpec.upto codeDistanceSpec)

/-- 'plexuslaw13.CodeGenerators', WHERE WHAT IT READS IS OF BULK AT MOST 1048576: true; the input reads as it did. -/
def codeGeneratorsUptoRow : OpenClaim := { program := "ytbpjicbpcfkpfaa", sum := "3c6c48442d8d181ce62738e6166f23c090c4f194b0ddc8422c779c14a426def9", func := "plexus/plexuslaw13.CodeGenerators", spec := "codeGenerators", unfollowed := true, recurses := true, apart := false, narrowed := true }
def CodeGeneratorsUptoSaid : Prop := codeGeneratorsUptoRow.holds Try.pinned (OpenSpec.upto codeGeneratorsSpec)

/-- 'plexuslaw13.CodeWords', WHERE WHAT IT READS IS OF BULK AT MOST 1048576: true; the input reads as it did. -/
def codeWordsUptoRow : OpenClaim := { program := "ytbpjicbpcfkpfaa", sum := "3c6c48442d8d181ce62738e6166f23c090c4f194b0ddc8422c779c14a426def9", func := "plexus/plexuslaw13.CodeWords", spec := "codeWords", unfollowed := true, recurses := true, apart := false, narrowed := true }
def CodeWordsUptoSaid : Prop := codeWordsUptoRow.holds Try.pinned (OpenSpec.upto codeWordsSpec)

/-- 'plexuslaw34.RadiusCorrects', WHERE WHAT IT READS IS OF BULK AT MOST 1048576: true; the input reads as it did. -/
def radiusCorrectsUptoRow : OpenClaim := { program := "ytbpjicbpcfkpfaa", sum := "3c6c48442d8d181ce62738e6166f23c090c4f194b0ddc8422c779c14a426def9", func := "plexus/plexuslaw34.RadiusCorrects", spec := "radiusCorrects", unfollowed := true, recurses := true, apart := false, narrowed := true }
def RadiusCorrectsUptoSaid : Prop := radiusCorrectsUptoRow.holds Try.pinned (OpenSpec.upto radiusCorrectsSpec)

/-- 'plexuslaw13.CodeMatchesReference', WHERE WHAT IT READS IS OF BULK AT MOST 1048576: true; the input reads as it did. -/
def codeMatchesReferenceUptoRow : OpenClaim := { program := "ytbpjicbpcfkpfaa", sum := "3c6c48442d8d181ce62738e6166f23c090c4f194b0ddc8422c779c14a426def9", func := "plexus/plexuslaw13.CodeMatchesReference", spec := "codeMatchesReference", unfollowed := true, recurses := true, apart := false, narrowed := true }
def CodeMatchesReferenceUptoSaid : Prop := codeMatchesReferenceUptoRow.holds Try.pinned (OpenSpec.upto codeMatchesReferenceSpec)

/-- 'plexuslaw13.CodeSyndromes', WHERE WHAT IT READS IS OF BULK AT MOST 1048576: true; the input reads as it did. -/
def codeSyndromesUptoRow : OpenClaim := { program := "ytbpjicbpcfkpfaa", sum := "3c6c48442d8d181ce62738e6166f23c090c4f194b0ddc8422c779c14a426def9", func := "plexus/plexuslaw13.CodeSyndromes", spec := "codeSyndromes", unfollowed := true, recurses := true, apart := false, narrowed := true }
def CodeSyndromesUptoSaid : Prop := codeSyndromesUptoRow.holds Try.pinned (OpenSpec.upto codeSyndromesSpec)

/-- 'plexuslaw13.CodeRefuses', WHERE WHAT IT READS IS OF BULK AT MOST 1048576: true; the input reads as it did. -/
def codeRefusesUptoRow : OpenClaim := { program := "ytbpjicbpcfkpfaa", sum := "3c6c48442d8d181ce62738e6166f23c090c4f194b0ddc8422c779c14a426def9", func := "plexus/plexuslaw13.CodeRefuses", spec := "codeRefuses", unfollowed := true, recurses := true, apart := false, narrowed := true }
def CodeRefusesUptoSaid : Prop := codeRefusesUptoRow.holds Try.pinned (OpenSpec.upto codeRefusesSpec)

end Rows
end Go.Proofs.Ytbpjicbpcfkpfaa
