/-
  No cell of these rows narrows 'for every input' (looked for: loops, veiled, ifaces, maps, wideKeys, modest, calm, conditions, laid).
  DERIVED. THE GIVEN ROWS OF THIS SEAT. 6 by the template 'for every input the law returns true; each argument reads behind the call as it read before'; 0 by the template 'total and deterministic' (their statements: YticbdgmcofjkeaaTotals.lean).
  GIVEN WITH THE SEED: the statements are not yours to turn. If you find one false, say at which input.
  Laid BY PROGRAM, IN A SANDBOX (cutbox-rows.mjs): the forced cells as the released guide's own fill.sh prints them over the translation 2e2f8e8e60740bd6… (all of the seat's roots in one cut). By AI agents, Wed Nov 11 2026. No macro, syntax, notation, axiom, sorry.
-/
import Derived.Test.YticbdgmcofjkeaaChecked
import GoSem.Claim
import GoSem.ClaimJoined
import GoSem.ClaimMapViews
import Derived.JoinedTies
import Derived.KernelRfl
namespace Go.Proofs.Yticbdgmcofjkeaa
/- THE CELL 'sum', in the pinned program and in every row, IS THE sha256 OF THE DUMP (.gsa) THAT YticbdgmcofjkeaaProg.lean LOADS. Nothing in Lean hashes anything: it is a label: what it is worth is what the hold of that sum in a sandbox is worth. -/
noncomputable def Try.pinned : Pinned := { name := "yticbdgmcofjkeaa", sum := "2e2f8e8e60740bd6c5c5adeabf6869f6db04292eb02fb94fd43736d7fbd4ec71", checked := Try.checked }
namespace Rows
def none {H : Type} : Left H := { results := [], args := [] }

/-- 'plexuslaw13.CodeMatchesReference': WHATEVER THE INPUT: true; the input reads as it did. -/
def codeMatchesReferenceSpec : ChangeSpec := { name := "codeMatchesReference", fn := fun _ => fun
  | [d1, d2, d3] => { results := [.lit (.bool true)], args := [d1, d2, d3] }
  | _ => none }
def codeMatchesReferenceRow : OpenClaim := { program := "yticbdgmcofjkeaa", sum := "2e2f8e8e60740bd6c5c5adeabf6869f6db04292eb02fb94fd43736d7fbd4ec71", func := "plexus/plexuslaw13.CodeMatchesReference", spec := "codeMatchesReference", unfollowed := true, recurses := true, apart := false }
def CodeMatchesReferenceSaid : Prop := codeMatchesReferenceRow.holds Try.pinned (OpenSpec.ofChange codeMatchesReferenceSpec)

/-- ITS FALSE NEIGHBOUR: 'it returns false'. Refute it at one input. -/
def codeMatchesReferenceWrong : ChangeSpec := { name := "codeMatchesReference", fn := fun _ => fun
  | [d1, d2, d3] => { results := [.lit (.bool false)], args := [d1, d2, d3] }
  | _ => none }
def CodeMatchesReferenceWrongFalsely : Prop := codeMatchesReferenceRow.holds Try.pinned (OpenSpec.ofChange codeMatchesReferenceWrong)

/-- 'plexuslaw33.AlgebraicCorrects': WHATEVER THE INPUT: true; the input reads as it did. -/
def algebraicCorrectsSpec : ChangeSpec := { name := "algebraicCorrects", fn := fun _ => fun
  | [d1, d2] => { results := [.lit (.bool true)], args := [d1, d2] }
  | _ => none }
def algebraicCorrectsRow : OpenClaim := { program := "yticbdgmcofjkeaa", sum := "2e2f8e8e60740bd6c5c5adeabf6869f6db04292eb02fb94fd43736d7fbd4ec71", func := "plexus/plexuslaw33.AlgebraicCorrects", spec := "algebraicCorrects", unfollowed := true, recurses := true, apart := false }
def AlgebraicCorrectsSaid : Prop := algebraicCorrectsRow.holds Try.pinned (OpenSpec.ofChange algebraicCorrectsSpec)

/-- ITS FALSE NEIGHBOUR: 'it returns false'. Refute it at one input. -/
def algebraicCorrectsWrong : ChangeSpec := { name := "algebraicCorrects", fn := fun _ => fun
  | [d1, d2] => { results := [.lit (.bool false)], args := [d1, d2] }
  | _ => none }
def AlgebraicCorrectsWrongFalsely : Prop := algebraicCorrectsRow.holds Try.pinned (OpenSpec.ofChange algebraicCorrectsWrong)

/-- 'plexuslaw33.AlgebraicLost': WHATEVER THE INPUT: true; the input reads as it did. -/
def algebraicLostSpec : ChangeSpec := { name := "algebraicLost", fn := fun _ => fun
  | [d] => { results := [.lit (.bool true)], args := [d] }
  | _ => none }
def algebraicLostRow : OpenClaim := { program := "yticbdgmcofjkeaa", sum := "2e2f8e8e60740bd6c5c5adeabf6869f6db04292eb02fb94fd43736d7fbd4ec71", func := "plexus/plexuslaw33.AlgebraicLost", spec := "algebraicLost", unfollowed := true, recurses := true, apart := false }
def AlgebraicLostSaid : Prop := algebraicLostRow.holds Try.pinned (OpenSpec.ofChange algebraicLostSpec)

/-- ITS FALSE NEIGHBOUR: 'it returns false'. Refute it at one input. -/
def algebraicLostWrong : ChangeSpec := { name := "algebraicLost", fn := fun _ => fun
  | [d] => { results := [.lit (.bool false)], args := [d] }
  | _ => none }
def AlgebraicLostWrongFalsely : Prop := algebraicLostRow.holds Try.pinned (OpenSpec.ofChange algebraicLostWrong)

/-- 'plexuslaw33.AlgebraicSums': WHATEVER THE INPUT: true; the input reads as it did. -/
def algebraicSumsSpec : ChangeSpec := { name := "algebraicSums", fn := fun _ => fun
  | [d1, d2] => { results := [.lit (.bool true)], args := [d1, d2] }
  | _ => none }
def algebraicSumsRow : OpenClaim := { program := "yticbdgmcofjkeaa", sum := "2e2f8e8e60740bd6c5c5adeabf6869f6db04292eb02fb94fd43736d7fbd4ec71", func := "plexus/plexuslaw33.AlgebraicSums", spec := "algebraicSums", unfollowed := true, recurses := true, apart := false }
def AlgebraicSumsSaid : Prop := algebraicSumsRow.holds Try.pinned (OpenSpec.ofChange algebraicSumsSpec)

/-- ITS FALSE NEIGHBOUR: 'it returns false'. Refute it at one input. -/
def algebraicSumsWrong : ChangeSpec := { name := "algebraicSums", fn := fun _ => fun
  | [d1, d2] => { results := [.lit (.bool false)], args := [d1, d2] }
  | _ => none }
def AlgebraicSumsWrongFalsely : Prop := algebraicSumsRow.holds Try.pinned (OpenSpec.ofChange algebraicSumsWrong)

/-- 'plexuslaw33.AlgebraicHonest': WHATEVER THE INPUT: true; the input reads as it did. -/
def algebraicHonestSpec : ChangeSpec := { name := "algebraicHonest", fn := fun _ => fun
  | [d] => { results := [.lit (.bool true)], args := [d] }
  | _ => none }
def algebraicHonestRow : OpenClaim := { program := "yticbdgmcofjkeaa", sum := "2e2f8e8e60740bd6c5c5adeabf6869f6db04292eb02fb94fd43736d7fbd4ec71", func := "plexus/plexuslaw33.AlgebraicHonest", spec := "algebraicHonest", unfollowed := true, recurses := true, apart := false }
def AlgebraicHonestSaid : Prop := algebraicHonestRow.holds Try.pinned (OpenSpec.ofChange algebraicHonestSpec)

/-- ITS FALSE NEIGHBOUR: 'it returns false'. Refute it at one input. -/
def algebraicHonestWrong : ChangeSpec := { name := "algebraicHonest", fn := fun _ => fun
  | [d] => { results := [.lit (.bool false)], args := [d] }
  | _ => none }
def AlgebraicHonestWrongFalsely : Prop := algebraicHonestRow.holds Try.pinned (OpenSpec.ofChange algebraicHonestWrong)

/-- 'plexuslaw33.AlgebraicDistance': WHATEVER THE INPUT: true; the input reads as it did. -/
def algebraicDistanceSpec : ChangeSpec := { name := "algebraicDistance", fn := fun _ => fun
  | [d] => { results := [.lit (.bool true)], args := [d] }
  | _ => none }
def algebraicDistanceRow : OpenClaim := { program := "yticbdgmcofjkeaa", sum := "2e2f8e8e60740bd6c5c5adeabf6869f6db04292eb02fb94fd43736d7fbd4ec71", func := "plexus/plexuslaw33.AlgebraicDistance", spec := "algebraicDistance", unfollowed := true, recurses := true, apart := false }
def AlgebraicDistanceSaid : Prop := algebraicDistanceRow.holds Try.pinned (OpenSpec.ofChange algebraicDistanceSpec)

/-- ITS FALSE NEIGHBOUR: 'it returns false'. Refute it at one input. -/
def algebraicDistanceWrong : ChangeSpec := { name := "algebraicDistance", fn := fun _ => fun
  | [d] => { results := [.lit (.bool false)], args := [d] }
  | _ => none }
def AlgebraicDistanceWrongFalsely : Prop := algebraicDistanceRow.holds Try.pinned (OpenSpec.ofChange algebraicDistanceWrong)

/- THE SECOND FORM. 'bulk': how many values and letters a reading holds, each counted each time it is reached (what is shared counts as often as it is met; a slice's spare places count too). A statement '..UptoSaid' is the law's where the arguments, and the package variables that the reading takes, are together of bulk at most 1048576: NARROWER than '..Said'. Prove '..Said' where nothing that the law and all that it calls make is longer than what came in: it says more and counts as full. Else prove '..UptoSaid'. A law counts once. -/
mutual
def uptoBulk {H : Type} : DataW H → Nat
  | .lit (.string bytes) => bytes.length + 1
  | .lit _ => 1
  | .nil => 1
  | .ptr d => uptoBulk d + 1
  | .slice elems spare => uptoBulkAll elems + uptoBulkAll spare + 1
  | .agg parts => uptoBulkAll parts + 1
  | .iface _ d => uptoBulk d + 1
  | .map entries => uptoBulkEntries entries + 1
  | .held _ => 1
def uptoBulkAll {H : Type} : List (DataW H) → Nat
  | [] => 0
  | d :: r => uptoBulk d + uptoBulkAll r
def uptoBulkEntries {H : Type} : List (Lit × DataW H) → Nat
  | [] => 0
  | x :: r => uptoBulkEntry x + uptoBulkEntries r
def uptoBulkEntry {H : Type} : Lit × DataW H → Nat
  | (.string bytes, d) => bytes.length + uptoBulk d + 1
  | (_, d) => uptoBulk d + 1
 end
def uptoSmall : (H : Type) → List (DataW H) → Bool := fun _ ds => decide (uptoBulkAll ds ≤ 1048576)
def OpenSpec.upto (s : _root_.Go.ChangeSpec) : _root_.Go.OpenSpec := { _root_.Go.OpenSpec.ofChange s with cond := some uptoSmall }

/-- 'plexuslaw13.CodeMatchesReference', WHERE WHAT IT READS IS OF BULK AT MOST 1048576: true; the input reads as it did. -/
def codeMatchesReferenceUptoRow : OpenClaim := { program := "yticbdgmcofjkeaa", sum := "2e2f8e8e60740bd6c5c5adeabf6869f6db04292eb02fb94fd43736d7fbd4ec71", func := "plexus/plexuslaw13.CodeMatchesReference", spec := "codeMatchesReference", unfollowed := true, recurses := true, apart := false, narrowed := true }
def CodeMatchesReferenceUptoSaid : Prop := codeMatchesReferenceUptoRow.holds Try.pinned (OpenSpec.upto codeMatchesReferenceSpec)

/-- 'plexuslaw33.AlgebraicCorrects', WHERE WHAT IT READS IS OF BULK AT MOST 1048576: true; the input reads as it did. -/
def algebraicCorrectsUptoRow : OpenClaim := { program := "yticbdgmcofjkeaa", sum := "2e2f8e8e60740bd6c5c5adeabf6869f6db04292eb02fb94fd43736d7fbd4ec71", func := "plexus/plexuslaw33.AlgebraicCorrects", spec := "algebraicCorrects", unfollowed := true, recurses := true, apart := false, narrowed := true }
def AlgebraicCorrectsUptoSaid : Prop := algebraicCorrectsUptoRow.holds Try.pinned (OpenSpec.upto algebraicCorrectsSpec)

/-- 'plexuslaw33.AlgebraicLost', WHERE WHAT IT READS IS OF BULK AT MOST 1048576: true; the input reads as it did. -/
def algebraicLostUptoRow : OpenClaim := { program := "yticbdgmcofjkeaa", sum := "2e2f8e8e60740bd6c5c5adeabf6869f6db04292eb02fb94fd43736d7fbd4ec71", func := "plexus/plexuslaw33.AlgebraicLost", spec := "algebraicLost", unfollowed := true, recurses := true, apart := false, narrowed := true }
def AlgebraicLostUptoSaid : Prop := algebraicLostUptoRow.holds Try.pinned (OpenSpec.upto algebraicLostSpec)

/-- 'plexuslaw33.AlgebraicSums', WHERE WHAT IT READS IS OF BULK AT MOST 1048576: true; the input reads as it did. -/
def algebraicSumsUptoRow : OpenClaim := { program := "yticbdgmcofjkeaa", sum := "2e2f8e8e60740bd6c5c5adeabf6869f6db04292eb02fb94fd43736d7fbd4ec71", func := "plexus/plexuslaw33.AlgebraicSums", spec := "algebraicSums", unfollowed := true, recurses := true, apart := false, narrowed := true }
def AlgebraicSumsUptoSaid : Prop := algebraicSumsUptoRow.holds Try.pinned (OpenSpec.upto algebraicSumsSpec)

/-- 'plexuslaw33.AlgebraicHonest', WHERE WHAT IT READS IS OF BULK AT MOST 1048576: true; the input reads as it did. -/
def algebraicHonestUptoRow : OpenClaim := { program := "yticbdgmcofjkeaa", sum := "2e2f8e8e60740bd6c5c5adeabf6869f6db04292eb02fb94fd43736d7fbd4ec71", func := "plexus/plexuslaw33.AlgebraicHonest", spec := "algebraicHonest", unfollowed := true, recurses := true, apart := false, narrowed := true }
def AlgebraicHonestUptoSaid : Prop := algebraicHonestUptoRow.holds Try.pinned (OpenSpec.upto algebraicHonestSpec)

/-- 'plexuslaw33.AlgebraicDistance', WHERE WHAT IT READS IS OF BULK AT MOST 1048576: true; the input reads as it did. -/
def algebraicDistanceUptoRow : OpenClaim := { program := "yticbdgmcofjkeaa", sum := "2e2f8e8e60740bd6c5c5adeabf6869f6db04292eb02fb94fd43736d7fbd4ec71", func := "plexus/plexuslaw33.AlgebraicDistance", spec := "algebraicDistance", unfollowed := true, recurses := true, apart := false, narrowed := true }
def AlgebraicDistanceUptoSaid : Prop := algebraicDistanceUptoRow.holds Try.pinned (OpenSpec.upto algebraicDistanceSpec)

end Rows
end Go.Proofs.Yticbdgmcofjkeaa
