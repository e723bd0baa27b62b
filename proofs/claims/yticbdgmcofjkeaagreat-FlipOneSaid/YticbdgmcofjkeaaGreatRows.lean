/-
  No cell of these rows narrows 'for every input' (looked for: loops, veiled, ifaces, maps, wideKeys, modest, calm, conditions, laid).
  DERIVED. THE GIVEN ROWS OF THIS SEAT. 7 by the template 'for every input the law returns true; each argument reads behind the call as it read before'; 0 by the template 'total and deterministic' (their statements: YticbdgmcofjkeaaGreatTotals.lean).
  GIVEN WITH THE SEED: the statements are not yours to turn. If you find one false, say at which input.
  Laid BY PROGRAM, IN A SANDBOX (cutbox-rows.mjs): the forced cells as the released guide's own fill.sh prints them over the translation b76a8ecd89f5b930… (all of the seat's roots in one cut). By AI agents, Wed Nov 11 2026. No macro, syntax, notation, axiom, sorry.
-/
import Derived.Test.YticbdgmcofjkeaaGreatChecked
import GoSem.Claim
import GoSem.ClaimJoined
import GoSem.ClaimMapViews
import Derived.JoinedTies
import Derived.KernelRfl
namespace Go.Proofs.YticbdgmcofjkeaaGreat
/- THE CELL 'sum', in the pinned program and in every row, IS THE sha256 OF THE DUMP (.gsa) THAT YticbdgmcofjkeaaGreatProg.lean LOADS. Nothing in Lean hashes anything: it is a label: what it is worth is what the hold of that sum in a sandbox is worth. -/
noncomputable def Tryz.pinned : Pinned := { name := "yticbdgmcofjkeaagreat", sum := "b76a8ecd89f5b93052990e208dd3e327418888b031f7a71a681b59e31363ab9d", checked := Tryz.checked }
namespace Rows
def none {H : Type} : Left H := { results := [], args := [] }

/-- 'plexuslaw35.FlipMatchesReference': WHATEVER THE INPUT: true; the input reads as it did. -/
def flipMatchesReferenceSpec : ChangeSpec := { name := "flipMatchesReference", fn := fun _ => fun
  | [d1, d2, d3] => { results := [.lit (.bool true)], args := [d1, d2, d3] }
  | _ => none }
def flipMatchesReferenceRow : OpenClaim := { program := "yticbdgmcofjkeaagreat", sum := "b76a8ecd89f5b93052990e208dd3e327418888b031f7a71a681b59e31363ab9d", func := "plexus/plexuslaw35.FlipMatchesReference", spec := "flipMatchesReference", unfollowed := true, recurses := true, apart := false }
def FlipMatchesReferenceSaid : Prop := flipMatchesReferenceRow.holds Tryz.pinned (OpenSpec.ofChange flipMatchesReferenceSpec)

/-- ITS FALSE NEIGHBOUR: 'it returns false'. Refute it at one input. -/
def flipMatchesReferenceWrong : ChangeSpec := { name := "flipMatchesReference", fn := fun _ => fun
  | [d1, d2, d3] => { results := [.lit (.bool false)], args := [d1, d2, d3] }
  | _ => none }
def FlipMatchesReferenceWrongFalsely : Prop := flipMatchesReferenceRow.holds Tryz.pinned (OpenSpec.ofChange flipMatchesReferenceWrong)

/-- 'plexuslaw35.FlipResumes': WHATEVER THE INPUT: true; the input reads as it did. -/
def flipResumesSpec : ChangeSpec := { name := "flipResumes", fn := fun _ => fun
  | [d1, d2, d3] => { results := [.lit (.bool true)], args := [d1, d2, d3] }
  | _ => none }
def flipResumesRow : OpenClaim := { program := "yticbdgmcofjkeaagreat", sum := "b76a8ecd89f5b93052990e208dd3e327418888b031f7a71a681b59e31363ab9d", func := "plexus/plexuslaw35.FlipResumes", spec := "flipResumes", unfollowed := true, recurses := true, apart := false }
def FlipResumesSaid : Prop := flipResumesRow.holds Tryz.pinned (OpenSpec.ofChange flipResumesSpec)

/-- ITS FALSE NEIGHBOUR: 'it returns false'. Refute it at one input. -/
def flipResumesWrong : ChangeSpec := { name := "flipResumes", fn := fun _ => fun
  | [d1, d2, d3] => { results := [.lit (.bool false)], args := [d1, d2, d3] }
  | _ => none }
def FlipResumesWrongFalsely : Prop := flipResumesRow.holds Tryz.pinned (OpenSpec.ofChange flipResumesWrong)

/-- 'plexuslaw35.FlipMoves': WHATEVER THE INPUT: true; the input reads as it did. -/
def flipMovesSpec : ChangeSpec := { name := "flipMoves", fn := fun _ => fun
  | [d1, d2, d3] => { results := [.lit (.bool true)], args := [d1, d2, d3] }
  | _ => none }
def flipMovesRow : OpenClaim := { program := "yticbdgmcofjkeaagreat", sum := "b76a8ecd89f5b93052990e208dd3e327418888b031f7a71a681b59e31363ab9d", func := "plexus/plexuslaw35.FlipMoves", spec := "flipMoves", unfollowed := true, recurses := true, apart := false }
def FlipMovesSaid : Prop := flipMovesRow.holds Tryz.pinned (OpenSpec.ofChange flipMovesSpec)

/-- ITS FALSE NEIGHBOUR: 'it returns false'. Refute it at one input. -/
def flipMovesWrong : ChangeSpec := { name := "flipMoves", fn := fun _ => fun
  | [d1, d2, d3] => { results := [.lit (.bool false)], args := [d1, d2, d3] }
  | _ => none }
def FlipMovesWrongFalsely : Prop := flipMovesRow.holds Tryz.pinned (OpenSpec.ofChange flipMovesWrong)

/-- 'plexuslaw35.FlipRests': WHATEVER THE INPUT: true; the input reads as it did. -/
def flipRestsSpec : ChangeSpec := { name := "flipRests", fn := fun _ => fun
  | [d1, d2, d3] => { results := [.lit (.bool true)], args := [d1, d2, d3] }
  | _ => none }
def flipRestsRow : OpenClaim := { program := "yticbdgmcofjkeaagreat", sum := "b76a8ecd89f5b93052990e208dd3e327418888b031f7a71a681b59e31363ab9d", func := "plexus/plexuslaw35.FlipRests", spec := "flipRests", unfollowed := true, recurses := true, apart := false }
def FlipRestsSaid : Prop := flipRestsRow.holds Tryz.pinned (OpenSpec.ofChange flipRestsSpec)

/-- ITS FALSE NEIGHBOUR: 'it returns false'. Refute it at one input. -/
def flipRestsWrong : ChangeSpec := { name := "flipRests", fn := fun _ => fun
  | [d1, d2, d3] => { results := [.lit (.bool false)], args := [d1, d2, d3] }
  | _ => none }
def FlipRestsWrongFalsely : Prop := flipRestsRow.holds Tryz.pinned (OpenSpec.ofChange flipRestsWrong)

/-- 'plexuslaw35.FlipOne': WHATEVER THE INPUT: true; the input reads as it did. -/
def flipOneSpec : ChangeSpec := { name := "flipOne", fn := fun _ => fun
  | [d1, d2, d3] => { results := [.lit (.bool true)], args := [d1, d2, d3] }
  | _ => none }
def flipOneRow : OpenClaim := { program := "yticbdgmcofjkeaagreat", sum := "b76a8ecd89f5b93052990e208dd3e327418888b031f7a71a681b59e31363ab9d", func := "plexus/plexuslaw35.FlipOne", spec := "flipOne", unfollowed := true, recurses := true, apart := false }
def FlipOneSaid : Prop := flipOneRow.holds Tryz.pinned (OpenSpec.ofChange flipOneSpec)

/-- ITS FALSE NEIGHBOUR: 'it returns false'. Refute it at one input. -/
def flipOneWrong : ChangeSpec := { name := "flipOne", fn := fun _ => fun
  | [d1, d2, d3] => { results := [.lit (.bool false)], args := [d1, d2, d3] }
  | _ => none }
def FlipOneWrongFalsely : Prop := flipOneRow.holds Tryz.pinned (OpenSpec.ofChange flipOneWrong)

/-- 'plexuslaw35.FlipHonest': WHATEVER THE INPUT: true; the input reads as it did. -/
def flipHonestSpec : ChangeSpec := { name := "flipHonest", fn := fun _ => fun
  | [d1, d2, d3] => { results := [.lit (.bool true)], args := [d1, d2, d3] }
  | _ => none }
def flipHonestRow : OpenClaim := { program := "yticbdgmcofjkeaagreat", sum := "b76a8ecd89f5b93052990e208dd3e327418888b031f7a71a681b59e31363ab9d", func := "plexus/plexuslaw35.FlipHonest", spec := "flipHonest", unfollowed := true, recurses := true, apart := false }
def FlipHonestSaid : Prop := flipHonestRow.holds Tryz.pinned (OpenSpec.ofChange flipHonestSpec)

/-- ITS FALSE NEIGHBOUR: 'it returns false'. Refute it at one input. -/
def flipHonestWrong : ChangeSpec := { name := "flipHonest", fn := fun _ => fun
  | [d1, d2, d3] => { results := [.lit (.bool false)], args := [d1, d2, d3] }
  | _ => none }
def FlipHonestWrongFalsely : Prop := flipHonestRow.holds Tryz.pinned (OpenSpec.ofChange flipHonestWrong)

/-- 'plexuslaw33.AlgebraicMatchesReference': WHATEVER THE INPUT: true; the input reads as it did. -/
def algebraicMatchesReferenceSpec : ChangeSpec := { name := "algebraicMatchesReference", fn := fun _ => fun
  | [d1, d2] => { results := [.lit (.bool true)], args := [d1, d2] }
  | _ => none }
def algebraicMatchesReferenceRow : OpenClaim := { program := "yticbdgmcofjkeaagreat", sum := "b76a8ecd89f5b93052990e208dd3e327418888b031f7a71a681b59e31363ab9d", func := "plexus/plexuslaw33.AlgebraicMatchesReference", spec := "algebraicMatchesReference", unfollowed := true, recurses := true, apart := false }
def AlgebraicMatchesReferenceSaid : Prop := algebraicMatchesReferenceRow.holds Tryz.pinned (OpenSpec.ofChange algebraicMatchesReferenceSpec)

/-- ITS FALSE NEIGHBOUR: 'it returns false'. Refute it at one input. -/
def algebraicMatchesReferenceWrong : ChangeSpec := { name := "algebraicMatchesReference", fn := fun _ => fun
  | [d1, d2] => { results := [.lit (.bool false)], args := [d1, d2] }
  | _ => none }
def AlgebraicMatchesReferenceWrongFalsely : Prop := algebraicMatchesReferenceRow.holds Tryz.pinned (OpenSpec.ofChange algebraicMatchesReferenceWrong)

/- THE SECOND FORM. 'bulk': how many values and letters a reading holds, each counted each time it is reached (what is shared counts as often as it is met; a slice's spare places count too). A statement '..UptoSaid' is the law's where the arguments, and the package variables that the reading takes, are together of bulk at most 1048576: NARROWER than '..Said'. Prove '..Said' where nothing that the law and all that it calls make is longer than what came in: it says more and counts as full. Else prove '..UptoSaid'. A law counts once. -/
mutual
def uptoBulk {H : Type} : DataW H → Nat
  | .lit (.string bytes) => bytes.length + 1
  | .lit _ => 1
  | .nil => 1
  | .ptr d => uptoBulk d + 1
  | .slice elems spare => uptoBulkAll elems + uptoBulkAll spare + 1
  | .agg parts => uptoBulkAll parts + 1
  | .iface _ d => uptoBulk d + 1
  | .map entries => uptoBulkEntries entries + 1
  | .held _ => 1
def uptoBulkAll {H : Type} : List (DataW H) → Nat
  | [] => 0
  | d :: r => uptoBulk d + uptoBulkAll r
def uptoBulkEntries {H : Type} : List (Lit × DataW H) → Nat
  | [] => 0
  | x :: r => uptoBulkEntry x + uptoBulkEntries r
def uptoBulkEntry {H : Type} : Lit × DataW H → Nat
  | (.string bytes, d) => bytes.length + uptoBulk d + 1
  | (_, d) => uptoBulk d + 1
 end
def uptoSmall : (H : Type) → List (DataW H) → Bool := fun _ ds => decide (uptoBulkAll ds ≤ 1048576)
def OpenSpec.upto (s : _root_.Go.ChangeSpec) : _root_.Go.OpenSpec := { _root_.Go.OpenSpec.ofChange s with cond := some uptoSmall }

/-- 'plexuslaw35.FlipMatchesReference', WHERE WHAT IT READS IS OF BULK AT MOST 1048576: true; the input reads as it did. -/
def flipMatchesReferenceUptoRow : OpenClaim := { program := "yticbdgmcofjkeaagreat", sum := "b76a8ecd89f5b93052990e208dd3e327418888b031f7a71a681b59e31363ab9d", func := "plexus/plexuslaw35.FlipMatchesReference", spec := "flipMatchesReference", unfollowed := true, recurses := true, apart := false, narrowed := true }
def FlipMatchesReferenceUptoSaid : Prop := flipMatchesReferenceUptoRow.holds Tryz.pinned (OpenSpec.upto flipMatchesReferenceSpec)

/-- 'plexuslaw35.FlipResumes', WHERE WHAT IT READS IS OF BULK AT MOST 1048576: true; the input reads as it did. -/
def flipResumesUptoRow : OpenClaim := { program := "yticbdgmcofjkeaagreat", sum := "b76a8ecd89f5b93052990e208dd3e327418888b031f7a71a681b59e31363ab9d", func := "plexus/plexuslaw35.FlipResumes", spec := "flipResumes", unfollowed := true, recurses := true, apart := false, narrowed := true }
def FlipResumesUptoSaid : Prop := flipResumesUptoRow.holds Tryz.pinned (OpenSpec.upto flipResumesSpec)

/-- 'plexuslaw35.FlipMoves', WHERE WHAT IT READS IS OF BULK AT MOST 1048576: true; the input reads as it did. -/
def flipMovesUptoRow : OpenClaim := { program := "yticbdgmcofjkeaagreat", sum := "b76a8ecd89f5b93052990e208dd3e327418888b031f7a71a681b59e31363ab9d", func := "plexus/plexuslaw35.FlipMoves", spec := "flipMoves", unfollowed := true, recurses := true, apart := false, narrowed := true }
def FlipMovesUptoSaid : Prop := flipMovesUptoRow.holds Tryz.pinned (OpenSpec.upto flipMovesSpec)

/-- 'plexuslaw35.FlipRests', WHERE WHAT IT READS IS OF BULK AT MOST 1048576: true; the input reads as it did. -/
def flipRestsUptoRow : OpenClaim := { program := "yticbdgmcofjkeaagreat", sum := "b76a8ecd89f5b93052990e208dd3e327418888b031f7a71a681b59e31363ab9d", func := "plexus/plexuslaw35.FlipRests", spec := "flipRests", unfollowed := true, recurses := true, apart := false, narrowed := true }
def FlipRestsUptoSaid : Prop := flipRestsUptoRow.holds Tryz.pinned (OpenSpec.upto flipRestsSpec)

/-- 'plexuslaw35.FlipOne', WHERE WHAT IT READS IS OF BULK AT MOST 1048576: true; the input reads as it did. -/
def flipOneUptoRow : OpenClaim := { program := "yticbdgmcofjkeaagreat", sum := "b76a8ecd89f5b93052990e208dd3e327418888b031f7a71a681b59e31363ab9d", func := "plexus/plexuslaw35.FlipOne", spec := "flipOne", unfollowed := true, recurses := true, apart := false, narrowed := true }
def FlipOneUptoSaid : Prop := flipOneUptoRow.holds Tryz.pinned (OpenSpec.upto flipOneSpec)

/-- 'plexuslaw35.FlipHonest', WHERE WHAT IT READS IS OF BULK AT MOST 1048576: true; the input reads as it did. -/
def flipHonestUptoRow : OpenClaim := { program := "yticbdgmcofjkeaagreat", sum := "b76a8ecd89f5b93052990e208dd3e327418888b031f7a71a681b59e31363ab9d", func := "plexus/plexuslaw35.FlipHonest", spec := "flipHonest", unfollowed := true, recurses := true, apart := false, narrowed := true }
def FlipHonestUptoSaid : Prop := flipHonestUptoRow.holds Tryz.pinned (OpenSpec.upto flipHonestSpec)

/-- 'plexuslaw33.AlgebraicMatchesReference', WHERE WHAT IT READS IS OF BULK AT MOST 1048576: true; the input reads as it did. -/
def algebraicMatchesReferenceUptoRow : OpenClaim := { program := "yticbdgmcofjkeaagreat", sum := "b76a8ecd89f5b93052990e208dd3e327418888b031f7a71a681b59e31363ab9d", func := "plexus/plexuslaw33.AlgebraicMatchesReference", spec := "algebraicMatchesReference", unfollowed := true, recurses := true, apart := false, narrowed := true }
def AlgebraicMatchesReferenceUptoSaid : Prop := algebraicMatchesReferenceUptoRow.holds Tryz.pinned (OpenSpec.upto algebraicMatchesReferenceSpec)

end Rows
end Go.Proofs.YticbdgmcofjkeaaGreat
