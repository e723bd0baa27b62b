/-
Part 5 of 7 of the texts for one claim: Xh.
-/
import Derived.Test.YticbdgmcofjkeaaKc4
set_option linter.unusedVariables false
set_option linter.unusedSimpArgs false
namespace Go.Proofs.Yticbdgmcofjkeaa.Ai
open Go Go.RowKit
noncomputable section
variable {τ:Type} (t:Nat) (nx ex:Nat→LS_→Option τ) (l:LS_) (k κ:Nat→LS_→Option τ)
end
end Go.Proofs.Yticbdgmcofjkeaa.Ai
