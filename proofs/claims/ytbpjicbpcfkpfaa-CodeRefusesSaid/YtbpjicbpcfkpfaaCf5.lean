/-
Part 5 of 8 of the texts for one claim: P22.
-/
import Derived.Test.YtbpjicbpcfkpfaaCf4
set_option linter.unusedVariables false
set_option linter.unusedSimpArgs false
namespace Go.Proofs.Ytbpjicbpcfkpfaa.Ai
open Go Ma
noncomputable section
end
end Go.Proofs.Ytbpjicbpcfkpfaa.Ai
