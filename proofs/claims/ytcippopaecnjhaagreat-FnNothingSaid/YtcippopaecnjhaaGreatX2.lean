/- What functions of the law FnNothing come to, in trees; no condition. -/
import Derived.Test.YtcippopaecnjhaaGreatRows
import Derived.Test.YtcippopaecnjhaaGreatX1
set_option linter.unusedVariables false
set_option linter.constructorNameAsVariable false
set_option linter.unusedSimpArgs false
set_option linter.unnecessarySimpa false
namespace Go.Proofs.YtcippopaecnjhaaGreat.T
open Go Go.Proofs.YtcippopaecnjhaaGreatV
set_option maxRecDepth 100000
noncomputable abbrev Cc (lf d : Nat) : Orc := orc X env lf 6 d
section
variable {lf : Nat}
end
end Go.Proofs.YtcippopaecnjhaaGreat.T
