/- What functions of the law FnOpened come to, in trees; no condition. -/
import Derived.Test.YtjhocjbenmoeaaaRows
import Derived.Test.YtjhocjbenmoeaaaX1
set_option linter.unusedVariables false
set_option linter.constructorNameAsVariable false
set_option linter.unusedSimpArgs false
set_option linter.unnecessarySimpa false
namespace Go.Proofs.Ytjhocjbenmoeaaa.T
open Go Go.Proofs.YtjhocjbenmoeaaaV
set_option maxRecDepth 100000
noncomputable abbrev Cc (lf d : Nat) : Orc := orc X env lf 6 d
section
variable {lf : Nat}
end
end Go.Proofs.Ytjhocjbenmoeaaa.T
