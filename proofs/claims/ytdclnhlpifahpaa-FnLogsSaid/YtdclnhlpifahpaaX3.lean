/- What functions of the law FnLogs come to, in trees; no condition. -/
import Derived.Test.YtdclnhlpifahpaaRows
import Derived.Test.YtdclnhlpifahpaaX2
set_option linter.unusedVariables false
set_option linter.constructorNameAsVariable false
set_option linter.unusedSimpArgs false
set_option linter.unnecessarySimpa false
namespace Go.Proofs.Ytdclnhlpifahpaa.T
open Go Go.Proofs.YtdclnhlpifahpaaV
set_option maxRecDepth 100000
noncomputable abbrev Cc (lf d : Nat) : Orc := orc X env lf 6 d
section
variable {lf : Nat}
end
end Go.Proofs.Ytdclnhlpifahpaa.T
