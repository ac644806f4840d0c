/- The laws' helpers: how much there is, copies, comparisons with itself. Conditions: none. -/
import Derived.Test.YthjkikiepdnimaaGreatSzTm3
import Derived.Test.YthjkikiepdnimaaGreatSzF
set_option linter.unusedVariables false
set_option linter.unusedSimpArgs false
set_option linter.constructorNameAsVariable false
namespace Go.Proofs.YthjkikiepdnimaaGreat
open Go Go.Tm
set_option maxRecDepth 100000
end Go.Proofs.YthjkikiepdnimaaGreat
