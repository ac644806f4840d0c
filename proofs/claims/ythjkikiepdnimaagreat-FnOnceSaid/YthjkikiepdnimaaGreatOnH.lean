/- The laws' helpers: how much there is, copies, comparisons with itself. Conditions: none. -/
import Derived.Test.YthjkikiepdnimaaGreatTm4
import Derived.Test.YthjkikiepdnimaaGreatOnF
namespace Go.Proofs.YthjkikiepdnimaaGreat
open Go Go.Tm
set_option linter.unusedVariables false
set_option maxRecDepth 100000
end Go.Proofs.YthjkikiepdnimaaGreat
-- no more blanks than needed
