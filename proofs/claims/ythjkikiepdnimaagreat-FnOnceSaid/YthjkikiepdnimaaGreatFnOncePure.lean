/- No honest node of a drawn world signs two votes in a round, and who signed is honest: what the law computes is true for all data. Conditions: none. -/
import Derived.Test.YthjkikiepdnimaaGreatOnU2
import Derived.Test.YthjkikiepdnimaaGreatTm4
namespace Go.Proofs.YthjkikiepdnimaaGreat
open Go Go.Tm
theorem fnOnce_pure : ∀ x, OkG i4 x → F4 x = some ((true, ()), ()) := fun x _ => L_Once x.1.1
end Go.Proofs.YthjkikiepdnimaaGreat
