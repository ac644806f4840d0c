/- Two nodes of a drawn world that both ended an epoch have proofs from which the same ones vote in the next: what the law computes is true for all data. Conditions: none. -/
import Derived.Test.YthjkikiepdnimaaGreatSzU4
import Derived.Test.YthjkikiepdnimaaGreatSzTm3
namespace Go.Proofs.YthjkikiepdnimaaGreat
open Go Go.Tm
theorem fnSameProofs_pure : ∀ x, OkG i6 x → F6 x = some ((true, ()), ()) := fun x _ => L_Same x.1.1
end Go.Proofs.YthjkikiepdnimaaGreat
