/- Whatever came over a drawn world, what is certain at two nodes is the same as far as it goes: what the law computes is true for all data. Conditions: none. -/
import Derived.Test.YthjkikiepdnimaaGreatTqU4
import Derived.Test.YthjkikiepdnimaaGreatTqTm3
namespace Go.Proofs.YthjkikiepdnimaaGreat
open Go Go.Tm
theorem fnTop_pure : ∀ x, OkG i3 x → F3 x = some ((true, ()), ()) := fun x _ => L_Top x.1.1
end Go.Proofs.YthjkikiepdnimaaGreat
