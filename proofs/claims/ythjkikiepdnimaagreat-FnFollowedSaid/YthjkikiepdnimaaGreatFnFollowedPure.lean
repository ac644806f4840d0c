/- One who only follows a drawn node's proofs comes to its epoch, and to who votes there: what the law computes is true for all data. Conditions: none. -/
import Derived.Test.YthjkikiepdnimaaGreatFzU4
import Derived.Test.YthjkikiepdnimaaGreatFzTm3
namespace Go.Proofs.YthjkikiepdnimaaGreat
open Go Go.Tm
theorem fnFollowed_pure : ∀ x, OkG i5 x → F5 x = some ((true, ()), ()) := fun x _ => L_Followed x.1.1
end Go.Proofs.YthjkikiepdnimaaGreat
