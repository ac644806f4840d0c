/- What the row of the law FnFollowed asks of the program. Conditions: none. -/

import Derived.Test.YthjkikiepdnimaaGreatRows
import Derived.WalkKit
import Derived.ProofKit
import Derived.SizedLaws
import Derived.JoinedOf
namespace Go.Proofs.YthjkikiepdnimaaGreat.fnFollowed
open Go Go.Proofs.YthjkikiepdnimaaGreat
set_option maxRecDepth 100000
theorem closed : joinedFacts Tryz.pinned.checked.prog 5 Tryz.f5 Rows.fnFollowedSpec Rows.fnFollowedRow = true := by kernel_rfl
theorem named : Tryz.pinned.checked.prog.funcNamed Rows.fnFollowedRow.func = some 5 := by kernel_rfl
theorem inst : Tryz.f5.isInstance Tryz.pinned.checked.prog Rows.fnFollowedRow.origin Rows.fnFollowedRow.targs := of_decide_eq_true (by kernel_rfl)
theorem wrap : Tryz.f5.isWrapper Tryz.pinned.checked.prog Rows.fnFollowedRow.wrapper Rows.fnFollowedRow.mainSum := by unfold Func.isWrapper; first | (rw [if_pos (by decide +kernel)]; kernel_rfl) | (rw [if_neg (by decide +kernel)]; exact ⟨rfl, rfl⟩)
end Go.Proofs.YthjkikiepdnimaaGreat.fnFollowed
