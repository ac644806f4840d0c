/- What the row of the law FnExactFollowAll asks of the program. Conditions: none. -/

import Derived.Test.YtphaibffjdfhpaaGreatRows
import Derived.WalkKit
import Derived.ProofKit
import Derived.SizedLaws
import Derived.JoinedOf
namespace Go.Proofs.YtphaibffjdfhpaaGreat.fnExactFollowAll
open Go Go.Proofs.YtphaibffjdfhpaaGreat
set_option maxRecDepth 100000
theorem closed : joinedFacts Tryz.pinned.checked.prog 6 Tryz.f6 Rows.fnExactFollowAllSpec Rows.fnExactFollowAllRow = true := by kernel_rfl
theorem named : Tryz.pinned.checked.prog.funcNamed Rows.fnExactFollowAllRow.func = some 6 := by kernel_rfl
theorem inst : Tryz.f6.isInstance Tryz.pinned.checked.prog Rows.fnExactFollowAllRow.origin Rows.fnExactFollowAllRow.targs := of_decide_eq_true (by kernel_rfl)
theorem wrap : Tryz.f6.isWrapper Tryz.pinned.checked.prog Rows.fnExactFollowAllRow.wrapper Rows.fnExactFollowAllRow.mainSum := by unfold Func.isWrapper; first | (rw [if_pos (by decide +kernel)]; kernel_rfl) | (rw [if_neg (by decide +kernel)]; exact ⟨rfl, rfl⟩)
end Go.Proofs.YtphaibffjdfhpaaGreat.fnExactFollowAll
