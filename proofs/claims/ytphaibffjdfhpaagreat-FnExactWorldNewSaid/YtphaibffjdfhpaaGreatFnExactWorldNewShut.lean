/- What the row of the law FnExactWorldNew asks of the program. Conditions: none. -/

import Derived.Test.YtphaibffjdfhpaaGreatRows
import Derived.WalkKit
import Derived.ProofKit
import Derived.SizedLaws
import Derived.JoinedOf
namespace Go.Proofs.YtphaibffjdfhpaaGreat.fnExactWorldNew
open Go Go.Proofs.YtphaibffjdfhpaaGreat
set_option maxRecDepth 100000
theorem closed : joinedFacts Tryz.pinned.checked.prog 5 Tryz.f5 Rows.fnExactWorldNewSpec Rows.fnExactWorldNewRow = true := by kernel_rfl
theorem named : Tryz.pinned.checked.prog.funcNamed Rows.fnExactWorldNewRow.func = some 5 := by kernel_rfl
theorem inst : Tryz.f5.isInstance Tryz.pinned.checked.prog Rows.fnExactWorldNewRow.origin Rows.fnExactWorldNewRow.targs := of_decide_eq_true (by kernel_rfl)
theorem wrap : Tryz.f5.isWrapper Tryz.pinned.checked.prog Rows.fnExactWorldNewRow.wrapper Rows.fnExactWorldNewRow.mainSum := by unfold Func.isWrapper; first | (rw [if_pos (by decide +kernel)]; kernel_rfl) | (rw [if_neg (by decide +kernel)]; exact ⟨rfl, rfl⟩)
end Go.Proofs.YtphaibffjdfhpaaGreat.fnExactWorldNew
