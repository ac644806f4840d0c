/- What the row of the law FnExactFolded asks of the program. Conditions: none. -/

import Derived.Test.YtphaibffjdfhpaaGreatRows
import Derived.WalkKit
import Derived.ProofKit
import Derived.SizedLaws
import Derived.JoinedOf
namespace Go.Proofs.YtphaibffjdfhpaaGreat.fnExactFolded
open Go Go.Proofs.YtphaibffjdfhpaaGreat
set_option maxRecDepth 100000
theorem closed : joinedFacts Tryz.pinned.checked.prog 7 Tryz.f7 Rows.fnExactFoldedSpec Rows.fnExactFoldedRow = true := by kernel_rfl
theorem named : Tryz.pinned.checked.prog.funcNamed Rows.fnExactFoldedRow.func = some 7 := by kernel_rfl
theorem inst : Tryz.f7.isInstance Tryz.pinned.checked.prog Rows.fnExactFoldedRow.origin Rows.fnExactFoldedRow.targs := of_decide_eq_true (by kernel_rfl)
theorem wrap : Tryz.f7.isWrapper Tryz.pinned.checked.prog Rows.fnExactFoldedRow.wrapper Rows.fnExactFoldedRow.mainSum := by unfold Func.isWrapper; first | (rw [if_pos (by decide +kernel)]; kernel_rfl) | (rw [if_neg (by decide +kernel)]; exact ⟨rfl, rfl⟩)
end Go.Proofs.YtphaibffjdfhpaaGreat.fnExactFolded
