/- What the row of the law FnExactLeaveRound asks of the program. Conditions: none. -/

import Derived.Test.YtbhckidcagloeaaGreatRows
import Derived.WalkKit
import Derived.ProofKit
import Derived.SizedLaws
import Derived.JoinedOf
namespace Go.Proofs.YtbhckidcagloeaaGreat.fnExactLeaveRound
open Go Go.Proofs.YtbhckidcagloeaaGreat
set_option maxRecDepth 100000
theorem closed : joinedFacts Tryz.pinned.checked.prog 3 Tryz.f3 Rows.fnExactLeaveRoundSpec Rows.fnExactLeaveRoundRow = true := by kernel_rfl
theorem named : Tryz.pinned.checked.prog.funcNamed Rows.fnExactLeaveRoundRow.func = some 3 := by kernel_rfl
theorem inst : Tryz.f3.isInstance Tryz.pinned.checked.prog Rows.fnExactLeaveRoundRow.origin Rows.fnExactLeaveRoundRow.targs := of_decide_eq_true (by kernel_rfl)
theorem wrap : Tryz.f3.isWrapper Tryz.pinned.checked.prog Rows.fnExactLeaveRoundRow.wrapper Rows.fnExactLeaveRoundRow.mainSum := by unfold Func.isWrapper; first | (rw [if_pos (by decide +kernel)]; kernel_rfl) | (rw [if_neg (by decide +kernel)]; exact ⟨rfl, rfl⟩)
end Go.Proofs.YtbhckidcagloeaaGreat.fnExactLeaveRound
