/- What the row of the law FnSameProofs asks of the program. Conditions: none. -/

import Derived.Test.YthjkikiepdnimaaGreatRows
import Derived.WalkKit
import Derived.ProofKit
import Derived.SizedLaws
import Derived.JoinedOf
namespace Go.Proofs.YthjkikiepdnimaaGreat.fnSameProofs
open Go Go.Proofs.YthjkikiepdnimaaGreat
set_option maxRecDepth 100000
theorem closed : joinedFacts Tryz.pinned.checked.prog 6 Tryz.f6 Rows.fnSameProofsSpec Rows.fnSameProofsRow = true := by kernel_rfl
theorem named : Tryz.pinned.checked.prog.funcNamed Rows.fnSameProofsRow.func = some 6 := by kernel_rfl
theorem inst : Tryz.f6.isInstance Tryz.pinned.checked.prog Rows.fnSameProofsRow.origin Rows.fnSameProofsRow.targs := of_decide_eq_true (by kernel_rfl)
theorem wrap : Tryz.f6.isWrapper Tryz.pinned.checked.prog Rows.fnSameProofsRow.wrapper Rows.fnSameProofsRow.mainSum := by unfold Func.isWrapper; first | (rw [if_pos (by decide +kernel)]; kernel_rfl) | (rw [if_neg (by decide +kernel)]; exact ⟨rfl, rfl⟩)
end Go.Proofs.YthjkikiepdnimaaGreat.fnSameProofs
