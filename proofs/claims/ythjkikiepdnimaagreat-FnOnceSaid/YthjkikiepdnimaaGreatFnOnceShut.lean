/- What the row of the law FnOnce asks of the program. Conditions: none. -/

import Derived.Test.YthjkikiepdnimaaGreatRows
import Derived.WalkKit
import Derived.ProofKit
import Derived.SizedLaws
import Derived.JoinedOf
namespace Go.Proofs.YthjkikiepdnimaaGreat.fnOnce
open Go Go.Proofs.YthjkikiepdnimaaGreat
set_option maxRecDepth 100000
theorem closed : joinedFacts Tryz.pinned.checked.prog 4 Tryz.f4 Rows.fnOnceSpec Rows.fnOnceRow = true := by kernel_rfl
theorem named : Tryz.pinned.checked.prog.funcNamed Rows.fnOnceRow.func = some 4 := by kernel_rfl
theorem inst : Tryz.f4.isInstance Tryz.pinned.checked.prog Rows.fnOnceRow.origin Rows.fnOnceRow.targs := of_decide_eq_true (by kernel_rfl)
theorem wrap : Tryz.f4.isWrapper Tryz.pinned.checked.prog Rows.fnOnceRow.wrapper Rows.fnOnceRow.mainSum := by unfold Func.isWrapper; first | (rw [if_pos (by decide +kernel)]; kernel_rfl) | (rw [if_neg (by decide +kernel)]; exact ⟨rfl, rfl⟩)
end Go.Proofs.YthjkikiepdnimaaGreat.fnOnce
