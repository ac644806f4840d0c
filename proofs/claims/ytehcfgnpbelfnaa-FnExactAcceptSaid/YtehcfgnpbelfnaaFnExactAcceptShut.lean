/- What the row of the law FnExactAccept asks of the program. Conditions: none. -/

import Derived.Test.YtehcfgnpbelfnaaRows
import Derived.WalkKit
import Derived.ProofKit
import Derived.SizedLaws
import Derived.JoinedOf
namespace Go.Proofs.Ytehcfgnpbelfnaa.fnExactAccept
open Go Go.Proofs.Ytehcfgnpbelfnaa
set_option maxRecDepth 100000
theorem closed : joinedFacts Try.pinned.checked.prog 4 Try.f4 Rows.fnExactAcceptSpec Rows.fnExactAcceptRow = true := by kernel_rfl
theorem named : Try.pinned.checked.prog.funcNamed Rows.fnExactAcceptRow.func = some 4 := by kernel_rfl
theorem inst : Try.f4.isInstance Try.pinned.checked.prog Rows.fnExactAcceptRow.origin Rows.fnExactAcceptRow.targs := of_decide_eq_true (by kernel_rfl)
theorem wrap : Try.f4.isWrapper Try.pinned.checked.prog Rows.fnExactAcceptRow.wrapper Rows.fnExactAcceptRow.mainSum := by unfold Func.isWrapper; first | (rw [if_pos (by decide +kernel)]; kernel_rfl) | (rw [if_neg (by decide +kernel)]; exact ⟨rfl, rfl⟩)
end Go.Proofs.Ytehcfgnpbelfnaa.fnExactAccept
