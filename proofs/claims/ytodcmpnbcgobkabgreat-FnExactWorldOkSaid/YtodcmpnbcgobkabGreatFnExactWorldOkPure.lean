/- What the law FnExactWorldOk computes is true for all data: the program and the reference compute the same. Conditions: none. -/
import Derived.Test.YtodcmpnbcgobkabGreatWoH
import Derived.Test.YtodcmpnbcgobkabGreatWoU1
namespace Go.Proofs.YtodcmpnbcgobkabGreat
open Go Go.Tm
set_option linter.unusedVariables false
set_option maxRecDepth 100000
theorem fnExactWorldOk_pure : ∀ x, OkG i3 x → F3 x = some ((true, ()), ()) := by
  rintro ⟨a0, _⟩ ⟨h0, _⟩
  unfold F3
  refine sz_step (w4 a0 h0 _ (by decide : (0:Int) ≤ 1048576) (by decide : (1048576:Int) ≤ big)) (fun q0 => ?_) rfl
  have hw0 : ((.cons (.int .i64) (.cons (.sl e150) (.cons (.sl e9) (.cons (.sl e104) (.cons (.sl e107) (.cons (.sl e110) (.cons (.sl e115) .nil))))))) : Tys).w a0 ≤ 1048576 := by omega
  refine pos_else (by first | omega | (dsimp only [I1]; omega)) ?_
  refine bind_eq (t6 a0 hw0) ?_
  obtain ⟨R, fs, fi, ho0, hb0⟩ := L_WorldOk a0 h0 hw0
  refine bind_eq fs ?_
  refine bind_eq (t6 a0 hw0) ?_
  refine bind_eq fi ?_
  refine eq_bool ?_
  refine bind_eq (t6 a0 hw0) ?_
  refine eq_call (s8 _ h0) ?_
  rfl
end Go.Proofs.YtodcmpnbcgobkabGreat
