/- What the law FnExactFolded computes is true for all data: the program and the reference compute the same. Conditions: none. -/
import Derived.Test.YtphaibffjdfhpaaGreatFoH
import Derived.Test.YtphaibffjdfhpaaGreatFoU1
namespace Go.Proofs.YtphaibffjdfhpaaGreat
open Go Go.Tm
set_option linter.unusedVariables false
set_option maxRecDepth 100000
theorem fnExactFolded_pure : ∀ x, OkG i7 x → F7 x = some ((true, ()), ()) := by
  rintro ⟨a0, _⟩ ⟨h0, _⟩
  unfold F7
  refine sz_step (w17 a0 h0 _ (by decide : (0:Int) ≤ 1048576) (by decide : (1048576:Int) ≤ big)) (fun q0 => ?_) rfl
  have hw0 : ((.cons (.int .i64) (.cons (.sl e225) (.cons (.sl e9) (.cons (.sl e38) (.cons (.sl e173) (.cons (.sl e208) (.cons (.sl e211) .nil))))))) : Tys).w a0 ≤ 1048576 := by omega
  refine pos_else (by first | omega | (dsimp only [I1]; omega)) ?_
  refine bind_eq (t19 a0 hw0) ?_
  obtain ⟨R, fs, fi, ho0, hb0⟩ := L_Folded a0 h0 hw0
  refine bind_eq fs ?_
  refine bind_eq (t19 a0 hw0) ?_
  refine bind_eq fi ?_
  refine eq_bool ?_
  refine bind_eq (t19 a0 hw0) ?_
  refine eq_call (s21 _ h0) ?_
  rfl
end Go.Proofs.YtphaibffjdfhpaaGreat
