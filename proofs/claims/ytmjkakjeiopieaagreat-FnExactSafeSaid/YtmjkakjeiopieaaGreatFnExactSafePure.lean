/- What the law FnExactSafe computes is true for all data: the program and the reference compute the same. Conditions: none. -/
import Derived.Test.YtmjkakjeiopieaaGreatSaH
import Derived.Test.YtmjkakjeiopieaaGreatSaU1
namespace Go.Proofs.YtmjkakjeiopieaaGreat
open Go Go.Tm
set_option linter.unusedVariables false
set_option maxRecDepth 100000
theorem fnExactSafe_pure : ∀ x, OkG i4 x → F4 x = some ((true, ()), ()) := by
  rintro ⟨a0, _⟩ ⟨h0, _⟩
  unfold F4
  refine sz_step (w5 a0 h0 _ (by decide : (0:Int) ≤ 1048576) (by decide : (1048576:Int) ≤ big)) (fun q0 => ?_) rfl
  have hw0 : ((.cons (.int .i64) (.cons (.sl e170) (.cons (.sl e9) (.cons (.sl e105) (.cons (.sl e108) (.cons (.sl e111) (.cons (.sl e118) .nil))))))) : Tys).w a0 ≤ 1048576 := by omega
  refine pos_else (by first | omega | (dsimp only [I1]; omega)) ?_
  refine bind_eq (t7 a0 hw0) ?_
  obtain ⟨R, fs, fi, ho0, hb0⟩ := L_Safe a0 h0 hw0
  refine bind_eq fs ?_
  refine bind_eq (t7 a0 hw0) ?_
  refine bind_eq fi ?_
  refine same_else rfl ?_
  refine bind_eq (t7 a0 hw0) ?_
  refine eq_call (s11 _ h0) ?_
  rfl
end Go.Proofs.YtmjkakjeiopieaaGreat
