/- What the law FnExactSubmit computes is true for all data: the program and the reference compute the same. Conditions: none. -/
import Derived.Test.YtmfeejonafjehaaGreatSuH
import Derived.Test.YtmfeejonafjehaaGreatSuM
import Derived.Test.YtmfeejonafjehaaGreatSuU1
namespace Go.Proofs.YtmfeejonafjehaaGreat
open Go Go.Tm
set_option linter.unusedVariables false
set_option maxRecDepth 100000
theorem fnExactSubmit_pure : ∀ x, OkG i3 x → F3 x = some ((true, ()), ()) := by
  rintro ⟨a0, ⟨a1, _⟩⟩ ⟨h0, ⟨h1, _⟩⟩
  unfold F3
  refine sz_step (w4 a0 h0 _ (by decide : (0:Int) ≤ 1048576) (by decide : (1048576:Int) ≤ big)) (fun q0 => ?_) rfl
  have hw0 : ((.cons .str (.cons (.int .i64) (.cons (.int .i64) (.cons (.sl e173) (.cons (.sl e110) (.cons (.sl e113) (.cons (.int .i64) (.cons (.int .i64) (.cons (.int .i64) (.cons (.int .i64) (.cons (.sl e9) (.cons (.int .i64) (.cons (.sl e9) (.cons (.sl e3) (.cons (.int .i64) (.cons (.sl e117) (.cons (.sl e120) (.cons (.sl e3) (.cons (.sl e40) (.cons (.sl e123) .nil)))))))))))))))))))) : Tys).w a0 ≤ 1048576 := by omega
  refine pos_else (by first | omega | (dsimp only [I1]; omega)) ?_
  refine sz_step (w5 a1 h1 _ (by omega) (by unfold big; omega)) (fun q1 => ?_) rfl
  have hw1 : ((.cons (.int .i64) (.cons .str (.cons .str (.cons (.int .i64) (.cons (.int .i64) .nil))))) : Tys).w a1 ≤ 1048576 := by omega
  refine pos_else (by first | omega | (dsimp only [I1]; omega)) ?_
  refine bind_eq (t7 a0 hw0) ?_
  refine bind_eq (t8 a1 hw1) ?_
  obtain ⟨R, fs, fi, ho0, hb0, ho1, hb1⟩ := L_Submit a0 h0 hw0 a1 h1 hw1
  refine bind_eq fs ?_
  refine bind_eq (t7 a0 hw0) ?_
  refine bind_eq (t8 a1 hw1) ?_
  refine bind_eq fi ?_
  refine eq_call (s10 _ ho0) ?_
  refine eq_bool ?_
  refine bind_eq (t7 a0 hw0) ?_
  refine eq_call (s10 _ h0) ?_
  obtain ⟨k1, x1, m1, l1, e1, g1⟩ := mh11 a0 1 (by decide) (by omega) h0 (Nat.le_trans hw0 (by decide))
  refine bind_eq m1 ?_
  refine pos_else (by first | omega | (dsimp only [I1]; omega)) ?_
  refine eq_call (s10 _ ho0) ?_
  refine eq_bool ?_
  obtain ⟨k2, x2, m2, l2, e2, g2⟩ := mh11 R.1 1 (by decide) (by omega) ho0 hb0
  refine bind_eq m2 ?_
  refine bind_eq l2 ?_
  refine pos_else (by first | omega | (dsimp only [I1]; omega)) ?_
  refine same_else rfl ?_
  refine bind_eq (t7 a0 hw0) ?_
  refine bind_eq (t8 a1 hw1) ?_
  refine bind_eq fi ?_
  refine eq_call (s10 _ ho0) ?_
  refine eq_bool ?_
  refine bind_eq l2 ?_
  refine pos_else (by first | omega | (dsimp only [I1]; omega)) ?_
  refine same_else rfl ?_
  rfl
end Go.Proofs.YtmfeejonafjehaaGreat
