/- What the law FnExactWorldNew computes is true for all data: the program and the reference compute the same. Conditions: none. -/
import Derived.Test.YtphaibffjdfhpaaGreatDU1
import Derived.Test.YtphaibffjdfhpaaGreatDM
namespace Go.Proofs.YtphaibffjdfhpaaGreat
open Go Go.Tm
set_option linter.unusedVariables false
set_option maxRecDepth 100000
theorem fnExactWorldNew_pure : ∀ x, OkG i5 x → F5 x = some ((true, ()), ()) := by
  rintro ⟨a0, ⟨a1, _⟩⟩ ⟨h0, ⟨h1, _⟩⟩
  unfold F5
  refine sz_step (w22 a0 h0 _ (by decide : (0:Int) ≤ 1048576) (by decide : (1048576:Int) ≤ big)) (fun q0 => ?_) rfl
  have hw0 : ((.cons (.int .i64) (.cons (.sl e225) .nil)) : Tys).w a0 ≤ 1048576 := by omega
  refine pos_else (by first | omega | (dsimp only [I1]; omega)) ?_
  refine sz_step (w23 a1 h1 _ (by omega) (by unfold big; omega)) (fun q1 => ?_) rfl
  have hw1 : ((.cons (.sl e9) .nil) : Tys).w a1 ≤ 1048576 := by omega
  refine pos_else (by first | omega | (dsimp only [I1]; omega)) ?_
  refine bind_eq (t25 a0 hw0) ?_
  refine bind_eq (t26 a1 hw1) ?_
  obtain ⟨R, fs, fi, ho0, hb0⟩ := L_WorldNew a0 h0 hw0 a1 h1 hw1
  refine bind_eq fs ?_
  refine bind_eq (t25 a0 hw0) ?_
  refine bind_eq (t26 a1 hw1) ?_
  refine bind_eq fi ?_
  refine eq_call (s21 _ ho0) ?_
  refine bind_eq (t25 a0 hw0) ?_
  refine eq_call (s28 _ h0) ?_
  refine bind_eq (t26 a1 hw1) ?_
  refine eq_call (s29 _ h1) ?_
  obtain ⟨k1, x1, m1, l1, e1, g1⟩ := mh30 a0 1 (by decide) (by omega) h0 (Nat.le_trans hw0 (by decide))
  refine bind_eq m1 ?_
  obtain ⟨k2, x2, m2, l2, e2, g2⟩ := mh31 a1 k1 e1 (by omega) h1.1 (w_hd (Nat.le_trans hw1 (by decide)))
  refine bind_eq m2 ?_
  refine pos_else (by first | omega | (dsimp only [I1]; omega)) ?_
  refine eq_call (s21 _ ho0) ?_
  obtain ⟨k3, x3, m3, l3, e3, g3⟩ := mh32 R.1 1 (by decide) (by omega) ho0 hb0
  refine bind_eq m3 ?_
  refine bind_eq l3 ?_
  refine pos_else (by first | omega | (dsimp only [I1]; omega)) ?_
  refine same_else rfl ?_
  refine bind_eq (t25 a0 hw0) ?_
  refine bind_eq (t26 a1 hw1) ?_
  refine bind_eq fi ?_
  refine eq_call (s21 _ ho0) ?_
  refine bind_eq l3 ?_
  refine pos_else (by first | omega | (dsimp only [I1]; omega)) ?_
  refine same_else rfl ?_
  rfl
end Go.Proofs.YtphaibffjdfhpaaGreat
