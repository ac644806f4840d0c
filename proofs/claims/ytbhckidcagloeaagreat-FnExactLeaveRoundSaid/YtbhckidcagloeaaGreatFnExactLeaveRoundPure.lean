/- What the law FnExactLeaveRound computes is true for all data: the program and the reference compute the same. Conditions: none. -/
import Derived.Test.YtbhckidcagloeaaGreatLrH
import Derived.Test.YtbhckidcagloeaaGreatLrM
import Derived.Test.YtbhckidcagloeaaGreatLrU1
namespace Go.Proofs.YtbhckidcagloeaaGreat
open Go Go.Tm
set_option linter.unusedVariables false
set_option maxRecDepth 100000
theorem fnExactLeaveRound_pure : ∀ x, OkG i3 x → F3 x = some ((true, ()), ()) := by
  rintro ⟨a0, _⟩ ⟨h0, _⟩
  unfold F3
  refine sz_step (w4 a0 h0 _ (by decide : (0:Int) ≤ 1048576) (by decide : (1048576:Int) ≤ big)) (fun q0 => ?_) rfl
  have hw0 : ((.cons .str (.cons (.int .i64) (.cons (.int .i64) (.cons (.sl e191) (.cons (.sl e127) (.cons (.sl e130) (.cons (.int .i64) (.cons (.int .i64) (.cons (.int .i64) (.cons (.int .i64) (.cons (.sl e9) (.cons (.int .i64) (.cons (.sl e9) (.cons (.sl e3) (.cons (.int .i64) (.cons (.sl e132) (.cons (.sl e134) (.cons (.sl e3) (.cons (.sl e137) (.cons (.sl e140) .nil)))))))))))))))))))) : Tys).w a0 ≤ 1048576 := by omega
  refine pos_else (by first | omega | (dsimp only [I1]; omega)) ?_
  refine bind_eq (t6 a0 hw0) ?_
  obtain ⟨R, fs, fi, ho0, hb0, ho1, hb1, ho2, hb2⟩ := L_LeaveRound a0 h0 hw0
  refine bind_eq fs ?_
  refine bind_eq (t6 a0 hw0) ?_
  refine bind_eq fi ?_
  refine eq_call (s8 _ ho0) ?_
  refine eq_call (s9 _ ho1) ?_
  refine eq_call (s10 _ ho2) ?_
  refine bind_eq (t6 a0 hw0) ?_
  refine eq_call (s8 _ h0) ?_
  obtain ⟨k1, x1, m1, l1, e1, g1⟩ := mh11 a0 1 (by decide) (by omega) h0 (Nat.le_trans hw0 (by decide))
  refine bind_eq m1 ?_
  refine pos_else (by first | omega | (dsimp only [I1]; omega)) ?_
  refine eq_call (s8 _ ho0) ?_
  refine eq_call (s9 _ ho1) ?_
  refine eq_call (s10 _ ho2) ?_
  obtain ⟨k2, x2, m2, l2, e2, g2⟩ := mh11 R.1 1 (by decide) (by omega) ho0 hb0
  refine bind_eq m2 ?_
  obtain ⟨k3, x3, m3, l3, e3, g3⟩ := mh12 R.2.1 k2 e2 (by omega) ho1.1 (w_hd hb1)
  refine bind_eq m3 ?_
  obtain ⟨k4, x4, m4, l4, e4, g4⟩ := mh13 R.2.2.1 k3 e3 (by omega) ho2.1 (w_hd hb2)
  refine bind_eq m4 ?_
  refine bind_eq l2 ?_
  refine pos_else (by first | omega | (dsimp only [I1]; omega)) ?_
  refine bind_eq l3 ?_
  refine pos_else (by first | omega | (dsimp only [I1]; omega)) ?_
  refine bind_eq l4 ?_
  refine pos_else (by first | omega | (dsimp only [I1]; omega)) ?_
  refine same_else rfl ?_
  refine bind_eq (t6 a0 hw0) ?_
  refine bind_eq fi ?_
  refine eq_call (s8 _ ho0) ?_
  refine eq_call (s9 _ ho1) ?_
  refine eq_call (s10 _ ho2) ?_
  refine bind_eq l2 ?_
  refine pos_else (by first | omega | (dsimp only [I1]; omega)) ?_
  refine bind_eq l3 ?_
  refine pos_else (by first | omega | (dsimp only [I1]; omega)) ?_
  refine bind_eq l4 ?_
  refine pos_else (by first | omega | (dsimp only [I1]; omega)) ?_
  refine same_else rfl ?_
  rfl
end Go.Proofs.YtbhckidcagloeaaGreat
