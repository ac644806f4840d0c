/- The laws' helpers: how much there is, copies, comparisons with itself. Conditions: none. -/

import Derived.Test.YtphaibffjdfhpaaTm3
import Derived.Test.YtphaibffjdfhpaaAF
namespace Go.Proofs.Ytphaibffjdfhpaa
open Go Go.Tm
set_option linter.unusedVariables false
set_option maxRecDepth 100000
set_option maxHeartbeats 2000000 in
theorem w77 (x : (List (Tys.D e181) × Unit)) (hx : ((.cons (.sl e181) .nil) : Tys).Ok x) : Sz (((.cons (.sl e181) .nil) : Tys).w x) (fun l => F77 (x, ((l, ()), ()))) :=
  (Sz.str (a := List.length x.1) hx.1.1 Sz.nil).to (congrArg (fun z => List.length x.1 + z + 0) (sumW_zero (f := fun y => Tys.w e181 y) (fun _ => rfl) x.1)).symm
set_option maxHeartbeats 2000000 in
theorem w44 (x : (ByteArray × (Int × (Int × (Int × (List (Tys.D e181) × Unit)))))) (hx : ((.cons .str (.cons (.int .i64) (.cons (.int .i64) (.cons (.int .i64) (.cons (.sl e181) .nil))))) : Tys).Ok x) : Sz (((.cons .str (.cons (.int .i64) (.cons (.int .i64) (.cons (.int .i64) (.cons (.sl e181) .nil))))) : Tys).w x) (fun l => F44 (x, ((l, ()), ()))) :=
  (Sz.str (a := ByteArray.size x.1) hx.1 (Sz.int (Sz.int (Sz.int (Sz.call1 (w77 (x.2.2.2.2.1, ()) ⟨hx.2.2.2.2.1, trivial⟩) Sz.nil)))))
set_option maxHeartbeats 2000000 in
theorem w29 (x : (List (Tys.D e121) × Unit)) (hx : ((.cons (.sl e121) .nil) : Tys).Ok x) : Sz (((.cons (.sl e121) .nil) : Tys).w x) (fun l => F29 (x, ((l, ()), ()))) :=
  (Sz.list (xs := x.1) (T := fun y l => F44 (y, ((l, ()), ()))) (π := fun c => c.1.1) (wt := fun y => e121.w y) hx.1.1 (fun y hy => szR_T (x := y) (w44 y (Ok_mem hx.1.2 hy))))
set_option maxHeartbeats 2000000 in
theorem w9 (x : (Int × (List (Tys.D e121) × Unit))) (hx : ((.cons (.int .i64) (.cons (.sl e121) .nil)) : Tys).Ok x) : Sz (((.cons (.int .i64) (.cons (.sl e121) .nil)) : Tys).w x) (fun l => F9 (x, ((l, ()), ()))) :=
  (Sz.int (Sz.call1 (w29 (x.2.1, ()) ⟨hx.2.1, trivial⟩) Sz.nil))
set_option maxHeartbeats 2000000 in
theorem w10 (x : (List (Tys.D e9) × Unit)) (hx : ((.cons (.sl e9) .nil) : Tys).Ok x) : Sz (((.cons (.sl e9) .nil) : Tys).w x) (fun l => F10 (x, ((l, ()), ()))) :=
  (Sz.list (xs := x.1) (T := fun y l => some (iSub .i64 l (ByteArray.size y.1 : Int))) (π := fun c => c) (wt := fun y => ByteArray.size y.1) hx.1.1 (fun y hy => szR_S (Ok_mem hx.1.2 hy).1)).to rfl
set_option maxHeartbeats 2000000 in
theorem w78 (x : (ByteArray × (Int × Unit))) (hx : ((.cons .str (.cons (.int .i64) .nil)) : Tys).Ok x) : Sz (((.cons .str (.cons (.int .i64) .nil)) : Tys).w x) (fun l => F78 (x, ((l, ()), ()))) :=
  (Sz.str (a := ByteArray.size x.1) hx.1 (Sz.int Sz.nil))
set_option maxHeartbeats 2000000 in
theorem w45 (x : (List (Tys.D e159) × Unit)) (hx : ((.cons (.sl e159) .nil) : Tys).Ok x) : Sz (((.cons (.sl e159) .nil) : Tys).w x) (fun l => F45 (x, ((l, ()), ()))) :=
  (Sz.list (xs := x.1) (T := fun y l => F78 (y, ((l, ()), ()))) (π := fun c => c.1.1) (wt := fun y => e159.w y) hx.1.1 (fun y hy => szR_T (x := y) (w78 y (Ok_mem hx.1.2 hy))))
set_option maxHeartbeats 2000000 in
theorem w46 (x : (Int × (Int × (List (Tys.D e9) × Unit)))) (hx : ((.cons (.int .i64) (.cons (.int .i64) (.cons (.sl e9) .nil))) : Tys).Ok x) : Sz (((.cons (.int .i64) (.cons (.int .i64) (.cons (.sl e9) .nil))) : Tys).w x) (fun l => F46 (x, ((l, ()), ()))) :=
  (Sz.int (Sz.int (Sz.call1 (w10 (x.2.2.1, ()) ⟨hx.2.2.1, trivial⟩) Sz.nil)))
set_option maxHeartbeats 2000000 in
theorem w50 (x : (List (Tys.D e3) × Unit)) (hx : ((.cons (.sl e3) .nil) : Tys).Ok x) : Sz (((.cons (.sl e3) .nil) : Tys).w x) (fun l => F50 (x, ((l, ()), ()))) :=
  (Sz.str (a := List.length x.1) hx.1.1 Sz.nil).to (congrArg (fun z => List.length x.1 + z + 0) (sumW_zero (f := fun y => Tys.w e3 y) (fun _ => rfl) x.1)).symm
set_option maxHeartbeats 2000000 in
theorem w47 (x : (Int × (List (Tys.D e9) × (List (Tys.D e3) × Unit)))) (hx : ((.cons (.int .i64) (.cons (.sl e9) (.cons (.sl e3) .nil))) : Tys).Ok x) : Sz (((.cons (.int .i64) (.cons (.sl e9) (.cons (.sl e3) .nil))) : Tys).w x) (fun l => F47 (x, ((l, ()), ()))) :=
  (Sz.int (Sz.call1 (w10 (x.2.1, ()) ⟨hx.2.1, trivial⟩) (Sz.call1 (w50 (x.2.2.1, ()) ⟨hx.2.2.1, trivial⟩) Sz.nil)))
set_option maxHeartbeats 2000000 in
theorem w79 (x : (Int × (ByteArray × (ByteArray × (Int × (Int × Unit)))))) (hx : ((.cons (.int .i64) (.cons .str (.cons .str (.cons (.int .i64) (.cons (.int .i64) .nil))))) : Tys).Ok x) : Sz (((.cons (.int .i64) (.cons .str (.cons .str (.cons (.int .i64) (.cons (.int .i64) .nil))))) : Tys).w x) (fun l => F79 (x, ((l, ()), ()))) :=
  (Sz.int (Sz.str (a := ByteArray.size x.2.1) hx.2.1 (Sz.str (a := ByteArray.size x.2.2.1) hx.2.2.1 (Sz.int (Sz.int Sz.nil)))))
set_option maxHeartbeats 2000000 in
theorem w51 (x : (List (Tys.D e162) × Unit)) (hx : ((.cons (.sl e162) .nil) : Tys).Ok x) : Sz (((.cons (.sl e162) .nil) : Tys).w x) (fun l => F51 (x, ((l, ()), ()))) :=
  (Sz.list (xs := x.1) (T := fun y l => F79 (y, ((l, ()), ()))) (π := fun c => c.1.1) (wt := fun y => e162.w y) hx.1.1 (fun y hy => szR_T (x := y) (w79 y (Ok_mem hx.1.2 hy))))
set_option maxHeartbeats 2000000 in
theorem w31 (x : (Int × (Int × (Int × (ByteArray × (Int × (Int × (List (Tys.D e9) × (Int × (List (Tys.D e9) × (List (Tys.D e3) × (List (Tys.D e162) × (Bool × (List (Tys.D e159) × (ByteArray × Unit))))))))))))))) (hx : ((.cons (.int .i64) (.cons (.int .i64) (.cons (.int .i64) (.cons .str (.cons (.int .i64) (.cons (.int .i64) (.cons (.sl e9) (.cons (.int .i64) (.cons (.sl e9) (.cons (.sl e3) (.cons (.sl e162) (.cons .bool (.cons (.sl e159) (.cons .str .nil)))))))))))))) : Tys).Ok x) : Sz (((.cons (.int .i64) (.cons (.int .i64) (.cons (.int .i64) (.cons .str (.cons (.int .i64) (.cons (.int .i64) (.cons (.sl e9) (.cons (.int .i64) (.cons (.sl e9) (.cons (.sl e3) (.cons (.sl e162) (.cons .bool (.cons (.sl e159) (.cons .str .nil)))))))))))))) : Tys).w x) (fun l => F31 (x, ((l, ()), ()))) :=
  (Sz.int (Sz.int (Sz.int (Sz.str (a := ByteArray.size x.2.2.2.1) hx.2.2.2.1 (Sz.call3 (w46 (x.2.2.2.2.1, (x.2.2.2.2.2.1, (x.2.2.2.2.2.2.1, ()))) ⟨hx.2.2.2.2.1, ⟨hx.2.2.2.2.2.1, ⟨hx.2.2.2.2.2.2.1, trivial⟩⟩⟩) (Sz.call3 (w47 (x.2.2.2.2.2.2.2.1, (x.2.2.2.2.2.2.2.2.1, (x.2.2.2.2.2.2.2.2.2.1, ()))) ⟨hx.2.2.2.2.2.2.2.1, ⟨hx.2.2.2.2.2.2.2.2.1, ⟨hx.2.2.2.2.2.2.2.2.2.1, trivial⟩⟩⟩) (Sz.call1 (w51 (x.2.2.2.2.2.2.2.2.2.2.1, ()) ⟨hx.2.2.2.2.2.2.2.2.2.2.1, trivial⟩) (Sz.int (Sz.call1 (w45 (x.2.2.2.2.2.2.2.2.2.2.2.2.1, ()) ⟨hx.2.2.2.2.2.2.2.2.2.2.2.2.1, trivial⟩) (Sz.str (a := ByteArray.size x.2.2.2.2.2.2.2.2.2.2.2.2.2.1) hx.2.2.2.2.2.2.2.2.2.2.2.2.2.1 Sz.nil))))))))))
set_option maxHeartbeats 2000000 in
theorem w12 (x : (List (Tys.D e90) × Unit)) (hx : ((.cons (.sl e90) .nil) : Tys).Ok x) : Sz (((.cons (.sl e90) .nil) : Tys).w x) (fun l => F12 (x, ((l, ()), ()))) :=
  (Sz.list (xs := x.1) (T := fun y l => F31 (y, ((l, ()), ()))) (π := fun c => c.1.1) (wt := fun y => e90.w y) hx.1.1 (fun y hy => szR_T (x := y) (w31 y (Ok_mem hx.1.2 hy))))
set_option maxHeartbeats 2000000 in
theorem w53 (x : (Int × (Int × (ByteArray × Unit)))) (hx : ((.cons (.int .i64) (.cons (.int .i64) (.cons .str .nil))) : Tys).Ok x) : Sz (((.cons (.int .i64) (.cons (.int .i64) (.cons .str .nil))) : Tys).w x) (fun l => F53 (x, ((l, ()), ()))) :=
  (Sz.int (Sz.int (Sz.str (a := ByteArray.size x.2.2.1) hx.2.2.1 Sz.nil)))
set_option maxHeartbeats 2000000 in
theorem w48 (x : (List (Tys.D e96) × Unit)) (hx : ((.cons (.sl e96) .nil) : Tys).Ok x) : Sz (((.cons (.sl e96) .nil) : Tys).w x) (fun l => F48 (x, ((l, ()), ()))) :=
  (Sz.list (xs := x.1) (T := fun y l => F53 (y, ((l, ()), ()))) (π := fun c => c.1.1) (wt := fun y => e96.w y) hx.1.1 (fun y hy => szR_T (x := y) (w53 y (Ok_mem hx.1.2 hy))))
set_option maxHeartbeats 2000000 in
theorem w54 (x : (Int × (Int × (ByteArray × Unit)))) (hx : ((.cons (.int .i64) (.cons (.int .i64) (.cons .str .nil))) : Tys).Ok x) : Sz (((.cons (.int .i64) (.cons (.int .i64) (.cons .str .nil))) : Tys).w x) (fun l => F54 (x, ((l, ()), ()))) :=
  (Sz.int (Sz.int (Sz.str (a := ByteArray.size x.2.2.1) hx.2.2.1 Sz.nil)))
set_option maxHeartbeats 2000000 in
theorem w49 (x : (List (Tys.D e98) × Unit)) (hx : ((.cons (.sl e98) .nil) : Tys).Ok x) : Sz (((.cons (.sl e98) .nil) : Tys).w x) (fun l => F49 (x, ((l, ()), ()))) :=
  (Sz.list (xs := x.1) (T := fun y l => F54 (y, ((l, ()), ()))) (π := fun c => c.1.1) (wt := fun y => e98.w y) hx.1.1 (fun y hy => szR_T (x := y) (w54 y (Ok_mem hx.1.2 hy))))
set_option maxHeartbeats 2000000 in
theorem w80 (x : (Int × (List (Tys.D e90) × (Int × (Int × (List (Tys.D e9) × Unit)))))) (hx : ((.cons (.int .i64) (.cons (.sl e90) (.cons (.int .i64) (.cons (.int .i64) (.cons (.sl e9) .nil))))) : Tys).Ok x) : Sz (((.cons (.int .i64) (.cons (.sl e90) (.cons (.int .i64) (.cons (.int .i64) (.cons (.sl e9) .nil))))) : Tys).w x) (fun l => F80 (x, ((l, ()), ()))) :=
  (Sz.int (Sz.call1 (w12 (x.2.1, ()) ⟨hx.2.1, trivial⟩) (Sz.call3 (w46 (x.2.2.1, (x.2.2.2.1, (x.2.2.2.2.1, ()))) ⟨hx.2.2.1, ⟨hx.2.2.2.1, ⟨hx.2.2.2.2.1, trivial⟩⟩⟩) Sz.nil)))
set_option maxHeartbeats 2000000 in
theorem w52 (x : (List (Tys.D e165) × Unit)) (hx : ((.cons (.sl e165) .nil) : Tys).Ok x) : Sz (((.cons (.sl e165) .nil) : Tys).w x) (fun l => F52 (x, ((l, ()), ()))) :=
  (Sz.list (xs := x.1) (T := fun y l => F80 (y, ((l, ()), ()))) (π := fun c => c.1.1) (wt := fun y => e165.w y) hx.1.1 (fun y hy => szR_T (x := y) (w80 y (Ok_mem hx.1.2 hy))))
set_option maxHeartbeats 2000000 in
theorem w30 (x : (ByteArray × (Int × (Int × (List (Tys.D e121) × (List (Tys.D e159) × (List (Tys.D e90) × (Int × (Int × (Int × (Int × (List (Tys.D e9) × (Int × (List (Tys.D e9) × (List (Tys.D e3) × (Int × (List (Tys.D e96) × (List (Tys.D e98) × (List (Tys.D e3) × (List (Tys.D e162) × (List (Tys.D e165) × Unit))))))))))))))))))))) (hx : ((.cons .str (.cons (.int .i64) (.cons (.int .i64) (.cons (.sl e121) (.cons (.sl e159) (.cons (.sl e90) (.cons (.int .i64) (.cons (.int .i64) (.cons (.int .i64) (.cons (.int .i64) (.cons (.sl e9) (.cons (.int .i64) (.cons (.sl e9) (.cons (.sl e3) (.cons (.int .i64) (.cons (.sl e96) (.cons (.sl e98) (.cons (.sl e3) (.cons (.sl e162) (.cons (.sl e165) .nil)))))))))))))))))))) : Tys).Ok x) : Sz (((.cons .str (.cons (.int .i64) (.cons (.int .i64) (.cons (.sl e121) (.cons (.sl e159) (.cons (.sl e90) (.cons (.int .i64) (.cons (.int .i64) (.cons (.int .i64) (.cons (.int .i64) (.cons (.sl e9) (.cons (.int .i64) (.cons (.sl e9) (.cons (.sl e3) (.cons (.int .i64) (.cons (.sl e96) (.cons (.sl e98) (.cons (.sl e3) (.cons (.sl e162) (.cons (.sl e165) .nil)))))))))))))))))))) : Tys).w x) (fun l => F30 (x, ((l, ()), ()))) :=
  (Sz.str (a := ByteArray.size x.1) hx.1 (Sz.int (Sz.call2 (w9 (x.2.2.1, (x.2.2.2.1, ())) ⟨hx.2.2.1, ⟨hx.2.2.2.1, trivial⟩⟩) (Sz.call1 (w45 (x.2.2.2.2.1, ()) ⟨hx.2.2.2.2.1, trivial⟩) (Sz.call1 (w12 (x.2.2.2.2.2.1, ()) ⟨hx.2.2.2.2.2.1, trivial⟩) (Sz.int (Sz.int (Sz.call3 (w46 (x.2.2.2.2.2.2.2.2.1, (x.2.2.2.2.2.2.2.2.2.1, (x.2.2.2.2.2.2.2.2.2.2.1, ()))) ⟨hx.2.2.2.2.2.2.2.2.1, ⟨hx.2.2.2.2.2.2.2.2.2.1, ⟨hx.2.2.2.2.2.2.2.2.2.2.1, trivial⟩⟩⟩) (Sz.call3 (w47 (x.2.2.2.2.2.2.2.2.2.2.2.1, (x.2.2.2.2.2.2.2.2.2.2.2.2.1, (x.2.2.2.2.2.2.2.2.2.2.2.2.2.1, ()))) ⟨hx.2.2.2.2.2.2.2.2.2.2.2.1, ⟨hx.2.2.2.2.2.2.2.2.2.2.2.2.1, ⟨hx.2.2.2.2.2.2.2.2.2.2.2.2.2.1, trivial⟩⟩⟩) (Sz.int (Sz.call1 (w48 (x.2.2.2.2.2.2.2.2.2.2.2.2.2.2.2.1, ()) ⟨hx.2.2.2.2.2.2.2.2.2.2.2.2.2.2.2.1, trivial⟩) (Sz.call1 (w49 (x.2.2.2.2.2.2.2.2.2.2.2.2.2.2.2.2.1, ()) ⟨hx.2.2.2.2.2.2.2.2.2.2.2.2.2.2.2.2.1, trivial⟩) (Sz.call1 (w50 (x.2.2.2.2.2.2.2.2.2.2.2.2.2.2.2.2.2.1, ()) ⟨hx.2.2.2.2.2.2.2.2.2.2.2.2.2.2.2.2.2.1, trivial⟩) (Sz.call1 (w51 (x.2.2.2.2.2.2.2.2.2.2.2.2.2.2.2.2.2.2.1, ()) ⟨hx.2.2.2.2.2.2.2.2.2.2.2.2.2.2.2.2.2.2.1, trivial⟩) (Sz.call1 (w52 (x.2.2.2.2.2.2.2.2.2.2.2.2.2.2.2.2.2.2.2.1, ()) ⟨hx.2.2.2.2.2.2.2.2.2.2.2.2.2.2.2.2.2.2.2.1, trivial⟩) Sz.nil)))))))))))))))
set_option maxHeartbeats 2000000 in
theorem w11 (x : (List (Tys.D e87) × Unit)) (hx : ((.cons (.sl e87) .nil) : Tys).Ok x) : Sz (((.cons (.sl e87) .nil) : Tys).w x) (fun l => F11 (x, ((l, ()), ()))) :=
  (Sz.list (xs := x.1) (T := fun y l => F30 (y, ((l, ()), ()))) (π := fun c => c.1.1) (wt := fun y => e87.w y) hx.1.1 (fun y hy => szR_T (x := y) (w30 y (Ok_mem hx.1.2 hy))))
set_option maxHeartbeats 2000000 in
theorem w32 (x : (Int × (Int × (Int × (Int × (ByteArray × Unit)))))) (hx : ((.cons (.int .i64) (.cons (.int .i64) (.cons (.int .i64) (.cons (.int .i64) (.cons .str .nil))))) : Tys).Ok x) : Sz (((.cons (.int .i64) (.cons (.int .i64) (.cons (.int .i64) (.cons (.int .i64) (.cons .str .nil))))) : Tys).w x) (fun l => F32 (x, ((l, ()), ()))) :=
  (Sz.int (Sz.int (Sz.int (Sz.int (Sz.str (a := ByteArray.size x.2.2.2.2.1) hx.2.2.2.2.1 Sz.nil)))))
set_option maxHeartbeats 2000000 in
theorem w13 (x : (List (Tys.D e93) × Unit)) (hx : ((.cons (.sl e93) .nil) : Tys).Ok x) : Sz (((.cons (.sl e93) .nil) : Tys).w x) (fun l => F13 (x, ((l, ()), ()))) :=
  (Sz.list (xs := x.1) (T := fun y l => F32 (y, ((l, ()), ()))) (π := fun c => c.1.1) (wt := fun y => e93.w y) hx.1.1 (fun y hy => szR_T (x := y) (w32 y (Ok_mem hx.1.2 hy))))
set_option maxHeartbeats 2000000 in
theorem w33 (x : (Int × (ByteArray × (Int × (List (Tys.D e90) × (Int × (Int × (ByteArray × (Int × (Int × (ByteArray × (Int × (Int × (List (Tys.D e9) × (Int × (List (Tys.D e9) × (List (Tys.D e3) × Unit))))))))))))))))) (hx : ((.cons (.int .i64) (.cons .str (.cons (.int .i64) (.cons (.sl e90) (.cons (.int .i64) (.cons (.int .i64) (.cons .str (.cons (.int .i64) (.cons (.int .i64) (.cons .str (.cons (.int .i64) (.cons (.int .i64) (.cons (.sl e9) (.cons (.int .i64) (.cons (.sl e9) (.cons (.sl e3) .nil)))))))))))))))) : Tys).Ok x) : Sz (((.cons (.int .i64) (.cons .str (.cons (.int .i64) (.cons (.sl e90) (.cons (.int .i64) (.cons (.int .i64) (.cons .str (.cons (.int .i64) (.cons (.int .i64) (.cons .str (.cons (.int .i64) (.cons (.int .i64) (.cons (.sl e9) (.cons (.int .i64) (.cons (.sl e9) (.cons (.sl e3) .nil)))))))))))))))) : Tys).w x) (fun l => F33 (x, ((l, ()), ()))) :=
  (Sz.int (Sz.str (a := ByteArray.size x.2.1) hx.2.1 (Sz.int (Sz.call1 (w12 (x.2.2.2.1, ()) ⟨hx.2.2.2.1, trivial⟩) (Sz.call3 (w53 (x.2.2.2.2.1, (x.2.2.2.2.2.1, (x.2.2.2.2.2.2.1, ()))) ⟨hx.2.2.2.2.1, ⟨hx.2.2.2.2.2.1, ⟨hx.2.2.2.2.2.2.1, trivial⟩⟩⟩) (Sz.call3 (w54 (x.2.2.2.2.2.2.2.1, (x.2.2.2.2.2.2.2.2.1, (x.2.2.2.2.2.2.2.2.2.1, ()))) ⟨hx.2.2.2.2.2.2.2.1, ⟨hx.2.2.2.2.2.2.2.2.1, ⟨hx.2.2.2.2.2.2.2.2.2.1, trivial⟩⟩⟩) (Sz.call3 (w46 (x.2.2.2.2.2.2.2.2.2.2.1, (x.2.2.2.2.2.2.2.2.2.2.2.1, (x.2.2.2.2.2.2.2.2.2.2.2.2.1, ()))) ⟨hx.2.2.2.2.2.2.2.2.2.2.1, ⟨hx.2.2.2.2.2.2.2.2.2.2.2.1, ⟨hx.2.2.2.2.2.2.2.2.2.2.2.2.1, trivial⟩⟩⟩) (Sz.call3 (w47 (x.2.2.2.2.2.2.2.2.2.2.2.2.2.1, (x.2.2.2.2.2.2.2.2.2.2.2.2.2.2.1, (x.2.2.2.2.2.2.2.2.2.2.2.2.2.2.2.1, ()))) ⟨hx.2.2.2.2.2.2.2.2.2.2.2.2.2.1, ⟨hx.2.2.2.2.2.2.2.2.2.2.2.2.2.2.1, ⟨hx.2.2.2.2.2.2.2.2.2.2.2.2.2.2.2.1, trivial⟩⟩⟩) Sz.nil))))))))
set_option maxHeartbeats 2000000 in
theorem w14 (x : (List (Tys.D e100) × Unit)) (hx : ((.cons (.sl e100) .nil) : Tys).Ok x) : Sz (((.cons (.sl e100) .nil) : Tys).w x) (fun l => F14 (x, ((l, ()), ()))) :=
  (Sz.list (xs := x.1) (T := fun y l => F33 (y, ((l, ()), ()))) (π := fun c => c.1.1) (wt := fun y => e100.w y) hx.1.1 (fun y hy => szR_T (x := y) (w33 y (Ok_mem hx.1.2 hy))))
set_option maxHeartbeats 2000000 in
theorem w4 (x : (Int × (List (Tys.D e121) × (List (Tys.D e9) × (List (Tys.D e87) × (List (Tys.D e90) × (List (Tys.D e93) × (List (Tys.D e100) × Unit)))))))) (hx : ((.cons (.int .i64) (.cons (.sl e121) (.cons (.sl e9) (.cons (.sl e87) (.cons (.sl e90) (.cons (.sl e93) (.cons (.sl e100) .nil))))))) : Tys).Ok x) : Sz (((.cons (.int .i64) (.cons (.sl e121) (.cons (.sl e9) (.cons (.sl e87) (.cons (.sl e90) (.cons (.sl e93) (.cons (.sl e100) .nil))))))) : Tys).w x) (fun l => F4 (x, ((l, ()), ()))) :=
  (Sz.call2 (w9 (x.1, (x.2.1, ())) ⟨hx.1, ⟨hx.2.1, trivial⟩⟩) (Sz.call1 (w10 (x.2.2.1, ()) ⟨hx.2.2.1, trivial⟩) (Sz.call1 (w11 (x.2.2.2.1, ()) ⟨hx.2.2.2.1, trivial⟩) (Sz.call1 (w12 (x.2.2.2.2.1, ()) ⟨hx.2.2.2.2.1, trivial⟩) (Sz.call1 (w13 (x.2.2.2.2.2.1, ()) ⟨hx.2.2.2.2.2.1, trivial⟩) (Sz.call1 (w14 (x.2.2.2.2.2.2.1, ()) ⟨hx.2.2.2.2.2.2.1, trivial⟩) Sz.nil))))))
set_option maxHeartbeats 2000000 in
theorem t89 (x : (Int × (Int × Unit))) (hx : ((.cons (.int .i64) (.cons (.int .i64) .nil)) : Tys).w x ≤ 1048576) : F89 (x, ()) = some (x, ()) :=
  rfl
set_option maxHeartbeats 2000000 in
theorem t81 (x : (List (Tys.D e181) × Unit)) (hx : ((.cons (.sl e181) .nil) : Tys).w x ≤ 1048576) : F81 (x, ()) = some (x, ()) :=
  (toList (A := Tys.D e181) (B := Tys.D e179) (xs := x.1) (T := fun y => F89 (y, ())) (π := fun c => c.1) (φ := fun y => y) (bytes := 16) (by decide) (by decide) (w_len hx) (fun y hy => ⟨_, t89 y (w_el hx rfl hy), rfl⟩)).trans (congrArg (fun l => some ((l, ()), ())) (List.map_id' x.1))
set_option maxHeartbeats 2000000 in
theorem t55 (x : (ByteArray × (Int × (Int × (Int × (List (Tys.D e181) × Unit)))))) (hx : ((.cons .str (.cons (.int .i64) (.cons (.int .i64) (.cons (.int .i64) (.cons (.sl e181) .nil))))) : Tys).w x ≤ 1048576) : F55 (x, ()) = some (x, ()) :=
  (bind_eq (t81 (x.2.2.2.2.1, ()) (w_1 (w_tl (w_tl (w_tl (w_tl hx)))))) rfl)
set_option maxHeartbeats 2000000 in
theorem t34 (x : (List (Tys.D e121) × Unit)) (hx : ((.cons (.sl e121) .nil) : Tys).w x ≤ 1048576) : F34 (x, ()) = some (x, ()) :=
  (toList (A := Tys.D e121) (B := Tys.D e134) (xs := x.1) (T := fun y => F55 (y, ())) (π := fun c => c.1) (φ := fun y => y) (bytes := 64) (by decide) (by decide) (w_len hx) (fun y hy => ⟨_, t55 y (w_el hx rfl hy), rfl⟩)).trans (congrArg (fun l => some ((l, ()), ())) (List.map_id' x.1))
set_option maxHeartbeats 2000000 in
theorem t16 (x : (Int × (List (Tys.D e121) × Unit))) (hx : ((.cons (.int .i64) (.cons (.sl e121) .nil)) : Tys).w x ≤ 1048576) : F16 (x, ()) = some (x, ()) :=
  (bind_eq (t34 (x.2.1, ()) (w_1 (w_tl hx))) rfl)
set_option maxHeartbeats 2000000 in
theorem t17 (x : (List (Tys.D e9) × Unit)) (hx : ((.cons (.sl e9) .nil) : Tys).w x ≤ 1048576) : F17 (x, ()) = some (x, ()) :=
  (toList (A := Tys.D e9) (B := Tys.D e9) (xs := x.1) (T := fun y => some y) (π := fun c => c) (φ := fun y => y) (bytes := 16) (by decide) (by decide) (w_len hx) (fun y hy => ⟨_, rfl, rfl⟩)).trans (congrArg (fun l => some ((l, ()), ())) (List.map_id' x.1))
set_option maxHeartbeats 2000000 in
theorem t82 (x : (ByteArray × (Int × Unit))) (hx : ((.cons .str (.cons (.int .i64) .nil)) : Tys).w x ≤ 1048576) : F82 (x, ()) = some (x, ()) :=
  rfl
set_option maxHeartbeats 2000000 in
theorem t56 (x : (List (Tys.D e159) × Unit)) (hx : ((.cons (.sl e159) .nil) : Tys).w x ≤ 1048576) : F56 (x, ()) = some (x, ()) :=
  (toList (A := Tys.D e159) (B := Tys.D e167) (xs := x.1) (T := fun y => F82 (y, ())) (π := fun c => c.1) (φ := fun y => y) (bytes := 24) (by decide) (by decide) (w_len hx) (fun y hy => ⟨_, t82 y (w_el hx rfl hy), rfl⟩)).trans (congrArg (fun l => some ((l, ()), ())) (List.map_id' x.1))
set_option maxHeartbeats 2000000 in
theorem t57 (x : (Int × (Int × (List (Tys.D e9) × Unit)))) (hx : ((.cons (.int .i64) (.cons (.int .i64) (.cons (.sl e9) .nil))) : Tys).w x ≤ 1048576) : F57 (x, ()) = some (x, ()) :=
  (bind_eq (t17 (x.2.2.1, ()) (w_1 (w_tl (w_tl hx)))) rfl)
set_option maxHeartbeats 2000000 in
theorem t61 (x : (List (Tys.D e3) × Unit)) (hx : ((.cons (.sl e3) .nil) : Tys).w x ≤ 1048576) : F61 (x, ()) = some (x, ()) :=
  (toList (A := Tys.D e3) (B := Tys.D e3) (xs := x.1) (T := fun y => some y) (π := fun c => c) (φ := fun y => y) (bytes := 8) (by decide) (by decide) (w_len hx) (fun y hy => ⟨_, rfl, rfl⟩)).trans (congrArg (fun l => some ((l, ()), ())) (List.map_id' x.1))
set_option maxHeartbeats 2000000 in
theorem t58 (x : (Int × (List (Tys.D e9) × (List (Tys.D e3) × Unit)))) (hx : ((.cons (.int .i64) (.cons (.sl e9) (.cons (.sl e3) .nil))) : Tys).w x ≤ 1048576) : F58 (x, ()) = some (x, ()) :=
  (bind_eq (t17 (x.2.1, ()) (w_1 (w_tl hx))) (bind_eq (t61 (x.2.2.1, ()) (w_1 (w_tl (w_tl hx)))) rfl))
set_option maxHeartbeats 2000000 in
theorem t83 (x : (Int × (ByteArray × (ByteArray × (Int × (Int × Unit)))))) (hx : ((.cons (.int .i64) (.cons .str (.cons .str (.cons (.int .i64) (.cons (.int .i64) .nil))))) : Tys).w x ≤ 1048576) : F83 (x, ()) = some (x, ()) :=
  rfl
set_option maxHeartbeats 2000000 in
theorem t62 (x : (List (Tys.D e162) × Unit)) (hx : ((.cons (.sl e162) .nil) : Tys).w x ≤ 1048576) : F62 (x, ()) = some (x, ()) :=
  (toList (A := Tys.D e162) (B := Tys.D e169) (xs := x.1) (T := fun y => F83 (y, ())) (π := fun c => c.1) (φ := fun y => y) (bytes := 56) (by decide) (by decide) (w_len hx) (fun y hy => ⟨_, t83 y (w_el hx rfl hy), rfl⟩)).trans (congrArg (fun l => some ((l, ()), ())) (List.map_id' x.1))
set_option maxHeartbeats 2000000 in
theorem t36 (x : (Int × (Int × (Int × (ByteArray × (Int × (Int × (List (Tys.D e9) × (Int × (List (Tys.D e9) × (List (Tys.D e3) × (List (Tys.D e162) × (Bool × (List (Tys.D e159) × (ByteArray × Unit))))))))))))))) (hx : ((.cons (.int .i64) (.cons (.int .i64) (.cons (.int .i64) (.cons .str (.cons (.int .i64) (.cons (.int .i64) (.cons (.sl e9) (.cons (.int .i64) (.cons (.sl e9) (.cons (.sl e3) (.cons (.sl e162) (.cons .bool (.cons (.sl e159) (.cons .str .nil)))))))))))))) : Tys).w x ≤ 1048576) : F36 (x, ()) = some (x, ()) :=
  (bind_eq (t57 (x.2.2.2.2.1, (x.2.2.2.2.2.1, (x.2.2.2.2.2.2.1, ()))) (w_3 (w_tl (w_tl (w_tl (w_tl hx)))))) (bind_eq (t58 (x.2.2.2.2.2.2.2.1, (x.2.2.2.2.2.2.2.2.1, (x.2.2.2.2.2.2.2.2.2.1, ()))) (w_3 (w_tl (w_tl (w_tl (w_tl (w_tl (w_tl (w_tl hx))))))))) (bind_eq (t62 (x.2.2.2.2.2.2.2.2.2.2.1, ()) (w_1 (w_tl (w_tl (w_tl (w_tl (w_tl (w_tl (w_tl (w_tl (w_tl (w_tl hx)))))))))))) (bind_eq (t56 (x.2.2.2.2.2.2.2.2.2.2.2.2.1, ()) (w_1 (w_tl (w_tl (w_tl (w_tl (w_tl (w_tl (w_tl (w_tl (w_tl (w_tl (w_tl (w_tl hx)))))))))))))) rfl))))
set_option maxHeartbeats 2000000 in
theorem t19 (x : (List (Tys.D e90) × Unit)) (hx : ((.cons (.sl e90) .nil) : Tys).w x ≤ 1048576) : F19 (x, ()) = some (x, ()) :=
  (toList (A := Tys.D e90) (B := Tys.D e104) (xs := x.1) (T := fun y => F36 (y, ())) (π := fun c => c.1) (φ := fun y => y) (bytes := 208) (by decide) (by decide) (w_len hx) (fun y hy => ⟨_, t36 y (w_el hx rfl hy), rfl⟩)).trans (congrArg (fun l => some ((l, ()), ())) (List.map_id' x.1))
set_option maxHeartbeats 2000000 in
theorem t64 (x : (Int × (Int × (ByteArray × Unit)))) (hx : ((.cons (.int .i64) (.cons (.int .i64) (.cons .str .nil))) : Tys).w x ≤ 1048576) : F64 (x, ()) = some (x, ()) :=
  rfl
set_option maxHeartbeats 2000000 in
theorem t59 (x : (List (Tys.D e96) × Unit)) (hx : ((.cons (.sl e96) .nil) : Tys).w x ≤ 1048576) : F59 (x, ()) = some (x, ()) :=
  (toList (A := Tys.D e96) (B := Tys.D e108) (xs := x.1) (T := fun y => F64 (y, ())) (π := fun c => c.1) (φ := fun y => y) (bytes := 32) (by decide) (by decide) (w_len hx) (fun y hy => ⟨_, t64 y (w_el hx rfl hy), rfl⟩)).trans (congrArg (fun l => some ((l, ()), ())) (List.map_id' x.1))
set_option maxHeartbeats 2000000 in
theorem t65 (x : (Int × (Int × (ByteArray × Unit)))) (hx : ((.cons (.int .i64) (.cons (.int .i64) (.cons .str .nil))) : Tys).w x ≤ 1048576) : F65 (x, ()) = some (x, ()) :=
  rfl
set_option maxHeartbeats 2000000 in
theorem t60 (x : (List (Tys.D e98) × Unit)) (hx : ((.cons (.sl e98) .nil) : Tys).w x ≤ 1048576) : F60 (x, ()) = some (x, ()) :=
  (toList (A := Tys.D e98) (B := Tys.D e109) (xs := x.1) (T := fun y => F65 (y, ())) (π := fun c => c.1) (φ := fun y => y) (bytes := 32) (by decide) (by decide) (w_len hx) (fun y hy => ⟨_, t65 y (w_el hx rfl hy), rfl⟩)).trans (congrArg (fun l => some ((l, ()), ())) (List.map_id' x.1))
set_option maxHeartbeats 2000000 in
theorem t84 (x : (Int × (List (Tys.D e90) × (Int × (Int × (List (Tys.D e9) × Unit)))))) (hx : ((.cons (.int .i64) (.cons (.sl e90) (.cons (.int .i64) (.cons (.int .i64) (.cons (.sl e9) .nil))))) : Tys).w x ≤ 1048576) : F84 (x, ()) = some (x, ()) :=
  (bind_eq (t19 (x.2.1, ()) (w_1 (w_tl hx))) (bind_eq (t57 (x.2.2.1, (x.2.2.2.1, (x.2.2.2.2.1, ()))) (w_3 (w_tl (w_tl hx)))) rfl))
set_option maxHeartbeats 2000000 in
theorem t63 (x : (List (Tys.D e165) × Unit)) (hx : ((.cons (.sl e165) .nil) : Tys).w x ≤ 1048576) : F63 (x, ()) = some (x, ()) :=
  (toList (A := Tys.D e165) (B := Tys.D e172) (xs := x.1) (T := fun y => F84 (y, ())) (π := fun c => c.1) (φ := fun y => y) (bytes := 72) (by decide) (by decide) (w_len hx) (fun y hy => ⟨_, t84 y (w_el hx rfl hy), rfl⟩)).trans (congrArg (fun l => some ((l, ()), ())) (List.map_id' x.1))
set_option maxHeartbeats 2000000 in
theorem t35 (x : (ByteArray × (Int × (Int × (List (Tys.D e121) × (List (Tys.D e159) × (List (Tys.D e90) × (Int × (Int × (Int × (Int × (List (Tys.D e9) × (Int × (List (Tys.D e9) × (List (Tys.D e3) × (Int × (List (Tys.D e96) × (List (Tys.D e98) × (List (Tys.D e3) × (List (Tys.D e162) × (List (Tys.D e165) × Unit))))))))))))))))))))) (hx : ((.cons .str (.cons (.int .i64) (.cons (.int .i64) (.cons (.sl e121) (.cons (.sl e159) (.cons (.sl e90) (.cons (.int .i64) (.cons (.int .i64) (.cons (.int .i64) (.cons (.int .i64) (.cons (.sl e9) (.cons (.int .i64) (.cons (.sl e9) (.cons (.sl e3) (.cons (.int .i64) (.cons (.sl e96) (.cons (.sl e98) (.cons (.sl e3) (.cons (.sl e162) (.cons (.sl e165) .nil)))))))))))))))))))) : Tys).w x ≤ 1048576) : F35 (x, ()) = some (x, ()) :=
  (bind_eq (t16 (x.2.2.1, (x.2.2.2.1, ())) (w_2 (w_tl (w_tl hx)))) (bind_eq (t56 (x.2.2.2.2.1, ()) (w_1 (w_tl (w_tl (w_tl (w_tl hx)))))) (bind_eq (t19 (x.2.2.2.2.2.1, ()) (w_1 (w_tl (w_tl (w_tl (w_tl (w_tl hx))))))) (bind_eq (t57 (x.2.2.2.2.2.2.2.2.1, (x.2.2.2.2.2.2.2.2.2.1, (x.2.2.2.2.2.2.2.2.2.2.1, ()))) (w_3 (w_tl (w_tl (w_tl (w_tl (w_tl (w_tl (w_tl (w_tl hx)))))))))) (bind_eq (t58 (x.2.2.2.2.2.2.2.2.2.2.2.1, (x.2.2.2.2.2.2.2.2.2.2.2.2.1, (x.2.2.2.2.2.2.2.2.2.2.2.2.2.1, ()))) (w_3 (w_tl (w_tl (w_tl (w_tl (w_tl (w_tl (w_tl (w_tl (w_tl (w_tl (w_tl hx))))))))))))) (bind_eq (t59 (x.2.2.2.2.2.2.2.2.2.2.2.2.2.2.2.1, ()) (w_1 (w_tl (w_tl (w_tl (w_tl (w_tl (w_tl (w_tl (w_tl (w_tl (w_tl (w_tl (w_tl (w_tl (w_tl (w_tl hx))))))))))))))))) (bind_eq (t60 (x.2.2.2.2.2.2.2.2.2.2.2.2.2.2.2.2.1, ()) (w_1 (w_tl (w_tl (w_tl (w_tl (w_tl (w_tl (w_tl (w_tl (w_tl (w_tl (w_tl (w_tl (w_tl (w_tl (w_tl (w_tl hx)))))))))))))))))) (bind_eq (t61 (x.2.2.2.2.2.2.2.2.2.2.2.2.2.2.2.2.2.1, ()) (w_1 (w_tl (w_tl (w_tl (w_tl (w_tl (w_tl (w_tl (w_tl (w_tl (w_tl (w_tl (w_tl (w_tl (w_tl (w_tl (w_tl (w_tl hx))))))))))))))))))) (bind_eq (t62 (x.2.2.2.2.2.2.2.2.2.2.2.2.2.2.2.2.2.2.1, ()) (w_1 (w_tl (w_tl (w_tl (w_tl (w_tl (w_tl (w_tl (w_tl (w_tl (w_tl (w_tl (w_tl (w_tl (w_tl (w_tl (w_tl (w_tl (w_tl hx)))))))))))))))))))) (bind_eq (t63 (x.2.2.2.2.2.2.2.2.2.2.2.2.2.2.2.2.2.2.2.1, ()) (w_1 (w_tl (w_tl (w_tl (w_tl (w_tl (w_tl (w_tl (w_tl (w_tl (w_tl (w_tl (w_tl (w_tl (w_tl (w_tl (w_tl (w_tl (w_tl (w_tl hx))))))))))))))))))))) rfl))))))))))
set_option maxHeartbeats 2000000 in
theorem t18 (x : (List (Tys.D e87) × Unit)) (hx : ((.cons (.sl e87) .nil) : Tys).w x ≤ 1048576) : F18 (x, ()) = some (x, ()) :=
  (toList (A := Tys.D e87) (B := Tys.D e64) (xs := x.1) (T := fun y => F35 (y, ())) (π := fun c => c.1) (φ := fun y => y) (bytes := 344) (by decide) (by decide) (w_len hx) (fun y hy => ⟨_, t35 y (w_el hx rfl hy), rfl⟩)).trans (congrArg (fun l => some ((l, ()), ())) (List.map_id' x.1))
set_option maxHeartbeats 2000000 in
theorem t37 (x : (Int × (Int × (Int × (Int × (ByteArray × Unit)))))) (hx : ((.cons (.int .i64) (.cons (.int .i64) (.cons (.int .i64) (.cons (.int .i64) (.cons .str .nil))))) : Tys).w x ≤ 1048576) : F37 (x, ()) = some (x, ()) :=
  rfl
set_option maxHeartbeats 2000000 in
theorem t20 (x : (List (Tys.D e93) × Unit)) (hx : ((.cons (.sl e93) .nil) : Tys).w x ≤ 1048576) : F20 (x, ()) = some (x, ()) :=
  (toList (A := Tys.D e93) (B := Tys.D e106) (xs := x.1) (T := fun y => F37 (y, ())) (π := fun c => c.1) (φ := fun y => y) (bytes := 48) (by decide) (by decide) (w_len hx) (fun y hy => ⟨_, t37 y (w_el hx rfl hy), rfl⟩)).trans (congrArg (fun l => some ((l, ()), ())) (List.map_id' x.1))
set_option maxHeartbeats 2000000 in
theorem t38 (x : (Int × (ByteArray × (Int × (List (Tys.D e90) × (Int × (Int × (ByteArray × (Int × (Int × (ByteArray × (Int × (Int × (List (Tys.D e9) × (Int × (List (Tys.D e9) × (List (Tys.D e3) × Unit))))))))))))))))) (hx : ((.cons (.int .i64) (.cons .str (.cons (.int .i64) (.cons (.sl e90) (.cons (.int .i64) (.cons (.int .i64) (.cons .str (.cons (.int .i64) (.cons (.int .i64) (.cons .str (.cons (.int .i64) (.cons (.int .i64) (.cons (.sl e9) (.cons (.int .i64) (.cons (.sl e9) (.cons (.sl e3) .nil)))))))))))))))) : Tys).w x ≤ 1048576) : F38 (x, ()) = some (x, ()) :=
  (bind_eq (t19 (x.2.2.2.1, ()) (w_1 (w_tl (w_tl (w_tl hx))))) (bind_eq (t64 (x.2.2.2.2.1, (x.2.2.2.2.2.1, (x.2.2.2.2.2.2.1, ()))) (w_3 (w_tl (w_tl (w_tl (w_tl hx)))))) (bind_eq (t65 (x.2.2.2.2.2.2.2.1, (x.2.2.2.2.2.2.2.2.1, (x.2.2.2.2.2.2.2.2.2.1, ()))) (w_3 (w_tl (w_tl (w_tl (w_tl (w_tl (w_tl (w_tl hx))))))))) (bind_eq (t57 (x.2.2.2.2.2.2.2.2.2.2.1, (x.2.2.2.2.2.2.2.2.2.2.2.1, (x.2.2.2.2.2.2.2.2.2.2.2.2.1, ()))) (w_3 (w_tl (w_tl (w_tl (w_tl (w_tl (w_tl (w_tl (w_tl (w_tl (w_tl hx)))))))))))) (bind_eq (t58 (x.2.2.2.2.2.2.2.2.2.2.2.2.2.1, (x.2.2.2.2.2.2.2.2.2.2.2.2.2.2.1, (x.2.2.2.2.2.2.2.2.2.2.2.2.2.2.2.1, ()))) (w_3 (w_tl (w_tl (w_tl (w_tl (w_tl (w_tl (w_tl (w_tl (w_tl (w_tl (w_tl (w_tl (w_tl hx))))))))))))))) rfl)))))
set_option maxHeartbeats 2000000 in
theorem t21 (x : (List (Tys.D e100) × Unit)) (hx : ((.cons (.sl e100) .nil) : Tys).w x ≤ 1048576) : F21 (x, ()) = some (x, ()) :=
  (toList (A := Tys.D e100) (B := Tys.D e111) (xs := x.1) (T := fun y => F38 (y, ())) (π := fun c => c.1) (φ := fun y => y) (bytes := 216) (by decide) (by decide) (w_len hx) (fun y hy => ⟨_, t38 y (w_el hx rfl hy), rfl⟩)).trans (congrArg (fun l => some ((l, ()), ())) (List.map_id' x.1))
set_option maxHeartbeats 2000000 in
theorem t6 (x : (Int × (List (Tys.D e121) × (List (Tys.D e9) × (List (Tys.D e87) × (List (Tys.D e90) × (List (Tys.D e93) × (List (Tys.D e100) × Unit)))))))) (hx : ((.cons (.int .i64) (.cons (.sl e121) (.cons (.sl e9) (.cons (.sl e87) (.cons (.sl e90) (.cons (.sl e93) (.cons (.sl e100) .nil))))))) : Tys).w x ≤ 1048576) : F6 (x, ()) = some (x, ()) :=
  (bind_eq (t16 (x.1, (x.2.1, ())) (w_2 hx)) (bind_eq (t17 (x.2.2.1, ()) (w_1 (w_tl (w_tl hx)))) (bind_eq (t18 (x.2.2.2.1, ()) (w_1 (w_tl (w_tl (w_tl hx))))) (bind_eq (t19 (x.2.2.2.2.1, ()) (w_1 (w_tl (w_tl (w_tl (w_tl hx)))))) (bind_eq (t20 (x.2.2.2.2.2.1, ()) (w_1 (w_tl (w_tl (w_tl (w_tl (w_tl hx))))))) (bind_eq (t21 (x.2.2.2.2.2.2.1, ()) (w_1 (w_tl (w_tl (w_tl (w_tl (w_tl (w_tl hx)))))))) rfl))))))
set_option maxHeartbeats 2000000 in
theorem s90 (x : (Int × (Int × Unit))) (hx : ((.cons (.int .i64) (.cons (.int .i64) .nil)) : Tys).Ok x) : F90 (x, (x, ())) = some (B1 true) :=
  (eq_int (eq_int rfl))
set_option maxHeartbeats 2000000 in
theorem s85 (x : (List (Tys.D e179) × Unit)) (hx : ((.cons (.sl e179) .nil) : Tys).Ok x) : F85 (x, (x, ())) = some (B1 true) :=
  eqList (xs := x.1) (E := fun y z v => (F90 (y, (z, ()))).bind fun r => bif (!r.1.1) then some (.inr (.inr (B1 false))) else some (.inl (iAdd .i64 v.1 1, ()))) hx.1.1 (fun y hy v => eq_call (s90 y (Ok_mem hx.1.2 hy)) rfl)
set_option maxHeartbeats 2000000 in
theorem s66 (x : (ByteArray × (Int × (Int × (Int × (List (Tys.D e179) × Unit)))))) (hx : ((.cons .str (.cons (.int .i64) (.cons (.int .i64) (.cons (.int .i64) (.cons (.sl e179) .nil))))) : Tys).Ok x) : F66 (x, (x, ())) = some (B1 true) :=
  (eq_str (eq_int (eq_int (eq_int (eq_call (s85 (x.2.2.2.2.1, ()) ⟨hx.2.2.2.2.1, trivial⟩) rfl)))))
set_option maxHeartbeats 2000000 in
theorem s39 (x : (List (Tys.D e134) × Unit)) (hx : ((.cons (.sl e134) .nil) : Tys).Ok x) : F39 (x, (x, ())) = some (B1 true) :=
  eqList (xs := x.1) (E := fun y z v => (F66 (y, (z, ()))).bind fun r => bif (!r.1.1) then some (.inr (.inr (B1 false))) else some (.inl (iAdd .i64 v.1 1, ()))) hx.1.1 (fun y hy v => eq_call (s66 y (Ok_mem hx.1.2 hy)) rfl)
set_option maxHeartbeats 2000000 in
theorem s23 (x : (Int × (List (Tys.D e134) × Unit))) (hx : ((.cons (.int .i64) (.cons (.sl e134) .nil)) : Tys).Ok x) : F23 (x, (x, ())) = some (B1 true) :=
  (eq_int (eq_call (s39 (x.2.1, ()) ⟨hx.2.1, trivial⟩) rfl))
set_option maxHeartbeats 2000000 in
theorem s24 (x : (List (Tys.D e9) × Unit)) (hx : ((.cons (.sl e9) .nil) : Tys).Ok x) : F24 (x, (x, ())) = some (B1 true) :=
  eqList (xs := x.1) (E := fun y z v => bif !sEq y.1 z.1 then some (.inr (.inr (B1 false))) else some (.inl (iAdd .i64 v.1 1, ()))) hx.1.1 (fun y hy v => eq_str rfl)
set_option maxHeartbeats 2000000 in
theorem s86 (x : (ByteArray × (Int × Unit))) (hx : ((.cons .str (.cons (.int .i64) .nil)) : Tys).Ok x) : F86 (x, (x, ())) = some (B1 true) :=
  (eq_str (eq_int rfl))
set_option maxHeartbeats 2000000 in
theorem s67 (x : (List (Tys.D e167) × Unit)) (hx : ((.cons (.sl e167) .nil) : Tys).Ok x) : F67 (x, (x, ())) = some (B1 true) :=
  eqList (xs := x.1) (E := fun y z v => (F86 (y, (z, ()))).bind fun r => bif (!r.1.1) then some (.inr (.inr (B1 false))) else some (.inl (iAdd .i64 v.1 1, ()))) hx.1.1 (fun y hy v => eq_call (s86 y (Ok_mem hx.1.2 hy)) rfl)
set_option maxHeartbeats 2000000 in
theorem s68 (x : (Int × (Int × (List (Tys.D e9) × Unit)))) (hx : ((.cons (.int .i64) (.cons (.int .i64) (.cons (.sl e9) .nil))) : Tys).Ok x) : F68 (x, (x, ())) = some (B1 true) :=
  (eq_int (eq_int (eq_call (s24 (x.2.2.1, ()) ⟨hx.2.2.1, trivial⟩) rfl)))
set_option maxHeartbeats 2000000 in
theorem s72 (x : (List (Tys.D e3) × Unit)) (hx : ((.cons (.sl e3) .nil) : Tys).Ok x) : F72 (x, (x, ())) = some (B1 true) :=
  eqList (xs := x.1) (E := fun y z v => bif !iEq y.1 z.1 then some (.inr (.inr (B1 false))) else some (.inl (iAdd .i64 v.1 1, ()))) hx.1.1 (fun y hy v => eq_int rfl)
set_option maxHeartbeats 2000000 in
theorem s69 (x : (Int × (List (Tys.D e9) × (List (Tys.D e3) × Unit)))) (hx : ((.cons (.int .i64) (.cons (.sl e9) (.cons (.sl e3) .nil))) : Tys).Ok x) : F69 (x, (x, ())) = some (B1 true) :=
  (eq_int (eq_call (s24 (x.2.1, ()) ⟨hx.2.1, trivial⟩) (eq_call (s72 (x.2.2.1, ()) ⟨hx.2.2.1, trivial⟩) rfl)))
set_option maxHeartbeats 2000000 in
theorem s87 (x : (Int × (ByteArray × (ByteArray × (Int × (Int × Unit)))))) (hx : ((.cons (.int .i64) (.cons .str (.cons .str (.cons (.int .i64) (.cons (.int .i64) .nil))))) : Tys).Ok x) : F87 (x, (x, ())) = some (B1 true) :=
  (eq_int (eq_str (eq_str (eq_int (eq_int rfl)))))
set_option maxHeartbeats 2000000 in
theorem s73 (x : (List (Tys.D e169) × Unit)) (hx : ((.cons (.sl e169) .nil) : Tys).Ok x) : F73 (x, (x, ())) = some (B1 true) :=
  eqList (xs := x.1) (E := fun y z v => (F87 (y, (z, ()))).bind fun r => bif (!r.1.1) then some (.inr (.inr (B1 false))) else some (.inl (iAdd .i64 v.1 1, ()))) hx.1.1 (fun y hy v => eq_call (s87 y (Ok_mem hx.1.2 hy)) rfl)
set_option maxHeartbeats 2000000 in
theorem s41 (x : (Int × (Int × (Int × (ByteArray × (Int × (Int × (List (Tys.D e9) × (Int × (List (Tys.D e9) × (List (Tys.D e3) × (List (Tys.D e169) × (Bool × (List (Tys.D e167) × (ByteArray × Unit))))))))))))))) (hx : ((.cons (.int .i64) (.cons (.int .i64) (.cons (.int .i64) (.cons .str (.cons (.int .i64) (.cons (.int .i64) (.cons (.sl e9) (.cons (.int .i64) (.cons (.sl e9) (.cons (.sl e3) (.cons (.sl e169) (.cons .bool (.cons (.sl e167) (.cons .str .nil)))))))))))))) : Tys).Ok x) : F41 (x, (x, ())) = some (B1 true) :=
  (eq_int (eq_int (eq_int (eq_str (eq_call (s68 (x.2.2.2.2.1, (x.2.2.2.2.2.1, (x.2.2.2.2.2.2.1, ()))) ⟨hx.2.2.2.2.1, ⟨hx.2.2.2.2.2.1, ⟨hx.2.2.2.2.2.2.1, trivial⟩⟩⟩) (eq_call (s69 (x.2.2.2.2.2.2.2.1, (x.2.2.2.2.2.2.2.2.1, (x.2.2.2.2.2.2.2.2.2.1, ()))) ⟨hx.2.2.2.2.2.2.2.1, ⟨hx.2.2.2.2.2.2.2.2.1, ⟨hx.2.2.2.2.2.2.2.2.2.1, trivial⟩⟩⟩) (eq_call (s73 (x.2.2.2.2.2.2.2.2.2.2.1, ()) ⟨hx.2.2.2.2.2.2.2.2.2.2.1, trivial⟩) (eq_bool (eq_call (s67 (x.2.2.2.2.2.2.2.2.2.2.2.2.1, ()) ⟨hx.2.2.2.2.2.2.2.2.2.2.2.2.1, trivial⟩) (eq_str rfl))))))))))
set_option maxHeartbeats 2000000 in
theorem s26 (x : (List (Tys.D e104) × Unit)) (hx : ((.cons (.sl e104) .nil) : Tys).Ok x) : F26 (x, (x, ())) = some (B1 true) :=
  eqList (xs := x.1) (E := fun y z v => (F41 (y, (z, ()))).bind fun r => bif (!r.1.1) then some (.inr (.inr (B1 false))) else some (.inl (iAdd .i64 v.1 1, ()))) hx.1.1 (fun y hy v => eq_call (s41 y (Ok_mem hx.1.2 hy)) rfl)
set_option maxHeartbeats 2000000 in
theorem s75 (x : (Int × (Int × (ByteArray × Unit)))) (hx : ((.cons (.int .i64) (.cons (.int .i64) (.cons .str .nil))) : Tys).Ok x) : F75 (x, (x, ())) = some (B1 true) :=
  (eq_int (eq_int (eq_str rfl)))
set_option maxHeartbeats 2000000 in
theorem s70 (x : (List (Tys.D e108) × Unit)) (hx : ((.cons (.sl e108) .nil) : Tys).Ok x) : F70 (x, (x, ())) = some (B1 true) :=
  eqList (xs := x.1) (E := fun y z v => (F75 (y, (z, ()))).bind fun r => bif (!r.1.1) then some (.inr (.inr (B1 false))) else some (.inl (iAdd .i64 v.1 1, ()))) hx.1.1 (fun y hy v => eq_call (s75 y (Ok_mem hx.1.2 hy)) rfl)
set_option maxHeartbeats 2000000 in
theorem s76 (x : (Int × (Int × (ByteArray × Unit)))) (hx : ((.cons (.int .i64) (.cons (.int .i64) (.cons .str .nil))) : Tys).Ok x) : F76 (x, (x, ())) = some (B1 true) :=
  (eq_int (eq_int (eq_str rfl)))
set_option maxHeartbeats 2000000 in
theorem s71 (x : (List (Tys.D e109) × Unit)) (hx : ((.cons (.sl e109) .nil) : Tys).Ok x) : F71 (x, (x, ())) = some (B1 true) :=
  eqList (xs := x.1) (E := fun y z v => (F76 (y, (z, ()))).bind fun r => bif (!r.1.1) then some (.inr (.inr (B1 false))) else some (.inl (iAdd .i64 v.1 1, ()))) hx.1.1 (fun y hy v => eq_call (s76 y (Ok_mem hx.1.2 hy)) rfl)
set_option maxHeartbeats 2000000 in
theorem s88 (x : (Int × (List (Tys.D e104) × (Int × (Int × (List (Tys.D e9) × Unit)))))) (hx : ((.cons (.int .i64) (.cons (.sl e104) (.cons (.int .i64) (.cons (.int .i64) (.cons (.sl e9) .nil))))) : Tys).Ok x) : F88 (x, (x, ())) = some (B1 true) :=
  (eq_int (eq_call (s26 (x.2.1, ()) ⟨hx.2.1, trivial⟩) (eq_call (s68 (x.2.2.1, (x.2.2.2.1, (x.2.2.2.2.1, ()))) ⟨hx.2.2.1, ⟨hx.2.2.2.1, ⟨hx.2.2.2.2.1, trivial⟩⟩⟩) rfl)))
set_option maxHeartbeats 2000000 in
theorem s74 (x : (List (Tys.D e172) × Unit)) (hx : ((.cons (.sl e172) .nil) : Tys).Ok x) : F74 (x, (x, ())) = some (B1 true) :=
  eqList (xs := x.1) (E := fun y z v => (F88 (y, (z, ()))).bind fun r => bif (!r.1.1) then some (.inr (.inr (B1 false))) else some (.inl (iAdd .i64 v.1 1, ()))) hx.1.1 (fun y hy v => eq_call (s88 y (Ok_mem hx.1.2 hy)) rfl)
set_option maxHeartbeats 2000000 in
theorem s40 (x : (ByteArray × (Int × (Int × (List (Tys.D e134) × (List (Tys.D e167) × (List (Tys.D e104) × (Int × (Int × (Int × (Int × (List (Tys.D e9) × (Int × (List (Tys.D e9) × (List (Tys.D e3) × (Int × (List (Tys.D e108) × (List (Tys.D e109) × (List (Tys.D e3) × (List (Tys.D e169) × (List (Tys.D e172) × Unit))))))))))))))))))))) (hx : ((.cons .str (.cons (.int .i64) (.cons (.int .i64) (.cons (.sl e134) (.cons (.sl e167) (.cons (.sl e104) (.cons (.int .i64) (.cons (.int .i64) (.cons (.int .i64) (.cons (.int .i64) (.cons (.sl e9) (.cons (.int .i64) (.cons (.sl e9) (.cons (.sl e3) (.cons (.int .i64) (.cons (.sl e108) (.cons (.sl e109) (.cons (.sl e3) (.cons (.sl e169) (.cons (.sl e172) .nil)))))))))))))))))))) : Tys).Ok x) : F40 (x, (x, ())) = some (B1 true) :=
  (eq_str (eq_int (eq_call (s23 (x.2.2.1, (x.2.2.2.1, ())) ⟨hx.2.2.1, ⟨hx.2.2.2.1, trivial⟩⟩) (eq_call (s67 (x.2.2.2.2.1, ()) ⟨hx.2.2.2.2.1, trivial⟩) (eq_call (s26 (x.2.2.2.2.2.1, ()) ⟨hx.2.2.2.2.2.1, trivial⟩) (eq_int (eq_int (eq_call (s68 (x.2.2.2.2.2.2.2.2.1, (x.2.2.2.2.2.2.2.2.2.1, (x.2.2.2.2.2.2.2.2.2.2.1, ()))) ⟨hx.2.2.2.2.2.2.2.2.1, ⟨hx.2.2.2.2.2.2.2.2.2.1, ⟨hx.2.2.2.2.2.2.2.2.2.2.1, trivial⟩⟩⟩) (eq_call (s69 (x.2.2.2.2.2.2.2.2.2.2.2.1, (x.2.2.2.2.2.2.2.2.2.2.2.2.1, (x.2.2.2.2.2.2.2.2.2.2.2.2.2.1, ()))) ⟨hx.2.2.2.2.2.2.2.2.2.2.2.1, ⟨hx.2.2.2.2.2.2.2.2.2.2.2.2.1, ⟨hx.2.2.2.2.2.2.2.2.2.2.2.2.2.1, trivial⟩⟩⟩) (eq_int (eq_call (s70 (x.2.2.2.2.2.2.2.2.2.2.2.2.2.2.2.1, ()) ⟨hx.2.2.2.2.2.2.2.2.2.2.2.2.2.2.2.1, trivial⟩) (eq_call (s71 (x.2.2.2.2.2.2.2.2.2.2.2.2.2.2.2.2.1, ()) ⟨hx.2.2.2.2.2.2.2.2.2.2.2.2.2.2.2.2.1, trivial⟩) (eq_call (s72 (x.2.2.2.2.2.2.2.2.2.2.2.2.2.2.2.2.2.1, ()) ⟨hx.2.2.2.2.2.2.2.2.2.2.2.2.2.2.2.2.2.1, trivial⟩) (eq_call (s73 (x.2.2.2.2.2.2.2.2.2.2.2.2.2.2.2.2.2.2.1, ()) ⟨hx.2.2.2.2.2.2.2.2.2.2.2.2.2.2.2.2.2.2.1, trivial⟩) (eq_call (s74 (x.2.2.2.2.2.2.2.2.2.2.2.2.2.2.2.2.2.2.2.1, ()) ⟨hx.2.2.2.2.2.2.2.2.2.2.2.2.2.2.2.2.2.2.2.1, trivial⟩) rfl)))))))))))))))
set_option maxHeartbeats 2000000 in
theorem s25 (x : (List (Tys.D e64) × Unit)) (hx : ((.cons (.sl e64) .nil) : Tys).Ok x) : F25 (x, (x, ())) = some (B1 true) :=
  eqList (xs := x.1) (E := fun y z v => (F40 (y, (z, ()))).bind fun r => bif (!r.1.1) then some (.inr (.inr (B1 false))) else some (.inl (iAdd .i64 v.1 1, ()))) hx.1.1 (fun y hy v => eq_call (s40 y (Ok_mem hx.1.2 hy)) rfl)
set_option maxHeartbeats 2000000 in
theorem s42 (x : (Int × (Int × (Int × (Int × (ByteArray × Unit)))))) (hx : ((.cons (.int .i64) (.cons (.int .i64) (.cons (.int .i64) (.cons (.int .i64) (.cons .str .nil))))) : Tys).Ok x) : F42 (x, (x, ())) = some (B1 true) :=
  (eq_int (eq_int (eq_int (eq_int (eq_str rfl)))))
set_option maxHeartbeats 2000000 in
theorem s27 (x : (List (Tys.D e106) × Unit)) (hx : ((.cons (.sl e106) .nil) : Tys).Ok x) : F27 (x, (x, ())) = some (B1 true) :=
  eqList (xs := x.1) (E := fun y z v => (F42 (y, (z, ()))).bind fun r => bif (!r.1.1) then some (.inr (.inr (B1 false))) else some (.inl (iAdd .i64 v.1 1, ()))) hx.1.1 (fun y hy v => eq_call (s42 y (Ok_mem hx.1.2 hy)) rfl)
set_option maxHeartbeats 2000000 in
theorem s43 (x : (Int × (ByteArray × (Int × (List (Tys.D e104) × (Int × (Int × (ByteArray × (Int × (Int × (ByteArray × (Int × (Int × (List (Tys.D e9) × (Int × (List (Tys.D e9) × (List (Tys.D e3) × Unit))))))))))))))))) (hx : ((.cons (.int .i64) (.cons .str (.cons (.int .i64) (.cons (.sl e104) (.cons (.int .i64) (.cons (.int .i64) (.cons .str (.cons (.int .i64) (.cons (.int .i64) (.cons .str (.cons (.int .i64) (.cons (.int .i64) (.cons (.sl e9) (.cons (.int .i64) (.cons (.sl e9) (.cons (.sl e3) .nil)))))))))))))))) : Tys).Ok x) : F43 (x, (x, ())) = some (B1 true) :=
  (eq_int (eq_str (eq_int (eq_call (s26 (x.2.2.2.1, ()) ⟨hx.2.2.2.1, trivial⟩) (eq_call (s75 (x.2.2.2.2.1, (x.2.2.2.2.2.1, (x.2.2.2.2.2.2.1, ()))) ⟨hx.2.2.2.2.1, ⟨hx.2.2.2.2.2.1, ⟨hx.2.2.2.2.2.2.1, trivial⟩⟩⟩) (eq_call (s76 (x.2.2.2.2.2.2.2.1, (x.2.2.2.2.2.2.2.2.1, (x.2.2.2.2.2.2.2.2.2.1, ()))) ⟨hx.2.2.2.2.2.2.2.1, ⟨hx.2.2.2.2.2.2.2.2.1, ⟨hx.2.2.2.2.2.2.2.2.2.1, trivial⟩⟩⟩) (eq_call (s68 (x.2.2.2.2.2.2.2.2.2.2.1, (x.2.2.2.2.2.2.2.2.2.2.2.1, (x.2.2.2.2.2.2.2.2.2.2.2.2.1, ()))) ⟨hx.2.2.2.2.2.2.2.2.2.2.1, ⟨hx.2.2.2.2.2.2.2.2.2.2.2.1, ⟨hx.2.2.2.2.2.2.2.2.2.2.2.2.1, trivial⟩⟩⟩) (eq_call (s69 (x.2.2.2.2.2.2.2.2.2.2.2.2.2.1, (x.2.2.2.2.2.2.2.2.2.2.2.2.2.2.1, (x.2.2.2.2.2.2.2.2.2.2.2.2.2.2.2.1, ()))) ⟨hx.2.2.2.2.2.2.2.2.2.2.2.2.2.1, ⟨hx.2.2.2.2.2.2.2.2.2.2.2.2.2.2.1, ⟨hx.2.2.2.2.2.2.2.2.2.2.2.2.2.2.2.1, trivial⟩⟩⟩) rfl))))))))
set_option maxHeartbeats 2000000 in
theorem s28 (x : (List (Tys.D e111) × Unit)) (hx : ((.cons (.sl e111) .nil) : Tys).Ok x) : F28 (x, (x, ())) = some (B1 true) :=
  eqList (xs := x.1) (E := fun y z v => (F43 (y, (z, ()))).bind fun r => bif (!r.1.1) then some (.inr (.inr (B1 false))) else some (.inl (iAdd .i64 v.1 1, ()))) hx.1.1 (fun y hy v => eq_call (s43 y (Ok_mem hx.1.2 hy)) rfl)
set_option maxHeartbeats 2000000 in
theorem s8 (x : (Int × (List (Tys.D e134) × (List (Tys.D e9) × (List (Tys.D e64) × (List (Tys.D e104) × (List (Tys.D e106) × (List (Tys.D e111) × Unit)))))))) (hx : ((.cons (.int .i64) (.cons (.sl e134) (.cons (.sl e9) (.cons (.sl e64) (.cons (.sl e104) (.cons (.sl e106) (.cons (.sl e111) .nil))))))) : Tys).Ok x) : F8 (x, (x, ())) = some (B1 true) :=
  (eq_call (s23 (x.1, (x.2.1, ())) ⟨hx.1, ⟨hx.2.1, trivial⟩⟩) (eq_call (s24 (x.2.2.1, ()) ⟨hx.2.2.1, trivial⟩) (eq_call (s25 (x.2.2.2.1, ()) ⟨hx.2.2.2.1, trivial⟩) (eq_call (s26 (x.2.2.2.2.1, ()) ⟨hx.2.2.2.2.1, trivial⟩) (eq_call (s27 (x.2.2.2.2.2.1, ()) ⟨hx.2.2.2.2.2.1, trivial⟩) (eq_call (s28 (x.2.2.2.2.2.2.1, ()) ⟨hx.2.2.2.2.2.2.1, trivial⟩) rfl))))))
end Go.Proofs.Ytphaibffjdfhpaa
