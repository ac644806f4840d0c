/- The laws' helpers: how much there is, copies, comparisons with itself. Conditions: none. -/

import Derived.Test.YtphaibffjdfhpaaGreatTm4
import Derived.Test.YtphaibffjdfhpaaGreatFoF
namespace Go.Proofs.YtphaibffjdfhpaaGreat
open Go Go.Tm
set_option linter.unusedVariables false
set_option maxRecDepth 100000
set_option maxHeartbeats 2000000 in
theorem w205 (x : (List (Tys.D e264) × Unit)) (hx : ((.cons (.sl e264) .nil) : Tys).Ok x) : Sz (((.cons (.sl e264) .nil) : Tys).w x) (fun l => F205 (x, ((l, ()), ()))) :=
  (Sz.str (a := List.length x.1) hx.1.1 Sz.nil).to (congrArg (fun z => List.length x.1 + z + 0) (sumW_zero (f := fun y => Tys.w e264 y) (fun _ => rfl) x.1)).symm
set_option maxHeartbeats 2000000 in
theorem w166 (x : (ByteArray × (Int × (Int × (Int × (List (Tys.D e264) × Unit)))))) (hx : ((.cons .str (.cons (.int .i64) (.cons (.int .i64) (.cons (.int .i64) (.cons (.sl e264) .nil))))) : Tys).Ok x) : Sz (((.cons .str (.cons (.int .i64) (.cons (.int .i64) (.cons (.int .i64) (.cons (.sl e264) .nil))))) : Tys).w x) (fun l => F166 (x, ((l, ()), ()))) :=
  (Sz.str (a := ByteArray.size x.1) hx.1 (Sz.int (Sz.int (Sz.int (Sz.call1 (w205 (x.2.2.2.2.1, ()) ⟨hx.2.2.2.2.1, trivial⟩) Sz.nil)))))
set_option maxHeartbeats 2000000 in
theorem w95 (x : (List (Tys.D e225) × Unit)) (hx : ((.cons (.sl e225) .nil) : Tys).Ok x) : Sz (((.cons (.sl e225) .nil) : Tys).w x) (fun l => F95 (x, ((l, ()), ()))) :=
  (Sz.list (xs := x.1) (T := fun y l => F166 (y, ((l, ()), ()))) (π := fun c => c.1.1) (wt := fun y => e225.w y) hx.1.1 (fun y hy => szR_T (x := y) (w166 y (Ok_mem hx.1.2 hy))))
set_option maxHeartbeats 2000000 in
theorem w22 (x : (Int × (List (Tys.D e225) × Unit))) (hx : ((.cons (.int .i64) (.cons (.sl e225) .nil)) : Tys).Ok x) : Sz (((.cons (.int .i64) (.cons (.sl e225) .nil)) : Tys).w x) (fun l => F22 (x, ((l, ()), ()))) :=
  (Sz.int (Sz.call1 (w95 (x.2.1, ()) ⟨hx.2.1, trivial⟩) Sz.nil))
set_option maxHeartbeats 2000000 in
theorem w23 (x : (List (Tys.D e9) × Unit)) (hx : ((.cons (.sl e9) .nil) : Tys).Ok x) : Sz (((.cons (.sl e9) .nil) : Tys).w x) (fun l => F23 (x, ((l, ()), ()))) :=
  (Sz.list (xs := x.1) (T := fun y l => some (iSub .i64 l (ByteArray.size y.1 : Int))) (π := fun c => c) (wt := fun y => ByteArray.size y.1) hx.1.1 (fun y hy => szR_S (Ok_mem hx.1.2 hy).1)).to rfl
set_option maxHeartbeats 2000000 in
theorem w130 (x : (ByteArray × (Int × Unit))) (hx : ((.cons .str (.cons (.int .i64) .nil)) : Tys).Ok x) : Sz (((.cons .str (.cons (.int .i64) .nil)) : Tys).w x) (fun l => F130 (x, ((l, ()), ()))) :=
  (Sz.str (a := ByteArray.size x.1) hx.1 (Sz.int Sz.nil))
set_option maxHeartbeats 2000000 in
theorem w41 (x : (List (Tys.D e170) × Unit)) (hx : ((.cons (.sl e170) .nil) : Tys).Ok x) : Sz (((.cons (.sl e170) .nil) : Tys).w x) (fun l => F41 (x, ((l, ()), ()))) :=
  (Sz.list (xs := x.1) (T := fun y l => F130 (y, ((l, ()), ()))) (π := fun c => c.1.1) (wt := fun y => e170.w y) hx.1.1 (fun y hy => szR_T (x := y) (w130 y (Ok_mem hx.1.2 hy))))
set_option maxHeartbeats 2000000 in
theorem w43 (x : (Int × (Int × (List (Tys.D e9) × Unit)))) (hx : ((.cons (.int .i64) (.cons (.int .i64) (.cons (.sl e9) .nil))) : Tys).Ok x) : Sz (((.cons (.int .i64) (.cons (.int .i64) (.cons (.sl e9) .nil))) : Tys).w x) (fun l => F43 (x, ((l, ()), ()))) :=
  (Sz.int (Sz.int (Sz.call1 (w23 (x.2.2.1, ()) ⟨hx.2.2.1, trivial⟩) Sz.nil)))
set_option maxHeartbeats 2000000 in
theorem w47 (x : (List (Tys.D e3) × Unit)) (hx : ((.cons (.sl e3) .nil) : Tys).Ok x) : Sz (((.cons (.sl e3) .nil) : Tys).w x) (fun l => F47 (x, ((l, ()), ()))) :=
  (Sz.str (a := List.length x.1) hx.1.1 Sz.nil).to (congrArg (fun z => List.length x.1 + z + 0) (sumW_zero (f := fun y => Tys.w e3 y) (fun _ => rfl) x.1)).symm
set_option maxHeartbeats 2000000 in
theorem w44 (x : (Int × (List (Tys.D e9) × (List (Tys.D e3) × Unit)))) (hx : ((.cons (.int .i64) (.cons (.sl e9) (.cons (.sl e3) .nil))) : Tys).Ok x) : Sz (((.cons (.int .i64) (.cons (.sl e9) (.cons (.sl e3) .nil))) : Tys).w x) (fun l => F44 (x, ((l, ()), ()))) :=
  (Sz.int (Sz.call1 (w23 (x.2.1, ()) ⟨hx.2.1, trivial⟩) (Sz.call1 (w47 (x.2.2.1, ()) ⟨hx.2.2.1, trivial⟩) Sz.nil)))
set_option maxHeartbeats 2000000 in
theorem w134 (x : (Int × (ByteArray × (ByteArray × (Int × (Int × Unit)))))) (hx : ((.cons (.int .i64) (.cons .str (.cons .str (.cons (.int .i64) (.cons (.int .i64) .nil))))) : Tys).Ok x) : Sz (((.cons (.int .i64) (.cons .str (.cons .str (.cons (.int .i64) (.cons (.int .i64) .nil))))) : Tys).w x) (fun l => F134 (x, ((l, ()), ()))) :=
  (Sz.int (Sz.str (a := ByteArray.size x.2.1) hx.2.1 (Sz.str (a := ByteArray.size x.2.2.1) hx.2.2.1 (Sz.int (Sz.int Sz.nil)))))
set_option maxHeartbeats 2000000 in
theorem w48 (x : (List (Tys.D e182) × Unit)) (hx : ((.cons (.sl e182) .nil) : Tys).Ok x) : Sz (((.cons (.sl e182) .nil) : Tys).w x) (fun l => F48 (x, ((l, ()), ()))) :=
  (Sz.list (xs := x.1) (T := fun y l => F134 (y, ((l, ()), ()))) (π := fun c => c.1.1) (wt := fun y => e182.w y) hx.1.1 (fun y hy => szR_T (x := y) (w134 y (Ok_mem hx.1.2 hy))))
set_option maxHeartbeats 2000000 in
theorem w131 (x : (Int × (Int × (Int × (ByteArray × (Int × (Int × (List (Tys.D e9) × (Int × (List (Tys.D e9) × (List (Tys.D e3) × (List (Tys.D e182) × (Bool × (List (Tys.D e170) × (ByteArray × Unit))))))))))))))) (hx : ((.cons (.int .i64) (.cons (.int .i64) (.cons (.int .i64) (.cons .str (.cons (.int .i64) (.cons (.int .i64) (.cons (.sl e9) (.cons (.int .i64) (.cons (.sl e9) (.cons (.sl e3) (.cons (.sl e182) (.cons .bool (.cons (.sl e170) (.cons .str .nil)))))))))))))) : Tys).Ok x) : Sz (((.cons (.int .i64) (.cons (.int .i64) (.cons (.int .i64) (.cons .str (.cons (.int .i64) (.cons (.int .i64) (.cons (.sl e9) (.cons (.int .i64) (.cons (.sl e9) (.cons (.sl e3) (.cons (.sl e182) (.cons .bool (.cons (.sl e170) (.cons .str .nil)))))))))))))) : Tys).w x) (fun l => F131 (x, ((l, ()), ()))) :=
  (Sz.int (Sz.int (Sz.int (Sz.str (a := ByteArray.size x.2.2.2.1) hx.2.2.2.1 (Sz.call3 (w43 (x.2.2.2.2.1, (x.2.2.2.2.2.1, (x.2.2.2.2.2.2.1, ()))) ⟨hx.2.2.2.2.1, ⟨hx.2.2.2.2.2.1, ⟨hx.2.2.2.2.2.2.1, trivial⟩⟩⟩) (Sz.call3 (w44 (x.2.2.2.2.2.2.2.1, (x.2.2.2.2.2.2.2.2.1, (x.2.2.2.2.2.2.2.2.2.1, ()))) ⟨hx.2.2.2.2.2.2.2.1, ⟨hx.2.2.2.2.2.2.2.2.1, ⟨hx.2.2.2.2.2.2.2.2.2.1, trivial⟩⟩⟩) (Sz.call1 (w48 (x.2.2.2.2.2.2.2.2.2.2.1, ()) ⟨hx.2.2.2.2.2.2.2.2.2.2.1, trivial⟩) (Sz.int (Sz.call1 (w41 (x.2.2.2.2.2.2.2.2.2.2.2.2.1, ()) ⟨hx.2.2.2.2.2.2.2.2.2.2.2.2.1, trivial⟩) (Sz.str (a := ByteArray.size x.2.2.2.2.2.2.2.2.2.2.2.2.2.1) hx.2.2.2.2.2.2.2.2.2.2.2.2.2.1 Sz.nil))))))))))
set_option maxHeartbeats 2000000 in
theorem w42 (x : (List (Tys.D e173) × Unit)) (hx : ((.cons (.sl e173) .nil) : Tys).Ok x) : Sz (((.cons (.sl e173) .nil) : Tys).w x) (fun l => F42 (x, ((l, ()), ()))) :=
  (Sz.list (xs := x.1) (T := fun y l => F131 (y, ((l, ()), ()))) (π := fun c => c.1.1) (wt := fun y => e173.w y) hx.1.1 (fun y hy => szR_T (x := y) (w131 y (Ok_mem hx.1.2 hy))))
set_option maxHeartbeats 2000000 in
theorem w132 (x : (Int × (Int × (ByteArray × Unit)))) (hx : ((.cons (.int .i64) (.cons (.int .i64) (.cons .str .nil))) : Tys).Ok x) : Sz (((.cons (.int .i64) (.cons (.int .i64) (.cons .str .nil))) : Tys).w x) (fun l => F132 (x, ((l, ()), ()))) :=
  (Sz.int (Sz.int (Sz.str (a := ByteArray.size x.2.2.1) hx.2.2.1 Sz.nil)))
set_option maxHeartbeats 2000000 in
theorem w45 (x : (List (Tys.D e176) × Unit)) (hx : ((.cons (.sl e176) .nil) : Tys).Ok x) : Sz (((.cons (.sl e176) .nil) : Tys).w x) (fun l => F45 (x, ((l, ()), ()))) :=
  (Sz.list (xs := x.1) (T := fun y l => F132 (y, ((l, ()), ()))) (π := fun c => c.1.1) (wt := fun y => e176.w y) hx.1.1 (fun y hy => szR_T (x := y) (w132 y (Ok_mem hx.1.2 hy))))
set_option maxHeartbeats 2000000 in
theorem w133 (x : (Int × (Int × (ByteArray × Unit)))) (hx : ((.cons (.int .i64) (.cons (.int .i64) (.cons .str .nil))) : Tys).Ok x) : Sz (((.cons (.int .i64) (.cons (.int .i64) (.cons .str .nil))) : Tys).w x) (fun l => F133 (x, ((l, ()), ()))) :=
  (Sz.int (Sz.int (Sz.str (a := ByteArray.size x.2.2.1) hx.2.2.1 Sz.nil)))
set_option maxHeartbeats 2000000 in
theorem w46 (x : (List (Tys.D e179) × Unit)) (hx : ((.cons (.sl e179) .nil) : Tys).Ok x) : Sz (((.cons (.sl e179) .nil) : Tys).w x) (fun l => F46 (x, ((l, ()), ()))) :=
  (Sz.list (xs := x.1) (T := fun y l => F133 (y, ((l, ()), ()))) (π := fun c => c.1.1) (wt := fun y => e179.w y) hx.1.1 (fun y hy => szR_T (x := y) (w133 y (Ok_mem hx.1.2 hy))))
set_option maxHeartbeats 2000000 in
theorem w135 (x : (Int × (List (Tys.D e173) × (Int × (Int × (List (Tys.D e9) × Unit)))))) (hx : ((.cons (.int .i64) (.cons (.sl e173) (.cons (.int .i64) (.cons (.int .i64) (.cons (.sl e9) .nil))))) : Tys).Ok x) : Sz (((.cons (.int .i64) (.cons (.sl e173) (.cons (.int .i64) (.cons (.int .i64) (.cons (.sl e9) .nil))))) : Tys).w x) (fun l => F135 (x, ((l, ()), ()))) :=
  (Sz.int (Sz.call1 (w42 (x.2.1, ()) ⟨hx.2.1, trivial⟩) (Sz.call3 (w43 (x.2.2.1, (x.2.2.2.1, (x.2.2.2.2.1, ()))) ⟨hx.2.2.1, ⟨hx.2.2.2.1, ⟨hx.2.2.2.2.1, trivial⟩⟩⟩) Sz.nil)))
set_option maxHeartbeats 2000000 in
theorem w49 (x : (List (Tys.D e185) × Unit)) (hx : ((.cons (.sl e185) .nil) : Tys).Ok x) : Sz (((.cons (.sl e185) .nil) : Tys).w x) (fun l => F49 (x, ((l, ()), ()))) :=
  (Sz.list (xs := x.1) (T := fun y l => F135 (y, ((l, ()), ()))) (π := fun c => c.1.1) (wt := fun y => e185.w y) hx.1.1 (fun y hy => szR_T (x := y) (w135 y (Ok_mem hx.1.2 hy))))
set_option maxHeartbeats 2000000 in
theorem w8 (x : (ByteArray × (Int × (Int × (List (Tys.D e225) × (List (Tys.D e170) × (List (Tys.D e173) × (Int × (Int × (Int × (Int × (List (Tys.D e9) × (Int × (List (Tys.D e9) × (List (Tys.D e3) × (Int × (List (Tys.D e176) × (List (Tys.D e179) × (List (Tys.D e3) × (List (Tys.D e182) × (List (Tys.D e185) × Unit))))))))))))))))))))) (hx : ((.cons .str (.cons (.int .i64) (.cons (.int .i64) (.cons (.sl e225) (.cons (.sl e170) (.cons (.sl e173) (.cons (.int .i64) (.cons (.int .i64) (.cons (.int .i64) (.cons (.int .i64) (.cons (.sl e9) (.cons (.int .i64) (.cons (.sl e9) (.cons (.sl e3) (.cons (.int .i64) (.cons (.sl e176) (.cons (.sl e179) (.cons (.sl e3) (.cons (.sl e182) (.cons (.sl e185) .nil)))))))))))))))))))) : Tys).Ok x) : Sz (((.cons .str (.cons (.int .i64) (.cons (.int .i64) (.cons (.sl e225) (.cons (.sl e170) (.cons (.sl e173) (.cons (.int .i64) (.cons (.int .i64) (.cons (.int .i64) (.cons (.int .i64) (.cons (.sl e9) (.cons (.int .i64) (.cons (.sl e9) (.cons (.sl e3) (.cons (.int .i64) (.cons (.sl e176) (.cons (.sl e179) (.cons (.sl e3) (.cons (.sl e182) (.cons (.sl e185) .nil)))))))))))))))))))) : Tys).w x) (fun l => F8 (x, ((l, ()), ()))) :=
  (Sz.str (a := ByteArray.size x.1) hx.1 (Sz.int (Sz.call2 (w22 (x.2.2.1, (x.2.2.2.1, ())) ⟨hx.2.2.1, ⟨hx.2.2.2.1, trivial⟩⟩) (Sz.call1 (w41 (x.2.2.2.2.1, ()) ⟨hx.2.2.2.2.1, trivial⟩) (Sz.call1 (w42 (x.2.2.2.2.2.1, ()) ⟨hx.2.2.2.2.2.1, trivial⟩) (Sz.int (Sz.int (Sz.call3 (w43 (x.2.2.2.2.2.2.2.2.1, (x.2.2.2.2.2.2.2.2.2.1, (x.2.2.2.2.2.2.2.2.2.2.1, ()))) ⟨hx.2.2.2.2.2.2.2.2.1, ⟨hx.2.2.2.2.2.2.2.2.2.1, ⟨hx.2.2.2.2.2.2.2.2.2.2.1, trivial⟩⟩⟩) (Sz.call3 (w44 (x.2.2.2.2.2.2.2.2.2.2.2.1, (x.2.2.2.2.2.2.2.2.2.2.2.2.1, (x.2.2.2.2.2.2.2.2.2.2.2.2.2.1, ()))) ⟨hx.2.2.2.2.2.2.2.2.2.2.2.1, ⟨hx.2.2.2.2.2.2.2.2.2.2.2.2.1, ⟨hx.2.2.2.2.2.2.2.2.2.2.2.2.2.1, trivial⟩⟩⟩) (Sz.int (Sz.call1 (w45 (x.2.2.2.2.2.2.2.2.2.2.2.2.2.2.2.1, ()) ⟨hx.2.2.2.2.2.2.2.2.2.2.2.2.2.2.2.1, trivial⟩) (Sz.call1 (w46 (x.2.2.2.2.2.2.2.2.2.2.2.2.2.2.2.2.1, ()) ⟨hx.2.2.2.2.2.2.2.2.2.2.2.2.2.2.2.2.1, trivial⟩) (Sz.call1 (w47 (x.2.2.2.2.2.2.2.2.2.2.2.2.2.2.2.2.2.1, ()) ⟨hx.2.2.2.2.2.2.2.2.2.2.2.2.2.2.2.2.2.1, trivial⟩) (Sz.call1 (w48 (x.2.2.2.2.2.2.2.2.2.2.2.2.2.2.2.2.2.2.1, ()) ⟨hx.2.2.2.2.2.2.2.2.2.2.2.2.2.2.2.2.2.2.1, trivial⟩) (Sz.call1 (w49 (x.2.2.2.2.2.2.2.2.2.2.2.2.2.2.2.2.2.2.2.1, ()) ⟨hx.2.2.2.2.2.2.2.2.2.2.2.2.2.2.2.2.2.2.2.1, trivial⟩) Sz.nil)))))))))))))))
set_option maxHeartbeats 2000000 in
theorem w82 (x : (List (Tys.D e38) × Unit)) (hx : ((.cons (.sl e38) .nil) : Tys).Ok x) : Sz (((.cons (.sl e38) .nil) : Tys).w x) (fun l => F82 (x, ((l, ()), ()))) :=
  (Sz.list (xs := x.1) (T := fun y l => F8 (y, ((l, ()), ()))) (π := fun c => c.1.1) (wt := fun y => e38.w y) hx.1.1 (fun y hy => szR_T (x := y) (w8 y (Ok_mem hx.1.2 hy))))
set_option maxHeartbeats 2000000 in
theorem w155 (x : (Int × (Int × (Int × (Int × (ByteArray × Unit)))))) (hx : ((.cons (.int .i64) (.cons (.int .i64) (.cons (.int .i64) (.cons (.int .i64) (.cons .str .nil))))) : Tys).Ok x) : Sz (((.cons (.int .i64) (.cons (.int .i64) (.cons (.int .i64) (.cons (.int .i64) (.cons .str .nil))))) : Tys).w x) (fun l => F155 (x, ((l, ()), ()))) :=
  (Sz.int (Sz.int (Sz.int (Sz.int (Sz.str (a := ByteArray.size x.2.2.2.2.1) hx.2.2.2.2.1 Sz.nil)))))
set_option maxHeartbeats 2000000 in
theorem w83 (x : (List (Tys.D e208) × Unit)) (hx : ((.cons (.sl e208) .nil) : Tys).Ok x) : Sz (((.cons (.sl e208) .nil) : Tys).w x) (fun l => F83 (x, ((l, ()), ()))) :=
  (Sz.list (xs := x.1) (T := fun y l => F155 (y, ((l, ()), ()))) (π := fun c => c.1.1) (wt := fun y => e208.w y) hx.1.1 (fun y hy => szR_T (x := y) (w155 y (Ok_mem hx.1.2 hy))))
set_option maxHeartbeats 2000000 in
theorem w156 (x : (Int × (ByteArray × (Int × (List (Tys.D e173) × (Int × (Int × (ByteArray × (Int × (Int × (ByteArray × (Int × (Int × (List (Tys.D e9) × (Int × (List (Tys.D e9) × (List (Tys.D e3) × Unit))))))))))))))))) (hx : ((.cons (.int .i64) (.cons .str (.cons (.int .i64) (.cons (.sl e173) (.cons (.int .i64) (.cons (.int .i64) (.cons .str (.cons (.int .i64) (.cons (.int .i64) (.cons .str (.cons (.int .i64) (.cons (.int .i64) (.cons (.sl e9) (.cons (.int .i64) (.cons (.sl e9) (.cons (.sl e3) .nil)))))))))))))))) : Tys).Ok x) : Sz (((.cons (.int .i64) (.cons .str (.cons (.int .i64) (.cons (.sl e173) (.cons (.int .i64) (.cons (.int .i64) (.cons .str (.cons (.int .i64) (.cons (.int .i64) (.cons .str (.cons (.int .i64) (.cons (.int .i64) (.cons (.sl e9) (.cons (.int .i64) (.cons (.sl e9) (.cons (.sl e3) .nil)))))))))))))))) : Tys).w x) (fun l => F156 (x, ((l, ()), ()))) :=
  (Sz.int (Sz.str (a := ByteArray.size x.2.1) hx.2.1 (Sz.int (Sz.call1 (w42 (x.2.2.2.1, ()) ⟨hx.2.2.2.1, trivial⟩) (Sz.call3 (w132 (x.2.2.2.2.1, (x.2.2.2.2.2.1, (x.2.2.2.2.2.2.1, ()))) ⟨hx.2.2.2.2.1, ⟨hx.2.2.2.2.2.1, ⟨hx.2.2.2.2.2.2.1, trivial⟩⟩⟩) (Sz.call3 (w133 (x.2.2.2.2.2.2.2.1, (x.2.2.2.2.2.2.2.2.1, (x.2.2.2.2.2.2.2.2.2.1, ()))) ⟨hx.2.2.2.2.2.2.2.1, ⟨hx.2.2.2.2.2.2.2.2.1, ⟨hx.2.2.2.2.2.2.2.2.2.1, trivial⟩⟩⟩) (Sz.call3 (w43 (x.2.2.2.2.2.2.2.2.2.2.1, (x.2.2.2.2.2.2.2.2.2.2.2.1, (x.2.2.2.2.2.2.2.2.2.2.2.2.1, ()))) ⟨hx.2.2.2.2.2.2.2.2.2.2.1, ⟨hx.2.2.2.2.2.2.2.2.2.2.2.1, ⟨hx.2.2.2.2.2.2.2.2.2.2.2.2.1, trivial⟩⟩⟩) (Sz.call3 (w44 (x.2.2.2.2.2.2.2.2.2.2.2.2.2.1, (x.2.2.2.2.2.2.2.2.2.2.2.2.2.2.1, (x.2.2.2.2.2.2.2.2.2.2.2.2.2.2.2.1, ()))) ⟨hx.2.2.2.2.2.2.2.2.2.2.2.2.2.1, ⟨hx.2.2.2.2.2.2.2.2.2.2.2.2.2.2.1, ⟨hx.2.2.2.2.2.2.2.2.2.2.2.2.2.2.2.1, trivial⟩⟩⟩) Sz.nil))))))))
set_option maxHeartbeats 2000000 in
theorem w84 (x : (List (Tys.D e211) × Unit)) (hx : ((.cons (.sl e211) .nil) : Tys).Ok x) : Sz (((.cons (.sl e211) .nil) : Tys).w x) (fun l => F84 (x, ((l, ()), ()))) :=
  (Sz.list (xs := x.1) (T := fun y l => F156 (y, ((l, ()), ()))) (π := fun c => c.1.1) (wt := fun y => e211.w y) hx.1.1 (fun y hy => szR_T (x := y) (w156 y (Ok_mem hx.1.2 hy))))
set_option maxHeartbeats 2000000 in
theorem w17 (x : (Int × (List (Tys.D e225) × (List (Tys.D e9) × (List (Tys.D e38) × (List (Tys.D e173) × (List (Tys.D e208) × (List (Tys.D e211) × Unit)))))))) (hx : ((.cons (.int .i64) (.cons (.sl e225) (.cons (.sl e9) (.cons (.sl e38) (.cons (.sl e173) (.cons (.sl e208) (.cons (.sl e211) .nil))))))) : Tys).Ok x) : Sz (((.cons (.int .i64) (.cons (.sl e225) (.cons (.sl e9) (.cons (.sl e38) (.cons (.sl e173) (.cons (.sl e208) (.cons (.sl e211) .nil))))))) : Tys).w x) (fun l => F17 (x, ((l, ()), ()))) :=
  (Sz.call2 (w22 (x.1, (x.2.1, ())) ⟨hx.1, ⟨hx.2.1, trivial⟩⟩) (Sz.call1 (w23 (x.2.2.1, ()) ⟨hx.2.2.1, trivial⟩) (Sz.call1 (w82 (x.2.2.2.1, ()) ⟨hx.2.2.2.1, trivial⟩) (Sz.call1 (w42 (x.2.2.2.2.1, ()) ⟨hx.2.2.2.2.1, trivial⟩) (Sz.call1 (w83 (x.2.2.2.2.2.1, ()) ⟨hx.2.2.2.2.2.1, trivial⟩) (Sz.call1 (w84 (x.2.2.2.2.2.2.1, ()) ⟨hx.2.2.2.2.2.2.1, trivial⟩) Sz.nil))))))
set_option maxHeartbeats 2000000 in
theorem t229 (x : (Int × (Int × Unit))) (hx : ((.cons (.int .i64) (.cons (.int .i64) .nil)) : Tys).w x ≤ 1048576) : F229 (x, ()) = some (x, ()) :=
  rfl
set_option maxHeartbeats 2000000 in
theorem t208 (x : (List (Tys.D e264) × Unit)) (hx : ((.cons (.sl e264) .nil) : Tys).w x ≤ 1048576) : F208 (x, ()) = some (x, ()) :=
  (toList (A := Tys.D e264) (B := Tys.D e248) (xs := x.1) (T := fun y => F229 (y, ())) (π := fun c => c.1) (φ := fun y => y) (bytes := 16) (by decide) (by decide) (w_len hx) (fun y hy => ⟨_, t229 y (w_el hx rfl hy), rfl⟩)).trans (congrArg (fun l => some ((l, ()), ())) (List.map_id' x.1))
set_option maxHeartbeats 2000000 in
theorem t171 (x : (ByteArray × (Int × (Int × (Int × (List (Tys.D e264) × Unit)))))) (hx : ((.cons .str (.cons (.int .i64) (.cons (.int .i64) (.cons (.int .i64) (.cons (.sl e264) .nil))))) : Tys).w x ≤ 1048576) : F171 (x, ()) = some (x, ()) :=
  (bind_eq (t208 (x.2.2.2.2.1, ()) (w_1 (w_tl (w_tl (w_tl (w_tl hx)))))) rfl)
set_option maxHeartbeats 2000000 in
theorem t101 (x : (List (Tys.D e225) × Unit)) (hx : ((.cons (.sl e225) .nil) : Tys).w x ≤ 1048576) : F101 (x, ()) = some (x, ()) :=
  (toList (A := Tys.D e225) (B := Tys.D e153) (xs := x.1) (T := fun y => F171 (y, ())) (π := fun c => c.1) (φ := fun y => y) (bytes := 64) (by decide) (by decide) (w_len hx) (fun y hy => ⟨_, t171 y (w_el hx rfl hy), rfl⟩)).trans (congrArg (fun l => some ((l, ()), ())) (List.map_id' x.1))
set_option maxHeartbeats 2000000 in
theorem t25 (x : (Int × (List (Tys.D e225) × Unit))) (hx : ((.cons (.int .i64) (.cons (.sl e225) .nil)) : Tys).w x ≤ 1048576) : F25 (x, ()) = some (x, ()) :=
  (bind_eq (t101 (x.2.1, ()) (w_1 (w_tl hx))) rfl)
set_option maxHeartbeats 2000000 in
theorem t26 (x : (List (Tys.D e9) × Unit)) (hx : ((.cons (.sl e9) .nil) : Tys).w x ≤ 1048576) : F26 (x, ()) = some (x, ()) :=
  (toList (A := Tys.D e9) (B := Tys.D e9) (xs := x.1) (T := fun y => some y) (π := fun c => c) (φ := fun y => y) (bytes := 16) (by decide) (by decide) (w_len hx) (fun y hy => ⟨_, rfl, rfl⟩)).trans (congrArg (fun l => some ((l, ()), ())) (List.map_id' x.1))
set_option maxHeartbeats 2000000 in
theorem t138 (x : (ByteArray × (Int × Unit))) (hx : ((.cons .str (.cons (.int .i64) .nil)) : Tys).w x ≤ 1048576) : F138 (x, ()) = some (x, ()) :=
  rfl
set_option maxHeartbeats 2000000 in
theorem t51 (x : (List (Tys.D e170) × Unit)) (hx : ((.cons (.sl e170) .nil) : Tys).w x ≤ 1048576) : F51 (x, ()) = some (x, ()) :=
  (toList (A := Tys.D e170) (B := Tys.D e188) (xs := x.1) (T := fun y => F138 (y, ())) (π := fun c => c.1) (φ := fun y => y) (bytes := 24) (by decide) (by decide) (w_len hx) (fun y hy => ⟨_, t138 y (w_el hx rfl hy), rfl⟩)).trans (congrArg (fun l => some ((l, ()), ())) (List.map_id' x.1))
set_option maxHeartbeats 2000000 in
theorem t53 (x : (Int × (Int × (List (Tys.D e9) × Unit)))) (hx : ((.cons (.int .i64) (.cons (.int .i64) (.cons (.sl e9) .nil))) : Tys).w x ≤ 1048576) : F53 (x, ()) = some (x, ()) :=
  (bind_eq (t26 (x.2.2.1, ()) (w_1 (w_tl (w_tl hx)))) rfl)
set_option maxHeartbeats 2000000 in
theorem t57 (x : (List (Tys.D e3) × Unit)) (hx : ((.cons (.sl e3) .nil) : Tys).w x ≤ 1048576) : F57 (x, ()) = some (x, ()) :=
  (toList (A := Tys.D e3) (B := Tys.D e3) (xs := x.1) (T := fun y => some y) (π := fun c => c) (φ := fun y => y) (bytes := 8) (by decide) (by decide) (w_len hx) (fun y hy => ⟨_, rfl, rfl⟩)).trans (congrArg (fun l => some ((l, ()), ())) (List.map_id' x.1))
set_option maxHeartbeats 2000000 in
theorem t54 (x : (Int × (List (Tys.D e9) × (List (Tys.D e3) × Unit)))) (hx : ((.cons (.int .i64) (.cons (.sl e9) (.cons (.sl e3) .nil))) : Tys).w x ≤ 1048576) : F54 (x, ()) = some (x, ()) :=
  (bind_eq (t26 (x.2.1, ()) (w_1 (w_tl hx))) (bind_eq (t57 (x.2.2.1, ()) (w_1 (w_tl (w_tl hx)))) rfl))
set_option maxHeartbeats 2000000 in
theorem t142 (x : (Int × (ByteArray × (ByteArray × (Int × (Int × Unit)))))) (hx : ((.cons (.int .i64) (.cons .str (.cons .str (.cons (.int .i64) (.cons (.int .i64) .nil))))) : Tys).w x ≤ 1048576) : F142 (x, ()) = some (x, ()) :=
  rfl
set_option maxHeartbeats 2000000 in
theorem t58 (x : (List (Tys.D e182) × Unit)) (hx : ((.cons (.sl e182) .nil) : Tys).w x ≤ 1048576) : F58 (x, ()) = some (x, ()) :=
  (toList (A := Tys.D e182) (B := Tys.D e195) (xs := x.1) (T := fun y => F142 (y, ())) (π := fun c => c.1) (φ := fun y => y) (bytes := 56) (by decide) (by decide) (w_len hx) (fun y hy => ⟨_, t142 y (w_el hx rfl hy), rfl⟩)).trans (congrArg (fun l => some ((l, ()), ())) (List.map_id' x.1))
set_option maxHeartbeats 2000000 in
theorem t139 (x : (Int × (Int × (Int × (ByteArray × (Int × (Int × (List (Tys.D e9) × (Int × (List (Tys.D e9) × (List (Tys.D e3) × (List (Tys.D e182) × (Bool × (List (Tys.D e170) × (ByteArray × Unit))))))))))))))) (hx : ((.cons (.int .i64) (.cons (.int .i64) (.cons (.int .i64) (.cons .str (.cons (.int .i64) (.cons (.int .i64) (.cons (.sl e9) (.cons (.int .i64) (.cons (.sl e9) (.cons (.sl e3) (.cons (.sl e182) (.cons .bool (.cons (.sl e170) (.cons .str .nil)))))))))))))) : Tys).w x ≤ 1048576) : F139 (x, ()) = some (x, ()) :=
  (bind_eq (t53 (x.2.2.2.2.1, (x.2.2.2.2.2.1, (x.2.2.2.2.2.2.1, ()))) (w_3 (w_tl (w_tl (w_tl (w_tl hx)))))) (bind_eq (t54 (x.2.2.2.2.2.2.2.1, (x.2.2.2.2.2.2.2.2.1, (x.2.2.2.2.2.2.2.2.2.1, ()))) (w_3 (w_tl (w_tl (w_tl (w_tl (w_tl (w_tl (w_tl hx))))))))) (bind_eq (t58 (x.2.2.2.2.2.2.2.2.2.2.1, ()) (w_1 (w_tl (w_tl (w_tl (w_tl (w_tl (w_tl (w_tl (w_tl (w_tl (w_tl hx)))))))))))) (bind_eq (t51 (x.2.2.2.2.2.2.2.2.2.2.2.2.1, ()) (w_1 (w_tl (w_tl (w_tl (w_tl (w_tl (w_tl (w_tl (w_tl (w_tl (w_tl (w_tl (w_tl hx)))))))))))))) rfl))))
set_option maxHeartbeats 2000000 in
theorem t52 (x : (List (Tys.D e173) × Unit)) (hx : ((.cons (.sl e173) .nil) : Tys).w x ≤ 1048576) : F52 (x, ()) = some (x, ()) :=
  (toList (A := Tys.D e173) (B := Tys.D e138) (xs := x.1) (T := fun y => F139 (y, ())) (π := fun c => c.1) (φ := fun y => y) (bytes := 208) (by decide) (by decide) (w_len hx) (fun y hy => ⟨_, t139 y (w_el hx rfl hy), rfl⟩)).trans (congrArg (fun l => some ((l, ()), ())) (List.map_id' x.1))
set_option maxHeartbeats 2000000 in
theorem t140 (x : (Int × (Int × (ByteArray × Unit)))) (hx : ((.cons (.int .i64) (.cons (.int .i64) (.cons .str .nil))) : Tys).w x ≤ 1048576) : F140 (x, ()) = some (x, ()) :=
  rfl
set_option maxHeartbeats 2000000 in
theorem t55 (x : (List (Tys.D e176) × Unit)) (hx : ((.cons (.sl e176) .nil) : Tys).w x ≤ 1048576) : F55 (x, ()) = some (x, ()) :=
  (toList (A := Tys.D e176) (B := Tys.D e191) (xs := x.1) (T := fun y => F140 (y, ())) (π := fun c => c.1) (φ := fun y => y) (bytes := 32) (by decide) (by decide) (w_len hx) (fun y hy => ⟨_, t140 y (w_el hx rfl hy), rfl⟩)).trans (congrArg (fun l => some ((l, ()), ())) (List.map_id' x.1))
set_option maxHeartbeats 2000000 in
theorem t141 (x : (Int × (Int × (ByteArray × Unit)))) (hx : ((.cons (.int .i64) (.cons (.int .i64) (.cons .str .nil))) : Tys).w x ≤ 1048576) : F141 (x, ()) = some (x, ()) :=
  rfl
set_option maxHeartbeats 2000000 in
theorem t56 (x : (List (Tys.D e179) × Unit)) (hx : ((.cons (.sl e179) .nil) : Tys).w x ≤ 1048576) : F56 (x, ()) = some (x, ()) :=
  (toList (A := Tys.D e179) (B := Tys.D e193) (xs := x.1) (T := fun y => F141 (y, ())) (π := fun c => c.1) (φ := fun y => y) (bytes := 32) (by decide) (by decide) (w_len hx) (fun y hy => ⟨_, t141 y (w_el hx rfl hy), rfl⟩)).trans (congrArg (fun l => some ((l, ()), ())) (List.map_id' x.1))
set_option maxHeartbeats 2000000 in
theorem t143 (x : (Int × (List (Tys.D e173) × (Int × (Int × (List (Tys.D e9) × Unit)))))) (hx : ((.cons (.int .i64) (.cons (.sl e173) (.cons (.int .i64) (.cons (.int .i64) (.cons (.sl e9) .nil))))) : Tys).w x ≤ 1048576) : F143 (x, ()) = some (x, ()) :=
  (bind_eq (t52 (x.2.1, ()) (w_1 (w_tl hx))) (bind_eq (t53 (x.2.2.1, (x.2.2.2.1, (x.2.2.2.2.1, ()))) (w_3 (w_tl (w_tl hx)))) rfl))
set_option maxHeartbeats 2000000 in
theorem t59 (x : (List (Tys.D e185) × Unit)) (hx : ((.cons (.sl e185) .nil) : Tys).w x ≤ 1048576) : F59 (x, ()) = some (x, ()) :=
  (toList (A := Tys.D e185) (B := Tys.D e43) (xs := x.1) (T := fun y => F143 (y, ())) (π := fun c => c.1) (φ := fun y => y) (bytes := 72) (by decide) (by decide) (w_len hx) (fun y hy => ⟨_, t143 y (w_el hx rfl hy), rfl⟩)).trans (congrArg (fun l => some ((l, ()), ())) (List.map_id' x.1))
set_option maxHeartbeats 2000000 in
theorem t10 (x : (ByteArray × (Int × (Int × (List (Tys.D e225) × (List (Tys.D e170) × (List (Tys.D e173) × (Int × (Int × (Int × (Int × (List (Tys.D e9) × (Int × (List (Tys.D e9) × (List (Tys.D e3) × (Int × (List (Tys.D e176) × (List (Tys.D e179) × (List (Tys.D e3) × (List (Tys.D e182) × (List (Tys.D e185) × Unit))))))))))))))))))))) (hx : ((.cons .str (.cons (.int .i64) (.cons (.int .i64) (.cons (.sl e225) (.cons (.sl e170) (.cons (.sl e173) (.cons (.int .i64) (.cons (.int .i64) (.cons (.int .i64) (.cons (.int .i64) (.cons (.sl e9) (.cons (.int .i64) (.cons (.sl e9) (.cons (.sl e3) (.cons (.int .i64) (.cons (.sl e176) (.cons (.sl e179) (.cons (.sl e3) (.cons (.sl e182) (.cons (.sl e185) .nil)))))))))))))))))))) : Tys).w x ≤ 1048576) : F10 (x, ()) = some (x, ()) :=
  (bind_eq (t25 (x.2.2.1, (x.2.2.2.1, ())) (w_2 (w_tl (w_tl hx)))) (bind_eq (t51 (x.2.2.2.2.1, ()) (w_1 (w_tl (w_tl (w_tl (w_tl hx)))))) (bind_eq (t52 (x.2.2.2.2.2.1, ()) (w_1 (w_tl (w_tl (w_tl (w_tl (w_tl hx))))))) (bind_eq (t53 (x.2.2.2.2.2.2.2.2.1, (x.2.2.2.2.2.2.2.2.2.1, (x.2.2.2.2.2.2.2.2.2.2.1, ()))) (w_3 (w_tl (w_tl (w_tl (w_tl (w_tl (w_tl (w_tl (w_tl hx)))))))))) (bind_eq (t54 (x.2.2.2.2.2.2.2.2.2.2.2.1, (x.2.2.2.2.2.2.2.2.2.2.2.2.1, (x.2.2.2.2.2.2.2.2.2.2.2.2.2.1, ()))) (w_3 (w_tl (w_tl (w_tl (w_tl (w_tl (w_tl (w_tl (w_tl (w_tl (w_tl (w_tl hx))))))))))))) (bind_eq (t55 (x.2.2.2.2.2.2.2.2.2.2.2.2.2.2.2.1, ()) (w_1 (w_tl (w_tl (w_tl (w_tl (w_tl (w_tl (w_tl (w_tl (w_tl (w_tl (w_tl (w_tl (w_tl (w_tl (w_tl hx))))))))))))))))) (bind_eq (t56 (x.2.2.2.2.2.2.2.2.2.2.2.2.2.2.2.2.1, ()) (w_1 (w_tl (w_tl (w_tl (w_tl (w_tl (w_tl (w_tl (w_tl (w_tl (w_tl (w_tl (w_tl (w_tl (w_tl (w_tl (w_tl hx)))))))))))))))))) (bind_eq (t57 (x.2.2.2.2.2.2.2.2.2.2.2.2.2.2.2.2.2.1, ()) (w_1 (w_tl (w_tl (w_tl (w_tl (w_tl (w_tl (w_tl (w_tl (w_tl (w_tl (w_tl (w_tl (w_tl (w_tl (w_tl (w_tl (w_tl hx))))))))))))))))))) (bind_eq (t58 (x.2.2.2.2.2.2.2.2.2.2.2.2.2.2.2.2.2.2.1, ()) (w_1 (w_tl (w_tl (w_tl (w_tl (w_tl (w_tl (w_tl (w_tl (w_tl (w_tl (w_tl (w_tl (w_tl (w_tl (w_tl (w_tl (w_tl (w_tl hx)))))))))))))))))))) (bind_eq (t59 (x.2.2.2.2.2.2.2.2.2.2.2.2.2.2.2.2.2.2.2.1, ()) (w_1 (w_tl (w_tl (w_tl (w_tl (w_tl (w_tl (w_tl (w_tl (w_tl (w_tl (w_tl (w_tl (w_tl (w_tl (w_tl (w_tl (w_tl (w_tl (w_tl hx))))))))))))))))))))) rfl))))))))))
set_option maxHeartbeats 2000000 in
theorem t87 (x : (List (Tys.D e38) × Unit)) (hx : ((.cons (.sl e38) .nil) : Tys).w x ≤ 1048576) : F87 (x, ()) = some (x, ()) :=
  (toList (A := Tys.D e38) (B := Tys.D e56) (xs := x.1) (T := fun y => F10 (y, ())) (π := fun c => c.1) (φ := fun y => y) (bytes := 344) (by decide) (by decide) (w_len hx) (fun y hy => ⟨_, t10 y (w_el hx rfl hy), rfl⟩)).trans (congrArg (fun l => some ((l, ()), ())) (List.map_id' x.1))
set_option maxHeartbeats 2000000 in
theorem t160 (x : (Int × (Int × (Int × (Int × (ByteArray × Unit)))))) (hx : ((.cons (.int .i64) (.cons (.int .i64) (.cons (.int .i64) (.cons (.int .i64) (.cons .str .nil))))) : Tys).w x ≤ 1048576) : F160 (x, ()) = some (x, ()) :=
  rfl
set_option maxHeartbeats 2000000 in
theorem t88 (x : (List (Tys.D e208) × Unit)) (hx : ((.cons (.sl e208) .nil) : Tys).w x ≤ 1048576) : F88 (x, ()) = some (x, ()) :=
  (toList (A := Tys.D e208) (B := Tys.D e214) (xs := x.1) (T := fun y => F160 (y, ())) (π := fun c => c.1) (φ := fun y => y) (bytes := 48) (by decide) (by decide) (w_len hx) (fun y hy => ⟨_, t160 y (w_el hx rfl hy), rfl⟩)).trans (congrArg (fun l => some ((l, ()), ())) (List.map_id' x.1))
set_option maxHeartbeats 2000000 in
theorem t161 (x : (Int × (ByteArray × (Int × (List (Tys.D e173) × (Int × (Int × (ByteArray × (Int × (Int × (ByteArray × (Int × (Int × (List (Tys.D e9) × (Int × (List (Tys.D e9) × (List (Tys.D e3) × Unit))))))))))))))))) (hx : ((.cons (.int .i64) (.cons .str (.cons (.int .i64) (.cons (.sl e173) (.cons (.int .i64) (.cons (.int .i64) (.cons .str (.cons (.int .i64) (.cons (.int .i64) (.cons .str (.cons (.int .i64) (.cons (.int .i64) (.cons (.sl e9) (.cons (.int .i64) (.cons (.sl e9) (.cons (.sl e3) .nil)))))))))))))))) : Tys).w x ≤ 1048576) : F161 (x, ()) = some (x, ()) :=
  (bind_eq (t52 (x.2.2.2.1, ()) (w_1 (w_tl (w_tl (w_tl hx))))) (bind_eq (t140 (x.2.2.2.2.1, (x.2.2.2.2.2.1, (x.2.2.2.2.2.2.1, ()))) (w_3 (w_tl (w_tl (w_tl (w_tl hx)))))) (bind_eq (t141 (x.2.2.2.2.2.2.2.1, (x.2.2.2.2.2.2.2.2.1, (x.2.2.2.2.2.2.2.2.2.1, ()))) (w_3 (w_tl (w_tl (w_tl (w_tl (w_tl (w_tl (w_tl hx))))))))) (bind_eq (t53 (x.2.2.2.2.2.2.2.2.2.2.1, (x.2.2.2.2.2.2.2.2.2.2.2.1, (x.2.2.2.2.2.2.2.2.2.2.2.2.1, ()))) (w_3 (w_tl (w_tl (w_tl (w_tl (w_tl (w_tl (w_tl (w_tl (w_tl (w_tl hx)))))))))))) (bind_eq (t54 (x.2.2.2.2.2.2.2.2.2.2.2.2.2.1, (x.2.2.2.2.2.2.2.2.2.2.2.2.2.2.1, (x.2.2.2.2.2.2.2.2.2.2.2.2.2.2.2.1, ()))) (w_3 (w_tl (w_tl (w_tl (w_tl (w_tl (w_tl (w_tl (w_tl (w_tl (w_tl (w_tl (w_tl (w_tl hx))))))))))))))) rfl)))))
set_option maxHeartbeats 2000000 in
theorem t89 (x : (List (Tys.D e211) × Unit)) (hx : ((.cons (.sl e211) .nil) : Tys).w x ≤ 1048576) : F89 (x, ()) = some (x, ()) :=
  (toList (A := Tys.D e211) (B := Tys.D e217) (xs := x.1) (T := fun y => F161 (y, ())) (π := fun c => c.1) (φ := fun y => y) (bytes := 216) (by decide) (by decide) (w_len hx) (fun y hy => ⟨_, t161 y (w_el hx rfl hy), rfl⟩)).trans (congrArg (fun l => some ((l, ()), ())) (List.map_id' x.1))
set_option maxHeartbeats 2000000 in
theorem t19 (x : (Int × (List (Tys.D e225) × (List (Tys.D e9) × (List (Tys.D e38) × (List (Tys.D e173) × (List (Tys.D e208) × (List (Tys.D e211) × Unit)))))))) (hx : ((.cons (.int .i64) (.cons (.sl e225) (.cons (.sl e9) (.cons (.sl e38) (.cons (.sl e173) (.cons (.sl e208) (.cons (.sl e211) .nil))))))) : Tys).w x ≤ 1048576) : F19 (x, ()) = some (x, ()) :=
  (bind_eq (t25 (x.1, (x.2.1, ())) (w_2 hx)) (bind_eq (t26 (x.2.2.1, ()) (w_1 (w_tl (w_tl hx)))) (bind_eq (t87 (x.2.2.2.1, ()) (w_1 (w_tl (w_tl (w_tl hx))))) (bind_eq (t52 (x.2.2.2.2.1, ()) (w_1 (w_tl (w_tl (w_tl (w_tl hx)))))) (bind_eq (t88 (x.2.2.2.2.2.1, ()) (w_1 (w_tl (w_tl (w_tl (w_tl (w_tl hx))))))) (bind_eq (t89 (x.2.2.2.2.2.2.1, ()) (w_1 (w_tl (w_tl (w_tl (w_tl (w_tl (w_tl hx)))))))) rfl))))))
set_option maxHeartbeats 2000000 in
theorem s231 (x : (Int × (Int × Unit))) (hx : ((.cons (.int .i64) (.cons (.int .i64) .nil)) : Tys).Ok x) : F231 (x, (x, ())) = some (B1 true) :=
  (eq_int (eq_int rfl))
set_option maxHeartbeats 2000000 in
theorem s212 (x : (List (Tys.D e248) × Unit)) (hx : ((.cons (.sl e248) .nil) : Tys).Ok x) : F212 (x, (x, ())) = some (B1 true) :=
  eqList (xs := x.1) (E := fun y z v => (F231 (y, (z, ()))).bind fun r => bif (!r.1.1) then some (.inr (.inr (B1 false))) else some (.inl (iAdd .i64 v.1 1, ()))) hx.1.1 (fun y hy v => eq_call (s231 y (Ok_mem hx.1.2 hy)) rfl)
set_option maxHeartbeats 2000000 in
theorem s178 (x : (ByteArray × (Int × (Int × (Int × (List (Tys.D e248) × Unit)))))) (hx : ((.cons .str (.cons (.int .i64) (.cons (.int .i64) (.cons (.int .i64) (.cons (.sl e248) .nil))))) : Tys).Ok x) : F178 (x, (x, ())) = some (B1 true) :=
  (eq_str (eq_int (eq_int (eq_int (eq_call (s212 (x.2.2.2.2.1, ()) ⟨hx.2.2.2.2.1, trivial⟩) rfl)))))
set_option maxHeartbeats 2000000 in
theorem s108 (x : (List (Tys.D e153) × Unit)) (hx : ((.cons (.sl e153) .nil) : Tys).Ok x) : F108 (x, (x, ())) = some (B1 true) :=
  eqList (xs := x.1) (E := fun y z v => (F178 (y, (z, ()))).bind fun r => bif (!r.1.1) then some (.inr (.inr (B1 false))) else some (.inl (iAdd .i64 v.1 1, ()))) hx.1.1 (fun y hy v => eq_call (s178 y (Ok_mem hx.1.2 hy)) rfl)
set_option maxHeartbeats 2000000 in
theorem s28 (x : (Int × (List (Tys.D e153) × Unit))) (hx : ((.cons (.int .i64) (.cons (.sl e153) .nil)) : Tys).Ok x) : F28 (x, (x, ())) = some (B1 true) :=
  (eq_int (eq_call (s108 (x.2.1, ()) ⟨hx.2.1, trivial⟩) rfl))
set_option maxHeartbeats 2000000 in
theorem s29 (x : (List (Tys.D e9) × Unit)) (hx : ((.cons (.sl e9) .nil) : Tys).Ok x) : F29 (x, (x, ())) = some (B1 true) :=
  eqList (xs := x.1) (E := fun y z v => bif !sEq y.1 z.1 then some (.inr (.inr (B1 false))) else some (.inl (iAdd .i64 v.1 1, ()))) hx.1.1 (fun y hy v => eq_str rfl)
set_option maxHeartbeats 2000000 in
theorem s149 (x : (ByteArray × (Int × Unit))) (hx : ((.cons .str (.cons (.int .i64) .nil)) : Tys).Ok x) : F149 (x, (x, ())) = some (B1 true) :=
  (eq_str (eq_int rfl))
set_option maxHeartbeats 2000000 in
theorem s64 (x : (List (Tys.D e188) × Unit)) (hx : ((.cons (.sl e188) .nil) : Tys).Ok x) : F64 (x, (x, ())) = some (B1 true) :=
  eqList (xs := x.1) (E := fun y z v => (F149 (y, (z, ()))).bind fun r => bif (!r.1.1) then some (.inr (.inr (B1 false))) else some (.inl (iAdd .i64 v.1 1, ()))) hx.1.1 (fun y hy v => eq_call (s149 y (Ok_mem hx.1.2 hy)) rfl)
set_option maxHeartbeats 2000000 in
theorem s63 (x : (Int × (Int × (List (Tys.D e9) × Unit)))) (hx : ((.cons (.int .i64) (.cons (.int .i64) (.cons (.sl e9) .nil))) : Tys).Ok x) : F63 (x, (x, ())) = some (B1 true) :=
  (eq_int (eq_int (eq_call (s29 (x.2.2.1, ()) ⟨hx.2.2.1, trivial⟩) rfl)))
set_option maxHeartbeats 2000000 in
theorem s68 (x : (List (Tys.D e3) × Unit)) (hx : ((.cons (.sl e3) .nil) : Tys).Ok x) : F68 (x, (x, ())) = some (B1 true) :=
  eqList (xs := x.1) (E := fun y z v => bif !iEq y.1 z.1 then some (.inr (.inr (B1 false))) else some (.inl (iAdd .i64 v.1 1, ()))) hx.1.1 (fun y hy v => eq_int rfl)
set_option maxHeartbeats 2000000 in
theorem s65 (x : (Int × (List (Tys.D e9) × (List (Tys.D e3) × Unit)))) (hx : ((.cons (.int .i64) (.cons (.sl e9) (.cons (.sl e3) .nil))) : Tys).Ok x) : F65 (x, (x, ())) = some (B1 true) :=
  (eq_int (eq_call (s29 (x.2.1, ()) ⟨hx.2.1, trivial⟩) (eq_call (s68 (x.2.2.1, ()) ⟨hx.2.2.1, trivial⟩) rfl)))
set_option maxHeartbeats 2000000 in
theorem s152 (x : (Int × (ByteArray × (ByteArray × (Int × (Int × Unit)))))) (hx : ((.cons (.int .i64) (.cons .str (.cons .str (.cons (.int .i64) (.cons (.int .i64) .nil))))) : Tys).Ok x) : F152 (x, (x, ())) = some (B1 true) :=
  (eq_int (eq_str (eq_str (eq_int (eq_int rfl)))))
set_option maxHeartbeats 2000000 in
theorem s69 (x : (List (Tys.D e195) × Unit)) (hx : ((.cons (.sl e195) .nil) : Tys).Ok x) : F69 (x, (x, ())) = some (B1 true) :=
  eqList (xs := x.1) (E := fun y z v => (F152 (y, (z, ()))).bind fun r => bif (!r.1.1) then some (.inr (.inr (B1 false))) else some (.inl (iAdd .i64 v.1 1, ()))) hx.1.1 (fun y hy v => eq_call (s152 y (Ok_mem hx.1.2 hy)) rfl)
set_option maxHeartbeats 2000000 in
theorem s148 (x : (Int × (Int × (Int × (ByteArray × (Int × (Int × (List (Tys.D e9) × (Int × (List (Tys.D e9) × (List (Tys.D e3) × (List (Tys.D e195) × (Bool × (List (Tys.D e188) × (ByteArray × Unit))))))))))))))) (hx : ((.cons (.int .i64) (.cons (.int .i64) (.cons (.int .i64) (.cons .str (.cons (.int .i64) (.cons (.int .i64) (.cons (.sl e9) (.cons (.int .i64) (.cons (.sl e9) (.cons (.sl e3) (.cons (.sl e195) (.cons .bool (.cons (.sl e188) (.cons .str .nil)))))))))))))) : Tys).Ok x) : F148 (x, (x, ())) = some (B1 true) :=
  (eq_int (eq_int (eq_int (eq_str (eq_call (s63 (x.2.2.2.2.1, (x.2.2.2.2.2.1, (x.2.2.2.2.2.2.1, ()))) ⟨hx.2.2.2.2.1, ⟨hx.2.2.2.2.2.1, ⟨hx.2.2.2.2.2.2.1, trivial⟩⟩⟩) (eq_call (s65 (x.2.2.2.2.2.2.2.1, (x.2.2.2.2.2.2.2.2.1, (x.2.2.2.2.2.2.2.2.2.1, ()))) ⟨hx.2.2.2.2.2.2.2.1, ⟨hx.2.2.2.2.2.2.2.2.1, ⟨hx.2.2.2.2.2.2.2.2.2.1, trivial⟩⟩⟩) (eq_call (s69 (x.2.2.2.2.2.2.2.2.2.2.1, ()) ⟨hx.2.2.2.2.2.2.2.2.2.2.1, trivial⟩) (eq_bool (eq_call (s64 (x.2.2.2.2.2.2.2.2.2.2.2.2.1, ()) ⟨hx.2.2.2.2.2.2.2.2.2.2.2.2.1, trivial⟩) (eq_str rfl))))))))))
set_option maxHeartbeats 2000000 in
theorem s62 (x : (List (Tys.D e138) × Unit)) (hx : ((.cons (.sl e138) .nil) : Tys).Ok x) : F62 (x, (x, ())) = some (B1 true) :=
  eqList (xs := x.1) (E := fun y z v => (F148 (y, (z, ()))).bind fun r => bif (!r.1.1) then some (.inr (.inr (B1 false))) else some (.inl (iAdd .i64 v.1 1, ()))) hx.1.1 (fun y hy v => eq_call (s148 y (Ok_mem hx.1.2 hy)) rfl)
set_option maxHeartbeats 2000000 in
theorem s150 (x : (Int × (Int × (ByteArray × Unit)))) (hx : ((.cons (.int .i64) (.cons (.int .i64) (.cons .str .nil))) : Tys).Ok x) : F150 (x, (x, ())) = some (B1 true) :=
  (eq_int (eq_int (eq_str rfl)))
set_option maxHeartbeats 2000000 in
theorem s66 (x : (List (Tys.D e191) × Unit)) (hx : ((.cons (.sl e191) .nil) : Tys).Ok x) : F66 (x, (x, ())) = some (B1 true) :=
  eqList (xs := x.1) (E := fun y z v => (F150 (y, (z, ()))).bind fun r => bif (!r.1.1) then some (.inr (.inr (B1 false))) else some (.inl (iAdd .i64 v.1 1, ()))) hx.1.1 (fun y hy v => eq_call (s150 y (Ok_mem hx.1.2 hy)) rfl)
set_option maxHeartbeats 2000000 in
theorem s151 (x : (Int × (Int × (ByteArray × Unit)))) (hx : ((.cons (.int .i64) (.cons (.int .i64) (.cons .str .nil))) : Tys).Ok x) : F151 (x, (x, ())) = some (B1 true) :=
  (eq_int (eq_int (eq_str rfl)))
set_option maxHeartbeats 2000000 in
theorem s67 (x : (List (Tys.D e193) × Unit)) (hx : ((.cons (.sl e193) .nil) : Tys).Ok x) : F67 (x, (x, ())) = some (B1 true) :=
  eqList (xs := x.1) (E := fun y z v => (F151 (y, (z, ()))).bind fun r => bif (!r.1.1) then some (.inr (.inr (B1 false))) else some (.inl (iAdd .i64 v.1 1, ()))) hx.1.1 (fun y hy v => eq_call (s151 y (Ok_mem hx.1.2 hy)) rfl)
set_option maxHeartbeats 2000000 in
theorem s12 (x : (Int × (List (Tys.D e138) × (Int × (Int × (List (Tys.D e9) × Unit)))))) (hx : ((.cons (.int .i64) (.cons (.sl e138) (.cons (.int .i64) (.cons (.int .i64) (.cons (.sl e9) .nil))))) : Tys).Ok x) : F12 (x, (x, ())) = some (B1 true) :=
  (eq_int (eq_call (s62 (x.2.1, ()) ⟨hx.2.1, trivial⟩) (eq_call (s63 (x.2.2.1, (x.2.2.2.1, (x.2.2.2.2.1, ()))) ⟨hx.2.2.1, ⟨hx.2.2.2.1, ⟨hx.2.2.2.2.1, trivial⟩⟩⟩) rfl)))
set_option maxHeartbeats 2000000 in
theorem s70 (x : (List (Tys.D e43) × Unit)) (hx : ((.cons (.sl e43) .nil) : Tys).Ok x) : F70 (x, (x, ())) = some (B1 true) :=
  eqList (xs := x.1) (E := fun y z v => (F12 (y, (z, ()))).bind fun r => bif (!r.1.1) then some (.inr (.inr (B1 false))) else some (.inl (iAdd .i64 v.1 1, ()))) hx.1.1 (fun y hy v => eq_call (s12 y (Ok_mem hx.1.2 hy)) rfl)
set_option maxHeartbeats 2000000 in
theorem s13 (x : (ByteArray × (Int × (Int × (List (Tys.D e153) × (List (Tys.D e188) × (List (Tys.D e138) × (Int × (Int × (Int × (Int × (List (Tys.D e9) × (Int × (List (Tys.D e9) × (List (Tys.D e3) × (Int × (List (Tys.D e191) × (List (Tys.D e193) × (List (Tys.D e3) × (List (Tys.D e195) × (List (Tys.D e43) × Unit))))))))))))))))))))) (hx : ((.cons .str (.cons (.int .i64) (.cons (.int .i64) (.cons (.sl e153) (.cons (.sl e188) (.cons (.sl e138) (.cons (.int .i64) (.cons (.int .i64) (.cons (.int .i64) (.cons (.int .i64) (.cons (.sl e9) (.cons (.int .i64) (.cons (.sl e9) (.cons (.sl e3) (.cons (.int .i64) (.cons (.sl e191) (.cons (.sl e193) (.cons (.sl e3) (.cons (.sl e195) (.cons (.sl e43) .nil)))))))))))))))))))) : Tys).Ok x) : F13 (x, (x, ())) = some (B1 true) :=
  (eq_str (eq_int (eq_call (s28 (x.2.2.1, (x.2.2.2.1, ())) ⟨hx.2.2.1, ⟨hx.2.2.2.1, trivial⟩⟩) (eq_call (s64 (x.2.2.2.2.1, ()) ⟨hx.2.2.2.2.1, trivial⟩) (eq_call (s62 (x.2.2.2.2.2.1, ()) ⟨hx.2.2.2.2.2.1, trivial⟩) (eq_int (eq_int (eq_call (s63 (x.2.2.2.2.2.2.2.2.1, (x.2.2.2.2.2.2.2.2.2.1, (x.2.2.2.2.2.2.2.2.2.2.1, ()))) ⟨hx.2.2.2.2.2.2.2.2.1, ⟨hx.2.2.2.2.2.2.2.2.2.1, ⟨hx.2.2.2.2.2.2.2.2.2.2.1, trivial⟩⟩⟩) (eq_call (s65 (x.2.2.2.2.2.2.2.2.2.2.2.1, (x.2.2.2.2.2.2.2.2.2.2.2.2.1, (x.2.2.2.2.2.2.2.2.2.2.2.2.2.1, ()))) ⟨hx.2.2.2.2.2.2.2.2.2.2.2.1, ⟨hx.2.2.2.2.2.2.2.2.2.2.2.2.1, ⟨hx.2.2.2.2.2.2.2.2.2.2.2.2.2.1, trivial⟩⟩⟩) (eq_int (eq_call (s66 (x.2.2.2.2.2.2.2.2.2.2.2.2.2.2.2.1, ()) ⟨hx.2.2.2.2.2.2.2.2.2.2.2.2.2.2.2.1, trivial⟩) (eq_call (s67 (x.2.2.2.2.2.2.2.2.2.2.2.2.2.2.2.2.1, ()) ⟨hx.2.2.2.2.2.2.2.2.2.2.2.2.2.2.2.2.1, trivial⟩) (eq_call (s68 (x.2.2.2.2.2.2.2.2.2.2.2.2.2.2.2.2.2.1, ()) ⟨hx.2.2.2.2.2.2.2.2.2.2.2.2.2.2.2.2.2.1, trivial⟩) (eq_call (s69 (x.2.2.2.2.2.2.2.2.2.2.2.2.2.2.2.2.2.2.1, ()) ⟨hx.2.2.2.2.2.2.2.2.2.2.2.2.2.2.2.2.2.2.1, trivial⟩) (eq_call (s70 (x.2.2.2.2.2.2.2.2.2.2.2.2.2.2.2.2.2.2.2.1, ()) ⟨hx.2.2.2.2.2.2.2.2.2.2.2.2.2.2.2.2.2.2.2.1, trivial⟩) rfl)))))))))))))))
set_option maxHeartbeats 2000000 in
theorem s92 (x : (List (Tys.D e56) × Unit)) (hx : ((.cons (.sl e56) .nil) : Tys).Ok x) : F92 (x, (x, ())) = some (B1 true) :=
  eqList (xs := x.1) (E := fun y z v => (F13 (y, (z, ()))).bind fun r => bif (!r.1.1) then some (.inr (.inr (B1 false))) else some (.inl (iAdd .i64 v.1 1, ()))) hx.1.1 (fun y hy v => eq_call (s13 y (Ok_mem hx.1.2 hy)) rfl)
set_option maxHeartbeats 2000000 in
theorem s164 (x : (Int × (Int × (Int × (Int × (ByteArray × Unit)))))) (hx : ((.cons (.int .i64) (.cons (.int .i64) (.cons (.int .i64) (.cons (.int .i64) (.cons .str .nil))))) : Tys).Ok x) : F164 (x, (x, ())) = some (B1 true) :=
  (eq_int (eq_int (eq_int (eq_int (eq_str rfl)))))
set_option maxHeartbeats 2000000 in
theorem s93 (x : (List (Tys.D e214) × Unit)) (hx : ((.cons (.sl e214) .nil) : Tys).Ok x) : F93 (x, (x, ())) = some (B1 true) :=
  eqList (xs := x.1) (E := fun y z v => (F164 (y, (z, ()))).bind fun r => bif (!r.1.1) then some (.inr (.inr (B1 false))) else some (.inl (iAdd .i64 v.1 1, ()))) hx.1.1 (fun y hy v => eq_call (s164 y (Ok_mem hx.1.2 hy)) rfl)
set_option maxHeartbeats 2000000 in
theorem s165 (x : (Int × (ByteArray × (Int × (List (Tys.D e138) × (Int × (Int × (ByteArray × (Int × (Int × (ByteArray × (Int × (Int × (List (Tys.D e9) × (Int × (List (Tys.D e9) × (List (Tys.D e3) × Unit))))))))))))))))) (hx : ((.cons (.int .i64) (.cons .str (.cons (.int .i64) (.cons (.sl e138) (.cons (.int .i64) (.cons (.int .i64) (.cons .str (.cons (.int .i64) (.cons (.int .i64) (.cons .str (.cons (.int .i64) (.cons (.int .i64) (.cons (.sl e9) (.cons (.int .i64) (.cons (.sl e9) (.cons (.sl e3) .nil)))))))))))))))) : Tys).Ok x) : F165 (x, (x, ())) = some (B1 true) :=
  (eq_int (eq_str (eq_int (eq_call (s62 (x.2.2.2.1, ()) ⟨hx.2.2.2.1, trivial⟩) (eq_call (s150 (x.2.2.2.2.1, (x.2.2.2.2.2.1, (x.2.2.2.2.2.2.1, ()))) ⟨hx.2.2.2.2.1, ⟨hx.2.2.2.2.2.1, ⟨hx.2.2.2.2.2.2.1, trivial⟩⟩⟩) (eq_call (s151 (x.2.2.2.2.2.2.2.1, (x.2.2.2.2.2.2.2.2.1, (x.2.2.2.2.2.2.2.2.2.1, ()))) ⟨hx.2.2.2.2.2.2.2.1, ⟨hx.2.2.2.2.2.2.2.2.1, ⟨hx.2.2.2.2.2.2.2.2.2.1, trivial⟩⟩⟩) (eq_call (s63 (x.2.2.2.2.2.2.2.2.2.2.1, (x.2.2.2.2.2.2.2.2.2.2.2.1, (x.2.2.2.2.2.2.2.2.2.2.2.2.1, ()))) ⟨hx.2.2.2.2.2.2.2.2.2.2.1, ⟨hx.2.2.2.2.2.2.2.2.2.2.2.1, ⟨hx.2.2.2.2.2.2.2.2.2.2.2.2.1, trivial⟩⟩⟩) (eq_call (s65 (x.2.2.2.2.2.2.2.2.2.2.2.2.2.1, (x.2.2.2.2.2.2.2.2.2.2.2.2.2.2.1, (x.2.2.2.2.2.2.2.2.2.2.2.2.2.2.2.1, ()))) ⟨hx.2.2.2.2.2.2.2.2.2.2.2.2.2.1, ⟨hx.2.2.2.2.2.2.2.2.2.2.2.2.2.2.1, ⟨hx.2.2.2.2.2.2.2.2.2.2.2.2.2.2.2.1, trivial⟩⟩⟩) rfl))))))))
set_option maxHeartbeats 2000000 in
theorem s94 (x : (List (Tys.D e217) × Unit)) (hx : ((.cons (.sl e217) .nil) : Tys).Ok x) : F94 (x, (x, ())) = some (B1 true) :=
  eqList (xs := x.1) (E := fun y z v => (F165 (y, (z, ()))).bind fun r => bif (!r.1.1) then some (.inr (.inr (B1 false))) else some (.inl (iAdd .i64 v.1 1, ()))) hx.1.1 (fun y hy v => eq_call (s165 y (Ok_mem hx.1.2 hy)) rfl)
set_option maxHeartbeats 2000000 in
theorem s21 (x : (Int × (List (Tys.D e153) × (List (Tys.D e9) × (List (Tys.D e56) × (List (Tys.D e138) × (List (Tys.D e214) × (List (Tys.D e217) × Unit)))))))) (hx : ((.cons (.int .i64) (.cons (.sl e153) (.cons (.sl e9) (.cons (.sl e56) (.cons (.sl e138) (.cons (.sl e214) (.cons (.sl e217) .nil))))))) : Tys).Ok x) : F21 (x, (x, ())) = some (B1 true) :=
  (eq_call (s28 (x.1, (x.2.1, ())) ⟨hx.1, ⟨hx.2.1, trivial⟩⟩) (eq_call (s29 (x.2.2.1, ()) ⟨hx.2.2.1, trivial⟩) (eq_call (s92 (x.2.2.2.1, ()) ⟨hx.2.2.2.1, trivial⟩) (eq_call (s62 (x.2.2.2.2.1, ()) ⟨hx.2.2.2.2.1, trivial⟩) (eq_call (s93 (x.2.2.2.2.2.1, ()) ⟨hx.2.2.2.2.2.1, trivial⟩) (eq_call (s94 (x.2.2.2.2.2.2.1, ()) ⟨hx.2.2.2.2.2.2.1, trivial⟩) rfl))))))
end Go.Proofs.YtphaibffjdfhpaaGreat
