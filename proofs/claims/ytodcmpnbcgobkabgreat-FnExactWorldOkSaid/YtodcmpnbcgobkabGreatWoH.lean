/- The laws' helpers: how much there is, copies, comparisons with itself. Conditions: none. -/

import Derived.Test.YtodcmpnbcgobkabGreatTm4
import Derived.Test.YtodcmpnbcgobkabGreatWoF
namespace Go.Proofs.YtodcmpnbcgobkabGreat
open Go Go.Tm
set_option linter.unusedVariables false
set_option maxRecDepth 100000
set_option maxHeartbeats 2000000 in
theorem w146 (x : (List (Tys.D e220) × Unit)) (hx : ((.cons (.sl e220) .nil) : Tys).Ok x) : Sz (((.cons (.sl e220) .nil) : Tys).w x) (fun l => F146 (x, ((l, ()), ()))) :=
  (Sz.str (a := List.length x.1) hx.1.1 Sz.nil).to (congrArg (fun z => List.length x.1 + z + 0) (sumW_zero (f := fun y => Tys.w e220 y) (fun _ => rfl) x.1)).symm
set_option maxHeartbeats 2000000 in
theorem w92 (x : (ByteArray × (Int × (Int × (Int × (List (Tys.D e220) × Unit)))))) (hx : ((.cons .str (.cons (.int .i64) (.cons (.int .i64) (.cons (.int .i64) (.cons (.sl e220) .nil))))) : Tys).Ok x) : Sz (((.cons .str (.cons (.int .i64) (.cons (.int .i64) (.cons (.int .i64) (.cons (.sl e220) .nil))))) : Tys).w x) (fun l => F92 (x, ((l, ()), ()))) :=
  (Sz.str (a := ByteArray.size x.1) hx.1 (Sz.int (Sz.int (Sz.int (Sz.call1 (w146 (x.2.2.2.2.1, ()) ⟨hx.2.2.2.2.1, trivial⟩) Sz.nil)))))
set_option maxHeartbeats 2000000 in
theorem w42 (x : (List (Tys.D e150) × Unit)) (hx : ((.cons (.sl e150) .nil) : Tys).Ok x) : Sz (((.cons (.sl e150) .nil) : Tys).w x) (fun l => F42 (x, ((l, ()), ()))) :=
  (Sz.list (xs := x.1) (T := fun y l => F92 (y, ((l, ()), ()))) (π := fun c => c.1.1) (wt := fun y => e150.w y) hx.1.1 (fun y hy => szR_T (x := y) (w92 y (Ok_mem hx.1.2 hy))))
set_option maxHeartbeats 2000000 in
theorem w9 (x : (Int × (List (Tys.D e150) × Unit))) (hx : ((.cons (.int .i64) (.cons (.sl e150) .nil)) : Tys).Ok x) : Sz (((.cons (.int .i64) (.cons (.sl e150) .nil)) : Tys).w x) (fun l => F9 (x, ((l, ()), ()))) :=
  (Sz.int (Sz.call1 (w42 (x.2.1, ()) ⟨hx.2.1, trivial⟩) Sz.nil))
set_option maxHeartbeats 2000000 in
theorem w10 (x : (List (Tys.D e9) × Unit)) (hx : ((.cons (.sl e9) .nil) : Tys).Ok x) : Sz (((.cons (.sl e9) .nil) : Tys).w x) (fun l => F10 (x, ((l, ()), ()))) :=
  (Sz.list (xs := x.1) (T := fun y l => some (iSub .i64 l (ByteArray.size y.1 : Int))) (π := fun c => c) (wt := fun y => ByteArray.size y.1) hx.1.1 (fun y hy => szR_S (Ok_mem hx.1.2 hy).1)).to rfl
set_option maxHeartbeats 2000000 in
theorem w147 (x : (ByteArray × (Int × Unit))) (hx : ((.cons .str (.cons (.int .i64) .nil)) : Tys).Ok x) : Sz (((.cons .str (.cons (.int .i64) .nil)) : Tys).w x) (fun l => F147 (x, ((l, ()), ()))) :=
  (Sz.str (a := ByteArray.size x.1) hx.1 (Sz.int Sz.nil))
set_option maxHeartbeats 2000000 in
theorem w93 (x : (List (Tys.D e195) × Unit)) (hx : ((.cons (.sl e195) .nil) : Tys).Ok x) : Sz (((.cons (.sl e195) .nil) : Tys).w x) (fun l => F93 (x, ((l, ()), ()))) :=
  (Sz.list (xs := x.1) (T := fun y l => F147 (y, ((l, ()), ()))) (π := fun c => c.1.1) (wt := fun y => e195.w y) hx.1.1 (fun y hy => szR_T (x := y) (w147 y (Ok_mem hx.1.2 hy))))
set_option maxHeartbeats 2000000 in
theorem w94 (x : (Int × (Int × (List (Tys.D e9) × Unit)))) (hx : ((.cons (.int .i64) (.cons (.int .i64) (.cons (.sl e9) .nil))) : Tys).Ok x) : Sz (((.cons (.int .i64) (.cons (.int .i64) (.cons (.sl e9) .nil))) : Tys).w x) (fun l => F94 (x, ((l, ()), ()))) :=
  (Sz.int (Sz.int (Sz.call1 (w10 (x.2.2.1, ()) ⟨hx.2.2.1, trivial⟩) Sz.nil)))
set_option maxHeartbeats 2000000 in
theorem w98 (x : (List (Tys.D e3) × Unit)) (hx : ((.cons (.sl e3) .nil) : Tys).Ok x) : Sz (((.cons (.sl e3) .nil) : Tys).w x) (fun l => F98 (x, ((l, ()), ()))) :=
  (Sz.str (a := List.length x.1) hx.1.1 Sz.nil).to (congrArg (fun z => List.length x.1 + z + 0) (sumW_zero (f := fun y => Tys.w e3 y) (fun _ => rfl) x.1)).symm
set_option maxHeartbeats 2000000 in
theorem w95 (x : (Int × (List (Tys.D e9) × (List (Tys.D e3) × Unit)))) (hx : ((.cons (.int .i64) (.cons (.sl e9) (.cons (.sl e3) .nil))) : Tys).Ok x) : Sz (((.cons (.int .i64) (.cons (.sl e9) (.cons (.sl e3) .nil))) : Tys).w x) (fun l => F95 (x, ((l, ()), ()))) :=
  (Sz.int (Sz.call1 (w10 (x.2.1, ()) ⟨hx.2.1, trivial⟩) (Sz.call1 (w98 (x.2.2.1, ()) ⟨hx.2.2.1, trivial⟩) Sz.nil)))
set_option maxHeartbeats 2000000 in
theorem w148 (x : (Int × (ByteArray × (ByteArray × (Int × (Int × Unit)))))) (hx : ((.cons (.int .i64) (.cons .str (.cons .str (.cons (.int .i64) (.cons (.int .i64) .nil))))) : Tys).Ok x) : Sz (((.cons (.int .i64) (.cons .str (.cons .str (.cons (.int .i64) (.cons (.int .i64) .nil))))) : Tys).w x) (fun l => F148 (x, ((l, ()), ()))) :=
  (Sz.int (Sz.str (a := ByteArray.size x.2.1) hx.2.1 (Sz.str (a := ByteArray.size x.2.2.1) hx.2.2.1 (Sz.int (Sz.int Sz.nil)))))
set_option maxHeartbeats 2000000 in
theorem w99 (x : (List (Tys.D e197) × Unit)) (hx : ((.cons (.sl e197) .nil) : Tys).Ok x) : Sz (((.cons (.sl e197) .nil) : Tys).w x) (fun l => F99 (x, ((l, ()), ()))) :=
  (Sz.list (xs := x.1) (T := fun y l => F148 (y, ((l, ()), ()))) (π := fun c => c.1.1) (wt := fun y => e197.w y) hx.1.1 (fun y hy => szR_T (x := y) (w148 y (Ok_mem hx.1.2 hy))))
set_option maxHeartbeats 2000000 in
theorem w44 (x : (Int × (Int × (Int × (ByteArray × (Int × (Int × (List (Tys.D e9) × (Int × (List (Tys.D e9) × (List (Tys.D e3) × (List (Tys.D e197) × (Bool × (List (Tys.D e195) × (ByteArray × Unit))))))))))))))) (hx : ((.cons (.int .i64) (.cons (.int .i64) (.cons (.int .i64) (.cons .str (.cons (.int .i64) (.cons (.int .i64) (.cons (.sl e9) (.cons (.int .i64) (.cons (.sl e9) (.cons (.sl e3) (.cons (.sl e197) (.cons .bool (.cons (.sl e195) (.cons .str .nil)))))))))))))) : Tys).Ok x) : Sz (((.cons (.int .i64) (.cons (.int .i64) (.cons (.int .i64) (.cons .str (.cons (.int .i64) (.cons (.int .i64) (.cons (.sl e9) (.cons (.int .i64) (.cons (.sl e9) (.cons (.sl e3) (.cons (.sl e197) (.cons .bool (.cons (.sl e195) (.cons .str .nil)))))))))))))) : Tys).w x) (fun l => F44 (x, ((l, ()), ()))) :=
  (Sz.int (Sz.int (Sz.int (Sz.str (a := ByteArray.size x.2.2.2.1) hx.2.2.2.1 (Sz.call3 (w94 (x.2.2.2.2.1, (x.2.2.2.2.2.1, (x.2.2.2.2.2.2.1, ()))) ⟨hx.2.2.2.2.1, ⟨hx.2.2.2.2.2.1, ⟨hx.2.2.2.2.2.2.1, trivial⟩⟩⟩) (Sz.call3 (w95 (x.2.2.2.2.2.2.2.1, (x.2.2.2.2.2.2.2.2.1, (x.2.2.2.2.2.2.2.2.2.1, ()))) ⟨hx.2.2.2.2.2.2.2.1, ⟨hx.2.2.2.2.2.2.2.2.1, ⟨hx.2.2.2.2.2.2.2.2.2.1, trivial⟩⟩⟩) (Sz.call1 (w99 (x.2.2.2.2.2.2.2.2.2.2.1, ()) ⟨hx.2.2.2.2.2.2.2.2.2.2.1, trivial⟩) (Sz.int (Sz.call1 (w93 (x.2.2.2.2.2.2.2.2.2.2.2.2.1, ()) ⟨hx.2.2.2.2.2.2.2.2.2.2.2.2.1, trivial⟩) (Sz.str (a := ByteArray.size x.2.2.2.2.2.2.2.2.2.2.2.2.2.1) hx.2.2.2.2.2.2.2.2.2.2.2.2.2.1 Sz.nil))))))))))
set_option maxHeartbeats 2000000 in
theorem w12 (x : (List (Tys.D e107) × Unit)) (hx : ((.cons (.sl e107) .nil) : Tys).Ok x) : Sz (((.cons (.sl e107) .nil) : Tys).w x) (fun l => F12 (x, ((l, ()), ()))) :=
  (Sz.list (xs := x.1) (T := fun y l => F44 (y, ((l, ()), ()))) (π := fun c => c.1.1) (wt := fun y => e107.w y) hx.1.1 (fun y hy => szR_T (x := y) (w44 y (Ok_mem hx.1.2 hy))))
set_option maxHeartbeats 2000000 in
theorem w101 (x : (Int × (Int × (ByteArray × Unit)))) (hx : ((.cons (.int .i64) (.cons (.int .i64) (.cons .str .nil))) : Tys).Ok x) : Sz (((.cons (.int .i64) (.cons (.int .i64) (.cons .str .nil))) : Tys).w x) (fun l => F101 (x, ((l, ()), ()))) :=
  (Sz.int (Sz.int (Sz.str (a := ByteArray.size x.2.2.1) hx.2.2.1 Sz.nil)))
set_option maxHeartbeats 2000000 in
theorem w96 (x : (List (Tys.D e112) × Unit)) (hx : ((.cons (.sl e112) .nil) : Tys).Ok x) : Sz (((.cons (.sl e112) .nil) : Tys).w x) (fun l => F96 (x, ((l, ()), ()))) :=
  (Sz.list (xs := x.1) (T := fun y l => F101 (y, ((l, ()), ()))) (π := fun c => c.1.1) (wt := fun y => e112.w y) hx.1.1 (fun y hy => szR_T (x := y) (w101 y (Ok_mem hx.1.2 hy))))
set_option maxHeartbeats 2000000 in
theorem w102 (x : (Int × (Int × (ByteArray × Unit)))) (hx : ((.cons (.int .i64) (.cons (.int .i64) (.cons .str .nil))) : Tys).Ok x) : Sz (((.cons (.int .i64) (.cons (.int .i64) (.cons .str .nil))) : Tys).w x) (fun l => F102 (x, ((l, ()), ()))) :=
  (Sz.int (Sz.int (Sz.str (a := ByteArray.size x.2.2.1) hx.2.2.1 Sz.nil)))
set_option maxHeartbeats 2000000 in
theorem w97 (x : (List (Tys.D e113) × Unit)) (hx : ((.cons (.sl e113) .nil) : Tys).Ok x) : Sz (((.cons (.sl e113) .nil) : Tys).w x) (fun l => F97 (x, ((l, ()), ()))) :=
  (Sz.list (xs := x.1) (T := fun y l => F102 (y, ((l, ()), ()))) (π := fun c => c.1.1) (wt := fun y => e113.w y) hx.1.1 (fun y hy => szR_T (x := y) (w102 y (Ok_mem hx.1.2 hy))))
set_option maxHeartbeats 2000000 in
theorem w149 (x : (Int × (List (Tys.D e107) × (Int × (Int × (List (Tys.D e9) × Unit)))))) (hx : ((.cons (.int .i64) (.cons (.sl e107) (.cons (.int .i64) (.cons (.int .i64) (.cons (.sl e9) .nil))))) : Tys).Ok x) : Sz (((.cons (.int .i64) (.cons (.sl e107) (.cons (.int .i64) (.cons (.int .i64) (.cons (.sl e9) .nil))))) : Tys).w x) (fun l => F149 (x, ((l, ()), ()))) :=
  (Sz.int (Sz.call1 (w12 (x.2.1, ()) ⟨hx.2.1, trivial⟩) (Sz.call3 (w94 (x.2.2.1, (x.2.2.2.1, (x.2.2.2.2.1, ()))) ⟨hx.2.2.1, ⟨hx.2.2.2.1, ⟨hx.2.2.2.2.1, trivial⟩⟩⟩) Sz.nil)))
set_option maxHeartbeats 2000000 in
theorem w100 (x : (List (Tys.D e200) × Unit)) (hx : ((.cons (.sl e200) .nil) : Tys).Ok x) : Sz (((.cons (.sl e200) .nil) : Tys).w x) (fun l => F100 (x, ((l, ()), ()))) :=
  (Sz.list (xs := x.1) (T := fun y l => F149 (y, ((l, ()), ()))) (π := fun c => c.1.1) (wt := fun y => e200.w y) hx.1.1 (fun y hy => szR_T (x := y) (w149 y (Ok_mem hx.1.2 hy))))
set_option maxHeartbeats 2000000 in
theorem w43 (x : (ByteArray × (Int × (Int × (List (Tys.D e150) × (List (Tys.D e195) × (List (Tys.D e107) × (Int × (Int × (Int × (Int × (List (Tys.D e9) × (Int × (List (Tys.D e9) × (List (Tys.D e3) × (Int × (List (Tys.D e112) × (List (Tys.D e113) × (List (Tys.D e3) × (List (Tys.D e197) × (List (Tys.D e200) × Unit))))))))))))))))))))) (hx : ((.cons .str (.cons (.int .i64) (.cons (.int .i64) (.cons (.sl e150) (.cons (.sl e195) (.cons (.sl e107) (.cons (.int .i64) (.cons (.int .i64) (.cons (.int .i64) (.cons (.int .i64) (.cons (.sl e9) (.cons (.int .i64) (.cons (.sl e9) (.cons (.sl e3) (.cons (.int .i64) (.cons (.sl e112) (.cons (.sl e113) (.cons (.sl e3) (.cons (.sl e197) (.cons (.sl e200) .nil)))))))))))))))))))) : Tys).Ok x) : Sz (((.cons .str (.cons (.int .i64) (.cons (.int .i64) (.cons (.sl e150) (.cons (.sl e195) (.cons (.sl e107) (.cons (.int .i64) (.cons (.int .i64) (.cons (.int .i64) (.cons (.int .i64) (.cons (.sl e9) (.cons (.int .i64) (.cons (.sl e9) (.cons (.sl e3) (.cons (.int .i64) (.cons (.sl e112) (.cons (.sl e113) (.cons (.sl e3) (.cons (.sl e197) (.cons (.sl e200) .nil)))))))))))))))))))) : Tys).w x) (fun l => F43 (x, ((l, ()), ()))) :=
  (Sz.str (a := ByteArray.size x.1) hx.1 (Sz.int (Sz.call2 (w9 (x.2.2.1, (x.2.2.2.1, ())) ⟨hx.2.2.1, ⟨hx.2.2.2.1, trivial⟩⟩) (Sz.call1 (w93 (x.2.2.2.2.1, ()) ⟨hx.2.2.2.2.1, trivial⟩) (Sz.call1 (w12 (x.2.2.2.2.2.1, ()) ⟨hx.2.2.2.2.2.1, trivial⟩) (Sz.int (Sz.int (Sz.call3 (w94 (x.2.2.2.2.2.2.2.2.1, (x.2.2.2.2.2.2.2.2.2.1, (x.2.2.2.2.2.2.2.2.2.2.1, ()))) ⟨hx.2.2.2.2.2.2.2.2.1, ⟨hx.2.2.2.2.2.2.2.2.2.1, ⟨hx.2.2.2.2.2.2.2.2.2.2.1, trivial⟩⟩⟩) (Sz.call3 (w95 (x.2.2.2.2.2.2.2.2.2.2.2.1, (x.2.2.2.2.2.2.2.2.2.2.2.2.1, (x.2.2.2.2.2.2.2.2.2.2.2.2.2.1, ()))) ⟨hx.2.2.2.2.2.2.2.2.2.2.2.1, ⟨hx.2.2.2.2.2.2.2.2.2.2.2.2.1, ⟨hx.2.2.2.2.2.2.2.2.2.2.2.2.2.1, trivial⟩⟩⟩) (Sz.int (Sz.call1 (w96 (x.2.2.2.2.2.2.2.2.2.2.2.2.2.2.2.1, ()) ⟨hx.2.2.2.2.2.2.2.2.2.2.2.2.2.2.2.1, trivial⟩) (Sz.call1 (w97 (x.2.2.2.2.2.2.2.2.2.2.2.2.2.2.2.2.1, ()) ⟨hx.2.2.2.2.2.2.2.2.2.2.2.2.2.2.2.2.1, trivial⟩) (Sz.call1 (w98 (x.2.2.2.2.2.2.2.2.2.2.2.2.2.2.2.2.2.1, ()) ⟨hx.2.2.2.2.2.2.2.2.2.2.2.2.2.2.2.2.2.1, trivial⟩) (Sz.call1 (w99 (x.2.2.2.2.2.2.2.2.2.2.2.2.2.2.2.2.2.2.1, ()) ⟨hx.2.2.2.2.2.2.2.2.2.2.2.2.2.2.2.2.2.2.1, trivial⟩) (Sz.call1 (w100 (x.2.2.2.2.2.2.2.2.2.2.2.2.2.2.2.2.2.2.2.1, ()) ⟨hx.2.2.2.2.2.2.2.2.2.2.2.2.2.2.2.2.2.2.2.1, trivial⟩) Sz.nil)))))))))))))))
set_option maxHeartbeats 2000000 in
theorem w11 (x : (List (Tys.D e104) × Unit)) (hx : ((.cons (.sl e104) .nil) : Tys).Ok x) : Sz (((.cons (.sl e104) .nil) : Tys).w x) (fun l => F11 (x, ((l, ()), ()))) :=
  (Sz.list (xs := x.1) (T := fun y l => F43 (y, ((l, ()), ()))) (π := fun c => c.1.1) (wt := fun y => e104.w y) hx.1.1 (fun y hy => szR_T (x := y) (w43 y (Ok_mem hx.1.2 hy))))
set_option maxHeartbeats 2000000 in
theorem w45 (x : (Int × (Int × (Int × (Int × (ByteArray × Unit)))))) (hx : ((.cons (.int .i64) (.cons (.int .i64) (.cons (.int .i64) (.cons (.int .i64) (.cons .str .nil))))) : Tys).Ok x) : Sz (((.cons (.int .i64) (.cons (.int .i64) (.cons (.int .i64) (.cons (.int .i64) (.cons .str .nil))))) : Tys).w x) (fun l => F45 (x, ((l, ()), ()))) :=
  (Sz.int (Sz.int (Sz.int (Sz.int (Sz.str (a := ByteArray.size x.2.2.2.2.1) hx.2.2.2.2.1 Sz.nil)))))
set_option maxHeartbeats 2000000 in
theorem w13 (x : (List (Tys.D e110) × Unit)) (hx : ((.cons (.sl e110) .nil) : Tys).Ok x) : Sz (((.cons (.sl e110) .nil) : Tys).w x) (fun l => F13 (x, ((l, ()), ()))) :=
  (Sz.list (xs := x.1) (T := fun y l => F45 (y, ((l, ()), ()))) (π := fun c => c.1.1) (wt := fun y => e110.w y) hx.1.1 (fun y hy => szR_T (x := y) (w45 y (Ok_mem hx.1.2 hy))))
set_option maxHeartbeats 2000000 in
theorem w46 (x : (Int × (ByteArray × (Int × (List (Tys.D e107) × (Int × (Int × (ByteArray × (Int × (Int × (ByteArray × (Int × (Int × (List (Tys.D e9) × (Int × (List (Tys.D e9) × (List (Tys.D e3) × Unit))))))))))))))))) (hx : ((.cons (.int .i64) (.cons .str (.cons (.int .i64) (.cons (.sl e107) (.cons (.int .i64) (.cons (.int .i64) (.cons .str (.cons (.int .i64) (.cons (.int .i64) (.cons .str (.cons (.int .i64) (.cons (.int .i64) (.cons (.sl e9) (.cons (.int .i64) (.cons (.sl e9) (.cons (.sl e3) .nil)))))))))))))))) : Tys).Ok x) : Sz (((.cons (.int .i64) (.cons .str (.cons (.int .i64) (.cons (.sl e107) (.cons (.int .i64) (.cons (.int .i64) (.cons .str (.cons (.int .i64) (.cons (.int .i64) (.cons .str (.cons (.int .i64) (.cons (.int .i64) (.cons (.sl e9) (.cons (.int .i64) (.cons (.sl e9) (.cons (.sl e3) .nil)))))))))))))))) : Tys).w x) (fun l => F46 (x, ((l, ()), ()))) :=
  (Sz.int (Sz.str (a := ByteArray.size x.2.1) hx.2.1 (Sz.int (Sz.call1 (w12 (x.2.2.2.1, ()) ⟨hx.2.2.2.1, trivial⟩) (Sz.call3 (w101 (x.2.2.2.2.1, (x.2.2.2.2.2.1, (x.2.2.2.2.2.2.1, ()))) ⟨hx.2.2.2.2.1, ⟨hx.2.2.2.2.2.1, ⟨hx.2.2.2.2.2.2.1, trivial⟩⟩⟩) (Sz.call3 (w102 (x.2.2.2.2.2.2.2.1, (x.2.2.2.2.2.2.2.2.1, (x.2.2.2.2.2.2.2.2.2.1, ()))) ⟨hx.2.2.2.2.2.2.2.1, ⟨hx.2.2.2.2.2.2.2.2.1, ⟨hx.2.2.2.2.2.2.2.2.2.1, trivial⟩⟩⟩) (Sz.call3 (w94 (x.2.2.2.2.2.2.2.2.2.2.1, (x.2.2.2.2.2.2.2.2.2.2.2.1, (x.2.2.2.2.2.2.2.2.2.2.2.2.1, ()))) ⟨hx.2.2.2.2.2.2.2.2.2.2.1, ⟨hx.2.2.2.2.2.2.2.2.2.2.2.1, ⟨hx.2.2.2.2.2.2.2.2.2.2.2.2.1, trivial⟩⟩⟩) (Sz.call3 (w95 (x.2.2.2.2.2.2.2.2.2.2.2.2.2.1, (x.2.2.2.2.2.2.2.2.2.2.2.2.2.2.1, (x.2.2.2.2.2.2.2.2.2.2.2.2.2.2.2.1, ()))) ⟨hx.2.2.2.2.2.2.2.2.2.2.2.2.2.1, ⟨hx.2.2.2.2.2.2.2.2.2.2.2.2.2.2.1, ⟨hx.2.2.2.2.2.2.2.2.2.2.2.2.2.2.2.1, trivial⟩⟩⟩) Sz.nil))))))))
set_option maxHeartbeats 2000000 in
theorem w14 (x : (List (Tys.D e115) × Unit)) (hx : ((.cons (.sl e115) .nil) : Tys).Ok x) : Sz (((.cons (.sl e115) .nil) : Tys).w x) (fun l => F14 (x, ((l, ()), ()))) :=
  (Sz.list (xs := x.1) (T := fun y l => F46 (y, ((l, ()), ()))) (π := fun c => c.1.1) (wt := fun y => e115.w y) hx.1.1 (fun y hy => szR_T (x := y) (w46 y (Ok_mem hx.1.2 hy))))
set_option maxHeartbeats 2000000 in
theorem w4 (x : (Int × (List (Tys.D e150) × (List (Tys.D e9) × (List (Tys.D e104) × (List (Tys.D e107) × (List (Tys.D e110) × (List (Tys.D e115) × Unit)))))))) (hx : ((.cons (.int .i64) (.cons (.sl e150) (.cons (.sl e9) (.cons (.sl e104) (.cons (.sl e107) (.cons (.sl e110) (.cons (.sl e115) .nil))))))) : Tys).Ok x) : Sz (((.cons (.int .i64) (.cons (.sl e150) (.cons (.sl e9) (.cons (.sl e104) (.cons (.sl e107) (.cons (.sl e110) (.cons (.sl e115) .nil))))))) : Tys).w x) (fun l => F4 (x, ((l, ()), ()))) :=
  (Sz.call2 (w9 (x.1, (x.2.1, ())) ⟨hx.1, ⟨hx.2.1, trivial⟩⟩) (Sz.call1 (w10 (x.2.2.1, ()) ⟨hx.2.2.1, trivial⟩) (Sz.call1 (w11 (x.2.2.2.1, ()) ⟨hx.2.2.2.1, trivial⟩) (Sz.call1 (w12 (x.2.2.2.2.1, ()) ⟨hx.2.2.2.2.1, trivial⟩) (Sz.call1 (w13 (x.2.2.2.2.2.1, ()) ⟨hx.2.2.2.2.2.1, trivial⟩) (Sz.call1 (w14 (x.2.2.2.2.2.2.1, ()) ⟨hx.2.2.2.2.2.2.1, trivial⟩) Sz.nil))))))
set_option maxHeartbeats 2000000 in
theorem t176 (x : (Int × (Int × Unit))) (hx : ((.cons (.int .i64) (.cons (.int .i64) .nil)) : Tys).w x ≤ 1048576) : F176 (x, ()) = some (x, ()) :=
  rfl
set_option maxHeartbeats 2000000 in
theorem t156 (x : (List (Tys.D e220) × Unit)) (hx : ((.cons (.sl e220) .nil) : Tys).w x ≤ 1048576) : F156 (x, ()) = some (x, ()) :=
  (toList (A := Tys.D e220) (B := Tys.D e202) (xs := x.1) (T := fun y => F176 (y, ())) (π := fun c => c.1) (φ := fun y => y) (bytes := 16) (by decide) (by decide) (w_len hx) (fun y hy => ⟨_, t176 y (w_el hx rfl hy), rfl⟩)).trans (congrArg (fun l => some ((l, ()), ())) (List.map_id' x.1))
set_option maxHeartbeats 2000000 in
theorem t113 (x : (ByteArray × (Int × (Int × (Int × (List (Tys.D e220) × Unit)))))) (hx : ((.cons .str (.cons (.int .i64) (.cons (.int .i64) (.cons (.int .i64) (.cons (.sl e220) .nil))))) : Tys).w x ≤ 1048576) : F113 (x, ()) = some (x, ()) :=
  (bind_eq (t156 (x.2.2.2.2.1, ()) (w_1 (w_tl (w_tl (w_tl (w_tl hx)))))) rfl)
set_option maxHeartbeats 2000000 in
theorem t62 (x : (List (Tys.D e150) × Unit)) (hx : ((.cons (.sl e150) .nil) : Tys).w x ≤ 1048576) : F62 (x, ()) = some (x, ()) :=
  (toList (A := Tys.D e150) (B := Tys.D e164) (xs := x.1) (T := fun y => F113 (y, ())) (π := fun c => c.1) (φ := fun y => y) (bytes := 64) (by decide) (by decide) (w_len hx) (fun y hy => ⟨_, t113 y (w_el hx rfl hy), rfl⟩)).trans (congrArg (fun l => some ((l, ()), ())) (List.map_id' x.1))
set_option maxHeartbeats 2000000 in
theorem t22 (x : (Int × (List (Tys.D e150) × Unit))) (hx : ((.cons (.int .i64) (.cons (.sl e150) .nil)) : Tys).w x ≤ 1048576) : F22 (x, ()) = some (x, ()) :=
  (bind_eq (t62 (x.2.1, ()) (w_1 (w_tl hx))) rfl)
set_option maxHeartbeats 2000000 in
theorem t23 (x : (List (Tys.D e9) × Unit)) (hx : ((.cons (.sl e9) .nil) : Tys).w x ≤ 1048576) : F23 (x, ()) = some (x, ()) :=
  (toList (A := Tys.D e9) (B := Tys.D e9) (xs := x.1) (T := fun y => some y) (π := fun c => c) (φ := fun y => y) (bytes := 16) (by decide) (by decide) (w_len hx) (fun y hy => ⟨_, rfl, rfl⟩)).trans (congrArg (fun l => some ((l, ()), ())) (List.map_id' x.1))
set_option maxHeartbeats 2000000 in
theorem t157 (x : (ByteArray × (Int × Unit))) (hx : ((.cons .str (.cons (.int .i64) .nil)) : Tys).w x ≤ 1048576) : F157 (x, ()) = some (x, ()) :=
  rfl
set_option maxHeartbeats 2000000 in
theorem t114 (x : (List (Tys.D e195) × Unit)) (hx : ((.cons (.sl e195) .nil) : Tys).w x ≤ 1048576) : F114 (x, ()) = some (x, ()) :=
  (toList (A := Tys.D e195) (B := Tys.D e167) (xs := x.1) (T := fun y => F157 (y, ())) (π := fun c => c.1) (φ := fun y => y) (bytes := 24) (by decide) (by decide) (w_len hx) (fun y hy => ⟨_, t157 y (w_el hx rfl hy), rfl⟩)).trans (congrArg (fun l => some ((l, ()), ())) (List.map_id' x.1))
set_option maxHeartbeats 2000000 in
theorem t115 (x : (Int × (Int × (List (Tys.D e9) × Unit)))) (hx : ((.cons (.int .i64) (.cons (.int .i64) (.cons (.sl e9) .nil))) : Tys).w x ≤ 1048576) : F115 (x, ()) = some (x, ()) :=
  (bind_eq (t23 (x.2.2.1, ()) (w_1 (w_tl (w_tl hx)))) rfl)
set_option maxHeartbeats 2000000 in
theorem t119 (x : (List (Tys.D e3) × Unit)) (hx : ((.cons (.sl e3) .nil) : Tys).w x ≤ 1048576) : F119 (x, ()) = some (x, ()) :=
  (toList (A := Tys.D e3) (B := Tys.D e3) (xs := x.1) (T := fun y => some y) (π := fun c => c) (φ := fun y => y) (bytes := 8) (by decide) (by decide) (w_len hx) (fun y hy => ⟨_, rfl, rfl⟩)).trans (congrArg (fun l => some ((l, ()), ())) (List.map_id' x.1))
set_option maxHeartbeats 2000000 in
theorem t116 (x : (Int × (List (Tys.D e9) × (List (Tys.D e3) × Unit)))) (hx : ((.cons (.int .i64) (.cons (.sl e9) (.cons (.sl e3) .nil))) : Tys).w x ≤ 1048576) : F116 (x, ()) = some (x, ()) :=
  (bind_eq (t23 (x.2.1, ()) (w_1 (w_tl hx))) (bind_eq (t119 (x.2.2.1, ()) (w_1 (w_tl (w_tl hx)))) rfl))
set_option maxHeartbeats 2000000 in
theorem t158 (x : (Int × (ByteArray × (ByteArray × (Int × (Int × Unit)))))) (hx : ((.cons (.int .i64) (.cons .str (.cons .str (.cons (.int .i64) (.cons (.int .i64) .nil))))) : Tys).w x ≤ 1048576) : F158 (x, ()) = some (x, ()) :=
  rfl
set_option maxHeartbeats 2000000 in
theorem t120 (x : (List (Tys.D e197) × Unit)) (hx : ((.cons (.sl e197) .nil) : Tys).w x ≤ 1048576) : F120 (x, ()) = some (x, ()) :=
  (toList (A := Tys.D e197) (B := Tys.D e121) (xs := x.1) (T := fun y => F158 (y, ())) (π := fun c => c.1) (φ := fun y => y) (bytes := 56) (by decide) (by decide) (w_len hx) (fun y hy => ⟨_, t158 y (w_el hx rfl hy), rfl⟩)).trans (congrArg (fun l => some ((l, ()), ())) (List.map_id' x.1))
set_option maxHeartbeats 2000000 in
theorem t64 (x : (Int × (Int × (Int × (ByteArray × (Int × (Int × (List (Tys.D e9) × (Int × (List (Tys.D e9) × (List (Tys.D e3) × (List (Tys.D e197) × (Bool × (List (Tys.D e195) × (ByteArray × Unit))))))))))))))) (hx : ((.cons (.int .i64) (.cons (.int .i64) (.cons (.int .i64) (.cons .str (.cons (.int .i64) (.cons (.int .i64) (.cons (.sl e9) (.cons (.int .i64) (.cons (.sl e9) (.cons (.sl e3) (.cons (.sl e197) (.cons .bool (.cons (.sl e195) (.cons .str .nil)))))))))))))) : Tys).w x ≤ 1048576) : F64 (x, ()) = some (x, ()) :=
  (bind_eq (t115 (x.2.2.2.2.1, (x.2.2.2.2.2.1, (x.2.2.2.2.2.2.1, ()))) (w_3 (w_tl (w_tl (w_tl (w_tl hx)))))) (bind_eq (t116 (x.2.2.2.2.2.2.2.1, (x.2.2.2.2.2.2.2.2.1, (x.2.2.2.2.2.2.2.2.2.1, ()))) (w_3 (w_tl (w_tl (w_tl (w_tl (w_tl (w_tl (w_tl hx))))))))) (bind_eq (t120 (x.2.2.2.2.2.2.2.2.2.2.1, ()) (w_1 (w_tl (w_tl (w_tl (w_tl (w_tl (w_tl (w_tl (w_tl (w_tl (w_tl hx)))))))))))) (bind_eq (t114 (x.2.2.2.2.2.2.2.2.2.2.2.2.1, ()) (w_1 (w_tl (w_tl (w_tl (w_tl (w_tl (w_tl (w_tl (w_tl (w_tl (w_tl (w_tl (w_tl hx)))))))))))))) rfl))))
set_option maxHeartbeats 2000000 in
theorem t25 (x : (List (Tys.D e107) × Unit)) (hx : ((.cons (.sl e107) .nil) : Tys).w x ≤ 1048576) : F25 (x, ()) = some (x, ()) :=
  (toList (A := Tys.D e107) (B := Tys.D e62) (xs := x.1) (T := fun y => F64 (y, ())) (π := fun c => c.1) (φ := fun y => y) (bytes := 208) (by decide) (by decide) (w_len hx) (fun y hy => ⟨_, t64 y (w_el hx rfl hy), rfl⟩)).trans (congrArg (fun l => some ((l, ()), ())) (List.map_id' x.1))
set_option maxHeartbeats 2000000 in
theorem t122 (x : (Int × (Int × (ByteArray × Unit)))) (hx : ((.cons (.int .i64) (.cons (.int .i64) (.cons .str .nil))) : Tys).w x ≤ 1048576) : F122 (x, ()) = some (x, ()) :=
  rfl
set_option maxHeartbeats 2000000 in
theorem t117 (x : (List (Tys.D e112) × Unit)) (hx : ((.cons (.sl e112) .nil) : Tys).w x ≤ 1048576) : F117 (x, ()) = some (x, ()) :=
  (toList (A := Tys.D e112) (B := Tys.D e66) (xs := x.1) (T := fun y => F122 (y, ())) (π := fun c => c.1) (φ := fun y => y) (bytes := 32) (by decide) (by decide) (w_len hx) (fun y hy => ⟨_, t122 y (w_el hx rfl hy), rfl⟩)).trans (congrArg (fun l => some ((l, ()), ())) (List.map_id' x.1))
set_option maxHeartbeats 2000000 in
theorem t123 (x : (Int × (Int × (ByteArray × Unit)))) (hx : ((.cons (.int .i64) (.cons (.int .i64) (.cons .str .nil))) : Tys).w x ≤ 1048576) : F123 (x, ()) = some (x, ()) :=
  rfl
set_option maxHeartbeats 2000000 in
theorem t118 (x : (List (Tys.D e113) × Unit)) (hx : ((.cons (.sl e113) .nil) : Tys).w x ≤ 1048576) : F118 (x, ()) = some (x, ()) :=
  (toList (A := Tys.D e113) (B := Tys.D e68) (xs := x.1) (T := fun y => F123 (y, ())) (π := fun c => c.1) (φ := fun y => y) (bytes := 32) (by decide) (by decide) (w_len hx) (fun y hy => ⟨_, t123 y (w_el hx rfl hy), rfl⟩)).trans (congrArg (fun l => some ((l, ()), ())) (List.map_id' x.1))
set_option maxHeartbeats 2000000 in
theorem t159 (x : (Int × (List (Tys.D e107) × (Int × (Int × (List (Tys.D e9) × Unit)))))) (hx : ((.cons (.int .i64) (.cons (.sl e107) (.cons (.int .i64) (.cons (.int .i64) (.cons (.sl e9) .nil))))) : Tys).w x ≤ 1048576) : F159 (x, ()) = some (x, ()) :=
  (bind_eq (t25 (x.2.1, ()) (w_1 (w_tl hx))) (bind_eq (t115 (x.2.2.1, (x.2.2.2.1, (x.2.2.2.2.1, ()))) (w_3 (w_tl (w_tl hx)))) rfl))
set_option maxHeartbeats 2000000 in
theorem t121 (x : (List (Tys.D e200) × Unit)) (hx : ((.cons (.sl e200) .nil) : Tys).w x ≤ 1048576) : F121 (x, ()) = some (x, ()) :=
  (toList (A := Tys.D e200) (B := Tys.D e208) (xs := x.1) (T := fun y => F159 (y, ())) (π := fun c => c.1) (φ := fun y => y) (bytes := 72) (by decide) (by decide) (w_len hx) (fun y hy => ⟨_, t159 y (w_el hx rfl hy), rfl⟩)).trans (congrArg (fun l => some ((l, ()), ())) (List.map_id' x.1))
set_option maxHeartbeats 2000000 in
theorem t63 (x : (ByteArray × (Int × (Int × (List (Tys.D e150) × (List (Tys.D e195) × (List (Tys.D e107) × (Int × (Int × (Int × (Int × (List (Tys.D e9) × (Int × (List (Tys.D e9) × (List (Tys.D e3) × (Int × (List (Tys.D e112) × (List (Tys.D e113) × (List (Tys.D e3) × (List (Tys.D e197) × (List (Tys.D e200) × Unit))))))))))))))))))))) (hx : ((.cons .str (.cons (.int .i64) (.cons (.int .i64) (.cons (.sl e150) (.cons (.sl e195) (.cons (.sl e107) (.cons (.int .i64) (.cons (.int .i64) (.cons (.int .i64) (.cons (.int .i64) (.cons (.sl e9) (.cons (.int .i64) (.cons (.sl e9) (.cons (.sl e3) (.cons (.int .i64) (.cons (.sl e112) (.cons (.sl e113) (.cons (.sl e3) (.cons (.sl e197) (.cons (.sl e200) .nil)))))))))))))))))))) : Tys).w x ≤ 1048576) : F63 (x, ()) = some (x, ()) :=
  (bind_eq (t22 (x.2.2.1, (x.2.2.2.1, ())) (w_2 (w_tl (w_tl hx)))) (bind_eq (t114 (x.2.2.2.2.1, ()) (w_1 (w_tl (w_tl (w_tl (w_tl hx)))))) (bind_eq (t25 (x.2.2.2.2.2.1, ()) (w_1 (w_tl (w_tl (w_tl (w_tl (w_tl hx))))))) (bind_eq (t115 (x.2.2.2.2.2.2.2.2.1, (x.2.2.2.2.2.2.2.2.2.1, (x.2.2.2.2.2.2.2.2.2.2.1, ()))) (w_3 (w_tl (w_tl (w_tl (w_tl (w_tl (w_tl (w_tl (w_tl hx)))))))))) (bind_eq (t116 (x.2.2.2.2.2.2.2.2.2.2.2.1, (x.2.2.2.2.2.2.2.2.2.2.2.2.1, (x.2.2.2.2.2.2.2.2.2.2.2.2.2.1, ()))) (w_3 (w_tl (w_tl (w_tl (w_tl (w_tl (w_tl (w_tl (w_tl (w_tl (w_tl (w_tl hx))))))))))))) (bind_eq (t117 (x.2.2.2.2.2.2.2.2.2.2.2.2.2.2.2.1, ()) (w_1 (w_tl (w_tl (w_tl (w_tl (w_tl (w_tl (w_tl (w_tl (w_tl (w_tl (w_tl (w_tl (w_tl (w_tl (w_tl hx))))))))))))))))) (bind_eq (t118 (x.2.2.2.2.2.2.2.2.2.2.2.2.2.2.2.2.1, ()) (w_1 (w_tl (w_tl (w_tl (w_tl (w_tl (w_tl (w_tl (w_tl (w_tl (w_tl (w_tl (w_tl (w_tl (w_tl (w_tl (w_tl hx)))))))))))))))))) (bind_eq (t119 (x.2.2.2.2.2.2.2.2.2.2.2.2.2.2.2.2.2.1, ()) (w_1 (w_tl (w_tl (w_tl (w_tl (w_tl (w_tl (w_tl (w_tl (w_tl (w_tl (w_tl (w_tl (w_tl (w_tl (w_tl (w_tl (w_tl hx))))))))))))))))))) (bind_eq (t120 (x.2.2.2.2.2.2.2.2.2.2.2.2.2.2.2.2.2.2.1, ()) (w_1 (w_tl (w_tl (w_tl (w_tl (w_tl (w_tl (w_tl (w_tl (w_tl (w_tl (w_tl (w_tl (w_tl (w_tl (w_tl (w_tl (w_tl (w_tl hx)))))))))))))))))))) (bind_eq (t121 (x.2.2.2.2.2.2.2.2.2.2.2.2.2.2.2.2.2.2.2.1, ()) (w_1 (w_tl (w_tl (w_tl (w_tl (w_tl (w_tl (w_tl (w_tl (w_tl (w_tl (w_tl (w_tl (w_tl (w_tl (w_tl (w_tl (w_tl (w_tl (w_tl hx))))))))))))))))))))) rfl))))))))))
set_option maxHeartbeats 2000000 in
theorem t24 (x : (List (Tys.D e104) × Unit)) (hx : ((.cons (.sl e104) .nil) : Tys).w x ≤ 1048576) : F24 (x, ()) = some (x, ()) :=
  (toList (A := Tys.D e104) (B := Tys.D e83) (xs := x.1) (T := fun y => F63 (y, ())) (π := fun c => c.1) (φ := fun y => y) (bytes := 344) (by decide) (by decide) (w_len hx) (fun y hy => ⟨_, t63 y (w_el hx rfl hy), rfl⟩)).trans (congrArg (fun l => some ((l, ()), ())) (List.map_id' x.1))
set_option maxHeartbeats 2000000 in
theorem t65 (x : (Int × (Int × (Int × (Int × (ByteArray × Unit)))))) (hx : ((.cons (.int .i64) (.cons (.int .i64) (.cons (.int .i64) (.cons (.int .i64) (.cons .str .nil))))) : Tys).w x ≤ 1048576) : F65 (x, ()) = some (x, ()) :=
  rfl
set_option maxHeartbeats 2000000 in
theorem t26 (x : (List (Tys.D e110) × Unit)) (hx : ((.cons (.sl e110) .nil) : Tys).w x ≤ 1048576) : F26 (x, ()) = some (x, ()) :=
  (toList (A := Tys.D e110) (B := Tys.D e129) (xs := x.1) (T := fun y => F65 (y, ())) (π := fun c => c.1) (φ := fun y => y) (bytes := 48) (by decide) (by decide) (w_len hx) (fun y hy => ⟨_, t65 y (w_el hx rfl hy), rfl⟩)).trans (congrArg (fun l => some ((l, ()), ())) (List.map_id' x.1))
set_option maxHeartbeats 2000000 in
theorem t66 (x : (Int × (ByteArray × (Int × (List (Tys.D e107) × (Int × (Int × (ByteArray × (Int × (Int × (ByteArray × (Int × (Int × (List (Tys.D e9) × (Int × (List (Tys.D e9) × (List (Tys.D e3) × Unit))))))))))))))))) (hx : ((.cons (.int .i64) (.cons .str (.cons (.int .i64) (.cons (.sl e107) (.cons (.int .i64) (.cons (.int .i64) (.cons .str (.cons (.int .i64) (.cons (.int .i64) (.cons .str (.cons (.int .i64) (.cons (.int .i64) (.cons (.sl e9) (.cons (.int .i64) (.cons (.sl e9) (.cons (.sl e3) .nil)))))))))))))))) : Tys).w x ≤ 1048576) : F66 (x, ()) = some (x, ()) :=
  (bind_eq (t25 (x.2.2.2.1, ()) (w_1 (w_tl (w_tl (w_tl hx))))) (bind_eq (t122 (x.2.2.2.2.1, (x.2.2.2.2.2.1, (x.2.2.2.2.2.2.1, ()))) (w_3 (w_tl (w_tl (w_tl (w_tl hx)))))) (bind_eq (t123 (x.2.2.2.2.2.2.2.1, (x.2.2.2.2.2.2.2.2.1, (x.2.2.2.2.2.2.2.2.2.1, ()))) (w_3 (w_tl (w_tl (w_tl (w_tl (w_tl (w_tl (w_tl hx))))))))) (bind_eq (t115 (x.2.2.2.2.2.2.2.2.2.2.1, (x.2.2.2.2.2.2.2.2.2.2.2.1, (x.2.2.2.2.2.2.2.2.2.2.2.2.1, ()))) (w_3 (w_tl (w_tl (w_tl (w_tl (w_tl (w_tl (w_tl (w_tl (w_tl (w_tl hx)))))))))))) (bind_eq (t116 (x.2.2.2.2.2.2.2.2.2.2.2.2.2.1, (x.2.2.2.2.2.2.2.2.2.2.2.2.2.2.1, (x.2.2.2.2.2.2.2.2.2.2.2.2.2.2.2.1, ()))) (w_3 (w_tl (w_tl (w_tl (w_tl (w_tl (w_tl (w_tl (w_tl (w_tl (w_tl (w_tl (w_tl (w_tl hx))))))))))))))) rfl)))))
set_option maxHeartbeats 2000000 in
theorem t27 (x : (List (Tys.D e115) × Unit)) (hx : ((.cons (.sl e115) .nil) : Tys).w x ≤ 1048576) : F27 (x, ()) = some (x, ()) :=
  (toList (A := Tys.D e115) (B := Tys.D e70) (xs := x.1) (T := fun y => F66 (y, ())) (π := fun c => c.1) (φ := fun y => y) (bytes := 216) (by decide) (by decide) (w_len hx) (fun y hy => ⟨_, t66 y (w_el hx rfl hy), rfl⟩)).trans (congrArg (fun l => some ((l, ()), ())) (List.map_id' x.1))
set_option maxHeartbeats 2000000 in
theorem t6 (x : (Int × (List (Tys.D e150) × (List (Tys.D e9) × (List (Tys.D e104) × (List (Tys.D e107) × (List (Tys.D e110) × (List (Tys.D e115) × Unit)))))))) (hx : ((.cons (.int .i64) (.cons (.sl e150) (.cons (.sl e9) (.cons (.sl e104) (.cons (.sl e107) (.cons (.sl e110) (.cons (.sl e115) .nil))))))) : Tys).w x ≤ 1048576) : F6 (x, ()) = some (x, ()) :=
  (bind_eq (t22 (x.1, (x.2.1, ())) (w_2 hx)) (bind_eq (t23 (x.2.2.1, ()) (w_1 (w_tl (w_tl hx)))) (bind_eq (t24 (x.2.2.2.1, ()) (w_1 (w_tl (w_tl (w_tl hx))))) (bind_eq (t25 (x.2.2.2.2.1, ()) (w_1 (w_tl (w_tl (w_tl (w_tl hx)))))) (bind_eq (t26 (x.2.2.2.2.2.1, ()) (w_1 (w_tl (w_tl (w_tl (w_tl (w_tl hx))))))) (bind_eq (t27 (x.2.2.2.2.2.2.1, ()) (w_1 (w_tl (w_tl (w_tl (w_tl (w_tl (w_tl hx)))))))) rfl))))))
set_option maxHeartbeats 2000000 in
theorem s182 (x : (Int × (Int × Unit))) (hx : ((.cons (.int .i64) (.cons (.int .i64) .nil)) : Tys).Ok x) : F182 (x, (x, ())) = some (B1 true) :=
  (eq_int (eq_int rfl))
set_option maxHeartbeats 2000000 in
theorem s169 (x : (List (Tys.D e202) × Unit)) (hx : ((.cons (.sl e202) .nil) : Tys).Ok x) : F169 (x, (x, ())) = some (B1 true) :=
  eqList (xs := x.1) (E := fun y z v => (F182 (y, (z, ()))).bind fun r => bif (!r.1.1) then some (.inr (.inr (B1 false))) else some (.inl (iAdd .i64 v.1 1, ()))) hx.1.1 (fun y hy v => eq_call (s182 y (Ok_mem hx.1.2 hy)) rfl)
set_option maxHeartbeats 2000000 in
theorem s135 (x : (ByteArray × (Int × (Int × (Int × (List (Tys.D e202) × Unit)))))) (hx : ((.cons .str (.cons (.int .i64) (.cons (.int .i64) (.cons (.int .i64) (.cons (.sl e202) .nil))))) : Tys).Ok x) : F135 (x, (x, ())) = some (B1 true) :=
  (eq_str (eq_int (eq_int (eq_int (eq_call (s169 (x.2.2.2.2.1, ()) ⟨hx.2.2.2.2.1, trivial⟩) rfl)))))
set_option maxHeartbeats 2000000 in
theorem s87 (x : (List (Tys.D e164) × Unit)) (hx : ((.cons (.sl e164) .nil) : Tys).Ok x) : F87 (x, (x, ())) = some (B1 true) :=
  eqList (xs := x.1) (E := fun y z v => (F135 (y, (z, ()))).bind fun r => bif (!r.1.1) then some (.inr (.inr (B1 false))) else some (.inl (iAdd .i64 v.1 1, ()))) hx.1.1 (fun y hy v => eq_call (s135 y (Ok_mem hx.1.2 hy)) rfl)
set_option maxHeartbeats 2000000 in
theorem s36 (x : (Int × (List (Tys.D e164) × Unit))) (hx : ((.cons (.int .i64) (.cons (.sl e164) .nil)) : Tys).Ok x) : F36 (x, (x, ())) = some (B1 true) :=
  (eq_int (eq_call (s87 (x.2.1, ()) ⟨hx.2.1, trivial⟩) rfl))
set_option maxHeartbeats 2000000 in
theorem s37 (x : (List (Tys.D e9) × Unit)) (hx : ((.cons (.sl e9) .nil) : Tys).Ok x) : F37 (x, (x, ())) = some (B1 true) :=
  eqList (xs := x.1) (E := fun y z v => bif !sEq y.1 z.1 then some (.inr (.inr (B1 false))) else some (.inl (iAdd .i64 v.1 1, ()))) hx.1.1 (fun y hy v => eq_str rfl)
set_option maxHeartbeats 2000000 in
theorem s170 (x : (ByteArray × (Int × Unit))) (hx : ((.cons .str (.cons (.int .i64) .nil)) : Tys).Ok x) : F170 (x, (x, ())) = some (B1 true) :=
  (eq_str (eq_int rfl))
set_option maxHeartbeats 2000000 in
theorem s136 (x : (List (Tys.D e167) × Unit)) (hx : ((.cons (.sl e167) .nil) : Tys).Ok x) : F136 (x, (x, ())) = some (B1 true) :=
  eqList (xs := x.1) (E := fun y z v => (F170 (y, (z, ()))).bind fun r => bif (!r.1.1) then some (.inr (.inr (B1 false))) else some (.inl (iAdd .i64 v.1 1, ()))) hx.1.1 (fun y hy v => eq_call (s170 y (Ok_mem hx.1.2 hy)) rfl)
set_option maxHeartbeats 2000000 in
theorem s137 (x : (Int × (Int × (List (Tys.D e9) × Unit)))) (hx : ((.cons (.int .i64) (.cons (.int .i64) (.cons (.sl e9) .nil))) : Tys).Ok x) : F137 (x, (x, ())) = some (B1 true) :=
  (eq_int (eq_int (eq_call (s37 (x.2.2.1, ()) ⟨hx.2.2.1, trivial⟩) rfl)))
set_option maxHeartbeats 2000000 in
theorem s141 (x : (List (Tys.D e3) × Unit)) (hx : ((.cons (.sl e3) .nil) : Tys).Ok x) : F141 (x, (x, ())) = some (B1 true) :=
  eqList (xs := x.1) (E := fun y z v => bif !iEq y.1 z.1 then some (.inr (.inr (B1 false))) else some (.inl (iAdd .i64 v.1 1, ()))) hx.1.1 (fun y hy v => eq_int rfl)
set_option maxHeartbeats 2000000 in
theorem s138 (x : (Int × (List (Tys.D e9) × (List (Tys.D e3) × Unit)))) (hx : ((.cons (.int .i64) (.cons (.sl e9) (.cons (.sl e3) .nil))) : Tys).Ok x) : F138 (x, (x, ())) = some (B1 true) :=
  (eq_int (eq_call (s37 (x.2.1, ()) ⟨hx.2.1, trivial⟩) (eq_call (s141 (x.2.2.1, ()) ⟨hx.2.2.1, trivial⟩) rfl)))
set_option maxHeartbeats 2000000 in
theorem s171 (x : (Int × (ByteArray × (ByteArray × (Int × (Int × Unit)))))) (hx : ((.cons (.int .i64) (.cons .str (.cons .str (.cons (.int .i64) (.cons (.int .i64) .nil))))) : Tys).Ok x) : F171 (x, (x, ())) = some (B1 true) :=
  (eq_int (eq_str (eq_str (eq_int (eq_int rfl)))))
set_option maxHeartbeats 2000000 in
theorem s142 (x : (List (Tys.D e121) × Unit)) (hx : ((.cons (.sl e121) .nil) : Tys).Ok x) : F142 (x, (x, ())) = some (B1 true) :=
  eqList (xs := x.1) (E := fun y z v => (F171 (y, (z, ()))).bind fun r => bif (!r.1.1) then some (.inr (.inr (B1 false))) else some (.inl (iAdd .i64 v.1 1, ()))) hx.1.1 (fun y hy v => eq_call (s171 y (Ok_mem hx.1.2 hy)) rfl)
set_option maxHeartbeats 2000000 in
theorem s89 (x : (Int × (Int × (Int × (ByteArray × (Int × (Int × (List (Tys.D e9) × (Int × (List (Tys.D e9) × (List (Tys.D e3) × (List (Tys.D e121) × (Bool × (List (Tys.D e167) × (ByteArray × Unit))))))))))))))) (hx : ((.cons (.int .i64) (.cons (.int .i64) (.cons (.int .i64) (.cons .str (.cons (.int .i64) (.cons (.int .i64) (.cons (.sl e9) (.cons (.int .i64) (.cons (.sl e9) (.cons (.sl e3) (.cons (.sl e121) (.cons .bool (.cons (.sl e167) (.cons .str .nil)))))))))))))) : Tys).Ok x) : F89 (x, (x, ())) = some (B1 true) :=
  (eq_int (eq_int (eq_int (eq_str (eq_call (s137 (x.2.2.2.2.1, (x.2.2.2.2.2.1, (x.2.2.2.2.2.2.1, ()))) ⟨hx.2.2.2.2.1, ⟨hx.2.2.2.2.2.1, ⟨hx.2.2.2.2.2.2.1, trivial⟩⟩⟩) (eq_call (s138 (x.2.2.2.2.2.2.2.1, (x.2.2.2.2.2.2.2.2.1, (x.2.2.2.2.2.2.2.2.2.1, ()))) ⟨hx.2.2.2.2.2.2.2.1, ⟨hx.2.2.2.2.2.2.2.2.1, ⟨hx.2.2.2.2.2.2.2.2.2.1, trivial⟩⟩⟩) (eq_call (s142 (x.2.2.2.2.2.2.2.2.2.2.1, ()) ⟨hx.2.2.2.2.2.2.2.2.2.2.1, trivial⟩) (eq_bool (eq_call (s136 (x.2.2.2.2.2.2.2.2.2.2.2.2.1, ()) ⟨hx.2.2.2.2.2.2.2.2.2.2.2.2.1, trivial⟩) (eq_str rfl))))))))))
set_option maxHeartbeats 2000000 in
theorem s39 (x : (List (Tys.D e62) × Unit)) (hx : ((.cons (.sl e62) .nil) : Tys).Ok x) : F39 (x, (x, ())) = some (B1 true) :=
  eqList (xs := x.1) (E := fun y z v => (F89 (y, (z, ()))).bind fun r => bif (!r.1.1) then some (.inr (.inr (B1 false))) else some (.inl (iAdd .i64 v.1 1, ()))) hx.1.1 (fun y hy v => eq_call (s89 y (Ok_mem hx.1.2 hy)) rfl)
set_option maxHeartbeats 2000000 in
theorem s144 (x : (Int × (Int × (ByteArray × Unit)))) (hx : ((.cons (.int .i64) (.cons (.int .i64) (.cons .str .nil))) : Tys).Ok x) : F144 (x, (x, ())) = some (B1 true) :=
  (eq_int (eq_int (eq_str rfl)))
set_option maxHeartbeats 2000000 in
theorem s139 (x : (List (Tys.D e66) × Unit)) (hx : ((.cons (.sl e66) .nil) : Tys).Ok x) : F139 (x, (x, ())) = some (B1 true) :=
  eqList (xs := x.1) (E := fun y z v => (F144 (y, (z, ()))).bind fun r => bif (!r.1.1) then some (.inr (.inr (B1 false))) else some (.inl (iAdd .i64 v.1 1, ()))) hx.1.1 (fun y hy v => eq_call (s144 y (Ok_mem hx.1.2 hy)) rfl)
set_option maxHeartbeats 2000000 in
theorem s145 (x : (Int × (Int × (ByteArray × Unit)))) (hx : ((.cons (.int .i64) (.cons (.int .i64) (.cons .str .nil))) : Tys).Ok x) : F145 (x, (x, ())) = some (B1 true) :=
  (eq_int (eq_int (eq_str rfl)))
set_option maxHeartbeats 2000000 in
theorem s140 (x : (List (Tys.D e68) × Unit)) (hx : ((.cons (.sl e68) .nil) : Tys).Ok x) : F140 (x, (x, ())) = some (B1 true) :=
  eqList (xs := x.1) (E := fun y z v => (F145 (y, (z, ()))).bind fun r => bif (!r.1.1) then some (.inr (.inr (B1 false))) else some (.inl (iAdd .i64 v.1 1, ()))) hx.1.1 (fun y hy v => eq_call (s145 y (Ok_mem hx.1.2 hy)) rfl)
set_option maxHeartbeats 2000000 in
theorem s172 (x : (Int × (List (Tys.D e62) × (Int × (Int × (List (Tys.D e9) × Unit)))))) (hx : ((.cons (.int .i64) (.cons (.sl e62) (.cons (.int .i64) (.cons (.int .i64) (.cons (.sl e9) .nil))))) : Tys).Ok x) : F172 (x, (x, ())) = some (B1 true) :=
  (eq_int (eq_call (s39 (x.2.1, ()) ⟨hx.2.1, trivial⟩) (eq_call (s137 (x.2.2.1, (x.2.2.2.1, (x.2.2.2.2.1, ()))) ⟨hx.2.2.1, ⟨hx.2.2.2.1, ⟨hx.2.2.2.2.1, trivial⟩⟩⟩) rfl)))
set_option maxHeartbeats 2000000 in
theorem s143 (x : (List (Tys.D e208) × Unit)) (hx : ((.cons (.sl e208) .nil) : Tys).Ok x) : F143 (x, (x, ())) = some (B1 true) :=
  eqList (xs := x.1) (E := fun y z v => (F172 (y, (z, ()))).bind fun r => bif (!r.1.1) then some (.inr (.inr (B1 false))) else some (.inl (iAdd .i64 v.1 1, ()))) hx.1.1 (fun y hy v => eq_call (s172 y (Ok_mem hx.1.2 hy)) rfl)
set_option maxHeartbeats 2000000 in
theorem s88 (x : (ByteArray × (Int × (Int × (List (Tys.D e164) × (List (Tys.D e167) × (List (Tys.D e62) × (Int × (Int × (Int × (Int × (List (Tys.D e9) × (Int × (List (Tys.D e9) × (List (Tys.D e3) × (Int × (List (Tys.D e66) × (List (Tys.D e68) × (List (Tys.D e3) × (List (Tys.D e121) × (List (Tys.D e208) × Unit))))))))))))))))))))) (hx : ((.cons .str (.cons (.int .i64) (.cons (.int .i64) (.cons (.sl e164) (.cons (.sl e167) (.cons (.sl e62) (.cons (.int .i64) (.cons (.int .i64) (.cons (.int .i64) (.cons (.int .i64) (.cons (.sl e9) (.cons (.int .i64) (.cons (.sl e9) (.cons (.sl e3) (.cons (.int .i64) (.cons (.sl e66) (.cons (.sl e68) (.cons (.sl e3) (.cons (.sl e121) (.cons (.sl e208) .nil)))))))))))))))))))) : Tys).Ok x) : F88 (x, (x, ())) = some (B1 true) :=
  (eq_str (eq_int (eq_call (s36 (x.2.2.1, (x.2.2.2.1, ())) ⟨hx.2.2.1, ⟨hx.2.2.2.1, trivial⟩⟩) (eq_call (s136 (x.2.2.2.2.1, ()) ⟨hx.2.2.2.2.1, trivial⟩) (eq_call (s39 (x.2.2.2.2.2.1, ()) ⟨hx.2.2.2.2.2.1, trivial⟩) (eq_int (eq_int (eq_call (s137 (x.2.2.2.2.2.2.2.2.1, (x.2.2.2.2.2.2.2.2.2.1, (x.2.2.2.2.2.2.2.2.2.2.1, ()))) ⟨hx.2.2.2.2.2.2.2.2.1, ⟨hx.2.2.2.2.2.2.2.2.2.1, ⟨hx.2.2.2.2.2.2.2.2.2.2.1, trivial⟩⟩⟩) (eq_call (s138 (x.2.2.2.2.2.2.2.2.2.2.2.1, (x.2.2.2.2.2.2.2.2.2.2.2.2.1, (x.2.2.2.2.2.2.2.2.2.2.2.2.2.1, ()))) ⟨hx.2.2.2.2.2.2.2.2.2.2.2.1, ⟨hx.2.2.2.2.2.2.2.2.2.2.2.2.1, ⟨hx.2.2.2.2.2.2.2.2.2.2.2.2.2.1, trivial⟩⟩⟩) (eq_int (eq_call (s139 (x.2.2.2.2.2.2.2.2.2.2.2.2.2.2.2.1, ()) ⟨hx.2.2.2.2.2.2.2.2.2.2.2.2.2.2.2.1, trivial⟩) (eq_call (s140 (x.2.2.2.2.2.2.2.2.2.2.2.2.2.2.2.2.1, ()) ⟨hx.2.2.2.2.2.2.2.2.2.2.2.2.2.2.2.2.1, trivial⟩) (eq_call (s141 (x.2.2.2.2.2.2.2.2.2.2.2.2.2.2.2.2.2.1, ()) ⟨hx.2.2.2.2.2.2.2.2.2.2.2.2.2.2.2.2.2.1, trivial⟩) (eq_call (s142 (x.2.2.2.2.2.2.2.2.2.2.2.2.2.2.2.2.2.2.1, ()) ⟨hx.2.2.2.2.2.2.2.2.2.2.2.2.2.2.2.2.2.2.1, trivial⟩) (eq_call (s143 (x.2.2.2.2.2.2.2.2.2.2.2.2.2.2.2.2.2.2.2.1, ()) ⟨hx.2.2.2.2.2.2.2.2.2.2.2.2.2.2.2.2.2.2.2.1, trivial⟩) rfl)))))))))))))))
set_option maxHeartbeats 2000000 in
theorem s38 (x : (List (Tys.D e83) × Unit)) (hx : ((.cons (.sl e83) .nil) : Tys).Ok x) : F38 (x, (x, ())) = some (B1 true) :=
  eqList (xs := x.1) (E := fun y z v => (F88 (y, (z, ()))).bind fun r => bif (!r.1.1) then some (.inr (.inr (B1 false))) else some (.inl (iAdd .i64 v.1 1, ()))) hx.1.1 (fun y hy v => eq_call (s88 y (Ok_mem hx.1.2 hy)) rfl)
set_option maxHeartbeats 2000000 in
theorem s90 (x : (Int × (Int × (Int × (Int × (ByteArray × Unit)))))) (hx : ((.cons (.int .i64) (.cons (.int .i64) (.cons (.int .i64) (.cons (.int .i64) (.cons .str .nil))))) : Tys).Ok x) : F90 (x, (x, ())) = some (B1 true) :=
  (eq_int (eq_int (eq_int (eq_int (eq_str rfl)))))
set_option maxHeartbeats 2000000 in
theorem s40 (x : (List (Tys.D e129) × Unit)) (hx : ((.cons (.sl e129) .nil) : Tys).Ok x) : F40 (x, (x, ())) = some (B1 true) :=
  eqList (xs := x.1) (E := fun y z v => (F90 (y, (z, ()))).bind fun r => bif (!r.1.1) then some (.inr (.inr (B1 false))) else some (.inl (iAdd .i64 v.1 1, ()))) hx.1.1 (fun y hy v => eq_call (s90 y (Ok_mem hx.1.2 hy)) rfl)
set_option maxHeartbeats 2000000 in
theorem s91 (x : (Int × (ByteArray × (Int × (List (Tys.D e62) × (Int × (Int × (ByteArray × (Int × (Int × (ByteArray × (Int × (Int × (List (Tys.D e9) × (Int × (List (Tys.D e9) × (List (Tys.D e3) × Unit))))))))))))))))) (hx : ((.cons (.int .i64) (.cons .str (.cons (.int .i64) (.cons (.sl e62) (.cons (.int .i64) (.cons (.int .i64) (.cons .str (.cons (.int .i64) (.cons (.int .i64) (.cons .str (.cons (.int .i64) (.cons (.int .i64) (.cons (.sl e9) (.cons (.int .i64) (.cons (.sl e9) (.cons (.sl e3) .nil)))))))))))))))) : Tys).Ok x) : F91 (x, (x, ())) = some (B1 true) :=
  (eq_int (eq_str (eq_int (eq_call (s39 (x.2.2.2.1, ()) ⟨hx.2.2.2.1, trivial⟩) (eq_call (s144 (x.2.2.2.2.1, (x.2.2.2.2.2.1, (x.2.2.2.2.2.2.1, ()))) ⟨hx.2.2.2.2.1, ⟨hx.2.2.2.2.2.1, ⟨hx.2.2.2.2.2.2.1, trivial⟩⟩⟩) (eq_call (s145 (x.2.2.2.2.2.2.2.1, (x.2.2.2.2.2.2.2.2.1, (x.2.2.2.2.2.2.2.2.2.1, ()))) ⟨hx.2.2.2.2.2.2.2.1, ⟨hx.2.2.2.2.2.2.2.2.1, ⟨hx.2.2.2.2.2.2.2.2.2.1, trivial⟩⟩⟩) (eq_call (s137 (x.2.2.2.2.2.2.2.2.2.2.1, (x.2.2.2.2.2.2.2.2.2.2.2.1, (x.2.2.2.2.2.2.2.2.2.2.2.2.1, ()))) ⟨hx.2.2.2.2.2.2.2.2.2.2.1, ⟨hx.2.2.2.2.2.2.2.2.2.2.2.1, ⟨hx.2.2.2.2.2.2.2.2.2.2.2.2.1, trivial⟩⟩⟩) (eq_call (s138 (x.2.2.2.2.2.2.2.2.2.2.2.2.2.1, (x.2.2.2.2.2.2.2.2.2.2.2.2.2.2.1, (x.2.2.2.2.2.2.2.2.2.2.2.2.2.2.2.1, ()))) ⟨hx.2.2.2.2.2.2.2.2.2.2.2.2.2.1, ⟨hx.2.2.2.2.2.2.2.2.2.2.2.2.2.2.1, ⟨hx.2.2.2.2.2.2.2.2.2.2.2.2.2.2.2.1, trivial⟩⟩⟩) rfl))))))))
set_option maxHeartbeats 2000000 in
theorem s41 (x : (List (Tys.D e70) × Unit)) (hx : ((.cons (.sl e70) .nil) : Tys).Ok x) : F41 (x, (x, ())) = some (B1 true) :=
  eqList (xs := x.1) (E := fun y z v => (F91 (y, (z, ()))).bind fun r => bif (!r.1.1) then some (.inr (.inr (B1 false))) else some (.inl (iAdd .i64 v.1 1, ()))) hx.1.1 (fun y hy v => eq_call (s91 y (Ok_mem hx.1.2 hy)) rfl)
set_option maxHeartbeats 2000000 in
theorem s8 (x : (Int × (List (Tys.D e164) × (List (Tys.D e9) × (List (Tys.D e83) × (List (Tys.D e62) × (List (Tys.D e129) × (List (Tys.D e70) × Unit)))))))) (hx : ((.cons (.int .i64) (.cons (.sl e164) (.cons (.sl e9) (.cons (.sl e83) (.cons (.sl e62) (.cons (.sl e129) (.cons (.sl e70) .nil))))))) : Tys).Ok x) : F8 (x, (x, ())) = some (B1 true) :=
  (eq_call (s36 (x.1, (x.2.1, ())) ⟨hx.1, ⟨hx.2.1, trivial⟩⟩) (eq_call (s37 (x.2.2.1, ()) ⟨hx.2.2.1, trivial⟩) (eq_call (s38 (x.2.2.2.1, ()) ⟨hx.2.2.2.1, trivial⟩) (eq_call (s39 (x.2.2.2.2.1, ()) ⟨hx.2.2.2.2.1, trivial⟩) (eq_call (s40 (x.2.2.2.2.2.1, ()) ⟨hx.2.2.2.2.2.1, trivial⟩) (eq_call (s41 (x.2.2.2.2.2.2.1, ()) ⟨hx.2.2.2.2.2.2.1, trivial⟩) rfl))))))
end Go.Proofs.YtodcmpnbcgobkabGreat
