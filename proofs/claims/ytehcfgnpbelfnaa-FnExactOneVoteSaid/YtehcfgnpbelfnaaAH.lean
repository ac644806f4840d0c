/- The laws' helpers: how much there is, copies, comparisons with itself. Conditions: none. -/

import Derived.Test.YtehcfgnpbelfnaaTm3
import Derived.Test.YtehcfgnpbelfnaaAF
namespace Go.Proofs.Ytehcfgnpbelfnaa
open Go Go.Tm
set_option linter.unusedVariables false
set_option maxRecDepth 100000
set_option maxHeartbeats 2000000 in
theorem w116 (x : (List (Tys.D e228) × Unit)) (hx : ((.cons (.sl e228) .nil) : Tys).Ok x) : Sz (((.cons (.sl e228) .nil) : Tys).w x) (fun l => F116 (x, ((l, ()), ()))) :=
  (Sz.str (a := List.length x.1) hx.1.1 Sz.nil).to (congrArg (fun z => List.length x.1 + z + 0) (sumW_zero (f := fun y => Tys.w e228 y) (fun _ => rfl) x.1)).symm
set_option maxHeartbeats 2000000 in
theorem w78 (x : (ByteArray × (Int × (Int × (Int × (List (Tys.D e228) × Unit)))))) (hx : ((.cons .str (.cons (.int .i64) (.cons (.int .i64) (.cons (.int .i64) (.cons (.sl e228) .nil))))) : Tys).Ok x) : Sz (((.cons .str (.cons (.int .i64) (.cons (.int .i64) (.cons (.int .i64) (.cons (.sl e228) .nil))))) : Tys).w x) (fun l => F78 (x, ((l, ()), ()))) :=
  (Sz.str (a := ByteArray.size x.1) hx.1 (Sz.int (Sz.int (Sz.int (Sz.call1 (w116 (x.2.2.2.2.1, ()) ⟨hx.2.2.2.2.1, trivial⟩) Sz.nil)))))
set_option maxHeartbeats 2000000 in
theorem w34 (x : (List (Tys.D e133) × Unit)) (hx : ((.cons (.sl e133) .nil) : Tys).Ok x) : Sz (((.cons (.sl e133) .nil) : Tys).w x) (fun l => F34 (x, ((l, ()), ()))) :=
  (Sz.list (xs := x.1) (T := fun y l => F78 (y, ((l, ()), ()))) (π := fun c => c.1.1) (wt := fun y => e133.w y) hx.1.1 (fun y hy => szR_T (x := y) (w78 y (Ok_mem hx.1.2 hy))))
set_option maxHeartbeats 2000000 in
theorem w8 (x : (Int × (List (Tys.D e133) × Unit))) (hx : ((.cons (.int .i64) (.cons (.sl e133) .nil)) : Tys).Ok x) : Sz (((.cons (.int .i64) (.cons (.sl e133) .nil)) : Tys).w x) (fun l => F8 (x, ((l, ()), ()))) :=
  (Sz.int (Sz.call1 (w34 (x.2.1, ()) ⟨hx.2.1, trivial⟩) Sz.nil))
set_option maxHeartbeats 2000000 in
theorem w66 (x : (List (Tys.D e9) × Unit)) (hx : ((.cons (.sl e9) .nil) : Tys).Ok x) : Sz (((.cons (.sl e9) .nil) : Tys).w x) (fun l => F66 (x, ((l, ()), ()))) :=
  (Sz.list (xs := x.1) (T := fun y l => some (iSub .i64 l (ByteArray.size y.1 : Int))) (π := fun c => c) (wt := fun y => ByteArray.size y.1) hx.1.1 (fun y hy => szR_S (Ok_mem hx.1.2 hy).1)).to rfl
set_option maxHeartbeats 2000000 in
theorem w88 (x : (ByteArray × (Int × Unit))) (hx : ((.cons .str (.cons (.int .i64) .nil)) : Tys).Ok x) : Sz (((.cons .str (.cons (.int .i64) .nil)) : Tys).w x) (fun l => F88 (x, ((l, ()), ()))) :=
  (Sz.str (a := ByteArray.size x.1) hx.1 (Sz.int Sz.nil))
set_option maxHeartbeats 2000000 in
theorem w45 (x : (List (Tys.D e145) × Unit)) (hx : ((.cons (.sl e145) .nil) : Tys).Ok x) : Sz (((.cons (.sl e145) .nil) : Tys).w x) (fun l => F45 (x, ((l, ()), ()))) :=
  (Sz.list (xs := x.1) (T := fun y l => F88 (y, ((l, ()), ()))) (π := fun c => c.1.1) (wt := fun y => e145.w y) hx.1.1 (fun y hy => szR_T (x := y) (w88 y (Ok_mem hx.1.2 hy))))
set_option maxHeartbeats 2000000 in
theorem w47 (x : (Int × (Int × (List (Tys.D e9) × Unit)))) (hx : ((.cons (.int .i64) (.cons (.int .i64) (.cons (.sl e9) .nil))) : Tys).Ok x) : Sz (((.cons (.int .i64) (.cons (.int .i64) (.cons (.sl e9) .nil))) : Tys).w x) (fun l => F47 (x, ((l, ()), ()))) :=
  (Sz.int (Sz.int (Sz.call1 (w66 (x.2.2.1, ()) ⟨hx.2.2.1, trivial⟩) Sz.nil)))
set_option maxHeartbeats 2000000 in
theorem w144 (x : (List (Tys.D e3) × Unit)) (hx : ((.cons (.sl e3) .nil) : Tys).Ok x) : Sz (((.cons (.sl e3) .nil) : Tys).w x) (fun l => F144 (x, ((l, ()), ()))) :=
  (Sz.str (a := List.length x.1) hx.1.1 Sz.nil).to (congrArg (fun z => List.length x.1 + z + 0) (sumW_zero (f := fun y => Tys.w e3 y) (fun _ => rfl) x.1)).symm
set_option maxHeartbeats 2000000 in
theorem w123 (x : (Int × (List (Tys.D e9) × (List (Tys.D e3) × Unit)))) (hx : ((.cons (.int .i64) (.cons (.sl e9) (.cons (.sl e3) .nil))) : Tys).Ok x) : Sz (((.cons (.int .i64) (.cons (.sl e9) (.cons (.sl e3) .nil))) : Tys).w x) (fun l => F123 (x, ((l, ()), ()))) :=
  (Sz.int (Sz.call1 (w66 (x.2.1, ()) ⟨hx.2.1, trivial⟩) (Sz.call1 (w144 (x.2.2.1, ()) ⟨hx.2.2.1, trivial⟩) Sz.nil)))
set_option maxHeartbeats 2000000 in
theorem w164 (x : (Int × (ByteArray × (ByteArray × (Int × (Int × Unit)))))) (hx : ((.cons (.int .i64) (.cons .str (.cons .str (.cons (.int .i64) (.cons (.int .i64) .nil))))) : Tys).Ok x) : Sz (((.cons (.int .i64) (.cons .str (.cons .str (.cons (.int .i64) (.cons (.int .i64) .nil))))) : Tys).w x) (fun l => F164 (x, ((l, ()), ()))) :=
  (Sz.int (Sz.str (a := ByteArray.size x.2.1) hx.2.1 (Sz.str (a := ByteArray.size x.2.2.1) hx.2.2.1 (Sz.int (Sz.int Sz.nil)))))
set_option maxHeartbeats 2000000 in
theorem w124 (x : (List (Tys.D e232) × Unit)) (hx : ((.cons (.sl e232) .nil) : Tys).Ok x) : Sz (((.cons (.sl e232) .nil) : Tys).w x) (fun l => F124 (x, ((l, ()), ()))) :=
  (Sz.list (xs := x.1) (T := fun y l => F164 (y, ((l, ()), ()))) (π := fun c => c.1.1) (wt := fun y => e232.w y) hx.1.1 (fun y hy => szR_T (x := y) (w164 y (Ok_mem hx.1.2 hy))))
set_option maxHeartbeats 2000000 in
theorem w89 (x : (Int × (Int × (Int × (ByteArray × (Int × (Int × (List (Tys.D e9) × (Int × (List (Tys.D e9) × (List (Tys.D e3) × (List (Tys.D e232) × (Bool × (List (Tys.D e145) × (ByteArray × Unit))))))))))))))) (hx : ((.cons (.int .i64) (.cons (.int .i64) (.cons (.int .i64) (.cons .str (.cons (.int .i64) (.cons (.int .i64) (.cons (.sl e9) (.cons (.int .i64) (.cons (.sl e9) (.cons (.sl e3) (.cons (.sl e232) (.cons .bool (.cons (.sl e145) (.cons .str .nil)))))))))))))) : Tys).Ok x) : Sz (((.cons (.int .i64) (.cons (.int .i64) (.cons (.int .i64) (.cons .str (.cons (.int .i64) (.cons (.int .i64) (.cons (.sl e9) (.cons (.int .i64) (.cons (.sl e9) (.cons (.sl e3) (.cons (.sl e232) (.cons .bool (.cons (.sl e145) (.cons .str .nil)))))))))))))) : Tys).w x) (fun l => F89 (x, ((l, ()), ()))) :=
  (Sz.int (Sz.int (Sz.int (Sz.str (a := ByteArray.size x.2.2.2.1) hx.2.2.2.1 (Sz.call3 (w47 (x.2.2.2.2.1, (x.2.2.2.2.2.1, (x.2.2.2.2.2.2.1, ()))) ⟨hx.2.2.2.2.1, ⟨hx.2.2.2.2.2.1, ⟨hx.2.2.2.2.2.2.1, trivial⟩⟩⟩) (Sz.call3 (w123 (x.2.2.2.2.2.2.2.1, (x.2.2.2.2.2.2.2.2.1, (x.2.2.2.2.2.2.2.2.2.1, ()))) ⟨hx.2.2.2.2.2.2.2.1, ⟨hx.2.2.2.2.2.2.2.2.1, ⟨hx.2.2.2.2.2.2.2.2.2.1, trivial⟩⟩⟩) (Sz.call1 (w124 (x.2.2.2.2.2.2.2.2.2.2.1, ()) ⟨hx.2.2.2.2.2.2.2.2.2.2.1, trivial⟩) (Sz.int (Sz.call1 (w45 (x.2.2.2.2.2.2.2.2.2.2.2.2.1, ()) ⟨hx.2.2.2.2.2.2.2.2.2.2.2.2.1, trivial⟩) (Sz.str (a := ByteArray.size x.2.2.2.2.2.2.2.2.2.2.2.2.2.1) hx.2.2.2.2.2.2.2.2.2.2.2.2.2.1 Sz.nil))))))))))
set_option maxHeartbeats 2000000 in
theorem w46 (x : (List (Tys.D e150) × Unit)) (hx : ((.cons (.sl e150) .nil) : Tys).Ok x) : Sz (((.cons (.sl e150) .nil) : Tys).w x) (fun l => F46 (x, ((l, ()), ()))) :=
  (Sz.list (xs := x.1) (T := fun y l => F89 (y, ((l, ()), ()))) (π := fun c => c.1.1) (wt := fun y => e150.w y) hx.1.1 (fun y hy => szR_T (x := y) (w89 y (Ok_mem hx.1.2 hy))))
set_option maxHeartbeats 2000000 in
theorem w146 (x : (Int × (Int × (ByteArray × Unit)))) (hx : ((.cons (.int .i64) (.cons (.int .i64) (.cons .str .nil))) : Tys).Ok x) : Sz (((.cons (.int .i64) (.cons (.int .i64) (.cons .str .nil))) : Tys).w x) (fun l => F146 (x, ((l, ()), ()))) :=
  (Sz.int (Sz.int (Sz.str (a := ByteArray.size x.2.2.1) hx.2.2.1 Sz.nil)))
set_option maxHeartbeats 2000000 in
theorem w142 (x : (List (Tys.D e171) × Unit)) (hx : ((.cons (.sl e171) .nil) : Tys).Ok x) : Sz (((.cons (.sl e171) .nil) : Tys).w x) (fun l => F142 (x, ((l, ()), ()))) :=
  (Sz.list (xs := x.1) (T := fun y l => F146 (y, ((l, ()), ()))) (π := fun c => c.1.1) (wt := fun y => e171.w y) hx.1.1 (fun y hy => szR_T (x := y) (w146 y (Ok_mem hx.1.2 hy))))
set_option maxHeartbeats 2000000 in
theorem w147 (x : (Int × (Int × (ByteArray × Unit)))) (hx : ((.cons (.int .i64) (.cons (.int .i64) (.cons .str .nil))) : Tys).Ok x) : Sz (((.cons (.int .i64) (.cons (.int .i64) (.cons .str .nil))) : Tys).w x) (fun l => F147 (x, ((l, ()), ()))) :=
  (Sz.int (Sz.int (Sz.str (a := ByteArray.size x.2.2.1) hx.2.2.1 Sz.nil)))
set_option maxHeartbeats 2000000 in
theorem w143 (x : (List (Tys.D e173) × Unit)) (hx : ((.cons (.sl e173) .nil) : Tys).Ok x) : Sz (((.cons (.sl e173) .nil) : Tys).w x) (fun l => F143 (x, ((l, ()), ()))) :=
  (Sz.list (xs := x.1) (T := fun y l => F147 (y, ((l, ()), ()))) (π := fun c => c.1.1) (wt := fun y => e173.w y) hx.1.1 (fun y hy => szR_T (x := y) (w147 y (Ok_mem hx.1.2 hy))))
set_option maxHeartbeats 2000000 in
theorem w18 (x : (Int × (List (Tys.D e150) × (Int × (Int × (List (Tys.D e9) × Unit)))))) (hx : ((.cons (.int .i64) (.cons (.sl e150) (.cons (.int .i64) (.cons (.int .i64) (.cons (.sl e9) .nil))))) : Tys).Ok x) : Sz (((.cons (.int .i64) (.cons (.sl e150) (.cons (.int .i64) (.cons (.int .i64) (.cons (.sl e9) .nil))))) : Tys).w x) (fun l => F18 (x, ((l, ()), ()))) :=
  (Sz.int (Sz.call1 (w46 (x.2.1, ()) ⟨hx.2.1, trivial⟩) (Sz.call3 (w47 (x.2.2.1, (x.2.2.2.1, (x.2.2.2.2.1, ()))) ⟨hx.2.2.1, ⟨hx.2.2.2.1, ⟨hx.2.2.2.2.1, trivial⟩⟩⟩) Sz.nil)))
set_option maxHeartbeats 2000000 in
theorem w145 (x : (List (Tys.D e47) × Unit)) (hx : ((.cons (.sl e47) .nil) : Tys).Ok x) : Sz (((.cons (.sl e47) .nil) : Tys).w x) (fun l => F145 (x, ((l, ()), ()))) :=
  (Sz.list (xs := x.1) (T := fun y l => F18 (y, ((l, ()), ()))) (π := fun c => c.1.1) (wt := fun y => e47.w y) hx.1.1 (fun y hy => szR_T (x := y) (w18 y (Ok_mem hx.1.2 hy))))
set_option maxHeartbeats 2000000 in
theorem w107 (x : (ByteArray × (Int × (Int × (List (Tys.D e133) × (List (Tys.D e145) × (List (Tys.D e150) × (Int × (Int × (Int × (Int × (List (Tys.D e9) × (Int × (List (Tys.D e9) × (List (Tys.D e3) × (Int × (List (Tys.D e171) × (List (Tys.D e173) × (List (Tys.D e3) × (List (Tys.D e232) × (List (Tys.D e47) × Unit))))))))))))))))))))) (hx : ((.cons .str (.cons (.int .i64) (.cons (.int .i64) (.cons (.sl e133) (.cons (.sl e145) (.cons (.sl e150) (.cons (.int .i64) (.cons (.int .i64) (.cons (.int .i64) (.cons (.int .i64) (.cons (.sl e9) (.cons (.int .i64) (.cons (.sl e9) (.cons (.sl e3) (.cons (.int .i64) (.cons (.sl e171) (.cons (.sl e173) (.cons (.sl e3) (.cons (.sl e232) (.cons (.sl e47) .nil)))))))))))))))))))) : Tys).Ok x) : Sz (((.cons .str (.cons (.int .i64) (.cons (.int .i64) (.cons (.sl e133) (.cons (.sl e145) (.cons (.sl e150) (.cons (.int .i64) (.cons (.int .i64) (.cons (.int .i64) (.cons (.int .i64) (.cons (.sl e9) (.cons (.int .i64) (.cons (.sl e9) (.cons (.sl e3) (.cons (.int .i64) (.cons (.sl e171) (.cons (.sl e173) (.cons (.sl e3) (.cons (.sl e232) (.cons (.sl e47) .nil)))))))))))))))))))) : Tys).w x) (fun l => F107 (x, ((l, ()), ()))) :=
  (Sz.str (a := ByteArray.size x.1) hx.1 (Sz.int (Sz.call2 (w8 (x.2.2.1, (x.2.2.2.1, ())) ⟨hx.2.2.1, ⟨hx.2.2.2.1, trivial⟩⟩) (Sz.call1 (w45 (x.2.2.2.2.1, ()) ⟨hx.2.2.2.2.1, trivial⟩) (Sz.call1 (w46 (x.2.2.2.2.2.1, ()) ⟨hx.2.2.2.2.2.1, trivial⟩) (Sz.int (Sz.int (Sz.call3 (w47 (x.2.2.2.2.2.2.2.2.1, (x.2.2.2.2.2.2.2.2.2.1, (x.2.2.2.2.2.2.2.2.2.2.1, ()))) ⟨hx.2.2.2.2.2.2.2.2.1, ⟨hx.2.2.2.2.2.2.2.2.2.1, ⟨hx.2.2.2.2.2.2.2.2.2.2.1, trivial⟩⟩⟩) (Sz.call3 (w123 (x.2.2.2.2.2.2.2.2.2.2.2.1, (x.2.2.2.2.2.2.2.2.2.2.2.2.1, (x.2.2.2.2.2.2.2.2.2.2.2.2.2.1, ()))) ⟨hx.2.2.2.2.2.2.2.2.2.2.2.1, ⟨hx.2.2.2.2.2.2.2.2.2.2.2.2.1, ⟨hx.2.2.2.2.2.2.2.2.2.2.2.2.2.1, trivial⟩⟩⟩) (Sz.int (Sz.call1 (w142 (x.2.2.2.2.2.2.2.2.2.2.2.2.2.2.2.1, ()) ⟨hx.2.2.2.2.2.2.2.2.2.2.2.2.2.2.2.1, trivial⟩) (Sz.call1 (w143 (x.2.2.2.2.2.2.2.2.2.2.2.2.2.2.2.2.1, ()) ⟨hx.2.2.2.2.2.2.2.2.2.2.2.2.2.2.2.2.1, trivial⟩) (Sz.call1 (w144 (x.2.2.2.2.2.2.2.2.2.2.2.2.2.2.2.2.2.1, ()) ⟨hx.2.2.2.2.2.2.2.2.2.2.2.2.2.2.2.2.2.1, trivial⟩) (Sz.call1 (w124 (x.2.2.2.2.2.2.2.2.2.2.2.2.2.2.2.2.2.2.1, ()) ⟨hx.2.2.2.2.2.2.2.2.2.2.2.2.2.2.2.2.2.2.1, trivial⟩) (Sz.call1 (w145 (x.2.2.2.2.2.2.2.2.2.2.2.2.2.2.2.2.2.2.2.1, ()) ⟨hx.2.2.2.2.2.2.2.2.2.2.2.2.2.2.2.2.2.2.2.1, trivial⟩) Sz.nil)))))))))))))))
set_option maxHeartbeats 2000000 in
theorem w67 (x : (List (Tys.D e166) × Unit)) (hx : ((.cons (.sl e166) .nil) : Tys).Ok x) : Sz (((.cons (.sl e166) .nil) : Tys).w x) (fun l => F67 (x, ((l, ()), ()))) :=
  (Sz.list (xs := x.1) (T := fun y l => F107 (y, ((l, ()), ()))) (π := fun c => c.1.1) (wt := fun y => e166.w y) hx.1.1 (fun y hy => szR_T (x := y) (w107 y (Ok_mem hx.1.2 hy))))
set_option maxHeartbeats 2000000 in
theorem w108 (x : (Int × (Int × (Int × (Int × (ByteArray × Unit)))))) (hx : ((.cons (.int .i64) (.cons (.int .i64) (.cons (.int .i64) (.cons (.int .i64) (.cons .str .nil))))) : Tys).Ok x) : Sz (((.cons (.int .i64) (.cons (.int .i64) (.cons (.int .i64) (.cons (.int .i64) (.cons .str .nil))))) : Tys).w x) (fun l => F108 (x, ((l, ()), ()))) :=
  (Sz.int (Sz.int (Sz.int (Sz.int (Sz.str (a := ByteArray.size x.2.2.2.2.1) hx.2.2.2.2.1 Sz.nil)))))
set_option maxHeartbeats 2000000 in
theorem w68 (x : (List (Tys.D e168) × Unit)) (hx : ((.cons (.sl e168) .nil) : Tys).Ok x) : Sz (((.cons (.sl e168) .nil) : Tys).w x) (fun l => F68 (x, ((l, ()), ()))) :=
  (Sz.list (xs := x.1) (T := fun y l => F108 (y, ((l, ()), ()))) (π := fun c => c.1.1) (wt := fun y => e168.w y) hx.1.1 (fun y hy => szR_T (x := y) (w108 y (Ok_mem hx.1.2 hy))))
set_option maxHeartbeats 2000000 in
theorem w109 (x : (Int × (ByteArray × (Int × (List (Tys.D e150) × (Int × (Int × (ByteArray × (Int × (Int × (ByteArray × (Int × (Int × (List (Tys.D e9) × (Int × (List (Tys.D e9) × (List (Tys.D e3) × Unit))))))))))))))))) (hx : ((.cons (.int .i64) (.cons .str (.cons (.int .i64) (.cons (.sl e150) (.cons (.int .i64) (.cons (.int .i64) (.cons .str (.cons (.int .i64) (.cons (.int .i64) (.cons .str (.cons (.int .i64) (.cons (.int .i64) (.cons (.sl e9) (.cons (.int .i64) (.cons (.sl e9) (.cons (.sl e3) .nil)))))))))))))))) : Tys).Ok x) : Sz (((.cons (.int .i64) (.cons .str (.cons (.int .i64) (.cons (.sl e150) (.cons (.int .i64) (.cons (.int .i64) (.cons .str (.cons (.int .i64) (.cons (.int .i64) (.cons .str (.cons (.int .i64) (.cons (.int .i64) (.cons (.sl e9) (.cons (.int .i64) (.cons (.sl e9) (.cons (.sl e3) .nil)))))))))))))))) : Tys).w x) (fun l => F109 (x, ((l, ()), ()))) :=
  (Sz.int (Sz.str (a := ByteArray.size x.2.1) hx.2.1 (Sz.int (Sz.call1 (w46 (x.2.2.2.1, ()) ⟨hx.2.2.2.1, trivial⟩) (Sz.call3 (w146 (x.2.2.2.2.1, (x.2.2.2.2.2.1, (x.2.2.2.2.2.2.1, ()))) ⟨hx.2.2.2.2.1, ⟨hx.2.2.2.2.2.1, ⟨hx.2.2.2.2.2.2.1, trivial⟩⟩⟩) (Sz.call3 (w147 (x.2.2.2.2.2.2.2.1, (x.2.2.2.2.2.2.2.2.1, (x.2.2.2.2.2.2.2.2.2.1, ()))) ⟨hx.2.2.2.2.2.2.2.1, ⟨hx.2.2.2.2.2.2.2.2.1, ⟨hx.2.2.2.2.2.2.2.2.2.1, trivial⟩⟩⟩) (Sz.call3 (w47 (x.2.2.2.2.2.2.2.2.2.2.1, (x.2.2.2.2.2.2.2.2.2.2.2.1, (x.2.2.2.2.2.2.2.2.2.2.2.2.1, ()))) ⟨hx.2.2.2.2.2.2.2.2.2.2.1, ⟨hx.2.2.2.2.2.2.2.2.2.2.2.1, ⟨hx.2.2.2.2.2.2.2.2.2.2.2.2.1, trivial⟩⟩⟩) (Sz.call3 (w123 (x.2.2.2.2.2.2.2.2.2.2.2.2.2.1, (x.2.2.2.2.2.2.2.2.2.2.2.2.2.2.1, (x.2.2.2.2.2.2.2.2.2.2.2.2.2.2.2.1, ()))) ⟨hx.2.2.2.2.2.2.2.2.2.2.2.2.2.1, ⟨hx.2.2.2.2.2.2.2.2.2.2.2.2.2.2.1, ⟨hx.2.2.2.2.2.2.2.2.2.2.2.2.2.2.2.1, trivial⟩⟩⟩) Sz.nil))))))))
set_option maxHeartbeats 2000000 in
theorem w69 (x : (List (Tys.D e175) × Unit)) (hx : ((.cons (.sl e175) .nil) : Tys).Ok x) : Sz (((.cons (.sl e175) .nil) : Tys).w x) (fun l => F69 (x, ((l, ()), ()))) :=
  (Sz.list (xs := x.1) (T := fun y l => F109 (y, ((l, ()), ()))) (π := fun c => c.1.1) (wt := fun y => e175.w y) hx.1.1 (fun y hy => szR_T (x := y) (w109 y (Ok_mem hx.1.2 hy))))
set_option maxHeartbeats 2000000 in
theorem w25 (x : (Int × (List (Tys.D e133) × (List (Tys.D e9) × (List (Tys.D e166) × (List (Tys.D e150) × (List (Tys.D e168) × (List (Tys.D e175) × Unit)))))))) (hx : ((.cons (.int .i64) (.cons (.sl e133) (.cons (.sl e9) (.cons (.sl e166) (.cons (.sl e150) (.cons (.sl e168) (.cons (.sl e175) .nil))))))) : Tys).Ok x) : Sz (((.cons (.int .i64) (.cons (.sl e133) (.cons (.sl e9) (.cons (.sl e166) (.cons (.sl e150) (.cons (.sl e168) (.cons (.sl e175) .nil))))))) : Tys).w x) (fun l => F25 (x, ((l, ()), ()))) :=
  (Sz.call2 (w8 (x.1, (x.2.1, ())) ⟨hx.1, ⟨hx.2.1, trivial⟩⟩) (Sz.call1 (w66 (x.2.2.1, ()) ⟨hx.2.2.1, trivial⟩) (Sz.call1 (w67 (x.2.2.2.1, ()) ⟨hx.2.2.2.1, trivial⟩) (Sz.call1 (w46 (x.2.2.2.2.1, ()) ⟨hx.2.2.2.2.1, trivial⟩) (Sz.call1 (w68 (x.2.2.2.2.2.1, ()) ⟨hx.2.2.2.2.2.1, trivial⟩) (Sz.call1 (w69 (x.2.2.2.2.2.2.1, ()) ⟨hx.2.2.2.2.2.2.1, trivial⟩) Sz.nil))))))
set_option maxHeartbeats 2000000 in
theorem t161 (x : (Int × (Int × Unit))) (hx : ((.cons (.int .i64) (.cons (.int .i64) .nil)) : Tys).w x ≤ 1048576) : F161 (x, ()) = some (x, ()) :=
  rfl
set_option maxHeartbeats 2000000 in
theorem t119 (x : (List (Tys.D e228) × Unit)) (hx : ((.cons (.sl e228) .nil) : Tys).w x ≤ 1048576) : F119 (x, ()) = some (x, ()) :=
  (toList (A := Tys.D e228) (B := Tys.D e193) (xs := x.1) (T := fun y => F161 (y, ())) (π := fun c => c.1) (φ := fun y => y) (bytes := 16) (by decide) (by decide) (w_len hx) (fun y hy => ⟨_, t161 y (w_el hx rfl hy), rfl⟩)).trans (congrArg (fun l => some ((l, ()), ())) (List.map_id' x.1))
set_option maxHeartbeats 2000000 in
theorem t81 (x : (ByteArray × (Int × (Int × (Int × (List (Tys.D e228) × Unit)))))) (hx : ((.cons .str (.cons (.int .i64) (.cons (.int .i64) (.cons (.int .i64) (.cons (.sl e228) .nil))))) : Tys).w x ≤ 1048576) : F81 (x, ()) = some (x, ()) :=
  (bind_eq (t119 (x.2.2.2.2.1, ()) (w_1 (w_tl (w_tl (w_tl (w_tl hx)))))) rfl)
set_option maxHeartbeats 2000000 in
theorem t37 (x : (List (Tys.D e133) × Unit)) (hx : ((.cons (.sl e133) .nil) : Tys).w x ≤ 1048576) : F37 (x, ()) = some (x, ()) :=
  (toList (A := Tys.D e133) (B := Tys.D e138) (xs := x.1) (T := fun y => F81 (y, ())) (π := fun c => c.1) (φ := fun y => y) (bytes := 64) (by decide) (by decide) (w_len hx) (fun y hy => ⟨_, t81 y (w_el hx rfl hy), rfl⟩)).trans (congrArg (fun l => some ((l, ()), ())) (List.map_id' x.1))
set_option maxHeartbeats 2000000 in
theorem t10 (x : (Int × (List (Tys.D e133) × Unit))) (hx : ((.cons (.int .i64) (.cons (.sl e133) .nil)) : Tys).w x ≤ 1048576) : F10 (x, ()) = some (x, ()) :=
  (bind_eq (t37 (x.2.1, ()) (w_1 (w_tl hx))) rfl)
set_option maxHeartbeats 2000000 in
theorem t70 (x : (List (Tys.D e9) × Unit)) (hx : ((.cons (.sl e9) .nil) : Tys).w x ≤ 1048576) : F70 (x, ()) = some (x, ()) :=
  (toList (A := Tys.D e9) (B := Tys.D e9) (xs := x.1) (T := fun y => some y) (π := fun c => c) (φ := fun y => y) (bytes := 16) (by decide) (by decide) (w_len hx) (fun y hy => ⟨_, rfl, rfl⟩)).trans (congrArg (fun l => some ((l, ()), ())) (List.map_id' x.1))
set_option maxHeartbeats 2000000 in
theorem t95 (x : (ByteArray × (Int × Unit))) (hx : ((.cons .str (.cons (.int .i64) .nil)) : Tys).w x ≤ 1048576) : F95 (x, ()) = some (x, ()) :=
  rfl
set_option maxHeartbeats 2000000 in
theorem t52 (x : (List (Tys.D e145) × Unit)) (hx : ((.cons (.sl e145) .nil) : Tys).w x ≤ 1048576) : F52 (x, ()) = some (x, ()) :=
  (toList (A := Tys.D e145) (B := Tys.D e106) (xs := x.1) (T := fun y => F95 (y, ())) (π := fun c => c.1) (φ := fun y => y) (bytes := 24) (by decide) (by decide) (w_len hx) (fun y hy => ⟨_, t95 y (w_el hx rfl hy), rfl⟩)).trans (congrArg (fun l => some ((l, ()), ())) (List.map_id' x.1))
set_option maxHeartbeats 2000000 in
theorem t54 (x : (Int × (Int × (List (Tys.D e9) × Unit)))) (hx : ((.cons (.int .i64) (.cons (.int .i64) (.cons (.sl e9) .nil))) : Tys).w x ≤ 1048576) : F54 (x, ()) = some (x, ()) :=
  (bind_eq (t70 (x.2.2.1, ()) (w_1 (w_tl (w_tl hx)))) rfl)
set_option maxHeartbeats 2000000 in
theorem t150 (x : (List (Tys.D e3) × Unit)) (hx : ((.cons (.sl e3) .nil) : Tys).w x ≤ 1048576) : F150 (x, ()) = some (x, ()) :=
  (toList (A := Tys.D e3) (B := Tys.D e3) (xs := x.1) (T := fun y => some y) (π := fun c => c) (φ := fun y => y) (bytes := 8) (by decide) (by decide) (w_len hx) (fun y hy => ⟨_, rfl, rfl⟩)).trans (congrArg (fun l => some ((l, ()), ())) (List.map_id' x.1))
set_option maxHeartbeats 2000000 in
theorem t132 (x : (Int × (List (Tys.D e9) × (List (Tys.D e3) × Unit)))) (hx : ((.cons (.int .i64) (.cons (.sl e9) (.cons (.sl e3) .nil))) : Tys).w x ≤ 1048576) : F132 (x, ()) = some (x, ()) :=
  (bind_eq (t70 (x.2.1, ()) (w_1 (w_tl hx))) (bind_eq (t150 (x.2.2.1, ()) (w_1 (w_tl (w_tl hx)))) rfl))
set_option maxHeartbeats 2000000 in
theorem t167 (x : (Int × (ByteArray × (ByteArray × (Int × (Int × Unit)))))) (hx : ((.cons (.int .i64) (.cons .str (.cons .str (.cons (.int .i64) (.cons (.int .i64) .nil))))) : Tys).w x ≤ 1048576) : F167 (x, ()) = some (x, ()) :=
  rfl
set_option maxHeartbeats 2000000 in
theorem t133 (x : (List (Tys.D e232) × Unit)) (hx : ((.cons (.sl e232) .nil) : Tys).w x ≤ 1048576) : F133 (x, ()) = some (x, ()) :=
  (toList (A := Tys.D e232) (B := Tys.D e198) (xs := x.1) (T := fun y => F167 (y, ())) (π := fun c => c.1) (φ := fun y => y) (bytes := 56) (by decide) (by decide) (w_len hx) (fun y hy => ⟨_, t167 y (w_el hx rfl hy), rfl⟩)).trans (congrArg (fun l => some ((l, ()), ())) (List.map_id' x.1))
set_option maxHeartbeats 2000000 in
theorem t96 (x : (Int × (Int × (Int × (ByteArray × (Int × (Int × (List (Tys.D e9) × (Int × (List (Tys.D e9) × (List (Tys.D e3) × (List (Tys.D e232) × (Bool × (List (Tys.D e145) × (ByteArray × Unit))))))))))))))) (hx : ((.cons (.int .i64) (.cons (.int .i64) (.cons (.int .i64) (.cons .str (.cons (.int .i64) (.cons (.int .i64) (.cons (.sl e9) (.cons (.int .i64) (.cons (.sl e9) (.cons (.sl e3) (.cons (.sl e232) (.cons .bool (.cons (.sl e145) (.cons .str .nil)))))))))))))) : Tys).w x ≤ 1048576) : F96 (x, ()) = some (x, ()) :=
  (bind_eq (t54 (x.2.2.2.2.1, (x.2.2.2.2.2.1, (x.2.2.2.2.2.2.1, ()))) (w_3 (w_tl (w_tl (w_tl (w_tl hx)))))) (bind_eq (t132 (x.2.2.2.2.2.2.2.1, (x.2.2.2.2.2.2.2.2.1, (x.2.2.2.2.2.2.2.2.2.1, ()))) (w_3 (w_tl (w_tl (w_tl (w_tl (w_tl (w_tl (w_tl hx))))))))) (bind_eq (t133 (x.2.2.2.2.2.2.2.2.2.2.1, ()) (w_1 (w_tl (w_tl (w_tl (w_tl (w_tl (w_tl (w_tl (w_tl (w_tl (w_tl hx)))))))))))) (bind_eq (t52 (x.2.2.2.2.2.2.2.2.2.2.2.2.1, ()) (w_1 (w_tl (w_tl (w_tl (w_tl (w_tl (w_tl (w_tl (w_tl (w_tl (w_tl (w_tl (w_tl hx)))))))))))))) rfl))))
set_option maxHeartbeats 2000000 in
theorem t53 (x : (List (Tys.D e150) × Unit)) (hx : ((.cons (.sl e150) .nil) : Tys).w x ≤ 1048576) : F53 (x, ()) = some (x, ()) :=
  (toList (A := Tys.D e150) (B := Tys.D e96) (xs := x.1) (T := fun y => F96 (y, ())) (π := fun c => c.1) (φ := fun y => y) (bytes := 208) (by decide) (by decide) (w_len hx) (fun y hy => ⟨_, t96 y (w_el hx rfl hy), rfl⟩)).trans (congrArg (fun l => some ((l, ()), ())) (List.map_id' x.1))
set_option maxHeartbeats 2000000 in
theorem t152 (x : (Int × (Int × (ByteArray × Unit)))) (hx : ((.cons (.int .i64) (.cons (.int .i64) (.cons .str .nil))) : Tys).w x ≤ 1048576) : F152 (x, ()) = some (x, ()) :=
  rfl
set_option maxHeartbeats 2000000 in
theorem t148 (x : (List (Tys.D e171) × Unit)) (hx : ((.cons (.sl e171) .nil) : Tys).w x ≤ 1048576) : F148 (x, ()) = some (x, ()) :=
  (toList (A := Tys.D e171) (B := Tys.D e178) (xs := x.1) (T := fun y => F152 (y, ())) (π := fun c => c.1) (φ := fun y => y) (bytes := 32) (by decide) (by decide) (w_len hx) (fun y hy => ⟨_, t152 y (w_el hx rfl hy), rfl⟩)).trans (congrArg (fun l => some ((l, ()), ())) (List.map_id' x.1))
set_option maxHeartbeats 2000000 in
theorem t153 (x : (Int × (Int × (ByteArray × Unit)))) (hx : ((.cons (.int .i64) (.cons (.int .i64) (.cons .str .nil))) : Tys).w x ≤ 1048576) : F153 (x, ()) = some (x, ()) :=
  rfl
set_option maxHeartbeats 2000000 in
theorem t149 (x : (List (Tys.D e173) × Unit)) (hx : ((.cons (.sl e173) .nil) : Tys).w x ≤ 1048576) : F149 (x, ()) = some (x, ()) :=
  (toList (A := Tys.D e173) (B := Tys.D e179) (xs := x.1) (T := fun y => F153 (y, ())) (π := fun c => c.1) (φ := fun y => y) (bytes := 32) (by decide) (by decide) (w_len hx) (fun y hy => ⟨_, t153 y (w_el hx rfl hy), rfl⟩)).trans (congrArg (fun l => some ((l, ()), ())) (List.map_id' x.1))
set_option maxHeartbeats 2000000 in
theorem t21 (x : (Int × (List (Tys.D e150) × (Int × (Int × (List (Tys.D e9) × Unit)))))) (hx : ((.cons (.int .i64) (.cons (.sl e150) (.cons (.int .i64) (.cons (.int .i64) (.cons (.sl e9) .nil))))) : Tys).w x ≤ 1048576) : F21 (x, ()) = some (x, ()) :=
  (bind_eq (t53 (x.2.1, ()) (w_1 (w_tl hx))) (bind_eq (t54 (x.2.2.1, (x.2.2.2.1, (x.2.2.2.2.1, ()))) (w_3 (w_tl (w_tl hx)))) rfl))
set_option maxHeartbeats 2000000 in
theorem t151 (x : (List (Tys.D e47) × Unit)) (hx : ((.cons (.sl e47) .nil) : Tys).w x ≤ 1048576) : F151 (x, ()) = some (x, ()) :=
  (toList (A := Tys.D e47) (B := Tys.D e56) (xs := x.1) (T := fun y => F21 (y, ())) (π := fun c => c.1) (φ := fun y => y) (bytes := 72) (by decide) (by decide) (w_len hx) (fun y hy => ⟨_, t21 y (w_el hx rfl hy), rfl⟩)).trans (congrArg (fun l => some ((l, ()), ())) (List.map_id' x.1))
set_option maxHeartbeats 2000000 in
theorem t110 (x : (ByteArray × (Int × (Int × (List (Tys.D e133) × (List (Tys.D e145) × (List (Tys.D e150) × (Int × (Int × (Int × (Int × (List (Tys.D e9) × (Int × (List (Tys.D e9) × (List (Tys.D e3) × (Int × (List (Tys.D e171) × (List (Tys.D e173) × (List (Tys.D e3) × (List (Tys.D e232) × (List (Tys.D e47) × Unit))))))))))))))))))))) (hx : ((.cons .str (.cons (.int .i64) (.cons (.int .i64) (.cons (.sl e133) (.cons (.sl e145) (.cons (.sl e150) (.cons (.int .i64) (.cons (.int .i64) (.cons (.int .i64) (.cons (.int .i64) (.cons (.sl e9) (.cons (.int .i64) (.cons (.sl e9) (.cons (.sl e3) (.cons (.int .i64) (.cons (.sl e171) (.cons (.sl e173) (.cons (.sl e3) (.cons (.sl e232) (.cons (.sl e47) .nil)))))))))))))))))))) : Tys).w x ≤ 1048576) : F110 (x, ()) = some (x, ()) :=
  (bind_eq (t10 (x.2.2.1, (x.2.2.2.1, ())) (w_2 (w_tl (w_tl hx)))) (bind_eq (t52 (x.2.2.2.2.1, ()) (w_1 (w_tl (w_tl (w_tl (w_tl hx)))))) (bind_eq (t53 (x.2.2.2.2.2.1, ()) (w_1 (w_tl (w_tl (w_tl (w_tl (w_tl hx))))))) (bind_eq (t54 (x.2.2.2.2.2.2.2.2.1, (x.2.2.2.2.2.2.2.2.2.1, (x.2.2.2.2.2.2.2.2.2.2.1, ()))) (w_3 (w_tl (w_tl (w_tl (w_tl (w_tl (w_tl (w_tl (w_tl hx)))))))))) (bind_eq (t132 (x.2.2.2.2.2.2.2.2.2.2.2.1, (x.2.2.2.2.2.2.2.2.2.2.2.2.1, (x.2.2.2.2.2.2.2.2.2.2.2.2.2.1, ()))) (w_3 (w_tl (w_tl (w_tl (w_tl (w_tl (w_tl (w_tl (w_tl (w_tl (w_tl (w_tl hx))))))))))))) (bind_eq (t148 (x.2.2.2.2.2.2.2.2.2.2.2.2.2.2.2.1, ()) (w_1 (w_tl (w_tl (w_tl (w_tl (w_tl (w_tl (w_tl (w_tl (w_tl (w_tl (w_tl (w_tl (w_tl (w_tl (w_tl hx))))))))))))))))) (bind_eq (t149 (x.2.2.2.2.2.2.2.2.2.2.2.2.2.2.2.2.1, ()) (w_1 (w_tl (w_tl (w_tl (w_tl (w_tl (w_tl (w_tl (w_tl (w_tl (w_tl (w_tl (w_tl (w_tl (w_tl (w_tl (w_tl hx)))))))))))))))))) (bind_eq (t150 (x.2.2.2.2.2.2.2.2.2.2.2.2.2.2.2.2.2.1, ()) (w_1 (w_tl (w_tl (w_tl (w_tl (w_tl (w_tl (w_tl (w_tl (w_tl (w_tl (w_tl (w_tl (w_tl (w_tl (w_tl (w_tl (w_tl hx))))))))))))))))))) (bind_eq (t133 (x.2.2.2.2.2.2.2.2.2.2.2.2.2.2.2.2.2.2.1, ()) (w_1 (w_tl (w_tl (w_tl (w_tl (w_tl (w_tl (w_tl (w_tl (w_tl (w_tl (w_tl (w_tl (w_tl (w_tl (w_tl (w_tl (w_tl (w_tl hx)))))))))))))))))))) (bind_eq (t151 (x.2.2.2.2.2.2.2.2.2.2.2.2.2.2.2.2.2.2.2.1, ()) (w_1 (w_tl (w_tl (w_tl (w_tl (w_tl (w_tl (w_tl (w_tl (w_tl (w_tl (w_tl (w_tl (w_tl (w_tl (w_tl (w_tl (w_tl (w_tl (w_tl hx))))))))))))))))))))) rfl))))))))))
set_option maxHeartbeats 2000000 in
theorem t71 (x : (List (Tys.D e166) × Unit)) (hx : ((.cons (.sl e166) .nil) : Tys).w x ≤ 1048576) : F71 (x, ()) = some (x, ()) :=
  (toList (A := Tys.D e166) (B := Tys.D e119) (xs := x.1) (T := fun y => F110 (y, ())) (π := fun c => c.1) (φ := fun y => y) (bytes := 344) (by decide) (by decide) (w_len hx) (fun y hy => ⟨_, t110 y (w_el hx rfl hy), rfl⟩)).trans (congrArg (fun l => some ((l, ()), ())) (List.map_id' x.1))
set_option maxHeartbeats 2000000 in
theorem t111 (x : (Int × (Int × (Int × (Int × (ByteArray × Unit)))))) (hx : ((.cons (.int .i64) (.cons (.int .i64) (.cons (.int .i64) (.cons (.int .i64) (.cons .str .nil))))) : Tys).w x ≤ 1048576) : F111 (x, ()) = some (x, ()) :=
  rfl
set_option maxHeartbeats 2000000 in
theorem t72 (x : (List (Tys.D e168) × Unit)) (hx : ((.cons (.sl e168) .nil) : Tys).w x ≤ 1048576) : F72 (x, ()) = some (x, ()) :=
  (toList (A := Tys.D e168) (B := Tys.D e129) (xs := x.1) (T := fun y => F111 (y, ())) (π := fun c => c.1) (φ := fun y => y) (bytes := 48) (by decide) (by decide) (w_len hx) (fun y hy => ⟨_, t111 y (w_el hx rfl hy), rfl⟩)).trans (congrArg (fun l => some ((l, ()), ())) (List.map_id' x.1))
set_option maxHeartbeats 2000000 in
theorem t112 (x : (Int × (ByteArray × (Int × (List (Tys.D e150) × (Int × (Int × (ByteArray × (Int × (Int × (ByteArray × (Int × (Int × (List (Tys.D e9) × (Int × (List (Tys.D e9) × (List (Tys.D e3) × Unit))))))))))))))))) (hx : ((.cons (.int .i64) (.cons .str (.cons (.int .i64) (.cons (.sl e150) (.cons (.int .i64) (.cons (.int .i64) (.cons .str (.cons (.int .i64) (.cons (.int .i64) (.cons .str (.cons (.int .i64) (.cons (.int .i64) (.cons (.sl e9) (.cons (.int .i64) (.cons (.sl e9) (.cons (.sl e3) .nil)))))))))))))))) : Tys).w x ≤ 1048576) : F112 (x, ()) = some (x, ()) :=
  (bind_eq (t53 (x.2.2.2.1, ()) (w_1 (w_tl (w_tl (w_tl hx))))) (bind_eq (t152 (x.2.2.2.2.1, (x.2.2.2.2.2.1, (x.2.2.2.2.2.2.1, ()))) (w_3 (w_tl (w_tl (w_tl (w_tl hx)))))) (bind_eq (t153 (x.2.2.2.2.2.2.2.1, (x.2.2.2.2.2.2.2.2.1, (x.2.2.2.2.2.2.2.2.2.1, ()))) (w_3 (w_tl (w_tl (w_tl (w_tl (w_tl (w_tl (w_tl hx))))))))) (bind_eq (t54 (x.2.2.2.2.2.2.2.2.2.2.1, (x.2.2.2.2.2.2.2.2.2.2.2.1, (x.2.2.2.2.2.2.2.2.2.2.2.2.1, ()))) (w_3 (w_tl (w_tl (w_tl (w_tl (w_tl (w_tl (w_tl (w_tl (w_tl (w_tl hx)))))))))))) (bind_eq (t132 (x.2.2.2.2.2.2.2.2.2.2.2.2.2.1, (x.2.2.2.2.2.2.2.2.2.2.2.2.2.2.1, (x.2.2.2.2.2.2.2.2.2.2.2.2.2.2.2.1, ()))) (w_3 (w_tl (w_tl (w_tl (w_tl (w_tl (w_tl (w_tl (w_tl (w_tl (w_tl (w_tl (w_tl (w_tl hx))))))))))))))) rfl)))))
set_option maxHeartbeats 2000000 in
theorem t73 (x : (List (Tys.D e175) × Unit)) (hx : ((.cons (.sl e175) .nil) : Tys).w x ≤ 1048576) : F73 (x, ()) = some (x, ()) :=
  (toList (A := Tys.D e175) (B := Tys.D e181) (xs := x.1) (T := fun y => F112 (y, ())) (π := fun c => c.1) (φ := fun y => y) (bytes := 216) (by decide) (by decide) (w_len hx) (fun y hy => ⟨_, t112 y (w_el hx rfl hy), rfl⟩)).trans (congrArg (fun l => some ((l, ()), ())) (List.map_id' x.1))
set_option maxHeartbeats 2000000 in
theorem t27 (x : (Int × (List (Tys.D e133) × (List (Tys.D e9) × (List (Tys.D e166) × (List (Tys.D e150) × (List (Tys.D e168) × (List (Tys.D e175) × Unit)))))))) (hx : ((.cons (.int .i64) (.cons (.sl e133) (.cons (.sl e9) (.cons (.sl e166) (.cons (.sl e150) (.cons (.sl e168) (.cons (.sl e175) .nil))))))) : Tys).w x ≤ 1048576) : F27 (x, ()) = some (x, ()) :=
  (bind_eq (t10 (x.1, (x.2.1, ())) (w_2 hx)) (bind_eq (t70 (x.2.2.1, ()) (w_1 (w_tl (w_tl hx)))) (bind_eq (t71 (x.2.2.2.1, ()) (w_1 (w_tl (w_tl (w_tl hx))))) (bind_eq (t53 (x.2.2.2.2.1, ()) (w_1 (w_tl (w_tl (w_tl (w_tl hx)))))) (bind_eq (t72 (x.2.2.2.2.2.1, ()) (w_1 (w_tl (w_tl (w_tl (w_tl (w_tl hx))))))) (bind_eq (t73 (x.2.2.2.2.2.2.1, ()) (w_1 (w_tl (w_tl (w_tl (w_tl (w_tl (w_tl hx)))))))) rfl))))))
set_option maxHeartbeats 2000000 in
theorem s163 (x : (Int × (Int × Unit))) (hx : ((.cons (.int .i64) (.cons (.int .i64) .nil)) : Tys).Ok x) : F163 (x, (x, ())) = some (B1 true) :=
  (eq_int (eq_int rfl))
set_option maxHeartbeats 2000000 in
theorem s122 (x : (List (Tys.D e193) × Unit)) (hx : ((.cons (.sl e193) .nil) : Tys).Ok x) : F122 (x, (x, ())) = some (B1 true) :=
  eqList (xs := x.1) (E := fun y z v => (F163 (y, (z, ()))).bind fun r => bif (!r.1.1) then some (.inr (.inr (B1 false))) else some (.inl (iAdd .i64 v.1 1, ()))) hx.1.1 (fun y hy v => eq_call (s163 y (Ok_mem hx.1.2 hy)) rfl)
set_option maxHeartbeats 2000000 in
theorem s85 (x : (ByteArray × (Int × (Int × (Int × (List (Tys.D e193) × Unit)))))) (hx : ((.cons .str (.cons (.int .i64) (.cons (.int .i64) (.cons (.int .i64) (.cons (.sl e193) .nil))))) : Tys).Ok x) : F85 (x, (x, ())) = some (B1 true) :=
  (eq_str (eq_int (eq_int (eq_int (eq_call (s122 (x.2.2.2.2.1, ()) ⟨hx.2.2.2.2.1, trivial⟩) rfl)))))
set_option maxHeartbeats 2000000 in
theorem s41 (x : (List (Tys.D e138) × Unit)) (hx : ((.cons (.sl e138) .nil) : Tys).Ok x) : F41 (x, (x, ())) = some (B1 true) :=
  eqList (xs := x.1) (E := fun y z v => (F85 (y, (z, ()))).bind fun r => bif (!r.1.1) then some (.inr (.inr (B1 false))) else some (.inl (iAdd .i64 v.1 1, ()))) hx.1.1 (fun y hy v => eq_call (s85 y (Ok_mem hx.1.2 hy)) rfl)
set_option maxHeartbeats 2000000 in
theorem s13 (x : (Int × (List (Tys.D e138) × Unit))) (hx : ((.cons (.int .i64) (.cons (.sl e138) .nil)) : Tys).Ok x) : F13 (x, (x, ())) = some (B1 true) :=
  (eq_int (eq_call (s41 (x.2.1, ()) ⟨hx.2.1, trivial⟩) rfl))
set_option maxHeartbeats 2000000 in
theorem s74 (x : (List (Tys.D e9) × Unit)) (hx : ((.cons (.sl e9) .nil) : Tys).Ok x) : F74 (x, (x, ())) = some (B1 true) :=
  eqList (xs := x.1) (E := fun y z v => bif !sEq y.1 z.1 then some (.inr (.inr (B1 false))) else some (.inl (iAdd .i64 v.1 1, ()))) hx.1.1 (fun y hy v => eq_str rfl)
set_option maxHeartbeats 2000000 in
theorem s84 (x : (ByteArray × (Int × Unit))) (hx : ((.cons .str (.cons (.int .i64) .nil)) : Tys).Ok x) : F84 (x, (x, ())) = some (B1 true) :=
  (eq_str (eq_int rfl))
set_option maxHeartbeats 2000000 in
theorem s40 (x : (List (Tys.D e106) × Unit)) (hx : ((.cons (.sl e106) .nil) : Tys).Ok x) : F40 (x, (x, ())) = some (B1 true) :=
  eqList (xs := x.1) (E := fun y z v => (F84 (y, (z, ()))).bind fun r => bif (!r.1.1) then some (.inr (.inr (B1 false))) else some (.inl (iAdd .i64 v.1 1, ()))) hx.1.1 (fun y hy v => eq_call (s84 y (Ok_mem hx.1.2 hy)) rfl)
set_option maxHeartbeats 2000000 in
theorem s63 (x : (Int × (Int × (List (Tys.D e9) × Unit)))) (hx : ((.cons (.int .i64) (.cons (.int .i64) (.cons (.sl e9) .nil))) : Tys).Ok x) : F63 (x, (x, ())) = some (B1 true) :=
  (eq_int (eq_int (eq_call (s74 (x.2.2.1, ()) ⟨hx.2.2.1, trivial⟩) rfl)))
set_option maxHeartbeats 2000000 in
theorem s156 (x : (List (Tys.D e3) × Unit)) (hx : ((.cons (.sl e3) .nil) : Tys).Ok x) : F156 (x, (x, ())) = some (B1 true) :=
  eqList (xs := x.1) (E := fun y z v => bif !iEq y.1 z.1 then some (.inr (.inr (B1 false))) else some (.inl (iAdd .i64 v.1 1, ()))) hx.1.1 (fun y hy v => eq_int rfl)
set_option maxHeartbeats 2000000 in
theorem s140 (x : (Int × (List (Tys.D e9) × (List (Tys.D e3) × Unit)))) (hx : ((.cons (.int .i64) (.cons (.sl e9) (.cons (.sl e3) .nil))) : Tys).Ok x) : F140 (x, (x, ())) = some (B1 true) :=
  (eq_int (eq_call (s74 (x.2.1, ()) ⟨hx.2.1, trivial⟩) (eq_call (s156 (x.2.2.1, ()) ⟨hx.2.2.1, trivial⟩) rfl)))
set_option maxHeartbeats 2000000 in
theorem s173 (x : (Int × (ByteArray × (ByteArray × (Int × (Int × Unit)))))) (hx : ((.cons (.int .i64) (.cons .str (.cons .str (.cons (.int .i64) (.cons (.int .i64) .nil))))) : Tys).Ok x) : F173 (x, (x, ())) = some (B1 true) :=
  (eq_int (eq_str (eq_str (eq_int (eq_int rfl)))))
set_option maxHeartbeats 2000000 in
theorem s141 (x : (List (Tys.D e198) × Unit)) (hx : ((.cons (.sl e198) .nil) : Tys).Ok x) : F141 (x, (x, ())) = some (B1 true) :=
  eqList (xs := x.1) (E := fun y z v => (F173 (y, (z, ()))).bind fun r => bif (!r.1.1) then some (.inr (.inr (B1 false))) else some (.inl (iAdd .i64 v.1 1, ()))) hx.1.1 (fun y hy v => eq_call (s173 y (Ok_mem hx.1.2 hy)) rfl)
set_option maxHeartbeats 2000000 in
theorem s103 (x : (Int × (Int × (Int × (ByteArray × (Int × (Int × (List (Tys.D e9) × (Int × (List (Tys.D e9) × (List (Tys.D e3) × (List (Tys.D e198) × (Bool × (List (Tys.D e106) × (ByteArray × Unit))))))))))))))) (hx : ((.cons (.int .i64) (.cons (.int .i64) (.cons (.int .i64) (.cons .str (.cons (.int .i64) (.cons (.int .i64) (.cons (.sl e9) (.cons (.int .i64) (.cons (.sl e9) (.cons (.sl e3) (.cons (.sl e198) (.cons .bool (.cons (.sl e106) (.cons .str .nil)))))))))))))) : Tys).Ok x) : F103 (x, (x, ())) = some (B1 true) :=
  (eq_int (eq_int (eq_int (eq_str (eq_call (s63 (x.2.2.2.2.1, (x.2.2.2.2.2.1, (x.2.2.2.2.2.2.1, ()))) ⟨hx.2.2.2.2.1, ⟨hx.2.2.2.2.2.1, ⟨hx.2.2.2.2.2.2.1, trivial⟩⟩⟩) (eq_call (s140 (x.2.2.2.2.2.2.2.1, (x.2.2.2.2.2.2.2.2.1, (x.2.2.2.2.2.2.2.2.2.1, ()))) ⟨hx.2.2.2.2.2.2.2.1, ⟨hx.2.2.2.2.2.2.2.2.1, ⟨hx.2.2.2.2.2.2.2.2.2.1, trivial⟩⟩⟩) (eq_call (s141 (x.2.2.2.2.2.2.2.2.2.2.1, ()) ⟨hx.2.2.2.2.2.2.2.2.2.2.1, trivial⟩) (eq_bool (eq_call (s40 (x.2.2.2.2.2.2.2.2.2.2.2.2.1, ()) ⟨hx.2.2.2.2.2.2.2.2.2.2.2.2.1, trivial⟩) (eq_str rfl))))))))))
set_option maxHeartbeats 2000000 in
theorem s62 (x : (List (Tys.D e96) × Unit)) (hx : ((.cons (.sl e96) .nil) : Tys).Ok x) : F62 (x, (x, ())) = some (B1 true) :=
  eqList (xs := x.1) (E := fun y z v => (F103 (y, (z, ()))).bind fun r => bif (!r.1.1) then some (.inr (.inr (B1 false))) else some (.inl (iAdd .i64 v.1 1, ()))) hx.1.1 (fun y hy v => eq_call (s103 y (Ok_mem hx.1.2 hy)) rfl)
set_option maxHeartbeats 2000000 in
theorem s158 (x : (Int × (Int × (ByteArray × Unit)))) (hx : ((.cons (.int .i64) (.cons (.int .i64) (.cons .str .nil))) : Tys).Ok x) : F158 (x, (x, ())) = some (B1 true) :=
  (eq_int (eq_int (eq_str rfl)))
set_option maxHeartbeats 2000000 in
theorem s154 (x : (List (Tys.D e178) × Unit)) (hx : ((.cons (.sl e178) .nil) : Tys).Ok x) : F154 (x, (x, ())) = some (B1 true) :=
  eqList (xs := x.1) (E := fun y z v => (F158 (y, (z, ()))).bind fun r => bif (!r.1.1) then some (.inr (.inr (B1 false))) else some (.inl (iAdd .i64 v.1 1, ()))) hx.1.1 (fun y hy v => eq_call (s158 y (Ok_mem hx.1.2 hy)) rfl)
set_option maxHeartbeats 2000000 in
theorem s159 (x : (Int × (Int × (ByteArray × Unit)))) (hx : ((.cons (.int .i64) (.cons (.int .i64) (.cons .str .nil))) : Tys).Ok x) : F159 (x, (x, ())) = some (B1 true) :=
  (eq_int (eq_int (eq_str rfl)))
set_option maxHeartbeats 2000000 in
theorem s155 (x : (List (Tys.D e179) × Unit)) (hx : ((.cons (.sl e179) .nil) : Tys).Ok x) : F155 (x, (x, ())) = some (B1 true) :=
  eqList (xs := x.1) (E := fun y z v => (F159 (y, (z, ()))).bind fun r => bif (!r.1.1) then some (.inr (.inr (B1 false))) else some (.inl (iAdd .i64 v.1 1, ()))) hx.1.1 (fun y hy v => eq_call (s159 y (Ok_mem hx.1.2 hy)) rfl)
set_option maxHeartbeats 2000000 in
theorem s23 (x : (Int × (List (Tys.D e96) × (Int × (Int × (List (Tys.D e9) × Unit)))))) (hx : ((.cons (.int .i64) (.cons (.sl e96) (.cons (.int .i64) (.cons (.int .i64) (.cons (.sl e9) .nil))))) : Tys).Ok x) : F23 (x, (x, ())) = some (B1 true) :=
  (eq_int (eq_call (s62 (x.2.1, ()) ⟨hx.2.1, trivial⟩) (eq_call (s63 (x.2.2.1, (x.2.2.2.1, (x.2.2.2.2.1, ()))) ⟨hx.2.2.1, ⟨hx.2.2.2.1, ⟨hx.2.2.2.2.1, trivial⟩⟩⟩) rfl)))
set_option maxHeartbeats 2000000 in
theorem s157 (x : (List (Tys.D e56) × Unit)) (hx : ((.cons (.sl e56) .nil) : Tys).Ok x) : F157 (x, (x, ())) = some (B1 true) :=
  eqList (xs := x.1) (E := fun y z v => (F23 (y, (z, ()))).bind fun r => bif (!r.1.1) then some (.inr (.inr (B1 false))) else some (.inl (iAdd .i64 v.1 1, ()))) hx.1.1 (fun y hy v => eq_call (s23 y (Ok_mem hx.1.2 hy)) rfl)
set_option maxHeartbeats 2000000 in
theorem s113 (x : (ByteArray × (Int × (Int × (List (Tys.D e138) × (List (Tys.D e106) × (List (Tys.D e96) × (Int × (Int × (Int × (Int × (List (Tys.D e9) × (Int × (List (Tys.D e9) × (List (Tys.D e3) × (Int × (List (Tys.D e178) × (List (Tys.D e179) × (List (Tys.D e3) × (List (Tys.D e198) × (List (Tys.D e56) × Unit))))))))))))))))))))) (hx : ((.cons .str (.cons (.int .i64) (.cons (.int .i64) (.cons (.sl e138) (.cons (.sl e106) (.cons (.sl e96) (.cons (.int .i64) (.cons (.int .i64) (.cons (.int .i64) (.cons (.int .i64) (.cons (.sl e9) (.cons (.int .i64) (.cons (.sl e9) (.cons (.sl e3) (.cons (.int .i64) (.cons (.sl e178) (.cons (.sl e179) (.cons (.sl e3) (.cons (.sl e198) (.cons (.sl e56) .nil)))))))))))))))))))) : Tys).Ok x) : F113 (x, (x, ())) = some (B1 true) :=
  (eq_str (eq_int (eq_call (s13 (x.2.2.1, (x.2.2.2.1, ())) ⟨hx.2.2.1, ⟨hx.2.2.2.1, trivial⟩⟩) (eq_call (s40 (x.2.2.2.2.1, ()) ⟨hx.2.2.2.2.1, trivial⟩) (eq_call (s62 (x.2.2.2.2.2.1, ()) ⟨hx.2.2.2.2.2.1, trivial⟩) (eq_int (eq_int (eq_call (s63 (x.2.2.2.2.2.2.2.2.1, (x.2.2.2.2.2.2.2.2.2.1, (x.2.2.2.2.2.2.2.2.2.2.1, ()))) ⟨hx.2.2.2.2.2.2.2.2.1, ⟨hx.2.2.2.2.2.2.2.2.2.1, ⟨hx.2.2.2.2.2.2.2.2.2.2.1, trivial⟩⟩⟩) (eq_call (s140 (x.2.2.2.2.2.2.2.2.2.2.2.1, (x.2.2.2.2.2.2.2.2.2.2.2.2.1, (x.2.2.2.2.2.2.2.2.2.2.2.2.2.1, ()))) ⟨hx.2.2.2.2.2.2.2.2.2.2.2.1, ⟨hx.2.2.2.2.2.2.2.2.2.2.2.2.1, ⟨hx.2.2.2.2.2.2.2.2.2.2.2.2.2.1, trivial⟩⟩⟩) (eq_int (eq_call (s154 (x.2.2.2.2.2.2.2.2.2.2.2.2.2.2.2.1, ()) ⟨hx.2.2.2.2.2.2.2.2.2.2.2.2.2.2.2.1, trivial⟩) (eq_call (s155 (x.2.2.2.2.2.2.2.2.2.2.2.2.2.2.2.2.1, ()) ⟨hx.2.2.2.2.2.2.2.2.2.2.2.2.2.2.2.2.1, trivial⟩) (eq_call (s156 (x.2.2.2.2.2.2.2.2.2.2.2.2.2.2.2.2.2.1, ()) ⟨hx.2.2.2.2.2.2.2.2.2.2.2.2.2.2.2.2.2.1, trivial⟩) (eq_call (s141 (x.2.2.2.2.2.2.2.2.2.2.2.2.2.2.2.2.2.2.1, ()) ⟨hx.2.2.2.2.2.2.2.2.2.2.2.2.2.2.2.2.2.2.1, trivial⟩) (eq_call (s157 (x.2.2.2.2.2.2.2.2.2.2.2.2.2.2.2.2.2.2.2.1, ()) ⟨hx.2.2.2.2.2.2.2.2.2.2.2.2.2.2.2.2.2.2.2.1, trivial⟩) rfl)))))))))))))))
set_option maxHeartbeats 2000000 in
theorem s75 (x : (List (Tys.D e119) × Unit)) (hx : ((.cons (.sl e119) .nil) : Tys).Ok x) : F75 (x, (x, ())) = some (B1 true) :=
  eqList (xs := x.1) (E := fun y z v => (F113 (y, (z, ()))).bind fun r => bif (!r.1.1) then some (.inr (.inr (B1 false))) else some (.inl (iAdd .i64 v.1 1, ()))) hx.1.1 (fun y hy v => eq_call (s113 y (Ok_mem hx.1.2 hy)) rfl)
set_option maxHeartbeats 2000000 in
theorem s114 (x : (Int × (Int × (Int × (Int × (ByteArray × Unit)))))) (hx : ((.cons (.int .i64) (.cons (.int .i64) (.cons (.int .i64) (.cons (.int .i64) (.cons .str .nil))))) : Tys).Ok x) : F114 (x, (x, ())) = some (B1 true) :=
  (eq_int (eq_int (eq_int (eq_int (eq_str rfl)))))
set_option maxHeartbeats 2000000 in
theorem s76 (x : (List (Tys.D e129) × Unit)) (hx : ((.cons (.sl e129) .nil) : Tys).Ok x) : F76 (x, (x, ())) = some (B1 true) :=
  eqList (xs := x.1) (E := fun y z v => (F114 (y, (z, ()))).bind fun r => bif (!r.1.1) then some (.inr (.inr (B1 false))) else some (.inl (iAdd .i64 v.1 1, ()))) hx.1.1 (fun y hy v => eq_call (s114 y (Ok_mem hx.1.2 hy)) rfl)
set_option maxHeartbeats 2000000 in
theorem s115 (x : (Int × (ByteArray × (Int × (List (Tys.D e96) × (Int × (Int × (ByteArray × (Int × (Int × (ByteArray × (Int × (Int × (List (Tys.D e9) × (Int × (List (Tys.D e9) × (List (Tys.D e3) × Unit))))))))))))))))) (hx : ((.cons (.int .i64) (.cons .str (.cons (.int .i64) (.cons (.sl e96) (.cons (.int .i64) (.cons (.int .i64) (.cons .str (.cons (.int .i64) (.cons (.int .i64) (.cons .str (.cons (.int .i64) (.cons (.int .i64) (.cons (.sl e9) (.cons (.int .i64) (.cons (.sl e9) (.cons (.sl e3) .nil)))))))))))))))) : Tys).Ok x) : F115 (x, (x, ())) = some (B1 true) :=
  (eq_int (eq_str (eq_int (eq_call (s62 (x.2.2.2.1, ()) ⟨hx.2.2.2.1, trivial⟩) (eq_call (s158 (x.2.2.2.2.1, (x.2.2.2.2.2.1, (x.2.2.2.2.2.2.1, ()))) ⟨hx.2.2.2.2.1, ⟨hx.2.2.2.2.2.1, ⟨hx.2.2.2.2.2.2.1, trivial⟩⟩⟩) (eq_call (s159 (x.2.2.2.2.2.2.2.1, (x.2.2.2.2.2.2.2.2.1, (x.2.2.2.2.2.2.2.2.2.1, ()))) ⟨hx.2.2.2.2.2.2.2.1, ⟨hx.2.2.2.2.2.2.2.2.1, ⟨hx.2.2.2.2.2.2.2.2.2.1, trivial⟩⟩⟩) (eq_call (s63 (x.2.2.2.2.2.2.2.2.2.2.1, (x.2.2.2.2.2.2.2.2.2.2.2.1, (x.2.2.2.2.2.2.2.2.2.2.2.2.1, ()))) ⟨hx.2.2.2.2.2.2.2.2.2.2.1, ⟨hx.2.2.2.2.2.2.2.2.2.2.2.1, ⟨hx.2.2.2.2.2.2.2.2.2.2.2.2.1, trivial⟩⟩⟩) (eq_call (s140 (x.2.2.2.2.2.2.2.2.2.2.2.2.2.1, (x.2.2.2.2.2.2.2.2.2.2.2.2.2.2.1, (x.2.2.2.2.2.2.2.2.2.2.2.2.2.2.2.1, ()))) ⟨hx.2.2.2.2.2.2.2.2.2.2.2.2.2.1, ⟨hx.2.2.2.2.2.2.2.2.2.2.2.2.2.2.1, ⟨hx.2.2.2.2.2.2.2.2.2.2.2.2.2.2.2.1, trivial⟩⟩⟩) rfl))))))))
set_option maxHeartbeats 2000000 in
theorem s77 (x : (List (Tys.D e181) × Unit)) (hx : ((.cons (.sl e181) .nil) : Tys).Ok x) : F77 (x, (x, ())) = some (B1 true) :=
  eqList (xs := x.1) (E := fun y z v => (F115 (y, (z, ()))).bind fun r => bif (!r.1.1) then some (.inr (.inr (B1 false))) else some (.inl (iAdd .i64 v.1 1, ()))) hx.1.1 (fun y hy v => eq_call (s115 y (Ok_mem hx.1.2 hy)) rfl)
set_option maxHeartbeats 2000000 in
theorem s29 (x : (Int × (List (Tys.D e138) × (List (Tys.D e9) × (List (Tys.D e119) × (List (Tys.D e96) × (List (Tys.D e129) × (List (Tys.D e181) × Unit)))))))) (hx : ((.cons (.int .i64) (.cons (.sl e138) (.cons (.sl e9) (.cons (.sl e119) (.cons (.sl e96) (.cons (.sl e129) (.cons (.sl e181) .nil))))))) : Tys).Ok x) : F29 (x, (x, ())) = some (B1 true) :=
  (eq_call (s13 (x.1, (x.2.1, ())) ⟨hx.1, ⟨hx.2.1, trivial⟩⟩) (eq_call (s74 (x.2.2.1, ()) ⟨hx.2.2.1, trivial⟩) (eq_call (s75 (x.2.2.2.1, ()) ⟨hx.2.2.2.1, trivial⟩) (eq_call (s62 (x.2.2.2.2.1, ()) ⟨hx.2.2.2.2.1, trivial⟩) (eq_call (s76 (x.2.2.2.2.2.1, ()) ⟨hx.2.2.2.2.2.1, trivial⟩) (eq_call (s77 (x.2.2.2.2.2.2.1, ()) ⟨hx.2.2.2.2.2.2.1, trivial⟩) rfl))))))
end Go.Proofs.Ytehcfgnpbelfnaa
