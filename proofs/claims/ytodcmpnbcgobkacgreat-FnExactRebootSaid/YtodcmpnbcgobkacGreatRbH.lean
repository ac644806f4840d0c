/- The laws' helpers: how much there is, copies, comparisons with itself. Conditions: none. -/

import Derived.Test.YtodcmpnbcgobkacGreatTm4
import Derived.Test.YtodcmpnbcgobkacGreatRbF
namespace Go.Proofs.YtodcmpnbcgobkacGreat
open Go Go.Tm
set_option linter.unusedVariables false
set_option maxRecDepth 100000
set_option maxHeartbeats 2000000 in
theorem w156 (x : (List (Tys.D e201) × Unit)) (hx : ((.cons (.sl e201) .nil) : Tys).Ok x) : Sz (((.cons (.sl e201) .nil) : Tys).w x) (fun l => F156 (x, ((l, ()), ()))) :=
  (Sz.str (a := List.length x.1) hx.1.1 Sz.nil).to (congrArg (fun z => List.length x.1 + z + 0) (sumW_zero (f := fun y => Tys.w e201 y) (fun _ => rfl) x.1)).symm
set_option maxHeartbeats 2000000 in
theorem w126 (x : (ByteArray × (Int × (Int × (Int × (List (Tys.D e201) × Unit)))))) (hx : ((.cons .str (.cons (.int .i64) (.cons (.int .i64) (.cons (.int .i64) (.cons (.sl e201) .nil))))) : Tys).Ok x) : Sz (((.cons .str (.cons (.int .i64) (.cons (.int .i64) (.cons (.int .i64) (.cons (.sl e201) .nil))))) : Tys).w x) (fun l => F126 (x, ((l, ()), ()))) :=
  (Sz.str (a := ByteArray.size x.1) hx.1 (Sz.int (Sz.int (Sz.int (Sz.call1 (w156 (x.2.2.2.2.1, ()) ⟨hx.2.2.2.2.1, trivial⟩) Sz.nil)))))
set_option maxHeartbeats 2000000 in
theorem w66 (x : (List (Tys.D e166) × Unit)) (hx : ((.cons (.sl e166) .nil) : Tys).Ok x) : Sz (((.cons (.sl e166) .nil) : Tys).w x) (fun l => F66 (x, ((l, ()), ()))) :=
  (Sz.list (xs := x.1) (T := fun y l => F126 (y, ((l, ()), ()))) (π := fun c => c.1.1) (wt := fun y => e166.w y) hx.1.1 (fun y hy => szR_T (x := y) (w126 y (Ok_mem hx.1.2 hy))))
set_option maxHeartbeats 2000000 in
theorem w11 (x : (Int × (List (Tys.D e166) × Unit))) (hx : ((.cons (.int .i64) (.cons (.sl e166) .nil)) : Tys).Ok x) : Sz (((.cons (.int .i64) (.cons (.sl e166) .nil)) : Tys).w x) (fun l => F11 (x, ((l, ()), ()))) :=
  (Sz.int (Sz.call1 (w66 (x.2.1, ()) ⟨hx.2.1, trivial⟩) Sz.nil))
set_option maxHeartbeats 2000000 in
theorem w67 (x : (ByteArray × (Int × Unit))) (hx : ((.cons .str (.cons (.int .i64) .nil)) : Tys).Ok x) : Sz (((.cons .str (.cons (.int .i64) .nil)) : Tys).w x) (fun l => F67 (x, ((l, ()), ()))) :=
  (Sz.str (a := ByteArray.size x.1) hx.1 (Sz.int Sz.nil))
set_option maxHeartbeats 2000000 in
theorem w12 (x : (List (Tys.D e103) × Unit)) (hx : ((.cons (.sl e103) .nil) : Tys).Ok x) : Sz (((.cons (.sl e103) .nil) : Tys).w x) (fun l => F12 (x, ((l, ()), ()))) :=
  (Sz.list (xs := x.1) (T := fun y l => F67 (y, ((l, ()), ()))) (π := fun c => c.1.1) (wt := fun y => e103.w y) hx.1.1 (fun y hy => szR_T (x := y) (w67 y (Ok_mem hx.1.2 hy))))
set_option maxHeartbeats 2000000 in
theorem w69 (x : (List (Tys.D e9) × Unit)) (hx : ((.cons (.sl e9) .nil) : Tys).Ok x) : Sz (((.cons (.sl e9) .nil) : Tys).w x) (fun l => F69 (x, ((l, ()), ()))) :=
  (Sz.list (xs := x.1) (T := fun y l => some (iSub .i64 l (ByteArray.size y.1 : Int))) (π := fun c => c) (wt := fun y => ByteArray.size y.1) hx.1.1 (fun y hy => szR_S (Ok_mem hx.1.2 hy).1)).to rfl
set_option maxHeartbeats 2000000 in
theorem w14 (x : (Int × (Int × (List (Tys.D e9) × Unit)))) (hx : ((.cons (.int .i64) (.cons (.int .i64) (.cons (.sl e9) .nil))) : Tys).Ok x) : Sz (((.cons (.int .i64) (.cons (.int .i64) (.cons (.sl e9) .nil))) : Tys).w x) (fun l => F14 (x, ((l, ()), ()))) :=
  (Sz.int (Sz.int (Sz.call1 (w69 (x.2.2.1, ()) ⟨hx.2.2.1, trivial⟩) Sz.nil)))
set_option maxHeartbeats 2000000 in
theorem w18 (x : (List (Tys.D e3) × Unit)) (hx : ((.cons (.sl e3) .nil) : Tys).Ok x) : Sz (((.cons (.sl e3) .nil) : Tys).w x) (fun l => F18 (x, ((l, ()), ()))) :=
  (Sz.str (a := List.length x.1) hx.1.1 Sz.nil).to (congrArg (fun z => List.length x.1 + z + 0) (sumW_zero (f := fun y => Tys.w e3 y) (fun _ => rfl) x.1)).symm
set_option maxHeartbeats 2000000 in
theorem w15 (x : (Int × (List (Tys.D e9) × (List (Tys.D e3) × Unit)))) (hx : ((.cons (.int .i64) (.cons (.sl e9) (.cons (.sl e3) .nil))) : Tys).Ok x) : Sz (((.cons (.int .i64) (.cons (.sl e9) (.cons (.sl e3) .nil))) : Tys).w x) (fun l => F15 (x, ((l, ()), ()))) :=
  (Sz.int (Sz.call1 (w69 (x.2.1, ()) ⟨hx.2.1, trivial⟩) (Sz.call1 (w18 (x.2.2.1, ()) ⟨hx.2.2.1, trivial⟩) Sz.nil)))
set_option maxHeartbeats 2000000 in
theorem w72 (x : (Int × (ByteArray × (ByteArray × (Int × (Int × Unit)))))) (hx : ((.cons (.int .i64) (.cons .str (.cons .str (.cons (.int .i64) (.cons (.int .i64) .nil))))) : Tys).Ok x) : Sz (((.cons (.int .i64) (.cons .str (.cons .str (.cons (.int .i64) (.cons (.int .i64) .nil))))) : Tys).w x) (fun l => F72 (x, ((l, ()), ()))) :=
  (Sz.int (Sz.str (a := ByteArray.size x.2.1) hx.2.1 (Sz.str (a := ByteArray.size x.2.2.1) hx.2.2.1 (Sz.int (Sz.int Sz.nil)))))
set_option maxHeartbeats 2000000 in
theorem w19 (x : (List (Tys.D e116) × Unit)) (hx : ((.cons (.sl e116) .nil) : Tys).Ok x) : Sz (((.cons (.sl e116) .nil) : Tys).w x) (fun l => F19 (x, ((l, ()), ()))) :=
  (Sz.list (xs := x.1) (T := fun y l => F72 (y, ((l, ()), ()))) (π := fun c => c.1.1) (wt := fun y => e116.w y) hx.1.1 (fun y hy => szR_T (x := y) (w72 y (Ok_mem hx.1.2 hy))))
set_option maxHeartbeats 2000000 in
theorem w68 (x : (Int × (Int × (Int × (ByteArray × (Int × (Int × (List (Tys.D e9) × (Int × (List (Tys.D e9) × (List (Tys.D e3) × (List (Tys.D e116) × (Bool × (List (Tys.D e103) × (ByteArray × Unit))))))))))))))) (hx : ((.cons (.int .i64) (.cons (.int .i64) (.cons (.int .i64) (.cons .str (.cons (.int .i64) (.cons (.int .i64) (.cons (.sl e9) (.cons (.int .i64) (.cons (.sl e9) (.cons (.sl e3) (.cons (.sl e116) (.cons .bool (.cons (.sl e103) (.cons .str .nil)))))))))))))) : Tys).Ok x) : Sz (((.cons (.int .i64) (.cons (.int .i64) (.cons (.int .i64) (.cons .str (.cons (.int .i64) (.cons (.int .i64) (.cons (.sl e9) (.cons (.int .i64) (.cons (.sl e9) (.cons (.sl e3) (.cons (.sl e116) (.cons .bool (.cons (.sl e103) (.cons .str .nil)))))))))))))) : Tys).w x) (fun l => F68 (x, ((l, ()), ()))) :=
  (Sz.int (Sz.int (Sz.int (Sz.str (a := ByteArray.size x.2.2.2.1) hx.2.2.2.1 (Sz.call3 (w14 (x.2.2.2.2.1, (x.2.2.2.2.2.1, (x.2.2.2.2.2.2.1, ()))) ⟨hx.2.2.2.2.1, ⟨hx.2.2.2.2.2.1, ⟨hx.2.2.2.2.2.2.1, trivial⟩⟩⟩) (Sz.call3 (w15 (x.2.2.2.2.2.2.2.1, (x.2.2.2.2.2.2.2.2.1, (x.2.2.2.2.2.2.2.2.2.1, ()))) ⟨hx.2.2.2.2.2.2.2.1, ⟨hx.2.2.2.2.2.2.2.2.1, ⟨hx.2.2.2.2.2.2.2.2.2.1, trivial⟩⟩⟩) (Sz.call1 (w19 (x.2.2.2.2.2.2.2.2.2.2.1, ()) ⟨hx.2.2.2.2.2.2.2.2.2.2.1, trivial⟩) (Sz.int (Sz.call1 (w12 (x.2.2.2.2.2.2.2.2.2.2.2.2.1, ()) ⟨hx.2.2.2.2.2.2.2.2.2.2.2.2.1, trivial⟩) (Sz.str (a := ByteArray.size x.2.2.2.2.2.2.2.2.2.2.2.2.2.1) hx.2.2.2.2.2.2.2.2.2.2.2.2.2.1 Sz.nil))))))))))
set_option maxHeartbeats 2000000 in
theorem w13 (x : (List (Tys.D e106) × Unit)) (hx : ((.cons (.sl e106) .nil) : Tys).Ok x) : Sz (((.cons (.sl e106) .nil) : Tys).w x) (fun l => F13 (x, ((l, ()), ()))) :=
  (Sz.list (xs := x.1) (T := fun y l => F68 (y, ((l, ()), ()))) (π := fun c => c.1.1) (wt := fun y => e106.w y) hx.1.1 (fun y hy => szR_T (x := y) (w68 y (Ok_mem hx.1.2 hy))))
set_option maxHeartbeats 2000000 in
theorem w70 (x : (Int × (Int × (ByteArray × Unit)))) (hx : ((.cons (.int .i64) (.cons (.int .i64) (.cons .str .nil))) : Tys).Ok x) : Sz (((.cons (.int .i64) (.cons (.int .i64) (.cons .str .nil))) : Tys).w x) (fun l => F70 (x, ((l, ()), ()))) :=
  (Sz.int (Sz.int (Sz.str (a := ByteArray.size x.2.2.1) hx.2.2.1 Sz.nil)))
set_option maxHeartbeats 2000000 in
theorem w16 (x : (List (Tys.D e110) × Unit)) (hx : ((.cons (.sl e110) .nil) : Tys).Ok x) : Sz (((.cons (.sl e110) .nil) : Tys).w x) (fun l => F16 (x, ((l, ()), ()))) :=
  (Sz.list (xs := x.1) (T := fun y l => F70 (y, ((l, ()), ()))) (π := fun c => c.1.1) (wt := fun y => e110.w y) hx.1.1 (fun y hy => szR_T (x := y) (w70 y (Ok_mem hx.1.2 hy))))
set_option maxHeartbeats 2000000 in
theorem w71 (x : (Int × (Int × (ByteArray × Unit)))) (hx : ((.cons (.int .i64) (.cons (.int .i64) (.cons .str .nil))) : Tys).Ok x) : Sz (((.cons (.int .i64) (.cons (.int .i64) (.cons .str .nil))) : Tys).w x) (fun l => F71 (x, ((l, ()), ()))) :=
  (Sz.int (Sz.int (Sz.str (a := ByteArray.size x.2.2.1) hx.2.2.1 Sz.nil)))
set_option maxHeartbeats 2000000 in
theorem w17 (x : (List (Tys.D e113) × Unit)) (hx : ((.cons (.sl e113) .nil) : Tys).Ok x) : Sz (((.cons (.sl e113) .nil) : Tys).w x) (fun l => F17 (x, ((l, ()), ()))) :=
  (Sz.list (xs := x.1) (T := fun y l => F71 (y, ((l, ()), ()))) (π := fun c => c.1.1) (wt := fun y => e113.w y) hx.1.1 (fun y hy => szR_T (x := y) (w71 y (Ok_mem hx.1.2 hy))))
set_option maxHeartbeats 2000000 in
theorem w73 (x : (Int × (List (Tys.D e106) × (Int × (Int × (List (Tys.D e9) × Unit)))))) (hx : ((.cons (.int .i64) (.cons (.sl e106) (.cons (.int .i64) (.cons (.int .i64) (.cons (.sl e9) .nil))))) : Tys).Ok x) : Sz (((.cons (.int .i64) (.cons (.sl e106) (.cons (.int .i64) (.cons (.int .i64) (.cons (.sl e9) .nil))))) : Tys).w x) (fun l => F73 (x, ((l, ()), ()))) :=
  (Sz.int (Sz.call1 (w13 (x.2.1, ()) ⟨hx.2.1, trivial⟩) (Sz.call3 (w14 (x.2.2.1, (x.2.2.2.1, (x.2.2.2.2.1, ()))) ⟨hx.2.2.1, ⟨hx.2.2.2.1, ⟨hx.2.2.2.2.1, trivial⟩⟩⟩) Sz.nil)))
set_option maxHeartbeats 2000000 in
theorem w20 (x : (List (Tys.D e119) × Unit)) (hx : ((.cons (.sl e119) .nil) : Tys).Ok x) : Sz (((.cons (.sl e119) .nil) : Tys).w x) (fun l => F20 (x, ((l, ()), ()))) :=
  (Sz.list (xs := x.1) (T := fun y l => F73 (y, ((l, ()), ()))) (π := fun c => c.1.1) (wt := fun y => e119.w y) hx.1.1 (fun y hy => szR_T (x := y) (w73 y (Ok_mem hx.1.2 hy))))
set_option maxHeartbeats 2000000 in
theorem w4 (x : (ByteArray × (Int × (Int × (List (Tys.D e166) × (List (Tys.D e103) × (List (Tys.D e106) × (Int × (Int × (Int × (Int × (List (Tys.D e9) × (Int × (List (Tys.D e9) × (List (Tys.D e3) × (Int × (List (Tys.D e110) × (List (Tys.D e113) × (List (Tys.D e3) × (List (Tys.D e116) × (List (Tys.D e119) × Unit))))))))))))))))))))) (hx : ((.cons .str (.cons (.int .i64) (.cons (.int .i64) (.cons (.sl e166) (.cons (.sl e103) (.cons (.sl e106) (.cons (.int .i64) (.cons (.int .i64) (.cons (.int .i64) (.cons (.int .i64) (.cons (.sl e9) (.cons (.int .i64) (.cons (.sl e9) (.cons (.sl e3) (.cons (.int .i64) (.cons (.sl e110) (.cons (.sl e113) (.cons (.sl e3) (.cons (.sl e116) (.cons (.sl e119) .nil)))))))))))))))))))) : Tys).Ok x) : Sz (((.cons .str (.cons (.int .i64) (.cons (.int .i64) (.cons (.sl e166) (.cons (.sl e103) (.cons (.sl e106) (.cons (.int .i64) (.cons (.int .i64) (.cons (.int .i64) (.cons (.int .i64) (.cons (.sl e9) (.cons (.int .i64) (.cons (.sl e9) (.cons (.sl e3) (.cons (.int .i64) (.cons (.sl e110) (.cons (.sl e113) (.cons (.sl e3) (.cons (.sl e116) (.cons (.sl e119) .nil)))))))))))))))))))) : Tys).w x) (fun l => F4 (x, ((l, ()), ()))) :=
  (Sz.str (a := ByteArray.size x.1) hx.1 (Sz.int (Sz.call2 (w11 (x.2.2.1, (x.2.2.2.1, ())) ⟨hx.2.2.1, ⟨hx.2.2.2.1, trivial⟩⟩) (Sz.call1 (w12 (x.2.2.2.2.1, ()) ⟨hx.2.2.2.2.1, trivial⟩) (Sz.call1 (w13 (x.2.2.2.2.2.1, ()) ⟨hx.2.2.2.2.2.1, trivial⟩) (Sz.int (Sz.int (Sz.call3 (w14 (x.2.2.2.2.2.2.2.2.1, (x.2.2.2.2.2.2.2.2.2.1, (x.2.2.2.2.2.2.2.2.2.2.1, ()))) ⟨hx.2.2.2.2.2.2.2.2.1, ⟨hx.2.2.2.2.2.2.2.2.2.1, ⟨hx.2.2.2.2.2.2.2.2.2.2.1, trivial⟩⟩⟩) (Sz.call3 (w15 (x.2.2.2.2.2.2.2.2.2.2.2.1, (x.2.2.2.2.2.2.2.2.2.2.2.2.1, (x.2.2.2.2.2.2.2.2.2.2.2.2.2.1, ()))) ⟨hx.2.2.2.2.2.2.2.2.2.2.2.1, ⟨hx.2.2.2.2.2.2.2.2.2.2.2.2.1, ⟨hx.2.2.2.2.2.2.2.2.2.2.2.2.2.1, trivial⟩⟩⟩) (Sz.int (Sz.call1 (w16 (x.2.2.2.2.2.2.2.2.2.2.2.2.2.2.2.1, ()) ⟨hx.2.2.2.2.2.2.2.2.2.2.2.2.2.2.2.1, trivial⟩) (Sz.call1 (w17 (x.2.2.2.2.2.2.2.2.2.2.2.2.2.2.2.2.1, ()) ⟨hx.2.2.2.2.2.2.2.2.2.2.2.2.2.2.2.2.1, trivial⟩) (Sz.call1 (w18 (x.2.2.2.2.2.2.2.2.2.2.2.2.2.2.2.2.2.1, ()) ⟨hx.2.2.2.2.2.2.2.2.2.2.2.2.2.2.2.2.2.1, trivial⟩) (Sz.call1 (w19 (x.2.2.2.2.2.2.2.2.2.2.2.2.2.2.2.2.2.2.1, ()) ⟨hx.2.2.2.2.2.2.2.2.2.2.2.2.2.2.2.2.2.2.1, trivial⟩) (Sz.call1 (w20 (x.2.2.2.2.2.2.2.2.2.2.2.2.2.2.2.2.2.2.2.1, ()) ⟨hx.2.2.2.2.2.2.2.2.2.2.2.2.2.2.2.2.2.2.2.1, trivial⟩) Sz.nil)))))))))))))))
set_option maxHeartbeats 2000000 in
theorem t180 (x : (Int × (Int × Unit))) (hx : ((.cons (.int .i64) (.cons (.int .i64) .nil)) : Tys).w x ≤ 1048576) : F180 (x, ()) = some (x, ()) :=
  rfl
set_option maxHeartbeats 2000000 in
theorem t165 (x : (List (Tys.D e201) × Unit)) (hx : ((.cons (.sl e201) .nil) : Tys).w x ≤ 1048576) : F165 (x, ()) = some (x, ()) :=
  (toList (A := Tys.D e201) (B := Tys.D e194) (xs := x.1) (T := fun y => F180 (y, ())) (π := fun c => c.1) (φ := fun y => y) (bytes := 16) (by decide) (by decide) (w_len hx) (fun y hy => ⟨_, t180 y (w_el hx rfl hy), rfl⟩)).trans (congrArg (fun l => some ((l, ()), ())) (List.map_id' x.1))
set_option maxHeartbeats 2000000 in
theorem t138 (x : (ByteArray × (Int × (Int × (Int × (List (Tys.D e201) × Unit)))))) (hx : ((.cons .str (.cons (.int .i64) (.cons (.int .i64) (.cons (.int .i64) (.cons (.sl e201) .nil))))) : Tys).w x ≤ 1048576) : F138 (x, ()) = some (x, ()) :=
  (bind_eq (t165 (x.2.2.2.2.1, ()) (w_1 (w_tl (w_tl (w_tl (w_tl hx)))))) rfl)
set_option maxHeartbeats 2000000 in
theorem t87 (x : (List (Tys.D e166) × Unit)) (hx : ((.cons (.sl e166) .nil) : Tys).w x ≤ 1048576) : F87 (x, ()) = some (x, ()) :=
  (toList (A := Tys.D e166) (B := Tys.D e177) (xs := x.1) (T := fun y => F138 (y, ())) (π := fun c => c.1) (φ := fun y => y) (bytes := 64) (by decide) (by decide) (w_len hx) (fun y hy => ⟨_, t138 y (w_el hx rfl hy), rfl⟩)).trans (congrArg (fun l => some ((l, ()), ())) (List.map_id' x.1))
set_option maxHeartbeats 2000000 in
theorem t24 (x : (Int × (List (Tys.D e166) × Unit))) (hx : ((.cons (.int .i64) (.cons (.sl e166) .nil)) : Tys).w x ≤ 1048576) : F24 (x, ()) = some (x, ()) :=
  (bind_eq (t87 (x.2.1, ()) (w_1 (w_tl hx))) rfl)
set_option maxHeartbeats 2000000 in
theorem t88 (x : (ByteArray × (Int × Unit))) (hx : ((.cons .str (.cons (.int .i64) .nil)) : Tys).w x ≤ 1048576) : F88 (x, ()) = some (x, ()) :=
  rfl
set_option maxHeartbeats 2000000 in
theorem t25 (x : (List (Tys.D e103) × Unit)) (hx : ((.cons (.sl e103) .nil) : Tys).w x ≤ 1048576) : F25 (x, ()) = some (x, ()) :=
  (toList (A := Tys.D e103) (B := Tys.D e138) (xs := x.1) (T := fun y => F88 (y, ())) (π := fun c => c.1) (φ := fun y => y) (bytes := 24) (by decide) (by decide) (w_len hx) (fun y hy => ⟨_, t88 y (w_el hx rfl hy), rfl⟩)).trans (congrArg (fun l => some ((l, ()), ())) (List.map_id' x.1))
set_option maxHeartbeats 2000000 in
theorem t90 (x : (List (Tys.D e9) × Unit)) (hx : ((.cons (.sl e9) .nil) : Tys).w x ≤ 1048576) : F90 (x, ()) = some (x, ()) :=
  (toList (A := Tys.D e9) (B := Tys.D e9) (xs := x.1) (T := fun y => some y) (π := fun c => c) (φ := fun y => y) (bytes := 16) (by decide) (by decide) (w_len hx) (fun y hy => ⟨_, rfl, rfl⟩)).trans (congrArg (fun l => some ((l, ()), ())) (List.map_id' x.1))
set_option maxHeartbeats 2000000 in
theorem t27 (x : (Int × (Int × (List (Tys.D e9) × Unit)))) (hx : ((.cons (.int .i64) (.cons (.int .i64) (.cons (.sl e9) .nil))) : Tys).w x ≤ 1048576) : F27 (x, ()) = some (x, ()) :=
  (bind_eq (t90 (x.2.2.1, ()) (w_1 (w_tl (w_tl hx)))) rfl)
set_option maxHeartbeats 2000000 in
theorem t31 (x : (List (Tys.D e3) × Unit)) (hx : ((.cons (.sl e3) .nil) : Tys).w x ≤ 1048576) : F31 (x, ()) = some (x, ()) :=
  (toList (A := Tys.D e3) (B := Tys.D e3) (xs := x.1) (T := fun y => some y) (π := fun c => c) (φ := fun y => y) (bytes := 8) (by decide) (by decide) (w_len hx) (fun y hy => ⟨_, rfl, rfl⟩)).trans (congrArg (fun l => some ((l, ()), ())) (List.map_id' x.1))
set_option maxHeartbeats 2000000 in
theorem t28 (x : (Int × (List (Tys.D e9) × (List (Tys.D e3) × Unit)))) (hx : ((.cons (.int .i64) (.cons (.sl e9) (.cons (.sl e3) .nil))) : Tys).w x ≤ 1048576) : F28 (x, ()) = some (x, ()) :=
  (bind_eq (t90 (x.2.1, ()) (w_1 (w_tl hx))) (bind_eq (t31 (x.2.2.1, ()) (w_1 (w_tl (w_tl hx)))) rfl))
set_option maxHeartbeats 2000000 in
theorem t93 (x : (Int × (ByteArray × (ByteArray × (Int × (Int × Unit)))))) (hx : ((.cons (.int .i64) (.cons .str (.cons .str (.cons (.int .i64) (.cons (.int .i64) .nil))))) : Tys).w x ≤ 1048576) : F93 (x, ()) = some (x, ()) :=
  rfl
set_option maxHeartbeats 2000000 in
theorem t32 (x : (List (Tys.D e116) × Unit)) (hx : ((.cons (.sl e116) .nil) : Tys).w x ≤ 1048576) : F32 (x, ()) = some (x, ()) :=
  (toList (A := Tys.D e116) (B := Tys.D e146) (xs := x.1) (T := fun y => F93 (y, ())) (π := fun c => c.1) (φ := fun y => y) (bytes := 56) (by decide) (by decide) (w_len hx) (fun y hy => ⟨_, t93 y (w_el hx rfl hy), rfl⟩)).trans (congrArg (fun l => some ((l, ()), ())) (List.map_id' x.1))
set_option maxHeartbeats 2000000 in
theorem t89 (x : (Int × (Int × (Int × (ByteArray × (Int × (Int × (List (Tys.D e9) × (Int × (List (Tys.D e9) × (List (Tys.D e3) × (List (Tys.D e116) × (Bool × (List (Tys.D e103) × (ByteArray × Unit))))))))))))))) (hx : ((.cons (.int .i64) (.cons (.int .i64) (.cons (.int .i64) (.cons .str (.cons (.int .i64) (.cons (.int .i64) (.cons (.sl e9) (.cons (.int .i64) (.cons (.sl e9) (.cons (.sl e3) (.cons (.sl e116) (.cons .bool (.cons (.sl e103) (.cons .str .nil)))))))))))))) : Tys).w x ≤ 1048576) : F89 (x, ()) = some (x, ()) :=
  (bind_eq (t27 (x.2.2.2.2.1, (x.2.2.2.2.2.1, (x.2.2.2.2.2.2.1, ()))) (w_3 (w_tl (w_tl (w_tl (w_tl hx)))))) (bind_eq (t28 (x.2.2.2.2.2.2.2.1, (x.2.2.2.2.2.2.2.2.1, (x.2.2.2.2.2.2.2.2.2.1, ()))) (w_3 (w_tl (w_tl (w_tl (w_tl (w_tl (w_tl (w_tl hx))))))))) (bind_eq (t32 (x.2.2.2.2.2.2.2.2.2.2.1, ()) (w_1 (w_tl (w_tl (w_tl (w_tl (w_tl (w_tl (w_tl (w_tl (w_tl (w_tl hx)))))))))))) (bind_eq (t25 (x.2.2.2.2.2.2.2.2.2.2.2.2.1, ()) (w_1 (w_tl (w_tl (w_tl (w_tl (w_tl (w_tl (w_tl (w_tl (w_tl (w_tl (w_tl (w_tl hx)))))))))))))) rfl))))
set_option maxHeartbeats 2000000 in
theorem t26 (x : (List (Tys.D e106) × Unit)) (hx : ((.cons (.sl e106) .nil) : Tys).w x ≤ 1048576) : F26 (x, ()) = some (x, ()) :=
  (toList (A := Tys.D e106) (B := Tys.D e133) (xs := x.1) (T := fun y => F89 (y, ())) (π := fun c => c.1) (φ := fun y => y) (bytes := 208) (by decide) (by decide) (w_len hx) (fun y hy => ⟨_, t89 y (w_el hx rfl hy), rfl⟩)).trans (congrArg (fun l => some ((l, ()), ())) (List.map_id' x.1))
set_option maxHeartbeats 2000000 in
theorem t91 (x : (Int × (Int × (ByteArray × Unit)))) (hx : ((.cons (.int .i64) (.cons (.int .i64) (.cons .str .nil))) : Tys).w x ≤ 1048576) : F91 (x, ()) = some (x, ()) :=
  rfl
set_option maxHeartbeats 2000000 in
theorem t29 (x : (List (Tys.D e110) × Unit)) (hx : ((.cons (.sl e110) .nil) : Tys).w x ≤ 1048576) : F29 (x, ()) = some (x, ()) :=
  (toList (A := Tys.D e110) (B := Tys.D e142) (xs := x.1) (T := fun y => F91 (y, ())) (π := fun c => c.1) (φ := fun y => y) (bytes := 32) (by decide) (by decide) (w_len hx) (fun y hy => ⟨_, t91 y (w_el hx rfl hy), rfl⟩)).trans (congrArg (fun l => some ((l, ()), ())) (List.map_id' x.1))
set_option maxHeartbeats 2000000 in
theorem t92 (x : (Int × (Int × (ByteArray × Unit)))) (hx : ((.cons (.int .i64) (.cons (.int .i64) (.cons .str .nil))) : Tys).w x ≤ 1048576) : F92 (x, ()) = some (x, ()) :=
  rfl
set_option maxHeartbeats 2000000 in
theorem t30 (x : (List (Tys.D e113) × Unit)) (hx : ((.cons (.sl e113) .nil) : Tys).w x ≤ 1048576) : F30 (x, ()) = some (x, ()) :=
  (toList (A := Tys.D e113) (B := Tys.D e144) (xs := x.1) (T := fun y => F92 (y, ())) (π := fun c => c.1) (φ := fun y => y) (bytes := 32) (by decide) (by decide) (w_len hx) (fun y hy => ⟨_, t92 y (w_el hx rfl hy), rfl⟩)).trans (congrArg (fun l => some ((l, ()), ())) (List.map_id' x.1))
set_option maxHeartbeats 2000000 in
theorem t94 (x : (Int × (List (Tys.D e106) × (Int × (Int × (List (Tys.D e9) × Unit)))))) (hx : ((.cons (.int .i64) (.cons (.sl e106) (.cons (.int .i64) (.cons (.int .i64) (.cons (.sl e9) .nil))))) : Tys).w x ≤ 1048576) : F94 (x, ()) = some (x, ()) :=
  (bind_eq (t26 (x.2.1, ()) (w_1 (w_tl hx))) (bind_eq (t27 (x.2.2.1, (x.2.2.2.1, (x.2.2.2.2.1, ()))) (w_3 (w_tl (w_tl hx)))) rfl))
set_option maxHeartbeats 2000000 in
theorem t33 (x : (List (Tys.D e119) × Unit)) (hx : ((.cons (.sl e119) .nil) : Tys).w x ≤ 1048576) : F33 (x, ()) = some (x, ()) :=
  (toList (A := Tys.D e119) (B := Tys.D e125) (xs := x.1) (T := fun y => F94 (y, ())) (π := fun c => c.1) (φ := fun y => y) (bytes := 72) (by decide) (by decide) (w_len hx) (fun y hy => ⟨_, t94 y (w_el hx rfl hy), rfl⟩)).trans (congrArg (fun l => some ((l, ()), ())) (List.map_id' x.1))
set_option maxHeartbeats 2000000 in
theorem t6 (x : (ByteArray × (Int × (Int × (List (Tys.D e166) × (List (Tys.D e103) × (List (Tys.D e106) × (Int × (Int × (Int × (Int × (List (Tys.D e9) × (Int × (List (Tys.D e9) × (List (Tys.D e3) × (Int × (List (Tys.D e110) × (List (Tys.D e113) × (List (Tys.D e3) × (List (Tys.D e116) × (List (Tys.D e119) × Unit))))))))))))))))))))) (hx : ((.cons .str (.cons (.int .i64) (.cons (.int .i64) (.cons (.sl e166) (.cons (.sl e103) (.cons (.sl e106) (.cons (.int .i64) (.cons (.int .i64) (.cons (.int .i64) (.cons (.int .i64) (.cons (.sl e9) (.cons (.int .i64) (.cons (.sl e9) (.cons (.sl e3) (.cons (.int .i64) (.cons (.sl e110) (.cons (.sl e113) (.cons (.sl e3) (.cons (.sl e116) (.cons (.sl e119) .nil)))))))))))))))))))) : Tys).w x ≤ 1048576) : F6 (x, ()) = some (x, ()) :=
  (bind_eq (t24 (x.2.2.1, (x.2.2.2.1, ())) (w_2 (w_tl (w_tl hx)))) (bind_eq (t25 (x.2.2.2.2.1, ()) (w_1 (w_tl (w_tl (w_tl (w_tl hx)))))) (bind_eq (t26 (x.2.2.2.2.2.1, ()) (w_1 (w_tl (w_tl (w_tl (w_tl (w_tl hx))))))) (bind_eq (t27 (x.2.2.2.2.2.2.2.2.1, (x.2.2.2.2.2.2.2.2.2.1, (x.2.2.2.2.2.2.2.2.2.2.1, ()))) (w_3 (w_tl (w_tl (w_tl (w_tl (w_tl (w_tl (w_tl (w_tl hx)))))))))) (bind_eq (t28 (x.2.2.2.2.2.2.2.2.2.2.2.1, (x.2.2.2.2.2.2.2.2.2.2.2.2.1, (x.2.2.2.2.2.2.2.2.2.2.2.2.2.1, ()))) (w_3 (w_tl (w_tl (w_tl (w_tl (w_tl (w_tl (w_tl (w_tl (w_tl (w_tl (w_tl hx))))))))))))) (bind_eq (t29 (x.2.2.2.2.2.2.2.2.2.2.2.2.2.2.2.1, ()) (w_1 (w_tl (w_tl (w_tl (w_tl (w_tl (w_tl (w_tl (w_tl (w_tl (w_tl (w_tl (w_tl (w_tl (w_tl (w_tl hx))))))))))))))))) (bind_eq (t30 (x.2.2.2.2.2.2.2.2.2.2.2.2.2.2.2.2.1, ()) (w_1 (w_tl (w_tl (w_tl (w_tl (w_tl (w_tl (w_tl (w_tl (w_tl (w_tl (w_tl (w_tl (w_tl (w_tl (w_tl (w_tl hx)))))))))))))))))) (bind_eq (t31 (x.2.2.2.2.2.2.2.2.2.2.2.2.2.2.2.2.2.1, ()) (w_1 (w_tl (w_tl (w_tl (w_tl (w_tl (w_tl (w_tl (w_tl (w_tl (w_tl (w_tl (w_tl (w_tl (w_tl (w_tl (w_tl (w_tl hx))))))))))))))))))) (bind_eq (t32 (x.2.2.2.2.2.2.2.2.2.2.2.2.2.2.2.2.2.2.1, ()) (w_1 (w_tl (w_tl (w_tl (w_tl (w_tl (w_tl (w_tl (w_tl (w_tl (w_tl (w_tl (w_tl (w_tl (w_tl (w_tl (w_tl (w_tl (w_tl hx)))))))))))))))))))) (bind_eq (t33 (x.2.2.2.2.2.2.2.2.2.2.2.2.2.2.2.2.2.2.2.1, ()) (w_1 (w_tl (w_tl (w_tl (w_tl (w_tl (w_tl (w_tl (w_tl (w_tl (w_tl (w_tl (w_tl (w_tl (w_tl (w_tl (w_tl (w_tl (w_tl (w_tl hx))))))))))))))))))))) rfl))))))))))
set_option maxHeartbeats 2000000 in
theorem s188 (x : (Int × (Int × Unit))) (hx : ((.cons (.int .i64) (.cons (.int .i64) .nil)) : Tys).Ok x) : F188 (x, (x, ())) = some (B1 true) :=
  (eq_int (eq_int rfl))
set_option maxHeartbeats 2000000 in
theorem s177 (x : (List (Tys.D e194) × Unit)) (hx : ((.cons (.sl e194) .nil) : Tys).Ok x) : F177 (x, (x, ())) = some (B1 true) :=
  eqList (xs := x.1) (E := fun y z v => (F188 (y, (z, ()))).bind fun r => bif (!r.1.1) then some (.inr (.inr (B1 false))) else some (.inl (iAdd .i64 v.1 1, ()))) hx.1.1 (fun y hy v => eq_call (s188 y (Ok_mem hx.1.2 hy)) rfl)
set_option maxHeartbeats 2000000 in
theorem s153 (x : (ByteArray × (Int × (Int × (Int × (List (Tys.D e194) × Unit)))))) (hx : ((.cons .str (.cons (.int .i64) (.cons (.int .i64) (.cons (.int .i64) (.cons (.sl e194) .nil))))) : Tys).Ok x) : F153 (x, (x, ())) = some (B1 true) :=
  (eq_str (eq_int (eq_int (eq_int (eq_call (s177 (x.2.2.2.2.1, ()) ⟨hx.2.2.2.2.1, trivial⟩) rfl)))))
set_option maxHeartbeats 2000000 in
theorem s113 (x : (List (Tys.D e177) × Unit)) (hx : ((.cons (.sl e177) .nil) : Tys).Ok x) : F113 (x, (x, ())) = some (B1 true) :=
  eqList (xs := x.1) (E := fun y z v => (F153 (y, (z, ()))).bind fun r => bif (!r.1.1) then some (.inr (.inr (B1 false))) else some (.inl (iAdd .i64 v.1 1, ()))) hx.1.1 (fun y hy v => eq_call (s153 y (Ok_mem hx.1.2 hy)) rfl)
set_option maxHeartbeats 2000000 in
theorem s36 (x : (Int × (List (Tys.D e177) × Unit))) (hx : ((.cons (.int .i64) (.cons (.sl e177) .nil)) : Tys).Ok x) : F36 (x, (x, ())) = some (B1 true) :=
  (eq_int (eq_call (s113 (x.2.1, ()) ⟨hx.2.1, trivial⟩) rfl))
set_option maxHeartbeats 2000000 in
theorem s114 (x : (ByteArray × (Int × Unit))) (hx : ((.cons .str (.cons (.int .i64) .nil)) : Tys).Ok x) : F114 (x, (x, ())) = some (B1 true) :=
  (eq_str (eq_int rfl))
set_option maxHeartbeats 2000000 in
theorem s37 (x : (List (Tys.D e138) × Unit)) (hx : ((.cons (.sl e138) .nil) : Tys).Ok x) : F37 (x, (x, ())) = some (B1 true) :=
  eqList (xs := x.1) (E := fun y z v => (F114 (y, (z, ()))).bind fun r => bif (!r.1.1) then some (.inr (.inr (B1 false))) else some (.inl (iAdd .i64 v.1 1, ()))) hx.1.1 (fun y hy v => eq_call (s114 y (Ok_mem hx.1.2 hy)) rfl)
set_option maxHeartbeats 2000000 in
theorem s116 (x : (List (Tys.D e9) × Unit)) (hx : ((.cons (.sl e9) .nil) : Tys).Ok x) : F116 (x, (x, ())) = some (B1 true) :=
  eqList (xs := x.1) (E := fun y z v => bif !sEq y.1 z.1 then some (.inr (.inr (B1 false))) else some (.inl (iAdd .i64 v.1 1, ()))) hx.1.1 (fun y hy v => eq_str rfl)
set_option maxHeartbeats 2000000 in
theorem s39 (x : (Int × (Int × (List (Tys.D e9) × Unit)))) (hx : ((.cons (.int .i64) (.cons (.int .i64) (.cons (.sl e9) .nil))) : Tys).Ok x) : F39 (x, (x, ())) = some (B1 true) :=
  (eq_int (eq_int (eq_call (s116 (x.2.2.1, ()) ⟨hx.2.2.1, trivial⟩) rfl)))
set_option maxHeartbeats 2000000 in
theorem s43 (x : (List (Tys.D e3) × Unit)) (hx : ((.cons (.sl e3) .nil) : Tys).Ok x) : F43 (x, (x, ())) = some (B1 true) :=
  eqList (xs := x.1) (E := fun y z v => bif !iEq y.1 z.1 then some (.inr (.inr (B1 false))) else some (.inl (iAdd .i64 v.1 1, ()))) hx.1.1 (fun y hy v => eq_int rfl)
set_option maxHeartbeats 2000000 in
theorem s40 (x : (Int × (List (Tys.D e9) × (List (Tys.D e3) × Unit)))) (hx : ((.cons (.int .i64) (.cons (.sl e9) (.cons (.sl e3) .nil))) : Tys).Ok x) : F40 (x, (x, ())) = some (B1 true) :=
  (eq_int (eq_call (s116 (x.2.1, ()) ⟨hx.2.1, trivial⟩) (eq_call (s43 (x.2.2.1, ()) ⟨hx.2.2.1, trivial⟩) rfl)))
set_option maxHeartbeats 2000000 in
theorem s119 (x : (Int × (ByteArray × (ByteArray × (Int × (Int × Unit)))))) (hx : ((.cons (.int .i64) (.cons .str (.cons .str (.cons (.int .i64) (.cons (.int .i64) .nil))))) : Tys).Ok x) : F119 (x, (x, ())) = some (B1 true) :=
  (eq_int (eq_str (eq_str (eq_int (eq_int rfl)))))
set_option maxHeartbeats 2000000 in
theorem s44 (x : (List (Tys.D e146) × Unit)) (hx : ((.cons (.sl e146) .nil) : Tys).Ok x) : F44 (x, (x, ())) = some (B1 true) :=
  eqList (xs := x.1) (E := fun y z v => (F119 (y, (z, ()))).bind fun r => bif (!r.1.1) then some (.inr (.inr (B1 false))) else some (.inl (iAdd .i64 v.1 1, ()))) hx.1.1 (fun y hy v => eq_call (s119 y (Ok_mem hx.1.2 hy)) rfl)
set_option maxHeartbeats 2000000 in
theorem s115 (x : (Int × (Int × (Int × (ByteArray × (Int × (Int × (List (Tys.D e9) × (Int × (List (Tys.D e9) × (List (Tys.D e3) × (List (Tys.D e146) × (Bool × (List (Tys.D e138) × (ByteArray × Unit))))))))))))))) (hx : ((.cons (.int .i64) (.cons (.int .i64) (.cons (.int .i64) (.cons .str (.cons (.int .i64) (.cons (.int .i64) (.cons (.sl e9) (.cons (.int .i64) (.cons (.sl e9) (.cons (.sl e3) (.cons (.sl e146) (.cons .bool (.cons (.sl e138) (.cons .str .nil)))))))))))))) : Tys).Ok x) : F115 (x, (x, ())) = some (B1 true) :=
  (eq_int (eq_int (eq_int (eq_str (eq_call (s39 (x.2.2.2.2.1, (x.2.2.2.2.2.1, (x.2.2.2.2.2.2.1, ()))) ⟨hx.2.2.2.2.1, ⟨hx.2.2.2.2.2.1, ⟨hx.2.2.2.2.2.2.1, trivial⟩⟩⟩) (eq_call (s40 (x.2.2.2.2.2.2.2.1, (x.2.2.2.2.2.2.2.2.1, (x.2.2.2.2.2.2.2.2.2.1, ()))) ⟨hx.2.2.2.2.2.2.2.1, ⟨hx.2.2.2.2.2.2.2.2.1, ⟨hx.2.2.2.2.2.2.2.2.2.1, trivial⟩⟩⟩) (eq_call (s44 (x.2.2.2.2.2.2.2.2.2.2.1, ()) ⟨hx.2.2.2.2.2.2.2.2.2.2.1, trivial⟩) (eq_bool (eq_call (s37 (x.2.2.2.2.2.2.2.2.2.2.2.2.1, ()) ⟨hx.2.2.2.2.2.2.2.2.2.2.2.2.1, trivial⟩) (eq_str rfl))))))))))
set_option maxHeartbeats 2000000 in
theorem s38 (x : (List (Tys.D e133) × Unit)) (hx : ((.cons (.sl e133) .nil) : Tys).Ok x) : F38 (x, (x, ())) = some (B1 true) :=
  eqList (xs := x.1) (E := fun y z v => (F115 (y, (z, ()))).bind fun r => bif (!r.1.1) then some (.inr (.inr (B1 false))) else some (.inl (iAdd .i64 v.1 1, ()))) hx.1.1 (fun y hy v => eq_call (s115 y (Ok_mem hx.1.2 hy)) rfl)
set_option maxHeartbeats 2000000 in
theorem s117 (x : (Int × (Int × (ByteArray × Unit)))) (hx : ((.cons (.int .i64) (.cons (.int .i64) (.cons .str .nil))) : Tys).Ok x) : F117 (x, (x, ())) = some (B1 true) :=
  (eq_int (eq_int (eq_str rfl)))
set_option maxHeartbeats 2000000 in
theorem s41 (x : (List (Tys.D e142) × Unit)) (hx : ((.cons (.sl e142) .nil) : Tys).Ok x) : F41 (x, (x, ())) = some (B1 true) :=
  eqList (xs := x.1) (E := fun y z v => (F117 (y, (z, ()))).bind fun r => bif (!r.1.1) then some (.inr (.inr (B1 false))) else some (.inl (iAdd .i64 v.1 1, ()))) hx.1.1 (fun y hy v => eq_call (s117 y (Ok_mem hx.1.2 hy)) rfl)
set_option maxHeartbeats 2000000 in
theorem s118 (x : (Int × (Int × (ByteArray × Unit)))) (hx : ((.cons (.int .i64) (.cons (.int .i64) (.cons .str .nil))) : Tys).Ok x) : F118 (x, (x, ())) = some (B1 true) :=
  (eq_int (eq_int (eq_str rfl)))
set_option maxHeartbeats 2000000 in
theorem s42 (x : (List (Tys.D e144) × Unit)) (hx : ((.cons (.sl e144) .nil) : Tys).Ok x) : F42 (x, (x, ())) = some (B1 true) :=
  eqList (xs := x.1) (E := fun y z v => (F118 (y, (z, ()))).bind fun r => bif (!r.1.1) then some (.inr (.inr (B1 false))) else some (.inl (iAdd .i64 v.1 1, ()))) hx.1.1 (fun y hy v => eq_call (s118 y (Ok_mem hx.1.2 hy)) rfl)
set_option maxHeartbeats 2000000 in
theorem s120 (x : (Int × (List (Tys.D e133) × (Int × (Int × (List (Tys.D e9) × Unit)))))) (hx : ((.cons (.int .i64) (.cons (.sl e133) (.cons (.int .i64) (.cons (.int .i64) (.cons (.sl e9) .nil))))) : Tys).Ok x) : F120 (x, (x, ())) = some (B1 true) :=
  (eq_int (eq_call (s38 (x.2.1, ()) ⟨hx.2.1, trivial⟩) (eq_call (s39 (x.2.2.1, (x.2.2.2.1, (x.2.2.2.2.1, ()))) ⟨hx.2.2.1, ⟨hx.2.2.2.1, ⟨hx.2.2.2.2.1, trivial⟩⟩⟩) rfl)))
set_option maxHeartbeats 2000000 in
theorem s45 (x : (List (Tys.D e125) × Unit)) (hx : ((.cons (.sl e125) .nil) : Tys).Ok x) : F45 (x, (x, ())) = some (B1 true) :=
  eqList (xs := x.1) (E := fun y z v => (F120 (y, (z, ()))).bind fun r => bif (!r.1.1) then some (.inr (.inr (B1 false))) else some (.inl (iAdd .i64 v.1 1, ()))) hx.1.1 (fun y hy v => eq_call (s120 y (Ok_mem hx.1.2 hy)) rfl)
set_option maxHeartbeats 2000000 in
theorem s8 (x : (ByteArray × (Int × (Int × (List (Tys.D e177) × (List (Tys.D e138) × (List (Tys.D e133) × (Int × (Int × (Int × (Int × (List (Tys.D e9) × (Int × (List (Tys.D e9) × (List (Tys.D e3) × (Int × (List (Tys.D e142) × (List (Tys.D e144) × (List (Tys.D e3) × (List (Tys.D e146) × (List (Tys.D e125) × Unit))))))))))))))))))))) (hx : ((.cons .str (.cons (.int .i64) (.cons (.int .i64) (.cons (.sl e177) (.cons (.sl e138) (.cons (.sl e133) (.cons (.int .i64) (.cons (.int .i64) (.cons (.int .i64) (.cons (.int .i64) (.cons (.sl e9) (.cons (.int .i64) (.cons (.sl e9) (.cons (.sl e3) (.cons (.int .i64) (.cons (.sl e142) (.cons (.sl e144) (.cons (.sl e3) (.cons (.sl e146) (.cons (.sl e125) .nil)))))))))))))))))))) : Tys).Ok x) : F8 (x, (x, ())) = some (B1 true) :=
  (eq_str (eq_int (eq_call (s36 (x.2.2.1, (x.2.2.2.1, ())) ⟨hx.2.2.1, ⟨hx.2.2.2.1, trivial⟩⟩) (eq_call (s37 (x.2.2.2.2.1, ()) ⟨hx.2.2.2.2.1, trivial⟩) (eq_call (s38 (x.2.2.2.2.2.1, ()) ⟨hx.2.2.2.2.2.1, trivial⟩) (eq_int (eq_int (eq_call (s39 (x.2.2.2.2.2.2.2.2.1, (x.2.2.2.2.2.2.2.2.2.1, (x.2.2.2.2.2.2.2.2.2.2.1, ()))) ⟨hx.2.2.2.2.2.2.2.2.1, ⟨hx.2.2.2.2.2.2.2.2.2.1, ⟨hx.2.2.2.2.2.2.2.2.2.2.1, trivial⟩⟩⟩) (eq_call (s40 (x.2.2.2.2.2.2.2.2.2.2.2.1, (x.2.2.2.2.2.2.2.2.2.2.2.2.1, (x.2.2.2.2.2.2.2.2.2.2.2.2.2.1, ()))) ⟨hx.2.2.2.2.2.2.2.2.2.2.2.1, ⟨hx.2.2.2.2.2.2.2.2.2.2.2.2.1, ⟨hx.2.2.2.2.2.2.2.2.2.2.2.2.2.1, trivial⟩⟩⟩) (eq_int (eq_call (s41 (x.2.2.2.2.2.2.2.2.2.2.2.2.2.2.2.1, ()) ⟨hx.2.2.2.2.2.2.2.2.2.2.2.2.2.2.2.1, trivial⟩) (eq_call (s42 (x.2.2.2.2.2.2.2.2.2.2.2.2.2.2.2.2.1, ()) ⟨hx.2.2.2.2.2.2.2.2.2.2.2.2.2.2.2.2.1, trivial⟩) (eq_call (s43 (x.2.2.2.2.2.2.2.2.2.2.2.2.2.2.2.2.2.1, ()) ⟨hx.2.2.2.2.2.2.2.2.2.2.2.2.2.2.2.2.2.1, trivial⟩) (eq_call (s44 (x.2.2.2.2.2.2.2.2.2.2.2.2.2.2.2.2.2.2.1, ()) ⟨hx.2.2.2.2.2.2.2.2.2.2.2.2.2.2.2.2.2.2.1, trivial⟩) (eq_call (s45 (x.2.2.2.2.2.2.2.2.2.2.2.2.2.2.2.2.2.2.2.1, ()) ⟨hx.2.2.2.2.2.2.2.2.2.2.2.2.2.2.2.2.2.2.2.1, trivial⟩) rfl)))))))))))))))
end Go.Proofs.YtodcmpnbcgobkacGreat
