/- The laws' helpers: how much there is, copies, comparisons with itself. Conditions: none. -/

import Derived.Test.YtmfeejonafjehaaGreatTm4
import Derived.Test.YtmfeejonafjehaaGreatSuF
namespace Go.Proofs.YtmfeejonafjehaaGreat
open Go Go.Tm
set_option linter.unusedVariables false
set_option maxRecDepth 100000
set_option maxHeartbeats 2000000 in
theorem w165 (x : (List (Tys.D e212) × Unit)) (hx : ((.cons (.sl e212) .nil) : Tys).Ok x) : Sz (((.cons (.sl e212) .nil) : Tys).w x) (fun l => F165 (x, ((l, ()), ()))) :=
  (Sz.str (a := List.length x.1) hx.1.1 Sz.nil).to (congrArg (fun z => List.length x.1 + z + 0) (sumW_zero (f := fun y => Tys.w e212 y) (fun _ => rfl) x.1)).symm
set_option maxHeartbeats 2000000 in
theorem w132 (x : (ByteArray × (Int × (Int × (Int × (List (Tys.D e212) × Unit)))))) (hx : ((.cons .str (.cons (.int .i64) (.cons (.int .i64) (.cons (.int .i64) (.cons (.sl e212) .nil))))) : Tys).Ok x) : Sz (((.cons .str (.cons (.int .i64) (.cons (.int .i64) (.cons (.int .i64) (.cons (.sl e212) .nil))))) : Tys).w x) (fun l => F132 (x, ((l, ()), ()))) :=
  (Sz.str (a := ByteArray.size x.1) hx.1 (Sz.int (Sz.int (Sz.int (Sz.call1 (w165 (x.2.2.2.2.1, ()) ⟨hx.2.2.2.2.1, trivial⟩) Sz.nil)))))
set_option maxHeartbeats 2000000 in
theorem w69 (x : (List (Tys.D e173) × Unit)) (hx : ((.cons (.sl e173) .nil) : Tys).Ok x) : Sz (((.cons (.sl e173) .nil) : Tys).w x) (fun l => F69 (x, ((l, ()), ()))) :=
  (Sz.list (xs := x.1) (T := fun y l => F132 (y, ((l, ()), ()))) (π := fun c => c.1.1) (wt := fun y => e173.w y) hx.1.1 (fun y hy => szR_T (x := y) (w132 y (Ok_mem hx.1.2 hy))))
set_option maxHeartbeats 2000000 in
theorem w13 (x : (Int × (List (Tys.D e173) × Unit))) (hx : ((.cons (.int .i64) (.cons (.sl e173) .nil)) : Tys).Ok x) : Sz (((.cons (.int .i64) (.cons (.sl e173) .nil)) : Tys).w x) (fun l => F13 (x, ((l, ()), ()))) :=
  (Sz.int (Sz.call1 (w69 (x.2.1, ()) ⟨hx.2.1, trivial⟩) Sz.nil))
set_option maxHeartbeats 2000000 in
theorem w70 (x : (ByteArray × (Int × Unit))) (hx : ((.cons .str (.cons (.int .i64) .nil)) : Tys).Ok x) : Sz (((.cons .str (.cons (.int .i64) .nil)) : Tys).w x) (fun l => F70 (x, ((l, ()), ()))) :=
  (Sz.str (a := ByteArray.size x.1) hx.1 (Sz.int Sz.nil))
set_option maxHeartbeats 2000000 in
theorem w14 (x : (List (Tys.D e110) × Unit)) (hx : ((.cons (.sl e110) .nil) : Tys).Ok x) : Sz (((.cons (.sl e110) .nil) : Tys).w x) (fun l => F14 (x, ((l, ()), ()))) :=
  (Sz.list (xs := x.1) (T := fun y l => F70 (y, ((l, ()), ()))) (π := fun c => c.1.1) (wt := fun y => e110.w y) hx.1.1 (fun y hy => szR_T (x := y) (w70 y (Ok_mem hx.1.2 hy))))
set_option maxHeartbeats 2000000 in
theorem w72 (x : (List (Tys.D e9) × Unit)) (hx : ((.cons (.sl e9) .nil) : Tys).Ok x) : Sz (((.cons (.sl e9) .nil) : Tys).w x) (fun l => F72 (x, ((l, ()), ()))) :=
  (Sz.list (xs := x.1) (T := fun y l => some (iSub .i64 l (ByteArray.size y.1 : Int))) (π := fun c => c) (wt := fun y => ByteArray.size y.1) hx.1.1 (fun y hy => szR_S (Ok_mem hx.1.2 hy).1)).to rfl
set_option maxHeartbeats 2000000 in
theorem w16 (x : (Int × (Int × (List (Tys.D e9) × Unit)))) (hx : ((.cons (.int .i64) (.cons (.int .i64) (.cons (.sl e9) .nil))) : Tys).Ok x) : Sz (((.cons (.int .i64) (.cons (.int .i64) (.cons (.sl e9) .nil))) : Tys).w x) (fun l => F16 (x, ((l, ()), ()))) :=
  (Sz.int (Sz.int (Sz.call1 (w72 (x.2.2.1, ()) ⟨hx.2.2.1, trivial⟩) Sz.nil)))
set_option maxHeartbeats 2000000 in
theorem w20 (x : (List (Tys.D e3) × Unit)) (hx : ((.cons (.sl e3) .nil) : Tys).Ok x) : Sz (((.cons (.sl e3) .nil) : Tys).w x) (fun l => F20 (x, ((l, ()), ()))) :=
  (Sz.str (a := List.length x.1) hx.1.1 Sz.nil).to (congrArg (fun z => List.length x.1 + z + 0) (sumW_zero (f := fun y => Tys.w e3 y) (fun _ => rfl) x.1)).symm
set_option maxHeartbeats 2000000 in
theorem w17 (x : (Int × (List (Tys.D e9) × (List (Tys.D e3) × Unit)))) (hx : ((.cons (.int .i64) (.cons (.sl e9) (.cons (.sl e3) .nil))) : Tys).Ok x) : Sz (((.cons (.int .i64) (.cons (.sl e9) (.cons (.sl e3) .nil))) : Tys).w x) (fun l => F17 (x, ((l, ()), ()))) :=
  (Sz.int (Sz.call1 (w72 (x.2.1, ()) ⟨hx.2.1, trivial⟩) (Sz.call1 (w20 (x.2.2.1, ()) ⟨hx.2.2.1, trivial⟩) Sz.nil)))
set_option maxHeartbeats 2000000 in
theorem w5 (x : (Int × (ByteArray × (ByteArray × (Int × (Int × Unit)))))) (hx : ((.cons (.int .i64) (.cons .str (.cons .str (.cons (.int .i64) (.cons (.int .i64) .nil))))) : Tys).Ok x) : Sz (((.cons (.int .i64) (.cons .str (.cons .str (.cons (.int .i64) (.cons (.int .i64) .nil))))) : Tys).w x) (fun l => F5 (x, ((l, ()), ()))) :=
  (Sz.int (Sz.str (a := ByteArray.size x.2.1) hx.2.1 (Sz.str (a := ByteArray.size x.2.2.1) hx.2.2.1 (Sz.int (Sz.int Sz.nil)))))
set_option maxHeartbeats 2000000 in
theorem w21 (x : (List (Tys.D e40) × Unit)) (hx : ((.cons (.sl e40) .nil) : Tys).Ok x) : Sz (((.cons (.sl e40) .nil) : Tys).w x) (fun l => F21 (x, ((l, ()), ()))) :=
  (Sz.list (xs := x.1) (T := fun y l => F5 (y, ((l, ()), ()))) (π := fun c => c.1.1) (wt := fun y => e40.w y) hx.1.1 (fun y hy => szR_T (x := y) (w5 y (Ok_mem hx.1.2 hy))))
set_option maxHeartbeats 2000000 in
theorem w71 (x : (Int × (Int × (Int × (ByteArray × (Int × (Int × (List (Tys.D e9) × (Int × (List (Tys.D e9) × (List (Tys.D e3) × (List (Tys.D e40) × (Bool × (List (Tys.D e110) × (ByteArray × Unit))))))))))))))) (hx : ((.cons (.int .i64) (.cons (.int .i64) (.cons (.int .i64) (.cons .str (.cons (.int .i64) (.cons (.int .i64) (.cons (.sl e9) (.cons (.int .i64) (.cons (.sl e9) (.cons (.sl e3) (.cons (.sl e40) (.cons .bool (.cons (.sl e110) (.cons .str .nil)))))))))))))) : Tys).Ok x) : Sz (((.cons (.int .i64) (.cons (.int .i64) (.cons (.int .i64) (.cons .str (.cons (.int .i64) (.cons (.int .i64) (.cons (.sl e9) (.cons (.int .i64) (.cons (.sl e9) (.cons (.sl e3) (.cons (.sl e40) (.cons .bool (.cons (.sl e110) (.cons .str .nil)))))))))))))) : Tys).w x) (fun l => F71 (x, ((l, ()), ()))) :=
  (Sz.int (Sz.int (Sz.int (Sz.str (a := ByteArray.size x.2.2.2.1) hx.2.2.2.1 (Sz.call3 (w16 (x.2.2.2.2.1, (x.2.2.2.2.2.1, (x.2.2.2.2.2.2.1, ()))) ⟨hx.2.2.2.2.1, ⟨hx.2.2.2.2.2.1, ⟨hx.2.2.2.2.2.2.1, trivial⟩⟩⟩) (Sz.call3 (w17 (x.2.2.2.2.2.2.2.1, (x.2.2.2.2.2.2.2.2.1, (x.2.2.2.2.2.2.2.2.2.1, ()))) ⟨hx.2.2.2.2.2.2.2.1, ⟨hx.2.2.2.2.2.2.2.2.1, ⟨hx.2.2.2.2.2.2.2.2.2.1, trivial⟩⟩⟩) (Sz.call1 (w21 (x.2.2.2.2.2.2.2.2.2.2.1, ()) ⟨hx.2.2.2.2.2.2.2.2.2.2.1, trivial⟩) (Sz.int (Sz.call1 (w14 (x.2.2.2.2.2.2.2.2.2.2.2.2.1, ()) ⟨hx.2.2.2.2.2.2.2.2.2.2.2.2.1, trivial⟩) (Sz.str (a := ByteArray.size x.2.2.2.2.2.2.2.2.2.2.2.2.2.1) hx.2.2.2.2.2.2.2.2.2.2.2.2.2.1 Sz.nil))))))))))
set_option maxHeartbeats 2000000 in
theorem w15 (x : (List (Tys.D e113) × Unit)) (hx : ((.cons (.sl e113) .nil) : Tys).Ok x) : Sz (((.cons (.sl e113) .nil) : Tys).w x) (fun l => F15 (x, ((l, ()), ()))) :=
  (Sz.list (xs := x.1) (T := fun y l => F71 (y, ((l, ()), ()))) (π := fun c => c.1.1) (wt := fun y => e113.w y) hx.1.1 (fun y hy => szR_T (x := y) (w71 y (Ok_mem hx.1.2 hy))))
set_option maxHeartbeats 2000000 in
theorem w73 (x : (Int × (Int × (ByteArray × Unit)))) (hx : ((.cons (.int .i64) (.cons (.int .i64) (.cons .str .nil))) : Tys).Ok x) : Sz (((.cons (.int .i64) (.cons (.int .i64) (.cons .str .nil))) : Tys).w x) (fun l => F73 (x, ((l, ()), ()))) :=
  (Sz.int (Sz.int (Sz.str (a := ByteArray.size x.2.2.1) hx.2.2.1 Sz.nil)))
set_option maxHeartbeats 2000000 in
theorem w18 (x : (List (Tys.D e117) × Unit)) (hx : ((.cons (.sl e117) .nil) : Tys).Ok x) : Sz (((.cons (.sl e117) .nil) : Tys).w x) (fun l => F18 (x, ((l, ()), ()))) :=
  (Sz.list (xs := x.1) (T := fun y l => F73 (y, ((l, ()), ()))) (π := fun c => c.1.1) (wt := fun y => e117.w y) hx.1.1 (fun y hy => szR_T (x := y) (w73 y (Ok_mem hx.1.2 hy))))
set_option maxHeartbeats 2000000 in
theorem w74 (x : (Int × (Int × (ByteArray × Unit)))) (hx : ((.cons (.int .i64) (.cons (.int .i64) (.cons .str .nil))) : Tys).Ok x) : Sz (((.cons (.int .i64) (.cons (.int .i64) (.cons .str .nil))) : Tys).w x) (fun l => F74 (x, ((l, ()), ()))) :=
  (Sz.int (Sz.int (Sz.str (a := ByteArray.size x.2.2.1) hx.2.2.1 Sz.nil)))
set_option maxHeartbeats 2000000 in
theorem w19 (x : (List (Tys.D e120) × Unit)) (hx : ((.cons (.sl e120) .nil) : Tys).Ok x) : Sz (((.cons (.sl e120) .nil) : Tys).w x) (fun l => F19 (x, ((l, ()), ()))) :=
  (Sz.list (xs := x.1) (T := fun y l => F74 (y, ((l, ()), ()))) (π := fun c => c.1.1) (wt := fun y => e120.w y) hx.1.1 (fun y hy => szR_T (x := y) (w74 y (Ok_mem hx.1.2 hy))))
set_option maxHeartbeats 2000000 in
theorem w75 (x : (Int × (List (Tys.D e113) × (Int × (Int × (List (Tys.D e9) × Unit)))))) (hx : ((.cons (.int .i64) (.cons (.sl e113) (.cons (.int .i64) (.cons (.int .i64) (.cons (.sl e9) .nil))))) : Tys).Ok x) : Sz (((.cons (.int .i64) (.cons (.sl e113) (.cons (.int .i64) (.cons (.int .i64) (.cons (.sl e9) .nil))))) : Tys).w x) (fun l => F75 (x, ((l, ()), ()))) :=
  (Sz.int (Sz.call1 (w15 (x.2.1, ()) ⟨hx.2.1, trivial⟩) (Sz.call3 (w16 (x.2.2.1, (x.2.2.2.1, (x.2.2.2.2.1, ()))) ⟨hx.2.2.1, ⟨hx.2.2.2.1, ⟨hx.2.2.2.2.1, trivial⟩⟩⟩) Sz.nil)))
set_option maxHeartbeats 2000000 in
theorem w22 (x : (List (Tys.D e123) × Unit)) (hx : ((.cons (.sl e123) .nil) : Tys).Ok x) : Sz (((.cons (.sl e123) .nil) : Tys).w x) (fun l => F22 (x, ((l, ()), ()))) :=
  (Sz.list (xs := x.1) (T := fun y l => F75 (y, ((l, ()), ()))) (π := fun c => c.1.1) (wt := fun y => e123.w y) hx.1.1 (fun y hy => szR_T (x := y) (w75 y (Ok_mem hx.1.2 hy))))
set_option maxHeartbeats 2000000 in
theorem w4 (x : (ByteArray × (Int × (Int × (List (Tys.D e173) × (List (Tys.D e110) × (List (Tys.D e113) × (Int × (Int × (Int × (Int × (List (Tys.D e9) × (Int × (List (Tys.D e9) × (List (Tys.D e3) × (Int × (List (Tys.D e117) × (List (Tys.D e120) × (List (Tys.D e3) × (List (Tys.D e40) × (List (Tys.D e123) × Unit))))))))))))))))))))) (hx : ((.cons .str (.cons (.int .i64) (.cons (.int .i64) (.cons (.sl e173) (.cons (.sl e110) (.cons (.sl e113) (.cons (.int .i64) (.cons (.int .i64) (.cons (.int .i64) (.cons (.int .i64) (.cons (.sl e9) (.cons (.int .i64) (.cons (.sl e9) (.cons (.sl e3) (.cons (.int .i64) (.cons (.sl e117) (.cons (.sl e120) (.cons (.sl e3) (.cons (.sl e40) (.cons (.sl e123) .nil)))))))))))))))))))) : Tys).Ok x) : Sz (((.cons .str (.cons (.int .i64) (.cons (.int .i64) (.cons (.sl e173) (.cons (.sl e110) (.cons (.sl e113) (.cons (.int .i64) (.cons (.int .i64) (.cons (.int .i64) (.cons (.int .i64) (.cons (.sl e9) (.cons (.int .i64) (.cons (.sl e9) (.cons (.sl e3) (.cons (.int .i64) (.cons (.sl e117) (.cons (.sl e120) (.cons (.sl e3) (.cons (.sl e40) (.cons (.sl e123) .nil)))))))))))))))))))) : Tys).w x) (fun l => F4 (x, ((l, ()), ()))) :=
  (Sz.str (a := ByteArray.size x.1) hx.1 (Sz.int (Sz.call2 (w13 (x.2.2.1, (x.2.2.2.1, ())) ⟨hx.2.2.1, ⟨hx.2.2.2.1, trivial⟩⟩) (Sz.call1 (w14 (x.2.2.2.2.1, ()) ⟨hx.2.2.2.2.1, trivial⟩) (Sz.call1 (w15 (x.2.2.2.2.2.1, ()) ⟨hx.2.2.2.2.2.1, trivial⟩) (Sz.int (Sz.int (Sz.call3 (w16 (x.2.2.2.2.2.2.2.2.1, (x.2.2.2.2.2.2.2.2.2.1, (x.2.2.2.2.2.2.2.2.2.2.1, ()))) ⟨hx.2.2.2.2.2.2.2.2.1, ⟨hx.2.2.2.2.2.2.2.2.2.1, ⟨hx.2.2.2.2.2.2.2.2.2.2.1, trivial⟩⟩⟩) (Sz.call3 (w17 (x.2.2.2.2.2.2.2.2.2.2.2.1, (x.2.2.2.2.2.2.2.2.2.2.2.2.1, (x.2.2.2.2.2.2.2.2.2.2.2.2.2.1, ()))) ⟨hx.2.2.2.2.2.2.2.2.2.2.2.1, ⟨hx.2.2.2.2.2.2.2.2.2.2.2.2.1, ⟨hx.2.2.2.2.2.2.2.2.2.2.2.2.2.1, trivial⟩⟩⟩) (Sz.int (Sz.call1 (w18 (x.2.2.2.2.2.2.2.2.2.2.2.2.2.2.2.1, ()) ⟨hx.2.2.2.2.2.2.2.2.2.2.2.2.2.2.2.1, trivial⟩) (Sz.call1 (w19 (x.2.2.2.2.2.2.2.2.2.2.2.2.2.2.2.2.1, ()) ⟨hx.2.2.2.2.2.2.2.2.2.2.2.2.2.2.2.2.1, trivial⟩) (Sz.call1 (w20 (x.2.2.2.2.2.2.2.2.2.2.2.2.2.2.2.2.2.1, ()) ⟨hx.2.2.2.2.2.2.2.2.2.2.2.2.2.2.2.2.2.1, trivial⟩) (Sz.call1 (w21 (x.2.2.2.2.2.2.2.2.2.2.2.2.2.2.2.2.2.2.1, ()) ⟨hx.2.2.2.2.2.2.2.2.2.2.2.2.2.2.2.2.2.2.1, trivial⟩) (Sz.call1 (w22 (x.2.2.2.2.2.2.2.2.2.2.2.2.2.2.2.2.2.2.2.1, ()) ⟨hx.2.2.2.2.2.2.2.2.2.2.2.2.2.2.2.2.2.2.2.1, trivial⟩) Sz.nil)))))))))))))))
set_option maxHeartbeats 2000000 in
theorem t191 (x : (Int × (Int × Unit))) (hx : ((.cons (.int .i64) (.cons (.int .i64) .nil)) : Tys).w x ≤ 1048576) : F191 (x, ()) = some (x, ()) :=
  rfl
set_option maxHeartbeats 2000000 in
theorem t174 (x : (List (Tys.D e212) × Unit)) (hx : ((.cons (.sl e212) .nil) : Tys).w x ≤ 1048576) : F174 (x, ()) = some (x, ()) :=
  (toList (A := Tys.D e212) (B := Tys.D e205) (xs := x.1) (T := fun y => F191 (y, ())) (π := fun c => c.1) (φ := fun y => y) (bytes := 16) (by decide) (by decide) (w_len hx) (fun y hy => ⟨_, t191 y (w_el hx rfl hy), rfl⟩)).trans (congrArg (fun l => some ((l, ()), ())) (List.map_id' x.1))
set_option maxHeartbeats 2000000 in
theorem t143 (x : (ByteArray × (Int × (Int × (Int × (List (Tys.D e212) × Unit)))))) (hx : ((.cons .str (.cons (.int .i64) (.cons (.int .i64) (.cons (.int .i64) (.cons (.sl e212) .nil))))) : Tys).w x ≤ 1048576) : F143 (x, ()) = some (x, ()) :=
  (bind_eq (t174 (x.2.2.2.2.1, ()) (w_1 (w_tl (w_tl (w_tl (w_tl hx)))))) rfl)
set_option maxHeartbeats 2000000 in
theorem t90 (x : (List (Tys.D e173) × Unit)) (hx : ((.cons (.sl e173) .nil) : Tys).w x ≤ 1048576) : F90 (x, ()) = some (x, ()) :=
  (toList (A := Tys.D e173) (B := Tys.D e183) (xs := x.1) (T := fun y => F143 (y, ())) (π := fun c => c.1) (φ := fun y => y) (bytes := 64) (by decide) (by decide) (w_len hx) (fun y hy => ⟨_, t143 y (w_el hx rfl hy), rfl⟩)).trans (congrArg (fun l => some ((l, ()), ())) (List.map_id' x.1))
set_option maxHeartbeats 2000000 in
theorem t26 (x : (Int × (List (Tys.D e173) × Unit))) (hx : ((.cons (.int .i64) (.cons (.sl e173) .nil)) : Tys).w x ≤ 1048576) : F26 (x, ()) = some (x, ()) :=
  (bind_eq (t90 (x.2.1, ()) (w_1 (w_tl hx))) rfl)
set_option maxHeartbeats 2000000 in
theorem t91 (x : (ByteArray × (Int × Unit))) (hx : ((.cons .str (.cons (.int .i64) .nil)) : Tys).w x ≤ 1048576) : F91 (x, ()) = some (x, ()) :=
  rfl
set_option maxHeartbeats 2000000 in
theorem t27 (x : (List (Tys.D e110) × Unit)) (hx : ((.cons (.sl e110) .nil) : Tys).w x ≤ 1048576) : F27 (x, ()) = some (x, ()) :=
  (toList (A := Tys.D e110) (B := Tys.D e143) (xs := x.1) (T := fun y => F91 (y, ())) (π := fun c => c.1) (φ := fun y => y) (bytes := 24) (by decide) (by decide) (w_len hx) (fun y hy => ⟨_, t91 y (w_el hx rfl hy), rfl⟩)).trans (congrArg (fun l => some ((l, ()), ())) (List.map_id' x.1))
set_option maxHeartbeats 2000000 in
theorem t93 (x : (List (Tys.D e9) × Unit)) (hx : ((.cons (.sl e9) .nil) : Tys).w x ≤ 1048576) : F93 (x, ()) = some (x, ()) :=
  (toList (A := Tys.D e9) (B := Tys.D e9) (xs := x.1) (T := fun y => some y) (π := fun c => c) (φ := fun y => y) (bytes := 16) (by decide) (by decide) (w_len hx) (fun y hy => ⟨_, rfl, rfl⟩)).trans (congrArg (fun l => some ((l, ()), ())) (List.map_id' x.1))
set_option maxHeartbeats 2000000 in
theorem t29 (x : (Int × (Int × (List (Tys.D e9) × Unit)))) (hx : ((.cons (.int .i64) (.cons (.int .i64) (.cons (.sl e9) .nil))) : Tys).w x ≤ 1048576) : F29 (x, ()) = some (x, ()) :=
  (bind_eq (t93 (x.2.2.1, ()) (w_1 (w_tl (w_tl hx)))) rfl)
set_option maxHeartbeats 2000000 in
theorem t33 (x : (List (Tys.D e3) × Unit)) (hx : ((.cons (.sl e3) .nil) : Tys).w x ≤ 1048576) : F33 (x, ()) = some (x, ()) :=
  (toList (A := Tys.D e3) (B := Tys.D e3) (xs := x.1) (T := fun y => some y) (π := fun c => c) (φ := fun y => y) (bytes := 8) (by decide) (by decide) (w_len hx) (fun y hy => ⟨_, rfl, rfl⟩)).trans (congrArg (fun l => some ((l, ()), ())) (List.map_id' x.1))
set_option maxHeartbeats 2000000 in
theorem t30 (x : (Int × (List (Tys.D e9) × (List (Tys.D e3) × Unit)))) (hx : ((.cons (.int .i64) (.cons (.sl e9) (.cons (.sl e3) .nil))) : Tys).w x ≤ 1048576) : F30 (x, ()) = some (x, ()) :=
  (bind_eq (t93 (x.2.1, ()) (w_1 (w_tl hx))) (bind_eq (t33 (x.2.2.1, ()) (w_1 (w_tl (w_tl hx)))) rfl))
set_option maxHeartbeats 2000000 in
theorem t8 (x : (Int × (ByteArray × (ByteArray × (Int × (Int × Unit)))))) (hx : ((.cons (.int .i64) (.cons .str (.cons .str (.cons (.int .i64) (.cons (.int .i64) .nil))))) : Tys).w x ≤ 1048576) : F8 (x, ()) = some (x, ()) :=
  rfl
set_option maxHeartbeats 2000000 in
theorem t34 (x : (List (Tys.D e40) × Unit)) (hx : ((.cons (.sl e40) .nil) : Tys).w x ≤ 1048576) : F34 (x, ()) = some (x, ()) :=
  (toList (A := Tys.D e40) (B := Tys.D e59) (xs := x.1) (T := fun y => F8 (y, ())) (π := fun c => c.1) (φ := fun y => y) (bytes := 56) (by decide) (by decide) (w_len hx) (fun y hy => ⟨_, t8 y (w_el hx rfl hy), rfl⟩)).trans (congrArg (fun l => some ((l, ()), ())) (List.map_id' x.1))
set_option maxHeartbeats 2000000 in
theorem t92 (x : (Int × (Int × (Int × (ByteArray × (Int × (Int × (List (Tys.D e9) × (Int × (List (Tys.D e9) × (List (Tys.D e3) × (List (Tys.D e40) × (Bool × (List (Tys.D e110) × (ByteArray × Unit))))))))))))))) (hx : ((.cons (.int .i64) (.cons (.int .i64) (.cons (.int .i64) (.cons .str (.cons (.int .i64) (.cons (.int .i64) (.cons (.sl e9) (.cons (.int .i64) (.cons (.sl e9) (.cons (.sl e3) (.cons (.sl e40) (.cons .bool (.cons (.sl e110) (.cons .str .nil)))))))))))))) : Tys).w x ≤ 1048576) : F92 (x, ()) = some (x, ()) :=
  (bind_eq (t29 (x.2.2.2.2.1, (x.2.2.2.2.2.1, (x.2.2.2.2.2.2.1, ()))) (w_3 (w_tl (w_tl (w_tl (w_tl hx)))))) (bind_eq (t30 (x.2.2.2.2.2.2.2.1, (x.2.2.2.2.2.2.2.2.1, (x.2.2.2.2.2.2.2.2.2.1, ()))) (w_3 (w_tl (w_tl (w_tl (w_tl (w_tl (w_tl (w_tl hx))))))))) (bind_eq (t34 (x.2.2.2.2.2.2.2.2.2.2.1, ()) (w_1 (w_tl (w_tl (w_tl (w_tl (w_tl (w_tl (w_tl (w_tl (w_tl (w_tl hx)))))))))))) (bind_eq (t27 (x.2.2.2.2.2.2.2.2.2.2.2.2.1, ()) (w_1 (w_tl (w_tl (w_tl (w_tl (w_tl (w_tl (w_tl (w_tl (w_tl (w_tl (w_tl (w_tl hx)))))))))))))) rfl))))
set_option maxHeartbeats 2000000 in
theorem t28 (x : (List (Tys.D e113) × Unit)) (hx : ((.cons (.sl e113) .nil) : Tys).w x ≤ 1048576) : F28 (x, ()) = some (x, ()) :=
  (toList (A := Tys.D e113) (B := Tys.D e137) (xs := x.1) (T := fun y => F92 (y, ())) (π := fun c => c.1) (φ := fun y => y) (bytes := 208) (by decide) (by decide) (w_len hx) (fun y hy => ⟨_, t92 y (w_el hx rfl hy), rfl⟩)).trans (congrArg (fun l => some ((l, ()), ())) (List.map_id' x.1))
set_option maxHeartbeats 2000000 in
theorem t94 (x : (Int × (Int × (ByteArray × Unit)))) (hx : ((.cons (.int .i64) (.cons (.int .i64) (.cons .str .nil))) : Tys).w x ≤ 1048576) : F94 (x, ()) = some (x, ()) :=
  rfl
set_option maxHeartbeats 2000000 in
theorem t31 (x : (List (Tys.D e117) × Unit)) (hx : ((.cons (.sl e117) .nil) : Tys).w x ≤ 1048576) : F31 (x, ()) = some (x, ()) :=
  (toList (A := Tys.D e117) (B := Tys.D e147) (xs := x.1) (T := fun y => F94 (y, ())) (π := fun c => c.1) (φ := fun y => y) (bytes := 32) (by decide) (by decide) (w_len hx) (fun y hy => ⟨_, t94 y (w_el hx rfl hy), rfl⟩)).trans (congrArg (fun l => some ((l, ()), ())) (List.map_id' x.1))
set_option maxHeartbeats 2000000 in
theorem t95 (x : (Int × (Int × (ByteArray × Unit)))) (hx : ((.cons (.int .i64) (.cons (.int .i64) (.cons .str .nil))) : Tys).w x ≤ 1048576) : F95 (x, ()) = some (x, ()) :=
  rfl
set_option maxHeartbeats 2000000 in
theorem t32 (x : (List (Tys.D e120) × Unit)) (hx : ((.cons (.sl e120) .nil) : Tys).w x ≤ 1048576) : F32 (x, ()) = some (x, ()) :=
  (toList (A := Tys.D e120) (B := Tys.D e149) (xs := x.1) (T := fun y => F95 (y, ())) (π := fun c => c.1) (φ := fun y => y) (bytes := 32) (by decide) (by decide) (w_len hx) (fun y hy => ⟨_, t95 y (w_el hx rfl hy), rfl⟩)).trans (congrArg (fun l => some ((l, ()), ())) (List.map_id' x.1))
set_option maxHeartbeats 2000000 in
theorem t96 (x : (Int × (List (Tys.D e113) × (Int × (Int × (List (Tys.D e9) × Unit)))))) (hx : ((.cons (.int .i64) (.cons (.sl e113) (.cons (.int .i64) (.cons (.int .i64) (.cons (.sl e9) .nil))))) : Tys).w x ≤ 1048576) : F96 (x, ()) = some (x, ()) :=
  (bind_eq (t28 (x.2.1, ()) (w_1 (w_tl hx))) (bind_eq (t29 (x.2.2.1, (x.2.2.2.1, (x.2.2.2.2.1, ()))) (w_3 (w_tl (w_tl hx)))) rfl))
set_option maxHeartbeats 2000000 in
theorem t35 (x : (List (Tys.D e123) × Unit)) (hx : ((.cons (.sl e123) .nil) : Tys).w x ≤ 1048576) : F35 (x, ()) = some (x, ()) :=
  (toList (A := Tys.D e123) (B := Tys.D e129) (xs := x.1) (T := fun y => F96 (y, ())) (π := fun c => c.1) (φ := fun y => y) (bytes := 72) (by decide) (by decide) (w_len hx) (fun y hy => ⟨_, t96 y (w_el hx rfl hy), rfl⟩)).trans (congrArg (fun l => some ((l, ()), ())) (List.map_id' x.1))
set_option maxHeartbeats 2000000 in
theorem t7 (x : (ByteArray × (Int × (Int × (List (Tys.D e173) × (List (Tys.D e110) × (List (Tys.D e113) × (Int × (Int × (Int × (Int × (List (Tys.D e9) × (Int × (List (Tys.D e9) × (List (Tys.D e3) × (Int × (List (Tys.D e117) × (List (Tys.D e120) × (List (Tys.D e3) × (List (Tys.D e40) × (List (Tys.D e123) × Unit))))))))))))))))))))) (hx : ((.cons .str (.cons (.int .i64) (.cons (.int .i64) (.cons (.sl e173) (.cons (.sl e110) (.cons (.sl e113) (.cons (.int .i64) (.cons (.int .i64) (.cons (.int .i64) (.cons (.int .i64) (.cons (.sl e9) (.cons (.int .i64) (.cons (.sl e9) (.cons (.sl e3) (.cons (.int .i64) (.cons (.sl e117) (.cons (.sl e120) (.cons (.sl e3) (.cons (.sl e40) (.cons (.sl e123) .nil)))))))))))))))))))) : Tys).w x ≤ 1048576) : F7 (x, ()) = some (x, ()) :=
  (bind_eq (t26 (x.2.2.1, (x.2.2.2.1, ())) (w_2 (w_tl (w_tl hx)))) (bind_eq (t27 (x.2.2.2.2.1, ()) (w_1 (w_tl (w_tl (w_tl (w_tl hx)))))) (bind_eq (t28 (x.2.2.2.2.2.1, ()) (w_1 (w_tl (w_tl (w_tl (w_tl (w_tl hx))))))) (bind_eq (t29 (x.2.2.2.2.2.2.2.2.1, (x.2.2.2.2.2.2.2.2.2.1, (x.2.2.2.2.2.2.2.2.2.2.1, ()))) (w_3 (w_tl (w_tl (w_tl (w_tl (w_tl (w_tl (w_tl (w_tl hx)))))))))) (bind_eq (t30 (x.2.2.2.2.2.2.2.2.2.2.2.1, (x.2.2.2.2.2.2.2.2.2.2.2.2.1, (x.2.2.2.2.2.2.2.2.2.2.2.2.2.1, ()))) (w_3 (w_tl (w_tl (w_tl (w_tl (w_tl (w_tl (w_tl (w_tl (w_tl (w_tl (w_tl hx))))))))))))) (bind_eq (t31 (x.2.2.2.2.2.2.2.2.2.2.2.2.2.2.2.1, ()) (w_1 (w_tl (w_tl (w_tl (w_tl (w_tl (w_tl (w_tl (w_tl (w_tl (w_tl (w_tl (w_tl (w_tl (w_tl (w_tl hx))))))))))))))))) (bind_eq (t32 (x.2.2.2.2.2.2.2.2.2.2.2.2.2.2.2.2.1, ()) (w_1 (w_tl (w_tl (w_tl (w_tl (w_tl (w_tl (w_tl (w_tl (w_tl (w_tl (w_tl (w_tl (w_tl (w_tl (w_tl (w_tl hx)))))))))))))))))) (bind_eq (t33 (x.2.2.2.2.2.2.2.2.2.2.2.2.2.2.2.2.2.1, ()) (w_1 (w_tl (w_tl (w_tl (w_tl (w_tl (w_tl (w_tl (w_tl (w_tl (w_tl (w_tl (w_tl (w_tl (w_tl (w_tl (w_tl (w_tl hx))))))))))))))))))) (bind_eq (t34 (x.2.2.2.2.2.2.2.2.2.2.2.2.2.2.2.2.2.2.1, ()) (w_1 (w_tl (w_tl (w_tl (w_tl (w_tl (w_tl (w_tl (w_tl (w_tl (w_tl (w_tl (w_tl (w_tl (w_tl (w_tl (w_tl (w_tl (w_tl hx)))))))))))))))))))) (bind_eq (t35 (x.2.2.2.2.2.2.2.2.2.2.2.2.2.2.2.2.2.2.2.1, ()) (w_1 (w_tl (w_tl (w_tl (w_tl (w_tl (w_tl (w_tl (w_tl (w_tl (w_tl (w_tl (w_tl (w_tl (w_tl (w_tl (w_tl (w_tl (w_tl (w_tl hx))))))))))))))))))))) rfl))))))))))
set_option maxHeartbeats 2000000 in
theorem s197 (x : (Int × (Int × Unit))) (hx : ((.cons (.int .i64) (.cons (.int .i64) .nil)) : Tys).Ok x) : F197 (x, (x, ())) = some (B1 true) :=
  (eq_int (eq_int rfl))
set_option maxHeartbeats 2000000 in
theorem s188 (x : (List (Tys.D e205) × Unit)) (hx : ((.cons (.sl e205) .nil) : Tys).Ok x) : F188 (x, (x, ())) = some (B1 true) :=
  eqList (xs := x.1) (E := fun y z v => (F197 (y, (z, ()))).bind fun r => bif (!r.1.1) then some (.inr (.inr (B1 false))) else some (.inl (iAdd .i64 v.1 1, ()))) hx.1.1 (fun y hy v => eq_call (s197 y (Ok_mem hx.1.2 hy)) rfl)
set_option maxHeartbeats 2000000 in
theorem s162 (x : (ByteArray × (Int × (Int × (Int × (List (Tys.D e205) × Unit)))))) (hx : ((.cons .str (.cons (.int .i64) (.cons (.int .i64) (.cons (.int .i64) (.cons (.sl e205) .nil))))) : Tys).Ok x) : F162 (x, (x, ())) = some (B1 true) :=
  (eq_str (eq_int (eq_int (eq_int (eq_call (s188 (x.2.2.2.2.1, ()) ⟨hx.2.2.2.2.1, trivial⟩) rfl)))))
set_option maxHeartbeats 2000000 in
theorem s119 (x : (List (Tys.D e183) × Unit)) (hx : ((.cons (.sl e183) .nil) : Tys).Ok x) : F119 (x, (x, ())) = some (B1 true) :=
  eqList (xs := x.1) (E := fun y z v => (F162 (y, (z, ()))).bind fun r => bif (!r.1.1) then some (.inr (.inr (B1 false))) else some (.inl (iAdd .i64 v.1 1, ()))) hx.1.1 (fun y hy v => eq_call (s162 y (Ok_mem hx.1.2 hy)) rfl)
set_option maxHeartbeats 2000000 in
theorem s39 (x : (Int × (List (Tys.D e183) × Unit))) (hx : ((.cons (.int .i64) (.cons (.sl e183) .nil)) : Tys).Ok x) : F39 (x, (x, ())) = some (B1 true) :=
  (eq_int (eq_call (s119 (x.2.1, ()) ⟨hx.2.1, trivial⟩) rfl))
set_option maxHeartbeats 2000000 in
theorem s120 (x : (ByteArray × (Int × Unit))) (hx : ((.cons .str (.cons (.int .i64) .nil)) : Tys).Ok x) : F120 (x, (x, ())) = some (B1 true) :=
  (eq_str (eq_int rfl))
set_option maxHeartbeats 2000000 in
theorem s40 (x : (List (Tys.D e143) × Unit)) (hx : ((.cons (.sl e143) .nil) : Tys).Ok x) : F40 (x, (x, ())) = some (B1 true) :=
  eqList (xs := x.1) (E := fun y z v => (F120 (y, (z, ()))).bind fun r => bif (!r.1.1) then some (.inr (.inr (B1 false))) else some (.inl (iAdd .i64 v.1 1, ()))) hx.1.1 (fun y hy v => eq_call (s120 y (Ok_mem hx.1.2 hy)) rfl)
set_option maxHeartbeats 2000000 in
theorem s122 (x : (List (Tys.D e9) × Unit)) (hx : ((.cons (.sl e9) .nil) : Tys).Ok x) : F122 (x, (x, ())) = some (B1 true) :=
  eqList (xs := x.1) (E := fun y z v => bif !sEq y.1 z.1 then some (.inr (.inr (B1 false))) else some (.inl (iAdd .i64 v.1 1, ()))) hx.1.1 (fun y hy v => eq_str rfl)
set_option maxHeartbeats 2000000 in
theorem s42 (x : (Int × (Int × (List (Tys.D e9) × Unit)))) (hx : ((.cons (.int .i64) (.cons (.int .i64) (.cons (.sl e9) .nil))) : Tys).Ok x) : F42 (x, (x, ())) = some (B1 true) :=
  (eq_int (eq_int (eq_call (s122 (x.2.2.1, ()) ⟨hx.2.2.1, trivial⟩) rfl)))
set_option maxHeartbeats 2000000 in
theorem s46 (x : (List (Tys.D e3) × Unit)) (hx : ((.cons (.sl e3) .nil) : Tys).Ok x) : F46 (x, (x, ())) = some (B1 true) :=
  eqList (xs := x.1) (E := fun y z v => bif !iEq y.1 z.1 then some (.inr (.inr (B1 false))) else some (.inl (iAdd .i64 v.1 1, ()))) hx.1.1 (fun y hy v => eq_int rfl)
set_option maxHeartbeats 2000000 in
theorem s43 (x : (Int × (List (Tys.D e9) × (List (Tys.D e3) × Unit)))) (hx : ((.cons (.int .i64) (.cons (.sl e9) (.cons (.sl e3) .nil))) : Tys).Ok x) : F43 (x, (x, ())) = some (B1 true) :=
  (eq_int (eq_call (s122 (x.2.1, ()) ⟨hx.2.1, trivial⟩) (eq_call (s46 (x.2.2.1, ()) ⟨hx.2.2.1, trivial⟩) rfl)))
set_option maxHeartbeats 2000000 in
theorem s125 (x : (Int × (ByteArray × (ByteArray × (Int × (Int × Unit)))))) (hx : ((.cons (.int .i64) (.cons .str (.cons .str (.cons (.int .i64) (.cons (.int .i64) .nil))))) : Tys).Ok x) : F125 (x, (x, ())) = some (B1 true) :=
  (eq_int (eq_str (eq_str (eq_int (eq_int rfl)))))
set_option maxHeartbeats 2000000 in
theorem s47 (x : (List (Tys.D e59) × Unit)) (hx : ((.cons (.sl e59) .nil) : Tys).Ok x) : F47 (x, (x, ())) = some (B1 true) :=
  eqList (xs := x.1) (E := fun y z v => (F125 (y, (z, ()))).bind fun r => bif (!r.1.1) then some (.inr (.inr (B1 false))) else some (.inl (iAdd .i64 v.1 1, ()))) hx.1.1 (fun y hy v => eq_call (s125 y (Ok_mem hx.1.2 hy)) rfl)
set_option maxHeartbeats 2000000 in
theorem s121 (x : (Int × (Int × (Int × (ByteArray × (Int × (Int × (List (Tys.D e9) × (Int × (List (Tys.D e9) × (List (Tys.D e3) × (List (Tys.D e59) × (Bool × (List (Tys.D e143) × (ByteArray × Unit))))))))))))))) (hx : ((.cons (.int .i64) (.cons (.int .i64) (.cons (.int .i64) (.cons .str (.cons (.int .i64) (.cons (.int .i64) (.cons (.sl e9) (.cons (.int .i64) (.cons (.sl e9) (.cons (.sl e3) (.cons (.sl e59) (.cons .bool (.cons (.sl e143) (.cons .str .nil)))))))))))))) : Tys).Ok x) : F121 (x, (x, ())) = some (B1 true) :=
  (eq_int (eq_int (eq_int (eq_str (eq_call (s42 (x.2.2.2.2.1, (x.2.2.2.2.2.1, (x.2.2.2.2.2.2.1, ()))) ⟨hx.2.2.2.2.1, ⟨hx.2.2.2.2.2.1, ⟨hx.2.2.2.2.2.2.1, trivial⟩⟩⟩) (eq_call (s43 (x.2.2.2.2.2.2.2.1, (x.2.2.2.2.2.2.2.2.1, (x.2.2.2.2.2.2.2.2.2.1, ()))) ⟨hx.2.2.2.2.2.2.2.1, ⟨hx.2.2.2.2.2.2.2.2.1, ⟨hx.2.2.2.2.2.2.2.2.2.1, trivial⟩⟩⟩) (eq_call (s47 (x.2.2.2.2.2.2.2.2.2.2.1, ()) ⟨hx.2.2.2.2.2.2.2.2.2.2.1, trivial⟩) (eq_bool (eq_call (s40 (x.2.2.2.2.2.2.2.2.2.2.2.2.1, ()) ⟨hx.2.2.2.2.2.2.2.2.2.2.2.2.1, trivial⟩) (eq_str rfl))))))))))
set_option maxHeartbeats 2000000 in
theorem s41 (x : (List (Tys.D e137) × Unit)) (hx : ((.cons (.sl e137) .nil) : Tys).Ok x) : F41 (x, (x, ())) = some (B1 true) :=
  eqList (xs := x.1) (E := fun y z v => (F121 (y, (z, ()))).bind fun r => bif (!r.1.1) then some (.inr (.inr (B1 false))) else some (.inl (iAdd .i64 v.1 1, ()))) hx.1.1 (fun y hy v => eq_call (s121 y (Ok_mem hx.1.2 hy)) rfl)
set_option maxHeartbeats 2000000 in
theorem s123 (x : (Int × (Int × (ByteArray × Unit)))) (hx : ((.cons (.int .i64) (.cons (.int .i64) (.cons .str .nil))) : Tys).Ok x) : F123 (x, (x, ())) = some (B1 true) :=
  (eq_int (eq_int (eq_str rfl)))
set_option maxHeartbeats 2000000 in
theorem s44 (x : (List (Tys.D e147) × Unit)) (hx : ((.cons (.sl e147) .nil) : Tys).Ok x) : F44 (x, (x, ())) = some (B1 true) :=
  eqList (xs := x.1) (E := fun y z v => (F123 (y, (z, ()))).bind fun r => bif (!r.1.1) then some (.inr (.inr (B1 false))) else some (.inl (iAdd .i64 v.1 1, ()))) hx.1.1 (fun y hy v => eq_call (s123 y (Ok_mem hx.1.2 hy)) rfl)
set_option maxHeartbeats 2000000 in
theorem s124 (x : (Int × (Int × (ByteArray × Unit)))) (hx : ((.cons (.int .i64) (.cons (.int .i64) (.cons .str .nil))) : Tys).Ok x) : F124 (x, (x, ())) = some (B1 true) :=
  (eq_int (eq_int (eq_str rfl)))
set_option maxHeartbeats 2000000 in
theorem s45 (x : (List (Tys.D e149) × Unit)) (hx : ((.cons (.sl e149) .nil) : Tys).Ok x) : F45 (x, (x, ())) = some (B1 true) :=
  eqList (xs := x.1) (E := fun y z v => (F124 (y, (z, ()))).bind fun r => bif (!r.1.1) then some (.inr (.inr (B1 false))) else some (.inl (iAdd .i64 v.1 1, ()))) hx.1.1 (fun y hy v => eq_call (s124 y (Ok_mem hx.1.2 hy)) rfl)
set_option maxHeartbeats 2000000 in
theorem s126 (x : (Int × (List (Tys.D e137) × (Int × (Int × (List (Tys.D e9) × Unit)))))) (hx : ((.cons (.int .i64) (.cons (.sl e137) (.cons (.int .i64) (.cons (.int .i64) (.cons (.sl e9) .nil))))) : Tys).Ok x) : F126 (x, (x, ())) = some (B1 true) :=
  (eq_int (eq_call (s41 (x.2.1, ()) ⟨hx.2.1, trivial⟩) (eq_call (s42 (x.2.2.1, (x.2.2.2.1, (x.2.2.2.2.1, ()))) ⟨hx.2.2.1, ⟨hx.2.2.2.1, ⟨hx.2.2.2.2.1, trivial⟩⟩⟩) rfl)))
set_option maxHeartbeats 2000000 in
theorem s48 (x : (List (Tys.D e129) × Unit)) (hx : ((.cons (.sl e129) .nil) : Tys).Ok x) : F48 (x, (x, ())) = some (B1 true) :=
  eqList (xs := x.1) (E := fun y z v => (F126 (y, (z, ()))).bind fun r => bif (!r.1.1) then some (.inr (.inr (B1 false))) else some (.inl (iAdd .i64 v.1 1, ()))) hx.1.1 (fun y hy v => eq_call (s126 y (Ok_mem hx.1.2 hy)) rfl)
set_option maxHeartbeats 2000000 in
theorem s10 (x : (ByteArray × (Int × (Int × (List (Tys.D e183) × (List (Tys.D e143) × (List (Tys.D e137) × (Int × (Int × (Int × (Int × (List (Tys.D e9) × (Int × (List (Tys.D e9) × (List (Tys.D e3) × (Int × (List (Tys.D e147) × (List (Tys.D e149) × (List (Tys.D e3) × (List (Tys.D e59) × (List (Tys.D e129) × Unit))))))))))))))))))))) (hx : ((.cons .str (.cons (.int .i64) (.cons (.int .i64) (.cons (.sl e183) (.cons (.sl e143) (.cons (.sl e137) (.cons (.int .i64) (.cons (.int .i64) (.cons (.int .i64) (.cons (.int .i64) (.cons (.sl e9) (.cons (.int .i64) (.cons (.sl e9) (.cons (.sl e3) (.cons (.int .i64) (.cons (.sl e147) (.cons (.sl e149) (.cons (.sl e3) (.cons (.sl e59) (.cons (.sl e129) .nil)))))))))))))))))))) : Tys).Ok x) : F10 (x, (x, ())) = some (B1 true) :=
  (eq_str (eq_int (eq_call (s39 (x.2.2.1, (x.2.2.2.1, ())) ⟨hx.2.2.1, ⟨hx.2.2.2.1, trivial⟩⟩) (eq_call (s40 (x.2.2.2.2.1, ()) ⟨hx.2.2.2.2.1, trivial⟩) (eq_call (s41 (x.2.2.2.2.2.1, ()) ⟨hx.2.2.2.2.2.1, trivial⟩) (eq_int (eq_int (eq_call (s42 (x.2.2.2.2.2.2.2.2.1, (x.2.2.2.2.2.2.2.2.2.1, (x.2.2.2.2.2.2.2.2.2.2.1, ()))) ⟨hx.2.2.2.2.2.2.2.2.1, ⟨hx.2.2.2.2.2.2.2.2.2.1, ⟨hx.2.2.2.2.2.2.2.2.2.2.1, trivial⟩⟩⟩) (eq_call (s43 (x.2.2.2.2.2.2.2.2.2.2.2.1, (x.2.2.2.2.2.2.2.2.2.2.2.2.1, (x.2.2.2.2.2.2.2.2.2.2.2.2.2.1, ()))) ⟨hx.2.2.2.2.2.2.2.2.2.2.2.1, ⟨hx.2.2.2.2.2.2.2.2.2.2.2.2.1, ⟨hx.2.2.2.2.2.2.2.2.2.2.2.2.2.1, trivial⟩⟩⟩) (eq_int (eq_call (s44 (x.2.2.2.2.2.2.2.2.2.2.2.2.2.2.2.1, ()) ⟨hx.2.2.2.2.2.2.2.2.2.2.2.2.2.2.2.1, trivial⟩) (eq_call (s45 (x.2.2.2.2.2.2.2.2.2.2.2.2.2.2.2.2.1, ()) ⟨hx.2.2.2.2.2.2.2.2.2.2.2.2.2.2.2.2.1, trivial⟩) (eq_call (s46 (x.2.2.2.2.2.2.2.2.2.2.2.2.2.2.2.2.2.1, ()) ⟨hx.2.2.2.2.2.2.2.2.2.2.2.2.2.2.2.2.2.1, trivial⟩) (eq_call (s47 (x.2.2.2.2.2.2.2.2.2.2.2.2.2.2.2.2.2.2.1, ()) ⟨hx.2.2.2.2.2.2.2.2.2.2.2.2.2.2.2.2.2.2.1, trivial⟩) (eq_call (s48 (x.2.2.2.2.2.2.2.2.2.2.2.2.2.2.2.2.2.2.2.1, ()) ⟨hx.2.2.2.2.2.2.2.2.2.2.2.2.2.2.2.2.2.2.2.1, trivial⟩) rfl)))))))))))))))
end Go.Proofs.YtmfeejonafjehaaGreat
