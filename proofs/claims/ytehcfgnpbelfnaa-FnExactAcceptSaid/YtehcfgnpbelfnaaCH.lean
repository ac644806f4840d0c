/- The laws' helpers: how much there is, copies, comparisons with itself. Conditions: none. -/

import Derived.Test.YtehcfgnpbelfnaaTm4
import Derived.Test.YtehcfgnpbelfnaaCF
namespace Go.Proofs.Ytehcfgnpbelfnaa
open Go Go.Tm
set_option linter.unusedVariables false
set_option maxRecDepth 100000
set_option maxHeartbeats 2000000 in
theorem w88 (x : (ByteArray × (Int × Unit))) (hx : ((.cons .str (.cons (.int .i64) .nil)) : Tys).Ok x) : Sz (((.cons .str (.cons (.int .i64) .nil)) : Tys).w x) (fun l => F88 (x, ((l, ()), ()))) :=
  (Sz.str (a := ByteArray.size x.1) hx.1 (Sz.int Sz.nil))
set_option maxHeartbeats 2000000 in
theorem w45 (x : (List (Tys.D e145) × Unit)) (hx : ((.cons (.sl e145) .nil) : Tys).Ok x) : Sz (((.cons (.sl e145) .nil) : Tys).w x) (fun l => F45 (x, ((l, ()), ()))) :=
  (Sz.list (xs := x.1) (T := fun y l => F88 (y, ((l, ()), ()))) (π := fun c => c.1.1) (wt := fun y => e145.w y) hx.1.1 (fun y hy => szR_T (x := y) (w88 y (Ok_mem hx.1.2 hy))))
set_option maxHeartbeats 2000000 in
theorem w17 (x : (Int × (List (Tys.D e145) × Unit))) (hx : ((.cons (.int .i64) (.cons (.sl e145) .nil)) : Tys).Ok x) : Sz (((.cons (.int .i64) (.cons (.sl e145) .nil)) : Tys).w x) (fun l => F17 (x, ((l, ()), ()))) :=
  (Sz.int (Sz.call1 (w45 (x.2.1, ()) ⟨hx.2.1, trivial⟩) Sz.nil))
set_option maxHeartbeats 2000000 in
theorem w66 (x : (List (Tys.D e9) × Unit)) (hx : ((.cons (.sl e9) .nil) : Tys).Ok x) : Sz (((.cons (.sl e9) .nil) : Tys).w x) (fun l => F66 (x, ((l, ()), ()))) :=
  (Sz.list (xs := x.1) (T := fun y l => some (iSub .i64 l (ByteArray.size y.1 : Int))) (π := fun c => c) (wt := fun y => ByteArray.size y.1) hx.1.1 (fun y hy => szR_S (Ok_mem hx.1.2 hy).1)).to rfl
set_option maxHeartbeats 2000000 in
theorem w47 (x : (Int × (Int × (List (Tys.D e9) × Unit)))) (hx : ((.cons (.int .i64) (.cons (.int .i64) (.cons (.sl e9) .nil))) : Tys).Ok x) : Sz (((.cons (.int .i64) (.cons (.int .i64) (.cons (.sl e9) .nil))) : Tys).w x) (fun l => F47 (x, ((l, ()), ()))) :=
  (Sz.int (Sz.int (Sz.call1 (w66 (x.2.2.1, ()) ⟨hx.2.2.1, trivial⟩) Sz.nil)))
set_option maxHeartbeats 2000000 in
theorem w144 (x : (List (Tys.D e3) × Unit)) (hx : ((.cons (.sl e3) .nil) : Tys).Ok x) : Sz (((.cons (.sl e3) .nil) : Tys).w x) (fun l => F144 (x, ((l, ()), ()))) :=
  (Sz.str (a := List.length x.1) hx.1.1 Sz.nil).to (congrArg (fun z => List.length x.1 + z + 0) (sumW_zero (f := fun y => Tys.w e3 y) (fun _ => rfl) x.1)).symm
set_option maxHeartbeats 2000000 in
theorem w123 (x : (Int × (List (Tys.D e9) × (List (Tys.D e3) × Unit)))) (hx : ((.cons (.int .i64) (.cons (.sl e9) (.cons (.sl e3) .nil))) : Tys).Ok x) : Sz (((.cons (.int .i64) (.cons (.sl e9) (.cons (.sl e3) .nil))) : Tys).w x) (fun l => F123 (x, ((l, ()), ()))) :=
  (Sz.int (Sz.call1 (w66 (x.2.1, ()) ⟨hx.2.1, trivial⟩) (Sz.call1 (w144 (x.2.2.1, ()) ⟨hx.2.2.1, trivial⟩) Sz.nil)))
set_option maxHeartbeats 2000000 in
theorem w164 (x : (Int × (ByteArray × (ByteArray × (Int × (Int × Unit)))))) (hx : ((.cons (.int .i64) (.cons .str (.cons .str (.cons (.int .i64) (.cons (.int .i64) .nil))))) : Tys).Ok x) : Sz (((.cons (.int .i64) (.cons .str (.cons .str (.cons (.int .i64) (.cons (.int .i64) .nil))))) : Tys).w x) (fun l => F164 (x, ((l, ()), ()))) :=
  (Sz.int (Sz.str (a := ByteArray.size x.2.1) hx.2.1 (Sz.str (a := ByteArray.size x.2.2.1) hx.2.2.1 (Sz.int (Sz.int Sz.nil)))))
set_option maxHeartbeats 2000000 in
theorem w124 (x : (List (Tys.D e232) × Unit)) (hx : ((.cons (.sl e232) .nil) : Tys).Ok x) : Sz (((.cons (.sl e232) .nil) : Tys).w x) (fun l => F124 (x, ((l, ()), ()))) :=
  (Sz.list (xs := x.1) (T := fun y l => F164 (y, ((l, ()), ()))) (π := fun c => c.1.1) (wt := fun y => e232.w y) hx.1.1 (fun y hy => szR_T (x := y) (w164 y (Ok_mem hx.1.2 hy))))
set_option maxHeartbeats 2000000 in
theorem w89 (x : (Int × (Int × (Int × (ByteArray × (Int × (Int × (List (Tys.D e9) × (Int × (List (Tys.D e9) × (List (Tys.D e3) × (List (Tys.D e232) × (Bool × (List (Tys.D e145) × (ByteArray × Unit))))))))))))))) (hx : ((.cons (.int .i64) (.cons (.int .i64) (.cons (.int .i64) (.cons .str (.cons (.int .i64) (.cons (.int .i64) (.cons (.sl e9) (.cons (.int .i64) (.cons (.sl e9) (.cons (.sl e3) (.cons (.sl e232) (.cons .bool (.cons (.sl e145) (.cons .str .nil)))))))))))))) : Tys).Ok x) : Sz (((.cons (.int .i64) (.cons (.int .i64) (.cons (.int .i64) (.cons .str (.cons (.int .i64) (.cons (.int .i64) (.cons (.sl e9) (.cons (.int .i64) (.cons (.sl e9) (.cons (.sl e3) (.cons (.sl e232) (.cons .bool (.cons (.sl e145) (.cons .str .nil)))))))))))))) : Tys).w x) (fun l => F89 (x, ((l, ()), ()))) :=
  (Sz.int (Sz.int (Sz.int (Sz.str (a := ByteArray.size x.2.2.2.1) hx.2.2.2.1 (Sz.call3 (w47 (x.2.2.2.2.1, (x.2.2.2.2.2.1, (x.2.2.2.2.2.2.1, ()))) ⟨hx.2.2.2.2.1, ⟨hx.2.2.2.2.2.1, ⟨hx.2.2.2.2.2.2.1, trivial⟩⟩⟩) (Sz.call3 (w123 (x.2.2.2.2.2.2.2.1, (x.2.2.2.2.2.2.2.2.1, (x.2.2.2.2.2.2.2.2.2.1, ()))) ⟨hx.2.2.2.2.2.2.2.1, ⟨hx.2.2.2.2.2.2.2.2.1, ⟨hx.2.2.2.2.2.2.2.2.2.1, trivial⟩⟩⟩) (Sz.call1 (w124 (x.2.2.2.2.2.2.2.2.2.2.1, ()) ⟨hx.2.2.2.2.2.2.2.2.2.2.1, trivial⟩) (Sz.int (Sz.call1 (w45 (x.2.2.2.2.2.2.2.2.2.2.2.2.1, ()) ⟨hx.2.2.2.2.2.2.2.2.2.2.2.2.1, trivial⟩) (Sz.str (a := ByteArray.size x.2.2.2.2.2.2.2.2.2.2.2.2.2.1) hx.2.2.2.2.2.2.2.2.2.2.2.2.2.1 Sz.nil))))))))))
set_option maxHeartbeats 2000000 in
theorem w46 (x : (List (Tys.D e150) × Unit)) (hx : ((.cons (.sl e150) .nil) : Tys).Ok x) : Sz (((.cons (.sl e150) .nil) : Tys).w x) (fun l => F46 (x, ((l, ()), ()))) :=
  (Sz.list (xs := x.1) (T := fun y l => F89 (y, ((l, ()), ()))) (π := fun c => c.1.1) (wt := fun y => e150.w y) hx.1.1 (fun y hy => szR_T (x := y) (w89 y (Ok_mem hx.1.2 hy))))
set_option maxHeartbeats 2000000 in
theorem w18 (x : (Int × (List (Tys.D e150) × (Int × (Int × (List (Tys.D e9) × Unit)))))) (hx : ((.cons (.int .i64) (.cons (.sl e150) (.cons (.int .i64) (.cons (.int .i64) (.cons (.sl e9) .nil))))) : Tys).Ok x) : Sz (((.cons (.int .i64) (.cons (.sl e150) (.cons (.int .i64) (.cons (.int .i64) (.cons (.sl e9) .nil))))) : Tys).w x) (fun l => F18 (x, ((l, ()), ()))) :=
  (Sz.int (Sz.call1 (w46 (x.2.1, ()) ⟨hx.2.1, trivial⟩) (Sz.call3 (w47 (x.2.2.1, (x.2.2.2.1, (x.2.2.2.2.1, ()))) ⟨hx.2.2.1, ⟨hx.2.2.2.1, ⟨hx.2.2.2.2.1, trivial⟩⟩⟩) Sz.nil)))
set_option maxHeartbeats 2000000 in
theorem t95 (x : (ByteArray × (Int × Unit))) (hx : ((.cons .str (.cons (.int .i64) .nil)) : Tys).w x ≤ 1048576) : F95 (x, ()) = some (x, ()) :=
  rfl
set_option maxHeartbeats 2000000 in
theorem t52 (x : (List (Tys.D e145) × Unit)) (hx : ((.cons (.sl e145) .nil) : Tys).w x ≤ 1048576) : F52 (x, ()) = some (x, ()) :=
  (toList (A := Tys.D e145) (B := Tys.D e106) (xs := x.1) (T := fun y => F95 (y, ())) (π := fun c => c.1) (φ := fun y => y) (bytes := 24) (by decide) (by decide) (w_len hx) (fun y hy => ⟨_, t95 y (w_el hx rfl hy), rfl⟩)).trans (congrArg (fun l => some ((l, ()), ())) (List.map_id' x.1))
set_option maxHeartbeats 2000000 in
theorem t20 (x : (Int × (List (Tys.D e145) × Unit))) (hx : ((.cons (.int .i64) (.cons (.sl e145) .nil)) : Tys).w x ≤ 1048576) : F20 (x, ()) = some (x, ()) :=
  (bind_eq (t52 (x.2.1, ()) (w_1 (w_tl hx))) rfl)
set_option maxHeartbeats 2000000 in
theorem t70 (x : (List (Tys.D e9) × Unit)) (hx : ((.cons (.sl e9) .nil) : Tys).w x ≤ 1048576) : F70 (x, ()) = some (x, ()) :=
  (toList (A := Tys.D e9) (B := Tys.D e9) (xs := x.1) (T := fun y => some y) (π := fun c => c) (φ := fun y => y) (bytes := 16) (by decide) (by decide) (w_len hx) (fun y hy => ⟨_, rfl, rfl⟩)).trans (congrArg (fun l => some ((l, ()), ())) (List.map_id' x.1))
set_option maxHeartbeats 2000000 in
theorem t54 (x : (Int × (Int × (List (Tys.D e9) × Unit)))) (hx : ((.cons (.int .i64) (.cons (.int .i64) (.cons (.sl e9) .nil))) : Tys).w x ≤ 1048576) : F54 (x, ()) = some (x, ()) :=
  (bind_eq (t70 (x.2.2.1, ()) (w_1 (w_tl (w_tl hx)))) rfl)
set_option maxHeartbeats 2000000 in
theorem t150 (x : (List (Tys.D e3) × Unit)) (hx : ((.cons (.sl e3) .nil) : Tys).w x ≤ 1048576) : F150 (x, ()) = some (x, ()) :=
  (toList (A := Tys.D e3) (B := Tys.D e3) (xs := x.1) (T := fun y => some y) (π := fun c => c) (φ := fun y => y) (bytes := 8) (by decide) (by decide) (w_len hx) (fun y hy => ⟨_, rfl, rfl⟩)).trans (congrArg (fun l => some ((l, ()), ())) (List.map_id' x.1))
set_option maxHeartbeats 2000000 in
theorem t132 (x : (Int × (List (Tys.D e9) × (List (Tys.D e3) × Unit)))) (hx : ((.cons (.int .i64) (.cons (.sl e9) (.cons (.sl e3) .nil))) : Tys).w x ≤ 1048576) : F132 (x, ()) = some (x, ()) :=
  (bind_eq (t70 (x.2.1, ()) (w_1 (w_tl hx))) (bind_eq (t150 (x.2.2.1, ()) (w_1 (w_tl (w_tl hx)))) rfl))
set_option maxHeartbeats 2000000 in
theorem t167 (x : (Int × (ByteArray × (ByteArray × (Int × (Int × Unit)))))) (hx : ((.cons (.int .i64) (.cons .str (.cons .str (.cons (.int .i64) (.cons (.int .i64) .nil))))) : Tys).w x ≤ 1048576) : F167 (x, ()) = some (x, ()) :=
  rfl
set_option maxHeartbeats 2000000 in
theorem t133 (x : (List (Tys.D e232) × Unit)) (hx : ((.cons (.sl e232) .nil) : Tys).w x ≤ 1048576) : F133 (x, ()) = some (x, ()) :=
  (toList (A := Tys.D e232) (B := Tys.D e198) (xs := x.1) (T := fun y => F167 (y, ())) (π := fun c => c.1) (φ := fun y => y) (bytes := 56) (by decide) (by decide) (w_len hx) (fun y hy => ⟨_, t167 y (w_el hx rfl hy), rfl⟩)).trans (congrArg (fun l => some ((l, ()), ())) (List.map_id' x.1))
set_option maxHeartbeats 2000000 in
theorem t96 (x : (Int × (Int × (Int × (ByteArray × (Int × (Int × (List (Tys.D e9) × (Int × (List (Tys.D e9) × (List (Tys.D e3) × (List (Tys.D e232) × (Bool × (List (Tys.D e145) × (ByteArray × Unit))))))))))))))) (hx : ((.cons (.int .i64) (.cons (.int .i64) (.cons (.int .i64) (.cons .str (.cons (.int .i64) (.cons (.int .i64) (.cons (.sl e9) (.cons (.int .i64) (.cons (.sl e9) (.cons (.sl e3) (.cons (.sl e232) (.cons .bool (.cons (.sl e145) (.cons .str .nil)))))))))))))) : Tys).w x ≤ 1048576) : F96 (x, ()) = some (x, ()) :=
  (bind_eq (t54 (x.2.2.2.2.1, (x.2.2.2.2.2.1, (x.2.2.2.2.2.2.1, ()))) (w_3 (w_tl (w_tl (w_tl (w_tl hx)))))) (bind_eq (t132 (x.2.2.2.2.2.2.2.1, (x.2.2.2.2.2.2.2.2.1, (x.2.2.2.2.2.2.2.2.2.1, ()))) (w_3 (w_tl (w_tl (w_tl (w_tl (w_tl (w_tl (w_tl hx))))))))) (bind_eq (t133 (x.2.2.2.2.2.2.2.2.2.2.1, ()) (w_1 (w_tl (w_tl (w_tl (w_tl (w_tl (w_tl (w_tl (w_tl (w_tl (w_tl hx)))))))))))) (bind_eq (t52 (x.2.2.2.2.2.2.2.2.2.2.2.2.1, ()) (w_1 (w_tl (w_tl (w_tl (w_tl (w_tl (w_tl (w_tl (w_tl (w_tl (w_tl (w_tl (w_tl hx)))))))))))))) rfl))))
set_option maxHeartbeats 2000000 in
theorem t53 (x : (List (Tys.D e150) × Unit)) (hx : ((.cons (.sl e150) .nil) : Tys).w x ≤ 1048576) : F53 (x, ()) = some (x, ()) :=
  (toList (A := Tys.D e150) (B := Tys.D e96) (xs := x.1) (T := fun y => F96 (y, ())) (π := fun c => c.1) (φ := fun y => y) (bytes := 208) (by decide) (by decide) (w_len hx) (fun y hy => ⟨_, t96 y (w_el hx rfl hy), rfl⟩)).trans (congrArg (fun l => some ((l, ()), ())) (List.map_id' x.1))
set_option maxHeartbeats 2000000 in
theorem t21 (x : (Int × (List (Tys.D e150) × (Int × (Int × (List (Tys.D e9) × Unit)))))) (hx : ((.cons (.int .i64) (.cons (.sl e150) (.cons (.int .i64) (.cons (.int .i64) (.cons (.sl e9) .nil))))) : Tys).w x ≤ 1048576) : F21 (x, ()) = some (x, ()) :=
  (bind_eq (t53 (x.2.1, ()) (w_1 (w_tl hx))) (bind_eq (t54 (x.2.2.1, (x.2.2.2.1, (x.2.2.2.2.1, ()))) (w_3 (w_tl (w_tl hx)))) rfl))
set_option maxHeartbeats 2000000 in
theorem s84 (x : (ByteArray × (Int × Unit))) (hx : ((.cons .str (.cons (.int .i64) .nil)) : Tys).Ok x) : F84 (x, (x, ())) = some (B1 true) :=
  (eq_str (eq_int rfl))
set_option maxHeartbeats 2000000 in
theorem s40 (x : (List (Tys.D e106) × Unit)) (hx : ((.cons (.sl e106) .nil) : Tys).Ok x) : F40 (x, (x, ())) = some (B1 true) :=
  eqList (xs := x.1) (E := fun y z v => (F84 (y, (z, ()))).bind fun r => bif (!r.1.1) then some (.inr (.inr (B1 false))) else some (.inl (iAdd .i64 v.1 1, ()))) hx.1.1 (fun y hy v => eq_call (s84 y (Ok_mem hx.1.2 hy)) rfl)
set_option maxHeartbeats 2000000 in
theorem s12 (x : (Int × (List (Tys.D e106) × Unit))) (hx : ((.cons (.int .i64) (.cons (.sl e106) .nil)) : Tys).Ok x) : F12 (x, (x, ())) = some (B1 true) :=
  (eq_int (eq_call (s40 (x.2.1, ()) ⟨hx.2.1, trivial⟩) rfl))
set_option maxHeartbeats 2000000 in
theorem s74 (x : (List (Tys.D e9) × Unit)) (hx : ((.cons (.sl e9) .nil) : Tys).Ok x) : F74 (x, (x, ())) = some (B1 true) :=
  eqList (xs := x.1) (E := fun y z v => bif !sEq y.1 z.1 then some (.inr (.inr (B1 false))) else some (.inl (iAdd .i64 v.1 1, ()))) hx.1.1 (fun y hy v => eq_str rfl)
set_option maxHeartbeats 2000000 in
theorem s63 (x : (Int × (Int × (List (Tys.D e9) × Unit)))) (hx : ((.cons (.int .i64) (.cons (.int .i64) (.cons (.sl e9) .nil))) : Tys).Ok x) : F63 (x, (x, ())) = some (B1 true) :=
  (eq_int (eq_int (eq_call (s74 (x.2.2.1, ()) ⟨hx.2.2.1, trivial⟩) rfl)))
set_option maxHeartbeats 2000000 in
theorem s156 (x : (List (Tys.D e3) × Unit)) (hx : ((.cons (.sl e3) .nil) : Tys).Ok x) : F156 (x, (x, ())) = some (B1 true) :=
  eqList (xs := x.1) (E := fun y z v => bif !iEq y.1 z.1 then some (.inr (.inr (B1 false))) else some (.inl (iAdd .i64 v.1 1, ()))) hx.1.1 (fun y hy v => eq_int rfl)
set_option maxHeartbeats 2000000 in
theorem s140 (x : (Int × (List (Tys.D e9) × (List (Tys.D e3) × Unit)))) (hx : ((.cons (.int .i64) (.cons (.sl e9) (.cons (.sl e3) .nil))) : Tys).Ok x) : F140 (x, (x, ())) = some (B1 true) :=
  (eq_int (eq_call (s74 (x.2.1, ()) ⟨hx.2.1, trivial⟩) (eq_call (s156 (x.2.2.1, ()) ⟨hx.2.2.1, trivial⟩) rfl)))
set_option maxHeartbeats 2000000 in
theorem s173 (x : (Int × (ByteArray × (ByteArray × (Int × (Int × Unit)))))) (hx : ((.cons (.int .i64) (.cons .str (.cons .str (.cons (.int .i64) (.cons (.int .i64) .nil))))) : Tys).Ok x) : F173 (x, (x, ())) = some (B1 true) :=
  (eq_int (eq_str (eq_str (eq_int (eq_int rfl)))))
set_option maxHeartbeats 2000000 in
theorem s141 (x : (List (Tys.D e198) × Unit)) (hx : ((.cons (.sl e198) .nil) : Tys).Ok x) : F141 (x, (x, ())) = some (B1 true) :=
  eqList (xs := x.1) (E := fun y z v => (F173 (y, (z, ()))).bind fun r => bif (!r.1.1) then some (.inr (.inr (B1 false))) else some (.inl (iAdd .i64 v.1 1, ()))) hx.1.1 (fun y hy v => eq_call (s173 y (Ok_mem hx.1.2 hy)) rfl)
set_option maxHeartbeats 2000000 in
theorem s103 (x : (Int × (Int × (Int × (ByteArray × (Int × (Int × (List (Tys.D e9) × (Int × (List (Tys.D e9) × (List (Tys.D e3) × (List (Tys.D e198) × (Bool × (List (Tys.D e106) × (ByteArray × Unit))))))))))))))) (hx : ((.cons (.int .i64) (.cons (.int .i64) (.cons (.int .i64) (.cons .str (.cons (.int .i64) (.cons (.int .i64) (.cons (.sl e9) (.cons (.int .i64) (.cons (.sl e9) (.cons (.sl e3) (.cons (.sl e198) (.cons .bool (.cons (.sl e106) (.cons .str .nil)))))))))))))) : Tys).Ok x) : F103 (x, (x, ())) = some (B1 true) :=
  (eq_int (eq_int (eq_int (eq_str (eq_call (s63 (x.2.2.2.2.1, (x.2.2.2.2.2.1, (x.2.2.2.2.2.2.1, ()))) ⟨hx.2.2.2.2.1, ⟨hx.2.2.2.2.2.1, ⟨hx.2.2.2.2.2.2.1, trivial⟩⟩⟩) (eq_call (s140 (x.2.2.2.2.2.2.2.1, (x.2.2.2.2.2.2.2.2.1, (x.2.2.2.2.2.2.2.2.2.1, ()))) ⟨hx.2.2.2.2.2.2.2.1, ⟨hx.2.2.2.2.2.2.2.2.1, ⟨hx.2.2.2.2.2.2.2.2.2.1, trivial⟩⟩⟩) (eq_call (s141 (x.2.2.2.2.2.2.2.2.2.2.1, ()) ⟨hx.2.2.2.2.2.2.2.2.2.2.1, trivial⟩) (eq_bool (eq_call (s40 (x.2.2.2.2.2.2.2.2.2.2.2.2.1, ()) ⟨hx.2.2.2.2.2.2.2.2.2.2.2.2.1, trivial⟩) (eq_str rfl))))))))))
set_option maxHeartbeats 2000000 in
theorem s62 (x : (List (Tys.D e96) × Unit)) (hx : ((.cons (.sl e96) .nil) : Tys).Ok x) : F62 (x, (x, ())) = some (B1 true) :=
  eqList (xs := x.1) (E := fun y z v => (F103 (y, (z, ()))).bind fun r => bif (!r.1.1) then some (.inr (.inr (B1 false))) else some (.inl (iAdd .i64 v.1 1, ()))) hx.1.1 (fun y hy v => eq_call (s103 y (Ok_mem hx.1.2 hy)) rfl)
set_option maxHeartbeats 2000000 in
theorem s23 (x : (Int × (List (Tys.D e96) × (Int × (Int × (List (Tys.D e9) × Unit)))))) (hx : ((.cons (.int .i64) (.cons (.sl e96) (.cons (.int .i64) (.cons (.int .i64) (.cons (.sl e9) .nil))))) : Tys).Ok x) : F23 (x, (x, ())) = some (B1 true) :=
  (eq_int (eq_call (s62 (x.2.1, ()) ⟨hx.2.1, trivial⟩) (eq_call (s63 (x.2.2.1, (x.2.2.2.1, (x.2.2.2.2.1, ()))) ⟨hx.2.2.1, ⟨hx.2.2.2.1, ⟨hx.2.2.2.2.1, trivial⟩⟩⟩) rfl)))
end Go.Proofs.Ytehcfgnpbelfnaa
