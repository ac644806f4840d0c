/- The laws' helpers: how much there is, copies, comparisons with itself. Conditions: none. -/

import Derived.Test.YtehcfgnpbelfnaaTm3
import Derived.Test.YtehcfgnpbelfnaaBF
namespace Go.Proofs.Ytehcfgnpbelfnaa
open Go Go.Tm
set_option linter.unusedVariables false
set_option maxRecDepth 100000
set_option maxHeartbeats 2000000 in
theorem w116 (x : (List (Tys.D e228) × Unit)) (hx : ((.cons (.sl e228) .nil) : Tys).Ok x) : Sz (((.cons (.sl e228) .nil) : Tys).w x) (fun l => F116 (x, ((l, ()), ()))) :=
  (Sz.str (a := List.length x.1) hx.1.1 Sz.nil).to (congrArg (fun z => List.length x.1 + z + 0) (sumW_zero (f := fun y => Tys.w e228 y) (fun _ => rfl) x.1)).symm
set_option maxHeartbeats 2000000 in
theorem w78 (x : (ByteArray × (Int × (Int × (Int × (List (Tys.D e228) × Unit)))))) (hx : ((.cons .str (.cons (.int .i64) (.cons (.int .i64) (.cons (.int .i64) (.cons (.sl e228) .nil))))) : Tys).Ok x) : Sz (((.cons .str (.cons (.int .i64) (.cons (.int .i64) (.cons (.int .i64) (.cons (.sl e228) .nil))))) : Tys).w x) (fun l => F78 (x, ((l, ()), ()))) :=
  (Sz.str (a := ByteArray.size x.1) hx.1 (Sz.int (Sz.int (Sz.int (Sz.call1 (w116 (x.2.2.2.2.1, ()) ⟨hx.2.2.2.2.1, trivial⟩) Sz.nil)))))
set_option maxHeartbeats 2000000 in
theorem w34 (x : (List (Tys.D e133) × Unit)) (hx : ((.cons (.sl e133) .nil) : Tys).Ok x) : Sz (((.cons (.sl e133) .nil) : Tys).w x) (fun l => F34 (x, ((l, ()), ()))) :=
  (Sz.list (xs := x.1) (T := fun y l => F78 (y, ((l, ()), ()))) (π := fun c => c.1.1) (wt := fun y => e133.w y) hx.1.1 (fun y hy => szR_T (x := y) (w78 y (Ok_mem hx.1.2 hy))))
set_option maxHeartbeats 2000000 in
theorem w8 (x : (Int × (List (Tys.D e133) × Unit))) (hx : ((.cons (.int .i64) (.cons (.sl e133) .nil)) : Tys).Ok x) : Sz (((.cons (.int .i64) (.cons (.sl e133) .nil)) : Tys).w x) (fun l => F8 (x, ((l, ()), ()))) :=
  (Sz.int (Sz.call1 (w34 (x.2.1, ()) ⟨hx.2.1, trivial⟩) Sz.nil))
set_option maxHeartbeats 2000000 in
theorem t161 (x : (Int × (Int × Unit))) (hx : ((.cons (.int .i64) (.cons (.int .i64) .nil)) : Tys).w x ≤ 1048576) : F161 (x, ()) = some (x, ()) :=
  rfl
set_option maxHeartbeats 2000000 in
theorem t119 (x : (List (Tys.D e228) × Unit)) (hx : ((.cons (.sl e228) .nil) : Tys).w x ≤ 1048576) : F119 (x, ()) = some (x, ()) :=
  (toList (A := Tys.D e228) (B := Tys.D e193) (xs := x.1) (T := fun y => F161 (y, ())) (π := fun c => c.1) (φ := fun y => y) (bytes := 16) (by decide) (by decide) (w_len hx) (fun y hy => ⟨_, t161 y (w_el hx rfl hy), rfl⟩)).trans (congrArg (fun l => some ((l, ()), ())) (List.map_id' x.1))
set_option maxHeartbeats 2000000 in
theorem t81 (x : (ByteArray × (Int × (Int × (Int × (List (Tys.D e228) × Unit)))))) (hx : ((.cons .str (.cons (.int .i64) (.cons (.int .i64) (.cons (.int .i64) (.cons (.sl e228) .nil))))) : Tys).w x ≤ 1048576) : F81 (x, ()) = some (x, ()) :=
  (bind_eq (t119 (x.2.2.2.2.1, ()) (w_1 (w_tl (w_tl (w_tl (w_tl hx)))))) rfl)
set_option maxHeartbeats 2000000 in
theorem t37 (x : (List (Tys.D e133) × Unit)) (hx : ((.cons (.sl e133) .nil) : Tys).w x ≤ 1048576) : F37 (x, ()) = some (x, ()) :=
  (toList (A := Tys.D e133) (B := Tys.D e138) (xs := x.1) (T := fun y => F81 (y, ())) (π := fun c => c.1) (φ := fun y => y) (bytes := 64) (by decide) (by decide) (w_len hx) (fun y hy => ⟨_, t81 y (w_el hx rfl hy), rfl⟩)).trans (congrArg (fun l => some ((l, ()), ())) (List.map_id' x.1))
set_option maxHeartbeats 2000000 in
theorem t10 (x : (Int × (List (Tys.D e133) × Unit))) (hx : ((.cons (.int .i64) (.cons (.sl e133) .nil)) : Tys).w x ≤ 1048576) : F10 (x, ()) = some (x, ()) :=
  (bind_eq (t37 (x.2.1, ()) (w_1 (w_tl hx))) rfl)
set_option maxHeartbeats 2000000 in
theorem s84 (x : (ByteArray × (Int × Unit))) (hx : ((.cons .str (.cons (.int .i64) .nil)) : Tys).Ok x) : F84 (x, (x, ())) = some (B1 true) :=
  (eq_str (eq_int rfl))
set_option maxHeartbeats 2000000 in
theorem s40 (x : (List (Tys.D e106) × Unit)) (hx : ((.cons (.sl e106) .nil) : Tys).Ok x) : F40 (x, (x, ())) = some (B1 true) :=
  eqList (xs := x.1) (E := fun y z v => (F84 (y, (z, ()))).bind fun r => bif (!r.1.1) then some (.inr (.inr (B1 false))) else some (.inl (iAdd .i64 v.1 1, ()))) hx.1.1 (fun y hy v => eq_call (s84 y (Ok_mem hx.1.2 hy)) rfl)
set_option maxHeartbeats 2000000 in
theorem s12 (x : (Int × (List (Tys.D e106) × Unit))) (hx : ((.cons (.int .i64) (.cons (.sl e106) .nil)) : Tys).Ok x) : F12 (x, (x, ())) = some (B1 true) :=
  (eq_int (eq_call (s40 (x.2.1, ()) ⟨hx.2.1, trivial⟩) rfl))
set_option maxHeartbeats 2000000 in
theorem s163 (x : (Int × (Int × Unit))) (hx : ((.cons (.int .i64) (.cons (.int .i64) .nil)) : Tys).Ok x) : F163 (x, (x, ())) = some (B1 true) :=
  (eq_int (eq_int rfl))
set_option maxHeartbeats 2000000 in
theorem s122 (x : (List (Tys.D e193) × Unit)) (hx : ((.cons (.sl e193) .nil) : Tys).Ok x) : F122 (x, (x, ())) = some (B1 true) :=
  eqList (xs := x.1) (E := fun y z v => (F163 (y, (z, ()))).bind fun r => bif (!r.1.1) then some (.inr (.inr (B1 false))) else some (.inl (iAdd .i64 v.1 1, ()))) hx.1.1 (fun y hy v => eq_call (s163 y (Ok_mem hx.1.2 hy)) rfl)
set_option maxHeartbeats 2000000 in
theorem s85 (x : (ByteArray × (Int × (Int × (Int × (List (Tys.D e193) × Unit)))))) (hx : ((.cons .str (.cons (.int .i64) (.cons (.int .i64) (.cons (.int .i64) (.cons (.sl e193) .nil))))) : Tys).Ok x) : F85 (x, (x, ())) = some (B1 true) :=
  (eq_str (eq_int (eq_int (eq_int (eq_call (s122 (x.2.2.2.2.1, ()) ⟨hx.2.2.2.2.1, trivial⟩) rfl)))))
set_option maxHeartbeats 2000000 in
theorem s41 (x : (List (Tys.D e138) × Unit)) (hx : ((.cons (.sl e138) .nil) : Tys).Ok x) : F41 (x, (x, ())) = some (B1 true) :=
  eqList (xs := x.1) (E := fun y z v => (F85 (y, (z, ()))).bind fun r => bif (!r.1.1) then some (.inr (.inr (B1 false))) else some (.inl (iAdd .i64 v.1 1, ()))) hx.1.1 (fun y hy v => eq_call (s85 y (Ok_mem hx.1.2 hy)) rfl)
set_option maxHeartbeats 2000000 in
theorem s13 (x : (Int × (List (Tys.D e138) × Unit))) (hx : ((.cons (.int .i64) (.cons (.sl e138) .nil)) : Tys).Ok x) : F13 (x, (x, ())) = some (B1 true) :=
  (eq_int (eq_call (s41 (x.2.1, ()) ⟨hx.2.1, trivial⟩) rfl))
end Go.Proofs.Ytehcfgnpbelfnaa
