/- The laws' helpers: how much there is, copies, comparisons with itself. Conditions: none. -/

import Derived.Test.YtphaibffjdfhpaaGreatTm4
import Derived.Test.YtphaibffjdfhpaaGreatDF
namespace Go.Proofs.YtphaibffjdfhpaaGreat
open Go Go.Tm
set_option linter.unusedVariables false
set_option maxRecDepth 100000
set_option maxHeartbeats 2000000 in
theorem w205 (x : (List (Tys.D e264) × Unit)) (hx : ((.cons (.sl e264) .nil) : Tys).Ok x) : Sz (((.cons (.sl e264) .nil) : Tys).w x) (fun l => F205 (x, ((l, ()), ()))) :=
  (Sz.str (a := List.length x.1) hx.1.1 Sz.nil).to (congrArg (fun z => List.length x.1 + z + 0) (sumW_zero (f := fun y => Tys.w e264 y) (fun _ => rfl) x.1)).symm
set_option maxHeartbeats 2000000 in
theorem w166 (x : (ByteArray × (Int × (Int × (Int × (List (Tys.D e264) × Unit)))))) (hx : ((.cons .str (.cons (.int .i64) (.cons (.int .i64) (.cons (.int .i64) (.cons (.sl e264) .nil))))) : Tys).Ok x) : Sz (((.cons .str (.cons (.int .i64) (.cons (.int .i64) (.cons (.int .i64) (.cons (.sl e264) .nil))))) : Tys).w x) (fun l => F166 (x, ((l, ()), ()))) :=
  (Sz.str (a := ByteArray.size x.1) hx.1 (Sz.int (Sz.int (Sz.int (Sz.call1 (w205 (x.2.2.2.2.1, ()) ⟨hx.2.2.2.2.1, trivial⟩) Sz.nil)))))
set_option maxHeartbeats 2000000 in
theorem w95 (x : (List (Tys.D e225) × Unit)) (hx : ((.cons (.sl e225) .nil) : Tys).Ok x) : Sz (((.cons (.sl e225) .nil) : Tys).w x) (fun l => F95 (x, ((l, ()), ()))) :=
  (Sz.list (xs := x.1) (T := fun y l => F166 (y, ((l, ()), ()))) (π := fun c => c.1.1) (wt := fun y => e225.w y) hx.1.1 (fun y hy => szR_T (x := y) (w166 y (Ok_mem hx.1.2 hy))))
set_option maxHeartbeats 2000000 in
theorem w22 (x : (Int × (List (Tys.D e225) × Unit))) (hx : ((.cons (.int .i64) (.cons (.sl e225) .nil)) : Tys).Ok x) : Sz (((.cons (.int .i64) (.cons (.sl e225) .nil)) : Tys).w x) (fun l => F22 (x, ((l, ()), ()))) :=
  (Sz.int (Sz.call1 (w95 (x.2.1, ()) ⟨hx.2.1, trivial⟩) Sz.nil))
set_option maxHeartbeats 2000000 in
theorem w23 (x : (List (Tys.D e9) × Unit)) (hx : ((.cons (.sl e9) .nil) : Tys).Ok x) : Sz (((.cons (.sl e9) .nil) : Tys).w x) (fun l => F23 (x, ((l, ()), ()))) :=
  (Sz.list (xs := x.1) (T := fun y l => some (iSub .i64 l (ByteArray.size y.1 : Int))) (π := fun c => c) (wt := fun y => ByteArray.size y.1) hx.1.1 (fun y hy => szR_S (Ok_mem hx.1.2 hy).1)).to rfl
set_option maxHeartbeats 2000000 in
theorem t229 (x : (Int × (Int × Unit))) (hx : ((.cons (.int .i64) (.cons (.int .i64) .nil)) : Tys).w x ≤ 1048576) : F229 (x, ()) = some (x, ()) :=
  rfl
set_option maxHeartbeats 2000000 in
theorem t208 (x : (List (Tys.D e264) × Unit)) (hx : ((.cons (.sl e264) .nil) : Tys).w x ≤ 1048576) : F208 (x, ()) = some (x, ()) :=
  (toList (A := Tys.D e264) (B := Tys.D e248) (xs := x.1) (T := fun y => F229 (y, ())) (π := fun c => c.1) (φ := fun y => y) (bytes := 16) (by decide) (by decide) (w_len hx) (fun y hy => ⟨_, t229 y (w_el hx rfl hy), rfl⟩)).trans (congrArg (fun l => some ((l, ()), ())) (List.map_id' x.1))
set_option maxHeartbeats 2000000 in
theorem t171 (x : (ByteArray × (Int × (Int × (Int × (List (Tys.D e264) × Unit)))))) (hx : ((.cons .str (.cons (.int .i64) (.cons (.int .i64) (.cons (.int .i64) (.cons (.sl e264) .nil))))) : Tys).w x ≤ 1048576) : F171 (x, ()) = some (x, ()) :=
  (bind_eq (t208 (x.2.2.2.2.1, ()) (w_1 (w_tl (w_tl (w_tl (w_tl hx)))))) rfl)
set_option maxHeartbeats 2000000 in
theorem t101 (x : (List (Tys.D e225) × Unit)) (hx : ((.cons (.sl e225) .nil) : Tys).w x ≤ 1048576) : F101 (x, ()) = some (x, ()) :=
  (toList (A := Tys.D e225) (B := Tys.D e153) (xs := x.1) (T := fun y => F171 (y, ())) (π := fun c => c.1) (φ := fun y => y) (bytes := 64) (by decide) (by decide) (w_len hx) (fun y hy => ⟨_, t171 y (w_el hx rfl hy), rfl⟩)).trans (congrArg (fun l => some ((l, ()), ())) (List.map_id' x.1))
set_option maxHeartbeats 2000000 in
theorem t25 (x : (Int × (List (Tys.D e225) × Unit))) (hx : ((.cons (.int .i64) (.cons (.sl e225) .nil)) : Tys).w x ≤ 1048576) : F25 (x, ()) = some (x, ()) :=
  (bind_eq (t101 (x.2.1, ()) (w_1 (w_tl hx))) rfl)
set_option maxHeartbeats 2000000 in
theorem t26 (x : (List (Tys.D e9) × Unit)) (hx : ((.cons (.sl e9) .nil) : Tys).w x ≤ 1048576) : F26 (x, ()) = some (x, ()) :=
  (toList (A := Tys.D e9) (B := Tys.D e9) (xs := x.1) (T := fun y => some y) (π := fun c => c) (φ := fun y => y) (bytes := 16) (by decide) (by decide) (w_len hx) (fun y hy => ⟨_, rfl, rfl⟩)).trans (congrArg (fun l => some ((l, ()), ())) (List.map_id' x.1))
set_option maxHeartbeats 2000000 in
theorem s231 (x : (Int × (Int × Unit))) (hx : ((.cons (.int .i64) (.cons (.int .i64) .nil)) : Tys).Ok x) : F231 (x, (x, ())) = some (B1 true) :=
  (eq_int (eq_int rfl))
set_option maxHeartbeats 2000000 in
theorem s212 (x : (List (Tys.D e248) × Unit)) (hx : ((.cons (.sl e248) .nil) : Tys).Ok x) : F212 (x, (x, ())) = some (B1 true) :=
  eqList (xs := x.1) (E := fun y z v => (F231 (y, (z, ()))).bind fun r => bif (!r.1.1) then some (.inr (.inr (B1 false))) else some (.inl (iAdd .i64 v.1 1, ()))) hx.1.1 (fun y hy v => eq_call (s231 y (Ok_mem hx.1.2 hy)) rfl)
set_option maxHeartbeats 2000000 in
theorem s178 (x : (ByteArray × (Int × (Int × (Int × (List (Tys.D e248) × Unit)))))) (hx : ((.cons .str (.cons (.int .i64) (.cons (.int .i64) (.cons (.int .i64) (.cons (.sl e248) .nil))))) : Tys).Ok x) : F178 (x, (x, ())) = some (B1 true) :=
  (eq_str (eq_int (eq_int (eq_int (eq_call (s212 (x.2.2.2.2.1, ()) ⟨hx.2.2.2.2.1, trivial⟩) rfl)))))
set_option maxHeartbeats 2000000 in
theorem s108 (x : (List (Tys.D e153) × Unit)) (hx : ((.cons (.sl e153) .nil) : Tys).Ok x) : F108 (x, (x, ())) = some (B1 true) :=
  eqList (xs := x.1) (E := fun y z v => (F178 (y, (z, ()))).bind fun r => bif (!r.1.1) then some (.inr (.inr (B1 false))) else some (.inl (iAdd .i64 v.1 1, ()))) hx.1.1 (fun y hy v => eq_call (s178 y (Ok_mem hx.1.2 hy)) rfl)
set_option maxHeartbeats 2000000 in
theorem s28 (x : (Int × (List (Tys.D e153) × Unit))) (hx : ((.cons (.int .i64) (.cons (.sl e153) .nil)) : Tys).Ok x) : F28 (x, (x, ())) = some (B1 true) :=
  (eq_int (eq_call (s108 (x.2.1, ()) ⟨hx.2.1, trivial⟩) rfl))
set_option maxHeartbeats 2000000 in
theorem s29 (x : (List (Tys.D e9) × Unit)) (hx : ((.cons (.sl e9) .nil) : Tys).Ok x) : F29 (x, (x, ())) = some (B1 true) :=
  eqList (xs := x.1) (E := fun y z v => bif !sEq y.1 z.1 then some (.inr (.inr (B1 false))) else some (.inl (iAdd .i64 v.1 1, ()))) hx.1.1 (fun y hy v => eq_str rfl)
set_option maxHeartbeats 2000000 in
theorem s149 (x : (ByteArray × (Int × Unit))) (hx : ((.cons .str (.cons (.int .i64) .nil)) : Tys).Ok x) : F149 (x, (x, ())) = some (B1 true) :=
  (eq_str (eq_int rfl))
set_option maxHeartbeats 2000000 in
theorem s64 (x : (List (Tys.D e188) × Unit)) (hx : ((.cons (.sl e188) .nil) : Tys).Ok x) : F64 (x, (x, ())) = some (B1 true) :=
  eqList (xs := x.1) (E := fun y z v => (F149 (y, (z, ()))).bind fun r => bif (!r.1.1) then some (.inr (.inr (B1 false))) else some (.inl (iAdd .i64 v.1 1, ()))) hx.1.1 (fun y hy v => eq_call (s149 y (Ok_mem hx.1.2 hy)) rfl)
set_option maxHeartbeats 2000000 in
theorem s63 (x : (Int × (Int × (List (Tys.D e9) × Unit)))) (hx : ((.cons (.int .i64) (.cons (.int .i64) (.cons (.sl e9) .nil))) : Tys).Ok x) : F63 (x, (x, ())) = some (B1 true) :=
  (eq_int (eq_int (eq_call (s29 (x.2.2.1, ()) ⟨hx.2.2.1, trivial⟩) rfl)))
set_option maxHeartbeats 2000000 in
theorem s68 (x : (List (Tys.D e3) × Unit)) (hx : ((.cons (.sl e3) .nil) : Tys).Ok x) : F68 (x, (x, ())) = some (B1 true) :=
  eqList (xs := x.1) (E := fun y z v => bif !iEq y.1 z.1 then some (.inr (.inr (B1 false))) else some (.inl (iAdd .i64 v.1 1, ()))) hx.1.1 (fun y hy v => eq_int rfl)
set_option maxHeartbeats 2000000 in
theorem s65 (x : (Int × (List (Tys.D e9) × (List (Tys.D e3) × Unit)))) (hx : ((.cons (.int .i64) (.cons (.sl e9) (.cons (.sl e3) .nil))) : Tys).Ok x) : F65 (x, (x, ())) = some (B1 true) :=
  (eq_int (eq_call (s29 (x.2.1, ()) ⟨hx.2.1, trivial⟩) (eq_call (s68 (x.2.2.1, ()) ⟨hx.2.2.1, trivial⟩) rfl)))
set_option maxHeartbeats 2000000 in
theorem s152 (x : (Int × (ByteArray × (ByteArray × (Int × (Int × Unit)))))) (hx : ((.cons (.int .i64) (.cons .str (.cons .str (.cons (.int .i64) (.cons (.int .i64) .nil))))) : Tys).Ok x) : F152 (x, (x, ())) = some (B1 true) :=
  (eq_int (eq_str (eq_str (eq_int (eq_int rfl)))))
set_option maxHeartbeats 2000000 in
theorem s69 (x : (List (Tys.D e195) × Unit)) (hx : ((.cons (.sl e195) .nil) : Tys).Ok x) : F69 (x, (x, ())) = some (B1 true) :=
  eqList (xs := x.1) (E := fun y z v => (F152 (y, (z, ()))).bind fun r => bif (!r.1.1) then some (.inr (.inr (B1 false))) else some (.inl (iAdd .i64 v.1 1, ()))) hx.1.1 (fun y hy v => eq_call (s152 y (Ok_mem hx.1.2 hy)) rfl)
set_option maxHeartbeats 2000000 in
theorem s148 (x : (Int × (Int × (Int × (ByteArray × (Int × (Int × (List (Tys.D e9) × (Int × (List (Tys.D e9) × (List (Tys.D e3) × (List (Tys.D e195) × (Bool × (List (Tys.D e188) × (ByteArray × Unit))))))))))))))) (hx : ((.cons (.int .i64) (.cons (.int .i64) (.cons (.int .i64) (.cons .str (.cons (.int .i64) (.cons (.int .i64) (.cons (.sl e9) (.cons (.int .i64) (.cons (.sl e9) (.cons (.sl e3) (.cons (.sl e195) (.cons .bool (.cons (.sl e188) (.cons .str .nil)))))))))))))) : Tys).Ok x) : F148 (x, (x, ())) = some (B1 true) :=
  (eq_int (eq_int (eq_int (eq_str (eq_call (s63 (x.2.2.2.2.1, (x.2.2.2.2.2.1, (x.2.2.2.2.2.2.1, ()))) ⟨hx.2.2.2.2.1, ⟨hx.2.2.2.2.2.1, ⟨hx.2.2.2.2.2.2.1, trivial⟩⟩⟩) (eq_call (s65 (x.2.2.2.2.2.2.2.1, (x.2.2.2.2.2.2.2.2.1, (x.2.2.2.2.2.2.2.2.2.1, ()))) ⟨hx.2.2.2.2.2.2.2.1, ⟨hx.2.2.2.2.2.2.2.2.1, ⟨hx.2.2.2.2.2.2.2.2.2.1, trivial⟩⟩⟩) (eq_call (s69 (x.2.2.2.2.2.2.2.2.2.2.1, ()) ⟨hx.2.2.2.2.2.2.2.2.2.2.1, trivial⟩) (eq_bool (eq_call (s64 (x.2.2.2.2.2.2.2.2.2.2.2.2.1, ()) ⟨hx.2.2.2.2.2.2.2.2.2.2.2.2.1, trivial⟩) (eq_str rfl))))))))))
set_option maxHeartbeats 2000000 in
theorem s62 (x : (List (Tys.D e138) × Unit)) (hx : ((.cons (.sl e138) .nil) : Tys).Ok x) : F62 (x, (x, ())) = some (B1 true) :=
  eqList (xs := x.1) (E := fun y z v => (F148 (y, (z, ()))).bind fun r => bif (!r.1.1) then some (.inr (.inr (B1 false))) else some (.inl (iAdd .i64 v.1 1, ()))) hx.1.1 (fun y hy v => eq_call (s148 y (Ok_mem hx.1.2 hy)) rfl)
set_option maxHeartbeats 2000000 in
theorem s150 (x : (Int × (Int × (ByteArray × Unit)))) (hx : ((.cons (.int .i64) (.cons (.int .i64) (.cons .str .nil))) : Tys).Ok x) : F150 (x, (x, ())) = some (B1 true) :=
  (eq_int (eq_int (eq_str rfl)))
set_option maxHeartbeats 2000000 in
theorem s66 (x : (List (Tys.D e191) × Unit)) (hx : ((.cons (.sl e191) .nil) : Tys).Ok x) : F66 (x, (x, ())) = some (B1 true) :=
  eqList (xs := x.1) (E := fun y z v => (F150 (y, (z, ()))).bind fun r => bif (!r.1.1) then some (.inr (.inr (B1 false))) else some (.inl (iAdd .i64 v.1 1, ()))) hx.1.1 (fun y hy v => eq_call (s150 y (Ok_mem hx.1.2 hy)) rfl)
set_option maxHeartbeats 2000000 in
theorem s151 (x : (Int × (Int × (ByteArray × Unit)))) (hx : ((.cons (.int .i64) (.cons (.int .i64) (.cons .str .nil))) : Tys).Ok x) : F151 (x, (x, ())) = some (B1 true) :=
  (eq_int (eq_int (eq_str rfl)))
set_option maxHeartbeats 2000000 in
theorem s67 (x : (List (Tys.D e193) × Unit)) (hx : ((.cons (.sl e193) .nil) : Tys).Ok x) : F67 (x, (x, ())) = some (B1 true) :=
  eqList (xs := x.1) (E := fun y z v => (F151 (y, (z, ()))).bind fun r => bif (!r.1.1) then some (.inr (.inr (B1 false))) else some (.inl (iAdd .i64 v.1 1, ()))) hx.1.1 (fun y hy v => eq_call (s151 y (Ok_mem hx.1.2 hy)) rfl)
set_option maxHeartbeats 2000000 in
theorem s12 (x : (Int × (List (Tys.D e138) × (Int × (Int × (List (Tys.D e9) × Unit)))))) (hx : ((.cons (.int .i64) (.cons (.sl e138) (.cons (.int .i64) (.cons (.int .i64) (.cons (.sl e9) .nil))))) : Tys).Ok x) : F12 (x, (x, ())) = some (B1 true) :=
  (eq_int (eq_call (s62 (x.2.1, ()) ⟨hx.2.1, trivial⟩) (eq_call (s63 (x.2.2.1, (x.2.2.2.1, (x.2.2.2.2.1, ()))) ⟨hx.2.2.1, ⟨hx.2.2.2.1, ⟨hx.2.2.2.2.1, trivial⟩⟩⟩) rfl)))
set_option maxHeartbeats 2000000 in
theorem s70 (x : (List (Tys.D e43) × Unit)) (hx : ((.cons (.sl e43) .nil) : Tys).Ok x) : F70 (x, (x, ())) = some (B1 true) :=
  eqList (xs := x.1) (E := fun y z v => (F12 (y, (z, ()))).bind fun r => bif (!r.1.1) then some (.inr (.inr (B1 false))) else some (.inl (iAdd .i64 v.1 1, ()))) hx.1.1 (fun y hy v => eq_call (s12 y (Ok_mem hx.1.2 hy)) rfl)
set_option maxHeartbeats 2000000 in
theorem s13 (x : (ByteArray × (Int × (Int × (List (Tys.D e153) × (List (Tys.D e188) × (List (Tys.D e138) × (Int × (Int × (Int × (Int × (List (Tys.D e9) × (Int × (List (Tys.D e9) × (List (Tys.D e3) × (Int × (List (Tys.D e191) × (List (Tys.D e193) × (List (Tys.D e3) × (List (Tys.D e195) × (List (Tys.D e43) × Unit))))))))))))))))))))) (hx : ((.cons .str (.cons (.int .i64) (.cons (.int .i64) (.cons (.sl e153) (.cons (.sl e188) (.cons (.sl e138) (.cons (.int .i64) (.cons (.int .i64) (.cons (.int .i64) (.cons (.int .i64) (.cons (.sl e9) (.cons (.int .i64) (.cons (.sl e9) (.cons (.sl e3) (.cons (.int .i64) (.cons (.sl e191) (.cons (.sl e193) (.cons (.sl e3) (.cons (.sl e195) (.cons (.sl e43) .nil)))))))))))))))))))) : Tys).Ok x) : F13 (x, (x, ())) = some (B1 true) :=
  (eq_str (eq_int (eq_call (s28 (x.2.2.1, (x.2.2.2.1, ())) ⟨hx.2.2.1, ⟨hx.2.2.2.1, trivial⟩⟩) (eq_call (s64 (x.2.2.2.2.1, ()) ⟨hx.2.2.2.2.1, trivial⟩) (eq_call (s62 (x.2.2.2.2.2.1, ()) ⟨hx.2.2.2.2.2.1, trivial⟩) (eq_int (eq_int (eq_call (s63 (x.2.2.2.2.2.2.2.2.1, (x.2.2.2.2.2.2.2.2.2.1, (x.2.2.2.2.2.2.2.2.2.2.1, ()))) ⟨hx.2.2.2.2.2.2.2.2.1, ⟨hx.2.2.2.2.2.2.2.2.2.1, ⟨hx.2.2.2.2.2.2.2.2.2.2.1, trivial⟩⟩⟩) (eq_call (s65 (x.2.2.2.2.2.2.2.2.2.2.2.1, (x.2.2.2.2.2.2.2.2.2.2.2.2.1, (x.2.2.2.2.2.2.2.2.2.2.2.2.2.1, ()))) ⟨hx.2.2.2.2.2.2.2.2.2.2.2.1, ⟨hx.2.2.2.2.2.2.2.2.2.2.2.2.1, ⟨hx.2.2.2.2.2.2.2.2.2.2.2.2.2.1, trivial⟩⟩⟩) (eq_int (eq_call (s66 (x.2.2.2.2.2.2.2.2.2.2.2.2.2.2.2.1, ()) ⟨hx.2.2.2.2.2.2.2.2.2.2.2.2.2.2.2.1, trivial⟩) (eq_call (s67 (x.2.2.2.2.2.2.2.2.2.2.2.2.2.2.2.2.1, ()) ⟨hx.2.2.2.2.2.2.2.2.2.2.2.2.2.2.2.2.1, trivial⟩) (eq_call (s68 (x.2.2.2.2.2.2.2.2.2.2.2.2.2.2.2.2.2.1, ()) ⟨hx.2.2.2.2.2.2.2.2.2.2.2.2.2.2.2.2.2.1, trivial⟩) (eq_call (s69 (x.2.2.2.2.2.2.2.2.2.2.2.2.2.2.2.2.2.2.1, ()) ⟨hx.2.2.2.2.2.2.2.2.2.2.2.2.2.2.2.2.2.2.1, trivial⟩) (eq_call (s70 (x.2.2.2.2.2.2.2.2.2.2.2.2.2.2.2.2.2.2.2.1, ()) ⟨hx.2.2.2.2.2.2.2.2.2.2.2.2.2.2.2.2.2.2.2.1, trivial⟩) rfl)))))))))))))))
set_option maxHeartbeats 2000000 in
theorem s92 (x : (List (Tys.D e56) × Unit)) (hx : ((.cons (.sl e56) .nil) : Tys).Ok x) : F92 (x, (x, ())) = some (B1 true) :=
  eqList (xs := x.1) (E := fun y z v => (F13 (y, (z, ()))).bind fun r => bif (!r.1.1) then some (.inr (.inr (B1 false))) else some (.inl (iAdd .i64 v.1 1, ()))) hx.1.1 (fun y hy v => eq_call (s13 y (Ok_mem hx.1.2 hy)) rfl)
set_option maxHeartbeats 2000000 in
theorem s164 (x : (Int × (Int × (Int × (Int × (ByteArray × Unit)))))) (hx : ((.cons (.int .i64) (.cons (.int .i64) (.cons (.int .i64) (.cons (.int .i64) (.cons .str .nil))))) : Tys).Ok x) : F164 (x, (x, ())) = some (B1 true) :=
  (eq_int (eq_int (eq_int (eq_int (eq_str rfl)))))
set_option maxHeartbeats 2000000 in
theorem s93 (x : (List (Tys.D e214) × Unit)) (hx : ((.cons (.sl e214) .nil) : Tys).Ok x) : F93 (x, (x, ())) = some (B1 true) :=
  eqList (xs := x.1) (E := fun y z v => (F164 (y, (z, ()))).bind fun r => bif (!r.1.1) then some (.inr (.inr (B1 false))) else some (.inl (iAdd .i64 v.1 1, ()))) hx.1.1 (fun y hy v => eq_call (s164 y (Ok_mem hx.1.2 hy)) rfl)
set_option maxHeartbeats 2000000 in
theorem s165 (x : (Int × (ByteArray × (Int × (List (Tys.D e138) × (Int × (Int × (ByteArray × (Int × (Int × (ByteArray × (Int × (Int × (List (Tys.D e9) × (Int × (List (Tys.D e9) × (List (Tys.D e3) × Unit))))))))))))))))) (hx : ((.cons (.int .i64) (.cons .str (.cons (.int .i64) (.cons (.sl e138) (.cons (.int .i64) (.cons (.int .i64) (.cons .str (.cons (.int .i64) (.cons (.int .i64) (.cons .str (.cons (.int .i64) (.cons (.int .i64) (.cons (.sl e9) (.cons (.int .i64) (.cons (.sl e9) (.cons (.sl e3) .nil)))))))))))))))) : Tys).Ok x) : F165 (x, (x, ())) = some (B1 true) :=
  (eq_int (eq_str (eq_int (eq_call (s62 (x.2.2.2.1, ()) ⟨hx.2.2.2.1, trivial⟩) (eq_call (s150 (x.2.2.2.2.1, (x.2.2.2.2.2.1, (x.2.2.2.2.2.2.1, ()))) ⟨hx.2.2.2.2.1, ⟨hx.2.2.2.2.2.1, ⟨hx.2.2.2.2.2.2.1, trivial⟩⟩⟩) (eq_call (s151 (x.2.2.2.2.2.2.2.1, (x.2.2.2.2.2.2.2.2.1, (x.2.2.2.2.2.2.2.2.2.1, ()))) ⟨hx.2.2.2.2.2.2.2.1, ⟨hx.2.2.2.2.2.2.2.2.1, ⟨hx.2.2.2.2.2.2.2.2.2.1, trivial⟩⟩⟩) (eq_call (s63 (x.2.2.2.2.2.2.2.2.2.2.1, (x.2.2.2.2.2.2.2.2.2.2.2.1, (x.2.2.2.2.2.2.2.2.2.2.2.2.1, ()))) ⟨hx.2.2.2.2.2.2.2.2.2.2.1, ⟨hx.2.2.2.2.2.2.2.2.2.2.2.1, ⟨hx.2.2.2.2.2.2.2.2.2.2.2.2.1, trivial⟩⟩⟩) (eq_call (s65 (x.2.2.2.2.2.2.2.2.2.2.2.2.2.1, (x.2.2.2.2.2.2.2.2.2.2.2.2.2.2.1, (x.2.2.2.2.2.2.2.2.2.2.2.2.2.2.2.1, ()))) ⟨hx.2.2.2.2.2.2.2.2.2.2.2.2.2.1, ⟨hx.2.2.2.2.2.2.2.2.2.2.2.2.2.2.1, ⟨hx.2.2.2.2.2.2.2.2.2.2.2.2.2.2.2.1, trivial⟩⟩⟩) rfl))))))))
set_option maxHeartbeats 2000000 in
theorem s94 (x : (List (Tys.D e217) × Unit)) (hx : ((.cons (.sl e217) .nil) : Tys).Ok x) : F94 (x, (x, ())) = some (B1 true) :=
  eqList (xs := x.1) (E := fun y z v => (F165 (y, (z, ()))).bind fun r => bif (!r.1.1) then some (.inr (.inr (B1 false))) else some (.inl (iAdd .i64 v.1 1, ()))) hx.1.1 (fun y hy v => eq_call (s165 y (Ok_mem hx.1.2 hy)) rfl)
set_option maxHeartbeats 2000000 in
theorem s21 (x : (Int × (List (Tys.D e153) × (List (Tys.D e9) × (List (Tys.D e56) × (List (Tys.D e138) × (List (Tys.D e214) × (List (Tys.D e217) × Unit)))))))) (hx : ((.cons (.int .i64) (.cons (.sl e153) (.cons (.sl e9) (.cons (.sl e56) (.cons (.sl e138) (.cons (.sl e214) (.cons (.sl e217) .nil))))))) : Tys).Ok x) : F21 (x, (x, ())) = some (B1 true) :=
  (eq_call (s28 (x.1, (x.2.1, ())) ⟨hx.1, ⟨hx.2.1, trivial⟩⟩) (eq_call (s29 (x.2.2.1, ()) ⟨hx.2.2.1, trivial⟩) (eq_call (s92 (x.2.2.2.1, ()) ⟨hx.2.2.2.1, trivial⟩) (eq_call (s62 (x.2.2.2.2.1, ()) ⟨hx.2.2.2.2.1, trivial⟩) (eq_call (s93 (x.2.2.2.2.2.1, ()) ⟨hx.2.2.2.2.2.1, trivial⟩) (eq_call (s94 (x.2.2.2.2.2.2.1, ()) ⟨hx.2.2.2.2.2.2.1, trivial⟩) rfl))))))
end Go.Proofs.YtphaibffjdfhpaaGreat
