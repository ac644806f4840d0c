/- The laws' helpers: how much there is, copies, comparisons with itself. Conditions: none. -/
import Derived.Test.YtbhckidcagloeaaGreatTm4
import Derived.Test.YtbhckidcagloeaaGreatLrF
namespace Go.Proofs.YtbhckidcagloeaaGreat
open Go Go.Tm
set_option linter.unusedVariables false
set_option maxRecDepth 100000
set_option maxHeartbeats 2000000 in
theorem w184 (x:(List (Tys.D e243)×Unit)) (hx:((.cons (.sl e243) .nil):Tys).Ok x):Sz (((.cons (.sl e243) .nil):Tys).w x) (fun l=>F184 (x,((l,()),()))) :=
 (Sz.str (a:=List.length x.1) hx.1.1 Sz.nil).to (congrArg (fun z=>List.length x.1+z+0) (sumW_zero (f:=fun y=>Tys.w e243 y) (fun _=>rfl) x.1)).symm
set_option maxHeartbeats 2000000 in
theorem w143 (x:(ByteArray×(Int×(Int×(Int×(List (Tys.D e243)×Unit)))))) (hx:((.cons .str (.cons (.int .i64) (.cons (.int .i64) (.cons (.int .i64) (.cons (.sl e243) .nil))))):Tys).Ok x):Sz (((.cons .str (.cons (.int .i64) (.cons (.int .i64) (.cons (.int .i64) (.cons (.sl e243) .nil))))):Tys).w x) (fun l=>F143 (x,((l,()),()))) :=
 (Sz.str (a:=ByteArray.size x.1) hx.1 (Sz.int (Sz.int (Sz.int (Sz.call1 (w184 (x.2.2.2.2.1,()) ⟨hx.2.2.2.2.1,trivial⟩) Sz.nil)))))
set_option maxHeartbeats 2000000 in
theorem w78 (x:(List (Tys.D e191)×Unit)) (hx:((.cons (.sl e191) .nil):Tys).Ok x):Sz (((.cons (.sl e191) .nil):Tys).w x) (fun l=>F78 (x,((l,()),()))) :=
 (Sz.list (xs:=x.1) (T:=fun y l=>F143 (y,((l,()),()))) (π:=fun c=>c.1.1) (wt:=fun y=>e191.w y) hx.1.1 (fun y hy=>szR_T (x:=y) (w143 y (Ok_mem hx.1.2 hy))))
set_option maxHeartbeats 2000000 in
theorem w17 (x:(Int×(List (Tys.D e191)×Unit))) (hx:((.cons (.int .i64) (.cons (.sl e191) .nil)):Tys).Ok x):Sz (((.cons (.int .i64) (.cons (.sl e191) .nil)):Tys).w x) (fun l=>F17 (x,((l,()),()))) :=
 (Sz.int (Sz.call1 (w78 (x.2.1,()) ⟨hx.2.1,trivial⟩) Sz.nil))
set_option maxHeartbeats 2000000 in
theorem w79 (x:(ByteArray×(Int×Unit))) (hx:((.cons .str (.cons (.int .i64) .nil)):Tys).Ok x):Sz (((.cons .str (.cons (.int .i64) .nil)):Tys).w x) (fun l=>F79 (x,((l,()),()))) :=
 (Sz.str (a:=ByteArray.size x.1) hx.1 (Sz.int Sz.nil))
set_option maxHeartbeats 2000000 in
theorem w18 (x:(List (Tys.D e127)×Unit)) (hx:((.cons (.sl e127) .nil):Tys).Ok x):Sz (((.cons (.sl e127) .nil):Tys).w x) (fun l=>F18 (x,((l,()),()))) :=
 (Sz.list (xs:=x.1) (T:=fun y l=>F79 (y,((l,()),()))) (π:=fun c=>c.1.1) (wt:=fun y=>e127.w y) hx.1.1 (fun y hy=>szR_T (x:=y) (w79 y (Ok_mem hx.1.2 hy))))
set_option maxHeartbeats 2000000 in
theorem w81 (x:(List (Tys.D e9)×Unit)) (hx:((.cons (.sl e9) .nil):Tys).Ok x):Sz (((.cons (.sl e9) .nil):Tys).w x) (fun l=>F81 (x,((l,()),()))) :=
 (Sz.list (xs:=x.1) (T:=fun y l=>some (iSub .i64 l (ByteArray.size y.1:Int))) (π:=fun c=>c) (wt:=fun y=>ByteArray.size y.1) hx.1.1 (fun y hy=>szR_S (Ok_mem hx.1.2 hy).1)).to rfl
set_option maxHeartbeats 2000000 in
theorem w20 (x:(Int×(Int×(List (Tys.D e9)×Unit)))) (hx:((.cons (.int .i64) (.cons (.int .i64) (.cons (.sl e9) .nil))):Tys).Ok x):Sz (((.cons (.int .i64) (.cons (.int .i64) (.cons (.sl e9) .nil))):Tys).w x) (fun l=>F20 (x,((l,()),()))) :=
 (Sz.int (Sz.int (Sz.call1 (w81 (x.2.2.1,()) ⟨hx.2.2.1,trivial⟩) Sz.nil)))
set_option maxHeartbeats 2000000 in
theorem w24 (x:(List (Tys.D e3)×Unit)) (hx:((.cons (.sl e3) .nil):Tys).Ok x):Sz (((.cons (.sl e3) .nil):Tys).w x) (fun l=>F24 (x,((l,()),()))) :=
 (Sz.str (a:=List.length x.1) hx.1.1 Sz.nil).to (congrArg (fun z=>List.length x.1+z+0) (sumW_zero (f:=fun y=>Tys.w e3 y) (fun _=>rfl) x.1)).symm
set_option maxHeartbeats 2000000 in
theorem w21 (x:(Int×(List (Tys.D e9)×(List (Tys.D e3)×Unit)))) (hx:((.cons (.int .i64) (.cons (.sl e9) (.cons (.sl e3) .nil))):Tys).Ok x):Sz (((.cons (.int .i64) (.cons (.sl e9) (.cons (.sl e3) .nil))):Tys).w x) (fun l=>F21 (x,((l,()),()))) :=
 (Sz.int (Sz.call1 (w81 (x.2.1,()) ⟨hx.2.1,trivial⟩) (Sz.call1 (w24 (x.2.2.1,()) ⟨hx.2.2.1,trivial⟩) Sz.nil)))
set_option maxHeartbeats 2000000 in
theorem w84 (x:(Int×(ByteArray×(ByteArray×(Int×(Int×Unit)))))) (hx:((.cons (.int .i64) (.cons .str (.cons .str (.cons (.int .i64) (.cons (.int .i64) .nil))))):Tys).Ok x):Sz (((.cons (.int .i64) (.cons .str (.cons .str (.cons (.int .i64) (.cons (.int .i64) .nil))))):Tys).w x) (fun l=>F84 (x,((l,()),()))) :=
 (Sz.int (Sz.str (a:=ByteArray.size x.2.1) hx.2.1 (Sz.str (a:=ByteArray.size x.2.2.1) hx.2.2.1 (Sz.int (Sz.int Sz.nil)))))
set_option maxHeartbeats 2000000 in
theorem w25 (x:(List (Tys.D e137)×Unit)) (hx:((.cons (.sl e137) .nil):Tys).Ok x):Sz (((.cons (.sl e137) .nil):Tys).w x) (fun l=>F25 (x,((l,()),()))) :=
 (Sz.list (xs:=x.1) (T:=fun y l=>F84 (y,((l,()),()))) (π:=fun c=>c.1.1) (wt:=fun y=>e137.w y) hx.1.1 (fun y hy=>szR_T (x:=y) (w84 y (Ok_mem hx.1.2 hy))))
set_option maxHeartbeats 2000000 in
theorem w80 (x:(Int×(Int×(Int×(ByteArray×(Int×(Int×(List (Tys.D e9)×(Int×(List (Tys.D e9)×(List (Tys.D e3)×(List (Tys.D e137)×(Bool×(List (Tys.D e127)×(ByteArray×Unit))))))))))))))) (hx:((.cons (.int .i64) (.cons (.int .i64) (.cons (.int .i64) (.cons .str (.cons (.int .i64) (.cons (.int .i64) (.cons (.sl e9) (.cons (.int .i64) (.cons (.sl e9) (.cons (.sl e3) (.cons (.sl e137) (.cons .bool (.cons (.sl e127) (.cons .str .nil)))))))))))))):Tys).Ok x):Sz (((.cons (.int .i64) (.cons (.int .i64) (.cons (.int .i64) (.cons .str (.cons (.int .i64) (.cons (.int .i64) (.cons (.sl e9) (.cons (.int .i64) (.cons (.sl e9) (.cons (.sl e3) (.cons (.sl e137) (.cons .bool (.cons (.sl e127) (.cons .str .nil)))))))))))))):Tys).w x) (fun l=>F80 (x,((l,()),()))) :=
 (Sz.int (Sz.int (Sz.int (Sz.str (a:=ByteArray.size x.2.2.2.1) hx.2.2.2.1 (Sz.call3 (w20 (x.2.2.2.2.1,(x.2.2.2.2.2.1,(x.2.2.2.2.2.2.1,()))) ⟨hx.2.2.2.2.1,⟨hx.2.2.2.2.2.1,⟨hx.2.2.2.2.2.2.1,trivial⟩⟩⟩) (Sz.call3 (w21 (x.2.2.2.2.2.2.2.1,(x.2.2.2.2.2.2.2.2.1,(x.2.2.2.2.2.2.2.2.2.1,()))) ⟨hx.2.2.2.2.2.2.2.1,⟨hx.2.2.2.2.2.2.2.2.1,⟨hx.2.2.2.2.2.2.2.2.2.1,trivial⟩⟩⟩) (Sz.call1 (w25 (x.2.2.2.2.2.2.2.2.2.2.1,()) ⟨hx.2.2.2.2.2.2.2.2.2.2.1,trivial⟩) (Sz.int (Sz.call1 (w18 (x.2.2.2.2.2.2.2.2.2.2.2.2.1,()) ⟨hx.2.2.2.2.2.2.2.2.2.2.2.2.1,trivial⟩) (Sz.str (a:=ByteArray.size x.2.2.2.2.2.2.2.2.2.2.2.2.2.1) hx.2.2.2.2.2.2.2.2.2.2.2.2.2.1 Sz.nil))))))))))
set_option maxHeartbeats 2000000 in
theorem w19 (x:(List (Tys.D e130)×Unit)) (hx:((.cons (.sl e130) .nil):Tys).Ok x):Sz (((.cons (.sl e130) .nil):Tys).w x) (fun l=>F19 (x,((l,()),()))) :=
 (Sz.list (xs:=x.1) (T:=fun y l=>F80 (y,((l,()),()))) (π:=fun c=>c.1.1) (wt:=fun y=>e130.w y) hx.1.1 (fun y hy=>szR_T (x:=y) (w80 y (Ok_mem hx.1.2 hy))))
set_option maxHeartbeats 2000000 in
theorem w82 (x:(Int×(Int×(ByteArray×Unit)))) (hx:((.cons (.int .i64) (.cons (.int .i64) (.cons .str .nil))):Tys).Ok x):Sz (((.cons (.int .i64) (.cons (.int .i64) (.cons .str .nil))):Tys).w x) (fun l=>F82 (x,((l,()),()))) :=
 (Sz.int (Sz.int (Sz.str (a:=ByteArray.size x.2.2.1) hx.2.2.1 Sz.nil)))
set_option maxHeartbeats 2000000 in
theorem w22 (x:(List (Tys.D e132)×Unit)) (hx:((.cons (.sl e132) .nil):Tys).Ok x):Sz (((.cons (.sl e132) .nil):Tys).w x) (fun l=>F22 (x,((l,()),()))) :=
 (Sz.list (xs:=x.1) (T:=fun y l=>F82 (y,((l,()),()))) (π:=fun c=>c.1.1) (wt:=fun y=>e132.w y) hx.1.1 (fun y hy=>szR_T (x:=y) (w82 y (Ok_mem hx.1.2 hy))))
set_option maxHeartbeats 2000000 in
theorem w83 (x:(Int×(Int×(ByteArray×Unit)))) (hx:((.cons (.int .i64) (.cons (.int .i64) (.cons .str .nil))):Tys).Ok x):Sz (((.cons (.int .i64) (.cons (.int .i64) (.cons .str .nil))):Tys).w x) (fun l=>F83 (x,((l,()),()))) :=
 (Sz.int (Sz.int (Sz.str (a:=ByteArray.size x.2.2.1) hx.2.2.1 Sz.nil)))
set_option maxHeartbeats 2000000 in
theorem w23 (x:(List (Tys.D e134)×Unit)) (hx:((.cons (.sl e134) .nil):Tys).Ok x):Sz (((.cons (.sl e134) .nil):Tys).w x) (fun l=>F23 (x,((l,()),()))) :=
 (Sz.list (xs:=x.1) (T:=fun y l=>F83 (y,((l,()),()))) (π:=fun c=>c.1.1) (wt:=fun y=>e134.w y) hx.1.1 (fun y hy=>szR_T (x:=y) (w83 y (Ok_mem hx.1.2 hy))))
set_option maxHeartbeats 2000000 in
theorem w85 (x:(Int×(List (Tys.D e130)×(Int×(Int×(List (Tys.D e9)×Unit)))))) (hx:((.cons (.int .i64) (.cons (.sl e130) (.cons (.int .i64) (.cons (.int .i64) (.cons (.sl e9) .nil))))):Tys).Ok x):Sz (((.cons (.int .i64) (.cons (.sl e130) (.cons (.int .i64) (.cons (.int .i64) (.cons (.sl e9) .nil))))):Tys).w x) (fun l=>F85 (x,((l,()),()))) :=
 (Sz.int (Sz.call1 (w19 (x.2.1,()) ⟨hx.2.1,trivial⟩) (Sz.call3 (w20 (x.2.2.1,(x.2.2.2.1,(x.2.2.2.2.1,()))) ⟨hx.2.2.1,⟨hx.2.2.2.1,⟨hx.2.2.2.2.1,trivial⟩⟩⟩) Sz.nil)))
set_option maxHeartbeats 2000000 in
theorem w26 (x:(List (Tys.D e140)×Unit)) (hx:((.cons (.sl e140) .nil):Tys).Ok x):Sz (((.cons (.sl e140) .nil):Tys).w x) (fun l=>F26 (x,((l,()),()))) :=
 (Sz.list (xs:=x.1) (T:=fun y l=>F85 (y,((l,()),()))) (π:=fun c=>c.1.1) (wt:=fun y=>e140.w y) hx.1.1 (fun y hy=>szR_T (x:=y) (w85 y (Ok_mem hx.1.2 hy))))
set_option maxHeartbeats 2000000 in
theorem w4 (x:(ByteArray×(Int×(Int×(List (Tys.D e191)×(List (Tys.D e127)×(List (Tys.D e130)×(Int×(Int×(Int×(Int×(List (Tys.D e9)×(Int×(List (Tys.D e9)×(List (Tys.D e3)×(Int×(List (Tys.D e132)×(List (Tys.D e134)×(List (Tys.D e3)×(List (Tys.D e137)×(List (Tys.D e140)×Unit))))))))))))))))))))) (hx:((.cons .str (.cons (.int .i64) (.cons (.int .i64) (.cons (.sl e191) (.cons (.sl e127) (.cons (.sl e130) (.cons (.int .i64) (.cons (.int .i64) (.cons (.int .i64) (.cons (.int .i64) (.cons (.sl e9) (.cons (.int .i64) (.cons (.sl e9) (.cons (.sl e3) (.cons (.int .i64) (.cons (.sl e132) (.cons (.sl e134) (.cons (.sl e3) (.cons (.sl e137) (.cons (.sl e140) .nil)))))))))))))))))))):Tys).Ok x):Sz (((.cons .str (.cons (.int .i64) (.cons (.int .i64) (.cons (.sl e191) (.cons (.sl e127) (.cons (.sl e130) (.cons (.int .i64) (.cons (.int .i64) (.cons (.int .i64) (.cons (.int .i64) (.cons (.sl e9) (.cons (.int .i64) (.cons (.sl e9) (.cons (.sl e3) (.cons (.int .i64) (.cons (.sl e132) (.cons (.sl e134) (.cons (.sl e3) (.cons (.sl e137) (.cons (.sl e140) .nil)))))))))))))))))))):Tys).w x) (fun l=>F4 (x,((l,()),()))) :=
 (Sz.str (a:=ByteArray.size x.1) hx.1 (Sz.int (Sz.call2 (w17 (x.2.2.1,(x.2.2.2.1,())) ⟨hx.2.2.1,⟨hx.2.2.2.1,trivial⟩⟩) (Sz.call1 (w18 (x.2.2.2.2.1,()) ⟨hx.2.2.2.2.1,trivial⟩) (Sz.call1 (w19 (x.2.2.2.2.2.1,()) ⟨hx.2.2.2.2.2.1,trivial⟩) (Sz.int (Sz.int (Sz.call3 (w20 (x.2.2.2.2.2.2.2.2.1,(x.2.2.2.2.2.2.2.2.2.1,(x.2.2.2.2.2.2.2.2.2.2.1,()))) ⟨hx.2.2.2.2.2.2.2.2.1,⟨hx.2.2.2.2.2.2.2.2.2.1,⟨hx.2.2.2.2.2.2.2.2.2.2.1,trivial⟩⟩⟩) (Sz.call3 (w21 (x.2.2.2.2.2.2.2.2.2.2.2.1,(x.2.2.2.2.2.2.2.2.2.2.2.2.1,(x.2.2.2.2.2.2.2.2.2.2.2.2.2.1,()))) ⟨hx.2.2.2.2.2.2.2.2.2.2.2.1,⟨hx.2.2.2.2.2.2.2.2.2.2.2.2.1,⟨hx.2.2.2.2.2.2.2.2.2.2.2.2.2.1,trivial⟩⟩⟩) (Sz.int (Sz.call1 (w22 (x.2.2.2.2.2.2.2.2.2.2.2.2.2.2.2.1,()) ⟨hx.2.2.2.2.2.2.2.2.2.2.2.2.2.2.2.1,trivial⟩) (Sz.call1 (w23 (x.2.2.2.2.2.2.2.2.2.2.2.2.2.2.2.2.1,()) ⟨hx.2.2.2.2.2.2.2.2.2.2.2.2.2.2.2.2.1,trivial⟩) (Sz.call1 (w24 (x.2.2.2.2.2.2.2.2.2.2.2.2.2.2.2.2.2.1,()) ⟨hx.2.2.2.2.2.2.2.2.2.2.2.2.2.2.2.2.2.1,trivial⟩) (Sz.call1 (w25 (x.2.2.2.2.2.2.2.2.2.2.2.2.2.2.2.2.2.2.1,()) ⟨hx.2.2.2.2.2.2.2.2.2.2.2.2.2.2.2.2.2.2.1,trivial⟩) (Sz.call1 (w26 (x.2.2.2.2.2.2.2.2.2.2.2.2.2.2.2.2.2.2.2.1,()) ⟨hx.2.2.2.2.2.2.2.2.2.2.2.2.2.2.2.2.2.2.2.1,trivial⟩) Sz.nil)))))))))))))))
set_option maxHeartbeats 2000000 in
theorem t216 (x:(Int×(Int×Unit))) (hx:((.cons (.int .i64) (.cons (.int .i64) .nil)):Tys).w x≤1048576):F216 (x,())=some (x,()) :=
 rfl
set_option maxHeartbeats 2000000 in
theorem t194 (x:(List (Tys.D e243)×Unit)) (hx:((.cons (.sl e243) .nil):Tys).w x≤1048576):F194 (x,())=some (x,()) :=
 (toList (A:=Tys.D e243) (B:=Tys.D e229) (xs:=x.1) (T:=fun y=>F216 (y,())) (π:=fun c=>c.1) (φ:=fun y=>y) (bytes:=16) (by decide) (by decide) (w_len hx) (fun y hy=>⟨_,t216 y (w_el hx rfl hy),rfl⟩)).trans (congrArg (fun l=>some ((l,()),())) (List.map_id' x.1))
set_option maxHeartbeats 2000000 in
theorem t159 (x:(ByteArray×(Int×(Int×(Int×(List (Tys.D e243)×Unit)))))) (hx:((.cons .str (.cons (.int .i64) (.cons (.int .i64) (.cons (.int .i64) (.cons (.sl e243) .nil))))):Tys).w x≤1048576):F159 (x,())=some (x,()) :=
 (bind_eq (t194 (x.2.2.2.2.1,()) (w_1 (w_tl (w_tl (w_tl (w_tl hx)))))) rfl)
set_option maxHeartbeats 2000000 in
theorem t103 (x:(List (Tys.D e191)×Unit)) (hx:((.cons (.sl e191) .nil):Tys).w x≤1048576):F103 (x,())=some (x,()) :=
 (toList (A:=Tys.D e191) (B:=Tys.D e207) (xs:=x.1) (T:=fun y=>F159 (y,())) (π:=fun c=>c.1) (φ:=fun y=>y) (bytes:=64) (by decide) (by decide) (w_len hx) (fun y hy=>⟨_,t159 y (w_el hx rfl hy),rfl⟩)).trans (congrArg (fun l=>some ((l,()),())) (List.map_id' x.1))
set_option maxHeartbeats 2000000 in
theorem t30 (x:(Int×(List (Tys.D e191)×Unit))) (hx:((.cons (.int .i64) (.cons (.sl e191) .nil)):Tys).w x≤1048576):F30 (x,())=some (x,()) :=
 (bind_eq (t103 (x.2.1,()) (w_1 (w_tl hx))) rfl)
set_option maxHeartbeats 2000000 in
theorem t104 (x:(ByteArray×(Int×Unit))) (hx:((.cons .str (.cons (.int .i64) .nil)):Tys).w x≤1048576):F104 (x,())=some (x,()) :=
 rfl
set_option maxHeartbeats 2000000 in
theorem t31 (x:(List (Tys.D e127)×Unit)) (hx:((.cons (.sl e127) .nil):Tys).w x≤1048576):F31 (x,())=some (x,()) :=
 (toList (A:=Tys.D e127) (B:=Tys.D e163) (xs:=x.1) (T:=fun y=>F104 (y,())) (π:=fun c=>c.1) (φ:=fun y=>y) (bytes:=24) (by decide) (by decide) (w_len hx) (fun y hy=>⟨_,t104 y (w_el hx rfl hy),rfl⟩)).trans (congrArg (fun l=>some ((l,()),())) (List.map_id' x.1))
set_option maxHeartbeats 2000000 in
theorem t106 (x:(List (Tys.D e9)×Unit)) (hx:((.cons (.sl e9) .nil):Tys).w x≤1048576):F106 (x,())=some (x,()) :=
 (toList (A:=Tys.D e9) (B:=Tys.D e9) (xs:=x.1) (T:=fun y=>some y) (π:=fun c=>c) (φ:=fun y=>y) (bytes:=16) (by decide) (by decide) (w_len hx) (fun y hy=>⟨_,rfl,rfl⟩)).trans (congrArg (fun l=>some ((l,()),())) (List.map_id' x.1))
set_option maxHeartbeats 2000000 in
theorem t33 (x:(Int×(Int×(List (Tys.D e9)×Unit)))) (hx:((.cons (.int .i64) (.cons (.int .i64) (.cons (.sl e9) .nil))):Tys).w x≤1048576):F33 (x,())=some (x,()) :=
 (bind_eq (t106 (x.2.2.1,()) (w_1 (w_tl (w_tl hx)))) rfl)
set_option maxHeartbeats 2000000 in
theorem t37 (x:(List (Tys.D e3)×Unit)) (hx:((.cons (.sl e3) .nil):Tys).w x≤1048576):F37 (x,())=some (x,()) :=
 (toList (A:=Tys.D e3) (B:=Tys.D e3) (xs:=x.1) (T:=fun y=>some y) (π:=fun c=>c) (φ:=fun y=>y) (bytes:=8) (by decide) (by decide) (w_len hx) (fun y hy=>⟨_,rfl,rfl⟩)).trans (congrArg (fun l=>some ((l,()),())) (List.map_id' x.1))
set_option maxHeartbeats 2000000 in
theorem t34 (x:(Int×(List (Tys.D e9)×(List (Tys.D e3)×Unit)))) (hx:((.cons (.int .i64) (.cons (.sl e9) (.cons (.sl e3) .nil))):Tys).w x≤1048576):F34 (x,())=some (x,()) :=
 (bind_eq (t106 (x.2.1,()) (w_1 (w_tl hx))) (bind_eq (t37 (x.2.2.1,()) (w_1 (w_tl (w_tl hx)))) rfl))
set_option maxHeartbeats 2000000 in
theorem t109 (x:(Int×(ByteArray×(ByteArray×(Int×(Int×Unit)))))) (hx:((.cons (.int .i64) (.cons .str (.cons .str (.cons (.int .i64) (.cons (.int .i64) .nil))))):Tys).w x≤1048576):F109 (x,())=some (x,()) :=
 rfl
set_option maxHeartbeats 2000000 in
theorem t38 (x:(List (Tys.D e137)×Unit)) (hx:((.cons (.sl e137) .nil):Tys).w x≤1048576):F38 (x,())=some (x,()) :=
 (toList (A:=Tys.D e137) (B:=Tys.D e169) (xs:=x.1) (T:=fun y=>F109 (y,())) (π:=fun c=>c.1) (φ:=fun y=>y) (bytes:=56) (by decide) (by decide) (w_len hx) (fun y hy=>⟨_,t109 y (w_el hx rfl hy),rfl⟩)).trans (congrArg (fun l=>some ((l,()),())) (List.map_id' x.1))
set_option maxHeartbeats 2000000 in
theorem t105 (x:(Int×(Int×(Int×(ByteArray×(Int×(Int×(List (Tys.D e9)×(Int×(List (Tys.D e9)×(List (Tys.D e3)×(List (Tys.D e137)×(Bool×(List (Tys.D e127)×(ByteArray×Unit))))))))))))))) (hx:((.cons (.int .i64) (.cons (.int .i64) (.cons (.int .i64) (.cons .str (.cons (.int .i64) (.cons (.int .i64) (.cons (.sl e9) (.cons (.int .i64) (.cons (.sl e9) (.cons (.sl e3) (.cons (.sl e137) (.cons .bool (.cons (.sl e127) (.cons .str .nil)))))))))))))):Tys).w x≤1048576):F105 (x,())=some (x,()) :=
 (bind_eq (t33 (x.2.2.2.2.1,(x.2.2.2.2.2.1,(x.2.2.2.2.2.2.1,()))) (w_3 (w_tl (w_tl (w_tl (w_tl hx)))))) (bind_eq (t34 (x.2.2.2.2.2.2.2.1,(x.2.2.2.2.2.2.2.2.1,(x.2.2.2.2.2.2.2.2.2.1,()))) (w_3 (w_tl (w_tl (w_tl (w_tl (w_tl (w_tl (w_tl hx))))))))) (bind_eq (t38 (x.2.2.2.2.2.2.2.2.2.2.1,()) (w_1 (w_tl (w_tl (w_tl (w_tl (w_tl (w_tl (w_tl (w_tl (w_tl (w_tl hx)))))))))))) (bind_eq (t31 (x.2.2.2.2.2.2.2.2.2.2.2.2.1,()) (w_1 (w_tl (w_tl (w_tl (w_tl (w_tl (w_tl (w_tl (w_tl (w_tl (w_tl (w_tl (w_tl hx)))))))))))))) rfl))))
set_option maxHeartbeats 2000000 in
theorem t32 (x:(List (Tys.D e130)×Unit)) (hx:((.cons (.sl e130) .nil):Tys).w x≤1048576):F32 (x,())=some (x,()) :=
 (toList (A:=Tys.D e130) (B:=Tys.D e154) (xs:=x.1) (T:=fun y=>F105 (y,())) (π:=fun c=>c.1) (φ:=fun y=>y) (bytes:=208) (by decide) (by decide) (w_len hx) (fun y hy=>⟨_,t105 y (w_el hx rfl hy),rfl⟩)).trans (congrArg (fun l=>some ((l,()),())) (List.map_id' x.1))
set_option maxHeartbeats 2000000 in
theorem t107 (x:(Int×(Int×(ByteArray×Unit)))) (hx:((.cons (.int .i64) (.cons (.int .i64) (.cons .str .nil))):Tys).w x≤1048576):F107 (x,())=some (x,()) :=
 rfl
set_option maxHeartbeats 2000000 in
theorem t35 (x:(List (Tys.D e132)×Unit)) (hx:((.cons (.sl e132) .nil):Tys).w x≤1048576):F35 (x,())=some (x,()) :=
 (toList (A:=Tys.D e132) (B:=Tys.D e105) (xs:=x.1) (T:=fun y=>F107 (y,())) (π:=fun c=>c.1) (φ:=fun y=>y) (bytes:=32) (by decide) (by decide) (w_len hx) (fun y hy=>⟨_,t107 y (w_el hx rfl hy),rfl⟩)).trans (congrArg (fun l=>some ((l,()),())) (List.map_id' x.1))
set_option maxHeartbeats 2000000 in
theorem t108 (x:(Int×(Int×(ByteArray×Unit)))) (hx:((.cons (.int .i64) (.cons (.int .i64) (.cons .str .nil))):Tys).w x≤1048576):F108 (x,())=some (x,()) :=
 rfl
set_option maxHeartbeats 2000000 in
theorem t36 (x:(List (Tys.D e134)×Unit)) (hx:((.cons (.sl e134) .nil):Tys).w x≤1048576):F36 (x,())=some (x,()) :=
 (toList (A:=Tys.D e134) (B:=Tys.D e107) (xs:=x.1) (T:=fun y=>F108 (y,())) (π:=fun c=>c.1) (φ:=fun y=>y) (bytes:=32) (by decide) (by decide) (w_len hx) (fun y hy=>⟨_,t108 y (w_el hx rfl hy),rfl⟩)).trans (congrArg (fun l=>some ((l,()),())) (List.map_id' x.1))
set_option maxHeartbeats 2000000 in
theorem t110 (x:(Int×(List (Tys.D e130)×(Int×(Int×(List (Tys.D e9)×Unit)))))) (hx:((.cons (.int .i64) (.cons (.sl e130) (.cons (.int .i64) (.cons (.int .i64) (.cons (.sl e9) .nil))))):Tys).w x≤1048576):F110 (x,())=some (x,()) :=
 (bind_eq (t32 (x.2.1,()) (w_1 (w_tl hx))) (bind_eq (t33 (x.2.2.1,(x.2.2.2.1,(x.2.2.2.2.1,()))) (w_3 (w_tl (w_tl hx)))) rfl))
set_option maxHeartbeats 2000000 in
theorem t39 (x:(List (Tys.D e140)×Unit)) (hx:((.cons (.sl e140) .nil):Tys).w x≤1048576):F39 (x,())=some (x,()) :=
 (toList (A:=Tys.D e140) (B:=Tys.D e146) (xs:=x.1) (T:=fun y=>F110 (y,())) (π:=fun c=>c.1) (φ:=fun y=>y) (bytes:=72) (by decide) (by decide) (w_len hx) (fun y hy=>⟨_,t110 y (w_el hx rfl hy),rfl⟩)).trans (congrArg (fun l=>some ((l,()),())) (List.map_id' x.1))
set_option maxHeartbeats 2000000 in
theorem t6 (x:(ByteArray×(Int×(Int×(List (Tys.D e191)×(List (Tys.D e127)×(List (Tys.D e130)×(Int×(Int×(Int×(Int×(List (Tys.D e9)×(Int×(List (Tys.D e9)×(List (Tys.D e3)×(Int×(List (Tys.D e132)×(List (Tys.D e134)×(List (Tys.D e3)×(List (Tys.D e137)×(List (Tys.D e140)×Unit))))))))))))))))))))) (hx:((.cons .str (.cons (.int .i64) (.cons (.int .i64) (.cons (.sl e191) (.cons (.sl e127) (.cons (.sl e130) (.cons (.int .i64) (.cons (.int .i64) (.cons (.int .i64) (.cons (.int .i64) (.cons (.sl e9) (.cons (.int .i64) (.cons (.sl e9) (.cons (.sl e3) (.cons (.int .i64) (.cons (.sl e132) (.cons (.sl e134) (.cons (.sl e3) (.cons (.sl e137) (.cons (.sl e140) .nil)))))))))))))))))))):Tys).w x≤1048576):F6 (x,())=some (x,()) :=
 (bind_eq (t30 (x.2.2.1,(x.2.2.2.1,())) (w_2 (w_tl (w_tl hx)))) (bind_eq (t31 (x.2.2.2.2.1,()) (w_1 (w_tl (w_tl (w_tl (w_tl hx)))))) (bind_eq (t32 (x.2.2.2.2.2.1,()) (w_1 (w_tl (w_tl (w_tl (w_tl (w_tl hx))))))) (bind_eq (t33 (x.2.2.2.2.2.2.2.2.1,(x.2.2.2.2.2.2.2.2.2.1,(x.2.2.2.2.2.2.2.2.2.2.1,()))) (w_3 (w_tl (w_tl (w_tl (w_tl (w_tl (w_tl (w_tl (w_tl hx)))))))))) (bind_eq (t34 (x.2.2.2.2.2.2.2.2.2.2.2.1,(x.2.2.2.2.2.2.2.2.2.2.2.2.1,(x.2.2.2.2.2.2.2.2.2.2.2.2.2.1,()))) (w_3 (w_tl (w_tl (w_tl (w_tl (w_tl (w_tl (w_tl (w_tl (w_tl (w_tl (w_tl hx))))))))))))) (bind_eq (t35 (x.2.2.2.2.2.2.2.2.2.2.2.2.2.2.2.1,()) (w_1 (w_tl (w_tl (w_tl (w_tl (w_tl (w_tl (w_tl (w_tl (w_tl (w_tl (w_tl (w_tl (w_tl (w_tl (w_tl hx))))))))))))))))) (bind_eq (t36 (x.2.2.2.2.2.2.2.2.2.2.2.2.2.2.2.2.1,()) (w_1 (w_tl (w_tl (w_tl (w_tl (w_tl (w_tl (w_tl (w_tl (w_tl (w_tl (w_tl (w_tl (w_tl (w_tl (w_tl (w_tl hx)))))))))))))))))) (bind_eq (t37 (x.2.2.2.2.2.2.2.2.2.2.2.2.2.2.2.2.2.1,()) (w_1 (w_tl (w_tl (w_tl (w_tl (w_tl (w_tl (w_tl (w_tl (w_tl (w_tl (w_tl (w_tl (w_tl (w_tl (w_tl (w_tl (w_tl hx))))))))))))))))))) (bind_eq (t38 (x.2.2.2.2.2.2.2.2.2.2.2.2.2.2.2.2.2.2.1,()) (w_1 (w_tl (w_tl (w_tl (w_tl (w_tl (w_tl (w_tl (w_tl (w_tl (w_tl (w_tl (w_tl (w_tl (w_tl (w_tl (w_tl (w_tl (w_tl hx)))))))))))))))))))) (bind_eq (t39 (x.2.2.2.2.2.2.2.2.2.2.2.2.2.2.2.2.2.2.2.1,()) (w_1 (w_tl (w_tl (w_tl (w_tl (w_tl (w_tl (w_tl (w_tl (w_tl (w_tl (w_tl (w_tl (w_tl (w_tl (w_tl (w_tl (w_tl (w_tl (w_tl hx))))))))))))))))))))) rfl))))))))))
set_option maxHeartbeats 2000000 in
theorem s229 (x:(Int×(Int×Unit))) (hx:((.cons (.int .i64) (.cons (.int .i64) .nil)):Tys).Ok x):F229 (x,(x,()))=some (B1 true) :=
 (eq_int (eq_int rfl))
set_option maxHeartbeats 2000000 in
theorem s208 (x:(List (Tys.D e229)×Unit)) (hx:((.cons (.sl e229) .nil):Tys).Ok x):F208 (x,(x,()))=some (B1 true) :=
 eqList (xs:=x.1) (E:=fun y z v=>(F229 (y,(z,()))).bind fun r=>bif (!r.1.1) then some (.inr (.inr (B1 false))) else some (.inl (iAdd .i64 v.1 1,()))) hx.1.1 (fun y hy v=>eq_call (s229 y (Ok_mem hx.1.2 hy)) rfl)
set_option maxHeartbeats 2000000 in
theorem s181 (x:(ByteArray×(Int×(Int×(Int×(List (Tys.D e229)×Unit)))))) (hx:((.cons .str (.cons (.int .i64) (.cons (.int .i64) (.cons (.int .i64) (.cons (.sl e229) .nil))))):Tys).Ok x):F181 (x,(x,()))=some (B1 true) :=
 (eq_str (eq_int (eq_int (eq_int (eq_call (s208 (x.2.2.2.2.1,()) ⟨hx.2.2.2.2.1,trivial⟩) rfl)))))
set_option maxHeartbeats 2000000 in
theorem s133 (x:(List (Tys.D e207)×Unit)) (hx:((.cons (.sl e207) .nil):Tys).Ok x):F133 (x,(x,()))=some (B1 true) :=
 eqList (xs:=x.1) (E:=fun y z v=>(F181 (y,(z,()))).bind fun r=>bif (!r.1.1) then some (.inr (.inr (B1 false))) else some (.inl (iAdd .i64 v.1 1,()))) hx.1.1 (fun y hy v=>eq_call (s181 y (Ok_mem hx.1.2 hy)) rfl)
set_option maxHeartbeats 2000000 in
theorem s43 (x:(Int×(List (Tys.D e207)×Unit))) (hx:((.cons (.int .i64) (.cons (.sl e207) .nil)):Tys).Ok x):F43 (x,(x,()))=some (B1 true) :=
 (eq_int (eq_call (s133 (x.2.1,()) ⟨hx.2.1,trivial⟩) rfl))
set_option maxHeartbeats 2000000 in
theorem s134 (x:(ByteArray×(Int×Unit))) (hx:((.cons .str (.cons (.int .i64) .nil)):Tys).Ok x):F134 (x,(x,()))=some (B1 true) :=
 (eq_str (eq_int rfl))
set_option maxHeartbeats 2000000 in
theorem s44 (x:(List (Tys.D e163)×Unit)) (hx:((.cons (.sl e163) .nil):Tys).Ok x):F44 (x,(x,()))=some (B1 true) :=
 eqList (xs:=x.1) (E:=fun y z v=>(F134 (y,(z,()))).bind fun r=>bif (!r.1.1) then some (.inr (.inr (B1 false))) else some (.inl (iAdd .i64 v.1 1,()))) hx.1.1 (fun y hy v=>eq_call (s134 y (Ok_mem hx.1.2 hy)) rfl)
set_option maxHeartbeats 2000000 in
theorem s136 (x:(List (Tys.D e9)×Unit)) (hx:((.cons (.sl e9) .nil):Tys).Ok x):F136 (x,(x,()))=some (B1 true) :=
 eqList (xs:=x.1) (E:=fun y z v=>bif !sEq y.1 z.1 then some (.inr (.inr (B1 false))) else some (.inl (iAdd .i64 v.1 1,()))) hx.1.1 (fun y hy v=>eq_str rfl)
set_option maxHeartbeats 2000000 in
theorem s46 (x:(Int×(Int×(List (Tys.D e9)×Unit)))) (hx:((.cons (.int .i64) (.cons (.int .i64) (.cons (.sl e9) .nil))):Tys).Ok x):F46 (x,(x,()))=some (B1 true) :=
 (eq_int (eq_int (eq_call (s136 (x.2.2.1,()) ⟨hx.2.2.1,trivial⟩) rfl)))
set_option maxHeartbeats 2000000 in
theorem s50 (x:(List (Tys.D e3)×Unit)) (hx:((.cons (.sl e3) .nil):Tys).Ok x):F50 (x,(x,()))=some (B1 true) :=
 eqList (xs:=x.1) (E:=fun y z v=>bif !iEq y.1 z.1 then some (.inr (.inr (B1 false))) else some (.inl (iAdd .i64 v.1 1,()))) hx.1.1 (fun y hy v=>eq_int rfl)
set_option maxHeartbeats 2000000 in
theorem s47 (x:(Int×(List (Tys.D e9)×(List (Tys.D e3)×Unit)))) (hx:((.cons (.int .i64) (.cons (.sl e9) (.cons (.sl e3) .nil))):Tys).Ok x):F47 (x,(x,()))=some (B1 true) :=
 (eq_int (eq_call (s136 (x.2.1,()) ⟨hx.2.1,trivial⟩) (eq_call (s50 (x.2.2.1,()) ⟨hx.2.2.1,trivial⟩) rfl)))
set_option maxHeartbeats 2000000 in
theorem s139 (x:(Int×(ByteArray×(ByteArray×(Int×(Int×Unit)))))) (hx:((.cons (.int .i64) (.cons .str (.cons .str (.cons (.int .i64) (.cons (.int .i64) .nil))))):Tys).Ok x):F139 (x,(x,()))=some (B1 true) :=
 (eq_int (eq_str (eq_str (eq_int (eq_int rfl)))))
set_option maxHeartbeats 2000000 in
theorem s51 (x:(List (Tys.D e169)×Unit)) (hx:((.cons (.sl e169) .nil):Tys).Ok x):F51 (x,(x,()))=some (B1 true) :=
 eqList (xs:=x.1) (E:=fun y z v=>(F139 (y,(z,()))).bind fun r=>bif (!r.1.1) then some (.inr (.inr (B1 false))) else some (.inl (iAdd .i64 v.1 1,()))) hx.1.1 (fun y hy v=>eq_call (s139 y (Ok_mem hx.1.2 hy)) rfl)
set_option maxHeartbeats 2000000 in
theorem s135 (x:(Int×(Int×(Int×(ByteArray×(Int×(Int×(List (Tys.D e9)×(Int×(List (Tys.D e9)×(List (Tys.D e3)×(List (Tys.D e169)×(Bool×(List (Tys.D e163)×(ByteArray×Unit))))))))))))))) (hx:((.cons (.int .i64) (.cons (.int .i64) (.cons (.int .i64) (.cons .str (.cons (.int .i64) (.cons (.int .i64) (.cons (.sl e9) (.cons (.int .i64) (.cons (.sl e9) (.cons (.sl e3) (.cons (.sl e169) (.cons .bool (.cons (.sl e163) (.cons .str .nil)))))))))))))):Tys).Ok x):F135 (x,(x,()))=some (B1 true) :=
 (eq_int (eq_int (eq_int (eq_str (eq_call (s46 (x.2.2.2.2.1,(x.2.2.2.2.2.1,(x.2.2.2.2.2.2.1,()))) ⟨hx.2.2.2.2.1,⟨hx.2.2.2.2.2.1,⟨hx.2.2.2.2.2.2.1,trivial⟩⟩⟩) (eq_call (s47 (x.2.2.2.2.2.2.2.1,(x.2.2.2.2.2.2.2.2.1,(x.2.2.2.2.2.2.2.2.2.1,()))) ⟨hx.2.2.2.2.2.2.2.1,⟨hx.2.2.2.2.2.2.2.2.1,⟨hx.2.2.2.2.2.2.2.2.2.1,trivial⟩⟩⟩) (eq_call (s51 (x.2.2.2.2.2.2.2.2.2.2.1,()) ⟨hx.2.2.2.2.2.2.2.2.2.2.1,trivial⟩) (eq_bool (eq_call (s44 (x.2.2.2.2.2.2.2.2.2.2.2.2.1,()) ⟨hx.2.2.2.2.2.2.2.2.2.2.2.2.1,trivial⟩) (eq_str rfl))))))))))
set_option maxHeartbeats 2000000 in
theorem s45 (x:(List (Tys.D e154)×Unit)) (hx:((.cons (.sl e154) .nil):Tys).Ok x):F45 (x,(x,()))=some (B1 true) :=
 eqList (xs:=x.1) (E:=fun y z v=>(F135 (y,(z,()))).bind fun r=>bif (!r.1.1) then some (.inr (.inr (B1 false))) else some (.inl (iAdd .i64 v.1 1,()))) hx.1.1 (fun y hy v=>eq_call (s135 y (Ok_mem hx.1.2 hy)) rfl)
set_option maxHeartbeats 2000000 in
theorem s137 (x:(Int×(Int×(ByteArray×Unit)))) (hx:((.cons (.int .i64) (.cons (.int .i64) (.cons .str .nil))):Tys).Ok x):F137 (x,(x,()))=some (B1 true) :=
 (eq_int (eq_int (eq_str rfl)))
set_option maxHeartbeats 2000000 in
theorem s48 (x:(List (Tys.D e105)×Unit)) (hx:((.cons (.sl e105) .nil):Tys).Ok x):F48 (x,(x,()))=some (B1 true) :=
 eqList (xs:=x.1) (E:=fun y z v=>(F137 (y,(z,()))).bind fun r=>bif (!r.1.1) then some (.inr (.inr (B1 false))) else some (.inl (iAdd .i64 v.1 1,()))) hx.1.1 (fun y hy v=>eq_call (s137 y (Ok_mem hx.1.2 hy)) rfl)
set_option maxHeartbeats 2000000 in
theorem s138 (x:(Int×(Int×(ByteArray×Unit)))) (hx:((.cons (.int .i64) (.cons (.int .i64) (.cons .str .nil))):Tys).Ok x):F138 (x,(x,()))=some (B1 true) :=
 (eq_int (eq_int (eq_str rfl)))
set_option maxHeartbeats 2000000 in
theorem s49 (x:(List (Tys.D e107)×Unit)) (hx:((.cons (.sl e107) .nil):Tys).Ok x):F49 (x,(x,()))=some (B1 true) :=
 eqList (xs:=x.1) (E:=fun y z v=>(F138 (y,(z,()))).bind fun r=>bif (!r.1.1) then some (.inr (.inr (B1 false))) else some (.inl (iAdd .i64 v.1 1,()))) hx.1.1 (fun y hy v=>eq_call (s138 y (Ok_mem hx.1.2 hy)) rfl)
set_option maxHeartbeats 2000000 in
theorem s140 (x:(Int×(List (Tys.D e154)×(Int×(Int×(List (Tys.D e9)×Unit)))))) (hx:((.cons (.int .i64) (.cons (.sl e154) (.cons (.int .i64) (.cons (.int .i64) (.cons (.sl e9) .nil))))):Tys).Ok x):F140 (x,(x,()))=some (B1 true) :=
 (eq_int (eq_call (s45 (x.2.1,()) ⟨hx.2.1,trivial⟩) (eq_call (s46 (x.2.2.1,(x.2.2.2.1,(x.2.2.2.2.1,()))) ⟨hx.2.2.1,⟨hx.2.2.2.1,⟨hx.2.2.2.2.1,trivial⟩⟩⟩) rfl)))
set_option maxHeartbeats 2000000 in
theorem s52 (x:(List (Tys.D e146)×Unit)) (hx:((.cons (.sl e146) .nil):Tys).Ok x):F52 (x,(x,()))=some (B1 true) :=
 eqList (xs:=x.1) (E:=fun y z v=>(F140 (y,(z,()))).bind fun r=>bif (!r.1.1) then some (.inr (.inr (B1 false))) else some (.inl (iAdd .i64 v.1 1,()))) hx.1.1 (fun y hy v=>eq_call (s140 y (Ok_mem hx.1.2 hy)) rfl)
set_option maxHeartbeats 2000000 in
theorem s8 (x:(ByteArray×(Int×(Int×(List (Tys.D e207)×(List (Tys.D e163)×(List (Tys.D e154)×(Int×(Int×(Int×(Int×(List (Tys.D e9)×(Int×(List (Tys.D e9)×(List (Tys.D e3)×(Int×(List (Tys.D e105)×(List (Tys.D e107)×(List (Tys.D e3)×(List (Tys.D e169)×(List (Tys.D e146)×Unit))))))))))))))))))))) (hx:((.cons .str (.cons (.int .i64) (.cons (.int .i64) (.cons (.sl e207) (.cons (.sl e163) (.cons (.sl e154) (.cons (.int .i64) (.cons (.int .i64) (.cons (.int .i64) (.cons (.int .i64) (.cons (.sl e9) (.cons (.int .i64) (.cons (.sl e9) (.cons (.sl e3) (.cons (.int .i64) (.cons (.sl e105) (.cons (.sl e107) (.cons (.sl e3) (.cons (.sl e169) (.cons (.sl e146) .nil)))))))))))))))))))):Tys).Ok x):F8 (x,(x,()))=some (B1 true) :=
 (eq_str (eq_int (eq_call (s43 (x.2.2.1,(x.2.2.2.1,())) ⟨hx.2.2.1,⟨hx.2.2.2.1,trivial⟩⟩) (eq_call (s44 (x.2.2.2.2.1,()) ⟨hx.2.2.2.2.1,trivial⟩) (eq_call (s45 (x.2.2.2.2.2.1,()) ⟨hx.2.2.2.2.2.1,trivial⟩) (eq_int (eq_int (eq_call (s46 (x.2.2.2.2.2.2.2.2.1,(x.2.2.2.2.2.2.2.2.2.1,(x.2.2.2.2.2.2.2.2.2.2.1,()))) ⟨hx.2.2.2.2.2.2.2.2.1,⟨hx.2.2.2.2.2.2.2.2.2.1,⟨hx.2.2.2.2.2.2.2.2.2.2.1,trivial⟩⟩⟩) (eq_call (s47 (x.2.2.2.2.2.2.2.2.2.2.2.1,(x.2.2.2.2.2.2.2.2.2.2.2.2.1,(x.2.2.2.2.2.2.2.2.2.2.2.2.2.1,()))) ⟨hx.2.2.2.2.2.2.2.2.2.2.2.1,⟨hx.2.2.2.2.2.2.2.2.2.2.2.2.1,⟨hx.2.2.2.2.2.2.2.2.2.2.2.2.2.1,trivial⟩⟩⟩) (eq_int (eq_call (s48 (x.2.2.2.2.2.2.2.2.2.2.2.2.2.2.2.1,()) ⟨hx.2.2.2.2.2.2.2.2.2.2.2.2.2.2.2.1,trivial⟩) (eq_call (s49 (x.2.2.2.2.2.2.2.2.2.2.2.2.2.2.2.2.1,()) ⟨hx.2.2.2.2.2.2.2.2.2.2.2.2.2.2.2.2.1,trivial⟩) (eq_call (s50 (x.2.2.2.2.2.2.2.2.2.2.2.2.2.2.2.2.2.1,()) ⟨hx.2.2.2.2.2.2.2.2.2.2.2.2.2.2.2.2.2.1,trivial⟩) (eq_call (s51 (x.2.2.2.2.2.2.2.2.2.2.2.2.2.2.2.2.2.2.1,()) ⟨hx.2.2.2.2.2.2.2.2.2.2.2.2.2.2.2.2.2.2.1,trivial⟩) (eq_call (s52 (x.2.2.2.2.2.2.2.2.2.2.2.2.2.2.2.2.2.2.2.1,()) ⟨hx.2.2.2.2.2.2.2.2.2.2.2.2.2.2.2.2.2.2.2.1,trivial⟩) rfl)))))))))))))))
set_option maxHeartbeats 2000000 in
theorem s53 (x:(Int×(ByteArray×(Int×(List (Tys.D e154)×(Int×(Int×(ByteArray×(Int×(Int×(ByteArray×(Int×(Int×(List (Tys.D e9)×(Int×(List (Tys.D e9)×(List (Tys.D e3)×Unit))))))))))))))))) (hx:((.cons (.int .i64) (.cons .str (.cons (.int .i64) (.cons (.sl e154) (.cons (.int .i64) (.cons (.int .i64) (.cons .str (.cons (.int .i64) (.cons (.int .i64) (.cons .str (.cons (.int .i64) (.cons (.int .i64) (.cons (.sl e9) (.cons (.int .i64) (.cons (.sl e9) (.cons (.sl e3) .nil)))))))))))))))):Tys).Ok x):F53 (x,(x,()))=some (B1 true) :=
 (eq_int (eq_str (eq_int (eq_call (s45 (x.2.2.2.1,()) ⟨hx.2.2.2.1,trivial⟩) (eq_call (s137 (x.2.2.2.2.1,(x.2.2.2.2.2.1,(x.2.2.2.2.2.2.1,()))) ⟨hx.2.2.2.2.1,⟨hx.2.2.2.2.2.1,⟨hx.2.2.2.2.2.2.1,trivial⟩⟩⟩) (eq_call (s138 (x.2.2.2.2.2.2.2.1,(x.2.2.2.2.2.2.2.2.1,(x.2.2.2.2.2.2.2.2.2.1,()))) ⟨hx.2.2.2.2.2.2.2.1,⟨hx.2.2.2.2.2.2.2.2.1,⟨hx.2.2.2.2.2.2.2.2.2.1,trivial⟩⟩⟩) (eq_call (s46 (x.2.2.2.2.2.2.2.2.2.2.1,(x.2.2.2.2.2.2.2.2.2.2.2.1,(x.2.2.2.2.2.2.2.2.2.2.2.2.1,()))) ⟨hx.2.2.2.2.2.2.2.2.2.2.1,⟨hx.2.2.2.2.2.2.2.2.2.2.2.1,⟨hx.2.2.2.2.2.2.2.2.2.2.2.2.1,trivial⟩⟩⟩) (eq_call (s47 (x.2.2.2.2.2.2.2.2.2.2.2.2.2.1,(x.2.2.2.2.2.2.2.2.2.2.2.2.2.2.1,(x.2.2.2.2.2.2.2.2.2.2.2.2.2.2.2.1,()))) ⟨hx.2.2.2.2.2.2.2.2.2.2.2.2.2.1,⟨hx.2.2.2.2.2.2.2.2.2.2.2.2.2.2.1,⟨hx.2.2.2.2.2.2.2.2.2.2.2.2.2.2.2.1,trivial⟩⟩⟩) rfl))))))))
set_option maxHeartbeats 2000000 in
theorem s9 (x:(List (Tys.D e109)×Unit)) (hx:((.cons (.sl e109) .nil):Tys).Ok x):F9 (x,(x,()))=some (B1 true) :=
 eqList (xs:=x.1) (E:=fun y z v=>(F53 (y,(z,()))).bind fun r=>bif (!r.1.1) then some (.inr (.inr (B1 false))) else some (.inl (iAdd .i64 v.1 1,()))) hx.1.1 (fun y hy v=>eq_call (s53 y (Ok_mem hx.1.2 hy)) rfl)
set_option maxHeartbeats 2000000 in
theorem s54 (x:(Int×(Int×(Int×(Int×(ByteArray×Unit)))))) (hx:((.cons (.int .i64) (.cons (.int .i64) (.cons (.int .i64) (.cons (.int .i64) (.cons .str .nil))))):Tys).Ok x):F54 (x,(x,()))=some (B1 true) :=
 (eq_int (eq_int (eq_int (eq_int (eq_str rfl)))))
set_option maxHeartbeats 2000000 in
theorem s10 (x:(List (Tys.D e112)×Unit)) (hx:((.cons (.sl e112) .nil):Tys).Ok x):F10 (x,(x,()))=some (B1 true) :=
 eqList (xs:=x.1) (E:=fun y z v=>(F54 (y,(z,()))).bind fun r=>bif (!r.1.1) then some (.inr (.inr (B1 false))) else some (.inl (iAdd .i64 v.1 1,()))) hx.1.1 (fun y hy v=>eq_call (s54 y (Ok_mem hx.1.2 hy)) rfl)
end Go.Proofs.YtbhckidcagloeaaGreat
-- no more blanks than needed
