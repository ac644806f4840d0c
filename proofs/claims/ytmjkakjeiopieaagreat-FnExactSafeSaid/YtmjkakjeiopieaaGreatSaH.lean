/- The laws' helpers: how much there is, copies, comparisons with itself. Conditions: none. -/
import Derived.Test.YtmjkakjeiopieaaGreatTm4
import Derived.Test.YtmjkakjeiopieaaGreatSaF
namespace Go.Proofs.YtmjkakjeiopieaaGreat
open Go Go.Tm
set_option linter.unusedVariables false
set_option maxRecDepth 100000
set_option maxHeartbeats 2000000 in
theorem w184 (x:(List (Tys.D e254)×Unit)) (hx:((.cons (.sl e254) .nil):Tys).Ok x):Sz (((.cons (.sl e254) .nil):Tys).w x) (fun l=>F184 (x,((l,()),()))) :=
 (Sz.str (a:=List.length x.1) hx.1.1 Sz.nil).to (congrArg (fun z=>List.length x.1+z+0) (sumW_zero (f:=fun y=>Tys.w e254 y) (fun _=>rfl) x.1)).symm
set_option maxHeartbeats 2000000 in
theorem w109 (x:(ByteArray×(Int×(Int×(Int×(List (Tys.D e254)×Unit)))))) (hx:((.cons .str (.cons (.int .i64) (.cons (.int .i64) (.cons (.int .i64) (.cons (.sl e254) .nil))))):Tys).Ok x):Sz (((.cons .str (.cons (.int .i64) (.cons (.int .i64) (.cons (.int .i64) (.cons (.sl e254) .nil))))):Tys).w x) (fun l=>F109 (x,((l,()),()))) :=
 (Sz.str (a:=ByteArray.size x.1) hx.1 (Sz.int (Sz.int (Sz.int (Sz.call1 (w184 (x.2.2.2.2.1,()) ⟨hx.2.2.2.2.1,trivial⟩) Sz.nil)))))
set_option maxHeartbeats 2000000 in
theorem w61 (x:(List (Tys.D e170)×Unit)) (hx:((.cons (.sl e170) .nil):Tys).Ok x):Sz (((.cons (.sl e170) .nil):Tys).w x) (fun l=>F61 (x,((l,()),()))) :=
 (Sz.list (xs:=x.1) (T:=fun y l=>F109 (y,((l,()),()))) (π:=fun c=>c.1.1) (wt:=fun y=>e170.w y) hx.1.1 (fun y hy=>szR_T (x:=y) (w109 y (Ok_mem hx.1.2 hy))))
set_option maxHeartbeats 2000000 in
theorem w19 (x:(Int×(List (Tys.D e170)×Unit))) (hx:((.cons (.int .i64) (.cons (.sl e170) .nil)):Tys).Ok x):Sz (((.cons (.int .i64) (.cons (.sl e170) .nil)):Tys).w x) (fun l=>F19 (x,((l,()),()))) :=
 (Sz.int (Sz.call1 (w61 (x.2.1,()) ⟨hx.2.1,trivial⟩) Sz.nil))
set_option maxHeartbeats 2000000 in
theorem w20 (x:(List (Tys.D e9)×Unit)) (hx:((.cons (.sl e9) .nil):Tys).Ok x):Sz (((.cons (.sl e9) .nil):Tys).w x) (fun l=>F20 (x,((l,()),()))) :=
 (Sz.list (xs:=x.1) (T:=fun y l=>some (iSub .i64 l (ByteArray.size y.1:Int))) (π:=fun c=>c) (wt:=fun y=>ByteArray.size y.1) hx.1.1 (fun y hy=>szR_S (Ok_mem hx.1.2 hy).1)).to rfl
set_option maxHeartbeats 2000000 in
theorem w185 (x:(ByteArray×(Int×Unit))) (hx:((.cons .str (.cons (.int .i64) .nil)):Tys).Ok x):Sz (((.cons .str (.cons (.int .i64) .nil)):Tys).w x) (fun l=>F185 (x,((l,()),()))) :=
 (Sz.str (a:=ByteArray.size x.1) hx.1 (Sz.int Sz.nil))
set_option maxHeartbeats 2000000 in
theorem w110 (x:(List (Tys.D e230)×Unit)) (hx:((.cons (.sl e230) .nil):Tys).Ok x):Sz (((.cons (.sl e230) .nil):Tys).w x) (fun l=>F110 (x,((l,()),()))) :=
 (Sz.list (xs:=x.1) (T:=fun y l=>F185 (y,((l,()),()))) (π:=fun c=>c.1.1) (wt:=fun y=>e230.w y) hx.1.1 (fun y hy=>szR_T (x:=y) (w185 y (Ok_mem hx.1.2 hy))))
set_option maxHeartbeats 2000000 in
theorem w111 (x:(Int×(Int×(List (Tys.D e9)×Unit)))) (hx:((.cons (.int .i64) (.cons (.int .i64) (.cons (.sl e9) .nil))):Tys).Ok x):Sz (((.cons (.int .i64) (.cons (.int .i64) (.cons (.sl e9) .nil))):Tys).w x) (fun l=>F111 (x,((l,()),()))) :=
 (Sz.int (Sz.int (Sz.call1 (w20 (x.2.2.1,()) ⟨hx.2.2.1,trivial⟩) Sz.nil)))
set_option maxHeartbeats 2000000 in
theorem w115 (x:(List (Tys.D e3)×Unit)) (hx:((.cons (.sl e3) .nil):Tys).Ok x):Sz (((.cons (.sl e3) .nil):Tys).w x) (fun l=>F115 (x,((l,()),()))) :=
 (Sz.str (a:=List.length x.1) hx.1.1 Sz.nil).to (congrArg (fun z=>List.length x.1+z+0) (sumW_zero (f:=fun y=>Tys.w e3 y) (fun _=>rfl) x.1)).symm
set_option maxHeartbeats 2000000 in
theorem w112 (x:(Int×(List (Tys.D e9)×(List (Tys.D e3)×Unit)))) (hx:((.cons (.int .i64) (.cons (.sl e9) (.cons (.sl e3) .nil))):Tys).Ok x):Sz (((.cons (.int .i64) (.cons (.sl e9) (.cons (.sl e3) .nil))):Tys).w x) (fun l=>F112 (x,((l,()),()))) :=
 (Sz.int (Sz.call1 (w20 (x.2.1,()) ⟨hx.2.1,trivial⟩) (Sz.call1 (w115 (x.2.2.1,()) ⟨hx.2.2.1,trivial⟩) Sz.nil)))
set_option maxHeartbeats 2000000 in
theorem w186 (x:(Int×(ByteArray×(ByteArray×(Int×(Int×Unit)))))) (hx:((.cons (.int .i64) (.cons .str (.cons .str (.cons (.int .i64) (.cons (.int .i64) .nil))))):Tys).Ok x):Sz (((.cons (.int .i64) (.cons .str (.cons .str (.cons (.int .i64) (.cons (.int .i64) .nil))))):Tys).w x) (fun l=>F186 (x,((l,()),()))) :=
 (Sz.int (Sz.str (a:=ByteArray.size x.2.1) hx.2.1 (Sz.str (a:=ByteArray.size x.2.2.1) hx.2.2.1 (Sz.int (Sz.int Sz.nil)))))
set_option maxHeartbeats 2000000 in
theorem w116 (x:(List (Tys.D e232)×Unit)) (hx:((.cons (.sl e232) .nil):Tys).Ok x):Sz (((.cons (.sl e232) .nil):Tys).w x) (fun l=>F116 (x,((l,()),()))) :=
 (Sz.list (xs:=x.1) (T:=fun y l=>F186 (y,((l,()),()))) (π:=fun c=>c.1.1) (wt:=fun y=>e232.w y) hx.1.1 (fun y hy=>szR_T (x:=y) (w186 y (Ok_mem hx.1.2 hy))))
set_option maxHeartbeats 2000000 in
theorem w63 (x:(Int×(Int×(Int×(ByteArray×(Int×(Int×(List (Tys.D e9)×(Int×(List (Tys.D e9)×(List (Tys.D e3)×(List (Tys.D e232)×(Bool×(List (Tys.D e230)×(ByteArray×Unit))))))))))))))) (hx:((.cons (.int .i64) (.cons (.int .i64) (.cons (.int .i64) (.cons .str (.cons (.int .i64) (.cons (.int .i64) (.cons (.sl e9) (.cons (.int .i64) (.cons (.sl e9) (.cons (.sl e3) (.cons (.sl e232) (.cons .bool (.cons (.sl e230) (.cons .str .nil)))))))))))))):Tys).Ok x):Sz (((.cons (.int .i64) (.cons (.int .i64) (.cons (.int .i64) (.cons .str (.cons (.int .i64) (.cons (.int .i64) (.cons (.sl e9) (.cons (.int .i64) (.cons (.sl e9) (.cons (.sl e3) (.cons (.sl e232) (.cons .bool (.cons (.sl e230) (.cons .str .nil)))))))))))))):Tys).w x) (fun l=>F63 (x,((l,()),()))) :=
 (Sz.int (Sz.int (Sz.int (Sz.str (a:=ByteArray.size x.2.2.2.1) hx.2.2.2.1 (Sz.call3 (w111 (x.2.2.2.2.1,(x.2.2.2.2.2.1,(x.2.2.2.2.2.2.1,()))) ⟨hx.2.2.2.2.1,⟨hx.2.2.2.2.2.1,⟨hx.2.2.2.2.2.2.1,trivial⟩⟩⟩) (Sz.call3 (w112 (x.2.2.2.2.2.2.2.1,(x.2.2.2.2.2.2.2.2.1,(x.2.2.2.2.2.2.2.2.2.1,()))) ⟨hx.2.2.2.2.2.2.2.1,⟨hx.2.2.2.2.2.2.2.2.1,⟨hx.2.2.2.2.2.2.2.2.2.1,trivial⟩⟩⟩) (Sz.call1 (w116 (x.2.2.2.2.2.2.2.2.2.2.1,()) ⟨hx.2.2.2.2.2.2.2.2.2.2.1,trivial⟩) (Sz.int (Sz.call1 (w110 (x.2.2.2.2.2.2.2.2.2.2.2.2.1,()) ⟨hx.2.2.2.2.2.2.2.2.2.2.2.2.1,trivial⟩) (Sz.str (a:=ByteArray.size x.2.2.2.2.2.2.2.2.2.2.2.2.2.1) hx.2.2.2.2.2.2.2.2.2.2.2.2.2.1 Sz.nil))))))))))
set_option maxHeartbeats 2000000 in
theorem w22 (x:(List (Tys.D e108)×Unit)) (hx:((.cons (.sl e108) .nil):Tys).Ok x):Sz (((.cons (.sl e108) .nil):Tys).w x) (fun l=>F22 (x,((l,()),()))) :=
 (Sz.list (xs:=x.1) (T:=fun y l=>F63 (y,((l,()),()))) (π:=fun c=>c.1.1) (wt:=fun y=>e108.w y) hx.1.1 (fun y hy=>szR_T (x:=y) (w63 y (Ok_mem hx.1.2 hy))))
set_option maxHeartbeats 2000000 in
theorem w118 (x:(Int×(Int×(ByteArray×Unit)))) (hx:((.cons (.int .i64) (.cons (.int .i64) (.cons .str .nil))):Tys).Ok x):Sz (((.cons (.int .i64) (.cons (.int .i64) (.cons .str .nil))):Tys).w x) (fun l=>F118 (x,((l,()),()))) :=
 (Sz.int (Sz.int (Sz.str (a:=ByteArray.size x.2.2.1) hx.2.2.1 Sz.nil)))
set_option maxHeartbeats 2000000 in
theorem w113 (x:(List (Tys.D e114)×Unit)) (hx:((.cons (.sl e114) .nil):Tys).Ok x):Sz (((.cons (.sl e114) .nil):Tys).w x) (fun l=>F113 (x,((l,()),()))) :=
 (Sz.list (xs:=x.1) (T:=fun y l=>F118 (y,((l,()),()))) (π:=fun c=>c.1.1) (wt:=fun y=>e114.w y) hx.1.1 (fun y hy=>szR_T (x:=y) (w118 y (Ok_mem hx.1.2 hy))))
set_option maxHeartbeats 2000000 in
theorem w119 (x:(Int×(Int×(ByteArray×Unit)))) (hx:((.cons (.int .i64) (.cons (.int .i64) (.cons .str .nil))):Tys).Ok x):Sz (((.cons (.int .i64) (.cons (.int .i64) (.cons .str .nil))):Tys).w x) (fun l=>F119 (x,((l,()),()))) :=
 (Sz.int (Sz.int (Sz.str (a:=ByteArray.size x.2.2.1) hx.2.2.1 Sz.nil)))
set_option maxHeartbeats 2000000 in
theorem w114 (x:(List (Tys.D e116)×Unit)) (hx:((.cons (.sl e116) .nil):Tys).Ok x):Sz (((.cons (.sl e116) .nil):Tys).w x) (fun l=>F114 (x,((l,()),()))) :=
 (Sz.list (xs:=x.1) (T:=fun y l=>F119 (y,((l,()),()))) (π:=fun c=>c.1.1) (wt:=fun y=>e116.w y) hx.1.1 (fun y hy=>szR_T (x:=y) (w119 y (Ok_mem hx.1.2 hy))))
set_option maxHeartbeats 2000000 in
theorem w187 (x:(Int×(List (Tys.D e108)×(Int×(Int×(List (Tys.D e9)×Unit)))))) (hx:((.cons (.int .i64) (.cons (.sl e108) (.cons (.int .i64) (.cons (.int .i64) (.cons (.sl e9) .nil))))):Tys).Ok x):Sz (((.cons (.int .i64) (.cons (.sl e108) (.cons (.int .i64) (.cons (.int .i64) (.cons (.sl e9) .nil))))):Tys).w x) (fun l=>F187 (x,((l,()),()))) :=
 (Sz.int (Sz.call1 (w22 (x.2.1,()) ⟨hx.2.1,trivial⟩) (Sz.call3 (w111 (x.2.2.1,(x.2.2.2.1,(x.2.2.2.2.1,()))) ⟨hx.2.2.1,⟨hx.2.2.2.1,⟨hx.2.2.2.2.1,trivial⟩⟩⟩) Sz.nil)))
set_option maxHeartbeats 2000000 in
theorem w117 (x:(List (Tys.D e235)×Unit)) (hx:((.cons (.sl e235) .nil):Tys).Ok x):Sz (((.cons (.sl e235) .nil):Tys).w x) (fun l=>F117 (x,((l,()),()))) :=
 (Sz.list (xs:=x.1) (T:=fun y l=>F187 (y,((l,()),()))) (π:=fun c=>c.1.1) (wt:=fun y=>e235.w y) hx.1.1 (fun y hy=>szR_T (x:=y) (w187 y (Ok_mem hx.1.2 hy))))
set_option maxHeartbeats 2000000 in
theorem w62 (x:(ByteArray×(Int×(Int×(List (Tys.D e170)×(List (Tys.D e230)×(List (Tys.D e108)×(Int×(Int×(Int×(Int×(List (Tys.D e9)×(Int×(List (Tys.D e9)×(List (Tys.D e3)×(Int×(List (Tys.D e114)×(List (Tys.D e116)×(List (Tys.D e3)×(List (Tys.D e232)×(List (Tys.D e235)×Unit))))))))))))))))))))) (hx:((.cons .str (.cons (.int .i64) (.cons (.int .i64) (.cons (.sl e170) (.cons (.sl e230) (.cons (.sl e108) (.cons (.int .i64) (.cons (.int .i64) (.cons (.int .i64) (.cons (.int .i64) (.cons (.sl e9) (.cons (.int .i64) (.cons (.sl e9) (.cons (.sl e3) (.cons (.int .i64) (.cons (.sl e114) (.cons (.sl e116) (.cons (.sl e3) (.cons (.sl e232) (.cons (.sl e235) .nil)))))))))))))))))))):Tys).Ok x):Sz (((.cons .str (.cons (.int .i64) (.cons (.int .i64) (.cons (.sl e170) (.cons (.sl e230) (.cons (.sl e108) (.cons (.int .i64) (.cons (.int .i64) (.cons (.int .i64) (.cons (.int .i64) (.cons (.sl e9) (.cons (.int .i64) (.cons (.sl e9) (.cons (.sl e3) (.cons (.int .i64) (.cons (.sl e114) (.cons (.sl e116) (.cons (.sl e3) (.cons (.sl e232) (.cons (.sl e235) .nil)))))))))))))))))))):Tys).w x) (fun l=>F62 (x,((l,()),()))) :=
 (Sz.str (a:=ByteArray.size x.1) hx.1 (Sz.int (Sz.call2 (w19 (x.2.2.1,(x.2.2.2.1,())) ⟨hx.2.2.1,⟨hx.2.2.2.1,trivial⟩⟩) (Sz.call1 (w110 (x.2.2.2.2.1,()) ⟨hx.2.2.2.2.1,trivial⟩) (Sz.call1 (w22 (x.2.2.2.2.2.1,()) ⟨hx.2.2.2.2.2.1,trivial⟩) (Sz.int (Sz.int (Sz.call3 (w111 (x.2.2.2.2.2.2.2.2.1,(x.2.2.2.2.2.2.2.2.2.1,(x.2.2.2.2.2.2.2.2.2.2.1,()))) ⟨hx.2.2.2.2.2.2.2.2.1,⟨hx.2.2.2.2.2.2.2.2.2.1,⟨hx.2.2.2.2.2.2.2.2.2.2.1,trivial⟩⟩⟩) (Sz.call3 (w112 (x.2.2.2.2.2.2.2.2.2.2.2.1,(x.2.2.2.2.2.2.2.2.2.2.2.2.1,(x.2.2.2.2.2.2.2.2.2.2.2.2.2.1,()))) ⟨hx.2.2.2.2.2.2.2.2.2.2.2.1,⟨hx.2.2.2.2.2.2.2.2.2.2.2.2.1,⟨hx.2.2.2.2.2.2.2.2.2.2.2.2.2.1,trivial⟩⟩⟩) (Sz.int (Sz.call1 (w113 (x.2.2.2.2.2.2.2.2.2.2.2.2.2.2.2.1,()) ⟨hx.2.2.2.2.2.2.2.2.2.2.2.2.2.2.2.1,trivial⟩) (Sz.call1 (w114 (x.2.2.2.2.2.2.2.2.2.2.2.2.2.2.2.2.1,()) ⟨hx.2.2.2.2.2.2.2.2.2.2.2.2.2.2.2.2.1,trivial⟩) (Sz.call1 (w115 (x.2.2.2.2.2.2.2.2.2.2.2.2.2.2.2.2.2.1,()) ⟨hx.2.2.2.2.2.2.2.2.2.2.2.2.2.2.2.2.2.1,trivial⟩) (Sz.call1 (w116 (x.2.2.2.2.2.2.2.2.2.2.2.2.2.2.2.2.2.2.1,()) ⟨hx.2.2.2.2.2.2.2.2.2.2.2.2.2.2.2.2.2.2.1,trivial⟩) (Sz.call1 (w117 (x.2.2.2.2.2.2.2.2.2.2.2.2.2.2.2.2.2.2.2.1,()) ⟨hx.2.2.2.2.2.2.2.2.2.2.2.2.2.2.2.2.2.2.2.1,trivial⟩) Sz.nil)))))))))))))))
set_option maxHeartbeats 2000000 in
theorem w21 (x:(List (Tys.D e105)×Unit)) (hx:((.cons (.sl e105) .nil):Tys).Ok x):Sz (((.cons (.sl e105) .nil):Tys).w x) (fun l=>F21 (x,((l,()),()))) :=
 (Sz.list (xs:=x.1) (T:=fun y l=>F62 (y,((l,()),()))) (π:=fun c=>c.1.1) (wt:=fun y=>e105.w y) hx.1.1 (fun y hy=>szR_T (x:=y) (w62 y (Ok_mem hx.1.2 hy))))
set_option maxHeartbeats 2000000 in
theorem w64 (x:(Int×(Int×(Int×(Int×(ByteArray×Unit)))))) (hx:((.cons (.int .i64) (.cons (.int .i64) (.cons (.int .i64) (.cons (.int .i64) (.cons .str .nil))))):Tys).Ok x):Sz (((.cons (.int .i64) (.cons (.int .i64) (.cons (.int .i64) (.cons (.int .i64) (.cons .str .nil))))):Tys).w x) (fun l=>F64 (x,((l,()),()))) :=
 (Sz.int (Sz.int (Sz.int (Sz.int (Sz.str (a:=ByteArray.size x.2.2.2.2.1) hx.2.2.2.2.1 Sz.nil)))))
set_option maxHeartbeats 2000000 in
theorem w23 (x:(List (Tys.D e111)×Unit)) (hx:((.cons (.sl e111) .nil):Tys).Ok x):Sz (((.cons (.sl e111) .nil):Tys).w x) (fun l=>F23 (x,((l,()),()))) :=
 (Sz.list (xs:=x.1) (T:=fun y l=>F64 (y,((l,()),()))) (π:=fun c=>c.1.1) (wt:=fun y=>e111.w y) hx.1.1 (fun y hy=>szR_T (x:=y) (w64 y (Ok_mem hx.1.2 hy))))
set_option maxHeartbeats 2000000 in
theorem w65 (x:(Int×(ByteArray×(Int×(List (Tys.D e108)×(Int×(Int×(ByteArray×(Int×(Int×(ByteArray×(Int×(Int×(List (Tys.D e9)×(Int×(List (Tys.D e9)×(List (Tys.D e3)×Unit))))))))))))))))) (hx:((.cons (.int .i64) (.cons .str (.cons (.int .i64) (.cons (.sl e108) (.cons (.int .i64) (.cons (.int .i64) (.cons .str (.cons (.int .i64) (.cons (.int .i64) (.cons .str (.cons (.int .i64) (.cons (.int .i64) (.cons (.sl e9) (.cons (.int .i64) (.cons (.sl e9) (.cons (.sl e3) .nil)))))))))))))))):Tys).Ok x):Sz (((.cons (.int .i64) (.cons .str (.cons (.int .i64) (.cons (.sl e108) (.cons (.int .i64) (.cons (.int .i64) (.cons .str (.cons (.int .i64) (.cons (.int .i64) (.cons .str (.cons (.int .i64) (.cons (.int .i64) (.cons (.sl e9) (.cons (.int .i64) (.cons (.sl e9) (.cons (.sl e3) .nil)))))))))))))))):Tys).w x) (fun l=>F65 (x,((l,()),()))) :=
 (Sz.int (Sz.str (a:=ByteArray.size x.2.1) hx.2.1 (Sz.int (Sz.call1 (w22 (x.2.2.2.1,()) ⟨hx.2.2.2.1,trivial⟩) (Sz.call3 (w118 (x.2.2.2.2.1,(x.2.2.2.2.2.1,(x.2.2.2.2.2.2.1,()))) ⟨hx.2.2.2.2.1,⟨hx.2.2.2.2.2.1,⟨hx.2.2.2.2.2.2.1,trivial⟩⟩⟩) (Sz.call3 (w119 (x.2.2.2.2.2.2.2.1,(x.2.2.2.2.2.2.2.2.1,(x.2.2.2.2.2.2.2.2.2.1,()))) ⟨hx.2.2.2.2.2.2.2.1,⟨hx.2.2.2.2.2.2.2.2.1,⟨hx.2.2.2.2.2.2.2.2.2.1,trivial⟩⟩⟩) (Sz.call3 (w111 (x.2.2.2.2.2.2.2.2.2.2.1,(x.2.2.2.2.2.2.2.2.2.2.2.1,(x.2.2.2.2.2.2.2.2.2.2.2.2.1,()))) ⟨hx.2.2.2.2.2.2.2.2.2.2.1,⟨hx.2.2.2.2.2.2.2.2.2.2.2.1,⟨hx.2.2.2.2.2.2.2.2.2.2.2.2.1,trivial⟩⟩⟩) (Sz.call3 (w112 (x.2.2.2.2.2.2.2.2.2.2.2.2.2.1,(x.2.2.2.2.2.2.2.2.2.2.2.2.2.2.1,(x.2.2.2.2.2.2.2.2.2.2.2.2.2.2.2.1,()))) ⟨hx.2.2.2.2.2.2.2.2.2.2.2.2.2.1,⟨hx.2.2.2.2.2.2.2.2.2.2.2.2.2.2.1,⟨hx.2.2.2.2.2.2.2.2.2.2.2.2.2.2.2.1,trivial⟩⟩⟩) Sz.nil))))))))
set_option maxHeartbeats 2000000 in
theorem w24 (x:(List (Tys.D e118)×Unit)) (hx:((.cons (.sl e118) .nil):Tys).Ok x):Sz (((.cons (.sl e118) .nil):Tys).w x) (fun l=>F24 (x,((l,()),()))) :=
 (Sz.list (xs:=x.1) (T:=fun y l=>F65 (y,((l,()),()))) (π:=fun c=>c.1.1) (wt:=fun y=>e118.w y) hx.1.1 (fun y hy=>szR_T (x:=y) (w65 y (Ok_mem hx.1.2 hy))))
set_option maxHeartbeats 2000000 in
theorem w5 (x:(Int×(List (Tys.D e170)×(List (Tys.D e9)×(List (Tys.D e105)×(List (Tys.D e108)×(List (Tys.D e111)×(List (Tys.D e118)×Unit)))))))) (hx:((.cons (.int .i64) (.cons (.sl e170) (.cons (.sl e9) (.cons (.sl e105) (.cons (.sl e108) (.cons (.sl e111) (.cons (.sl e118) .nil))))))):Tys).Ok x):Sz (((.cons (.int .i64) (.cons (.sl e170) (.cons (.sl e9) (.cons (.sl e105) (.cons (.sl e108) (.cons (.sl e111) (.cons (.sl e118) .nil))))))):Tys).w x) (fun l=>F5 (x,((l,()),()))) :=
 (Sz.call2 (w19 (x.1,(x.2.1,())) ⟨hx.1,⟨hx.2.1,trivial⟩⟩) (Sz.call1 (w20 (x.2.2.1,()) ⟨hx.2.2.1,trivial⟩) (Sz.call1 (w21 (x.2.2.2.1,()) ⟨hx.2.2.2.1,trivial⟩) (Sz.call1 (w22 (x.2.2.2.2.1,()) ⟨hx.2.2.2.2.1,trivial⟩) (Sz.call1 (w23 (x.2.2.2.2.2.1,()) ⟨hx.2.2.2.2.2.1,trivial⟩) (Sz.call1 (w24 (x.2.2.2.2.2.2.1,()) ⟨hx.2.2.2.2.2.2.1,trivial⟩) Sz.nil))))))
set_option maxHeartbeats 2000000 in
theorem t223 (x:(Int×(Int×Unit))) (hx:((.cons (.int .i64) (.cons (.int .i64) .nil)):Tys).w x≤1048576):F223 (x,())=some (x,()) :=
 rfl
set_option maxHeartbeats 2000000 in
theorem t192 (x:(List (Tys.D e254)×Unit)) (hx:((.cons (.sl e254) .nil):Tys).w x≤1048576):F192 (x,())=some (x,()) :=
 (toList (A:=Tys.D e254) (B:=Tys.D e129) (xs:=x.1) (T:=fun y=>F223 (y,())) (π:=fun c=>c.1) (φ:=fun y=>y) (bytes:=16) (by decide) (by decide) (w_len hx) (fun y hy=>⟨_,t223 y (w_el hx rfl hy),rfl⟩)).trans (congrArg (fun l=>some ((l,()),())) (List.map_id' x.1))
set_option maxHeartbeats 2000000 in
theorem t124 (x:(ByteArray×(Int×(Int×(Int×(List (Tys.D e254)×Unit)))))) (hx:((.cons .str (.cons (.int .i64) (.cons (.int .i64) (.cons (.int .i64) (.cons (.sl e254) .nil))))):Tys).w x≤1048576):F124 (x,())=some (x,()) :=
 (bind_eq (t192 (x.2.2.2.2.1,()) (w_1 (w_tl (w_tl (w_tl (w_tl hx)))))) rfl)
set_option maxHeartbeats 2000000 in
theorem t69 (x:(List (Tys.D e170)×Unit)) (hx:((.cons (.sl e170) .nil):Tys).w x≤1048576):F69 (x,())=some (x,()) :=
 (toList (A:=Tys.D e170) (B:=Tys.D e127) (xs:=x.1) (T:=fun y=>F124 (y,())) (π:=fun c=>c.1) (φ:=fun y=>y) (bytes:=64) (by decide) (by decide) (w_len hx) (fun y hy=>⟨_,t124 y (w_el hx rfl hy),rfl⟩)).trans (congrArg (fun l=>some ((l,()),())) (List.map_id' x.1))
set_option maxHeartbeats 2000000 in
theorem t29 (x:(Int×(List (Tys.D e170)×Unit))) (hx:((.cons (.int .i64) (.cons (.sl e170) .nil)):Tys).w x≤1048576):F29 (x,())=some (x,()) :=
 (bind_eq (t69 (x.2.1,()) (w_1 (w_tl hx))) rfl)
set_option maxHeartbeats 2000000 in
theorem t30 (x:(List (Tys.D e9)×Unit)) (hx:((.cons (.sl e9) .nil):Tys).w x≤1048576):F30 (x,())=some (x,()) :=
 (toList (A:=Tys.D e9) (B:=Tys.D e9) (xs:=x.1) (T:=fun y=>some y) (π:=fun c=>c) (φ:=fun y=>y) (bytes:=16) (by decide) (by decide) (w_len hx) (fun y hy=>⟨_,rfl,rfl⟩)).trans (congrArg (fun l=>some ((l,()),())) (List.map_id' x.1))
set_option maxHeartbeats 2000000 in
theorem t193 (x:(ByteArray×(Int×Unit))) (hx:((.cons .str (.cons (.int .i64) .nil)):Tys).w x≤1048576):F193 (x,())=some (x,()) :=
 rfl
set_option maxHeartbeats 2000000 in
theorem t125 (x:(List (Tys.D e230)×Unit)) (hx:((.cons (.sl e230) .nil):Tys).w x≤1048576):F125 (x,())=some (x,()) :=
 (toList (A:=Tys.D e230) (B:=Tys.D e209) (xs:=x.1) (T:=fun y=>F193 (y,())) (π:=fun c=>c.1) (φ:=fun y=>y) (bytes:=24) (by decide) (by decide) (w_len hx) (fun y hy=>⟨_,t193 y (w_el hx rfl hy),rfl⟩)).trans (congrArg (fun l=>some ((l,()),())) (List.map_id' x.1))
set_option maxHeartbeats 2000000 in
theorem t126 (x:(Int×(Int×(List (Tys.D e9)×Unit)))) (hx:((.cons (.int .i64) (.cons (.int .i64) (.cons (.sl e9) .nil))):Tys).w x≤1048576):F126 (x,())=some (x,()) :=
 (bind_eq (t30 (x.2.2.1,()) (w_1 (w_tl (w_tl hx)))) rfl)
set_option maxHeartbeats 2000000 in
theorem t8 (x:(List (Tys.D e3)×Unit)) (hx:((.cons (.sl e3) .nil):Tys).w x≤1048576):F8 (x,())=some (x,()) :=
 (toList (A:=Tys.D e3) (B:=Tys.D e3) (xs:=x.1) (T:=fun y=>some y) (π:=fun c=>c) (φ:=fun y=>y) (bytes:=8) (by decide) (by decide) (w_len hx) (fun y hy=>⟨_,rfl,rfl⟩)).trans (congrArg (fun l=>some ((l,()),())) (List.map_id' x.1))
set_option maxHeartbeats 2000000 in
theorem t127 (x:(Int×(List (Tys.D e9)×(List (Tys.D e3)×Unit)))) (hx:((.cons (.int .i64) (.cons (.sl e9) (.cons (.sl e3) .nil))):Tys).w x≤1048576):F127 (x,())=some (x,()) :=
 (bind_eq (t30 (x.2.1,()) (w_1 (w_tl hx))) (bind_eq (t8 (x.2.2.1,()) (w_1 (w_tl (w_tl hx)))) rfl))
set_option maxHeartbeats 2000000 in
theorem t194 (x:(Int×(ByteArray×(ByteArray×(Int×(Int×Unit)))))) (hx:((.cons (.int .i64) (.cons .str (.cons .str (.cons (.int .i64) (.cons (.int .i64) .nil))))):Tys).w x≤1048576):F194 (x,())=some (x,()) :=
 rfl
set_option maxHeartbeats 2000000 in
theorem t130 (x:(List (Tys.D e232)×Unit)) (hx:((.cons (.sl e232) .nil):Tys).w x≤1048576):F130 (x,())=some (x,()) :=
 (toList (A:=Tys.D e232) (B:=Tys.D e122) (xs:=x.1) (T:=fun y=>F194 (y,())) (π:=fun c=>c.1) (φ:=fun y=>y) (bytes:=56) (by decide) (by decide) (w_len hx) (fun y hy=>⟨_,t194 y (w_el hx rfl hy),rfl⟩)).trans (congrArg (fun l=>some ((l,()),())) (List.map_id' x.1))
set_option maxHeartbeats 2000000 in
theorem t71 (x:(Int×(Int×(Int×(ByteArray×(Int×(Int×(List (Tys.D e9)×(Int×(List (Tys.D e9)×(List (Tys.D e3)×(List (Tys.D e232)×(Bool×(List (Tys.D e230)×(ByteArray×Unit))))))))))))))) (hx:((.cons (.int .i64) (.cons (.int .i64) (.cons (.int .i64) (.cons .str (.cons (.int .i64) (.cons (.int .i64) (.cons (.sl e9) (.cons (.int .i64) (.cons (.sl e9) (.cons (.sl e3) (.cons (.sl e232) (.cons .bool (.cons (.sl e230) (.cons .str .nil)))))))))))))):Tys).w x≤1048576):F71 (x,())=some (x,()) :=
 (bind_eq (t126 (x.2.2.2.2.1,(x.2.2.2.2.2.1,(x.2.2.2.2.2.2.1,()))) (w_3 (w_tl (w_tl (w_tl (w_tl hx)))))) (bind_eq (t127 (x.2.2.2.2.2.2.2.1,(x.2.2.2.2.2.2.2.2.1,(x.2.2.2.2.2.2.2.2.2.1,()))) (w_3 (w_tl (w_tl (w_tl (w_tl (w_tl (w_tl (w_tl hx))))))))) (bind_eq (t130 (x.2.2.2.2.2.2.2.2.2.2.1,()) (w_1 (w_tl (w_tl (w_tl (w_tl (w_tl (w_tl (w_tl (w_tl (w_tl (w_tl hx)))))))))))) (bind_eq (t125 (x.2.2.2.2.2.2.2.2.2.2.2.2.1,()) (w_1 (w_tl (w_tl (w_tl (w_tl (w_tl (w_tl (w_tl (w_tl (w_tl (w_tl (w_tl (w_tl hx)))))))))))))) rfl))))
set_option maxHeartbeats 2000000 in
theorem t32 (x:(List (Tys.D e108)×Unit)) (hx:((.cons (.sl e108) .nil):Tys).w x≤1048576):F32 (x,())=some (x,()) :=
 (toList (A:=Tys.D e108) (B:=Tys.D e71) (xs:=x.1) (T:=fun y=>F71 (y,())) (π:=fun c=>c.1) (φ:=fun y=>y) (bytes:=208) (by decide) (by decide) (w_len hx) (fun y hy=>⟨_,t71 y (w_el hx rfl hy),rfl⟩)).trans (congrArg (fun l=>some ((l,()),())) (List.map_id' x.1))
set_option maxHeartbeats 2000000 in
theorem t132 (x:(Int×(Int×(ByteArray×Unit)))) (hx:((.cons (.int .i64) (.cons (.int .i64) (.cons .str .nil))):Tys).w x≤1048576):F132 (x,())=some (x,()) :=
 rfl
set_option maxHeartbeats 2000000 in
theorem t128 (x:(List (Tys.D e114)×Unit)) (hx:((.cons (.sl e114) .nil):Tys).w x≤1048576):F128 (x,())=some (x,()) :=
 (toList (A:=Tys.D e114) (B:=Tys.D e140) (xs:=x.1) (T:=fun y=>F132 (y,())) (π:=fun c=>c.1) (φ:=fun y=>y) (bytes:=32) (by decide) (by decide) (w_len hx) (fun y hy=>⟨_,t132 y (w_el hx rfl hy),rfl⟩)).trans (congrArg (fun l=>some ((l,()),())) (List.map_id' x.1))
set_option maxHeartbeats 2000000 in
theorem t133 (x:(Int×(Int×(ByteArray×Unit)))) (hx:((.cons (.int .i64) (.cons (.int .i64) (.cons .str .nil))):Tys).w x≤1048576):F133 (x,())=some (x,()) :=
 rfl
set_option maxHeartbeats 2000000 in
theorem t129 (x:(List (Tys.D e116)×Unit)) (hx:((.cons (.sl e116) .nil):Tys).w x≤1048576):F129 (x,())=some (x,()) :=
 (toList (A:=Tys.D e116) (B:=Tys.D e141) (xs:=x.1) (T:=fun y=>F133 (y,())) (π:=fun c=>c.1) (φ:=fun y=>y) (bytes:=32) (by decide) (by decide) (w_len hx) (fun y hy=>⟨_,t133 y (w_el hx rfl hy),rfl⟩)).trans (congrArg (fun l=>some ((l,()),())) (List.map_id' x.1))
set_option maxHeartbeats 2000000 in
theorem t195 (x:(Int×(List (Tys.D e108)×(Int×(Int×(List (Tys.D e9)×Unit)))))) (hx:((.cons (.int .i64) (.cons (.sl e108) (.cons (.int .i64) (.cons (.int .i64) (.cons (.sl e9) .nil))))):Tys).w x≤1048576):F195 (x,())=some (x,()) :=
 (bind_eq (t32 (x.2.1,()) (w_1 (w_tl hx))) (bind_eq (t126 (x.2.2.1,(x.2.2.2.1,(x.2.2.2.2.1,()))) (w_3 (w_tl (w_tl hx)))) rfl))
set_option maxHeartbeats 2000000 in
theorem t131 (x:(List (Tys.D e235)×Unit)) (hx:((.cons (.sl e235) .nil):Tys).w x≤1048576):F131 (x,())=some (x,()) :=
 (toList (A:=Tys.D e235) (B:=Tys.D e211) (xs:=x.1) (T:=fun y=>F195 (y,())) (π:=fun c=>c.1) (φ:=fun y=>y) (bytes:=72) (by decide) (by decide) (w_len hx) (fun y hy=>⟨_,t195 y (w_el hx rfl hy),rfl⟩)).trans (congrArg (fun l=>some ((l,()),())) (List.map_id' x.1))
set_option maxHeartbeats 2000000 in
theorem t70 (x:(ByteArray×(Int×(Int×(List (Tys.D e170)×(List (Tys.D e230)×(List (Tys.D e108)×(Int×(Int×(Int×(Int×(List (Tys.D e9)×(Int×(List (Tys.D e9)×(List (Tys.D e3)×(Int×(List (Tys.D e114)×(List (Tys.D e116)×(List (Tys.D e3)×(List (Tys.D e232)×(List (Tys.D e235)×Unit))))))))))))))))))))) (hx:((.cons .str (.cons (.int .i64) (.cons (.int .i64) (.cons (.sl e170) (.cons (.sl e230) (.cons (.sl e108) (.cons (.int .i64) (.cons (.int .i64) (.cons (.int .i64) (.cons (.int .i64) (.cons (.sl e9) (.cons (.int .i64) (.cons (.sl e9) (.cons (.sl e3) (.cons (.int .i64) (.cons (.sl e114) (.cons (.sl e116) (.cons (.sl e3) (.cons (.sl e232) (.cons (.sl e235) .nil)))))))))))))))))))):Tys).w x≤1048576):F70 (x,())=some (x,()) :=
 (bind_eq (t29 (x.2.2.1,(x.2.2.2.1,())) (w_2 (w_tl (w_tl hx)))) (bind_eq (t125 (x.2.2.2.2.1,()) (w_1 (w_tl (w_tl (w_tl (w_tl hx)))))) (bind_eq (t32 (x.2.2.2.2.2.1,()) (w_1 (w_tl (w_tl (w_tl (w_tl (w_tl hx))))))) (bind_eq (t126 (x.2.2.2.2.2.2.2.2.1,(x.2.2.2.2.2.2.2.2.2.1,(x.2.2.2.2.2.2.2.2.2.2.1,()))) (w_3 (w_tl (w_tl (w_tl (w_tl (w_tl (w_tl (w_tl (w_tl hx)))))))))) (bind_eq (t127 (x.2.2.2.2.2.2.2.2.2.2.2.1,(x.2.2.2.2.2.2.2.2.2.2.2.2.1,(x.2.2.2.2.2.2.2.2.2.2.2.2.2.1,()))) (w_3 (w_tl (w_tl (w_tl (w_tl (w_tl (w_tl (w_tl (w_tl (w_tl (w_tl (w_tl hx))))))))))))) (bind_eq (t128 (x.2.2.2.2.2.2.2.2.2.2.2.2.2.2.2.1,()) (w_1 (w_tl (w_tl (w_tl (w_tl (w_tl (w_tl (w_tl (w_tl (w_tl (w_tl (w_tl (w_tl (w_tl (w_tl (w_tl hx))))))))))))))))) (bind_eq (t129 (x.2.2.2.2.2.2.2.2.2.2.2.2.2.2.2.2.1,()) (w_1 (w_tl (w_tl (w_tl (w_tl (w_tl (w_tl (w_tl (w_tl (w_tl (w_tl (w_tl (w_tl (w_tl (w_tl (w_tl (w_tl hx)))))))))))))))))) (bind_eq (t8 (x.2.2.2.2.2.2.2.2.2.2.2.2.2.2.2.2.2.1,()) (w_1 (w_tl (w_tl (w_tl (w_tl (w_tl (w_tl (w_tl (w_tl (w_tl (w_tl (w_tl (w_tl (w_tl (w_tl (w_tl (w_tl (w_tl hx))))))))))))))))))) (bind_eq (t130 (x.2.2.2.2.2.2.2.2.2.2.2.2.2.2.2.2.2.2.1,()) (w_1 (w_tl (w_tl (w_tl (w_tl (w_tl (w_tl (w_tl (w_tl (w_tl (w_tl (w_tl (w_tl (w_tl (w_tl (w_tl (w_tl (w_tl (w_tl hx)))))))))))))))))))) (bind_eq (t131 (x.2.2.2.2.2.2.2.2.2.2.2.2.2.2.2.2.2.2.2.1,()) (w_1 (w_tl (w_tl (w_tl (w_tl (w_tl (w_tl (w_tl (w_tl (w_tl (w_tl (w_tl (w_tl (w_tl (w_tl (w_tl (w_tl (w_tl (w_tl (w_tl hx))))))))))))))))))))) rfl))))))))))
set_option maxHeartbeats 2000000 in
theorem t31 (x:(List (Tys.D e105)×Unit)) (hx:((.cons (.sl e105) .nil):Tys).w x≤1048576):F31 (x,())=some (x,()) :=
 (toList (A:=Tys.D e105) (B:=Tys.D e135) (xs:=x.1) (T:=fun y=>F70 (y,())) (π:=fun c=>c.1) (φ:=fun y=>y) (bytes:=344) (by decide) (by decide) (w_len hx) (fun y hy=>⟨_,t70 y (w_el hx rfl hy),rfl⟩)).trans (congrArg (fun l=>some ((l,()),())) (List.map_id' x.1))
set_option maxHeartbeats 2000000 in
theorem t72 (x:(Int×(Int×(Int×(Int×(ByteArray×Unit)))))) (hx:((.cons (.int .i64) (.cons (.int .i64) (.cons (.int .i64) (.cons (.int .i64) (.cons .str .nil))))):Tys).w x≤1048576):F72 (x,())=some (x,()) :=
 rfl
set_option maxHeartbeats 2000000 in
theorem t33 (x:(List (Tys.D e111)×Unit)) (hx:((.cons (.sl e111) .nil):Tys).w x≤1048576):F33 (x,())=some (x,()) :=
 (toList (A:=Tys.D e111) (B:=Tys.D e138) (xs:=x.1) (T:=fun y=>F72 (y,())) (π:=fun c=>c.1) (φ:=fun y=>y) (bytes:=48) (by decide) (by decide) (w_len hx) (fun y hy=>⟨_,t72 y (w_el hx rfl hy),rfl⟩)).trans (congrArg (fun l=>some ((l,()),())) (List.map_id' x.1))
set_option maxHeartbeats 2000000 in
theorem t73 (x:(Int×(ByteArray×(Int×(List (Tys.D e108)×(Int×(Int×(ByteArray×(Int×(Int×(ByteArray×(Int×(Int×(List (Tys.D e9)×(Int×(List (Tys.D e9)×(List (Tys.D e3)×Unit))))))))))))))))) (hx:((.cons (.int .i64) (.cons .str (.cons (.int .i64) (.cons (.sl e108) (.cons (.int .i64) (.cons (.int .i64) (.cons .str (.cons (.int .i64) (.cons (.int .i64) (.cons .str (.cons (.int .i64) (.cons (.int .i64) (.cons (.sl e9) (.cons (.int .i64) (.cons (.sl e9) (.cons (.sl e3) .nil)))))))))))))))):Tys).w x≤1048576):F73 (x,())=some (x,()) :=
 (bind_eq (t32 (x.2.2.2.1,()) (w_1 (w_tl (w_tl (w_tl hx))))) (bind_eq (t132 (x.2.2.2.2.1,(x.2.2.2.2.2.1,(x.2.2.2.2.2.2.1,()))) (w_3 (w_tl (w_tl (w_tl (w_tl hx)))))) (bind_eq (t133 (x.2.2.2.2.2.2.2.1,(x.2.2.2.2.2.2.2.2.1,(x.2.2.2.2.2.2.2.2.2.1,()))) (w_3 (w_tl (w_tl (w_tl (w_tl (w_tl (w_tl (w_tl hx))))))))) (bind_eq (t126 (x.2.2.2.2.2.2.2.2.2.2.1,(x.2.2.2.2.2.2.2.2.2.2.2.1,(x.2.2.2.2.2.2.2.2.2.2.2.2.1,()))) (w_3 (w_tl (w_tl (w_tl (w_tl (w_tl (w_tl (w_tl (w_tl (w_tl (w_tl hx)))))))))))) (bind_eq (t127 (x.2.2.2.2.2.2.2.2.2.2.2.2.2.1,(x.2.2.2.2.2.2.2.2.2.2.2.2.2.2.1,(x.2.2.2.2.2.2.2.2.2.2.2.2.2.2.2.1,()))) (w_3 (w_tl (w_tl (w_tl (w_tl (w_tl (w_tl (w_tl (w_tl (w_tl (w_tl (w_tl (w_tl (w_tl hx))))))))))))))) rfl)))))
set_option maxHeartbeats 2000000 in
theorem t34 (x:(List (Tys.D e118)×Unit)) (hx:((.cons (.sl e118) .nil):Tys).w x≤1048576):F34 (x,())=some (x,()) :=
 (toList (A:=Tys.D e118) (B:=Tys.D e143) (xs:=x.1) (T:=fun y=>F73 (y,())) (π:=fun c=>c.1) (φ:=fun y=>y) (bytes:=216) (by decide) (by decide) (w_len hx) (fun y hy=>⟨_,t73 y (w_el hx rfl hy),rfl⟩)).trans (congrArg (fun l=>some ((l,()),())) (List.map_id' x.1))
set_option maxHeartbeats 2000000 in
theorem t7 (x:(Int×(List (Tys.D e170)×(List (Tys.D e9)×(List (Tys.D e105)×(List (Tys.D e108)×(List (Tys.D e111)×(List (Tys.D e118)×Unit)))))))) (hx:((.cons (.int .i64) (.cons (.sl e170) (.cons (.sl e9) (.cons (.sl e105) (.cons (.sl e108) (.cons (.sl e111) (.cons (.sl e118) .nil))))))):Tys).w x≤1048576):F7 (x,())=some (x,()) :=
 (bind_eq (t29 (x.1,(x.2.1,())) (w_2 hx)) (bind_eq (t30 (x.2.2.1,()) (w_1 (w_tl (w_tl hx)))) (bind_eq (t31 (x.2.2.2.1,()) (w_1 (w_tl (w_tl (w_tl hx))))) (bind_eq (t32 (x.2.2.2.2.1,()) (w_1 (w_tl (w_tl (w_tl (w_tl hx)))))) (bind_eq (t33 (x.2.2.2.2.2.1,()) (w_1 (w_tl (w_tl (w_tl (w_tl (w_tl hx))))))) (bind_eq (t34 (x.2.2.2.2.2.2.1,()) (w_1 (w_tl (w_tl (w_tl (w_tl (w_tl (w_tl hx)))))))) rfl))))))
set_option maxHeartbeats 2000000 in
theorem s202 (x:(Int×(Int×Unit))) (hx:((.cons (.int .i64) (.cons (.int .i64) .nil)):Tys).Ok x):F202 (x,(x,()))=some (B1 true) :=
 (eq_int (eq_int rfl))
set_option maxHeartbeats 2000000 in
theorem s140 (x:(List (Tys.D e129)×Unit)) (hx:((.cons (.sl e129) .nil):Tys).Ok x):F140 (x,(x,()))=some (B1 true) :=
 eqList (xs:=x.1) (E:=fun y z v=>(F202 (y,(z,()))).bind fun r=>bif (!r.1.1) then some (.inr (.inr (B1 false))) else some (.inl (iAdd .i64 v.1 1,()))) hx.1.1 (fun y hy v=>eq_call (s202 y (Ok_mem hx.1.2 hy)) rfl)
set_option maxHeartbeats 2000000 in
theorem s77 (x:(ByteArray×(Int×(Int×(Int×(List (Tys.D e129)×Unit)))))) (hx:((.cons .str (.cons (.int .i64) (.cons (.int .i64) (.cons (.int .i64) (.cons (.sl e129) .nil))))):Tys).Ok x):F77 (x,(x,()))=some (B1 true) :=
 (eq_str (eq_int (eq_int (eq_int (eq_call (s140 (x.2.2.2.2.1,()) ⟨hx.2.2.2.2.1,trivial⟩) rfl)))))
set_option maxHeartbeats 2000000 in
theorem s39 (x:(List (Tys.D e127)×Unit)) (hx:((.cons (.sl e127) .nil):Tys).Ok x):F39 (x,(x,()))=some (B1 true) :=
 eqList (xs:=x.1) (E:=fun y z v=>(F77 (y,(z,()))).bind fun r=>bif (!r.1.1) then some (.inr (.inr (B1 false))) else some (.inl (iAdd .i64 v.1 1,()))) hx.1.1 (fun y hy v=>eq_call (s77 y (Ok_mem hx.1.2 hy)) rfl)
set_option maxHeartbeats 2000000 in
theorem s10 (x:(Int×(List (Tys.D e127)×Unit))) (hx:((.cons (.int .i64) (.cons (.sl e127) .nil)):Tys).Ok x):F10 (x,(x,()))=some (B1 true) :=
 (eq_int (eq_call (s39 (x.2.1,()) ⟨hx.2.1,trivial⟩) rfl))
set_option maxHeartbeats 2000000 in
theorem s40 (x:(List (Tys.D e9)×Unit)) (hx:((.cons (.sl e9) .nil):Tys).Ok x):F40 (x,(x,()))=some (B1 true) :=
 eqList (xs:=x.1) (E:=fun y z v=>bif !sEq y.1 z.1 then some (.inr (.inr (B1 false))) else some (.inl (iAdd .i64 v.1 1,()))) hx.1.1 (fun y hy v=>eq_str rfl)
set_option maxHeartbeats 2000000 in
theorem s203 (x:(ByteArray×(Int×Unit))) (hx:((.cons .str (.cons (.int .i64) .nil)):Tys).Ok x):F203 (x,(x,()))=some (B1 true) :=
 (eq_str (eq_int rfl))
set_option maxHeartbeats 2000000 in
theorem s141 (x:(List (Tys.D e209)×Unit)) (hx:((.cons (.sl e209) .nil):Tys).Ok x):F141 (x,(x,()))=some (B1 true) :=
 eqList (xs:=x.1) (E:=fun y z v=>(F203 (y,(z,()))).bind fun r=>bif (!r.1.1) then some (.inr (.inr (B1 false))) else some (.inl (iAdd .i64 v.1 1,()))) hx.1.1 (fun y hy v=>eq_call (s203 y (Ok_mem hx.1.2 hy)) rfl)
set_option maxHeartbeats 2000000 in
theorem s142 (x:(Int×(Int×(List (Tys.D e9)×Unit)))) (hx:((.cons (.int .i64) (.cons (.int .i64) (.cons (.sl e9) .nil))):Tys).Ok x):F142 (x,(x,()))=some (B1 true) :=
 (eq_int (eq_int (eq_call (s40 (x.2.2.1,()) ⟨hx.2.2.1,trivial⟩) rfl)))
set_option maxHeartbeats 2000000 in
theorem s12 (x:(List (Tys.D e3)×Unit)) (hx:((.cons (.sl e3) .nil):Tys).Ok x):F12 (x,(x,()))=some (B1 true) :=
 eqList (xs:=x.1) (E:=fun y z v=>bif !iEq y.1 z.1 then some (.inr (.inr (B1 false))) else some (.inl (iAdd .i64 v.1 1,()))) hx.1.1 (fun y hy v=>eq_int rfl)
set_option maxHeartbeats 2000000 in
theorem s143 (x:(Int×(List (Tys.D e9)×(List (Tys.D e3)×Unit)))) (hx:((.cons (.int .i64) (.cons (.sl e9) (.cons (.sl e3) .nil))):Tys).Ok x):F143 (x,(x,()))=some (B1 true) :=
 (eq_int (eq_call (s40 (x.2.1,()) ⟨hx.2.1,trivial⟩) (eq_call (s12 (x.2.2.1,()) ⟨hx.2.2.1,trivial⟩) rfl)))
set_option maxHeartbeats 2000000 in
theorem s204 (x:(Int×(ByteArray×(ByteArray×(Int×(Int×Unit)))))) (hx:((.cons (.int .i64) (.cons .str (.cons .str (.cons (.int .i64) (.cons (.int .i64) .nil))))):Tys).Ok x):F204 (x,(x,()))=some (B1 true) :=
 (eq_int (eq_str (eq_str (eq_int (eq_int rfl)))))
set_option maxHeartbeats 2000000 in
theorem s146 (x:(List (Tys.D e122)×Unit)) (hx:((.cons (.sl e122) .nil):Tys).Ok x):F146 (x,(x,()))=some (B1 true) :=
 eqList (xs:=x.1) (E:=fun y z v=>(F204 (y,(z,()))).bind fun r=>bif (!r.1.1) then some (.inr (.inr (B1 false))) else some (.inl (iAdd .i64 v.1 1,()))) hx.1.1 (fun y hy v=>eq_call (s204 y (Ok_mem hx.1.2 hy)) rfl)
set_option maxHeartbeats 2000000 in
theorem s79 (x:(Int×(Int×(Int×(ByteArray×(Int×(Int×(List (Tys.D e9)×(Int×(List (Tys.D e9)×(List (Tys.D e3)×(List (Tys.D e122)×(Bool×(List (Tys.D e209)×(ByteArray×Unit))))))))))))))) (hx:((.cons (.int .i64) (.cons (.int .i64) (.cons (.int .i64) (.cons .str (.cons (.int .i64) (.cons (.int .i64) (.cons (.sl e9) (.cons (.int .i64) (.cons (.sl e9) (.cons (.sl e3) (.cons (.sl e122) (.cons .bool (.cons (.sl e209) (.cons .str .nil)))))))))))))):Tys).Ok x):F79 (x,(x,()))=some (B1 true) :=
 (eq_int (eq_int (eq_int (eq_str (eq_call (s142 (x.2.2.2.2.1,(x.2.2.2.2.2.1,(x.2.2.2.2.2.2.1,()))) ⟨hx.2.2.2.2.1,⟨hx.2.2.2.2.2.1,⟨hx.2.2.2.2.2.2.1,trivial⟩⟩⟩) (eq_call (s143 (x.2.2.2.2.2.2.2.1,(x.2.2.2.2.2.2.2.2.1,(x.2.2.2.2.2.2.2.2.2.1,()))) ⟨hx.2.2.2.2.2.2.2.1,⟨hx.2.2.2.2.2.2.2.2.1,⟨hx.2.2.2.2.2.2.2.2.2.1,trivial⟩⟩⟩) (eq_call (s146 (x.2.2.2.2.2.2.2.2.2.2.1,()) ⟨hx.2.2.2.2.2.2.2.2.2.2.1,trivial⟩) (eq_bool (eq_call (s141 (x.2.2.2.2.2.2.2.2.2.2.2.2.1,()) ⟨hx.2.2.2.2.2.2.2.2.2.2.2.2.1,trivial⟩) (eq_str rfl))))))))))
set_option maxHeartbeats 2000000 in
theorem s42 (x:(List (Tys.D e71)×Unit)) (hx:((.cons (.sl e71) .nil):Tys).Ok x):F42 (x,(x,()))=some (B1 true) :=
 eqList (xs:=x.1) (E:=fun y z v=>(F79 (y,(z,()))).bind fun r=>bif (!r.1.1) then some (.inr (.inr (B1 false))) else some (.inl (iAdd .i64 v.1 1,()))) hx.1.1 (fun y hy v=>eq_call (s79 y (Ok_mem hx.1.2 hy)) rfl)
set_option maxHeartbeats 2000000 in
theorem s148 (x:(Int×(Int×(ByteArray×Unit)))) (hx:((.cons (.int .i64) (.cons (.int .i64) (.cons .str .nil))):Tys).Ok x):F148 (x,(x,()))=some (B1 true) :=
 (eq_int (eq_int (eq_str rfl)))
set_option maxHeartbeats 2000000 in
theorem s144 (x:(List (Tys.D e140)×Unit)) (hx:((.cons (.sl e140) .nil):Tys).Ok x):F144 (x,(x,()))=some (B1 true) :=
 eqList (xs:=x.1) (E:=fun y z v=>(F148 (y,(z,()))).bind fun r=>bif (!r.1.1) then some (.inr (.inr (B1 false))) else some (.inl (iAdd .i64 v.1 1,()))) hx.1.1 (fun y hy v=>eq_call (s148 y (Ok_mem hx.1.2 hy)) rfl)
set_option maxHeartbeats 2000000 in
theorem s149 (x:(Int×(Int×(ByteArray×Unit)))) (hx:((.cons (.int .i64) (.cons (.int .i64) (.cons .str .nil))):Tys).Ok x):F149 (x,(x,()))=some (B1 true) :=
 (eq_int (eq_int (eq_str rfl)))
set_option maxHeartbeats 2000000 in
theorem s145 (x:(List (Tys.D e141)×Unit)) (hx:((.cons (.sl e141) .nil):Tys).Ok x):F145 (x,(x,()))=some (B1 true) :=
 eqList (xs:=x.1) (E:=fun y z v=>(F149 (y,(z,()))).bind fun r=>bif (!r.1.1) then some (.inr (.inr (B1 false))) else some (.inl (iAdd .i64 v.1 1,()))) hx.1.1 (fun y hy v=>eq_call (s149 y (Ok_mem hx.1.2 hy)) rfl)
set_option maxHeartbeats 2000000 in
theorem s205 (x:(Int×(List (Tys.D e71)×(Int×(Int×(List (Tys.D e9)×Unit)))))) (hx:((.cons (.int .i64) (.cons (.sl e71) (.cons (.int .i64) (.cons (.int .i64) (.cons (.sl e9) .nil))))):Tys).Ok x):F205 (x,(x,()))=some (B1 true) :=
 (eq_int (eq_call (s42 (x.2.1,()) ⟨hx.2.1,trivial⟩) (eq_call (s142 (x.2.2.1,(x.2.2.2.1,(x.2.2.2.2.1,()))) ⟨hx.2.2.1,⟨hx.2.2.2.1,⟨hx.2.2.2.2.1,trivial⟩⟩⟩) rfl)))
set_option maxHeartbeats 2000000 in
theorem s147 (x:(List (Tys.D e211)×Unit)) (hx:((.cons (.sl e211) .nil):Tys).Ok x):F147 (x,(x,()))=some (B1 true) :=
 eqList (xs:=x.1) (E:=fun y z v=>(F205 (y,(z,()))).bind fun r=>bif (!r.1.1) then some (.inr (.inr (B1 false))) else some (.inl (iAdd .i64 v.1 1,()))) hx.1.1 (fun y hy v=>eq_call (s205 y (Ok_mem hx.1.2 hy)) rfl)
set_option maxHeartbeats 2000000 in
theorem s78 (x:(ByteArray×(Int×(Int×(List (Tys.D e127)×(List (Tys.D e209)×(List (Tys.D e71)×(Int×(Int×(Int×(Int×(List (Tys.D e9)×(Int×(List (Tys.D e9)×(List (Tys.D e3)×(Int×(List (Tys.D e140)×(List (Tys.D e141)×(List (Tys.D e3)×(List (Tys.D e122)×(List (Tys.D e211)×Unit))))))))))))))))))))) (hx:((.cons .str (.cons (.int .i64) (.cons (.int .i64) (.cons (.sl e127) (.cons (.sl e209) (.cons (.sl e71) (.cons (.int .i64) (.cons (.int .i64) (.cons (.int .i64) (.cons (.int .i64) (.cons (.sl e9) (.cons (.int .i64) (.cons (.sl e9) (.cons (.sl e3) (.cons (.int .i64) (.cons (.sl e140) (.cons (.sl e141) (.cons (.sl e3) (.cons (.sl e122) (.cons (.sl e211) .nil)))))))))))))))))))):Tys).Ok x):F78 (x,(x,()))=some (B1 true) :=
 (eq_str (eq_int (eq_call (s10 (x.2.2.1,(x.2.2.2.1,())) ⟨hx.2.2.1,⟨hx.2.2.2.1,trivial⟩⟩) (eq_call (s141 (x.2.2.2.2.1,()) ⟨hx.2.2.2.2.1,trivial⟩) (eq_call (s42 (x.2.2.2.2.2.1,()) ⟨hx.2.2.2.2.2.1,trivial⟩) (eq_int (eq_int (eq_call (s142 (x.2.2.2.2.2.2.2.2.1,(x.2.2.2.2.2.2.2.2.2.1,(x.2.2.2.2.2.2.2.2.2.2.1,()))) ⟨hx.2.2.2.2.2.2.2.2.1,⟨hx.2.2.2.2.2.2.2.2.2.1,⟨hx.2.2.2.2.2.2.2.2.2.2.1,trivial⟩⟩⟩) (eq_call (s143 (x.2.2.2.2.2.2.2.2.2.2.2.1,(x.2.2.2.2.2.2.2.2.2.2.2.2.1,(x.2.2.2.2.2.2.2.2.2.2.2.2.2.1,()))) ⟨hx.2.2.2.2.2.2.2.2.2.2.2.1,⟨hx.2.2.2.2.2.2.2.2.2.2.2.2.1,⟨hx.2.2.2.2.2.2.2.2.2.2.2.2.2.1,trivial⟩⟩⟩) (eq_int (eq_call (s144 (x.2.2.2.2.2.2.2.2.2.2.2.2.2.2.2.1,()) ⟨hx.2.2.2.2.2.2.2.2.2.2.2.2.2.2.2.1,trivial⟩) (eq_call (s145 (x.2.2.2.2.2.2.2.2.2.2.2.2.2.2.2.2.1,()) ⟨hx.2.2.2.2.2.2.2.2.2.2.2.2.2.2.2.2.1,trivial⟩) (eq_call (s12 (x.2.2.2.2.2.2.2.2.2.2.2.2.2.2.2.2.2.1,()) ⟨hx.2.2.2.2.2.2.2.2.2.2.2.2.2.2.2.2.2.1,trivial⟩) (eq_call (s146 (x.2.2.2.2.2.2.2.2.2.2.2.2.2.2.2.2.2.2.1,()) ⟨hx.2.2.2.2.2.2.2.2.2.2.2.2.2.2.2.2.2.2.1,trivial⟩) (eq_call (s147 (x.2.2.2.2.2.2.2.2.2.2.2.2.2.2.2.2.2.2.2.1,()) ⟨hx.2.2.2.2.2.2.2.2.2.2.2.2.2.2.2.2.2.2.2.1,trivial⟩) rfl)))))))))))))))
set_option maxHeartbeats 2000000 in
theorem s41 (x:(List (Tys.D e135)×Unit)) (hx:((.cons (.sl e135) .nil):Tys).Ok x):F41 (x,(x,()))=some (B1 true) :=
 eqList (xs:=x.1) (E:=fun y z v=>(F78 (y,(z,()))).bind fun r=>bif (!r.1.1) then some (.inr (.inr (B1 false))) else some (.inl (iAdd .i64 v.1 1,()))) hx.1.1 (fun y hy v=>eq_call (s78 y (Ok_mem hx.1.2 hy)) rfl)
set_option maxHeartbeats 2000000 in
theorem s80 (x:(Int×(Int×(Int×(Int×(ByteArray×Unit)))))) (hx:((.cons (.int .i64) (.cons (.int .i64) (.cons (.int .i64) (.cons (.int .i64) (.cons .str .nil))))):Tys).Ok x):F80 (x,(x,()))=some (B1 true) :=
 (eq_int (eq_int (eq_int (eq_int (eq_str rfl)))))
set_option maxHeartbeats 2000000 in
theorem s43 (x:(List (Tys.D e138)×Unit)) (hx:((.cons (.sl e138) .nil):Tys).Ok x):F43 (x,(x,()))=some (B1 true) :=
 eqList (xs:=x.1) (E:=fun y z v=>(F80 (y,(z,()))).bind fun r=>bif (!r.1.1) then some (.inr (.inr (B1 false))) else some (.inl (iAdd .i64 v.1 1,()))) hx.1.1 (fun y hy v=>eq_call (s80 y (Ok_mem hx.1.2 hy)) rfl)
set_option maxHeartbeats 2000000 in
theorem s81 (x:(Int×(ByteArray×(Int×(List (Tys.D e71)×(Int×(Int×(ByteArray×(Int×(Int×(ByteArray×(Int×(Int×(List (Tys.D e9)×(Int×(List (Tys.D e9)×(List (Tys.D e3)×Unit))))))))))))))))) (hx:((.cons (.int .i64) (.cons .str (.cons (.int .i64) (.cons (.sl e71) (.cons (.int .i64) (.cons (.int .i64) (.cons .str (.cons (.int .i64) (.cons (.int .i64) (.cons .str (.cons (.int .i64) (.cons (.int .i64) (.cons (.sl e9) (.cons (.int .i64) (.cons (.sl e9) (.cons (.sl e3) .nil)))))))))))))))):Tys).Ok x):F81 (x,(x,()))=some (B1 true) :=
 (eq_int (eq_str (eq_int (eq_call (s42 (x.2.2.2.1,()) ⟨hx.2.2.2.1,trivial⟩) (eq_call (s148 (x.2.2.2.2.1,(x.2.2.2.2.2.1,(x.2.2.2.2.2.2.1,()))) ⟨hx.2.2.2.2.1,⟨hx.2.2.2.2.2.1,⟨hx.2.2.2.2.2.2.1,trivial⟩⟩⟩) (eq_call (s149 (x.2.2.2.2.2.2.2.1,(x.2.2.2.2.2.2.2.2.1,(x.2.2.2.2.2.2.2.2.2.1,()))) ⟨hx.2.2.2.2.2.2.2.1,⟨hx.2.2.2.2.2.2.2.2.1,⟨hx.2.2.2.2.2.2.2.2.2.1,trivial⟩⟩⟩) (eq_call (s142 (x.2.2.2.2.2.2.2.2.2.2.1,(x.2.2.2.2.2.2.2.2.2.2.2.1,(x.2.2.2.2.2.2.2.2.2.2.2.2.1,()))) ⟨hx.2.2.2.2.2.2.2.2.2.2.1,⟨hx.2.2.2.2.2.2.2.2.2.2.2.1,⟨hx.2.2.2.2.2.2.2.2.2.2.2.2.1,trivial⟩⟩⟩) (eq_call (s143 (x.2.2.2.2.2.2.2.2.2.2.2.2.2.1,(x.2.2.2.2.2.2.2.2.2.2.2.2.2.2.1,(x.2.2.2.2.2.2.2.2.2.2.2.2.2.2.2.1,()))) ⟨hx.2.2.2.2.2.2.2.2.2.2.2.2.2.1,⟨hx.2.2.2.2.2.2.2.2.2.2.2.2.2.2.1,⟨hx.2.2.2.2.2.2.2.2.2.2.2.2.2.2.2.1,trivial⟩⟩⟩) rfl))))))))
set_option maxHeartbeats 2000000 in
theorem s44 (x:(List (Tys.D e143)×Unit)) (hx:((.cons (.sl e143) .nil):Tys).Ok x):F44 (x,(x,()))=some (B1 true) :=
 eqList (xs:=x.1) (E:=fun y z v=>(F81 (y,(z,()))).bind fun r=>bif (!r.1.1) then some (.inr (.inr (B1 false))) else some (.inl (iAdd .i64 v.1 1,()))) hx.1.1 (fun y hy v=>eq_call (s81 y (Ok_mem hx.1.2 hy)) rfl)
set_option maxHeartbeats 2000000 in
theorem s11 (x:(Int×(List (Tys.D e127)×(List (Tys.D e9)×(List (Tys.D e135)×(List (Tys.D e71)×(List (Tys.D e138)×(List (Tys.D e143)×Unit)))))))) (hx:((.cons (.int .i64) (.cons (.sl e127) (.cons (.sl e9) (.cons (.sl e135) (.cons (.sl e71) (.cons (.sl e138) (.cons (.sl e143) .nil))))))):Tys).Ok x):F11 (x,(x,()))=some (B1 true) :=
 (eq_call (s10 (x.1,(x.2.1,())) ⟨hx.1,⟨hx.2.1,trivial⟩⟩) (eq_call (s40 (x.2.2.1,()) ⟨hx.2.2.1,trivial⟩) (eq_call (s41 (x.2.2.2.1,()) ⟨hx.2.2.2.1,trivial⟩) (eq_call (s42 (x.2.2.2.2.1,()) ⟨hx.2.2.2.2.1,trivial⟩) (eq_call (s43 (x.2.2.2.2.2.1,()) ⟨hx.2.2.2.2.2.1,trivial⟩) (eq_call (s44 (x.2.2.2.2.2.2.1,()) ⟨hx.2.2.2.2.2.2.1,trivial⟩) rfl))))))
end Go.Proofs.YtmjkakjeiopieaaGreat
-- no more blanks than needed
