/- What the functions that the laws reach compute, as functions over plain data; each one's equation with the program is checked by the kernel. Conditions: none. -/

import Derived.Test.YtehcfgnpbelfnaaTm3
import Derived.Test.YtehcfgnpbelfnaaProg
namespace Go.Proofs.Ytehcfgnpbelfnaa
open Go Go.Tm
set_option linter.unusedVariables false
set_option maxRecDepth 100000
def e5 : Tys := (.cons (.int .u8) .nil)
def e106 : Tys := (.cons .str (.cons (.int .i64) .nil))
def e228 : Tys := (.cons (.int .i64) (.cons (.int .i64) .nil))
def e133 : Tys := (.cons .str (.cons (.int .i64) (.cons (.int .i64) (.cons (.int .i64) (.cons (.sl e228) .nil)))))
def e193 : Tys := (.cons (.int .i64) (.cons (.int .i64) .nil))
def e138 : Tys := (.cons .str (.cons (.int .i64) (.cons (.int .i64) (.cons (.int .i64) (.cons (.sl e193) .nil)))))
def TTL : List (Nat × TI) := [(3, ⟨1, 8, .int .i64, [(.int .i64 (0:Int))], [], [], none⟩), (5, ⟨1, 1, .int .u8, [(.int .u8 (0:Int))], [], [], none⟩), (9, ⟨1, 16, .str, [(.str ⟨#[]⟩)], [], [], none⟩), (22, ⟨1, 24, .slice 133, [.nils], [], [], none⟩), (24, ⟨2, 32, .struct, [(.int .i64 (0:Int)), .nils], [(0, 1), (1, 1)], [false, false], none⟩), (26, ⟨1, 24, .slice 106, [.nils], [], [], none⟩), (28, ⟨2, 32, .struct, [(.int .i64 (0:Int)), .nils], [(0, 1), (1, 1)], [false, false], none⟩), (30, ⟨1, 24, .slice 138, [.nils], [], [], none⟩), (32, ⟨2, 32, .struct, [(.int .i64 (0:Int)), .nils], [(0, 1), (1, 1)], [false, false], none⟩), (106, ⟨2, 24, .struct, [(.str ⟨#[]⟩), (.int .i64 (0:Int))], [(0, 1), (1, 1)], [false, false], (some [.str, .int .i64])⟩), (131, ⟨1, 24, .slice 228, [.nils], [], [], none⟩), (133, ⟨5, 64, .struct, [(.str ⟨#[]⟩), (.int .i64 (0:Int)), (.int .i64 (0:Int)), (.int .i64 (0:Int)), .nils], [(0, 1), (1, 1), (2, 1), (3, 1), (4, 1)], [false, false, false, false, false], none⟩), (136, ⟨1, 24, .slice 193, [.nils], [], [], none⟩), (138, ⟨5, 64, .struct, [(.str ⟨#[]⟩), (.int .i64 (0:Int)), (.int .i64 (0:Int)), (.int .i64 (0:Int)), .nils], [(0, 1), (1, 1), (2, 1), (3, 1), (4, 1)], [false, false, false, false, false], none⟩), (191, ⟨1, 24, .slice 5, [.nils], [], [], none⟩), (193, ⟨2, 16, .struct, [(.int .i64 (0:Int)), (.int .i64 (0:Int))], [(0, 1), (1, 1)], [false, false], (some [.int .i64, .int .i64])⟩), (228, ⟨2, 16, .struct, [(.int .i64 (0:Int)), (.int .i64 (0:Int))], [(0, 1), (1, 1)], [false, false], (some [.int .i64, .int .i64])⟩)]
theorem tt_ok : TTL.map (fun p => tiOf Try.prog p.1) = TTL.map (fun p => some p.2) := by kernel_rfl
def TT : Nat → Option TI := lookT TTL
def EE : Nat → Tys := fun n => (bif Nat.ble n 133 then (bif Nat.ble n 5 then (bif Nat.beq n 5 then e5 else .nil) else (bif Nat.ble n 106 then (bif Nat.beq n 106 then e106 else .nil) else (bif Nat.beq n 133 then e133 else .nil))) else (bif Nat.ble n 138 then (bif Nat.beq n 138 then e138 else .nil) else (bif Nat.ble n 193 then (bif Nat.beq n 193 then e193 else .nil) else (bif Nat.beq n 228 then e228 else .nil))))
def i116 : List Grp := [⟨.c, (.cons (.sl e228) .nil), []⟩, ⟨.c, (.cons (.int .i64) .nil), []⟩]
def o116 : List Grp := [⟨.c, (.cons (.int .i64) .nil), []⟩]
/-- laws.szLeaveS -/
noncomputable def F116 : GD i116 → Option (GD o116) := fun x0 => bif iLt (iSub .i64 x0.2.1.1 (List.length x0.1.1 : Int)) (0:Int) then some (((-1:Int), ()), ()) else some ((iSub .i64 x0.2.1.1 (List.length x0.1.1 : Int), ()), ())
noncomputable def c116 : Con := ⟨i116, o116, F116⟩
noncomputable def C116 : Ctx := ⟨12, TT, EE, fun n => none, fun n k => [], fun n => none, fun n => none⟩
theorem q116 : ∀ x, runF C116 Try.f116 i116 o116 x = F116 x := by intro x; kernel_rfl
def i78 : List Grp := [⟨.agg, (.cons .str (.cons (.int .i64) (.cons (.int .i64) (.cons (.int .i64) (.cons (.sl e228) .nil))))), []⟩, ⟨.c, (.cons (.int .i64) .nil), []⟩]
def o78 : List Grp := [⟨.c, (.cons (.int .i64) .nil), []⟩]
/-- laws.szAcct -/
noncomputable def F78 : GD i78 → Option (GD o78) := fun x0 => bif iLt (iSub .i64 x0.2.1.1 (ByteArray.size x0.1.1 : Int)) (0:Int) then some (((-1:Int), ()), ()) else (F116 ((x0.1.2.2.2.2.1, ()), ((iSub .i64 x0.2.1.1 (ByteArray.size x0.1.1 : Int), ()), ()))).bind fun y1 => bif iLt y1.1.1 (0:Int) then some (((-1:Int), ()), ()) else some (y1.1, ())
noncomputable def c78 : Con := ⟨i78, o78, F78⟩
noncomputable def C78 : Ctx := ⟨19, TT, EE, fun n => (bif Nat.beq n 116 then some c116 else none), fun n k => [], fun n => none, fun n => none⟩
theorem q78 : ∀ x, runF C78 Try.f78 i78 o78 x = F78 x := by intro x; kernel_rfl
def i34 : List Grp := [⟨.c, (.cons (.sl e133) .nil), []⟩, ⟨.c, (.cons (.int .i64) .nil), []⟩]
def o34 : List Grp := [⟨.c, (.cons (.int .i64) .nil), []⟩]
/-- laws.szAcctS -/
noncomputable def F34.b0 (x0 : GD i34) : (v1 : (Int × (Int × Unit))) → Option (Sum (Int × (Int × Unit)) (Sum (Int × (Int × Unit)) (GD o34))) := fun v1 => bif iLt v1.2.1 (List.length x0.1.1 : Int) then (getI x0.1.1 v1.2.1).bind fun x2 => (F78 (x2, ((v1.1, ()), ()))).bind fun y3 => bif iLt y3.1.1 (0:Int) then some (.inr (.inr (((-1:Int), ()), ()))) else some (.inl (y3.1.1, (iAdd .i64 v1.2.1 (1:Int), ()))) else some (.inr (.inl (v1.1, (v1.2.1, ()))))
noncomputable def F34 : GD i34 → Option (GD o34) := fun x0 => bif iLt (iSub .i64 x0.2.1.1 (List.length x0.1.1 : Int)) (0:Int) then some (((-1:Int), ()), ()) else (loopF (F34.b0 x0) (iSub .i64 x0.2.1.1 (List.length x0.1.1 : Int), ((0:Int), ()))).bind fun r5 => Sum.elim (fun v4 => some ((v4.1, ()), ())) some r5
noncomputable def c34 : Con := ⟨i34, o34, F34⟩
noncomputable def C34 : Ctx := ⟨27, TT, EE, fun n => (bif Nat.beq n 78 then some c78 else none), fun n k => [], fun n => (bif Nat.beq n 0 then (some ⟨[(.t 1 (.int .i64) .sh), (.t 5 (.int .i64) .sh)], [4, 12, 13, 14, 15, 16, 17, 18, 19, 20, 21, 22, 23, 24, 25], []⟩) else none), fun n => none⟩
theorem q34 : ∀ x, runF C34 Try.f34 i34 o34 x = F34 x := by intro x; kernel_rfl
def i8 : List Grp := [⟨.agg, (.cons (.int .i64) (.cons (.sl e133) .nil)), []⟩, ⟨.c, (.cons (.int .i64) .nil), []⟩]
def o8 : List Grp := [⟨.c, (.cons (.int .i64) .nil), []⟩]
/-- laws.szLedger -/
noncomputable def F8 : GD i8 → Option (GD o8) := fun x0 => (F34 ((x0.1.2.1, ()), (x0.2.1, ()))).bind fun y1 => bif iLt y1.1.1 (0:Int) then some (((-1:Int), ()), ()) else some (y1.1, ())
noncomputable def c8 : Con := ⟨i8, o8, F8⟩
noncomputable def C8 : Ctx := ⟨12, TT, EE, fun n => (bif Nat.beq n 34 then some c34 else none), fun n k => [], fun n => none, fun n => none⟩
theorem q8 : ∀ x, runF C8 Try.f8 i8 o8 x = F8 x := by intro x; kernel_rfl
def i161 : List Grp := [⟨.agg, (.cons (.int .i64) (.cons (.int .i64) .nil)), []⟩]
def o161 : List Grp := [⟨.agg, (.cons (.int .i64) (.cons (.int .i64) .nil)), []⟩]
/-- laws.toLeave -/
noncomputable def F161 : GD i161 → Option (GD o161) := fun x0 => some (x0.1, ())
noncomputable def c161 : Con := ⟨i161, o161, F161⟩
noncomputable def C161 : Ctx := ⟨11, TT, EE, fun n => none, fun n k => [], fun n => none, fun n => none⟩
theorem q161 : ∀ x, runF C161 Try.f161 i161 o161 x = F161 x := by intro x; kernel_rfl
def i119 : List Grp := [⟨.c, (.cons (.sl e228) .nil), []⟩]
def o119 : List Grp := [⟨.c, (.cons (.sl e193) .nil), [(.own [])]⟩]
/-- laws.toLeaveS -/
noncomputable def F119.b0 (x0 : GD i119) : (v1 : (Int × (List (Tys.D e193) × Unit))) → Option (Sum (Int × (List (Tys.D e193) × Unit)) (Sum (Int × (List (Tys.D e193) × Unit)) (GD o119))) := fun v1 => bif iLt v1.1 (List.length x0.1.1 : Int) then (getI x0.1.1 v1.1).bind fun x2 => (F161 (x2, ())).bind fun y3 => (getI v1.2.1 v1.1).bind fun _ => (getN v1.2.1 (Int.toNat v1.1)).bind fun x4 => some (.inl (iAdd .i64 v1.1 (1:Int), (List.set v1.2.1 (Int.toNat v1.1) (y3.1.1, (y3.1.2.1, ())), ()))) else some (.inr (.inl (v1.1, (v1.2.1, ()))))
noncomputable def F119 : GD i119 → Option (GD o119) := fun x0 => bif mkOk (List.length x0.1.1 : Int) (List.length x0.1.1 : Int) 16 then (loopF (F119.b0 x0) ((0:Int), (List.replicate (Int.toNat (List.length x0.1.1 : Int)) ((0:Int), ((0:Int), ())), ()))).bind fun r6 => Sum.elim (fun v5 => some ((v5.2.1, ()), ())) some r6 else none
noncomputable def c119 : Con := ⟨i119, o119, F119⟩
noncomputable def C119 : Ctx := ⟨23, TT, EE, fun n => (bif Nat.beq n 161 then some c161 else none), fun n k => [], fun n => (bif Nat.beq n 0 then (some ⟨[(.t 4 (.int .i64) .sh), (.r 8192 e193 [])], [8, 9, 10, 11, 12, 13, 14, 15, 16, 17, 18, 19, 20, 21], []⟩) else none), fun n => none⟩
theorem q119 : ∀ x, runF C119 Try.f119 i119 o119 x = F119 x := by intro x; kernel_rfl
def i81 : List Grp := [⟨.agg, (.cons .str (.cons (.int .i64) (.cons (.int .i64) (.cons (.int .i64) (.cons (.sl e228) .nil))))), []⟩]
def o81 : List Grp := [⟨.agg, (.cons .str (.cons (.int .i64) (.cons (.int .i64) (.cons (.int .i64) (.cons (.sl e193) .nil))))), [.sh, .sh, .sh, .sh, (.own [])]⟩]
/-- laws.toAcct -/
noncomputable def F81 : GD i81 → Option (GD o81) := fun x0 => (F119 ((x0.1.2.2.2.2.1, ()), ())).bind fun y1 => some ((x0.1.1, (x0.1.2.1, (x0.1.2.2.1, (x0.1.2.2.2.1, (y1.1.1, ()))))), ())
noncomputable def c81 : Con := ⟨i81, o81, F81⟩
noncomputable def C81 : Ctx := ⟨21, TT, EE, fun n => (bif Nat.beq n 119 then some c119 else none), fun n k => [], fun n => none, fun n => none⟩
theorem q81 : ∀ x, runF C81 Try.f81 i81 o81 x = F81 x := by intro x; kernel_rfl
def i37 : List Grp := [⟨.c, (.cons (.sl e133) .nil), []⟩]
def o37 : List Grp := [⟨.c, (.cons (.sl e138) .nil), [(.own [.sh, .sh, .sh, .sh, (.own [])])]⟩]
/-- laws.toAcctS -/
noncomputable def F37.b0 (x0 : GD i37) : (v1 : (Int × (List (Tys.D e138) × Unit))) → Option (Sum (Int × (List (Tys.D e138) × Unit)) (Sum (Int × (List (Tys.D e138) × Unit)) (GD o37))) := fun v1 => bif iLt v1.1 (List.length x0.1.1 : Int) then (getI x0.1.1 v1.1).bind fun x2 => (F81 (x2, ())).bind fun y3 => (getI v1.2.1 v1.1).bind fun _ => (getN v1.2.1 (Int.toNat v1.1)).bind fun x4 => some (.inl (iAdd .i64 v1.1 (1:Int), (List.set v1.2.1 (Int.toNat v1.1) (y3.1.1, (y3.1.2.1, (y3.1.2.2.1, (y3.1.2.2.2.1, (y3.1.2.2.2.2.1, ()))))), ()))) else some (.inr (.inl (v1.1, (v1.2.1, ()))))
noncomputable def F37 : GD i37 → Option (GD o37) := fun x0 => bif mkOk (List.length x0.1.1 : Int) (List.length x0.1.1 : Int) 64 then (loopF (F37.b0 x0) ((0:Int), (List.replicate (Int.toNat (List.length x0.1.1 : Int)) (⟨#[]⟩, ((0:Int), ((0:Int), ((0:Int), ([], ()))))), ()))).bind fun r6 => Sum.elim (fun v5 => some ((v5.2.1, ()), ())) some r6 else none
noncomputable def c37 : Con := ⟨i37, o37, F37⟩
noncomputable def C37 : Ctx := ⟨23, TT, EE, fun n => (bif Nat.beq n 81 then some c81 else none), fun n k => (bif Nat.beq n 1 then (match k with | 2 => [.sh, .sh, .sh, .sh, (.own [])] | _ => []) else []), fun n => (bif Nat.beq n 0 then (some ⟨[(.t 4 (.int .i64) .sh), (.r 8192 e138 [.sh, .sh, .sh, .sh, (.own [])])], [8, 9, 10, 11, 12, 13, 14, 15, 16, 17, 18, 19, 20, 21], []⟩) else none), fun n => none⟩
theorem q37 : ∀ x, runF C37 Try.f37 i37 o37 x = F37 x := by intro x; kernel_rfl
def i10 : List Grp := [⟨.agg, (.cons (.int .i64) (.cons (.sl e133) .nil)), []⟩]
def o10 : List Grp := [⟨.agg, (.cons (.int .i64) (.cons (.sl e138) .nil)), [.sh, (.own [.sh, .sh, .sh, .sh, (.own [])])]⟩]
/-- laws.toLedger -/
noncomputable def F10 : GD i10 → Option (GD o10) := fun x0 => (F37 ((x0.1.2.1, ()), ())).bind fun y1 => some ((x0.1.1, (y1.1.1, ())), ())
noncomputable def c10 : Con := ⟨i10, o10, F10⟩
noncomputable def C10 : Ctx := ⟨12, TT, EE, fun n => (bif Nat.beq n 37 then some c37 else none), fun n k => [], fun n => none, fun n => none⟩
theorem q10 : ∀ x, runF C10 Try.f10 i10 o10 x = F10 x := by intro x; kernel_rfl
def i79 : List Grp := [⟨.c, (.cons (.int .i64) .nil), []⟩, ⟨.c, (.cons (.int .i64) .nil), []⟩, ⟨.c, (.cons (.int .i64) .nil), []⟩]
def o79 : List Grp := [⟨.c, (.cons .bool .nil), []⟩]
/-- spec.l1In -/
noncomputable def F79 : GD i79 → Option (GD o79) := fun x0 => bif iLe x0.2.1.1 x0.1.1 then some ((iLe x0.1.1 x0.2.2.1.1, ()), ()) else some ((false, ()), ())
noncomputable def c79 : Con := ⟨i79, o79, F79⟩
noncomputable def C79 : Ctx := ⟨15, TT, EE, fun n => none, fun n k => [], fun n => none, fun n => none⟩
theorem q79 : ∀ x, runF C79 Try.f79 i79 o79 x = F79 x := by intro x; kernel_rfl
def i90 : List Grp := [⟨.c, (.cons .str .nil), []⟩]
def o90 : List Grp := [⟨.c, (.cons .bool .nil), []⟩]
/-- spec.NameOk -/
noncomputable def F90.b0 (x0 : GD i90) : (v1 : (Int × Unit)) → Option (Sum (Int × Unit) (Sum (Int × Unit) (GD o90))) := fun v1 => bif iLt v1.1 (ByteArray.size x0.1.1 : Int) then (getI (ByteArray.data x0.1.1).toList v1.1).bind fun b2 => (F79 ((IntKind.wrap .i64 (UInt8.toNat b2 : Int), ()), (((97:Int), ()), (((122:Int), ()), ())))).bind fun y3 => bif (!y3.1.1) then (getI (ByteArray.data x0.1.1).toList v1.1).bind fun b4 => (F79 ((IntKind.wrap .i64 (UInt8.toNat b4 : Int), ()), (((48:Int), ()), (((57:Int), ()), ())))).bind fun y5 => bif (!y5.1.1) then some (.inr (.inr ((false, ()), ()))) else some (.inl (iAdd .i64 v1.1 (1:Int), ())) else some (.inl (iAdd .i64 v1.1 (1:Int), ())) else some (.inr (.inl (v1.1, ())))
noncomputable def F90 : GD i90 → Option (GD o90) := fun x0 => (loopF (F90.b0 x0) ((0:Int), ())).bind fun r7 => Sum.elim (fun v6 => (F79 (((ByteArray.size x0.1.1 : Int), ()), (((1:Int), ()), (((8:Int), ()), ())))).bind fun y8 => some (y8.1, ())) some r7
noncomputable def c90 : Con := ⟨i90, o90, F90⟩
noncomputable def C90 : Ctx := ⟨27, TT, EE, fun n => (bif Nat.beq n 79 then some c79 else none), fun n k => [], fun n => (bif Nat.beq n 0 then (some ⟨[(.t 3 (.int .i64) .sh)], [2, 4, 5, 6, 7, 8, 9, 10, 11, 12, 13, 14, 15, 16, 17, 18, 19, 20, 21, 22, 23], []⟩) else none), fun n => none⟩
theorem q90 : ∀ x, runF C90 Try.f90 i90 o90 x = F90 x := by intro x; kernel_rfl
def i117 : List Grp := [⟨.agg, (.cons .str (.cons (.int .i64) (.cons (.int .i64) (.cons (.int .i64) (.cons (.sl e193) .nil))))), []⟩]
def o117 : List Grp := [⟨.c, (.cons .bool .nil), []⟩]
/-- spec.AcctOk -/
noncomputable def F117.b0 (x0 : GD i117) : (v5 : (Int × Unit)) → Option (Sum (Int × Unit) (Sum (Int × Unit) (GD o117))) := fun v5 => bif iLt v5.1 (List.length x0.1.2.2.2.2.1 : Int) then (getI x0.1.2.2.2.2.1 v5.1).bind fun x6 => (F79 ((x6.1, ()), (((1:Int), ()), (((1000000:Int), ()), ())))).bind fun y7 => bif (!y7.1.1) then some (.inr (.inr ((false, ()), ()))) else (F79 ((x6.2.1, ()), (((0:Int), ()), (((1000:Int), ()), ())))).bind fun y8 => bif (!y8.1.1) then some (.inr (.inr ((false, ()), ()))) else bif iLt (0:Int) v5.1 then (getI x0.1.2.2.2.2.1 (iSub .i64 v5.1 (1:Int))).bind fun x9 => bif iLe x6.2.1 x9.2.1 then some (.inr (.inr ((false, ()), ()))) else some (.inl (iAdd .i64 v5.1 (1:Int), ())) else some (.inl (iAdd .i64 v5.1 (1:Int), ())) else some (.inr (.inl (v5.1, ())))
noncomputable def F117 : GD i117 → Option (GD o117) := fun x0 => (F90 ((x0.1.1, ()), ())).bind fun y1 => bif (!y1.1.1) then some ((false, ()), ()) else (F79 ((x0.1.2.1, ()), (((0:Int), ()), (((1000000:Int), ()), ())))).bind fun y2 => bif (!y2.1.1) then some ((false, ()), ()) else (F79 ((x0.1.2.2.1, ()), (((0:Int), ()), (((10000:Int), ()), ())))).bind fun y3 => bif (!y3.1.1) then some ((false, ()), ()) else (F79 ((x0.1.2.2.2.1, ()), (((0:Int), ()), (((1000000:Int), ()), ())))).bind fun y4 => bif (!y4.1.1) then some ((false, ()), ()) else bif iLt (4:Int) (List.length x0.1.2.2.2.2.1 : Int) then some ((false, ()), ()) else (loopF (F117.b0 x0) ((0:Int), ())).bind fun r11 => Sum.elim (fun v10 => some ((true, ()), ())) some r11
noncomputable def c117 : Con := ⟨i117, o117, F117⟩
noncomputable def C117 : Ctx := ⟨71, TT, EE, fun n => (bif Nat.ble n 79 then (bif Nat.beq n 79 then some c79 else none) else (bif Nat.beq n 90 then some c90 else none)), fun n k => [], fun n => (bif Nat.beq n 0 then (some ⟨[(.t 3 (.int .i64) .sh)], [2, 4, 33, 34, 35, 36, 37, 38, 39, 40, 41, 42, 43, 44, 45, 46, 47, 48, 49, 50, 51, 52, 53, 54, 55, 56, 57, 58, 59, 60, 61, 62, 63, 64, 65, 66, 67, 68, 69, 70], []⟩) else none), fun n => none⟩
theorem q117 : ∀ x, runF C117 Try.f117 i117 o117 x = F117 x := by intro x; kernel_rfl
def i160 : List Grp := [⟨.agg, (.cons .str (.cons (.int .i64) (.cons (.int .i64) (.cons (.int .i64) (.cons (.sl e193) .nil))))), []⟩]
def o160 : List Grp := [⟨.c, (.cons (.int .i64) .nil), []⟩]
/-- spec.l4Of -/
noncomputable def F160.b0 (x0 : GD i160) : (v1 : (Int × (Int × Unit))) → Option (Sum (Int × (Int × Unit)) (Sum (Int × (Int × Unit)) (GD o160))) := fun v1 => bif iLt v1.2.1 (List.length x0.1.2.2.2.2.1 : Int) then (getI x0.1.2.2.2.2.1 v1.2.1).bind fun x2 => some (.inl (iAdd .i64 v1.1 x2.1, (iAdd .i64 v1.2.1 (1:Int), ()))) else some (.inr (.inl (v1.1, (v1.2.1, ()))))
noncomputable def F160 : GD i160 → Option (GD o160) := fun x0 => (loopF (F160.b0 x0) (iAdd .i64 x0.1.2.1 x0.1.2.2.2.1, ((0:Int), ()))).bind fun r4 => Sum.elim (fun v3 => some ((v3.1, ()), ())) some r4
noncomputable def c160 : Con := ⟨i160, o160, F160⟩
noncomputable def C160 : Ctx := ⟨26, TT, EE, fun n => none, fun n k => [], fun n => (bif Nat.beq n 0 then (some ⟨[(.t 3 (.int .i64) .sh), (.t 4 (.int .i64) .sh)], [10, 11, 12, 13, 14, 15, 16, 17, 18, 19, 20, 21, 22, 23, 24], []⟩) else none), fun n => none⟩
theorem q160 : ∀ x, runF C160 Try.f160 i160 o160 x = F160 x := by intro x; kernel_rfl
def i118 : List Grp := [⟨.c, (.cons (.sl e138) .nil), []⟩]
def o118 : List Grp := [⟨.c, (.cons (.int .i64) .nil), []⟩]
/-- spec.Wealth -/
noncomputable def F118.b0 (x0 : GD i118) : (v1 : (Int × (Int × Unit))) → Option (Sum (Int × (Int × Unit)) (Sum (Int × (Int × Unit)) (GD o118))) := fun v1 => bif iLt v1.2.1 (List.length x0.1.1 : Int) then (getI x0.1.1 v1.2.1).bind fun x2 => (F160 (x2, ())).bind fun y3 => some (.inl (iAdd .i64 v1.1 y3.1.1, (iAdd .i64 v1.2.1 (1:Int), ()))) else some (.inr (.inl (v1.1, (v1.2.1, ()))))
noncomputable def F118 : GD i118 → Option (GD o118) := fun x0 => (loopF (F118.b0 x0) ((0:Int), ((0:Int), ()))).bind fun r5 => Sum.elim (fun v4 => some ((v4.1, ()), ())) some r5
noncomputable def c118 : Con := ⟨i118, o118, F118⟩
noncomputable def C118 : Ctx := ⟨19, TT, EE, fun n => (bif Nat.beq n 160 then some c160 else none), fun n k => [], fun n => (bif Nat.beq n 0 then (some ⟨[(.t 3 (.int .i64) .sh), (.t 4 (.int .i64) .sh)], [5, 6, 7, 8, 9, 10, 11, 12, 13, 14, 15, 16, 17], []⟩) else none), fun n => none⟩
theorem q118 : ∀ x, runF C118 Try.f118 i118 o118 x = F118 x := by intro x; kernel_rfl
def i80 : List Grp := [⟨.c, (.cons (.sl e138) .nil), []⟩]
def o80 : List Grp := [⟨.c, (.cons .bool .nil), []⟩]
/-- spec.AcctsOk -/
noncomputable def F80.b0 (x0 : GD i80) : (v1 : (Int × Unit)) → Option (Sum (Int × Unit) (Sum (Int × Unit) (GD o80))) := fun v1 => bif iLt v1.1 (List.length x0.1.1 : Int) then (getI x0.1.1 v1.1).bind fun x2 => (F117 (x2, ())).bind fun y3 => bif (!y3.1.1) then some (.inr (.inr ((false, ()), ()))) else bif iLt (0:Int) v1.1 then (getI x0.1.1 (iSub .i64 v1.1 (1:Int))).bind fun x4 => (getI x0.1.1 v1.1).bind fun x5 => bif !sLt x4.1 x5.1 then some (.inr (.inr ((false, ()), ()))) else some (.inl (iAdd .i64 v1.1 (1:Int), ())) else some (.inl (iAdd .i64 v1.1 (1:Int), ())) else some (.inr (.inl (v1.1, ())))
noncomputable def F80 : GD i80 → Option (GD o80) := fun x0 => (loopF (F80.b0 x0) ((0:Int), ())).bind fun r7 => Sum.elim (fun v6 => bif iLe (List.length x0.1.1 : Int) (12:Int) then (F118 (x0.1, ())).bind fun y8 => some ((iLe y8.1.1 (1000000:Int), ()), ()) else some ((false, ()), ())) some r7
noncomputable def c80 : Con := ⟨i80, o80, F80⟩
noncomputable def C80 : Ctx := ⟨42, TT, EE, fun n => (bif Nat.ble n 117 then (bif Nat.beq n 117 then some c117 else none) else (bif Nat.beq n 118 then some c118 else none)), fun n k => [], fun n => (bif Nat.beq n 0 then (some ⟨[(.t 3 (.int .i64) .sh)], [2, 4, 5, 6, 7, 8, 9, 10, 11, 12, 13, 14, 15, 16, 17, 18, 19, 20, 21, 22, 23, 24, 25, 26, 27, 28, 29, 30, 31, 32, 33], []⟩) else none), fun n => none⟩
theorem q80 : ∀ x, runF C80 Try.f80 i80 o80 x = F80 x := by intro x; kernel_rfl
def i35 : List Grp := [⟨.agg, (.cons (.int .i64) (.cons (.sl e138) .nil)), []⟩]
def o35 : List Grp := [⟨.c, (.cons .bool .nil), []⟩]
/-- spec.LedgerOk -/
noncomputable def F35 : GD i35 → Option (GD o35) := fun x0 => (F79 ((x0.1.1, ()), (((0:Int), ()), (((900:Int), ()), ())))).bind fun y1 => bif y1.1.1 then (F80 ((x0.1.2.1, ()), ())).bind fun y2 => some (y2.1, ()) else some ((false, ()), ())
noncomputable def c35 : Con := ⟨i35, o35, F35⟩
noncomputable def C35 : Ctx := ⟨11, TT, EE, fun n => (bif Nat.ble n 79 then (bif Nat.beq n 79 then some c79 else none) else (bif Nat.beq n 80 then some c80 else none)), fun n k => [], fun n => none, fun n => none⟩
theorem q35 : ∀ x, runF C35 Try.f35 i35 o35 x = F35 x := by intro x; kernel_rfl
def i36 : List Grp := [⟨.agg, (.cons (.int .i64) (.cons (.sl e138) .nil)), []⟩]
def o36 : List Grp := [⟨.c, (.cons (.sl e106) .nil), [(.own [])]⟩]
/-- spec.l7Set -/
noncomputable def F36.b0 (x0 : GD i36) : (v1 : (List (Tys.D e106) × (Int × Unit))) → Option (Sum (List (Tys.D e106) × (Int × Unit)) (Sum (List (Tys.D e106) × (Int × Unit)) (GD o36))) := fun v1 => bif iLt v1.2.1 (List.length x0.1.2.1 : Int) then (getI x0.1.2.1 v1.2.1).bind fun x2 => bif iLe (5:Int) x2.2.2.2.1 then (getI x0.1.2.1 v1.2.1).bind fun x3 => (getI x0.1.2.1 v1.2.1).bind fun x4 => bif room (List.length v1.1 + List.length ([(x3.1, (x4.2.2.2.1, ()))] : List (Tys.D e106))) 24 then some (.inl (lapp v1.1 ([(x3.1, (x4.2.2.2.1, ()))] : List (Tys.D e106)), (iAdd .i64 v1.2.1 (1:Int), ()))) else none else some (.inl (v1.1, (iAdd .i64 v1.2.1 (1:Int), ()))) else some (.inr (.inl (v1.1, (v1.2.1, ()))))
noncomputable def F36 : GD i36 → Option (GD o36) := fun x0 => (loopF (F36.b0 x0) (([] : List (Tys.D e106)), ((0:Int), ()))).bind fun r6 => Sum.elim (fun v5 => some ((v5.1, ()), ())) some r6
noncomputable def c36 : Con := ⟨i36, o36, F36⟩
noncomputable def C36 : Ctx := ⟨37, TT, EE, fun n => none, fun n k => [], fun n => (bif Nat.beq n 0 then (some ⟨[(.t 3 (.sl e106) (.own [])), (.t 4 (.int .i64) .sh)], [6, 7, 8, 9, 10, 11, 12, 13, 14, 15, 16, 17, 18, 19, 20, 21, 22, 23, 24, 25, 26, 27, 28, 29, 30, 31, 32, 33, 34, 35], []⟩) else none), fun n => none⟩
theorem q36 : ∀ x, runF C36 Try.f36 i36 o36 x = F36 x := by intro x; kernel_rfl
def i9 : List Grp := [⟨.agg, (.cons (.int .i64) (.cons (.sl e138) .nil)), []⟩]
def o9 : List Grp := [⟨.agg, (.cons (.int .i64) (.cons (.sl e106) .nil)), [.sh, (.own [])]⟩]
/-- spec.ClientNew -/
noncomputable def F9 : GD i9 → Option (GD o9) := fun x0 => (F35 (x0.1, ())).bind fun y1 => bif (!y1.1.1) then some (((0:Int), ([], ())), ()) else (F36 (x0.1, ())).bind fun y2 => some ((x0.1.1, (y2.1.1, ())), ())
noncomputable def c9 : Con := ⟨i9, o9, F9⟩
noncomputable def C9 : Ctx := ⟨12, TT, EE, fun n => (bif Nat.ble n 35 then (bif Nat.beq n 35 then some c35 else none) else (bif Nat.beq n 36 then some c36 else none)), fun n k => [], fun n => none, fun n => none⟩
theorem q9 : ∀ x, runF C9 Try.f9 i9 o9 x = F9 x := by intro x; kernel_rfl
def i82 : List Grp := [⟨.c, (.cons (.int .i64) .nil), []⟩, ⟨.c, (.cons (.int .i64) .nil), []⟩, ⟨.c, (.cons (.int .i64) .nil), []⟩]
def o82 : List Grp := [⟨.c, (.cons .bool .nil), []⟩]
/-- impl.inRange -/
noncomputable def F82 : GD i82 → Option (GD o82) := fun x0 => bif iLe x0.2.1.1 x0.1.1 then some ((iLe x0.1.1 x0.2.2.1.1, ()), ()) else some ((false, ()), ())
noncomputable def c82 : Con := ⟨i82, o82, F82⟩
noncomputable def C82 : Ctx := ⟨15, TT, EE, fun n => none, fun n k => [], fun n => none, fun n => none⟩
theorem q82 : ∀ x, runF C82 Try.f82 i82 o82 x = F82 x := by intro x; kernel_rfl
def i97 : List Grp := [⟨.c, (.cons .str .nil), []⟩]
def o97 : List Grp := [⟨.c, (.cons .bool .nil), []⟩]
/-- impl.NameOk -/
noncomputable def F97.b0 (x0 : GD i97) : (v1 : (Int × Unit)) → Option (Sum (Int × Unit) (Sum (Int × Unit) (GD o97))) := fun v1 => bif iLt v1.1 (ByteArray.size x0.1.1 : Int) then (getI (ByteArray.data x0.1.1).toList v1.1).bind fun b2 => bif iLe (97:Int) (UInt8.toNat b2 : Int) then (getI (ByteArray.data x0.1.1).toList v1.1).bind fun b3 => bif iLe (UInt8.toNat b3 : Int) (122:Int) then some (.inl (iAdd .i64 v1.1 (1:Int), ())) else (getI (ByteArray.data x0.1.1).toList v1.1).bind fun b4 => bif iLe (48:Int) (UInt8.toNat b4 : Int) then (getI (ByteArray.data x0.1.1).toList v1.1).bind fun b5 => bif (!(iLe (UInt8.toNat b5 : Int) (57:Int))) then some (.inr (.inr ((false, ()), ()))) else some (.inl (iAdd .i64 v1.1 (1:Int), ())) else some (.inr (.inr ((false, ()), ()))) else (getI (ByteArray.data x0.1.1).toList v1.1).bind fun b6 => bif iLe (48:Int) (UInt8.toNat b6 : Int) then (getI (ByteArray.data x0.1.1).toList v1.1).bind fun b7 => bif (!(iLe (UInt8.toNat b7 : Int) (57:Int))) then some (.inr (.inr ((false, ()), ()))) else some (.inl (iAdd .i64 v1.1 (1:Int), ())) else some (.inr (.inr ((false, ()), ()))) else some (.inr (.inl (v1.1, ())))
noncomputable def F97 : GD i97 → Option (GD o97) := fun x0 => (loopF (F97.b0 x0) ((0:Int), ())).bind fun r9 => Sum.elim (fun v8 => (F82 (((ByteArray.size x0.1.1 : Int), ()), (((1:Int), ()), (((8:Int), ()), ())))).bind fun y10 => some (y10.1, ())) some r9
noncomputable def c97 : Con := ⟨i97, o97, F97⟩
noncomputable def C97 : Ctx := ⟨36, TT, EE, fun n => (bif Nat.beq n 82 then some c82 else none), fun n k => [], fun n => (bif Nat.beq n 0 then (some ⟨[(.t 3 (.int .i64) .sh)], [2, 4, 5, 6, 7, 8, 9, 10, 11, 12, 13, 14, 15, 16, 17, 18, 19, 20, 21, 22, 23, 24, 25, 26, 27, 28, 29, 30, 31, 32], []⟩) else none), fun n => none⟩
theorem q97 : ∀ x, runF C97 Try.f97 i97 o97 x = F97 x := by intro x; kernel_rfl
def i162 : List Grp := [⟨.c, (.cons (.int .i64) .nil), []⟩]
def o162 : List Grp := [⟨.c, (.cons .bool .nil), []⟩]
/-- impl.isAmount -/
noncomputable def F162 : GD i162 → Option (GD o162) := fun x0 => (F82 (x0.1, (((0:Int), ()), (((1000000:Int), ()), ())))).bind fun y1 => some (y1.1, ())
noncomputable def c162 : Con := ⟨i162, o162, F162⟩
noncomputable def C162 : Ctx := ⟨5, TT, EE, fun n => (bif Nat.beq n 82 then some c82 else none), fun n k => [], fun n => none, fun n => none⟩
theorem q162 : ∀ x, runF C162 Try.f162 i162 o162 x = F162 x := by intro x; kernel_rfl
def i120 : List Grp := [⟨.agg, (.cons .str (.cons (.int .i64) (.cons (.int .i64) (.cons (.int .i64) (.cons (.sl e193) .nil))))), []⟩]
def o120 : List Grp := [⟨.c, (.cons .bool .nil), []⟩]
/-- impl.AcctOk -/
noncomputable def F120.b0 (x0 : GD i120) : (v1 : (Int × Unit)) → Option (Sum (Int × Unit) (Sum (Int × Unit) (GD o120))) := fun v1 => bif iLt v1.1 (List.length x0.1.2.2.2.2.1 : Int) then (getI x0.1.2.2.2.2.1 v1.1).bind fun x2 => (F82 ((x2.1, ()), (((1:Int), ()), (((1000000:Int), ()), ())))).bind fun y3 => bif (!y3.1.1) then some (.inr (.inr ((false, ()), ()))) else (F82 ((x2.2.1, ()), (((0:Int), ()), (((1000:Int), ()), ())))).bind fun y4 => bif (!y4.1.1) then some (.inr (.inr ((false, ()), ()))) else bif iLt (0:Int) v1.1 then (getI x0.1.2.2.2.2.1 (iSub .i64 v1.1 (1:Int))).bind fun x5 => bif iLe x2.2.1 x5.2.1 then some (.inr (.inr ((false, ()), ()))) else some (.inl (iAdd .i64 v1.1 (1:Int), ())) else some (.inl (iAdd .i64 v1.1 (1:Int), ())) else some (.inr (.inl (v1.1, ())))
noncomputable def F120 : GD i120 → Option (GD o120) := fun x0 => (loopF (F120.b0 x0) ((0:Int), ())).bind fun r7 => Sum.elim (fun v6 => (F97 ((x0.1.1, ()), ())).bind fun y8 => bif y8.1.1 then (F162 ((x0.1.2.1, ()), ())).bind fun y9 => bif y9.1.1 then (F162 ((x0.1.2.2.2.1, ()), ())).bind fun y10 => bif y10.1.1 then (F82 ((x0.1.2.2.1, ()), (((0:Int), ()), (((10000:Int), ()), ())))).bind fun y11 => bif y11.1.1 then some ((iLe (List.length x0.1.2.2.2.2.1 : Int) (4:Int), ()), ()) else some ((false, ()), ()) else some ((false, ()), ()) else some ((false, ()), ()) else some ((false, ()), ())) some r7
noncomputable def c120 : Con := ⟨i120, o120, F120⟩
noncomputable def C120 : Ctx := ⟨64, TT, EE, fun n => (bif Nat.ble n 82 then (bif Nat.beq n 82 then some c82 else none) else (bif Nat.ble n 97 then (bif Nat.beq n 97 then some c97 else none) else (bif Nat.beq n 162 then some c162 else none))), fun n k => [], fun n => (bif Nat.beq n 0 then (some ⟨[(.t 8 (.int .i64) .sh)], [2, 3, 4, 9, 10, 11, 12, 13, 14, 15, 16, 17, 18, 19, 20, 21, 22, 23, 24, 25, 26, 27, 28, 29, 30, 31, 32, 33, 34, 35, 36, 37, 38, 39], []⟩) else none), fun n => none⟩
theorem q120 : ∀ x, runF C120 Try.f120 i120 o120 x = F120 x := by intro x; kernel_rfl
def i121 : List Grp := [⟨.c, (.cons (.sl e138) .nil), []⟩]
def o121 : List Grp := [⟨.c, (.cons (.int .i64) .nil), []⟩]
/-- impl.Wealth -/
noncomputable def F121.b1 (x2 : Tys.D e138) : (v3 : (Int × (Int × Unit))) → Option (Sum (Int × (Int × Unit)) (Sum (Int × (Int × Unit)) (Sum (Int × (Int × Unit)) (Sum (Int × (Int × Unit)) (GD o121))))) := fun v3 => bif iLt v3.2.1 (List.length x2.2.2.2.2.1 : Int) then (getI x2.2.2.2.2.1 v3.2.1).bind fun x4 => some (.inl (iAdd .i64 v3.1 x4.1, (iAdd .i64 v3.2.1 (1:Int), ()))) else some (.inr (.inl (v3.1, (v3.2.1, ()))))
noncomputable def F121.b0 (x0 : GD i121) : (v1 : (Int × (Int × Unit))) → Option (Sum (Int × (Int × Unit)) (Sum (Int × (Int × Unit)) (GD o121))) := fun v1 => bif iLt v1.2.1 (List.length x0.1.1 : Int) then (getI x0.1.1 v1.2.1).bind fun x2 => (loopF (F121.b1 x2) (iAdd .i64 v1.1 (iAdd .i64 x2.2.1 x2.2.2.2.1), ((0:Int), ()))).bind fun r6 => Sum.elim (fun v5 => some (.inl (v5.1, (iAdd .i64 v1.2.1 (1:Int), ())))) some r6 else some (.inr (.inl (v1.1, (v1.2.1, ()))))
noncomputable def F121 : GD i121 → Option (GD o121) := fun x0 => (loopF (F121.b0 x0) ((0:Int), ((0:Int), ()))).bind fun r8 => Sum.elim (fun v7 => some ((v7.1, ()), ())) some r8
noncomputable def c121 : Con := ⟨i121, o121, F121⟩
noncomputable def C121 : Ctx := ⟨35, TT, EE, fun n => none, fun n k => [], fun n => (bif Nat.ble n 0 then (bif Nat.beq n 0 then (some ⟨[(.t 3 (.int .i64) .sh), (.t 10 (.int .i64) .sh)], [5, 7, 11, 12, 13, 14, 15, 16, 17, 18, 19, 20, 21, 22, 23, 24, 25, 26, 27, 28, 29, 30, 31, 32, 33], []⟩) else none) else (bif Nat.beq n 2 then (some ⟨[(.t 3 (.int .i64) .sh), (.t 24 (.int .i64) .sh)], [7, 25, 26, 27, 28, 29, 30, 31, 32], []⟩) else none)), fun n => none⟩
theorem q121 : ∀ x, runF C121 Try.f121 i121 o121 x = F121 x := by intro x; kernel_rfl
def i83 : List Grp := [⟨.c, (.cons (.sl e138) .nil), []⟩]
def o83 : List Grp := [⟨.c, (.cons .bool .nil), []⟩]
/-- impl.AcctsOk -/
noncomputable def F83.b0 (x0 : GD i83) : (v1 : (Int × Unit)) → Option (Sum (Int × Unit) (Sum (Int × Unit) (GD o83))) := fun v1 => bif iLt v1.1 (List.length x0.1.1 : Int) then (getI x0.1.1 v1.1).bind fun x2 => (F120 (x2, ())).bind fun y3 => bif (!y3.1.1) then some (.inr (.inr ((false, ()), ()))) else bif iLt (0:Int) v1.1 then (getI x0.1.1 (iSub .i64 v1.1 (1:Int))).bind fun x4 => bif sLt x2.1 x4.1 || sEq x2.1 x4.1 then some (.inr (.inr ((false, ()), ()))) else some (.inl (iAdd .i64 v1.1 (1:Int), ())) else some (.inl (iAdd .i64 v1.1 (1:Int), ())) else some (.inr (.inl (v1.1, ())))
noncomputable def F83 : GD i83 → Option (GD o83) := fun x0 => (loopF (F83.b0 x0) ((0:Int), ())).bind fun r6 => Sum.elim (fun v5 => bif iLe (List.length x0.1.1 : Int) (12:Int) then (F121 (x0.1, ())).bind fun y7 => some ((iLe y7.1.1 (1000000:Int), ()), ()) else some ((false, ()), ())) some r6
noncomputable def c83 : Con := ⟨i83, o83, F83⟩
noncomputable def C83 : Ctx := ⟨39, TT, EE, fun n => (bif Nat.ble n 120 then (bif Nat.beq n 120 then some c120 else none) else (bif Nat.beq n 121 then some c121 else none)), fun n k => [], fun n => (bif Nat.beq n 0 then (some ⟨[(.t 7 (.int .i64) .sh)], [2, 3, 4, 8, 9, 10, 11, 12, 13, 14, 15, 16, 17, 18, 19, 20, 21, 22, 23, 24, 25, 26, 27, 28, 29, 30], []⟩) else none), fun n => none⟩
theorem q83 : ∀ x, runF C83 Try.f83 i83 o83 x = F83 x := by intro x; kernel_rfl
def i38 : List Grp := [⟨.agg, (.cons (.int .i64) (.cons (.sl e138) .nil)), []⟩]
def o38 : List Grp := [⟨.c, (.cons .bool .nil), []⟩]
/-- impl.LedgerOk -/
noncomputable def F38 : GD i38 → Option (GD o38) := fun x0 => (F82 ((x0.1.1, ()), (((0:Int), ()), (((900:Int), ()), ())))).bind fun y1 => bif y1.1.1 then (F83 ((x0.1.2.1, ()), ())).bind fun y2 => some (y2.1, ()) else some ((false, ()), ())
noncomputable def c38 : Con := ⟨i38, o38, F38⟩
noncomputable def C38 : Ctx := ⟨11, TT, EE, fun n => (bif Nat.ble n 82 then (bif Nat.beq n 82 then some c82 else none) else (bif Nat.beq n 83 then some c83 else none)), fun n k => [], fun n => none, fun n => none⟩
theorem q38 : ∀ x, runF C38 Try.f38 i38 o38 x = F38 x := by intro x; kernel_rfl
def i39 : List Grp := [⟨.agg, (.cons (.int .i64) (.cons (.sl e138) .nil)), []⟩]
def o39 : List Grp := [⟨.c, (.cons (.sl e106) .nil), [(.own [])]⟩]
/-- impl.SetOf -/
noncomputable def F39.b0 (x0 : GD i39) : (v2 : (List (Tys.D e106) × (Int × Unit))) → Option (Sum (List (Tys.D e106) × (Int × Unit)) (Sum (List (Tys.D e106) × (Int × Unit)) (GD o39))) := fun v2 => bif iLt v2.2.1 (List.length x0.1.2.1 : Int) then (getI x0.1.2.1 v2.2.1).bind fun x3 => bif iLe (5:Int) x3.2.2.2.1 then bif room (List.length v2.1 + List.length ([(x3.1, (x3.2.2.2.1, ()))] : List (Tys.D e106))) 24 then some (.inl (lapp v2.1 ([(x3.1, (x3.2.2.2.1, ()))] : List (Tys.D e106)), (iAdd .i64 v2.2.1 (1:Int), ()))) else none else some (.inl (v2.1, (iAdd .i64 v2.2.1 (1:Int), ()))) else some (.inr (.inl (v2.1, (v2.2.1, ()))))
noncomputable def F39 : GD i39 → Option (GD o39) := fun x0 => (F38 (x0.1, ())).bind fun y1 => bif (!y1.1.1) then some (([], ()), ()) else (loopF (F39.b0 x0) ([], ((0:Int), ()))).bind fun r5 => Sum.elim (fun v4 => some ((v4.1, ()), ())) some r5
noncomputable def c39 : Con := ⟨i39, o39, F39⟩
noncomputable def C39 : Ctx := ⟨29, TT, EE, fun n => (bif Nat.beq n 38 then some c38 else none), fun n k => [], fun n => (bif Nat.beq n 0 then (some ⟨[(.t 3 (.sl e106) (.own [])), (.t 12 (.int .i64) .sh)], [5, 13, 14, 15, 16, 17, 18, 19, 20, 21, 22, 23, 24, 25, 26, 27], []⟩) else none), fun n => none⟩
theorem q39 : ∀ x, runF C39 Try.f39 i39 o39 x = F39 x := by intro x; kernel_rfl
def i11 : List Grp := [⟨.agg, (.cons (.int .i64) (.cons (.sl e138) .nil)), []⟩]
def o11 : List Grp := [⟨.agg, (.cons (.int .i64) (.cons (.sl e106) .nil)), [.sh, (.own [])]⟩]
/-- impl.ClientNew -/
noncomputable def F11 : GD i11 → Option (GD o11) := fun x0 => (F38 (x0.1, ())).bind fun y1 => bif (!y1.1.1) then some (((0:Int), ([], ())), ()) else (F39 (x0.1, ())).bind fun y2 => some ((x0.1.1, (y2.1.1, ())), ())
noncomputable def c11 : Con := ⟨i11, o11, F11⟩
noncomputable def C11 : Ctx := ⟨12, TT, EE, fun n => (bif Nat.ble n 38 then (bif Nat.beq n 38 then some c38 else none) else (bif Nat.beq n 39 then some c39 else none)), fun n k => [], fun n => none, fun n => none⟩
theorem q11 : ∀ x, runF C11 Try.f11 i11 o11 x = F11 x := by intro x; kernel_rfl
def i84 : List Grp := [⟨.agg, (.cons .str (.cons (.int .i64) .nil)), []⟩, ⟨.agg, (.cons .str (.cons (.int .i64) .nil)), []⟩]
def o84 : List Grp := [⟨.c, (.cons .bool .nil), []⟩]
/-- laws.eqVal -/
noncomputable def F84 : GD i84 → Option (GD o84) := fun x0 => bif !sEq x0.1.1 x0.2.1.1 then some ((false, ()), ()) else bif !iEq x0.1.2.1 x0.2.1.2.1 then some ((false, ()), ()) else some ((true, ()), ())
noncomputable def c84 : Con := ⟨i84, o84, F84⟩
noncomputable def C84 : Ctx := ⟨15, TT, EE, fun n => none, fun n k => [], fun n => none, fun n => none⟩
theorem q84 : ∀ x, runF C84 Try.f84 i84 o84 x = F84 x := by intro x; kernel_rfl
def i40 : List Grp := [⟨.c, (.cons (.sl e106) .nil), []⟩, ⟨.c, (.cons (.sl e106) .nil), []⟩]
def o40 : List Grp := [⟨.c, (.cons .bool .nil), []⟩]
/-- laws.eqValS -/
noncomputable def F40.b0 (x0 : GD i40) : (v1 : (Int × Unit)) → Option (Sum (Int × Unit) (Sum (Int × Unit) (GD o40))) := fun v1 => bif iLt v1.1 (List.length x0.1.1 : Int) then (getI x0.1.1 v1.1).bind fun x2 => (getI x0.2.1.1 v1.1).bind fun x3 => (F84 (x2, (x3, ()))).bind fun y4 => bif (!y4.1.1) then some (.inr (.inr ((false, ()), ()))) else some (.inl (iAdd .i64 v1.1 (1:Int), ())) else some (.inr (.inl (v1.1, ())))
noncomputable def F40 : GD i40 → Option (GD o40) := fun x0 => bif !iEq (List.length x0.1.1 : Int) (List.length x0.2.1.1 : Int) then some ((false, ()), ()) else (loopF (F40.b0 x0) ((0:Int), ())).bind fun r6 => Sum.elim (fun v5 => some ((true, ()), ())) some r6
noncomputable def c40 : Con := ⟨i40, o40, F40⟩
noncomputable def C40 : Ctx := ⟨27, TT, EE, fun n => (bif Nat.beq n 84 then some c84 else none), fun n k => [], fun n => (bif Nat.beq n 0 then (some ⟨[(.t 5 (.int .i64) .sh)], [4, 11, 12, 13, 14, 15, 16, 17, 18, 19, 20, 21, 22, 23, 24, 25, 26], []⟩) else none), fun n => none⟩
theorem q40 : ∀ x, runF C40 Try.f40 i40 o40 x = F40 x := by intro x; kernel_rfl
def i12 : List Grp := [⟨.agg, (.cons (.int .i64) (.cons (.sl e106) .nil)), []⟩, ⟨.agg, (.cons (.int .i64) (.cons (.sl e106) .nil)), []⟩]
def o12 : List Grp := [⟨.c, (.cons .bool .nil), []⟩]
/-- laws.eqClient -/
noncomputable def F12 : GD i12 → Option (GD o12) := fun x0 => bif !iEq x0.1.1 x0.2.1.1 then some ((false, ()), ()) else (F40 ((x0.1.2.1, ()), ((x0.2.1.2.1, ()), ()))).bind fun y1 => bif (!y1.1.1) then some ((false, ()), ()) else some ((true, ()), ())
noncomputable def c12 : Con := ⟨i12, o12, F12⟩
noncomputable def C12 : Ctx := ⟨16, TT, EE, fun n => (bif Nat.beq n 40 then some c40 else none), fun n k => [], fun n => none, fun n => none⟩
theorem q12 : ∀ x, runF C12 Try.f12 i12 o12 x = F12 x := by intro x; kernel_rfl
def i163 : List Grp := [⟨.agg, (.cons (.int .i64) (.cons (.int .i64) .nil)), []⟩, ⟨.agg, (.cons (.int .i64) (.cons (.int .i64) .nil)), []⟩]
def o163 : List Grp := [⟨.c, (.cons .bool .nil), []⟩]
/-- laws.eqLeave -/
noncomputable def F163 : GD i163 → Option (GD o163) := fun x0 => bif !iEq x0.1.1 x0.2.1.1 then some ((false, ()), ()) else bif !iEq x0.1.2.1 x0.2.1.2.1 then some ((false, ()), ()) else some ((true, ()), ())
noncomputable def c163 : Con := ⟨i163, o163, F163⟩
noncomputable def C163 : Ctx := ⟨15, TT, EE, fun n => none, fun n k => [], fun n => none, fun n => none⟩
theorem q163 : ∀ x, runF C163 Try.f163 i163 o163 x = F163 x := by intro x; kernel_rfl
def i122 : List Grp := [⟨.c, (.cons (.sl e193) .nil), []⟩, ⟨.c, (.cons (.sl e193) .nil), []⟩]
def o122 : List Grp := [⟨.c, (.cons .bool .nil), []⟩]
/-- laws.eqLeaveS -/
noncomputable def F122.b0 (x0 : GD i122) : (v1 : (Int × Unit)) → Option (Sum (Int × Unit) (Sum (Int × Unit) (GD o122))) := fun v1 => bif iLt v1.1 (List.length x0.1.1 : Int) then (getI x0.1.1 v1.1).bind fun x2 => (getI x0.2.1.1 v1.1).bind fun x3 => (F163 (x2, (x3, ()))).bind fun y4 => bif (!y4.1.1) then some (.inr (.inr ((false, ()), ()))) else some (.inl (iAdd .i64 v1.1 (1:Int), ())) else some (.inr (.inl (v1.1, ())))
noncomputable def F122 : GD i122 → Option (GD o122) := fun x0 => bif !iEq (List.length x0.1.1 : Int) (List.length x0.2.1.1 : Int) then some ((false, ()), ()) else (loopF (F122.b0 x0) ((0:Int), ())).bind fun r6 => Sum.elim (fun v5 => some ((true, ()), ())) some r6
noncomputable def c122 : Con := ⟨i122, o122, F122⟩
noncomputable def C122 : Ctx := ⟨27, TT, EE, fun n => (bif Nat.beq n 163 then some c163 else none), fun n k => [], fun n => (bif Nat.beq n 0 then (some ⟨[(.t 5 (.int .i64) .sh)], [4, 11, 12, 13, 14, 15, 16, 17, 18, 19, 20, 21, 22, 23, 24, 25, 26], []⟩) else none), fun n => none⟩
theorem q122 : ∀ x, runF C122 Try.f122 i122 o122 x = F122 x := by intro x; kernel_rfl
def i85 : List Grp := [⟨.agg, (.cons .str (.cons (.int .i64) (.cons (.int .i64) (.cons (.int .i64) (.cons (.sl e193) .nil))))), []⟩, ⟨.agg, (.cons .str (.cons (.int .i64) (.cons (.int .i64) (.cons (.int .i64) (.cons (.sl e193) .nil))))), []⟩]
def o85 : List Grp := [⟨.c, (.cons .bool .nil), []⟩]
/-- laws.eqAcct -/
noncomputable def F85 : GD i85 → Option (GD o85) := fun x0 => bif !sEq x0.1.1 x0.2.1.1 then some ((false, ()), ()) else bif !iEq x0.1.2.1 x0.2.1.2.1 then some ((false, ()), ()) else bif !iEq x0.1.2.2.1 x0.2.1.2.2.1 then some ((false, ()), ()) else bif !iEq x0.1.2.2.2.1 x0.2.1.2.2.2.1 then some ((false, ()), ()) else (F122 ((x0.1.2.2.2.2.1, ()), ((x0.2.1.2.2.2.2.1, ()), ()))).bind fun y1 => bif (!y1.1.1) then some ((false, ()), ()) else some ((true, ()), ())
noncomputable def c85 : Con := ⟨i85, o85, F85⟩
noncomputable def C85 : Ctx := ⟨31, TT, EE, fun n => (bif Nat.beq n 122 then some c122 else none), fun n k => [], fun n => none, fun n => none⟩
theorem q85 : ∀ x, runF C85 Try.f85 i85 o85 x = F85 x := by intro x; kernel_rfl
def i41 : List Grp := [⟨.c, (.cons (.sl e138) .nil), []⟩, ⟨.c, (.cons (.sl e138) .nil), []⟩]
def o41 : List Grp := [⟨.c, (.cons .bool .nil), []⟩]
/-- laws.eqAcctS -/
noncomputable def F41.b0 (x0 : GD i41) : (v1 : (Int × Unit)) → Option (Sum (Int × Unit) (Sum (Int × Unit) (GD o41))) := fun v1 => bif iLt v1.1 (List.length x0.1.1 : Int) then (getI x0.1.1 v1.1).bind fun x2 => (getI x0.2.1.1 v1.1).bind fun x3 => (F85 (x2, (x3, ()))).bind fun y4 => bif (!y4.1.1) then some (.inr (.inr ((false, ()), ()))) else some (.inl (iAdd .i64 v1.1 (1:Int), ())) else some (.inr (.inl (v1.1, ())))
noncomputable def F41 : GD i41 → Option (GD o41) := fun x0 => bif !iEq (List.length x0.1.1 : Int) (List.length x0.2.1.1 : Int) then some ((false, ()), ()) else (loopF (F41.b0 x0) ((0:Int), ())).bind fun r6 => Sum.elim (fun v5 => some ((true, ()), ())) some r6
noncomputable def c41 : Con := ⟨i41, o41, F41⟩
noncomputable def C41 : Ctx := ⟨27, TT, EE, fun n => (bif Nat.beq n 85 then some c85 else none), fun n k => [], fun n => (bif Nat.beq n 0 then (some ⟨[(.t 5 (.int .i64) .sh)], [4, 11, 12, 13, 14, 15, 16, 17, 18, 19, 20, 21, 22, 23, 24, 25, 26], []⟩) else none), fun n => none⟩
theorem q41 : ∀ x, runF C41 Try.f41 i41 o41 x = F41 x := by intro x; kernel_rfl
def i13 : List Grp := [⟨.agg, (.cons (.int .i64) (.cons (.sl e138) .nil)), []⟩, ⟨.agg, (.cons (.int .i64) (.cons (.sl e138) .nil)), []⟩]
def o13 : List Grp := [⟨.c, (.cons .bool .nil), []⟩]
/-- laws.eqLedger -/
noncomputable def F13 : GD i13 → Option (GD o13) := fun x0 => bif !iEq x0.1.1 x0.2.1.1 then some ((false, ()), ()) else (F41 ((x0.1.2.1, ()), ((x0.2.1.2.1, ()), ()))).bind fun y1 => bif (!y1.1.1) then some ((false, ()), ()) else some ((true, ()), ())
noncomputable def c13 : Con := ⟨i13, o13, F13⟩
noncomputable def C13 : Ctx := ⟨16, TT, EE, fun n => (bif Nat.beq n 41 then some c41 else none), fun n k => [], fun n => none, fun n => none⟩
theorem q13 : ∀ x, runF C13 Try.f13 i13 o13 x = F13 x := by intro x; kernel_rfl
def i86 : List Grp := [⟨.c, (.cons (.int .i64) .nil), []⟩]
def o86 : List Grp := [⟨.c, (.cons .str .nil), []⟩]
/-- laws.markText -/
noncomputable def F86.b0 : (v1 : (Int × (ByteArray × Unit))) → Option (Sum (Int × (ByteArray × Unit)) (Sum (Int × (ByteArray × Unit)) (GD o86))) := fun v1 => bif iLt (0:Int) v1.1 then bif iEq (10:Int) 0 then none else bif sRoom (bytesStr ([(IntKind.wrap .u8 (iAdd .i64 (48:Int) (iRem v1.1 (10:Int))), ())] : List (Tys.D e5))) v1.2.1 then bif iEq (10:Int) 0 then none else some (.inl (iQuo .i64 v1.1 (10:Int), (sApp (bytesStr ([(IntKind.wrap .u8 (iAdd .i64 (48:Int) (iRem v1.1 (10:Int))), ())] : List (Tys.D e5))) v1.2.1, ()))) else none else some (.inr (.inl (v1.1, (v1.2.1, ()))))
noncomputable def F86 : GD i86 → Option (GD o86) := fun x0 => bif iLe x0.1.1 (0:Int) then some ((⟨#[109, 48]⟩, ()), ()) else (loopF F86.b0 (x0.1.1, (⟨#[]⟩, ()))).bind fun r3 => Sum.elim (fun v2 => bif sRoom ⟨#[109]⟩ v2.2.1 then some ((sApp ⟨#[109]⟩ v2.2.1, ()), ()) else none) some r3
noncomputable def c86 : Con := ⟨i86, o86, F86⟩
noncomputable def C86 : Ctx := ⟨20, TT, EE, fun n => none, fun n k => [], fun n => (bif Nat.beq n 0 then (some ⟨[(.t 0 (.int .i64) .sh), (.t 3 .str .sh)], [6, 7, 8, 9, 10, 11, 12, 13, 14, 15, 16, 17], []⟩) else none), fun n => none⟩
theorem q86 : ∀ x, runF C86 Try.f86 i86 o86 x = F86 x := by intro x; kernel_rfl
def i87 : List Grp := [⟨.wc, (.cons (.sl e193) .nil), [(.own [])]⟩, ⟨.c, (.cons (.int .i64) .nil), []⟩]
def o87 : List Grp := [⟨.c, (.cons (.int .i64) .nil), []⟩, ⟨.wc, (.cons (.sl e193) .nil), [(.own [])]⟩]
/-- laws.markLeaveS -/
noncomputable def F87.b0 : (v1 : (Int × (Int × (List (Tys.D e193) × Unit)))) → Option (Sum (Int × (Int × (List (Tys.D e193) × Unit))) (Sum (Int × (Int × (List (Tys.D e193) × Unit))) (GD o87))) := fun v1 => bif iLt v1.2.1 (List.length v1.2.2.1 : Int) then (getI v1.2.2.1 v1.2.1).bind fun _ => (getN v1.2.2.1 (Int.toNat v1.2.1)).bind fun x2 => (getI (List.set v1.2.2.1 (Int.toNat v1.2.1) (v1.1, x2.2)) v1.2.1).bind fun _ => (getN (List.set v1.2.2.1 (Int.toNat v1.2.1) (v1.1, x2.2)) (Int.toNat v1.2.1)).bind fun x3 => some (.inl (iAdd .i64 (iAdd .i64 v1.1 (1:Int)) (1:Int), (iAdd .i64 v1.2.1 (1:Int), (List.set (List.set v1.2.2.1 (Int.toNat v1.2.1) (v1.1, x2.2)) (Int.toNat v1.2.1) (x3.1, (iAdd .i64 v1.1 (1:Int), ())), ())))) else some (.inr (.inl (v1.1, (v1.2.1, (v1.2.2.1, ())))))
noncomputable def F87 : GD i87 → Option (GD o87) := fun x0 => (loopF F87.b0 (x0.2.1.1, ((0:Int), (x0.1.1, ())))).bind fun r5 => Sum.elim (fun v4 => some ((v4.1, ()), ((v4.2.2.1, ()), ()))) some r5
noncomputable def c87 : Con := ⟨i87, o87, F87⟩
noncomputable def C87 : Ctx := ⟨27, TT, EE, fun n => none, fun n k => [], fun n => (bif Nat.beq n 0 then (some ⟨[(.t 1 (.int .i64) .sh), (.t 5 (.int .i64) .sh), (.r 1 e193 [])], [6, 7, 8, 9, 10, 11, 12, 13, 14, 15, 16, 17, 18, 19, 20, 21, 22, 23, 24, 25], []⟩) else none), fun n => none⟩
theorem q87 : ∀ x, runF C87 Try.f87 i87 o87 x = F87 x := by intro x; kernel_rfl
def i42 : List Grp := [⟨.wc, (.cons (.sl e138) .nil), [(.own [.sh, .sh, .sh, .sh, (.own [])])]⟩, ⟨.c, (.cons (.int .i64) .nil), []⟩]
def o42 : List Grp := [⟨.c, (.cons (.int .i64) .nil), []⟩, ⟨.wc, (.cons (.sl e138) .nil), [(.own [.sh, .sh, .sh, .sh, (.own [])])]⟩]
/-- laws.markAcctS -/
noncomputable def F42.b0 : (v1 : (Int × (Int × (List (Tys.D e138) × Unit)))) → Option (Sum (Int × (Int × (List (Tys.D e138) × Unit))) (Sum (Int × (Int × (List (Tys.D e138) × Unit))) (GD o42))) := fun v1 => bif iLt v1.2.1 (List.length v1.2.2.1 : Int) then (F86 ((v1.1, ()), ())).bind fun y2 => (getI v1.2.2.1 v1.2.1).bind fun _ => (getN v1.2.2.1 (Int.toNat v1.2.1)).bind fun x3 => (getI (List.set v1.2.2.1 (Int.toNat v1.2.1) (y2.1.1, x3.2)) v1.2.1).bind fun _ => (getN (List.set v1.2.2.1 (Int.toNat v1.2.1) (y2.1.1, x3.2)) (Int.toNat v1.2.1)).bind fun x4 => (getI (List.set (List.set v1.2.2.1 (Int.toNat v1.2.1) (y2.1.1, x3.2)) (Int.toNat v1.2.1) (x4.1, (iAdd .i64 v1.1 (1:Int), x4.2.2))) v1.2.1).bind fun _ => (getN (List.set (List.set v1.2.2.1 (Int.toNat v1.2.1) (y2.1.1, x3.2)) (Int.toNat v1.2.1) (x4.1, (iAdd .i64 v1.1 (1:Int), x4.2.2))) (Int.toNat v1.2.1)).bind fun x5 => (getI (List.set (List.set (List.set v1.2.2.1 (Int.toNat v1.2.1) (y2.1.1, x3.2)) (Int.toNat v1.2.1) (x4.1, (iAdd .i64 v1.1 (1:Int), x4.2.2))) (Int.toNat v1.2.1) (x5.1, (x5.2.1, (iAdd .i64 (iAdd .i64 v1.1 (1:Int)) (1:Int), x5.2.2.2)))) v1.2.1).bind fun _ => (getN (List.set (List.set (List.set v1.2.2.1 (Int.toNat v1.2.1) (y2.1.1, x3.2)) (Int.toNat v1.2.1) (x4.1, (iAdd .i64 v1.1 (1:Int), x4.2.2))) (Int.toNat v1.2.1) (x5.1, (x5.2.1, (iAdd .i64 (iAdd .i64 v1.1 (1:Int)) (1:Int), x5.2.2.2)))) (Int.toNat v1.2.1)).bind fun x6 => (getI (List.set (List.set (List.set (List.set v1.2.2.1 (Int.toNat v1.2.1) (y2.1.1, x3.2)) (Int.toNat v1.2.1) (x4.1, (iAdd .i64 v1.1 (1:Int), x4.2.2))) (Int.toNat v1.2.1) (x5.1, (x5.2.1, (iAdd .i64 (iAdd .i64 v1.1 (1:Int)) (1:Int), x5.2.2.2)))) (Int.toNat v1.2.1) (x6.1, (x6.2.1, (x6.2.2.1, (iAdd .i64 (iAdd .i64 (iAdd .i64 v1.1 (1:Int)) (1:Int)) (1:Int), x6.2.2.2.2))))) v1.2.1).bind fun _ => (getN (List.set (List.set (List.set (List.set v1.2.2.1 (Int.toNat v1.2.1) (y2.1.1, x3.2)) (Int.toNat v1.2.1) (x4.1, (iAdd .i64 v1.1 (1:Int), x4.2.2))) (Int.toNat v1.2.1) (x5.1, (x5.2.1, (iAdd .i64 (iAdd .i64 v1.1 (1:Int)) (1:Int), x5.2.2.2)))) (Int.toNat v1.2.1) (x6.1, (x6.2.1, (x6.2.2.1, (iAdd .i64 (iAdd .i64 (iAdd .i64 v1.1 (1:Int)) (1:Int)) (1:Int), x6.2.2.2.2))))) (Int.toNat v1.2.1)).bind fun x7 => (getN (List.set (List.set (List.set (List.set v1.2.2.1 (Int.toNat v1.2.1) (y2.1.1, x3.2)) (Int.toNat v1.2.1) (x4.1, (iAdd .i64 v1.1 (1:Int), x4.2.2))) (Int.toNat v1.2.1) (x5.1, (x5.2.1, (iAdd .i64 (iAdd .i64 v1.1 (1:Int)) (1:Int), x5.2.2.2)))) (Int.toNat v1.2.1) (x6.1, (x6.2.1, (x6.2.2.1, (iAdd .i64 (iAdd .i64 (iAdd .i64 v1.1 (1:Int)) (1:Int)) (1:Int), x6.2.2.2.2))))) (Int.toNat v1.2.1)).bind fun x8 => (F87 ((x8.2.2.2.2.1, ()), ((iAdd .i64 (iAdd .i64 (iAdd .i64 (iAdd .i64 v1.1 (1:Int)) (1:Int)) (1:Int)) (1:Int), ()), ()))).bind fun y9 => some (.inl (y9.1.1, (iAdd .i64 v1.2.1 (1:Int), (List.set (List.set (List.set (List.set (List.set v1.2.2.1 (Int.toNat v1.2.1) (y2.1.1, x3.2)) (Int.toNat v1.2.1) (x4.1, (iAdd .i64 v1.1 (1:Int), x4.2.2))) (Int.toNat v1.2.1) (x5.1, (x5.2.1, (iAdd .i64 (iAdd .i64 v1.1 (1:Int)) (1:Int), x5.2.2.2)))) (Int.toNat v1.2.1) (x6.1, (x6.2.1, (x6.2.2.1, (iAdd .i64 (iAdd .i64 (iAdd .i64 v1.1 (1:Int)) (1:Int)) (1:Int), x6.2.2.2.2))))) (Int.toNat v1.2.1) (x8.1, (x8.2.1, (x8.2.2.1, (x8.2.2.2.1, (y9.2.1.1, ()))))), ())))) else some (.inr (.inl (v1.1, (v1.2.1, (v1.2.2.1, ())))))
noncomputable def F42 : GD i42 → Option (GD o42) := fun x0 => (loopF F42.b0 (x0.2.1.1, ((0:Int), (x0.1.1, ())))).bind fun r11 => Sum.elim (fun v10 => some ((v10.1, ()), ((v10.2.2.1, ()), ()))) some r11
noncomputable def c42 : Con := ⟨i42, o42, F42⟩
noncomputable def C42 : Ctx := ⟨49, TT, EE, fun n => (bif Nat.ble n 86 then (bif Nat.beq n 86 then some c86 else none) else (bif Nat.beq n 87 then some c87 else none)), fun n k => [], fun n => (bif Nat.beq n 0 then (some ⟨[(.t 1 (.int .i64) .sh), (.t 5 (.int .i64) .sh), (.r 1 e138 [.sh, .sh, .sh, .sh, (.own [])])], [6, 7, 8, 9, 10, 11, 12, 13, 14, 15, 16, 17, 18, 19, 20, 21, 22, 23, 24, 25, 26, 27, 28, 29, 30, 31, 32, 33, 34, 35, 36, 37, 38, 39, 40, 41, 42, 43, 44, 45, 46, 47], []⟩) else none), fun n => none⟩
theorem q42 : ∀ x, runF C42 Try.f42 i42 o42 x = F42 x := by intro x; kernel_rfl
def i14 : List Grp := [⟨.wa, (.cons (.int .i64) (.cons (.sl e138) .nil)), [.sh, (.own [.sh, .sh, .sh, .sh, (.own [])])]⟩, ⟨.c, (.cons (.int .i64) .nil), []⟩]
def o14 : List Grp := [⟨.c, (.cons (.int .i64) .nil), []⟩, ⟨.wa, (.cons (.int .i64) (.cons (.sl e138) .nil)), [.sh, (.own [.sh, .sh, .sh, .sh, (.own [])])]⟩]
/-- laws.markLedger -/
noncomputable def F14 : GD i14 → Option (GD o14) := fun x0 => (F42 ((x0.1.2.1, ()), (x0.2.1, ()))).bind fun y1 => some (y1.1, ((x0.1.1, (y1.2.1.1, ())), ()))
noncomputable def c14 : Con := ⟨i14, o14, F14⟩
noncomputable def C14 : Ctx := ⟨10, TT, EE, fun n => (bif Nat.beq n 42 then some c42 else none), fun n k => [], fun n => none, fun n => none⟩
theorem q14 : ∀ x, runF C14 Try.f14 i14 o14 x = F14 x := by intro x; kernel_rfl
def i43 : List Grp := [⟨.wc, (.cons (.sl e106) .nil), [(.own [])]⟩, ⟨.c, (.cons (.int .i64) .nil), []⟩]
def o43 : List Grp := [⟨.c, (.cons (.int .i64) .nil), []⟩, ⟨.wc, (.cons (.sl e106) .nil), [(.own [])]⟩]
/-- laws.markValS -/
noncomputable def F43.b0 : (v1 : (Int × (Int × (List (Tys.D e106) × Unit)))) → Option (Sum (Int × (Int × (List (Tys.D e106) × Unit))) (Sum (Int × (Int × (List (Tys.D e106) × Unit))) (GD o43))) := fun v1 => bif iLt v1.2.1 (List.length v1.2.2.1 : Int) then (F86 ((v1.1, ()), ())).bind fun y2 => (getI v1.2.2.1 v1.2.1).bind fun _ => (getN v1.2.2.1 (Int.toNat v1.2.1)).bind fun x3 => (getI (List.set v1.2.2.1 (Int.toNat v1.2.1) (y2.1.1, x3.2)) v1.2.1).bind fun _ => (getN (List.set v1.2.2.1 (Int.toNat v1.2.1) (y2.1.1, x3.2)) (Int.toNat v1.2.1)).bind fun x4 => some (.inl (iAdd .i64 (iAdd .i64 v1.1 (1:Int)) (1:Int), (iAdd .i64 v1.2.1 (1:Int), (List.set (List.set v1.2.2.1 (Int.toNat v1.2.1) (y2.1.1, x3.2)) (Int.toNat v1.2.1) (x4.1, (iAdd .i64 v1.1 (1:Int), ())), ())))) else some (.inr (.inl (v1.1, (v1.2.1, (v1.2.2.1, ())))))
noncomputable def F43 : GD i43 → Option (GD o43) := fun x0 => (loopF F43.b0 (x0.2.1.1, ((0:Int), (x0.1.1, ())))).bind fun r6 => Sum.elim (fun v5 => some ((v5.1, ()), ((v5.2.2.1, ()), ()))) some r6
noncomputable def c43 : Con := ⟨i43, o43, F43⟩
noncomputable def C43 : Ctx := ⟨28, TT, EE, fun n => (bif Nat.beq n 86 then some c86 else none), fun n k => [], fun n => (bif Nat.beq n 0 then (some ⟨[(.t 1 (.int .i64) .sh), (.t 5 (.int .i64) .sh), (.r 1 e106 [])], [6, 7, 8, 9, 10, 11, 12, 13, 14, 15, 16, 17, 18, 19, 20, 21, 22, 23, 24, 25, 26], []⟩) else none), fun n => none⟩
theorem q43 : ∀ x, runF C43 Try.f43 i43 o43 x = F43 x := by intro x; kernel_rfl
def i15 : List Grp := [⟨.wa, (.cons (.int .i64) (.cons (.sl e106) .nil)), [.sh, (.own [])]⟩, ⟨.c, (.cons (.int .i64) .nil), []⟩]
def o15 : List Grp := [⟨.c, (.cons (.int .i64) .nil), []⟩, ⟨.wa, (.cons (.int .i64) (.cons (.sl e106) .nil)), [.sh, (.own [])]⟩]
/-- laws.markClient -/
noncomputable def F15 : GD i15 → Option (GD o15) := fun x0 => (F43 ((x0.1.2.1, ()), (x0.2.1, ()))).bind fun y1 => some (y1.1, ((x0.1.1, (y1.2.1.1, ())), ()))
noncomputable def c15 : Con := ⟨i15, o15, F15⟩
noncomputable def C15 : Ctx := ⟨10, TT, EE, fun n => (bif Nat.beq n 43 then some c43 else none), fun n k => [], fun n => none, fun n => none⟩
theorem q15 : ∀ x, runF C15 Try.f15 i15 o15 x = F15 x := by intro x; kernel_rfl
def i44 : List Grp := [⟨.c, (.cons (.sl e106) .nil), []⟩, ⟨.c, (.cons (.int .i64) .nil), []⟩]
def o44 : List Grp := [⟨.c, (.cons (.int .i64) .nil), []⟩]
/-- laws.heldValS -/
noncomputable def F44.b0 (x0 : GD i44) : (v1 : (Int × (Int × Unit))) → Option (Sum (Int × (Int × Unit)) (Sum (Int × (Int × Unit)) (GD o44))) := fun v1 => bif iLt v1.2.1 (List.length x0.1.1 : Int) then (getI x0.1.1 v1.2.1).bind fun x2 => (F86 ((v1.1, ()), ())).bind fun y3 => bif !sEq x2.1 y3.1.1 then some (.inr (.inr (((-1:Int), ()), ()))) else (getI x0.1.1 v1.2.1).bind fun x4 => bif !iEq x4.2.1 (iAdd .i64 v1.1 (1:Int)) then some (.inr (.inr (((-1:Int), ()), ()))) else some (.inl (iAdd .i64 (iAdd .i64 v1.1 (1:Int)) (1:Int), (iAdd .i64 v1.2.1 (1:Int), ()))) else some (.inr (.inl (v1.1, (v1.2.1, ()))))
noncomputable def F44 : GD i44 → Option (GD o44) := fun x0 => (loopF (F44.b0 x0) (x0.2.1.1, ((0:Int), ()))).bind fun r6 => Sum.elim (fun v5 => some ((v5.1, ()), ())) some r6
noncomputable def c44 : Con := ⟨i44, o44, F44⟩
noncomputable def C44 : Ctx := ⟨32, TT, EE, fun n => (bif Nat.beq n 86 then some c86 else none), fun n k => [], fun n => (bif Nat.beq n 0 then (some ⟨[(.t 1 (.int .i64) .sh), (.t 5 (.int .i64) .sh)], [4, 6, 7, 8, 9, 10, 11, 12, 13, 14, 15, 16, 17, 18, 19, 20, 21, 22, 23, 24, 25, 26, 27, 28, 29, 30], []⟩) else none), fun n => none⟩
theorem q44 : ∀ x, runF C44 Try.f44 i44 o44 x = F44 x := by intro x; kernel_rfl
def i16 : List Grp := [⟨.agg, (.cons (.int .i64) (.cons (.sl e106) .nil)), []⟩, ⟨.c, (.cons (.int .i64) .nil), []⟩]
def o16 : List Grp := [⟨.c, (.cons (.int .i64) .nil), []⟩]
/-- laws.heldClient -/
noncomputable def F16 : GD i16 → Option (GD o16) := fun x0 => (F44 ((x0.1.2.1, ()), (x0.2.1, ()))).bind fun y1 => bif iLt y1.1.1 (0:Int) then some (((-1:Int), ()), ()) else some (y1.1, ())
noncomputable def c16 : Con := ⟨i16, o16, F16⟩
noncomputable def C16 : Ctx := ⟨12, TT, EE, fun n => (bif Nat.beq n 44 then some c44 else none), fun n k => [], fun n => none, fun n => none⟩
theorem q16 : ∀ x, runF C16 Try.f16 i16 o16 x = F16 x := by intro x; kernel_rfl
def i3 : List Grp := [⟨.agg, (.cons (.int .i64) (.cons (.sl e133) .nil)), []⟩]
def o3 : List Grp := [⟨.c, (.cons .bool .nil), []⟩]
/-- laws.FnExactClientNew -/
noncomputable def F3 : GD i3 → Option (GD o3) := fun x0 => (F8 (x0.1, (((1048576:Int), ()), ()))).bind fun y1 => bif iLt y1.1.1 (0:Int) then some ((true, ()), ()) else (F10 (x0.1, ())).bind fun y2 => (F9 (y2.1, ())).bind fun y3 => (F10 (x0.1, ())).bind fun y4 => (F11 (y4.1, ())).bind fun y5 => (F12 (y5.1, (y3.1, ()))).bind fun y6 => bif (!y6.1.1) then some ((false, ()), ()) else (F10 (x0.1, ())).bind fun y7 => (F13 (y4.1, (y7.1, ()))).bind fun y8 => bif (!y8.1.1) then some ((false, ()), ()) else (F14 (y4.1, (((1:Int), ()), ()))).bind fun y9 => bif iLt y9.1.1 (0:Int) then some ((false, ()), ()) else (F12 (y5.1, (y3.1, ()))).bind fun y10 => bif (!y10.1.1) then some ((false, ()), ()) else (F15 (y5.1, (((1:Int), ()), ()))).bind fun y11 => (F16 ((y5.1.1, (y11.2.1.2.1, ())), (((1:Int), ()), ()))).bind fun y12 => bif iLt y12.1.1 (0:Int) then some ((false, ()), ()) else bif !iEq y12.1.1 y11.1.1 then some ((false, ()), ()) else (F10 (x0.1, ())).bind fun y13 => (F11 (y13.1, ())).bind fun y14 => (F12 (y14.1, (y3.1, ()))).bind fun y15 => bif (!y15.1.1) then some ((false, ()), ()) else (F16 ((y5.1.1, (y11.2.1.2.1, ())), (((1:Int), ()), ()))).bind fun y16 => bif iLt y16.1.1 (0:Int) then some ((false, ()), ()) else bif !iEq y16.1.1 y11.1.1 then some ((false, ()), ()) else some ((true, ()), ())
noncomputable def c3 : Con := ⟨i3, o3, F3⟩
noncomputable def C3 : Ctx := ⟨69, TT, EE, fun n => (bif Nat.ble n 11 then (bif Nat.ble n 9 then (bif Nat.ble n 8 then (bif Nat.beq n 8 then some c8 else none) else (bif Nat.beq n 9 then some c9 else none)) else (bif Nat.ble n 10 then (bif Nat.beq n 10 then some c10 else none) else (bif Nat.beq n 11 then some c11 else none))) else (bif Nat.ble n 13 then (bif Nat.ble n 12 then (bif Nat.beq n 12 then some c12 else none) else (bif Nat.beq n 13 then some c13 else none)) else (bif Nat.ble n 14 then (bif Nat.beq n 14 then some c14 else none) else (bif Nat.ble n 15 then (bif Nat.beq n 15 then some c15 else none) else (bif Nat.beq n 16 then some c16 else none))))), fun n k => [], fun n => none, fun n => none⟩
theorem q3 : ∀ x, runF C3 Try.f3 i3 o3 x = F3 x := by intro x; kernel_rfl
end Go.Proofs.Ytehcfgnpbelfnaa
