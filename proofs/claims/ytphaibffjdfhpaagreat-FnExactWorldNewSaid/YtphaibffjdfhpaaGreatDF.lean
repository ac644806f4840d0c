/- What the functions that the laws reach compute, as functions over plain data; each one's equation with the program is checked by the kernel. Conditions: none. -/

import Derived.Test.YtphaibffjdfhpaaGreatTm4
import Derived.Test.YtphaibffjdfhpaaGreatProg
namespace Go.Proofs.YtphaibffjdfhpaaGreat
open Go Go.Tm
set_option linter.unusedVariables false
set_option maxRecDepth 100000
def e3 : Tys := (.cons (.int .i64) .nil)
abbrev D3 : Type := (Int × Unit)
def e5 : Tys := (.cons (.int .u8) .nil)
abbrev D5 : Type := (Int × Unit)
def e9 : Tys := (.cons .str .nil)
abbrev D9 : Type := (ByteArray × Unit)
def e264 : Tys := (.cons (.int .i64) (.cons (.int .i64) .nil))
abbrev D264 : Type := (Int × (Int × Unit))
def e225 : Tys := (.cons .str (.cons (.int .i64) (.cons (.int .i64) (.cons (.int .i64) (.cons (.sl e264) .nil)))))
abbrev D225 : Type := (ByteArray × (Int × (Int × (Int × (List D264 × Unit)))))
def e24 : Tys := (.cons (.int .i64) (.cons (.sl e225) .nil))
abbrev D24 : Type := (Int × (List D225 × Unit))
def e41 : Tys := (.cons (.int .i64) (.cons (.int .i64) (.cons (.sl e9) .nil)))
abbrev D41 : Type := (Int × (Int × (List D9 × Unit)))
def e195 : Tys := (.cons (.int .i64) (.cons .str (.cons .str (.cons (.int .i64) (.cons (.int .i64) .nil)))))
abbrev D195 : Type := (Int × (ByteArray × (ByteArray × (Int × (Int × Unit)))))
def e188 : Tys := (.cons .str (.cons (.int .i64) .nil))
abbrev D188 : Type := (ByteArray × (Int × Unit))
def e138 : Tys := (.cons (.int .i64) (.cons (.int .i64) (.cons (.int .i64) (.cons .str (.cons (.int .i64) (.cons (.int .i64) (.cons (.sl e9) (.cons (.int .i64) (.cons (.sl e9) (.cons (.sl e3) (.cons (.sl e195) (.cons .bool (.cons (.sl e188) (.cons .str .nil))))))))))))))
abbrev D138 : Type := (Int × (Int × (Int × (ByteArray × (Int × (Int × (List D9 × (Int × (List D9 × (List D3 × (List D195 × (Bool × (List D188 × (ByteArray × Unit))))))))))))))
def e43 : Tys := (.cons (.int .i64) (.cons (.sl e138) (.cons (.int .i64) (.cons (.int .i64) (.cons (.sl e9) .nil)))))
abbrev D43 : Type := (Int × (List D138 × (Int × (Int × (List D9 × Unit)))))
def e248 : Tys := (.cons (.int .i64) (.cons (.int .i64) .nil))
abbrev D248 : Type := (Int × (Int × Unit))
def e153 : Tys := (.cons .str (.cons (.int .i64) (.cons (.int .i64) (.cons (.int .i64) (.cons (.sl e248) .nil)))))
abbrev D153 : Type := (ByteArray × (Int × (Int × (Int × (List D248 × Unit)))))
def e48 : Tys := (.cons (.int .i64) (.cons (.sl e153) .nil))
abbrev D48 : Type := (Int × (List D153 × Unit))
def e50 : Tys := (.cons (.int .i64) (.cons (.sl e9) (.cons (.sl e3) .nil)))
abbrev D50 : Type := (Int × (List D9 × (List D3 × Unit)))
def e191 : Tys := (.cons (.int .i64) (.cons (.int .i64) (.cons .str .nil)))
abbrev D191 : Type := (Int × (Int × (ByteArray × Unit)))
def e193 : Tys := (.cons (.int .i64) (.cons (.int .i64) (.cons .str .nil)))
abbrev D193 : Type := (Int × (Int × (ByteArray × Unit)))
def e56 : Tys := (.cons .str (.cons (.int .i64) (.cons (.int .i64) (.cons (.sl e153) (.cons (.sl e188) (.cons (.sl e138) (.cons (.int .i64) (.cons (.int .i64) (.cons (.int .i64) (.cons (.int .i64) (.cons (.sl e9) (.cons (.int .i64) (.cons (.sl e9) (.cons (.sl e3) (.cons (.int .i64) (.cons (.sl e191) (.cons (.sl e193) (.cons (.sl e3) (.cons (.sl e195) (.cons (.sl e43) .nil))))))))))))))))))))
abbrev D56 : Type := (ByteArray × (Int × (Int × (List D153 × (List D188 × (List D138 × (Int × (Int × (Int × (Int × (List D9 × (Int × (List D9 × (List D3 × (Int × (List D191 × (List D193 × (List D3 × (List D195 × (List D43 × Unit))))))))))))))))))))
def e214 : Tys := (.cons (.int .i64) (.cons (.int .i64) (.cons (.int .i64) (.cons (.int .i64) (.cons .str .nil)))))
abbrev D214 : Type := (Int × (Int × (Int × (Int × (ByteArray × Unit)))))
def e217 : Tys := (.cons (.int .i64) (.cons .str (.cons (.int .i64) (.cons (.sl e138) (.cons (.int .i64) (.cons (.int .i64) (.cons .str (.cons (.int .i64) (.cons (.int .i64) (.cons .str (.cons (.int .i64) (.cons (.int .i64) (.cons (.sl e9) (.cons (.int .i64) (.cons (.sl e9) (.cons (.sl e3) .nil))))))))))))))))
abbrev D217 : Type := (Int × (ByteArray × (Int × (List D138 × (Int × (Int × (ByteArray × (Int × (Int × (ByteArray × (Int × (Int × (List D9 × (Int × (List D9 × (List D3 × Unit))))))))))))))))
def e74 : Tys := (.cons (.int .i64) (.cons (.sl e153) (.cons (.sl e9) (.cons (.sl e56) (.cons (.sl e138) (.cons (.sl e214) (.cons (.sl e217) .nil)))))))
abbrev D74 : Type := (Int × (List D153 × (List D9 × (List D56 × (List D138 × (List D214 × (List D217 × Unit)))))))
def TTL : List (Nat × TI) := [(3, ⟨1, 8, .int .i64, [(.int .i64 (0:Int))], [], [], none⟩), (4, ⟨1, 1, .bool, [(.bool false)], [], [], none⟩), (5, ⟨1, 1, .int .u8, [(.int .u8 (0:Int))], [], [], none⟩), (9, ⟨1, 16, .str, [(.str ⟨#[]⟩)], [], [], none⟩), (22, ⟨1, 24, .slice 225, [.nils], [], [], none⟩), (24, ⟨2, 32, .struct, [(.int .i64 (0:Int)), .nils], [(0, 1), (1, 1)], [false, false], none⟩), (27, ⟨1, 24, .slice 9, [.nils], [], [], none⟩), (30, ⟨1, 24, .slice 3, [.nils], [], [], none⟩), (40, ⟨1, 24, .slice 138, [.nils], [], [], none⟩), (41, ⟨3, 40, .struct, [(.int .i64 (0:Int)), (.int .i64 (0:Int)), .nils], [(0, 1), (1, 1), (2, 1)], [false, false, false], none⟩), (43, ⟨5, 72, .struct, [(.int .i64 (0:Int)), .nils, (.int .i64 (0:Int)), (.int .i64 (0:Int)), .nils], [(0, 1), (1, 1), (2, 3)], [false, false, true], none⟩), (46, ⟨1, 24, .slice 153, [.nils], [], [], none⟩), (48, ⟨2, 32, .struct, [(.int .i64 (0:Int)), .nils], [(0, 1), (1, 1)], [false, false], none⟩), (49, ⟨1, 24, .slice 188, [.nils], [], [], none⟩), (50, ⟨3, 56, .struct, [(.int .i64 (0:Int)), .nils, .nils], [(0, 1), (1, 1), (2, 1)], [false, false, false], none⟩), (51, ⟨1, 24, .slice 191, [.nils], [], [], none⟩), (52, ⟨1, 24, .slice 193, [.nils], [], [], none⟩), (53, ⟨1, 24, .slice 195, [.nils], [], [], none⟩), (54, ⟨1, 24, .slice 43, [.nils], [], [], none⟩), (56, ⟨20, 344, .struct, [(.str ⟨#[]⟩), (.int .i64 (0:Int)), (.int .i64 (0:Int)), .nils, .nils, .nils, (.int .i64 (0:Int)), (.int .i64 (0:Int)), (.int .i64 (0:Int)), (.int .i64 (0:Int)), .nils, (.int .i64 (0:Int)), .nils, .nils, (.int .i64 (0:Int)), .nils, .nils, .nils, .nils, .nils], [(0, 1), (1, 1), (2, 2), (4, 1), (5, 1), (6, 1), (7, 1), (8, 3), (11, 3), (14, 1), (15, 1), (16, 1), (17, 1), (18, 1), (19, 1)], [false, false, true, false, false, false, false, true, true, false, false, false, false, false, false], none⟩), (70, ⟨1, 24, .slice 56, [.nils], [], [], none⟩), (71, ⟨1, 24, .slice 214, [.nils], [], [], none⟩), (72, ⟨1, 24, .slice 217, [.nils], [], [], none⟩), (74, ⟨7, 152, .struct, [(.int .i64 (0:Int)), .nils, .nils, .nils, .nils, .nils, .nils], [(0, 2), (2, 1), (3, 1), (4, 1), (5, 1), (6, 1)], [true, false, false, false, false, false], none⟩), (138, ⟨14, 208, .struct, [(.int .i64 (0:Int)), (.int .i64 (0:Int)), (.int .i64 (0:Int)), (.str ⟨#[]⟩), (.int .i64 (0:Int)), (.int .i64 (0:Int)), .nils, (.int .i64 (0:Int)), .nils, .nils, .nils, (.bool false), .nils, (.str ⟨#[]⟩)], [(0, 1), (1, 1), (2, 1), (3, 1), (4, 3), (7, 3), (10, 1), (11, 1), (12, 1), (13, 1)], [false, false, false, false, true, true, false, false, false, false], none⟩), (151, ⟨1, 24, .slice 248, [.nils], [], [], none⟩), (153, ⟨5, 64, .struct, [(.str ⟨#[]⟩), (.int .i64 (0:Int)), (.int .i64 (0:Int)), (.int .i64 (0:Int)), .nils], [(0, 1), (1, 1), (2, 1), (3, 1), (4, 1)], [false, false, false, false, false], none⟩), (188, ⟨2, 24, .struct, [(.str ⟨#[]⟩), (.int .i64 (0:Int))], [(0, 1), (1, 1)], [false, false], (some [.str, .int .i64])⟩), (191, ⟨3, 32, .struct, [(.int .i64 (0:Int)), (.int .i64 (0:Int)), (.str ⟨#[]⟩)], [(0, 1), (1, 1), (2, 1)], [false, false, false], (some [.int .i64, .int .i64, .str])⟩), (193, ⟨3, 32, .struct, [(.int .i64 (0:Int)), (.int .i64 (0:Int)), (.str ⟨#[]⟩)], [(0, 1), (1, 1), (2, 1)], [false, false, false], (some [.int .i64, .int .i64, .str])⟩), (195, ⟨5, 56, .struct, [(.int .i64 (0:Int)), (.str ⟨#[]⟩), (.str ⟨#[]⟩), (.int .i64 (0:Int)), (.int .i64 (0:Int))], [(0, 1), (1, 1), (2, 1), (3, 1), (4, 1)], [false, false, false, false, false], (some [.int .i64, .str, .str, .int .i64, .int .i64])⟩), (214, ⟨5, 48, .struct, [(.int .i64 (0:Int)), (.int .i64 (0:Int)), (.int .i64 (0:Int)), (.int .i64 (0:Int)), (.str ⟨#[]⟩)], [(0, 1), (1, 1), (2, 1), (3, 1), (4, 1)], [false, false, false, false, false], (some [.int .i64, .int .i64, .int .i64, .int .i64, .str])⟩), (217, ⟨16, 216, .struct, [(.int .i64 (0:Int)), (.str ⟨#[]⟩), (.int .i64 (0:Int)), .nils, (.int .i64 (0:Int)), (.int .i64 (0:Int)), (.str ⟨#[]⟩), (.int .i64 (0:Int)), (.int .i64 (0:Int)), (.str ⟨#[]⟩), (.int .i64 (0:Int)), (.int .i64 (0:Int)), .nils, (.int .i64 (0:Int)), .nils, .nils], [(0, 1), (1, 1), (2, 1), (3, 1), (4, 3), (7, 3), (10, 3), (13, 3)], [false, false, false, false, true, true, true, true], none⟩), (223, ⟨1, 24, .slice 264, [.nils], [], [], none⟩), (225, ⟨5, 64, .struct, [(.str ⟨#[]⟩), (.int .i64 (0:Int)), (.int .i64 (0:Int)), (.int .i64 (0:Int)), .nils], [(0, 1), (1, 1), (2, 1), (3, 1), (4, 1)], [false, false, false, false, false], none⟩), (235, ⟨1, 24, .slice 5, [.nils], [], [], none⟩), (248, ⟨2, 16, .struct, [(.int .i64 (0:Int)), (.int .i64 (0:Int))], [(0, 1), (1, 1)], [false, false], (some [.int .i64, .int .i64])⟩), (264, ⟨2, 16, .struct, [(.int .i64 (0:Int)), (.int .i64 (0:Int))], [(0, 1), (1, 1)], [false, false], (some [.int .i64, .int .i64])⟩)]
theorem tt_ok : TTL.map (fun p => tiOf Tryz.prog p.1) = TTL.map (fun p => some p.2) := by kernel_rfl
def TT : Nat → Option TI := lookT TTL
def EE : Nat → Tys := fun n => (bif Nat.ble n 74 then (bif Nat.ble n 41 then (bif Nat.ble n 5 then (bif Nat.ble n 3 then (bif Nat.beq n 3 then e3 else .nil) else (bif Nat.beq n 5 then e5 else .nil)) else (bif Nat.ble n 9 then (bif Nat.beq n 9 then e9 else .nil) else (bif Nat.ble n 24 then (bif Nat.beq n 24 then e24 else .nil) else (bif Nat.beq n 41 then e41 else .nil)))) else (bif Nat.ble n 48 then (bif Nat.ble n 43 then (bif Nat.beq n 43 then e43 else .nil) else (bif Nat.beq n 48 then e48 else .nil)) else (bif Nat.ble n 50 then (bif Nat.beq n 50 then e50 else .nil) else (bif Nat.ble n 56 then (bif Nat.beq n 56 then e56 else .nil) else (bif Nat.beq n 74 then e74 else .nil))))) else (bif Nat.ble n 193 then (bif Nat.ble n 153 then (bif Nat.ble n 138 then (bif Nat.beq n 138 then e138 else .nil) else (bif Nat.beq n 153 then e153 else .nil)) else (bif Nat.ble n 188 then (bif Nat.beq n 188 then e188 else .nil) else (bif Nat.ble n 191 then (bif Nat.beq n 191 then e191 else .nil) else (bif Nat.beq n 193 then e193 else .nil)))) else (bif Nat.ble n 217 then (bif Nat.ble n 195 then (bif Nat.beq n 195 then e195 else .nil) else (bif Nat.ble n 214 then (bif Nat.beq n 214 then e214 else .nil) else (bif Nat.beq n 217 then e217 else .nil))) else (bif Nat.ble n 225 then (bif Nat.beq n 225 then e225 else .nil) else (bif Nat.ble n 248 then (bif Nat.beq n 248 then e248 else .nil) else (bif Nat.beq n 264 then e264 else .nil))))))
def i205 : List Grp := [⟨.c, (.cons (.sl e264) .nil), []⟩, ⟨.c, (.cons (.int .i64) .nil), []⟩]
def o205 : List Grp := [⟨.c, (.cons (.int .i64) .nil), []⟩]
/-- laws.szLeaveS -/
noncomputable def F205 : ((List D264 × Unit) × ((Int × Unit) × Unit)) → Option (((Int × Unit) × Unit)) := fun x0 => bif iLt (iSub .i64 x0.2.1.1 (List.length x0.1.1 : Int)) (0:Int) then some (((-1:Int), ()), ()) else some ((iSub .i64 x0.2.1.1 (List.length x0.1.1 : Int), ()), ())
noncomputable def c205 : Con := ⟨i205, o205, F205⟩
noncomputable def C205 : Ctx := ⟨12, TT, EE, fun n => none, fun n k => [], fun n => none, fun n => none⟩
theorem q205 : ∀ x, runF C205 Tryz.f205 i205 o205 x = F205 x := by intro x; kernel_rfl
def i166 : List Grp := [⟨.agg, e225, []⟩, ⟨.c, (.cons (.int .i64) .nil), []⟩]
def o166 : List Grp := [⟨.c, (.cons (.int .i64) .nil), []⟩]
/-- laws.szAcct -/
noncomputable def F166 : (D225 × ((Int × Unit) × Unit)) → Option (((Int × Unit) × Unit)) := fun x0 => bif iLt (iSub .i64 x0.2.1.1 (ByteArray.size x0.1.1 : Int)) (0:Int) then some (((-1:Int), ()), ()) else (F205 ((x0.1.2.2.2.2.1, ()), ((iSub .i64 x0.2.1.1 (ByteArray.size x0.1.1 : Int), ()), ()))).bind fun y1 => bif iLt y1.1.1 (0:Int) then some (((-1:Int), ()), ()) else some (y1.1, ())
noncomputable def c166 : Con := ⟨i166, o166, F166⟩
noncomputable def C166 : Ctx := ⟨19, TT, EE, fun n => (bif Nat.beq n 205 then some c205 else none), fun n k => [], fun n => none, fun n => none⟩
theorem q166 : ∀ x, runF C166 Tryz.f166 i166 o166 x = F166 x := by intro x; kernel_rfl
def i95 : List Grp := [⟨.c, (.cons (.sl e225) .nil), []⟩, ⟨.c, (.cons (.int .i64) .nil), []⟩]
def o95 : List Grp := [⟨.c, (.cons (.int .i64) .nil), []⟩]
/-- laws.szAcctS -/
noncomputable def F95.b0 (x0 : ((List D225 × Unit) × ((Int × Unit) × Unit))) : (v1 : (Int × (Int × Unit))) → Option (Sum (Int × (Int × Unit)) (Sum (Int × (Int × Unit)) (((Int × Unit) × Unit)))) := fun v1 => bif iLt v1.2.1 (List.length x0.1.1 : Int) then (getI x0.1.1 v1.2.1).bind fun x2 => (F166 (x2, ((v1.1, ()), ()))).bind fun y3 => bif iLt y3.1.1 (0:Int) then some (.inr (.inr (((-1:Int), ()), ()))) else some (.inl (y3.1.1, (iAdd .i64 v1.2.1 (1:Int), ()))) else some (.inr (.inl (v1.1, (v1.2.1, ()))))
noncomputable def F95 : ((List D225 × Unit) × ((Int × Unit) × Unit)) → Option (((Int × Unit) × Unit)) := fun x0 => bif iLt (iSub .i64 x0.2.1.1 (List.length x0.1.1 : Int)) (0:Int) then some (((-1:Int), ()), ()) else (loopF (F95.b0 x0) (iSub .i64 x0.2.1.1 (List.length x0.1.1 : Int), ((0:Int), ()))).bind fun r5 => Sum.elim (fun v4 => some ((v4.1, ()), ())) some r5
noncomputable def c95 : Con := ⟨i95, o95, F95⟩
noncomputable def C95 : Ctx := ⟨27, TT, EE, fun n => (bif Nat.beq n 166 then some c166 else none), fun n k => [], fun n => (bif Nat.beq n 0 then (some ⟨[(.t 1 (.int .i64) .sh), (.t 5 (.int .i64) .sh)], [4, 12, 13, 14, 15, 16, 17, 18, 19, 20, 21, 22, 23, 24, 25], []⟩) else none), fun n => none⟩
theorem q95 : ∀ x, runF C95 Tryz.f95 i95 o95 x = F95 x := by intro x; kernel_rfl
def i22 : List Grp := [⟨.agg, e24, []⟩, ⟨.c, (.cons (.int .i64) .nil), []⟩]
def o22 : List Grp := [⟨.c, (.cons (.int .i64) .nil), []⟩]
/-- laws.szLedger -/
noncomputable def F22 : (D24 × ((Int × Unit) × Unit)) → Option (((Int × Unit) × Unit)) := fun x0 => (F95 ((x0.1.2.1, ()), (x0.2.1, ()))).bind fun y1 => bif iLt y1.1.1 (0:Int) then some (((-1:Int), ()), ()) else some (y1.1, ())
noncomputable def c22 : Con := ⟨i22, o22, F22⟩
noncomputable def C22 : Ctx := ⟨12, TT, EE, fun n => (bif Nat.beq n 95 then some c95 else none), fun n k => [], fun n => none, fun n => none⟩
theorem q22 : ∀ x, runF C22 Tryz.f22 i22 o22 x = F22 x := by intro x; kernel_rfl
def i23 : List Grp := [⟨.c, (.cons (.sl e9) .nil), []⟩, ⟨.c, (.cons (.int .i64) .nil), []⟩]
def o23 : List Grp := [⟨.c, (.cons (.int .i64) .nil), []⟩]
/-- laws.szStringS -/
noncomputable def F23.b0 (x0 : ((List D9 × Unit) × ((Int × Unit) × Unit))) : (v1 : (Int × (Int × Unit))) → Option (Sum (Int × (Int × Unit)) (Sum (Int × (Int × Unit)) (((Int × Unit) × Unit)))) := fun v1 => bif iLt v1.2.1 (List.length x0.1.1 : Int) then (getI x0.1.1 v1.2.1).bind fun x2 => bif iLt (iSub .i64 v1.1 (ByteArray.size x2.1 : Int)) (0:Int) then some (.inr (.inr (((-1:Int), ()), ()))) else some (.inl (iSub .i64 v1.1 (ByteArray.size x2.1 : Int), (iAdd .i64 v1.2.1 (1:Int), ()))) else some (.inr (.inl (v1.1, (v1.2.1, ()))))
noncomputable def F23 : ((List D9 × Unit) × ((Int × Unit) × Unit)) → Option (((Int × Unit) × Unit)) := fun x0 => bif iLt (iSub .i64 x0.2.1.1 (List.length x0.1.1 : Int)) (0:Int) then some (((-1:Int), ()), ()) else (loopF (F23.b0 x0) (iSub .i64 x0.2.1.1 (List.length x0.1.1 : Int), ((0:Int), ()))).bind fun r4 => Sum.elim (fun v3 => some ((v3.1, ()), ())) some r4
noncomputable def c23 : Con := ⟨i23, o23, F23⟩
noncomputable def C23 : Ctx := ⟨28, TT, EE, fun n => none, fun n k => [], fun n => (bif Nat.beq n 0 then (some ⟨[(.t 1 (.int .i64) .sh), (.t 5 (.int .i64) .sh)], [4, 12, 13, 14, 15, 16, 17, 18, 19, 20, 21, 22, 23, 24, 25, 26], []⟩) else none), fun n => none⟩
theorem q23 : ∀ x, runF C23 Tryz.f23 i23 o23 x = F23 x := by intro x; kernel_rfl
def i229 : List Grp := [⟨.agg, e264, []⟩]
def o229 : List Grp := [⟨.agg, e264, []⟩]
/-- laws.toLeave -/
noncomputable def F229 : (D264 × Unit) → Option ((D264 × Unit)) := fun x0 => some (x0.1, ())
noncomputable def c229 : Con := ⟨i229, o229, F229⟩
noncomputable def C229 : Ctx := ⟨11, TT, EE, fun n => none, fun n k => [], fun n => none, fun n => none⟩
theorem q229 : ∀ x, runF C229 Tryz.f229 i229 o229 x = F229 x := by intro x; kernel_rfl
def i208 : List Grp := [⟨.c, (.cons (.sl e264) .nil), []⟩]
def o208 : List Grp := [⟨.c, (.cons (.sl e248) .nil), [(.own [])]⟩]
/-- laws.toLeaveS -/
noncomputable def F208.b0 (x0 : ((List D264 × Unit) × Unit)) : (v1 : (Int × (List (D248) × Unit))) → Option (Sum (Int × (List (D248) × Unit)) (Sum (Int × (List (D248) × Unit)) (((List D248 × Unit) × Unit)))) := fun v1 => bif iLt v1.1 (List.length x0.1.1 : Int) then (getI x0.1.1 v1.1).bind fun x2 => (F229 (x2, ())).bind fun y3 => (getI v1.2.1 v1.1).bind fun _ => (getN v1.2.1 (Int.toNat v1.1)).bind fun x4 => (some (List.set v1.2.1 (Int.toNat v1.1) (y3.1.1, (y3.1.2.1, ())))).bind fun z5 => some (.inl (iAdd .i64 v1.1 (1:Int), (z5, ()))) else some (.inr (.inl (v1.1, (v1.2.1, ()))))
noncomputable def F208 : ((List D264 × Unit) × Unit) → Option (((List D248 × Unit) × Unit)) := fun x0 => bif mkOk (List.length x0.1.1 : Int) (List.length x0.1.1 : Int) 16 then (loopF (F208.b0 x0) ((0:Int), (List.replicate (Int.toNat (List.length x0.1.1 : Int)) ((0:Int), ((0:Int), ())), ()))).bind fun r7 => Sum.elim (fun v6 => some ((v6.2.1, ()), ())) some r7 else none
noncomputable def c208 : Con := ⟨i208, o208, F208⟩
noncomputable def C208 : Ctx := ⟨23, TT, EE, fun n => (bif Nat.beq n 229 then some c229 else none), fun n k => [], fun n => (bif Nat.beq n 0 then (some ⟨[(.t 4 (.int .i64) .sh), (.r 8192 e248 [])], [8, 9, 10, 11, 12, 13, 14, 15, 16, 17, 18, 19, 20, 21], []⟩) else none), fun n => none⟩
theorem q208 : ∀ x, runF C208 Tryz.f208 i208 o208 x = F208 x := by intro x; kernel_rfl
def i171 : List Grp := [⟨.agg, e225, []⟩]
def o171 : List Grp := [⟨.agg, e153, [.sh, .sh, .sh, .sh, (.own [])]⟩]
/-- laws.toAcct -/
noncomputable def F171 : (D225 × Unit) → Option ((D153 × Unit)) := fun x0 => (F208 ((x0.1.2.2.2.2.1, ()), ())).bind fun y1 => some ((x0.1.1, (x0.1.2.1, (x0.1.2.2.1, (x0.1.2.2.2.1, (y1.1.1, ()))))), ())
noncomputable def c171 : Con := ⟨i171, o171, F171⟩
noncomputable def C171 : Ctx := ⟨21, TT, EE, fun n => (bif Nat.beq n 208 then some c208 else none), fun n k => [], fun n => none, fun n => none⟩
theorem q171 : ∀ x, runF C171 Tryz.f171 i171 o171 x = F171 x := by intro x; kernel_rfl
def i101 : List Grp := [⟨.c, (.cons (.sl e225) .nil), []⟩]
def o101 : List Grp := [⟨.c, (.cons (.sl e153) .nil), [(.own [.sh, .sh, .sh, .sh, (.own [])])]⟩]
/-- laws.toAcctS -/
noncomputable def F101.b0 (x0 : ((List D225 × Unit) × Unit)) : (v1 : (Int × (List (D153) × Unit))) → Option (Sum (Int × (List (D153) × Unit)) (Sum (Int × (List (D153) × Unit)) (((List D153 × Unit) × Unit)))) := fun v1 => bif iLt v1.1 (List.length x0.1.1 : Int) then (getI x0.1.1 v1.1).bind fun x2 => (F171 (x2, ())).bind fun y3 => (getI v1.2.1 v1.1).bind fun _ => (getN v1.2.1 (Int.toNat v1.1)).bind fun x4 => (some (List.set v1.2.1 (Int.toNat v1.1) (y3.1.1, (y3.1.2.1, (y3.1.2.2.1, (y3.1.2.2.2.1, (y3.1.2.2.2.2.1, ()))))))).bind fun z5 => some (.inl (iAdd .i64 v1.1 (1:Int), (z5, ()))) else some (.inr (.inl (v1.1, (v1.2.1, ()))))
noncomputable def F101 : ((List D225 × Unit) × Unit) → Option (((List D153 × Unit) × Unit)) := fun x0 => bif mkOk (List.length x0.1.1 : Int) (List.length x0.1.1 : Int) 64 then (loopF (F101.b0 x0) ((0:Int), (List.replicate (Int.toNat (List.length x0.1.1 : Int)) (⟨#[]⟩, ((0:Int), ((0:Int), ((0:Int), ([], ()))))), ()))).bind fun r7 => Sum.elim (fun v6 => some ((v6.2.1, ()), ())) some r7 else none
noncomputable def c101 : Con := ⟨i101, o101, F101⟩
noncomputable def C101 : Ctx := ⟨23, TT, EE, fun n => (bif Nat.beq n 171 then some c171 else none), fun n k => (bif Nat.beq n 1 then (match k with | 2 => [.sh, .sh, .sh, .sh, (.own [])] | _ => []) else []), fun n => (bif Nat.beq n 0 then (some ⟨[(.t 4 (.int .i64) .sh), (.r 8192 e153 [.sh, .sh, .sh, .sh, (.own [])])], [8, 9, 10, 11, 12, 13, 14, 15, 16, 17, 18, 19, 20, 21], []⟩) else none), fun n => none⟩
theorem q101 : ∀ x, runF C101 Tryz.f101 i101 o101 x = F101 x := by intro x; kernel_rfl
def i25 : List Grp := [⟨.agg, e24, []⟩]
def o25 : List Grp := [⟨.agg, e48, [.sh, (.own [.sh, .sh, .sh, .sh, (.own [])])]⟩]
/-- laws.toLedger -/
noncomputable def F25 : (D24 × Unit) → Option ((D48 × Unit)) := fun x0 => (F101 ((x0.1.2.1, ()), ())).bind fun y1 => some ((x0.1.1, (y1.1.1, ())), ())
noncomputable def c25 : Con := ⟨i25, o25, F25⟩
noncomputable def C25 : Ctx := ⟨12, TT, EE, fun n => (bif Nat.beq n 101 then some c101 else none), fun n k => [], fun n => none, fun n => none⟩
theorem q25 : ∀ x, runF C25 Tryz.f25 i25 o25 x = F25 x := by intro x; kernel_rfl
def i26 : List Grp := [⟨.c, (.cons (.sl e9) .nil), []⟩]
def o26 : List Grp := [⟨.c, (.cons (.sl e9) .nil), [(.own [])]⟩]
/-- laws.toStringS -/
noncomputable def F26.b0 (x0 : ((List D9 × Unit) × Unit)) : (v1 : (Int × (List (D9) × Unit))) → Option (Sum (Int × (List (D9) × Unit)) (Sum (Int × (List (D9) × Unit)) (((List D9 × Unit) × Unit)))) := fun v1 => bif iLt v1.1 (List.length x0.1.1 : Int) then (getI x0.1.1 v1.1).bind fun x2 => (getI v1.2.1 v1.1).bind fun _ => (getN v1.2.1 (Int.toNat v1.1)).bind fun x3 => (some (List.set v1.2.1 (Int.toNat v1.1) (x2.1, ()))).bind fun z4 => some (.inl (iAdd .i64 v1.1 (1:Int), (z4, ()))) else some (.inr (.inl (v1.1, (v1.2.1, ()))))
noncomputable def F26 : ((List D9 × Unit) × Unit) → Option (((List D9 × Unit) × Unit)) := fun x0 => bif mkOk (List.length x0.1.1 : Int) (List.length x0.1.1 : Int) 16 then (loopF (F26.b0 x0) ((0:Int), (List.replicate (Int.toNat (List.length x0.1.1 : Int)) (⟨#[]⟩, ()), ()))).bind fun r6 => Sum.elim (fun v5 => some ((v5.2.1, ()), ())) some r6 else none
noncomputable def c26 : Con := ⟨i26, o26, F26⟩
noncomputable def C26 : Ctx := ⟨22, TT, EE, fun n => none, fun n k => [], fun n => (bif Nat.beq n 0 then (some ⟨[(.t 4 (.int .i64) .sh), (.r 8192 e9 [])], [8, 9, 10, 11, 12, 13, 14, 15, 16, 17, 18, 19, 20], []⟩) else none), fun n => none⟩
theorem q26 : ∀ x, runF C26 Tryz.f26 i26 o26 x = F26 x := by intro x; kernel_rfl
def i167 : List Grp := [⟨.c, (.cons (.int .i64) .nil), []⟩, ⟨.c, (.cons (.int .i64) .nil), []⟩, ⟨.c, (.cons (.int .i64) .nil), []⟩]
def o167 : List Grp := [⟨.c, (.cons .bool .nil), []⟩]
/-- spec.l1In -/
noncomputable def F167 : ((Int × Unit) × ((Int × Unit) × ((Int × Unit) × Unit))) → Option (((Bool × Unit) × Unit)) := fun x0 => bif iLe x0.2.1.1 x0.1.1 then some ((iLe x0.1.1 x0.2.2.1.1, ()), ()) else some ((false, ()), ())
noncomputable def c167 : Con := ⟨i167, o167, F167⟩
noncomputable def C167 : Ctx := ⟨15, TT, EE, fun n => none, fun n k => [], fun n => none, fun n => none⟩
theorem q167 : ∀ x, runF C167 Tryz.f167 i167 o167 x = F167 x := by intro x; kernel_rfl
def i169 : List Grp := [⟨.c, (.cons .str .nil), []⟩]
def o169 : List Grp := [⟨.c, (.cons .bool .nil), []⟩]
/-- spec.NameOk -/
noncomputable def F169.b0 (x0 : ((ByteArray × Unit) × Unit)) : (v1 : (Int × Unit)) → Option (Sum (Int × Unit) (Sum (Int × Unit) (((Bool × Unit) × Unit)))) := fun v1 => bif iLt v1.1 (ByteArray.size x0.1.1 : Int) then (getI (ByteArray.data x0.1.1).toList v1.1).bind fun b2 => (F167 ((IntKind.wrap .i64 (UInt8.toNat b2 : Int), ()), (((97:Int), ()), (((122:Int), ()), ())))).bind fun y3 => bif (!y3.1.1) then (getI (ByteArray.data x0.1.1).toList v1.1).bind fun b4 => (F167 ((IntKind.wrap .i64 (UInt8.toNat b4 : Int), ()), (((48:Int), ()), (((57:Int), ()), ())))).bind fun y5 => bif (!y5.1.1) then some (.inr (.inr ((false, ()), ()))) else some (.inl (iAdd .i64 v1.1 (1:Int), ())) else some (.inl (iAdd .i64 v1.1 (1:Int), ())) else some (.inr (.inl (v1.1, ())))
noncomputable def F169 : ((ByteArray × Unit) × Unit) → Option (((Bool × Unit) × Unit)) := fun x0 => (loopF (F169.b0 x0) ((0:Int), ())).bind fun r7 => Sum.elim (fun v6 => (F167 (((ByteArray.size x0.1.1 : Int), ()), (((1:Int), ()), (((8:Int), ()), ())))).bind fun y8 => some (y8.1, ())) some r7
noncomputable def c169 : Con := ⟨i169, o169, F169⟩
noncomputable def C169 : Ctx := ⟨27, TT, EE, fun n => (bif Nat.beq n 167 then some c167 else none), fun n k => [], fun n => (bif Nat.beq n 0 then (some ⟨[(.t 3 (.int .i64) .sh)], [2, 4, 5, 6, 7, 8, 9, 10, 11, 12, 13, 14, 15, 16, 17, 18, 19, 20, 21, 22, 23], []⟩) else none), fun n => none⟩
theorem q169 : ∀ x, runF C169 Tryz.f169 i169 o169 x = F169 x := by intro x; kernel_rfl
def i206 : List Grp := [⟨.agg, e153, []⟩]
def o206 : List Grp := [⟨.c, (.cons .bool .nil), []⟩]
/-- spec.AcctOk -/
noncomputable def F206.b0 (x0 : (D153 × Unit)) : (v5 : (Int × Unit)) → Option (Sum (Int × Unit) (Sum (Int × Unit) (((Bool × Unit) × Unit)))) := fun v5 => bif iLt v5.1 (List.length x0.1.2.2.2.2.1 : Int) then (getI x0.1.2.2.2.2.1 v5.1).bind fun x6 => (F167 ((x6.1, ()), (((1:Int), ()), (((1000000:Int), ()), ())))).bind fun y7 => bif (!y7.1.1) then some (.inr (.inr ((false, ()), ()))) else (F167 ((x6.2.1, ()), (((0:Int), ()), (((1000:Int), ()), ())))).bind fun y8 => bif (!y8.1.1) then some (.inr (.inr ((false, ()), ()))) else bif iLt (0:Int) v5.1 then (getI x0.1.2.2.2.2.1 (iSub .i64 v5.1 (1:Int))).bind fun x9 => bif iLe x6.2.1 x9.2.1 then some (.inr (.inr ((false, ()), ()))) else some (.inl (iAdd .i64 v5.1 (1:Int), ())) else some (.inl (iAdd .i64 v5.1 (1:Int), ())) else some (.inr (.inl (v5.1, ())))
noncomputable def F206 : (D153 × Unit) → Option (((Bool × Unit) × Unit)) := fun x0 => (F169 ((x0.1.1, ()), ())).bind fun y1 => bif (!y1.1.1) then some ((false, ()), ()) else (F167 ((x0.1.2.1, ()), (((0:Int), ()), (((1000000:Int), ()), ())))).bind fun y2 => bif (!y2.1.1) then some ((false, ()), ()) else (F167 ((x0.1.2.2.1, ()), (((0:Int), ()), (((10000:Int), ()), ())))).bind fun y3 => bif (!y3.1.1) then some ((false, ()), ()) else (F167 ((x0.1.2.2.2.1, ()), (((0:Int), ()), (((1000000:Int), ()), ())))).bind fun y4 => bif (!y4.1.1) then some ((false, ()), ()) else bif iLt (4:Int) (List.length x0.1.2.2.2.2.1 : Int) then some ((false, ()), ()) else (loopF (F206.b0 x0) ((0:Int), ())).bind fun r11 => Sum.elim (fun v10 => some ((true, ()), ())) some r11
noncomputable def c206 : Con := ⟨i206, o206, F206⟩
noncomputable def C206 : Ctx := ⟨71, TT, EE, fun n => (bif Nat.ble n 167 then (bif Nat.beq n 167 then some c167 else none) else (bif Nat.beq n 169 then some c169 else none)), fun n k => [], fun n => (bif Nat.beq n 0 then (some ⟨[(.t 3 (.int .i64) .sh)], [2, 4, 33, 34, 35, 36, 37, 38, 39, 40, 41, 42, 43, 44, 45, 46, 47, 48, 49, 50, 51, 52, 53, 54, 55, 56, 57, 58, 59, 60, 61, 62, 63, 64, 65, 66, 67, 68, 69, 70], []⟩) else none), fun n => none⟩
theorem q206 : ∀ x, runF C206 Tryz.f206 i206 o206 x = F206 x := by intro x; kernel_rfl
def i228 : List Grp := [⟨.agg, e153, []⟩]
def o228 : List Grp := [⟨.c, (.cons (.int .i64) .nil), []⟩]
/-- spec.l4Of -/
noncomputable def F228.b0 (x0 : (D153 × Unit)) : (v1 : (Int × (Int × Unit))) → Option (Sum (Int × (Int × Unit)) (Sum (Int × (Int × Unit)) (((Int × Unit) × Unit)))) := fun v1 => bif iLt v1.2.1 (List.length x0.1.2.2.2.2.1 : Int) then (getI x0.1.2.2.2.2.1 v1.2.1).bind fun x2 => some (.inl (iAdd .i64 v1.1 x2.1, (iAdd .i64 v1.2.1 (1:Int), ()))) else some (.inr (.inl (v1.1, (v1.2.1, ()))))
noncomputable def F228 : (D153 × Unit) → Option (((Int × Unit) × Unit)) := fun x0 => (loopF (F228.b0 x0) (iAdd .i64 x0.1.2.1 x0.1.2.2.2.1, ((0:Int), ()))).bind fun r4 => Sum.elim (fun v3 => some ((v3.1, ()), ())) some r4
noncomputable def c228 : Con := ⟨i228, o228, F228⟩
noncomputable def C228 : Ctx := ⟨26, TT, EE, fun n => none, fun n k => [], fun n => (bif Nat.beq n 0 then (some ⟨[(.t 3 (.int .i64) .sh), (.t 4 (.int .i64) .sh)], [10, 11, 12, 13, 14, 15, 16, 17, 18, 19, 20, 21, 22, 23, 24], []⟩) else none), fun n => none⟩
theorem q228 : ∀ x, runF C228 Tryz.f228 i228 o228 x = F228 x := by intro x; kernel_rfl
def i207 : List Grp := [⟨.c, (.cons (.sl e153) .nil), []⟩]
def o207 : List Grp := [⟨.c, (.cons (.int .i64) .nil), []⟩]
/-- spec.Wealth -/
noncomputable def F207.b0 (x0 : ((List D153 × Unit) × Unit)) : (v1 : (Int × (Int × Unit))) → Option (Sum (Int × (Int × Unit)) (Sum (Int × (Int × Unit)) (((Int × Unit) × Unit)))) := fun v1 => bif iLt v1.2.1 (List.length x0.1.1 : Int) then (getI x0.1.1 v1.2.1).bind fun x2 => (F228 (x2, ())).bind fun y3 => some (.inl (iAdd .i64 v1.1 y3.1.1, (iAdd .i64 v1.2.1 (1:Int), ()))) else some (.inr (.inl (v1.1, (v1.2.1, ()))))
noncomputable def F207 : ((List D153 × Unit) × Unit) → Option (((Int × Unit) × Unit)) := fun x0 => (loopF (F207.b0 x0) ((0:Int), ((0:Int), ()))).bind fun r5 => Sum.elim (fun v4 => some ((v4.1, ()), ())) some r5
noncomputable def c207 : Con := ⟨i207, o207, F207⟩
noncomputable def C207 : Ctx := ⟨19, TT, EE, fun n => (bif Nat.beq n 228 then some c228 else none), fun n k => [], fun n => (bif Nat.beq n 0 then (some ⟨[(.t 3 (.int .i64) .sh), (.t 4 (.int .i64) .sh)], [5, 6, 7, 8, 9, 10, 11, 12, 13, 14, 15, 16, 17], []⟩) else none), fun n => none⟩
theorem q207 : ∀ x, runF C207 Tryz.f207 i207 o207 x = F207 x := by intro x; kernel_rfl
def i168 : List Grp := [⟨.c, (.cons (.sl e153) .nil), []⟩]
def o168 : List Grp := [⟨.c, (.cons .bool .nil), []⟩]
/-- spec.AcctsOk -/
noncomputable def F168.b0 (x0 : ((List D153 × Unit) × Unit)) : (v1 : (Int × Unit)) → Option (Sum (Int × Unit) (Sum (Int × Unit) (((Bool × Unit) × Unit)))) := fun v1 => bif iLt v1.1 (List.length x0.1.1 : Int) then (getI x0.1.1 v1.1).bind fun x2 => (F206 (x2, ())).bind fun y3 => bif (!y3.1.1) then some (.inr (.inr ((false, ()), ()))) else bif iLt (0:Int) v1.1 then (getI x0.1.1 (iSub .i64 v1.1 (1:Int))).bind fun x4 => (getI x0.1.1 v1.1).bind fun x5 => bif !sLt x4.1 x5.1 then some (.inr (.inr ((false, ()), ()))) else some (.inl (iAdd .i64 v1.1 (1:Int), ())) else some (.inl (iAdd .i64 v1.1 (1:Int), ())) else some (.inr (.inl (v1.1, ())))
noncomputable def F168 : ((List D153 × Unit) × Unit) → Option (((Bool × Unit) × Unit)) := fun x0 => (loopF (F168.b0 x0) ((0:Int), ())).bind fun r7 => Sum.elim (fun v6 => bif iLe (List.length x0.1.1 : Int) (12:Int) then (F207 (x0.1, ())).bind fun y8 => some ((iLe y8.1.1 (1000000:Int), ()), ()) else some ((false, ()), ())) some r7
noncomputable def c168 : Con := ⟨i168, o168, F168⟩
noncomputable def C168 : Ctx := ⟨42, TT, EE, fun n => (bif Nat.ble n 206 then (bif Nat.beq n 206 then some c206 else none) else (bif Nat.beq n 207 then some c207 else none)), fun n k => [], fun n => (bif Nat.beq n 0 then (some ⟨[(.t 3 (.int .i64) .sh)], [2, 4, 5, 6, 7, 8, 9, 10, 11, 12, 13, 14, 15, 16, 17, 18, 19, 20, 21, 22, 23, 24, 25, 26, 27, 28, 29, 30, 31, 32, 33], []⟩) else none), fun n => none⟩
theorem q168 : ∀ x, runF C168 Tryz.f168 i168 o168 x = F168 x := by intro x; kernel_rfl
def i96 : List Grp := [⟨.agg, e48, []⟩]
def o96 : List Grp := [⟨.c, (.cons .bool .nil), []⟩]
/-- spec.LedgerOk -/
noncomputable def F96 : (D48 × Unit) → Option (((Bool × Unit) × Unit)) := fun x0 => (F167 ((x0.1.1, ()), (((0:Int), ()), (((900:Int), ()), ())))).bind fun y1 => bif y1.1.1 then (F168 ((x0.1.2.1, ()), ())).bind fun y2 => some (y2.1, ()) else some ((false, ()), ())
noncomputable def c96 : Con := ⟨i96, o96, F96⟩
noncomputable def C96 : Ctx := ⟨11, TT, EE, fun n => (bif Nat.ble n 167 then (bif Nat.beq n 167 then some c167 else none) else (bif Nat.beq n 168 then some c168 else none)), fun n k => [], fun n => none, fun n => none⟩
theorem q96 : ∀ x, runF C96 Tryz.f96 i96 o96 x = F96 x := by intro x; kernel_rfl
def i97 : List Grp := [⟨.c, (.cons (.sl e9) .nil), []⟩]
def o97 : List Grp := [⟨.c, (.cons .bool .nil), []⟩]
/-- spec.NamesOk -/
noncomputable def F97.b0 (x0 : ((List D9 × Unit) × Unit)) : (v1 : (Int × Unit)) → Option (Sum (Int × Unit) (Sum (Int × Unit) (((Bool × Unit) × Unit)))) := fun v1 => bif iLt v1.1 (List.length x0.1.1 : Int) then (getI x0.1.1 v1.1).bind fun x2 => (F169 (x2, ())).bind fun y3 => bif (!y3.1.1) then some (.inr (.inr ((false, ()), ()))) else bif iLt (0:Int) v1.1 then (getI x0.1.1 (iSub .i64 v1.1 (1:Int))).bind fun x4 => (getI x0.1.1 v1.1).bind fun x5 => bif !sLt x4.1 x5.1 then some (.inr (.inr ((false, ()), ()))) else some (.inl (iAdd .i64 v1.1 (1:Int), ())) else some (.inl (iAdd .i64 v1.1 (1:Int), ())) else some (.inr (.inl (v1.1, ())))
noncomputable def F97 : ((List D9 × Unit) × Unit) → Option (((Bool × Unit) × Unit)) := fun x0 => (loopF (F97.b0 x0) ((0:Int), ())).bind fun r7 => Sum.elim (fun v6 => some ((iLe (List.length x0.1.1 : Int) (20:Int), ()), ())) some r7
noncomputable def c97 : Con := ⟨i97, o97, F97⟩
noncomputable def C97 : Ctx := ⟨35, TT, EE, fun n => (bif Nat.beq n 169 then some c169 else none), fun n k => [], fun n => (bif Nat.beq n 0 then (some ⟨[(.t 3 (.int .i64) .sh)], [2, 4, 5, 6, 7, 8, 9, 10, 11, 12, 13, 14, 15, 16, 17, 18, 19, 20, 21, 22, 23, 24, 25, 26, 27, 28, 29, 30, 31], []⟩) else none), fun n => none⟩
theorem q97 : ∀ x, runF C97 Tryz.f97 i97 o97 x = F97 x := by intro x; kernel_rfl
def i170 : List Grp := [⟨.c, (.cons (.sl e153) .nil), []⟩]
def o170 : List Grp := [⟨.c, (.cons (.sl e153) .nil), [(.own [])]⟩]
/-- spec.l4Copy -/
noncomputable def F170.b0 (x0 : ((List D153 × Unit) × Unit)) : (v1 : (List (D153) × (Int × Unit))) → Option (Sum (List (D153) × (Int × Unit)) (Sum (List (D153) × (Int × Unit)) (((List D153 × Unit) × Unit)))) := fun v1 => bif iLt v1.2.1 (List.length x0.1.1 : Int) then (getI x0.1.1 v1.2.1).bind fun x2 => bif room (List.length ([] : List (D248)) + List.length x2.2.2.2.2.1) 16 then bif room (List.length v1.1 + List.length ([(x2.1, (x2.2.1, (x2.2.2.1, (x2.2.2.2.1, (lapp ([] : List (D248)) x2.2.2.2.2.1, ())))))] : List (D153))) 64 then some (.inl (lapp v1.1 ([(x2.1, (x2.2.1, (x2.2.2.1, (x2.2.2.2.1, (lapp ([] : List (D248)) x2.2.2.2.2.1, ())))))] : List (D153)), (iAdd .i64 v1.2.1 (1:Int), ()))) else none else none else some (.inr (.inl (v1.1, (v1.2.1, ()))))
noncomputable def F170 : ((List D153 × Unit) × Unit) → Option (((List D153 × Unit) × Unit)) := fun x0 => (loopF (F170.b0 x0) (([] : List (D153)), ((0:Int), ()))).bind fun r4 => Sum.elim (fun v3 => some ((v3.1, ()), ())) some r4
noncomputable def c170 : Con := ⟨i170, o170, F170⟩
noncomputable def C170 : Ctx := ⟨27, TT, EE, fun n => none, fun n k => [], fun n => (bif Nat.beq n 0 then (some ⟨[(.t 3 (.sl e153) (.own [])), (.t 4 (.int .i64) .sh)], [5, 7, 8, 9, 10, 11, 12, 13, 14, 15, 16, 17, 18, 19, 20, 21, 22, 23, 24, 25], []⟩) else none), fun n => none⟩
theorem q170 : ∀ x, runF C170 Tryz.f170 i170 o170 x = F170 x := by intro x; kernel_rfl
def i98 : List Grp := [⟨.agg, e48, []⟩]
def o98 : List Grp := [⟨.agg, e48, [.sh, (.own [])]⟩]
/-- spec.l6Copy -/
noncomputable def F98 : (D48 × Unit) → Option ((D48 × Unit)) := fun x0 => (F170 ((x0.1.2.1, ()), ())).bind fun y1 => some ((x0.1.1, (y1.1.1, ())), ())
noncomputable def c98 : Con := ⟨i98, o98, F98⟩
noncomputable def C98 : Ctx := ⟨9, TT, EE, fun n => (bif Nat.beq n 170 then some c170 else none), fun n k => [], fun n => none, fun n => none⟩
theorem q98 : ∀ x, runF C98 Tryz.f98 i98 o98 x = F98 x := by intro x; kernel_rfl
def i99 : List Grp := [⟨.c, (.cons (.sl e9) .nil), []⟩, ⟨.c, (.cons .str .nil), []⟩]
def o99 : List Grp := [⟨.c, (.cons .bool .nil), []⟩]
/-- spec.l7Has -/
noncomputable def F99.b0 (x0 : ((List D9 × Unit) × ((ByteArray × Unit) × Unit))) : (v1 : (Int × Unit)) → Option (Sum (Int × Unit) (Sum (Int × Unit) (((Bool × Unit) × Unit)))) := fun v1 => bif iLt v1.1 (List.length x0.1.1 : Int) then (getI x0.1.1 v1.1).bind fun x2 => bif sEq x2.1 x0.2.1.1 then some (.inr (.inr ((true, ()), ()))) else some (.inl (iAdd .i64 v1.1 (1:Int), ())) else some (.inr (.inl (v1.1, ())))
noncomputable def F99 : ((List D9 × Unit) × ((ByteArray × Unit) × Unit)) → Option (((Bool × Unit) × Unit)) := fun x0 => (loopF (F99.b0 x0) ((0:Int), ())).bind fun r4 => Sum.elim (fun v3 => some ((false, ()), ())) some r4
noncomputable def c99 : Con := ⟨i99, o99, F99⟩
noncomputable def C99 : Ctx := ⟨18, TT, EE, fun n => none, fun n k => [], fun n => (bif Nat.beq n 0 then (some ⟨[(.t 5 (.int .i64) .sh)], [4, 6, 7, 8, 9, 10, 11, 12, 13, 14, 15, 16, 17], []⟩) else none), fun n => none⟩
theorem q99 : ∀ x, runF C99 Tryz.f99 i99 o99 x = F99 x := by intro x; kernel_rfl
def i159 : List Grp := [⟨.agg, e48, []⟩]
def o159 : List Grp := [⟨.c, (.cons (.sl e188) .nil), [(.own [])]⟩]
/-- spec.l7Set -/
noncomputable def F159.b0 (x0 : (D48 × Unit)) : (v1 : (List (D188) × (Int × Unit))) → Option (Sum (List (D188) × (Int × Unit)) (Sum (List (D188) × (Int × Unit)) (((List D188 × Unit) × Unit)))) := fun v1 => bif iLt v1.2.1 (List.length x0.1.2.1 : Int) then (getI x0.1.2.1 v1.2.1).bind fun x2 => bif iLe (5:Int) x2.2.2.2.1 then (getI x0.1.2.1 v1.2.1).bind fun x3 => (getI x0.1.2.1 v1.2.1).bind fun x4 => bif room (List.length v1.1 + List.length ([(x3.1, (x4.2.2.2.1, ()))] : List (D188))) 24 then some (.inl (lapp v1.1 ([(x3.1, (x4.2.2.2.1, ()))] : List (D188)), (iAdd .i64 v1.2.1 (1:Int), ()))) else none else some (.inl (v1.1, (iAdd .i64 v1.2.1 (1:Int), ()))) else some (.inr (.inl (v1.1, (v1.2.1, ()))))
noncomputable def F159 : (D48 × Unit) → Option (((List D188 × Unit) × Unit)) := fun x0 => (loopF (F159.b0 x0) (([] : List (D188)), ((0:Int), ()))).bind fun r6 => Sum.elim (fun v5 => some ((v5.1, ()), ())) some r6
noncomputable def c159 : Con := ⟨i159, o159, F159⟩
noncomputable def C159 : Ctx := ⟨37, TT, EE, fun n => none, fun n k => [], fun n => (bif Nat.beq n 0 then (some ⟨[(.t 3 (.sl e188) (.own [])), (.t 4 (.int .i64) .sh)], [6, 7, 8, 9, 10, 11, 12, 13, 14, 15, 16, 17, 18, 19, 20, 21, 22, 23, 24, 25, 26, 27, 28, 29, 30, 31, 32, 33, 34, 35], []⟩) else none), fun n => none⟩
theorem q159 : ∀ x, runF C159 Tryz.f159 i159 o159 x = F159 x := by intro x; kernel_rfl
def i100 : List Grp := [⟨.c, (.cons .str .nil), []⟩, ⟨.agg, e48, []⟩]
def o100 : List Grp := [⟨.agg, e56, [.sh, .sh, .sh, (.own []), (.own []), (.own [.sh, .sh, .sh, .sh, .sh, .sh, (.own []), .sh, (.own []), (.own []), (.own []), .sh, (.own [])]), .sh, .sh, .sh, .sh, (.own []), .sh, (.own []), (.own []), .sh, (.own []), (.own []), (.own []), (.own []), (.own [.sh, (.own [.sh, .sh, .sh, .sh, .sh, .sh, (.own []), .sh, (.own []), (.own []), (.own []), .sh, (.own [])]), .sh, .sh, (.own [])])]⟩]
/-- spec.NodeNew -/
noncomputable def F100 : ((ByteArray × Unit) × (D48 × Unit)) → Option ((D56 × Unit)) := fun x0 => (F169 (x0.1, ())).bind fun y1 => bif (!y1.1.1) then some ((⟨#[]⟩, ((0:Int), ((0:Int), ([], ([], ([], ((0:Int), ((0:Int), ((0:Int), ((0:Int), ([], ((0:Int), ([], ([], ((0:Int), ([], ([], ([], ([], ([], ())))))))))))))))))))), ()) else (F96 (x0.2.1, ())).bind fun y2 => bif (!y2.1.1) then some ((⟨#[]⟩, ((0:Int), ((0:Int), ([], ([], ([], ((0:Int), ((0:Int), ((0:Int), ((0:Int), ([], ((0:Int), ([], ([], ((0:Int), ([], ([], ([], ([], ([], ())))))))))))))))))))), ()) else (F98 (x0.2.1, ())).bind fun y3 => (F159 (x0.2.1, ())).bind fun y4 => some ((x0.1.1, (x0.2.1.1, (y3.1.1, (y3.1.2.1, (y4.1.1, ([], ((1:Int), ((0:Int), ((0:Int), ((-1:Int), ([], ((0:Int), ([], ([], ((0:Int), ([], ([], ([], ([], ([], ())))))))))))))))))))), ())
noncomputable def c100 : Con := ⟨i100, o100, F100⟩
noncomputable def C100 : Ctx := ⟨23, TT, EE, fun n => (bif Nat.ble n 98 then (bif Nat.ble n 96 then (bif Nat.beq n 96 then some c96 else none) else (bif Nat.beq n 98 then some c98 else none)) else (bif Nat.ble n 159 then (bif Nat.beq n 159 then some c159 else none) else (bif Nat.beq n 169 then some c169 else none))), fun n k => [], fun n => none, fun n => none⟩
theorem q100 : ∀ x, runF C100 Tryz.f100 i100 o100 x = F100 x := by intro x; kernel_rfl
def i24 : List Grp := [⟨.agg, e48, []⟩, ⟨.c, (.cons (.sl e9) .nil), []⟩]
def o24 : List Grp := [⟨.agg, e74, [.sh, (.own []), (.own []), (.own [.sh, .sh, .sh, (.own []), (.own []), (.own [.sh, .sh, .sh, .sh, .sh, .sh, (.own []), .sh, (.own []), (.own []), (.own []), .sh, (.own [])]), .sh, .sh, .sh, .sh, (.own []), .sh, (.own []), (.own []), .sh, (.own []), (.own []), (.own []), (.own []), (.own [.sh, (.own [.sh, .sh, .sh, .sh, .sh, .sh, (.own []), .sh, (.own []), (.own []), (.own []), .sh, (.own [])]), .sh, .sh, (.own [])])]), (.own [.sh, .sh, .sh, .sh, .sh, .sh, (.own []), .sh, (.own []), (.own []), (.own []), .sh, (.own [])]), (.own []), (.own [.sh, .sh, .sh, (.own [.sh, .sh, .sh, .sh, .sh, .sh, (.own []), .sh, (.own []), (.own []), (.own []), .sh, (.own [])]), .sh, .sh, .sh, .sh, .sh, .sh, .sh, .sh, (.own []), .sh, (.own []), (.own [])])]⟩]
/-- spec.WorldNew -/
noncomputable def F24.b0 (x0 : (D48 × ((List D9 × Unit) × Unit))) : (v4 : (Int × (List (D56) × Unit))) → Option (Sum (Int × (List (D56) × Unit)) (Sum (Int × (List (D56) × Unit)) ((D74 × Unit)))) := fun v4 => bif iLt v4.1 (List.length x0.1.2.1 : Int) then (getI x0.1.2.1 v4.1).bind fun x5 => (F99 (x0.2.1, ((x5.1, ()), ()))).bind fun y6 => bif (!y6.1.1) then (getI x0.1.2.1 v4.1).bind fun x7 => (F100 ((x7.1, ()), (x0.1, ()))).bind fun y8 => bif room (List.length v4.2.1 + List.length ([y8.1] : List (D56))) 344 then some (.inl (iAdd .i64 v4.1 (1:Int), (lapp v4.2.1 ([y8.1] : List (D56)), ()))) else none else some (.inl (iAdd .i64 v4.1 (1:Int), (v4.2.1, ()))) else some (.inr (.inl (v4.1, (v4.2.1, ()))))
noncomputable def F24 : (D48 × ((List D9 × Unit) × Unit)) → Option ((D74 × Unit)) := fun x0 => (F96 (x0.1, ())).bind fun y1 => bif (!y1.1.1) then some (((0:Int), ([], ([], ([], ([], ([], ([], ()))))))), ()) else (F97 (x0.2.1, ())).bind fun y2 => bif (!y2.1.1) then some (((0:Int), ([], ([], ([], ([], ([], ([], ()))))))), ()) else (F98 (x0.1, ())).bind fun y3 => bif room (List.length ([] : List (D9)) + List.length x0.2.1.1) 16 then (loopF (F24.b0 x0) ((0:Int), ([], ()))).bind fun r10 => Sum.elim (fun v9 => some ((y3.1.1, (y3.1.2.1, (lapp ([] : List (D9)) x0.2.1.1, (v9.2.1, ([], ([], ([], ()))))))), ())) some r10 else none
noncomputable def c24 : Con := ⟨i24, o24, F24⟩
noncomputable def C24 : Ctx := ⟨52, TT, EE, fun n => (bif Nat.ble n 97 then (bif Nat.ble n 96 then (bif Nat.beq n 96 then some c96 else none) else (bif Nat.beq n 97 then some c97 else none)) else (bif Nat.ble n 98 then (bif Nat.beq n 98 then some c98 else none) else (bif Nat.ble n 99 then (bif Nat.beq n 99 then some c99 else none) else (bif Nat.beq n 100 then some c100 else none)))), fun n k => (bif Nat.beq n 8 then (match k with | 10 => [.sh, .sh, .sh, (.own []), (.own []), (.own [.sh, .sh, .sh, .sh, .sh, .sh, (.own []), .sh, (.own []), (.own []), (.own []), .sh, (.own [])]), .sh, .sh, .sh, .sh, (.own []), .sh, (.own []), (.own []), .sh, (.own []), (.own []), (.own []), (.own []), (.own [.sh, (.own [.sh, .sh, .sh, .sh, .sh, .sh, (.own []), .sh, (.own []), (.own []), (.own []), .sh, (.own [])]), .sh, .sh, (.own [])])] | 11 => [.sh, .sh, .sh, (.own []), (.own []), (.own [.sh, .sh, .sh, .sh, .sh, .sh, (.own []), .sh, (.own []), (.own []), (.own []), .sh, (.own [])]), .sh, .sh, .sh, .sh, (.own []), .sh, (.own []), (.own []), .sh, (.own []), (.own []), (.own []), (.own []), (.own [.sh, (.own [.sh, .sh, .sh, .sh, .sh, .sh, (.own []), .sh, (.own []), (.own []), (.own []), .sh, (.own [])]), .sh, .sh, (.own [])])] | _ => []) else []), fun n => (bif Nat.beq n 0 then (some ⟨[(.t 6 (.int .i64) .sh), (.b 34816 3 (.sl e56) (.own [.sh, .sh, .sh, (.own []), (.own []), (.own [.sh, .sh, .sh, .sh, .sh, .sh, (.own []), .sh, (.own []), (.own []), (.own []), .sh, (.own [])]), .sh, .sh, .sh, .sh, (.own []), .sh, (.own []), (.own []), .sh, (.own []), (.own []), (.own []), (.own []), (.own [.sh, (.own [.sh, .sh, .sh, .sh, .sh, .sh, (.own []), .sh, (.own []), (.own []), (.own []), .sh, (.own [])]), .sh, .sh, (.own [])])]))], [22, 23, 24, 25, 26, 27, 28, 29, 30, 31, 32, 33, 34, 35, 36, 37, 38, 39, 40, 41, 42, 43, 44, 45, 46, 47, 48, 49, 50], []⟩) else none), fun n => none⟩
theorem q24 : ∀ x, runF C24 Tryz.f24 i24 o24 x = F24 x := by intro x; kernel_rfl
def i172 : List Grp := [⟨.c, (.cons (.int .i64) .nil), []⟩, ⟨.c, (.cons (.int .i64) .nil), []⟩, ⟨.c, (.cons (.int .i64) .nil), []⟩]
def o172 : List Grp := [⟨.c, (.cons .bool .nil), []⟩]
/-- impl.inRange -/
noncomputable def F172 : ((Int × Unit) × ((Int × Unit) × ((Int × Unit) × Unit))) → Option (((Bool × Unit) × Unit)) := fun x0 => bif iLe x0.2.1.1 x0.1.1 then some ((iLe x0.1.1 x0.2.2.1.1, ()), ()) else some ((false, ()), ())
noncomputable def c172 : Con := ⟨i172, o172, F172⟩
noncomputable def C172 : Ctx := ⟨15, TT, EE, fun n => none, fun n k => [], fun n => none, fun n => none⟩
theorem q172 : ∀ x, runF C172 Tryz.f172 i172 o172 x = F172 x := by intro x; kernel_rfl
def i174 : List Grp := [⟨.c, (.cons .str .nil), []⟩]
def o174 : List Grp := [⟨.c, (.cons .bool .nil), []⟩]
/-- impl.NameOk -/
noncomputable def F174.b0 (x0 : ((ByteArray × Unit) × Unit)) : (v1 : (Int × Unit)) → Option (Sum (Int × Unit) (Sum (Int × Unit) (((Bool × Unit) × Unit)))) := fun v1 => bif iLt v1.1 (ByteArray.size x0.1.1 : Int) then (getI (ByteArray.data x0.1.1).toList v1.1).bind fun b2 => bif iLe (97:Int) (UInt8.toNat b2 : Int) then (getI (ByteArray.data x0.1.1).toList v1.1).bind fun b3 => bif iLe (UInt8.toNat b3 : Int) (122:Int) then some (.inl (iAdd .i64 v1.1 (1:Int), ())) else (getI (ByteArray.data x0.1.1).toList v1.1).bind fun b4 => bif iLe (48:Int) (UInt8.toNat b4 : Int) then (getI (ByteArray.data x0.1.1).toList v1.1).bind fun b5 => bif (!(iLe (UInt8.toNat b5 : Int) (57:Int))) then some (.inr (.inr ((false, ()), ()))) else some (.inl (iAdd .i64 v1.1 (1:Int), ())) else some (.inr (.inr ((false, ()), ()))) else (getI (ByteArray.data x0.1.1).toList v1.1).bind fun b6 => bif iLe (48:Int) (UInt8.toNat b6 : Int) then (getI (ByteArray.data x0.1.1).toList v1.1).bind fun b7 => bif (!(iLe (UInt8.toNat b7 : Int) (57:Int))) then some (.inr (.inr ((false, ()), ()))) else some (.inl (iAdd .i64 v1.1 (1:Int), ())) else some (.inr (.inr ((false, ()), ()))) else some (.inr (.inl (v1.1, ())))
noncomputable def F174 : ((ByteArray × Unit) × Unit) → Option (((Bool × Unit) × Unit)) := fun x0 => (loopF (F174.b0 x0) ((0:Int), ())).bind fun r9 => Sum.elim (fun v8 => (F172 (((ByteArray.size x0.1.1 : Int), ()), (((1:Int), ()), (((8:Int), ()), ())))).bind fun y10 => some (y10.1, ())) some r9
noncomputable def c174 : Con := ⟨i174, o174, F174⟩
noncomputable def C174 : Ctx := ⟨36, TT, EE, fun n => (bif Nat.beq n 172 then some c172 else none), fun n k => [], fun n => (bif Nat.beq n 0 then (some ⟨[(.t 3 (.int .i64) .sh)], [2, 4, 5, 6, 7, 8, 9, 10, 11, 12, 13, 14, 15, 16, 17, 18, 19, 20, 21, 22, 23, 24, 25, 26, 27, 28, 29, 30, 31, 32], []⟩) else none), fun n => none⟩
theorem q174 : ∀ x, runF C174 Tryz.f174 i174 o174 x = F174 x := by intro x; kernel_rfl
def i230 : List Grp := [⟨.c, (.cons (.int .i64) .nil), []⟩]
def o230 : List Grp := [⟨.c, (.cons .bool .nil), []⟩]
/-- impl.isAmount -/
noncomputable def F230 : ((Int × Unit) × Unit) → Option (((Bool × Unit) × Unit)) := fun x0 => (F172 (x0.1, (((0:Int), ()), (((1000000:Int), ()), ())))).bind fun y1 => some (y1.1, ())
noncomputable def c230 : Con := ⟨i230, o230, F230⟩
noncomputable def C230 : Ctx := ⟨5, TT, EE, fun n => (bif Nat.beq n 172 then some c172 else none), fun n k => [], fun n => none, fun n => none⟩
theorem q230 : ∀ x, runF C230 Tryz.f230 i230 o230 x = F230 x := by intro x; kernel_rfl
def i209 : List Grp := [⟨.agg, e153, []⟩]
def o209 : List Grp := [⟨.c, (.cons .bool .nil), []⟩]
/-- impl.AcctOk -/
noncomputable def F209.b0 (x0 : (D153 × Unit)) : (v1 : (Int × Unit)) → Option (Sum (Int × Unit) (Sum (Int × Unit) (((Bool × Unit) × Unit)))) := fun v1 => bif iLt v1.1 (List.length x0.1.2.2.2.2.1 : Int) then (getI x0.1.2.2.2.2.1 v1.1).bind fun x2 => (F172 ((x2.1, ()), (((1:Int), ()), (((1000000:Int), ()), ())))).bind fun y3 => bif (!y3.1.1) then some (.inr (.inr ((false, ()), ()))) else (F172 ((x2.2.1, ()), (((0:Int), ()), (((1000:Int), ()), ())))).bind fun y4 => bif (!y4.1.1) then some (.inr (.inr ((false, ()), ()))) else bif iLt (0:Int) v1.1 then (getI x0.1.2.2.2.2.1 (iSub .i64 v1.1 (1:Int))).bind fun x5 => bif iLe x2.2.1 x5.2.1 then some (.inr (.inr ((false, ()), ()))) else some (.inl (iAdd .i64 v1.1 (1:Int), ())) else some (.inl (iAdd .i64 v1.1 (1:Int), ())) else some (.inr (.inl (v1.1, ())))
noncomputable def F209 : (D153 × Unit) → Option (((Bool × Unit) × Unit)) := fun x0 => (loopF (F209.b0 x0) ((0:Int), ())).bind fun r7 => Sum.elim (fun v6 => (F174 ((x0.1.1, ()), ())).bind fun y8 => bif y8.1.1 then (F230 ((x0.1.2.1, ()), ())).bind fun y9 => bif y9.1.1 then (F230 ((x0.1.2.2.2.1, ()), ())).bind fun y10 => bif y10.1.1 then (F172 ((x0.1.2.2.1, ()), (((0:Int), ()), (((10000:Int), ()), ())))).bind fun y11 => bif y11.1.1 then some ((iLe (List.length x0.1.2.2.2.2.1 : Int) (4:Int), ()), ()) else some ((false, ()), ()) else some ((false, ()), ()) else some ((false, ()), ()) else some ((false, ()), ())) some r7
noncomputable def c209 : Con := ⟨i209, o209, F209⟩
noncomputable def C209 : Ctx := ⟨64, TT, EE, fun n => (bif Nat.ble n 172 then (bif Nat.beq n 172 then some c172 else none) else (bif Nat.ble n 174 then (bif Nat.beq n 174 then some c174 else none) else (bif Nat.beq n 230 then some c230 else none))), fun n k => [], fun n => (bif Nat.beq n 0 then (some ⟨[(.t 8 (.int .i64) .sh)], [2, 3, 4, 9, 10, 11, 12, 13, 14, 15, 16, 17, 18, 19, 20, 21, 22, 23, 24, 25, 26, 27, 28, 29, 30, 31, 32, 33, 34, 35, 36, 37, 38, 39], []⟩) else none), fun n => none⟩
theorem q209 : ∀ x, runF C209 Tryz.f209 i209 o209 x = F209 x := by intro x; kernel_rfl
def i210 : List Grp := [⟨.c, (.cons (.sl e153) .nil), []⟩]
def o210 : List Grp := [⟨.c, (.cons (.int .i64) .nil), []⟩]
/-- impl.Wealth -/
noncomputable def F210.b1 (x2 : D153) : (v3 : (Int × (Int × Unit))) → Option (Sum (Int × (Int × Unit)) (Sum (Int × (Int × Unit)) (Sum (Int × (Int × Unit)) (Sum (Int × (Int × Unit)) (((Int × Unit) × Unit)))))) := fun v3 => bif iLt v3.2.1 (List.length x2.2.2.2.2.1 : Int) then (getI x2.2.2.2.2.1 v3.2.1).bind fun x4 => some (.inl (iAdd .i64 v3.1 x4.1, (iAdd .i64 v3.2.1 (1:Int), ()))) else some (.inr (.inl (v3.1, (v3.2.1, ()))))
noncomputable def F210.b0 (x0 : ((List D153 × Unit) × Unit)) : (v1 : (Int × (Int × Unit))) → Option (Sum (Int × (Int × Unit)) (Sum (Int × (Int × Unit)) (((Int × Unit) × Unit)))) := fun v1 => bif iLt v1.2.1 (List.length x0.1.1 : Int) then (getI x0.1.1 v1.2.1).bind fun x2 => (loopF (F210.b1 x2) (iAdd .i64 v1.1 (iAdd .i64 x2.2.1 x2.2.2.2.1), ((0:Int), ()))).bind fun r6 => Sum.elim (fun v5 => some (.inl (v5.1, (iAdd .i64 v1.2.1 (1:Int), ())))) some r6 else some (.inr (.inl (v1.1, (v1.2.1, ()))))
noncomputable def F210 : ((List D153 × Unit) × Unit) → Option (((Int × Unit) × Unit)) := fun x0 => (loopF (F210.b0 x0) ((0:Int), ((0:Int), ()))).bind fun r8 => Sum.elim (fun v7 => some ((v7.1, ()), ())) some r8
noncomputable def c210 : Con := ⟨i210, o210, F210⟩
noncomputable def C210 : Ctx := ⟨35, TT, EE, fun n => none, fun n k => [], fun n => (bif Nat.ble n 0 then (bif Nat.beq n 0 then (some ⟨[(.t 3 (.int .i64) .sh), (.t 10 (.int .i64) .sh)], [5, 7, 11, 12, 13, 14, 15, 16, 17, 18, 19, 20, 21, 22, 23, 24, 25, 26, 27, 28, 29, 30, 31, 32, 33], []⟩) else none) else (bif Nat.beq n 2 then (some ⟨[(.t 3 (.int .i64) .sh), (.t 24 (.int .i64) .sh)], [7, 25, 26, 27, 28, 29, 30, 31, 32], []⟩) else none)), fun n => none⟩
theorem q210 : ∀ x, runF C210 Tryz.f210 i210 o210 x = F210 x := by intro x; kernel_rfl
def i173 : List Grp := [⟨.c, (.cons (.sl e153) .nil), []⟩]
def o173 : List Grp := [⟨.c, (.cons .bool .nil), []⟩]
/-- impl.AcctsOk -/
noncomputable def F173.b0 (x0 : ((List D153 × Unit) × Unit)) : (v1 : (Int × Unit)) → Option (Sum (Int × Unit) (Sum (Int × Unit) (((Bool × Unit) × Unit)))) := fun v1 => bif iLt v1.1 (List.length x0.1.1 : Int) then (getI x0.1.1 v1.1).bind fun x2 => (F209 (x2, ())).bind fun y3 => bif (!y3.1.1) then some (.inr (.inr ((false, ()), ()))) else bif iLt (0:Int) v1.1 then (getI x0.1.1 (iSub .i64 v1.1 (1:Int))).bind fun x4 => bif sLt x2.1 x4.1 || sEq x2.1 x4.1 then some (.inr (.inr ((false, ()), ()))) else some (.inl (iAdd .i64 v1.1 (1:Int), ())) else some (.inl (iAdd .i64 v1.1 (1:Int), ())) else some (.inr (.inl (v1.1, ())))
noncomputable def F173 : ((List D153 × Unit) × Unit) → Option (((Bool × Unit) × Unit)) := fun x0 => (loopF (F173.b0 x0) ((0:Int), ())).bind fun r6 => Sum.elim (fun v5 => bif iLe (List.length x0.1.1 : Int) (12:Int) then (F210 (x0.1, ())).bind fun y7 => some ((iLe y7.1.1 (1000000:Int), ()), ()) else some ((false, ()), ())) some r6
noncomputable def c173 : Con := ⟨i173, o173, F173⟩
noncomputable def C173 : Ctx := ⟨39, TT, EE, fun n => (bif Nat.ble n 209 then (bif Nat.beq n 209 then some c209 else none) else (bif Nat.beq n 210 then some c210 else none)), fun n k => [], fun n => (bif Nat.beq n 0 then (some ⟨[(.t 7 (.int .i64) .sh)], [2, 3, 4, 8, 9, 10, 11, 12, 13, 14, 15, 16, 17, 18, 19, 20, 21, 22, 23, 24, 25, 26, 27, 28, 29, 30], []⟩) else none), fun n => none⟩
theorem q173 : ∀ x, runF C173 Tryz.f173 i173 o173 x = F173 x := by intro x; kernel_rfl
def i102 : List Grp := [⟨.agg, e48, []⟩]
def o102 : List Grp := [⟨.c, (.cons .bool .nil), []⟩]
/-- impl.LedgerOk -/
noncomputable def F102 : (D48 × Unit) → Option (((Bool × Unit) × Unit)) := fun x0 => (F172 ((x0.1.1, ()), (((0:Int), ()), (((900:Int), ()), ())))).bind fun y1 => bif y1.1.1 then (F173 ((x0.1.2.1, ()), ())).bind fun y2 => some (y2.1, ()) else some ((false, ()), ())
noncomputable def c102 : Con := ⟨i102, o102, F102⟩
noncomputable def C102 : Ctx := ⟨11, TT, EE, fun n => (bif Nat.ble n 172 then (bif Nat.beq n 172 then some c172 else none) else (bif Nat.beq n 173 then some c173 else none)), fun n k => [], fun n => none, fun n => none⟩
theorem q102 : ∀ x, runF C102 Tryz.f102 i102 o102 x = F102 x := by intro x; kernel_rfl
def i103 : List Grp := [⟨.c, (.cons (.sl e9) .nil), []⟩]
def o103 : List Grp := [⟨.c, (.cons .bool .nil), []⟩]
/-- impl.NamesOk -/
noncomputable def F103.b0 (x0 : ((List D9 × Unit) × Unit)) : (v1 : (Int × Unit)) → Option (Sum (Int × Unit) (Sum (Int × Unit) (((Bool × Unit) × Unit)))) := fun v1 => bif iLt v1.1 (List.length x0.1.1 : Int) then (getI x0.1.1 v1.1).bind fun x2 => (F174 (x2, ())).bind fun y3 => bif (!y3.1.1) then some (.inr (.inr ((false, ()), ()))) else bif iLt (0:Int) v1.1 then (getI x0.1.1 (iSub .i64 v1.1 (1:Int))).bind fun x4 => bif sLt x2.1 x4.1 || sEq x2.1 x4.1 then some (.inr (.inr ((false, ()), ()))) else some (.inl (iAdd .i64 v1.1 (1:Int), ())) else some (.inl (iAdd .i64 v1.1 (1:Int), ())) else some (.inr (.inl (v1.1, ())))
noncomputable def F103 : ((List D9 × Unit) × Unit) → Option (((Bool × Unit) × Unit)) := fun x0 => (loopF (F103.b0 x0) ((0:Int), ())).bind fun r6 => Sum.elim (fun v5 => some ((iLe (List.length x0.1.1 : Int) (20:Int), ()), ())) some r6
noncomputable def c103 : Con := ⟨i103, o103, F103⟩
noncomputable def C103 : Ctx := ⟨32, TT, EE, fun n => (bif Nat.beq n 174 then some c174 else none), fun n k => [], fun n => (bif Nat.beq n 0 then (some ⟨[(.t 7 (.int .i64) .sh)], [2, 3, 4, 8, 9, 10, 11, 12, 13, 14, 15, 16, 17, 18, 19, 20, 21, 22, 23, 24, 25, 26, 27, 28], []⟩) else none), fun n => none⟩
theorem q103 : ∀ x, runF C103 Tryz.f103 i103 o103 x = F103 x := by intro x; kernel_rfl
def i211 : List Grp := [⟨.c, (.cons (.sl e248) .nil), []⟩]
def o211 : List Grp := [⟨.c, (.cons (.sl e248) .nil), [(.own [])]⟩]
/-- slices.Clone[[]impl.Leave,impl.Leave] -/
noncomputable def F211 : ((List D248 × Unit) × Unit) → Option (((List D248 × Unit) × Unit)) := fun x0 => bif x0.1.1.isEmpty then both (some (([], ()), ())) (bif room (List.length ([] : List (D248)) + List.length x0.1.1) 16 then some ((lapp ([] : List (D248)) x0.1.1, ()), ()) else none) else bif room (List.length ([] : List (D248)) + List.length x0.1.1) 16 then some ((lapp ([] : List (D248)) x0.1.1, ()), ()) else none
noncomputable def c211 : Con := ⟨i211, o211, F211⟩
noncomputable def C211 : Ctx := ⟨8, TT, EE, fun n => none, fun n k => [], fun n => none, fun n => none⟩
theorem q211 : ∀ x, runF C211 Tryz.f211 i211 o211 x = F211 x := by intro x; kernel_rfl
def i175 : List Grp := [⟨.c, (.cons (.sl e153) .nil), []⟩]
def o175 : List Grp := [⟨.c, (.cons (.sl e153) .nil), [(.own [.sh, .sh, .sh, .sh, (.own [])])]⟩]
/-- impl.copyAccts -/
noncomputable def F175.b0 (x0 : ((List D153 × Unit) × Unit)) : (v1 : (List (D153) × (Int × Unit))) → Option (Sum (List (D153) × (Int × Unit)) (Sum (List (D153) × (Int × Unit)) (((List D153 × Unit) × Unit)))) := fun v1 => bif iLt v1.2.1 (List.length x0.1.1 : Int) then (getI x0.1.1 v1.2.1).bind fun x2 => (F211 ((x2.2.2.2.2.1, ()), ())).bind fun y3 => bif room (List.length v1.1 + List.length ([(x2.1, (x2.2.1, (x2.2.2.1, (x2.2.2.2.1, (y3.1.1, ())))))] : List (D153))) 64 then some (.inl (lapp v1.1 ([(x2.1, (x2.2.1, (x2.2.2.1, (x2.2.2.2.1, (y3.1.1, ())))))] : List (D153)), (iAdd .i64 v1.2.1 (1:Int), ()))) else none else some (.inr (.inl (v1.1, (v1.2.1, ()))))
noncomputable def F175 : ((List D153 × Unit) × Unit) → Option (((List D153 × Unit) × Unit)) := fun x0 => (loopF (F175.b0 x0) ([], ((0:Int), ()))).bind fun r5 => Sum.elim (fun v4 => some ((v4.1, ()), ())) some r5
noncomputable def c175 : Con := ⟨i175, o175, F175⟩
noncomputable def C175 : Ctx := ⟨22, TT, EE, fun n => (bif Nat.beq n 211 then some c211 else none), fun n k => (bif Nat.beq n 6 then (match k with | 2 => [.sh, .sh, .sh, .sh, (.own [])] | 3 => [.sh, .sh, .sh, .sh, (.own [])] | _ => []) else []), fun n => (bif Nat.beq n 0 then (some ⟨[(.t 3 (.sl e153) (.own [.sh, .sh, .sh, .sh, (.own [])])), (.t 8 (.int .i64) .sh)], [5, 9, 10, 11, 12, 13, 14, 15, 16, 17, 18, 19, 20], []⟩) else none), fun n => none⟩
theorem q175 : ∀ x, runF C175 Tryz.f175 i175 o175 x = F175 x := by intro x; kernel_rfl
def i104 : List Grp := [⟨.agg, e48, []⟩]
def o104 : List Grp := [⟨.agg, e48, [.sh, (.own [.sh, .sh, .sh, .sh, (.own [])])]⟩]
/-- impl.copyLedger -/
noncomputable def F104 : (D48 × Unit) → Option ((D48 × Unit)) := fun x0 => (F175 ((x0.1.2.1, ()), ())).bind fun y1 => some ((x0.1.1, (y1.1.1, ())), ())
noncomputable def c104 : Con := ⟨i104, o104, F104⟩
noncomputable def C104 : Ctx := ⟨9, TT, EE, fun n => (bif Nat.beq n 175 then some c175 else none), fun n k => [], fun n => none, fun n => none⟩
theorem q104 : ∀ x, runF C104 Tryz.f104 i104 o104 x = F104 x := by intro x; kernel_rfl
def i105 : List Grp := [⟨.c, (.cons (.sl e9) .nil), []⟩]
def o105 : List Grp := [⟨.c, (.cons (.sl e9) .nil), [(.own [])]⟩]
/-- slices.Clone[[]string,string] -/
noncomputable def F105 : ((List D9 × Unit) × Unit) → Option (((List D9 × Unit) × Unit)) := fun x0 => bif x0.1.1.isEmpty then both (some (([], ()), ())) (bif room (List.length ([] : List (D9)) + List.length x0.1.1) 16 then some ((lapp ([] : List (D9)) x0.1.1, ()), ()) else none) else bif room (List.length ([] : List (D9)) + List.length x0.1.1) 16 then some ((lapp ([] : List (D9)) x0.1.1, ()), ()) else none
noncomputable def c105 : Con := ⟨i105, o105, F105⟩
noncomputable def C105 : Ctx := ⟨8, TT, EE, fun n => none, fun n k => [], fun n => none, fun n => none⟩
theorem q105 : ∀ x, runF C105 Tryz.f105 i105 o105 x = F105 x := by intro x; kernel_rfl
def i176 : List Grp := [⟨.c, (.cons (.sl e9) .nil), []⟩, ⟨.c, (.cons .str .nil), []⟩]
def o176 : List Grp := [⟨.c, (.cons (.int .i64) .nil), []⟩]
/-- slices.Index[[]string,string] -/
noncomputable def F176.b0 (x0 : ((List D9 × Unit) × ((ByteArray × Unit) × Unit))) : (v1 : (Int × Unit)) → Option (Sum (Int × Unit) (Sum (Int × Unit) (((Int × Unit) × Unit)))) := fun v1 => bif iLt v1.1 (List.length x0.1.1 : Int) then (getI x0.1.1 v1.1).bind fun x2 => bif sEq x0.2.1.1 x2.1 then some (.inr (.inr ((v1.1, ()), ()))) else some (.inl (iAdd .i64 v1.1 (1:Int), ())) else some (.inr (.inl (v1.1, ())))
noncomputable def F176 : ((List D9 × Unit) × ((ByteArray × Unit) × Unit)) → Option (((Int × Unit) × Unit)) := fun x0 => (loopF (F176.b0 x0) ((0:Int), ())).bind fun r4 => Sum.elim (fun v3 => some (((-1:Int), ()), ())) some r4
noncomputable def c176 : Con := ⟨i176, o176, F176⟩
noncomputable def C176 : Ctx := ⟨19, TT, EE, fun n => none, fun n k => [], fun n => (bif Nat.beq n 0 then (some ⟨[(.t 8 (.int .i64) .sh)], [4, 5, 9, 10, 11, 12, 13, 14, 15, 16, 17, 18], []⟩) else none), fun n => none⟩
theorem q176 : ∀ x, runF C176 Tryz.f176 i176 o176 x = F176 x := by intro x; kernel_rfl
def i106 : List Grp := [⟨.c, (.cons (.sl e9) .nil), []⟩, ⟨.c, (.cons .str .nil), []⟩]
def o106 : List Grp := [⟨.c, (.cons .bool .nil), []⟩]
/-- slices.Contains[[]string,string] -/
noncomputable def F106 : ((List D9 × Unit) × ((ByteArray × Unit) × Unit)) → Option (((Bool × Unit) × Unit)) := fun x0 => (F176 (x0.1, (x0.2.1, ()))).bind fun y1 => some ((iLe (0:Int) y1.1.1, ()), ())
noncomputable def c106 : Con := ⟨i106, o106, F106⟩
noncomputable def C106 : Ctx := ⟨9, TT, EE, fun n => (bif Nat.beq n 176 then some c176 else none), fun n k => [], fun n => none, fun n => none⟩
theorem q106 : ∀ x, runF C106 Tryz.f106 i106 o106 x = F106 x := by intro x; kernel_rfl
def i91 : List Grp := [⟨.agg, e48, []⟩]
def o91 : List Grp := [⟨.c, (.cons (.sl e188) .nil), [(.own [])]⟩]
/-- impl.SetOf -/
noncomputable def F91.b0 (x0 : (D48 × Unit)) : (v2 : (List (D188) × (Int × Unit))) → Option (Sum (List (D188) × (Int × Unit)) (Sum (List (D188) × (Int × Unit)) (((List D188 × Unit) × Unit)))) := fun v2 => bif iLt v2.2.1 (List.length x0.1.2.1 : Int) then (getI x0.1.2.1 v2.2.1).bind fun x3 => bif iLe (5:Int) x3.2.2.2.1 then bif room (List.length v2.1 + List.length ([(x3.1, (x3.2.2.2.1, ()))] : List (D188))) 24 then some (.inl (lapp v2.1 ([(x3.1, (x3.2.2.2.1, ()))] : List (D188)), (iAdd .i64 v2.2.1 (1:Int), ()))) else none else some (.inl (v2.1, (iAdd .i64 v2.2.1 (1:Int), ()))) else some (.inr (.inl (v2.1, (v2.2.1, ()))))
noncomputable def F91 : (D48 × Unit) → Option (((List D188 × Unit) × Unit)) := fun x0 => (F102 (x0.1, ())).bind fun y1 => bif (!y1.1.1) then some (([], ()), ()) else (loopF (F91.b0 x0) ([], ((0:Int), ()))).bind fun r5 => Sum.elim (fun v4 => some ((v4.1, ()), ())) some r5
noncomputable def c91 : Con := ⟨i91, o91, F91⟩
noncomputable def C91 : Ctx := ⟨29, TT, EE, fun n => (bif Nat.beq n 102 then some c102 else none), fun n k => [], fun n => (bif Nat.beq n 0 then (some ⟨[(.t 3 (.sl e188) (.own [])), (.t 12 (.int .i64) .sh)], [5, 13, 14, 15, 16, 17, 18, 19, 20, 21, 22, 23, 24, 25, 26, 27], []⟩) else none), fun n => none⟩
theorem q91 : ∀ x, runF C91 Tryz.f91 i91 o91 x = F91 x := by intro x; kernel_rfl
def i177 : List Grp := []
def o177 : List Grp := [⟨.agg, e41, [.sh, .sh, (.own [])]⟩]
/-- impl.rootQc -/
noncomputable def F177 : Unit → Option ((D41 × Unit)) := fun x0 => some (((0:Int), ((-1:Int), ([], ()))), ())
noncomputable def c177 : Con := ⟨i177, o177, F177⟩
noncomputable def C177 : Ctx := ⟨2, TT, EE, fun n => none, fun n k => [], fun n => none, fun n => none⟩
theorem q177 : ∀ x, runF C177 Tryz.f177 i177 o177 x = F177 x := by intro x; kernel_rfl
def i107 : List Grp := [⟨.c, (.cons .str .nil), []⟩, ⟨.agg, e48, []⟩]
def o107 : List Grp := [⟨.agg, e56, [.sh, .sh, .sh, (.own [.sh, .sh, .sh, .sh, (.own [])]), (.own []), (.own [.sh, .sh, .sh, .sh, .sh, .sh, (.own []), .sh, (.own []), (.own []), (.own []), .sh, (.own [])]), .sh, .sh, .sh, .sh, (.own []), .sh, (.own []), (.own []), .sh, (.own []), (.own []), (.own []), (.own []), (.own [.sh, (.own [.sh, .sh, .sh, .sh, .sh, .sh, (.own []), .sh, (.own []), (.own []), (.own []), .sh, (.own [])]), .sh, .sh, (.own [])])]⟩]
/-- impl.NodeNew -/
noncomputable def F107 : ((ByteArray × Unit) × (D48 × Unit)) → Option ((D56 × Unit)) := fun x0 => (F174 (x0.1, ())).bind fun y1 => bif (!y1.1.1) then some ((⟨#[]⟩, ((0:Int), ((0:Int), ([], ([], ([], ((0:Int), ((0:Int), ((0:Int), ((0:Int), ([], ((0:Int), ([], ([], ((0:Int), ([], ([], ([], ([], ([], ())))))))))))))))))))), ()) else (F102 (x0.2.1, ())).bind fun y2 => bif (!y2.1.1) then some ((⟨#[]⟩, ((0:Int), ((0:Int), ([], ([], ([], ((0:Int), ((0:Int), ((0:Int), ((0:Int), ([], ((0:Int), ([], ([], ((0:Int), ([], ([], ([], ([], ([], ())))))))))))))))))))), ()) else (F104 (x0.2.1, ())).bind fun y3 => (F91 (x0.2.1, ())).bind fun y4 => (F177 ()).bind fun y5 => some ((x0.1.1, (x0.2.1.1, (y3.1.1, (y3.1.2.1, (y4.1.1, ([], ((1:Int), ((0:Int), (y5.1.1, (y5.1.2.1, (y5.1.2.2.1, ((0:Int), ([], ([], ((0:Int), ([], ([], ([], ([], ([], ())))))))))))))))))))), ())
noncomputable def c107 : Con := ⟨i107, o107, F107⟩
noncomputable def C107 : Ctx := ⟨23, TT, EE, fun n => (bif Nat.ble n 102 then (bif Nat.ble n 91 then (bif Nat.beq n 91 then some c91 else none) else (bif Nat.beq n 102 then some c102 else none)) else (bif Nat.ble n 104 then (bif Nat.beq n 104 then some c104 else none) else (bif Nat.ble n 174 then (bif Nat.beq n 174 then some c174 else none) else (bif Nat.beq n 177 then some c177 else none)))), fun n k => [], fun n => none, fun n => none⟩
theorem q107 : ∀ x, runF C107 Tryz.f107 i107 o107 x = F107 x := by intro x; kernel_rfl
def i27 : List Grp := [⟨.agg, e48, []⟩, ⟨.c, (.cons (.sl e9) .nil), []⟩]
def o27 : List Grp := [⟨.agg, e74, [.sh, (.own [.sh, .sh, .sh, .sh, (.own [])]), (.own []), (.own [.sh, .sh, .sh, (.own [.sh, .sh, .sh, .sh, (.own [])]), (.own []), (.own [.sh, .sh, .sh, .sh, .sh, .sh, (.own []), .sh, (.own []), (.own []), (.own []), .sh, (.own [])]), .sh, .sh, .sh, .sh, (.own []), .sh, (.own []), (.own []), .sh, (.own []), (.own []), (.own []), (.own []), (.own [.sh, (.own [.sh, .sh, .sh, .sh, .sh, .sh, (.own []), .sh, (.own []), (.own []), (.own []), .sh, (.own [])]), .sh, .sh, (.own [])])]), (.own [.sh, .sh, .sh, .sh, .sh, .sh, (.own []), .sh, (.own []), (.own []), (.own []), .sh, (.own [])]), (.own []), (.own [.sh, .sh, .sh, (.own [.sh, .sh, .sh, .sh, .sh, .sh, (.own []), .sh, (.own []), (.own []), (.own []), .sh, (.own [])]), .sh, .sh, .sh, .sh, .sh, .sh, .sh, .sh, (.own []), .sh, (.own []), (.own [])])]⟩]
/-- impl.WorldNew -/
noncomputable def F27.b0 (x0 : (D48 × ((List D9 × Unit) × Unit))) : (v5 : (Int × (List (D56) × Unit))) → Option (Sum (Int × (List (D56) × Unit)) (Sum (Int × (List (D56) × Unit)) ((D74 × Unit)))) := fun v5 => bif iLt v5.1 (List.length x0.1.2.1 : Int) then (getI x0.1.2.1 v5.1).bind fun x6 => (F106 (x0.2.1, ((x6.1, ()), ()))).bind fun y7 => bif (!y7.1.1) then (F107 ((x6.1, ()), (x0.1, ()))).bind fun y8 => bif room (List.length v5.2.1 + List.length ([y8.1] : List (D56))) 344 then some (.inl (iAdd .i64 v5.1 (1:Int), (lapp v5.2.1 ([y8.1] : List (D56)), ()))) else none else some (.inl (iAdd .i64 v5.1 (1:Int), (v5.2.1, ()))) else some (.inr (.inl (v5.1, (v5.2.1, ()))))
noncomputable def F27 : (D48 × ((List D9 × Unit) × Unit)) → Option ((D74 × Unit)) := fun x0 => (F102 (x0.1, ())).bind fun y1 => bif (!y1.1.1) then some (((0:Int), ([], ([], ([], ([], ([], ([], ()))))))), ()) else (F103 (x0.2.1, ())).bind fun y2 => bif (!y2.1.1) then some (((0:Int), ([], ([], ([], ([], ([], ([], ()))))))), ()) else (F104 (x0.1, ())).bind fun y3 => (F105 (x0.2.1, ())).bind fun y4 => (loopF (F27.b0 x0) ((0:Int), ([], ()))).bind fun r10 => Sum.elim (fun v9 => some ((y3.1.1, (y3.1.2.1, (y4.1.1, (v9.2.1, ([], ([], ([], ()))))))), ())) some r10
noncomputable def c27 : Con := ⟨i27, o27, F27⟩
noncomputable def C27 : Ctx := ⟨45, TT, EE, fun n => (bif Nat.ble n 104 then (bif Nat.ble n 102 then (bif Nat.beq n 102 then some c102 else none) else (bif Nat.ble n 103 then (bif Nat.beq n 103 then some c103 else none) else (bif Nat.beq n 104 then some c104 else none))) else (bif Nat.ble n 105 then (bif Nat.beq n 105 then some c105 else none) else (bif Nat.ble n 106 then (bif Nat.beq n 106 then some c106 else none) else (bif Nat.beq n 107 then some c107 else none)))), fun n k => (bif Nat.beq n 8 then (match k with | 6 => [.sh, .sh, .sh, (.own [.sh, .sh, .sh, .sh, (.own [])]), (.own []), (.own [.sh, .sh, .sh, .sh, .sh, .sh, (.own []), .sh, (.own []), (.own []), (.own []), .sh, (.own [])]), .sh, .sh, .sh, .sh, (.own []), .sh, (.own []), (.own []), .sh, (.own []), (.own []), (.own []), (.own []), (.own [.sh, (.own [.sh, .sh, .sh, .sh, .sh, .sh, (.own []), .sh, (.own []), (.own []), (.own []), .sh, (.own [])]), .sh, .sh, (.own [])])] | 7 => [.sh, .sh, .sh, (.own [.sh, .sh, .sh, .sh, (.own [])]), (.own []), (.own [.sh, .sh, .sh, .sh, .sh, .sh, (.own []), .sh, (.own []), (.own []), (.own []), .sh, (.own [])]), .sh, .sh, .sh, .sh, (.own []), .sh, (.own []), (.own []), .sh, (.own []), (.own []), (.own []), (.own []), (.own [.sh, (.own [.sh, .sh, .sh, .sh, .sh, .sh, (.own []), .sh, (.own []), (.own []), (.own []), .sh, (.own [])]), .sh, .sh, (.own [])])] | _ => []) else []), fun n => (bif Nat.beq n 0 then (some ⟨[(.t 25 (.int .i64) .sh), (.b 32768 3 (.sl e56) (.own [.sh, .sh, .sh, (.own [.sh, .sh, .sh, .sh, (.own [])]), (.own []), (.own [.sh, .sh, .sh, .sh, .sh, .sh, (.own []), .sh, (.own []), (.own []), (.own []), .sh, (.own [])]), .sh, .sh, .sh, .sh, (.own []), .sh, (.own []), (.own []), .sh, (.own []), (.own []), (.own []), (.own []), (.own [.sh, (.own [.sh, .sh, .sh, .sh, .sh, .sh, (.own []), .sh, (.own []), (.own []), (.own []), .sh, (.own [])]), .sh, .sh, (.own [])])]))], [7, 26, 27, 28, 29, 30, 31, 32, 33, 34, 35, 36, 37, 38, 39, 40, 41, 42, 43], []⟩) else none), fun n => none⟩
theorem q27 : ∀ x, runF C27 Tryz.f27 i27 o27 x = F27 x := by intro x; kernel_rfl
def i231 : List Grp := [⟨.agg, e264, []⟩, ⟨.agg, e264, []⟩]
def o231 : List Grp := [⟨.c, (.cons .bool .nil), []⟩]
/-- laws.eqLeave -/
noncomputable def F231 : (D264 × (D264 × Unit)) → Option (((Bool × Unit) × Unit)) := fun x0 => bif !iEq x0.1.1 x0.2.1.1 then some ((false, ()), ()) else bif !iEq x0.1.2.1 x0.2.1.2.1 then some ((false, ()), ()) else some ((true, ()), ())
noncomputable def c231 : Con := ⟨i231, o231, F231⟩
noncomputable def C231 : Ctx := ⟨15, TT, EE, fun n => none, fun n k => [], fun n => none, fun n => none⟩
theorem q231 : ∀ x, runF C231 Tryz.f231 i231 o231 x = F231 x := by intro x; kernel_rfl
def i212 : List Grp := [⟨.c, (.cons (.sl e248) .nil), []⟩, ⟨.c, (.cons (.sl e248) .nil), []⟩]
def o212 : List Grp := [⟨.c, (.cons .bool .nil), []⟩]
/-- laws.eqLeaveS -/
noncomputable def F212.b0 (x0 : ((List D248 × Unit) × ((List D248 × Unit) × Unit))) : (v1 : (Int × Unit)) → Option (Sum (Int × Unit) (Sum (Int × Unit) (((Bool × Unit) × Unit)))) := fun v1 => bif iLt v1.1 (List.length x0.1.1 : Int) then (getI x0.1.1 v1.1).bind fun x2 => (getI x0.2.1.1 v1.1).bind fun x3 => (F231 (x2, (x3, ()))).bind fun y4 => bif (!y4.1.1) then some (.inr (.inr ((false, ()), ()))) else some (.inl (iAdd .i64 v1.1 (1:Int), ())) else some (.inr (.inl (v1.1, ())))
noncomputable def F212 : ((List D248 × Unit) × ((List D248 × Unit) × Unit)) → Option (((Bool × Unit) × Unit)) := fun x0 => bif !iEq (List.length x0.1.1 : Int) (List.length x0.2.1.1 : Int) then some ((false, ()), ()) else (loopF (F212.b0 x0) ((0:Int), ())).bind fun r6 => Sum.elim (fun v5 => some ((true, ()), ())) some r6
noncomputable def c212 : Con := ⟨i212, o212, F212⟩
noncomputable def C212 : Ctx := ⟨27, TT, EE, fun n => (bif Nat.beq n 231 then some c231 else none), fun n k => [], fun n => (bif Nat.beq n 0 then (some ⟨[(.t 5 (.int .i64) .sh)], [4, 11, 12, 13, 14, 15, 16, 17, 18, 19, 20, 21, 22, 23, 24, 25, 26], []⟩) else none), fun n => none⟩
theorem q212 : ∀ x, runF C212 Tryz.f212 i212 o212 x = F212 x := by intro x; kernel_rfl
def i178 : List Grp := [⟨.agg, e153, []⟩, ⟨.agg, e153, []⟩]
def o178 : List Grp := [⟨.c, (.cons .bool .nil), []⟩]
/-- laws.eqAcct -/
noncomputable def F178 : (D153 × (D153 × Unit)) → Option (((Bool × Unit) × Unit)) := fun x0 => bif !sEq x0.1.1 x0.2.1.1 then some ((false, ()), ()) else bif !iEq x0.1.2.1 x0.2.1.2.1 then some ((false, ()), ()) else bif !iEq x0.1.2.2.1 x0.2.1.2.2.1 then some ((false, ()), ()) else bif !iEq x0.1.2.2.2.1 x0.2.1.2.2.2.1 then some ((false, ()), ()) else (F212 ((x0.1.2.2.2.2.1, ()), ((x0.2.1.2.2.2.2.1, ()), ()))).bind fun y1 => bif (!y1.1.1) then some ((false, ()), ()) else some ((true, ()), ())
noncomputable def c178 : Con := ⟨i178, o178, F178⟩
noncomputable def C178 : Ctx := ⟨31, TT, EE, fun n => (bif Nat.beq n 212 then some c212 else none), fun n k => [], fun n => none, fun n => none⟩
theorem q178 : ∀ x, runF C178 Tryz.f178 i178 o178 x = F178 x := by intro x; kernel_rfl
def i108 : List Grp := [⟨.c, (.cons (.sl e153) .nil), []⟩, ⟨.c, (.cons (.sl e153) .nil), []⟩]
def o108 : List Grp := [⟨.c, (.cons .bool .nil), []⟩]
/-- laws.eqAcctS -/
noncomputable def F108.b0 (x0 : ((List D153 × Unit) × ((List D153 × Unit) × Unit))) : (v1 : (Int × Unit)) → Option (Sum (Int × Unit) (Sum (Int × Unit) (((Bool × Unit) × Unit)))) := fun v1 => bif iLt v1.1 (List.length x0.1.1 : Int) then (getI x0.1.1 v1.1).bind fun x2 => (getI x0.2.1.1 v1.1).bind fun x3 => (F178 (x2, (x3, ()))).bind fun y4 => bif (!y4.1.1) then some (.inr (.inr ((false, ()), ()))) else some (.inl (iAdd .i64 v1.1 (1:Int), ())) else some (.inr (.inl (v1.1, ())))
noncomputable def F108 : ((List D153 × Unit) × ((List D153 × Unit) × Unit)) → Option (((Bool × Unit) × Unit)) := fun x0 => bif !iEq (List.length x0.1.1 : Int) (List.length x0.2.1.1 : Int) then some ((false, ()), ()) else (loopF (F108.b0 x0) ((0:Int), ())).bind fun r6 => Sum.elim (fun v5 => some ((true, ()), ())) some r6
noncomputable def c108 : Con := ⟨i108, o108, F108⟩
noncomputable def C108 : Ctx := ⟨27, TT, EE, fun n => (bif Nat.beq n 178 then some c178 else none), fun n k => [], fun n => (bif Nat.beq n 0 then (some ⟨[(.t 5 (.int .i64) .sh)], [4, 11, 12, 13, 14, 15, 16, 17, 18, 19, 20, 21, 22, 23, 24, 25, 26], []⟩) else none), fun n => none⟩
theorem q108 : ∀ x, runF C108 Tryz.f108 i108 o108 x = F108 x := by intro x; kernel_rfl
def i28 : List Grp := [⟨.agg, e48, []⟩, ⟨.agg, e48, []⟩]
def o28 : List Grp := [⟨.c, (.cons .bool .nil), []⟩]
/-- laws.eqLedger -/
noncomputable def F28 : (D48 × (D48 × Unit)) → Option (((Bool × Unit) × Unit)) := fun x0 => bif !iEq x0.1.1 x0.2.1.1 then some ((false, ()), ()) else (F108 ((x0.1.2.1, ()), ((x0.2.1.2.1, ()), ()))).bind fun y1 => bif (!y1.1.1) then some ((false, ()), ()) else some ((true, ()), ())
noncomputable def c28 : Con := ⟨i28, o28, F28⟩
noncomputable def C28 : Ctx := ⟨16, TT, EE, fun n => (bif Nat.beq n 108 then some c108 else none), fun n k => [], fun n => none, fun n => none⟩
theorem q28 : ∀ x, runF C28 Tryz.f28 i28 o28 x = F28 x := by intro x; kernel_rfl
def i29 : List Grp := [⟨.c, (.cons (.sl e9) .nil), []⟩, ⟨.c, (.cons (.sl e9) .nil), []⟩]
def o29 : List Grp := [⟨.c, (.cons .bool .nil), []⟩]
/-- laws.eqStringS -/
noncomputable def F29.b0 (x0 : ((List D9 × Unit) × ((List D9 × Unit) × Unit))) : (v1 : (Int × Unit)) → Option (Sum (Int × Unit) (Sum (Int × Unit) (((Bool × Unit) × Unit)))) := fun v1 => bif iLt v1.1 (List.length x0.1.1 : Int) then (getI x0.1.1 v1.1).bind fun x2 => (getI x0.2.1.1 v1.1).bind fun x3 => bif !sEq x2.1 x3.1 then some (.inr (.inr ((false, ()), ()))) else some (.inl (iAdd .i64 v1.1 (1:Int), ())) else some (.inr (.inl (v1.1, ())))
noncomputable def F29 : ((List D9 × Unit) × ((List D9 × Unit) × Unit)) → Option (((Bool × Unit) × Unit)) := fun x0 => bif !iEq (List.length x0.1.1 : Int) (List.length x0.2.1.1 : Int) then some ((false, ()), ()) else (loopF (F29.b0 x0) ((0:Int), ())).bind fun r5 => Sum.elim (fun v4 => some ((true, ()), ())) some r5
noncomputable def c29 : Con := ⟨i29, o29, F29⟩
noncomputable def C29 : Ctx := ⟨26, TT, EE, fun n => none, fun n k => [], fun n => (bif Nat.beq n 0 then (some ⟨[(.t 5 (.int .i64) .sh)], [4, 11, 12, 13, 14, 15, 16, 17, 18, 19, 20, 21, 22, 23, 24, 25], []⟩) else none), fun n => none⟩
theorem q29 : ∀ x, runF C29 Tryz.f29 i29 o29 x = F29 x := by intro x; kernel_rfl
def i149 : List Grp := [⟨.agg, e188, []⟩, ⟨.agg, e188, []⟩]
def o149 : List Grp := [⟨.c, (.cons .bool .nil), []⟩]
/-- laws.eqVal -/
noncomputable def F149 : (D188 × (D188 × Unit)) → Option (((Bool × Unit) × Unit)) := fun x0 => bif !sEq x0.1.1 x0.2.1.1 then some ((false, ()), ()) else bif !iEq x0.1.2.1 x0.2.1.2.1 then some ((false, ()), ()) else some ((true, ()), ())
noncomputable def c149 : Con := ⟨i149, o149, F149⟩
noncomputable def C149 : Ctx := ⟨15, TT, EE, fun n => none, fun n k => [], fun n => none, fun n => none⟩
theorem q149 : ∀ x, runF C149 Tryz.f149 i149 o149 x = F149 x := by intro x; kernel_rfl
def i64 : List Grp := [⟨.c, (.cons (.sl e188) .nil), []⟩, ⟨.c, (.cons (.sl e188) .nil), []⟩]
def o64 : List Grp := [⟨.c, (.cons .bool .nil), []⟩]
/-- laws.eqValS -/
noncomputable def F64.b0 (x0 : ((List D188 × Unit) × ((List D188 × Unit) × Unit))) : (v1 : (Int × Unit)) → Option (Sum (Int × Unit) (Sum (Int × Unit) (((Bool × Unit) × Unit)))) := fun v1 => bif iLt v1.1 (List.length x0.1.1 : Int) then (getI x0.1.1 v1.1).bind fun x2 => (getI x0.2.1.1 v1.1).bind fun x3 => (F149 (x2, (x3, ()))).bind fun y4 => bif (!y4.1.1) then some (.inr (.inr ((false, ()), ()))) else some (.inl (iAdd .i64 v1.1 (1:Int), ())) else some (.inr (.inl (v1.1, ())))
noncomputable def F64 : ((List D188 × Unit) × ((List D188 × Unit) × Unit)) → Option (((Bool × Unit) × Unit)) := fun x0 => bif !iEq (List.length x0.1.1 : Int) (List.length x0.2.1.1 : Int) then some ((false, ()), ()) else (loopF (F64.b0 x0) ((0:Int), ())).bind fun r6 => Sum.elim (fun v5 => some ((true, ()), ())) some r6
noncomputable def c64 : Con := ⟨i64, o64, F64⟩
noncomputable def C64 : Ctx := ⟨27, TT, EE, fun n => (bif Nat.beq n 149 then some c149 else none), fun n k => [], fun n => (bif Nat.beq n 0 then (some ⟨[(.t 5 (.int .i64) .sh)], [4, 11, 12, 13, 14, 15, 16, 17, 18, 19, 20, 21, 22, 23, 24, 25, 26], []⟩) else none), fun n => none⟩
theorem q64 : ∀ x, runF C64 Tryz.f64 i64 o64 x = F64 x := by intro x; kernel_rfl
def i63 : List Grp := [⟨.agg, e41, []⟩, ⟨.agg, e41, []⟩]
def o63 : List Grp := [⟨.c, (.cons .bool .nil), []⟩]
/-- laws.eqQc -/
noncomputable def F63 : (D41 × (D41 × Unit)) → Option (((Bool × Unit) × Unit)) := fun x0 => bif !iEq x0.1.1 x0.2.1.1 then some ((false, ()), ()) else bif !iEq x0.1.2.1 x0.2.1.2.1 then some ((false, ()), ()) else (F29 ((x0.1.2.2.1, ()), ((x0.2.1.2.2.1, ()), ()))).bind fun y1 => bif (!y1.1.1) then some ((false, ()), ()) else some ((true, ()), ())
noncomputable def c63 : Con := ⟨i63, o63, F63⟩
noncomputable def C63 : Ctx := ⟨21, TT, EE, fun n => (bif Nat.beq n 29 then some c29 else none), fun n k => [], fun n => none, fun n => none⟩
theorem q63 : ∀ x, runF C63 Tryz.f63 i63 o63 x = F63 x := by intro x; kernel_rfl
def i68 : List Grp := [⟨.c, (.cons (.sl e3) .nil), []⟩, ⟨.c, (.cons (.sl e3) .nil), []⟩]
def o68 : List Grp := [⟨.c, (.cons .bool .nil), []⟩]
/-- laws.eqIntS -/
noncomputable def F68.b0 (x0 : ((List D3 × Unit) × ((List D3 × Unit) × Unit))) : (v1 : (Int × Unit)) → Option (Sum (Int × Unit) (Sum (Int × Unit) (((Bool × Unit) × Unit)))) := fun v1 => bif iLt v1.1 (List.length x0.1.1 : Int) then (getI x0.1.1 v1.1).bind fun x2 => (getI x0.2.1.1 v1.1).bind fun x3 => bif !iEq x2.1 x3.1 then some (.inr (.inr ((false, ()), ()))) else some (.inl (iAdd .i64 v1.1 (1:Int), ())) else some (.inr (.inl (v1.1, ())))
noncomputable def F68 : ((List D3 × Unit) × ((List D3 × Unit) × Unit)) → Option (((Bool × Unit) × Unit)) := fun x0 => bif !iEq (List.length x0.1.1 : Int) (List.length x0.2.1.1 : Int) then some ((false, ()), ()) else (loopF (F68.b0 x0) ((0:Int), ())).bind fun r5 => Sum.elim (fun v4 => some ((true, ()), ())) some r5
noncomputable def c68 : Con := ⟨i68, o68, F68⟩
noncomputable def C68 : Ctx := ⟨26, TT, EE, fun n => none, fun n k => [], fun n => (bif Nat.beq n 0 then (some ⟨[(.t 5 (.int .i64) .sh)], [4, 11, 12, 13, 14, 15, 16, 17, 18, 19, 20, 21, 22, 23, 24, 25], []⟩) else none), fun n => none⟩
theorem q68 : ∀ x, runF C68 Tryz.f68 i68 o68 x = F68 x := by intro x; kernel_rfl
def i65 : List Grp := [⟨.agg, e50, []⟩, ⟨.agg, e50, []⟩]
def o65 : List Grp := [⟨.c, (.cons .bool .nil), []⟩]
/-- laws.eqTc -/
noncomputable def F65 : (D50 × (D50 × Unit)) → Option (((Bool × Unit) × Unit)) := fun x0 => bif !iEq x0.1.1 x0.2.1.1 then some ((false, ()), ()) else (F29 ((x0.1.2.1, ()), ((x0.2.1.2.1, ()), ()))).bind fun y1 => bif (!y1.1.1) then some ((false, ()), ()) else (F68 ((x0.1.2.2.1, ()), ((x0.2.1.2.2.1, ()), ()))).bind fun y2 => bif (!y2.1.1) then some ((false, ()), ()) else some ((true, ()), ())
noncomputable def c65 : Con := ⟨i65, o65, F65⟩
noncomputable def C65 : Ctx := ⟨22, TT, EE, fun n => (bif Nat.ble n 29 then (bif Nat.beq n 29 then some c29 else none) else (bif Nat.beq n 68 then some c68 else none)), fun n k => [], fun n => none, fun n => none⟩
theorem q65 : ∀ x, runF C65 Tryz.f65 i65 o65 x = F65 x := by intro x; kernel_rfl
def i152 : List Grp := [⟨.agg, e195, []⟩, ⟨.agg, e195, []⟩]
def o152 : List Grp := [⟨.c, (.cons .bool .nil), []⟩]
/-- laws.eqTx -/
noncomputable def F152 : (D195 × (D195 × Unit)) → Option (((Bool × Unit) × Unit)) := fun x0 => bif !iEq x0.1.1 x0.2.1.1 then some ((false, ()), ()) else bif !sEq x0.1.2.1 x0.2.1.2.1 then some ((false, ()), ()) else bif !sEq x0.1.2.2.1 x0.2.1.2.2.1 then some ((false, ()), ()) else bif !iEq x0.1.2.2.2.1 x0.2.1.2.2.2.1 then some ((false, ()), ()) else bif !iEq x0.1.2.2.2.2.1 x0.2.1.2.2.2.2.1 then some ((false, ()), ()) else some ((true, ()), ())
noncomputable def c152 : Con := ⟨i152, o152, F152⟩
noncomputable def C152 : Ctx := ⟨30, TT, EE, fun n => none, fun n k => [], fun n => none, fun n => none⟩
theorem q152 : ∀ x, runF C152 Tryz.f152 i152 o152 x = F152 x := by intro x; kernel_rfl
def i69 : List Grp := [⟨.c, (.cons (.sl e195) .nil), []⟩, ⟨.c, (.cons (.sl e195) .nil), []⟩]
def o69 : List Grp := [⟨.c, (.cons .bool .nil), []⟩]
/-- laws.eqTxS -/
noncomputable def F69.b0 (x0 : ((List D195 × Unit) × ((List D195 × Unit) × Unit))) : (v1 : (Int × Unit)) → Option (Sum (Int × Unit) (Sum (Int × Unit) (((Bool × Unit) × Unit)))) := fun v1 => bif iLt v1.1 (List.length x0.1.1 : Int) then (getI x0.1.1 v1.1).bind fun x2 => (getI x0.2.1.1 v1.1).bind fun x3 => (F152 (x2, (x3, ()))).bind fun y4 => bif (!y4.1.1) then some (.inr (.inr ((false, ()), ()))) else some (.inl (iAdd .i64 v1.1 (1:Int), ())) else some (.inr (.inl (v1.1, ())))
noncomputable def F69 : ((List D195 × Unit) × ((List D195 × Unit) × Unit)) → Option (((Bool × Unit) × Unit)) := fun x0 => bif !iEq (List.length x0.1.1 : Int) (List.length x0.2.1.1 : Int) then some ((false, ()), ()) else (loopF (F69.b0 x0) ((0:Int), ())).bind fun r6 => Sum.elim (fun v5 => some ((true, ()), ())) some r6
noncomputable def c69 : Con := ⟨i69, o69, F69⟩
noncomputable def C69 : Ctx := ⟨27, TT, EE, fun n => (bif Nat.beq n 152 then some c152 else none), fun n k => [], fun n => (bif Nat.beq n 0 then (some ⟨[(.t 5 (.int .i64) .sh)], [4, 11, 12, 13, 14, 15, 16, 17, 18, 19, 20, 21, 22, 23, 24, 25, 26], []⟩) else none), fun n => none⟩
theorem q69 : ∀ x, runF C69 Tryz.f69 i69 o69 x = F69 x := by intro x; kernel_rfl
def i148 : List Grp := [⟨.agg, e138, []⟩, ⟨.agg, e138, []⟩]
def o148 : List Grp := [⟨.c, (.cons .bool .nil), []⟩]
/-- laws.eqBlock -/
noncomputable def F148 : (D138 × (D138 × Unit)) → Option (((Bool × Unit) × Unit)) := fun x0 => bif !iEq x0.1.1 x0.2.1.1 then some ((false, ()), ()) else bif !iEq x0.1.2.1 x0.2.1.2.1 then some ((false, ()), ()) else bif !iEq x0.1.2.2.1 x0.2.1.2.2.1 then some ((false, ()), ()) else bif !sEq x0.1.2.2.2.1 x0.2.1.2.2.2.1 then some ((false, ()), ()) else (F63 ((x0.1.2.2.2.2.1, (x0.1.2.2.2.2.2.1, (x0.1.2.2.2.2.2.2.1, ()))), ((x0.2.1.2.2.2.2.1, (x0.2.1.2.2.2.2.2.1, (x0.2.1.2.2.2.2.2.2.1, ()))), ()))).bind fun y1 => bif (!y1.1.1) then some ((false, ()), ()) else (F65 ((x0.1.2.2.2.2.2.2.2.1, (x0.1.2.2.2.2.2.2.2.2.1, (x0.1.2.2.2.2.2.2.2.2.2.1, ()))), ((x0.2.1.2.2.2.2.2.2.2.1, (x0.2.1.2.2.2.2.2.2.2.2.1, (x0.2.1.2.2.2.2.2.2.2.2.2.1, ()))), ()))).bind fun y2 => bif (!y2.1.1) then some ((false, ()), ()) else (F69 ((x0.1.2.2.2.2.2.2.2.2.2.2.1, ()), ((x0.2.1.2.2.2.2.2.2.2.2.2.2.1, ()), ()))).bind fun y3 => bif (!y3.1.1) then some ((false, ()), ()) else bif !bEq x0.1.2.2.2.2.2.2.2.2.2.2.2.1 x0.2.1.2.2.2.2.2.2.2.2.2.2.2.1 then some ((false, ()), ()) else (F64 ((x0.1.2.2.2.2.2.2.2.2.2.2.2.2.1, ()), ((x0.2.1.2.2.2.2.2.2.2.2.2.2.2.2.1, ()), ()))).bind fun y4 => bif (!y4.1.1) then some ((false, ()), ()) else bif !sEq x0.1.2.2.2.2.2.2.2.2.2.2.2.2.2.1 x0.2.1.2.2.2.2.2.2.2.2.2.2.2.2.2.1 then some ((false, ()), ()) else some ((true, ()), ())
noncomputable def c148 : Con := ⟨i148, o148, F148⟩
noncomputable def C148 : Ctx := ⟨59, TT, EE, fun n => (bif Nat.ble n 64 then (bif Nat.ble n 63 then (bif Nat.beq n 63 then some c63 else none) else (bif Nat.beq n 64 then some c64 else none)) else (bif Nat.ble n 65 then (bif Nat.beq n 65 then some c65 else none) else (bif Nat.beq n 69 then some c69 else none))), fun n k => [], fun n => none, fun n => none⟩
theorem q148 : ∀ x, runF C148 Tryz.f148 i148 o148 x = F148 x := by intro x; kernel_rfl
def i62 : List Grp := [⟨.c, (.cons (.sl e138) .nil), []⟩, ⟨.c, (.cons (.sl e138) .nil), []⟩]
def o62 : List Grp := [⟨.c, (.cons .bool .nil), []⟩]
/-- laws.eqBlockS -/
noncomputable def F62.b0 (x0 : ((List D138 × Unit) × ((List D138 × Unit) × Unit))) : (v1 : (Int × Unit)) → Option (Sum (Int × Unit) (Sum (Int × Unit) (((Bool × Unit) × Unit)))) := fun v1 => bif iLt v1.1 (List.length x0.1.1 : Int) then (getI x0.1.1 v1.1).bind fun x2 => (getI x0.2.1.1 v1.1).bind fun x3 => (F148 (x2, (x3, ()))).bind fun y4 => bif (!y4.1.1) then some (.inr (.inr ((false, ()), ()))) else some (.inl (iAdd .i64 v1.1 (1:Int), ())) else some (.inr (.inl (v1.1, ())))
noncomputable def F62 : ((List D138 × Unit) × ((List D138 × Unit) × Unit)) → Option (((Bool × Unit) × Unit)) := fun x0 => bif !iEq (List.length x0.1.1 : Int) (List.length x0.2.1.1 : Int) then some ((false, ()), ()) else (loopF (F62.b0 x0) ((0:Int), ())).bind fun r6 => Sum.elim (fun v5 => some ((true, ()), ())) some r6
noncomputable def c62 : Con := ⟨i62, o62, F62⟩
noncomputable def C62 : Ctx := ⟨27, TT, EE, fun n => (bif Nat.beq n 148 then some c148 else none), fun n k => [], fun n => (bif Nat.beq n 0 then (some ⟨[(.t 5 (.int .i64) .sh)], [4, 11, 12, 13, 14, 15, 16, 17, 18, 19, 20, 21, 22, 23, 24, 25, 26], []⟩) else none), fun n => none⟩
theorem q62 : ∀ x, runF C62 Tryz.f62 i62 o62 x = F62 x := by intro x; kernel_rfl
def i150 : List Grp := [⟨.agg, e191, []⟩, ⟨.agg, e191, []⟩]
def o150 : List Grp := [⟨.c, (.cons .bool .nil), []⟩]
/-- laws.eqVote -/
noncomputable def F150 : (D191 × (D191 × Unit)) → Option (((Bool × Unit) × Unit)) := fun x0 => bif !iEq x0.1.1 x0.2.1.1 then some ((false, ()), ()) else bif !iEq x0.1.2.1 x0.2.1.2.1 then some ((false, ()), ()) else bif !sEq x0.1.2.2.1 x0.2.1.2.2.1 then some ((false, ()), ()) else some ((true, ()), ())
noncomputable def c150 : Con := ⟨i150, o150, F150⟩
noncomputable def C150 : Ctx := ⟨20, TT, EE, fun n => none, fun n k => [], fun n => none, fun n => none⟩
theorem q150 : ∀ x, runF C150 Tryz.f150 i150 o150 x = F150 x := by intro x; kernel_rfl
def i66 : List Grp := [⟨.c, (.cons (.sl e191) .nil), []⟩, ⟨.c, (.cons (.sl e191) .nil), []⟩]
def o66 : List Grp := [⟨.c, (.cons .bool .nil), []⟩]
/-- laws.eqVoteS -/
noncomputable def F66.b0 (x0 : ((List D191 × Unit) × ((List D191 × Unit) × Unit))) : (v1 : (Int × Unit)) → Option (Sum (Int × Unit) (Sum (Int × Unit) (((Bool × Unit) × Unit)))) := fun v1 => bif iLt v1.1 (List.length x0.1.1 : Int) then (getI x0.1.1 v1.1).bind fun x2 => (getI x0.2.1.1 v1.1).bind fun x3 => (F150 (x2, (x3, ()))).bind fun y4 => bif (!y4.1.1) then some (.inr (.inr ((false, ()), ()))) else some (.inl (iAdd .i64 v1.1 (1:Int), ())) else some (.inr (.inl (v1.1, ())))
noncomputable def F66 : ((List D191 × Unit) × ((List D191 × Unit) × Unit)) → Option (((Bool × Unit) × Unit)) := fun x0 => bif !iEq (List.length x0.1.1 : Int) (List.length x0.2.1.1 : Int) then some ((false, ()), ()) else (loopF (F66.b0 x0) ((0:Int), ())).bind fun r6 => Sum.elim (fun v5 => some ((true, ()), ())) some r6
noncomputable def c66 : Con := ⟨i66, o66, F66⟩
noncomputable def C66 : Ctx := ⟨27, TT, EE, fun n => (bif Nat.beq n 150 then some c150 else none), fun n k => [], fun n => (bif Nat.beq n 0 then (some ⟨[(.t 5 (.int .i64) .sh)], [4, 11, 12, 13, 14, 15, 16, 17, 18, 19, 20, 21, 22, 23, 24, 25, 26], []⟩) else none), fun n => none⟩
theorem q66 : ∀ x, runF C66 Tryz.f66 i66 o66 x = F66 x := by intro x; kernel_rfl
def i151 : List Grp := [⟨.agg, e191, []⟩, ⟨.agg, e191, []⟩]
def o151 : List Grp := [⟨.c, (.cons .bool .nil), []⟩]
/-- laws.eqGone -/
noncomputable def F151 : (D191 × (D191 × Unit)) → Option (((Bool × Unit) × Unit)) := fun x0 => bif !iEq x0.1.1 x0.2.1.1 then some ((false, ()), ()) else bif !iEq x0.1.2.1 x0.2.1.2.1 then some ((false, ()), ()) else bif !sEq x0.1.2.2.1 x0.2.1.2.2.1 then some ((false, ()), ()) else some ((true, ()), ())
noncomputable def c151 : Con := ⟨i151, o151, F151⟩
noncomputable def C151 : Ctx := ⟨20, TT, EE, fun n => none, fun n k => [], fun n => none, fun n => none⟩
theorem q151 : ∀ x, runF C151 Tryz.f151 i151 o151 x = F151 x := by intro x; kernel_rfl
def i67 : List Grp := [⟨.c, (.cons (.sl e193) .nil), []⟩, ⟨.c, (.cons (.sl e193) .nil), []⟩]
def o67 : List Grp := [⟨.c, (.cons .bool .nil), []⟩]
/-- laws.eqGoneS -/
noncomputable def F67.b0 (x0 : ((List D193 × Unit) × ((List D193 × Unit) × Unit))) : (v1 : (Int × Unit)) → Option (Sum (Int × Unit) (Sum (Int × Unit) (((Bool × Unit) × Unit)))) := fun v1 => bif iLt v1.1 (List.length x0.1.1 : Int) then (getI x0.1.1 v1.1).bind fun x2 => (getI x0.2.1.1 v1.1).bind fun x3 => (F151 (x2, (x3, ()))).bind fun y4 => bif (!y4.1.1) then some (.inr (.inr ((false, ()), ()))) else some (.inl (iAdd .i64 v1.1 (1:Int), ())) else some (.inr (.inl (v1.1, ())))
noncomputable def F67 : ((List D193 × Unit) × ((List D193 × Unit) × Unit)) → Option (((Bool × Unit) × Unit)) := fun x0 => bif !iEq (List.length x0.1.1 : Int) (List.length x0.2.1.1 : Int) then some ((false, ()), ()) else (loopF (F67.b0 x0) ((0:Int), ())).bind fun r6 => Sum.elim (fun v5 => some ((true, ()), ())) some r6
noncomputable def c67 : Con := ⟨i67, o67, F67⟩
noncomputable def C67 : Ctx := ⟨27, TT, EE, fun n => (bif Nat.beq n 151 then some c151 else none), fun n k => [], fun n => (bif Nat.beq n 0 then (some ⟨[(.t 5 (.int .i64) .sh)], [4, 11, 12, 13, 14, 15, 16, 17, 18, 19, 20, 21, 22, 23, 24, 25, 26], []⟩) else none), fun n => none⟩
theorem q67 : ∀ x, runF C67 Tryz.f67 i67 o67 x = F67 x := by intro x; kernel_rfl
def i12 : List Grp := [⟨.agg, e43, []⟩, ⟨.agg, e43, []⟩]
def o12 : List Grp := [⟨.c, (.cons .bool .nil), []⟩]
/-- laws.eqProof -/
noncomputable def F12 : (D43 × (D43 × Unit)) → Option (((Bool × Unit) × Unit)) := fun x0 => bif !iEq x0.1.1 x0.2.1.1 then some ((false, ()), ()) else (F62 ((x0.1.2.1, ()), ((x0.2.1.2.1, ()), ()))).bind fun y1 => bif (!y1.1.1) then some ((false, ()), ()) else (F63 ((x0.1.2.2.1, (x0.1.2.2.2.1, (x0.1.2.2.2.2.1, ()))), ((x0.2.1.2.2.1, (x0.2.1.2.2.2.1, (x0.2.1.2.2.2.2.1, ()))), ()))).bind fun y2 => bif (!y2.1.1) then some ((false, ()), ()) else some ((true, ()), ())
noncomputable def c12 : Con := ⟨i12, o12, F12⟩
noncomputable def C12 : Ctx := ⟨22, TT, EE, fun n => (bif Nat.ble n 62 then (bif Nat.beq n 62 then some c62 else none) else (bif Nat.beq n 63 then some c63 else none)), fun n k => [], fun n => none, fun n => none⟩
theorem q12 : ∀ x, runF C12 Tryz.f12 i12 o12 x = F12 x := by intro x; kernel_rfl
def i70 : List Grp := [⟨.c, (.cons (.sl e43) .nil), []⟩, ⟨.c, (.cons (.sl e43) .nil), []⟩]
def o70 : List Grp := [⟨.c, (.cons .bool .nil), []⟩]
/-- laws.eqProofS -/
noncomputable def F70.b0 (x0 : ((List D43 × Unit) × ((List D43 × Unit) × Unit))) : (v1 : (Int × Unit)) → Option (Sum (Int × Unit) (Sum (Int × Unit) (((Bool × Unit) × Unit)))) := fun v1 => bif iLt v1.1 (List.length x0.1.1 : Int) then (getI x0.1.1 v1.1).bind fun x2 => (getI x0.2.1.1 v1.1).bind fun x3 => (F12 (x2, (x3, ()))).bind fun y4 => bif (!y4.1.1) then some (.inr (.inr ((false, ()), ()))) else some (.inl (iAdd .i64 v1.1 (1:Int), ())) else some (.inr (.inl (v1.1, ())))
noncomputable def F70 : ((List D43 × Unit) × ((List D43 × Unit) × Unit)) → Option (((Bool × Unit) × Unit)) := fun x0 => bif !iEq (List.length x0.1.1 : Int) (List.length x0.2.1.1 : Int) then some ((false, ()), ()) else (loopF (F70.b0 x0) ((0:Int), ())).bind fun r6 => Sum.elim (fun v5 => some ((true, ()), ())) some r6
noncomputable def c70 : Con := ⟨i70, o70, F70⟩
noncomputable def C70 : Ctx := ⟨27, TT, EE, fun n => (bif Nat.beq n 12 then some c12 else none), fun n k => [], fun n => (bif Nat.beq n 0 then (some ⟨[(.t 5 (.int .i64) .sh)], [4, 11, 12, 13, 14, 15, 16, 17, 18, 19, 20, 21, 22, 23, 24, 25, 26], []⟩) else none), fun n => none⟩
theorem q70 : ∀ x, runF C70 Tryz.f70 i70 o70 x = F70 x := by intro x; kernel_rfl
def i13 : List Grp := [⟨.agg, e56, []⟩, ⟨.agg, e56, []⟩]
def o13 : List Grp := [⟨.c, (.cons .bool .nil), []⟩]
/-- laws.eqNode -/
noncomputable def F13 : (D56 × (D56 × Unit)) → Option (((Bool × Unit) × Unit)) := fun x0 => bif !sEq x0.1.1 x0.2.1.1 then some ((false, ()), ()) else bif !iEq x0.1.2.1 x0.2.1.2.1 then some ((false, ()), ()) else (F28 ((x0.1.2.2.1, (x0.1.2.2.2.1, ())), ((x0.2.1.2.2.1, (x0.2.1.2.2.2.1, ())), ()))).bind fun y1 => bif (!y1.1.1) then some ((false, ()), ()) else (F64 ((x0.1.2.2.2.2.1, ()), ((x0.2.1.2.2.2.2.1, ()), ()))).bind fun y2 => bif (!y2.1.1) then some ((false, ()), ()) else (F62 ((x0.1.2.2.2.2.2.1, ()), ((x0.2.1.2.2.2.2.2.1, ()), ()))).bind fun y3 => bif (!y3.1.1) then some ((false, ()), ()) else bif !iEq x0.1.2.2.2.2.2.2.1 x0.2.1.2.2.2.2.2.2.1 then some ((false, ()), ()) else bif !iEq x0.1.2.2.2.2.2.2.2.1 x0.2.1.2.2.2.2.2.2.2.1 then some ((false, ()), ()) else (F63 ((x0.1.2.2.2.2.2.2.2.2.1, (x0.1.2.2.2.2.2.2.2.2.2.1, (x0.1.2.2.2.2.2.2.2.2.2.2.1, ()))), ((x0.2.1.2.2.2.2.2.2.2.2.1, (x0.2.1.2.2.2.2.2.2.2.2.2.1, (x0.2.1.2.2.2.2.2.2.2.2.2.2.1, ()))), ()))).bind fun y4 => bif (!y4.1.1) then some ((false, ()), ()) else (F65 ((x0.1.2.2.2.2.2.2.2.2.2.2.2.1, (x0.1.2.2.2.2.2.2.2.2.2.2.2.2.1, (x0.1.2.2.2.2.2.2.2.2.2.2.2.2.2.1, ()))), ((x0.2.1.2.2.2.2.2.2.2.2.2.2.2.1, (x0.2.1.2.2.2.2.2.2.2.2.2.2.2.2.1, (x0.2.1.2.2.2.2.2.2.2.2.2.2.2.2.2.1, ()))), ()))).bind fun y5 => bif (!y5.1.1) then some ((false, ()), ()) else bif !iEq x0.1.2.2.2.2.2.2.2.2.2.2.2.2.2.2.1 x0.2.1.2.2.2.2.2.2.2.2.2.2.2.2.2.2.1 then some ((false, ()), ()) else (F66 ((x0.1.2.2.2.2.2.2.2.2.2.2.2.2.2.2.2.1, ()), ((x0.2.1.2.2.2.2.2.2.2.2.2.2.2.2.2.2.2.1, ()), ()))).bind fun y6 => bif (!y6.1.1) then some ((false, ()), ()) else (F67 ((x0.1.2.2.2.2.2.2.2.2.2.2.2.2.2.2.2.2.1, ()), ((x0.2.1.2.2.2.2.2.2.2.2.2.2.2.2.2.2.2.2.1, ()), ()))).bind fun y7 => bif (!y7.1.1) then some ((false, ()), ()) else (F68 ((x0.1.2.2.2.2.2.2.2.2.2.2.2.2.2.2.2.2.2.1, ()), ((x0.2.1.2.2.2.2.2.2.2.2.2.2.2.2.2.2.2.2.2.1, ()), ()))).bind fun y8 => bif (!y8.1.1) then some ((false, ()), ()) else (F69 ((x0.1.2.2.2.2.2.2.2.2.2.2.2.2.2.2.2.2.2.2.1, ()), ((x0.2.1.2.2.2.2.2.2.2.2.2.2.2.2.2.2.2.2.2.2.1, ()), ()))).bind fun y9 => bif (!y9.1.1) then some ((false, ()), ()) else (F70 ((x0.1.2.2.2.2.2.2.2.2.2.2.2.2.2.2.2.2.2.2.2.1, ()), ((x0.2.1.2.2.2.2.2.2.2.2.2.2.2.2.2.2.2.2.2.2.2.1, ()), ()))).bind fun y10 => bif (!y10.1.1) then some ((false, ()), ()) else some ((true, ()), ())
noncomputable def c13 : Con := ⟨i13, o13, F13⟩
noncomputable def C13 : Ctx := ⟨90, TT, EE, fun n => (bif Nat.ble n 65 then (bif Nat.ble n 62 then (bif Nat.ble n 28 then (bif Nat.beq n 28 then some c28 else none) else (bif Nat.beq n 62 then some c62 else none)) else (bif Nat.ble n 63 then (bif Nat.beq n 63 then some c63 else none) else (bif Nat.ble n 64 then (bif Nat.beq n 64 then some c64 else none) else (bif Nat.beq n 65 then some c65 else none)))) else (bif Nat.ble n 67 then (bif Nat.ble n 66 then (bif Nat.beq n 66 then some c66 else none) else (bif Nat.beq n 67 then some c67 else none)) else (bif Nat.ble n 68 then (bif Nat.beq n 68 then some c68 else none) else (bif Nat.ble n 69 then (bif Nat.beq n 69 then some c69 else none) else (bif Nat.beq n 70 then some c70 else none))))), fun n k => [], fun n => none, fun n => none⟩
theorem q13 : ∀ x, runF C13 Tryz.f13 i13 o13 x = F13 x := by intro x; kernel_rfl
def i92 : List Grp := [⟨.c, (.cons (.sl e56) .nil), []⟩, ⟨.c, (.cons (.sl e56) .nil), []⟩]
def o92 : List Grp := [⟨.c, (.cons .bool .nil), []⟩]
/-- laws.eqNodeS -/
noncomputable def F92.b0 (x0 : ((List D56 × Unit) × ((List D56 × Unit) × Unit))) : (v1 : (Int × Unit)) → Option (Sum (Int × Unit) (Sum (Int × Unit) (((Bool × Unit) × Unit)))) := fun v1 => bif iLt v1.1 (List.length x0.1.1 : Int) then (getI x0.1.1 v1.1).bind fun x2 => (getI x0.2.1.1 v1.1).bind fun x3 => (F13 (x2, (x3, ()))).bind fun y4 => bif (!y4.1.1) then some (.inr (.inr ((false, ()), ()))) else some (.inl (iAdd .i64 v1.1 (1:Int), ())) else some (.inr (.inl (v1.1, ())))
noncomputable def F92 : ((List D56 × Unit) × ((List D56 × Unit) × Unit)) → Option (((Bool × Unit) × Unit)) := fun x0 => bif !iEq (List.length x0.1.1 : Int) (List.length x0.2.1.1 : Int) then some ((false, ()), ()) else (loopF (F92.b0 x0) ((0:Int), ())).bind fun r6 => Sum.elim (fun v5 => some ((true, ()), ())) some r6
noncomputable def c92 : Con := ⟨i92, o92, F92⟩
noncomputable def C92 : Ctx := ⟨27, TT, EE, fun n => (bif Nat.beq n 13 then some c13 else none), fun n k => [], fun n => (bif Nat.beq n 0 then (some ⟨[(.t 5 (.int .i64) .sh)], [4, 11, 12, 13, 14, 15, 16, 17, 18, 19, 20, 21, 22, 23, 24, 25, 26], []⟩) else none), fun n => none⟩
theorem q92 : ∀ x, runF C92 Tryz.f92 i92 o92 x = F92 x := by intro x; kernel_rfl
def i164 : List Grp := [⟨.agg, e214, []⟩, ⟨.agg, e214, []⟩]
def o164 : List Grp := [⟨.c, (.cons .bool .nil), []⟩]
/-- laws.eqSig -/
noncomputable def F164 : (D214 × (D214 × Unit)) → Option (((Bool × Unit) × Unit)) := fun x0 => bif !iEq x0.1.1 x0.2.1.1 then some ((false, ()), ()) else bif !iEq x0.1.2.1 x0.2.1.2.1 then some ((false, ()), ()) else bif !iEq x0.1.2.2.1 x0.2.1.2.2.1 then some ((false, ()), ()) else bif !iEq x0.1.2.2.2.1 x0.2.1.2.2.2.1 then some ((false, ()), ()) else bif !sEq x0.1.2.2.2.2.1 x0.2.1.2.2.2.2.1 then some ((false, ()), ()) else some ((true, ()), ())
noncomputable def c164 : Con := ⟨i164, o164, F164⟩
noncomputable def C164 : Ctx := ⟨30, TT, EE, fun n => none, fun n k => [], fun n => none, fun n => none⟩
theorem q164 : ∀ x, runF C164 Tryz.f164 i164 o164 x = F164 x := by intro x; kernel_rfl
def i93 : List Grp := [⟨.c, (.cons (.sl e214) .nil), []⟩, ⟨.c, (.cons (.sl e214) .nil), []⟩]
def o93 : List Grp := [⟨.c, (.cons .bool .nil), []⟩]
/-- laws.eqSigS -/
noncomputable def F93.b0 (x0 : ((List D214 × Unit) × ((List D214 × Unit) × Unit))) : (v1 : (Int × Unit)) → Option (Sum (Int × Unit) (Sum (Int × Unit) (((Bool × Unit) × Unit)))) := fun v1 => bif iLt v1.1 (List.length x0.1.1 : Int) then (getI x0.1.1 v1.1).bind fun x2 => (getI x0.2.1.1 v1.1).bind fun x3 => (F164 (x2, (x3, ()))).bind fun y4 => bif (!y4.1.1) then some (.inr (.inr ((false, ()), ()))) else some (.inl (iAdd .i64 v1.1 (1:Int), ())) else some (.inr (.inl (v1.1, ())))
noncomputable def F93 : ((List D214 × Unit) × ((List D214 × Unit) × Unit)) → Option (((Bool × Unit) × Unit)) := fun x0 => bif !iEq (List.length x0.1.1 : Int) (List.length x0.2.1.1 : Int) then some ((false, ()), ()) else (loopF (F93.b0 x0) ((0:Int), ())).bind fun r6 => Sum.elim (fun v5 => some ((true, ()), ())) some r6
noncomputable def c93 : Con := ⟨i93, o93, F93⟩
noncomputable def C93 : Ctx := ⟨27, TT, EE, fun n => (bif Nat.beq n 164 then some c164 else none), fun n k => [], fun n => (bif Nat.beq n 0 then (some ⟨[(.t 5 (.int .i64) .sh)], [4, 11, 12, 13, 14, 15, 16, 17, 18, 19, 20, 21, 22, 23, 24, 25, 26], []⟩) else none), fun n => none⟩
theorem q93 : ∀ x, runF C93 Tryz.f93 i93 o93 x = F93 x := by intro x; kernel_rfl
def i165 : List Grp := [⟨.agg, e217, []⟩, ⟨.agg, e217, []⟩]
def o165 : List Grp := [⟨.c, (.cons .bool .nil), []⟩]
/-- laws.eqMsg -/
noncomputable def F165 : (D217 × (D217 × Unit)) → Option (((Bool × Unit) × Unit)) := fun x0 => bif !iEq x0.1.1 x0.2.1.1 then some ((false, ()), ()) else bif !sEq x0.1.2.1 x0.2.1.2.1 then some ((false, ()), ()) else bif !iEq x0.1.2.2.1 x0.2.1.2.2.1 then some ((false, ()), ()) else (F62 ((x0.1.2.2.2.1, ()), ((x0.2.1.2.2.2.1, ()), ()))).bind fun y1 => bif (!y1.1.1) then some ((false, ()), ()) else (F150 ((x0.1.2.2.2.2.1, (x0.1.2.2.2.2.2.1, (x0.1.2.2.2.2.2.2.1, ()))), ((x0.2.1.2.2.2.2.1, (x0.2.1.2.2.2.2.2.1, (x0.2.1.2.2.2.2.2.2.1, ()))), ()))).bind fun y2 => bif (!y2.1.1) then some ((false, ()), ()) else (F151 ((x0.1.2.2.2.2.2.2.2.1, (x0.1.2.2.2.2.2.2.2.2.1, (x0.1.2.2.2.2.2.2.2.2.2.1, ()))), ((x0.2.1.2.2.2.2.2.2.2.1, (x0.2.1.2.2.2.2.2.2.2.2.1, (x0.2.1.2.2.2.2.2.2.2.2.2.1, ()))), ()))).bind fun y3 => bif (!y3.1.1) then some ((false, ()), ()) else (F63 ((x0.1.2.2.2.2.2.2.2.2.2.2.1, (x0.1.2.2.2.2.2.2.2.2.2.2.2.1, (x0.1.2.2.2.2.2.2.2.2.2.2.2.2.1, ()))), ((x0.2.1.2.2.2.2.2.2.2.2.2.2.1, (x0.2.1.2.2.2.2.2.2.2.2.2.2.2.1, (x0.2.1.2.2.2.2.2.2.2.2.2.2.2.2.1, ()))), ()))).bind fun y4 => bif (!y4.1.1) then some ((false, ()), ()) else (F65 ((x0.1.2.2.2.2.2.2.2.2.2.2.2.2.2.1, (x0.1.2.2.2.2.2.2.2.2.2.2.2.2.2.2.1, (x0.1.2.2.2.2.2.2.2.2.2.2.2.2.2.2.2.1, ()))), ((x0.2.1.2.2.2.2.2.2.2.2.2.2.2.2.2.1, (x0.2.1.2.2.2.2.2.2.2.2.2.2.2.2.2.2.1, (x0.2.1.2.2.2.2.2.2.2.2.2.2.2.2.2.2.2.1, ()))), ()))).bind fun y5 => bif (!y5.1.1) then some ((false, ()), ()) else some ((true, ()), ())
noncomputable def c165 : Con := ⟨i165, o165, F165⟩
noncomputable def C165 : Ctx := ⟨50, TT, EE, fun n => (bif Nat.ble n 63 then (bif Nat.ble n 62 then (bif Nat.beq n 62 then some c62 else none) else (bif Nat.beq n 63 then some c63 else none)) else (bif Nat.ble n 65 then (bif Nat.beq n 65 then some c65 else none) else (bif Nat.ble n 150 then (bif Nat.beq n 150 then some c150 else none) else (bif Nat.beq n 151 then some c151 else none)))), fun n k => [], fun n => none, fun n => none⟩
theorem q165 : ∀ x, runF C165 Tryz.f165 i165 o165 x = F165 x := by intro x; kernel_rfl
def i94 : List Grp := [⟨.c, (.cons (.sl e217) .nil), []⟩, ⟨.c, (.cons (.sl e217) .nil), []⟩]
def o94 : List Grp := [⟨.c, (.cons .bool .nil), []⟩]
/-- laws.eqMsgS -/
noncomputable def F94.b0 (x0 : ((List D217 × Unit) × ((List D217 × Unit) × Unit))) : (v1 : (Int × Unit)) → Option (Sum (Int × Unit) (Sum (Int × Unit) (((Bool × Unit) × Unit)))) := fun v1 => bif iLt v1.1 (List.length x0.1.1 : Int) then (getI x0.1.1 v1.1).bind fun x2 => (getI x0.2.1.1 v1.1).bind fun x3 => (F165 (x2, (x3, ()))).bind fun y4 => bif (!y4.1.1) then some (.inr (.inr ((false, ()), ()))) else some (.inl (iAdd .i64 v1.1 (1:Int), ())) else some (.inr (.inl (v1.1, ())))
noncomputable def F94 : ((List D217 × Unit) × ((List D217 × Unit) × Unit)) → Option (((Bool × Unit) × Unit)) := fun x0 => bif !iEq (List.length x0.1.1 : Int) (List.length x0.2.1.1 : Int) then some ((false, ()), ()) else (loopF (F94.b0 x0) ((0:Int), ())).bind fun r6 => Sum.elim (fun v5 => some ((true, ()), ())) some r6
noncomputable def c94 : Con := ⟨i94, o94, F94⟩
noncomputable def C94 : Ctx := ⟨27, TT, EE, fun n => (bif Nat.beq n 165 then some c165 else none), fun n k => [], fun n => (bif Nat.beq n 0 then (some ⟨[(.t 5 (.int .i64) .sh)], [4, 11, 12, 13, 14, 15, 16, 17, 18, 19, 20, 21, 22, 23, 24, 25, 26], []⟩) else none), fun n => none⟩
theorem q94 : ∀ x, runF C94 Tryz.f94 i94 o94 x = F94 x := by intro x; kernel_rfl
def i21 : List Grp := [⟨.agg, e74, []⟩, ⟨.agg, e74, []⟩]
def o21 : List Grp := [⟨.c, (.cons .bool .nil), []⟩]
/-- laws.eqWorld -/
noncomputable def F21 : (D74 × (D74 × Unit)) → Option (((Bool × Unit) × Unit)) := fun x0 => (F28 ((x0.1.1, (x0.1.2.1, ())), ((x0.2.1.1, (x0.2.1.2.1, ())), ()))).bind fun y1 => bif (!y1.1.1) then some ((false, ()), ()) else (F29 ((x0.1.2.2.1, ()), ((x0.2.1.2.2.1, ()), ()))).bind fun y2 => bif (!y2.1.1) then some ((false, ()), ()) else (F92 ((x0.1.2.2.2.1, ()), ((x0.2.1.2.2.2.1, ()), ()))).bind fun y3 => bif (!y3.1.1) then some ((false, ()), ()) else (F62 ((x0.1.2.2.2.2.1, ()), ((x0.2.1.2.2.2.2.1, ()), ()))).bind fun y4 => bif (!y4.1.1) then some ((false, ()), ()) else (F93 ((x0.1.2.2.2.2.2.1, ()), ((x0.2.1.2.2.2.2.2.1, ()), ()))).bind fun y5 => bif (!y5.1.1) then some ((false, ()), ()) else (F94 ((x0.1.2.2.2.2.2.2.1, ()), ((x0.2.1.2.2.2.2.2.2.1, ()), ()))).bind fun y6 => bif (!y6.1.1) then some ((false, ()), ()) else some ((true, ()), ())
noncomputable def c21 : Con := ⟨i21, o21, F21⟩
noncomputable def C21 : Ctx := ⟨41, TT, EE, fun n => (bif Nat.ble n 62 then (bif Nat.ble n 28 then (bif Nat.beq n 28 then some c28 else none) else (bif Nat.ble n 29 then (bif Nat.beq n 29 then some c29 else none) else (bif Nat.beq n 62 then some c62 else none))) else (bif Nat.ble n 92 then (bif Nat.beq n 92 then some c92 else none) else (bif Nat.ble n 93 then (bif Nat.beq n 93 then some c93 else none) else (bif Nat.beq n 94 then some c94 else none)))), fun n k => [], fun n => none, fun n => none⟩
theorem q21 : ∀ x, runF C21 Tryz.f21 i21 o21 x = F21 x := by intro x; kernel_rfl
def i110 : List Grp := [⟨.c, (.cons (.int .i64) .nil), []⟩]
def o110 : List Grp := [⟨.c, (.cons .str .nil), []⟩]
/-- laws.markText -/
noncomputable def F110.b0 : (v1 : (Int × (ByteArray × Unit))) → Option (Sum (Int × (ByteArray × Unit)) (Sum (Int × (ByteArray × Unit)) (((ByteArray × Unit) × Unit)))) := fun v1 => bif iLt (0:Int) v1.1 then bif iEq (10:Int) 0 then none else bif sRoom (bytesStr ([(IntKind.wrap .u8 (iAdd .i64 (48:Int) (iRem v1.1 (10:Int))), ())] : List (D5))) v1.2.1 then bif iEq (10:Int) 0 then none else some (.inl (iQuo .i64 v1.1 (10:Int), (sApp (bytesStr ([(IntKind.wrap .u8 (iAdd .i64 (48:Int) (iRem v1.1 (10:Int))), ())] : List (D5))) v1.2.1, ()))) else none else some (.inr (.inl (v1.1, (v1.2.1, ()))))
noncomputable def F110 : ((Int × Unit) × Unit) → Option (((ByteArray × Unit) × Unit)) := fun x0 => bif iLe x0.1.1 (0:Int) then some ((⟨#[109, 48]⟩, ()), ()) else (loopF F110.b0 (x0.1.1, (⟨#[]⟩, ()))).bind fun r3 => Sum.elim (fun v2 => bif sRoom ⟨#[109]⟩ v2.2.1 then some ((sApp ⟨#[109]⟩ v2.2.1, ()), ()) else none) some r3
noncomputable def c110 : Con := ⟨i110, o110, F110⟩
noncomputable def C110 : Ctx := ⟨20, TT, EE, fun n => none, fun n k => [], fun n => (bif Nat.beq n 0 then (some ⟨[(.t 0 (.int .i64) .sh), (.t 3 .str .sh)], [6, 7, 8, 9, 10, 11, 12, 13, 14, 15, 16, 17], []⟩) else none), fun n => none⟩
theorem q110 : ∀ x, runF C110 Tryz.f110 i110 o110 x = F110 x := by intro x; kernel_rfl
def i179 : List Grp := [⟨.wc, (.cons (.sl e248) .nil), [(.own [])]⟩, ⟨.c, (.cons (.int .i64) .nil), []⟩]
def o179 : List Grp := [⟨.c, (.cons (.int .i64) .nil), []⟩, ⟨.wc, (.cons (.sl e248) .nil), [(.own [])]⟩]
/-- laws.markLeaveS -/
noncomputable def F179 : ((List D248 × Unit) × ((Int × Unit) × Unit)) → Option (((Int × Unit) × ((List D248 × Unit) × Unit))) := markSl e248 F110 ((), ((), ()))
noncomputable def c179 : Con := ⟨i179, o179, F179⟩
noncomputable def C179 : Ctx := ⟨27, TT, EE, fun n => none, fun n k => [], fun n => (bif Nat.beq n 0 then (some ⟨[(.t 1 (.int .i64) .sh), (.t 5 (.int .i64) .sh), (.r 1 e248 [])], [6, 7, 8, 9, 10, 11, 12, 13, 14, 15, 16, 17, 18, 19, 20, 21, 22, 23, 24, 25], []⟩) else none), fun n => none⟩
theorem q179 : ∀ x, runF C179 Tryz.f179 i179 o179 x = F179 x := by intro x; kernel_rfl
def i109 : List Grp := [⟨.wc, (.cons (.sl e153) .nil), [(.own [.sh, .sh, .sh, .sh, (.own [])])]⟩, ⟨.c, (.cons (.int .i64) .nil), []⟩]
def o109 : List Grp := [⟨.c, (.cons (.int .i64) .nil), []⟩, ⟨.wc, (.cons (.sl e153) .nil), [(.own [.sh, .sh, .sh, .sh, (.own [])])]⟩]
/-- laws.markAcctS -/
noncomputable def F109 : ((List D153 × Unit) × ((Int × Unit) × Unit)) → Option (((Int × Unit) × ((List D153 × Unit) × Unit))) := markSl e153 F110 ((), ((), ((), ((), (F179, ())))))
noncomputable def c109 : Con := ⟨i109, o109, F109⟩
noncomputable def C109 : Ctx := ⟨49, TT, EE, fun n => (bif Nat.ble n 110 then (bif Nat.beq n 110 then some c110 else none) else (bif Nat.beq n 179 then some c179 else none)), fun n k => [], fun n => (bif Nat.beq n 0 then (some ⟨[(.t 1 (.int .i64) .sh), (.t 5 (.int .i64) .sh), (.r 1 e153 [.sh, .sh, .sh, .sh, (.own [])])], [6, 7, 8, 9, 10, 11, 12, 13, 14, 15, 16, 17, 18, 19, 20, 21, 22, 23, 24, 25, 26, 27, 28, 29, 30, 31, 32, 33, 34, 35, 36, 37, 38, 39, 40, 41, 42, 43, 44, 45, 46, 47], []⟩) else none), fun n => none⟩
theorem q109 : ∀ x, runF C109 Tryz.f109 i109 o109 x = F109 x := by intro x; kernel_rfl
def i30 : List Grp := [⟨.wa, e48, [.sh, (.own [.sh, .sh, .sh, .sh, (.own [])])]⟩, ⟨.c, (.cons (.int .i64) .nil), []⟩]
def o30 : List Grp := [⟨.c, (.cons (.int .i64) .nil), []⟩, ⟨.wa, e48, [.sh, (.own [.sh, .sh, .sh, .sh, (.own [])])]⟩]
/-- laws.markLedger -/
noncomputable def F30 : (D48 × ((Int × Unit) × Unit)) → Option (((Int × Unit) × (D48 × Unit))) := fun x0 => (F109 ((x0.1.2.1, ()), (x0.2.1, ()))).bind fun y1 => some (y1.1, ((x0.1.1, (y1.2.1.1, ())), ()))
noncomputable def c30 : Con := ⟨i30, o30, F30⟩
noncomputable def C30 : Ctx := ⟨10, TT, EE, fun n => (bif Nat.beq n 109 then some c109 else none), fun n k => [], fun n => none, fun n => none⟩
theorem q30 : ∀ x, runF C30 Tryz.f30 i30 o30 x = F30 x := by intro x; kernel_rfl
def i31 : List Grp := [⟨.wc, (.cons (.sl e9) .nil), [(.own [])]⟩, ⟨.c, (.cons (.int .i64) .nil), []⟩]
def o31 : List Grp := [⟨.c, (.cons (.int .i64) .nil), []⟩, ⟨.wc, (.cons (.sl e9) .nil), [(.own [])]⟩]
/-- laws.markStringS -/
noncomputable def F31 : ((List D9 × Unit) × ((Int × Unit) × Unit)) → Option (((Int × Unit) × ((List D9 × Unit) × Unit))) := markSl e9 F110 ((), ())
noncomputable def c31 : Con := ⟨i31, o31, F31⟩
noncomputable def C31 : Ctx := ⟨20, TT, EE, fun n => (bif Nat.beq n 110 then some c110 else none), fun n k => [], fun n => (bif Nat.beq n 0 then (some ⟨[(.t 1 (.int .i64) .sh), (.t 5 (.int .i64) .sh), (.r 1 e9 [])], [6, 7, 8, 9, 10, 11, 12, 13, 14, 15, 16, 17, 18], []⟩) else none), fun n => none⟩
theorem q31 : ∀ x, runF C31 Tryz.f31 i31 o31 x = F31 x := by intro x; kernel_rfl
def i71 : List Grp := [⟨.wc, (.cons (.sl e188) .nil), [(.own [])]⟩, ⟨.c, (.cons (.int .i64) .nil), []⟩]
def o71 : List Grp := [⟨.c, (.cons (.int .i64) .nil), []⟩, ⟨.wc, (.cons (.sl e188) .nil), [(.own [])]⟩]
/-- laws.markValS -/
noncomputable def F71 : ((List D188 × Unit) × ((Int × Unit) × Unit)) → Option (((Int × Unit) × ((List D188 × Unit) × Unit))) := markSl e188 F110 ((), ((), ()))
noncomputable def c71 : Con := ⟨i71, o71, F71⟩
noncomputable def C71 : Ctx := ⟨28, TT, EE, fun n => (bif Nat.beq n 110 then some c110 else none), fun n k => [], fun n => (bif Nat.beq n 0 then (some ⟨[(.t 1 (.int .i64) .sh), (.t 5 (.int .i64) .sh), (.r 1 e188 [])], [6, 7, 8, 9, 10, 11, 12, 13, 14, 15, 16, 17, 18, 19, 20, 21, 22, 23, 24, 25, 26], []⟩) else none), fun n => none⟩
theorem q71 : ∀ x, runF C71 Tryz.f71 i71 o71 x = F71 x := by intro x; kernel_rfl
def i77 : List Grp := [⟨.wc, (.cons (.sl e3) .nil), [(.own [])]⟩, ⟨.c, (.cons (.int .i64) .nil), []⟩]
def o77 : List Grp := [⟨.c, (.cons (.int .i64) .nil), []⟩, ⟨.wc, (.cons (.sl e3) .nil), [(.own [])]⟩]
/-- laws.markIntS -/
noncomputable def F77 : ((List D3 × Unit) × ((Int × Unit) × Unit)) → Option (((Int × Unit) × ((List D3 × Unit) × Unit))) := markSl e3 F110 ((), ())
noncomputable def c77 : Con := ⟨i77, o77, F77⟩
noncomputable def C77 : Ctx := ⟨19, TT, EE, fun n => none, fun n k => [], fun n => (bif Nat.beq n 0 then (some ⟨[(.t 1 (.int .i64) .sh), (.t 5 (.int .i64) .sh), (.r 1 e3 [])], [6, 7, 8, 9, 10, 11, 12, 13, 14, 15, 16, 17], []⟩) else none), fun n => none⟩
theorem q77 : ∀ x, runF C77 Tryz.f77 i77 o77 x = F77 x := by intro x; kernel_rfl
def i78 : List Grp := [⟨.wc, (.cons (.sl e195) .nil), [(.own [])]⟩, ⟨.c, (.cons (.int .i64) .nil), []⟩]
def o78 : List Grp := [⟨.c, (.cons (.int .i64) .nil), []⟩, ⟨.wc, (.cons (.sl e195) .nil), [(.own [])]⟩]
/-- laws.markTxS -/
noncomputable def F78 : ((List D195 × Unit) × ((Int × Unit) × Unit)) → Option (((Int × Unit) × ((List D195 × Unit) × Unit))) := markSl e195 F110 ((), ((), ((), ((), ((), ())))))
noncomputable def c78 : Con := ⟨i78, o78, F78⟩
noncomputable def C78 : Ctx := ⟨50, TT, EE, fun n => (bif Nat.beq n 110 then some c110 else none), fun n k => [], fun n => (bif Nat.beq n 0 then (some ⟨[(.t 1 (.int .i64) .sh), (.t 5 (.int .i64) .sh), (.r 1 e195 [])], [6, 7, 8, 9, 10, 11, 12, 13, 14, 15, 16, 17, 18, 19, 20, 21, 22, 23, 24, 25, 26, 27, 28, 29, 30, 31, 32, 33, 34, 35, 36, 37, 38, 39, 40, 41, 42, 43, 44, 45, 46, 47, 48], []⟩) else none), fun n => none⟩
theorem q78 : ∀ x, runF C78 Tryz.f78 i78 o78 x = F78 x := by intro x; kernel_rfl
def i72 : List Grp := [⟨.wc, (.cons (.sl e138) .nil), [(.own [.sh, .sh, .sh, .sh, .sh, .sh, (.own []), .sh, (.own []), (.own []), (.own []), .sh, (.own [])])]⟩, ⟨.c, (.cons (.int .i64) .nil), []⟩]
def o72 : List Grp := [⟨.c, (.cons (.int .i64) .nil), []⟩, ⟨.wc, (.cons (.sl e138) .nil), [(.own [.sh, .sh, .sh, .sh, .sh, .sh, (.own []), .sh, (.own []), (.own []), (.own []), .sh, (.own [])])]⟩]
/-- laws.markBlockS -/
noncomputable def F72 : ((List D138 × Unit) × ((Int × Unit) × Unit)) → Option (((Int × Unit) × ((List D138 × Unit) × Unit))) := markSl e138 F110 ((), ((), ((), ((), ((), ((), (F31, ((), (F31, (F77, (F78, ((), (F71, ((), ()))))))))))))))
noncomputable def c72 : Con := ⟨i72, o72, F72⟩
noncomputable def C72 : Ctx := ⟨121, TT, EE, fun n => (bif Nat.ble n 71 then (bif Nat.ble n 31 then (bif Nat.beq n 31 then some c31 else none) else (bif Nat.beq n 71 then some c71 else none)) else (bif Nat.ble n 77 then (bif Nat.beq n 77 then some c77 else none) else (bif Nat.ble n 78 then (bif Nat.beq n 78 then some c78 else none) else (bif Nat.beq n 110 then some c110 else none)))), fun n k => [], fun n => (bif Nat.beq n 0 then (some ⟨[(.t 1 (.int .i64) .sh), (.t 5 (.int .i64) .sh), (.r 1 e138 [.sh, .sh, .sh, .sh, .sh, .sh, (.own []), .sh, (.own []), (.own []), (.own []), .sh, (.own [])])], [6, 7, 8, 9, 10, 11, 12, 13, 14, 15, 16, 17, 18, 19, 20, 21, 22, 23, 24, 25, 26, 27, 28, 29, 30, 31, 32, 33, 34, 35, 36, 37, 38, 39, 40, 41, 42, 43, 44, 45, 46, 47, 48, 49, 50, 51, 52, 53, 54, 55, 56, 57, 58, 59, 60, 61, 62, 63, 64, 65, 66, 67, 68, 69, 70, 71, 72, 73, 74, 75, 76, 77, 78, 79, 80, 81, 82, 83, 84, 85, 86, 87, 88, 89, 90, 91, 92, 93, 94, 95, 96, 97, 98, 99, 100, 101, 102, 103, 104, 105, 106, 107, 108, 109, 110, 111, 112, 113, 114, 115, 116, 117, 118, 119], []⟩) else none), fun n => none⟩
theorem q72 : ∀ x, runF C72 Tryz.f72 i72 o72 x = F72 x := by intro x; kernel_rfl
def i75 : List Grp := [⟨.wc, (.cons (.sl e191) .nil), [(.own [])]⟩, ⟨.c, (.cons (.int .i64) .nil), []⟩]
def o75 : List Grp := [⟨.c, (.cons (.int .i64) .nil), []⟩, ⟨.wc, (.cons (.sl e191) .nil), [(.own [])]⟩]
/-- laws.markVoteS -/
noncomputable def F75 : ((List D191 × Unit) × ((Int × Unit) × Unit)) → Option (((Int × Unit) × ((List D191 × Unit) × Unit))) := markSl e191 F110 ((), ((), ((), ())))
noncomputable def c75 : Con := ⟨i75, o75, F75⟩
noncomputable def C75 : Ctx := ⟨35, TT, EE, fun n => (bif Nat.beq n 110 then some c110 else none), fun n k => [], fun n => (bif Nat.beq n 0 then (some ⟨[(.t 1 (.int .i64) .sh), (.t 5 (.int .i64) .sh), (.r 1 e191 [])], [6, 7, 8, 9, 10, 11, 12, 13, 14, 15, 16, 17, 18, 19, 20, 21, 22, 23, 24, 25, 26, 27, 28, 29, 30, 31, 32, 33], []⟩) else none), fun n => none⟩
theorem q75 : ∀ x, runF C75 Tryz.f75 i75 o75 x = F75 x := by intro x; kernel_rfl
def i76 : List Grp := [⟨.wc, (.cons (.sl e193) .nil), [(.own [])]⟩, ⟨.c, (.cons (.int .i64) .nil), []⟩]
def o76 : List Grp := [⟨.c, (.cons (.int .i64) .nil), []⟩, ⟨.wc, (.cons (.sl e193) .nil), [(.own [])]⟩]
/-- laws.markGoneS -/
noncomputable def F76 : ((List D193 × Unit) × ((Int × Unit) × Unit)) → Option (((Int × Unit) × ((List D193 × Unit) × Unit))) := markSl e193 F110 ((), ((), ((), ())))
noncomputable def c76 : Con := ⟨i76, o76, F76⟩
noncomputable def C76 : Ctx := ⟨35, TT, EE, fun n => (bif Nat.beq n 110 then some c110 else none), fun n k => [], fun n => (bif Nat.beq n 0 then (some ⟨[(.t 1 (.int .i64) .sh), (.t 5 (.int .i64) .sh), (.r 1 e193 [])], [6, 7, 8, 9, 10, 11, 12, 13, 14, 15, 16, 17, 18, 19, 20, 21, 22, 23, 24, 25, 26, 27, 28, 29, 30, 31, 32, 33], []⟩) else none), fun n => none⟩
theorem q76 : ∀ x, runF C76 Tryz.f76 i76 o76 x = F76 x := by intro x; kernel_rfl
def i79 : List Grp := [⟨.wc, (.cons (.sl e43) .nil), [(.own [.sh, (.own [.sh, .sh, .sh, .sh, .sh, .sh, (.own []), .sh, (.own []), (.own []), (.own []), .sh, (.own [])]), .sh, .sh, (.own [])])]⟩, ⟨.c, (.cons (.int .i64) .nil), []⟩]
def o79 : List Grp := [⟨.c, (.cons (.int .i64) .nil), []⟩, ⟨.wc, (.cons (.sl e43) .nil), [(.own [.sh, (.own [.sh, .sh, .sh, .sh, .sh, .sh, (.own []), .sh, (.own []), (.own []), (.own []), .sh, (.own [])]), .sh, .sh, (.own [])])]⟩]
/-- laws.markProofS -/
noncomputable def F79 : ((List D43 × Unit) × ((Int × Unit) × Unit)) → Option (((Int × Unit) × ((List D43 × Unit) × Unit))) := markSl e43 F110 ((), (F72, ((), ((), (F31, ())))))
noncomputable def c79 : Con := ⟨i79, o79, F79⟩
noncomputable def C79 : Ctx := ⟨51, TT, EE, fun n => (bif Nat.ble n 31 then (bif Nat.beq n 31 then some c31 else none) else (bif Nat.beq n 72 then some c72 else none)), fun n k => [], fun n => (bif Nat.beq n 0 then (some ⟨[(.t 1 (.int .i64) .sh), (.t 5 (.int .i64) .sh), (.r 1 e43 [.sh, (.own [.sh, .sh, .sh, .sh, .sh, .sh, (.own []), .sh, (.own []), (.own []), (.own []), .sh, (.own [])]), .sh, .sh, (.own [])])], [6, 7, 8, 9, 10, 11, 12, 13, 14, 15, 16, 17, 18, 19, 20, 21, 22, 23, 24, 25, 26, 27, 28, 29, 30, 31, 32, 33, 34, 35, 36, 37, 38, 39, 40, 41, 42, 43, 44, 45, 46, 47, 48, 49], []⟩) else none), fun n => none⟩
theorem q79 : ∀ x, runF C79 Tryz.f79 i79 o79 x = F79 x := by intro x; kernel_rfl
def i111 : List Grp := [⟨.wc, (.cons (.sl e56) .nil), [(.own [.sh, .sh, .sh, (.own [.sh, .sh, .sh, .sh, (.own [])]), (.own []), (.own [.sh, .sh, .sh, .sh, .sh, .sh, (.own []), .sh, (.own []), (.own []), (.own []), .sh, (.own [])]), .sh, .sh, .sh, .sh, (.own []), .sh, (.own []), (.own []), .sh, (.own []), (.own []), (.own []), (.own []), (.own [.sh, (.own [.sh, .sh, .sh, .sh, .sh, .sh, (.own []), .sh, (.own []), (.own []), (.own []), .sh, (.own [])]), .sh, .sh, (.own [])])])]⟩, ⟨.c, (.cons (.int .i64) .nil), []⟩]
def o111 : List Grp := [⟨.c, (.cons (.int .i64) .nil), []⟩, ⟨.wc, (.cons (.sl e56) .nil), [(.own [.sh, .sh, .sh, (.own [.sh, .sh, .sh, .sh, (.own [])]), (.own []), (.own [.sh, .sh, .sh, .sh, .sh, .sh, (.own []), .sh, (.own []), (.own []), (.own []), .sh, (.own [])]), .sh, .sh, .sh, .sh, (.own []), .sh, (.own []), (.own []), .sh, (.own []), (.own []), (.own []), (.own []), (.own [.sh, (.own [.sh, .sh, .sh, .sh, .sh, .sh, (.own []), .sh, (.own []), (.own []), (.own []), .sh, (.own [])]), .sh, .sh, (.own [])])])]⟩]
/-- laws.markNodeS -/
noncomputable def F111 : ((List D56 × Unit) × ((Int × Unit) × Unit)) → Option (((Int × Unit) × ((List D56 × Unit) × Unit))) := markSl e56 F110 ((), ((), ((), (F109, (F71, (F72, ((), ((), ((), ((), (F31, ((), (F31, (F77, ((), (F75, (F76, (F77, (F78, (F79, ()))))))))))))))))))))
noncomputable def c111 : Con := ⟨i111, o111, F111⟩
noncomputable def C111 : Ctx := ⟨162, TT, EE, fun n => (bif Nat.ble n 76 then (bif Nat.ble n 71 then (bif Nat.ble n 31 then (bif Nat.beq n 31 then some c31 else none) else (bif Nat.beq n 71 then some c71 else none)) else (bif Nat.ble n 72 then (bif Nat.beq n 72 then some c72 else none) else (bif Nat.ble n 75 then (bif Nat.beq n 75 then some c75 else none) else (bif Nat.beq n 76 then some c76 else none)))) else (bif Nat.ble n 78 then (bif Nat.ble n 77 then (bif Nat.beq n 77 then some c77 else none) else (bif Nat.beq n 78 then some c78 else none)) else (bif Nat.ble n 79 then (bif Nat.beq n 79 then some c79 else none) else (bif Nat.ble n 109 then (bif Nat.beq n 109 then some c109 else none) else (bif Nat.beq n 110 then some c110 else none))))), fun n k => [], fun n => (bif Nat.beq n 0 then (some ⟨[(.t 1 (.int .i64) .sh), (.t 5 (.int .i64) .sh), (.r 1 e56 [.sh, .sh, .sh, (.own [.sh, .sh, .sh, .sh, (.own [])]), (.own []), (.own [.sh, .sh, .sh, .sh, .sh, .sh, (.own []), .sh, (.own []), (.own []), (.own []), .sh, (.own [])]), .sh, .sh, .sh, .sh, (.own []), .sh, (.own []), (.own []), .sh, (.own []), (.own []), (.own []), (.own []), (.own [.sh, (.own [.sh, .sh, .sh, .sh, .sh, .sh, (.own []), .sh, (.own []), (.own []), (.own []), .sh, (.own [])]), .sh, .sh, (.own [])])])], [6, 7, 8, 9, 10, 11, 12, 13, 14, 15, 16, 17, 18, 19, 20, 21, 22, 23, 24, 25, 26, 27, 28, 29, 30, 31, 32, 33, 34, 35, 36, 37, 38, 39, 40, 41, 42, 43, 44, 45, 46, 47, 48, 49, 50, 51, 52, 53, 54, 55, 56, 57, 58, 59, 60, 61, 62, 63, 64, 65, 66, 67, 68, 69, 70, 71, 72, 73, 74, 75, 76, 77, 78, 79, 80, 81, 82, 83, 84, 85, 86, 87, 88, 89, 90, 91, 92, 93, 94, 95, 96, 97, 98, 99, 100, 101, 102, 103, 104, 105, 106, 107, 108, 109, 110, 111, 112, 113, 114, 115, 116, 117, 118, 119, 120, 121, 122, 123, 124, 125, 126, 127, 128, 129, 130, 131, 132, 133, 134, 135, 136, 137, 138, 139, 140, 141, 142, 143, 144, 145, 146, 147, 148, 149, 150, 151, 152, 153, 154, 155, 156, 157, 158, 159, 160], []⟩) else none), fun n => none⟩
theorem q111 : ∀ x, runF C111 Tryz.f111 i111 o111 x = F111 x := by intro x; kernel_rfl
def i112 : List Grp := [⟨.wc, (.cons (.sl e214) .nil), [(.own [])]⟩, ⟨.c, (.cons (.int .i64) .nil), []⟩]
def o112 : List Grp := [⟨.c, (.cons (.int .i64) .nil), []⟩, ⟨.wc, (.cons (.sl e214) .nil), [(.own [])]⟩]
/-- laws.markSigS -/
noncomputable def F112 : ((List D214 × Unit) × ((Int × Unit) × Unit)) → Option (((Int × Unit) × ((List D214 × Unit) × Unit))) := markSl e214 F110 ((), ((), ((), ((), ((), ())))))
noncomputable def c112 : Con := ⟨i112, o112, F112⟩
noncomputable def C112 : Ctx := ⟨49, TT, EE, fun n => (bif Nat.beq n 110 then some c110 else none), fun n k => [], fun n => (bif Nat.beq n 0 then (some ⟨[(.t 1 (.int .i64) .sh), (.t 5 (.int .i64) .sh), (.r 1 e214 [])], [6, 7, 8, 9, 10, 11, 12, 13, 14, 15, 16, 17, 18, 19, 20, 21, 22, 23, 24, 25, 26, 27, 28, 29, 30, 31, 32, 33, 34, 35, 36, 37, 38, 39, 40, 41, 42, 43, 44, 45, 46, 47], []⟩) else none), fun n => none⟩
theorem q112 : ∀ x, runF C112 Tryz.f112 i112 o112 x = F112 x := by intro x; kernel_rfl
def i113 : List Grp := [⟨.wc, (.cons (.sl e217) .nil), [(.own [.sh, .sh, .sh, (.own [.sh, .sh, .sh, .sh, .sh, .sh, (.own []), .sh, (.own []), (.own []), (.own []), .sh, (.own [])]), .sh, .sh, .sh, .sh, .sh, .sh, .sh, .sh, (.own []), .sh, (.own []), (.own [])])]⟩, ⟨.c, (.cons (.int .i64) .nil), []⟩]
def o113 : List Grp := [⟨.c, (.cons (.int .i64) .nil), []⟩, ⟨.wc, (.cons (.sl e217) .nil), [(.own [.sh, .sh, .sh, (.own [.sh, .sh, .sh, .sh, .sh, .sh, (.own []), .sh, (.own []), (.own []), (.own []), .sh, (.own [])]), .sh, .sh, .sh, .sh, .sh, .sh, .sh, .sh, (.own []), .sh, (.own []), (.own [])])]⟩]
/-- laws.markMsgS -/
noncomputable def F113 : ((List D217 × Unit) × ((Int × Unit) × Unit)) → Option (((Int × Unit) × ((List D217 × Unit) × Unit))) := markSl e217 F110 ((), ((), ((), (F72, ((), ((), ((), ((), ((), ((), ((), ((), (F31, ((), (F31, (F77, ()))))))))))))))))
noncomputable def c113 : Con := ⟨i113, o113, F113⟩
noncomputable def C113 : Ctx := ⟨140, TT, EE, fun n => (bif Nat.ble n 72 then (bif Nat.ble n 31 then (bif Nat.beq n 31 then some c31 else none) else (bif Nat.beq n 72 then some c72 else none)) else (bif Nat.ble n 77 then (bif Nat.beq n 77 then some c77 else none) else (bif Nat.beq n 110 then some c110 else none))), fun n k => [], fun n => (bif Nat.beq n 0 then (some ⟨[(.t 1 (.int .i64) .sh), (.t 5 (.int .i64) .sh), (.r 1 e217 [.sh, .sh, .sh, (.own [.sh, .sh, .sh, .sh, .sh, .sh, (.own []), .sh, (.own []), (.own []), (.own []), .sh, (.own [])]), .sh, .sh, .sh, .sh, .sh, .sh, .sh, .sh, (.own []), .sh, (.own []), (.own [])])], [6, 7, 8, 9, 10, 11, 12, 13, 14, 15, 16, 17, 18, 19, 20, 21, 22, 23, 24, 25, 26, 27, 28, 29, 30, 31, 32, 33, 34, 35, 36, 37, 38, 39, 40, 41, 42, 43, 44, 45, 46, 47, 48, 49, 50, 51, 52, 53, 54, 55, 56, 57, 58, 59, 60, 61, 62, 63, 64, 65, 66, 67, 68, 69, 70, 71, 72, 73, 74, 75, 76, 77, 78, 79, 80, 81, 82, 83, 84, 85, 86, 87, 88, 89, 90, 91, 92, 93, 94, 95, 96, 97, 98, 99, 100, 101, 102, 103, 104, 105, 106, 107, 108, 109, 110, 111, 112, 113, 114, 115, 116, 117, 118, 119, 120, 121, 122, 123, 124, 125, 126, 127, 128, 129, 130, 131, 132, 133, 134, 135, 136, 137, 138], []⟩) else none), fun n => none⟩
theorem q113 : ∀ x, runF C113 Tryz.f113 i113 o113 x = F113 x := by intro x; kernel_rfl
def i32 : List Grp := [⟨.wa, e74, [.sh, (.own [.sh, .sh, .sh, .sh, (.own [])]), (.own []), (.own [.sh, .sh, .sh, (.own [.sh, .sh, .sh, .sh, (.own [])]), (.own []), (.own [.sh, .sh, .sh, .sh, .sh, .sh, (.own []), .sh, (.own []), (.own []), (.own []), .sh, (.own [])]), .sh, .sh, .sh, .sh, (.own []), .sh, (.own []), (.own []), .sh, (.own []), (.own []), (.own []), (.own []), (.own [.sh, (.own [.sh, .sh, .sh, .sh, .sh, .sh, (.own []), .sh, (.own []), (.own []), (.own []), .sh, (.own [])]), .sh, .sh, (.own [])])]), (.own [.sh, .sh, .sh, .sh, .sh, .sh, (.own []), .sh, (.own []), (.own []), (.own []), .sh, (.own [])]), (.own []), (.own [.sh, .sh, .sh, (.own [.sh, .sh, .sh, .sh, .sh, .sh, (.own []), .sh, (.own []), (.own []), (.own []), .sh, (.own [])]), .sh, .sh, .sh, .sh, .sh, .sh, .sh, .sh, (.own []), .sh, (.own []), (.own [])])]⟩, ⟨.c, (.cons (.int .i64) .nil), []⟩]
def o32 : List Grp := [⟨.c, (.cons (.int .i64) .nil), []⟩, ⟨.wa, e74, [.sh, (.own [.sh, .sh, .sh, .sh, (.own [])]), (.own []), (.own [.sh, .sh, .sh, (.own [.sh, .sh, .sh, .sh, (.own [])]), (.own []), (.own [.sh, .sh, .sh, .sh, .sh, .sh, (.own []), .sh, (.own []), (.own []), (.own []), .sh, (.own [])]), .sh, .sh, .sh, .sh, (.own []), .sh, (.own []), (.own []), .sh, (.own []), (.own []), (.own []), (.own []), (.own [.sh, (.own [.sh, .sh, .sh, .sh, .sh, .sh, (.own []), .sh, (.own []), (.own []), (.own []), .sh, (.own [])]), .sh, .sh, (.own [])])]), (.own [.sh, .sh, .sh, .sh, .sh, .sh, (.own []), .sh, (.own []), (.own []), (.own []), .sh, (.own [])]), (.own []), (.own [.sh, .sh, .sh, (.own [.sh, .sh, .sh, .sh, .sh, .sh, (.own []), .sh, (.own []), (.own []), (.own []), .sh, (.own [])]), .sh, .sh, .sh, .sh, .sh, .sh, .sh, .sh, (.own []), .sh, (.own []), (.own [])])]⟩]
/-- laws.markWorld -/
noncomputable def F32 : (D74 × ((Int × Unit) × Unit)) → Option (((Int × Unit) × (D74 × Unit))) := fun x0 => (F30 ((x0.1.1, (x0.1.2.1, ())), (x0.2.1, ()))).bind fun y1 => (F31 ((x0.1.2.2.1, ()), (y1.1, ()))).bind fun y2 => (F111 ((x0.1.2.2.2.1, ()), (y2.1, ()))).bind fun y3 => (F72 ((x0.1.2.2.2.2.1, ()), (y3.1, ()))).bind fun y4 => (F112 ((x0.1.2.2.2.2.2.1, ()), (y4.1, ()))).bind fun y5 => (F113 ((x0.1.2.2.2.2.2.2.1, ()), (y5.1, ()))).bind fun y6 => some (y6.1, ((x0.1.1, (y1.2.1.2.1, (y2.2.1.1, (y3.2.1.1, (y4.2.1.1, (y5.2.1.1, (y6.2.1.1, ()))))))), ()))
noncomputable def c32 : Con := ⟨i32, o32, F32⟩
noncomputable def C32 : Ctx := ⟨30, TT, EE, fun n => (bif Nat.ble n 72 then (bif Nat.ble n 30 then (bif Nat.beq n 30 then some c30 else none) else (bif Nat.ble n 31 then (bif Nat.beq n 31 then some c31 else none) else (bif Nat.beq n 72 then some c72 else none))) else (bif Nat.ble n 111 then (bif Nat.beq n 111 then some c111 else none) else (bif Nat.ble n 112 then (bif Nat.beq n 112 then some c112 else none) else (bif Nat.beq n 113 then some c113 else none)))), fun n k => [], fun n => none, fun n => none⟩
theorem q32 : ∀ x, runF C32 Tryz.f32 i32 o32 x = F32 x := by intro x; kernel_rfl
def i213 : List Grp := [⟨.c, (.cons (.sl e248) .nil), []⟩, ⟨.c, (.cons (.int .i64) .nil), []⟩]
def o213 : List Grp := [⟨.c, (.cons (.int .i64) .nil), []⟩]
/-- laws.heldLeaveS -/
noncomputable def F213 : ((List D248 × Unit) × ((Int × Unit) × Unit)) → Option (((Int × Unit) × Unit)) := heldSl e248 F110 ((), ((), ()))
noncomputable def c213 : Con := ⟨i213, o213, F213⟩
noncomputable def C213 : Ctx := ⟨31, TT, EE, fun n => none, fun n k => [], fun n => (bif Nat.beq n 0 then (some ⟨[(.t 1 (.int .i64) .sh), (.t 5 (.int .i64) .sh)], [4, 6, 7, 8, 9, 10, 11, 12, 13, 14, 15, 16, 17, 18, 19, 20, 21, 22, 23, 24, 25, 26, 27, 28, 29], []⟩) else none), fun n => none⟩
theorem q213 : ∀ x, runF C213 Tryz.f213 i213 o213 x = F213 x := by intro x; kernel_rfl
def i180 : List Grp := [⟨.c, (.cons (.sl e153) .nil), []⟩, ⟨.c, (.cons (.int .i64) .nil), []⟩]
def o180 : List Grp := [⟨.c, (.cons (.int .i64) .nil), []⟩]
/-- laws.heldAcctS -/
noncomputable def F180 : ((List D153 × Unit) × ((Int × Unit) × Unit)) → Option (((Int × Unit) × Unit)) := heldSl e153 F110 ((), ((), ((), ((), (F213, ())))))
noncomputable def c180 : Con := ⟨i180, o180, F180⟩
noncomputable def C180 : Ctx := ⟨59, TT, EE, fun n => (bif Nat.ble n 110 then (bif Nat.beq n 110 then some c110 else none) else (bif Nat.beq n 213 then some c213 else none)), fun n k => [], fun n => (bif Nat.beq n 0 then (some ⟨[(.t 1 (.int .i64) .sh), (.t 5 (.int .i64) .sh)], [4, 6, 7, 8, 9, 10, 11, 12, 13, 14, 15, 16, 17, 18, 19, 20, 21, 22, 23, 24, 25, 26, 27, 28, 29, 30, 31, 32, 33, 34, 35, 36, 37, 38, 39, 40, 41, 42, 43, 44, 45, 46, 47, 48, 49, 50, 51, 52, 53, 54, 55, 56, 57], []⟩) else none), fun n => none⟩
theorem q180 : ∀ x, runF C180 Tryz.f180 i180 o180 x = F180 x := by intro x; kernel_rfl
def i114 : List Grp := [⟨.agg, e48, []⟩, ⟨.c, (.cons (.int .i64) .nil), []⟩]
def o114 : List Grp := [⟨.c, (.cons (.int .i64) .nil), []⟩]
/-- laws.heldLedger -/
noncomputable def F114 : (D48 × ((Int × Unit) × Unit)) → Option (((Int × Unit) × Unit)) := fun x0 => (F180 ((x0.1.2.1, ()), (x0.2.1, ()))).bind fun y1 => bif iLt y1.1.1 (0:Int) then some (((-1:Int), ()), ()) else some (y1.1, ())
noncomputable def c114 : Con := ⟨i114, o114, F114⟩
noncomputable def C114 : Ctx := ⟨12, TT, EE, fun n => (bif Nat.beq n 180 then some c180 else none), fun n k => [], fun n => none, fun n => none⟩
theorem q114 : ∀ x, runF C114 Tryz.f114 i114 o114 x = F114 x := by intro x; kernel_rfl
def i115 : List Grp := [⟨.c, (.cons (.sl e9) .nil), []⟩, ⟨.c, (.cons (.int .i64) .nil), []⟩]
def o115 : List Grp := [⟨.c, (.cons (.int .i64) .nil), []⟩]
/-- laws.heldStringS -/
noncomputable def F115 : ((List D9 × Unit) × ((Int × Unit) × Unit)) → Option (((Int × Unit) × Unit)) := heldSl e9 F110 ((), ())
noncomputable def c115 : Con := ⟨i115, o115, F115⟩
noncomputable def C115 : Ctx := ⟨22, TT, EE, fun n => (bif Nat.beq n 110 then some c110 else none), fun n k => [], fun n => (bif Nat.beq n 0 then (some ⟨[(.t 1 (.int .i64) .sh), (.t 5 (.int .i64) .sh)], [4, 6, 7, 8, 9, 10, 11, 12, 13, 14, 15, 16, 17, 18, 19, 20], []⟩) else none), fun n => none⟩
theorem q115 : ∀ x, runF C115 Tryz.f115 i115 o115 x = F115 x := by intro x; kernel_rfl
def i123 : List Grp := [⟨.c, (.cons (.sl e188) .nil), []⟩, ⟨.c, (.cons (.int .i64) .nil), []⟩]
def o123 : List Grp := [⟨.c, (.cons (.int .i64) .nil), []⟩]
/-- laws.heldValS -/
noncomputable def F123 : ((List D188 × Unit) × ((Int × Unit) × Unit)) → Option (((Int × Unit) × Unit)) := heldSl e188 F110 ((), ((), ()))
noncomputable def c123 : Con := ⟨i123, o123, F123⟩
noncomputable def C123 : Ctx := ⟨32, TT, EE, fun n => (bif Nat.beq n 110 then some c110 else none), fun n k => [], fun n => (bif Nat.beq n 0 then (some ⟨[(.t 1 (.int .i64) .sh), (.t 5 (.int .i64) .sh)], [4, 6, 7, 8, 9, 10, 11, 12, 13, 14, 15, 16, 17, 18, 19, 20, 21, 22, 23, 24, 25, 26, 27, 28, 29, 30], []⟩) else none), fun n => none⟩
theorem q123 : ∀ x, runF C123 Tryz.f123 i123 o123 x = F123 x := by intro x; kernel_rfl
def i153 : List Grp := [⟨.c, (.cons (.sl e3) .nil), []⟩, ⟨.c, (.cons (.int .i64) .nil), []⟩]
def o153 : List Grp := [⟨.c, (.cons (.int .i64) .nil), []⟩]
/-- laws.heldIntS -/
noncomputable def F153 : ((List D3 × Unit) × ((Int × Unit) × Unit)) → Option (((Int × Unit) × Unit)) := heldSl e3 F110 ((), ())
noncomputable def c153 : Con := ⟨i153, o153, F153⟩
noncomputable def C153 : Ctx := ⟨21, TT, EE, fun n => none, fun n k => [], fun n => (bif Nat.beq n 0 then (some ⟨[(.t 1 (.int .i64) .sh), (.t 5 (.int .i64) .sh)], [4, 6, 7, 8, 9, 10, 11, 12, 13, 14, 15, 16, 17, 18, 19], []⟩) else none), fun n => none⟩
theorem q153 : ∀ x, runF C153 Tryz.f153 i153 o153 x = F153 x := by intro x; kernel_rfl
def i154 : List Grp := [⟨.c, (.cons (.sl e195) .nil), []⟩, ⟨.c, (.cons (.int .i64) .nil), []⟩]
def o154 : List Grp := [⟨.c, (.cons (.int .i64) .nil), []⟩]
/-- laws.heldTxS -/
noncomputable def F154 : ((List D195 × Unit) × ((Int × Unit) × Unit)) → Option (((Int × Unit) × Unit)) := heldSl e195 F110 ((), ((), ((), ((), ((), ())))))
noncomputable def c154 : Con := ⟨i154, o154, F154⟩
noncomputable def C154 : Ctx := ⟨60, TT, EE, fun n => (bif Nat.beq n 110 then some c110 else none), fun n k => [], fun n => (bif Nat.beq n 0 then (some ⟨[(.t 1 (.int .i64) .sh), (.t 5 (.int .i64) .sh)], [4, 6, 7, 8, 9, 10, 11, 12, 13, 14, 15, 16, 17, 18, 19, 20, 21, 22, 23, 24, 25, 26, 27, 28, 29, 30, 31, 32, 33, 34, 35, 36, 37, 38, 39, 40, 41, 42, 43, 44, 45, 46, 47, 48, 49, 50, 51, 52, 53, 54, 55, 56, 57, 58], []⟩) else none), fun n => none⟩
theorem q154 : ∀ x, runF C154 Tryz.f154 i154 o154 x = F154 x := by intro x; kernel_rfl
def i80 : List Grp := [⟨.c, (.cons (.sl e138) .nil), []⟩, ⟨.c, (.cons (.int .i64) .nil), []⟩]
def o80 : List Grp := [⟨.c, (.cons (.int .i64) .nil), []⟩]
/-- laws.heldBlockS -/
noncomputable def F80 : ((List D138 × Unit) × ((Int × Unit) × Unit)) → Option (((Int × Unit) × Unit)) := heldSl e138 F110 ((), ((), ((), ((), ((), ((), (F115, ((), (F115, (F153, (F154, ((), (F123, ((), ()))))))))))))))
noncomputable def c80 : Con := ⟨i80, o80, F80⟩
noncomputable def C80 : Ctx := ⟨149, TT, EE, fun n => (bif Nat.ble n 115 then (bif Nat.ble n 110 then (bif Nat.beq n 110 then some c110 else none) else (bif Nat.beq n 115 then some c115 else none)) else (bif Nat.ble n 123 then (bif Nat.beq n 123 then some c123 else none) else (bif Nat.ble n 153 then (bif Nat.beq n 153 then some c153 else none) else (bif Nat.beq n 154 then some c154 else none)))), fun n k => [], fun n => (bif Nat.beq n 0 then (some ⟨[(.t 1 (.int .i64) .sh), (.t 5 (.int .i64) .sh)], [4, 6, 7, 8, 9, 10, 11, 12, 13, 14, 15, 16, 17, 18, 19, 20, 21, 22, 23, 24, 25, 26, 27, 28, 29, 30, 31, 32, 33, 34, 35, 36, 37, 38, 39, 40, 41, 42, 43, 44, 45, 46, 47, 48, 49, 50, 51, 52, 53, 54, 55, 56, 57, 58, 59, 60, 61, 62, 63, 64, 65, 66, 67, 68, 69, 70, 71, 72, 73, 74, 75, 76, 77, 78, 79, 80, 81, 82, 83, 84, 85, 86, 87, 88, 89, 90, 91, 92, 93, 94, 95, 96, 97, 98, 99, 100, 101, 102, 103, 104, 105, 106, 107, 108, 109, 110, 111, 112, 113, 114, 115, 116, 117, 118, 119, 120, 121, 122, 123, 124, 125, 126, 127, 128, 129, 130, 131, 132, 133, 134, 135, 136, 137, 138, 139, 140, 141, 142, 143, 144, 145, 146, 147], []⟩) else none), fun n => none⟩
theorem q80 : ∀ x, runF C80 Tryz.f80 i80 o80 x = F80 x := by intro x; kernel_rfl
def i181 : List Grp := [⟨.c, (.cons (.sl e191) .nil), []⟩, ⟨.c, (.cons (.int .i64) .nil), []⟩]
def o181 : List Grp := [⟨.c, (.cons (.int .i64) .nil), []⟩]
/-- laws.heldVoteS -/
noncomputable def F181 : ((List D191 × Unit) × ((Int × Unit) × Unit)) → Option (((Int × Unit) × Unit)) := heldSl e191 F110 ((), ((), ((), ())))
noncomputable def c181 : Con := ⟨i181, o181, F181⟩
noncomputable def C181 : Ctx := ⟨41, TT, EE, fun n => (bif Nat.beq n 110 then some c110 else none), fun n k => [], fun n => (bif Nat.beq n 0 then (some ⟨[(.t 1 (.int .i64) .sh), (.t 5 (.int .i64) .sh)], [4, 6, 7, 8, 9, 10, 11, 12, 13, 14, 15, 16, 17, 18, 19, 20, 21, 22, 23, 24, 25, 26, 27, 28, 29, 30, 31, 32, 33, 34, 35, 36, 37, 38, 39], []⟩) else none), fun n => none⟩
theorem q181 : ∀ x, runF C181 Tryz.f181 i181 o181 x = F181 x := by intro x; kernel_rfl
def i182 : List Grp := [⟨.c, (.cons (.sl e193) .nil), []⟩, ⟨.c, (.cons (.int .i64) .nil), []⟩]
def o182 : List Grp := [⟨.c, (.cons (.int .i64) .nil), []⟩]
/-- laws.heldGoneS -/
noncomputable def F182 : ((List D193 × Unit) × ((Int × Unit) × Unit)) → Option (((Int × Unit) × Unit)) := heldSl e193 F110 ((), ((), ((), ())))
noncomputable def c182 : Con := ⟨i182, o182, F182⟩
noncomputable def C182 : Ctx := ⟨41, TT, EE, fun n => (bif Nat.beq n 110 then some c110 else none), fun n k => [], fun n => (bif Nat.beq n 0 then (some ⟨[(.t 1 (.int .i64) .sh), (.t 5 (.int .i64) .sh)], [4, 6, 7, 8, 9, 10, 11, 12, 13, 14, 15, 16, 17, 18, 19, 20, 21, 22, 23, 24, 25, 26, 27, 28, 29, 30, 31, 32, 33, 34, 35, 36, 37, 38, 39], []⟩) else none), fun n => none⟩
theorem q182 : ∀ x, runF C182 Tryz.f182 i182 o182 x = F182 x := by intro x; kernel_rfl
def i183 : List Grp := [⟨.c, (.cons (.sl e43) .nil), []⟩, ⟨.c, (.cons (.int .i64) .nil), []⟩]
def o183 : List Grp := [⟨.c, (.cons (.int .i64) .nil), []⟩]
/-- laws.heldProofS -/
noncomputable def F183 : ((List D43 × Unit) × ((Int × Unit) × Unit)) → Option (((Int × Unit) × Unit)) := heldSl e43 F110 ((), (F80, ((), ((), (F115, ())))))
noncomputable def c183 : Con := ⟨i183, o183, F183⟩
noncomputable def C183 : Ctx := ⟨61, TT, EE, fun n => (bif Nat.ble n 80 then (bif Nat.beq n 80 then some c80 else none) else (bif Nat.beq n 115 then some c115 else none)), fun n k => [], fun n => (bif Nat.beq n 0 then (some ⟨[(.t 1 (.int .i64) .sh), (.t 5 (.int .i64) .sh)], [4, 6, 7, 8, 9, 10, 11, 12, 13, 14, 15, 16, 17, 18, 19, 20, 21, 22, 23, 24, 25, 26, 27, 28, 29, 30, 31, 32, 33, 34, 35, 36, 37, 38, 39, 40, 41, 42, 43, 44, 45, 46, 47, 48, 49, 50, 51, 52, 53, 54, 55, 56, 57, 58, 59], []⟩) else none), fun n => none⟩
theorem q183 : ∀ x, runF C183 Tryz.f183 i183 o183 x = F183 x := by intro x; kernel_rfl
def i116 : List Grp := [⟨.c, (.cons (.sl e56) .nil), []⟩, ⟨.c, (.cons (.int .i64) .nil), []⟩]
def o116 : List Grp := [⟨.c, (.cons (.int .i64) .nil), []⟩]
/-- laws.heldNodeS -/
noncomputable def F116 : ((List D56 × Unit) × ((Int × Unit) × Unit)) → Option (((Int × Unit) × Unit)) := heldSl e56 F110 ((), ((), ((), (F180, (F123, (F80, ((), ((), ((), ((), (F115, ((), (F115, (F153, ((), (F181, (F182, (F153, (F154, (F183, ()))))))))))))))))))))
noncomputable def c116 : Con := ⟨i116, o116, F116⟩
noncomputable def C116 : Ctx := ⟨202, TT, EE, fun n => (bif Nat.ble n 153 then (bif Nat.ble n 110 then (bif Nat.ble n 80 then (bif Nat.beq n 80 then some c80 else none) else (bif Nat.beq n 110 then some c110 else none)) else (bif Nat.ble n 115 then (bif Nat.beq n 115 then some c115 else none) else (bif Nat.ble n 123 then (bif Nat.beq n 123 then some c123 else none) else (bif Nat.beq n 153 then some c153 else none)))) else (bif Nat.ble n 180 then (bif Nat.ble n 154 then (bif Nat.beq n 154 then some c154 else none) else (bif Nat.beq n 180 then some c180 else none)) else (bif Nat.ble n 181 then (bif Nat.beq n 181 then some c181 else none) else (bif Nat.ble n 182 then (bif Nat.beq n 182 then some c182 else none) else (bif Nat.beq n 183 then some c183 else none))))), fun n k => [], fun n => (bif Nat.beq n 0 then (some ⟨[(.t 1 (.int .i64) .sh), (.t 5 (.int .i64) .sh)], [4, 6, 7, 8, 9, 10, 11, 12, 13, 14, 15, 16, 17, 18, 19, 20, 21, 22, 23, 24, 25, 26, 27, 28, 29, 30, 31, 32, 33, 34, 35, 36, 37, 38, 39, 40, 41, 42, 43, 44, 45, 46, 47, 48, 49, 50, 51, 52, 53, 54, 55, 56, 57, 58, 59, 60, 61, 62, 63, 64, 65, 66, 67, 68, 69, 70, 71, 72, 73, 74, 75, 76, 77, 78, 79, 80, 81, 82, 83, 84, 85, 86, 87, 88, 89, 90, 91, 92, 93, 94, 95, 96, 97, 98, 99, 100, 101, 102, 103, 104, 105, 106, 107, 108, 109, 110, 111, 112, 113, 114, 115, 116, 117, 118, 119, 120, 121, 122, 123, 124, 125, 126, 127, 128, 129, 130, 131, 132, 133, 134, 135, 136, 137, 138, 139, 140, 141, 142, 143, 144, 145, 146, 147, 148, 149, 150, 151, 152, 153, 154, 155, 156, 157, 158, 159, 160, 161, 162, 163, 164, 165, 166, 167, 168, 169, 170, 171, 172, 173, 174, 175, 176, 177, 178, 179, 180, 181, 182, 183, 184, 185, 186, 187, 188, 189, 190, 191, 192, 193, 194, 195, 196, 197, 198, 199, 200], []⟩) else none), fun n => none⟩
theorem q116 : ∀ x, runF C116 Tryz.f116 i116 o116 x = F116 x := by intro x; kernel_rfl
def i117 : List Grp := [⟨.c, (.cons (.sl e214) .nil), []⟩, ⟨.c, (.cons (.int .i64) .nil), []⟩]
def o117 : List Grp := [⟨.c, (.cons (.int .i64) .nil), []⟩]
/-- laws.heldSigS -/
noncomputable def F117 : ((List D214 × Unit) × ((Int × Unit) × Unit)) → Option (((Int × Unit) × Unit)) := heldSl e214 F110 ((), ((), ((), ((), ((), ())))))
noncomputable def c117 : Con := ⟨i117, o117, F117⟩
noncomputable def C117 : Ctx := ⟨59, TT, EE, fun n => (bif Nat.beq n 110 then some c110 else none), fun n k => [], fun n => (bif Nat.beq n 0 then (some ⟨[(.t 1 (.int .i64) .sh), (.t 5 (.int .i64) .sh)], [4, 6, 7, 8, 9, 10, 11, 12, 13, 14, 15, 16, 17, 18, 19, 20, 21, 22, 23, 24, 25, 26, 27, 28, 29, 30, 31, 32, 33, 34, 35, 36, 37, 38, 39, 40, 41, 42, 43, 44, 45, 46, 47, 48, 49, 50, 51, 52, 53, 54, 55, 56, 57], []⟩) else none), fun n => none⟩
theorem q117 : ∀ x, runF C117 Tryz.f117 i117 o117 x = F117 x := by intro x; kernel_rfl
def i118 : List Grp := [⟨.c, (.cons (.sl e217) .nil), []⟩, ⟨.c, (.cons (.int .i64) .nil), []⟩]
def o118 : List Grp := [⟨.c, (.cons (.int .i64) .nil), []⟩]
/-- laws.heldMsgS -/
noncomputable def F118 : ((List D217 × Unit) × ((Int × Unit) × Unit)) → Option (((Int × Unit) × Unit)) := heldSl e217 F110 ((), ((), ((), (F80, ((), ((), ((), ((), ((), ((), ((), ((), (F115, ((), (F115, (F153, ()))))))))))))))))
noncomputable def c118 : Con := ⟨i118, o118, F118⟩
noncomputable def C118 : Ctx := ⟨172, TT, EE, fun n => (bif Nat.ble n 110 then (bif Nat.ble n 80 then (bif Nat.beq n 80 then some c80 else none) else (bif Nat.beq n 110 then some c110 else none)) else (bif Nat.ble n 115 then (bif Nat.beq n 115 then some c115 else none) else (bif Nat.beq n 153 then some c153 else none))), fun n k => [], fun n => (bif Nat.beq n 0 then (some ⟨[(.t 1 (.int .i64) .sh), (.t 5 (.int .i64) .sh)], [4, 6, 7, 8, 9, 10, 11, 12, 13, 14, 15, 16, 17, 18, 19, 20, 21, 22, 23, 24, 25, 26, 27, 28, 29, 30, 31, 32, 33, 34, 35, 36, 37, 38, 39, 40, 41, 42, 43, 44, 45, 46, 47, 48, 49, 50, 51, 52, 53, 54, 55, 56, 57, 58, 59, 60, 61, 62, 63, 64, 65, 66, 67, 68, 69, 70, 71, 72, 73, 74, 75, 76, 77, 78, 79, 80, 81, 82, 83, 84, 85, 86, 87, 88, 89, 90, 91, 92, 93, 94, 95, 96, 97, 98, 99, 100, 101, 102, 103, 104, 105, 106, 107, 108, 109, 110, 111, 112, 113, 114, 115, 116, 117, 118, 119, 120, 121, 122, 123, 124, 125, 126, 127, 128, 129, 130, 131, 132, 133, 134, 135, 136, 137, 138, 139, 140, 141, 142, 143, 144, 145, 146, 147, 148, 149, 150, 151, 152, 153, 154, 155, 156, 157, 158, 159, 160, 161, 162, 163, 164, 165, 166, 167, 168, 169, 170], []⟩) else none), fun n => none⟩
theorem q118 : ∀ x, runF C118 Tryz.f118 i118 o118 x = F118 x := by intro x; kernel_rfl
def i33 : List Grp := [⟨.agg, e74, []⟩, ⟨.c, (.cons (.int .i64) .nil), []⟩]
def o33 : List Grp := [⟨.c, (.cons (.int .i64) .nil), []⟩]
/-- laws.heldWorld -/
noncomputable def F33 : (D74 × ((Int × Unit) × Unit)) → Option (((Int × Unit) × Unit)) := fun x0 => (F114 ((x0.1.1, (x0.1.2.1, ())), (x0.2.1, ()))).bind fun y1 => bif iLt y1.1.1 (0:Int) then some (((-1:Int), ()), ()) else (F115 ((x0.1.2.2.1, ()), (y1.1, ()))).bind fun y2 => bif iLt y2.1.1 (0:Int) then some (((-1:Int), ()), ()) else (F116 ((x0.1.2.2.2.1, ()), (y2.1, ()))).bind fun y3 => bif iLt y3.1.1 (0:Int) then some (((-1:Int), ()), ()) else (F80 ((x0.1.2.2.2.2.1, ()), (y3.1, ()))).bind fun y4 => bif iLt y4.1.1 (0:Int) then some (((-1:Int), ()), ()) else (F117 ((x0.1.2.2.2.2.2.1, ()), (y4.1, ()))).bind fun y5 => bif iLt y5.1.1 (0:Int) then some (((-1:Int), ()), ()) else (F118 ((x0.1.2.2.2.2.2.2.1, ()), (y5.1, ()))).bind fun y6 => bif iLt y6.1.1 (0:Int) then some (((-1:Int), ()), ()) else some (y6.1, ())
noncomputable def c33 : Con := ⟨i33, o33, F33⟩
noncomputable def C33 : Ctx := ⟨42, TT, EE, fun n => (bif Nat.ble n 115 then (bif Nat.ble n 80 then (bif Nat.beq n 80 then some c80 else none) else (bif Nat.ble n 114 then (bif Nat.beq n 114 then some c114 else none) else (bif Nat.beq n 115 then some c115 else none))) else (bif Nat.ble n 116 then (bif Nat.beq n 116 then some c116 else none) else (bif Nat.ble n 117 then (bif Nat.beq n 117 then some c117 else none) else (bif Nat.beq n 118 then some c118 else none)))), fun n k => [], fun n => none, fun n => none⟩
theorem q33 : ∀ x, runF C33 Tryz.f33 i33 o33 x = F33 x := by intro x; kernel_rfl
def i5 : List Grp := [⟨.agg, e24, []⟩, ⟨.c, (.cons (.sl e9) .nil), []⟩]
def o5 : List Grp := [⟨.c, (.cons .bool .nil), []⟩]
/-- laws.FnExactWorldNew -/
noncomputable def F5 : (D24 × ((List D9 × Unit) × Unit)) → Option (((Bool × Unit) × Unit)) := fun x0 => (F22 (x0.1, (((1048576:Int), ()), ()))).bind fun y1 => bif iLt y1.1.1 (0:Int) then some ((true, ()), ()) else (F23 (x0.2.1, (y1.1, ()))).bind fun y2 => bif iLt y2.1.1 (0:Int) then some ((true, ()), ()) else (F25 (x0.1, ())).bind fun y3 => (F26 (x0.2.1, ())).bind fun y4 => (F24 (y3.1, (y4.1, ()))).bind fun y5 => (F25 (x0.1, ())).bind fun y6 => (F26 (x0.2.1, ())).bind fun y7 => (F27 (y6.1, (y7.1, ()))).bind fun y8 => (F21 (y8.1, (y5.1, ()))).bind fun y9 => bif (!y9.1.1) then some ((false, ()), ()) else (F25 (x0.1, ())).bind fun y10 => (F28 (y6.1, (y10.1, ()))).bind fun y11 => bif (!y11.1.1) then some ((false, ()), ()) else (F26 (x0.2.1, ())).bind fun y12 => (F29 (y7.1, (y12.1, ()))).bind fun y13 => bif (!y13.1.1) then some ((false, ()), ()) else (F30 (y6.1, (((1:Int), ()), ()))).bind fun y14 => (F31 (y7.1, (y14.1, ()))).bind fun y15 => bif iLt y15.1.1 (0:Int) then some ((false, ()), ()) else (F21 (y8.1, (y5.1, ()))).bind fun y16 => bif (!y16.1.1) then some ((false, ()), ()) else (F32 (y8.1, (((1:Int), ()), ()))).bind fun y17 => (F33 ((y8.1.1, (y17.2.1.2.1, (y17.2.1.2.2.1, (y17.2.1.2.2.2.1, (y17.2.1.2.2.2.2.1, (y17.2.1.2.2.2.2.2.1, (y17.2.1.2.2.2.2.2.2.1, ()))))))), (((1:Int), ()), ()))).bind fun y18 => bif iLt y18.1.1 (0:Int) then some ((false, ()), ()) else bif !iEq y18.1.1 y17.1.1 then some ((false, ()), ()) else (F25 (x0.1, ())).bind fun y19 => (F26 (x0.2.1, ())).bind fun y20 => (F27 (y19.1, (y20.1, ()))).bind fun y21 => (F21 (y21.1, (y5.1, ()))).bind fun y22 => bif (!y22.1.1) then some ((false, ()), ()) else (F33 ((y8.1.1, (y17.2.1.2.1, (y17.2.1.2.2.1, (y17.2.1.2.2.2.1, (y17.2.1.2.2.2.2.1, (y17.2.1.2.2.2.2.2.1, (y17.2.1.2.2.2.2.2.2.1, ()))))))), (((1:Int), ()), ()))).bind fun y23 => bif iLt y23.1.1 (0:Int) then some ((false, ()), ()) else bif !iEq y23.1.1 y17.1.1 then some ((false, ()), ()) else some ((true, ()), ())
noncomputable def c5 : Con := ⟨i5, o5, F5⟩
noncomputable def C5 : Ctx := ⟨92, TT, EE, fun n => (bif Nat.ble n 26 then (bif Nat.ble n 23 then (bif Nat.ble n 21 then (bif Nat.beq n 21 then some c21 else none) else (bif Nat.ble n 22 then (bif Nat.beq n 22 then some c22 else none) else (bif Nat.beq n 23 then some c23 else none))) else (bif Nat.ble n 24 then (bif Nat.beq n 24 then some c24 else none) else (bif Nat.ble n 25 then (bif Nat.beq n 25 then some c25 else none) else (bif Nat.beq n 26 then some c26 else none)))) else (bif Nat.ble n 29 then (bif Nat.ble n 27 then (bif Nat.beq n 27 then some c27 else none) else (bif Nat.ble n 28 then (bif Nat.beq n 28 then some c28 else none) else (bif Nat.beq n 29 then some c29 else none))) else (bif Nat.ble n 31 then (bif Nat.ble n 30 then (bif Nat.beq n 30 then some c30 else none) else (bif Nat.beq n 31 then some c31 else none)) else (bif Nat.ble n 32 then (bif Nat.beq n 32 then some c32 else none) else (bif Nat.beq n 33 then some c33 else none))))), fun n k => [], fun n => none, fun n => none⟩
theorem q5 : ∀ x, runF C5 Tryz.f5 i5 o5 x = F5 x := by intro x; kernel_rfl
end Go.Proofs.YtphaibffjdfhpaaGreat
