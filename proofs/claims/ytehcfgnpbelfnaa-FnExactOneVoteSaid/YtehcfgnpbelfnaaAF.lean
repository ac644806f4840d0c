/- What the functions that the laws reach compute, as functions over plain data; each one's equation with the program is checked by the kernel. Conditions: none. -/

import Derived.Test.YtehcfgnpbelfnaaTm3
import Derived.Test.YtehcfgnpbelfnaaProg
namespace Go.Proofs.Ytehcfgnpbelfnaa
open Go Go.Tm
set_option linter.unusedVariables false
set_option maxRecDepth 100000
def e3 : Tys := (.cons (.int .i64) .nil)
def e9 : Tys := (.cons .str .nil)
def e232 : Tys := (.cons (.int .i64) (.cons .str (.cons .str (.cons (.int .i64) (.cons (.int .i64) .nil)))))
def e145 : Tys := (.cons .str (.cons (.int .i64) .nil))
def e150 : Tys := (.cons (.int .i64) (.cons (.int .i64) (.cons (.int .i64) (.cons .str (.cons (.int .i64) (.cons (.int .i64) (.cons (.sl e9) (.cons (.int .i64) (.cons (.sl e9) (.cons (.sl e3) (.cons (.sl e232) (.cons .bool (.cons (.sl e145) (.cons .str .nil))))))))))))))
def e47 : Tys := (.cons (.int .i64) (.cons (.sl e150) (.cons (.int .i64) (.cons (.int .i64) (.cons (.sl e9) .nil)))))
def e198 : Tys := (.cons (.int .i64) (.cons .str (.cons .str (.cons (.int .i64) (.cons (.int .i64) .nil)))))
def e106 : Tys := (.cons .str (.cons (.int .i64) .nil))
def e96 : Tys := (.cons (.int .i64) (.cons (.int .i64) (.cons (.int .i64) (.cons .str (.cons (.int .i64) (.cons (.int .i64) (.cons (.sl e9) (.cons (.int .i64) (.cons (.sl e9) (.cons (.sl e3) (.cons (.sl e198) (.cons .bool (.cons (.sl e106) (.cons .str .nil))))))))))))))
def e56 : Tys := (.cons (.int .i64) (.cons (.sl e96) (.cons (.int .i64) (.cons (.int .i64) (.cons (.sl e9) .nil)))))
def e193 : Tys := (.cons (.int .i64) (.cons (.int .i64) .nil))
def e138 : Tys := (.cons .str (.cons (.int .i64) (.cons (.int .i64) (.cons (.int .i64) (.cons (.sl e193) .nil)))))
def e178 : Tys := (.cons (.int .i64) (.cons (.int .i64) (.cons .str .nil)))
def e179 : Tys := (.cons (.int .i64) (.cons (.int .i64) (.cons .str .nil)))
def e119 : Tys := (.cons .str (.cons (.int .i64) (.cons (.int .i64) (.cons (.sl e138) (.cons (.sl e106) (.cons (.sl e96) (.cons (.int .i64) (.cons (.int .i64) (.cons (.int .i64) (.cons (.int .i64) (.cons (.sl e9) (.cons (.int .i64) (.cons (.sl e9) (.cons (.sl e3) (.cons (.int .i64) (.cons (.sl e178) (.cons (.sl e179) (.cons (.sl e3) (.cons (.sl e198) (.cons (.sl e56) .nil))))))))))))))))))))
def e129 : Tys := (.cons (.int .i64) (.cons (.int .i64) (.cons (.int .i64) (.cons (.int .i64) (.cons .str .nil)))))
def e228 : Tys := (.cons (.int .i64) (.cons (.int .i64) .nil))
def e133 : Tys := (.cons .str (.cons (.int .i64) (.cons (.int .i64) (.cons (.int .i64) (.cons (.sl e228) .nil)))))
def e171 : Tys := (.cons (.int .i64) (.cons (.int .i64) (.cons .str .nil)))
def e173 : Tys := (.cons (.int .i64) (.cons (.int .i64) (.cons .str .nil)))
def e166 : Tys := (.cons .str (.cons (.int .i64) (.cons (.int .i64) (.cons (.sl e133) (.cons (.sl e145) (.cons (.sl e150) (.cons (.int .i64) (.cons (.int .i64) (.cons (.int .i64) (.cons (.int .i64) (.cons (.sl e9) (.cons (.int .i64) (.cons (.sl e9) (.cons (.sl e3) (.cons (.int .i64) (.cons (.sl e171) (.cons (.sl e173) (.cons (.sl e3) (.cons (.sl e232) (.cons (.sl e47) .nil))))))))))))))))))))
def e168 : Tys := (.cons (.int .i64) (.cons (.int .i64) (.cons (.int .i64) (.cons (.int .i64) (.cons .str .nil)))))
def e175 : Tys := (.cons (.int .i64) (.cons .str (.cons (.int .i64) (.cons (.sl e150) (.cons (.int .i64) (.cons (.int .i64) (.cons .str (.cons (.int .i64) (.cons (.int .i64) (.cons .str (.cons (.int .i64) (.cons (.int .i64) (.cons (.sl e9) (.cons (.int .i64) (.cons (.sl e9) (.cons (.sl e3) .nil))))))))))))))))
def e181 : Tys := (.cons (.int .i64) (.cons .str (.cons (.int .i64) (.cons (.sl e96) (.cons (.int .i64) (.cons (.int .i64) (.cons .str (.cons (.int .i64) (.cons (.int .i64) (.cons .str (.cons (.int .i64) (.cons (.int .i64) (.cons (.sl e9) (.cons (.int .i64) (.cons (.sl e9) (.cons (.sl e3) .nil))))))))))))))))
def TTL : List (Nat × TI) := [(3, ⟨1, 8, .int .i64, [(.int .i64 (0:Int))], [], [], none⟩), (4, ⟨1, 1, .bool, [(.bool false)], [], [], none⟩), (9, ⟨1, 16, .str, [(.str ⟨#[]⟩)], [], [], none⟩), (22, ⟨1, 24, .slice 133, [.nils], [], [], none⟩), (24, ⟨2, 32, .struct, [(.int .i64 (0:Int)), .nils], [(0, 1), (1, 1)], [false, false], none⟩), (26, ⟨1, 24, .slice 106, [.nils], [], [], none⟩), (30, ⟨1, 24, .slice 138, [.nils], [], [], none⟩), (32, ⟨2, 32, .struct, [(.int .i64 (0:Int)), .nils], [(0, 1), (1, 1)], [false, false], none⟩), (39, ⟨1, 24, .slice 145, [.nils], [], [], none⟩), (42, ⟨1, 24, .slice 150, [.nils], [], [], none⟩), (43, ⟨1, 24, .slice 9, [.nils], [], [], none⟩), (45, ⟨3, 40, .struct, [(.int .i64 (0:Int)), (.int .i64 (0:Int)), .nils], [(0, 1), (1, 1), (2, 1)], [false, false, false], none⟩), (47, ⟨5, 72, .struct, [(.int .i64 (0:Int)), .nils, (.int .i64 (0:Int)), (.int .i64 (0:Int)), .nils], [(0, 1), (1, 1), (2, 3)], [false, false, true], none⟩), (53, ⟨1, 24, .slice 96, [.nils], [], [], none⟩), (54, ⟨3, 40, .struct, [(.int .i64 (0:Int)), (.int .i64 (0:Int)), .nils], [(0, 1), (1, 1), (2, 1)], [false, false, false], none⟩), (56, ⟨5, 72, .struct, [(.int .i64 (0:Int)), .nils, (.int .i64 (0:Int)), (.int .i64 (0:Int)), .nils], [(0, 1), (1, 1), (2, 3)], [false, false, true], none⟩), (61, ⟨1, 24, .slice 166, [.nils], [], [], none⟩), (62, ⟨1, 24, .slice 168, [.nils], [], [], none⟩), (63, ⟨1, 24, .slice 175, [.nils], [], [], none⟩), (65, ⟨7, 152, .struct, [(.int .i64 (0:Int)), .nils, .nils, .nils, .nils, .nils, .nils], [(0, 2), (2, 1), (3, 1), (4, 1), (5, 1), (6, 1)], [true, false, false, false, false, false], none⟩), (68, ⟨1, 24, .slice 119, [.nils], [], [], none⟩), (69, ⟨1, 24, .slice 129, [.nils], [], [], none⟩), (70, ⟨1, 24, .slice 181, [.nils], [], [], none⟩), (72, ⟨7, 152, .struct, [(.int .i64 (0:Int)), .nils, .nils, .nils, .nils, .nils, .nils], [(0, 2), (2, 1), (3, 1), (4, 1), (5, 1), (6, 1)], [true, false, false, false, false, false], none⟩), (91, ⟨1, 24, .slice 3, [.nils], [], [], none⟩), (93, ⟨3, 56, .struct, [(.int .i64 (0:Int)), .nils, .nils], [(0, 1), (1, 1), (2, 1)], [false, false, false], none⟩), (94, ⟨1, 24, .slice 198, [.nils], [], [], none⟩), (96, ⟨14, 208, .struct, [(.int .i64 (0:Int)), (.int .i64 (0:Int)), (.int .i64 (0:Int)), (.str ⟨#[]⟩), (.int .i64 (0:Int)), (.int .i64 (0:Int)), .nils, (.int .i64 (0:Int)), .nils, .nils, .nils, (.bool false), .nils, (.str ⟨#[]⟩)], [(0, 1), (1, 1), (2, 1), (3, 1), (4, 3), (7, 3), (10, 1), (11, 1), (12, 1), (13, 1)], [false, false, false, false, true, true, false, false, false, false], none⟩), (106, ⟨2, 24, .struct, [(.str ⟨#[]⟩), (.int .i64 (0:Int))], [(0, 1), (1, 1)], [false, false], (some [.str, .int .i64])⟩), (115, ⟨1, 24, .slice 178, [.nils], [], [], none⟩), (116, ⟨1, 24, .slice 179, [.nils], [], [], none⟩), (117, ⟨1, 24, .slice 56, [.nils], [], [], none⟩), (119, ⟨20, 344, .struct, [(.str ⟨#[]⟩), (.int .i64 (0:Int)), (.int .i64 (0:Int)), .nils, .nils, .nils, (.int .i64 (0:Int)), (.int .i64 (0:Int)), (.int .i64 (0:Int)), (.int .i64 (0:Int)), .nils, (.int .i64 (0:Int)), .nils, .nils, (.int .i64 (0:Int)), .nils, .nils, .nils, .nils, .nils], [(0, 1), (1, 1), (2, 2), (4, 1), (5, 1), (6, 1), (7, 1), (8, 3), (11, 3), (14, 1), (15, 1), (16, 1), (17, 1), (18, 1), (19, 1)], [false, false, true, false, false, false, false, true, true, false, false, false, false, false, false], none⟩), (129, ⟨5, 48, .struct, [(.int .i64 (0:Int)), (.int .i64 (0:Int)), (.int .i64 (0:Int)), (.int .i64 (0:Int)), (.str ⟨#[]⟩)], [(0, 1), (1, 1), (2, 1), (3, 1), (4, 1)], [false, false, false, false, false], (some [.int .i64, .int .i64, .int .i64, .int .i64, .str])⟩), (131, ⟨1, 24, .slice 228, [.nils], [], [], none⟩), (133, ⟨5, 64, .struct, [(.str ⟨#[]⟩), (.int .i64 (0:Int)), (.int .i64 (0:Int)), (.int .i64 (0:Int)), .nils], [(0, 1), (1, 1), (2, 1), (3, 1), (4, 1)], [false, false, false, false, false], none⟩), (136, ⟨1, 24, .slice 193, [.nils], [], [], none⟩), (138, ⟨5, 64, .struct, [(.str ⟨#[]⟩), (.int .i64 (0:Int)), (.int .i64 (0:Int)), (.int .i64 (0:Int)), .nils], [(0, 1), (1, 1), (2, 1), (3, 1), (4, 1)], [false, false, false, false, false], none⟩), (145, ⟨2, 24, .struct, [(.str ⟨#[]⟩), (.int .i64 (0:Int))], [(0, 1), (1, 1)], [false, false], (some [.str, .int .i64])⟩), (147, ⟨3, 56, .struct, [(.int .i64 (0:Int)), .nils, .nils], [(0, 1), (1, 1), (2, 1)], [false, false, false], none⟩), (148, ⟨1, 24, .slice 232, [.nils], [], [], none⟩), (150, ⟨14, 208, .struct, [(.int .i64 (0:Int)), (.int .i64 (0:Int)), (.int .i64 (0:Int)), (.str ⟨#[]⟩), (.int .i64 (0:Int)), (.int .i64 (0:Int)), .nils, (.int .i64 (0:Int)), .nils, .nils, .nils, (.bool false), .nils, (.str ⟨#[]⟩)], [(0, 1), (1, 1), (2, 1), (3, 1), (4, 3), (7, 3), (10, 1), (11, 1), (12, 1), (13, 1)], [false, false, false, false, true, true, false, false, false, false], none⟩), (162, ⟨1, 24, .slice 171, [.nils], [], [], none⟩), (163, ⟨1, 24, .slice 173, [.nils], [], [], none⟩), (164, ⟨1, 24, .slice 47, [.nils], [], [], none⟩), (166, ⟨20, 344, .struct, [(.str ⟨#[]⟩), (.int .i64 (0:Int)), (.int .i64 (0:Int)), .nils, .nils, .nils, (.int .i64 (0:Int)), (.int .i64 (0:Int)), (.int .i64 (0:Int)), (.int .i64 (0:Int)), .nils, (.int .i64 (0:Int)), .nils, .nils, (.int .i64 (0:Int)), .nils, .nils, .nils, .nils, .nils], [(0, 1), (1, 1), (2, 2), (4, 1), (5, 1), (6, 1), (7, 1), (8, 3), (11, 3), (14, 1), (15, 1), (16, 1), (17, 1), (18, 1), (19, 1)], [false, false, true, false, false, false, false, true, true, false, false, false, false, false, false], none⟩), (168, ⟨5, 48, .struct, [(.int .i64 (0:Int)), (.int .i64 (0:Int)), (.int .i64 (0:Int)), (.int .i64 (0:Int)), (.str ⟨#[]⟩)], [(0, 1), (1, 1), (2, 1), (3, 1), (4, 1)], [false, false, false, false, false], (some [.int .i64, .int .i64, .int .i64, .int .i64, .str])⟩), (171, ⟨3, 32, .struct, [(.int .i64 (0:Int)), (.int .i64 (0:Int)), (.str ⟨#[]⟩)], [(0, 1), (1, 1), (2, 1)], [false, false, false], (some [.int .i64, .int .i64, .str])⟩), (173, ⟨3, 32, .struct, [(.int .i64 (0:Int)), (.int .i64 (0:Int)), (.str ⟨#[]⟩)], [(0, 1), (1, 1), (2, 1)], [false, false, false], (some [.int .i64, .int .i64, .str])⟩), (175, ⟨16, 216, .struct, [(.int .i64 (0:Int)), (.str ⟨#[]⟩), (.int .i64 (0:Int)), .nils, (.int .i64 (0:Int)), (.int .i64 (0:Int)), (.str ⟨#[]⟩), (.int .i64 (0:Int)), (.int .i64 (0:Int)), (.str ⟨#[]⟩), (.int .i64 (0:Int)), (.int .i64 (0:Int)), .nils, (.int .i64 (0:Int)), .nils, .nils], [(0, 1), (1, 1), (2, 1), (3, 1), (4, 3), (7, 3), (10, 3), (13, 3)], [false, false, false, false, true, true, true, true], none⟩), (178, ⟨3, 32, .struct, [(.int .i64 (0:Int)), (.int .i64 (0:Int)), (.str ⟨#[]⟩)], [(0, 1), (1, 1), (2, 1)], [false, false, false], (some [.int .i64, .int .i64, .str])⟩), (179, ⟨3, 32, .struct, [(.int .i64 (0:Int)), (.int .i64 (0:Int)), (.str ⟨#[]⟩)], [(0, 1), (1, 1), (2, 1)], [false, false, false], (some [.int .i64, .int .i64, .str])⟩), (181, ⟨16, 216, .struct, [(.int .i64 (0:Int)), (.str ⟨#[]⟩), (.int .i64 (0:Int)), .nils, (.int .i64 (0:Int)), (.int .i64 (0:Int)), (.str ⟨#[]⟩), (.int .i64 (0:Int)), (.int .i64 (0:Int)), (.str ⟨#[]⟩), (.int .i64 (0:Int)), (.int .i64 (0:Int)), .nils, (.int .i64 (0:Int)), .nils, .nils], [(0, 1), (1, 1), (2, 1), (3, 1), (4, 3), (7, 3), (10, 3), (13, 3)], [false, false, false, false, true, true, true, true], none⟩), (193, ⟨2, 16, .struct, [(.int .i64 (0:Int)), (.int .i64 (0:Int))], [(0, 1), (1, 1)], [false, false], (some [.int .i64, .int .i64])⟩), (198, ⟨5, 56, .struct, [(.int .i64 (0:Int)), (.str ⟨#[]⟩), (.str ⟨#[]⟩), (.int .i64 (0:Int)), (.int .i64 (0:Int))], [(0, 1), (1, 1), (2, 1), (3, 1), (4, 1)], [false, false, false, false, false], (some [.int .i64, .str, .str, .int .i64, .int .i64])⟩), (228, ⟨2, 16, .struct, [(.int .i64 (0:Int)), (.int .i64 (0:Int))], [(0, 1), (1, 1)], [false, false], (some [.int .i64, .int .i64])⟩), (232, ⟨5, 56, .struct, [(.int .i64 (0:Int)), (.str ⟨#[]⟩), (.str ⟨#[]⟩), (.int .i64 (0:Int)), (.int .i64 (0:Int))], [(0, 1), (1, 1), (2, 1), (3, 1), (4, 1)], [false, false, false, false, false], (some [.int .i64, .str, .str, .int .i64, .int .i64])⟩)]
theorem tt_ok : TTL.map (fun p => tiOf Try.prog p.1) = TTL.map (fun p => some p.2) := by kernel_rfl
def TT : Nat → Option TI := lookT TTL
def EE : Nat → Tys := fun n => (bif Nat.ble n 150 then (bif Nat.ble n 106 then (bif Nat.ble n 47 then (bif Nat.ble n 3 then (bif Nat.beq n 3 then e3 else .nil) else (bif Nat.ble n 9 then (bif Nat.beq n 9 then e9 else .nil) else (bif Nat.beq n 47 then e47 else .nil))) else (bif Nat.ble n 56 then (bif Nat.beq n 56 then e56 else .nil) else (bif Nat.ble n 96 then (bif Nat.beq n 96 then e96 else .nil) else (bif Nat.beq n 106 then e106 else .nil)))) else (bif Nat.ble n 133 then (bif Nat.ble n 119 then (bif Nat.beq n 119 then e119 else .nil) else (bif Nat.ble n 129 then (bif Nat.beq n 129 then e129 else .nil) else (bif Nat.beq n 133 then e133 else .nil))) else (bif Nat.ble n 138 then (bif Nat.beq n 138 then e138 else .nil) else (bif Nat.ble n 145 then (bif Nat.beq n 145 then e145 else .nil) else (bif Nat.beq n 150 then e150 else .nil))))) else (bif Nat.ble n 178 then (bif Nat.ble n 171 then (bif Nat.ble n 166 then (bif Nat.beq n 166 then e166 else .nil) else (bif Nat.ble n 168 then (bif Nat.beq n 168 then e168 else .nil) else (bif Nat.beq n 171 then e171 else .nil))) else (bif Nat.ble n 173 then (bif Nat.beq n 173 then e173 else .nil) else (bif Nat.ble n 175 then (bif Nat.beq n 175 then e175 else .nil) else (bif Nat.beq n 178 then e178 else .nil)))) else (bif Nat.ble n 193 then (bif Nat.ble n 179 then (bif Nat.beq n 179 then e179 else .nil) else (bif Nat.ble n 181 then (bif Nat.beq n 181 then e181 else .nil) else (bif Nat.beq n 193 then e193 else .nil))) else (bif Nat.ble n 198 then (bif Nat.beq n 198 then e198 else .nil) else (bif Nat.ble n 228 then (bif Nat.beq n 228 then e228 else .nil) else (bif Nat.beq n 232 then e232 else .nil))))))
def i116 : List Grp := [⟨.c, (.cons (.sl e228) .nil), []⟩, ⟨.c, (.cons (.int .i64) .nil), []⟩]
def o116 : List Grp := [⟨.c, (.cons (.int .i64) .nil), []⟩]
/-- laws.szLeaveS -/
noncomputable def F116 : GD i116 → Option (GD o116) := fun x0 => bif iLt (iSub .i64 x0.2.1.1 (List.length x0.1.1 : Int)) (0:Int) then some (((-1:Int), ()), ()) else some ((iSub .i64 x0.2.1.1 (List.length x0.1.1 : Int), ()), ())
noncomputable def c116 : Con := ⟨i116, o116, F116⟩
noncomputable def C116 : Ctx := ⟨12, TT, EE, fun n => none, fun n k => [], fun n => none, fun n => none⟩
theorem q116 : ∀ x, runF C116 Try.f116 i116 o116 x = F116 x := by intro x; kernel_rfl
def i78 : List Grp := [⟨.agg, (.cons .str (.cons (.int .i64) (.cons (.int .i64) (.cons (.int .i64) (.cons (.sl e228) .nil))))), []⟩, ⟨.c, (.cons (.int .i64) .nil), []⟩]
def o78 : List Grp := [⟨.c, (.cons (.int .i64) .nil), []⟩]
/-- laws.szAcct -/
noncomputable def F78 : GD i78 → Option (GD o78) := fun x0 => bif iLt (iSub .i64 x0.2.1.1 (ByteArray.size x0.1.1 : Int)) (0:Int) then some (((-1:Int), ()), ()) else (F116 ((x0.1.2.2.2.2.1, ()), ((iSub .i64 x0.2.1.1 (ByteArray.size x0.1.1 : Int), ()), ()))).bind fun y1 => bif iLt y1.1.1 (0:Int) then some (((-1:Int), ()), ()) else some (y1.1, ())
noncomputable def c78 : Con := ⟨i78, o78, F78⟩
noncomputable def C78 : Ctx := ⟨19, TT, EE, fun n => (bif Nat.beq n 116 then some c116 else none), fun n k => [], fun n => none, fun n => none⟩
theorem q78 : ∀ x, runF C78 Try.f78 i78 o78 x = F78 x := by intro x; kernel_rfl
def i34 : List Grp := [⟨.c, (.cons (.sl e133) .nil), []⟩, ⟨.c, (.cons (.int .i64) .nil), []⟩]
def o34 : List Grp := [⟨.c, (.cons (.int .i64) .nil), []⟩]
/-- laws.szAcctS -/
noncomputable def F34.b0 (x0 : GD i34) : (v1 : (Int × (Int × Unit))) → Option (Sum (Int × (Int × Unit)) (Sum (Int × (Int × Unit)) (GD o34))) := fun v1 => bif iLt v1.2.1 (List.length x0.1.1 : Int) then (getI x0.1.1 v1.2.1).bind fun x2 => (F78 (x2, ((v1.1, ()), ()))).bind fun y3 => bif iLt y3.1.1 (0:Int) then some (.inr (.inr (((-1:Int), ()), ()))) else some (.inl (y3.1.1, (iAdd .i64 v1.2.1 (1:Int), ()))) else some (.inr (.inl (v1.1, (v1.2.1, ()))))
noncomputable def F34 : GD i34 → Option (GD o34) := fun x0 => bif iLt (iSub .i64 x0.2.1.1 (List.length x0.1.1 : Int)) (0:Int) then some (((-1:Int), ()), ()) else (loopF (F34.b0 x0) (iSub .i64 x0.2.1.1 (List.length x0.1.1 : Int), ((0:Int), ()))).bind fun r5 => Sum.elim (fun v4 => some ((v4.1, ()), ())) some r5
noncomputable def c34 : Con := ⟨i34, o34, F34⟩
noncomputable def C34 : Ctx := ⟨27, TT, EE, fun n => (bif Nat.beq n 78 then some c78 else none), fun n k => [], fun n => (bif Nat.beq n 0 then (some ⟨[(.t 1 (.int .i64) .sh), (.t 5 (.int .i64) .sh)], [4, 12, 13, 14, 15, 16, 17, 18, 19, 20, 21, 22, 23, 24, 25], []⟩) else none), fun n => none⟩
theorem q34 : ∀ x, runF C34 Try.f34 i34 o34 x = F34 x := by intro x; kernel_rfl
def i8 : List Grp := [⟨.agg, (.cons (.int .i64) (.cons (.sl e133) .nil)), []⟩, ⟨.c, (.cons (.int .i64) .nil), []⟩]
def o8 : List Grp := [⟨.c, (.cons (.int .i64) .nil), []⟩]
/-- laws.szLedger -/
noncomputable def F8 : GD i8 → Option (GD o8) := fun x0 => (F34 ((x0.1.2.1, ()), (x0.2.1, ()))).bind fun y1 => bif iLt y1.1.1 (0:Int) then some (((-1:Int), ()), ()) else some (y1.1, ())
noncomputable def c8 : Con := ⟨i8, o8, F8⟩
noncomputable def C8 : Ctx := ⟨12, TT, EE, fun n => (bif Nat.beq n 34 then some c34 else none), fun n k => [], fun n => none, fun n => none⟩
theorem q8 : ∀ x, runF C8 Try.f8 i8 o8 x = F8 x := by intro x; kernel_rfl
def i66 : List Grp := [⟨.c, (.cons (.sl e9) .nil), []⟩, ⟨.c, (.cons (.int .i64) .nil), []⟩]
def o66 : List Grp := [⟨.c, (.cons (.int .i64) .nil), []⟩]
/-- laws.szStringS -/
noncomputable def F66.b0 (x0 : GD i66) : (v1 : (Int × (Int × Unit))) → Option (Sum (Int × (Int × Unit)) (Sum (Int × (Int × Unit)) (GD o66))) := fun v1 => bif iLt v1.2.1 (List.length x0.1.1 : Int) then (getI x0.1.1 v1.2.1).bind fun x2 => bif iLt (iSub .i64 v1.1 (ByteArray.size x2.1 : Int)) (0:Int) then some (.inr (.inr (((-1:Int), ()), ()))) else some (.inl (iSub .i64 v1.1 (ByteArray.size x2.1 : Int), (iAdd .i64 v1.2.1 (1:Int), ()))) else some (.inr (.inl (v1.1, (v1.2.1, ()))))
noncomputable def F66 : GD i66 → Option (GD o66) := fun x0 => bif iLt (iSub .i64 x0.2.1.1 (List.length x0.1.1 : Int)) (0:Int) then some (((-1:Int), ()), ()) else (loopF (F66.b0 x0) (iSub .i64 x0.2.1.1 (List.length x0.1.1 : Int), ((0:Int), ()))).bind fun r4 => Sum.elim (fun v3 => some ((v3.1, ()), ())) some r4
noncomputable def c66 : Con := ⟨i66, o66, F66⟩
noncomputable def C66 : Ctx := ⟨28, TT, EE, fun n => none, fun n k => [], fun n => (bif Nat.beq n 0 then (some ⟨[(.t 1 (.int .i64) .sh), (.t 5 (.int .i64) .sh)], [4, 12, 13, 14, 15, 16, 17, 18, 19, 20, 21, 22, 23, 24, 25, 26], []⟩) else none), fun n => none⟩
theorem q66 : ∀ x, runF C66 Try.f66 i66 o66 x = F66 x := by intro x; kernel_rfl
def i88 : List Grp := [⟨.agg, (.cons .str (.cons (.int .i64) .nil)), []⟩, ⟨.c, (.cons (.int .i64) .nil), []⟩]
def o88 : List Grp := [⟨.c, (.cons (.int .i64) .nil), []⟩]
/-- laws.szVal -/
noncomputable def F88 : GD i88 → Option (GD o88) := fun x0 => bif iLt (iSub .i64 x0.2.1.1 (ByteArray.size x0.1.1 : Int)) (0:Int) then some (((-1:Int), ()), ()) else some ((iSub .i64 x0.2.1.1 (ByteArray.size x0.1.1 : Int), ()), ())
noncomputable def c88 : Con := ⟨i88, o88, F88⟩
noncomputable def C88 : Ctx := ⟨13, TT, EE, fun n => none, fun n k => [], fun n => none, fun n => none⟩
theorem q88 : ∀ x, runF C88 Try.f88 i88 o88 x = F88 x := by intro x; kernel_rfl
def i45 : List Grp := [⟨.c, (.cons (.sl e145) .nil), []⟩, ⟨.c, (.cons (.int .i64) .nil), []⟩]
def o45 : List Grp := [⟨.c, (.cons (.int .i64) .nil), []⟩]
/-- laws.szValS -/
noncomputable def F45.b0 (x0 : GD i45) : (v1 : (Int × (Int × Unit))) → Option (Sum (Int × (Int × Unit)) (Sum (Int × (Int × Unit)) (GD o45))) := fun v1 => bif iLt v1.2.1 (List.length x0.1.1 : Int) then (getI x0.1.1 v1.2.1).bind fun x2 => (F88 (x2, ((v1.1, ()), ()))).bind fun y3 => bif iLt y3.1.1 (0:Int) then some (.inr (.inr (((-1:Int), ()), ()))) else some (.inl (y3.1.1, (iAdd .i64 v1.2.1 (1:Int), ()))) else some (.inr (.inl (v1.1, (v1.2.1, ()))))
noncomputable def F45 : GD i45 → Option (GD o45) := fun x0 => bif iLt (iSub .i64 x0.2.1.1 (List.length x0.1.1 : Int)) (0:Int) then some (((-1:Int), ()), ()) else (loopF (F45.b0 x0) (iSub .i64 x0.2.1.1 (List.length x0.1.1 : Int), ((0:Int), ()))).bind fun r5 => Sum.elim (fun v4 => some ((v4.1, ()), ())) some r5
noncomputable def c45 : Con := ⟨i45, o45, F45⟩
noncomputable def C45 : Ctx := ⟨27, TT, EE, fun n => (bif Nat.beq n 88 then some c88 else none), fun n k => [], fun n => (bif Nat.beq n 0 then (some ⟨[(.t 1 (.int .i64) .sh), (.t 5 (.int .i64) .sh)], [4, 12, 13, 14, 15, 16, 17, 18, 19, 20, 21, 22, 23, 24, 25], []⟩) else none), fun n => none⟩
theorem q45 : ∀ x, runF C45 Try.f45 i45 o45 x = F45 x := by intro x; kernel_rfl
def i47 : List Grp := [⟨.agg, (.cons (.int .i64) (.cons (.int .i64) (.cons (.sl e9) .nil))), []⟩, ⟨.c, (.cons (.int .i64) .nil), []⟩]
def o47 : List Grp := [⟨.c, (.cons (.int .i64) .nil), []⟩]
/-- laws.szQc -/
noncomputable def F47 : GD i47 → Option (GD o47) := fun x0 => (F66 ((x0.1.2.2.1, ()), (x0.2.1, ()))).bind fun y1 => bif iLt y1.1.1 (0:Int) then some (((-1:Int), ()), ()) else some (y1.1, ())
noncomputable def c47 : Con := ⟨i47, o47, F47⟩
noncomputable def C47 : Ctx := ⟨12, TT, EE, fun n => (bif Nat.beq n 66 then some c66 else none), fun n k => [], fun n => none, fun n => none⟩
theorem q47 : ∀ x, runF C47 Try.f47 i47 o47 x = F47 x := by intro x; kernel_rfl
def i144 : List Grp := [⟨.c, (.cons (.sl e3) .nil), []⟩, ⟨.c, (.cons (.int .i64) .nil), []⟩]
def o144 : List Grp := [⟨.c, (.cons (.int .i64) .nil), []⟩]
/-- laws.szIntS -/
noncomputable def F144 : GD i144 → Option (GD o144) := fun x0 => bif iLt (iSub .i64 x0.2.1.1 (List.length x0.1.1 : Int)) (0:Int) then some (((-1:Int), ()), ()) else some ((iSub .i64 x0.2.1.1 (List.length x0.1.1 : Int), ()), ())
noncomputable def c144 : Con := ⟨i144, o144, F144⟩
noncomputable def C144 : Ctx := ⟨12, TT, EE, fun n => none, fun n k => [], fun n => none, fun n => none⟩
theorem q144 : ∀ x, runF C144 Try.f144 i144 o144 x = F144 x := by intro x; kernel_rfl
def i123 : List Grp := [⟨.agg, (.cons (.int .i64) (.cons (.sl e9) (.cons (.sl e3) .nil))), []⟩, ⟨.c, (.cons (.int .i64) .nil), []⟩]
def o123 : List Grp := [⟨.c, (.cons (.int .i64) .nil), []⟩]
/-- laws.szTc -/
noncomputable def F123 : GD i123 → Option (GD o123) := fun x0 => (F66 ((x0.1.2.1, ()), (x0.2.1, ()))).bind fun y1 => bif iLt y1.1.1 (0:Int) then some (((-1:Int), ()), ()) else (F144 ((x0.1.2.2.1, ()), (y1.1, ()))).bind fun y2 => bif iLt y2.1.1 (0:Int) then some (((-1:Int), ()), ()) else some (y2.1, ())
noncomputable def c123 : Con := ⟨i123, o123, F123⟩
noncomputable def C123 : Ctx := ⟨18, TT, EE, fun n => (bif Nat.ble n 66 then (bif Nat.beq n 66 then some c66 else none) else (bif Nat.beq n 144 then some c144 else none)), fun n k => [], fun n => none, fun n => none⟩
theorem q123 : ∀ x, runF C123 Try.f123 i123 o123 x = F123 x := by intro x; kernel_rfl
def i164 : List Grp := [⟨.agg, (.cons (.int .i64) (.cons .str (.cons .str (.cons (.int .i64) (.cons (.int .i64) .nil))))), []⟩, ⟨.c, (.cons (.int .i64) .nil), []⟩]
def o164 : List Grp := [⟨.c, (.cons (.int .i64) .nil), []⟩]
/-- laws.szTx -/
noncomputable def F164 : GD i164 → Option (GD o164) := fun x0 => bif iLt (iSub .i64 x0.2.1.1 (ByteArray.size x0.1.2.1 : Int)) (0:Int) then some (((-1:Int), ()), ()) else bif iLt (iSub .i64 (iSub .i64 x0.2.1.1 (ByteArray.size x0.1.2.1 : Int)) (ByteArray.size x0.1.2.2.1 : Int)) (0:Int) then some (((-1:Int), ()), ()) else some ((iSub .i64 (iSub .i64 x0.2.1.1 (ByteArray.size x0.1.2.1 : Int)) (ByteArray.size x0.1.2.2.1 : Int), ()), ())
noncomputable def c164 : Con := ⟨i164, o164, F164⟩
noncomputable def C164 : Ctx := ⟨20, TT, EE, fun n => none, fun n k => [], fun n => none, fun n => none⟩
theorem q164 : ∀ x, runF C164 Try.f164 i164 o164 x = F164 x := by intro x; kernel_rfl
def i124 : List Grp := [⟨.c, (.cons (.sl e232) .nil), []⟩, ⟨.c, (.cons (.int .i64) .nil), []⟩]
def o124 : List Grp := [⟨.c, (.cons (.int .i64) .nil), []⟩]
/-- laws.szTxS -/
noncomputable def F124.b0 (x0 : GD i124) : (v1 : (Int × (Int × Unit))) → Option (Sum (Int × (Int × Unit)) (Sum (Int × (Int × Unit)) (GD o124))) := fun v1 => bif iLt v1.2.1 (List.length x0.1.1 : Int) then (getI x0.1.1 v1.2.1).bind fun x2 => (F164 (x2, ((v1.1, ()), ()))).bind fun y3 => bif iLt y3.1.1 (0:Int) then some (.inr (.inr (((-1:Int), ()), ()))) else some (.inl (y3.1.1, (iAdd .i64 v1.2.1 (1:Int), ()))) else some (.inr (.inl (v1.1, (v1.2.1, ()))))
noncomputable def F124 : GD i124 → Option (GD o124) := fun x0 => bif iLt (iSub .i64 x0.2.1.1 (List.length x0.1.1 : Int)) (0:Int) then some (((-1:Int), ()), ()) else (loopF (F124.b0 x0) (iSub .i64 x0.2.1.1 (List.length x0.1.1 : Int), ((0:Int), ()))).bind fun r5 => Sum.elim (fun v4 => some ((v4.1, ()), ())) some r5
noncomputable def c124 : Con := ⟨i124, o124, F124⟩
noncomputable def C124 : Ctx := ⟨27, TT, EE, fun n => (bif Nat.beq n 164 then some c164 else none), fun n k => [], fun n => (bif Nat.beq n 0 then (some ⟨[(.t 1 (.int .i64) .sh), (.t 5 (.int .i64) .sh)], [4, 12, 13, 14, 15, 16, 17, 18, 19, 20, 21, 22, 23, 24, 25], []⟩) else none), fun n => none⟩
theorem q124 : ∀ x, runF C124 Try.f124 i124 o124 x = F124 x := by intro x; kernel_rfl
def i89 : List Grp := [⟨.agg, (.cons (.int .i64) (.cons (.int .i64) (.cons (.int .i64) (.cons .str (.cons (.int .i64) (.cons (.int .i64) (.cons (.sl e9) (.cons (.int .i64) (.cons (.sl e9) (.cons (.sl e3) (.cons (.sl e232) (.cons .bool (.cons (.sl e145) (.cons .str .nil)))))))))))))), []⟩, ⟨.c, (.cons (.int .i64) .nil), []⟩]
def o89 : List Grp := [⟨.c, (.cons (.int .i64) .nil), []⟩]
/-- laws.szBlock -/
noncomputable def F89 : GD i89 → Option (GD o89) := fun x0 => bif iLt (iSub .i64 x0.2.1.1 (ByteArray.size x0.1.2.2.2.1 : Int)) (0:Int) then some (((-1:Int), ()), ()) else (F47 ((x0.1.2.2.2.2.1, (x0.1.2.2.2.2.2.1, (x0.1.2.2.2.2.2.2.1, ()))), ((iSub .i64 x0.2.1.1 (ByteArray.size x0.1.2.2.2.1 : Int), ()), ()))).bind fun y1 => bif iLt y1.1.1 (0:Int) then some (((-1:Int), ()), ()) else (F123 ((x0.1.2.2.2.2.2.2.2.1, (x0.1.2.2.2.2.2.2.2.2.1, (x0.1.2.2.2.2.2.2.2.2.2.1, ()))), (y1.1, ()))).bind fun y2 => bif iLt y2.1.1 (0:Int) then some (((-1:Int), ()), ()) else (F124 ((x0.1.2.2.2.2.2.2.2.2.2.2.1, ()), (y2.1, ()))).bind fun y3 => bif iLt y3.1.1 (0:Int) then some (((-1:Int), ()), ()) else (F45 ((x0.1.2.2.2.2.2.2.2.2.2.2.2.2.1, ()), (y3.1, ()))).bind fun y4 => bif iLt y4.1.1 (0:Int) then some (((-1:Int), ()), ()) else bif iLt (iSub .i64 y4.1.1 (ByteArray.size x0.1.2.2.2.2.2.2.2.2.2.2.2.2.2.1 : Int)) (0:Int) then some (((-1:Int), ()), ()) else some ((iSub .i64 y4.1.1 (ByteArray.size x0.1.2.2.2.2.2.2.2.2.2.2.2.2.2.1 : Int), ()), ())
noncomputable def c89 : Con := ⟨i89, o89, F89⟩
noncomputable def C89 : Ctx := ⟨44, TT, EE, fun n => (bif Nat.ble n 47 then (bif Nat.ble n 45 then (bif Nat.beq n 45 then some c45 else none) else (bif Nat.beq n 47 then some c47 else none)) else (bif Nat.ble n 123 then (bif Nat.beq n 123 then some c123 else none) else (bif Nat.beq n 124 then some c124 else none))), fun n k => [], fun n => none, fun n => none⟩
theorem q89 : ∀ x, runF C89 Try.f89 i89 o89 x = F89 x := by intro x; kernel_rfl
def i46 : List Grp := [⟨.c, (.cons (.sl e150) .nil), []⟩, ⟨.c, (.cons (.int .i64) .nil), []⟩]
def o46 : List Grp := [⟨.c, (.cons (.int .i64) .nil), []⟩]
/-- laws.szBlockS -/
noncomputable def F46.b0 (x0 : GD i46) : (v1 : (Int × (Int × Unit))) → Option (Sum (Int × (Int × Unit)) (Sum (Int × (Int × Unit)) (GD o46))) := fun v1 => bif iLt v1.2.1 (List.length x0.1.1 : Int) then (getI x0.1.1 v1.2.1).bind fun x2 => (F89 (x2, ((v1.1, ()), ()))).bind fun y3 => bif iLt y3.1.1 (0:Int) then some (.inr (.inr (((-1:Int), ()), ()))) else some (.inl (y3.1.1, (iAdd .i64 v1.2.1 (1:Int), ()))) else some (.inr (.inl (v1.1, (v1.2.1, ()))))
noncomputable def F46 : GD i46 → Option (GD o46) := fun x0 => bif iLt (iSub .i64 x0.2.1.1 (List.length x0.1.1 : Int)) (0:Int) then some (((-1:Int), ()), ()) else (loopF (F46.b0 x0) (iSub .i64 x0.2.1.1 (List.length x0.1.1 : Int), ((0:Int), ()))).bind fun r5 => Sum.elim (fun v4 => some ((v4.1, ()), ())) some r5
noncomputable def c46 : Con := ⟨i46, o46, F46⟩
noncomputable def C46 : Ctx := ⟨27, TT, EE, fun n => (bif Nat.beq n 89 then some c89 else none), fun n k => [], fun n => (bif Nat.beq n 0 then (some ⟨[(.t 1 (.int .i64) .sh), (.t 5 (.int .i64) .sh)], [4, 12, 13, 14, 15, 16, 17, 18, 19, 20, 21, 22, 23, 24, 25], []⟩) else none), fun n => none⟩
theorem q46 : ∀ x, runF C46 Try.f46 i46 o46 x = F46 x := by intro x; kernel_rfl
def i146 : List Grp := [⟨.agg, (.cons (.int .i64) (.cons (.int .i64) (.cons .str .nil))), []⟩, ⟨.c, (.cons (.int .i64) .nil), []⟩]
def o146 : List Grp := [⟨.c, (.cons (.int .i64) .nil), []⟩]
/-- laws.szVote -/
noncomputable def F146 : GD i146 → Option (GD o146) := fun x0 => bif iLt (iSub .i64 x0.2.1.1 (ByteArray.size x0.1.2.2.1 : Int)) (0:Int) then some (((-1:Int), ()), ()) else some ((iSub .i64 x0.2.1.1 (ByteArray.size x0.1.2.2.1 : Int), ()), ())
noncomputable def c146 : Con := ⟨i146, o146, F146⟩
noncomputable def C146 : Ctx := ⟨13, TT, EE, fun n => none, fun n k => [], fun n => none, fun n => none⟩
theorem q146 : ∀ x, runF C146 Try.f146 i146 o146 x = F146 x := by intro x; kernel_rfl
def i142 : List Grp := [⟨.c, (.cons (.sl e171) .nil), []⟩, ⟨.c, (.cons (.int .i64) .nil), []⟩]
def o142 : List Grp := [⟨.c, (.cons (.int .i64) .nil), []⟩]
/-- laws.szVoteS -/
noncomputable def F142.b0 (x0 : GD i142) : (v1 : (Int × (Int × Unit))) → Option (Sum (Int × (Int × Unit)) (Sum (Int × (Int × Unit)) (GD o142))) := fun v1 => bif iLt v1.2.1 (List.length x0.1.1 : Int) then (getI x0.1.1 v1.2.1).bind fun x2 => (F146 (x2, ((v1.1, ()), ()))).bind fun y3 => bif iLt y3.1.1 (0:Int) then some (.inr (.inr (((-1:Int), ()), ()))) else some (.inl (y3.1.1, (iAdd .i64 v1.2.1 (1:Int), ()))) else some (.inr (.inl (v1.1, (v1.2.1, ()))))
noncomputable def F142 : GD i142 → Option (GD o142) := fun x0 => bif iLt (iSub .i64 x0.2.1.1 (List.length x0.1.1 : Int)) (0:Int) then some (((-1:Int), ()), ()) else (loopF (F142.b0 x0) (iSub .i64 x0.2.1.1 (List.length x0.1.1 : Int), ((0:Int), ()))).bind fun r5 => Sum.elim (fun v4 => some ((v4.1, ()), ())) some r5
noncomputable def c142 : Con := ⟨i142, o142, F142⟩
noncomputable def C142 : Ctx := ⟨27, TT, EE, fun n => (bif Nat.beq n 146 then some c146 else none), fun n k => [], fun n => (bif Nat.beq n 0 then (some ⟨[(.t 1 (.int .i64) .sh), (.t 5 (.int .i64) .sh)], [4, 12, 13, 14, 15, 16, 17, 18, 19, 20, 21, 22, 23, 24, 25], []⟩) else none), fun n => none⟩
theorem q142 : ∀ x, runF C142 Try.f142 i142 o142 x = F142 x := by intro x; kernel_rfl
def i147 : List Grp := [⟨.agg, (.cons (.int .i64) (.cons (.int .i64) (.cons .str .nil))), []⟩, ⟨.c, (.cons (.int .i64) .nil), []⟩]
def o147 : List Grp := [⟨.c, (.cons (.int .i64) .nil), []⟩]
/-- laws.szGone -/
noncomputable def F147 : GD i147 → Option (GD o147) := fun x0 => bif iLt (iSub .i64 x0.2.1.1 (ByteArray.size x0.1.2.2.1 : Int)) (0:Int) then some (((-1:Int), ()), ()) else some ((iSub .i64 x0.2.1.1 (ByteArray.size x0.1.2.2.1 : Int), ()), ())
noncomputable def c147 : Con := ⟨i147, o147, F147⟩
noncomputable def C147 : Ctx := ⟨13, TT, EE, fun n => none, fun n k => [], fun n => none, fun n => none⟩
theorem q147 : ∀ x, runF C147 Try.f147 i147 o147 x = F147 x := by intro x; kernel_rfl
def i143 : List Grp := [⟨.c, (.cons (.sl e173) .nil), []⟩, ⟨.c, (.cons (.int .i64) .nil), []⟩]
def o143 : List Grp := [⟨.c, (.cons (.int .i64) .nil), []⟩]
/-- laws.szGoneS -/
noncomputable def F143.b0 (x0 : GD i143) : (v1 : (Int × (Int × Unit))) → Option (Sum (Int × (Int × Unit)) (Sum (Int × (Int × Unit)) (GD o143))) := fun v1 => bif iLt v1.2.1 (List.length x0.1.1 : Int) then (getI x0.1.1 v1.2.1).bind fun x2 => (F147 (x2, ((v1.1, ()), ()))).bind fun y3 => bif iLt y3.1.1 (0:Int) then some (.inr (.inr (((-1:Int), ()), ()))) else some (.inl (y3.1.1, (iAdd .i64 v1.2.1 (1:Int), ()))) else some (.inr (.inl (v1.1, (v1.2.1, ()))))
noncomputable def F143 : GD i143 → Option (GD o143) := fun x0 => bif iLt (iSub .i64 x0.2.1.1 (List.length x0.1.1 : Int)) (0:Int) then some (((-1:Int), ()), ()) else (loopF (F143.b0 x0) (iSub .i64 x0.2.1.1 (List.length x0.1.1 : Int), ((0:Int), ()))).bind fun r5 => Sum.elim (fun v4 => some ((v4.1, ()), ())) some r5
noncomputable def c143 : Con := ⟨i143, o143, F143⟩
noncomputable def C143 : Ctx := ⟨27, TT, EE, fun n => (bif Nat.beq n 147 then some c147 else none), fun n k => [], fun n => (bif Nat.beq n 0 then (some ⟨[(.t 1 (.int .i64) .sh), (.t 5 (.int .i64) .sh)], [4, 12, 13, 14, 15, 16, 17, 18, 19, 20, 21, 22, 23, 24, 25], []⟩) else none), fun n => none⟩
theorem q143 : ∀ x, runF C143 Try.f143 i143 o143 x = F143 x := by intro x; kernel_rfl
def i18 : List Grp := [⟨.agg, (.cons (.int .i64) (.cons (.sl e150) (.cons (.int .i64) (.cons (.int .i64) (.cons (.sl e9) .nil))))), []⟩, ⟨.c, (.cons (.int .i64) .nil), []⟩]
def o18 : List Grp := [⟨.c, (.cons (.int .i64) .nil), []⟩]
/-- laws.szProof -/
noncomputable def F18 : GD i18 → Option (GD o18) := fun x0 => (F46 ((x0.1.2.1, ()), (x0.2.1, ()))).bind fun y1 => bif iLt y1.1.1 (0:Int) then some (((-1:Int), ()), ()) else (F47 ((x0.1.2.2.1, (x0.1.2.2.2.1, (x0.1.2.2.2.2.1, ()))), (y1.1, ()))).bind fun y2 => bif iLt y2.1.1 (0:Int) then some (((-1:Int), ()), ()) else some (y2.1, ())
noncomputable def c18 : Con := ⟨i18, o18, F18⟩
noncomputable def C18 : Ctx := ⟨18, TT, EE, fun n => (bif Nat.ble n 46 then (bif Nat.beq n 46 then some c46 else none) else (bif Nat.beq n 47 then some c47 else none)), fun n k => [], fun n => none, fun n => none⟩
theorem q18 : ∀ x, runF C18 Try.f18 i18 o18 x = F18 x := by intro x; kernel_rfl
def i145 : List Grp := [⟨.c, (.cons (.sl e47) .nil), []⟩, ⟨.c, (.cons (.int .i64) .nil), []⟩]
def o145 : List Grp := [⟨.c, (.cons (.int .i64) .nil), []⟩]
/-- laws.szProofS -/
noncomputable def F145.b0 (x0 : GD i145) : (v1 : (Int × (Int × Unit))) → Option (Sum (Int × (Int × Unit)) (Sum (Int × (Int × Unit)) (GD o145))) := fun v1 => bif iLt v1.2.1 (List.length x0.1.1 : Int) then (getI x0.1.1 v1.2.1).bind fun x2 => (F18 (x2, ((v1.1, ()), ()))).bind fun y3 => bif iLt y3.1.1 (0:Int) then some (.inr (.inr (((-1:Int), ()), ()))) else some (.inl (y3.1.1, (iAdd .i64 v1.2.1 (1:Int), ()))) else some (.inr (.inl (v1.1, (v1.2.1, ()))))
noncomputable def F145 : GD i145 → Option (GD o145) := fun x0 => bif iLt (iSub .i64 x0.2.1.1 (List.length x0.1.1 : Int)) (0:Int) then some (((-1:Int), ()), ()) else (loopF (F145.b0 x0) (iSub .i64 x0.2.1.1 (List.length x0.1.1 : Int), ((0:Int), ()))).bind fun r5 => Sum.elim (fun v4 => some ((v4.1, ()), ())) some r5
noncomputable def c145 : Con := ⟨i145, o145, F145⟩
noncomputable def C145 : Ctx := ⟨27, TT, EE, fun n => (bif Nat.beq n 18 then some c18 else none), fun n k => [], fun n => (bif Nat.beq n 0 then (some ⟨[(.t 1 (.int .i64) .sh), (.t 5 (.int .i64) .sh)], [4, 12, 13, 14, 15, 16, 17, 18, 19, 20, 21, 22, 23, 24, 25], []⟩) else none), fun n => none⟩
theorem q145 : ∀ x, runF C145 Try.f145 i145 o145 x = F145 x := by intro x; kernel_rfl
def i107 : List Grp := [⟨.agg, (.cons .str (.cons (.int .i64) (.cons (.int .i64) (.cons (.sl e133) (.cons (.sl e145) (.cons (.sl e150) (.cons (.int .i64) (.cons (.int .i64) (.cons (.int .i64) (.cons (.int .i64) (.cons (.sl e9) (.cons (.int .i64) (.cons (.sl e9) (.cons (.sl e3) (.cons (.int .i64) (.cons (.sl e171) (.cons (.sl e173) (.cons (.sl e3) (.cons (.sl e232) (.cons (.sl e47) .nil)))))))))))))))))))), []⟩, ⟨.c, (.cons (.int .i64) .nil), []⟩]
def o107 : List Grp := [⟨.c, (.cons (.int .i64) .nil), []⟩]
/-- laws.szNode -/
noncomputable def F107 : GD i107 → Option (GD o107) := fun x0 => bif iLt (iSub .i64 x0.2.1.1 (ByteArray.size x0.1.1 : Int)) (0:Int) then some (((-1:Int), ()), ()) else (F8 ((x0.1.2.2.1, (x0.1.2.2.2.1, ())), ((iSub .i64 x0.2.1.1 (ByteArray.size x0.1.1 : Int), ()), ()))).bind fun y1 => bif iLt y1.1.1 (0:Int) then some (((-1:Int), ()), ()) else (F45 ((x0.1.2.2.2.2.1, ()), (y1.1, ()))).bind fun y2 => bif iLt y2.1.1 (0:Int) then some (((-1:Int), ()), ()) else (F46 ((x0.1.2.2.2.2.2.1, ()), (y2.1, ()))).bind fun y3 => bif iLt y3.1.1 (0:Int) then some (((-1:Int), ()), ()) else (F47 ((x0.1.2.2.2.2.2.2.2.2.1, (x0.1.2.2.2.2.2.2.2.2.2.1, (x0.1.2.2.2.2.2.2.2.2.2.2.1, ()))), (y3.1, ()))).bind fun y4 => bif iLt y4.1.1 (0:Int) then some (((-1:Int), ()), ()) else (F123 ((x0.1.2.2.2.2.2.2.2.2.2.2.2.1, (x0.1.2.2.2.2.2.2.2.2.2.2.2.2.1, (x0.1.2.2.2.2.2.2.2.2.2.2.2.2.2.1, ()))), (y4.1, ()))).bind fun y5 => bif iLt y5.1.1 (0:Int) then some (((-1:Int), ()), ()) else (F142 ((x0.1.2.2.2.2.2.2.2.2.2.2.2.2.2.2.2.1, ()), (y5.1, ()))).bind fun y6 => bif iLt y6.1.1 (0:Int) then some (((-1:Int), ()), ()) else (F143 ((x0.1.2.2.2.2.2.2.2.2.2.2.2.2.2.2.2.2.1, ()), (y6.1, ()))).bind fun y7 => bif iLt y7.1.1 (0:Int) then some (((-1:Int), ()), ()) else (F144 ((x0.1.2.2.2.2.2.2.2.2.2.2.2.2.2.2.2.2.2.1, ()), (y7.1, ()))).bind fun y8 => bif iLt y8.1.1 (0:Int) then some (((-1:Int), ()), ()) else (F124 ((x0.1.2.2.2.2.2.2.2.2.2.2.2.2.2.2.2.2.2.2.1, ()), (y8.1, ()))).bind fun y9 => bif iLt y9.1.1 (0:Int) then some (((-1:Int), ()), ()) else (F145 ((x0.1.2.2.2.2.2.2.2.2.2.2.2.2.2.2.2.2.2.2.2.1, ()), (y9.1, ()))).bind fun y10 => bif iLt y10.1.1 (0:Int) then some (((-1:Int), ()), ()) else some (y10.1, ())
noncomputable def c107 : Con := ⟨i107, o107, F107⟩
noncomputable def C107 : Ctx := ⟨73, TT, EE, fun n => (bif Nat.ble n 123 then (bif Nat.ble n 45 then (bif Nat.ble n 8 then (bif Nat.beq n 8 then some c8 else none) else (bif Nat.beq n 45 then some c45 else none)) else (bif Nat.ble n 46 then (bif Nat.beq n 46 then some c46 else none) else (bif Nat.ble n 47 then (bif Nat.beq n 47 then some c47 else none) else (bif Nat.beq n 123 then some c123 else none)))) else (bif Nat.ble n 142 then (bif Nat.ble n 124 then (bif Nat.beq n 124 then some c124 else none) else (bif Nat.beq n 142 then some c142 else none)) else (bif Nat.ble n 143 then (bif Nat.beq n 143 then some c143 else none) else (bif Nat.ble n 144 then (bif Nat.beq n 144 then some c144 else none) else (bif Nat.beq n 145 then some c145 else none))))), fun n k => [], fun n => none, fun n => none⟩
theorem q107 : ∀ x, runF C107 Try.f107 i107 o107 x = F107 x := by intro x; kernel_rfl
def i67 : List Grp := [⟨.c, (.cons (.sl e166) .nil), []⟩, ⟨.c, (.cons (.int .i64) .nil), []⟩]
def o67 : List Grp := [⟨.c, (.cons (.int .i64) .nil), []⟩]
/-- laws.szNodeS -/
noncomputable def F67.b0 (x0 : GD i67) : (v1 : (Int × (Int × Unit))) → Option (Sum (Int × (Int × Unit)) (Sum (Int × (Int × Unit)) (GD o67))) := fun v1 => bif iLt v1.2.1 (List.length x0.1.1 : Int) then (getI x0.1.1 v1.2.1).bind fun x2 => (F107 (x2, ((v1.1, ()), ()))).bind fun y3 => bif iLt y3.1.1 (0:Int) then some (.inr (.inr (((-1:Int), ()), ()))) else some (.inl (y3.1.1, (iAdd .i64 v1.2.1 (1:Int), ()))) else some (.inr (.inl (v1.1, (v1.2.1, ()))))
noncomputable def F67 : GD i67 → Option (GD o67) := fun x0 => bif iLt (iSub .i64 x0.2.1.1 (List.length x0.1.1 : Int)) (0:Int) then some (((-1:Int), ()), ()) else (loopF (F67.b0 x0) (iSub .i64 x0.2.1.1 (List.length x0.1.1 : Int), ((0:Int), ()))).bind fun r5 => Sum.elim (fun v4 => some ((v4.1, ()), ())) some r5
noncomputable def c67 : Con := ⟨i67, o67, F67⟩
noncomputable def C67 : Ctx := ⟨27, TT, EE, fun n => (bif Nat.beq n 107 then some c107 else none), fun n k => [], fun n => (bif Nat.beq n 0 then (some ⟨[(.t 1 (.int .i64) .sh), (.t 5 (.int .i64) .sh)], [4, 12, 13, 14, 15, 16, 17, 18, 19, 20, 21, 22, 23, 24, 25], []⟩) else none), fun n => none⟩
theorem q67 : ∀ x, runF C67 Try.f67 i67 o67 x = F67 x := by intro x; kernel_rfl
def i108 : List Grp := [⟨.agg, (.cons (.int .i64) (.cons (.int .i64) (.cons (.int .i64) (.cons (.int .i64) (.cons .str .nil))))), []⟩, ⟨.c, (.cons (.int .i64) .nil), []⟩]
def o108 : List Grp := [⟨.c, (.cons (.int .i64) .nil), []⟩]
/-- laws.szSig -/
noncomputable def F108 : GD i108 → Option (GD o108) := fun x0 => bif iLt (iSub .i64 x0.2.1.1 (ByteArray.size x0.1.2.2.2.2.1 : Int)) (0:Int) then some (((-1:Int), ()), ()) else some ((iSub .i64 x0.2.1.1 (ByteArray.size x0.1.2.2.2.2.1 : Int), ()), ())
noncomputable def c108 : Con := ⟨i108, o108, F108⟩
noncomputable def C108 : Ctx := ⟨13, TT, EE, fun n => none, fun n k => [], fun n => none, fun n => none⟩
theorem q108 : ∀ x, runF C108 Try.f108 i108 o108 x = F108 x := by intro x; kernel_rfl
def i68 : List Grp := [⟨.c, (.cons (.sl e168) .nil), []⟩, ⟨.c, (.cons (.int .i64) .nil), []⟩]
def o68 : List Grp := [⟨.c, (.cons (.int .i64) .nil), []⟩]
/-- laws.szSigS -/
noncomputable def F68.b0 (x0 : GD i68) : (v1 : (Int × (Int × Unit))) → Option (Sum (Int × (Int × Unit)) (Sum (Int × (Int × Unit)) (GD o68))) := fun v1 => bif iLt v1.2.1 (List.length x0.1.1 : Int) then (getI x0.1.1 v1.2.1).bind fun x2 => (F108 (x2, ((v1.1, ()), ()))).bind fun y3 => bif iLt y3.1.1 (0:Int) then some (.inr (.inr (((-1:Int), ()), ()))) else some (.inl (y3.1.1, (iAdd .i64 v1.2.1 (1:Int), ()))) else some (.inr (.inl (v1.1, (v1.2.1, ()))))
noncomputable def F68 : GD i68 → Option (GD o68) := fun x0 => bif iLt (iSub .i64 x0.2.1.1 (List.length x0.1.1 : Int)) (0:Int) then some (((-1:Int), ()), ()) else (loopF (F68.b0 x0) (iSub .i64 x0.2.1.1 (List.length x0.1.1 : Int), ((0:Int), ()))).bind fun r5 => Sum.elim (fun v4 => some ((v4.1, ()), ())) some r5
noncomputable def c68 : Con := ⟨i68, o68, F68⟩
noncomputable def C68 : Ctx := ⟨27, TT, EE, fun n => (bif Nat.beq n 108 then some c108 else none), fun n k => [], fun n => (bif Nat.beq n 0 then (some ⟨[(.t 1 (.int .i64) .sh), (.t 5 (.int .i64) .sh)], [4, 12, 13, 14, 15, 16, 17, 18, 19, 20, 21, 22, 23, 24, 25], []⟩) else none), fun n => none⟩
theorem q68 : ∀ x, runF C68 Try.f68 i68 o68 x = F68 x := by intro x; kernel_rfl
def i109 : List Grp := [⟨.agg, (.cons (.int .i64) (.cons .str (.cons (.int .i64) (.cons (.sl e150) (.cons (.int .i64) (.cons (.int .i64) (.cons .str (.cons (.int .i64) (.cons (.int .i64) (.cons .str (.cons (.int .i64) (.cons (.int .i64) (.cons (.sl e9) (.cons (.int .i64) (.cons (.sl e9) (.cons (.sl e3) .nil)))))))))))))))), []⟩, ⟨.c, (.cons (.int .i64) .nil), []⟩]
def o109 : List Grp := [⟨.c, (.cons (.int .i64) .nil), []⟩]
/-- laws.szMsg -/
noncomputable def F109 : GD i109 → Option (GD o109) := fun x0 => bif iLt (iSub .i64 x0.2.1.1 (ByteArray.size x0.1.2.1 : Int)) (0:Int) then some (((-1:Int), ()), ()) else (F46 ((x0.1.2.2.2.1, ()), ((iSub .i64 x0.2.1.1 (ByteArray.size x0.1.2.1 : Int), ()), ()))).bind fun y1 => bif iLt y1.1.1 (0:Int) then some (((-1:Int), ()), ()) else (F146 ((x0.1.2.2.2.2.1, (x0.1.2.2.2.2.2.1, (x0.1.2.2.2.2.2.2.1, ()))), (y1.1, ()))).bind fun y2 => bif iLt y2.1.1 (0:Int) then some (((-1:Int), ()), ()) else (F147 ((x0.1.2.2.2.2.2.2.2.1, (x0.1.2.2.2.2.2.2.2.2.1, (x0.1.2.2.2.2.2.2.2.2.2.1, ()))), (y2.1, ()))).bind fun y3 => bif iLt y3.1.1 (0:Int) then some (((-1:Int), ()), ()) else (F47 ((x0.1.2.2.2.2.2.2.2.2.2.2.1, (x0.1.2.2.2.2.2.2.2.2.2.2.2.1, (x0.1.2.2.2.2.2.2.2.2.2.2.2.2.1, ()))), (y3.1, ()))).bind fun y4 => bif iLt y4.1.1 (0:Int) then some (((-1:Int), ()), ()) else (F123 ((x0.1.2.2.2.2.2.2.2.2.2.2.2.2.2.1, (x0.1.2.2.2.2.2.2.2.2.2.2.2.2.2.2.1, (x0.1.2.2.2.2.2.2.2.2.2.2.2.2.2.2.2.1, ()))), (y4.1, ()))).bind fun y5 => bif iLt y5.1.1 (0:Int) then some (((-1:Int), ()), ()) else some (y5.1, ())
noncomputable def c109 : Con := ⟨i109, o109, F109⟩
noncomputable def C109 : Ctx := ⟨43, TT, EE, fun n => (bif Nat.ble n 47 then (bif Nat.ble n 46 then (bif Nat.beq n 46 then some c46 else none) else (bif Nat.beq n 47 then some c47 else none)) else (bif Nat.ble n 123 then (bif Nat.beq n 123 then some c123 else none) else (bif Nat.ble n 146 then (bif Nat.beq n 146 then some c146 else none) else (bif Nat.beq n 147 then some c147 else none)))), fun n k => [], fun n => none, fun n => none⟩
theorem q109 : ∀ x, runF C109 Try.f109 i109 o109 x = F109 x := by intro x; kernel_rfl
def i69 : List Grp := [⟨.c, (.cons (.sl e175) .nil), []⟩, ⟨.c, (.cons (.int .i64) .nil), []⟩]
def o69 : List Grp := [⟨.c, (.cons (.int .i64) .nil), []⟩]
/-- laws.szMsgS -/
noncomputable def F69.b0 (x0 : GD i69) : (v1 : (Int × (Int × Unit))) → Option (Sum (Int × (Int × Unit)) (Sum (Int × (Int × Unit)) (GD o69))) := fun v1 => bif iLt v1.2.1 (List.length x0.1.1 : Int) then (getI x0.1.1 v1.2.1).bind fun x2 => (F109 (x2, ((v1.1, ()), ()))).bind fun y3 => bif iLt y3.1.1 (0:Int) then some (.inr (.inr (((-1:Int), ()), ()))) else some (.inl (y3.1.1, (iAdd .i64 v1.2.1 (1:Int), ()))) else some (.inr (.inl (v1.1, (v1.2.1, ()))))
noncomputable def F69 : GD i69 → Option (GD o69) := fun x0 => bif iLt (iSub .i64 x0.2.1.1 (List.length x0.1.1 : Int)) (0:Int) then some (((-1:Int), ()), ()) else (loopF (F69.b0 x0) (iSub .i64 x0.2.1.1 (List.length x0.1.1 : Int), ((0:Int), ()))).bind fun r5 => Sum.elim (fun v4 => some ((v4.1, ()), ())) some r5
noncomputable def c69 : Con := ⟨i69, o69, F69⟩
noncomputable def C69 : Ctx := ⟨27, TT, EE, fun n => (bif Nat.beq n 109 then some c109 else none), fun n k => [], fun n => (bif Nat.beq n 0 then (some ⟨[(.t 1 (.int .i64) .sh), (.t 5 (.int .i64) .sh)], [4, 12, 13, 14, 15, 16, 17, 18, 19, 20, 21, 22, 23, 24, 25], []⟩) else none), fun n => none⟩
theorem q69 : ∀ x, runF C69 Try.f69 i69 o69 x = F69 x := by intro x; kernel_rfl
def i25 : List Grp := [⟨.agg, (.cons (.int .i64) (.cons (.sl e133) (.cons (.sl e9) (.cons (.sl e166) (.cons (.sl e150) (.cons (.sl e168) (.cons (.sl e175) .nil))))))), []⟩, ⟨.c, (.cons (.int .i64) .nil), []⟩]
def o25 : List Grp := [⟨.c, (.cons (.int .i64) .nil), []⟩]
/-- laws.szWorld -/
noncomputable def F25 : GD i25 → Option (GD o25) := fun x0 => (F8 ((x0.1.1, (x0.1.2.1, ())), (x0.2.1, ()))).bind fun y1 => bif iLt y1.1.1 (0:Int) then some (((-1:Int), ()), ()) else (F66 ((x0.1.2.2.1, ()), (y1.1, ()))).bind fun y2 => bif iLt y2.1.1 (0:Int) then some (((-1:Int), ()), ()) else (F67 ((x0.1.2.2.2.1, ()), (y2.1, ()))).bind fun y3 => bif iLt y3.1.1 (0:Int) then some (((-1:Int), ()), ()) else (F46 ((x0.1.2.2.2.2.1, ()), (y3.1, ()))).bind fun y4 => bif iLt y4.1.1 (0:Int) then some (((-1:Int), ()), ()) else (F68 ((x0.1.2.2.2.2.2.1, ()), (y4.1, ()))).bind fun y5 => bif iLt y5.1.1 (0:Int) then some (((-1:Int), ()), ()) else (F69 ((x0.1.2.2.2.2.2.2.1, ()), (y5.1, ()))).bind fun y6 => bif iLt y6.1.1 (0:Int) then some (((-1:Int), ()), ()) else some (y6.1, ())
noncomputable def c25 : Con := ⟨i25, o25, F25⟩
noncomputable def C25 : Ctx := ⟨42, TT, EE, fun n => (bif Nat.ble n 66 then (bif Nat.ble n 8 then (bif Nat.beq n 8 then some c8 else none) else (bif Nat.ble n 46 then (bif Nat.beq n 46 then some c46 else none) else (bif Nat.beq n 66 then some c66 else none))) else (bif Nat.ble n 67 then (bif Nat.beq n 67 then some c67 else none) else (bif Nat.ble n 68 then (bif Nat.beq n 68 then some c68 else none) else (bif Nat.beq n 69 then some c69 else none)))), fun n k => [], fun n => none, fun n => none⟩
theorem q25 : ∀ x, runF C25 Try.f25 i25 o25 x = F25 x := by intro x; kernel_rfl
def i161 : List Grp := [⟨.agg, (.cons (.int .i64) (.cons (.int .i64) .nil)), []⟩]
def o161 : List Grp := [⟨.agg, (.cons (.int .i64) (.cons (.int .i64) .nil)), []⟩]
/-- laws.toLeave -/
noncomputable def F161 : GD i161 → Option (GD o161) := fun x0 => some (x0.1, ())
noncomputable def c161 : Con := ⟨i161, o161, F161⟩
noncomputable def C161 : Ctx := ⟨11, TT, EE, fun n => none, fun n k => [], fun n => none, fun n => none⟩
theorem q161 : ∀ x, runF C161 Try.f161 i161 o161 x = F161 x := by intro x; kernel_rfl
def i119 : List Grp := [⟨.c, (.cons (.sl e228) .nil), []⟩]
def o119 : List Grp := [⟨.c, (.cons (.sl e193) .nil), [(.own [])]⟩]
/-- laws.toLeaveS -/
noncomputable def F119.b0 (x0 : GD i119) : (v1 : (Int × (List (Tys.D e193) × Unit))) → Option (Sum (Int × (List (Tys.D e193) × Unit)) (Sum (Int × (List (Tys.D e193) × Unit)) (GD o119))) := fun v1 => bif iLt v1.1 (List.length x0.1.1 : Int) then (getI x0.1.1 v1.1).bind fun x2 => (F161 (x2, ())).bind fun y3 => (getI v1.2.1 v1.1).bind fun _ => (getN v1.2.1 (Int.toNat v1.1)).bind fun x4 => some (.inl (iAdd .i64 v1.1 (1:Int), (List.set v1.2.1 (Int.toNat v1.1) (y3.1.1, (y3.1.2.1, ())), ()))) else some (.inr (.inl (v1.1, (v1.2.1, ()))))
noncomputable def F119 : GD i119 → Option (GD o119) := fun x0 => bif mkOk (List.length x0.1.1 : Int) (List.length x0.1.1 : Int) 16 then (loopF (F119.b0 x0) ((0:Int), (List.replicate (Int.toNat (List.length x0.1.1 : Int)) ((0:Int), ((0:Int), ())), ()))).bind fun r6 => Sum.elim (fun v5 => some ((v5.2.1, ()), ())) some r6 else none
noncomputable def c119 : Con := ⟨i119, o119, F119⟩
noncomputable def C119 : Ctx := ⟨23, TT, EE, fun n => (bif Nat.beq n 161 then some c161 else none), fun n k => [], fun n => (bif Nat.beq n 0 then (some ⟨[(.t 4 (.int .i64) .sh), (.r 8192 e193 [])], [8, 9, 10, 11, 12, 13, 14, 15, 16, 17, 18, 19, 20, 21], []⟩) else none), fun n => none⟩
theorem q119 : ∀ x, runF C119 Try.f119 i119 o119 x = F119 x := by intro x; kernel_rfl
def i81 : List Grp := [⟨.agg, (.cons .str (.cons (.int .i64) (.cons (.int .i64) (.cons (.int .i64) (.cons (.sl e228) .nil))))), []⟩]
def o81 : List Grp := [⟨.agg, (.cons .str (.cons (.int .i64) (.cons (.int .i64) (.cons (.int .i64) (.cons (.sl e193) .nil))))), [.sh, .sh, .sh, .sh, (.own [])]⟩]
/-- laws.toAcct -/
noncomputable def F81 : GD i81 → Option (GD o81) := fun x0 => (F119 ((x0.1.2.2.2.2.1, ()), ())).bind fun y1 => some ((x0.1.1, (x0.1.2.1, (x0.1.2.2.1, (x0.1.2.2.2.1, (y1.1.1, ()))))), ())
noncomputable def c81 : Con := ⟨i81, o81, F81⟩
noncomputable def C81 : Ctx := ⟨21, TT, EE, fun n => (bif Nat.beq n 119 then some c119 else none), fun n k => [], fun n => none, fun n => none⟩
theorem q81 : ∀ x, runF C81 Try.f81 i81 o81 x = F81 x := by intro x; kernel_rfl
def i37 : List Grp := [⟨.c, (.cons (.sl e133) .nil), []⟩]
def o37 : List Grp := [⟨.c, (.cons (.sl e138) .nil), [(.own [.sh, .sh, .sh, .sh, (.own [])])]⟩]
/-- laws.toAcctS -/
noncomputable def F37.b0 (x0 : GD i37) : (v1 : (Int × (List (Tys.D e138) × Unit))) → Option (Sum (Int × (List (Tys.D e138) × Unit)) (Sum (Int × (List (Tys.D e138) × Unit)) (GD o37))) := fun v1 => bif iLt v1.1 (List.length x0.1.1 : Int) then (getI x0.1.1 v1.1).bind fun x2 => (F81 (x2, ())).bind fun y3 => (getI v1.2.1 v1.1).bind fun _ => (getN v1.2.1 (Int.toNat v1.1)).bind fun x4 => some (.inl (iAdd .i64 v1.1 (1:Int), (List.set v1.2.1 (Int.toNat v1.1) (y3.1.1, (y3.1.2.1, (y3.1.2.2.1, (y3.1.2.2.2.1, (y3.1.2.2.2.2.1, ()))))), ()))) else some (.inr (.inl (v1.1, (v1.2.1, ()))))
noncomputable def F37 : GD i37 → Option (GD o37) := fun x0 => bif mkOk (List.length x0.1.1 : Int) (List.length x0.1.1 : Int) 64 then (loopF (F37.b0 x0) ((0:Int), (List.replicate (Int.toNat (List.length x0.1.1 : Int)) (⟨#[]⟩, ((0:Int), ((0:Int), ((0:Int), ([], ()))))), ()))).bind fun r6 => Sum.elim (fun v5 => some ((v5.2.1, ()), ())) some r6 else none
noncomputable def c37 : Con := ⟨i37, o37, F37⟩
noncomputable def C37 : Ctx := ⟨23, TT, EE, fun n => (bif Nat.beq n 81 then some c81 else none), fun n k => (bif Nat.beq n 1 then (match k with | 2 => [.sh, .sh, .sh, .sh, (.own [])] | _ => []) else []), fun n => (bif Nat.beq n 0 then (some ⟨[(.t 4 (.int .i64) .sh), (.r 8192 e138 [.sh, .sh, .sh, .sh, (.own [])])], [8, 9, 10, 11, 12, 13, 14, 15, 16, 17, 18, 19, 20, 21], []⟩) else none), fun n => none⟩
theorem q37 : ∀ x, runF C37 Try.f37 i37 o37 x = F37 x := by intro x; kernel_rfl
def i10 : List Grp := [⟨.agg, (.cons (.int .i64) (.cons (.sl e133) .nil)), []⟩]
def o10 : List Grp := [⟨.agg, (.cons (.int .i64) (.cons (.sl e138) .nil)), [.sh, (.own [.sh, .sh, .sh, .sh, (.own [])])]⟩]
/-- laws.toLedger -/
noncomputable def F10 : GD i10 → Option (GD o10) := fun x0 => (F37 ((x0.1.2.1, ()), ())).bind fun y1 => some ((x0.1.1, (y1.1.1, ())), ())
noncomputable def c10 : Con := ⟨i10, o10, F10⟩
noncomputable def C10 : Ctx := ⟨12, TT, EE, fun n => (bif Nat.beq n 37 then some c37 else none), fun n k => [], fun n => none, fun n => none⟩
theorem q10 : ∀ x, runF C10 Try.f10 i10 o10 x = F10 x := by intro x; kernel_rfl
def i70 : List Grp := [⟨.c, (.cons (.sl e9) .nil), []⟩]
def o70 : List Grp := [⟨.c, (.cons (.sl e9) .nil), [(.own [])]⟩]
/-- laws.toStringS -/
noncomputable def F70.b0 (x0 : GD i70) : (v1 : (Int × (List (Tys.D e9) × Unit))) → Option (Sum (Int × (List (Tys.D e9) × Unit)) (Sum (Int × (List (Tys.D e9) × Unit)) (GD o70))) := fun v1 => bif iLt v1.1 (List.length x0.1.1 : Int) then (getI x0.1.1 v1.1).bind fun x2 => (getI v1.2.1 v1.1).bind fun _ => (getN v1.2.1 (Int.toNat v1.1)).bind fun x3 => some (.inl (iAdd .i64 v1.1 (1:Int), (List.set v1.2.1 (Int.toNat v1.1) (x2.1, ()), ()))) else some (.inr (.inl (v1.1, (v1.2.1, ()))))
noncomputable def F70 : GD i70 → Option (GD o70) := fun x0 => bif mkOk (List.length x0.1.1 : Int) (List.length x0.1.1 : Int) 16 then (loopF (F70.b0 x0) ((0:Int), (List.replicate (Int.toNat (List.length x0.1.1 : Int)) (⟨#[]⟩, ()), ()))).bind fun r5 => Sum.elim (fun v4 => some ((v4.2.1, ()), ())) some r5 else none
noncomputable def c70 : Con := ⟨i70, o70, F70⟩
noncomputable def C70 : Ctx := ⟨22, TT, EE, fun n => none, fun n k => [], fun n => (bif Nat.beq n 0 then (some ⟨[(.t 4 (.int .i64) .sh), (.r 8192 e9 [])], [8, 9, 10, 11, 12, 13, 14, 15, 16, 17, 18, 19, 20], []⟩) else none), fun n => none⟩
theorem q70 : ∀ x, runF C70 Try.f70 i70 o70 x = F70 x := by intro x; kernel_rfl
def i95 : List Grp := [⟨.agg, (.cons .str (.cons (.int .i64) .nil)), []⟩]
def o95 : List Grp := [⟨.agg, (.cons .str (.cons (.int .i64) .nil)), []⟩]
/-- laws.toVal -/
noncomputable def F95 : GD i95 → Option (GD o95) := fun x0 => some (x0.1, ())
noncomputable def c95 : Con := ⟨i95, o95, F95⟩
noncomputable def C95 : Ctx := ⟨11, TT, EE, fun n => none, fun n k => [], fun n => none, fun n => none⟩
theorem q95 : ∀ x, runF C95 Try.f95 i95 o95 x = F95 x := by intro x; kernel_rfl
def i52 : List Grp := [⟨.c, (.cons (.sl e145) .nil), []⟩]
def o52 : List Grp := [⟨.c, (.cons (.sl e106) .nil), [(.own [])]⟩]
/-- laws.toValS -/
noncomputable def F52.b0 (x0 : GD i52) : (v1 : (Int × (List (Tys.D e106) × Unit))) → Option (Sum (Int × (List (Tys.D e106) × Unit)) (Sum (Int × (List (Tys.D e106) × Unit)) (GD o52))) := fun v1 => bif iLt v1.1 (List.length x0.1.1 : Int) then (getI x0.1.1 v1.1).bind fun x2 => (F95 (x2, ())).bind fun y3 => (getI v1.2.1 v1.1).bind fun _ => (getN v1.2.1 (Int.toNat v1.1)).bind fun x4 => some (.inl (iAdd .i64 v1.1 (1:Int), (List.set v1.2.1 (Int.toNat v1.1) (y3.1.1, (y3.1.2.1, ())), ()))) else some (.inr (.inl (v1.1, (v1.2.1, ()))))
noncomputable def F52 : GD i52 → Option (GD o52) := fun x0 => bif mkOk (List.length x0.1.1 : Int) (List.length x0.1.1 : Int) 24 then (loopF (F52.b0 x0) ((0:Int), (List.replicate (Int.toNat (List.length x0.1.1 : Int)) (⟨#[]⟩, ((0:Int), ())), ()))).bind fun r6 => Sum.elim (fun v5 => some ((v5.2.1, ()), ())) some r6 else none
noncomputable def c52 : Con := ⟨i52, o52, F52⟩
noncomputable def C52 : Ctx := ⟨23, TT, EE, fun n => (bif Nat.beq n 95 then some c95 else none), fun n k => [], fun n => (bif Nat.beq n 0 then (some ⟨[(.t 4 (.int .i64) .sh), (.r 8192 e106 [])], [8, 9, 10, 11, 12, 13, 14, 15, 16, 17, 18, 19, 20, 21], []⟩) else none), fun n => none⟩
theorem q52 : ∀ x, runF C52 Try.f52 i52 o52 x = F52 x := by intro x; kernel_rfl
def i54 : List Grp := [⟨.agg, (.cons (.int .i64) (.cons (.int .i64) (.cons (.sl e9) .nil))), []⟩]
def o54 : List Grp := [⟨.agg, (.cons (.int .i64) (.cons (.int .i64) (.cons (.sl e9) .nil))), [.sh, .sh, (.own [])]⟩]
/-- laws.toQc -/
noncomputable def F54 : GD i54 → Option (GD o54) := fun x0 => (F70 ((x0.1.2.2.1, ()), ())).bind fun y1 => some ((x0.1.1, (x0.1.2.1, (y1.1.1, ()))), ())
noncomputable def c54 : Con := ⟨i54, o54, F54⟩
noncomputable def C54 : Ctx := ⟨15, TT, EE, fun n => (bif Nat.beq n 70 then some c70 else none), fun n k => [], fun n => none, fun n => none⟩
theorem q54 : ∀ x, runF C54 Try.f54 i54 o54 x = F54 x := by intro x; kernel_rfl
def i150 : List Grp := [⟨.c, (.cons (.sl e3) .nil), []⟩]
def o150 : List Grp := [⟨.c, (.cons (.sl e3) .nil), [(.own [])]⟩]
/-- laws.toIntS -/
noncomputable def F150.b0 (x0 : GD i150) : (v1 : (Int × (List (Tys.D e3) × Unit))) → Option (Sum (Int × (List (Tys.D e3) × Unit)) (Sum (Int × (List (Tys.D e3) × Unit)) (GD o150))) := fun v1 => bif iLt v1.1 (List.length x0.1.1 : Int) then (getI x0.1.1 v1.1).bind fun x2 => (getI v1.2.1 v1.1).bind fun _ => (getN v1.2.1 (Int.toNat v1.1)).bind fun x3 => some (.inl (iAdd .i64 v1.1 (1:Int), (List.set v1.2.1 (Int.toNat v1.1) (x2.1, ()), ()))) else some (.inr (.inl (v1.1, (v1.2.1, ()))))
noncomputable def F150 : GD i150 → Option (GD o150) := fun x0 => bif mkOk (List.length x0.1.1 : Int) (List.length x0.1.1 : Int) 8 then (loopF (F150.b0 x0) ((0:Int), (List.replicate (Int.toNat (List.length x0.1.1 : Int)) ((0:Int), ()), ()))).bind fun r5 => Sum.elim (fun v4 => some ((v4.2.1, ()), ())) some r5 else none
noncomputable def c150 : Con := ⟨i150, o150, F150⟩
noncomputable def C150 : Ctx := ⟨22, TT, EE, fun n => none, fun n k => [], fun n => (bif Nat.beq n 0 then (some ⟨[(.t 4 (.int .i64) .sh), (.r 8192 e3 [])], [8, 9, 10, 11, 12, 13, 14, 15, 16, 17, 18, 19, 20], []⟩) else none), fun n => none⟩
theorem q150 : ∀ x, runF C150 Try.f150 i150 o150 x = F150 x := by intro x; kernel_rfl
def i132 : List Grp := [⟨.agg, (.cons (.int .i64) (.cons (.sl e9) (.cons (.sl e3) .nil))), []⟩]
def o132 : List Grp := [⟨.agg, (.cons (.int .i64) (.cons (.sl e9) (.cons (.sl e3) .nil))), [.sh, (.own []), (.own [])]⟩]
/-- laws.toTc -/
noncomputable def F132 : GD i132 → Option (GD o132) := fun x0 => (F70 ((x0.1.2.1, ()), ())).bind fun y1 => (F150 ((x0.1.2.2.1, ()), ())).bind fun y2 => some ((x0.1.1, (y1.1.1, (y2.1.1, ()))), ())
noncomputable def c132 : Con := ⟨i132, o132, F132⟩
noncomputable def C132 : Ctx := ⟨16, TT, EE, fun n => (bif Nat.ble n 70 then (bif Nat.beq n 70 then some c70 else none) else (bif Nat.beq n 150 then some c150 else none)), fun n k => [], fun n => none, fun n => none⟩
theorem q132 : ∀ x, runF C132 Try.f132 i132 o132 x = F132 x := by intro x; kernel_rfl
def i167 : List Grp := [⟨.agg, (.cons (.int .i64) (.cons .str (.cons .str (.cons (.int .i64) (.cons (.int .i64) .nil))))), []⟩]
def o167 : List Grp := [⟨.agg, (.cons (.int .i64) (.cons .str (.cons .str (.cons (.int .i64) (.cons (.int .i64) .nil))))), []⟩]
/-- laws.toTx -/
noncomputable def F167 : GD i167 → Option (GD o167) := fun x0 => some (x0.1, ())
noncomputable def c167 : Con := ⟨i167, o167, F167⟩
noncomputable def C167 : Ctx := ⟨20, TT, EE, fun n => none, fun n k => [], fun n => none, fun n => none⟩
theorem q167 : ∀ x, runF C167 Try.f167 i167 o167 x = F167 x := by intro x; kernel_rfl
def i133 : List Grp := [⟨.c, (.cons (.sl e232) .nil), []⟩]
def o133 : List Grp := [⟨.c, (.cons (.sl e198) .nil), [(.own [])]⟩]
/-- laws.toTxS -/
noncomputable def F133.b0 (x0 : GD i133) : (v1 : (Int × (List (Tys.D e198) × Unit))) → Option (Sum (Int × (List (Tys.D e198) × Unit)) (Sum (Int × (List (Tys.D e198) × Unit)) (GD o133))) := fun v1 => bif iLt v1.1 (List.length x0.1.1 : Int) then (getI x0.1.1 v1.1).bind fun x2 => (F167 (x2, ())).bind fun y3 => (getI v1.2.1 v1.1).bind fun _ => (getN v1.2.1 (Int.toNat v1.1)).bind fun x4 => some (.inl (iAdd .i64 v1.1 (1:Int), (List.set v1.2.1 (Int.toNat v1.1) (y3.1.1, (y3.1.2.1, (y3.1.2.2.1, (y3.1.2.2.2.1, (y3.1.2.2.2.2.1, ()))))), ()))) else some (.inr (.inl (v1.1, (v1.2.1, ()))))
noncomputable def F133 : GD i133 → Option (GD o133) := fun x0 => bif mkOk (List.length x0.1.1 : Int) (List.length x0.1.1 : Int) 56 then (loopF (F133.b0 x0) ((0:Int), (List.replicate (Int.toNat (List.length x0.1.1 : Int)) ((0:Int), (⟨#[]⟩, (⟨#[]⟩, ((0:Int), ((0:Int), ()))))), ()))).bind fun r6 => Sum.elim (fun v5 => some ((v5.2.1, ()), ())) some r6 else none
noncomputable def c133 : Con := ⟨i133, o133, F133⟩
noncomputable def C133 : Ctx := ⟨23, TT, EE, fun n => (bif Nat.beq n 167 then some c167 else none), fun n k => [], fun n => (bif Nat.beq n 0 then (some ⟨[(.t 4 (.int .i64) .sh), (.r 8192 e198 [])], [8, 9, 10, 11, 12, 13, 14, 15, 16, 17, 18, 19, 20, 21], []⟩) else none), fun n => none⟩
theorem q133 : ∀ x, runF C133 Try.f133 i133 o133 x = F133 x := by intro x; kernel_rfl
def i96 : List Grp := [⟨.agg, (.cons (.int .i64) (.cons (.int .i64) (.cons (.int .i64) (.cons .str (.cons (.int .i64) (.cons (.int .i64) (.cons (.sl e9) (.cons (.int .i64) (.cons (.sl e9) (.cons (.sl e3) (.cons (.sl e232) (.cons .bool (.cons (.sl e145) (.cons .str .nil)))))))))))))), []⟩]
def o96 : List Grp := [⟨.agg, (.cons (.int .i64) (.cons (.int .i64) (.cons (.int .i64) (.cons .str (.cons (.int .i64) (.cons (.int .i64) (.cons (.sl e9) (.cons (.int .i64) (.cons (.sl e9) (.cons (.sl e3) (.cons (.sl e198) (.cons .bool (.cons (.sl e106) (.cons .str .nil)))))))))))))), [.sh, .sh, .sh, .sh, .sh, .sh, (.own []), .sh, (.own []), (.own []), (.own []), .sh, (.own [])]⟩]
/-- laws.toBlock -/
noncomputable def F96 : GD i96 → Option (GD o96) := fun x0 => (F54 ((x0.1.2.2.2.2.1, (x0.1.2.2.2.2.2.1, (x0.1.2.2.2.2.2.2.1, ()))), ())).bind fun y1 => (F132 ((x0.1.2.2.2.2.2.2.2.1, (x0.1.2.2.2.2.2.2.2.2.1, (x0.1.2.2.2.2.2.2.2.2.2.1, ()))), ())).bind fun y2 => (F133 ((x0.1.2.2.2.2.2.2.2.2.2.2.1, ()), ())).bind fun y3 => (F52 ((x0.1.2.2.2.2.2.2.2.2.2.2.2.2.1, ()), ())).bind fun y4 => some ((x0.1.1, (x0.1.2.1, (x0.1.2.2.1, (x0.1.2.2.2.1, (y1.1.1, (y1.1.2.1, (y1.1.2.2.1, (y2.1.1, (y2.1.2.1, (y2.1.2.2.1, (y3.1.1, (x0.1.2.2.2.2.2.2.2.2.2.2.2.1, (y4.1.1, (x0.1.2.2.2.2.2.2.2.2.2.2.2.2.2.1, ())))))))))))))), ())
noncomputable def c96 : Con := ⟨i96, o96, F96⟩
noncomputable def C96 : Ctx := ⟨39, TT, EE, fun n => (bif Nat.ble n 54 then (bif Nat.ble n 52 then (bif Nat.beq n 52 then some c52 else none) else (bif Nat.beq n 54 then some c54 else none)) else (bif Nat.ble n 132 then (bif Nat.beq n 132 then some c132 else none) else (bif Nat.beq n 133 then some c133 else none))), fun n k => [], fun n => none, fun n => none⟩
theorem q96 : ∀ x, runF C96 Try.f96 i96 o96 x = F96 x := by intro x; kernel_rfl
def i53 : List Grp := [⟨.c, (.cons (.sl e150) .nil), []⟩]
def o53 : List Grp := [⟨.c, (.cons (.sl e96) .nil), [(.own [.sh, .sh, .sh, .sh, .sh, .sh, (.own []), .sh, (.own []), (.own []), (.own []), .sh, (.own [])])]⟩]
/-- laws.toBlockS -/
noncomputable def F53.b0 (x0 : GD i53) : (v1 : (Int × (List (Tys.D e96) × Unit))) → Option (Sum (Int × (List (Tys.D e96) × Unit)) (Sum (Int × (List (Tys.D e96) × Unit)) (GD o53))) := fun v1 => bif iLt v1.1 (List.length x0.1.1 : Int) then (getI x0.1.1 v1.1).bind fun x2 => (F96 (x2, ())).bind fun y3 => (getI v1.2.1 v1.1).bind fun _ => (getN v1.2.1 (Int.toNat v1.1)).bind fun x4 => some (.inl (iAdd .i64 v1.1 (1:Int), (List.set v1.2.1 (Int.toNat v1.1) (y3.1.1, (y3.1.2.1, (y3.1.2.2.1, (y3.1.2.2.2.1, (y3.1.2.2.2.2.1, (y3.1.2.2.2.2.2.1, (y3.1.2.2.2.2.2.2.1, (y3.1.2.2.2.2.2.2.2.1, (y3.1.2.2.2.2.2.2.2.2.1, (y3.1.2.2.2.2.2.2.2.2.2.1, (y3.1.2.2.2.2.2.2.2.2.2.2.1, (y3.1.2.2.2.2.2.2.2.2.2.2.2.1, (y3.1.2.2.2.2.2.2.2.2.2.2.2.2.1, (y3.1.2.2.2.2.2.2.2.2.2.2.2.2.2.1, ())))))))))))))), ()))) else some (.inr (.inl (v1.1, (v1.2.1, ()))))
noncomputable def F53 : GD i53 → Option (GD o53) := fun x0 => bif mkOk (List.length x0.1.1 : Int) (List.length x0.1.1 : Int) 208 then (loopF (F53.b0 x0) ((0:Int), (List.replicate (Int.toNat (List.length x0.1.1 : Int)) ((0:Int), ((0:Int), ((0:Int), (⟨#[]⟩, ((0:Int), ((0:Int), ([], ((0:Int), ([], ([], ([], (false, ([], (⟨#[]⟩, ())))))))))))))), ()))).bind fun r6 => Sum.elim (fun v5 => some ((v5.2.1, ()), ())) some r6 else none
noncomputable def c53 : Con := ⟨i53, o53, F53⟩
noncomputable def C53 : Ctx := ⟨23, TT, EE, fun n => (bif Nat.beq n 96 then some c96 else none), fun n k => (bif Nat.beq n 1 then (match k with | 2 => [.sh, .sh, .sh, .sh, .sh, .sh, (.own []), .sh, (.own []), (.own []), (.own []), .sh, (.own [])] | _ => []) else []), fun n => (bif Nat.beq n 0 then (some ⟨[(.t 4 (.int .i64) .sh), (.r 8192 e96 [.sh, .sh, .sh, .sh, .sh, .sh, (.own []), .sh, (.own []), (.own []), (.own []), .sh, (.own [])])], [8, 9, 10, 11, 12, 13, 14, 15, 16, 17, 18, 19, 20, 21], []⟩) else none), fun n => none⟩
theorem q53 : ∀ x, runF C53 Try.f53 i53 o53 x = F53 x := by intro x; kernel_rfl
def i152 : List Grp := [⟨.agg, (.cons (.int .i64) (.cons (.int .i64) (.cons .str .nil))), []⟩]
def o152 : List Grp := [⟨.agg, (.cons (.int .i64) (.cons (.int .i64) (.cons .str .nil))), []⟩]
/-- laws.toVote -/
noncomputable def F152 : GD i152 → Option (GD o152) := fun x0 => some (x0.1, ())
noncomputable def c152 : Con := ⟨i152, o152, F152⟩
noncomputable def C152 : Ctx := ⟨14, TT, EE, fun n => none, fun n k => [], fun n => none, fun n => none⟩
theorem q152 : ∀ x, runF C152 Try.f152 i152 o152 x = F152 x := by intro x; kernel_rfl
def i148 : List Grp := [⟨.c, (.cons (.sl e171) .nil), []⟩]
def o148 : List Grp := [⟨.c, (.cons (.sl e178) .nil), [(.own [])]⟩]
/-- laws.toVoteS -/
noncomputable def F148.b0 (x0 : GD i148) : (v1 : (Int × (List (Tys.D e178) × Unit))) → Option (Sum (Int × (List (Tys.D e178) × Unit)) (Sum (Int × (List (Tys.D e178) × Unit)) (GD o148))) := fun v1 => bif iLt v1.1 (List.length x0.1.1 : Int) then (getI x0.1.1 v1.1).bind fun x2 => (F152 (x2, ())).bind fun y3 => (getI v1.2.1 v1.1).bind fun _ => (getN v1.2.1 (Int.toNat v1.1)).bind fun x4 => some (.inl (iAdd .i64 v1.1 (1:Int), (List.set v1.2.1 (Int.toNat v1.1) (y3.1.1, (y3.1.2.1, (y3.1.2.2.1, ()))), ()))) else some (.inr (.inl (v1.1, (v1.2.1, ()))))
noncomputable def F148 : GD i148 → Option (GD o148) := fun x0 => bif mkOk (List.length x0.1.1 : Int) (List.length x0.1.1 : Int) 32 then (loopF (F148.b0 x0) ((0:Int), (List.replicate (Int.toNat (List.length x0.1.1 : Int)) ((0:Int), ((0:Int), (⟨#[]⟩, ()))), ()))).bind fun r6 => Sum.elim (fun v5 => some ((v5.2.1, ()), ())) some r6 else none
noncomputable def c148 : Con := ⟨i148, o148, F148⟩
noncomputable def C148 : Ctx := ⟨23, TT, EE, fun n => (bif Nat.beq n 152 then some c152 else none), fun n k => [], fun n => (bif Nat.beq n 0 then (some ⟨[(.t 4 (.int .i64) .sh), (.r 8192 e178 [])], [8, 9, 10, 11, 12, 13, 14, 15, 16, 17, 18, 19, 20, 21], []⟩) else none), fun n => none⟩
theorem q148 : ∀ x, runF C148 Try.f148 i148 o148 x = F148 x := by intro x; kernel_rfl
def i153 : List Grp := [⟨.agg, (.cons (.int .i64) (.cons (.int .i64) (.cons .str .nil))), []⟩]
def o153 : List Grp := [⟨.agg, (.cons (.int .i64) (.cons (.int .i64) (.cons .str .nil))), []⟩]
/-- laws.toGone -/
noncomputable def F153 : GD i153 → Option (GD o153) := fun x0 => some (x0.1, ())
noncomputable def c153 : Con := ⟨i153, o153, F153⟩
noncomputable def C153 : Ctx := ⟨14, TT, EE, fun n => none, fun n k => [], fun n => none, fun n => none⟩
theorem q153 : ∀ x, runF C153 Try.f153 i153 o153 x = F153 x := by intro x; kernel_rfl
def i149 : List Grp := [⟨.c, (.cons (.sl e173) .nil), []⟩]
def o149 : List Grp := [⟨.c, (.cons (.sl e179) .nil), [(.own [])]⟩]
/-- laws.toGoneS -/
noncomputable def F149.b0 (x0 : GD i149) : (v1 : (Int × (List (Tys.D e179) × Unit))) → Option (Sum (Int × (List (Tys.D e179) × Unit)) (Sum (Int × (List (Tys.D e179) × Unit)) (GD o149))) := fun v1 => bif iLt v1.1 (List.length x0.1.1 : Int) then (getI x0.1.1 v1.1).bind fun x2 => (F153 (x2, ())).bind fun y3 => (getI v1.2.1 v1.1).bind fun _ => (getN v1.2.1 (Int.toNat v1.1)).bind fun x4 => some (.inl (iAdd .i64 v1.1 (1:Int), (List.set v1.2.1 (Int.toNat v1.1) (y3.1.1, (y3.1.2.1, (y3.1.2.2.1, ()))), ()))) else some (.inr (.inl (v1.1, (v1.2.1, ()))))
noncomputable def F149 : GD i149 → Option (GD o149) := fun x0 => bif mkOk (List.length x0.1.1 : Int) (List.length x0.1.1 : Int) 32 then (loopF (F149.b0 x0) ((0:Int), (List.replicate (Int.toNat (List.length x0.1.1 : Int)) ((0:Int), ((0:Int), (⟨#[]⟩, ()))), ()))).bind fun r6 => Sum.elim (fun v5 => some ((v5.2.1, ()), ())) some r6 else none
noncomputable def c149 : Con := ⟨i149, o149, F149⟩
noncomputable def C149 : Ctx := ⟨23, TT, EE, fun n => (bif Nat.beq n 153 then some c153 else none), fun n k => [], fun n => (bif Nat.beq n 0 then (some ⟨[(.t 4 (.int .i64) .sh), (.r 8192 e179 [])], [8, 9, 10, 11, 12, 13, 14, 15, 16, 17, 18, 19, 20, 21], []⟩) else none), fun n => none⟩
theorem q149 : ∀ x, runF C149 Try.f149 i149 o149 x = F149 x := by intro x; kernel_rfl
def i21 : List Grp := [⟨.agg, (.cons (.int .i64) (.cons (.sl e150) (.cons (.int .i64) (.cons (.int .i64) (.cons (.sl e9) .nil))))), []⟩]
def o21 : List Grp := [⟨.agg, (.cons (.int .i64) (.cons (.sl e96) (.cons (.int .i64) (.cons (.int .i64) (.cons (.sl e9) .nil))))), [.sh, (.own [.sh, .sh, .sh, .sh, .sh, .sh, (.own []), .sh, (.own []), (.own []), (.own []), .sh, (.own [])]), .sh, .sh, (.own [])]⟩]
/-- laws.toProof -/
noncomputable def F21 : GD i21 → Option (GD o21) := fun x0 => (F53 ((x0.1.2.1, ()), ())).bind fun y1 => (F54 ((x0.1.2.2.1, (x0.1.2.2.2.1, (x0.1.2.2.2.2.1, ()))), ())).bind fun y2 => some ((x0.1.1, (y1.1.1, (y2.1.1, (y2.1.2.1, (y2.1.2.2.1, ()))))), ())
noncomputable def c21 : Con := ⟨i21, o21, F21⟩
noncomputable def C21 : Ctx := ⟨16, TT, EE, fun n => (bif Nat.ble n 53 then (bif Nat.beq n 53 then some c53 else none) else (bif Nat.beq n 54 then some c54 else none)), fun n k => [], fun n => none, fun n => none⟩
theorem q21 : ∀ x, runF C21 Try.f21 i21 o21 x = F21 x := by intro x; kernel_rfl
def i151 : List Grp := [⟨.c, (.cons (.sl e47) .nil), []⟩]
def o151 : List Grp := [⟨.c, (.cons (.sl e56) .nil), [(.own [.sh, (.own [.sh, .sh, .sh, .sh, .sh, .sh, (.own []), .sh, (.own []), (.own []), (.own []), .sh, (.own [])]), .sh, .sh, (.own [])])]⟩]
/-- laws.toProofS -/
noncomputable def F151.b0 (x0 : GD i151) : (v1 : (Int × (List (Tys.D e56) × Unit))) → Option (Sum (Int × (List (Tys.D e56) × Unit)) (Sum (Int × (List (Tys.D e56) × Unit)) (GD o151))) := fun v1 => bif iLt v1.1 (List.length x0.1.1 : Int) then (getI x0.1.1 v1.1).bind fun x2 => (F21 (x2, ())).bind fun y3 => (getI v1.2.1 v1.1).bind fun _ => (getN v1.2.1 (Int.toNat v1.1)).bind fun x4 => some (.inl (iAdd .i64 v1.1 (1:Int), (List.set v1.2.1 (Int.toNat v1.1) (y3.1.1, (y3.1.2.1, (y3.1.2.2.1, (y3.1.2.2.2.1, (y3.1.2.2.2.2.1, ()))))), ()))) else some (.inr (.inl (v1.1, (v1.2.1, ()))))
noncomputable def F151 : GD i151 → Option (GD o151) := fun x0 => bif mkOk (List.length x0.1.1 : Int) (List.length x0.1.1 : Int) 72 then (loopF (F151.b0 x0) ((0:Int), (List.replicate (Int.toNat (List.length x0.1.1 : Int)) ((0:Int), ([], ((0:Int), ((0:Int), ([], ()))))), ()))).bind fun r6 => Sum.elim (fun v5 => some ((v5.2.1, ()), ())) some r6 else none
noncomputable def c151 : Con := ⟨i151, o151, F151⟩
noncomputable def C151 : Ctx := ⟨23, TT, EE, fun n => (bif Nat.beq n 21 then some c21 else none), fun n k => (bif Nat.beq n 1 then (match k with | 2 => [.sh, (.own [.sh, .sh, .sh, .sh, .sh, .sh, (.own []), .sh, (.own []), (.own []), (.own []), .sh, (.own [])]), .sh, .sh, (.own [])] | _ => []) else []), fun n => (bif Nat.beq n 0 then (some ⟨[(.t 4 (.int .i64) .sh), (.r 8192 e56 [.sh, (.own [.sh, .sh, .sh, .sh, .sh, .sh, (.own []), .sh, (.own []), (.own []), (.own []), .sh, (.own [])]), .sh, .sh, (.own [])])], [8, 9, 10, 11, 12, 13, 14, 15, 16, 17, 18, 19, 20, 21], []⟩) else none), fun n => none⟩
theorem q151 : ∀ x, runF C151 Try.f151 i151 o151 x = F151 x := by intro x; kernel_rfl
def i110 : List Grp := [⟨.agg, (.cons .str (.cons (.int .i64) (.cons (.int .i64) (.cons (.sl e133) (.cons (.sl e145) (.cons (.sl e150) (.cons (.int .i64) (.cons (.int .i64) (.cons (.int .i64) (.cons (.int .i64) (.cons (.sl e9) (.cons (.int .i64) (.cons (.sl e9) (.cons (.sl e3) (.cons (.int .i64) (.cons (.sl e171) (.cons (.sl e173) (.cons (.sl e3) (.cons (.sl e232) (.cons (.sl e47) .nil)))))))))))))))))))), []⟩]
def o110 : List Grp := [⟨.agg, (.cons .str (.cons (.int .i64) (.cons (.int .i64) (.cons (.sl e138) (.cons (.sl e106) (.cons (.sl e96) (.cons (.int .i64) (.cons (.int .i64) (.cons (.int .i64) (.cons (.int .i64) (.cons (.sl e9) (.cons (.int .i64) (.cons (.sl e9) (.cons (.sl e3) (.cons (.int .i64) (.cons (.sl e178) (.cons (.sl e179) (.cons (.sl e3) (.cons (.sl e198) (.cons (.sl e56) .nil)))))))))))))))))))), [.sh, .sh, .sh, (.own [.sh, .sh, .sh, .sh, (.own [])]), (.own []), (.own [.sh, .sh, .sh, .sh, .sh, .sh, (.own []), .sh, (.own []), (.own []), (.own []), .sh, (.own [])]), .sh, .sh, .sh, .sh, (.own []), .sh, (.own []), (.own []), .sh, (.own []), (.own []), (.own []), (.own []), (.own [.sh, (.own [.sh, .sh, .sh, .sh, .sh, .sh, (.own []), .sh, (.own []), (.own []), (.own []), .sh, (.own [])]), .sh, .sh, (.own [])])]⟩]
/-- laws.toNode -/
noncomputable def F110 : GD i110 → Option (GD o110) := fun x0 => (F10 ((x0.1.2.2.1, (x0.1.2.2.2.1, ())), ())).bind fun y1 => (F52 ((x0.1.2.2.2.2.1, ()), ())).bind fun y2 => (F53 ((x0.1.2.2.2.2.2.1, ()), ())).bind fun y3 => (F54 ((x0.1.2.2.2.2.2.2.2.2.1, (x0.1.2.2.2.2.2.2.2.2.2.1, (x0.1.2.2.2.2.2.2.2.2.2.2.1, ()))), ())).bind fun y4 => (F132 ((x0.1.2.2.2.2.2.2.2.2.2.2.2.1, (x0.1.2.2.2.2.2.2.2.2.2.2.2.2.1, (x0.1.2.2.2.2.2.2.2.2.2.2.2.2.2.1, ()))), ())).bind fun y5 => (F148 ((x0.1.2.2.2.2.2.2.2.2.2.2.2.2.2.2.2.1, ()), ())).bind fun y6 => (F149 ((x0.1.2.2.2.2.2.2.2.2.2.2.2.2.2.2.2.2.1, ()), ())).bind fun y7 => (F150 ((x0.1.2.2.2.2.2.2.2.2.2.2.2.2.2.2.2.2.2.1, ()), ())).bind fun y8 => (F133 ((x0.1.2.2.2.2.2.2.2.2.2.2.2.2.2.2.2.2.2.2.1, ()), ())).bind fun y9 => (F151 ((x0.1.2.2.2.2.2.2.2.2.2.2.2.2.2.2.2.2.2.2.2.1, ()), ())).bind fun y10 => some ((x0.1.1, (x0.1.2.1, (y1.1.1, (y1.1.2.1, (y2.1.1, (y3.1.1, (x0.1.2.2.2.2.2.2.1, (x0.1.2.2.2.2.2.2.2.1, (y4.1.1, (y4.1.2.1, (y4.1.2.2.1, (y5.1.1, (y5.1.2.1, (y5.1.2.2.1, (x0.1.2.2.2.2.2.2.2.2.2.2.2.2.2.2.1, (y6.1.1, (y7.1.1, (y8.1.1, (y9.1.1, (y10.1.1, ())))))))))))))))))))), ())
noncomputable def c110 : Con := ⟨i110, o110, F110⟩
noncomputable def C110 : Ctx := ⟨60, TT, EE, fun n => (bif Nat.ble n 132 then (bif Nat.ble n 52 then (bif Nat.ble n 10 then (bif Nat.beq n 10 then some c10 else none) else (bif Nat.beq n 52 then some c52 else none)) else (bif Nat.ble n 53 then (bif Nat.beq n 53 then some c53 else none) else (bif Nat.ble n 54 then (bif Nat.beq n 54 then some c54 else none) else (bif Nat.beq n 132 then some c132 else none)))) else (bif Nat.ble n 148 then (bif Nat.ble n 133 then (bif Nat.beq n 133 then some c133 else none) else (bif Nat.beq n 148 then some c148 else none)) else (bif Nat.ble n 149 then (bif Nat.beq n 149 then some c149 else none) else (bif Nat.ble n 150 then (bif Nat.beq n 150 then some c150 else none) else (bif Nat.beq n 151 then some c151 else none))))), fun n k => [], fun n => none, fun n => none⟩
theorem q110 : ∀ x, runF C110 Try.f110 i110 o110 x = F110 x := by intro x; kernel_rfl
def i71 : List Grp := [⟨.c, (.cons (.sl e166) .nil), []⟩]
def o71 : List Grp := [⟨.c, (.cons (.sl e119) .nil), [(.own [.sh, .sh, .sh, (.own [.sh, .sh, .sh, .sh, (.own [])]), (.own []), (.own [.sh, .sh, .sh, .sh, .sh, .sh, (.own []), .sh, (.own []), (.own []), (.own []), .sh, (.own [])]), .sh, .sh, .sh, .sh, (.own []), .sh, (.own []), (.own []), .sh, (.own []), (.own []), (.own []), (.own []), (.own [.sh, (.own [.sh, .sh, .sh, .sh, .sh, .sh, (.own []), .sh, (.own []), (.own []), (.own []), .sh, (.own [])]), .sh, .sh, (.own [])])])]⟩]
/-- laws.toNodeS -/
noncomputable def F71.b0 (x0 : GD i71) : (v1 : (Int × (List (Tys.D e119) × Unit))) → Option (Sum (Int × (List (Tys.D e119) × Unit)) (Sum (Int × (List (Tys.D e119) × Unit)) (GD o71))) := fun v1 => bif iLt v1.1 (List.length x0.1.1 : Int) then (getI x0.1.1 v1.1).bind fun x2 => (F110 (x2, ())).bind fun y3 => (getI v1.2.1 v1.1).bind fun _ => (getN v1.2.1 (Int.toNat v1.1)).bind fun x4 => some (.inl (iAdd .i64 v1.1 (1:Int), (List.set v1.2.1 (Int.toNat v1.1) (y3.1.1, (y3.1.2.1, (y3.1.2.2.1, (y3.1.2.2.2.1, (y3.1.2.2.2.2.1, (y3.1.2.2.2.2.2.1, (y3.1.2.2.2.2.2.2.1, (y3.1.2.2.2.2.2.2.2.1, (y3.1.2.2.2.2.2.2.2.2.1, (y3.1.2.2.2.2.2.2.2.2.2.1, (y3.1.2.2.2.2.2.2.2.2.2.2.1, (y3.1.2.2.2.2.2.2.2.2.2.2.2.1, (y3.1.2.2.2.2.2.2.2.2.2.2.2.2.1, (y3.1.2.2.2.2.2.2.2.2.2.2.2.2.2.1, (y3.1.2.2.2.2.2.2.2.2.2.2.2.2.2.2.1, (y3.1.2.2.2.2.2.2.2.2.2.2.2.2.2.2.2.1, (y3.1.2.2.2.2.2.2.2.2.2.2.2.2.2.2.2.2.1, (y3.1.2.2.2.2.2.2.2.2.2.2.2.2.2.2.2.2.2.1, (y3.1.2.2.2.2.2.2.2.2.2.2.2.2.2.2.2.2.2.2.1, (y3.1.2.2.2.2.2.2.2.2.2.2.2.2.2.2.2.2.2.2.2.1, ())))))))))))))))))))), ()))) else some (.inr (.inl (v1.1, (v1.2.1, ()))))
noncomputable def F71 : GD i71 → Option (GD o71) := fun x0 => bif mkOk (List.length x0.1.1 : Int) (List.length x0.1.1 : Int) 344 then (loopF (F71.b0 x0) ((0:Int), (List.replicate (Int.toNat (List.length x0.1.1 : Int)) (⟨#[]⟩, ((0:Int), ((0:Int), ([], ([], ([], ((0:Int), ((0:Int), ((0:Int), ((0:Int), ([], ((0:Int), ([], ([], ((0:Int), ([], ([], ([], ([], ([], ())))))))))))))))))))), ()))).bind fun r6 => Sum.elim (fun v5 => some ((v5.2.1, ()), ())) some r6 else none
noncomputable def c71 : Con := ⟨i71, o71, F71⟩
noncomputable def C71 : Ctx := ⟨23, TT, EE, fun n => (bif Nat.beq n 110 then some c110 else none), fun n k => (bif Nat.beq n 1 then (match k with | 2 => [.sh, .sh, .sh, (.own [.sh, .sh, .sh, .sh, (.own [])]), (.own []), (.own [.sh, .sh, .sh, .sh, .sh, .sh, (.own []), .sh, (.own []), (.own []), (.own []), .sh, (.own [])]), .sh, .sh, .sh, .sh, (.own []), .sh, (.own []), (.own []), .sh, (.own []), (.own []), (.own []), (.own []), (.own [.sh, (.own [.sh, .sh, .sh, .sh, .sh, .sh, (.own []), .sh, (.own []), (.own []), (.own []), .sh, (.own [])]), .sh, .sh, (.own [])])] | _ => []) else []), fun n => (bif Nat.beq n 0 then (some ⟨[(.t 4 (.int .i64) .sh), (.r 8192 e119 [.sh, .sh, .sh, (.own [.sh, .sh, .sh, .sh, (.own [])]), (.own []), (.own [.sh, .sh, .sh, .sh, .sh, .sh, (.own []), .sh, (.own []), (.own []), (.own []), .sh, (.own [])]), .sh, .sh, .sh, .sh, (.own []), .sh, (.own []), (.own []), .sh, (.own []), (.own []), (.own []), (.own []), (.own [.sh, (.own [.sh, .sh, .sh, .sh, .sh, .sh, (.own []), .sh, (.own []), (.own []), (.own []), .sh, (.own [])]), .sh, .sh, (.own [])])])], [8, 9, 10, 11, 12, 13, 14, 15, 16, 17, 18, 19, 20, 21], []⟩) else none), fun n => none⟩
theorem q71 : ∀ x, runF C71 Try.f71 i71 o71 x = F71 x := by intro x; kernel_rfl
def i111 : List Grp := [⟨.agg, (.cons (.int .i64) (.cons (.int .i64) (.cons (.int .i64) (.cons (.int .i64) (.cons .str .nil))))), []⟩]
def o111 : List Grp := [⟨.agg, (.cons (.int .i64) (.cons (.int .i64) (.cons (.int .i64) (.cons (.int .i64) (.cons .str .nil))))), []⟩]
/-- laws.toSig -/
noncomputable def F111 : GD i111 → Option (GD o111) := fun x0 => some (x0.1, ())
noncomputable def c111 : Con := ⟨i111, o111, F111⟩
noncomputable def C111 : Ctx := ⟨20, TT, EE, fun n => none, fun n k => [], fun n => none, fun n => none⟩
theorem q111 : ∀ x, runF C111 Try.f111 i111 o111 x = F111 x := by intro x; kernel_rfl
def i72 : List Grp := [⟨.c, (.cons (.sl e168) .nil), []⟩]
def o72 : List Grp := [⟨.c, (.cons (.sl e129) .nil), [(.own [])]⟩]
/-- laws.toSigS -/
noncomputable def F72.b0 (x0 : GD i72) : (v1 : (Int × (List (Tys.D e129) × Unit))) → Option (Sum (Int × (List (Tys.D e129) × Unit)) (Sum (Int × (List (Tys.D e129) × Unit)) (GD o72))) := fun v1 => bif iLt v1.1 (List.length x0.1.1 : Int) then (getI x0.1.1 v1.1).bind fun x2 => (F111 (x2, ())).bind fun y3 => (getI v1.2.1 v1.1).bind fun _ => (getN v1.2.1 (Int.toNat v1.1)).bind fun x4 => some (.inl (iAdd .i64 v1.1 (1:Int), (List.set v1.2.1 (Int.toNat v1.1) (y3.1.1, (y3.1.2.1, (y3.1.2.2.1, (y3.1.2.2.2.1, (y3.1.2.2.2.2.1, ()))))), ()))) else some (.inr (.inl (v1.1, (v1.2.1, ()))))
noncomputable def F72 : GD i72 → Option (GD o72) := fun x0 => bif mkOk (List.length x0.1.1 : Int) (List.length x0.1.1 : Int) 48 then (loopF (F72.b0 x0) ((0:Int), (List.replicate (Int.toNat (List.length x0.1.1 : Int)) ((0:Int), ((0:Int), ((0:Int), ((0:Int), (⟨#[]⟩, ()))))), ()))).bind fun r6 => Sum.elim (fun v5 => some ((v5.2.1, ()), ())) some r6 else none
noncomputable def c72 : Con := ⟨i72, o72, F72⟩
noncomputable def C72 : Ctx := ⟨23, TT, EE, fun n => (bif Nat.beq n 111 then some c111 else none), fun n k => [], fun n => (bif Nat.beq n 0 then (some ⟨[(.t 4 (.int .i64) .sh), (.r 8192 e129 [])], [8, 9, 10, 11, 12, 13, 14, 15, 16, 17, 18, 19, 20, 21], []⟩) else none), fun n => none⟩
theorem q72 : ∀ x, runF C72 Try.f72 i72 o72 x = F72 x := by intro x; kernel_rfl
def i112 : List Grp := [⟨.agg, (.cons (.int .i64) (.cons .str (.cons (.int .i64) (.cons (.sl e150) (.cons (.int .i64) (.cons (.int .i64) (.cons .str (.cons (.int .i64) (.cons (.int .i64) (.cons .str (.cons (.int .i64) (.cons (.int .i64) (.cons (.sl e9) (.cons (.int .i64) (.cons (.sl e9) (.cons (.sl e3) .nil)))))))))))))))), []⟩]
def o112 : List Grp := [⟨.agg, (.cons (.int .i64) (.cons .str (.cons (.int .i64) (.cons (.sl e96) (.cons (.int .i64) (.cons (.int .i64) (.cons .str (.cons (.int .i64) (.cons (.int .i64) (.cons .str (.cons (.int .i64) (.cons (.int .i64) (.cons (.sl e9) (.cons (.int .i64) (.cons (.sl e9) (.cons (.sl e3) .nil)))))))))))))))), [.sh, .sh, .sh, (.own [.sh, .sh, .sh, .sh, .sh, .sh, (.own []), .sh, (.own []), (.own []), (.own []), .sh, (.own [])]), .sh, .sh, .sh, .sh, .sh, .sh, .sh, .sh, (.own []), .sh, (.own []), (.own [])]⟩]
/-- laws.toMsg -/
noncomputable def F112 : GD i112 → Option (GD o112) := fun x0 => (F53 ((x0.1.2.2.2.1, ()), ())).bind fun y1 => (F152 ((x0.1.2.2.2.2.1, (x0.1.2.2.2.2.2.1, (x0.1.2.2.2.2.2.2.1, ()))), ())).bind fun y2 => (F153 ((x0.1.2.2.2.2.2.2.2.1, (x0.1.2.2.2.2.2.2.2.2.1, (x0.1.2.2.2.2.2.2.2.2.2.1, ()))), ())).bind fun y3 => (F54 ((x0.1.2.2.2.2.2.2.2.2.2.2.1, (x0.1.2.2.2.2.2.2.2.2.2.2.2.1, (x0.1.2.2.2.2.2.2.2.2.2.2.2.2.1, ()))), ())).bind fun y4 => (F132 ((x0.1.2.2.2.2.2.2.2.2.2.2.2.2.2.1, (x0.1.2.2.2.2.2.2.2.2.2.2.2.2.2.2.1, (x0.1.2.2.2.2.2.2.2.2.2.2.2.2.2.2.2.1, ()))), ())).bind fun y5 => some ((x0.1.1, (x0.1.2.1, (x0.1.2.2.1, (y1.1.1, (y2.1.1, (y2.1.2.1, (y2.1.2.2.1, (y3.1.1, (y3.1.2.1, (y3.1.2.2.1, (y4.1.1, (y4.1.2.1, (y4.1.2.2.1, (y5.1.1, (y5.1.2.1, (y5.1.2.2.1, ())))))))))))))))), ())
noncomputable def c112 : Con := ⟨i112, o112, F112⟩
noncomputable def C112 : Ctx := ⟨34, TT, EE, fun n => (bif Nat.ble n 54 then (bif Nat.ble n 53 then (bif Nat.beq n 53 then some c53 else none) else (bif Nat.beq n 54 then some c54 else none)) else (bif Nat.ble n 132 then (bif Nat.beq n 132 then some c132 else none) else (bif Nat.ble n 152 then (bif Nat.beq n 152 then some c152 else none) else (bif Nat.beq n 153 then some c153 else none)))), fun n k => [], fun n => none, fun n => none⟩
theorem q112 : ∀ x, runF C112 Try.f112 i112 o112 x = F112 x := by intro x; kernel_rfl
def i73 : List Grp := [⟨.c, (.cons (.sl e175) .nil), []⟩]
def o73 : List Grp := [⟨.c, (.cons (.sl e181) .nil), [(.own [.sh, .sh, .sh, (.own [.sh, .sh, .sh, .sh, .sh, .sh, (.own []), .sh, (.own []), (.own []), (.own []), .sh, (.own [])]), .sh, .sh, .sh, .sh, .sh, .sh, .sh, .sh, (.own []), .sh, (.own []), (.own [])])]⟩]
/-- laws.toMsgS -/
noncomputable def F73.b0 (x0 : GD i73) : (v1 : (Int × (List (Tys.D e181) × Unit))) → Option (Sum (Int × (List (Tys.D e181) × Unit)) (Sum (Int × (List (Tys.D e181) × Unit)) (GD o73))) := fun v1 => bif iLt v1.1 (List.length x0.1.1 : Int) then (getI x0.1.1 v1.1).bind fun x2 => (F112 (x2, ())).bind fun y3 => (getI v1.2.1 v1.1).bind fun _ => (getN v1.2.1 (Int.toNat v1.1)).bind fun x4 => some (.inl (iAdd .i64 v1.1 (1:Int), (List.set v1.2.1 (Int.toNat v1.1) (y3.1.1, (y3.1.2.1, (y3.1.2.2.1, (y3.1.2.2.2.1, (y3.1.2.2.2.2.1, (y3.1.2.2.2.2.2.1, (y3.1.2.2.2.2.2.2.1, (y3.1.2.2.2.2.2.2.2.1, (y3.1.2.2.2.2.2.2.2.2.1, (y3.1.2.2.2.2.2.2.2.2.2.1, (y3.1.2.2.2.2.2.2.2.2.2.2.1, (y3.1.2.2.2.2.2.2.2.2.2.2.2.1, (y3.1.2.2.2.2.2.2.2.2.2.2.2.2.1, (y3.1.2.2.2.2.2.2.2.2.2.2.2.2.2.1, (y3.1.2.2.2.2.2.2.2.2.2.2.2.2.2.2.1, (y3.1.2.2.2.2.2.2.2.2.2.2.2.2.2.2.2.1, ())))))))))))))))), ()))) else some (.inr (.inl (v1.1, (v1.2.1, ()))))
noncomputable def F73 : GD i73 → Option (GD o73) := fun x0 => bif mkOk (List.length x0.1.1 : Int) (List.length x0.1.1 : Int) 216 then (loopF (F73.b0 x0) ((0:Int), (List.replicate (Int.toNat (List.length x0.1.1 : Int)) ((0:Int), (⟨#[]⟩, ((0:Int), ([], ((0:Int), ((0:Int), (⟨#[]⟩, ((0:Int), ((0:Int), (⟨#[]⟩, ((0:Int), ((0:Int), ([], ((0:Int), ([], ([], ())))))))))))))))), ()))).bind fun r6 => Sum.elim (fun v5 => some ((v5.2.1, ()), ())) some r6 else none
noncomputable def c73 : Con := ⟨i73, o73, F73⟩
noncomputable def C73 : Ctx := ⟨23, TT, EE, fun n => (bif Nat.beq n 112 then some c112 else none), fun n k => (bif Nat.beq n 1 then (match k with | 2 => [.sh, .sh, .sh, (.own [.sh, .sh, .sh, .sh, .sh, .sh, (.own []), .sh, (.own []), (.own []), (.own []), .sh, (.own [])]), .sh, .sh, .sh, .sh, .sh, .sh, .sh, .sh, (.own []), .sh, (.own []), (.own [])] | _ => []) else []), fun n => (bif Nat.beq n 0 then (some ⟨[(.t 4 (.int .i64) .sh), (.r 8192 e181 [.sh, .sh, .sh, (.own [.sh, .sh, .sh, .sh, .sh, .sh, (.own []), .sh, (.own []), (.own []), (.own []), .sh, (.own [])]), .sh, .sh, .sh, .sh, .sh, .sh, .sh, .sh, (.own []), .sh, (.own []), (.own [])])], [8, 9, 10, 11, 12, 13, 14, 15, 16, 17, 18, 19, 20, 21], []⟩) else none), fun n => none⟩
theorem q73 : ∀ x, runF C73 Try.f73 i73 o73 x = F73 x := by intro x; kernel_rfl
def i27 : List Grp := [⟨.agg, (.cons (.int .i64) (.cons (.sl e133) (.cons (.sl e9) (.cons (.sl e166) (.cons (.sl e150) (.cons (.sl e168) (.cons (.sl e175) .nil))))))), []⟩]
def o27 : List Grp := [⟨.agg, (.cons (.int .i64) (.cons (.sl e138) (.cons (.sl e9) (.cons (.sl e119) (.cons (.sl e96) (.cons (.sl e129) (.cons (.sl e181) .nil))))))), [.sh, (.own [.sh, .sh, .sh, .sh, (.own [])]), (.own []), (.own [.sh, .sh, .sh, (.own [.sh, .sh, .sh, .sh, (.own [])]), (.own []), (.own [.sh, .sh, .sh, .sh, .sh, .sh, (.own []), .sh, (.own []), (.own []), (.own []), .sh, (.own [])]), .sh, .sh, .sh, .sh, (.own []), .sh, (.own []), (.own []), .sh, (.own []), (.own []), (.own []), (.own []), (.own [.sh, (.own [.sh, .sh, .sh, .sh, .sh, .sh, (.own []), .sh, (.own []), (.own []), (.own []), .sh, (.own [])]), .sh, .sh, (.own [])])]), (.own [.sh, .sh, .sh, .sh, .sh, .sh, (.own []), .sh, (.own []), (.own []), (.own []), .sh, (.own [])]), (.own []), (.own [.sh, .sh, .sh, (.own [.sh, .sh, .sh, .sh, .sh, .sh, (.own []), .sh, (.own []), (.own []), (.own []), .sh, (.own [])]), .sh, .sh, .sh, .sh, .sh, .sh, .sh, .sh, (.own []), .sh, (.own []), (.own [])])]⟩]
/-- laws.toWorld -/
noncomputable def F27 : GD i27 → Option (GD o27) := fun x0 => (F10 ((x0.1.1, (x0.1.2.1, ())), ())).bind fun y1 => (F70 ((x0.1.2.2.1, ()), ())).bind fun y2 => (F71 ((x0.1.2.2.2.1, ()), ())).bind fun y3 => (F53 ((x0.1.2.2.2.2.1, ()), ())).bind fun y4 => (F72 ((x0.1.2.2.2.2.2.1, ()), ())).bind fun y5 => (F73 ((x0.1.2.2.2.2.2.2.1, ()), ())).bind fun y6 => some ((y1.1.1, (y1.1.2.1, (y2.1.1, (y3.1.1, (y4.1.1, (y5.1.1, (y6.1.1, ()))))))), ())
noncomputable def c27 : Con := ⟨i27, o27, F27⟩
noncomputable def C27 : Ctx := ⟨29, TT, EE, fun n => (bif Nat.ble n 70 then (bif Nat.ble n 10 then (bif Nat.beq n 10 then some c10 else none) else (bif Nat.ble n 53 then (bif Nat.beq n 53 then some c53 else none) else (bif Nat.beq n 70 then some c70 else none))) else (bif Nat.ble n 71 then (bif Nat.beq n 71 then some c71 else none) else (bif Nat.ble n 72 then (bif Nat.beq n 72 then some c72 else none) else (bif Nat.beq n 73 then some c73 else none)))), fun n k => [], fun n => none, fun n => none⟩
theorem q27 : ∀ x, runF C27 Try.f27 i27 o27 x = F27 x := by intro x; kernel_rfl
def i26 : List Grp := [⟨.agg, (.cons (.int .i64) (.cons (.sl e138) (.cons (.sl e9) (.cons (.sl e119) (.cons (.sl e96) (.cons (.sl e129) (.cons (.sl e181) .nil))))))), []⟩]
def o26 : List Grp := [⟨.c, (.cons (.int .i64) .nil), []⟩]
/-- spec.Most -/
noncomputable def F26.b0 (x0 : GD i26) : (v1 : (Int × (Int × Unit))) → Option (Sum (Int × (Int × Unit)) (Sum (Int × (Int × Unit)) (GD o26))) := fun v1 => bif iLt v1.2.1 (List.length x0.1.2.2.2.1 : Int) then (getI x0.1.2.2.2.1 v1.2.1).bind fun x2 => bif iLt v1.1 (List.length x2.2.2.2.2.2.2.2.2.2.2.2.2.2.2.2.2.2.1 : Int) then (getI x0.1.2.2.2.1 v1.2.1).bind fun x3 => some (.inl ((List.length x3.2.2.2.2.2.2.2.2.2.2.2.2.2.2.2.2.2.1 : Int), (iAdd .i64 v1.2.1 (1:Int), ()))) else some (.inl (v1.1, (iAdd .i64 v1.2.1 (1:Int), ()))) else some (.inr (.inl (v1.1, (v1.2.1, ()))))
noncomputable def F26 : GD i26 → Option (GD o26) := fun x0 => (loopF (F26.b0 x0) ((0:Int), ((0:Int), ()))).bind fun r5 => Sum.elim (fun v4 => some ((v4.1, ()), ())) some r5
noncomputable def c26 : Con := ⟨i26, o26, F26⟩
noncomputable def C26 : Ctx := ⟨29, TT, EE, fun n => none, fun n k => [], fun n => (bif Nat.beq n 0 then (some ⟨[(.t 3 (.int .i64) .sh), (.t 4 (.int .i64) .sh)], [5, 6, 7, 8, 9, 10, 11, 12, 13, 14, 15, 16, 17, 18, 19, 20, 21, 22, 23, 24, 25, 26, 27], []⟩) else none), fun n => none⟩
theorem q26 : ∀ x, runF C26 Try.f26 i26 o26 x = F26 x := by intro x; kernel_rfl
def i28 : List Grp := [⟨.agg, (.cons (.int .i64) (.cons (.sl e138) (.cons (.sl e9) (.cons (.sl e119) (.cons (.sl e96) (.cons (.sl e129) (.cons (.sl e181) .nil))))))), []⟩]
def o28 : List Grp := [⟨.c, (.cons (.int .i64) .nil), []⟩]
/-- impl.Most -/
noncomputable def F28.b0 (x0 : GD i28) : (v1 : (Int × (Int × Unit))) → Option (Sum (Int × (Int × Unit)) (Sum (Int × (Int × Unit)) (GD o28))) := fun v1 => bif iLt v1.2.1 (List.length x0.1.2.2.2.1 : Int) then (getI x0.1.2.2.2.1 v1.2.1).bind fun x2 => some (.inl ((iMax v1.1 (List.length x2.2.2.2.2.2.2.2.2.2.2.2.2.2.2.2.2.2.1 : Int)), (iAdd .i64 v1.2.1 (1:Int), ()))) else some (.inr (.inl (v1.1, (v1.2.1, ()))))
noncomputable def F28 : GD i28 → Option (GD o28) := fun x0 => (loopF (F28.b0 x0) ((0:Int), ((0:Int), ()))).bind fun r4 => Sum.elim (fun v3 => some ((v3.1, ()), ())) some r4
noncomputable def c28 : Con := ⟨i28, o28, F28⟩
noncomputable def C28 : Ctx := ⟨20, TT, EE, fun n => none, fun n k => [], fun n => (bif Nat.beq n 0 then (some ⟨[(.t 3 (.int .i64) .sh), (.t 9 (.int .i64) .sh)], [5, 10, 11, 12, 13, 14, 15, 16, 17, 18], []⟩) else none), fun n => none⟩
theorem q28 : ∀ x, runF C28 Try.f28 i28 o28 x = F28 x := by intro x; kernel_rfl
def i163 : List Grp := [⟨.agg, (.cons (.int .i64) (.cons (.int .i64) .nil)), []⟩, ⟨.agg, (.cons (.int .i64) (.cons (.int .i64) .nil)), []⟩]
def o163 : List Grp := [⟨.c, (.cons .bool .nil), []⟩]
/-- laws.eqLeave -/
noncomputable def F163 : GD i163 → Option (GD o163) := fun x0 => bif !iEq x0.1.1 x0.2.1.1 then some ((false, ()), ()) else bif !iEq x0.1.2.1 x0.2.1.2.1 then some ((false, ()), ()) else some ((true, ()), ())
noncomputable def c163 : Con := ⟨i163, o163, F163⟩
noncomputable def C163 : Ctx := ⟨15, TT, EE, fun n => none, fun n k => [], fun n => none, fun n => none⟩
theorem q163 : ∀ x, runF C163 Try.f163 i163 o163 x = F163 x := by intro x; kernel_rfl
def i122 : List Grp := [⟨.c, (.cons (.sl e193) .nil), []⟩, ⟨.c, (.cons (.sl e193) .nil), []⟩]
def o122 : List Grp := [⟨.c, (.cons .bool .nil), []⟩]
/-- laws.eqLeaveS -/
noncomputable def F122.b0 (x0 : GD i122) : (v1 : (Int × Unit)) → Option (Sum (Int × Unit) (Sum (Int × Unit) (GD o122))) := fun v1 => bif iLt v1.1 (List.length x0.1.1 : Int) then (getI x0.1.1 v1.1).bind fun x2 => (getI x0.2.1.1 v1.1).bind fun x3 => (F163 (x2, (x3, ()))).bind fun y4 => bif (!y4.1.1) then some (.inr (.inr ((false, ()), ()))) else some (.inl (iAdd .i64 v1.1 (1:Int), ())) else some (.inr (.inl (v1.1, ())))
noncomputable def F122 : GD i122 → Option (GD o122) := fun x0 => bif !iEq (List.length x0.1.1 : Int) (List.length x0.2.1.1 : Int) then some ((false, ()), ()) else (loopF (F122.b0 x0) ((0:Int), ())).bind fun r6 => Sum.elim (fun v5 => some ((true, ()), ())) some r6
noncomputable def c122 : Con := ⟨i122, o122, F122⟩
noncomputable def C122 : Ctx := ⟨27, TT, EE, fun n => (bif Nat.beq n 163 then some c163 else none), fun n k => [], fun n => (bif Nat.beq n 0 then (some ⟨[(.t 5 (.int .i64) .sh)], [4, 11, 12, 13, 14, 15, 16, 17, 18, 19, 20, 21, 22, 23, 24, 25, 26], []⟩) else none), fun n => none⟩
theorem q122 : ∀ x, runF C122 Try.f122 i122 o122 x = F122 x := by intro x; kernel_rfl
def i85 : List Grp := [⟨.agg, (.cons .str (.cons (.int .i64) (.cons (.int .i64) (.cons (.int .i64) (.cons (.sl e193) .nil))))), []⟩, ⟨.agg, (.cons .str (.cons (.int .i64) (.cons (.int .i64) (.cons (.int .i64) (.cons (.sl e193) .nil))))), []⟩]
def o85 : List Grp := [⟨.c, (.cons .bool .nil), []⟩]
/-- laws.eqAcct -/
noncomputable def F85 : GD i85 → Option (GD o85) := fun x0 => bif !sEq x0.1.1 x0.2.1.1 then some ((false, ()), ()) else bif !iEq x0.1.2.1 x0.2.1.2.1 then some ((false, ()), ()) else bif !iEq x0.1.2.2.1 x0.2.1.2.2.1 then some ((false, ()), ()) else bif !iEq x0.1.2.2.2.1 x0.2.1.2.2.2.1 then some ((false, ()), ()) else (F122 ((x0.1.2.2.2.2.1, ()), ((x0.2.1.2.2.2.2.1, ()), ()))).bind fun y1 => bif (!y1.1.1) then some ((false, ()), ()) else some ((true, ()), ())
noncomputable def c85 : Con := ⟨i85, o85, F85⟩
noncomputable def C85 : Ctx := ⟨31, TT, EE, fun n => (bif Nat.beq n 122 then some c122 else none), fun n k => [], fun n => none, fun n => none⟩
theorem q85 : ∀ x, runF C85 Try.f85 i85 o85 x = F85 x := by intro x; kernel_rfl
def i41 : List Grp := [⟨.c, (.cons (.sl e138) .nil), []⟩, ⟨.c, (.cons (.sl e138) .nil), []⟩]
def o41 : List Grp := [⟨.c, (.cons .bool .nil), []⟩]
/-- laws.eqAcctS -/
noncomputable def F41.b0 (x0 : GD i41) : (v1 : (Int × Unit)) → Option (Sum (Int × Unit) (Sum (Int × Unit) (GD o41))) := fun v1 => bif iLt v1.1 (List.length x0.1.1 : Int) then (getI x0.1.1 v1.1).bind fun x2 => (getI x0.2.1.1 v1.1).bind fun x3 => (F85 (x2, (x3, ()))).bind fun y4 => bif (!y4.1.1) then some (.inr (.inr ((false, ()), ()))) else some (.inl (iAdd .i64 v1.1 (1:Int), ())) else some (.inr (.inl (v1.1, ())))
noncomputable def F41 : GD i41 → Option (GD o41) := fun x0 => bif !iEq (List.length x0.1.1 : Int) (List.length x0.2.1.1 : Int) then some ((false, ()), ()) else (loopF (F41.b0 x0) ((0:Int), ())).bind fun r6 => Sum.elim (fun v5 => some ((true, ()), ())) some r6
noncomputable def c41 : Con := ⟨i41, o41, F41⟩
noncomputable def C41 : Ctx := ⟨27, TT, EE, fun n => (bif Nat.beq n 85 then some c85 else none), fun n k => [], fun n => (bif Nat.beq n 0 then (some ⟨[(.t 5 (.int .i64) .sh)], [4, 11, 12, 13, 14, 15, 16, 17, 18, 19, 20, 21, 22, 23, 24, 25, 26], []⟩) else none), fun n => none⟩
theorem q41 : ∀ x, runF C41 Try.f41 i41 o41 x = F41 x := by intro x; kernel_rfl
def i13 : List Grp := [⟨.agg, (.cons (.int .i64) (.cons (.sl e138) .nil)), []⟩, ⟨.agg, (.cons (.int .i64) (.cons (.sl e138) .nil)), []⟩]
def o13 : List Grp := [⟨.c, (.cons .bool .nil), []⟩]
/-- laws.eqLedger -/
noncomputable def F13 : GD i13 → Option (GD o13) := fun x0 => bif !iEq x0.1.1 x0.2.1.1 then some ((false, ()), ()) else (F41 ((x0.1.2.1, ()), ((x0.2.1.2.1, ()), ()))).bind fun y1 => bif (!y1.1.1) then some ((false, ()), ()) else some ((true, ()), ())
noncomputable def c13 : Con := ⟨i13, o13, F13⟩
noncomputable def C13 : Ctx := ⟨16, TT, EE, fun n => (bif Nat.beq n 41 then some c41 else none), fun n k => [], fun n => none, fun n => none⟩
theorem q13 : ∀ x, runF C13 Try.f13 i13 o13 x = F13 x := by intro x; kernel_rfl
def i74 : List Grp := [⟨.c, (.cons (.sl e9) .nil), []⟩, ⟨.c, (.cons (.sl e9) .nil), []⟩]
def o74 : List Grp := [⟨.c, (.cons .bool .nil), []⟩]
/-- laws.eqStringS -/
noncomputable def F74.b0 (x0 : GD i74) : (v1 : (Int × Unit)) → Option (Sum (Int × Unit) (Sum (Int × Unit) (GD o74))) := fun v1 => bif iLt v1.1 (List.length x0.1.1 : Int) then (getI x0.1.1 v1.1).bind fun x2 => (getI x0.2.1.1 v1.1).bind fun x3 => bif !sEq x2.1 x3.1 then some (.inr (.inr ((false, ()), ()))) else some (.inl (iAdd .i64 v1.1 (1:Int), ())) else some (.inr (.inl (v1.1, ())))
noncomputable def F74 : GD i74 → Option (GD o74) := fun x0 => bif !iEq (List.length x0.1.1 : Int) (List.length x0.2.1.1 : Int) then some ((false, ()), ()) else (loopF (F74.b0 x0) ((0:Int), ())).bind fun r5 => Sum.elim (fun v4 => some ((true, ()), ())) some r5
noncomputable def c74 : Con := ⟨i74, o74, F74⟩
noncomputable def C74 : Ctx := ⟨26, TT, EE, fun n => none, fun n k => [], fun n => (bif Nat.beq n 0 then (some ⟨[(.t 5 (.int .i64) .sh)], [4, 11, 12, 13, 14, 15, 16, 17, 18, 19, 20, 21, 22, 23, 24, 25], []⟩) else none), fun n => none⟩
theorem q74 : ∀ x, runF C74 Try.f74 i74 o74 x = F74 x := by intro x; kernel_rfl
def i84 : List Grp := [⟨.agg, (.cons .str (.cons (.int .i64) .nil)), []⟩, ⟨.agg, (.cons .str (.cons (.int .i64) .nil)), []⟩]
def o84 : List Grp := [⟨.c, (.cons .bool .nil), []⟩]
/-- laws.eqVal -/
noncomputable def F84 : GD i84 → Option (GD o84) := fun x0 => bif !sEq x0.1.1 x0.2.1.1 then some ((false, ()), ()) else bif !iEq x0.1.2.1 x0.2.1.2.1 then some ((false, ()), ()) else some ((true, ()), ())
noncomputable def c84 : Con := ⟨i84, o84, F84⟩
noncomputable def C84 : Ctx := ⟨15, TT, EE, fun n => none, fun n k => [], fun n => none, fun n => none⟩
theorem q84 : ∀ x, runF C84 Try.f84 i84 o84 x = F84 x := by intro x; kernel_rfl
def i40 : List Grp := [⟨.c, (.cons (.sl e106) .nil), []⟩, ⟨.c, (.cons (.sl e106) .nil), []⟩]
def o40 : List Grp := [⟨.c, (.cons .bool .nil), []⟩]
/-- laws.eqValS -/
noncomputable def F40.b0 (x0 : GD i40) : (v1 : (Int × Unit)) → Option (Sum (Int × Unit) (Sum (Int × Unit) (GD o40))) := fun v1 => bif iLt v1.1 (List.length x0.1.1 : Int) then (getI x0.1.1 v1.1).bind fun x2 => (getI x0.2.1.1 v1.1).bind fun x3 => (F84 (x2, (x3, ()))).bind fun y4 => bif (!y4.1.1) then some (.inr (.inr ((false, ()), ()))) else some (.inl (iAdd .i64 v1.1 (1:Int), ())) else some (.inr (.inl (v1.1, ())))
noncomputable def F40 : GD i40 → Option (GD o40) := fun x0 => bif !iEq (List.length x0.1.1 : Int) (List.length x0.2.1.1 : Int) then some ((false, ()), ()) else (loopF (F40.b0 x0) ((0:Int), ())).bind fun r6 => Sum.elim (fun v5 => some ((true, ()), ())) some r6
noncomputable def c40 : Con := ⟨i40, o40, F40⟩
noncomputable def C40 : Ctx := ⟨27, TT, EE, fun n => (bif Nat.beq n 84 then some c84 else none), fun n k => [], fun n => (bif Nat.beq n 0 then (some ⟨[(.t 5 (.int .i64) .sh)], [4, 11, 12, 13, 14, 15, 16, 17, 18, 19, 20, 21, 22, 23, 24, 25, 26], []⟩) else none), fun n => none⟩
theorem q40 : ∀ x, runF C40 Try.f40 i40 o40 x = F40 x := by intro x; kernel_rfl
def i63 : List Grp := [⟨.agg, (.cons (.int .i64) (.cons (.int .i64) (.cons (.sl e9) .nil))), []⟩, ⟨.agg, (.cons (.int .i64) (.cons (.int .i64) (.cons (.sl e9) .nil))), []⟩]
def o63 : List Grp := [⟨.c, (.cons .bool .nil), []⟩]
/-- laws.eqQc -/
noncomputable def F63 : GD i63 → Option (GD o63) := fun x0 => bif !iEq x0.1.1 x0.2.1.1 then some ((false, ()), ()) else bif !iEq x0.1.2.1 x0.2.1.2.1 then some ((false, ()), ()) else (F74 ((x0.1.2.2.1, ()), ((x0.2.1.2.2.1, ()), ()))).bind fun y1 => bif (!y1.1.1) then some ((false, ()), ()) else some ((true, ()), ())
noncomputable def c63 : Con := ⟨i63, o63, F63⟩
noncomputable def C63 : Ctx := ⟨21, TT, EE, fun n => (bif Nat.beq n 74 then some c74 else none), fun n k => [], fun n => none, fun n => none⟩
theorem q63 : ∀ x, runF C63 Try.f63 i63 o63 x = F63 x := by intro x; kernel_rfl
def i156 : List Grp := [⟨.c, (.cons (.sl e3) .nil), []⟩, ⟨.c, (.cons (.sl e3) .nil), []⟩]
def o156 : List Grp := [⟨.c, (.cons .bool .nil), []⟩]
/-- laws.eqIntS -/
noncomputable def F156.b0 (x0 : GD i156) : (v1 : (Int × Unit)) → Option (Sum (Int × Unit) (Sum (Int × Unit) (GD o156))) := fun v1 => bif iLt v1.1 (List.length x0.1.1 : Int) then (getI x0.1.1 v1.1).bind fun x2 => (getI x0.2.1.1 v1.1).bind fun x3 => bif !iEq x2.1 x3.1 then some (.inr (.inr ((false, ()), ()))) else some (.inl (iAdd .i64 v1.1 (1:Int), ())) else some (.inr (.inl (v1.1, ())))
noncomputable def F156 : GD i156 → Option (GD o156) := fun x0 => bif !iEq (List.length x0.1.1 : Int) (List.length x0.2.1.1 : Int) then some ((false, ()), ()) else (loopF (F156.b0 x0) ((0:Int), ())).bind fun r5 => Sum.elim (fun v4 => some ((true, ()), ())) some r5
noncomputable def c156 : Con := ⟨i156, o156, F156⟩
noncomputable def C156 : Ctx := ⟨26, TT, EE, fun n => none, fun n k => [], fun n => (bif Nat.beq n 0 then (some ⟨[(.t 5 (.int .i64) .sh)], [4, 11, 12, 13, 14, 15, 16, 17, 18, 19, 20, 21, 22, 23, 24, 25], []⟩) else none), fun n => none⟩
theorem q156 : ∀ x, runF C156 Try.f156 i156 o156 x = F156 x := by intro x; kernel_rfl
def i140 : List Grp := [⟨.agg, (.cons (.int .i64) (.cons (.sl e9) (.cons (.sl e3) .nil))), []⟩, ⟨.agg, (.cons (.int .i64) (.cons (.sl e9) (.cons (.sl e3) .nil))), []⟩]
def o140 : List Grp := [⟨.c, (.cons .bool .nil), []⟩]
/-- laws.eqTc -/
noncomputable def F140 : GD i140 → Option (GD o140) := fun x0 => bif !iEq x0.1.1 x0.2.1.1 then some ((false, ()), ()) else (F74 ((x0.1.2.1, ()), ((x0.2.1.2.1, ()), ()))).bind fun y1 => bif (!y1.1.1) then some ((false, ()), ()) else (F156 ((x0.1.2.2.1, ()), ((x0.2.1.2.2.1, ()), ()))).bind fun y2 => bif (!y2.1.1) then some ((false, ()), ()) else some ((true, ()), ())
noncomputable def c140 : Con := ⟨i140, o140, F140⟩
noncomputable def C140 : Ctx := ⟨22, TT, EE, fun n => (bif Nat.ble n 74 then (bif Nat.beq n 74 then some c74 else none) else (bif Nat.beq n 156 then some c156 else none)), fun n k => [], fun n => none, fun n => none⟩
theorem q140 : ∀ x, runF C140 Try.f140 i140 o140 x = F140 x := by intro x; kernel_rfl
def i173 : List Grp := [⟨.agg, (.cons (.int .i64) (.cons .str (.cons .str (.cons (.int .i64) (.cons (.int .i64) .nil))))), []⟩, ⟨.agg, (.cons (.int .i64) (.cons .str (.cons .str (.cons (.int .i64) (.cons (.int .i64) .nil))))), []⟩]
def o173 : List Grp := [⟨.c, (.cons .bool .nil), []⟩]
/-- laws.eqTx -/
noncomputable def F173 : GD i173 → Option (GD o173) := fun x0 => bif !iEq x0.1.1 x0.2.1.1 then some ((false, ()), ()) else bif !sEq x0.1.2.1 x0.2.1.2.1 then some ((false, ()), ()) else bif !sEq x0.1.2.2.1 x0.2.1.2.2.1 then some ((false, ()), ()) else bif !iEq x0.1.2.2.2.1 x0.2.1.2.2.2.1 then some ((false, ()), ()) else bif !iEq x0.1.2.2.2.2.1 x0.2.1.2.2.2.2.1 then some ((false, ()), ()) else some ((true, ()), ())
noncomputable def c173 : Con := ⟨i173, o173, F173⟩
noncomputable def C173 : Ctx := ⟨30, TT, EE, fun n => none, fun n k => [], fun n => none, fun n => none⟩
theorem q173 : ∀ x, runF C173 Try.f173 i173 o173 x = F173 x := by intro x; kernel_rfl
def i141 : List Grp := [⟨.c, (.cons (.sl e198) .nil), []⟩, ⟨.c, (.cons (.sl e198) .nil), []⟩]
def o141 : List Grp := [⟨.c, (.cons .bool .nil), []⟩]
/-- laws.eqTxS -/
noncomputable def F141.b0 (x0 : GD i141) : (v1 : (Int × Unit)) → Option (Sum (Int × Unit) (Sum (Int × Unit) (GD o141))) := fun v1 => bif iLt v1.1 (List.length x0.1.1 : Int) then (getI x0.1.1 v1.1).bind fun x2 => (getI x0.2.1.1 v1.1).bind fun x3 => (F173 (x2, (x3, ()))).bind fun y4 => bif (!y4.1.1) then some (.inr (.inr ((false, ()), ()))) else some (.inl (iAdd .i64 v1.1 (1:Int), ())) else some (.inr (.inl (v1.1, ())))
noncomputable def F141 : GD i141 → Option (GD o141) := fun x0 => bif !iEq (List.length x0.1.1 : Int) (List.length x0.2.1.1 : Int) then some ((false, ()), ()) else (loopF (F141.b0 x0) ((0:Int), ())).bind fun r6 => Sum.elim (fun v5 => some ((true, ()), ())) some r6
noncomputable def c141 : Con := ⟨i141, o141, F141⟩
noncomputable def C141 : Ctx := ⟨27, TT, EE, fun n => (bif Nat.beq n 173 then some c173 else none), fun n k => [], fun n => (bif Nat.beq n 0 then (some ⟨[(.t 5 (.int .i64) .sh)], [4, 11, 12, 13, 14, 15, 16, 17, 18, 19, 20, 21, 22, 23, 24, 25, 26], []⟩) else none), fun n => none⟩
theorem q141 : ∀ x, runF C141 Try.f141 i141 o141 x = F141 x := by intro x; kernel_rfl
def i103 : List Grp := [⟨.agg, (.cons (.int .i64) (.cons (.int .i64) (.cons (.int .i64) (.cons .str (.cons (.int .i64) (.cons (.int .i64) (.cons (.sl e9) (.cons (.int .i64) (.cons (.sl e9) (.cons (.sl e3) (.cons (.sl e198) (.cons .bool (.cons (.sl e106) (.cons .str .nil)))))))))))))), []⟩, ⟨.agg, (.cons (.int .i64) (.cons (.int .i64) (.cons (.int .i64) (.cons .str (.cons (.int .i64) (.cons (.int .i64) (.cons (.sl e9) (.cons (.int .i64) (.cons (.sl e9) (.cons (.sl e3) (.cons (.sl e198) (.cons .bool (.cons (.sl e106) (.cons .str .nil)))))))))))))), []⟩]
def o103 : List Grp := [⟨.c, (.cons .bool .nil), []⟩]
/-- laws.eqBlock -/
noncomputable def F103 : GD i103 → Option (GD o103) := fun x0 => bif !iEq x0.1.1 x0.2.1.1 then some ((false, ()), ()) else bif !iEq x0.1.2.1 x0.2.1.2.1 then some ((false, ()), ()) else bif !iEq x0.1.2.2.1 x0.2.1.2.2.1 then some ((false, ()), ()) else bif !sEq x0.1.2.2.2.1 x0.2.1.2.2.2.1 then some ((false, ()), ()) else (F63 ((x0.1.2.2.2.2.1, (x0.1.2.2.2.2.2.1, (x0.1.2.2.2.2.2.2.1, ()))), ((x0.2.1.2.2.2.2.1, (x0.2.1.2.2.2.2.2.1, (x0.2.1.2.2.2.2.2.2.1, ()))), ()))).bind fun y1 => bif (!y1.1.1) then some ((false, ()), ()) else (F140 ((x0.1.2.2.2.2.2.2.2.1, (x0.1.2.2.2.2.2.2.2.2.1, (x0.1.2.2.2.2.2.2.2.2.2.1, ()))), ((x0.2.1.2.2.2.2.2.2.2.1, (x0.2.1.2.2.2.2.2.2.2.2.1, (x0.2.1.2.2.2.2.2.2.2.2.2.1, ()))), ()))).bind fun y2 => bif (!y2.1.1) then some ((false, ()), ()) else (F141 ((x0.1.2.2.2.2.2.2.2.2.2.2.1, ()), ((x0.2.1.2.2.2.2.2.2.2.2.2.2.1, ()), ()))).bind fun y3 => bif (!y3.1.1) then some ((false, ()), ()) else bif !bEq x0.1.2.2.2.2.2.2.2.2.2.2.2.1 x0.2.1.2.2.2.2.2.2.2.2.2.2.2.1 then some ((false, ()), ()) else (F40 ((x0.1.2.2.2.2.2.2.2.2.2.2.2.2.1, ()), ((x0.2.1.2.2.2.2.2.2.2.2.2.2.2.2.1, ()), ()))).bind fun y4 => bif (!y4.1.1) then some ((false, ()), ()) else bif !sEq x0.1.2.2.2.2.2.2.2.2.2.2.2.2.2.1 x0.2.1.2.2.2.2.2.2.2.2.2.2.2.2.2.1 then some ((false, ()), ()) else some ((true, ()), ())
noncomputable def c103 : Con := ⟨i103, o103, F103⟩
noncomputable def C103 : Ctx := ⟨59, TT, EE, fun n => (bif Nat.ble n 63 then (bif Nat.ble n 40 then (bif Nat.beq n 40 then some c40 else none) else (bif Nat.beq n 63 then some c63 else none)) else (bif Nat.ble n 140 then (bif Nat.beq n 140 then some c140 else none) else (bif Nat.beq n 141 then some c141 else none))), fun n k => [], fun n => none, fun n => none⟩
theorem q103 : ∀ x, runF C103 Try.f103 i103 o103 x = F103 x := by intro x; kernel_rfl
def i62 : List Grp := [⟨.c, (.cons (.sl e96) .nil), []⟩, ⟨.c, (.cons (.sl e96) .nil), []⟩]
def o62 : List Grp := [⟨.c, (.cons .bool .nil), []⟩]
/-- laws.eqBlockS -/
noncomputable def F62.b0 (x0 : GD i62) : (v1 : (Int × Unit)) → Option (Sum (Int × Unit) (Sum (Int × Unit) (GD o62))) := fun v1 => bif iLt v1.1 (List.length x0.1.1 : Int) then (getI x0.1.1 v1.1).bind fun x2 => (getI x0.2.1.1 v1.1).bind fun x3 => (F103 (x2, (x3, ()))).bind fun y4 => bif (!y4.1.1) then some (.inr (.inr ((false, ()), ()))) else some (.inl (iAdd .i64 v1.1 (1:Int), ())) else some (.inr (.inl (v1.1, ())))
noncomputable def F62 : GD i62 → Option (GD o62) := fun x0 => bif !iEq (List.length x0.1.1 : Int) (List.length x0.2.1.1 : Int) then some ((false, ()), ()) else (loopF (F62.b0 x0) ((0:Int), ())).bind fun r6 => Sum.elim (fun v5 => some ((true, ()), ())) some r6
noncomputable def c62 : Con := ⟨i62, o62, F62⟩
noncomputable def C62 : Ctx := ⟨27, TT, EE, fun n => (bif Nat.beq n 103 then some c103 else none), fun n k => [], fun n => (bif Nat.beq n 0 then (some ⟨[(.t 5 (.int .i64) .sh)], [4, 11, 12, 13, 14, 15, 16, 17, 18, 19, 20, 21, 22, 23, 24, 25, 26], []⟩) else none), fun n => none⟩
theorem q62 : ∀ x, runF C62 Try.f62 i62 o62 x = F62 x := by intro x; kernel_rfl
def i158 : List Grp := [⟨.agg, (.cons (.int .i64) (.cons (.int .i64) (.cons .str .nil))), []⟩, ⟨.agg, (.cons (.int .i64) (.cons (.int .i64) (.cons .str .nil))), []⟩]
def o158 : List Grp := [⟨.c, (.cons .bool .nil), []⟩]
/-- laws.eqVote -/
noncomputable def F158 : GD i158 → Option (GD o158) := fun x0 => bif !iEq x0.1.1 x0.2.1.1 then some ((false, ()), ()) else bif !iEq x0.1.2.1 x0.2.1.2.1 then some ((false, ()), ()) else bif !sEq x0.1.2.2.1 x0.2.1.2.2.1 then some ((false, ()), ()) else some ((true, ()), ())
noncomputable def c158 : Con := ⟨i158, o158, F158⟩
noncomputable def C158 : Ctx := ⟨20, TT, EE, fun n => none, fun n k => [], fun n => none, fun n => none⟩
theorem q158 : ∀ x, runF C158 Try.f158 i158 o158 x = F158 x := by intro x; kernel_rfl
def i154 : List Grp := [⟨.c, (.cons (.sl e178) .nil), []⟩, ⟨.c, (.cons (.sl e178) .nil), []⟩]
def o154 : List Grp := [⟨.c, (.cons .bool .nil), []⟩]
/-- laws.eqVoteS -/
noncomputable def F154.b0 (x0 : GD i154) : (v1 : (Int × Unit)) → Option (Sum (Int × Unit) (Sum (Int × Unit) (GD o154))) := fun v1 => bif iLt v1.1 (List.length x0.1.1 : Int) then (getI x0.1.1 v1.1).bind fun x2 => (getI x0.2.1.1 v1.1).bind fun x3 => (F158 (x2, (x3, ()))).bind fun y4 => bif (!y4.1.1) then some (.inr (.inr ((false, ()), ()))) else some (.inl (iAdd .i64 v1.1 (1:Int), ())) else some (.inr (.inl (v1.1, ())))
noncomputable def F154 : GD i154 → Option (GD o154) := fun x0 => bif !iEq (List.length x0.1.1 : Int) (List.length x0.2.1.1 : Int) then some ((false, ()), ()) else (loopF (F154.b0 x0) ((0:Int), ())).bind fun r6 => Sum.elim (fun v5 => some ((true, ()), ())) some r6
noncomputable def c154 : Con := ⟨i154, o154, F154⟩
noncomputable def C154 : Ctx := ⟨27, TT, EE, fun n => (bif Nat.beq n 158 then some c158 else none), fun n k => [], fun n => (bif Nat.beq n 0 then (some ⟨[(.t 5 (.int .i64) .sh)], [4, 11, 12, 13, 14, 15, 16, 17, 18, 19, 20, 21, 22, 23, 24, 25, 26], []⟩) else none), fun n => none⟩
theorem q154 : ∀ x, runF C154 Try.f154 i154 o154 x = F154 x := by intro x; kernel_rfl
def i159 : List Grp := [⟨.agg, (.cons (.int .i64) (.cons (.int .i64) (.cons .str .nil))), []⟩, ⟨.agg, (.cons (.int .i64) (.cons (.int .i64) (.cons .str .nil))), []⟩]
def o159 : List Grp := [⟨.c, (.cons .bool .nil), []⟩]
/-- laws.eqGone -/
noncomputable def F159 : GD i159 → Option (GD o159) := fun x0 => bif !iEq x0.1.1 x0.2.1.1 then some ((false, ()), ()) else bif !iEq x0.1.2.1 x0.2.1.2.1 then some ((false, ()), ()) else bif !sEq x0.1.2.2.1 x0.2.1.2.2.1 then some ((false, ()), ()) else some ((true, ()), ())
noncomputable def c159 : Con := ⟨i159, o159, F159⟩
noncomputable def C159 : Ctx := ⟨20, TT, EE, fun n => none, fun n k => [], fun n => none, fun n => none⟩
theorem q159 : ∀ x, runF C159 Try.f159 i159 o159 x = F159 x := by intro x; kernel_rfl
def i155 : List Grp := [⟨.c, (.cons (.sl e179) .nil), []⟩, ⟨.c, (.cons (.sl e179) .nil), []⟩]
def o155 : List Grp := [⟨.c, (.cons .bool .nil), []⟩]
/-- laws.eqGoneS -/
noncomputable def F155.b0 (x0 : GD i155) : (v1 : (Int × Unit)) → Option (Sum (Int × Unit) (Sum (Int × Unit) (GD o155))) := fun v1 => bif iLt v1.1 (List.length x0.1.1 : Int) then (getI x0.1.1 v1.1).bind fun x2 => (getI x0.2.1.1 v1.1).bind fun x3 => (F159 (x2, (x3, ()))).bind fun y4 => bif (!y4.1.1) then some (.inr (.inr ((false, ()), ()))) else some (.inl (iAdd .i64 v1.1 (1:Int), ())) else some (.inr (.inl (v1.1, ())))
noncomputable def F155 : GD i155 → Option (GD o155) := fun x0 => bif !iEq (List.length x0.1.1 : Int) (List.length x0.2.1.1 : Int) then some ((false, ()), ()) else (loopF (F155.b0 x0) ((0:Int), ())).bind fun r6 => Sum.elim (fun v5 => some ((true, ()), ())) some r6
noncomputable def c155 : Con := ⟨i155, o155, F155⟩
noncomputable def C155 : Ctx := ⟨27, TT, EE, fun n => (bif Nat.beq n 159 then some c159 else none), fun n k => [], fun n => (bif Nat.beq n 0 then (some ⟨[(.t 5 (.int .i64) .sh)], [4, 11, 12, 13, 14, 15, 16, 17, 18, 19, 20, 21, 22, 23, 24, 25, 26], []⟩) else none), fun n => none⟩
theorem q155 : ∀ x, runF C155 Try.f155 i155 o155 x = F155 x := by intro x; kernel_rfl
def i23 : List Grp := [⟨.agg, (.cons (.int .i64) (.cons (.sl e96) (.cons (.int .i64) (.cons (.int .i64) (.cons (.sl e9) .nil))))), []⟩, ⟨.agg, (.cons (.int .i64) (.cons (.sl e96) (.cons (.int .i64) (.cons (.int .i64) (.cons (.sl e9) .nil))))), []⟩]
def o23 : List Grp := [⟨.c, (.cons .bool .nil), []⟩]
/-- laws.eqProof -/
noncomputable def F23 : GD i23 → Option (GD o23) := fun x0 => bif !iEq x0.1.1 x0.2.1.1 then some ((false, ()), ()) else (F62 ((x0.1.2.1, ()), ((x0.2.1.2.1, ()), ()))).bind fun y1 => bif (!y1.1.1) then some ((false, ()), ()) else (F63 ((x0.1.2.2.1, (x0.1.2.2.2.1, (x0.1.2.2.2.2.1, ()))), ((x0.2.1.2.2.1, (x0.2.1.2.2.2.1, (x0.2.1.2.2.2.2.1, ()))), ()))).bind fun y2 => bif (!y2.1.1) then some ((false, ()), ()) else some ((true, ()), ())
noncomputable def c23 : Con := ⟨i23, o23, F23⟩
noncomputable def C23 : Ctx := ⟨22, TT, EE, fun n => (bif Nat.ble n 62 then (bif Nat.beq n 62 then some c62 else none) else (bif Nat.beq n 63 then some c63 else none)), fun n k => [], fun n => none, fun n => none⟩
theorem q23 : ∀ x, runF C23 Try.f23 i23 o23 x = F23 x := by intro x; kernel_rfl
def i157 : List Grp := [⟨.c, (.cons (.sl e56) .nil), []⟩, ⟨.c, (.cons (.sl e56) .nil), []⟩]
def o157 : List Grp := [⟨.c, (.cons .bool .nil), []⟩]
/-- laws.eqProofS -/
noncomputable def F157.b0 (x0 : GD i157) : (v1 : (Int × Unit)) → Option (Sum (Int × Unit) (Sum (Int × Unit) (GD o157))) := fun v1 => bif iLt v1.1 (List.length x0.1.1 : Int) then (getI x0.1.1 v1.1).bind fun x2 => (getI x0.2.1.1 v1.1).bind fun x3 => (F23 (x2, (x3, ()))).bind fun y4 => bif (!y4.1.1) then some (.inr (.inr ((false, ()), ()))) else some (.inl (iAdd .i64 v1.1 (1:Int), ())) else some (.inr (.inl (v1.1, ())))
noncomputable def F157 : GD i157 → Option (GD o157) := fun x0 => bif !iEq (List.length x0.1.1 : Int) (List.length x0.2.1.1 : Int) then some ((false, ()), ()) else (loopF (F157.b0 x0) ((0:Int), ())).bind fun r6 => Sum.elim (fun v5 => some ((true, ()), ())) some r6
noncomputable def c157 : Con := ⟨i157, o157, F157⟩
noncomputable def C157 : Ctx := ⟨27, TT, EE, fun n => (bif Nat.beq n 23 then some c23 else none), fun n k => [], fun n => (bif Nat.beq n 0 then (some ⟨[(.t 5 (.int .i64) .sh)], [4, 11, 12, 13, 14, 15, 16, 17, 18, 19, 20, 21, 22, 23, 24, 25, 26], []⟩) else none), fun n => none⟩
theorem q157 : ∀ x, runF C157 Try.f157 i157 o157 x = F157 x := by intro x; kernel_rfl
def i113 : List Grp := [⟨.agg, (.cons .str (.cons (.int .i64) (.cons (.int .i64) (.cons (.sl e138) (.cons (.sl e106) (.cons (.sl e96) (.cons (.int .i64) (.cons (.int .i64) (.cons (.int .i64) (.cons (.int .i64) (.cons (.sl e9) (.cons (.int .i64) (.cons (.sl e9) (.cons (.sl e3) (.cons (.int .i64) (.cons (.sl e178) (.cons (.sl e179) (.cons (.sl e3) (.cons (.sl e198) (.cons (.sl e56) .nil)))))))))))))))))))), []⟩, ⟨.agg, (.cons .str (.cons (.int .i64) (.cons (.int .i64) (.cons (.sl e138) (.cons (.sl e106) (.cons (.sl e96) (.cons (.int .i64) (.cons (.int .i64) (.cons (.int .i64) (.cons (.int .i64) (.cons (.sl e9) (.cons (.int .i64) (.cons (.sl e9) (.cons (.sl e3) (.cons (.int .i64) (.cons (.sl e178) (.cons (.sl e179) (.cons (.sl e3) (.cons (.sl e198) (.cons (.sl e56) .nil)))))))))))))))))))), []⟩]
def o113 : List Grp := [⟨.c, (.cons .bool .nil), []⟩]
/-- laws.eqNode -/
noncomputable def F113 : GD i113 → Option (GD o113) := fun x0 => bif !sEq x0.1.1 x0.2.1.1 then some ((false, ()), ()) else bif !iEq x0.1.2.1 x0.2.1.2.1 then some ((false, ()), ()) else (F13 ((x0.1.2.2.1, (x0.1.2.2.2.1, ())), ((x0.2.1.2.2.1, (x0.2.1.2.2.2.1, ())), ()))).bind fun y1 => bif (!y1.1.1) then some ((false, ()), ()) else (F40 ((x0.1.2.2.2.2.1, ()), ((x0.2.1.2.2.2.2.1, ()), ()))).bind fun y2 => bif (!y2.1.1) then some ((false, ()), ()) else (F62 ((x0.1.2.2.2.2.2.1, ()), ((x0.2.1.2.2.2.2.2.1, ()), ()))).bind fun y3 => bif (!y3.1.1) then some ((false, ()), ()) else bif !iEq x0.1.2.2.2.2.2.2.1 x0.2.1.2.2.2.2.2.2.1 then some ((false, ()), ()) else bif !iEq x0.1.2.2.2.2.2.2.2.1 x0.2.1.2.2.2.2.2.2.2.1 then some ((false, ()), ()) else (F63 ((x0.1.2.2.2.2.2.2.2.2.1, (x0.1.2.2.2.2.2.2.2.2.2.1, (x0.1.2.2.2.2.2.2.2.2.2.2.1, ()))), ((x0.2.1.2.2.2.2.2.2.2.2.1, (x0.2.1.2.2.2.2.2.2.2.2.2.1, (x0.2.1.2.2.2.2.2.2.2.2.2.2.1, ()))), ()))).bind fun y4 => bif (!y4.1.1) then some ((false, ()), ()) else (F140 ((x0.1.2.2.2.2.2.2.2.2.2.2.2.1, (x0.1.2.2.2.2.2.2.2.2.2.2.2.2.1, (x0.1.2.2.2.2.2.2.2.2.2.2.2.2.2.1, ()))), ((x0.2.1.2.2.2.2.2.2.2.2.2.2.2.1, (x0.2.1.2.2.2.2.2.2.2.2.2.2.2.2.1, (x0.2.1.2.2.2.2.2.2.2.2.2.2.2.2.2.1, ()))), ()))).bind fun y5 => bif (!y5.1.1) then some ((false, ()), ()) else bif !iEq x0.1.2.2.2.2.2.2.2.2.2.2.2.2.2.2.1 x0.2.1.2.2.2.2.2.2.2.2.2.2.2.2.2.2.1 then some ((false, ()), ()) else (F154 ((x0.1.2.2.2.2.2.2.2.2.2.2.2.2.2.2.2.1, ()), ((x0.2.1.2.2.2.2.2.2.2.2.2.2.2.2.2.2.2.1, ()), ()))).bind fun y6 => bif (!y6.1.1) then some ((false, ()), ()) else (F155 ((x0.1.2.2.2.2.2.2.2.2.2.2.2.2.2.2.2.2.1, ()), ((x0.2.1.2.2.2.2.2.2.2.2.2.2.2.2.2.2.2.2.1, ()), ()))).bind fun y7 => bif (!y7.1.1) then some ((false, ()), ()) else (F156 ((x0.1.2.2.2.2.2.2.2.2.2.2.2.2.2.2.2.2.2.1, ()), ((x0.2.1.2.2.2.2.2.2.2.2.2.2.2.2.2.2.2.2.2.1, ()), ()))).bind fun y8 => bif (!y8.1.1) then some ((false, ()), ()) else (F141 ((x0.1.2.2.2.2.2.2.2.2.2.2.2.2.2.2.2.2.2.2.1, ()), ((x0.2.1.2.2.2.2.2.2.2.2.2.2.2.2.2.2.2.2.2.2.1, ()), ()))).bind fun y9 => bif (!y9.1.1) then some ((false, ()), ()) else (F157 ((x0.1.2.2.2.2.2.2.2.2.2.2.2.2.2.2.2.2.2.2.2.1, ()), ((x0.2.1.2.2.2.2.2.2.2.2.2.2.2.2.2.2.2.2.2.2.2.1, ()), ()))).bind fun y10 => bif (!y10.1.1) then some ((false, ()), ()) else some ((true, ()), ())
noncomputable def c113 : Con := ⟨i113, o113, F113⟩
noncomputable def C113 : Ctx := ⟨90, TT, EE, fun n => (bif Nat.ble n 140 then (bif Nat.ble n 40 then (bif Nat.ble n 13 then (bif Nat.beq n 13 then some c13 else none) else (bif Nat.beq n 40 then some c40 else none)) else (bif Nat.ble n 62 then (bif Nat.beq n 62 then some c62 else none) else (bif Nat.ble n 63 then (bif Nat.beq n 63 then some c63 else none) else (bif Nat.beq n 140 then some c140 else none)))) else (bif Nat.ble n 154 then (bif Nat.ble n 141 then (bif Nat.beq n 141 then some c141 else none) else (bif Nat.beq n 154 then some c154 else none)) else (bif Nat.ble n 155 then (bif Nat.beq n 155 then some c155 else none) else (bif Nat.ble n 156 then (bif Nat.beq n 156 then some c156 else none) else (bif Nat.beq n 157 then some c157 else none))))), fun n k => [], fun n => none, fun n => none⟩
theorem q113 : ∀ x, runF C113 Try.f113 i113 o113 x = F113 x := by intro x; kernel_rfl
def i75 : List Grp := [⟨.c, (.cons (.sl e119) .nil), []⟩, ⟨.c, (.cons (.sl e119) .nil), []⟩]
def o75 : List Grp := [⟨.c, (.cons .bool .nil), []⟩]
/-- laws.eqNodeS -/
noncomputable def F75.b0 (x0 : GD i75) : (v1 : (Int × Unit)) → Option (Sum (Int × Unit) (Sum (Int × Unit) (GD o75))) := fun v1 => bif iLt v1.1 (List.length x0.1.1 : Int) then (getI x0.1.1 v1.1).bind fun x2 => (getI x0.2.1.1 v1.1).bind fun x3 => (F113 (x2, (x3, ()))).bind fun y4 => bif (!y4.1.1) then some (.inr (.inr ((false, ()), ()))) else some (.inl (iAdd .i64 v1.1 (1:Int), ())) else some (.inr (.inl (v1.1, ())))
noncomputable def F75 : GD i75 → Option (GD o75) := fun x0 => bif !iEq (List.length x0.1.1 : Int) (List.length x0.2.1.1 : Int) then some ((false, ()), ()) else (loopF (F75.b0 x0) ((0:Int), ())).bind fun r6 => Sum.elim (fun v5 => some ((true, ()), ())) some r6
noncomputable def c75 : Con := ⟨i75, o75, F75⟩
noncomputable def C75 : Ctx := ⟨27, TT, EE, fun n => (bif Nat.beq n 113 then some c113 else none), fun n k => [], fun n => (bif Nat.beq n 0 then (some ⟨[(.t 5 (.int .i64) .sh)], [4, 11, 12, 13, 14, 15, 16, 17, 18, 19, 20, 21, 22, 23, 24, 25, 26], []⟩) else none), fun n => none⟩
theorem q75 : ∀ x, runF C75 Try.f75 i75 o75 x = F75 x := by intro x; kernel_rfl
def i114 : List Grp := [⟨.agg, (.cons (.int .i64) (.cons (.int .i64) (.cons (.int .i64) (.cons (.int .i64) (.cons .str .nil))))), []⟩, ⟨.agg, (.cons (.int .i64) (.cons (.int .i64) (.cons (.int .i64) (.cons (.int .i64) (.cons .str .nil))))), []⟩]
def o114 : List Grp := [⟨.c, (.cons .bool .nil), []⟩]
/-- laws.eqSig -/
noncomputable def F114 : GD i114 → Option (GD o114) := fun x0 => bif !iEq x0.1.1 x0.2.1.1 then some ((false, ()), ()) else bif !iEq x0.1.2.1 x0.2.1.2.1 then some ((false, ()), ()) else bif !iEq x0.1.2.2.1 x0.2.1.2.2.1 then some ((false, ()), ()) else bif !iEq x0.1.2.2.2.1 x0.2.1.2.2.2.1 then some ((false, ()), ()) else bif !sEq x0.1.2.2.2.2.1 x0.2.1.2.2.2.2.1 then some ((false, ()), ()) else some ((true, ()), ())
noncomputable def c114 : Con := ⟨i114, o114, F114⟩
noncomputable def C114 : Ctx := ⟨30, TT, EE, fun n => none, fun n k => [], fun n => none, fun n => none⟩
theorem q114 : ∀ x, runF C114 Try.f114 i114 o114 x = F114 x := by intro x; kernel_rfl
def i76 : List Grp := [⟨.c, (.cons (.sl e129) .nil), []⟩, ⟨.c, (.cons (.sl e129) .nil), []⟩]
def o76 : List Grp := [⟨.c, (.cons .bool .nil), []⟩]
/-- laws.eqSigS -/
noncomputable def F76.b0 (x0 : GD i76) : (v1 : (Int × Unit)) → Option (Sum (Int × Unit) (Sum (Int × Unit) (GD o76))) := fun v1 => bif iLt v1.1 (List.length x0.1.1 : Int) then (getI x0.1.1 v1.1).bind fun x2 => (getI x0.2.1.1 v1.1).bind fun x3 => (F114 (x2, (x3, ()))).bind fun y4 => bif (!y4.1.1) then some (.inr (.inr ((false, ()), ()))) else some (.inl (iAdd .i64 v1.1 (1:Int), ())) else some (.inr (.inl (v1.1, ())))
noncomputable def F76 : GD i76 → Option (GD o76) := fun x0 => bif !iEq (List.length x0.1.1 : Int) (List.length x0.2.1.1 : Int) then some ((false, ()), ()) else (loopF (F76.b0 x0) ((0:Int), ())).bind fun r6 => Sum.elim (fun v5 => some ((true, ()), ())) some r6
noncomputable def c76 : Con := ⟨i76, o76, F76⟩
noncomputable def C76 : Ctx := ⟨27, TT, EE, fun n => (bif Nat.beq n 114 then some c114 else none), fun n k => [], fun n => (bif Nat.beq n 0 then (some ⟨[(.t 5 (.int .i64) .sh)], [4, 11, 12, 13, 14, 15, 16, 17, 18, 19, 20, 21, 22, 23, 24, 25, 26], []⟩) else none), fun n => none⟩
theorem q76 : ∀ x, runF C76 Try.f76 i76 o76 x = F76 x := by intro x; kernel_rfl
def i115 : List Grp := [⟨.agg, (.cons (.int .i64) (.cons .str (.cons (.int .i64) (.cons (.sl e96) (.cons (.int .i64) (.cons (.int .i64) (.cons .str (.cons (.int .i64) (.cons (.int .i64) (.cons .str (.cons (.int .i64) (.cons (.int .i64) (.cons (.sl e9) (.cons (.int .i64) (.cons (.sl e9) (.cons (.sl e3) .nil)))))))))))))))), []⟩, ⟨.agg, (.cons (.int .i64) (.cons .str (.cons (.int .i64) (.cons (.sl e96) (.cons (.int .i64) (.cons (.int .i64) (.cons .str (.cons (.int .i64) (.cons (.int .i64) (.cons .str (.cons (.int .i64) (.cons (.int .i64) (.cons (.sl e9) (.cons (.int .i64) (.cons (.sl e9) (.cons (.sl e3) .nil)))))))))))))))), []⟩]
def o115 : List Grp := [⟨.c, (.cons .bool .nil), []⟩]
/-- laws.eqMsg -/
noncomputable def F115 : GD i115 → Option (GD o115) := fun x0 => bif !iEq x0.1.1 x0.2.1.1 then some ((false, ()), ()) else bif !sEq x0.1.2.1 x0.2.1.2.1 then some ((false, ()), ()) else bif !iEq x0.1.2.2.1 x0.2.1.2.2.1 then some ((false, ()), ()) else (F62 ((x0.1.2.2.2.1, ()), ((x0.2.1.2.2.2.1, ()), ()))).bind fun y1 => bif (!y1.1.1) then some ((false, ()), ()) else (F158 ((x0.1.2.2.2.2.1, (x0.1.2.2.2.2.2.1, (x0.1.2.2.2.2.2.2.1, ()))), ((x0.2.1.2.2.2.2.1, (x0.2.1.2.2.2.2.2.1, (x0.2.1.2.2.2.2.2.2.1, ()))), ()))).bind fun y2 => bif (!y2.1.1) then some ((false, ()), ()) else (F159 ((x0.1.2.2.2.2.2.2.2.1, (x0.1.2.2.2.2.2.2.2.2.1, (x0.1.2.2.2.2.2.2.2.2.2.1, ()))), ((x0.2.1.2.2.2.2.2.2.2.1, (x0.2.1.2.2.2.2.2.2.2.2.1, (x0.2.1.2.2.2.2.2.2.2.2.2.1, ()))), ()))).bind fun y3 => bif (!y3.1.1) then some ((false, ()), ()) else (F63 ((x0.1.2.2.2.2.2.2.2.2.2.2.1, (x0.1.2.2.2.2.2.2.2.2.2.2.2.1, (x0.1.2.2.2.2.2.2.2.2.2.2.2.2.1, ()))), ((x0.2.1.2.2.2.2.2.2.2.2.2.2.1, (x0.2.1.2.2.2.2.2.2.2.2.2.2.2.1, (x0.2.1.2.2.2.2.2.2.2.2.2.2.2.2.1, ()))), ()))).bind fun y4 => bif (!y4.1.1) then some ((false, ()), ()) else (F140 ((x0.1.2.2.2.2.2.2.2.2.2.2.2.2.2.1, (x0.1.2.2.2.2.2.2.2.2.2.2.2.2.2.2.1, (x0.1.2.2.2.2.2.2.2.2.2.2.2.2.2.2.2.1, ()))), ((x0.2.1.2.2.2.2.2.2.2.2.2.2.2.2.2.1, (x0.2.1.2.2.2.2.2.2.2.2.2.2.2.2.2.2.1, (x0.2.1.2.2.2.2.2.2.2.2.2.2.2.2.2.2.2.1, ()))), ()))).bind fun y5 => bif (!y5.1.1) then some ((false, ()), ()) else some ((true, ()), ())
noncomputable def c115 : Con := ⟨i115, o115, F115⟩
noncomputable def C115 : Ctx := ⟨50, TT, EE, fun n => (bif Nat.ble n 63 then (bif Nat.ble n 62 then (bif Nat.beq n 62 then some c62 else none) else (bif Nat.beq n 63 then some c63 else none)) else (bif Nat.ble n 140 then (bif Nat.beq n 140 then some c140 else none) else (bif Nat.ble n 158 then (bif Nat.beq n 158 then some c158 else none) else (bif Nat.beq n 159 then some c159 else none)))), fun n k => [], fun n => none, fun n => none⟩
theorem q115 : ∀ x, runF C115 Try.f115 i115 o115 x = F115 x := by intro x; kernel_rfl
def i77 : List Grp := [⟨.c, (.cons (.sl e181) .nil), []⟩, ⟨.c, (.cons (.sl e181) .nil), []⟩]
def o77 : List Grp := [⟨.c, (.cons .bool .nil), []⟩]
/-- laws.eqMsgS -/
noncomputable def F77.b0 (x0 : GD i77) : (v1 : (Int × Unit)) → Option (Sum (Int × Unit) (Sum (Int × Unit) (GD o77))) := fun v1 => bif iLt v1.1 (List.length x0.1.1 : Int) then (getI x0.1.1 v1.1).bind fun x2 => (getI x0.2.1.1 v1.1).bind fun x3 => (F115 (x2, (x3, ()))).bind fun y4 => bif (!y4.1.1) then some (.inr (.inr ((false, ()), ()))) else some (.inl (iAdd .i64 v1.1 (1:Int), ())) else some (.inr (.inl (v1.1, ())))
noncomputable def F77 : GD i77 → Option (GD o77) := fun x0 => bif !iEq (List.length x0.1.1 : Int) (List.length x0.2.1.1 : Int) then some ((false, ()), ()) else (loopF (F77.b0 x0) ((0:Int), ())).bind fun r6 => Sum.elim (fun v5 => some ((true, ()), ())) some r6
noncomputable def c77 : Con := ⟨i77, o77, F77⟩
noncomputable def C77 : Ctx := ⟨27, TT, EE, fun n => (bif Nat.beq n 115 then some c115 else none), fun n k => [], fun n => (bif Nat.beq n 0 then (some ⟨[(.t 5 (.int .i64) .sh)], [4, 11, 12, 13, 14, 15, 16, 17, 18, 19, 20, 21, 22, 23, 24, 25, 26], []⟩) else none), fun n => none⟩
theorem q77 : ∀ x, runF C77 Try.f77 i77 o77 x = F77 x := by intro x; kernel_rfl
def i29 : List Grp := [⟨.agg, (.cons (.int .i64) (.cons (.sl e138) (.cons (.sl e9) (.cons (.sl e119) (.cons (.sl e96) (.cons (.sl e129) (.cons (.sl e181) .nil))))))), []⟩, ⟨.agg, (.cons (.int .i64) (.cons (.sl e138) (.cons (.sl e9) (.cons (.sl e119) (.cons (.sl e96) (.cons (.sl e129) (.cons (.sl e181) .nil))))))), []⟩]
def o29 : List Grp := [⟨.c, (.cons .bool .nil), []⟩]
/-- laws.eqWorld -/
noncomputable def F29 : GD i29 → Option (GD o29) := fun x0 => (F13 ((x0.1.1, (x0.1.2.1, ())), ((x0.2.1.1, (x0.2.1.2.1, ())), ()))).bind fun y1 => bif (!y1.1.1) then some ((false, ()), ()) else (F74 ((x0.1.2.2.1, ()), ((x0.2.1.2.2.1, ()), ()))).bind fun y2 => bif (!y2.1.1) then some ((false, ()), ()) else (F75 ((x0.1.2.2.2.1, ()), ((x0.2.1.2.2.2.1, ()), ()))).bind fun y3 => bif (!y3.1.1) then some ((false, ()), ()) else (F62 ((x0.1.2.2.2.2.1, ()), ((x0.2.1.2.2.2.2.1, ()), ()))).bind fun y4 => bif (!y4.1.1) then some ((false, ()), ()) else (F76 ((x0.1.2.2.2.2.2.1, ()), ((x0.2.1.2.2.2.2.2.1, ()), ()))).bind fun y5 => bif (!y5.1.1) then some ((false, ()), ()) else (F77 ((x0.1.2.2.2.2.2.2.1, ()), ((x0.2.1.2.2.2.2.2.2.1, ()), ()))).bind fun y6 => bif (!y6.1.1) then some ((false, ()), ()) else some ((true, ()), ())
noncomputable def c29 : Con := ⟨i29, o29, F29⟩
noncomputable def C29 : Ctx := ⟨41, TT, EE, fun n => (bif Nat.ble n 74 then (bif Nat.ble n 13 then (bif Nat.beq n 13 then some c13 else none) else (bif Nat.ble n 62 then (bif Nat.beq n 62 then some c62 else none) else (bif Nat.beq n 74 then some c74 else none))) else (bif Nat.ble n 75 then (bif Nat.beq n 75 then some c75 else none) else (bif Nat.ble n 76 then (bif Nat.beq n 76 then some c76 else none) else (bif Nat.beq n 77 then some c77 else none)))), fun n k => [], fun n => none, fun n => none⟩
theorem q29 : ∀ x, runF C29 Try.f29 i29 o29 x = F29 x := by intro x; kernel_rfl
def i5 : List Grp := [⟨.agg, (.cons (.int .i64) (.cons (.sl e133) (.cons (.sl e9) (.cons (.sl e166) (.cons (.sl e150) (.cons (.sl e168) (.cons (.sl e175) .nil))))))), []⟩]
def o5 : List Grp := [⟨.c, (.cons .bool .nil), []⟩]
/-- laws.FnExactMost -/
noncomputable def F5 : GD i5 → Option (GD o5) := fun x0 => (F25 (x0.1, (((1048576:Int), ()), ()))).bind fun y1 => bif iLt y1.1.1 (0:Int) then some ((true, ()), ()) else (F27 (x0.1, ())).bind fun y2 => (F26 (y2.1, ())).bind fun y3 => (F27 (x0.1, ())).bind fun y4 => (F28 (y4.1, ())).bind fun y5 => bif !iEq y5.1.1 y3.1.1 then some ((false, ()), ()) else (F27 (x0.1, ())).bind fun y6 => (F29 (y4.1, (y6.1, ()))).bind fun y7 => bif (!y7.1.1) then some ((false, ()), ()) else some ((true, ()), ())
noncomputable def c5 : Con := ⟨i5, o5, F5⟩
noncomputable def C5 : Ctx := ⟨27, TT, EE, fun n => (bif Nat.ble n 26 then (bif Nat.ble n 25 then (bif Nat.beq n 25 then some c25 else none) else (bif Nat.beq n 26 then some c26 else none)) else (bif Nat.ble n 27 then (bif Nat.beq n 27 then some c27 else none) else (bif Nat.ble n 28 then (bif Nat.beq n 28 then some c28 else none) else (bif Nat.beq n 29 then some c29 else none)))), fun n k => [], fun n => none, fun n => none⟩
theorem q5 : ∀ x, runF C5 Try.f5 i5 o5 x = F5 x := by intro x; kernel_rfl
def i30 : List Grp := [⟨.agg, (.cons (.int .i64) (.cons (.sl e138) (.cons (.sl e9) (.cons (.sl e119) (.cons (.sl e96) (.cons (.sl e129) (.cons (.sl e181) .nil))))))), []⟩]
def o30 : List Grp := [⟨.c, (.cons (.int .i64) .nil), []⟩]
/-- spec.Least -/
noncomputable def F30.b0 (x0 : GD i30) : (v1 : (Int × (Int × Unit))) → Option (Sum (Int × (Int × Unit)) (Sum (Int × (Int × Unit)) (GD o30))) := fun v1 => bif iLt v1.2.1 (List.length x0.1.2.2.2.1 : Int) then bif iEq v1.2.1 (0:Int) then (getI x0.1.2.2.2.1 v1.2.1).bind fun x2 => some (.inl ((List.length x2.2.2.2.2.2.2.2.2.2.2.2.2.2.2.2.2.2.1 : Int), (iAdd .i64 v1.2.1 (1:Int), ()))) else (getI x0.1.2.2.2.1 v1.2.1).bind fun x3 => bif iLt (List.length x3.2.2.2.2.2.2.2.2.2.2.2.2.2.2.2.2.2.1 : Int) v1.1 then (getI x0.1.2.2.2.1 v1.2.1).bind fun x4 => some (.inl ((List.length x4.2.2.2.2.2.2.2.2.2.2.2.2.2.2.2.2.2.1 : Int), (iAdd .i64 v1.2.1 (1:Int), ()))) else some (.inl (v1.1, (iAdd .i64 v1.2.1 (1:Int), ()))) else some (.inr (.inl (v1.1, (v1.2.1, ()))))
noncomputable def F30 : GD i30 → Option (GD o30) := fun x0 => (loopF (F30.b0 x0) ((0:Int), ((0:Int), ()))).bind fun r6 => Sum.elim (fun v5 => some ((v5.1, ()), ())) some r6
noncomputable def c30 : Con := ⟨i30, o30, F30⟩
noncomputable def C30 : Ctx := ⟨33, TT, EE, fun n => none, fun n k => [], fun n => (bif Nat.beq n 0 then (some ⟨[(.t 3 (.int .i64) .sh), (.t 4 (.int .i64) .sh)], [5, 6, 7, 8, 9, 10, 11, 12, 13, 14, 15, 16, 17, 18, 19, 20, 21, 22, 23, 24, 25, 26, 27, 28, 29, 30, 31], []⟩) else none), fun n => none⟩
theorem q30 : ∀ x, runF C30 Try.f30 i30 o30 x = F30 x := by intro x; kernel_rfl
def i31 : List Grp := [⟨.agg, (.cons (.int .i64) (.cons (.sl e138) (.cons (.sl e9) (.cons (.sl e119) (.cons (.sl e96) (.cons (.sl e129) (.cons (.sl e181) .nil))))))), []⟩]
def o31 : List Grp := [⟨.c, (.cons (.int .i64) .nil), []⟩]
/-- impl.Least -/
noncomputable def F31.b0 (x0 : GD i31) : (v1 : (Int × (Int × Unit))) → Option (Sum (Int × (Int × Unit)) (Sum (Int × (Int × Unit)) (GD o31))) := fun v1 => bif iLt v1.2.1 (List.length x0.1.2.2.2.1 : Int) then (getI x0.1.2.2.2.1 v1.2.1).bind fun x2 => bif iEq v1.2.1 (0:Int) then some (.inl ((List.length x2.2.2.2.2.2.2.2.2.2.2.2.2.2.2.2.2.2.1 : Int), (iAdd .i64 v1.2.1 (1:Int), ()))) else bif iLt (List.length x2.2.2.2.2.2.2.2.2.2.2.2.2.2.2.2.2.2.1 : Int) v1.1 then some (.inl ((List.length x2.2.2.2.2.2.2.2.2.2.2.2.2.2.2.2.2.2.1 : Int), (iAdd .i64 v1.2.1 (1:Int), ()))) else some (.inl (v1.1, (iAdd .i64 v1.2.1 (1:Int), ()))) else some (.inr (.inl (v1.1, (v1.2.1, ()))))
noncomputable def F31 : GD i31 → Option (GD o31) := fun x0 => (loopF (F31.b0 x0) ((0:Int), ((0:Int), ()))).bind fun r4 => Sum.elim (fun v3 => some ((v3.1, ()), ())) some r4
noncomputable def c31 : Con := ⟨i31, o31, F31⟩
noncomputable def C31 : Ctx := ⟨28, TT, EE, fun n => none, fun n k => [], fun n => (bif Nat.beq n 0 then (some ⟨[(.t 3 (.int .i64) .sh), (.t 9 (.int .i64) .sh)], [4, 5, 10, 11, 12, 13, 14, 15, 16, 17, 18, 19, 20, 21, 22, 23, 24, 25, 26], []⟩) else none), fun n => none⟩
theorem q31 : ∀ x, runF C31 Try.f31 i31 o31 x = F31 x := by intro x; kernel_rfl
def i6 : List Grp := [⟨.agg, (.cons (.int .i64) (.cons (.sl e133) (.cons (.sl e9) (.cons (.sl e166) (.cons (.sl e150) (.cons (.sl e168) (.cons (.sl e175) .nil))))))), []⟩]
def o6 : List Grp := [⟨.c, (.cons .bool .nil), []⟩]
/-- laws.FnExactLeast -/
noncomputable def F6 : GD i6 → Option (GD o6) := fun x0 => (F25 (x0.1, (((1048576:Int), ()), ()))).bind fun y1 => bif iLt y1.1.1 (0:Int) then some ((true, ()), ()) else (F27 (x0.1, ())).bind fun y2 => (F30 (y2.1, ())).bind fun y3 => (F27 (x0.1, ())).bind fun y4 => (F31 (y4.1, ())).bind fun y5 => bif !iEq y5.1.1 y3.1.1 then some ((false, ()), ()) else (F27 (x0.1, ())).bind fun y6 => (F29 (y4.1, (y6.1, ()))).bind fun y7 => bif (!y7.1.1) then some ((false, ()), ()) else some ((true, ()), ())
noncomputable def c6 : Con := ⟨i6, o6, F6⟩
noncomputable def C6 : Ctx := ⟨27, TT, EE, fun n => (bif Nat.ble n 27 then (bif Nat.ble n 25 then (bif Nat.beq n 25 then some c25 else none) else (bif Nat.beq n 27 then some c27 else none)) else (bif Nat.ble n 29 then (bif Nat.beq n 29 then some c29 else none) else (bif Nat.ble n 30 then (bif Nat.beq n 30 then some c30 else none) else (bif Nat.beq n 31 then some c31 else none)))), fun n k => [], fun n => none, fun n => none⟩
theorem q6 : ∀ x, runF C6 Try.f6 i6 o6 x = F6 x := by intro x; kernel_rfl
def i32 : List Grp := [⟨.agg, (.cons (.int .i64) (.cons (.sl e138) (.cons (.sl e9) (.cons (.sl e119) (.cons (.sl e96) (.cons (.sl e129) (.cons (.sl e181) .nil))))))), []⟩]
def o32 : List Grp := [⟨.c, (.cons .bool .nil), []⟩]
/-- spec.OneVote -/
noncomputable def F32.b1 (v1 : (Int × Unit)) (x0 : GD i32) : (v2 : (Int × Unit)) → Option (Sum (Int × Unit) (Sum (Int × Unit) (Sum (Int × Unit) (Sum (Int × Unit) (GD o32))))) := fun v2 => bif iLt v2.1 v1.1 then (getI x0.1.2.2.2.2.2.1 v1.1).bind fun x3 => (getI x0.1.2.2.2.2.2.1 v2.1).bind fun x4 => bif iEq x3.1 (1:Int) then bif iEq x4.1 (1:Int) then bif iEq x3.2.1 x4.2.1 then bif iEq x3.2.2.1 x4.2.2.1 then bif sEq x3.2.2.2.2.1 x4.2.2.2.2.1 then bif !iEq x3.2.2.2.1 x4.2.2.2.1 then some (.inr (.inr (.inr (.inr ((false, ()), ()))))) else some (.inl (iAdd .i64 v2.1 (1:Int), ())) else some (.inl (iAdd .i64 v2.1 (1:Int), ())) else some (.inl (iAdd .i64 v2.1 (1:Int), ())) else some (.inl (iAdd .i64 v2.1 (1:Int), ())) else some (.inl (iAdd .i64 v2.1 (1:Int), ())) else some (.inl (iAdd .i64 v2.1 (1:Int), ())) else some (.inr (.inl (v2.1, ())))
noncomputable def F32.b0 (x0 : GD i32) : (v1 : (Int × Unit)) → Option (Sum (Int × Unit) (Sum (Int × Unit) (GD o32))) := fun v1 => bif iLt v1.1 (List.length x0.1.2.2.2.2.2.1 : Int) then (loopF (F32.b1 v1 x0) ((0:Int), ())).bind fun r6 => Sum.elim (fun v5 => some (.inl (iAdd .i64 v1.1 (1:Int), ()))) some r6 else some (.inr (.inl (v1.1, ())))
noncomputable def F32 : GD i32 → Option (GD o32) := fun x0 => (loopF (F32.b0 x0) ((0:Int), ())).bind fun r8 => Sum.elim (fun v7 => some ((true, ()), ())) some r8
noncomputable def c32 : Con := ⟨i32, o32, F32⟩
noncomputable def C32 : Ctx := ⟨65, TT, EE, fun n => none, fun n k => [], fun n => (bif Nat.ble n 0 then (bif Nat.beq n 0 then (some ⟨[(.t 3 (.int .i64) .sh)], [2, 4, 5, 6, 7, 8, 9, 10, 11, 12, 13, 14, 15, 16, 17, 18, 19, 20, 21, 22, 23, 24, 25, 26, 27, 28, 29, 30, 31, 32, 33, 34, 35, 36, 37, 38, 39, 40, 41, 42, 43, 44, 45, 46, 47, 48, 49, 50, 51, 52, 53, 54, 55, 56, 57, 58, 59, 60, 61, 62, 63, 64], []⟩) else none) else (bif Nat.beq n 2 then (some ⟨[(.t 4 (.int .i64) .sh)], [2, 5, 6, 14, 15, 16, 17, 18, 19, 20, 21, 22, 23, 24, 25, 26, 27, 28, 29, 30, 31, 32, 33, 34, 35, 36, 37, 38, 39, 40, 41, 42, 43, 44, 45, 46, 47, 48, 49, 50, 51, 52, 53, 54, 55, 56, 57, 58, 59, 60, 61, 62, 63, 64], []⟩) else none)), fun n => none⟩
theorem q32 : ∀ x, runF C32 Try.f32 i32 o32 x = F32 x := by intro x; kernel_rfl
def i33 : List Grp := [⟨.agg, (.cons (.int .i64) (.cons (.sl e138) (.cons (.sl e9) (.cons (.sl e119) (.cons (.sl e96) (.cons (.sl e129) (.cons (.sl e181) .nil))))))), []⟩]
def o33 : List Grp := [⟨.c, (.cons .bool .nil), []⟩]
/-- impl.OneVote -/
noncomputable def F33.b1 (v1 : (Int × Unit)) (x0 : GD i33) (x2 : Tys.D e129) : (v3 : (Int × Unit)) → Option (Sum (Int × Unit) (Sum (Int × Unit) (Sum (Int × Unit) (Sum (Int × Unit) (GD o33))))) := fun v3 => bif iLt v3.1 (List.length (List.take ((Int.toNat v1.1) - 0) (List.drop 0 x0.1.2.2.2.2.2.1)) : Int) then (getI (List.take ((Int.toNat v1.1) - 0) (List.drop 0 x0.1.2.2.2.2.2.1)) v3.1).bind fun x4 => bif iEq x2.1 (1:Int) then bif iEq x4.1 (1:Int) then bif sEq x2.2.2.2.2.1 x4.2.2.2.2.1 then bif iEq x2.2.1 x4.2.1 then bif iEq x2.2.2.1 x4.2.2.1 then bif !iEq x2.2.2.2.1 x4.2.2.2.1 then some (.inr (.inr (.inr (.inr ((false, ()), ()))))) else some (.inl (iAdd .i64 v3.1 (1:Int), ())) else some (.inl (iAdd .i64 v3.1 (1:Int), ())) else some (.inl (iAdd .i64 v3.1 (1:Int), ())) else some (.inl (iAdd .i64 v3.1 (1:Int), ())) else some (.inl (iAdd .i64 v3.1 (1:Int), ())) else some (.inl (iAdd .i64 v3.1 (1:Int), ())) else some (.inr (.inl (v3.1, ())))
noncomputable def F33.b0 (x0 : GD i33) : (v1 : (Int × Unit)) → Option (Sum (Int × Unit) (Sum (Int × Unit) (GD o33))) := fun v1 => bif iLt v1.1 (List.length x0.1.2.2.2.2.2.1 : Int) then (getI x0.1.2.2.2.2.2.1 v1.1).bind fun x2 => bif cutHi v1.1 (List.length x0.1.2.2.2.2.2.1) then (loopF (F33.b1 v1 x0 x2) ((0:Int), ())).bind fun r6 => Sum.elim (fun v5 => some (.inl (iAdd .i64 v1.1 (1:Int), ()))) some r6 else none else some (.inr (.inl (v1.1, ())))
noncomputable def F33 : GD i33 → Option (GD o33) := fun x0 => (loopF (F33.b0 x0) ((0:Int), ())).bind fun r8 => Sum.elim (fun v7 => some ((true, ()), ())) some r8
noncomputable def c33 : Con := ⟨i33, o33, F33⟩
noncomputable def C33 : Ctx := ⟨62, TT, EE, fun n => none, fun n k => [], fun n => (bif Nat.ble n 0 then (bif Nat.beq n 0 then (some ⟨[(.t 10 (.int .i64) .sh)], [2, 3, 4, 6, 11, 12, 13, 14, 15, 16, 17, 18, 19, 20, 21, 22, 23, 24, 25, 26, 27, 28, 29, 30, 31, 32, 33, 34, 35, 36, 37, 38, 39, 40, 41, 42, 43, 44, 45, 46, 47, 48, 49, 50, 51, 52, 53, 54, 55, 56, 57, 58, 59, 60, 61], []⟩) else none) else (bif Nat.beq n 2 then (some ⟨[(.t 20 (.int .i64) .sh)], [2, 6, 21, 22, 23, 24, 25, 26, 27, 28, 29, 30, 31, 32, 33, 34, 35, 36, 37, 38, 39, 40, 41, 42, 43, 44, 45, 46, 47, 48, 49, 50, 51, 52, 53, 54, 55, 56, 57, 58, 59, 60], []⟩) else none)), fun n => none⟩
theorem q33 : ∀ x, runF C33 Try.f33 i33 o33 x = F33 x := by intro x; kernel_rfl
def i7 : List Grp := [⟨.agg, (.cons (.int .i64) (.cons (.sl e133) (.cons (.sl e9) (.cons (.sl e166) (.cons (.sl e150) (.cons (.sl e168) (.cons (.sl e175) .nil))))))), []⟩]
def o7 : List Grp := [⟨.c, (.cons .bool .nil), []⟩]
/-- laws.FnExactOneVote -/
noncomputable def F7 : GD i7 → Option (GD o7) := fun x0 => (F25 (x0.1, (((1048576:Int), ()), ()))).bind fun y1 => bif iLt y1.1.1 (0:Int) then some ((true, ()), ()) else (F27 (x0.1, ())).bind fun y2 => (F32 (y2.1, ())).bind fun y3 => (F27 (x0.1, ())).bind fun y4 => (F33 (y4.1, ())).bind fun y5 => bif !bEq y5.1.1 y3.1.1 then some ((false, ()), ()) else (F27 (x0.1, ())).bind fun y6 => (F29 (y4.1, (y6.1, ()))).bind fun y7 => bif (!y7.1.1) then some ((false, ()), ()) else some ((true, ()), ())
noncomputable def c7 : Con := ⟨i7, o7, F7⟩
noncomputable def C7 : Ctx := ⟨27, TT, EE, fun n => (bif Nat.ble n 27 then (bif Nat.ble n 25 then (bif Nat.beq n 25 then some c25 else none) else (bif Nat.beq n 27 then some c27 else none)) else (bif Nat.ble n 29 then (bif Nat.beq n 29 then some c29 else none) else (bif Nat.ble n 32 then (bif Nat.beq n 32 then some c32 else none) else (bif Nat.beq n 33 then some c33 else none)))), fun n k => [], fun n => none, fun n => none⟩
theorem q7 : ∀ x, runF C7 Try.f7 i7 o7 x = F7 x := by intro x; kernel_rfl
end Go.Proofs.Ytehcfgnpbelfnaa
