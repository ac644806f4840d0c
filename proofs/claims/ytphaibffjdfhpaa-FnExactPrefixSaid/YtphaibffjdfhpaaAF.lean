/- What the functions that the laws reach compute, as functions over plain data; each one's equation with the program is checked by the kernel. Conditions: none. -/

import Derived.Test.YtphaibffjdfhpaaTm3
import Derived.Test.YtphaibffjdfhpaaProg
namespace Go.Proofs.Ytphaibffjdfhpaa
open Go Go.Tm
set_option linter.unusedVariables false
set_option maxRecDepth 100000
def e3 : Tys := (.cons (.int .i64) .nil)
def e9 : Tys := (.cons .str .nil)
def e179 : Tys := (.cons (.int .i64) (.cons (.int .i64) .nil))
def e134 : Tys := (.cons .str (.cons (.int .i64) (.cons (.int .i64) (.cons (.int .i64) (.cons (.sl e179) .nil)))))
def e167 : Tys := (.cons .str (.cons (.int .i64) .nil))
def e169 : Tys := (.cons (.int .i64) (.cons .str (.cons .str (.cons (.int .i64) (.cons (.int .i64) .nil)))))
def e104 : Tys := (.cons (.int .i64) (.cons (.int .i64) (.cons (.int .i64) (.cons .str (.cons (.int .i64) (.cons (.int .i64) (.cons (.sl e9) (.cons (.int .i64) (.cons (.sl e9) (.cons (.sl e3) (.cons (.sl e169) (.cons .bool (.cons (.sl e167) (.cons .str .nil))))))))))))))
def e108 : Tys := (.cons (.int .i64) (.cons (.int .i64) (.cons .str .nil)))
def e109 : Tys := (.cons (.int .i64) (.cons (.int .i64) (.cons .str .nil)))
def e172 : Tys := (.cons (.int .i64) (.cons (.sl e104) (.cons (.int .i64) (.cons (.int .i64) (.cons (.sl e9) .nil)))))
def e64 : Tys := (.cons .str (.cons (.int .i64) (.cons (.int .i64) (.cons (.sl e134) (.cons (.sl e167) (.cons (.sl e104) (.cons (.int .i64) (.cons (.int .i64) (.cons (.int .i64) (.cons (.int .i64) (.cons (.sl e9) (.cons (.int .i64) (.cons (.sl e9) (.cons (.sl e3) (.cons (.int .i64) (.cons (.sl e108) (.cons (.sl e109) (.cons (.sl e3) (.cons (.sl e169) (.cons (.sl e172) .nil))))))))))))))))))))
def e181 : Tys := (.cons (.int .i64) (.cons (.int .i64) .nil))
def e121 : Tys := (.cons .str (.cons (.int .i64) (.cons (.int .i64) (.cons (.int .i64) (.cons (.sl e181) .nil)))))
def e159 : Tys := (.cons .str (.cons (.int .i64) .nil))
def e162 : Tys := (.cons (.int .i64) (.cons .str (.cons .str (.cons (.int .i64) (.cons (.int .i64) .nil)))))
def e90 : Tys := (.cons (.int .i64) (.cons (.int .i64) (.cons (.int .i64) (.cons .str (.cons (.int .i64) (.cons (.int .i64) (.cons (.sl e9) (.cons (.int .i64) (.cons (.sl e9) (.cons (.sl e3) (.cons (.sl e162) (.cons .bool (.cons (.sl e159) (.cons .str .nil))))))))))))))
def e96 : Tys := (.cons (.int .i64) (.cons (.int .i64) (.cons .str .nil)))
def e98 : Tys := (.cons (.int .i64) (.cons (.int .i64) (.cons .str .nil)))
def e165 : Tys := (.cons (.int .i64) (.cons (.sl e90) (.cons (.int .i64) (.cons (.int .i64) (.cons (.sl e9) .nil)))))
def e87 : Tys := (.cons .str (.cons (.int .i64) (.cons (.int .i64) (.cons (.sl e121) (.cons (.sl e159) (.cons (.sl e90) (.cons (.int .i64) (.cons (.int .i64) (.cons (.int .i64) (.cons (.int .i64) (.cons (.sl e9) (.cons (.int .i64) (.cons (.sl e9) (.cons (.sl e3) (.cons (.int .i64) (.cons (.sl e96) (.cons (.sl e98) (.cons (.sl e3) (.cons (.sl e162) (.cons (.sl e165) .nil))))))))))))))))))))
def e93 : Tys := (.cons (.int .i64) (.cons (.int .i64) (.cons (.int .i64) (.cons (.int .i64) (.cons .str .nil)))))
def e100 : Tys := (.cons (.int .i64) (.cons .str (.cons (.int .i64) (.cons (.sl e90) (.cons (.int .i64) (.cons (.int .i64) (.cons .str (.cons (.int .i64) (.cons (.int .i64) (.cons .str (.cons (.int .i64) (.cons (.int .i64) (.cons (.sl e9) (.cons (.int .i64) (.cons (.sl e9) (.cons (.sl e3) .nil))))))))))))))))
def e106 : Tys := (.cons (.int .i64) (.cons (.int .i64) (.cons (.int .i64) (.cons (.int .i64) (.cons .str .nil)))))
def e111 : Tys := (.cons (.int .i64) (.cons .str (.cons (.int .i64) (.cons (.sl e104) (.cons (.int .i64) (.cons (.int .i64) (.cons .str (.cons (.int .i64) (.cons (.int .i64) (.cons .str (.cons (.int .i64) (.cons (.int .i64) (.cons (.sl e9) (.cons (.int .i64) (.cons (.sl e9) (.cons (.sl e3) .nil))))))))))))))))
def TTL : List (Nat × TI) := [(3, ⟨1, 8, .int .i64, [(.int .i64 (0:Int))], [], [], none⟩), (4, ⟨1, 1, .bool, [(.bool false)], [], [], none⟩), (9, ⟨1, 16, .str, [(.str ⟨#[]⟩)], [], [], none⟩), (22, ⟨1, 24, .slice 121, [.nils], [], [], none⟩), (24, ⟨2, 32, .struct, [(.int .i64 (0:Int)), .nils], [(0, 1), (1, 1)], [false, false], none⟩), (25, ⟨1, 24, .slice 9, [.nils], [], [], none⟩), (26, ⟨1, 24, .slice 87, [.nils], [], [], none⟩), (27, ⟨1, 24, .slice 90, [.nils], [], [], none⟩), (28, ⟨1, 24, .slice 93, [.nils], [], [], none⟩), (29, ⟨1, 24, .slice 100, [.nils], [], [], none⟩), (31, ⟨7, 152, .struct, [(.int .i64 (0:Int)), .nils, .nils, .nils, .nils, .nils, .nils], [(0, 2), (2, 1), (3, 1), (4, 1), (5, 1), (6, 1)], [true, false, false, false, false, false], none⟩), (34, ⟨1, 24, .slice 134, [.nils], [], [], none⟩), (36, ⟨2, 32, .struct, [(.int .i64 (0:Int)), .nils], [(0, 1), (1, 1)], [false, false], none⟩), (37, ⟨1, 24, .slice 64, [.nils], [], [], none⟩), (38, ⟨1, 24, .slice 104, [.nils], [], [], none⟩), (39, ⟨1, 24, .slice 106, [.nils], [], [], none⟩), (40, ⟨1, 24, .slice 111, [.nils], [], [], none⟩), (42, ⟨7, 152, .struct, [(.int .i64 (0:Int)), .nils, .nils, .nils, .nils, .nils, .nils], [(0, 2), (2, 1), (3, 1), (4, 1), (5, 1), (6, 1)], [true, false, false, false, false, false], none⟩), (53, ⟨1, 24, .slice 167, [.nils], [], [], none⟩), (55, ⟨3, 40, .struct, [(.int .i64 (0:Int)), (.int .i64 (0:Int)), .nils], [(0, 1), (1, 1), (2, 1)], [false, false, false], none⟩), (56, ⟨1, 24, .slice 3, [.nils], [], [], none⟩), (58, ⟨3, 56, .struct, [(.int .i64 (0:Int)), .nils, .nils], [(0, 1), (1, 1), (2, 1)], [false, false, false], none⟩), (59, ⟨1, 24, .slice 108, [.nils], [], [], none⟩), (60, ⟨1, 24, .slice 109, [.nils], [], [], none⟩), (61, ⟨1, 24, .slice 169, [.nils], [], [], none⟩), (62, ⟨1, 24, .slice 172, [.nils], [], [], none⟩), (64, ⟨20, 344, .struct, [(.str ⟨#[]⟩), (.int .i64 (0:Int)), (.int .i64 (0:Int)), .nils, .nils, .nils, (.int .i64 (0:Int)), (.int .i64 (0:Int)), (.int .i64 (0:Int)), (.int .i64 (0:Int)), .nils, (.int .i64 (0:Int)), .nils, .nils, (.int .i64 (0:Int)), .nils, .nils, .nils, .nils, .nils], [(0, 1), (1, 1), (2, 2), (4, 1), (5, 1), (6, 1), (7, 1), (8, 3), (11, 3), (14, 1), (15, 1), (16, 1), (17, 1), (18, 1), (19, 1)], [false, false, true, false, false, false, false, true, true, false, false, false, false, false, false], none⟩), (79, ⟨1, 24, .slice 159, [.nils], [], [], none⟩), (80, ⟨3, 40, .struct, [(.int .i64 (0:Int)), (.int .i64 (0:Int)), .nils], [(0, 1), (1, 1), (2, 1)], [false, false, false], none⟩), (81, ⟨3, 56, .struct, [(.int .i64 (0:Int)), .nils, .nils], [(0, 1), (1, 1), (2, 1)], [false, false, false], none⟩), (82, ⟨1, 24, .slice 96, [.nils], [], [], none⟩), (83, ⟨1, 24, .slice 98, [.nils], [], [], none⟩), (84, ⟨1, 24, .slice 162, [.nils], [], [], none⟩), (85, ⟨1, 24, .slice 165, [.nils], [], [], none⟩), (87, ⟨20, 344, .struct, [(.str ⟨#[]⟩), (.int .i64 (0:Int)), (.int .i64 (0:Int)), .nils, .nils, .nils, (.int .i64 (0:Int)), (.int .i64 (0:Int)), (.int .i64 (0:Int)), (.int .i64 (0:Int)), .nils, (.int .i64 (0:Int)), .nils, .nils, (.int .i64 (0:Int)), .nils, .nils, .nils, .nils, .nils], [(0, 1), (1, 1), (2, 2), (4, 1), (5, 1), (6, 1), (7, 1), (8, 3), (11, 3), (14, 1), (15, 1), (16, 1), (17, 1), (18, 1), (19, 1)], [false, false, true, false, false, false, false, true, true, false, false, false, false, false, false], none⟩), (90, ⟨14, 208, .struct, [(.int .i64 (0:Int)), (.int .i64 (0:Int)), (.int .i64 (0:Int)), (.str ⟨#[]⟩), (.int .i64 (0:Int)), (.int .i64 (0:Int)), .nils, (.int .i64 (0:Int)), .nils, .nils, .nils, (.bool false), .nils, (.str ⟨#[]⟩)], [(0, 1), (1, 1), (2, 1), (3, 1), (4, 3), (7, 3), (10, 1), (11, 1), (12, 1), (13, 1)], [false, false, false, false, true, true, false, false, false, false], none⟩), (93, ⟨5, 48, .struct, [(.int .i64 (0:Int)), (.int .i64 (0:Int)), (.int .i64 (0:Int)), (.int .i64 (0:Int)), (.str ⟨#[]⟩)], [(0, 1), (1, 1), (2, 1), (3, 1), (4, 1)], [false, false, false, false, false], (some [.int .i64, .int .i64, .int .i64, .int .i64, .str])⟩), (96, ⟨3, 32, .struct, [(.int .i64 (0:Int)), (.int .i64 (0:Int)), (.str ⟨#[]⟩)], [(0, 1), (1, 1), (2, 1)], [false, false, false], (some [.int .i64, .int .i64, .str])⟩), (98, ⟨3, 32, .struct, [(.int .i64 (0:Int)), (.int .i64 (0:Int)), (.str ⟨#[]⟩)], [(0, 1), (1, 1), (2, 1)], [false, false, false], (some [.int .i64, .int .i64, .str])⟩), (100, ⟨16, 216, .struct, [(.int .i64 (0:Int)), (.str ⟨#[]⟩), (.int .i64 (0:Int)), .nils, (.int .i64 (0:Int)), (.int .i64 (0:Int)), (.str ⟨#[]⟩), (.int .i64 (0:Int)), (.int .i64 (0:Int)), (.str ⟨#[]⟩), (.int .i64 (0:Int)), (.int .i64 (0:Int)), .nils, (.int .i64 (0:Int)), .nils, .nils], [(0, 1), (1, 1), (2, 1), (3, 1), (4, 3), (7, 3), (10, 3), (13, 3)], [false, false, false, false, true, true, true, true], none⟩), (104, ⟨14, 208, .struct, [(.int .i64 (0:Int)), (.int .i64 (0:Int)), (.int .i64 (0:Int)), (.str ⟨#[]⟩), (.int .i64 (0:Int)), (.int .i64 (0:Int)), .nils, (.int .i64 (0:Int)), .nils, .nils, .nils, (.bool false), .nils, (.str ⟨#[]⟩)], [(0, 1), (1, 1), (2, 1), (3, 1), (4, 3), (7, 3), (10, 1), (11, 1), (12, 1), (13, 1)], [false, false, false, false, true, true, false, false, false, false], none⟩), (106, ⟨5, 48, .struct, [(.int .i64 (0:Int)), (.int .i64 (0:Int)), (.int .i64 (0:Int)), (.int .i64 (0:Int)), (.str ⟨#[]⟩)], [(0, 1), (1, 1), (2, 1), (3, 1), (4, 1)], [false, false, false, false, false], (some [.int .i64, .int .i64, .int .i64, .int .i64, .str])⟩), (108, ⟨3, 32, .struct, [(.int .i64 (0:Int)), (.int .i64 (0:Int)), (.str ⟨#[]⟩)], [(0, 1), (1, 1), (2, 1)], [false, false, false], (some [.int .i64, .int .i64, .str])⟩), (109, ⟨3, 32, .struct, [(.int .i64 (0:Int)), (.int .i64 (0:Int)), (.str ⟨#[]⟩)], [(0, 1), (1, 1), (2, 1)], [false, false, false], (some [.int .i64, .int .i64, .str])⟩), (111, ⟨16, 216, .struct, [(.int .i64 (0:Int)), (.str ⟨#[]⟩), (.int .i64 (0:Int)), .nils, (.int .i64 (0:Int)), (.int .i64 (0:Int)), (.str ⟨#[]⟩), (.int .i64 (0:Int)), (.int .i64 (0:Int)), (.str ⟨#[]⟩), (.int .i64 (0:Int)), (.int .i64 (0:Int)), .nils, (.int .i64 (0:Int)), .nils, .nils], [(0, 1), (1, 1), (2, 1), (3, 1), (4, 3), (7, 3), (10, 3), (13, 3)], [false, false, false, false, true, true, true, true], none⟩), (119, ⟨1, 24, .slice 181, [.nils], [], [], none⟩), (121, ⟨5, 64, .struct, [(.str ⟨#[]⟩), (.int .i64 (0:Int)), (.int .i64 (0:Int)), (.int .i64 (0:Int)), .nils], [(0, 1), (1, 1), (2, 1), (3, 1), (4, 1)], [false, false, false, false, false], none⟩), (132, ⟨1, 24, .slice 179, [.nils], [], [], none⟩), (134, ⟨5, 64, .struct, [(.str ⟨#[]⟩), (.int .i64 (0:Int)), (.int .i64 (0:Int)), (.int .i64 (0:Int)), .nils], [(0, 1), (1, 1), (2, 1), (3, 1), (4, 1)], [false, false, false, false, false], none⟩), (159, ⟨2, 24, .struct, [(.str ⟨#[]⟩), (.int .i64 (0:Int))], [(0, 1), (1, 1)], [false, false], (some [.str, .int .i64])⟩), (162, ⟨5, 56, .struct, [(.int .i64 (0:Int)), (.str ⟨#[]⟩), (.str ⟨#[]⟩), (.int .i64 (0:Int)), (.int .i64 (0:Int))], [(0, 1), (1, 1), (2, 1), (3, 1), (4, 1)], [false, false, false, false, false], (some [.int .i64, .str, .str, .int .i64, .int .i64])⟩), (165, ⟨5, 72, .struct, [(.int .i64 (0:Int)), .nils, (.int .i64 (0:Int)), (.int .i64 (0:Int)), .nils], [(0, 1), (1, 1), (2, 3)], [false, false, true], none⟩), (167, ⟨2, 24, .struct, [(.str ⟨#[]⟩), (.int .i64 (0:Int))], [(0, 1), (1, 1)], [false, false], (some [.str, .int .i64])⟩), (169, ⟨5, 56, .struct, [(.int .i64 (0:Int)), (.str ⟨#[]⟩), (.str ⟨#[]⟩), (.int .i64 (0:Int)), (.int .i64 (0:Int))], [(0, 1), (1, 1), (2, 1), (3, 1), (4, 1)], [false, false, false, false, false], (some [.int .i64, .str, .str, .int .i64, .int .i64])⟩), (172, ⟨5, 72, .struct, [(.int .i64 (0:Int)), .nils, (.int .i64 (0:Int)), (.int .i64 (0:Int)), .nils], [(0, 1), (1, 1), (2, 3)], [false, false, true], none⟩), (179, ⟨2, 16, .struct, [(.int .i64 (0:Int)), (.int .i64 (0:Int))], [(0, 1), (1, 1)], [false, false], (some [.int .i64, .int .i64])⟩), (181, ⟨2, 16, .struct, [(.int .i64 (0:Int)), (.int .i64 (0:Int))], [(0, 1), (1, 1)], [false, false], (some [.int .i64, .int .i64])⟩)]
theorem tt_ok : TTL.map (fun p => tiOf Try.prog p.1) = TTL.map (fun p => some p.2) := by kernel_rfl
def TT : Nat → Option TI := lookT TTL
def EE : Nat → Tys := fun n => (bif Nat.ble n 108 then (bif Nat.ble n 93 then (bif Nat.ble n 64 then (bif Nat.ble n 3 then (bif Nat.beq n 3 then e3 else .nil) else (bif Nat.ble n 9 then (bif Nat.beq n 9 then e9 else .nil) else (bif Nat.beq n 64 then e64 else .nil))) else (bif Nat.ble n 87 then (bif Nat.beq n 87 then e87 else .nil) else (bif Nat.ble n 90 then (bif Nat.beq n 90 then e90 else .nil) else (bif Nat.beq n 93 then e93 else .nil)))) else (bif Nat.ble n 100 then (bif Nat.ble n 96 then (bif Nat.beq n 96 then e96 else .nil) else (bif Nat.ble n 98 then (bif Nat.beq n 98 then e98 else .nil) else (bif Nat.beq n 100 then e100 else .nil))) else (bif Nat.ble n 104 then (bif Nat.beq n 104 then e104 else .nil) else (bif Nat.ble n 106 then (bif Nat.beq n 106 then e106 else .nil) else (bif Nat.beq n 108 then e108 else .nil))))) else (bif Nat.ble n 162 then (bif Nat.ble n 121 then (bif Nat.ble n 109 then (bif Nat.beq n 109 then e109 else .nil) else (bif Nat.ble n 111 then (bif Nat.beq n 111 then e111 else .nil) else (bif Nat.beq n 121 then e121 else .nil))) else (bif Nat.ble n 134 then (bif Nat.beq n 134 then e134 else .nil) else (bif Nat.ble n 159 then (bif Nat.beq n 159 then e159 else .nil) else (bif Nat.beq n 162 then e162 else .nil)))) else (bif Nat.ble n 169 then (bif Nat.ble n 165 then (bif Nat.beq n 165 then e165 else .nil) else (bif Nat.ble n 167 then (bif Nat.beq n 167 then e167 else .nil) else (bif Nat.beq n 169 then e169 else .nil))) else (bif Nat.ble n 172 then (bif Nat.beq n 172 then e172 else .nil) else (bif Nat.ble n 179 then (bif Nat.beq n 179 then e179 else .nil) else (bif Nat.beq n 181 then e181 else .nil))))))
def i77 : List Grp := [⟨.c, (.cons (.sl e181) .nil), []⟩, ⟨.c, (.cons (.int .i64) .nil), []⟩]
def o77 : List Grp := [⟨.c, (.cons (.int .i64) .nil), []⟩]
/-- laws.szLeaveS -/
noncomputable def F77 : GD i77 → Option (GD o77) := fun x0 => bif iLt (iSub .i64 x0.2.1.1 (List.length x0.1.1 : Int)) (0:Int) then some (((-1:Int), ()), ()) else some ((iSub .i64 x0.2.1.1 (List.length x0.1.1 : Int), ()), ())
noncomputable def c77 : Con := ⟨i77, o77, F77⟩
noncomputable def C77 : Ctx := ⟨12, TT, EE, fun n => none, fun n k => [], fun n => none, fun n => none⟩
theorem q77 : ∀ x, runF C77 Try.f77 i77 o77 x = F77 x := by intro x; kernel_rfl
def i44 : List Grp := [⟨.agg, (.cons .str (.cons (.int .i64) (.cons (.int .i64) (.cons (.int .i64) (.cons (.sl e181) .nil))))), []⟩, ⟨.c, (.cons (.int .i64) .nil), []⟩]
def o44 : List Grp := [⟨.c, (.cons (.int .i64) .nil), []⟩]
/-- laws.szAcct -/
noncomputable def F44 : GD i44 → Option (GD o44) := fun x0 => bif iLt (iSub .i64 x0.2.1.1 (ByteArray.size x0.1.1 : Int)) (0:Int) then some (((-1:Int), ()), ()) else (F77 ((x0.1.2.2.2.2.1, ()), ((iSub .i64 x0.2.1.1 (ByteArray.size x0.1.1 : Int), ()), ()))).bind fun y1 => bif iLt y1.1.1 (0:Int) then some (((-1:Int), ()), ()) else some (y1.1, ())
noncomputable def c44 : Con := ⟨i44, o44, F44⟩
noncomputable def C44 : Ctx := ⟨19, TT, EE, fun n => (bif Nat.beq n 77 then some c77 else none), fun n k => [], fun n => none, fun n => none⟩
theorem q44 : ∀ x, runF C44 Try.f44 i44 o44 x = F44 x := by intro x; kernel_rfl
def i29 : List Grp := [⟨.c, (.cons (.sl e121) .nil), []⟩, ⟨.c, (.cons (.int .i64) .nil), []⟩]
def o29 : List Grp := [⟨.c, (.cons (.int .i64) .nil), []⟩]
/-- laws.szAcctS -/
noncomputable def F29.b0 (x0 : GD i29) : (v1 : (Int × (Int × Unit))) → Option (Sum (Int × (Int × Unit)) (Sum (Int × (Int × Unit)) (GD o29))) := fun v1 => bif iLt v1.2.1 (List.length x0.1.1 : Int) then (getI x0.1.1 v1.2.1).bind fun x2 => (F44 (x2, ((v1.1, ()), ()))).bind fun y3 => bif iLt y3.1.1 (0:Int) then some (.inr (.inr (((-1:Int), ()), ()))) else some (.inl (y3.1.1, (iAdd .i64 v1.2.1 (1:Int), ()))) else some (.inr (.inl (v1.1, (v1.2.1, ()))))
noncomputable def F29 : GD i29 → Option (GD o29) := fun x0 => bif iLt (iSub .i64 x0.2.1.1 (List.length x0.1.1 : Int)) (0:Int) then some (((-1:Int), ()), ()) else (loopF (F29.b0 x0) (iSub .i64 x0.2.1.1 (List.length x0.1.1 : Int), ((0:Int), ()))).bind fun r5 => Sum.elim (fun v4 => some ((v4.1, ()), ())) some r5
noncomputable def c29 : Con := ⟨i29, o29, F29⟩
noncomputable def C29 : Ctx := ⟨27, TT, EE, fun n => (bif Nat.beq n 44 then some c44 else none), fun n k => [], fun n => (bif Nat.beq n 0 then (some ⟨[(.t 1 (.int .i64) .sh), (.t 5 (.int .i64) .sh)], [4, 12, 13, 14, 15, 16, 17, 18, 19, 20, 21, 22, 23, 24, 25], []⟩) else none), fun n => none⟩
theorem q29 : ∀ x, runF C29 Try.f29 i29 o29 x = F29 x := by intro x; kernel_rfl
def i9 : List Grp := [⟨.agg, (.cons (.int .i64) (.cons (.sl e121) .nil)), []⟩, ⟨.c, (.cons (.int .i64) .nil), []⟩]
def o9 : List Grp := [⟨.c, (.cons (.int .i64) .nil), []⟩]
/-- laws.szLedger -/
noncomputable def F9 : GD i9 → Option (GD o9) := fun x0 => (F29 ((x0.1.2.1, ()), (x0.2.1, ()))).bind fun y1 => bif iLt y1.1.1 (0:Int) then some (((-1:Int), ()), ()) else some (y1.1, ())
noncomputable def c9 : Con := ⟨i9, o9, F9⟩
noncomputable def C9 : Ctx := ⟨12, TT, EE, fun n => (bif Nat.beq n 29 then some c29 else none), fun n k => [], fun n => none, fun n => none⟩
theorem q9 : ∀ x, runF C9 Try.f9 i9 o9 x = F9 x := by intro x; kernel_rfl
def i10 : List Grp := [⟨.c, (.cons (.sl e9) .nil), []⟩, ⟨.c, (.cons (.int .i64) .nil), []⟩]
def o10 : List Grp := [⟨.c, (.cons (.int .i64) .nil), []⟩]
/-- laws.szStringS -/
noncomputable def F10.b0 (x0 : GD i10) : (v1 : (Int × (Int × Unit))) → Option (Sum (Int × (Int × Unit)) (Sum (Int × (Int × Unit)) (GD o10))) := fun v1 => bif iLt v1.2.1 (List.length x0.1.1 : Int) then (getI x0.1.1 v1.2.1).bind fun x2 => bif iLt (iSub .i64 v1.1 (ByteArray.size x2.1 : Int)) (0:Int) then some (.inr (.inr (((-1:Int), ()), ()))) else some (.inl (iSub .i64 v1.1 (ByteArray.size x2.1 : Int), (iAdd .i64 v1.2.1 (1:Int), ()))) else some (.inr (.inl (v1.1, (v1.2.1, ()))))
noncomputable def F10 : GD i10 → Option (GD o10) := fun x0 => bif iLt (iSub .i64 x0.2.1.1 (List.length x0.1.1 : Int)) (0:Int) then some (((-1:Int), ()), ()) else (loopF (F10.b0 x0) (iSub .i64 x0.2.1.1 (List.length x0.1.1 : Int), ((0:Int), ()))).bind fun r4 => Sum.elim (fun v3 => some ((v3.1, ()), ())) some r4
noncomputable def c10 : Con := ⟨i10, o10, F10⟩
noncomputable def C10 : Ctx := ⟨28, TT, EE, fun n => none, fun n k => [], fun n => (bif Nat.beq n 0 then (some ⟨[(.t 1 (.int .i64) .sh), (.t 5 (.int .i64) .sh)], [4, 12, 13, 14, 15, 16, 17, 18, 19, 20, 21, 22, 23, 24, 25, 26], []⟩) else none), fun n => none⟩
theorem q10 : ∀ x, runF C10 Try.f10 i10 o10 x = F10 x := by intro x; kernel_rfl
def i78 : List Grp := [⟨.agg, (.cons .str (.cons (.int .i64) .nil)), []⟩, ⟨.c, (.cons (.int .i64) .nil), []⟩]
def o78 : List Grp := [⟨.c, (.cons (.int .i64) .nil), []⟩]
/-- laws.szVal -/
noncomputable def F78 : GD i78 → Option (GD o78) := fun x0 => bif iLt (iSub .i64 x0.2.1.1 (ByteArray.size x0.1.1 : Int)) (0:Int) then some (((-1:Int), ()), ()) else some ((iSub .i64 x0.2.1.1 (ByteArray.size x0.1.1 : Int), ()), ())
noncomputable def c78 : Con := ⟨i78, o78, F78⟩
noncomputable def C78 : Ctx := ⟨13, TT, EE, fun n => none, fun n k => [], fun n => none, fun n => none⟩
theorem q78 : ∀ x, runF C78 Try.f78 i78 o78 x = F78 x := by intro x; kernel_rfl
def i45 : List Grp := [⟨.c, (.cons (.sl e159) .nil), []⟩, ⟨.c, (.cons (.int .i64) .nil), []⟩]
def o45 : List Grp := [⟨.c, (.cons (.int .i64) .nil), []⟩]
/-- laws.szValS -/
noncomputable def F45.b0 (x0 : GD i45) : (v1 : (Int × (Int × Unit))) → Option (Sum (Int × (Int × Unit)) (Sum (Int × (Int × Unit)) (GD o45))) := fun v1 => bif iLt v1.2.1 (List.length x0.1.1 : Int) then (getI x0.1.1 v1.2.1).bind fun x2 => (F78 (x2, ((v1.1, ()), ()))).bind fun y3 => bif iLt y3.1.1 (0:Int) then some (.inr (.inr (((-1:Int), ()), ()))) else some (.inl (y3.1.1, (iAdd .i64 v1.2.1 (1:Int), ()))) else some (.inr (.inl (v1.1, (v1.2.1, ()))))
noncomputable def F45 : GD i45 → Option (GD o45) := fun x0 => bif iLt (iSub .i64 x0.2.1.1 (List.length x0.1.1 : Int)) (0:Int) then some (((-1:Int), ()), ()) else (loopF (F45.b0 x0) (iSub .i64 x0.2.1.1 (List.length x0.1.1 : Int), ((0:Int), ()))).bind fun r5 => Sum.elim (fun v4 => some ((v4.1, ()), ())) some r5
noncomputable def c45 : Con := ⟨i45, o45, F45⟩
noncomputable def C45 : Ctx := ⟨27, TT, EE, fun n => (bif Nat.beq n 78 then some c78 else none), fun n k => [], fun n => (bif Nat.beq n 0 then (some ⟨[(.t 1 (.int .i64) .sh), (.t 5 (.int .i64) .sh)], [4, 12, 13, 14, 15, 16, 17, 18, 19, 20, 21, 22, 23, 24, 25], []⟩) else none), fun n => none⟩
theorem q45 : ∀ x, runF C45 Try.f45 i45 o45 x = F45 x := by intro x; kernel_rfl
def i46 : List Grp := [⟨.agg, (.cons (.int .i64) (.cons (.int .i64) (.cons (.sl e9) .nil))), []⟩, ⟨.c, (.cons (.int .i64) .nil), []⟩]
def o46 : List Grp := [⟨.c, (.cons (.int .i64) .nil), []⟩]
/-- laws.szQc -/
noncomputable def F46 : GD i46 → Option (GD o46) := fun x0 => (F10 ((x0.1.2.2.1, ()), (x0.2.1, ()))).bind fun y1 => bif iLt y1.1.1 (0:Int) then some (((-1:Int), ()), ()) else some (y1.1, ())
noncomputable def c46 : Con := ⟨i46, o46, F46⟩
noncomputable def C46 : Ctx := ⟨12, TT, EE, fun n => (bif Nat.beq n 10 then some c10 else none), fun n k => [], fun n => none, fun n => none⟩
theorem q46 : ∀ x, runF C46 Try.f46 i46 o46 x = F46 x := by intro x; kernel_rfl
def i50 : List Grp := [⟨.c, (.cons (.sl e3) .nil), []⟩, ⟨.c, (.cons (.int .i64) .nil), []⟩]
def o50 : List Grp := [⟨.c, (.cons (.int .i64) .nil), []⟩]
/-- laws.szIntS -/
noncomputable def F50 : GD i50 → Option (GD o50) := fun x0 => bif iLt (iSub .i64 x0.2.1.1 (List.length x0.1.1 : Int)) (0:Int) then some (((-1:Int), ()), ()) else some ((iSub .i64 x0.2.1.1 (List.length x0.1.1 : Int), ()), ())
noncomputable def c50 : Con := ⟨i50, o50, F50⟩
noncomputable def C50 : Ctx := ⟨12, TT, EE, fun n => none, fun n k => [], fun n => none, fun n => none⟩
theorem q50 : ∀ x, runF C50 Try.f50 i50 o50 x = F50 x := by intro x; kernel_rfl
def i47 : List Grp := [⟨.agg, (.cons (.int .i64) (.cons (.sl e9) (.cons (.sl e3) .nil))), []⟩, ⟨.c, (.cons (.int .i64) .nil), []⟩]
def o47 : List Grp := [⟨.c, (.cons (.int .i64) .nil), []⟩]
/-- laws.szTc -/
noncomputable def F47 : GD i47 → Option (GD o47) := fun x0 => (F10 ((x0.1.2.1, ()), (x0.2.1, ()))).bind fun y1 => bif iLt y1.1.1 (0:Int) then some (((-1:Int), ()), ()) else (F50 ((x0.1.2.2.1, ()), (y1.1, ()))).bind fun y2 => bif iLt y2.1.1 (0:Int) then some (((-1:Int), ()), ()) else some (y2.1, ())
noncomputable def c47 : Con := ⟨i47, o47, F47⟩
noncomputable def C47 : Ctx := ⟨18, TT, EE, fun n => (bif Nat.ble n 10 then (bif Nat.beq n 10 then some c10 else none) else (bif Nat.beq n 50 then some c50 else none)), fun n k => [], fun n => none, fun n => none⟩
theorem q47 : ∀ x, runF C47 Try.f47 i47 o47 x = F47 x := by intro x; kernel_rfl
def i79 : List Grp := [⟨.agg, (.cons (.int .i64) (.cons .str (.cons .str (.cons (.int .i64) (.cons (.int .i64) .nil))))), []⟩, ⟨.c, (.cons (.int .i64) .nil), []⟩]
def o79 : List Grp := [⟨.c, (.cons (.int .i64) .nil), []⟩]
/-- laws.szTx -/
noncomputable def F79 : GD i79 → Option (GD o79) := fun x0 => bif iLt (iSub .i64 x0.2.1.1 (ByteArray.size x0.1.2.1 : Int)) (0:Int) then some (((-1:Int), ()), ()) else bif iLt (iSub .i64 (iSub .i64 x0.2.1.1 (ByteArray.size x0.1.2.1 : Int)) (ByteArray.size x0.1.2.2.1 : Int)) (0:Int) then some (((-1:Int), ()), ()) else some ((iSub .i64 (iSub .i64 x0.2.1.1 (ByteArray.size x0.1.2.1 : Int)) (ByteArray.size x0.1.2.2.1 : Int), ()), ())
noncomputable def c79 : Con := ⟨i79, o79, F79⟩
noncomputable def C79 : Ctx := ⟨20, TT, EE, fun n => none, fun n k => [], fun n => none, fun n => none⟩
theorem q79 : ∀ x, runF C79 Try.f79 i79 o79 x = F79 x := by intro x; kernel_rfl
def i51 : List Grp := [⟨.c, (.cons (.sl e162) .nil), []⟩, ⟨.c, (.cons (.int .i64) .nil), []⟩]
def o51 : List Grp := [⟨.c, (.cons (.int .i64) .nil), []⟩]
/-- laws.szTxS -/
noncomputable def F51.b0 (x0 : GD i51) : (v1 : (Int × (Int × Unit))) → Option (Sum (Int × (Int × Unit)) (Sum (Int × (Int × Unit)) (GD o51))) := fun v1 => bif iLt v1.2.1 (List.length x0.1.1 : Int) then (getI x0.1.1 v1.2.1).bind fun x2 => (F79 (x2, ((v1.1, ()), ()))).bind fun y3 => bif iLt y3.1.1 (0:Int) then some (.inr (.inr (((-1:Int), ()), ()))) else some (.inl (y3.1.1, (iAdd .i64 v1.2.1 (1:Int), ()))) else some (.inr (.inl (v1.1, (v1.2.1, ()))))
noncomputable def F51 : GD i51 → Option (GD o51) := fun x0 => bif iLt (iSub .i64 x0.2.1.1 (List.length x0.1.1 : Int)) (0:Int) then some (((-1:Int), ()), ()) else (loopF (F51.b0 x0) (iSub .i64 x0.2.1.1 (List.length x0.1.1 : Int), ((0:Int), ()))).bind fun r5 => Sum.elim (fun v4 => some ((v4.1, ()), ())) some r5
noncomputable def c51 : Con := ⟨i51, o51, F51⟩
noncomputable def C51 : Ctx := ⟨27, TT, EE, fun n => (bif Nat.beq n 79 then some c79 else none), fun n k => [], fun n => (bif Nat.beq n 0 then (some ⟨[(.t 1 (.int .i64) .sh), (.t 5 (.int .i64) .sh)], [4, 12, 13, 14, 15, 16, 17, 18, 19, 20, 21, 22, 23, 24, 25], []⟩) else none), fun n => none⟩
theorem q51 : ∀ x, runF C51 Try.f51 i51 o51 x = F51 x := by intro x; kernel_rfl
def i31 : List Grp := [⟨.agg, (.cons (.int .i64) (.cons (.int .i64) (.cons (.int .i64) (.cons .str (.cons (.int .i64) (.cons (.int .i64) (.cons (.sl e9) (.cons (.int .i64) (.cons (.sl e9) (.cons (.sl e3) (.cons (.sl e162) (.cons .bool (.cons (.sl e159) (.cons .str .nil)))))))))))))), []⟩, ⟨.c, (.cons (.int .i64) .nil), []⟩]
def o31 : List Grp := [⟨.c, (.cons (.int .i64) .nil), []⟩]
/-- laws.szBlock -/
noncomputable def F31 : GD i31 → Option (GD o31) := fun x0 => bif iLt (iSub .i64 x0.2.1.1 (ByteArray.size x0.1.2.2.2.1 : Int)) (0:Int) then some (((-1:Int), ()), ()) else (F46 ((x0.1.2.2.2.2.1, (x0.1.2.2.2.2.2.1, (x0.1.2.2.2.2.2.2.1, ()))), ((iSub .i64 x0.2.1.1 (ByteArray.size x0.1.2.2.2.1 : Int), ()), ()))).bind fun y1 => bif iLt y1.1.1 (0:Int) then some (((-1:Int), ()), ()) else (F47 ((x0.1.2.2.2.2.2.2.2.1, (x0.1.2.2.2.2.2.2.2.2.1, (x0.1.2.2.2.2.2.2.2.2.2.1, ()))), (y1.1, ()))).bind fun y2 => bif iLt y2.1.1 (0:Int) then some (((-1:Int), ()), ()) else (F51 ((x0.1.2.2.2.2.2.2.2.2.2.2.1, ()), (y2.1, ()))).bind fun y3 => bif iLt y3.1.1 (0:Int) then some (((-1:Int), ()), ()) else (F45 ((x0.1.2.2.2.2.2.2.2.2.2.2.2.2.1, ()), (y3.1, ()))).bind fun y4 => bif iLt y4.1.1 (0:Int) then some (((-1:Int), ()), ()) else bif iLt (iSub .i64 y4.1.1 (ByteArray.size x0.1.2.2.2.2.2.2.2.2.2.2.2.2.2.1 : Int)) (0:Int) then some (((-1:Int), ()), ()) else some ((iSub .i64 y4.1.1 (ByteArray.size x0.1.2.2.2.2.2.2.2.2.2.2.2.2.2.1 : Int), ()), ())
noncomputable def c31 : Con := ⟨i31, o31, F31⟩
noncomputable def C31 : Ctx := ⟨44, TT, EE, fun n => (bif Nat.ble n 46 then (bif Nat.ble n 45 then (bif Nat.beq n 45 then some c45 else none) else (bif Nat.beq n 46 then some c46 else none)) else (bif Nat.ble n 47 then (bif Nat.beq n 47 then some c47 else none) else (bif Nat.beq n 51 then some c51 else none))), fun n k => [], fun n => none, fun n => none⟩
theorem q31 : ∀ x, runF C31 Try.f31 i31 o31 x = F31 x := by intro x; kernel_rfl
def i12 : List Grp := [⟨.c, (.cons (.sl e90) .nil), []⟩, ⟨.c, (.cons (.int .i64) .nil), []⟩]
def o12 : List Grp := [⟨.c, (.cons (.int .i64) .nil), []⟩]
/-- laws.szBlockS -/
noncomputable def F12.b0 (x0 : GD i12) : (v1 : (Int × (Int × Unit))) → Option (Sum (Int × (Int × Unit)) (Sum (Int × (Int × Unit)) (GD o12))) := fun v1 => bif iLt v1.2.1 (List.length x0.1.1 : Int) then (getI x0.1.1 v1.2.1).bind fun x2 => (F31 (x2, ((v1.1, ()), ()))).bind fun y3 => bif iLt y3.1.1 (0:Int) then some (.inr (.inr (((-1:Int), ()), ()))) else some (.inl (y3.1.1, (iAdd .i64 v1.2.1 (1:Int), ()))) else some (.inr (.inl (v1.1, (v1.2.1, ()))))
noncomputable def F12 : GD i12 → Option (GD o12) := fun x0 => bif iLt (iSub .i64 x0.2.1.1 (List.length x0.1.1 : Int)) (0:Int) then some (((-1:Int), ()), ()) else (loopF (F12.b0 x0) (iSub .i64 x0.2.1.1 (List.length x0.1.1 : Int), ((0:Int), ()))).bind fun r5 => Sum.elim (fun v4 => some ((v4.1, ()), ())) some r5
noncomputable def c12 : Con := ⟨i12, o12, F12⟩
noncomputable def C12 : Ctx := ⟨27, TT, EE, fun n => (bif Nat.beq n 31 then some c31 else none), fun n k => [], fun n => (bif Nat.beq n 0 then (some ⟨[(.t 1 (.int .i64) .sh), (.t 5 (.int .i64) .sh)], [4, 12, 13, 14, 15, 16, 17, 18, 19, 20, 21, 22, 23, 24, 25], []⟩) else none), fun n => none⟩
theorem q12 : ∀ x, runF C12 Try.f12 i12 o12 x = F12 x := by intro x; kernel_rfl
def i53 : List Grp := [⟨.agg, (.cons (.int .i64) (.cons (.int .i64) (.cons .str .nil))), []⟩, ⟨.c, (.cons (.int .i64) .nil), []⟩]
def o53 : List Grp := [⟨.c, (.cons (.int .i64) .nil), []⟩]
/-- laws.szVote -/
noncomputable def F53 : GD i53 → Option (GD o53) := fun x0 => bif iLt (iSub .i64 x0.2.1.1 (ByteArray.size x0.1.2.2.1 : Int)) (0:Int) then some (((-1:Int), ()), ()) else some ((iSub .i64 x0.2.1.1 (ByteArray.size x0.1.2.2.1 : Int), ()), ())
noncomputable def c53 : Con := ⟨i53, o53, F53⟩
noncomputable def C53 : Ctx := ⟨13, TT, EE, fun n => none, fun n k => [], fun n => none, fun n => none⟩
theorem q53 : ∀ x, runF C53 Try.f53 i53 o53 x = F53 x := by intro x; kernel_rfl
def i48 : List Grp := [⟨.c, (.cons (.sl e96) .nil), []⟩, ⟨.c, (.cons (.int .i64) .nil), []⟩]
def o48 : List Grp := [⟨.c, (.cons (.int .i64) .nil), []⟩]
/-- laws.szVoteS -/
noncomputable def F48.b0 (x0 : GD i48) : (v1 : (Int × (Int × Unit))) → Option (Sum (Int × (Int × Unit)) (Sum (Int × (Int × Unit)) (GD o48))) := fun v1 => bif iLt v1.2.1 (List.length x0.1.1 : Int) then (getI x0.1.1 v1.2.1).bind fun x2 => (F53 (x2, ((v1.1, ()), ()))).bind fun y3 => bif iLt y3.1.1 (0:Int) then some (.inr (.inr (((-1:Int), ()), ()))) else some (.inl (y3.1.1, (iAdd .i64 v1.2.1 (1:Int), ()))) else some (.inr (.inl (v1.1, (v1.2.1, ()))))
noncomputable def F48 : GD i48 → Option (GD o48) := fun x0 => bif iLt (iSub .i64 x0.2.1.1 (List.length x0.1.1 : Int)) (0:Int) then some (((-1:Int), ()), ()) else (loopF (F48.b0 x0) (iSub .i64 x0.2.1.1 (List.length x0.1.1 : Int), ((0:Int), ()))).bind fun r5 => Sum.elim (fun v4 => some ((v4.1, ()), ())) some r5
noncomputable def c48 : Con := ⟨i48, o48, F48⟩
noncomputable def C48 : Ctx := ⟨27, TT, EE, fun n => (bif Nat.beq n 53 then some c53 else none), fun n k => [], fun n => (bif Nat.beq n 0 then (some ⟨[(.t 1 (.int .i64) .sh), (.t 5 (.int .i64) .sh)], [4, 12, 13, 14, 15, 16, 17, 18, 19, 20, 21, 22, 23, 24, 25], []⟩) else none), fun n => none⟩
theorem q48 : ∀ x, runF C48 Try.f48 i48 o48 x = F48 x := by intro x; kernel_rfl
def i54 : List Grp := [⟨.agg, (.cons (.int .i64) (.cons (.int .i64) (.cons .str .nil))), []⟩, ⟨.c, (.cons (.int .i64) .nil), []⟩]
def o54 : List Grp := [⟨.c, (.cons (.int .i64) .nil), []⟩]
/-- laws.szGone -/
noncomputable def F54 : GD i54 → Option (GD o54) := fun x0 => bif iLt (iSub .i64 x0.2.1.1 (ByteArray.size x0.1.2.2.1 : Int)) (0:Int) then some (((-1:Int), ()), ()) else some ((iSub .i64 x0.2.1.1 (ByteArray.size x0.1.2.2.1 : Int), ()), ())
noncomputable def c54 : Con := ⟨i54, o54, F54⟩
noncomputable def C54 : Ctx := ⟨13, TT, EE, fun n => none, fun n k => [], fun n => none, fun n => none⟩
theorem q54 : ∀ x, runF C54 Try.f54 i54 o54 x = F54 x := by intro x; kernel_rfl
def i49 : List Grp := [⟨.c, (.cons (.sl e98) .nil), []⟩, ⟨.c, (.cons (.int .i64) .nil), []⟩]
def o49 : List Grp := [⟨.c, (.cons (.int .i64) .nil), []⟩]
/-- laws.szGoneS -/
noncomputable def F49.b0 (x0 : GD i49) : (v1 : (Int × (Int × Unit))) → Option (Sum (Int × (Int × Unit)) (Sum (Int × (Int × Unit)) (GD o49))) := fun v1 => bif iLt v1.2.1 (List.length x0.1.1 : Int) then (getI x0.1.1 v1.2.1).bind fun x2 => (F54 (x2, ((v1.1, ()), ()))).bind fun y3 => bif iLt y3.1.1 (0:Int) then some (.inr (.inr (((-1:Int), ()), ()))) else some (.inl (y3.1.1, (iAdd .i64 v1.2.1 (1:Int), ()))) else some (.inr (.inl (v1.1, (v1.2.1, ()))))
noncomputable def F49 : GD i49 → Option (GD o49) := fun x0 => bif iLt (iSub .i64 x0.2.1.1 (List.length x0.1.1 : Int)) (0:Int) then some (((-1:Int), ()), ()) else (loopF (F49.b0 x0) (iSub .i64 x0.2.1.1 (List.length x0.1.1 : Int), ((0:Int), ()))).bind fun r5 => Sum.elim (fun v4 => some ((v4.1, ()), ())) some r5
noncomputable def c49 : Con := ⟨i49, o49, F49⟩
noncomputable def C49 : Ctx := ⟨27, TT, EE, fun n => (bif Nat.beq n 54 then some c54 else none), fun n k => [], fun n => (bif Nat.beq n 0 then (some ⟨[(.t 1 (.int .i64) .sh), (.t 5 (.int .i64) .sh)], [4, 12, 13, 14, 15, 16, 17, 18, 19, 20, 21, 22, 23, 24, 25], []⟩) else none), fun n => none⟩
theorem q49 : ∀ x, runF C49 Try.f49 i49 o49 x = F49 x := by intro x; kernel_rfl
def i80 : List Grp := [⟨.agg, (.cons (.int .i64) (.cons (.sl e90) (.cons (.int .i64) (.cons (.int .i64) (.cons (.sl e9) .nil))))), []⟩, ⟨.c, (.cons (.int .i64) .nil), []⟩]
def o80 : List Grp := [⟨.c, (.cons (.int .i64) .nil), []⟩]
/-- laws.szProof -/
noncomputable def F80 : GD i80 → Option (GD o80) := fun x0 => (F12 ((x0.1.2.1, ()), (x0.2.1, ()))).bind fun y1 => bif iLt y1.1.1 (0:Int) then some (((-1:Int), ()), ()) else (F46 ((x0.1.2.2.1, (x0.1.2.2.2.1, (x0.1.2.2.2.2.1, ()))), (y1.1, ()))).bind fun y2 => bif iLt y2.1.1 (0:Int) then some (((-1:Int), ()), ()) else some (y2.1, ())
noncomputable def c80 : Con := ⟨i80, o80, F80⟩
noncomputable def C80 : Ctx := ⟨18, TT, EE, fun n => (bif Nat.ble n 12 then (bif Nat.beq n 12 then some c12 else none) else (bif Nat.beq n 46 then some c46 else none)), fun n k => [], fun n => none, fun n => none⟩
theorem q80 : ∀ x, runF C80 Try.f80 i80 o80 x = F80 x := by intro x; kernel_rfl
def i52 : List Grp := [⟨.c, (.cons (.sl e165) .nil), []⟩, ⟨.c, (.cons (.int .i64) .nil), []⟩]
def o52 : List Grp := [⟨.c, (.cons (.int .i64) .nil), []⟩]
/-- laws.szProofS -/
noncomputable def F52.b0 (x0 : GD i52) : (v1 : (Int × (Int × Unit))) → Option (Sum (Int × (Int × Unit)) (Sum (Int × (Int × Unit)) (GD o52))) := fun v1 => bif iLt v1.2.1 (List.length x0.1.1 : Int) then (getI x0.1.1 v1.2.1).bind fun x2 => (F80 (x2, ((v1.1, ()), ()))).bind fun y3 => bif iLt y3.1.1 (0:Int) then some (.inr (.inr (((-1:Int), ()), ()))) else some (.inl (y3.1.1, (iAdd .i64 v1.2.1 (1:Int), ()))) else some (.inr (.inl (v1.1, (v1.2.1, ()))))
noncomputable def F52 : GD i52 → Option (GD o52) := fun x0 => bif iLt (iSub .i64 x0.2.1.1 (List.length x0.1.1 : Int)) (0:Int) then some (((-1:Int), ()), ()) else (loopF (F52.b0 x0) (iSub .i64 x0.2.1.1 (List.length x0.1.1 : Int), ((0:Int), ()))).bind fun r5 => Sum.elim (fun v4 => some ((v4.1, ()), ())) some r5
noncomputable def c52 : Con := ⟨i52, o52, F52⟩
noncomputable def C52 : Ctx := ⟨27, TT, EE, fun n => (bif Nat.beq n 80 then some c80 else none), fun n k => [], fun n => (bif Nat.beq n 0 then (some ⟨[(.t 1 (.int .i64) .sh), (.t 5 (.int .i64) .sh)], [4, 12, 13, 14, 15, 16, 17, 18, 19, 20, 21, 22, 23, 24, 25], []⟩) else none), fun n => none⟩
theorem q52 : ∀ x, runF C52 Try.f52 i52 o52 x = F52 x := by intro x; kernel_rfl
def i30 : List Grp := [⟨.agg, (.cons .str (.cons (.int .i64) (.cons (.int .i64) (.cons (.sl e121) (.cons (.sl e159) (.cons (.sl e90) (.cons (.int .i64) (.cons (.int .i64) (.cons (.int .i64) (.cons (.int .i64) (.cons (.sl e9) (.cons (.int .i64) (.cons (.sl e9) (.cons (.sl e3) (.cons (.int .i64) (.cons (.sl e96) (.cons (.sl e98) (.cons (.sl e3) (.cons (.sl e162) (.cons (.sl e165) .nil)))))))))))))))))))), []⟩, ⟨.c, (.cons (.int .i64) .nil), []⟩]
def o30 : List Grp := [⟨.c, (.cons (.int .i64) .nil), []⟩]
/-- laws.szNode -/
noncomputable def F30 : GD i30 → Option (GD o30) := fun x0 => bif iLt (iSub .i64 x0.2.1.1 (ByteArray.size x0.1.1 : Int)) (0:Int) then some (((-1:Int), ()), ()) else (F9 ((x0.1.2.2.1, (x0.1.2.2.2.1, ())), ((iSub .i64 x0.2.1.1 (ByteArray.size x0.1.1 : Int), ()), ()))).bind fun y1 => bif iLt y1.1.1 (0:Int) then some (((-1:Int), ()), ()) else (F45 ((x0.1.2.2.2.2.1, ()), (y1.1, ()))).bind fun y2 => bif iLt y2.1.1 (0:Int) then some (((-1:Int), ()), ()) else (F12 ((x0.1.2.2.2.2.2.1, ()), (y2.1, ()))).bind fun y3 => bif iLt y3.1.1 (0:Int) then some (((-1:Int), ()), ()) else (F46 ((x0.1.2.2.2.2.2.2.2.2.1, (x0.1.2.2.2.2.2.2.2.2.2.1, (x0.1.2.2.2.2.2.2.2.2.2.2.1, ()))), (y3.1, ()))).bind fun y4 => bif iLt y4.1.1 (0:Int) then some (((-1:Int), ()), ()) else (F47 ((x0.1.2.2.2.2.2.2.2.2.2.2.2.1, (x0.1.2.2.2.2.2.2.2.2.2.2.2.2.1, (x0.1.2.2.2.2.2.2.2.2.2.2.2.2.2.1, ()))), (y4.1, ()))).bind fun y5 => bif iLt y5.1.1 (0:Int) then some (((-1:Int), ()), ()) else (F48 ((x0.1.2.2.2.2.2.2.2.2.2.2.2.2.2.2.2.1, ()), (y5.1, ()))).bind fun y6 => bif iLt y6.1.1 (0:Int) then some (((-1:Int), ()), ()) else (F49 ((x0.1.2.2.2.2.2.2.2.2.2.2.2.2.2.2.2.2.1, ()), (y6.1, ()))).bind fun y7 => bif iLt y7.1.1 (0:Int) then some (((-1:Int), ()), ()) else (F50 ((x0.1.2.2.2.2.2.2.2.2.2.2.2.2.2.2.2.2.2.1, ()), (y7.1, ()))).bind fun y8 => bif iLt y8.1.1 (0:Int) then some (((-1:Int), ()), ()) else (F51 ((x0.1.2.2.2.2.2.2.2.2.2.2.2.2.2.2.2.2.2.2.1, ()), (y8.1, ()))).bind fun y9 => bif iLt y9.1.1 (0:Int) then some (((-1:Int), ()), ()) else (F52 ((x0.1.2.2.2.2.2.2.2.2.2.2.2.2.2.2.2.2.2.2.2.1, ()), (y9.1, ()))).bind fun y10 => bif iLt y10.1.1 (0:Int) then some (((-1:Int), ()), ()) else some (y10.1, ())
noncomputable def c30 : Con := ⟨i30, o30, F30⟩
noncomputable def C30 : Ctx := ⟨73, TT, EE, fun n => (bif Nat.ble n 47 then (bif Nat.ble n 12 then (bif Nat.ble n 9 then (bif Nat.beq n 9 then some c9 else none) else (bif Nat.beq n 12 then some c12 else none)) else (bif Nat.ble n 45 then (bif Nat.beq n 45 then some c45 else none) else (bif Nat.ble n 46 then (bif Nat.beq n 46 then some c46 else none) else (bif Nat.beq n 47 then some c47 else none)))) else (bif Nat.ble n 49 then (bif Nat.ble n 48 then (bif Nat.beq n 48 then some c48 else none) else (bif Nat.beq n 49 then some c49 else none)) else (bif Nat.ble n 50 then (bif Nat.beq n 50 then some c50 else none) else (bif Nat.ble n 51 then (bif Nat.beq n 51 then some c51 else none) else (bif Nat.beq n 52 then some c52 else none))))), fun n k => [], fun n => none, fun n => none⟩
theorem q30 : ∀ x, runF C30 Try.f30 i30 o30 x = F30 x := by intro x; kernel_rfl
def i11 : List Grp := [⟨.c, (.cons (.sl e87) .nil), []⟩, ⟨.c, (.cons (.int .i64) .nil), []⟩]
def o11 : List Grp := [⟨.c, (.cons (.int .i64) .nil), []⟩]
/-- laws.szNodeS -/
noncomputable def F11.b0 (x0 : GD i11) : (v1 : (Int × (Int × Unit))) → Option (Sum (Int × (Int × Unit)) (Sum (Int × (Int × Unit)) (GD o11))) := fun v1 => bif iLt v1.2.1 (List.length x0.1.1 : Int) then (getI x0.1.1 v1.2.1).bind fun x2 => (F30 (x2, ((v1.1, ()), ()))).bind fun y3 => bif iLt y3.1.1 (0:Int) then some (.inr (.inr (((-1:Int), ()), ()))) else some (.inl (y3.1.1, (iAdd .i64 v1.2.1 (1:Int), ()))) else some (.inr (.inl (v1.1, (v1.2.1, ()))))
noncomputable def F11 : GD i11 → Option (GD o11) := fun x0 => bif iLt (iSub .i64 x0.2.1.1 (List.length x0.1.1 : Int)) (0:Int) then some (((-1:Int), ()), ()) else (loopF (F11.b0 x0) (iSub .i64 x0.2.1.1 (List.length x0.1.1 : Int), ((0:Int), ()))).bind fun r5 => Sum.elim (fun v4 => some ((v4.1, ()), ())) some r5
noncomputable def c11 : Con := ⟨i11, o11, F11⟩
noncomputable def C11 : Ctx := ⟨27, TT, EE, fun n => (bif Nat.beq n 30 then some c30 else none), fun n k => [], fun n => (bif Nat.beq n 0 then (some ⟨[(.t 1 (.int .i64) .sh), (.t 5 (.int .i64) .sh)], [4, 12, 13, 14, 15, 16, 17, 18, 19, 20, 21, 22, 23, 24, 25], []⟩) else none), fun n => none⟩
theorem q11 : ∀ x, runF C11 Try.f11 i11 o11 x = F11 x := by intro x; kernel_rfl
def i32 : List Grp := [⟨.agg, (.cons (.int .i64) (.cons (.int .i64) (.cons (.int .i64) (.cons (.int .i64) (.cons .str .nil))))), []⟩, ⟨.c, (.cons (.int .i64) .nil), []⟩]
def o32 : List Grp := [⟨.c, (.cons (.int .i64) .nil), []⟩]
/-- laws.szSig -/
noncomputable def F32 : GD i32 → Option (GD o32) := fun x0 => bif iLt (iSub .i64 x0.2.1.1 (ByteArray.size x0.1.2.2.2.2.1 : Int)) (0:Int) then some (((-1:Int), ()), ()) else some ((iSub .i64 x0.2.1.1 (ByteArray.size x0.1.2.2.2.2.1 : Int), ()), ())
noncomputable def c32 : Con := ⟨i32, o32, F32⟩
noncomputable def C32 : Ctx := ⟨13, TT, EE, fun n => none, fun n k => [], fun n => none, fun n => none⟩
theorem q32 : ∀ x, runF C32 Try.f32 i32 o32 x = F32 x := by intro x; kernel_rfl
def i13 : List Grp := [⟨.c, (.cons (.sl e93) .nil), []⟩, ⟨.c, (.cons (.int .i64) .nil), []⟩]
def o13 : List Grp := [⟨.c, (.cons (.int .i64) .nil), []⟩]
/-- laws.szSigS -/
noncomputable def F13.b0 (x0 : GD i13) : (v1 : (Int × (Int × Unit))) → Option (Sum (Int × (Int × Unit)) (Sum (Int × (Int × Unit)) (GD o13))) := fun v1 => bif iLt v1.2.1 (List.length x0.1.1 : Int) then (getI x0.1.1 v1.2.1).bind fun x2 => (F32 (x2, ((v1.1, ()), ()))).bind fun y3 => bif iLt y3.1.1 (0:Int) then some (.inr (.inr (((-1:Int), ()), ()))) else some (.inl (y3.1.1, (iAdd .i64 v1.2.1 (1:Int), ()))) else some (.inr (.inl (v1.1, (v1.2.1, ()))))
noncomputable def F13 : GD i13 → Option (GD o13) := fun x0 => bif iLt (iSub .i64 x0.2.1.1 (List.length x0.1.1 : Int)) (0:Int) then some (((-1:Int), ()), ()) else (loopF (F13.b0 x0) (iSub .i64 x0.2.1.1 (List.length x0.1.1 : Int), ((0:Int), ()))).bind fun r5 => Sum.elim (fun v4 => some ((v4.1, ()), ())) some r5
noncomputable def c13 : Con := ⟨i13, o13, F13⟩
noncomputable def C13 : Ctx := ⟨27, TT, EE, fun n => (bif Nat.beq n 32 then some c32 else none), fun n k => [], fun n => (bif Nat.beq n 0 then (some ⟨[(.t 1 (.int .i64) .sh), (.t 5 (.int .i64) .sh)], [4, 12, 13, 14, 15, 16, 17, 18, 19, 20, 21, 22, 23, 24, 25], []⟩) else none), fun n => none⟩
theorem q13 : ∀ x, runF C13 Try.f13 i13 o13 x = F13 x := by intro x; kernel_rfl
def i33 : List Grp := [⟨.agg, (.cons (.int .i64) (.cons .str (.cons (.int .i64) (.cons (.sl e90) (.cons (.int .i64) (.cons (.int .i64) (.cons .str (.cons (.int .i64) (.cons (.int .i64) (.cons .str (.cons (.int .i64) (.cons (.int .i64) (.cons (.sl e9) (.cons (.int .i64) (.cons (.sl e9) (.cons (.sl e3) .nil)))))))))))))))), []⟩, ⟨.c, (.cons (.int .i64) .nil), []⟩]
def o33 : List Grp := [⟨.c, (.cons (.int .i64) .nil), []⟩]
/-- laws.szMsg -/
noncomputable def F33 : GD i33 → Option (GD o33) := fun x0 => bif iLt (iSub .i64 x0.2.1.1 (ByteArray.size x0.1.2.1 : Int)) (0:Int) then some (((-1:Int), ()), ()) else (F12 ((x0.1.2.2.2.1, ()), ((iSub .i64 x0.2.1.1 (ByteArray.size x0.1.2.1 : Int), ()), ()))).bind fun y1 => bif iLt y1.1.1 (0:Int) then some (((-1:Int), ()), ()) else (F53 ((x0.1.2.2.2.2.1, (x0.1.2.2.2.2.2.1, (x0.1.2.2.2.2.2.2.1, ()))), (y1.1, ()))).bind fun y2 => bif iLt y2.1.1 (0:Int) then some (((-1:Int), ()), ()) else (F54 ((x0.1.2.2.2.2.2.2.2.1, (x0.1.2.2.2.2.2.2.2.2.1, (x0.1.2.2.2.2.2.2.2.2.2.1, ()))), (y2.1, ()))).bind fun y3 => bif iLt y3.1.1 (0:Int) then some (((-1:Int), ()), ()) else (F46 ((x0.1.2.2.2.2.2.2.2.2.2.2.1, (x0.1.2.2.2.2.2.2.2.2.2.2.2.1, (x0.1.2.2.2.2.2.2.2.2.2.2.2.2.1, ()))), (y3.1, ()))).bind fun y4 => bif iLt y4.1.1 (0:Int) then some (((-1:Int), ()), ()) else (F47 ((x0.1.2.2.2.2.2.2.2.2.2.2.2.2.2.1, (x0.1.2.2.2.2.2.2.2.2.2.2.2.2.2.2.1, (x0.1.2.2.2.2.2.2.2.2.2.2.2.2.2.2.2.1, ()))), (y4.1, ()))).bind fun y5 => bif iLt y5.1.1 (0:Int) then some (((-1:Int), ()), ()) else some (y5.1, ())
noncomputable def c33 : Con := ⟨i33, o33, F33⟩
noncomputable def C33 : Ctx := ⟨43, TT, EE, fun n => (bif Nat.ble n 46 then (bif Nat.ble n 12 then (bif Nat.beq n 12 then some c12 else none) else (bif Nat.beq n 46 then some c46 else none)) else (bif Nat.ble n 47 then (bif Nat.beq n 47 then some c47 else none) else (bif Nat.ble n 53 then (bif Nat.beq n 53 then some c53 else none) else (bif Nat.beq n 54 then some c54 else none)))), fun n k => [], fun n => none, fun n => none⟩
theorem q33 : ∀ x, runF C33 Try.f33 i33 o33 x = F33 x := by intro x; kernel_rfl
def i14 : List Grp := [⟨.c, (.cons (.sl e100) .nil), []⟩, ⟨.c, (.cons (.int .i64) .nil), []⟩]
def o14 : List Grp := [⟨.c, (.cons (.int .i64) .nil), []⟩]
/-- laws.szMsgS -/
noncomputable def F14.b0 (x0 : GD i14) : (v1 : (Int × (Int × Unit))) → Option (Sum (Int × (Int × Unit)) (Sum (Int × (Int × Unit)) (GD o14))) := fun v1 => bif iLt v1.2.1 (List.length x0.1.1 : Int) then (getI x0.1.1 v1.2.1).bind fun x2 => (F33 (x2, ((v1.1, ()), ()))).bind fun y3 => bif iLt y3.1.1 (0:Int) then some (.inr (.inr (((-1:Int), ()), ()))) else some (.inl (y3.1.1, (iAdd .i64 v1.2.1 (1:Int), ()))) else some (.inr (.inl (v1.1, (v1.2.1, ()))))
noncomputable def F14 : GD i14 → Option (GD o14) := fun x0 => bif iLt (iSub .i64 x0.2.1.1 (List.length x0.1.1 : Int)) (0:Int) then some (((-1:Int), ()), ()) else (loopF (F14.b0 x0) (iSub .i64 x0.2.1.1 (List.length x0.1.1 : Int), ((0:Int), ()))).bind fun r5 => Sum.elim (fun v4 => some ((v4.1, ()), ())) some r5
noncomputable def c14 : Con := ⟨i14, o14, F14⟩
noncomputable def C14 : Ctx := ⟨27, TT, EE, fun n => (bif Nat.beq n 33 then some c33 else none), fun n k => [], fun n => (bif Nat.beq n 0 then (some ⟨[(.t 1 (.int .i64) .sh), (.t 5 (.int .i64) .sh)], [4, 12, 13, 14, 15, 16, 17, 18, 19, 20, 21, 22, 23, 24, 25], []⟩) else none), fun n => none⟩
theorem q14 : ∀ x, runF C14 Try.f14 i14 o14 x = F14 x := by intro x; kernel_rfl
def i4 : List Grp := [⟨.agg, (.cons (.int .i64) (.cons (.sl e121) (.cons (.sl e9) (.cons (.sl e87) (.cons (.sl e90) (.cons (.sl e93) (.cons (.sl e100) .nil))))))), []⟩, ⟨.c, (.cons (.int .i64) .nil), []⟩]
def o4 : List Grp := [⟨.c, (.cons (.int .i64) .nil), []⟩]
/-- laws.szWorld -/
noncomputable def F4 : GD i4 → Option (GD o4) := fun x0 => (F9 ((x0.1.1, (x0.1.2.1, ())), (x0.2.1, ()))).bind fun y1 => bif iLt y1.1.1 (0:Int) then some (((-1:Int), ()), ()) else (F10 ((x0.1.2.2.1, ()), (y1.1, ()))).bind fun y2 => bif iLt y2.1.1 (0:Int) then some (((-1:Int), ()), ()) else (F11 ((x0.1.2.2.2.1, ()), (y2.1, ()))).bind fun y3 => bif iLt y3.1.1 (0:Int) then some (((-1:Int), ()), ()) else (F12 ((x0.1.2.2.2.2.1, ()), (y3.1, ()))).bind fun y4 => bif iLt y4.1.1 (0:Int) then some (((-1:Int), ()), ()) else (F13 ((x0.1.2.2.2.2.2.1, ()), (y4.1, ()))).bind fun y5 => bif iLt y5.1.1 (0:Int) then some (((-1:Int), ()), ()) else (F14 ((x0.1.2.2.2.2.2.2.1, ()), (y5.1, ()))).bind fun y6 => bif iLt y6.1.1 (0:Int) then some (((-1:Int), ()), ()) else some (y6.1, ())
noncomputable def c4 : Con := ⟨i4, o4, F4⟩
noncomputable def C4 : Ctx := ⟨42, TT, EE, fun n => (bif Nat.ble n 11 then (bif Nat.ble n 9 then (bif Nat.beq n 9 then some c9 else none) else (bif Nat.ble n 10 then (bif Nat.beq n 10 then some c10 else none) else (bif Nat.beq n 11 then some c11 else none))) else (bif Nat.ble n 12 then (bif Nat.beq n 12 then some c12 else none) else (bif Nat.ble n 13 then (bif Nat.beq n 13 then some c13 else none) else (bif Nat.beq n 14 then some c14 else none)))), fun n k => [], fun n => none, fun n => none⟩
theorem q4 : ∀ x, runF C4 Try.f4 i4 o4 x = F4 x := by intro x; kernel_rfl
def i89 : List Grp := [⟨.agg, (.cons (.int .i64) (.cons (.int .i64) .nil)), []⟩]
def o89 : List Grp := [⟨.agg, (.cons (.int .i64) (.cons (.int .i64) .nil)), []⟩]
/-- laws.toLeave -/
noncomputable def F89 : GD i89 → Option (GD o89) := fun x0 => some (x0.1, ())
noncomputable def c89 : Con := ⟨i89, o89, F89⟩
noncomputable def C89 : Ctx := ⟨11, TT, EE, fun n => none, fun n k => [], fun n => none, fun n => none⟩
theorem q89 : ∀ x, runF C89 Try.f89 i89 o89 x = F89 x := by intro x; kernel_rfl
def i81 : List Grp := [⟨.c, (.cons (.sl e181) .nil), []⟩]
def o81 : List Grp := [⟨.c, (.cons (.sl e179) .nil), [(.own [])]⟩]
/-- laws.toLeaveS -/
noncomputable def F81.b0 (x0 : GD i81) : (v1 : (Int × (List (Tys.D e179) × Unit))) → Option (Sum (Int × (List (Tys.D e179) × Unit)) (Sum (Int × (List (Tys.D e179) × Unit)) (GD o81))) := fun v1 => bif iLt v1.1 (List.length x0.1.1 : Int) then (getI x0.1.1 v1.1).bind fun x2 => (F89 (x2, ())).bind fun y3 => (getI v1.2.1 v1.1).bind fun _ => (getN v1.2.1 (Int.toNat v1.1)).bind fun x4 => some (.inl (iAdd .i64 v1.1 (1:Int), (List.set v1.2.1 (Int.toNat v1.1) (y3.1.1, (y3.1.2.1, ())), ()))) else some (.inr (.inl (v1.1, (v1.2.1, ()))))
noncomputable def F81 : GD i81 → Option (GD o81) := fun x0 => bif mkOk (List.length x0.1.1 : Int) (List.length x0.1.1 : Int) 16 then (loopF (F81.b0 x0) ((0:Int), (List.replicate (Int.toNat (List.length x0.1.1 : Int)) ((0:Int), ((0:Int), ())), ()))).bind fun r6 => Sum.elim (fun v5 => some ((v5.2.1, ()), ())) some r6 else none
noncomputable def c81 : Con := ⟨i81, o81, F81⟩
noncomputable def C81 : Ctx := ⟨23, TT, EE, fun n => (bif Nat.beq n 89 then some c89 else none), fun n k => [], fun n => (bif Nat.beq n 0 then (some ⟨[(.t 4 (.int .i64) .sh), (.r 8192 e179 [])], [8, 9, 10, 11, 12, 13, 14, 15, 16, 17, 18, 19, 20, 21], []⟩) else none), fun n => none⟩
theorem q81 : ∀ x, runF C81 Try.f81 i81 o81 x = F81 x := by intro x; kernel_rfl
def i55 : List Grp := [⟨.agg, (.cons .str (.cons (.int .i64) (.cons (.int .i64) (.cons (.int .i64) (.cons (.sl e181) .nil))))), []⟩]
def o55 : List Grp := [⟨.agg, (.cons .str (.cons (.int .i64) (.cons (.int .i64) (.cons (.int .i64) (.cons (.sl e179) .nil))))), [.sh, .sh, .sh, .sh, (.own [])]⟩]
/-- laws.toAcct -/
noncomputable def F55 : GD i55 → Option (GD o55) := fun x0 => (F81 ((x0.1.2.2.2.2.1, ()), ())).bind fun y1 => some ((x0.1.1, (x0.1.2.1, (x0.1.2.2.1, (x0.1.2.2.2.1, (y1.1.1, ()))))), ())
noncomputable def c55 : Con := ⟨i55, o55, F55⟩
noncomputable def C55 : Ctx := ⟨21, TT, EE, fun n => (bif Nat.beq n 81 then some c81 else none), fun n k => [], fun n => none, fun n => none⟩
theorem q55 : ∀ x, runF C55 Try.f55 i55 o55 x = F55 x := by intro x; kernel_rfl
def i34 : List Grp := [⟨.c, (.cons (.sl e121) .nil), []⟩]
def o34 : List Grp := [⟨.c, (.cons (.sl e134) .nil), [(.own [.sh, .sh, .sh, .sh, (.own [])])]⟩]
/-- laws.toAcctS -/
noncomputable def F34.b0 (x0 : GD i34) : (v1 : (Int × (List (Tys.D e134) × Unit))) → Option (Sum (Int × (List (Tys.D e134) × Unit)) (Sum (Int × (List (Tys.D e134) × Unit)) (GD o34))) := fun v1 => bif iLt v1.1 (List.length x0.1.1 : Int) then (getI x0.1.1 v1.1).bind fun x2 => (F55 (x2, ())).bind fun y3 => (getI v1.2.1 v1.1).bind fun _ => (getN v1.2.1 (Int.toNat v1.1)).bind fun x4 => some (.inl (iAdd .i64 v1.1 (1:Int), (List.set v1.2.1 (Int.toNat v1.1) (y3.1.1, (y3.1.2.1, (y3.1.2.2.1, (y3.1.2.2.2.1, (y3.1.2.2.2.2.1, ()))))), ()))) else some (.inr (.inl (v1.1, (v1.2.1, ()))))
noncomputable def F34 : GD i34 → Option (GD o34) := fun x0 => bif mkOk (List.length x0.1.1 : Int) (List.length x0.1.1 : Int) 64 then (loopF (F34.b0 x0) ((0:Int), (List.replicate (Int.toNat (List.length x0.1.1 : Int)) (⟨#[]⟩, ((0:Int), ((0:Int), ((0:Int), ([], ()))))), ()))).bind fun r6 => Sum.elim (fun v5 => some ((v5.2.1, ()), ())) some r6 else none
noncomputable def c34 : Con := ⟨i34, o34, F34⟩
noncomputable def C34 : Ctx := ⟨23, TT, EE, fun n => (bif Nat.beq n 55 then some c55 else none), fun n k => (bif Nat.beq n 1 then (match k with | 2 => [.sh, .sh, .sh, .sh, (.own [])] | _ => []) else []), fun n => (bif Nat.beq n 0 then (some ⟨[(.t 4 (.int .i64) .sh), (.r 8192 e134 [.sh, .sh, .sh, .sh, (.own [])])], [8, 9, 10, 11, 12, 13, 14, 15, 16, 17, 18, 19, 20, 21], []⟩) else none), fun n => none⟩
theorem q34 : ∀ x, runF C34 Try.f34 i34 o34 x = F34 x := by intro x; kernel_rfl
def i16 : List Grp := [⟨.agg, (.cons (.int .i64) (.cons (.sl e121) .nil)), []⟩]
def o16 : List Grp := [⟨.agg, (.cons (.int .i64) (.cons (.sl e134) .nil)), [.sh, (.own [.sh, .sh, .sh, .sh, (.own [])])]⟩]
/-- laws.toLedger -/
noncomputable def F16 : GD i16 → Option (GD o16) := fun x0 => (F34 ((x0.1.2.1, ()), ())).bind fun y1 => some ((x0.1.1, (y1.1.1, ())), ())
noncomputable def c16 : Con := ⟨i16, o16, F16⟩
noncomputable def C16 : Ctx := ⟨12, TT, EE, fun n => (bif Nat.beq n 34 then some c34 else none), fun n k => [], fun n => none, fun n => none⟩
theorem q16 : ∀ x, runF C16 Try.f16 i16 o16 x = F16 x := by intro x; kernel_rfl
def i17 : List Grp := [⟨.c, (.cons (.sl e9) .nil), []⟩]
def o17 : List Grp := [⟨.c, (.cons (.sl e9) .nil), [(.own [])]⟩]
/-- laws.toStringS -/
noncomputable def F17.b0 (x0 : GD i17) : (v1 : (Int × (List (Tys.D e9) × Unit))) → Option (Sum (Int × (List (Tys.D e9) × Unit)) (Sum (Int × (List (Tys.D e9) × Unit)) (GD o17))) := fun v1 => bif iLt v1.1 (List.length x0.1.1 : Int) then (getI x0.1.1 v1.1).bind fun x2 => (getI v1.2.1 v1.1).bind fun _ => (getN v1.2.1 (Int.toNat v1.1)).bind fun x3 => some (.inl (iAdd .i64 v1.1 (1:Int), (List.set v1.2.1 (Int.toNat v1.1) (x2.1, ()), ()))) else some (.inr (.inl (v1.1, (v1.2.1, ()))))
noncomputable def F17 : GD i17 → Option (GD o17) := fun x0 => bif mkOk (List.length x0.1.1 : Int) (List.length x0.1.1 : Int) 16 then (loopF (F17.b0 x0) ((0:Int), (List.replicate (Int.toNat (List.length x0.1.1 : Int)) (⟨#[]⟩, ()), ()))).bind fun r5 => Sum.elim (fun v4 => some ((v4.2.1, ()), ())) some r5 else none
noncomputable def c17 : Con := ⟨i17, o17, F17⟩
noncomputable def C17 : Ctx := ⟨22, TT, EE, fun n => none, fun n k => [], fun n => (bif Nat.beq n 0 then (some ⟨[(.t 4 (.int .i64) .sh), (.r 8192 e9 [])], [8, 9, 10, 11, 12, 13, 14, 15, 16, 17, 18, 19, 20], []⟩) else none), fun n => none⟩
theorem q17 : ∀ x, runF C17 Try.f17 i17 o17 x = F17 x := by intro x; kernel_rfl
def i82 : List Grp := [⟨.agg, (.cons .str (.cons (.int .i64) .nil)), []⟩]
def o82 : List Grp := [⟨.agg, (.cons .str (.cons (.int .i64) .nil)), []⟩]
/-- laws.toVal -/
noncomputable def F82 : GD i82 → Option (GD o82) := fun x0 => some (x0.1, ())
noncomputable def c82 : Con := ⟨i82, o82, F82⟩
noncomputable def C82 : Ctx := ⟨11, TT, EE, fun n => none, fun n k => [], fun n => none, fun n => none⟩
theorem q82 : ∀ x, runF C82 Try.f82 i82 o82 x = F82 x := by intro x; kernel_rfl
def i56 : List Grp := [⟨.c, (.cons (.sl e159) .nil), []⟩]
def o56 : List Grp := [⟨.c, (.cons (.sl e167) .nil), [(.own [])]⟩]
/-- laws.toValS -/
noncomputable def F56.b0 (x0 : GD i56) : (v1 : (Int × (List (Tys.D e167) × Unit))) → Option (Sum (Int × (List (Tys.D e167) × Unit)) (Sum (Int × (List (Tys.D e167) × Unit)) (GD o56))) := fun v1 => bif iLt v1.1 (List.length x0.1.1 : Int) then (getI x0.1.1 v1.1).bind fun x2 => (F82 (x2, ())).bind fun y3 => (getI v1.2.1 v1.1).bind fun _ => (getN v1.2.1 (Int.toNat v1.1)).bind fun x4 => some (.inl (iAdd .i64 v1.1 (1:Int), (List.set v1.2.1 (Int.toNat v1.1) (y3.1.1, (y3.1.2.1, ())), ()))) else some (.inr (.inl (v1.1, (v1.2.1, ()))))
noncomputable def F56 : GD i56 → Option (GD o56) := fun x0 => bif mkOk (List.length x0.1.1 : Int) (List.length x0.1.1 : Int) 24 then (loopF (F56.b0 x0) ((0:Int), (List.replicate (Int.toNat (List.length x0.1.1 : Int)) (⟨#[]⟩, ((0:Int), ())), ()))).bind fun r6 => Sum.elim (fun v5 => some ((v5.2.1, ()), ())) some r6 else none
noncomputable def c56 : Con := ⟨i56, o56, F56⟩
noncomputable def C56 : Ctx := ⟨23, TT, EE, fun n => (bif Nat.beq n 82 then some c82 else none), fun n k => [], fun n => (bif Nat.beq n 0 then (some ⟨[(.t 4 (.int .i64) .sh), (.r 8192 e167 [])], [8, 9, 10, 11, 12, 13, 14, 15, 16, 17, 18, 19, 20, 21], []⟩) else none), fun n => none⟩
theorem q56 : ∀ x, runF C56 Try.f56 i56 o56 x = F56 x := by intro x; kernel_rfl
def i57 : List Grp := [⟨.agg, (.cons (.int .i64) (.cons (.int .i64) (.cons (.sl e9) .nil))), []⟩]
def o57 : List Grp := [⟨.agg, (.cons (.int .i64) (.cons (.int .i64) (.cons (.sl e9) .nil))), [.sh, .sh, (.own [])]⟩]
/-- laws.toQc -/
noncomputable def F57 : GD i57 → Option (GD o57) := fun x0 => (F17 ((x0.1.2.2.1, ()), ())).bind fun y1 => some ((x0.1.1, (x0.1.2.1, (y1.1.1, ()))), ())
noncomputable def c57 : Con := ⟨i57, o57, F57⟩
noncomputable def C57 : Ctx := ⟨15, TT, EE, fun n => (bif Nat.beq n 17 then some c17 else none), fun n k => [], fun n => none, fun n => none⟩
theorem q57 : ∀ x, runF C57 Try.f57 i57 o57 x = F57 x := by intro x; kernel_rfl
def i61 : List Grp := [⟨.c, (.cons (.sl e3) .nil), []⟩]
def o61 : List Grp := [⟨.c, (.cons (.sl e3) .nil), [(.own [])]⟩]
/-- laws.toIntS -/
noncomputable def F61.b0 (x0 : GD i61) : (v1 : (Int × (List (Tys.D e3) × Unit))) → Option (Sum (Int × (List (Tys.D e3) × Unit)) (Sum (Int × (List (Tys.D e3) × Unit)) (GD o61))) := fun v1 => bif iLt v1.1 (List.length x0.1.1 : Int) then (getI x0.1.1 v1.1).bind fun x2 => (getI v1.2.1 v1.1).bind fun _ => (getN v1.2.1 (Int.toNat v1.1)).bind fun x3 => some (.inl (iAdd .i64 v1.1 (1:Int), (List.set v1.2.1 (Int.toNat v1.1) (x2.1, ()), ()))) else some (.inr (.inl (v1.1, (v1.2.1, ()))))
noncomputable def F61 : GD i61 → Option (GD o61) := fun x0 => bif mkOk (List.length x0.1.1 : Int) (List.length x0.1.1 : Int) 8 then (loopF (F61.b0 x0) ((0:Int), (List.replicate (Int.toNat (List.length x0.1.1 : Int)) ((0:Int), ()), ()))).bind fun r5 => Sum.elim (fun v4 => some ((v4.2.1, ()), ())) some r5 else none
noncomputable def c61 : Con := ⟨i61, o61, F61⟩
noncomputable def C61 : Ctx := ⟨22, TT, EE, fun n => none, fun n k => [], fun n => (bif Nat.beq n 0 then (some ⟨[(.t 4 (.int .i64) .sh), (.r 8192 e3 [])], [8, 9, 10, 11, 12, 13, 14, 15, 16, 17, 18, 19, 20], []⟩) else none), fun n => none⟩
theorem q61 : ∀ x, runF C61 Try.f61 i61 o61 x = F61 x := by intro x; kernel_rfl
def i58 : List Grp := [⟨.agg, (.cons (.int .i64) (.cons (.sl e9) (.cons (.sl e3) .nil))), []⟩]
def o58 : List Grp := [⟨.agg, (.cons (.int .i64) (.cons (.sl e9) (.cons (.sl e3) .nil))), [.sh, (.own []), (.own [])]⟩]
/-- laws.toTc -/
noncomputable def F58 : GD i58 → Option (GD o58) := fun x0 => (F17 ((x0.1.2.1, ()), ())).bind fun y1 => (F61 ((x0.1.2.2.1, ()), ())).bind fun y2 => some ((x0.1.1, (y1.1.1, (y2.1.1, ()))), ())
noncomputable def c58 : Con := ⟨i58, o58, F58⟩
noncomputable def C58 : Ctx := ⟨16, TT, EE, fun n => (bif Nat.ble n 17 then (bif Nat.beq n 17 then some c17 else none) else (bif Nat.beq n 61 then some c61 else none)), fun n k => [], fun n => none, fun n => none⟩
theorem q58 : ∀ x, runF C58 Try.f58 i58 o58 x = F58 x := by intro x; kernel_rfl
def i83 : List Grp := [⟨.agg, (.cons (.int .i64) (.cons .str (.cons .str (.cons (.int .i64) (.cons (.int .i64) .nil))))), []⟩]
def o83 : List Grp := [⟨.agg, (.cons (.int .i64) (.cons .str (.cons .str (.cons (.int .i64) (.cons (.int .i64) .nil))))), []⟩]
/-- laws.toTx -/
noncomputable def F83 : GD i83 → Option (GD o83) := fun x0 => some (x0.1, ())
noncomputable def c83 : Con := ⟨i83, o83, F83⟩
noncomputable def C83 : Ctx := ⟨20, TT, EE, fun n => none, fun n k => [], fun n => none, fun n => none⟩
theorem q83 : ∀ x, runF C83 Try.f83 i83 o83 x = F83 x := by intro x; kernel_rfl
def i62 : List Grp := [⟨.c, (.cons (.sl e162) .nil), []⟩]
def o62 : List Grp := [⟨.c, (.cons (.sl e169) .nil), [(.own [])]⟩]
/-- laws.toTxS -/
noncomputable def F62.b0 (x0 : GD i62) : (v1 : (Int × (List (Tys.D e169) × Unit))) → Option (Sum (Int × (List (Tys.D e169) × Unit)) (Sum (Int × (List (Tys.D e169) × Unit)) (GD o62))) := fun v1 => bif iLt v1.1 (List.length x0.1.1 : Int) then (getI x0.1.1 v1.1).bind fun x2 => (F83 (x2, ())).bind fun y3 => (getI v1.2.1 v1.1).bind fun _ => (getN v1.2.1 (Int.toNat v1.1)).bind fun x4 => some (.inl (iAdd .i64 v1.1 (1:Int), (List.set v1.2.1 (Int.toNat v1.1) (y3.1.1, (y3.1.2.1, (y3.1.2.2.1, (y3.1.2.2.2.1, (y3.1.2.2.2.2.1, ()))))), ()))) else some (.inr (.inl (v1.1, (v1.2.1, ()))))
noncomputable def F62 : GD i62 → Option (GD o62) := fun x0 => bif mkOk (List.length x0.1.1 : Int) (List.length x0.1.1 : Int) 56 then (loopF (F62.b0 x0) ((0:Int), (List.replicate (Int.toNat (List.length x0.1.1 : Int)) ((0:Int), (⟨#[]⟩, (⟨#[]⟩, ((0:Int), ((0:Int), ()))))), ()))).bind fun r6 => Sum.elim (fun v5 => some ((v5.2.1, ()), ())) some r6 else none
noncomputable def c62 : Con := ⟨i62, o62, F62⟩
noncomputable def C62 : Ctx := ⟨23, TT, EE, fun n => (bif Nat.beq n 83 then some c83 else none), fun n k => [], fun n => (bif Nat.beq n 0 then (some ⟨[(.t 4 (.int .i64) .sh), (.r 8192 e169 [])], [8, 9, 10, 11, 12, 13, 14, 15, 16, 17, 18, 19, 20, 21], []⟩) else none), fun n => none⟩
theorem q62 : ∀ x, runF C62 Try.f62 i62 o62 x = F62 x := by intro x; kernel_rfl
def i36 : List Grp := [⟨.agg, (.cons (.int .i64) (.cons (.int .i64) (.cons (.int .i64) (.cons .str (.cons (.int .i64) (.cons (.int .i64) (.cons (.sl e9) (.cons (.int .i64) (.cons (.sl e9) (.cons (.sl e3) (.cons (.sl e162) (.cons .bool (.cons (.sl e159) (.cons .str .nil)))))))))))))), []⟩]
def o36 : List Grp := [⟨.agg, (.cons (.int .i64) (.cons (.int .i64) (.cons (.int .i64) (.cons .str (.cons (.int .i64) (.cons (.int .i64) (.cons (.sl e9) (.cons (.int .i64) (.cons (.sl e9) (.cons (.sl e3) (.cons (.sl e169) (.cons .bool (.cons (.sl e167) (.cons .str .nil)))))))))))))), [.sh, .sh, .sh, .sh, .sh, .sh, (.own []), .sh, (.own []), (.own []), (.own []), .sh, (.own [])]⟩]
/-- laws.toBlock -/
noncomputable def F36 : GD i36 → Option (GD o36) := fun x0 => (F57 ((x0.1.2.2.2.2.1, (x0.1.2.2.2.2.2.1, (x0.1.2.2.2.2.2.2.1, ()))), ())).bind fun y1 => (F58 ((x0.1.2.2.2.2.2.2.2.1, (x0.1.2.2.2.2.2.2.2.2.1, (x0.1.2.2.2.2.2.2.2.2.2.1, ()))), ())).bind fun y2 => (F62 ((x0.1.2.2.2.2.2.2.2.2.2.2.1, ()), ())).bind fun y3 => (F56 ((x0.1.2.2.2.2.2.2.2.2.2.2.2.2.1, ()), ())).bind fun y4 => some ((x0.1.1, (x0.1.2.1, (x0.1.2.2.1, (x0.1.2.2.2.1, (y1.1.1, (y1.1.2.1, (y1.1.2.2.1, (y2.1.1, (y2.1.2.1, (y2.1.2.2.1, (y3.1.1, (x0.1.2.2.2.2.2.2.2.2.2.2.2.1, (y4.1.1, (x0.1.2.2.2.2.2.2.2.2.2.2.2.2.2.1, ())))))))))))))), ())
noncomputable def c36 : Con := ⟨i36, o36, F36⟩
noncomputable def C36 : Ctx := ⟨39, TT, EE, fun n => (bif Nat.ble n 57 then (bif Nat.ble n 56 then (bif Nat.beq n 56 then some c56 else none) else (bif Nat.beq n 57 then some c57 else none)) else (bif Nat.ble n 58 then (bif Nat.beq n 58 then some c58 else none) else (bif Nat.beq n 62 then some c62 else none))), fun n k => [], fun n => none, fun n => none⟩
theorem q36 : ∀ x, runF C36 Try.f36 i36 o36 x = F36 x := by intro x; kernel_rfl
def i19 : List Grp := [⟨.c, (.cons (.sl e90) .nil), []⟩]
def o19 : List Grp := [⟨.c, (.cons (.sl e104) .nil), [(.own [.sh, .sh, .sh, .sh, .sh, .sh, (.own []), .sh, (.own []), (.own []), (.own []), .sh, (.own [])])]⟩]
/-- laws.toBlockS -/
noncomputable def F19.b0 (x0 : GD i19) : (v1 : (Int × (List (Tys.D e104) × Unit))) → Option (Sum (Int × (List (Tys.D e104) × Unit)) (Sum (Int × (List (Tys.D e104) × Unit)) (GD o19))) := fun v1 => bif iLt v1.1 (List.length x0.1.1 : Int) then (getI x0.1.1 v1.1).bind fun x2 => (F36 (x2, ())).bind fun y3 => (getI v1.2.1 v1.1).bind fun _ => (getN v1.2.1 (Int.toNat v1.1)).bind fun x4 => some (.inl (iAdd .i64 v1.1 (1:Int), (List.set v1.2.1 (Int.toNat v1.1) (y3.1.1, (y3.1.2.1, (y3.1.2.2.1, (y3.1.2.2.2.1, (y3.1.2.2.2.2.1, (y3.1.2.2.2.2.2.1, (y3.1.2.2.2.2.2.2.1, (y3.1.2.2.2.2.2.2.2.1, (y3.1.2.2.2.2.2.2.2.2.1, (y3.1.2.2.2.2.2.2.2.2.2.1, (y3.1.2.2.2.2.2.2.2.2.2.2.1, (y3.1.2.2.2.2.2.2.2.2.2.2.2.1, (y3.1.2.2.2.2.2.2.2.2.2.2.2.2.1, (y3.1.2.2.2.2.2.2.2.2.2.2.2.2.2.1, ())))))))))))))), ()))) else some (.inr (.inl (v1.1, (v1.2.1, ()))))
noncomputable def F19 : GD i19 → Option (GD o19) := fun x0 => bif mkOk (List.length x0.1.1 : Int) (List.length x0.1.1 : Int) 208 then (loopF (F19.b0 x0) ((0:Int), (List.replicate (Int.toNat (List.length x0.1.1 : Int)) ((0:Int), ((0:Int), ((0:Int), (⟨#[]⟩, ((0:Int), ((0:Int), ([], ((0:Int), ([], ([], ([], (false, ([], (⟨#[]⟩, ())))))))))))))), ()))).bind fun r6 => Sum.elim (fun v5 => some ((v5.2.1, ()), ())) some r6 else none
noncomputable def c19 : Con := ⟨i19, o19, F19⟩
noncomputable def C19 : Ctx := ⟨23, TT, EE, fun n => (bif Nat.beq n 36 then some c36 else none), fun n k => (bif Nat.beq n 1 then (match k with | 2 => [.sh, .sh, .sh, .sh, .sh, .sh, (.own []), .sh, (.own []), (.own []), (.own []), .sh, (.own [])] | _ => []) else []), fun n => (bif Nat.beq n 0 then (some ⟨[(.t 4 (.int .i64) .sh), (.r 8192 e104 [.sh, .sh, .sh, .sh, .sh, .sh, (.own []), .sh, (.own []), (.own []), (.own []), .sh, (.own [])])], [8, 9, 10, 11, 12, 13, 14, 15, 16, 17, 18, 19, 20, 21], []⟩) else none), fun n => none⟩
theorem q19 : ∀ x, runF C19 Try.f19 i19 o19 x = F19 x := by intro x; kernel_rfl
def i64 : List Grp := [⟨.agg, (.cons (.int .i64) (.cons (.int .i64) (.cons .str .nil))), []⟩]
def o64 : List Grp := [⟨.agg, (.cons (.int .i64) (.cons (.int .i64) (.cons .str .nil))), []⟩]
/-- laws.toVote -/
noncomputable def F64 : GD i64 → Option (GD o64) := fun x0 => some (x0.1, ())
noncomputable def c64 : Con := ⟨i64, o64, F64⟩
noncomputable def C64 : Ctx := ⟨14, TT, EE, fun n => none, fun n k => [], fun n => none, fun n => none⟩
theorem q64 : ∀ x, runF C64 Try.f64 i64 o64 x = F64 x := by intro x; kernel_rfl
def i59 : List Grp := [⟨.c, (.cons (.sl e96) .nil), []⟩]
def o59 : List Grp := [⟨.c, (.cons (.sl e108) .nil), [(.own [])]⟩]
/-- laws.toVoteS -/
noncomputable def F59.b0 (x0 : GD i59) : (v1 : (Int × (List (Tys.D e108) × Unit))) → Option (Sum (Int × (List (Tys.D e108) × Unit)) (Sum (Int × (List (Tys.D e108) × Unit)) (GD o59))) := fun v1 => bif iLt v1.1 (List.length x0.1.1 : Int) then (getI x0.1.1 v1.1).bind fun x2 => (F64 (x2, ())).bind fun y3 => (getI v1.2.1 v1.1).bind fun _ => (getN v1.2.1 (Int.toNat v1.1)).bind fun x4 => some (.inl (iAdd .i64 v1.1 (1:Int), (List.set v1.2.1 (Int.toNat v1.1) (y3.1.1, (y3.1.2.1, (y3.1.2.2.1, ()))), ()))) else some (.inr (.inl (v1.1, (v1.2.1, ()))))
noncomputable def F59 : GD i59 → Option (GD o59) := fun x0 => bif mkOk (List.length x0.1.1 : Int) (List.length x0.1.1 : Int) 32 then (loopF (F59.b0 x0) ((0:Int), (List.replicate (Int.toNat (List.length x0.1.1 : Int)) ((0:Int), ((0:Int), (⟨#[]⟩, ()))), ()))).bind fun r6 => Sum.elim (fun v5 => some ((v5.2.1, ()), ())) some r6 else none
noncomputable def c59 : Con := ⟨i59, o59, F59⟩
noncomputable def C59 : Ctx := ⟨23, TT, EE, fun n => (bif Nat.beq n 64 then some c64 else none), fun n k => [], fun n => (bif Nat.beq n 0 then (some ⟨[(.t 4 (.int .i64) .sh), (.r 8192 e108 [])], [8, 9, 10, 11, 12, 13, 14, 15, 16, 17, 18, 19, 20, 21], []⟩) else none), fun n => none⟩
theorem q59 : ∀ x, runF C59 Try.f59 i59 o59 x = F59 x := by intro x; kernel_rfl
def i65 : List Grp := [⟨.agg, (.cons (.int .i64) (.cons (.int .i64) (.cons .str .nil))), []⟩]
def o65 : List Grp := [⟨.agg, (.cons (.int .i64) (.cons (.int .i64) (.cons .str .nil))), []⟩]
/-- laws.toGone -/
noncomputable def F65 : GD i65 → Option (GD o65) := fun x0 => some (x0.1, ())
noncomputable def c65 : Con := ⟨i65, o65, F65⟩
noncomputable def C65 : Ctx := ⟨14, TT, EE, fun n => none, fun n k => [], fun n => none, fun n => none⟩
theorem q65 : ∀ x, runF C65 Try.f65 i65 o65 x = F65 x := by intro x; kernel_rfl
def i60 : List Grp := [⟨.c, (.cons (.sl e98) .nil), []⟩]
def o60 : List Grp := [⟨.c, (.cons (.sl e109) .nil), [(.own [])]⟩]
/-- laws.toGoneS -/
noncomputable def F60.b0 (x0 : GD i60) : (v1 : (Int × (List (Tys.D e109) × Unit))) → Option (Sum (Int × (List (Tys.D e109) × Unit)) (Sum (Int × (List (Tys.D e109) × Unit)) (GD o60))) := fun v1 => bif iLt v1.1 (List.length x0.1.1 : Int) then (getI x0.1.1 v1.1).bind fun x2 => (F65 (x2, ())).bind fun y3 => (getI v1.2.1 v1.1).bind fun _ => (getN v1.2.1 (Int.toNat v1.1)).bind fun x4 => some (.inl (iAdd .i64 v1.1 (1:Int), (List.set v1.2.1 (Int.toNat v1.1) (y3.1.1, (y3.1.2.1, (y3.1.2.2.1, ()))), ()))) else some (.inr (.inl (v1.1, (v1.2.1, ()))))
noncomputable def F60 : GD i60 → Option (GD o60) := fun x0 => bif mkOk (List.length x0.1.1 : Int) (List.length x0.1.1 : Int) 32 then (loopF (F60.b0 x0) ((0:Int), (List.replicate (Int.toNat (List.length x0.1.1 : Int)) ((0:Int), ((0:Int), (⟨#[]⟩, ()))), ()))).bind fun r6 => Sum.elim (fun v5 => some ((v5.2.1, ()), ())) some r6 else none
noncomputable def c60 : Con := ⟨i60, o60, F60⟩
noncomputable def C60 : Ctx := ⟨23, TT, EE, fun n => (bif Nat.beq n 65 then some c65 else none), fun n k => [], fun n => (bif Nat.beq n 0 then (some ⟨[(.t 4 (.int .i64) .sh), (.r 8192 e109 [])], [8, 9, 10, 11, 12, 13, 14, 15, 16, 17, 18, 19, 20, 21], []⟩) else none), fun n => none⟩
theorem q60 : ∀ x, runF C60 Try.f60 i60 o60 x = F60 x := by intro x; kernel_rfl
def i84 : List Grp := [⟨.agg, (.cons (.int .i64) (.cons (.sl e90) (.cons (.int .i64) (.cons (.int .i64) (.cons (.sl e9) .nil))))), []⟩]
def o84 : List Grp := [⟨.agg, (.cons (.int .i64) (.cons (.sl e104) (.cons (.int .i64) (.cons (.int .i64) (.cons (.sl e9) .nil))))), [.sh, (.own [.sh, .sh, .sh, .sh, .sh, .sh, (.own []), .sh, (.own []), (.own []), (.own []), .sh, (.own [])]), .sh, .sh, (.own [])]⟩]
/-- laws.toProof -/
noncomputable def F84 : GD i84 → Option (GD o84) := fun x0 => (F19 ((x0.1.2.1, ()), ())).bind fun y1 => (F57 ((x0.1.2.2.1, (x0.1.2.2.2.1, (x0.1.2.2.2.2.1, ()))), ())).bind fun y2 => some ((x0.1.1, (y1.1.1, (y2.1.1, (y2.1.2.1, (y2.1.2.2.1, ()))))), ())
noncomputable def c84 : Con := ⟨i84, o84, F84⟩
noncomputable def C84 : Ctx := ⟨16, TT, EE, fun n => (bif Nat.ble n 19 then (bif Nat.beq n 19 then some c19 else none) else (bif Nat.beq n 57 then some c57 else none)), fun n k => [], fun n => none, fun n => none⟩
theorem q84 : ∀ x, runF C84 Try.f84 i84 o84 x = F84 x := by intro x; kernel_rfl
def i63 : List Grp := [⟨.c, (.cons (.sl e165) .nil), []⟩]
def o63 : List Grp := [⟨.c, (.cons (.sl e172) .nil), [(.own [.sh, (.own [.sh, .sh, .sh, .sh, .sh, .sh, (.own []), .sh, (.own []), (.own []), (.own []), .sh, (.own [])]), .sh, .sh, (.own [])])]⟩]
/-- laws.toProofS -/
noncomputable def F63.b0 (x0 : GD i63) : (v1 : (Int × (List (Tys.D e172) × Unit))) → Option (Sum (Int × (List (Tys.D e172) × Unit)) (Sum (Int × (List (Tys.D e172) × Unit)) (GD o63))) := fun v1 => bif iLt v1.1 (List.length x0.1.1 : Int) then (getI x0.1.1 v1.1).bind fun x2 => (F84 (x2, ())).bind fun y3 => (getI v1.2.1 v1.1).bind fun _ => (getN v1.2.1 (Int.toNat v1.1)).bind fun x4 => some (.inl (iAdd .i64 v1.1 (1:Int), (List.set v1.2.1 (Int.toNat v1.1) (y3.1.1, (y3.1.2.1, (y3.1.2.2.1, (y3.1.2.2.2.1, (y3.1.2.2.2.2.1, ()))))), ()))) else some (.inr (.inl (v1.1, (v1.2.1, ()))))
noncomputable def F63 : GD i63 → Option (GD o63) := fun x0 => bif mkOk (List.length x0.1.1 : Int) (List.length x0.1.1 : Int) 72 then (loopF (F63.b0 x0) ((0:Int), (List.replicate (Int.toNat (List.length x0.1.1 : Int)) ((0:Int), ([], ((0:Int), ((0:Int), ([], ()))))), ()))).bind fun r6 => Sum.elim (fun v5 => some ((v5.2.1, ()), ())) some r6 else none
noncomputable def c63 : Con := ⟨i63, o63, F63⟩
noncomputable def C63 : Ctx := ⟨23, TT, EE, fun n => (bif Nat.beq n 84 then some c84 else none), fun n k => (bif Nat.beq n 1 then (match k with | 2 => [.sh, (.own [.sh, .sh, .sh, .sh, .sh, .sh, (.own []), .sh, (.own []), (.own []), (.own []), .sh, (.own [])]), .sh, .sh, (.own [])] | _ => []) else []), fun n => (bif Nat.beq n 0 then (some ⟨[(.t 4 (.int .i64) .sh), (.r 8192 e172 [.sh, (.own [.sh, .sh, .sh, .sh, .sh, .sh, (.own []), .sh, (.own []), (.own []), (.own []), .sh, (.own [])]), .sh, .sh, (.own [])])], [8, 9, 10, 11, 12, 13, 14, 15, 16, 17, 18, 19, 20, 21], []⟩) else none), fun n => none⟩
theorem q63 : ∀ x, runF C63 Try.f63 i63 o63 x = F63 x := by intro x; kernel_rfl
def i35 : List Grp := [⟨.agg, (.cons .str (.cons (.int .i64) (.cons (.int .i64) (.cons (.sl e121) (.cons (.sl e159) (.cons (.sl e90) (.cons (.int .i64) (.cons (.int .i64) (.cons (.int .i64) (.cons (.int .i64) (.cons (.sl e9) (.cons (.int .i64) (.cons (.sl e9) (.cons (.sl e3) (.cons (.int .i64) (.cons (.sl e96) (.cons (.sl e98) (.cons (.sl e3) (.cons (.sl e162) (.cons (.sl e165) .nil)))))))))))))))))))), []⟩]
def o35 : List Grp := [⟨.agg, (.cons .str (.cons (.int .i64) (.cons (.int .i64) (.cons (.sl e134) (.cons (.sl e167) (.cons (.sl e104) (.cons (.int .i64) (.cons (.int .i64) (.cons (.int .i64) (.cons (.int .i64) (.cons (.sl e9) (.cons (.int .i64) (.cons (.sl e9) (.cons (.sl e3) (.cons (.int .i64) (.cons (.sl e108) (.cons (.sl e109) (.cons (.sl e3) (.cons (.sl e169) (.cons (.sl e172) .nil)))))))))))))))))))), [.sh, .sh, .sh, (.own [.sh, .sh, .sh, .sh, (.own [])]), (.own []), (.own [.sh, .sh, .sh, .sh, .sh, .sh, (.own []), .sh, (.own []), (.own []), (.own []), .sh, (.own [])]), .sh, .sh, .sh, .sh, (.own []), .sh, (.own []), (.own []), .sh, (.own []), (.own []), (.own []), (.own []), (.own [.sh, (.own [.sh, .sh, .sh, .sh, .sh, .sh, (.own []), .sh, (.own []), (.own []), (.own []), .sh, (.own [])]), .sh, .sh, (.own [])])]⟩]
/-- laws.toNode -/
noncomputable def F35 : GD i35 → Option (GD o35) := fun x0 => (F16 ((x0.1.2.2.1, (x0.1.2.2.2.1, ())), ())).bind fun y1 => (F56 ((x0.1.2.2.2.2.1, ()), ())).bind fun y2 => (F19 ((x0.1.2.2.2.2.2.1, ()), ())).bind fun y3 => (F57 ((x0.1.2.2.2.2.2.2.2.2.1, (x0.1.2.2.2.2.2.2.2.2.2.1, (x0.1.2.2.2.2.2.2.2.2.2.2.1, ()))), ())).bind fun y4 => (F58 ((x0.1.2.2.2.2.2.2.2.2.2.2.2.1, (x0.1.2.2.2.2.2.2.2.2.2.2.2.2.1, (x0.1.2.2.2.2.2.2.2.2.2.2.2.2.2.1, ()))), ())).bind fun y5 => (F59 ((x0.1.2.2.2.2.2.2.2.2.2.2.2.2.2.2.2.1, ()), ())).bind fun y6 => (F60 ((x0.1.2.2.2.2.2.2.2.2.2.2.2.2.2.2.2.2.1, ()), ())).bind fun y7 => (F61 ((x0.1.2.2.2.2.2.2.2.2.2.2.2.2.2.2.2.2.2.1, ()), ())).bind fun y8 => (F62 ((x0.1.2.2.2.2.2.2.2.2.2.2.2.2.2.2.2.2.2.2.1, ()), ())).bind fun y9 => (F63 ((x0.1.2.2.2.2.2.2.2.2.2.2.2.2.2.2.2.2.2.2.2.1, ()), ())).bind fun y10 => some ((x0.1.1, (x0.1.2.1, (y1.1.1, (y1.1.2.1, (y2.1.1, (y3.1.1, (x0.1.2.2.2.2.2.2.1, (x0.1.2.2.2.2.2.2.2.1, (y4.1.1, (y4.1.2.1, (y4.1.2.2.1, (y5.1.1, (y5.1.2.1, (y5.1.2.2.1, (x0.1.2.2.2.2.2.2.2.2.2.2.2.2.2.2.1, (y6.1.1, (y7.1.1, (y8.1.1, (y9.1.1, (y10.1.1, ())))))))))))))))))))), ())
noncomputable def c35 : Con := ⟨i35, o35, F35⟩
noncomputable def C35 : Ctx := ⟨60, TT, EE, fun n => (bif Nat.ble n 58 then (bif Nat.ble n 19 then (bif Nat.ble n 16 then (bif Nat.beq n 16 then some c16 else none) else (bif Nat.beq n 19 then some c19 else none)) else (bif Nat.ble n 56 then (bif Nat.beq n 56 then some c56 else none) else (bif Nat.ble n 57 then (bif Nat.beq n 57 then some c57 else none) else (bif Nat.beq n 58 then some c58 else none)))) else (bif Nat.ble n 60 then (bif Nat.ble n 59 then (bif Nat.beq n 59 then some c59 else none) else (bif Nat.beq n 60 then some c60 else none)) else (bif Nat.ble n 61 then (bif Nat.beq n 61 then some c61 else none) else (bif Nat.ble n 62 then (bif Nat.beq n 62 then some c62 else none) else (bif Nat.beq n 63 then some c63 else none))))), fun n k => [], fun n => none, fun n => none⟩
theorem q35 : ∀ x, runF C35 Try.f35 i35 o35 x = F35 x := by intro x; kernel_rfl
def i18 : List Grp := [⟨.c, (.cons (.sl e87) .nil), []⟩]
def o18 : List Grp := [⟨.c, (.cons (.sl e64) .nil), [(.own [.sh, .sh, .sh, (.own [.sh, .sh, .sh, .sh, (.own [])]), (.own []), (.own [.sh, .sh, .sh, .sh, .sh, .sh, (.own []), .sh, (.own []), (.own []), (.own []), .sh, (.own [])]), .sh, .sh, .sh, .sh, (.own []), .sh, (.own []), (.own []), .sh, (.own []), (.own []), (.own []), (.own []), (.own [.sh, (.own [.sh, .sh, .sh, .sh, .sh, .sh, (.own []), .sh, (.own []), (.own []), (.own []), .sh, (.own [])]), .sh, .sh, (.own [])])])]⟩]
/-- laws.toNodeS -/
noncomputable def F18.b0 (x0 : GD i18) : (v1 : (Int × (List (Tys.D e64) × Unit))) → Option (Sum (Int × (List (Tys.D e64) × Unit)) (Sum (Int × (List (Tys.D e64) × Unit)) (GD o18))) := fun v1 => bif iLt v1.1 (List.length x0.1.1 : Int) then (getI x0.1.1 v1.1).bind fun x2 => (F35 (x2, ())).bind fun y3 => (getI v1.2.1 v1.1).bind fun _ => (getN v1.2.1 (Int.toNat v1.1)).bind fun x4 => some (.inl (iAdd .i64 v1.1 (1:Int), (List.set v1.2.1 (Int.toNat v1.1) (y3.1.1, (y3.1.2.1, (y3.1.2.2.1, (y3.1.2.2.2.1, (y3.1.2.2.2.2.1, (y3.1.2.2.2.2.2.1, (y3.1.2.2.2.2.2.2.1, (y3.1.2.2.2.2.2.2.2.1, (y3.1.2.2.2.2.2.2.2.2.1, (y3.1.2.2.2.2.2.2.2.2.2.1, (y3.1.2.2.2.2.2.2.2.2.2.2.1, (y3.1.2.2.2.2.2.2.2.2.2.2.2.1, (y3.1.2.2.2.2.2.2.2.2.2.2.2.2.1, (y3.1.2.2.2.2.2.2.2.2.2.2.2.2.2.1, (y3.1.2.2.2.2.2.2.2.2.2.2.2.2.2.2.1, (y3.1.2.2.2.2.2.2.2.2.2.2.2.2.2.2.2.1, (y3.1.2.2.2.2.2.2.2.2.2.2.2.2.2.2.2.2.1, (y3.1.2.2.2.2.2.2.2.2.2.2.2.2.2.2.2.2.2.1, (y3.1.2.2.2.2.2.2.2.2.2.2.2.2.2.2.2.2.2.2.1, (y3.1.2.2.2.2.2.2.2.2.2.2.2.2.2.2.2.2.2.2.2.1, ())))))))))))))))))))), ()))) else some (.inr (.inl (v1.1, (v1.2.1, ()))))
noncomputable def F18 : GD i18 → Option (GD o18) := fun x0 => bif mkOk (List.length x0.1.1 : Int) (List.length x0.1.1 : Int) 344 then (loopF (F18.b0 x0) ((0:Int), (List.replicate (Int.toNat (List.length x0.1.1 : Int)) (⟨#[]⟩, ((0:Int), ((0:Int), ([], ([], ([], ((0:Int), ((0:Int), ((0:Int), ((0:Int), ([], ((0:Int), ([], ([], ((0:Int), ([], ([], ([], ([], ([], ())))))))))))))))))))), ()))).bind fun r6 => Sum.elim (fun v5 => some ((v5.2.1, ()), ())) some r6 else none
noncomputable def c18 : Con := ⟨i18, o18, F18⟩
noncomputable def C18 : Ctx := ⟨23, TT, EE, fun n => (bif Nat.beq n 35 then some c35 else none), fun n k => (bif Nat.beq n 1 then (match k with | 2 => [.sh, .sh, .sh, (.own [.sh, .sh, .sh, .sh, (.own [])]), (.own []), (.own [.sh, .sh, .sh, .sh, .sh, .sh, (.own []), .sh, (.own []), (.own []), (.own []), .sh, (.own [])]), .sh, .sh, .sh, .sh, (.own []), .sh, (.own []), (.own []), .sh, (.own []), (.own []), (.own []), (.own []), (.own [.sh, (.own [.sh, .sh, .sh, .sh, .sh, .sh, (.own []), .sh, (.own []), (.own []), (.own []), .sh, (.own [])]), .sh, .sh, (.own [])])] | _ => []) else []), fun n => (bif Nat.beq n 0 then (some ⟨[(.t 4 (.int .i64) .sh), (.r 8192 e64 [.sh, .sh, .sh, (.own [.sh, .sh, .sh, .sh, (.own [])]), (.own []), (.own [.sh, .sh, .sh, .sh, .sh, .sh, (.own []), .sh, (.own []), (.own []), (.own []), .sh, (.own [])]), .sh, .sh, .sh, .sh, (.own []), .sh, (.own []), (.own []), .sh, (.own []), (.own []), (.own []), (.own []), (.own [.sh, (.own [.sh, .sh, .sh, .sh, .sh, .sh, (.own []), .sh, (.own []), (.own []), (.own []), .sh, (.own [])]), .sh, .sh, (.own [])])])], [8, 9, 10, 11, 12, 13, 14, 15, 16, 17, 18, 19, 20, 21], []⟩) else none), fun n => none⟩
theorem q18 : ∀ x, runF C18 Try.f18 i18 o18 x = F18 x := by intro x; kernel_rfl
def i37 : List Grp := [⟨.agg, (.cons (.int .i64) (.cons (.int .i64) (.cons (.int .i64) (.cons (.int .i64) (.cons .str .nil))))), []⟩]
def o37 : List Grp := [⟨.agg, (.cons (.int .i64) (.cons (.int .i64) (.cons (.int .i64) (.cons (.int .i64) (.cons .str .nil))))), []⟩]
/-- laws.toSig -/
noncomputable def F37 : GD i37 → Option (GD o37) := fun x0 => some (x0.1, ())
noncomputable def c37 : Con := ⟨i37, o37, F37⟩
noncomputable def C37 : Ctx := ⟨20, TT, EE, fun n => none, fun n k => [], fun n => none, fun n => none⟩
theorem q37 : ∀ x, runF C37 Try.f37 i37 o37 x = F37 x := by intro x; kernel_rfl
def i20 : List Grp := [⟨.c, (.cons (.sl e93) .nil), []⟩]
def o20 : List Grp := [⟨.c, (.cons (.sl e106) .nil), [(.own [])]⟩]
/-- laws.toSigS -/
noncomputable def F20.b0 (x0 : GD i20) : (v1 : (Int × (List (Tys.D e106) × Unit))) → Option (Sum (Int × (List (Tys.D e106) × Unit)) (Sum (Int × (List (Tys.D e106) × Unit)) (GD o20))) := fun v1 => bif iLt v1.1 (List.length x0.1.1 : Int) then (getI x0.1.1 v1.1).bind fun x2 => (F37 (x2, ())).bind fun y3 => (getI v1.2.1 v1.1).bind fun _ => (getN v1.2.1 (Int.toNat v1.1)).bind fun x4 => some (.inl (iAdd .i64 v1.1 (1:Int), (List.set v1.2.1 (Int.toNat v1.1) (y3.1.1, (y3.1.2.1, (y3.1.2.2.1, (y3.1.2.2.2.1, (y3.1.2.2.2.2.1, ()))))), ()))) else some (.inr (.inl (v1.1, (v1.2.1, ()))))
noncomputable def F20 : GD i20 → Option (GD o20) := fun x0 => bif mkOk (List.length x0.1.1 : Int) (List.length x0.1.1 : Int) 48 then (loopF (F20.b0 x0) ((0:Int), (List.replicate (Int.toNat (List.length x0.1.1 : Int)) ((0:Int), ((0:Int), ((0:Int), ((0:Int), (⟨#[]⟩, ()))))), ()))).bind fun r6 => Sum.elim (fun v5 => some ((v5.2.1, ()), ())) some r6 else none
noncomputable def c20 : Con := ⟨i20, o20, F20⟩
noncomputable def C20 : Ctx := ⟨23, TT, EE, fun n => (bif Nat.beq n 37 then some c37 else none), fun n k => [], fun n => (bif Nat.beq n 0 then (some ⟨[(.t 4 (.int .i64) .sh), (.r 8192 e106 [])], [8, 9, 10, 11, 12, 13, 14, 15, 16, 17, 18, 19, 20, 21], []⟩) else none), fun n => none⟩
theorem q20 : ∀ x, runF C20 Try.f20 i20 o20 x = F20 x := by intro x; kernel_rfl
def i38 : List Grp := [⟨.agg, (.cons (.int .i64) (.cons .str (.cons (.int .i64) (.cons (.sl e90) (.cons (.int .i64) (.cons (.int .i64) (.cons .str (.cons (.int .i64) (.cons (.int .i64) (.cons .str (.cons (.int .i64) (.cons (.int .i64) (.cons (.sl e9) (.cons (.int .i64) (.cons (.sl e9) (.cons (.sl e3) .nil)))))))))))))))), []⟩]
def o38 : List Grp := [⟨.agg, (.cons (.int .i64) (.cons .str (.cons (.int .i64) (.cons (.sl e104) (.cons (.int .i64) (.cons (.int .i64) (.cons .str (.cons (.int .i64) (.cons (.int .i64) (.cons .str (.cons (.int .i64) (.cons (.int .i64) (.cons (.sl e9) (.cons (.int .i64) (.cons (.sl e9) (.cons (.sl e3) .nil)))))))))))))))), [.sh, .sh, .sh, (.own [.sh, .sh, .sh, .sh, .sh, .sh, (.own []), .sh, (.own []), (.own []), (.own []), .sh, (.own [])]), .sh, .sh, .sh, .sh, .sh, .sh, .sh, .sh, (.own []), .sh, (.own []), (.own [])]⟩]
/-- laws.toMsg -/
noncomputable def F38 : GD i38 → Option (GD o38) := fun x0 => (F19 ((x0.1.2.2.2.1, ()), ())).bind fun y1 => (F64 ((x0.1.2.2.2.2.1, (x0.1.2.2.2.2.2.1, (x0.1.2.2.2.2.2.2.1, ()))), ())).bind fun y2 => (F65 ((x0.1.2.2.2.2.2.2.2.1, (x0.1.2.2.2.2.2.2.2.2.1, (x0.1.2.2.2.2.2.2.2.2.2.1, ()))), ())).bind fun y3 => (F57 ((x0.1.2.2.2.2.2.2.2.2.2.2.1, (x0.1.2.2.2.2.2.2.2.2.2.2.2.1, (x0.1.2.2.2.2.2.2.2.2.2.2.2.2.1, ()))), ())).bind fun y4 => (F58 ((x0.1.2.2.2.2.2.2.2.2.2.2.2.2.2.1, (x0.1.2.2.2.2.2.2.2.2.2.2.2.2.2.2.1, (x0.1.2.2.2.2.2.2.2.2.2.2.2.2.2.2.2.1, ()))), ())).bind fun y5 => some ((x0.1.1, (x0.1.2.1, (x0.1.2.2.1, (y1.1.1, (y2.1.1, (y2.1.2.1, (y2.1.2.2.1, (y3.1.1, (y3.1.2.1, (y3.1.2.2.1, (y4.1.1, (y4.1.2.1, (y4.1.2.2.1, (y5.1.1, (y5.1.2.1, (y5.1.2.2.1, ())))))))))))))))), ())
noncomputable def c38 : Con := ⟨i38, o38, F38⟩
noncomputable def C38 : Ctx := ⟨34, TT, EE, fun n => (bif Nat.ble n 57 then (bif Nat.ble n 19 then (bif Nat.beq n 19 then some c19 else none) else (bif Nat.beq n 57 then some c57 else none)) else (bif Nat.ble n 58 then (bif Nat.beq n 58 then some c58 else none) else (bif Nat.ble n 64 then (bif Nat.beq n 64 then some c64 else none) else (bif Nat.beq n 65 then some c65 else none)))), fun n k => [], fun n => none, fun n => none⟩
theorem q38 : ∀ x, runF C38 Try.f38 i38 o38 x = F38 x := by intro x; kernel_rfl
def i21 : List Grp := [⟨.c, (.cons (.sl e100) .nil), []⟩]
def o21 : List Grp := [⟨.c, (.cons (.sl e111) .nil), [(.own [.sh, .sh, .sh, (.own [.sh, .sh, .sh, .sh, .sh, .sh, (.own []), .sh, (.own []), (.own []), (.own []), .sh, (.own [])]), .sh, .sh, .sh, .sh, .sh, .sh, .sh, .sh, (.own []), .sh, (.own []), (.own [])])]⟩]
/-- laws.toMsgS -/
noncomputable def F21.b0 (x0 : GD i21) : (v1 : (Int × (List (Tys.D e111) × Unit))) → Option (Sum (Int × (List (Tys.D e111) × Unit)) (Sum (Int × (List (Tys.D e111) × Unit)) (GD o21))) := fun v1 => bif iLt v1.1 (List.length x0.1.1 : Int) then (getI x0.1.1 v1.1).bind fun x2 => (F38 (x2, ())).bind fun y3 => (getI v1.2.1 v1.1).bind fun _ => (getN v1.2.1 (Int.toNat v1.1)).bind fun x4 => some (.inl (iAdd .i64 v1.1 (1:Int), (List.set v1.2.1 (Int.toNat v1.1) (y3.1.1, (y3.1.2.1, (y3.1.2.2.1, (y3.1.2.2.2.1, (y3.1.2.2.2.2.1, (y3.1.2.2.2.2.2.1, (y3.1.2.2.2.2.2.2.1, (y3.1.2.2.2.2.2.2.2.1, (y3.1.2.2.2.2.2.2.2.2.1, (y3.1.2.2.2.2.2.2.2.2.2.1, (y3.1.2.2.2.2.2.2.2.2.2.2.1, (y3.1.2.2.2.2.2.2.2.2.2.2.2.1, (y3.1.2.2.2.2.2.2.2.2.2.2.2.2.1, (y3.1.2.2.2.2.2.2.2.2.2.2.2.2.2.1, (y3.1.2.2.2.2.2.2.2.2.2.2.2.2.2.2.1, (y3.1.2.2.2.2.2.2.2.2.2.2.2.2.2.2.2.1, ())))))))))))))))), ()))) else some (.inr (.inl (v1.1, (v1.2.1, ()))))
noncomputable def F21 : GD i21 → Option (GD o21) := fun x0 => bif mkOk (List.length x0.1.1 : Int) (List.length x0.1.1 : Int) 216 then (loopF (F21.b0 x0) ((0:Int), (List.replicate (Int.toNat (List.length x0.1.1 : Int)) ((0:Int), (⟨#[]⟩, ((0:Int), ([], ((0:Int), ((0:Int), (⟨#[]⟩, ((0:Int), ((0:Int), (⟨#[]⟩, ((0:Int), ((0:Int), ([], ((0:Int), ([], ([], ())))))))))))))))), ()))).bind fun r6 => Sum.elim (fun v5 => some ((v5.2.1, ()), ())) some r6 else none
noncomputable def c21 : Con := ⟨i21, o21, F21⟩
noncomputable def C21 : Ctx := ⟨23, TT, EE, fun n => (bif Nat.beq n 38 then some c38 else none), fun n k => (bif Nat.beq n 1 then (match k with | 2 => [.sh, .sh, .sh, (.own [.sh, .sh, .sh, .sh, .sh, .sh, (.own []), .sh, (.own []), (.own []), (.own []), .sh, (.own [])]), .sh, .sh, .sh, .sh, .sh, .sh, .sh, .sh, (.own []), .sh, (.own []), (.own [])] | _ => []) else []), fun n => (bif Nat.beq n 0 then (some ⟨[(.t 4 (.int .i64) .sh), (.r 8192 e111 [.sh, .sh, .sh, (.own [.sh, .sh, .sh, .sh, .sh, .sh, (.own []), .sh, (.own []), (.own []), (.own []), .sh, (.own [])]), .sh, .sh, .sh, .sh, .sh, .sh, .sh, .sh, (.own []), .sh, (.own []), (.own [])])], [8, 9, 10, 11, 12, 13, 14, 15, 16, 17, 18, 19, 20, 21], []⟩) else none), fun n => none⟩
theorem q21 : ∀ x, runF C21 Try.f21 i21 o21 x = F21 x := by intro x; kernel_rfl
def i6 : List Grp := [⟨.agg, (.cons (.int .i64) (.cons (.sl e121) (.cons (.sl e9) (.cons (.sl e87) (.cons (.sl e90) (.cons (.sl e93) (.cons (.sl e100) .nil))))))), []⟩]
def o6 : List Grp := [⟨.agg, (.cons (.int .i64) (.cons (.sl e134) (.cons (.sl e9) (.cons (.sl e64) (.cons (.sl e104) (.cons (.sl e106) (.cons (.sl e111) .nil))))))), [.sh, (.own [.sh, .sh, .sh, .sh, (.own [])]), (.own []), (.own [.sh, .sh, .sh, (.own [.sh, .sh, .sh, .sh, (.own [])]), (.own []), (.own [.sh, .sh, .sh, .sh, .sh, .sh, (.own []), .sh, (.own []), (.own []), (.own []), .sh, (.own [])]), .sh, .sh, .sh, .sh, (.own []), .sh, (.own []), (.own []), .sh, (.own []), (.own []), (.own []), (.own []), (.own [.sh, (.own [.sh, .sh, .sh, .sh, .sh, .sh, (.own []), .sh, (.own []), (.own []), (.own []), .sh, (.own [])]), .sh, .sh, (.own [])])]), (.own [.sh, .sh, .sh, .sh, .sh, .sh, (.own []), .sh, (.own []), (.own []), (.own []), .sh, (.own [])]), (.own []), (.own [.sh, .sh, .sh, (.own [.sh, .sh, .sh, .sh, .sh, .sh, (.own []), .sh, (.own []), (.own []), (.own []), .sh, (.own [])]), .sh, .sh, .sh, .sh, .sh, .sh, .sh, .sh, (.own []), .sh, (.own []), (.own [])])]⟩]
/-- laws.toWorld -/
noncomputable def F6 : GD i6 → Option (GD o6) := fun x0 => (F16 ((x0.1.1, (x0.1.2.1, ())), ())).bind fun y1 => (F17 ((x0.1.2.2.1, ()), ())).bind fun y2 => (F18 ((x0.1.2.2.2.1, ()), ())).bind fun y3 => (F19 ((x0.1.2.2.2.2.1, ()), ())).bind fun y4 => (F20 ((x0.1.2.2.2.2.2.1, ()), ())).bind fun y5 => (F21 ((x0.1.2.2.2.2.2.2.1, ()), ())).bind fun y6 => some ((y1.1.1, (y1.1.2.1, (y2.1.1, (y3.1.1, (y4.1.1, (y5.1.1, (y6.1.1, ()))))))), ())
noncomputable def c6 : Con := ⟨i6, o6, F6⟩
noncomputable def C6 : Ctx := ⟨29, TT, EE, fun n => (bif Nat.ble n 18 then (bif Nat.ble n 16 then (bif Nat.beq n 16 then some c16 else none) else (bif Nat.ble n 17 then (bif Nat.beq n 17 then some c17 else none) else (bif Nat.beq n 18 then some c18 else none))) else (bif Nat.ble n 19 then (bif Nat.beq n 19 then some c19 else none) else (bif Nat.ble n 20 then (bif Nat.beq n 20 then some c20 else none) else (bif Nat.beq n 21 then some c21 else none)))), fun n k => [], fun n => none, fun n => none⟩
theorem q6 : ∀ x, runF C6 Try.f6 i6 o6 x = F6 x := by intro x; kernel_rfl
def i15 : List Grp := [⟨.c, (.cons (.sl e3) .nil), []⟩, ⟨.c, (.cons (.sl e3) .nil), []⟩]
def o15 : List Grp := [⟨.c, (.cons .bool .nil), []⟩]
/-- spec.l16Begins -/
noncomputable def F15.b0 (x0 : GD i15) : (v1 : (Int × Unit)) → Option (Sum (Int × Unit) (Sum (Int × Unit) (GD o15))) := fun v1 => bif iLt v1.1 (List.length x0.1.1 : Int) then bif iLt v1.1 (List.length x0.2.1.1 : Int) then (getI x0.1.1 v1.1).bind fun x2 => (getI x0.2.1.1 v1.1).bind fun x3 => bif !iEq x2.1 x3.1 then some (.inr (.inr ((false, ()), ()))) else some (.inl (iAdd .i64 v1.1 (1:Int), ())) else some (.inr (.inl (v1.1, ()))) else some (.inr (.inl (v1.1, ())))
noncomputable def F15 : GD i15 → Option (GD o15) := fun x0 => (loopF (F15.b0 x0) ((0:Int), ())).bind fun r5 => Sum.elim (fun v4 => some ((true, ()), ())) some r5
noncomputable def c15 : Con := ⟨i15, o15, F15⟩
noncomputable def C15 : Ctx := ⟨27, TT, EE, fun n => none, fun n k => [], fun n => (bif Nat.beq n 0 then (some ⟨[(.t 5 (.int .i64) .sh)], [4, 6, 7, 8, 9, 10, 11, 12, 13, 14, 15, 16, 17, 18, 19, 20, 21, 22, 23, 24, 25, 26], []⟩) else none), fun n => none⟩
theorem q15 : ∀ x, runF C15 Try.f15 i15 o15 x = F15 x := by intro x; kernel_rfl
def i5 : List Grp := [⟨.agg, (.cons (.int .i64) (.cons (.sl e134) (.cons (.sl e9) (.cons (.sl e64) (.cons (.sl e104) (.cons (.sl e106) (.cons (.sl e111) .nil))))))), []⟩]
def o5 : List Grp := [⟨.c, (.cons .bool .nil), []⟩]
/-- spec.Prefix -/
noncomputable def F5.b1 (v1 : (Int × Unit)) (x0 : GD i5) : (v2 : (Int × Unit)) → Option (Sum (Int × Unit) (Sum (Int × Unit) (Sum (Int × Unit) (Sum (Int × Unit) (GD o5))))) := fun v2 => bif iLt v2.1 v1.1 then (getI x0.1.2.2.2.1 v1.1).bind fun x3 => (getI x0.1.2.2.2.1 v2.1).bind fun x4 => (F15 ((x3.2.2.2.2.2.2.2.2.2.2.2.2.2.2.2.2.2.1, ()), ((x4.2.2.2.2.2.2.2.2.2.2.2.2.2.2.2.2.2.1, ()), ()))).bind fun y5 => bif (!y5.1.1) then some (.inr (.inr (.inr (.inr ((false, ()), ()))))) else some (.inl (iAdd .i64 v2.1 (1:Int), ())) else some (.inr (.inl (v2.1, ())))
noncomputable def F5.b0 (x0 : GD i5) : (v1 : (Int × Unit)) → Option (Sum (Int × Unit) (Sum (Int × Unit) (GD o5))) := fun v1 => bif iLt v1.1 (List.length x0.1.2.2.2.1 : Int) then (loopF (F5.b1 v1 x0) ((0:Int), ())).bind fun r7 => Sum.elim (fun v6 => some (.inl (iAdd .i64 v1.1 (1:Int), ()))) some r7 else some (.inr (.inl (v1.1, ())))
noncomputable def F5 : GD i5 → Option (GD o5) := fun x0 => (loopF (F5.b0 x0) ((0:Int), ())).bind fun r9 => Sum.elim (fun v8 => some ((true, ()), ())) some r9
noncomputable def c5 : Con := ⟨i5, o5, F5⟩
noncomputable def C5 : Ctx := ⟨31, TT, EE, fun n => (bif Nat.beq n 15 then some c15 else none), fun n k => [], fun n => (bif Nat.ble n 0 then (bif Nat.beq n 0 then (some ⟨[(.t 3 (.int .i64) .sh)], [2, 4, 5, 6, 7, 8, 9, 10, 11, 12, 13, 14, 15, 16, 17, 18, 19, 20, 21, 22, 23, 24, 25, 26, 27, 28, 29, 30], []⟩) else none) else (bif Nat.beq n 2 then (some ⟨[(.t 4 (.int .i64) .sh)], [2, 12, 13, 14, 15, 16, 17, 18, 19, 20, 21, 22, 23, 24, 25, 26, 27, 28, 29, 30], []⟩) else none)), fun n => none⟩
theorem q5 : ∀ x, runF C5 Try.f5 i5 o5 x = F5 x := by intro x; kernel_rfl
def i22 : List Grp := [⟨.c, (.cons (.sl e3) .nil), []⟩, ⟨.c, (.cons (.sl e3) .nil), []⟩]
def o22 : List Grp := [⟨.c, (.cons .bool .nil), []⟩]
/-- slices.Equal[[]int,int] -/
noncomputable def F22.b0 (x0 : GD i22) : (v1 : (Int × Unit)) → Option (Sum (Int × Unit) (Sum (Int × Unit) (GD o22))) := fun v1 => bif iLt v1.1 (List.length x0.1.1 : Int) then (getI x0.1.1 v1.1).bind fun x2 => (getI x0.2.1.1 v1.1).bind fun x3 => bif !iEq x2.1 x3.1 then some (.inr (.inr ((false, ()), ()))) else some (.inl (iAdd .i64 v1.1 (1:Int), ())) else some (.inr (.inl (v1.1, ())))
noncomputable def F22 : GD i22 → Option (GD o22) := fun x0 => bif !iEq (List.length x0.1.1 : Int) (List.length x0.2.1.1 : Int) then some ((false, ()), ()) else (loopF (F22.b0 x0) ((0:Int), ())).bind fun r5 => Sum.elim (fun v4 => some ((true, ()), ())) some r5
noncomputable def c22 : Con := ⟨i22, o22, F22⟩
noncomputable def C22 : Ctx := ⟨26, TT, EE, fun n => none, fun n k => [], fun n => (bif Nat.beq n 0 then (some ⟨[(.t 13 (.int .i64) .sh)], [4, 5, 14, 15, 16, 17, 18, 19, 20, 21, 22, 23, 24, 25], []⟩) else none), fun n => none⟩
theorem q22 : ∀ x, runF C22 Try.f22 i22 o22 x = F22 x := by intro x; kernel_rfl
def i7 : List Grp := [⟨.agg, (.cons (.int .i64) (.cons (.sl e134) (.cons (.sl e9) (.cons (.sl e64) (.cons (.sl e104) (.cons (.sl e106) (.cons (.sl e111) .nil))))))), []⟩]
def o7 : List Grp := [⟨.c, (.cons .bool .nil), []⟩]
/-- impl.Prefix -/
noncomputable def F7.b1 (v1 : (Int × Unit)) (x0 : GD i7) (x2 : Tys.D e64) : (v3 : (Int × Unit)) → Option (Sum (Int × Unit) (Sum (Int × Unit) (Sum (Int × Unit) (Sum (Int × Unit) (GD o7))))) := fun v3 => bif iLt v3.1 (List.length (List.take ((Int.toNat v1.1) - 0) (List.drop 0 x0.1.2.2.2.1)) : Int) then (getI (List.take ((Int.toNat v1.1) - 0) (List.drop 0 x0.1.2.2.2.1)) v3.1).bind fun x4 => bif cutHi (iMin (List.length x2.2.2.2.2.2.2.2.2.2.2.2.2.2.2.2.2.2.1 : Int) (List.length x4.2.2.2.2.2.2.2.2.2.2.2.2.2.2.2.2.2.1 : Int)) (List.length x2.2.2.2.2.2.2.2.2.2.2.2.2.2.2.2.2.2.1) then bif cutHi (iMin (List.length x2.2.2.2.2.2.2.2.2.2.2.2.2.2.2.2.2.2.1 : Int) (List.length x4.2.2.2.2.2.2.2.2.2.2.2.2.2.2.2.2.2.1 : Int)) (List.length x4.2.2.2.2.2.2.2.2.2.2.2.2.2.2.2.2.2.1) then (F22 ((List.take ((Int.toNat (iMin (List.length x2.2.2.2.2.2.2.2.2.2.2.2.2.2.2.2.2.2.1 : Int) (List.length x4.2.2.2.2.2.2.2.2.2.2.2.2.2.2.2.2.2.1 : Int))) - 0) (List.drop 0 x2.2.2.2.2.2.2.2.2.2.2.2.2.2.2.2.2.2.1), ()), ((List.take ((Int.toNat (iMin (List.length x2.2.2.2.2.2.2.2.2.2.2.2.2.2.2.2.2.2.1 : Int) (List.length x4.2.2.2.2.2.2.2.2.2.2.2.2.2.2.2.2.2.1 : Int))) - 0) (List.drop 0 x4.2.2.2.2.2.2.2.2.2.2.2.2.2.2.2.2.2.1), ()), ()))).bind fun y5 => bif (!y5.1.1) then some (.inr (.inr (.inr (.inr ((false, ()), ()))))) else some (.inl (iAdd .i64 v3.1 (1:Int), ())) else none else none else some (.inr (.inl (v3.1, ())))
noncomputable def F7.b0 (x0 : GD i7) : (v1 : (Int × Unit)) → Option (Sum (Int × Unit) (Sum (Int × Unit) (GD o7))) := fun v1 => bif iLt v1.1 (List.length x0.1.2.2.2.1 : Int) then (getI x0.1.2.2.2.1 v1.1).bind fun x2 => bif cutHi v1.1 (List.length x0.1.2.2.2.1) then (loopF (F7.b1 v1 x0 x2) ((0:Int), ())).bind fun r7 => Sum.elim (fun v6 => some (.inl (iAdd .i64 v1.1 (1:Int), ()))) some r7 else none else some (.inr (.inl (v1.1, ())))
noncomputable def F7 : GD i7 → Option (GD o7) := fun x0 => (loopF (F7.b0 x0) ((0:Int), ())).bind fun r9 => Sum.elim (fun v8 => some ((true, ()), ())) some r9
noncomputable def c7 : Con := ⟨i7, o7, F7⟩
noncomputable def C7 : Ctx := ⟨44, TT, EE, fun n => (bif Nat.beq n 22 then some c22 else none), fun n k => [], fun n => (bif Nat.ble n 0 then (bif Nat.beq n 0 then (some ⟨[(.t 11 (.int .i64) .sh)], [2, 3, 4, 6, 7, 12, 13, 14, 15, 16, 17, 18, 19, 20, 21, 22, 23, 24, 25, 26, 27, 28, 29, 30, 31, 32, 33, 34, 35, 36, 37, 38, 39, 40, 41, 42, 43], []⟩) else none) else (bif Nat.beq n 2 then (some ⟨[(.t 21 (.int .i64) .sh)], [2, 6, 7, 22, 23, 24, 25, 26, 27, 28, 29, 30, 31, 32, 33, 34, 35, 36, 37, 38, 39, 40, 41, 42], []⟩) else none)), fun n => none⟩
theorem q7 : ∀ x, runF C7 Try.f7 i7 o7 x = F7 x := by intro x; kernel_rfl
def i90 : List Grp := [⟨.agg, (.cons (.int .i64) (.cons (.int .i64) .nil)), []⟩, ⟨.agg, (.cons (.int .i64) (.cons (.int .i64) .nil)), []⟩]
def o90 : List Grp := [⟨.c, (.cons .bool .nil), []⟩]
/-- laws.eqLeave -/
noncomputable def F90 : GD i90 → Option (GD o90) := fun x0 => bif !iEq x0.1.1 x0.2.1.1 then some ((false, ()), ()) else bif !iEq x0.1.2.1 x0.2.1.2.1 then some ((false, ()), ()) else some ((true, ()), ())
noncomputable def c90 : Con := ⟨i90, o90, F90⟩
noncomputable def C90 : Ctx := ⟨15, TT, EE, fun n => none, fun n k => [], fun n => none, fun n => none⟩
theorem q90 : ∀ x, runF C90 Try.f90 i90 o90 x = F90 x := by intro x; kernel_rfl
def i85 : List Grp := [⟨.c, (.cons (.sl e179) .nil), []⟩, ⟨.c, (.cons (.sl e179) .nil), []⟩]
def o85 : List Grp := [⟨.c, (.cons .bool .nil), []⟩]
/-- laws.eqLeaveS -/
noncomputable def F85.b0 (x0 : GD i85) : (v1 : (Int × Unit)) → Option (Sum (Int × Unit) (Sum (Int × Unit) (GD o85))) := fun v1 => bif iLt v1.1 (List.length x0.1.1 : Int) then (getI x0.1.1 v1.1).bind fun x2 => (getI x0.2.1.1 v1.1).bind fun x3 => (F90 (x2, (x3, ()))).bind fun y4 => bif (!y4.1.1) then some (.inr (.inr ((false, ()), ()))) else some (.inl (iAdd .i64 v1.1 (1:Int), ())) else some (.inr (.inl (v1.1, ())))
noncomputable def F85 : GD i85 → Option (GD o85) := fun x0 => bif !iEq (List.length x0.1.1 : Int) (List.length x0.2.1.1 : Int) then some ((false, ()), ()) else (loopF (F85.b0 x0) ((0:Int), ())).bind fun r6 => Sum.elim (fun v5 => some ((true, ()), ())) some r6
noncomputable def c85 : Con := ⟨i85, o85, F85⟩
noncomputable def C85 : Ctx := ⟨27, TT, EE, fun n => (bif Nat.beq n 90 then some c90 else none), fun n k => [], fun n => (bif Nat.beq n 0 then (some ⟨[(.t 5 (.int .i64) .sh)], [4, 11, 12, 13, 14, 15, 16, 17, 18, 19, 20, 21, 22, 23, 24, 25, 26], []⟩) else none), fun n => none⟩
theorem q85 : ∀ x, runF C85 Try.f85 i85 o85 x = F85 x := by intro x; kernel_rfl
def i66 : List Grp := [⟨.agg, (.cons .str (.cons (.int .i64) (.cons (.int .i64) (.cons (.int .i64) (.cons (.sl e179) .nil))))), []⟩, ⟨.agg, (.cons .str (.cons (.int .i64) (.cons (.int .i64) (.cons (.int .i64) (.cons (.sl e179) .nil))))), []⟩]
def o66 : List Grp := [⟨.c, (.cons .bool .nil), []⟩]
/-- laws.eqAcct -/
noncomputable def F66 : GD i66 → Option (GD o66) := fun x0 => bif !sEq x0.1.1 x0.2.1.1 then some ((false, ()), ()) else bif !iEq x0.1.2.1 x0.2.1.2.1 then some ((false, ()), ()) else bif !iEq x0.1.2.2.1 x0.2.1.2.2.1 then some ((false, ()), ()) else bif !iEq x0.1.2.2.2.1 x0.2.1.2.2.2.1 then some ((false, ()), ()) else (F85 ((x0.1.2.2.2.2.1, ()), ((x0.2.1.2.2.2.2.1, ()), ()))).bind fun y1 => bif (!y1.1.1) then some ((false, ()), ()) else some ((true, ()), ())
noncomputable def c66 : Con := ⟨i66, o66, F66⟩
noncomputable def C66 : Ctx := ⟨31, TT, EE, fun n => (bif Nat.beq n 85 then some c85 else none), fun n k => [], fun n => none, fun n => none⟩
theorem q66 : ∀ x, runF C66 Try.f66 i66 o66 x = F66 x := by intro x; kernel_rfl
def i39 : List Grp := [⟨.c, (.cons (.sl e134) .nil), []⟩, ⟨.c, (.cons (.sl e134) .nil), []⟩]
def o39 : List Grp := [⟨.c, (.cons .bool .nil), []⟩]
/-- laws.eqAcctS -/
noncomputable def F39.b0 (x0 : GD i39) : (v1 : (Int × Unit)) → Option (Sum (Int × Unit) (Sum (Int × Unit) (GD o39))) := fun v1 => bif iLt v1.1 (List.length x0.1.1 : Int) then (getI x0.1.1 v1.1).bind fun x2 => (getI x0.2.1.1 v1.1).bind fun x3 => (F66 (x2, (x3, ()))).bind fun y4 => bif (!y4.1.1) then some (.inr (.inr ((false, ()), ()))) else some (.inl (iAdd .i64 v1.1 (1:Int), ())) else some (.inr (.inl (v1.1, ())))
noncomputable def F39 : GD i39 → Option (GD o39) := fun x0 => bif !iEq (List.length x0.1.1 : Int) (List.length x0.2.1.1 : Int) then some ((false, ()), ()) else (loopF (F39.b0 x0) ((0:Int), ())).bind fun r6 => Sum.elim (fun v5 => some ((true, ()), ())) some r6
noncomputable def c39 : Con := ⟨i39, o39, F39⟩
noncomputable def C39 : Ctx := ⟨27, TT, EE, fun n => (bif Nat.beq n 66 then some c66 else none), fun n k => [], fun n => (bif Nat.beq n 0 then (some ⟨[(.t 5 (.int .i64) .sh)], [4, 11, 12, 13, 14, 15, 16, 17, 18, 19, 20, 21, 22, 23, 24, 25, 26], []⟩) else none), fun n => none⟩
theorem q39 : ∀ x, runF C39 Try.f39 i39 o39 x = F39 x := by intro x; kernel_rfl
def i23 : List Grp := [⟨.agg, (.cons (.int .i64) (.cons (.sl e134) .nil)), []⟩, ⟨.agg, (.cons (.int .i64) (.cons (.sl e134) .nil)), []⟩]
def o23 : List Grp := [⟨.c, (.cons .bool .nil), []⟩]
/-- laws.eqLedger -/
noncomputable def F23 : GD i23 → Option (GD o23) := fun x0 => bif !iEq x0.1.1 x0.2.1.1 then some ((false, ()), ()) else (F39 ((x0.1.2.1, ()), ((x0.2.1.2.1, ()), ()))).bind fun y1 => bif (!y1.1.1) then some ((false, ()), ()) else some ((true, ()), ())
noncomputable def c23 : Con := ⟨i23, o23, F23⟩
noncomputable def C23 : Ctx := ⟨16, TT, EE, fun n => (bif Nat.beq n 39 then some c39 else none), fun n k => [], fun n => none, fun n => none⟩
theorem q23 : ∀ x, runF C23 Try.f23 i23 o23 x = F23 x := by intro x; kernel_rfl
def i24 : List Grp := [⟨.c, (.cons (.sl e9) .nil), []⟩, ⟨.c, (.cons (.sl e9) .nil), []⟩]
def o24 : List Grp := [⟨.c, (.cons .bool .nil), []⟩]
/-- laws.eqStringS -/
noncomputable def F24.b0 (x0 : GD i24) : (v1 : (Int × Unit)) → Option (Sum (Int × Unit) (Sum (Int × Unit) (GD o24))) := fun v1 => bif iLt v1.1 (List.length x0.1.1 : Int) then (getI x0.1.1 v1.1).bind fun x2 => (getI x0.2.1.1 v1.1).bind fun x3 => bif !sEq x2.1 x3.1 then some (.inr (.inr ((false, ()), ()))) else some (.inl (iAdd .i64 v1.1 (1:Int), ())) else some (.inr (.inl (v1.1, ())))
noncomputable def F24 : GD i24 → Option (GD o24) := fun x0 => bif !iEq (List.length x0.1.1 : Int) (List.length x0.2.1.1 : Int) then some ((false, ()), ()) else (loopF (F24.b0 x0) ((0:Int), ())).bind fun r5 => Sum.elim (fun v4 => some ((true, ()), ())) some r5
noncomputable def c24 : Con := ⟨i24, o24, F24⟩
noncomputable def C24 : Ctx := ⟨26, TT, EE, fun n => none, fun n k => [], fun n => (bif Nat.beq n 0 then (some ⟨[(.t 5 (.int .i64) .sh)], [4, 11, 12, 13, 14, 15, 16, 17, 18, 19, 20, 21, 22, 23, 24, 25], []⟩) else none), fun n => none⟩
theorem q24 : ∀ x, runF C24 Try.f24 i24 o24 x = F24 x := by intro x; kernel_rfl
def i86 : List Grp := [⟨.agg, (.cons .str (.cons (.int .i64) .nil)), []⟩, ⟨.agg, (.cons .str (.cons (.int .i64) .nil)), []⟩]
def o86 : List Grp := [⟨.c, (.cons .bool .nil), []⟩]
/-- laws.eqVal -/
noncomputable def F86 : GD i86 → Option (GD o86) := fun x0 => bif !sEq x0.1.1 x0.2.1.1 then some ((false, ()), ()) else bif !iEq x0.1.2.1 x0.2.1.2.1 then some ((false, ()), ()) else some ((true, ()), ())
noncomputable def c86 : Con := ⟨i86, o86, F86⟩
noncomputable def C86 : Ctx := ⟨15, TT, EE, fun n => none, fun n k => [], fun n => none, fun n => none⟩
theorem q86 : ∀ x, runF C86 Try.f86 i86 o86 x = F86 x := by intro x; kernel_rfl
def i67 : List Grp := [⟨.c, (.cons (.sl e167) .nil), []⟩, ⟨.c, (.cons (.sl e167) .nil), []⟩]
def o67 : List Grp := [⟨.c, (.cons .bool .nil), []⟩]
/-- laws.eqValS -/
noncomputable def F67.b0 (x0 : GD i67) : (v1 : (Int × Unit)) → Option (Sum (Int × Unit) (Sum (Int × Unit) (GD o67))) := fun v1 => bif iLt v1.1 (List.length x0.1.1 : Int) then (getI x0.1.1 v1.1).bind fun x2 => (getI x0.2.1.1 v1.1).bind fun x3 => (F86 (x2, (x3, ()))).bind fun y4 => bif (!y4.1.1) then some (.inr (.inr ((false, ()), ()))) else some (.inl (iAdd .i64 v1.1 (1:Int), ())) else some (.inr (.inl (v1.1, ())))
noncomputable def F67 : GD i67 → Option (GD o67) := fun x0 => bif !iEq (List.length x0.1.1 : Int) (List.length x0.2.1.1 : Int) then some ((false, ()), ()) else (loopF (F67.b0 x0) ((0:Int), ())).bind fun r6 => Sum.elim (fun v5 => some ((true, ()), ())) some r6
noncomputable def c67 : Con := ⟨i67, o67, F67⟩
noncomputable def C67 : Ctx := ⟨27, TT, EE, fun n => (bif Nat.beq n 86 then some c86 else none), fun n k => [], fun n => (bif Nat.beq n 0 then (some ⟨[(.t 5 (.int .i64) .sh)], [4, 11, 12, 13, 14, 15, 16, 17, 18, 19, 20, 21, 22, 23, 24, 25, 26], []⟩) else none), fun n => none⟩
theorem q67 : ∀ x, runF C67 Try.f67 i67 o67 x = F67 x := by intro x; kernel_rfl
def i68 : List Grp := [⟨.agg, (.cons (.int .i64) (.cons (.int .i64) (.cons (.sl e9) .nil))), []⟩, ⟨.agg, (.cons (.int .i64) (.cons (.int .i64) (.cons (.sl e9) .nil))), []⟩]
def o68 : List Grp := [⟨.c, (.cons .bool .nil), []⟩]
/-- laws.eqQc -/
noncomputable def F68 : GD i68 → Option (GD o68) := fun x0 => bif !iEq x0.1.1 x0.2.1.1 then some ((false, ()), ()) else bif !iEq x0.1.2.1 x0.2.1.2.1 then some ((false, ()), ()) else (F24 ((x0.1.2.2.1, ()), ((x0.2.1.2.2.1, ()), ()))).bind fun y1 => bif (!y1.1.1) then some ((false, ()), ()) else some ((true, ()), ())
noncomputable def c68 : Con := ⟨i68, o68, F68⟩
noncomputable def C68 : Ctx := ⟨21, TT, EE, fun n => (bif Nat.beq n 24 then some c24 else none), fun n k => [], fun n => none, fun n => none⟩
theorem q68 : ∀ x, runF C68 Try.f68 i68 o68 x = F68 x := by intro x; kernel_rfl
def i72 : List Grp := [⟨.c, (.cons (.sl e3) .nil), []⟩, ⟨.c, (.cons (.sl e3) .nil), []⟩]
def o72 : List Grp := [⟨.c, (.cons .bool .nil), []⟩]
/-- laws.eqIntS -/
noncomputable def F72.b0 (x0 : GD i72) : (v1 : (Int × Unit)) → Option (Sum (Int × Unit) (Sum (Int × Unit) (GD o72))) := fun v1 => bif iLt v1.1 (List.length x0.1.1 : Int) then (getI x0.1.1 v1.1).bind fun x2 => (getI x0.2.1.1 v1.1).bind fun x3 => bif !iEq x2.1 x3.1 then some (.inr (.inr ((false, ()), ()))) else some (.inl (iAdd .i64 v1.1 (1:Int), ())) else some (.inr (.inl (v1.1, ())))
noncomputable def F72 : GD i72 → Option (GD o72) := fun x0 => bif !iEq (List.length x0.1.1 : Int) (List.length x0.2.1.1 : Int) then some ((false, ()), ()) else (loopF (F72.b0 x0) ((0:Int), ())).bind fun r5 => Sum.elim (fun v4 => some ((true, ()), ())) some r5
noncomputable def c72 : Con := ⟨i72, o72, F72⟩
noncomputable def C72 : Ctx := ⟨26, TT, EE, fun n => none, fun n k => [], fun n => (bif Nat.beq n 0 then (some ⟨[(.t 5 (.int .i64) .sh)], [4, 11, 12, 13, 14, 15, 16, 17, 18, 19, 20, 21, 22, 23, 24, 25], []⟩) else none), fun n => none⟩
theorem q72 : ∀ x, runF C72 Try.f72 i72 o72 x = F72 x := by intro x; kernel_rfl
def i69 : List Grp := [⟨.agg, (.cons (.int .i64) (.cons (.sl e9) (.cons (.sl e3) .nil))), []⟩, ⟨.agg, (.cons (.int .i64) (.cons (.sl e9) (.cons (.sl e3) .nil))), []⟩]
def o69 : List Grp := [⟨.c, (.cons .bool .nil), []⟩]
/-- laws.eqTc -/
noncomputable def F69 : GD i69 → Option (GD o69) := fun x0 => bif !iEq x0.1.1 x0.2.1.1 then some ((false, ()), ()) else (F24 ((x0.1.2.1, ()), ((x0.2.1.2.1, ()), ()))).bind fun y1 => bif (!y1.1.1) then some ((false, ()), ()) else (F72 ((x0.1.2.2.1, ()), ((x0.2.1.2.2.1, ()), ()))).bind fun y2 => bif (!y2.1.1) then some ((false, ()), ()) else some ((true, ()), ())
noncomputable def c69 : Con := ⟨i69, o69, F69⟩
noncomputable def C69 : Ctx := ⟨22, TT, EE, fun n => (bif Nat.ble n 24 then (bif Nat.beq n 24 then some c24 else none) else (bif Nat.beq n 72 then some c72 else none)), fun n k => [], fun n => none, fun n => none⟩
theorem q69 : ∀ x, runF C69 Try.f69 i69 o69 x = F69 x := by intro x; kernel_rfl
def i87 : List Grp := [⟨.agg, (.cons (.int .i64) (.cons .str (.cons .str (.cons (.int .i64) (.cons (.int .i64) .nil))))), []⟩, ⟨.agg, (.cons (.int .i64) (.cons .str (.cons .str (.cons (.int .i64) (.cons (.int .i64) .nil))))), []⟩]
def o87 : List Grp := [⟨.c, (.cons .bool .nil), []⟩]
/-- laws.eqTx -/
noncomputable def F87 : GD i87 → Option (GD o87) := fun x0 => bif !iEq x0.1.1 x0.2.1.1 then some ((false, ()), ()) else bif !sEq x0.1.2.1 x0.2.1.2.1 then some ((false, ()), ()) else bif !sEq x0.1.2.2.1 x0.2.1.2.2.1 then some ((false, ()), ()) else bif !iEq x0.1.2.2.2.1 x0.2.1.2.2.2.1 then some ((false, ()), ()) else bif !iEq x0.1.2.2.2.2.1 x0.2.1.2.2.2.2.1 then some ((false, ()), ()) else some ((true, ()), ())
noncomputable def c87 : Con := ⟨i87, o87, F87⟩
noncomputable def C87 : Ctx := ⟨30, TT, EE, fun n => none, fun n k => [], fun n => none, fun n => none⟩
theorem q87 : ∀ x, runF C87 Try.f87 i87 o87 x = F87 x := by intro x; kernel_rfl
def i73 : List Grp := [⟨.c, (.cons (.sl e169) .nil), []⟩, ⟨.c, (.cons (.sl e169) .nil), []⟩]
def o73 : List Grp := [⟨.c, (.cons .bool .nil), []⟩]
/-- laws.eqTxS -/
noncomputable def F73.b0 (x0 : GD i73) : (v1 : (Int × Unit)) → Option (Sum (Int × Unit) (Sum (Int × Unit) (GD o73))) := fun v1 => bif iLt v1.1 (List.length x0.1.1 : Int) then (getI x0.1.1 v1.1).bind fun x2 => (getI x0.2.1.1 v1.1).bind fun x3 => (F87 (x2, (x3, ()))).bind fun y4 => bif (!y4.1.1) then some (.inr (.inr ((false, ()), ()))) else some (.inl (iAdd .i64 v1.1 (1:Int), ())) else some (.inr (.inl (v1.1, ())))
noncomputable def F73 : GD i73 → Option (GD o73) := fun x0 => bif !iEq (List.length x0.1.1 : Int) (List.length x0.2.1.1 : Int) then some ((false, ()), ()) else (loopF (F73.b0 x0) ((0:Int), ())).bind fun r6 => Sum.elim (fun v5 => some ((true, ()), ())) some r6
noncomputable def c73 : Con := ⟨i73, o73, F73⟩
noncomputable def C73 : Ctx := ⟨27, TT, EE, fun n => (bif Nat.beq n 87 then some c87 else none), fun n k => [], fun n => (bif Nat.beq n 0 then (some ⟨[(.t 5 (.int .i64) .sh)], [4, 11, 12, 13, 14, 15, 16, 17, 18, 19, 20, 21, 22, 23, 24, 25, 26], []⟩) else none), fun n => none⟩
theorem q73 : ∀ x, runF C73 Try.f73 i73 o73 x = F73 x := by intro x; kernel_rfl
def i41 : List Grp := [⟨.agg, (.cons (.int .i64) (.cons (.int .i64) (.cons (.int .i64) (.cons .str (.cons (.int .i64) (.cons (.int .i64) (.cons (.sl e9) (.cons (.int .i64) (.cons (.sl e9) (.cons (.sl e3) (.cons (.sl e169) (.cons .bool (.cons (.sl e167) (.cons .str .nil)))))))))))))), []⟩, ⟨.agg, (.cons (.int .i64) (.cons (.int .i64) (.cons (.int .i64) (.cons .str (.cons (.int .i64) (.cons (.int .i64) (.cons (.sl e9) (.cons (.int .i64) (.cons (.sl e9) (.cons (.sl e3) (.cons (.sl e169) (.cons .bool (.cons (.sl e167) (.cons .str .nil)))))))))))))), []⟩]
def o41 : List Grp := [⟨.c, (.cons .bool .nil), []⟩]
/-- laws.eqBlock -/
noncomputable def F41 : GD i41 → Option (GD o41) := fun x0 => bif !iEq x0.1.1 x0.2.1.1 then some ((false, ()), ()) else bif !iEq x0.1.2.1 x0.2.1.2.1 then some ((false, ()), ()) else bif !iEq x0.1.2.2.1 x0.2.1.2.2.1 then some ((false, ()), ()) else bif !sEq x0.1.2.2.2.1 x0.2.1.2.2.2.1 then some ((false, ()), ()) else (F68 ((x0.1.2.2.2.2.1, (x0.1.2.2.2.2.2.1, (x0.1.2.2.2.2.2.2.1, ()))), ((x0.2.1.2.2.2.2.1, (x0.2.1.2.2.2.2.2.1, (x0.2.1.2.2.2.2.2.2.1, ()))), ()))).bind fun y1 => bif (!y1.1.1) then some ((false, ()), ()) else (F69 ((x0.1.2.2.2.2.2.2.2.1, (x0.1.2.2.2.2.2.2.2.2.1, (x0.1.2.2.2.2.2.2.2.2.2.1, ()))), ((x0.2.1.2.2.2.2.2.2.2.1, (x0.2.1.2.2.2.2.2.2.2.2.1, (x0.2.1.2.2.2.2.2.2.2.2.2.1, ()))), ()))).bind fun y2 => bif (!y2.1.1) then some ((false, ()), ()) else (F73 ((x0.1.2.2.2.2.2.2.2.2.2.2.1, ()), ((x0.2.1.2.2.2.2.2.2.2.2.2.2.1, ()), ()))).bind fun y3 => bif (!y3.1.1) then some ((false, ()), ()) else bif !bEq x0.1.2.2.2.2.2.2.2.2.2.2.2.1 x0.2.1.2.2.2.2.2.2.2.2.2.2.2.1 then some ((false, ()), ()) else (F67 ((x0.1.2.2.2.2.2.2.2.2.2.2.2.2.1, ()), ((x0.2.1.2.2.2.2.2.2.2.2.2.2.2.2.1, ()), ()))).bind fun y4 => bif (!y4.1.1) then some ((false, ()), ()) else bif !sEq x0.1.2.2.2.2.2.2.2.2.2.2.2.2.2.1 x0.2.1.2.2.2.2.2.2.2.2.2.2.2.2.2.1 then some ((false, ()), ()) else some ((true, ()), ())
noncomputable def c41 : Con := ⟨i41, o41, F41⟩
noncomputable def C41 : Ctx := ⟨59, TT, EE, fun n => (bif Nat.ble n 68 then (bif Nat.ble n 67 then (bif Nat.beq n 67 then some c67 else none) else (bif Nat.beq n 68 then some c68 else none)) else (bif Nat.ble n 69 then (bif Nat.beq n 69 then some c69 else none) else (bif Nat.beq n 73 then some c73 else none))), fun n k => [], fun n => none, fun n => none⟩
theorem q41 : ∀ x, runF C41 Try.f41 i41 o41 x = F41 x := by intro x; kernel_rfl
def i26 : List Grp := [⟨.c, (.cons (.sl e104) .nil), []⟩, ⟨.c, (.cons (.sl e104) .nil), []⟩]
def o26 : List Grp := [⟨.c, (.cons .bool .nil), []⟩]
/-- laws.eqBlockS -/
noncomputable def F26.b0 (x0 : GD i26) : (v1 : (Int × Unit)) → Option (Sum (Int × Unit) (Sum (Int × Unit) (GD o26))) := fun v1 => bif iLt v1.1 (List.length x0.1.1 : Int) then (getI x0.1.1 v1.1).bind fun x2 => (getI x0.2.1.1 v1.1).bind fun x3 => (F41 (x2, (x3, ()))).bind fun y4 => bif (!y4.1.1) then some (.inr (.inr ((false, ()), ()))) else some (.inl (iAdd .i64 v1.1 (1:Int), ())) else some (.inr (.inl (v1.1, ())))
noncomputable def F26 : GD i26 → Option (GD o26) := fun x0 => bif !iEq (List.length x0.1.1 : Int) (List.length x0.2.1.1 : Int) then some ((false, ()), ()) else (loopF (F26.b0 x0) ((0:Int), ())).bind fun r6 => Sum.elim (fun v5 => some ((true, ()), ())) some r6
noncomputable def c26 : Con := ⟨i26, o26, F26⟩
noncomputable def C26 : Ctx := ⟨27, TT, EE, fun n => (bif Nat.beq n 41 then some c41 else none), fun n k => [], fun n => (bif Nat.beq n 0 then (some ⟨[(.t 5 (.int .i64) .sh)], [4, 11, 12, 13, 14, 15, 16, 17, 18, 19, 20, 21, 22, 23, 24, 25, 26], []⟩) else none), fun n => none⟩
theorem q26 : ∀ x, runF C26 Try.f26 i26 o26 x = F26 x := by intro x; kernel_rfl
def i75 : List Grp := [⟨.agg, (.cons (.int .i64) (.cons (.int .i64) (.cons .str .nil))), []⟩, ⟨.agg, (.cons (.int .i64) (.cons (.int .i64) (.cons .str .nil))), []⟩]
def o75 : List Grp := [⟨.c, (.cons .bool .nil), []⟩]
/-- laws.eqVote -/
noncomputable def F75 : GD i75 → Option (GD o75) := fun x0 => bif !iEq x0.1.1 x0.2.1.1 then some ((false, ()), ()) else bif !iEq x0.1.2.1 x0.2.1.2.1 then some ((false, ()), ()) else bif !sEq x0.1.2.2.1 x0.2.1.2.2.1 then some ((false, ()), ()) else some ((true, ()), ())
noncomputable def c75 : Con := ⟨i75, o75, F75⟩
noncomputable def C75 : Ctx := ⟨20, TT, EE, fun n => none, fun n k => [], fun n => none, fun n => none⟩
theorem q75 : ∀ x, runF C75 Try.f75 i75 o75 x = F75 x := by intro x; kernel_rfl
def i70 : List Grp := [⟨.c, (.cons (.sl e108) .nil), []⟩, ⟨.c, (.cons (.sl e108) .nil), []⟩]
def o70 : List Grp := [⟨.c, (.cons .bool .nil), []⟩]
/-- laws.eqVoteS -/
noncomputable def F70.b0 (x0 : GD i70) : (v1 : (Int × Unit)) → Option (Sum (Int × Unit) (Sum (Int × Unit) (GD o70))) := fun v1 => bif iLt v1.1 (List.length x0.1.1 : Int) then (getI x0.1.1 v1.1).bind fun x2 => (getI x0.2.1.1 v1.1).bind fun x3 => (F75 (x2, (x3, ()))).bind fun y4 => bif (!y4.1.1) then some (.inr (.inr ((false, ()), ()))) else some (.inl (iAdd .i64 v1.1 (1:Int), ())) else some (.inr (.inl (v1.1, ())))
noncomputable def F70 : GD i70 → Option (GD o70) := fun x0 => bif !iEq (List.length x0.1.1 : Int) (List.length x0.2.1.1 : Int) then some ((false, ()), ()) else (loopF (F70.b0 x0) ((0:Int), ())).bind fun r6 => Sum.elim (fun v5 => some ((true, ()), ())) some r6
noncomputable def c70 : Con := ⟨i70, o70, F70⟩
noncomputable def C70 : Ctx := ⟨27, TT, EE, fun n => (bif Nat.beq n 75 then some c75 else none), fun n k => [], fun n => (bif Nat.beq n 0 then (some ⟨[(.t 5 (.int .i64) .sh)], [4, 11, 12, 13, 14, 15, 16, 17, 18, 19, 20, 21, 22, 23, 24, 25, 26], []⟩) else none), fun n => none⟩
theorem q70 : ∀ x, runF C70 Try.f70 i70 o70 x = F70 x := by intro x; kernel_rfl
def i76 : List Grp := [⟨.agg, (.cons (.int .i64) (.cons (.int .i64) (.cons .str .nil))), []⟩, ⟨.agg, (.cons (.int .i64) (.cons (.int .i64) (.cons .str .nil))), []⟩]
def o76 : List Grp := [⟨.c, (.cons .bool .nil), []⟩]
/-- laws.eqGone -/
noncomputable def F76 : GD i76 → Option (GD o76) := fun x0 => bif !iEq x0.1.1 x0.2.1.1 then some ((false, ()), ()) else bif !iEq x0.1.2.1 x0.2.1.2.1 then some ((false, ()), ()) else bif !sEq x0.1.2.2.1 x0.2.1.2.2.1 then some ((false, ()), ()) else some ((true, ()), ())
noncomputable def c76 : Con := ⟨i76, o76, F76⟩
noncomputable def C76 : Ctx := ⟨20, TT, EE, fun n => none, fun n k => [], fun n => none, fun n => none⟩
theorem q76 : ∀ x, runF C76 Try.f76 i76 o76 x = F76 x := by intro x; kernel_rfl
def i71 : List Grp := [⟨.c, (.cons (.sl e109) .nil), []⟩, ⟨.c, (.cons (.sl e109) .nil), []⟩]
def o71 : List Grp := [⟨.c, (.cons .bool .nil), []⟩]
/-- laws.eqGoneS -/
noncomputable def F71.b0 (x0 : GD i71) : (v1 : (Int × Unit)) → Option (Sum (Int × Unit) (Sum (Int × Unit) (GD o71))) := fun v1 => bif iLt v1.1 (List.length x0.1.1 : Int) then (getI x0.1.1 v1.1).bind fun x2 => (getI x0.2.1.1 v1.1).bind fun x3 => (F76 (x2, (x3, ()))).bind fun y4 => bif (!y4.1.1) then some (.inr (.inr ((false, ()), ()))) else some (.inl (iAdd .i64 v1.1 (1:Int), ())) else some (.inr (.inl (v1.1, ())))
noncomputable def F71 : GD i71 → Option (GD o71) := fun x0 => bif !iEq (List.length x0.1.1 : Int) (List.length x0.2.1.1 : Int) then some ((false, ()), ()) else (loopF (F71.b0 x0) ((0:Int), ())).bind fun r6 => Sum.elim (fun v5 => some ((true, ()), ())) some r6
noncomputable def c71 : Con := ⟨i71, o71, F71⟩
noncomputable def C71 : Ctx := ⟨27, TT, EE, fun n => (bif Nat.beq n 76 then some c76 else none), fun n k => [], fun n => (bif Nat.beq n 0 then (some ⟨[(.t 5 (.int .i64) .sh)], [4, 11, 12, 13, 14, 15, 16, 17, 18, 19, 20, 21, 22, 23, 24, 25, 26], []⟩) else none), fun n => none⟩
theorem q71 : ∀ x, runF C71 Try.f71 i71 o71 x = F71 x := by intro x; kernel_rfl
def i88 : List Grp := [⟨.agg, (.cons (.int .i64) (.cons (.sl e104) (.cons (.int .i64) (.cons (.int .i64) (.cons (.sl e9) .nil))))), []⟩, ⟨.agg, (.cons (.int .i64) (.cons (.sl e104) (.cons (.int .i64) (.cons (.int .i64) (.cons (.sl e9) .nil))))), []⟩]
def o88 : List Grp := [⟨.c, (.cons .bool .nil), []⟩]
/-- laws.eqProof -/
noncomputable def F88 : GD i88 → Option (GD o88) := fun x0 => bif !iEq x0.1.1 x0.2.1.1 then some ((false, ()), ()) else (F26 ((x0.1.2.1, ()), ((x0.2.1.2.1, ()), ()))).bind fun y1 => bif (!y1.1.1) then some ((false, ()), ()) else (F68 ((x0.1.2.2.1, (x0.1.2.2.2.1, (x0.1.2.2.2.2.1, ()))), ((x0.2.1.2.2.1, (x0.2.1.2.2.2.1, (x0.2.1.2.2.2.2.1, ()))), ()))).bind fun y2 => bif (!y2.1.1) then some ((false, ()), ()) else some ((true, ()), ())
noncomputable def c88 : Con := ⟨i88, o88, F88⟩
noncomputable def C88 : Ctx := ⟨22, TT, EE, fun n => (bif Nat.ble n 26 then (bif Nat.beq n 26 then some c26 else none) else (bif Nat.beq n 68 then some c68 else none)), fun n k => [], fun n => none, fun n => none⟩
theorem q88 : ∀ x, runF C88 Try.f88 i88 o88 x = F88 x := by intro x; kernel_rfl
def i74 : List Grp := [⟨.c, (.cons (.sl e172) .nil), []⟩, ⟨.c, (.cons (.sl e172) .nil), []⟩]
def o74 : List Grp := [⟨.c, (.cons .bool .nil), []⟩]
/-- laws.eqProofS -/
noncomputable def F74.b0 (x0 : GD i74) : (v1 : (Int × Unit)) → Option (Sum (Int × Unit) (Sum (Int × Unit) (GD o74))) := fun v1 => bif iLt v1.1 (List.length x0.1.1 : Int) then (getI x0.1.1 v1.1).bind fun x2 => (getI x0.2.1.1 v1.1).bind fun x3 => (F88 (x2, (x3, ()))).bind fun y4 => bif (!y4.1.1) then some (.inr (.inr ((false, ()), ()))) else some (.inl (iAdd .i64 v1.1 (1:Int), ())) else some (.inr (.inl (v1.1, ())))
noncomputable def F74 : GD i74 → Option (GD o74) := fun x0 => bif !iEq (List.length x0.1.1 : Int) (List.length x0.2.1.1 : Int) then some ((false, ()), ()) else (loopF (F74.b0 x0) ((0:Int), ())).bind fun r6 => Sum.elim (fun v5 => some ((true, ()), ())) some r6
noncomputable def c74 : Con := ⟨i74, o74, F74⟩
noncomputable def C74 : Ctx := ⟨27, TT, EE, fun n => (bif Nat.beq n 88 then some c88 else none), fun n k => [], fun n => (bif Nat.beq n 0 then (some ⟨[(.t 5 (.int .i64) .sh)], [4, 11, 12, 13, 14, 15, 16, 17, 18, 19, 20, 21, 22, 23, 24, 25, 26], []⟩) else none), fun n => none⟩
theorem q74 : ∀ x, runF C74 Try.f74 i74 o74 x = F74 x := by intro x; kernel_rfl
def i40 : List Grp := [⟨.agg, (.cons .str (.cons (.int .i64) (.cons (.int .i64) (.cons (.sl e134) (.cons (.sl e167) (.cons (.sl e104) (.cons (.int .i64) (.cons (.int .i64) (.cons (.int .i64) (.cons (.int .i64) (.cons (.sl e9) (.cons (.int .i64) (.cons (.sl e9) (.cons (.sl e3) (.cons (.int .i64) (.cons (.sl e108) (.cons (.sl e109) (.cons (.sl e3) (.cons (.sl e169) (.cons (.sl e172) .nil)))))))))))))))))))), []⟩, ⟨.agg, (.cons .str (.cons (.int .i64) (.cons (.int .i64) (.cons (.sl e134) (.cons (.sl e167) (.cons (.sl e104) (.cons (.int .i64) (.cons (.int .i64) (.cons (.int .i64) (.cons (.int .i64) (.cons (.sl e9) (.cons (.int .i64) (.cons (.sl e9) (.cons (.sl e3) (.cons (.int .i64) (.cons (.sl e108) (.cons (.sl e109) (.cons (.sl e3) (.cons (.sl e169) (.cons (.sl e172) .nil)))))))))))))))))))), []⟩]
def o40 : List Grp := [⟨.c, (.cons .bool .nil), []⟩]
/-- laws.eqNode -/
noncomputable def F40 : GD i40 → Option (GD o40) := fun x0 => bif !sEq x0.1.1 x0.2.1.1 then some ((false, ()), ()) else bif !iEq x0.1.2.1 x0.2.1.2.1 then some ((false, ()), ()) else (F23 ((x0.1.2.2.1, (x0.1.2.2.2.1, ())), ((x0.2.1.2.2.1, (x0.2.1.2.2.2.1, ())), ()))).bind fun y1 => bif (!y1.1.1) then some ((false, ()), ()) else (F67 ((x0.1.2.2.2.2.1, ()), ((x0.2.1.2.2.2.2.1, ()), ()))).bind fun y2 => bif (!y2.1.1) then some ((false, ()), ()) else (F26 ((x0.1.2.2.2.2.2.1, ()), ((x0.2.1.2.2.2.2.2.1, ()), ()))).bind fun y3 => bif (!y3.1.1) then some ((false, ()), ()) else bif !iEq x0.1.2.2.2.2.2.2.1 x0.2.1.2.2.2.2.2.2.1 then some ((false, ()), ()) else bif !iEq x0.1.2.2.2.2.2.2.2.1 x0.2.1.2.2.2.2.2.2.2.1 then some ((false, ()), ()) else (F68 ((x0.1.2.2.2.2.2.2.2.2.1, (x0.1.2.2.2.2.2.2.2.2.2.1, (x0.1.2.2.2.2.2.2.2.2.2.2.1, ()))), ((x0.2.1.2.2.2.2.2.2.2.2.1, (x0.2.1.2.2.2.2.2.2.2.2.2.1, (x0.2.1.2.2.2.2.2.2.2.2.2.2.1, ()))), ()))).bind fun y4 => bif (!y4.1.1) then some ((false, ()), ()) else (F69 ((x0.1.2.2.2.2.2.2.2.2.2.2.2.1, (x0.1.2.2.2.2.2.2.2.2.2.2.2.2.1, (x0.1.2.2.2.2.2.2.2.2.2.2.2.2.2.1, ()))), ((x0.2.1.2.2.2.2.2.2.2.2.2.2.2.1, (x0.2.1.2.2.2.2.2.2.2.2.2.2.2.2.1, (x0.2.1.2.2.2.2.2.2.2.2.2.2.2.2.2.1, ()))), ()))).bind fun y5 => bif (!y5.1.1) then some ((false, ()), ()) else bif !iEq x0.1.2.2.2.2.2.2.2.2.2.2.2.2.2.2.1 x0.2.1.2.2.2.2.2.2.2.2.2.2.2.2.2.2.1 then some ((false, ()), ()) else (F70 ((x0.1.2.2.2.2.2.2.2.2.2.2.2.2.2.2.2.1, ()), ((x0.2.1.2.2.2.2.2.2.2.2.2.2.2.2.2.2.2.1, ()), ()))).bind fun y6 => bif (!y6.1.1) then some ((false, ()), ()) else (F71 ((x0.1.2.2.2.2.2.2.2.2.2.2.2.2.2.2.2.2.1, ()), ((x0.2.1.2.2.2.2.2.2.2.2.2.2.2.2.2.2.2.2.1, ()), ()))).bind fun y7 => bif (!y7.1.1) then some ((false, ()), ()) else (F72 ((x0.1.2.2.2.2.2.2.2.2.2.2.2.2.2.2.2.2.2.1, ()), ((x0.2.1.2.2.2.2.2.2.2.2.2.2.2.2.2.2.2.2.2.1, ()), ()))).bind fun y8 => bif (!y8.1.1) then some ((false, ()), ()) else (F73 ((x0.1.2.2.2.2.2.2.2.2.2.2.2.2.2.2.2.2.2.2.1, ()), ((x0.2.1.2.2.2.2.2.2.2.2.2.2.2.2.2.2.2.2.2.2.1, ()), ()))).bind fun y9 => bif (!y9.1.1) then some ((false, ()), ()) else (F74 ((x0.1.2.2.2.2.2.2.2.2.2.2.2.2.2.2.2.2.2.2.2.1, ()), ((x0.2.1.2.2.2.2.2.2.2.2.2.2.2.2.2.2.2.2.2.2.2.1, ()), ()))).bind fun y10 => bif (!y10.1.1) then some ((false, ()), ()) else some ((true, ()), ())
noncomputable def c40 : Con := ⟨i40, o40, F40⟩
noncomputable def C40 : Ctx := ⟨90, TT, EE, fun n => (bif Nat.ble n 69 then (bif Nat.ble n 26 then (bif Nat.ble n 23 then (bif Nat.beq n 23 then some c23 else none) else (bif Nat.beq n 26 then some c26 else none)) else (bif Nat.ble n 67 then (bif Nat.beq n 67 then some c67 else none) else (bif Nat.ble n 68 then (bif Nat.beq n 68 then some c68 else none) else (bif Nat.beq n 69 then some c69 else none)))) else (bif Nat.ble n 71 then (bif Nat.ble n 70 then (bif Nat.beq n 70 then some c70 else none) else (bif Nat.beq n 71 then some c71 else none)) else (bif Nat.ble n 72 then (bif Nat.beq n 72 then some c72 else none) else (bif Nat.ble n 73 then (bif Nat.beq n 73 then some c73 else none) else (bif Nat.beq n 74 then some c74 else none))))), fun n k => [], fun n => none, fun n => none⟩
theorem q40 : ∀ x, runF C40 Try.f40 i40 o40 x = F40 x := by intro x; kernel_rfl
def i25 : List Grp := [⟨.c, (.cons (.sl e64) .nil), []⟩, ⟨.c, (.cons (.sl e64) .nil), []⟩]
def o25 : List Grp := [⟨.c, (.cons .bool .nil), []⟩]
/-- laws.eqNodeS -/
noncomputable def F25.b0 (x0 : GD i25) : (v1 : (Int × Unit)) → Option (Sum (Int × Unit) (Sum (Int × Unit) (GD o25))) := fun v1 => bif iLt v1.1 (List.length x0.1.1 : Int) then (getI x0.1.1 v1.1).bind fun x2 => (getI x0.2.1.1 v1.1).bind fun x3 => (F40 (x2, (x3, ()))).bind fun y4 => bif (!y4.1.1) then some (.inr (.inr ((false, ()), ()))) else some (.inl (iAdd .i64 v1.1 (1:Int), ())) else some (.inr (.inl (v1.1, ())))
noncomputable def F25 : GD i25 → Option (GD o25) := fun x0 => bif !iEq (List.length x0.1.1 : Int) (List.length x0.2.1.1 : Int) then some ((false, ()), ()) else (loopF (F25.b0 x0) ((0:Int), ())).bind fun r6 => Sum.elim (fun v5 => some ((true, ()), ())) some r6
noncomputable def c25 : Con := ⟨i25, o25, F25⟩
noncomputable def C25 : Ctx := ⟨27, TT, EE, fun n => (bif Nat.beq n 40 then some c40 else none), fun n k => [], fun n => (bif Nat.beq n 0 then (some ⟨[(.t 5 (.int .i64) .sh)], [4, 11, 12, 13, 14, 15, 16, 17, 18, 19, 20, 21, 22, 23, 24, 25, 26], []⟩) else none), fun n => none⟩
theorem q25 : ∀ x, runF C25 Try.f25 i25 o25 x = F25 x := by intro x; kernel_rfl
def i42 : List Grp := [⟨.agg, (.cons (.int .i64) (.cons (.int .i64) (.cons (.int .i64) (.cons (.int .i64) (.cons .str .nil))))), []⟩, ⟨.agg, (.cons (.int .i64) (.cons (.int .i64) (.cons (.int .i64) (.cons (.int .i64) (.cons .str .nil))))), []⟩]
def o42 : List Grp := [⟨.c, (.cons .bool .nil), []⟩]
/-- laws.eqSig -/
noncomputable def F42 : GD i42 → Option (GD o42) := fun x0 => bif !iEq x0.1.1 x0.2.1.1 then some ((false, ()), ()) else bif !iEq x0.1.2.1 x0.2.1.2.1 then some ((false, ()), ()) else bif !iEq x0.1.2.2.1 x0.2.1.2.2.1 then some ((false, ()), ()) else bif !iEq x0.1.2.2.2.1 x0.2.1.2.2.2.1 then some ((false, ()), ()) else bif !sEq x0.1.2.2.2.2.1 x0.2.1.2.2.2.2.1 then some ((false, ()), ()) else some ((true, ()), ())
noncomputable def c42 : Con := ⟨i42, o42, F42⟩
noncomputable def C42 : Ctx := ⟨30, TT, EE, fun n => none, fun n k => [], fun n => none, fun n => none⟩
theorem q42 : ∀ x, runF C42 Try.f42 i42 o42 x = F42 x := by intro x; kernel_rfl
def i27 : List Grp := [⟨.c, (.cons (.sl e106) .nil), []⟩, ⟨.c, (.cons (.sl e106) .nil), []⟩]
def o27 : List Grp := [⟨.c, (.cons .bool .nil), []⟩]
/-- laws.eqSigS -/
noncomputable def F27.b0 (x0 : GD i27) : (v1 : (Int × Unit)) → Option (Sum (Int × Unit) (Sum (Int × Unit) (GD o27))) := fun v1 => bif iLt v1.1 (List.length x0.1.1 : Int) then (getI x0.1.1 v1.1).bind fun x2 => (getI x0.2.1.1 v1.1).bind fun x3 => (F42 (x2, (x3, ()))).bind fun y4 => bif (!y4.1.1) then some (.inr (.inr ((false, ()), ()))) else some (.inl (iAdd .i64 v1.1 (1:Int), ())) else some (.inr (.inl (v1.1, ())))
noncomputable def F27 : GD i27 → Option (GD o27) := fun x0 => bif !iEq (List.length x0.1.1 : Int) (List.length x0.2.1.1 : Int) then some ((false, ()), ()) else (loopF (F27.b0 x0) ((0:Int), ())).bind fun r6 => Sum.elim (fun v5 => some ((true, ()), ())) some r6
noncomputable def c27 : Con := ⟨i27, o27, F27⟩
noncomputable def C27 : Ctx := ⟨27, TT, EE, fun n => (bif Nat.beq n 42 then some c42 else none), fun n k => [], fun n => (bif Nat.beq n 0 then (some ⟨[(.t 5 (.int .i64) .sh)], [4, 11, 12, 13, 14, 15, 16, 17, 18, 19, 20, 21, 22, 23, 24, 25, 26], []⟩) else none), fun n => none⟩
theorem q27 : ∀ x, runF C27 Try.f27 i27 o27 x = F27 x := by intro x; kernel_rfl
def i43 : List Grp := [⟨.agg, (.cons (.int .i64) (.cons .str (.cons (.int .i64) (.cons (.sl e104) (.cons (.int .i64) (.cons (.int .i64) (.cons .str (.cons (.int .i64) (.cons (.int .i64) (.cons .str (.cons (.int .i64) (.cons (.int .i64) (.cons (.sl e9) (.cons (.int .i64) (.cons (.sl e9) (.cons (.sl e3) .nil)))))))))))))))), []⟩, ⟨.agg, (.cons (.int .i64) (.cons .str (.cons (.int .i64) (.cons (.sl e104) (.cons (.int .i64) (.cons (.int .i64) (.cons .str (.cons (.int .i64) (.cons (.int .i64) (.cons .str (.cons (.int .i64) (.cons (.int .i64) (.cons (.sl e9) (.cons (.int .i64) (.cons (.sl e9) (.cons (.sl e3) .nil)))))))))))))))), []⟩]
def o43 : List Grp := [⟨.c, (.cons .bool .nil), []⟩]
/-- laws.eqMsg -/
noncomputable def F43 : GD i43 → Option (GD o43) := fun x0 => bif !iEq x0.1.1 x0.2.1.1 then some ((false, ()), ()) else bif !sEq x0.1.2.1 x0.2.1.2.1 then some ((false, ()), ()) else bif !iEq x0.1.2.2.1 x0.2.1.2.2.1 then some ((false, ()), ()) else (F26 ((x0.1.2.2.2.1, ()), ((x0.2.1.2.2.2.1, ()), ()))).bind fun y1 => bif (!y1.1.1) then some ((false, ()), ()) else (F75 ((x0.1.2.2.2.2.1, (x0.1.2.2.2.2.2.1, (x0.1.2.2.2.2.2.2.1, ()))), ((x0.2.1.2.2.2.2.1, (x0.2.1.2.2.2.2.2.1, (x0.2.1.2.2.2.2.2.2.1, ()))), ()))).bind fun y2 => bif (!y2.1.1) then some ((false, ()), ()) else (F76 ((x0.1.2.2.2.2.2.2.2.1, (x0.1.2.2.2.2.2.2.2.2.1, (x0.1.2.2.2.2.2.2.2.2.2.1, ()))), ((x0.2.1.2.2.2.2.2.2.2.1, (x0.2.1.2.2.2.2.2.2.2.2.1, (x0.2.1.2.2.2.2.2.2.2.2.2.1, ()))), ()))).bind fun y3 => bif (!y3.1.1) then some ((false, ()), ()) else (F68 ((x0.1.2.2.2.2.2.2.2.2.2.2.1, (x0.1.2.2.2.2.2.2.2.2.2.2.2.1, (x0.1.2.2.2.2.2.2.2.2.2.2.2.2.1, ()))), ((x0.2.1.2.2.2.2.2.2.2.2.2.2.1, (x0.2.1.2.2.2.2.2.2.2.2.2.2.2.1, (x0.2.1.2.2.2.2.2.2.2.2.2.2.2.2.1, ()))), ()))).bind fun y4 => bif (!y4.1.1) then some ((false, ()), ()) else (F69 ((x0.1.2.2.2.2.2.2.2.2.2.2.2.2.2.1, (x0.1.2.2.2.2.2.2.2.2.2.2.2.2.2.2.1, (x0.1.2.2.2.2.2.2.2.2.2.2.2.2.2.2.2.1, ()))), ((x0.2.1.2.2.2.2.2.2.2.2.2.2.2.2.2.1, (x0.2.1.2.2.2.2.2.2.2.2.2.2.2.2.2.2.1, (x0.2.1.2.2.2.2.2.2.2.2.2.2.2.2.2.2.2.1, ()))), ()))).bind fun y5 => bif (!y5.1.1) then some ((false, ()), ()) else some ((true, ()), ())
noncomputable def c43 : Con := ⟨i43, o43, F43⟩
noncomputable def C43 : Ctx := ⟨50, TT, EE, fun n => (bif Nat.ble n 68 then (bif Nat.ble n 26 then (bif Nat.beq n 26 then some c26 else none) else (bif Nat.beq n 68 then some c68 else none)) else (bif Nat.ble n 69 then (bif Nat.beq n 69 then some c69 else none) else (bif Nat.ble n 75 then (bif Nat.beq n 75 then some c75 else none) else (bif Nat.beq n 76 then some c76 else none)))), fun n k => [], fun n => none, fun n => none⟩
theorem q43 : ∀ x, runF C43 Try.f43 i43 o43 x = F43 x := by intro x; kernel_rfl
def i28 : List Grp := [⟨.c, (.cons (.sl e111) .nil), []⟩, ⟨.c, (.cons (.sl e111) .nil), []⟩]
def o28 : List Grp := [⟨.c, (.cons .bool .nil), []⟩]
/-- laws.eqMsgS -/
noncomputable def F28.b0 (x0 : GD i28) : (v1 : (Int × Unit)) → Option (Sum (Int × Unit) (Sum (Int × Unit) (GD o28))) := fun v1 => bif iLt v1.1 (List.length x0.1.1 : Int) then (getI x0.1.1 v1.1).bind fun x2 => (getI x0.2.1.1 v1.1).bind fun x3 => (F43 (x2, (x3, ()))).bind fun y4 => bif (!y4.1.1) then some (.inr (.inr ((false, ()), ()))) else some (.inl (iAdd .i64 v1.1 (1:Int), ())) else some (.inr (.inl (v1.1, ())))
noncomputable def F28 : GD i28 → Option (GD o28) := fun x0 => bif !iEq (List.length x0.1.1 : Int) (List.length x0.2.1.1 : Int) then some ((false, ()), ()) else (loopF (F28.b0 x0) ((0:Int), ())).bind fun r6 => Sum.elim (fun v5 => some ((true, ()), ())) some r6
noncomputable def c28 : Con := ⟨i28, o28, F28⟩
noncomputable def C28 : Ctx := ⟨27, TT, EE, fun n => (bif Nat.beq n 43 then some c43 else none), fun n k => [], fun n => (bif Nat.beq n 0 then (some ⟨[(.t 5 (.int .i64) .sh)], [4, 11, 12, 13, 14, 15, 16, 17, 18, 19, 20, 21, 22, 23, 24, 25, 26], []⟩) else none), fun n => none⟩
theorem q28 : ∀ x, runF C28 Try.f28 i28 o28 x = F28 x := by intro x; kernel_rfl
def i8 : List Grp := [⟨.agg, (.cons (.int .i64) (.cons (.sl e134) (.cons (.sl e9) (.cons (.sl e64) (.cons (.sl e104) (.cons (.sl e106) (.cons (.sl e111) .nil))))))), []⟩, ⟨.agg, (.cons (.int .i64) (.cons (.sl e134) (.cons (.sl e9) (.cons (.sl e64) (.cons (.sl e104) (.cons (.sl e106) (.cons (.sl e111) .nil))))))), []⟩]
def o8 : List Grp := [⟨.c, (.cons .bool .nil), []⟩]
/-- laws.eqWorld -/
noncomputable def F8 : GD i8 → Option (GD o8) := fun x0 => (F23 ((x0.1.1, (x0.1.2.1, ())), ((x0.2.1.1, (x0.2.1.2.1, ())), ()))).bind fun y1 => bif (!y1.1.1) then some ((false, ()), ()) else (F24 ((x0.1.2.2.1, ()), ((x0.2.1.2.2.1, ()), ()))).bind fun y2 => bif (!y2.1.1) then some ((false, ()), ()) else (F25 ((x0.1.2.2.2.1, ()), ((x0.2.1.2.2.2.1, ()), ()))).bind fun y3 => bif (!y3.1.1) then some ((false, ()), ()) else (F26 ((x0.1.2.2.2.2.1, ()), ((x0.2.1.2.2.2.2.1, ()), ()))).bind fun y4 => bif (!y4.1.1) then some ((false, ()), ()) else (F27 ((x0.1.2.2.2.2.2.1, ()), ((x0.2.1.2.2.2.2.2.1, ()), ()))).bind fun y5 => bif (!y5.1.1) then some ((false, ()), ()) else (F28 ((x0.1.2.2.2.2.2.2.1, ()), ((x0.2.1.2.2.2.2.2.2.1, ()), ()))).bind fun y6 => bif (!y6.1.1) then some ((false, ()), ()) else some ((true, ()), ())
noncomputable def c8 : Con := ⟨i8, o8, F8⟩
noncomputable def C8 : Ctx := ⟨41, TT, EE, fun n => (bif Nat.ble n 25 then (bif Nat.ble n 23 then (bif Nat.beq n 23 then some c23 else none) else (bif Nat.ble n 24 then (bif Nat.beq n 24 then some c24 else none) else (bif Nat.beq n 25 then some c25 else none))) else (bif Nat.ble n 26 then (bif Nat.beq n 26 then some c26 else none) else (bif Nat.ble n 27 then (bif Nat.beq n 27 then some c27 else none) else (bif Nat.beq n 28 then some c28 else none)))), fun n k => [], fun n => none, fun n => none⟩
theorem q8 : ∀ x, runF C8 Try.f8 i8 o8 x = F8 x := by intro x; kernel_rfl
def i3 : List Grp := [⟨.agg, (.cons (.int .i64) (.cons (.sl e121) (.cons (.sl e9) (.cons (.sl e87) (.cons (.sl e90) (.cons (.sl e93) (.cons (.sl e100) .nil))))))), []⟩]
def o3 : List Grp := [⟨.c, (.cons .bool .nil), []⟩]
/-- laws.FnExactPrefix -/
noncomputable def F3 : GD i3 → Option (GD o3) := fun x0 => (F4 (x0.1, (((1048576:Int), ()), ()))).bind fun y1 => bif iLt y1.1.1 (0:Int) then some ((true, ()), ()) else (F6 (x0.1, ())).bind fun y2 => (F5 (y2.1, ())).bind fun y3 => (F6 (x0.1, ())).bind fun y4 => (F7 (y4.1, ())).bind fun y5 => bif !bEq y5.1.1 y3.1.1 then some ((false, ()), ()) else (F6 (x0.1, ())).bind fun y6 => (F8 (y4.1, (y6.1, ()))).bind fun y7 => bif (!y7.1.1) then some ((false, ()), ()) else some ((true, ()), ())
noncomputable def c3 : Con := ⟨i3, o3, F3⟩
noncomputable def C3 : Ctx := ⟨27, TT, EE, fun n => (bif Nat.ble n 5 then (bif Nat.ble n 4 then (bif Nat.beq n 4 then some c4 else none) else (bif Nat.beq n 5 then some c5 else none)) else (bif Nat.ble n 6 then (bif Nat.beq n 6 then some c6 else none) else (bif Nat.ble n 7 then (bif Nat.beq n 7 then some c7 else none) else (bif Nat.beq n 8 then some c8 else none)))), fun n k => [], fun n => none, fun n => none⟩
theorem q3 : ∀ x, runF C3 Try.f3 i3 o3 x = F3 x := by intro x; kernel_rfl
end Go.Proofs.Ytphaibffjdfhpaa
