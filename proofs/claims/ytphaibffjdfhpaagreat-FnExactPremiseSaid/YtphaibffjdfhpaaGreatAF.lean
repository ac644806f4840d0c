/- What the functions that the laws reach compute, as functions over plain data; each one's equation with the program is checked by the kernel. Conditions: none. -/

import Derived.Test.YtphaibffjdfhpaaGreatTm3
import Derived.Test.YtphaibffjdfhpaaGreatProg
namespace Go.Proofs.YtphaibffjdfhpaaGreat
open Go Go.Tm
set_option linter.unusedVariables false
set_option maxRecDepth 100000
def e3 : Tys := (.cons (.int .i64) .nil)
def e9 : Tys := (.cons .str .nil)
def e264 : Tys := (.cons (.int .i64) (.cons (.int .i64) .nil))
def e225 : Tys := (.cons .str (.cons (.int .i64) (.cons (.int .i64) (.cons (.int .i64) (.cons (.sl e264) .nil)))))
def e170 : Tys := (.cons .str (.cons (.int .i64) .nil))
def e182 : Tys := (.cons (.int .i64) (.cons .str (.cons .str (.cons (.int .i64) (.cons (.int .i64) .nil)))))
def e173 : Tys := (.cons (.int .i64) (.cons (.int .i64) (.cons (.int .i64) (.cons .str (.cons (.int .i64) (.cons (.int .i64) (.cons (.sl e9) (.cons (.int .i64) (.cons (.sl e9) (.cons (.sl e3) (.cons (.sl e182) (.cons .bool (.cons (.sl e170) (.cons .str .nil))))))))))))))
def e176 : Tys := (.cons (.int .i64) (.cons (.int .i64) (.cons .str .nil)))
def e179 : Tys := (.cons (.int .i64) (.cons (.int .i64) (.cons .str .nil)))
def e185 : Tys := (.cons (.int .i64) (.cons (.sl e173) (.cons (.int .i64) (.cons (.int .i64) (.cons (.sl e9) .nil)))))
def e38 : Tys := (.cons .str (.cons (.int .i64) (.cons (.int .i64) (.cons (.sl e225) (.cons (.sl e170) (.cons (.sl e173) (.cons (.int .i64) (.cons (.int .i64) (.cons (.int .i64) (.cons (.int .i64) (.cons (.sl e9) (.cons (.int .i64) (.cons (.sl e9) (.cons (.sl e3) (.cons (.int .i64) (.cons (.sl e176) (.cons (.sl e179) (.cons (.sl e3) (.cons (.sl e182) (.cons (.sl e185) .nil))))))))))))))))))))
def e195 : Tys := (.cons (.int .i64) (.cons .str (.cons .str (.cons (.int .i64) (.cons (.int .i64) .nil)))))
def e188 : Tys := (.cons .str (.cons (.int .i64) .nil))
def e138 : Tys := (.cons (.int .i64) (.cons (.int .i64) (.cons (.int .i64) (.cons .str (.cons (.int .i64) (.cons (.int .i64) (.cons (.sl e9) (.cons (.int .i64) (.cons (.sl e9) (.cons (.sl e3) (.cons (.sl e195) (.cons .bool (.cons (.sl e188) (.cons .str .nil))))))))))))))
def e43 : Tys := (.cons (.int .i64) (.cons (.sl e138) (.cons (.int .i64) (.cons (.int .i64) (.cons (.sl e9) .nil)))))
def e248 : Tys := (.cons (.int .i64) (.cons (.int .i64) .nil))
def e153 : Tys := (.cons .str (.cons (.int .i64) (.cons (.int .i64) (.cons (.int .i64) (.cons (.sl e248) .nil)))))
def e191 : Tys := (.cons (.int .i64) (.cons (.int .i64) (.cons .str .nil)))
def e193 : Tys := (.cons (.int .i64) (.cons (.int .i64) (.cons .str .nil)))
def e56 : Tys := (.cons .str (.cons (.int .i64) (.cons (.int .i64) (.cons (.sl e153) (.cons (.sl e188) (.cons (.sl e138) (.cons (.int .i64) (.cons (.int .i64) (.cons (.int .i64) (.cons (.int .i64) (.cons (.sl e9) (.cons (.int .i64) (.cons (.sl e9) (.cons (.sl e3) (.cons (.int .i64) (.cons (.sl e191) (.cons (.sl e193) (.cons (.sl e3) (.cons (.sl e195) (.cons (.sl e43) .nil))))))))))))))))))))
def e208 : Tys := (.cons (.int .i64) (.cons (.int .i64) (.cons (.int .i64) (.cons (.int .i64) (.cons .str .nil)))))
def e211 : Tys := (.cons (.int .i64) (.cons .str (.cons (.int .i64) (.cons (.sl e173) (.cons (.int .i64) (.cons (.int .i64) (.cons .str (.cons (.int .i64) (.cons (.int .i64) (.cons .str (.cons (.int .i64) (.cons (.int .i64) (.cons (.sl e9) (.cons (.int .i64) (.cons (.sl e9) (.cons (.sl e3) .nil))))))))))))))))
def e214 : Tys := (.cons (.int .i64) (.cons (.int .i64) (.cons (.int .i64) (.cons (.int .i64) (.cons .str .nil)))))
def e217 : Tys := (.cons (.int .i64) (.cons .str (.cons (.int .i64) (.cons (.sl e138) (.cons (.int .i64) (.cons (.int .i64) (.cons .str (.cons (.int .i64) (.cons (.int .i64) (.cons .str (.cons (.int .i64) (.cons (.int .i64) (.cons (.sl e9) (.cons (.int .i64) (.cons (.sl e9) (.cons (.sl e3) .nil))))))))))))))))
def TTL : List (Nat × TI) := [(3, ⟨1, 8, .int .i64, [(.int .i64 (0:Int))], [], [], none⟩), (4, ⟨1, 1, .bool, [(.bool false)], [], [], none⟩), (5, ⟨1, 1, .int .u8, [(.int .u8 (0:Int))], [], [], none⟩), (9, ⟨1, 16, .str, [(.str ⟨#[]⟩)], [], [], none⟩), (22, ⟨1, 24, .slice 225, [.nils], [], [], none⟩), (24, ⟨2, 32, .struct, [(.int .i64 (0:Int)), .nils], [(0, 1), (1, 1)], [false, false], none⟩), (25, ⟨1, 24, .slice 170, [.nils], [], [], none⟩), (26, ⟨1, 24, .slice 173, [.nils], [], [], none⟩), (27, ⟨1, 24, .slice 9, [.nils], [], [], none⟩), (29, ⟨3, 40, .struct, [(.int .i64 (0:Int)), (.int .i64 (0:Int)), .nils], [(0, 1), (1, 1), (2, 1)], [false, false, false], none⟩), (30, ⟨1, 24, .slice 3, [.nils], [], [], none⟩), (32, ⟨3, 56, .struct, [(.int .i64 (0:Int)), .nils, .nils], [(0, 1), (1, 1), (2, 1)], [false, false, false], none⟩), (33, ⟨1, 24, .slice 176, [.nils], [], [], none⟩), (34, ⟨1, 24, .slice 179, [.nils], [], [], none⟩), (35, ⟨1, 24, .slice 182, [.nils], [], [], none⟩), (36, ⟨1, 24, .slice 185, [.nils], [], [], none⟩), (38, ⟨20, 344, .struct, [(.str ⟨#[]⟩), (.int .i64 (0:Int)), (.int .i64 (0:Int)), .nils, .nils, .nils, (.int .i64 (0:Int)), (.int .i64 (0:Int)), (.int .i64 (0:Int)), (.int .i64 (0:Int)), .nils, (.int .i64 (0:Int)), .nils, .nils, (.int .i64 (0:Int)), .nils, .nils, .nils, .nils, .nils], [(0, 1), (1, 1), (2, 2), (4, 1), (5, 1), (6, 1), (7, 1), (8, 3), (11, 3), (14, 1), (15, 1), (16, 1), (17, 1), (18, 1), (19, 1)], [false, false, true, false, false, false, false, true, true, false, false, false, false, false, false], none⟩), (40, ⟨1, 24, .slice 138, [.nils], [], [], none⟩), (41, ⟨3, 40, .struct, [(.int .i64 (0:Int)), (.int .i64 (0:Int)), .nils], [(0, 1), (1, 1), (2, 1)], [false, false, false], none⟩), (43, ⟨5, 72, .struct, [(.int .i64 (0:Int)), .nils, (.int .i64 (0:Int)), (.int .i64 (0:Int)), .nils], [(0, 1), (1, 1), (2, 3)], [false, false, true], none⟩), (46, ⟨1, 24, .slice 153, [.nils], [], [], none⟩), (48, ⟨2, 32, .struct, [(.int .i64 (0:Int)), .nils], [(0, 1), (1, 1)], [false, false], none⟩), (49, ⟨1, 24, .slice 188, [.nils], [], [], none⟩), (50, ⟨3, 56, .struct, [(.int .i64 (0:Int)), .nils, .nils], [(0, 1), (1, 1), (2, 1)], [false, false, false], none⟩), (51, ⟨1, 24, .slice 191, [.nils], [], [], none⟩), (52, ⟨1, 24, .slice 193, [.nils], [], [], none⟩), (53, ⟨1, 24, .slice 195, [.nils], [], [], none⟩), (54, ⟨1, 24, .slice 43, [.nils], [], [], none⟩), (56, ⟨20, 344, .struct, [(.str ⟨#[]⟩), (.int .i64 (0:Int)), (.int .i64 (0:Int)), .nils, .nils, .nils, (.int .i64 (0:Int)), (.int .i64 (0:Int)), (.int .i64 (0:Int)), (.int .i64 (0:Int)), .nils, (.int .i64 (0:Int)), .nils, .nils, (.int .i64 (0:Int)), .nils, .nils, .nils, .nils, .nils], [(0, 1), (1, 1), (2, 2), (4, 1), (5, 1), (6, 1), (7, 1), (8, 3), (11, 3), (14, 1), (15, 1), (16, 1), (17, 1), (18, 1), (19, 1)], [false, false, true, false, false, false, false, true, true, false, false, false, false, false, false], none⟩), (63, ⟨1, 24, .slice 38, [.nils], [], [], none⟩), (64, ⟨1, 24, .slice 208, [.nils], [], [], none⟩), (65, ⟨1, 24, .slice 211, [.nils], [], [], none⟩), (67, ⟨7, 152, .struct, [(.int .i64 (0:Int)), .nils, .nils, .nils, .nils, .nils, .nils], [(0, 2), (2, 1), (3, 1), (4, 1), (5, 1), (6, 1)], [true, false, false, false, false, false], none⟩), (70, ⟨1, 24, .slice 56, [.nils], [], [], none⟩), (71, ⟨1, 24, .slice 214, [.nils], [], [], none⟩), (72, ⟨1, 24, .slice 217, [.nils], [], [], none⟩), (74, ⟨7, 152, .struct, [(.int .i64 (0:Int)), .nils, .nils, .nils, .nils, .nils, .nils], [(0, 2), (2, 1), (3, 1), (4, 1), (5, 1), (6, 1)], [true, false, false, false, false, false], none⟩), (138, ⟨14, 208, .struct, [(.int .i64 (0:Int)), (.int .i64 (0:Int)), (.int .i64 (0:Int)), (.str ⟨#[]⟩), (.int .i64 (0:Int)), (.int .i64 (0:Int)), .nils, (.int .i64 (0:Int)), .nils, .nils, .nils, (.bool false), .nils, (.str ⟨#[]⟩)], [(0, 1), (1, 1), (2, 1), (3, 1), (4, 3), (7, 3), (10, 1), (11, 1), (12, 1), (13, 1)], [false, false, false, false, true, true, false, false, false, false], none⟩), (151, ⟨1, 24, .slice 248, [.nils], [], [], none⟩), (153, ⟨5, 64, .struct, [(.str ⟨#[]⟩), (.int .i64 (0:Int)), (.int .i64 (0:Int)), (.int .i64 (0:Int)), .nils], [(0, 1), (1, 1), (2, 1), (3, 1), (4, 1)], [false, false, false, false, false], none⟩), (170, ⟨2, 24, .struct, [(.str ⟨#[]⟩), (.int .i64 (0:Int))], [(0, 1), (1, 1)], [false, false], (some [.str, .int .i64])⟩), (173, ⟨14, 208, .struct, [(.int .i64 (0:Int)), (.int .i64 (0:Int)), (.int .i64 (0:Int)), (.str ⟨#[]⟩), (.int .i64 (0:Int)), (.int .i64 (0:Int)), .nils, (.int .i64 (0:Int)), .nils, .nils, .nils, (.bool false), .nils, (.str ⟨#[]⟩)], [(0, 1), (1, 1), (2, 1), (3, 1), (4, 3), (7, 3), (10, 1), (11, 1), (12, 1), (13, 1)], [false, false, false, false, true, true, false, false, false, false], none⟩), (176, ⟨3, 32, .struct, [(.int .i64 (0:Int)), (.int .i64 (0:Int)), (.str ⟨#[]⟩)], [(0, 1), (1, 1), (2, 1)], [false, false, false], (some [.int .i64, .int .i64, .str])⟩), (179, ⟨3, 32, .struct, [(.int .i64 (0:Int)), (.int .i64 (0:Int)), (.str ⟨#[]⟩)], [(0, 1), (1, 1), (2, 1)], [false, false, false], (some [.int .i64, .int .i64, .str])⟩), (182, ⟨5, 56, .struct, [(.int .i64 (0:Int)), (.str ⟨#[]⟩), (.str ⟨#[]⟩), (.int .i64 (0:Int)), (.int .i64 (0:Int))], [(0, 1), (1, 1), (2, 1), (3, 1), (4, 1)], [false, false, false, false, false], (some [.int .i64, .str, .str, .int .i64, .int .i64])⟩), (185, ⟨5, 72, .struct, [(.int .i64 (0:Int)), .nils, (.int .i64 (0:Int)), (.int .i64 (0:Int)), .nils], [(0, 1), (1, 1), (2, 3)], [false, false, true], none⟩), (188, ⟨2, 24, .struct, [(.str ⟨#[]⟩), (.int .i64 (0:Int))], [(0, 1), (1, 1)], [false, false], (some [.str, .int .i64])⟩), (191, ⟨3, 32, .struct, [(.int .i64 (0:Int)), (.int .i64 (0:Int)), (.str ⟨#[]⟩)], [(0, 1), (1, 1), (2, 1)], [false, false, false], (some [.int .i64, .int .i64, .str])⟩), (193, ⟨3, 32, .struct, [(.int .i64 (0:Int)), (.int .i64 (0:Int)), (.str ⟨#[]⟩)], [(0, 1), (1, 1), (2, 1)], [false, false, false], (some [.int .i64, .int .i64, .str])⟩), (195, ⟨5, 56, .struct, [(.int .i64 (0:Int)), (.str ⟨#[]⟩), (.str ⟨#[]⟩), (.int .i64 (0:Int)), (.int .i64 (0:Int))], [(0, 1), (1, 1), (2, 1), (3, 1), (4, 1)], [false, false, false, false, false], (some [.int .i64, .str, .str, .int .i64, .int .i64])⟩), (208, ⟨5, 48, .struct, [(.int .i64 (0:Int)), (.int .i64 (0:Int)), (.int .i64 (0:Int)), (.int .i64 (0:Int)), (.str ⟨#[]⟩)], [(0, 1), (1, 1), (2, 1), (3, 1), (4, 1)], [false, false, false, false, false], (some [.int .i64, .int .i64, .int .i64, .int .i64, .str])⟩), (211, ⟨16, 216, .struct, [(.int .i64 (0:Int)), (.str ⟨#[]⟩), (.int .i64 (0:Int)), .nils, (.int .i64 (0:Int)), (.int .i64 (0:Int)), (.str ⟨#[]⟩), (.int .i64 (0:Int)), (.int .i64 (0:Int)), (.str ⟨#[]⟩), (.int .i64 (0:Int)), (.int .i64 (0:Int)), .nils, (.int .i64 (0:Int)), .nils, .nils], [(0, 1), (1, 1), (2, 1), (3, 1), (4, 3), (7, 3), (10, 3), (13, 3)], [false, false, false, false, true, true, true, true], none⟩), (214, ⟨5, 48, .struct, [(.int .i64 (0:Int)), (.int .i64 (0:Int)), (.int .i64 (0:Int)), (.int .i64 (0:Int)), (.str ⟨#[]⟩)], [(0, 1), (1, 1), (2, 1), (3, 1), (4, 1)], [false, false, false, false, false], (some [.int .i64, .int .i64, .int .i64, .int .i64, .str])⟩), (217, ⟨16, 216, .struct, [(.int .i64 (0:Int)), (.str ⟨#[]⟩), (.int .i64 (0:Int)), .nils, (.int .i64 (0:Int)), (.int .i64 (0:Int)), (.str ⟨#[]⟩), (.int .i64 (0:Int)), (.int .i64 (0:Int)), (.str ⟨#[]⟩), (.int .i64 (0:Int)), (.int .i64 (0:Int)), .nils, (.int .i64 (0:Int)), .nils, .nils], [(0, 1), (1, 1), (2, 1), (3, 1), (4, 3), (7, 3), (10, 3), (13, 3)], [false, false, false, false, true, true, true, true], none⟩), (223, ⟨1, 24, .slice 264, [.nils], [], [], none⟩), (225, ⟨5, 64, .struct, [(.str ⟨#[]⟩), (.int .i64 (0:Int)), (.int .i64 (0:Int)), (.int .i64 (0:Int)), .nils], [(0, 1), (1, 1), (2, 1), (3, 1), (4, 1)], [false, false, false, false, false], none⟩), (248, ⟨2, 16, .struct, [(.int .i64 (0:Int)), (.int .i64 (0:Int))], [(0, 1), (1, 1)], [false, false], (some [.int .i64, .int .i64])⟩), (264, ⟨2, 16, .struct, [(.int .i64 (0:Int)), (.int .i64 (0:Int))], [(0, 1), (1, 1)], [false, false], (some [.int .i64, .int .i64])⟩)]
theorem tt_ok : TTL.map (fun p => tiOf Tryz.prog p.1) = TTL.map (fun p => some p.2) := by kernel_rfl
def TT : Nat → Option TI := lookT TTL
def EE : Nat → Tys := fun n => (bif Nat.ble n 182 then (bif Nat.ble n 138 then (bif Nat.ble n 38 then (bif Nat.ble n 3 then (bif Nat.beq n 3 then e3 else .nil) else (bif Nat.ble n 9 then (bif Nat.beq n 9 then e9 else .nil) else (bif Nat.beq n 38 then e38 else .nil))) else (bif Nat.ble n 43 then (bif Nat.beq n 43 then e43 else .nil) else (bif Nat.ble n 56 then (bif Nat.beq n 56 then e56 else .nil) else (bif Nat.beq n 138 then e138 else .nil)))) else (bif Nat.ble n 173 then (bif Nat.ble n 153 then (bif Nat.beq n 153 then e153 else .nil) else (bif Nat.ble n 170 then (bif Nat.beq n 170 then e170 else .nil) else (bif Nat.beq n 173 then e173 else .nil))) else (bif Nat.ble n 176 then (bif Nat.beq n 176 then e176 else .nil) else (bif Nat.ble n 179 then (bif Nat.beq n 179 then e179 else .nil) else (bif Nat.beq n 182 then e182 else .nil))))) else (bif Nat.ble n 208 then (bif Nat.ble n 191 then (bif Nat.ble n 185 then (bif Nat.beq n 185 then e185 else .nil) else (bif Nat.ble n 188 then (bif Nat.beq n 188 then e188 else .nil) else (bif Nat.beq n 191 then e191 else .nil))) else (bif Nat.ble n 193 then (bif Nat.beq n 193 then e193 else .nil) else (bif Nat.ble n 195 then (bif Nat.beq n 195 then e195 else .nil) else (bif Nat.beq n 208 then e208 else .nil)))) else (bif Nat.ble n 217 then (bif Nat.ble n 211 then (bif Nat.beq n 211 then e211 else .nil) else (bif Nat.ble n 214 then (bif Nat.beq n 214 then e214 else .nil) else (bif Nat.beq n 217 then e217 else .nil))) else (bif Nat.ble n 225 then (bif Nat.beq n 225 then e225 else .nil) else (bif Nat.ble n 248 then (bif Nat.beq n 248 then e248 else .nil) else (bif Nat.beq n 264 then e264 else .nil))))))
def i205 : List Grp := [⟨.c, (.cons (.sl e264) .nil), []⟩, ⟨.c, (.cons (.int .i64) .nil), []⟩]
def o205 : List Grp := [⟨.c, (.cons (.int .i64) .nil), []⟩]
/-- laws.szLeaveS -/
noncomputable def F205 : GD i205 → Option (GD o205) := fun x0 => bif iLt (iSub .i64 x0.2.1.1 (List.length x0.1.1 : Int)) (0:Int) then some (((-1:Int), ()), ()) else some ((iSub .i64 x0.2.1.1 (List.length x0.1.1 : Int), ()), ())
noncomputable def c205 : Con := ⟨i205, o205, F205⟩
noncomputable def C205 : Ctx := ⟨12, TT, EE, fun n => none, fun n k => [], fun n => none, fun n => none⟩
theorem q205 : ∀ x, runF C205 Tryz.f205 i205 o205 x = F205 x := by intro x; kernel_rfl
def i166 : List Grp := [⟨.agg, (.cons .str (.cons (.int .i64) (.cons (.int .i64) (.cons (.int .i64) (.cons (.sl e264) .nil))))), []⟩, ⟨.c, (.cons (.int .i64) .nil), []⟩]
def o166 : List Grp := [⟨.c, (.cons (.int .i64) .nil), []⟩]
/-- laws.szAcct -/
noncomputable def F166 : GD i166 → Option (GD o166) := fun x0 => bif iLt (iSub .i64 x0.2.1.1 (ByteArray.size x0.1.1 : Int)) (0:Int) then some (((-1:Int), ()), ()) else (F205 ((x0.1.2.2.2.2.1, ()), ((iSub .i64 x0.2.1.1 (ByteArray.size x0.1.1 : Int), ()), ()))).bind fun y1 => bif iLt y1.1.1 (0:Int) then some (((-1:Int), ()), ()) else some (y1.1, ())
noncomputable def c166 : Con := ⟨i166, o166, F166⟩
noncomputable def C166 : Ctx := ⟨19, TT, EE, fun n => (bif Nat.beq n 205 then some c205 else none), fun n k => [], fun n => none, fun n => none⟩
theorem q166 : ∀ x, runF C166 Tryz.f166 i166 o166 x = F166 x := by intro x; kernel_rfl
def i95 : List Grp := [⟨.c, (.cons (.sl e225) .nil), []⟩, ⟨.c, (.cons (.int .i64) .nil), []⟩]
def o95 : List Grp := [⟨.c, (.cons (.int .i64) .nil), []⟩]
/-- laws.szAcctS -/
noncomputable def F95.b0 (x0 : GD i95) : (v1 : (Int × (Int × Unit))) → Option (Sum (Int × (Int × Unit)) (Sum (Int × (Int × Unit)) (GD o95))) := fun v1 => bif iLt v1.2.1 (List.length x0.1.1 : Int) then (getI x0.1.1 v1.2.1).bind fun x2 => (F166 (x2, ((v1.1, ()), ()))).bind fun y3 => bif iLt y3.1.1 (0:Int) then some (.inr (.inr (((-1:Int), ()), ()))) else some (.inl (y3.1.1, (iAdd .i64 v1.2.1 (1:Int), ()))) else some (.inr (.inl (v1.1, (v1.2.1, ()))))
noncomputable def F95 : GD i95 → Option (GD o95) := fun x0 => bif iLt (iSub .i64 x0.2.1.1 (List.length x0.1.1 : Int)) (0:Int) then some (((-1:Int), ()), ()) else (loopF (F95.b0 x0) (iSub .i64 x0.2.1.1 (List.length x0.1.1 : Int), ((0:Int), ()))).bind fun r5 => Sum.elim (fun v4 => some ((v4.1, ()), ())) some r5
noncomputable def c95 : Con := ⟨i95, o95, F95⟩
noncomputable def C95 : Ctx := ⟨27, TT, EE, fun n => (bif Nat.beq n 166 then some c166 else none), fun n k => [], fun n => (bif Nat.beq n 0 then (some ⟨[(.t 1 (.int .i64) .sh), (.t 5 (.int .i64) .sh)], [4, 12, 13, 14, 15, 16, 17, 18, 19, 20, 21, 22, 23, 24, 25], []⟩) else none), fun n => none⟩
theorem q95 : ∀ x, runF C95 Tryz.f95 i95 o95 x = F95 x := by intro x; kernel_rfl
def i22 : List Grp := [⟨.agg, (.cons (.int .i64) (.cons (.sl e225) .nil)), []⟩, ⟨.c, (.cons (.int .i64) .nil), []⟩]
def o22 : List Grp := [⟨.c, (.cons (.int .i64) .nil), []⟩]
/-- laws.szLedger -/
noncomputable def F22 : GD i22 → Option (GD o22) := fun x0 => (F95 ((x0.1.2.1, ()), (x0.2.1, ()))).bind fun y1 => bif iLt y1.1.1 (0:Int) then some (((-1:Int), ()), ()) else some (y1.1, ())
noncomputable def c22 : Con := ⟨i22, o22, F22⟩
noncomputable def C22 : Ctx := ⟨12, TT, EE, fun n => (bif Nat.beq n 95 then some c95 else none), fun n k => [], fun n => none, fun n => none⟩
theorem q22 : ∀ x, runF C22 Tryz.f22 i22 o22 x = F22 x := by intro x; kernel_rfl
def i23 : List Grp := [⟨.c, (.cons (.sl e9) .nil), []⟩, ⟨.c, (.cons (.int .i64) .nil), []⟩]
def o23 : List Grp := [⟨.c, (.cons (.int .i64) .nil), []⟩]
/-- laws.szStringS -/
noncomputable def F23.b0 (x0 : GD i23) : (v1 : (Int × (Int × Unit))) → Option (Sum (Int × (Int × Unit)) (Sum (Int × (Int × Unit)) (GD o23))) := fun v1 => bif iLt v1.2.1 (List.length x0.1.1 : Int) then (getI x0.1.1 v1.2.1).bind fun x2 => bif iLt (iSub .i64 v1.1 (ByteArray.size x2.1 : Int)) (0:Int) then some (.inr (.inr (((-1:Int), ()), ()))) else some (.inl (iSub .i64 v1.1 (ByteArray.size x2.1 : Int), (iAdd .i64 v1.2.1 (1:Int), ()))) else some (.inr (.inl (v1.1, (v1.2.1, ()))))
noncomputable def F23 : GD i23 → Option (GD o23) := fun x0 => bif iLt (iSub .i64 x0.2.1.1 (List.length x0.1.1 : Int)) (0:Int) then some (((-1:Int), ()), ()) else (loopF (F23.b0 x0) (iSub .i64 x0.2.1.1 (List.length x0.1.1 : Int), ((0:Int), ()))).bind fun r4 => Sum.elim (fun v3 => some ((v3.1, ()), ())) some r4
noncomputable def c23 : Con := ⟨i23, o23, F23⟩
noncomputable def C23 : Ctx := ⟨28, TT, EE, fun n => none, fun n k => [], fun n => (bif Nat.beq n 0 then (some ⟨[(.t 1 (.int .i64) .sh), (.t 5 (.int .i64) .sh)], [4, 12, 13, 14, 15, 16, 17, 18, 19, 20, 21, 22, 23, 24, 25, 26], []⟩) else none), fun n => none⟩
theorem q23 : ∀ x, runF C23 Tryz.f23 i23 o23 x = F23 x := by intro x; kernel_rfl
def i130 : List Grp := [⟨.agg, (.cons .str (.cons (.int .i64) .nil)), []⟩, ⟨.c, (.cons (.int .i64) .nil), []⟩]
def o130 : List Grp := [⟨.c, (.cons (.int .i64) .nil), []⟩]
/-- laws.szVal -/
noncomputable def F130 : GD i130 → Option (GD o130) := fun x0 => bif iLt (iSub .i64 x0.2.1.1 (ByteArray.size x0.1.1 : Int)) (0:Int) then some (((-1:Int), ()), ()) else some ((iSub .i64 x0.2.1.1 (ByteArray.size x0.1.1 : Int), ()), ())
noncomputable def c130 : Con := ⟨i130, o130, F130⟩
noncomputable def C130 : Ctx := ⟨13, TT, EE, fun n => none, fun n k => [], fun n => none, fun n => none⟩
theorem q130 : ∀ x, runF C130 Tryz.f130 i130 o130 x = F130 x := by intro x; kernel_rfl
def i41 : List Grp := [⟨.c, (.cons (.sl e170) .nil), []⟩, ⟨.c, (.cons (.int .i64) .nil), []⟩]
def o41 : List Grp := [⟨.c, (.cons (.int .i64) .nil), []⟩]
/-- laws.szValS -/
noncomputable def F41.b0 (x0 : GD i41) : (v1 : (Int × (Int × Unit))) → Option (Sum (Int × (Int × Unit)) (Sum (Int × (Int × Unit)) (GD o41))) := fun v1 => bif iLt v1.2.1 (List.length x0.1.1 : Int) then (getI x0.1.1 v1.2.1).bind fun x2 => (F130 (x2, ((v1.1, ()), ()))).bind fun y3 => bif iLt y3.1.1 (0:Int) then some (.inr (.inr (((-1:Int), ()), ()))) else some (.inl (y3.1.1, (iAdd .i64 v1.2.1 (1:Int), ()))) else some (.inr (.inl (v1.1, (v1.2.1, ()))))
noncomputable def F41 : GD i41 → Option (GD o41) := fun x0 => bif iLt (iSub .i64 x0.2.1.1 (List.length x0.1.1 : Int)) (0:Int) then some (((-1:Int), ()), ()) else (loopF (F41.b0 x0) (iSub .i64 x0.2.1.1 (List.length x0.1.1 : Int), ((0:Int), ()))).bind fun r5 => Sum.elim (fun v4 => some ((v4.1, ()), ())) some r5
noncomputable def c41 : Con := ⟨i41, o41, F41⟩
noncomputable def C41 : Ctx := ⟨27, TT, EE, fun n => (bif Nat.beq n 130 then some c130 else none), fun n k => [], fun n => (bif Nat.beq n 0 then (some ⟨[(.t 1 (.int .i64) .sh), (.t 5 (.int .i64) .sh)], [4, 12, 13, 14, 15, 16, 17, 18, 19, 20, 21, 22, 23, 24, 25], []⟩) else none), fun n => none⟩
theorem q41 : ∀ x, runF C41 Tryz.f41 i41 o41 x = F41 x := by intro x; kernel_rfl
def i43 : List Grp := [⟨.agg, (.cons (.int .i64) (.cons (.int .i64) (.cons (.sl e9) .nil))), []⟩, ⟨.c, (.cons (.int .i64) .nil), []⟩]
def o43 : List Grp := [⟨.c, (.cons (.int .i64) .nil), []⟩]
/-- laws.szQc -/
noncomputable def F43 : GD i43 → Option (GD o43) := fun x0 => (F23 ((x0.1.2.2.1, ()), (x0.2.1, ()))).bind fun y1 => bif iLt y1.1.1 (0:Int) then some (((-1:Int), ()), ()) else some (y1.1, ())
noncomputable def c43 : Con := ⟨i43, o43, F43⟩
noncomputable def C43 : Ctx := ⟨12, TT, EE, fun n => (bif Nat.beq n 23 then some c23 else none), fun n k => [], fun n => none, fun n => none⟩
theorem q43 : ∀ x, runF C43 Tryz.f43 i43 o43 x = F43 x := by intro x; kernel_rfl
def i47 : List Grp := [⟨.c, (.cons (.sl e3) .nil), []⟩, ⟨.c, (.cons (.int .i64) .nil), []⟩]
def o47 : List Grp := [⟨.c, (.cons (.int .i64) .nil), []⟩]
/-- laws.szIntS -/
noncomputable def F47 : GD i47 → Option (GD o47) := fun x0 => bif iLt (iSub .i64 x0.2.1.1 (List.length x0.1.1 : Int)) (0:Int) then some (((-1:Int), ()), ()) else some ((iSub .i64 x0.2.1.1 (List.length x0.1.1 : Int), ()), ())
noncomputable def c47 : Con := ⟨i47, o47, F47⟩
noncomputable def C47 : Ctx := ⟨12, TT, EE, fun n => none, fun n k => [], fun n => none, fun n => none⟩
theorem q47 : ∀ x, runF C47 Tryz.f47 i47 o47 x = F47 x := by intro x; kernel_rfl
def i44 : List Grp := [⟨.agg, (.cons (.int .i64) (.cons (.sl e9) (.cons (.sl e3) .nil))), []⟩, ⟨.c, (.cons (.int .i64) .nil), []⟩]
def o44 : List Grp := [⟨.c, (.cons (.int .i64) .nil), []⟩]
/-- laws.szTc -/
noncomputable def F44 : GD i44 → Option (GD o44) := fun x0 => (F23 ((x0.1.2.1, ()), (x0.2.1, ()))).bind fun y1 => bif iLt y1.1.1 (0:Int) then some (((-1:Int), ()), ()) else (F47 ((x0.1.2.2.1, ()), (y1.1, ()))).bind fun y2 => bif iLt y2.1.1 (0:Int) then some (((-1:Int), ()), ()) else some (y2.1, ())
noncomputable def c44 : Con := ⟨i44, o44, F44⟩
noncomputable def C44 : Ctx := ⟨18, TT, EE, fun n => (bif Nat.ble n 23 then (bif Nat.beq n 23 then some c23 else none) else (bif Nat.beq n 47 then some c47 else none)), fun n k => [], fun n => none, fun n => none⟩
theorem q44 : ∀ x, runF C44 Tryz.f44 i44 o44 x = F44 x := by intro x; kernel_rfl
def i134 : List Grp := [⟨.agg, (.cons (.int .i64) (.cons .str (.cons .str (.cons (.int .i64) (.cons (.int .i64) .nil))))), []⟩, ⟨.c, (.cons (.int .i64) .nil), []⟩]
def o134 : List Grp := [⟨.c, (.cons (.int .i64) .nil), []⟩]
/-- laws.szTx -/
noncomputable def F134 : GD i134 → Option (GD o134) := fun x0 => bif iLt (iSub .i64 x0.2.1.1 (ByteArray.size x0.1.2.1 : Int)) (0:Int) then some (((-1:Int), ()), ()) else bif iLt (iSub .i64 (iSub .i64 x0.2.1.1 (ByteArray.size x0.1.2.1 : Int)) (ByteArray.size x0.1.2.2.1 : Int)) (0:Int) then some (((-1:Int), ()), ()) else some ((iSub .i64 (iSub .i64 x0.2.1.1 (ByteArray.size x0.1.2.1 : Int)) (ByteArray.size x0.1.2.2.1 : Int), ()), ())
noncomputable def c134 : Con := ⟨i134, o134, F134⟩
noncomputable def C134 : Ctx := ⟨20, TT, EE, fun n => none, fun n k => [], fun n => none, fun n => none⟩
theorem q134 : ∀ x, runF C134 Tryz.f134 i134 o134 x = F134 x := by intro x; kernel_rfl
def i48 : List Grp := [⟨.c, (.cons (.sl e182) .nil), []⟩, ⟨.c, (.cons (.int .i64) .nil), []⟩]
def o48 : List Grp := [⟨.c, (.cons (.int .i64) .nil), []⟩]
/-- laws.szTxS -/
noncomputable def F48.b0 (x0 : GD i48) : (v1 : (Int × (Int × Unit))) → Option (Sum (Int × (Int × Unit)) (Sum (Int × (Int × Unit)) (GD o48))) := fun v1 => bif iLt v1.2.1 (List.length x0.1.1 : Int) then (getI x0.1.1 v1.2.1).bind fun x2 => (F134 (x2, ((v1.1, ()), ()))).bind fun y3 => bif iLt y3.1.1 (0:Int) then some (.inr (.inr (((-1:Int), ()), ()))) else some (.inl (y3.1.1, (iAdd .i64 v1.2.1 (1:Int), ()))) else some (.inr (.inl (v1.1, (v1.2.1, ()))))
noncomputable def F48 : GD i48 → Option (GD o48) := fun x0 => bif iLt (iSub .i64 x0.2.1.1 (List.length x0.1.1 : Int)) (0:Int) then some (((-1:Int), ()), ()) else (loopF (F48.b0 x0) (iSub .i64 x0.2.1.1 (List.length x0.1.1 : Int), ((0:Int), ()))).bind fun r5 => Sum.elim (fun v4 => some ((v4.1, ()), ())) some r5
noncomputable def c48 : Con := ⟨i48, o48, F48⟩
noncomputable def C48 : Ctx := ⟨27, TT, EE, fun n => (bif Nat.beq n 134 then some c134 else none), fun n k => [], fun n => (bif Nat.beq n 0 then (some ⟨[(.t 1 (.int .i64) .sh), (.t 5 (.int .i64) .sh)], [4, 12, 13, 14, 15, 16, 17, 18, 19, 20, 21, 22, 23, 24, 25], []⟩) else none), fun n => none⟩
theorem q48 : ∀ x, runF C48 Tryz.f48 i48 o48 x = F48 x := by intro x; kernel_rfl
def i131 : List Grp := [⟨.agg, (.cons (.int .i64) (.cons (.int .i64) (.cons (.int .i64) (.cons .str (.cons (.int .i64) (.cons (.int .i64) (.cons (.sl e9) (.cons (.int .i64) (.cons (.sl e9) (.cons (.sl e3) (.cons (.sl e182) (.cons .bool (.cons (.sl e170) (.cons .str .nil)))))))))))))), []⟩, ⟨.c, (.cons (.int .i64) .nil), []⟩]
def o131 : List Grp := [⟨.c, (.cons (.int .i64) .nil), []⟩]
/-- laws.szBlock -/
noncomputable def F131 : GD i131 → Option (GD o131) := fun x0 => bif iLt (iSub .i64 x0.2.1.1 (ByteArray.size x0.1.2.2.2.1 : Int)) (0:Int) then some (((-1:Int), ()), ()) else (F43 ((x0.1.2.2.2.2.1, (x0.1.2.2.2.2.2.1, (x0.1.2.2.2.2.2.2.1, ()))), ((iSub .i64 x0.2.1.1 (ByteArray.size x0.1.2.2.2.1 : Int), ()), ()))).bind fun y1 => bif iLt y1.1.1 (0:Int) then some (((-1:Int), ()), ()) else (F44 ((x0.1.2.2.2.2.2.2.2.1, (x0.1.2.2.2.2.2.2.2.2.1, (x0.1.2.2.2.2.2.2.2.2.2.1, ()))), (y1.1, ()))).bind fun y2 => bif iLt y2.1.1 (0:Int) then some (((-1:Int), ()), ()) else (F48 ((x0.1.2.2.2.2.2.2.2.2.2.2.1, ()), (y2.1, ()))).bind fun y3 => bif iLt y3.1.1 (0:Int) then some (((-1:Int), ()), ()) else (F41 ((x0.1.2.2.2.2.2.2.2.2.2.2.2.2.1, ()), (y3.1, ()))).bind fun y4 => bif iLt y4.1.1 (0:Int) then some (((-1:Int), ()), ()) else bif iLt (iSub .i64 y4.1.1 (ByteArray.size x0.1.2.2.2.2.2.2.2.2.2.2.2.2.2.1 : Int)) (0:Int) then some (((-1:Int), ()), ()) else some ((iSub .i64 y4.1.1 (ByteArray.size x0.1.2.2.2.2.2.2.2.2.2.2.2.2.2.1 : Int), ()), ())
noncomputable def c131 : Con := ⟨i131, o131, F131⟩
noncomputable def C131 : Ctx := ⟨44, TT, EE, fun n => (bif Nat.ble n 43 then (bif Nat.ble n 41 then (bif Nat.beq n 41 then some c41 else none) else (bif Nat.beq n 43 then some c43 else none)) else (bif Nat.ble n 44 then (bif Nat.beq n 44 then some c44 else none) else (bif Nat.beq n 48 then some c48 else none))), fun n k => [], fun n => none, fun n => none⟩
theorem q131 : ∀ x, runF C131 Tryz.f131 i131 o131 x = F131 x := by intro x; kernel_rfl
def i42 : List Grp := [⟨.c, (.cons (.sl e173) .nil), []⟩, ⟨.c, (.cons (.int .i64) .nil), []⟩]
def o42 : List Grp := [⟨.c, (.cons (.int .i64) .nil), []⟩]
/-- laws.szBlockS -/
noncomputable def F42.b0 (x0 : GD i42) : (v1 : (Int × (Int × Unit))) → Option (Sum (Int × (Int × Unit)) (Sum (Int × (Int × Unit)) (GD o42))) := fun v1 => bif iLt v1.2.1 (List.length x0.1.1 : Int) then (getI x0.1.1 v1.2.1).bind fun x2 => (F131 (x2, ((v1.1, ()), ()))).bind fun y3 => bif iLt y3.1.1 (0:Int) then some (.inr (.inr (((-1:Int), ()), ()))) else some (.inl (y3.1.1, (iAdd .i64 v1.2.1 (1:Int), ()))) else some (.inr (.inl (v1.1, (v1.2.1, ()))))
noncomputable def F42 : GD i42 → Option (GD o42) := fun x0 => bif iLt (iSub .i64 x0.2.1.1 (List.length x0.1.1 : Int)) (0:Int) then some (((-1:Int), ()), ()) else (loopF (F42.b0 x0) (iSub .i64 x0.2.1.1 (List.length x0.1.1 : Int), ((0:Int), ()))).bind fun r5 => Sum.elim (fun v4 => some ((v4.1, ()), ())) some r5
noncomputable def c42 : Con := ⟨i42, o42, F42⟩
noncomputable def C42 : Ctx := ⟨27, TT, EE, fun n => (bif Nat.beq n 131 then some c131 else none), fun n k => [], fun n => (bif Nat.beq n 0 then (some ⟨[(.t 1 (.int .i64) .sh), (.t 5 (.int .i64) .sh)], [4, 12, 13, 14, 15, 16, 17, 18, 19, 20, 21, 22, 23, 24, 25], []⟩) else none), fun n => none⟩
theorem q42 : ∀ x, runF C42 Tryz.f42 i42 o42 x = F42 x := by intro x; kernel_rfl
def i132 : List Grp := [⟨.agg, (.cons (.int .i64) (.cons (.int .i64) (.cons .str .nil))), []⟩, ⟨.c, (.cons (.int .i64) .nil), []⟩]
def o132 : List Grp := [⟨.c, (.cons (.int .i64) .nil), []⟩]
/-- laws.szVote -/
noncomputable def F132 : GD i132 → Option (GD o132) := fun x0 => bif iLt (iSub .i64 x0.2.1.1 (ByteArray.size x0.1.2.2.1 : Int)) (0:Int) then some (((-1:Int), ()), ()) else some ((iSub .i64 x0.2.1.1 (ByteArray.size x0.1.2.2.1 : Int), ()), ())
noncomputable def c132 : Con := ⟨i132, o132, F132⟩
noncomputable def C132 : Ctx := ⟨13, TT, EE, fun n => none, fun n k => [], fun n => none, fun n => none⟩
theorem q132 : ∀ x, runF C132 Tryz.f132 i132 o132 x = F132 x := by intro x; kernel_rfl
def i45 : List Grp := [⟨.c, (.cons (.sl e176) .nil), []⟩, ⟨.c, (.cons (.int .i64) .nil), []⟩]
def o45 : List Grp := [⟨.c, (.cons (.int .i64) .nil), []⟩]
/-- laws.szVoteS -/
noncomputable def F45.b0 (x0 : GD i45) : (v1 : (Int × (Int × Unit))) → Option (Sum (Int × (Int × Unit)) (Sum (Int × (Int × Unit)) (GD o45))) := fun v1 => bif iLt v1.2.1 (List.length x0.1.1 : Int) then (getI x0.1.1 v1.2.1).bind fun x2 => (F132 (x2, ((v1.1, ()), ()))).bind fun y3 => bif iLt y3.1.1 (0:Int) then some (.inr (.inr (((-1:Int), ()), ()))) else some (.inl (y3.1.1, (iAdd .i64 v1.2.1 (1:Int), ()))) else some (.inr (.inl (v1.1, (v1.2.1, ()))))
noncomputable def F45 : GD i45 → Option (GD o45) := fun x0 => bif iLt (iSub .i64 x0.2.1.1 (List.length x0.1.1 : Int)) (0:Int) then some (((-1:Int), ()), ()) else (loopF (F45.b0 x0) (iSub .i64 x0.2.1.1 (List.length x0.1.1 : Int), ((0:Int), ()))).bind fun r5 => Sum.elim (fun v4 => some ((v4.1, ()), ())) some r5
noncomputable def c45 : Con := ⟨i45, o45, F45⟩
noncomputable def C45 : Ctx := ⟨27, TT, EE, fun n => (bif Nat.beq n 132 then some c132 else none), fun n k => [], fun n => (bif Nat.beq n 0 then (some ⟨[(.t 1 (.int .i64) .sh), (.t 5 (.int .i64) .sh)], [4, 12, 13, 14, 15, 16, 17, 18, 19, 20, 21, 22, 23, 24, 25], []⟩) else none), fun n => none⟩
theorem q45 : ∀ x, runF C45 Tryz.f45 i45 o45 x = F45 x := by intro x; kernel_rfl
def i133 : List Grp := [⟨.agg, (.cons (.int .i64) (.cons (.int .i64) (.cons .str .nil))), []⟩, ⟨.c, (.cons (.int .i64) .nil), []⟩]
def o133 : List Grp := [⟨.c, (.cons (.int .i64) .nil), []⟩]
/-- laws.szGone -/
noncomputable def F133 : GD i133 → Option (GD o133) := fun x0 => bif iLt (iSub .i64 x0.2.1.1 (ByteArray.size x0.1.2.2.1 : Int)) (0:Int) then some (((-1:Int), ()), ()) else some ((iSub .i64 x0.2.1.1 (ByteArray.size x0.1.2.2.1 : Int), ()), ())
noncomputable def c133 : Con := ⟨i133, o133, F133⟩
noncomputable def C133 : Ctx := ⟨13, TT, EE, fun n => none, fun n k => [], fun n => none, fun n => none⟩
theorem q133 : ∀ x, runF C133 Tryz.f133 i133 o133 x = F133 x := by intro x; kernel_rfl
def i46 : List Grp := [⟨.c, (.cons (.sl e179) .nil), []⟩, ⟨.c, (.cons (.int .i64) .nil), []⟩]
def o46 : List Grp := [⟨.c, (.cons (.int .i64) .nil), []⟩]
/-- laws.szGoneS -/
noncomputable def F46.b0 (x0 : GD i46) : (v1 : (Int × (Int × Unit))) → Option (Sum (Int × (Int × Unit)) (Sum (Int × (Int × Unit)) (GD o46))) := fun v1 => bif iLt v1.2.1 (List.length x0.1.1 : Int) then (getI x0.1.1 v1.2.1).bind fun x2 => (F133 (x2, ((v1.1, ()), ()))).bind fun y3 => bif iLt y3.1.1 (0:Int) then some (.inr (.inr (((-1:Int), ()), ()))) else some (.inl (y3.1.1, (iAdd .i64 v1.2.1 (1:Int), ()))) else some (.inr (.inl (v1.1, (v1.2.1, ()))))
noncomputable def F46 : GD i46 → Option (GD o46) := fun x0 => bif iLt (iSub .i64 x0.2.1.1 (List.length x0.1.1 : Int)) (0:Int) then some (((-1:Int), ()), ()) else (loopF (F46.b0 x0) (iSub .i64 x0.2.1.1 (List.length x0.1.1 : Int), ((0:Int), ()))).bind fun r5 => Sum.elim (fun v4 => some ((v4.1, ()), ())) some r5
noncomputable def c46 : Con := ⟨i46, o46, F46⟩
noncomputable def C46 : Ctx := ⟨27, TT, EE, fun n => (bif Nat.beq n 133 then some c133 else none), fun n k => [], fun n => (bif Nat.beq n 0 then (some ⟨[(.t 1 (.int .i64) .sh), (.t 5 (.int .i64) .sh)], [4, 12, 13, 14, 15, 16, 17, 18, 19, 20, 21, 22, 23, 24, 25], []⟩) else none), fun n => none⟩
theorem q46 : ∀ x, runF C46 Tryz.f46 i46 o46 x = F46 x := by intro x; kernel_rfl
def i135 : List Grp := [⟨.agg, (.cons (.int .i64) (.cons (.sl e173) (.cons (.int .i64) (.cons (.int .i64) (.cons (.sl e9) .nil))))), []⟩, ⟨.c, (.cons (.int .i64) .nil), []⟩]
def o135 : List Grp := [⟨.c, (.cons (.int .i64) .nil), []⟩]
/-- laws.szProof -/
noncomputable def F135 : GD i135 → Option (GD o135) := fun x0 => (F42 ((x0.1.2.1, ()), (x0.2.1, ()))).bind fun y1 => bif iLt y1.1.1 (0:Int) then some (((-1:Int), ()), ()) else (F43 ((x0.1.2.2.1, (x0.1.2.2.2.1, (x0.1.2.2.2.2.1, ()))), (y1.1, ()))).bind fun y2 => bif iLt y2.1.1 (0:Int) then some (((-1:Int), ()), ()) else some (y2.1, ())
noncomputable def c135 : Con := ⟨i135, o135, F135⟩
noncomputable def C135 : Ctx := ⟨18, TT, EE, fun n => (bif Nat.ble n 42 then (bif Nat.beq n 42 then some c42 else none) else (bif Nat.beq n 43 then some c43 else none)), fun n k => [], fun n => none, fun n => none⟩
theorem q135 : ∀ x, runF C135 Tryz.f135 i135 o135 x = F135 x := by intro x; kernel_rfl
def i49 : List Grp := [⟨.c, (.cons (.sl e185) .nil), []⟩, ⟨.c, (.cons (.int .i64) .nil), []⟩]
def o49 : List Grp := [⟨.c, (.cons (.int .i64) .nil), []⟩]
/-- laws.szProofS -/
noncomputable def F49.b0 (x0 : GD i49) : (v1 : (Int × (Int × Unit))) → Option (Sum (Int × (Int × Unit)) (Sum (Int × (Int × Unit)) (GD o49))) := fun v1 => bif iLt v1.2.1 (List.length x0.1.1 : Int) then (getI x0.1.1 v1.2.1).bind fun x2 => (F135 (x2, ((v1.1, ()), ()))).bind fun y3 => bif iLt y3.1.1 (0:Int) then some (.inr (.inr (((-1:Int), ()), ()))) else some (.inl (y3.1.1, (iAdd .i64 v1.2.1 (1:Int), ()))) else some (.inr (.inl (v1.1, (v1.2.1, ()))))
noncomputable def F49 : GD i49 → Option (GD o49) := fun x0 => bif iLt (iSub .i64 x0.2.1.1 (List.length x0.1.1 : Int)) (0:Int) then some (((-1:Int), ()), ()) else (loopF (F49.b0 x0) (iSub .i64 x0.2.1.1 (List.length x0.1.1 : Int), ((0:Int), ()))).bind fun r5 => Sum.elim (fun v4 => some ((v4.1, ()), ())) some r5
noncomputable def c49 : Con := ⟨i49, o49, F49⟩
noncomputable def C49 : Ctx := ⟨27, TT, EE, fun n => (bif Nat.beq n 135 then some c135 else none), fun n k => [], fun n => (bif Nat.beq n 0 then (some ⟨[(.t 1 (.int .i64) .sh), (.t 5 (.int .i64) .sh)], [4, 12, 13, 14, 15, 16, 17, 18, 19, 20, 21, 22, 23, 24, 25], []⟩) else none), fun n => none⟩
theorem q49 : ∀ x, runF C49 Tryz.f49 i49 o49 x = F49 x := by intro x; kernel_rfl
def i8 : List Grp := [⟨.agg, (.cons .str (.cons (.int .i64) (.cons (.int .i64) (.cons (.sl e225) (.cons (.sl e170) (.cons (.sl e173) (.cons (.int .i64) (.cons (.int .i64) (.cons (.int .i64) (.cons (.int .i64) (.cons (.sl e9) (.cons (.int .i64) (.cons (.sl e9) (.cons (.sl e3) (.cons (.int .i64) (.cons (.sl e176) (.cons (.sl e179) (.cons (.sl e3) (.cons (.sl e182) (.cons (.sl e185) .nil)))))))))))))))))))), []⟩, ⟨.c, (.cons (.int .i64) .nil), []⟩]
def o8 : List Grp := [⟨.c, (.cons (.int .i64) .nil), []⟩]
/-- laws.szNode -/
noncomputable def F8 : GD i8 → Option (GD o8) := fun x0 => bif iLt (iSub .i64 x0.2.1.1 (ByteArray.size x0.1.1 : Int)) (0:Int) then some (((-1:Int), ()), ()) else (F22 ((x0.1.2.2.1, (x0.1.2.2.2.1, ())), ((iSub .i64 x0.2.1.1 (ByteArray.size x0.1.1 : Int), ()), ()))).bind fun y1 => bif iLt y1.1.1 (0:Int) then some (((-1:Int), ()), ()) else (F41 ((x0.1.2.2.2.2.1, ()), (y1.1, ()))).bind fun y2 => bif iLt y2.1.1 (0:Int) then some (((-1:Int), ()), ()) else (F42 ((x0.1.2.2.2.2.2.1, ()), (y2.1, ()))).bind fun y3 => bif iLt y3.1.1 (0:Int) then some (((-1:Int), ()), ()) else (F43 ((x0.1.2.2.2.2.2.2.2.2.1, (x0.1.2.2.2.2.2.2.2.2.2.1, (x0.1.2.2.2.2.2.2.2.2.2.2.1, ()))), (y3.1, ()))).bind fun y4 => bif iLt y4.1.1 (0:Int) then some (((-1:Int), ()), ()) else (F44 ((x0.1.2.2.2.2.2.2.2.2.2.2.2.1, (x0.1.2.2.2.2.2.2.2.2.2.2.2.2.1, (x0.1.2.2.2.2.2.2.2.2.2.2.2.2.2.1, ()))), (y4.1, ()))).bind fun y5 => bif iLt y5.1.1 (0:Int) then some (((-1:Int), ()), ()) else (F45 ((x0.1.2.2.2.2.2.2.2.2.2.2.2.2.2.2.2.1, ()), (y5.1, ()))).bind fun y6 => bif iLt y6.1.1 (0:Int) then some (((-1:Int), ()), ()) else (F46 ((x0.1.2.2.2.2.2.2.2.2.2.2.2.2.2.2.2.2.1, ()), (y6.1, ()))).bind fun y7 => bif iLt y7.1.1 (0:Int) then some (((-1:Int), ()), ()) else (F47 ((x0.1.2.2.2.2.2.2.2.2.2.2.2.2.2.2.2.2.2.1, ()), (y7.1, ()))).bind fun y8 => bif iLt y8.1.1 (0:Int) then some (((-1:Int), ()), ()) else (F48 ((x0.1.2.2.2.2.2.2.2.2.2.2.2.2.2.2.2.2.2.2.1, ()), (y8.1, ()))).bind fun y9 => bif iLt y9.1.1 (0:Int) then some (((-1:Int), ()), ()) else (F49 ((x0.1.2.2.2.2.2.2.2.2.2.2.2.2.2.2.2.2.2.2.2.1, ()), (y9.1, ()))).bind fun y10 => bif iLt y10.1.1 (0:Int) then some (((-1:Int), ()), ()) else some (y10.1, ())
noncomputable def c8 : Con := ⟨i8, o8, F8⟩
noncomputable def C8 : Ctx := ⟨73, TT, EE, fun n => (bif Nat.ble n 44 then (bif Nat.ble n 41 then (bif Nat.ble n 22 then (bif Nat.beq n 22 then some c22 else none) else (bif Nat.beq n 41 then some c41 else none)) else (bif Nat.ble n 42 then (bif Nat.beq n 42 then some c42 else none) else (bif Nat.ble n 43 then (bif Nat.beq n 43 then some c43 else none) else (bif Nat.beq n 44 then some c44 else none)))) else (bif Nat.ble n 46 then (bif Nat.ble n 45 then (bif Nat.beq n 45 then some c45 else none) else (bif Nat.beq n 46 then some c46 else none)) else (bif Nat.ble n 47 then (bif Nat.beq n 47 then some c47 else none) else (bif Nat.ble n 48 then (bif Nat.beq n 48 then some c48 else none) else (bif Nat.beq n 49 then some c49 else none))))), fun n k => [], fun n => none, fun n => none⟩
theorem q8 : ∀ x, runF C8 Tryz.f8 i8 o8 x = F8 x := by intro x; kernel_rfl
def i82 : List Grp := [⟨.c, (.cons (.sl e38) .nil), []⟩, ⟨.c, (.cons (.int .i64) .nil), []⟩]
def o82 : List Grp := [⟨.c, (.cons (.int .i64) .nil), []⟩]
/-- laws.szNodeS -/
noncomputable def F82.b0 (x0 : GD i82) : (v1 : (Int × (Int × Unit))) → Option (Sum (Int × (Int × Unit)) (Sum (Int × (Int × Unit)) (GD o82))) := fun v1 => bif iLt v1.2.1 (List.length x0.1.1 : Int) then (getI x0.1.1 v1.2.1).bind fun x2 => (F8 (x2, ((v1.1, ()), ()))).bind fun y3 => bif iLt y3.1.1 (0:Int) then some (.inr (.inr (((-1:Int), ()), ()))) else some (.inl (y3.1.1, (iAdd .i64 v1.2.1 (1:Int), ()))) else some (.inr (.inl (v1.1, (v1.2.1, ()))))
noncomputable def F82 : GD i82 → Option (GD o82) := fun x0 => bif iLt (iSub .i64 x0.2.1.1 (List.length x0.1.1 : Int)) (0:Int) then some (((-1:Int), ()), ()) else (loopF (F82.b0 x0) (iSub .i64 x0.2.1.1 (List.length x0.1.1 : Int), ((0:Int), ()))).bind fun r5 => Sum.elim (fun v4 => some ((v4.1, ()), ())) some r5
noncomputable def c82 : Con := ⟨i82, o82, F82⟩
noncomputable def C82 : Ctx := ⟨27, TT, EE, fun n => (bif Nat.beq n 8 then some c8 else none), fun n k => [], fun n => (bif Nat.beq n 0 then (some ⟨[(.t 1 (.int .i64) .sh), (.t 5 (.int .i64) .sh)], [4, 12, 13, 14, 15, 16, 17, 18, 19, 20, 21, 22, 23, 24, 25], []⟩) else none), fun n => none⟩
theorem q82 : ∀ x, runF C82 Tryz.f82 i82 o82 x = F82 x := by intro x; kernel_rfl
def i155 : List Grp := [⟨.agg, (.cons (.int .i64) (.cons (.int .i64) (.cons (.int .i64) (.cons (.int .i64) (.cons .str .nil))))), []⟩, ⟨.c, (.cons (.int .i64) .nil), []⟩]
def o155 : List Grp := [⟨.c, (.cons (.int .i64) .nil), []⟩]
/-- laws.szSig -/
noncomputable def F155 : GD i155 → Option (GD o155) := fun x0 => bif iLt (iSub .i64 x0.2.1.1 (ByteArray.size x0.1.2.2.2.2.1 : Int)) (0:Int) then some (((-1:Int), ()), ()) else some ((iSub .i64 x0.2.1.1 (ByteArray.size x0.1.2.2.2.2.1 : Int), ()), ())
noncomputable def c155 : Con := ⟨i155, o155, F155⟩
noncomputable def C155 : Ctx := ⟨13, TT, EE, fun n => none, fun n k => [], fun n => none, fun n => none⟩
theorem q155 : ∀ x, runF C155 Tryz.f155 i155 o155 x = F155 x := by intro x; kernel_rfl
def i83 : List Grp := [⟨.c, (.cons (.sl e208) .nil), []⟩, ⟨.c, (.cons (.int .i64) .nil), []⟩]
def o83 : List Grp := [⟨.c, (.cons (.int .i64) .nil), []⟩]
/-- laws.szSigS -/
noncomputable def F83.b0 (x0 : GD i83) : (v1 : (Int × (Int × Unit))) → Option (Sum (Int × (Int × Unit)) (Sum (Int × (Int × Unit)) (GD o83))) := fun v1 => bif iLt v1.2.1 (List.length x0.1.1 : Int) then (getI x0.1.1 v1.2.1).bind fun x2 => (F155 (x2, ((v1.1, ()), ()))).bind fun y3 => bif iLt y3.1.1 (0:Int) then some (.inr (.inr (((-1:Int), ()), ()))) else some (.inl (y3.1.1, (iAdd .i64 v1.2.1 (1:Int), ()))) else some (.inr (.inl (v1.1, (v1.2.1, ()))))
noncomputable def F83 : GD i83 → Option (GD o83) := fun x0 => bif iLt (iSub .i64 x0.2.1.1 (List.length x0.1.1 : Int)) (0:Int) then some (((-1:Int), ()), ()) else (loopF (F83.b0 x0) (iSub .i64 x0.2.1.1 (List.length x0.1.1 : Int), ((0:Int), ()))).bind fun r5 => Sum.elim (fun v4 => some ((v4.1, ()), ())) some r5
noncomputable def c83 : Con := ⟨i83, o83, F83⟩
noncomputable def C83 : Ctx := ⟨27, TT, EE, fun n => (bif Nat.beq n 155 then some c155 else none), fun n k => [], fun n => (bif Nat.beq n 0 then (some ⟨[(.t 1 (.int .i64) .sh), (.t 5 (.int .i64) .sh)], [4, 12, 13, 14, 15, 16, 17, 18, 19, 20, 21, 22, 23, 24, 25], []⟩) else none), fun n => none⟩
theorem q83 : ∀ x, runF C83 Tryz.f83 i83 o83 x = F83 x := by intro x; kernel_rfl
def i156 : List Grp := [⟨.agg, (.cons (.int .i64) (.cons .str (.cons (.int .i64) (.cons (.sl e173) (.cons (.int .i64) (.cons (.int .i64) (.cons .str (.cons (.int .i64) (.cons (.int .i64) (.cons .str (.cons (.int .i64) (.cons (.int .i64) (.cons (.sl e9) (.cons (.int .i64) (.cons (.sl e9) (.cons (.sl e3) .nil)))))))))))))))), []⟩, ⟨.c, (.cons (.int .i64) .nil), []⟩]
def o156 : List Grp := [⟨.c, (.cons (.int .i64) .nil), []⟩]
/-- laws.szMsg -/
noncomputable def F156 : GD i156 → Option (GD o156) := fun x0 => bif iLt (iSub .i64 x0.2.1.1 (ByteArray.size x0.1.2.1 : Int)) (0:Int) then some (((-1:Int), ()), ()) else (F42 ((x0.1.2.2.2.1, ()), ((iSub .i64 x0.2.1.1 (ByteArray.size x0.1.2.1 : Int), ()), ()))).bind fun y1 => bif iLt y1.1.1 (0:Int) then some (((-1:Int), ()), ()) else (F132 ((x0.1.2.2.2.2.1, (x0.1.2.2.2.2.2.1, (x0.1.2.2.2.2.2.2.1, ()))), (y1.1, ()))).bind fun y2 => bif iLt y2.1.1 (0:Int) then some (((-1:Int), ()), ()) else (F133 ((x0.1.2.2.2.2.2.2.2.1, (x0.1.2.2.2.2.2.2.2.2.1, (x0.1.2.2.2.2.2.2.2.2.2.1, ()))), (y2.1, ()))).bind fun y3 => bif iLt y3.1.1 (0:Int) then some (((-1:Int), ()), ()) else (F43 ((x0.1.2.2.2.2.2.2.2.2.2.2.1, (x0.1.2.2.2.2.2.2.2.2.2.2.2.1, (x0.1.2.2.2.2.2.2.2.2.2.2.2.2.1, ()))), (y3.1, ()))).bind fun y4 => bif iLt y4.1.1 (0:Int) then some (((-1:Int), ()), ()) else (F44 ((x0.1.2.2.2.2.2.2.2.2.2.2.2.2.2.1, (x0.1.2.2.2.2.2.2.2.2.2.2.2.2.2.2.1, (x0.1.2.2.2.2.2.2.2.2.2.2.2.2.2.2.2.1, ()))), (y4.1, ()))).bind fun y5 => bif iLt y5.1.1 (0:Int) then some (((-1:Int), ()), ()) else some (y5.1, ())
noncomputable def c156 : Con := ⟨i156, o156, F156⟩
noncomputable def C156 : Ctx := ⟨43, TT, EE, fun n => (bif Nat.ble n 43 then (bif Nat.ble n 42 then (bif Nat.beq n 42 then some c42 else none) else (bif Nat.beq n 43 then some c43 else none)) else (bif Nat.ble n 44 then (bif Nat.beq n 44 then some c44 else none) else (bif Nat.ble n 132 then (bif Nat.beq n 132 then some c132 else none) else (bif Nat.beq n 133 then some c133 else none)))), fun n k => [], fun n => none, fun n => none⟩
theorem q156 : ∀ x, runF C156 Tryz.f156 i156 o156 x = F156 x := by intro x; kernel_rfl
def i84 : List Grp := [⟨.c, (.cons (.sl e211) .nil), []⟩, ⟨.c, (.cons (.int .i64) .nil), []⟩]
def o84 : List Grp := [⟨.c, (.cons (.int .i64) .nil), []⟩]
/-- laws.szMsgS -/
noncomputable def F84.b0 (x0 : GD i84) : (v1 : (Int × (Int × Unit))) → Option (Sum (Int × (Int × Unit)) (Sum (Int × (Int × Unit)) (GD o84))) := fun v1 => bif iLt v1.2.1 (List.length x0.1.1 : Int) then (getI x0.1.1 v1.2.1).bind fun x2 => (F156 (x2, ((v1.1, ()), ()))).bind fun y3 => bif iLt y3.1.1 (0:Int) then some (.inr (.inr (((-1:Int), ()), ()))) else some (.inl (y3.1.1, (iAdd .i64 v1.2.1 (1:Int), ()))) else some (.inr (.inl (v1.1, (v1.2.1, ()))))
noncomputable def F84 : GD i84 → Option (GD o84) := fun x0 => bif iLt (iSub .i64 x0.2.1.1 (List.length x0.1.1 : Int)) (0:Int) then some (((-1:Int), ()), ()) else (loopF (F84.b0 x0) (iSub .i64 x0.2.1.1 (List.length x0.1.1 : Int), ((0:Int), ()))).bind fun r5 => Sum.elim (fun v4 => some ((v4.1, ()), ())) some r5
noncomputable def c84 : Con := ⟨i84, o84, F84⟩
noncomputable def C84 : Ctx := ⟨27, TT, EE, fun n => (bif Nat.beq n 156 then some c156 else none), fun n k => [], fun n => (bif Nat.beq n 0 then (some ⟨[(.t 1 (.int .i64) .sh), (.t 5 (.int .i64) .sh)], [4, 12, 13, 14, 15, 16, 17, 18, 19, 20, 21, 22, 23, 24, 25], []⟩) else none), fun n => none⟩
theorem q84 : ∀ x, runF C84 Tryz.f84 i84 o84 x = F84 x := by intro x; kernel_rfl
def i17 : List Grp := [⟨.agg, (.cons (.int .i64) (.cons (.sl e225) (.cons (.sl e9) (.cons (.sl e38) (.cons (.sl e173) (.cons (.sl e208) (.cons (.sl e211) .nil))))))), []⟩, ⟨.c, (.cons (.int .i64) .nil), []⟩]
def o17 : List Grp := [⟨.c, (.cons (.int .i64) .nil), []⟩]
/-- laws.szWorld -/
noncomputable def F17 : GD i17 → Option (GD o17) := fun x0 => (F22 ((x0.1.1, (x0.1.2.1, ())), (x0.2.1, ()))).bind fun y1 => bif iLt y1.1.1 (0:Int) then some (((-1:Int), ()), ()) else (F23 ((x0.1.2.2.1, ()), (y1.1, ()))).bind fun y2 => bif iLt y2.1.1 (0:Int) then some (((-1:Int), ()), ()) else (F82 ((x0.1.2.2.2.1, ()), (y2.1, ()))).bind fun y3 => bif iLt y3.1.1 (0:Int) then some (((-1:Int), ()), ()) else (F42 ((x0.1.2.2.2.2.1, ()), (y3.1, ()))).bind fun y4 => bif iLt y4.1.1 (0:Int) then some (((-1:Int), ()), ()) else (F83 ((x0.1.2.2.2.2.2.1, ()), (y4.1, ()))).bind fun y5 => bif iLt y5.1.1 (0:Int) then some (((-1:Int), ()), ()) else (F84 ((x0.1.2.2.2.2.2.2.1, ()), (y5.1, ()))).bind fun y6 => bif iLt y6.1.1 (0:Int) then some (((-1:Int), ()), ()) else some (y6.1, ())
noncomputable def c17 : Con := ⟨i17, o17, F17⟩
noncomputable def C17 : Ctx := ⟨42, TT, EE, fun n => (bif Nat.ble n 42 then (bif Nat.ble n 22 then (bif Nat.beq n 22 then some c22 else none) else (bif Nat.ble n 23 then (bif Nat.beq n 23 then some c23 else none) else (bif Nat.beq n 42 then some c42 else none))) else (bif Nat.ble n 82 then (bif Nat.beq n 82 then some c82 else none) else (bif Nat.ble n 83 then (bif Nat.beq n 83 then some c83 else none) else (bif Nat.beq n 84 then some c84 else none)))), fun n k => [], fun n => none, fun n => none⟩
theorem q17 : ∀ x, runF C17 Tryz.f17 i17 o17 x = F17 x := by intro x; kernel_rfl
def i229 : List Grp := [⟨.agg, (.cons (.int .i64) (.cons (.int .i64) .nil)), []⟩]
def o229 : List Grp := [⟨.agg, (.cons (.int .i64) (.cons (.int .i64) .nil)), []⟩]
/-- laws.toLeave -/
noncomputable def F229 : GD i229 → Option (GD o229) := fun x0 => some (x0.1, ())
noncomputable def c229 : Con := ⟨i229, o229, F229⟩
noncomputable def C229 : Ctx := ⟨11, TT, EE, fun n => none, fun n k => [], fun n => none, fun n => none⟩
theorem q229 : ∀ x, runF C229 Tryz.f229 i229 o229 x = F229 x := by intro x; kernel_rfl
def i208 : List Grp := [⟨.c, (.cons (.sl e264) .nil), []⟩]
def o208 : List Grp := [⟨.c, (.cons (.sl e248) .nil), [(.own [])]⟩]
/-- laws.toLeaveS -/
noncomputable def F208.b0 (x0 : GD i208) : (v1 : (Int × (List (Tys.D e248) × Unit))) → Option (Sum (Int × (List (Tys.D e248) × Unit)) (Sum (Int × (List (Tys.D e248) × Unit)) (GD o208))) := fun v1 => bif iLt v1.1 (List.length x0.1.1 : Int) then (getI x0.1.1 v1.1).bind fun x2 => (F229 (x2, ())).bind fun y3 => (getI v1.2.1 v1.1).bind fun _ => (getN v1.2.1 (Int.toNat v1.1)).bind fun x4 => some (.inl (iAdd .i64 v1.1 (1:Int), (List.set v1.2.1 (Int.toNat v1.1) (y3.1.1, (y3.1.2.1, ())), ()))) else some (.inr (.inl (v1.1, (v1.2.1, ()))))
noncomputable def F208 : GD i208 → Option (GD o208) := fun x0 => bif mkOk (List.length x0.1.1 : Int) (List.length x0.1.1 : Int) 16 then (loopF (F208.b0 x0) ((0:Int), (List.replicate (Int.toNat (List.length x0.1.1 : Int)) ((0:Int), ((0:Int), ())), ()))).bind fun r6 => Sum.elim (fun v5 => some ((v5.2.1, ()), ())) some r6 else none
noncomputable def c208 : Con := ⟨i208, o208, F208⟩
noncomputable def C208 : Ctx := ⟨23, TT, EE, fun n => (bif Nat.beq n 229 then some c229 else none), fun n k => [], fun n => (bif Nat.beq n 0 then (some ⟨[(.t 4 (.int .i64) .sh), (.r 8192 e248 [])], [8, 9, 10, 11, 12, 13, 14, 15, 16, 17, 18, 19, 20, 21], []⟩) else none), fun n => none⟩
theorem q208 : ∀ x, runF C208 Tryz.f208 i208 o208 x = F208 x := by intro x; kernel_rfl
def i171 : List Grp := [⟨.agg, (.cons .str (.cons (.int .i64) (.cons (.int .i64) (.cons (.int .i64) (.cons (.sl e264) .nil))))), []⟩]
def o171 : List Grp := [⟨.agg, (.cons .str (.cons (.int .i64) (.cons (.int .i64) (.cons (.int .i64) (.cons (.sl e248) .nil))))), [.sh, .sh, .sh, .sh, (.own [])]⟩]
/-- laws.toAcct -/
noncomputable def F171 : GD i171 → Option (GD o171) := fun x0 => (F208 ((x0.1.2.2.2.2.1, ()), ())).bind fun y1 => some ((x0.1.1, (x0.1.2.1, (x0.1.2.2.1, (x0.1.2.2.2.1, (y1.1.1, ()))))), ())
noncomputable def c171 : Con := ⟨i171, o171, F171⟩
noncomputable def C171 : Ctx := ⟨21, TT, EE, fun n => (bif Nat.beq n 208 then some c208 else none), fun n k => [], fun n => none, fun n => none⟩
theorem q171 : ∀ x, runF C171 Tryz.f171 i171 o171 x = F171 x := by intro x; kernel_rfl
def i101 : List Grp := [⟨.c, (.cons (.sl e225) .nil), []⟩]
def o101 : List Grp := [⟨.c, (.cons (.sl e153) .nil), [(.own [.sh, .sh, .sh, .sh, (.own [])])]⟩]
/-- laws.toAcctS -/
noncomputable def F101.b0 (x0 : GD i101) : (v1 : (Int × (List (Tys.D e153) × Unit))) → Option (Sum (Int × (List (Tys.D e153) × Unit)) (Sum (Int × (List (Tys.D e153) × Unit)) (GD o101))) := fun v1 => bif iLt v1.1 (List.length x0.1.1 : Int) then (getI x0.1.1 v1.1).bind fun x2 => (F171 (x2, ())).bind fun y3 => (getI v1.2.1 v1.1).bind fun _ => (getN v1.2.1 (Int.toNat v1.1)).bind fun x4 => some (.inl (iAdd .i64 v1.1 (1:Int), (List.set v1.2.1 (Int.toNat v1.1) (y3.1.1, (y3.1.2.1, (y3.1.2.2.1, (y3.1.2.2.2.1, (y3.1.2.2.2.2.1, ()))))), ()))) else some (.inr (.inl (v1.1, (v1.2.1, ()))))
noncomputable def F101 : GD i101 → Option (GD o101) := fun x0 => bif mkOk (List.length x0.1.1 : Int) (List.length x0.1.1 : Int) 64 then (loopF (F101.b0 x0) ((0:Int), (List.replicate (Int.toNat (List.length x0.1.1 : Int)) (⟨#[]⟩, ((0:Int), ((0:Int), ((0:Int), ([], ()))))), ()))).bind fun r6 => Sum.elim (fun v5 => some ((v5.2.1, ()), ())) some r6 else none
noncomputable def c101 : Con := ⟨i101, o101, F101⟩
noncomputable def C101 : Ctx := ⟨23, TT, EE, fun n => (bif Nat.beq n 171 then some c171 else none), fun n k => (bif Nat.beq n 1 then (match k with | 2 => [.sh, .sh, .sh, .sh, (.own [])] | _ => []) else []), fun n => (bif Nat.beq n 0 then (some ⟨[(.t 4 (.int .i64) .sh), (.r 8192 e153 [.sh, .sh, .sh, .sh, (.own [])])], [8, 9, 10, 11, 12, 13, 14, 15, 16, 17, 18, 19, 20, 21], []⟩) else none), fun n => none⟩
theorem q101 : ∀ x, runF C101 Tryz.f101 i101 o101 x = F101 x := by intro x; kernel_rfl
def i25 : List Grp := [⟨.agg, (.cons (.int .i64) (.cons (.sl e225) .nil)), []⟩]
def o25 : List Grp := [⟨.agg, (.cons (.int .i64) (.cons (.sl e153) .nil)), [.sh, (.own [.sh, .sh, .sh, .sh, (.own [])])]⟩]
/-- laws.toLedger -/
noncomputable def F25 : GD i25 → Option (GD o25) := fun x0 => (F101 ((x0.1.2.1, ()), ())).bind fun y1 => some ((x0.1.1, (y1.1.1, ())), ())
noncomputable def c25 : Con := ⟨i25, o25, F25⟩
noncomputable def C25 : Ctx := ⟨12, TT, EE, fun n => (bif Nat.beq n 101 then some c101 else none), fun n k => [], fun n => none, fun n => none⟩
theorem q25 : ∀ x, runF C25 Tryz.f25 i25 o25 x = F25 x := by intro x; kernel_rfl
def i26 : List Grp := [⟨.c, (.cons (.sl e9) .nil), []⟩]
def o26 : List Grp := [⟨.c, (.cons (.sl e9) .nil), [(.own [])]⟩]
/-- laws.toStringS -/
noncomputable def F26.b0 (x0 : GD i26) : (v1 : (Int × (List (Tys.D e9) × Unit))) → Option (Sum (Int × (List (Tys.D e9) × Unit)) (Sum (Int × (List (Tys.D e9) × Unit)) (GD o26))) := fun v1 => bif iLt v1.1 (List.length x0.1.1 : Int) then (getI x0.1.1 v1.1).bind fun x2 => (getI v1.2.1 v1.1).bind fun _ => (getN v1.2.1 (Int.toNat v1.1)).bind fun x3 => some (.inl (iAdd .i64 v1.1 (1:Int), (List.set v1.2.1 (Int.toNat v1.1) (x2.1, ()), ()))) else some (.inr (.inl (v1.1, (v1.2.1, ()))))
noncomputable def F26 : GD i26 → Option (GD o26) := fun x0 => bif mkOk (List.length x0.1.1 : Int) (List.length x0.1.1 : Int) 16 then (loopF (F26.b0 x0) ((0:Int), (List.replicate (Int.toNat (List.length x0.1.1 : Int)) (⟨#[]⟩, ()), ()))).bind fun r5 => Sum.elim (fun v4 => some ((v4.2.1, ()), ())) some r5 else none
noncomputable def c26 : Con := ⟨i26, o26, F26⟩
noncomputable def C26 : Ctx := ⟨22, TT, EE, fun n => none, fun n k => [], fun n => (bif Nat.beq n 0 then (some ⟨[(.t 4 (.int .i64) .sh), (.r 8192 e9 [])], [8, 9, 10, 11, 12, 13, 14, 15, 16, 17, 18, 19, 20], []⟩) else none), fun n => none⟩
theorem q26 : ∀ x, runF C26 Tryz.f26 i26 o26 x = F26 x := by intro x; kernel_rfl
def i138 : List Grp := [⟨.agg, (.cons .str (.cons (.int .i64) .nil)), []⟩]
def o138 : List Grp := [⟨.agg, (.cons .str (.cons (.int .i64) .nil)), []⟩]
/-- laws.toVal -/
noncomputable def F138 : GD i138 → Option (GD o138) := fun x0 => some (x0.1, ())
noncomputable def c138 : Con := ⟨i138, o138, F138⟩
noncomputable def C138 : Ctx := ⟨11, TT, EE, fun n => none, fun n k => [], fun n => none, fun n => none⟩
theorem q138 : ∀ x, runF C138 Tryz.f138 i138 o138 x = F138 x := by intro x; kernel_rfl
def i51 : List Grp := [⟨.c, (.cons (.sl e170) .nil), []⟩]
def o51 : List Grp := [⟨.c, (.cons (.sl e188) .nil), [(.own [])]⟩]
/-- laws.toValS -/
noncomputable def F51.b0 (x0 : GD i51) : (v1 : (Int × (List (Tys.D e188) × Unit))) → Option (Sum (Int × (List (Tys.D e188) × Unit)) (Sum (Int × (List (Tys.D e188) × Unit)) (GD o51))) := fun v1 => bif iLt v1.1 (List.length x0.1.1 : Int) then (getI x0.1.1 v1.1).bind fun x2 => (F138 (x2, ())).bind fun y3 => (getI v1.2.1 v1.1).bind fun _ => (getN v1.2.1 (Int.toNat v1.1)).bind fun x4 => some (.inl (iAdd .i64 v1.1 (1:Int), (List.set v1.2.1 (Int.toNat v1.1) (y3.1.1, (y3.1.2.1, ())), ()))) else some (.inr (.inl (v1.1, (v1.2.1, ()))))
noncomputable def F51 : GD i51 → Option (GD o51) := fun x0 => bif mkOk (List.length x0.1.1 : Int) (List.length x0.1.1 : Int) 24 then (loopF (F51.b0 x0) ((0:Int), (List.replicate (Int.toNat (List.length x0.1.1 : Int)) (⟨#[]⟩, ((0:Int), ())), ()))).bind fun r6 => Sum.elim (fun v5 => some ((v5.2.1, ()), ())) some r6 else none
noncomputable def c51 : Con := ⟨i51, o51, F51⟩
noncomputable def C51 : Ctx := ⟨23, TT, EE, fun n => (bif Nat.beq n 138 then some c138 else none), fun n k => [], fun n => (bif Nat.beq n 0 then (some ⟨[(.t 4 (.int .i64) .sh), (.r 8192 e188 [])], [8, 9, 10, 11, 12, 13, 14, 15, 16, 17, 18, 19, 20, 21], []⟩) else none), fun n => none⟩
theorem q51 : ∀ x, runF C51 Tryz.f51 i51 o51 x = F51 x := by intro x; kernel_rfl
def i53 : List Grp := [⟨.agg, (.cons (.int .i64) (.cons (.int .i64) (.cons (.sl e9) .nil))), []⟩]
def o53 : List Grp := [⟨.agg, (.cons (.int .i64) (.cons (.int .i64) (.cons (.sl e9) .nil))), [.sh, .sh, (.own [])]⟩]
/-- laws.toQc -/
noncomputable def F53 : GD i53 → Option (GD o53) := fun x0 => (F26 ((x0.1.2.2.1, ()), ())).bind fun y1 => some ((x0.1.1, (x0.1.2.1, (y1.1.1, ()))), ())
noncomputable def c53 : Con := ⟨i53, o53, F53⟩
noncomputable def C53 : Ctx := ⟨15, TT, EE, fun n => (bif Nat.beq n 26 then some c26 else none), fun n k => [], fun n => none, fun n => none⟩
theorem q53 : ∀ x, runF C53 Tryz.f53 i53 o53 x = F53 x := by intro x; kernel_rfl
def i57 : List Grp := [⟨.c, (.cons (.sl e3) .nil), []⟩]
def o57 : List Grp := [⟨.c, (.cons (.sl e3) .nil), [(.own [])]⟩]
/-- laws.toIntS -/
noncomputable def F57.b0 (x0 : GD i57) : (v1 : (Int × (List (Tys.D e3) × Unit))) → Option (Sum (Int × (List (Tys.D e3) × Unit)) (Sum (Int × (List (Tys.D e3) × Unit)) (GD o57))) := fun v1 => bif iLt v1.1 (List.length x0.1.1 : Int) then (getI x0.1.1 v1.1).bind fun x2 => (getI v1.2.1 v1.1).bind fun _ => (getN v1.2.1 (Int.toNat v1.1)).bind fun x3 => some (.inl (iAdd .i64 v1.1 (1:Int), (List.set v1.2.1 (Int.toNat v1.1) (x2.1, ()), ()))) else some (.inr (.inl (v1.1, (v1.2.1, ()))))
noncomputable def F57 : GD i57 → Option (GD o57) := fun x0 => bif mkOk (List.length x0.1.1 : Int) (List.length x0.1.1 : Int) 8 then (loopF (F57.b0 x0) ((0:Int), (List.replicate (Int.toNat (List.length x0.1.1 : Int)) ((0:Int), ()), ()))).bind fun r5 => Sum.elim (fun v4 => some ((v4.2.1, ()), ())) some r5 else none
noncomputable def c57 : Con := ⟨i57, o57, F57⟩
noncomputable def C57 : Ctx := ⟨22, TT, EE, fun n => none, fun n k => [], fun n => (bif Nat.beq n 0 then (some ⟨[(.t 4 (.int .i64) .sh), (.r 8192 e3 [])], [8, 9, 10, 11, 12, 13, 14, 15, 16, 17, 18, 19, 20], []⟩) else none), fun n => none⟩
theorem q57 : ∀ x, runF C57 Tryz.f57 i57 o57 x = F57 x := by intro x; kernel_rfl
def i54 : List Grp := [⟨.agg, (.cons (.int .i64) (.cons (.sl e9) (.cons (.sl e3) .nil))), []⟩]
def o54 : List Grp := [⟨.agg, (.cons (.int .i64) (.cons (.sl e9) (.cons (.sl e3) .nil))), [.sh, (.own []), (.own [])]⟩]
/-- laws.toTc -/
noncomputable def F54 : GD i54 → Option (GD o54) := fun x0 => (F26 ((x0.1.2.1, ()), ())).bind fun y1 => (F57 ((x0.1.2.2.1, ()), ())).bind fun y2 => some ((x0.1.1, (y1.1.1, (y2.1.1, ()))), ())
noncomputable def c54 : Con := ⟨i54, o54, F54⟩
noncomputable def C54 : Ctx := ⟨16, TT, EE, fun n => (bif Nat.ble n 26 then (bif Nat.beq n 26 then some c26 else none) else (bif Nat.beq n 57 then some c57 else none)), fun n k => [], fun n => none, fun n => none⟩
theorem q54 : ∀ x, runF C54 Tryz.f54 i54 o54 x = F54 x := by intro x; kernel_rfl
def i142 : List Grp := [⟨.agg, (.cons (.int .i64) (.cons .str (.cons .str (.cons (.int .i64) (.cons (.int .i64) .nil))))), []⟩]
def o142 : List Grp := [⟨.agg, (.cons (.int .i64) (.cons .str (.cons .str (.cons (.int .i64) (.cons (.int .i64) .nil))))), []⟩]
/-- laws.toTx -/
noncomputable def F142 : GD i142 → Option (GD o142) := fun x0 => some (x0.1, ())
noncomputable def c142 : Con := ⟨i142, o142, F142⟩
noncomputable def C142 : Ctx := ⟨20, TT, EE, fun n => none, fun n k => [], fun n => none, fun n => none⟩
theorem q142 : ∀ x, runF C142 Tryz.f142 i142 o142 x = F142 x := by intro x; kernel_rfl
def i58 : List Grp := [⟨.c, (.cons (.sl e182) .nil), []⟩]
def o58 : List Grp := [⟨.c, (.cons (.sl e195) .nil), [(.own [])]⟩]
/-- laws.toTxS -/
noncomputable def F58.b0 (x0 : GD i58) : (v1 : (Int × (List (Tys.D e195) × Unit))) → Option (Sum (Int × (List (Tys.D e195) × Unit)) (Sum (Int × (List (Tys.D e195) × Unit)) (GD o58))) := fun v1 => bif iLt v1.1 (List.length x0.1.1 : Int) then (getI x0.1.1 v1.1).bind fun x2 => (F142 (x2, ())).bind fun y3 => (getI v1.2.1 v1.1).bind fun _ => (getN v1.2.1 (Int.toNat v1.1)).bind fun x4 => some (.inl (iAdd .i64 v1.1 (1:Int), (List.set v1.2.1 (Int.toNat v1.1) (y3.1.1, (y3.1.2.1, (y3.1.2.2.1, (y3.1.2.2.2.1, (y3.1.2.2.2.2.1, ()))))), ()))) else some (.inr (.inl (v1.1, (v1.2.1, ()))))
noncomputable def F58 : GD i58 → Option (GD o58) := fun x0 => bif mkOk (List.length x0.1.1 : Int) (List.length x0.1.1 : Int) 56 then (loopF (F58.b0 x0) ((0:Int), (List.replicate (Int.toNat (List.length x0.1.1 : Int)) ((0:Int), (⟨#[]⟩, (⟨#[]⟩, ((0:Int), ((0:Int), ()))))), ()))).bind fun r6 => Sum.elim (fun v5 => some ((v5.2.1, ()), ())) some r6 else none
noncomputable def c58 : Con := ⟨i58, o58, F58⟩
noncomputable def C58 : Ctx := ⟨23, TT, EE, fun n => (bif Nat.beq n 142 then some c142 else none), fun n k => [], fun n => (bif Nat.beq n 0 then (some ⟨[(.t 4 (.int .i64) .sh), (.r 8192 e195 [])], [8, 9, 10, 11, 12, 13, 14, 15, 16, 17, 18, 19, 20, 21], []⟩) else none), fun n => none⟩
theorem q58 : ∀ x, runF C58 Tryz.f58 i58 o58 x = F58 x := by intro x; kernel_rfl
def i139 : List Grp := [⟨.agg, (.cons (.int .i64) (.cons (.int .i64) (.cons (.int .i64) (.cons .str (.cons (.int .i64) (.cons (.int .i64) (.cons (.sl e9) (.cons (.int .i64) (.cons (.sl e9) (.cons (.sl e3) (.cons (.sl e182) (.cons .bool (.cons (.sl e170) (.cons .str .nil)))))))))))))), []⟩]
def o139 : List Grp := [⟨.agg, (.cons (.int .i64) (.cons (.int .i64) (.cons (.int .i64) (.cons .str (.cons (.int .i64) (.cons (.int .i64) (.cons (.sl e9) (.cons (.int .i64) (.cons (.sl e9) (.cons (.sl e3) (.cons (.sl e195) (.cons .bool (.cons (.sl e188) (.cons .str .nil)))))))))))))), [.sh, .sh, .sh, .sh, .sh, .sh, (.own []), .sh, (.own []), (.own []), (.own []), .sh, (.own [])]⟩]
/-- laws.toBlock -/
noncomputable def F139 : GD i139 → Option (GD o139) := fun x0 => (F53 ((x0.1.2.2.2.2.1, (x0.1.2.2.2.2.2.1, (x0.1.2.2.2.2.2.2.1, ()))), ())).bind fun y1 => (F54 ((x0.1.2.2.2.2.2.2.2.1, (x0.1.2.2.2.2.2.2.2.2.1, (x0.1.2.2.2.2.2.2.2.2.2.1, ()))), ())).bind fun y2 => (F58 ((x0.1.2.2.2.2.2.2.2.2.2.2.1, ()), ())).bind fun y3 => (F51 ((x0.1.2.2.2.2.2.2.2.2.2.2.2.2.1, ()), ())).bind fun y4 => some ((x0.1.1, (x0.1.2.1, (x0.1.2.2.1, (x0.1.2.2.2.1, (y1.1.1, (y1.1.2.1, (y1.1.2.2.1, (y2.1.1, (y2.1.2.1, (y2.1.2.2.1, (y3.1.1, (x0.1.2.2.2.2.2.2.2.2.2.2.2.1, (y4.1.1, (x0.1.2.2.2.2.2.2.2.2.2.2.2.2.2.1, ())))))))))))))), ())
noncomputable def c139 : Con := ⟨i139, o139, F139⟩
noncomputable def C139 : Ctx := ⟨39, TT, EE, fun n => (bif Nat.ble n 53 then (bif Nat.ble n 51 then (bif Nat.beq n 51 then some c51 else none) else (bif Nat.beq n 53 then some c53 else none)) else (bif Nat.ble n 54 then (bif Nat.beq n 54 then some c54 else none) else (bif Nat.beq n 58 then some c58 else none))), fun n k => [], fun n => none, fun n => none⟩
theorem q139 : ∀ x, runF C139 Tryz.f139 i139 o139 x = F139 x := by intro x; kernel_rfl
def i52 : List Grp := [⟨.c, (.cons (.sl e173) .nil), []⟩]
def o52 : List Grp := [⟨.c, (.cons (.sl e138) .nil), [(.own [.sh, .sh, .sh, .sh, .sh, .sh, (.own []), .sh, (.own []), (.own []), (.own []), .sh, (.own [])])]⟩]
/-- laws.toBlockS -/
noncomputable def F52.b0 (x0 : GD i52) : (v1 : (Int × (List (Tys.D e138) × Unit))) → Option (Sum (Int × (List (Tys.D e138) × Unit)) (Sum (Int × (List (Tys.D e138) × Unit)) (GD o52))) := fun v1 => bif iLt v1.1 (List.length x0.1.1 : Int) then (getI x0.1.1 v1.1).bind fun x2 => (F139 (x2, ())).bind fun y3 => (getI v1.2.1 v1.1).bind fun _ => (getN v1.2.1 (Int.toNat v1.1)).bind fun x4 => some (.inl (iAdd .i64 v1.1 (1:Int), (List.set v1.2.1 (Int.toNat v1.1) (y3.1.1, (y3.1.2.1, (y3.1.2.2.1, (y3.1.2.2.2.1, (y3.1.2.2.2.2.1, (y3.1.2.2.2.2.2.1, (y3.1.2.2.2.2.2.2.1, (y3.1.2.2.2.2.2.2.2.1, (y3.1.2.2.2.2.2.2.2.2.1, (y3.1.2.2.2.2.2.2.2.2.2.1, (y3.1.2.2.2.2.2.2.2.2.2.2.1, (y3.1.2.2.2.2.2.2.2.2.2.2.2.1, (y3.1.2.2.2.2.2.2.2.2.2.2.2.2.1, (y3.1.2.2.2.2.2.2.2.2.2.2.2.2.2.1, ())))))))))))))), ()))) else some (.inr (.inl (v1.1, (v1.2.1, ()))))
noncomputable def F52 : GD i52 → Option (GD o52) := fun x0 => bif mkOk (List.length x0.1.1 : Int) (List.length x0.1.1 : Int) 208 then (loopF (F52.b0 x0) ((0:Int), (List.replicate (Int.toNat (List.length x0.1.1 : Int)) ((0:Int), ((0:Int), ((0:Int), (⟨#[]⟩, ((0:Int), ((0:Int), ([], ((0:Int), ([], ([], ([], (false, ([], (⟨#[]⟩, ())))))))))))))), ()))).bind fun r6 => Sum.elim (fun v5 => some ((v5.2.1, ()), ())) some r6 else none
noncomputable def c52 : Con := ⟨i52, o52, F52⟩
noncomputable def C52 : Ctx := ⟨23, TT, EE, fun n => (bif Nat.beq n 139 then some c139 else none), fun n k => (bif Nat.beq n 1 then (match k with | 2 => [.sh, .sh, .sh, .sh, .sh, .sh, (.own []), .sh, (.own []), (.own []), (.own []), .sh, (.own [])] | _ => []) else []), fun n => (bif Nat.beq n 0 then (some ⟨[(.t 4 (.int .i64) .sh), (.r 8192 e138 [.sh, .sh, .sh, .sh, .sh, .sh, (.own []), .sh, (.own []), (.own []), (.own []), .sh, (.own [])])], [8, 9, 10, 11, 12, 13, 14, 15, 16, 17, 18, 19, 20, 21], []⟩) else none), fun n => none⟩
theorem q52 : ∀ x, runF C52 Tryz.f52 i52 o52 x = F52 x := by intro x; kernel_rfl
def i140 : List Grp := [⟨.agg, (.cons (.int .i64) (.cons (.int .i64) (.cons .str .nil))), []⟩]
def o140 : List Grp := [⟨.agg, (.cons (.int .i64) (.cons (.int .i64) (.cons .str .nil))), []⟩]
/-- laws.toVote -/
noncomputable def F140 : GD i140 → Option (GD o140) := fun x0 => some (x0.1, ())
noncomputable def c140 : Con := ⟨i140, o140, F140⟩
noncomputable def C140 : Ctx := ⟨14, TT, EE, fun n => none, fun n k => [], fun n => none, fun n => none⟩
theorem q140 : ∀ x, runF C140 Tryz.f140 i140 o140 x = F140 x := by intro x; kernel_rfl
def i55 : List Grp := [⟨.c, (.cons (.sl e176) .nil), []⟩]
def o55 : List Grp := [⟨.c, (.cons (.sl e191) .nil), [(.own [])]⟩]
/-- laws.toVoteS -/
noncomputable def F55.b0 (x0 : GD i55) : (v1 : (Int × (List (Tys.D e191) × Unit))) → Option (Sum (Int × (List (Tys.D e191) × Unit)) (Sum (Int × (List (Tys.D e191) × Unit)) (GD o55))) := fun v1 => bif iLt v1.1 (List.length x0.1.1 : Int) then (getI x0.1.1 v1.1).bind fun x2 => (F140 (x2, ())).bind fun y3 => (getI v1.2.1 v1.1).bind fun _ => (getN v1.2.1 (Int.toNat v1.1)).bind fun x4 => some (.inl (iAdd .i64 v1.1 (1:Int), (List.set v1.2.1 (Int.toNat v1.1) (y3.1.1, (y3.1.2.1, (y3.1.2.2.1, ()))), ()))) else some (.inr (.inl (v1.1, (v1.2.1, ()))))
noncomputable def F55 : GD i55 → Option (GD o55) := fun x0 => bif mkOk (List.length x0.1.1 : Int) (List.length x0.1.1 : Int) 32 then (loopF (F55.b0 x0) ((0:Int), (List.replicate (Int.toNat (List.length x0.1.1 : Int)) ((0:Int), ((0:Int), (⟨#[]⟩, ()))), ()))).bind fun r6 => Sum.elim (fun v5 => some ((v5.2.1, ()), ())) some r6 else none
noncomputable def c55 : Con := ⟨i55, o55, F55⟩
noncomputable def C55 : Ctx := ⟨23, TT, EE, fun n => (bif Nat.beq n 140 then some c140 else none), fun n k => [], fun n => (bif Nat.beq n 0 then (some ⟨[(.t 4 (.int .i64) .sh), (.r 8192 e191 [])], [8, 9, 10, 11, 12, 13, 14, 15, 16, 17, 18, 19, 20, 21], []⟩) else none), fun n => none⟩
theorem q55 : ∀ x, runF C55 Tryz.f55 i55 o55 x = F55 x := by intro x; kernel_rfl
def i141 : List Grp := [⟨.agg, (.cons (.int .i64) (.cons (.int .i64) (.cons .str .nil))), []⟩]
def o141 : List Grp := [⟨.agg, (.cons (.int .i64) (.cons (.int .i64) (.cons .str .nil))), []⟩]
/-- laws.toGone -/
noncomputable def F141 : GD i141 → Option (GD o141) := fun x0 => some (x0.1, ())
noncomputable def c141 : Con := ⟨i141, o141, F141⟩
noncomputable def C141 : Ctx := ⟨14, TT, EE, fun n => none, fun n k => [], fun n => none, fun n => none⟩
theorem q141 : ∀ x, runF C141 Tryz.f141 i141 o141 x = F141 x := by intro x; kernel_rfl
def i56 : List Grp := [⟨.c, (.cons (.sl e179) .nil), []⟩]
def o56 : List Grp := [⟨.c, (.cons (.sl e193) .nil), [(.own [])]⟩]
/-- laws.toGoneS -/
noncomputable def F56.b0 (x0 : GD i56) : (v1 : (Int × (List (Tys.D e193) × Unit))) → Option (Sum (Int × (List (Tys.D e193) × Unit)) (Sum (Int × (List (Tys.D e193) × Unit)) (GD o56))) := fun v1 => bif iLt v1.1 (List.length x0.1.1 : Int) then (getI x0.1.1 v1.1).bind fun x2 => (F141 (x2, ())).bind fun y3 => (getI v1.2.1 v1.1).bind fun _ => (getN v1.2.1 (Int.toNat v1.1)).bind fun x4 => some (.inl (iAdd .i64 v1.1 (1:Int), (List.set v1.2.1 (Int.toNat v1.1) (y3.1.1, (y3.1.2.1, (y3.1.2.2.1, ()))), ()))) else some (.inr (.inl (v1.1, (v1.2.1, ()))))
noncomputable def F56 : GD i56 → Option (GD o56) := fun x0 => bif mkOk (List.length x0.1.1 : Int) (List.length x0.1.1 : Int) 32 then (loopF (F56.b0 x0) ((0:Int), (List.replicate (Int.toNat (List.length x0.1.1 : Int)) ((0:Int), ((0:Int), (⟨#[]⟩, ()))), ()))).bind fun r6 => Sum.elim (fun v5 => some ((v5.2.1, ()), ())) some r6 else none
noncomputable def c56 : Con := ⟨i56, o56, F56⟩
noncomputable def C56 : Ctx := ⟨23, TT, EE, fun n => (bif Nat.beq n 141 then some c141 else none), fun n k => [], fun n => (bif Nat.beq n 0 then (some ⟨[(.t 4 (.int .i64) .sh), (.r 8192 e193 [])], [8, 9, 10, 11, 12, 13, 14, 15, 16, 17, 18, 19, 20, 21], []⟩) else none), fun n => none⟩
theorem q56 : ∀ x, runF C56 Tryz.f56 i56 o56 x = F56 x := by intro x; kernel_rfl
def i143 : List Grp := [⟨.agg, (.cons (.int .i64) (.cons (.sl e173) (.cons (.int .i64) (.cons (.int .i64) (.cons (.sl e9) .nil))))), []⟩]
def o143 : List Grp := [⟨.agg, (.cons (.int .i64) (.cons (.sl e138) (.cons (.int .i64) (.cons (.int .i64) (.cons (.sl e9) .nil))))), [.sh, (.own [.sh, .sh, .sh, .sh, .sh, .sh, (.own []), .sh, (.own []), (.own []), (.own []), .sh, (.own [])]), .sh, .sh, (.own [])]⟩]
/-- laws.toProof -/
noncomputable def F143 : GD i143 → Option (GD o143) := fun x0 => (F52 ((x0.1.2.1, ()), ())).bind fun y1 => (F53 ((x0.1.2.2.1, (x0.1.2.2.2.1, (x0.1.2.2.2.2.1, ()))), ())).bind fun y2 => some ((x0.1.1, (y1.1.1, (y2.1.1, (y2.1.2.1, (y2.1.2.2.1, ()))))), ())
noncomputable def c143 : Con := ⟨i143, o143, F143⟩
noncomputable def C143 : Ctx := ⟨16, TT, EE, fun n => (bif Nat.ble n 52 then (bif Nat.beq n 52 then some c52 else none) else (bif Nat.beq n 53 then some c53 else none)), fun n k => [], fun n => none, fun n => none⟩
theorem q143 : ∀ x, runF C143 Tryz.f143 i143 o143 x = F143 x := by intro x; kernel_rfl
def i59 : List Grp := [⟨.c, (.cons (.sl e185) .nil), []⟩]
def o59 : List Grp := [⟨.c, (.cons (.sl e43) .nil), [(.own [.sh, (.own [.sh, .sh, .sh, .sh, .sh, .sh, (.own []), .sh, (.own []), (.own []), (.own []), .sh, (.own [])]), .sh, .sh, (.own [])])]⟩]
/-- laws.toProofS -/
noncomputable def F59.b0 (x0 : GD i59) : (v1 : (Int × (List (Tys.D e43) × Unit))) → Option (Sum (Int × (List (Tys.D e43) × Unit)) (Sum (Int × (List (Tys.D e43) × Unit)) (GD o59))) := fun v1 => bif iLt v1.1 (List.length x0.1.1 : Int) then (getI x0.1.1 v1.1).bind fun x2 => (F143 (x2, ())).bind fun y3 => (getI v1.2.1 v1.1).bind fun _ => (getN v1.2.1 (Int.toNat v1.1)).bind fun x4 => some (.inl (iAdd .i64 v1.1 (1:Int), (List.set v1.2.1 (Int.toNat v1.1) (y3.1.1, (y3.1.2.1, (y3.1.2.2.1, (y3.1.2.2.2.1, (y3.1.2.2.2.2.1, ()))))), ()))) else some (.inr (.inl (v1.1, (v1.2.1, ()))))
noncomputable def F59 : GD i59 → Option (GD o59) := fun x0 => bif mkOk (List.length x0.1.1 : Int) (List.length x0.1.1 : Int) 72 then (loopF (F59.b0 x0) ((0:Int), (List.replicate (Int.toNat (List.length x0.1.1 : Int)) ((0:Int), ([], ((0:Int), ((0:Int), ([], ()))))), ()))).bind fun r6 => Sum.elim (fun v5 => some ((v5.2.1, ()), ())) some r6 else none
noncomputable def c59 : Con := ⟨i59, o59, F59⟩
noncomputable def C59 : Ctx := ⟨23, TT, EE, fun n => (bif Nat.beq n 143 then some c143 else none), fun n k => (bif Nat.beq n 1 then (match k with | 2 => [.sh, (.own [.sh, .sh, .sh, .sh, .sh, .sh, (.own []), .sh, (.own []), (.own []), (.own []), .sh, (.own [])]), .sh, .sh, (.own [])] | _ => []) else []), fun n => (bif Nat.beq n 0 then (some ⟨[(.t 4 (.int .i64) .sh), (.r 8192 e43 [.sh, (.own [.sh, .sh, .sh, .sh, .sh, .sh, (.own []), .sh, (.own []), (.own []), (.own []), .sh, (.own [])]), .sh, .sh, (.own [])])], [8, 9, 10, 11, 12, 13, 14, 15, 16, 17, 18, 19, 20, 21], []⟩) else none), fun n => none⟩
theorem q59 : ∀ x, runF C59 Tryz.f59 i59 o59 x = F59 x := by intro x; kernel_rfl
def i10 : List Grp := [⟨.agg, (.cons .str (.cons (.int .i64) (.cons (.int .i64) (.cons (.sl e225) (.cons (.sl e170) (.cons (.sl e173) (.cons (.int .i64) (.cons (.int .i64) (.cons (.int .i64) (.cons (.int .i64) (.cons (.sl e9) (.cons (.int .i64) (.cons (.sl e9) (.cons (.sl e3) (.cons (.int .i64) (.cons (.sl e176) (.cons (.sl e179) (.cons (.sl e3) (.cons (.sl e182) (.cons (.sl e185) .nil)))))))))))))))))))), []⟩]
def o10 : List Grp := [⟨.agg, (.cons .str (.cons (.int .i64) (.cons (.int .i64) (.cons (.sl e153) (.cons (.sl e188) (.cons (.sl e138) (.cons (.int .i64) (.cons (.int .i64) (.cons (.int .i64) (.cons (.int .i64) (.cons (.sl e9) (.cons (.int .i64) (.cons (.sl e9) (.cons (.sl e3) (.cons (.int .i64) (.cons (.sl e191) (.cons (.sl e193) (.cons (.sl e3) (.cons (.sl e195) (.cons (.sl e43) .nil)))))))))))))))))))), [.sh, .sh, .sh, (.own [.sh, .sh, .sh, .sh, (.own [])]), (.own []), (.own [.sh, .sh, .sh, .sh, .sh, .sh, (.own []), .sh, (.own []), (.own []), (.own []), .sh, (.own [])]), .sh, .sh, .sh, .sh, (.own []), .sh, (.own []), (.own []), .sh, (.own []), (.own []), (.own []), (.own []), (.own [.sh, (.own [.sh, .sh, .sh, .sh, .sh, .sh, (.own []), .sh, (.own []), (.own []), (.own []), .sh, (.own [])]), .sh, .sh, (.own [])])]⟩]
/-- laws.toNode -/
noncomputable def F10 : GD i10 → Option (GD o10) := fun x0 => (F25 ((x0.1.2.2.1, (x0.1.2.2.2.1, ())), ())).bind fun y1 => (F51 ((x0.1.2.2.2.2.1, ()), ())).bind fun y2 => (F52 ((x0.1.2.2.2.2.2.1, ()), ())).bind fun y3 => (F53 ((x0.1.2.2.2.2.2.2.2.2.1, (x0.1.2.2.2.2.2.2.2.2.2.1, (x0.1.2.2.2.2.2.2.2.2.2.2.1, ()))), ())).bind fun y4 => (F54 ((x0.1.2.2.2.2.2.2.2.2.2.2.2.1, (x0.1.2.2.2.2.2.2.2.2.2.2.2.2.1, (x0.1.2.2.2.2.2.2.2.2.2.2.2.2.2.1, ()))), ())).bind fun y5 => (F55 ((x0.1.2.2.2.2.2.2.2.2.2.2.2.2.2.2.2.1, ()), ())).bind fun y6 => (F56 ((x0.1.2.2.2.2.2.2.2.2.2.2.2.2.2.2.2.2.1, ()), ())).bind fun y7 => (F57 ((x0.1.2.2.2.2.2.2.2.2.2.2.2.2.2.2.2.2.2.1, ()), ())).bind fun y8 => (F58 ((x0.1.2.2.2.2.2.2.2.2.2.2.2.2.2.2.2.2.2.2.1, ()), ())).bind fun y9 => (F59 ((x0.1.2.2.2.2.2.2.2.2.2.2.2.2.2.2.2.2.2.2.2.1, ()), ())).bind fun y10 => some ((x0.1.1, (x0.1.2.1, (y1.1.1, (y1.1.2.1, (y2.1.1, (y3.1.1, (x0.1.2.2.2.2.2.2.1, (x0.1.2.2.2.2.2.2.2.1, (y4.1.1, (y4.1.2.1, (y4.1.2.2.1, (y5.1.1, (y5.1.2.1, (y5.1.2.2.1, (x0.1.2.2.2.2.2.2.2.2.2.2.2.2.2.2.1, (y6.1.1, (y7.1.1, (y8.1.1, (y9.1.1, (y10.1.1, ())))))))))))))))))))), ())
noncomputable def c10 : Con := ⟨i10, o10, F10⟩
noncomputable def C10 : Ctx := ⟨60, TT, EE, fun n => (bif Nat.ble n 54 then (bif Nat.ble n 51 then (bif Nat.ble n 25 then (bif Nat.beq n 25 then some c25 else none) else (bif Nat.beq n 51 then some c51 else none)) else (bif Nat.ble n 52 then (bif Nat.beq n 52 then some c52 else none) else (bif Nat.ble n 53 then (bif Nat.beq n 53 then some c53 else none) else (bif Nat.beq n 54 then some c54 else none)))) else (bif Nat.ble n 56 then (bif Nat.ble n 55 then (bif Nat.beq n 55 then some c55 else none) else (bif Nat.beq n 56 then some c56 else none)) else (bif Nat.ble n 57 then (bif Nat.beq n 57 then some c57 else none) else (bif Nat.ble n 58 then (bif Nat.beq n 58 then some c58 else none) else (bif Nat.beq n 59 then some c59 else none))))), fun n k => [], fun n => none, fun n => none⟩
theorem q10 : ∀ x, runF C10 Tryz.f10 i10 o10 x = F10 x := by intro x; kernel_rfl
def i87 : List Grp := [⟨.c, (.cons (.sl e38) .nil), []⟩]
def o87 : List Grp := [⟨.c, (.cons (.sl e56) .nil), [(.own [.sh, .sh, .sh, (.own [.sh, .sh, .sh, .sh, (.own [])]), (.own []), (.own [.sh, .sh, .sh, .sh, .sh, .sh, (.own []), .sh, (.own []), (.own []), (.own []), .sh, (.own [])]), .sh, .sh, .sh, .sh, (.own []), .sh, (.own []), (.own []), .sh, (.own []), (.own []), (.own []), (.own []), (.own [.sh, (.own [.sh, .sh, .sh, .sh, .sh, .sh, (.own []), .sh, (.own []), (.own []), (.own []), .sh, (.own [])]), .sh, .sh, (.own [])])])]⟩]
/-- laws.toNodeS -/
noncomputable def F87.b0 (x0 : GD i87) : (v1 : (Int × (List (Tys.D e56) × Unit))) → Option (Sum (Int × (List (Tys.D e56) × Unit)) (Sum (Int × (List (Tys.D e56) × Unit)) (GD o87))) := fun v1 => bif iLt v1.1 (List.length x0.1.1 : Int) then (getI x0.1.1 v1.1).bind fun x2 => (F10 (x2, ())).bind fun y3 => (getI v1.2.1 v1.1).bind fun _ => (getN v1.2.1 (Int.toNat v1.1)).bind fun x4 => some (.inl (iAdd .i64 v1.1 (1:Int), (List.set v1.2.1 (Int.toNat v1.1) (y3.1.1, (y3.1.2.1, (y3.1.2.2.1, (y3.1.2.2.2.1, (y3.1.2.2.2.2.1, (y3.1.2.2.2.2.2.1, (y3.1.2.2.2.2.2.2.1, (y3.1.2.2.2.2.2.2.2.1, (y3.1.2.2.2.2.2.2.2.2.1, (y3.1.2.2.2.2.2.2.2.2.2.1, (y3.1.2.2.2.2.2.2.2.2.2.2.1, (y3.1.2.2.2.2.2.2.2.2.2.2.2.1, (y3.1.2.2.2.2.2.2.2.2.2.2.2.2.1, (y3.1.2.2.2.2.2.2.2.2.2.2.2.2.2.1, (y3.1.2.2.2.2.2.2.2.2.2.2.2.2.2.2.1, (y3.1.2.2.2.2.2.2.2.2.2.2.2.2.2.2.2.1, (y3.1.2.2.2.2.2.2.2.2.2.2.2.2.2.2.2.2.1, (y3.1.2.2.2.2.2.2.2.2.2.2.2.2.2.2.2.2.2.1, (y3.1.2.2.2.2.2.2.2.2.2.2.2.2.2.2.2.2.2.2.1, (y3.1.2.2.2.2.2.2.2.2.2.2.2.2.2.2.2.2.2.2.2.1, ())))))))))))))))))))), ()))) else some (.inr (.inl (v1.1, (v1.2.1, ()))))
noncomputable def F87 : GD i87 → Option (GD o87) := fun x0 => bif mkOk (List.length x0.1.1 : Int) (List.length x0.1.1 : Int) 344 then (loopF (F87.b0 x0) ((0:Int), (List.replicate (Int.toNat (List.length x0.1.1 : Int)) (⟨#[]⟩, ((0:Int), ((0:Int), ([], ([], ([], ((0:Int), ((0:Int), ((0:Int), ((0:Int), ([], ((0:Int), ([], ([], ((0:Int), ([], ([], ([], ([], ([], ())))))))))))))))))))), ()))).bind fun r6 => Sum.elim (fun v5 => some ((v5.2.1, ()), ())) some r6 else none
noncomputable def c87 : Con := ⟨i87, o87, F87⟩
noncomputable def C87 : Ctx := ⟨23, TT, EE, fun n => (bif Nat.beq n 10 then some c10 else none), fun n k => (bif Nat.beq n 1 then (match k with | 2 => [.sh, .sh, .sh, (.own [.sh, .sh, .sh, .sh, (.own [])]), (.own []), (.own [.sh, .sh, .sh, .sh, .sh, .sh, (.own []), .sh, (.own []), (.own []), (.own []), .sh, (.own [])]), .sh, .sh, .sh, .sh, (.own []), .sh, (.own []), (.own []), .sh, (.own []), (.own []), (.own []), (.own []), (.own [.sh, (.own [.sh, .sh, .sh, .sh, .sh, .sh, (.own []), .sh, (.own []), (.own []), (.own []), .sh, (.own [])]), .sh, .sh, (.own [])])] | _ => []) else []), fun n => (bif Nat.beq n 0 then (some ⟨[(.t 4 (.int .i64) .sh), (.r 8192 e56 [.sh, .sh, .sh, (.own [.sh, .sh, .sh, .sh, (.own [])]), (.own []), (.own [.sh, .sh, .sh, .sh, .sh, .sh, (.own []), .sh, (.own []), (.own []), (.own []), .sh, (.own [])]), .sh, .sh, .sh, .sh, (.own []), .sh, (.own []), (.own []), .sh, (.own []), (.own []), (.own []), (.own []), (.own [.sh, (.own [.sh, .sh, .sh, .sh, .sh, .sh, (.own []), .sh, (.own []), (.own []), (.own []), .sh, (.own [])]), .sh, .sh, (.own [])])])], [8, 9, 10, 11, 12, 13, 14, 15, 16, 17, 18, 19, 20, 21], []⟩) else none), fun n => none⟩
theorem q87 : ∀ x, runF C87 Tryz.f87 i87 o87 x = F87 x := by intro x; kernel_rfl
def i160 : List Grp := [⟨.agg, (.cons (.int .i64) (.cons (.int .i64) (.cons (.int .i64) (.cons (.int .i64) (.cons .str .nil))))), []⟩]
def o160 : List Grp := [⟨.agg, (.cons (.int .i64) (.cons (.int .i64) (.cons (.int .i64) (.cons (.int .i64) (.cons .str .nil))))), []⟩]
/-- laws.toSig -/
noncomputable def F160 : GD i160 → Option (GD o160) := fun x0 => some (x0.1, ())
noncomputable def c160 : Con := ⟨i160, o160, F160⟩
noncomputable def C160 : Ctx := ⟨20, TT, EE, fun n => none, fun n k => [], fun n => none, fun n => none⟩
theorem q160 : ∀ x, runF C160 Tryz.f160 i160 o160 x = F160 x := by intro x; kernel_rfl
def i88 : List Grp := [⟨.c, (.cons (.sl e208) .nil), []⟩]
def o88 : List Grp := [⟨.c, (.cons (.sl e214) .nil), [(.own [])]⟩]
/-- laws.toSigS -/
noncomputable def F88.b0 (x0 : GD i88) : (v1 : (Int × (List (Tys.D e214) × Unit))) → Option (Sum (Int × (List (Tys.D e214) × Unit)) (Sum (Int × (List (Tys.D e214) × Unit)) (GD o88))) := fun v1 => bif iLt v1.1 (List.length x0.1.1 : Int) then (getI x0.1.1 v1.1).bind fun x2 => (F160 (x2, ())).bind fun y3 => (getI v1.2.1 v1.1).bind fun _ => (getN v1.2.1 (Int.toNat v1.1)).bind fun x4 => some (.inl (iAdd .i64 v1.1 (1:Int), (List.set v1.2.1 (Int.toNat v1.1) (y3.1.1, (y3.1.2.1, (y3.1.2.2.1, (y3.1.2.2.2.1, (y3.1.2.2.2.2.1, ()))))), ()))) else some (.inr (.inl (v1.1, (v1.2.1, ()))))
noncomputable def F88 : GD i88 → Option (GD o88) := fun x0 => bif mkOk (List.length x0.1.1 : Int) (List.length x0.1.1 : Int) 48 then (loopF (F88.b0 x0) ((0:Int), (List.replicate (Int.toNat (List.length x0.1.1 : Int)) ((0:Int), ((0:Int), ((0:Int), ((0:Int), (⟨#[]⟩, ()))))), ()))).bind fun r6 => Sum.elim (fun v5 => some ((v5.2.1, ()), ())) some r6 else none
noncomputable def c88 : Con := ⟨i88, o88, F88⟩
noncomputable def C88 : Ctx := ⟨23, TT, EE, fun n => (bif Nat.beq n 160 then some c160 else none), fun n k => [], fun n => (bif Nat.beq n 0 then (some ⟨[(.t 4 (.int .i64) .sh), (.r 8192 e214 [])], [8, 9, 10, 11, 12, 13, 14, 15, 16, 17, 18, 19, 20, 21], []⟩) else none), fun n => none⟩
theorem q88 : ∀ x, runF C88 Tryz.f88 i88 o88 x = F88 x := by intro x; kernel_rfl
def i161 : List Grp := [⟨.agg, (.cons (.int .i64) (.cons .str (.cons (.int .i64) (.cons (.sl e173) (.cons (.int .i64) (.cons (.int .i64) (.cons .str (.cons (.int .i64) (.cons (.int .i64) (.cons .str (.cons (.int .i64) (.cons (.int .i64) (.cons (.sl e9) (.cons (.int .i64) (.cons (.sl e9) (.cons (.sl e3) .nil)))))))))))))))), []⟩]
def o161 : List Grp := [⟨.agg, (.cons (.int .i64) (.cons .str (.cons (.int .i64) (.cons (.sl e138) (.cons (.int .i64) (.cons (.int .i64) (.cons .str (.cons (.int .i64) (.cons (.int .i64) (.cons .str (.cons (.int .i64) (.cons (.int .i64) (.cons (.sl e9) (.cons (.int .i64) (.cons (.sl e9) (.cons (.sl e3) .nil)))))))))))))))), [.sh, .sh, .sh, (.own [.sh, .sh, .sh, .sh, .sh, .sh, (.own []), .sh, (.own []), (.own []), (.own []), .sh, (.own [])]), .sh, .sh, .sh, .sh, .sh, .sh, .sh, .sh, (.own []), .sh, (.own []), (.own [])]⟩]
/-- laws.toMsg -/
noncomputable def F161 : GD i161 → Option (GD o161) := fun x0 => (F52 ((x0.1.2.2.2.1, ()), ())).bind fun y1 => (F140 ((x0.1.2.2.2.2.1, (x0.1.2.2.2.2.2.1, (x0.1.2.2.2.2.2.2.1, ()))), ())).bind fun y2 => (F141 ((x0.1.2.2.2.2.2.2.2.1, (x0.1.2.2.2.2.2.2.2.2.1, (x0.1.2.2.2.2.2.2.2.2.2.1, ()))), ())).bind fun y3 => (F53 ((x0.1.2.2.2.2.2.2.2.2.2.2.1, (x0.1.2.2.2.2.2.2.2.2.2.2.2.1, (x0.1.2.2.2.2.2.2.2.2.2.2.2.2.1, ()))), ())).bind fun y4 => (F54 ((x0.1.2.2.2.2.2.2.2.2.2.2.2.2.2.1, (x0.1.2.2.2.2.2.2.2.2.2.2.2.2.2.2.1, (x0.1.2.2.2.2.2.2.2.2.2.2.2.2.2.2.2.1, ()))), ())).bind fun y5 => some ((x0.1.1, (x0.1.2.1, (x0.1.2.2.1, (y1.1.1, (y2.1.1, (y2.1.2.1, (y2.1.2.2.1, (y3.1.1, (y3.1.2.1, (y3.1.2.2.1, (y4.1.1, (y4.1.2.1, (y4.1.2.2.1, (y5.1.1, (y5.1.2.1, (y5.1.2.2.1, ())))))))))))))))), ())
noncomputable def c161 : Con := ⟨i161, o161, F161⟩
noncomputable def C161 : Ctx := ⟨34, TT, EE, fun n => (bif Nat.ble n 53 then (bif Nat.ble n 52 then (bif Nat.beq n 52 then some c52 else none) else (bif Nat.beq n 53 then some c53 else none)) else (bif Nat.ble n 54 then (bif Nat.beq n 54 then some c54 else none) else (bif Nat.ble n 140 then (bif Nat.beq n 140 then some c140 else none) else (bif Nat.beq n 141 then some c141 else none)))), fun n k => [], fun n => none, fun n => none⟩
theorem q161 : ∀ x, runF C161 Tryz.f161 i161 o161 x = F161 x := by intro x; kernel_rfl
def i89 : List Grp := [⟨.c, (.cons (.sl e211) .nil), []⟩]
def o89 : List Grp := [⟨.c, (.cons (.sl e217) .nil), [(.own [.sh, .sh, .sh, (.own [.sh, .sh, .sh, .sh, .sh, .sh, (.own []), .sh, (.own []), (.own []), (.own []), .sh, (.own [])]), .sh, .sh, .sh, .sh, .sh, .sh, .sh, .sh, (.own []), .sh, (.own []), (.own [])])]⟩]
/-- laws.toMsgS -/
noncomputable def F89.b0 (x0 : GD i89) : (v1 : (Int × (List (Tys.D e217) × Unit))) → Option (Sum (Int × (List (Tys.D e217) × Unit)) (Sum (Int × (List (Tys.D e217) × Unit)) (GD o89))) := fun v1 => bif iLt v1.1 (List.length x0.1.1 : Int) then (getI x0.1.1 v1.1).bind fun x2 => (F161 (x2, ())).bind fun y3 => (getI v1.2.1 v1.1).bind fun _ => (getN v1.2.1 (Int.toNat v1.1)).bind fun x4 => some (.inl (iAdd .i64 v1.1 (1:Int), (List.set v1.2.1 (Int.toNat v1.1) (y3.1.1, (y3.1.2.1, (y3.1.2.2.1, (y3.1.2.2.2.1, (y3.1.2.2.2.2.1, (y3.1.2.2.2.2.2.1, (y3.1.2.2.2.2.2.2.1, (y3.1.2.2.2.2.2.2.2.1, (y3.1.2.2.2.2.2.2.2.2.1, (y3.1.2.2.2.2.2.2.2.2.2.1, (y3.1.2.2.2.2.2.2.2.2.2.2.1, (y3.1.2.2.2.2.2.2.2.2.2.2.2.1, (y3.1.2.2.2.2.2.2.2.2.2.2.2.2.1, (y3.1.2.2.2.2.2.2.2.2.2.2.2.2.2.1, (y3.1.2.2.2.2.2.2.2.2.2.2.2.2.2.2.1, (y3.1.2.2.2.2.2.2.2.2.2.2.2.2.2.2.2.1, ())))))))))))))))), ()))) else some (.inr (.inl (v1.1, (v1.2.1, ()))))
noncomputable def F89 : GD i89 → Option (GD o89) := fun x0 => bif mkOk (List.length x0.1.1 : Int) (List.length x0.1.1 : Int) 216 then (loopF (F89.b0 x0) ((0:Int), (List.replicate (Int.toNat (List.length x0.1.1 : Int)) ((0:Int), (⟨#[]⟩, ((0:Int), ([], ((0:Int), ((0:Int), (⟨#[]⟩, ((0:Int), ((0:Int), (⟨#[]⟩, ((0:Int), ((0:Int), ([], ((0:Int), ([], ([], ())))))))))))))))), ()))).bind fun r6 => Sum.elim (fun v5 => some ((v5.2.1, ()), ())) some r6 else none
noncomputable def c89 : Con := ⟨i89, o89, F89⟩
noncomputable def C89 : Ctx := ⟨23, TT, EE, fun n => (bif Nat.beq n 161 then some c161 else none), fun n k => (bif Nat.beq n 1 then (match k with | 2 => [.sh, .sh, .sh, (.own [.sh, .sh, .sh, .sh, .sh, .sh, (.own []), .sh, (.own []), (.own []), (.own []), .sh, (.own [])]), .sh, .sh, .sh, .sh, .sh, .sh, .sh, .sh, (.own []), .sh, (.own []), (.own [])] | _ => []) else []), fun n => (bif Nat.beq n 0 then (some ⟨[(.t 4 (.int .i64) .sh), (.r 8192 e217 [.sh, .sh, .sh, (.own [.sh, .sh, .sh, .sh, .sh, .sh, (.own []), .sh, (.own []), (.own []), (.own []), .sh, (.own [])]), .sh, .sh, .sh, .sh, .sh, .sh, .sh, .sh, (.own []), .sh, (.own []), (.own [])])], [8, 9, 10, 11, 12, 13, 14, 15, 16, 17, 18, 19, 20, 21], []⟩) else none), fun n => none⟩
theorem q89 : ∀ x, runF C89 Tryz.f89 i89 o89 x = F89 x := by intro x; kernel_rfl
def i19 : List Grp := [⟨.agg, (.cons (.int .i64) (.cons (.sl e225) (.cons (.sl e9) (.cons (.sl e38) (.cons (.sl e173) (.cons (.sl e208) (.cons (.sl e211) .nil))))))), []⟩]
def o19 : List Grp := [⟨.agg, (.cons (.int .i64) (.cons (.sl e153) (.cons (.sl e9) (.cons (.sl e56) (.cons (.sl e138) (.cons (.sl e214) (.cons (.sl e217) .nil))))))), [.sh, (.own [.sh, .sh, .sh, .sh, (.own [])]), (.own []), (.own [.sh, .sh, .sh, (.own [.sh, .sh, .sh, .sh, (.own [])]), (.own []), (.own [.sh, .sh, .sh, .sh, .sh, .sh, (.own []), .sh, (.own []), (.own []), (.own []), .sh, (.own [])]), .sh, .sh, .sh, .sh, (.own []), .sh, (.own []), (.own []), .sh, (.own []), (.own []), (.own []), (.own []), (.own [.sh, (.own [.sh, .sh, .sh, .sh, .sh, .sh, (.own []), .sh, (.own []), (.own []), (.own []), .sh, (.own [])]), .sh, .sh, (.own [])])]), (.own [.sh, .sh, .sh, .sh, .sh, .sh, (.own []), .sh, (.own []), (.own []), (.own []), .sh, (.own [])]), (.own []), (.own [.sh, .sh, .sh, (.own [.sh, .sh, .sh, .sh, .sh, .sh, (.own []), .sh, (.own []), (.own []), (.own []), .sh, (.own [])]), .sh, .sh, .sh, .sh, .sh, .sh, .sh, .sh, (.own []), .sh, (.own []), (.own [])])]⟩]
/-- laws.toWorld -/
noncomputable def F19 : GD i19 → Option (GD o19) := fun x0 => (F25 ((x0.1.1, (x0.1.2.1, ())), ())).bind fun y1 => (F26 ((x0.1.2.2.1, ()), ())).bind fun y2 => (F87 ((x0.1.2.2.2.1, ()), ())).bind fun y3 => (F52 ((x0.1.2.2.2.2.1, ()), ())).bind fun y4 => (F88 ((x0.1.2.2.2.2.2.1, ()), ())).bind fun y5 => (F89 ((x0.1.2.2.2.2.2.2.1, ()), ())).bind fun y6 => some ((y1.1.1, (y1.1.2.1, (y2.1.1, (y3.1.1, (y4.1.1, (y5.1.1, (y6.1.1, ()))))))), ())
noncomputable def c19 : Con := ⟨i19, o19, F19⟩
noncomputable def C19 : Ctx := ⟨29, TT, EE, fun n => (bif Nat.ble n 52 then (bif Nat.ble n 25 then (bif Nat.beq n 25 then some c25 else none) else (bif Nat.ble n 26 then (bif Nat.beq n 26 then some c26 else none) else (bif Nat.beq n 52 then some c52 else none))) else (bif Nat.ble n 87 then (bif Nat.beq n 87 then some c87 else none) else (bif Nat.ble n 88 then (bif Nat.beq n 88 then some c88 else none) else (bif Nat.beq n 89 then some c89 else none)))), fun n k => [], fun n => none, fun n => none⟩
theorem q19 : ∀ x, runF C19 Tryz.f19 i19 o19 x = F19 x := by intro x; kernel_rfl
def i167 : List Grp := [⟨.c, (.cons (.int .i64) .nil), []⟩, ⟨.c, (.cons (.int .i64) .nil), []⟩, ⟨.c, (.cons (.int .i64) .nil), []⟩]
def o167 : List Grp := [⟨.c, (.cons .bool .nil), []⟩]
/-- spec.l1In -/
noncomputable def F167 : GD i167 → Option (GD o167) := fun x0 => bif iLe x0.2.1.1 x0.1.1 then some ((iLe x0.1.1 x0.2.2.1.1, ()), ()) else some ((false, ()), ())
noncomputable def c167 : Con := ⟨i167, o167, F167⟩
noncomputable def C167 : Ctx := ⟨15, TT, EE, fun n => none, fun n k => [], fun n => none, fun n => none⟩
theorem q167 : ∀ x, runF C167 Tryz.f167 i167 o167 x = F167 x := by intro x; kernel_rfl
def i169 : List Grp := [⟨.c, (.cons .str .nil), []⟩]
def o169 : List Grp := [⟨.c, (.cons .bool .nil), []⟩]
/-- spec.NameOk -/
noncomputable def F169.b0 (x0 : GD i169) : (v1 : (Int × Unit)) → Option (Sum (Int × Unit) (Sum (Int × Unit) (GD o169))) := fun v1 => bif iLt v1.1 (ByteArray.size x0.1.1 : Int) then (getI (ByteArray.data x0.1.1).toList v1.1).bind fun b2 => (F167 ((IntKind.wrap .i64 (UInt8.toNat b2 : Int), ()), (((97:Int), ()), (((122:Int), ()), ())))).bind fun y3 => bif (!y3.1.1) then (getI (ByteArray.data x0.1.1).toList v1.1).bind fun b4 => (F167 ((IntKind.wrap .i64 (UInt8.toNat b4 : Int), ()), (((48:Int), ()), (((57:Int), ()), ())))).bind fun y5 => bif (!y5.1.1) then some (.inr (.inr ((false, ()), ()))) else some (.inl (iAdd .i64 v1.1 (1:Int), ())) else some (.inl (iAdd .i64 v1.1 (1:Int), ())) else some (.inr (.inl (v1.1, ())))
noncomputable def F169 : GD i169 → Option (GD o169) := fun x0 => (loopF (F169.b0 x0) ((0:Int), ())).bind fun r7 => Sum.elim (fun v6 => (F167 (((ByteArray.size x0.1.1 : Int), ()), (((1:Int), ()), (((8:Int), ()), ())))).bind fun y8 => some (y8.1, ())) some r7
noncomputable def c169 : Con := ⟨i169, o169, F169⟩
noncomputable def C169 : Ctx := ⟨27, TT, EE, fun n => (bif Nat.beq n 167 then some c167 else none), fun n k => [], fun n => (bif Nat.beq n 0 then (some ⟨[(.t 3 (.int .i64) .sh)], [2, 4, 5, 6, 7, 8, 9, 10, 11, 12, 13, 14, 15, 16, 17, 18, 19, 20, 21, 22, 23], []⟩) else none), fun n => none⟩
theorem q169 : ∀ x, runF C169 Tryz.f169 i169 o169 x = F169 x := by intro x; kernel_rfl
def i206 : List Grp := [⟨.agg, (.cons .str (.cons (.int .i64) (.cons (.int .i64) (.cons (.int .i64) (.cons (.sl e248) .nil))))), []⟩]
def o206 : List Grp := [⟨.c, (.cons .bool .nil), []⟩]
/-- spec.AcctOk -/
noncomputable def F206.b0 (x0 : GD i206) : (v5 : (Int × Unit)) → Option (Sum (Int × Unit) (Sum (Int × Unit) (GD o206))) := fun v5 => bif iLt v5.1 (List.length x0.1.2.2.2.2.1 : Int) then (getI x0.1.2.2.2.2.1 v5.1).bind fun x6 => (F167 ((x6.1, ()), (((1:Int), ()), (((1000000:Int), ()), ())))).bind fun y7 => bif (!y7.1.1) then some (.inr (.inr ((false, ()), ()))) else (F167 ((x6.2.1, ()), (((0:Int), ()), (((1000:Int), ()), ())))).bind fun y8 => bif (!y8.1.1) then some (.inr (.inr ((false, ()), ()))) else bif iLt (0:Int) v5.1 then (getI x0.1.2.2.2.2.1 (iSub .i64 v5.1 (1:Int))).bind fun x9 => bif iLe x6.2.1 x9.2.1 then some (.inr (.inr ((false, ()), ()))) else some (.inl (iAdd .i64 v5.1 (1:Int), ())) else some (.inl (iAdd .i64 v5.1 (1:Int), ())) else some (.inr (.inl (v5.1, ())))
noncomputable def F206 : GD i206 → Option (GD o206) := fun x0 => (F169 ((x0.1.1, ()), ())).bind fun y1 => bif (!y1.1.1) then some ((false, ()), ()) else (F167 ((x0.1.2.1, ()), (((0:Int), ()), (((1000000:Int), ()), ())))).bind fun y2 => bif (!y2.1.1) then some ((false, ()), ()) else (F167 ((x0.1.2.2.1, ()), (((0:Int), ()), (((10000:Int), ()), ())))).bind fun y3 => bif (!y3.1.1) then some ((false, ()), ()) else (F167 ((x0.1.2.2.2.1, ()), (((0:Int), ()), (((1000000:Int), ()), ())))).bind fun y4 => bif (!y4.1.1) then some ((false, ()), ()) else bif iLt (4:Int) (List.length x0.1.2.2.2.2.1 : Int) then some ((false, ()), ()) else (loopF (F206.b0 x0) ((0:Int), ())).bind fun r11 => Sum.elim (fun v10 => some ((true, ()), ())) some r11
noncomputable def c206 : Con := ⟨i206, o206, F206⟩
noncomputable def C206 : Ctx := ⟨71, TT, EE, fun n => (bif Nat.ble n 167 then (bif Nat.beq n 167 then some c167 else none) else (bif Nat.beq n 169 then some c169 else none)), fun n k => [], fun n => (bif Nat.beq n 0 then (some ⟨[(.t 3 (.int .i64) .sh)], [2, 4, 33, 34, 35, 36, 37, 38, 39, 40, 41, 42, 43, 44, 45, 46, 47, 48, 49, 50, 51, 52, 53, 54, 55, 56, 57, 58, 59, 60, 61, 62, 63, 64, 65, 66, 67, 68, 69, 70], []⟩) else none), fun n => none⟩
theorem q206 : ∀ x, runF C206 Tryz.f206 i206 o206 x = F206 x := by intro x; kernel_rfl
def i228 : List Grp := [⟨.agg, (.cons .str (.cons (.int .i64) (.cons (.int .i64) (.cons (.int .i64) (.cons (.sl e248) .nil))))), []⟩]
def o228 : List Grp := [⟨.c, (.cons (.int .i64) .nil), []⟩]
/-- spec.l4Of -/
noncomputable def F228.b0 (x0 : GD i228) : (v1 : (Int × (Int × Unit))) → Option (Sum (Int × (Int × Unit)) (Sum (Int × (Int × Unit)) (GD o228))) := fun v1 => bif iLt v1.2.1 (List.length x0.1.2.2.2.2.1 : Int) then (getI x0.1.2.2.2.2.1 v1.2.1).bind fun x2 => some (.inl (iAdd .i64 v1.1 x2.1, (iAdd .i64 v1.2.1 (1:Int), ()))) else some (.inr (.inl (v1.1, (v1.2.1, ()))))
noncomputable def F228 : GD i228 → Option (GD o228) := fun x0 => (loopF (F228.b0 x0) (iAdd .i64 x0.1.2.1 x0.1.2.2.2.1, ((0:Int), ()))).bind fun r4 => Sum.elim (fun v3 => some ((v3.1, ()), ())) some r4
noncomputable def c228 : Con := ⟨i228, o228, F228⟩
noncomputable def C228 : Ctx := ⟨26, TT, EE, fun n => none, fun n k => [], fun n => (bif Nat.beq n 0 then (some ⟨[(.t 3 (.int .i64) .sh), (.t 4 (.int .i64) .sh)], [10, 11, 12, 13, 14, 15, 16, 17, 18, 19, 20, 21, 22, 23, 24], []⟩) else none), fun n => none⟩
theorem q228 : ∀ x, runF C228 Tryz.f228 i228 o228 x = F228 x := by intro x; kernel_rfl
def i207 : List Grp := [⟨.c, (.cons (.sl e153) .nil), []⟩]
def o207 : List Grp := [⟨.c, (.cons (.int .i64) .nil), []⟩]
/-- spec.Wealth -/
noncomputable def F207.b0 (x0 : GD i207) : (v1 : (Int × (Int × Unit))) → Option (Sum (Int × (Int × Unit)) (Sum (Int × (Int × Unit)) (GD o207))) := fun v1 => bif iLt v1.2.1 (List.length x0.1.1 : Int) then (getI x0.1.1 v1.2.1).bind fun x2 => (F228 (x2, ())).bind fun y3 => some (.inl (iAdd .i64 v1.1 y3.1.1, (iAdd .i64 v1.2.1 (1:Int), ()))) else some (.inr (.inl (v1.1, (v1.2.1, ()))))
noncomputable def F207 : GD i207 → Option (GD o207) := fun x0 => (loopF (F207.b0 x0) ((0:Int), ((0:Int), ()))).bind fun r5 => Sum.elim (fun v4 => some ((v4.1, ()), ())) some r5
noncomputable def c207 : Con := ⟨i207, o207, F207⟩
noncomputable def C207 : Ctx := ⟨19, TT, EE, fun n => (bif Nat.beq n 228 then some c228 else none), fun n k => [], fun n => (bif Nat.beq n 0 then (some ⟨[(.t 3 (.int .i64) .sh), (.t 4 (.int .i64) .sh)], [5, 6, 7, 8, 9, 10, 11, 12, 13, 14, 15, 16, 17], []⟩) else none), fun n => none⟩
theorem q207 : ∀ x, runF C207 Tryz.f207 i207 o207 x = F207 x := by intro x; kernel_rfl
def i168 : List Grp := [⟨.c, (.cons (.sl e153) .nil), []⟩]
def o168 : List Grp := [⟨.c, (.cons .bool .nil), []⟩]
/-- spec.AcctsOk -/
noncomputable def F168.b0 (x0 : GD i168) : (v1 : (Int × Unit)) → Option (Sum (Int × Unit) (Sum (Int × Unit) (GD o168))) := fun v1 => bif iLt v1.1 (List.length x0.1.1 : Int) then (getI x0.1.1 v1.1).bind fun x2 => (F206 (x2, ())).bind fun y3 => bif (!y3.1.1) then some (.inr (.inr ((false, ()), ()))) else bif iLt (0:Int) v1.1 then (getI x0.1.1 (iSub .i64 v1.1 (1:Int))).bind fun x4 => (getI x0.1.1 v1.1).bind fun x5 => bif !sLt x4.1 x5.1 then some (.inr (.inr ((false, ()), ()))) else some (.inl (iAdd .i64 v1.1 (1:Int), ())) else some (.inl (iAdd .i64 v1.1 (1:Int), ())) else some (.inr (.inl (v1.1, ())))
noncomputable def F168 : GD i168 → Option (GD o168) := fun x0 => (loopF (F168.b0 x0) ((0:Int), ())).bind fun r7 => Sum.elim (fun v6 => bif iLe (List.length x0.1.1 : Int) (12:Int) then (F207 (x0.1, ())).bind fun y8 => some ((iLe y8.1.1 (1000000:Int), ()), ()) else some ((false, ()), ())) some r7
noncomputable def c168 : Con := ⟨i168, o168, F168⟩
noncomputable def C168 : Ctx := ⟨42, TT, EE, fun n => (bif Nat.ble n 206 then (bif Nat.beq n 206 then some c206 else none) else (bif Nat.beq n 207 then some c207 else none)), fun n k => [], fun n => (bif Nat.beq n 0 then (some ⟨[(.t 3 (.int .i64) .sh)], [2, 4, 5, 6, 7, 8, 9, 10, 11, 12, 13, 14, 15, 16, 17, 18, 19, 20, 21, 22, 23, 24, 25, 26, 27, 28, 29, 30, 31, 32, 33], []⟩) else none), fun n => none⟩
theorem q168 : ∀ x, runF C168 Tryz.f168 i168 o168 x = F168 x := by intro x; kernel_rfl
def i96 : List Grp := [⟨.agg, (.cons (.int .i64) (.cons (.sl e153) .nil)), []⟩]
def o96 : List Grp := [⟨.c, (.cons .bool .nil), []⟩]
/-- spec.LedgerOk -/
noncomputable def F96 : GD i96 → Option (GD o96) := fun x0 => (F167 ((x0.1.1, ()), (((0:Int), ()), (((900:Int), ()), ())))).bind fun y1 => bif y1.1.1 then (F168 ((x0.1.2.1, ()), ())).bind fun y2 => some (y2.1, ()) else some ((false, ()), ())
noncomputable def c96 : Con := ⟨i96, o96, F96⟩
noncomputable def C96 : Ctx := ⟨11, TT, EE, fun n => (bif Nat.ble n 167 then (bif Nat.beq n 167 then some c167 else none) else (bif Nat.beq n 168 then some c168 else none)), fun n k => [], fun n => none, fun n => none⟩
theorem q96 : ∀ x, runF C96 Tryz.f96 i96 o96 x = F96 x := by intro x; kernel_rfl
def i159 : List Grp := [⟨.agg, (.cons (.int .i64) (.cons (.sl e153) .nil)), []⟩]
def o159 : List Grp := [⟨.c, (.cons (.sl e188) .nil), [(.own [])]⟩]
/-- spec.l7Set -/
noncomputable def F159.b0 (x0 : GD i159) : (v1 : (List (Tys.D e188) × (Int × Unit))) → Option (Sum (List (Tys.D e188) × (Int × Unit)) (Sum (List (Tys.D e188) × (Int × Unit)) (GD o159))) := fun v1 => bif iLt v1.2.1 (List.length x0.1.2.1 : Int) then (getI x0.1.2.1 v1.2.1).bind fun x2 => bif iLe (5:Int) x2.2.2.2.1 then (getI x0.1.2.1 v1.2.1).bind fun x3 => (getI x0.1.2.1 v1.2.1).bind fun x4 => bif room (List.length v1.1 + List.length ([(x3.1, (x4.2.2.2.1, ()))] : List (Tys.D e188))) 24 then some (.inl (lapp v1.1 ([(x3.1, (x4.2.2.2.1, ()))] : List (Tys.D e188)), (iAdd .i64 v1.2.1 (1:Int), ()))) else none else some (.inl (v1.1, (iAdd .i64 v1.2.1 (1:Int), ()))) else some (.inr (.inl (v1.1, (v1.2.1, ()))))
noncomputable def F159 : GD i159 → Option (GD o159) := fun x0 => (loopF (F159.b0 x0) (([] : List (Tys.D e188)), ((0:Int), ()))).bind fun r6 => Sum.elim (fun v5 => some ((v5.1, ()), ())) some r6
noncomputable def c159 : Con := ⟨i159, o159, F159⟩
noncomputable def C159 : Ctx := ⟨37, TT, EE, fun n => none, fun n k => [], fun n => (bif Nat.beq n 0 then (some ⟨[(.t 3 (.sl e188) (.own [])), (.t 4 (.int .i64) .sh)], [6, 7, 8, 9, 10, 11, 12, 13, 14, 15, 16, 17, 18, 19, 20, 21, 22, 23, 24, 25, 26, 27, 28, 29, 30, 31, 32, 33, 34, 35], []⟩) else none), fun n => none⟩
theorem q159 : ∀ x, runF C159 Tryz.f159 i159 o159 x = F159 x := by intro x; kernel_rfl
def i86 : List Grp := [⟨.agg, (.cons (.int .i64) (.cons (.sl e153) .nil)), []⟩]
def o86 : List Grp := [⟨.c, (.cons (.sl e188) .nil), [(.own [])]⟩]
/-- spec.SetOf -/
noncomputable def F86 : GD i86 → Option (GD o86) := fun x0 => (F96 (x0.1, ())).bind fun y1 => bif (!y1.1.1) then some ((([] : List (Tys.D e188)), ()), ()) else (F159 (x0.1, ())).bind fun y2 => some (y2.1, ())
noncomputable def c86 : Con := ⟨i86, o86, F86⟩
noncomputable def C86 : Ctx := ⟨9, TT, EE, fun n => (bif Nat.ble n 96 then (bif Nat.beq n 96 then some c96 else none) else (bif Nat.beq n 159 then some c159 else none)), fun n k => [], fun n => none, fun n => none⟩
theorem q86 : ∀ x, runF C86 Tryz.f86 i86 o86 x = F86 x := by intro x; kernel_rfl
def i99 : List Grp := [⟨.c, (.cons (.sl e9) .nil), []⟩, ⟨.c, (.cons .str .nil), []⟩]
def o99 : List Grp := [⟨.c, (.cons .bool .nil), []⟩]
/-- spec.l7Has -/
noncomputable def F99.b0 (x0 : GD i99) : (v1 : (Int × Unit)) → Option (Sum (Int × Unit) (Sum (Int × Unit) (GD o99))) := fun v1 => bif iLt v1.1 (List.length x0.1.1 : Int) then (getI x0.1.1 v1.1).bind fun x2 => bif sEq x2.1 x0.2.1.1 then some (.inr (.inr ((true, ()), ()))) else some (.inl (iAdd .i64 v1.1 (1:Int), ())) else some (.inr (.inl (v1.1, ())))
noncomputable def F99 : GD i99 → Option (GD o99) := fun x0 => (loopF (F99.b0 x0) ((0:Int), ())).bind fun r4 => Sum.elim (fun v3 => some ((false, ()), ())) some r4
noncomputable def c99 : Con := ⟨i99, o99, F99⟩
noncomputable def C99 : Ctx := ⟨18, TT, EE, fun n => none, fun n k => [], fun n => (bif Nat.beq n 0 then (some ⟨[(.t 5 (.int .i64) .sh)], [4, 6, 7, 8, 9, 10, 11, 12, 13, 14, 15, 16, 17], []⟩) else none), fun n => none⟩
theorem q99 : ∀ x, runF C99 Tryz.f99 i99 o99 x = F99 x := by intro x; kernel_rfl
def i157 : List Grp := [⟨.c, (.cons (.sl e188) .nil), []⟩, ⟨.c, (.cons (.sl e9) .nil), []⟩]
def o157 : List Grp := [⟨.c, (.cons (.int .i64) .nil), []⟩]
/-- spec.WeightOf -/
noncomputable def F157.b0 (x0 : GD i157) : (v1 : (Int × (Int × Unit))) → Option (Sum (Int × (Int × Unit)) (Sum (Int × (Int × Unit)) (GD o157))) := fun v1 => bif iLt v1.2.1 (List.length x0.1.1 : Int) then (getI x0.1.1 v1.2.1).bind fun x2 => (F99 (x0.2.1, ((x2.1, ()), ()))).bind fun y3 => bif y3.1.1 then (getI x0.1.1 v1.2.1).bind fun x4 => some (.inl (iAdd .i64 v1.1 x4.2.1, (iAdd .i64 v1.2.1 (1:Int), ()))) else some (.inl (v1.1, (iAdd .i64 v1.2.1 (1:Int), ()))) else some (.inr (.inl (v1.1, (v1.2.1, ()))))
noncomputable def F157 : GD i157 → Option (GD o157) := fun x0 => (loopF (F157.b0 x0) ((0:Int), ((0:Int), ()))).bind fun r6 => Sum.elim (fun v5 => some ((v5.1, ()), ())) some r6
noncomputable def c157 : Con := ⟨i157, o157, F157⟩
noncomputable def C157 : Ctx := ⟨28, TT, EE, fun n => (bif Nat.beq n 99 then some c99 else none), fun n k => [], fun n => (bif Nat.beq n 0 then (some ⟨[(.t 5 (.int .i64) .sh), (.t 6 (.int .i64) .sh)], [7, 8, 9, 10, 11, 12, 13, 14, 15, 16, 17, 18, 19, 20, 21, 22, 23, 24, 25, 26], []⟩) else none), fun n => none⟩
theorem q157 : ∀ x, runF C157 Tryz.f157 i157 o157 x = F157 x := by intro x; kernel_rfl
def i158 : List Grp := [⟨.c, (.cons (.sl e188) .nil), []⟩]
def o158 : List Grp := [⟨.c, (.cons (.int .i64) .nil), []⟩]
/-- spec.TotalOf -/
noncomputable def F158.b0 (x0 : GD i158) : (v1 : (Int × (Int × Unit))) → Option (Sum (Int × (Int × Unit)) (Sum (Int × (Int × Unit)) (GD o158))) := fun v1 => bif iLt v1.2.1 (List.length x0.1.1 : Int) then (getI x0.1.1 v1.2.1).bind fun x2 => some (.inl (iAdd .i64 v1.1 x2.2.1, (iAdd .i64 v1.2.1 (1:Int), ()))) else some (.inr (.inl (v1.1, (v1.2.1, ()))))
noncomputable def F158 : GD i158 → Option (GD o158) := fun x0 => (loopF (F158.b0 x0) ((0:Int), ((0:Int), ()))).bind fun r4 => Sum.elim (fun v3 => some ((v3.1, ()), ())) some r4
noncomputable def c158 : Con := ⟨i158, o158, F158⟩
noncomputable def C158 : Ctx := ⟨19, TT, EE, fun n => none, fun n k => [], fun n => (bif Nat.beq n 0 then (some ⟨[(.t 3 (.int .i64) .sh), (.t 4 (.int .i64) .sh)], [5, 6, 7, 8, 9, 10, 11, 12, 13, 14, 15, 16, 17], []⟩) else none), fun n => none⟩
theorem q158 : ∀ x, runF C158 Tryz.f158 i158 o158 x = F158 x := by intro x; kernel_rfl
def i85 : List Grp := [⟨.c, (.cons (.sl e188) .nil), []⟩, ⟨.c, (.cons (.sl e9) .nil), []⟩]
def o85 : List Grp := [⟨.c, (.cons .bool .nil), []⟩]
/-- spec.l16Less -/
noncomputable def F85 : GD i85 → Option (GD o85) := fun x0 => (F157 (x0.1, (x0.2.1, ()))).bind fun y1 => (F158 (x0.1, ())).bind fun y2 => some ((iLt (iMul .i64 (3:Int) y1.1.1) y2.1.1, ()), ())
noncomputable def c85 : Con := ⟨i85, o85, F85⟩
noncomputable def C85 : Ctx := ⟨12, TT, EE, fun n => (bif Nat.ble n 157 then (bif Nat.beq n 157 then some c157 else none) else (bif Nat.beq n 158 then some c158 else none)), fun n k => [], fun n => none, fun n => none⟩
theorem q85 : ∀ x, runF C85 Tryz.f85 i85 o85 x = F85 x := by intro x; kernel_rfl
def i18 : List Grp := [⟨.agg, (.cons (.int .i64) (.cons (.sl e153) (.cons (.sl e9) (.cons (.sl e56) (.cons (.sl e138) (.cons (.sl e214) (.cons (.sl e217) .nil))))))), []⟩]
def o18 : List Grp := [⟨.c, (.cons .bool .nil), []⟩]
/-- spec.Premise -/
noncomputable def F18.b2 (x4 : Tys.D e56) (v6 : (Int × Unit)) (x0 : GD i18) : (v7 : (Int × Unit)) → Option (Sum (Int × Unit) (Sum (Int × Unit) (Sum (Int × Unit) (Sum (Int × Unit) (Sum (Int × Unit) (Sum (Int × Unit) (GD o18))))))) := fun v7 => (getI x4.2.2.2.2.2.2.2.2.2.2.2.2.2.2.2.2.2.2.2.1 v6.1).bind fun x8 => bif iLt v7.1 (List.length x8.2.1 : Int) then (getI x4.2.2.2.2.2.2.2.2.2.2.2.2.2.2.2.2.2.2.2.1 v6.1).bind fun x9 => (getI x9.2.1 v7.1).bind fun x10 => bif x10.2.2.2.2.2.2.2.2.2.2.2.1 then (F85 ((x10.2.2.2.2.2.2.2.2.2.2.2.2.1, ()), ((x0.1.2.2.1, ()), ()))).bind fun y11 => bif (!y11.1.1) then some (.inr (.inr (.inr (.inr (.inr (.inr ((false, ()), ()))))))) else some (.inl (iAdd .i64 v7.1 (1:Int), ())) else some (.inl (iAdd .i64 v7.1 (1:Int), ())) else some (.inr (.inl (v7.1, ())))
noncomputable def F18.b1 (x4 : Tys.D e56) (x0 : GD i18) : (v6 : (Int × Unit)) → Option (Sum (Int × Unit) (Sum (Int × Unit) (Sum (Int × Unit) (Sum (Int × Unit) (GD o18))))) := fun v6 => bif iLt v6.1 (List.length x4.2.2.2.2.2.2.2.2.2.2.2.2.2.2.2.2.2.2.2.1 : Int) then (loopF (F18.b2 x4 v6 x0) ((0:Int), ())).bind fun r13 => Sum.elim (fun v12 => some (.inl (iAdd .i64 v6.1 (1:Int), ()))) some r13 else some (.inr (.inl (v6.1, ())))
noncomputable def F18.b0 (x0 : GD i18) : (v3 : (Int × Unit)) → Option (Sum (Int × Unit) (Sum (Int × Unit) (GD o18))) := fun v3 => bif iLt v3.1 (List.length x0.1.2.2.2.1 : Int) then (getI x0.1.2.2.2.1 v3.1).bind fun x4 => (F85 ((x4.2.2.2.2.1, ()), ((x0.1.2.2.1, ()), ()))).bind fun y5 => bif (!y5.1.1) then some (.inr (.inr ((false, ()), ()))) else (loopF (F18.b1 x4 x0) ((0:Int), ())).bind fun r15 => Sum.elim (fun v14 => some (.inl (iAdd .i64 v3.1 (1:Int), ()))) some r15 else some (.inr (.inl (v3.1, ())))
noncomputable def F18 : GD i18 → Option (GD o18) := fun x0 => (F86 ((x0.1.1, (x0.1.2.1, ())), ())).bind fun y1 => (F85 (y1.1, ((x0.1.2.2.1, ()), ()))).bind fun y2 => bif (!y2.1.1) then some ((false, ()), ()) else (loopF (F18.b0 x0) ((0:Int), ())).bind fun r17 => Sum.elim (fun v16 => some ((true, ()), ())) some r17
noncomputable def c18 : Con := ⟨i18, o18, F18⟩
noncomputable def C18 : Ctx := ⟨70, TT, EE, fun n => (bif Nat.ble n 85 then (bif Nat.beq n 85 then some c85 else none) else (bif Nat.beq n 86 then some c86 else none)), fun n k => [], fun n => (bif Nat.ble n 0 then (bif Nat.beq n 0 then (some ⟨[(.t 3 (.int .i64) .sh)], [2, 4, 5, 6, 7, 15, 16, 17, 18, 19, 20, 21, 22, 23, 24, 25, 26, 27, 28, 29, 30, 31, 32, 33, 34, 35, 36, 37, 38, 39, 40, 41, 42, 43, 44, 45, 46, 47, 48, 49, 50, 51, 52, 53, 54, 55, 56, 57, 58, 59, 60, 61, 62, 63, 64, 65, 66, 67, 68, 69], []⟩) else none) else (bif Nat.ble n 2 then (bif Nat.beq n 2 then (some ⟨[(.t 5 (.int .i64) .sh)], [2, 6, 7, 33, 34, 35, 36, 37, 38, 39, 40, 41, 42, 43, 44, 45, 46, 47, 48, 49, 50, 51, 52, 53, 54, 55, 56, 57, 58, 59, 60, 61, 62, 63, 64, 65, 66, 67, 68, 69], []⟩) else none) else (bif Nat.beq n 4 then (some ⟨[(.t 6 (.int .i64) .sh)], [2, 7, 40, 41, 42, 43, 44, 45, 46, 47, 48, 49, 50, 51, 52, 53, 54, 55, 56, 57, 58, 59, 60, 61, 62, 63, 64, 65, 66, 67, 68, 69], []⟩) else none))), fun n => none⟩
theorem q18 : ∀ x, runF C18 Tryz.f18 i18 o18 x = F18 x := by intro x; kernel_rfl
def i172 : List Grp := [⟨.c, (.cons (.int .i64) .nil), []⟩, ⟨.c, (.cons (.int .i64) .nil), []⟩, ⟨.c, (.cons (.int .i64) .nil), []⟩]
def o172 : List Grp := [⟨.c, (.cons .bool .nil), []⟩]
/-- impl.inRange -/
noncomputable def F172 : GD i172 → Option (GD o172) := fun x0 => bif iLe x0.2.1.1 x0.1.1 then some ((iLe x0.1.1 x0.2.2.1.1, ()), ()) else some ((false, ()), ())
noncomputable def c172 : Con := ⟨i172, o172, F172⟩
noncomputable def C172 : Ctx := ⟨15, TT, EE, fun n => none, fun n k => [], fun n => none, fun n => none⟩
theorem q172 : ∀ x, runF C172 Tryz.f172 i172 o172 x = F172 x := by intro x; kernel_rfl
def i174 : List Grp := [⟨.c, (.cons .str .nil), []⟩]
def o174 : List Grp := [⟨.c, (.cons .bool .nil), []⟩]
/-- impl.NameOk -/
noncomputable def F174.b0 (x0 : GD i174) : (v1 : (Int × Unit)) → Option (Sum (Int × Unit) (Sum (Int × Unit) (GD o174))) := fun v1 => bif iLt v1.1 (ByteArray.size x0.1.1 : Int) then (getI (ByteArray.data x0.1.1).toList v1.1).bind fun b2 => bif iLe (97:Int) (UInt8.toNat b2 : Int) then (getI (ByteArray.data x0.1.1).toList v1.1).bind fun b3 => bif iLe (UInt8.toNat b3 : Int) (122:Int) then some (.inl (iAdd .i64 v1.1 (1:Int), ())) else (getI (ByteArray.data x0.1.1).toList v1.1).bind fun b4 => bif iLe (48:Int) (UInt8.toNat b4 : Int) then (getI (ByteArray.data x0.1.1).toList v1.1).bind fun b5 => bif (!(iLe (UInt8.toNat b5 : Int) (57:Int))) then some (.inr (.inr ((false, ()), ()))) else some (.inl (iAdd .i64 v1.1 (1:Int), ())) else some (.inr (.inr ((false, ()), ()))) else (getI (ByteArray.data x0.1.1).toList v1.1).bind fun b6 => bif iLe (48:Int) (UInt8.toNat b6 : Int) then (getI (ByteArray.data x0.1.1).toList v1.1).bind fun b7 => bif (!(iLe (UInt8.toNat b7 : Int) (57:Int))) then some (.inr (.inr ((false, ()), ()))) else some (.inl (iAdd .i64 v1.1 (1:Int), ())) else some (.inr (.inr ((false, ()), ()))) else some (.inr (.inl (v1.1, ())))
noncomputable def F174 : GD i174 → Option (GD o174) := fun x0 => (loopF (F174.b0 x0) ((0:Int), ())).bind fun r9 => Sum.elim (fun v8 => (F172 (((ByteArray.size x0.1.1 : Int), ()), (((1:Int), ()), (((8:Int), ()), ())))).bind fun y10 => some (y10.1, ())) some r9
noncomputable def c174 : Con := ⟨i174, o174, F174⟩
noncomputable def C174 : Ctx := ⟨36, TT, EE, fun n => (bif Nat.beq n 172 then some c172 else none), fun n k => [], fun n => (bif Nat.beq n 0 then (some ⟨[(.t 3 (.int .i64) .sh)], [2, 4, 5, 6, 7, 8, 9, 10, 11, 12, 13, 14, 15, 16, 17, 18, 19, 20, 21, 22, 23, 24, 25, 26, 27, 28, 29, 30, 31, 32], []⟩) else none), fun n => none⟩
theorem q174 : ∀ x, runF C174 Tryz.f174 i174 o174 x = F174 x := by intro x; kernel_rfl
def i230 : List Grp := [⟨.c, (.cons (.int .i64) .nil), []⟩]
def o230 : List Grp := [⟨.c, (.cons .bool .nil), []⟩]
/-- impl.isAmount -/
noncomputable def F230 : GD i230 → Option (GD o230) := fun x0 => (F172 (x0.1, (((0:Int), ()), (((1000000:Int), ()), ())))).bind fun y1 => some (y1.1, ())
noncomputable def c230 : Con := ⟨i230, o230, F230⟩
noncomputable def C230 : Ctx := ⟨5, TT, EE, fun n => (bif Nat.beq n 172 then some c172 else none), fun n k => [], fun n => none, fun n => none⟩
theorem q230 : ∀ x, runF C230 Tryz.f230 i230 o230 x = F230 x := by intro x; kernel_rfl
def i209 : List Grp := [⟨.agg, (.cons .str (.cons (.int .i64) (.cons (.int .i64) (.cons (.int .i64) (.cons (.sl e248) .nil))))), []⟩]
def o209 : List Grp := [⟨.c, (.cons .bool .nil), []⟩]
/-- impl.AcctOk -/
noncomputable def F209.b0 (x0 : GD i209) : (v1 : (Int × Unit)) → Option (Sum (Int × Unit) (Sum (Int × Unit) (GD o209))) := fun v1 => bif iLt v1.1 (List.length x0.1.2.2.2.2.1 : Int) then (getI x0.1.2.2.2.2.1 v1.1).bind fun x2 => (F172 ((x2.1, ()), (((1:Int), ()), (((1000000:Int), ()), ())))).bind fun y3 => bif (!y3.1.1) then some (.inr (.inr ((false, ()), ()))) else (F172 ((x2.2.1, ()), (((0:Int), ()), (((1000:Int), ()), ())))).bind fun y4 => bif (!y4.1.1) then some (.inr (.inr ((false, ()), ()))) else bif iLt (0:Int) v1.1 then (getI x0.1.2.2.2.2.1 (iSub .i64 v1.1 (1:Int))).bind fun x5 => bif iLe x2.2.1 x5.2.1 then some (.inr (.inr ((false, ()), ()))) else some (.inl (iAdd .i64 v1.1 (1:Int), ())) else some (.inl (iAdd .i64 v1.1 (1:Int), ())) else some (.inr (.inl (v1.1, ())))
noncomputable def F209 : GD i209 → Option (GD o209) := fun x0 => (loopF (F209.b0 x0) ((0:Int), ())).bind fun r7 => Sum.elim (fun v6 => (F174 ((x0.1.1, ()), ())).bind fun y8 => bif y8.1.1 then (F230 ((x0.1.2.1, ()), ())).bind fun y9 => bif y9.1.1 then (F230 ((x0.1.2.2.2.1, ()), ())).bind fun y10 => bif y10.1.1 then (F172 ((x0.1.2.2.1, ()), (((0:Int), ()), (((10000:Int), ()), ())))).bind fun y11 => bif y11.1.1 then some ((iLe (List.length x0.1.2.2.2.2.1 : Int) (4:Int), ()), ()) else some ((false, ()), ()) else some ((false, ()), ()) else some ((false, ()), ()) else some ((false, ()), ())) some r7
noncomputable def c209 : Con := ⟨i209, o209, F209⟩
noncomputable def C209 : Ctx := ⟨64, TT, EE, fun n => (bif Nat.ble n 172 then (bif Nat.beq n 172 then some c172 else none) else (bif Nat.ble n 174 then (bif Nat.beq n 174 then some c174 else none) else (bif Nat.beq n 230 then some c230 else none))), fun n k => [], fun n => (bif Nat.beq n 0 then (some ⟨[(.t 8 (.int .i64) .sh)], [2, 3, 4, 9, 10, 11, 12, 13, 14, 15, 16, 17, 18, 19, 20, 21, 22, 23, 24, 25, 26, 27, 28, 29, 30, 31, 32, 33, 34, 35, 36, 37, 38, 39], []⟩) else none), fun n => none⟩
theorem q209 : ∀ x, runF C209 Tryz.f209 i209 o209 x = F209 x := by intro x; kernel_rfl
def i210 : List Grp := [⟨.c, (.cons (.sl e153) .nil), []⟩]
def o210 : List Grp := [⟨.c, (.cons (.int .i64) .nil), []⟩]
/-- impl.Wealth -/
noncomputable def F210.b1 (x2 : Tys.D e153) : (v3 : (Int × (Int × Unit))) → Option (Sum (Int × (Int × Unit)) (Sum (Int × (Int × Unit)) (Sum (Int × (Int × Unit)) (Sum (Int × (Int × Unit)) (GD o210))))) := fun v3 => bif iLt v3.2.1 (List.length x2.2.2.2.2.1 : Int) then (getI x2.2.2.2.2.1 v3.2.1).bind fun x4 => some (.inl (iAdd .i64 v3.1 x4.1, (iAdd .i64 v3.2.1 (1:Int), ()))) else some (.inr (.inl (v3.1, (v3.2.1, ()))))
noncomputable def F210.b0 (x0 : GD i210) : (v1 : (Int × (Int × Unit))) → Option (Sum (Int × (Int × Unit)) (Sum (Int × (Int × Unit)) (GD o210))) := fun v1 => bif iLt v1.2.1 (List.length x0.1.1 : Int) then (getI x0.1.1 v1.2.1).bind fun x2 => (loopF (F210.b1 x2) (iAdd .i64 v1.1 (iAdd .i64 x2.2.1 x2.2.2.2.1), ((0:Int), ()))).bind fun r6 => Sum.elim (fun v5 => some (.inl (v5.1, (iAdd .i64 v1.2.1 (1:Int), ())))) some r6 else some (.inr (.inl (v1.1, (v1.2.1, ()))))
noncomputable def F210 : GD i210 → Option (GD o210) := fun x0 => (loopF (F210.b0 x0) ((0:Int), ((0:Int), ()))).bind fun r8 => Sum.elim (fun v7 => some ((v7.1, ()), ())) some r8
noncomputable def c210 : Con := ⟨i210, o210, F210⟩
noncomputable def C210 : Ctx := ⟨35, TT, EE, fun n => none, fun n k => [], fun n => (bif Nat.ble n 0 then (bif Nat.beq n 0 then (some ⟨[(.t 3 (.int .i64) .sh), (.t 10 (.int .i64) .sh)], [5, 7, 11, 12, 13, 14, 15, 16, 17, 18, 19, 20, 21, 22, 23, 24, 25, 26, 27, 28, 29, 30, 31, 32, 33], []⟩) else none) else (bif Nat.beq n 2 then (some ⟨[(.t 3 (.int .i64) .sh), (.t 24 (.int .i64) .sh)], [7, 25, 26, 27, 28, 29, 30, 31, 32], []⟩) else none)), fun n => none⟩
theorem q210 : ∀ x, runF C210 Tryz.f210 i210 o210 x = F210 x := by intro x; kernel_rfl
def i173 : List Grp := [⟨.c, (.cons (.sl e153) .nil), []⟩]
def o173 : List Grp := [⟨.c, (.cons .bool .nil), []⟩]
/-- impl.AcctsOk -/
noncomputable def F173.b0 (x0 : GD i173) : (v1 : (Int × Unit)) → Option (Sum (Int × Unit) (Sum (Int × Unit) (GD o173))) := fun v1 => bif iLt v1.1 (List.length x0.1.1 : Int) then (getI x0.1.1 v1.1).bind fun x2 => (F209 (x2, ())).bind fun y3 => bif (!y3.1.1) then some (.inr (.inr ((false, ()), ()))) else bif iLt (0:Int) v1.1 then (getI x0.1.1 (iSub .i64 v1.1 (1:Int))).bind fun x4 => bif sLt x2.1 x4.1 || sEq x2.1 x4.1 then some (.inr (.inr ((false, ()), ()))) else some (.inl (iAdd .i64 v1.1 (1:Int), ())) else some (.inl (iAdd .i64 v1.1 (1:Int), ())) else some (.inr (.inl (v1.1, ())))
noncomputable def F173 : GD i173 → Option (GD o173) := fun x0 => (loopF (F173.b0 x0) ((0:Int), ())).bind fun r6 => Sum.elim (fun v5 => bif iLe (List.length x0.1.1 : Int) (12:Int) then (F210 (x0.1, ())).bind fun y7 => some ((iLe y7.1.1 (1000000:Int), ()), ()) else some ((false, ()), ())) some r6
noncomputable def c173 : Con := ⟨i173, o173, F173⟩
noncomputable def C173 : Ctx := ⟨39, TT, EE, fun n => (bif Nat.ble n 209 then (bif Nat.beq n 209 then some c209 else none) else (bif Nat.beq n 210 then some c210 else none)), fun n k => [], fun n => (bif Nat.beq n 0 then (some ⟨[(.t 7 (.int .i64) .sh)], [2, 3, 4, 8, 9, 10, 11, 12, 13, 14, 15, 16, 17, 18, 19, 20, 21, 22, 23, 24, 25, 26, 27, 28, 29, 30], []⟩) else none), fun n => none⟩
theorem q173 : ∀ x, runF C173 Tryz.f173 i173 o173 x = F173 x := by intro x; kernel_rfl
def i102 : List Grp := [⟨.agg, (.cons (.int .i64) (.cons (.sl e153) .nil)), []⟩]
def o102 : List Grp := [⟨.c, (.cons .bool .nil), []⟩]
/-- impl.LedgerOk -/
noncomputable def F102 : GD i102 → Option (GD o102) := fun x0 => (F172 ((x0.1.1, ()), (((0:Int), ()), (((900:Int), ()), ())))).bind fun y1 => bif y1.1.1 then (F173 ((x0.1.2.1, ()), ())).bind fun y2 => some (y2.1, ()) else some ((false, ()), ())
noncomputable def c102 : Con := ⟨i102, o102, F102⟩
noncomputable def C102 : Ctx := ⟨11, TT, EE, fun n => (bif Nat.ble n 172 then (bif Nat.beq n 172 then some c172 else none) else (bif Nat.beq n 173 then some c173 else none)), fun n k => [], fun n => none, fun n => none⟩
theorem q102 : ∀ x, runF C102 Tryz.f102 i102 o102 x = F102 x := by intro x; kernel_rfl
def i91 : List Grp := [⟨.agg, (.cons (.int .i64) (.cons (.sl e153) .nil)), []⟩]
def o91 : List Grp := [⟨.c, (.cons (.sl e188) .nil), [(.own [])]⟩]
/-- impl.SetOf -/
noncomputable def F91.b0 (x0 : GD i91) : (v2 : (List (Tys.D e188) × (Int × Unit))) → Option (Sum (List (Tys.D e188) × (Int × Unit)) (Sum (List (Tys.D e188) × (Int × Unit)) (GD o91))) := fun v2 => bif iLt v2.2.1 (List.length x0.1.2.1 : Int) then (getI x0.1.2.1 v2.2.1).bind fun x3 => bif iLe (5:Int) x3.2.2.2.1 then bif room (List.length v2.1 + List.length ([(x3.1, (x3.2.2.2.1, ()))] : List (Tys.D e188))) 24 then some (.inl (lapp v2.1 ([(x3.1, (x3.2.2.2.1, ()))] : List (Tys.D e188)), (iAdd .i64 v2.2.1 (1:Int), ()))) else none else some (.inl (v2.1, (iAdd .i64 v2.2.1 (1:Int), ()))) else some (.inr (.inl (v2.1, (v2.2.1, ()))))
noncomputable def F91 : GD i91 → Option (GD o91) := fun x0 => (F102 (x0.1, ())).bind fun y1 => bif (!y1.1.1) then some (([], ()), ()) else (loopF (F91.b0 x0) ([], ((0:Int), ()))).bind fun r5 => Sum.elim (fun v4 => some ((v4.1, ()), ())) some r5
noncomputable def c91 : Con := ⟨i91, o91, F91⟩
noncomputable def C91 : Ctx := ⟨29, TT, EE, fun n => (bif Nat.beq n 102 then some c102 else none), fun n k => [], fun n => (bif Nat.beq n 0 then (some ⟨[(.t 3 (.sl e188) (.own [])), (.t 12 (.int .i64) .sh)], [5, 13, 14, 15, 16, 17, 18, 19, 20, 21, 22, 23, 24, 25, 26, 27], []⟩) else none), fun n => none⟩
theorem q91 : ∀ x, runF C91 Tryz.f91 i91 o91 x = F91 x := by intro x; kernel_rfl
def i176 : List Grp := [⟨.c, (.cons (.sl e9) .nil), []⟩, ⟨.c, (.cons .str .nil), []⟩]
def o176 : List Grp := [⟨.c, (.cons (.int .i64) .nil), []⟩]
/-- slices.Index[[]string,string] -/
noncomputable def F176.b0 (x0 : GD i176) : (v1 : (Int × Unit)) → Option (Sum (Int × Unit) (Sum (Int × Unit) (GD o176))) := fun v1 => bif iLt v1.1 (List.length x0.1.1 : Int) then (getI x0.1.1 v1.1).bind fun x2 => bif sEq x0.2.1.1 x2.1 then some (.inr (.inr ((v1.1, ()), ()))) else some (.inl (iAdd .i64 v1.1 (1:Int), ())) else some (.inr (.inl (v1.1, ())))
noncomputable def F176 : GD i176 → Option (GD o176) := fun x0 => (loopF (F176.b0 x0) ((0:Int), ())).bind fun r4 => Sum.elim (fun v3 => some (((-1:Int), ()), ())) some r4
noncomputable def c176 : Con := ⟨i176, o176, F176⟩
noncomputable def C176 : Ctx := ⟨19, TT, EE, fun n => none, fun n k => [], fun n => (bif Nat.beq n 0 then (some ⟨[(.t 8 (.int .i64) .sh)], [4, 5, 9, 10, 11, 12, 13, 14, 15, 16, 17, 18], []⟩) else none), fun n => none⟩
theorem q176 : ∀ x, runF C176 Tryz.f176 i176 o176 x = F176 x := by intro x; kernel_rfl
def i106 : List Grp := [⟨.c, (.cons (.sl e9) .nil), []⟩, ⟨.c, (.cons .str .nil), []⟩]
def o106 : List Grp := [⟨.c, (.cons .bool .nil), []⟩]
/-- slices.Contains[[]string,string] -/
noncomputable def F106 : GD i106 → Option (GD o106) := fun x0 => (F176 (x0.1, (x0.2.1, ()))).bind fun y1 => some ((iLe (0:Int) y1.1.1, ()), ())
noncomputable def c106 : Con := ⟨i106, o106, F106⟩
noncomputable def C106 : Ctx := ⟨9, TT, EE, fun n => (bif Nat.beq n 176 then some c176 else none), fun n k => [], fun n => none, fun n => none⟩
theorem q106 : ∀ x, runF C106 Tryz.f106 i106 o106 x = F106 x := by intro x; kernel_rfl
def i162 : List Grp := [⟨.c, (.cons (.sl e188) .nil), []⟩, ⟨.c, (.cons (.sl e9) .nil), []⟩]
def o162 : List Grp := [⟨.c, (.cons (.int .i64) .nil), []⟩]
/-- impl.WeightOf -/
noncomputable def F162.b0 (x0 : GD i162) : (v1 : (Int × (Int × Unit))) → Option (Sum (Int × (Int × Unit)) (Sum (Int × (Int × Unit)) (GD o162))) := fun v1 => bif iLt v1.2.1 (List.length x0.1.1 : Int) then (getI x0.1.1 v1.2.1).bind fun x2 => (F106 (x0.2.1, ((x2.1, ()), ()))).bind fun y3 => bif y3.1.1 then some (.inl (iAdd .i64 v1.1 x2.2.1, (iAdd .i64 v1.2.1 (1:Int), ()))) else some (.inl (v1.1, (iAdd .i64 v1.2.1 (1:Int), ()))) else some (.inr (.inl (v1.1, (v1.2.1, ()))))
noncomputable def F162 : GD i162 → Option (GD o162) := fun x0 => (loopF (F162.b0 x0) ((0:Int), ((0:Int), ()))).bind fun r5 => Sum.elim (fun v4 => some ((v4.1, ()), ())) some r5
noncomputable def c162 : Con := ⟨i162, o162, F162⟩
noncomputable def C162 : Ctx := ⟨24, TT, EE, fun n => (bif Nat.beq n 106 then some c106 else none), fun n k => [], fun n => (bif Nat.beq n 0 then (some ⟨[(.t 5 (.int .i64) .sh), (.t 10 (.int .i64) .sh)], [7, 11, 12, 13, 14, 15, 16, 17, 18, 19, 20, 21, 22], []⟩) else none), fun n => none⟩
theorem q162 : ∀ x, runF C162 Tryz.f162 i162 o162 x = F162 x := by intro x; kernel_rfl
def i163 : List Grp := [⟨.c, (.cons (.sl e188) .nil), []⟩]
def o163 : List Grp := [⟨.c, (.cons (.int .i64) .nil), []⟩]
/-- impl.TotalOf -/
noncomputable def F163.b0 (x0 : GD i163) : (v1 : (Int × (Int × Unit))) → Option (Sum (Int × (Int × Unit)) (Sum (Int × (Int × Unit)) (GD o163))) := fun v1 => bif iLt v1.2.1 (List.length x0.1.1 : Int) then (getI x0.1.1 v1.2.1).bind fun x2 => some (.inl (iAdd .i64 v1.1 x2.2.1, (iAdd .i64 v1.2.1 (1:Int), ()))) else some (.inr (.inl (v1.1, (v1.2.1, ()))))
noncomputable def F163 : GD i163 → Option (GD o163) := fun x0 => (loopF (F163.b0 x0) ((0:Int), ((0:Int), ()))).bind fun r4 => Sum.elim (fun v3 => some ((v3.1, ()), ())) some r4
noncomputable def c163 : Con := ⟨i163, o163, F163⟩
noncomputable def C163 : Ctx := ⟨18, TT, EE, fun n => none, fun n k => [], fun n => (bif Nat.beq n 0 then (some ⟨[(.t 3 (.int .i64) .sh), (.t 8 (.int .i64) .sh)], [5, 9, 10, 11, 12, 13, 14, 15, 16], []⟩) else none), fun n => none⟩
theorem q163 : ∀ x, runF C163 Tryz.f163 i163 o163 x = F163 x := by intro x; kernel_rfl
def i90 : List Grp := [⟨.rp, (.cons (.int .i64) (.cons (.sl e153) (.cons (.sl e9) (.cons (.sl e56) (.cons (.sl e138) (.cons (.sl e214) (.cons (.sl e217) .nil))))))), []⟩, ⟨.c, (.cons (.sl e188) .nil), []⟩]
def o90 : List Grp := [⟨.c, (.cons .bool .nil), []⟩]
/-- (*impl.World).isMild -/
noncomputable def F90 : GD i90 → Option (GD o90) := fun x0 => (F162 (x0.2.1, ((x0.1.2.2.1, ()), ()))).bind fun y1 => (F163 (x0.2.1, ())).bind fun y2 => some ((iLt (iMul .i64 (3:Int) y1.1.1) y2.1.1, ()), ())
noncomputable def c90 : Con := ⟨i90, o90, F90⟩
noncomputable def C90 : Ctx := ⟨15, TT, EE, fun n => (bif Nat.ble n 162 then (bif Nat.beq n 162 then some c162 else none) else (bif Nat.beq n 163 then some c163 else none)), fun n k => [], fun n => none, fun n => none⟩
theorem q90 : ∀ x, runF C90 Tryz.f90 i90 o90 x = F90 x := by intro x; kernel_rfl
def i20 : List Grp := [⟨.agg, (.cons (.int .i64) (.cons (.sl e153) (.cons (.sl e9) (.cons (.sl e56) (.cons (.sl e138) (.cons (.sl e214) (.cons (.sl e217) .nil))))))), []⟩]
def o20 : List Grp := [⟨.c, (.cons .bool .nil), []⟩]
/-- impl.Premise -/
noncomputable def F20.b2 (x7 : Tys.D e43) (x0 : GD i20) : (v8 : (Int × Unit)) → Option (Sum (Int × Unit) (Sum (Int × Unit) (Sum (Int × Unit) (Sum (Int × Unit) (Sum (Int × Unit) (Sum (Int × Unit) (GD o20))))))) := fun v8 => bif iLt v8.1 (List.length x7.2.1 : Int) then (getI x7.2.1 v8.1).bind fun x9 => bif x9.2.2.2.2.2.2.2.2.2.2.2.1 then (F90 (x0.1, ((x9.2.2.2.2.2.2.2.2.2.2.2.2.1, ()), ()))).bind fun y10 => bif (!y10.1.1) then some (.inr (.inr (.inr (.inr (.inr (.inr ((false, ()), ()))))))) else some (.inl (iAdd .i64 v8.1 (1:Int), ())) else some (.inl (iAdd .i64 v8.1 (1:Int), ())) else some (.inr (.inl (v8.1, ())))
noncomputable def F20.b1 (x4 : Tys.D e56) (x0 : GD i20) : (v6 : (Int × Unit)) → Option (Sum (Int × Unit) (Sum (Int × Unit) (Sum (Int × Unit) (Sum (Int × Unit) (GD o20))))) := fun v6 => bif iLt v6.1 (List.length x4.2.2.2.2.2.2.2.2.2.2.2.2.2.2.2.2.2.2.2.1 : Int) then (getI x4.2.2.2.2.2.2.2.2.2.2.2.2.2.2.2.2.2.2.2.1 v6.1).bind fun x7 => (loopF (F20.b2 x7 x0) ((0:Int), ())).bind fun r12 => Sum.elim (fun v11 => some (.inl (iAdd .i64 v6.1 (1:Int), ()))) some r12 else some (.inr (.inl (v6.1, ())))
noncomputable def F20.b0 (x0 : GD i20) : (v3 : (Int × Unit)) → Option (Sum (Int × Unit) (Sum (Int × Unit) (GD o20))) := fun v3 => bif iLt v3.1 (List.length x0.1.2.2.2.1 : Int) then (getI x0.1.2.2.2.1 v3.1).bind fun x4 => (F90 (x0.1, ((x4.2.2.2.2.1, ()), ()))).bind fun y5 => bif (!y5.1.1) then some (.inr (.inr ((false, ()), ()))) else (loopF (F20.b1 x4 x0) ((0:Int), ())).bind fun r14 => Sum.elim (fun v13 => some (.inl (iAdd .i64 v3.1 (1:Int), ()))) some r14 else some (.inr (.inl (v3.1, ())))
noncomputable def F20 : GD i20 → Option (GD o20) := fun x0 => (F91 ((x0.1.1, (x0.1.2.1, ())), ())).bind fun y1 => (F90 (x0.1, (y1.1, ()))).bind fun y2 => bif (!y2.1.1) then some ((false, ()), ()) else (loopF (F20.b0 x0) ((0:Int), ())).bind fun r16 => Sum.elim (fun v15 => some ((true, ()), ())) some r16
noncomputable def c20 : Con := ⟨i20, o20, F20⟩
noncomputable def C20 : Ctx := ⟨50, TT, EE, fun n => (bif Nat.ble n 90 then (bif Nat.beq n 90 then some c90 else none) else (bif Nat.beq n 91 then some c91 else none)), fun n k => [], fun n => (bif Nat.ble n 0 then (bif Nat.beq n 0 then (some ⟨[(.t 17 (.int .i64) .sh)], [2, 4, 6, 8, 18, 19, 20, 21, 22, 23, 24, 25, 26, 27, 28, 29, 30, 31, 32, 33, 34, 35, 36, 37, 38, 39, 40, 41, 42, 43, 44, 45, 46, 47, 48, 49], []⟩) else none) else (bif Nat.ble n 2 then (bif Nat.beq n 2 then (some ⟨[(.t 28 (.int .i64) .sh)], [2, 6, 8, 29, 30, 31, 32, 33, 34, 35, 36, 37, 38, 39, 40, 41, 42, 43, 44, 45, 46, 47, 48], []⟩) else none) else (bif Nat.beq n 4 then (some ⟨[(.t 35 (.int .i64) .sh)], [2, 8, 36, 37, 38, 39, 40, 41, 42, 43, 44, 45, 46, 47], []⟩) else none))), fun n => none⟩
theorem q20 : ∀ x, runF C20 Tryz.f20 i20 o20 x = F20 x := by intro x; kernel_rfl
def i231 : List Grp := [⟨.agg, (.cons (.int .i64) (.cons (.int .i64) .nil)), []⟩, ⟨.agg, (.cons (.int .i64) (.cons (.int .i64) .nil)), []⟩]
def o231 : List Grp := [⟨.c, (.cons .bool .nil), []⟩]
/-- laws.eqLeave -/
noncomputable def F231 : GD i231 → Option (GD o231) := fun x0 => bif !iEq x0.1.1 x0.2.1.1 then some ((false, ()), ()) else bif !iEq x0.1.2.1 x0.2.1.2.1 then some ((false, ()), ()) else some ((true, ()), ())
noncomputable def c231 : Con := ⟨i231, o231, F231⟩
noncomputable def C231 : Ctx := ⟨15, TT, EE, fun n => none, fun n k => [], fun n => none, fun n => none⟩
theorem q231 : ∀ x, runF C231 Tryz.f231 i231 o231 x = F231 x := by intro x; kernel_rfl
def i212 : List Grp := [⟨.c, (.cons (.sl e248) .nil), []⟩, ⟨.c, (.cons (.sl e248) .nil), []⟩]
def o212 : List Grp := [⟨.c, (.cons .bool .nil), []⟩]
/-- laws.eqLeaveS -/
noncomputable def F212.b0 (x0 : GD i212) : (v1 : (Int × Unit)) → Option (Sum (Int × Unit) (Sum (Int × Unit) (GD o212))) := fun v1 => bif iLt v1.1 (List.length x0.1.1 : Int) then (getI x0.1.1 v1.1).bind fun x2 => (getI x0.2.1.1 v1.1).bind fun x3 => (F231 (x2, (x3, ()))).bind fun y4 => bif (!y4.1.1) then some (.inr (.inr ((false, ()), ()))) else some (.inl (iAdd .i64 v1.1 (1:Int), ())) else some (.inr (.inl (v1.1, ())))
noncomputable def F212 : GD i212 → Option (GD o212) := fun x0 => bif !iEq (List.length x0.1.1 : Int) (List.length x0.2.1.1 : Int) then some ((false, ()), ()) else (loopF (F212.b0 x0) ((0:Int), ())).bind fun r6 => Sum.elim (fun v5 => some ((true, ()), ())) some r6
noncomputable def c212 : Con := ⟨i212, o212, F212⟩
noncomputable def C212 : Ctx := ⟨27, TT, EE, fun n => (bif Nat.beq n 231 then some c231 else none), fun n k => [], fun n => (bif Nat.beq n 0 then (some ⟨[(.t 5 (.int .i64) .sh)], [4, 11, 12, 13, 14, 15, 16, 17, 18, 19, 20, 21, 22, 23, 24, 25, 26], []⟩) else none), fun n => none⟩
theorem q212 : ∀ x, runF C212 Tryz.f212 i212 o212 x = F212 x := by intro x; kernel_rfl
def i178 : List Grp := [⟨.agg, (.cons .str (.cons (.int .i64) (.cons (.int .i64) (.cons (.int .i64) (.cons (.sl e248) .nil))))), []⟩, ⟨.agg, (.cons .str (.cons (.int .i64) (.cons (.int .i64) (.cons (.int .i64) (.cons (.sl e248) .nil))))), []⟩]
def o178 : List Grp := [⟨.c, (.cons .bool .nil), []⟩]
/-- laws.eqAcct -/
noncomputable def F178 : GD i178 → Option (GD o178) := fun x0 => bif !sEq x0.1.1 x0.2.1.1 then some ((false, ()), ()) else bif !iEq x0.1.2.1 x0.2.1.2.1 then some ((false, ()), ()) else bif !iEq x0.1.2.2.1 x0.2.1.2.2.1 then some ((false, ()), ()) else bif !iEq x0.1.2.2.2.1 x0.2.1.2.2.2.1 then some ((false, ()), ()) else (F212 ((x0.1.2.2.2.2.1, ()), ((x0.2.1.2.2.2.2.1, ()), ()))).bind fun y1 => bif (!y1.1.1) then some ((false, ()), ()) else some ((true, ()), ())
noncomputable def c178 : Con := ⟨i178, o178, F178⟩
noncomputable def C178 : Ctx := ⟨31, TT, EE, fun n => (bif Nat.beq n 212 then some c212 else none), fun n k => [], fun n => none, fun n => none⟩
theorem q178 : ∀ x, runF C178 Tryz.f178 i178 o178 x = F178 x := by intro x; kernel_rfl
def i108 : List Grp := [⟨.c, (.cons (.sl e153) .nil), []⟩, ⟨.c, (.cons (.sl e153) .nil), []⟩]
def o108 : List Grp := [⟨.c, (.cons .bool .nil), []⟩]
/-- laws.eqAcctS -/
noncomputable def F108.b0 (x0 : GD i108) : (v1 : (Int × Unit)) → Option (Sum (Int × Unit) (Sum (Int × Unit) (GD o108))) := fun v1 => bif iLt v1.1 (List.length x0.1.1 : Int) then (getI x0.1.1 v1.1).bind fun x2 => (getI x0.2.1.1 v1.1).bind fun x3 => (F178 (x2, (x3, ()))).bind fun y4 => bif (!y4.1.1) then some (.inr (.inr ((false, ()), ()))) else some (.inl (iAdd .i64 v1.1 (1:Int), ())) else some (.inr (.inl (v1.1, ())))
noncomputable def F108 : GD i108 → Option (GD o108) := fun x0 => bif !iEq (List.length x0.1.1 : Int) (List.length x0.2.1.1 : Int) then some ((false, ()), ()) else (loopF (F108.b0 x0) ((0:Int), ())).bind fun r6 => Sum.elim (fun v5 => some ((true, ()), ())) some r6
noncomputable def c108 : Con := ⟨i108, o108, F108⟩
noncomputable def C108 : Ctx := ⟨27, TT, EE, fun n => (bif Nat.beq n 178 then some c178 else none), fun n k => [], fun n => (bif Nat.beq n 0 then (some ⟨[(.t 5 (.int .i64) .sh)], [4, 11, 12, 13, 14, 15, 16, 17, 18, 19, 20, 21, 22, 23, 24, 25, 26], []⟩) else none), fun n => none⟩
theorem q108 : ∀ x, runF C108 Tryz.f108 i108 o108 x = F108 x := by intro x; kernel_rfl
def i28 : List Grp := [⟨.agg, (.cons (.int .i64) (.cons (.sl e153) .nil)), []⟩, ⟨.agg, (.cons (.int .i64) (.cons (.sl e153) .nil)), []⟩]
def o28 : List Grp := [⟨.c, (.cons .bool .nil), []⟩]
/-- laws.eqLedger -/
noncomputable def F28 : GD i28 → Option (GD o28) := fun x0 => bif !iEq x0.1.1 x0.2.1.1 then some ((false, ()), ()) else (F108 ((x0.1.2.1, ()), ((x0.2.1.2.1, ()), ()))).bind fun y1 => bif (!y1.1.1) then some ((false, ()), ()) else some ((true, ()), ())
noncomputable def c28 : Con := ⟨i28, o28, F28⟩
noncomputable def C28 : Ctx := ⟨16, TT, EE, fun n => (bif Nat.beq n 108 then some c108 else none), fun n k => [], fun n => none, fun n => none⟩
theorem q28 : ∀ x, runF C28 Tryz.f28 i28 o28 x = F28 x := by intro x; kernel_rfl
def i29 : List Grp := [⟨.c, (.cons (.sl e9) .nil), []⟩, ⟨.c, (.cons (.sl e9) .nil), []⟩]
def o29 : List Grp := [⟨.c, (.cons .bool .nil), []⟩]
/-- laws.eqStringS -/
noncomputable def F29.b0 (x0 : GD i29) : (v1 : (Int × Unit)) → Option (Sum (Int × Unit) (Sum (Int × Unit) (GD o29))) := fun v1 => bif iLt v1.1 (List.length x0.1.1 : Int) then (getI x0.1.1 v1.1).bind fun x2 => (getI x0.2.1.1 v1.1).bind fun x3 => bif !sEq x2.1 x3.1 then some (.inr (.inr ((false, ()), ()))) else some (.inl (iAdd .i64 v1.1 (1:Int), ())) else some (.inr (.inl (v1.1, ())))
noncomputable def F29 : GD i29 → Option (GD o29) := fun x0 => bif !iEq (List.length x0.1.1 : Int) (List.length x0.2.1.1 : Int) then some ((false, ()), ()) else (loopF (F29.b0 x0) ((0:Int), ())).bind fun r5 => Sum.elim (fun v4 => some ((true, ()), ())) some r5
noncomputable def c29 : Con := ⟨i29, o29, F29⟩
noncomputable def C29 : Ctx := ⟨26, TT, EE, fun n => none, fun n k => [], fun n => (bif Nat.beq n 0 then (some ⟨[(.t 5 (.int .i64) .sh)], [4, 11, 12, 13, 14, 15, 16, 17, 18, 19, 20, 21, 22, 23, 24, 25], []⟩) else none), fun n => none⟩
theorem q29 : ∀ x, runF C29 Tryz.f29 i29 o29 x = F29 x := by intro x; kernel_rfl
def i149 : List Grp := [⟨.agg, (.cons .str (.cons (.int .i64) .nil)), []⟩, ⟨.agg, (.cons .str (.cons (.int .i64) .nil)), []⟩]
def o149 : List Grp := [⟨.c, (.cons .bool .nil), []⟩]
/-- laws.eqVal -/
noncomputable def F149 : GD i149 → Option (GD o149) := fun x0 => bif !sEq x0.1.1 x0.2.1.1 then some ((false, ()), ()) else bif !iEq x0.1.2.1 x0.2.1.2.1 then some ((false, ()), ()) else some ((true, ()), ())
noncomputable def c149 : Con := ⟨i149, o149, F149⟩
noncomputable def C149 : Ctx := ⟨15, TT, EE, fun n => none, fun n k => [], fun n => none, fun n => none⟩
theorem q149 : ∀ x, runF C149 Tryz.f149 i149 o149 x = F149 x := by intro x; kernel_rfl
def i64 : List Grp := [⟨.c, (.cons (.sl e188) .nil), []⟩, ⟨.c, (.cons (.sl e188) .nil), []⟩]
def o64 : List Grp := [⟨.c, (.cons .bool .nil), []⟩]
/-- laws.eqValS -/
noncomputable def F64.b0 (x0 : GD i64) : (v1 : (Int × Unit)) → Option (Sum (Int × Unit) (Sum (Int × Unit) (GD o64))) := fun v1 => bif iLt v1.1 (List.length x0.1.1 : Int) then (getI x0.1.1 v1.1).bind fun x2 => (getI x0.2.1.1 v1.1).bind fun x3 => (F149 (x2, (x3, ()))).bind fun y4 => bif (!y4.1.1) then some (.inr (.inr ((false, ()), ()))) else some (.inl (iAdd .i64 v1.1 (1:Int), ())) else some (.inr (.inl (v1.1, ())))
noncomputable def F64 : GD i64 → Option (GD o64) := fun x0 => bif !iEq (List.length x0.1.1 : Int) (List.length x0.2.1.1 : Int) then some ((false, ()), ()) else (loopF (F64.b0 x0) ((0:Int), ())).bind fun r6 => Sum.elim (fun v5 => some ((true, ()), ())) some r6
noncomputable def c64 : Con := ⟨i64, o64, F64⟩
noncomputable def C64 : Ctx := ⟨27, TT, EE, fun n => (bif Nat.beq n 149 then some c149 else none), fun n k => [], fun n => (bif Nat.beq n 0 then (some ⟨[(.t 5 (.int .i64) .sh)], [4, 11, 12, 13, 14, 15, 16, 17, 18, 19, 20, 21, 22, 23, 24, 25, 26], []⟩) else none), fun n => none⟩
theorem q64 : ∀ x, runF C64 Tryz.f64 i64 o64 x = F64 x := by intro x; kernel_rfl
def i63 : List Grp := [⟨.agg, (.cons (.int .i64) (.cons (.int .i64) (.cons (.sl e9) .nil))), []⟩, ⟨.agg, (.cons (.int .i64) (.cons (.int .i64) (.cons (.sl e9) .nil))), []⟩]
def o63 : List Grp := [⟨.c, (.cons .bool .nil), []⟩]
/-- laws.eqQc -/
noncomputable def F63 : GD i63 → Option (GD o63) := fun x0 => bif !iEq x0.1.1 x0.2.1.1 then some ((false, ()), ()) else bif !iEq x0.1.2.1 x0.2.1.2.1 then some ((false, ()), ()) else (F29 ((x0.1.2.2.1, ()), ((x0.2.1.2.2.1, ()), ()))).bind fun y1 => bif (!y1.1.1) then some ((false, ()), ()) else some ((true, ()), ())
noncomputable def c63 : Con := ⟨i63, o63, F63⟩
noncomputable def C63 : Ctx := ⟨21, TT, EE, fun n => (bif Nat.beq n 29 then some c29 else none), fun n k => [], fun n => none, fun n => none⟩
theorem q63 : ∀ x, runF C63 Tryz.f63 i63 o63 x = F63 x := by intro x; kernel_rfl
def i68 : List Grp := [⟨.c, (.cons (.sl e3) .nil), []⟩, ⟨.c, (.cons (.sl e3) .nil), []⟩]
def o68 : List Grp := [⟨.c, (.cons .bool .nil), []⟩]
/-- laws.eqIntS -/
noncomputable def F68.b0 (x0 : GD i68) : (v1 : (Int × Unit)) → Option (Sum (Int × Unit) (Sum (Int × Unit) (GD o68))) := fun v1 => bif iLt v1.1 (List.length x0.1.1 : Int) then (getI x0.1.1 v1.1).bind fun x2 => (getI x0.2.1.1 v1.1).bind fun x3 => bif !iEq x2.1 x3.1 then some (.inr (.inr ((false, ()), ()))) else some (.inl (iAdd .i64 v1.1 (1:Int), ())) else some (.inr (.inl (v1.1, ())))
noncomputable def F68 : GD i68 → Option (GD o68) := fun x0 => bif !iEq (List.length x0.1.1 : Int) (List.length x0.2.1.1 : Int) then some ((false, ()), ()) else (loopF (F68.b0 x0) ((0:Int), ())).bind fun r5 => Sum.elim (fun v4 => some ((true, ()), ())) some r5
noncomputable def c68 : Con := ⟨i68, o68, F68⟩
noncomputable def C68 : Ctx := ⟨26, TT, EE, fun n => none, fun n k => [], fun n => (bif Nat.beq n 0 then (some ⟨[(.t 5 (.int .i64) .sh)], [4, 11, 12, 13, 14, 15, 16, 17, 18, 19, 20, 21, 22, 23, 24, 25], []⟩) else none), fun n => none⟩
theorem q68 : ∀ x, runF C68 Tryz.f68 i68 o68 x = F68 x := by intro x; kernel_rfl
def i65 : List Grp := [⟨.agg, (.cons (.int .i64) (.cons (.sl e9) (.cons (.sl e3) .nil))), []⟩, ⟨.agg, (.cons (.int .i64) (.cons (.sl e9) (.cons (.sl e3) .nil))), []⟩]
def o65 : List Grp := [⟨.c, (.cons .bool .nil), []⟩]
/-- laws.eqTc -/
noncomputable def F65 : GD i65 → Option (GD o65) := fun x0 => bif !iEq x0.1.1 x0.2.1.1 then some ((false, ()), ()) else (F29 ((x0.1.2.1, ()), ((x0.2.1.2.1, ()), ()))).bind fun y1 => bif (!y1.1.1) then some ((false, ()), ()) else (F68 ((x0.1.2.2.1, ()), ((x0.2.1.2.2.1, ()), ()))).bind fun y2 => bif (!y2.1.1) then some ((false, ()), ()) else some ((true, ()), ())
noncomputable def c65 : Con := ⟨i65, o65, F65⟩
noncomputable def C65 : Ctx := ⟨22, TT, EE, fun n => (bif Nat.ble n 29 then (bif Nat.beq n 29 then some c29 else none) else (bif Nat.beq n 68 then some c68 else none)), fun n k => [], fun n => none, fun n => none⟩
theorem q65 : ∀ x, runF C65 Tryz.f65 i65 o65 x = F65 x := by intro x; kernel_rfl
def i152 : List Grp := [⟨.agg, (.cons (.int .i64) (.cons .str (.cons .str (.cons (.int .i64) (.cons (.int .i64) .nil))))), []⟩, ⟨.agg, (.cons (.int .i64) (.cons .str (.cons .str (.cons (.int .i64) (.cons (.int .i64) .nil))))), []⟩]
def o152 : List Grp := [⟨.c, (.cons .bool .nil), []⟩]
/-- laws.eqTx -/
noncomputable def F152 : GD i152 → Option (GD o152) := fun x0 => bif !iEq x0.1.1 x0.2.1.1 then some ((false, ()), ()) else bif !sEq x0.1.2.1 x0.2.1.2.1 then some ((false, ()), ()) else bif !sEq x0.1.2.2.1 x0.2.1.2.2.1 then some ((false, ()), ()) else bif !iEq x0.1.2.2.2.1 x0.2.1.2.2.2.1 then some ((false, ()), ()) else bif !iEq x0.1.2.2.2.2.1 x0.2.1.2.2.2.2.1 then some ((false, ()), ()) else some ((true, ()), ())
noncomputable def c152 : Con := ⟨i152, o152, F152⟩
noncomputable def C152 : Ctx := ⟨30, TT, EE, fun n => none, fun n k => [], fun n => none, fun n => none⟩
theorem q152 : ∀ x, runF C152 Tryz.f152 i152 o152 x = F152 x := by intro x; kernel_rfl
def i69 : List Grp := [⟨.c, (.cons (.sl e195) .nil), []⟩, ⟨.c, (.cons (.sl e195) .nil), []⟩]
def o69 : List Grp := [⟨.c, (.cons .bool .nil), []⟩]
/-- laws.eqTxS -/
noncomputable def F69.b0 (x0 : GD i69) : (v1 : (Int × Unit)) → Option (Sum (Int × Unit) (Sum (Int × Unit) (GD o69))) := fun v1 => bif iLt v1.1 (List.length x0.1.1 : Int) then (getI x0.1.1 v1.1).bind fun x2 => (getI x0.2.1.1 v1.1).bind fun x3 => (F152 (x2, (x3, ()))).bind fun y4 => bif (!y4.1.1) then some (.inr (.inr ((false, ()), ()))) else some (.inl (iAdd .i64 v1.1 (1:Int), ())) else some (.inr (.inl (v1.1, ())))
noncomputable def F69 : GD i69 → Option (GD o69) := fun x0 => bif !iEq (List.length x0.1.1 : Int) (List.length x0.2.1.1 : Int) then some ((false, ()), ()) else (loopF (F69.b0 x0) ((0:Int), ())).bind fun r6 => Sum.elim (fun v5 => some ((true, ()), ())) some r6
noncomputable def c69 : Con := ⟨i69, o69, F69⟩
noncomputable def C69 : Ctx := ⟨27, TT, EE, fun n => (bif Nat.beq n 152 then some c152 else none), fun n k => [], fun n => (bif Nat.beq n 0 then (some ⟨[(.t 5 (.int .i64) .sh)], [4, 11, 12, 13, 14, 15, 16, 17, 18, 19, 20, 21, 22, 23, 24, 25, 26], []⟩) else none), fun n => none⟩
theorem q69 : ∀ x, runF C69 Tryz.f69 i69 o69 x = F69 x := by intro x; kernel_rfl
def i148 : List Grp := [⟨.agg, (.cons (.int .i64) (.cons (.int .i64) (.cons (.int .i64) (.cons .str (.cons (.int .i64) (.cons (.int .i64) (.cons (.sl e9) (.cons (.int .i64) (.cons (.sl e9) (.cons (.sl e3) (.cons (.sl e195) (.cons .bool (.cons (.sl e188) (.cons .str .nil)))))))))))))), []⟩, ⟨.agg, (.cons (.int .i64) (.cons (.int .i64) (.cons (.int .i64) (.cons .str (.cons (.int .i64) (.cons (.int .i64) (.cons (.sl e9) (.cons (.int .i64) (.cons (.sl e9) (.cons (.sl e3) (.cons (.sl e195) (.cons .bool (.cons (.sl e188) (.cons .str .nil)))))))))))))), []⟩]
def o148 : List Grp := [⟨.c, (.cons .bool .nil), []⟩]
/-- laws.eqBlock -/
noncomputable def F148 : GD i148 → Option (GD o148) := fun x0 => bif !iEq x0.1.1 x0.2.1.1 then some ((false, ()), ()) else bif !iEq x0.1.2.1 x0.2.1.2.1 then some ((false, ()), ()) else bif !iEq x0.1.2.2.1 x0.2.1.2.2.1 then some ((false, ()), ()) else bif !sEq x0.1.2.2.2.1 x0.2.1.2.2.2.1 then some ((false, ()), ()) else (F63 ((x0.1.2.2.2.2.1, (x0.1.2.2.2.2.2.1, (x0.1.2.2.2.2.2.2.1, ()))), ((x0.2.1.2.2.2.2.1, (x0.2.1.2.2.2.2.2.1, (x0.2.1.2.2.2.2.2.2.1, ()))), ()))).bind fun y1 => bif (!y1.1.1) then some ((false, ()), ()) else (F65 ((x0.1.2.2.2.2.2.2.2.1, (x0.1.2.2.2.2.2.2.2.2.1, (x0.1.2.2.2.2.2.2.2.2.2.1, ()))), ((x0.2.1.2.2.2.2.2.2.2.1, (x0.2.1.2.2.2.2.2.2.2.2.1, (x0.2.1.2.2.2.2.2.2.2.2.2.1, ()))), ()))).bind fun y2 => bif (!y2.1.1) then some ((false, ()), ()) else (F69 ((x0.1.2.2.2.2.2.2.2.2.2.2.1, ()), ((x0.2.1.2.2.2.2.2.2.2.2.2.2.1, ()), ()))).bind fun y3 => bif (!y3.1.1) then some ((false, ()), ()) else bif !bEq x0.1.2.2.2.2.2.2.2.2.2.2.2.1 x0.2.1.2.2.2.2.2.2.2.2.2.2.2.1 then some ((false, ()), ()) else (F64 ((x0.1.2.2.2.2.2.2.2.2.2.2.2.2.1, ()), ((x0.2.1.2.2.2.2.2.2.2.2.2.2.2.2.1, ()), ()))).bind fun y4 => bif (!y4.1.1) then some ((false, ()), ()) else bif !sEq x0.1.2.2.2.2.2.2.2.2.2.2.2.2.2.1 x0.2.1.2.2.2.2.2.2.2.2.2.2.2.2.2.1 then some ((false, ()), ()) else some ((true, ()), ())
noncomputable def c148 : Con := ⟨i148, o148, F148⟩
noncomputable def C148 : Ctx := ⟨59, TT, EE, fun n => (bif Nat.ble n 64 then (bif Nat.ble n 63 then (bif Nat.beq n 63 then some c63 else none) else (bif Nat.beq n 64 then some c64 else none)) else (bif Nat.ble n 65 then (bif Nat.beq n 65 then some c65 else none) else (bif Nat.beq n 69 then some c69 else none))), fun n k => [], fun n => none, fun n => none⟩
theorem q148 : ∀ x, runF C148 Tryz.f148 i148 o148 x = F148 x := by intro x; kernel_rfl
def i62 : List Grp := [⟨.c, (.cons (.sl e138) .nil), []⟩, ⟨.c, (.cons (.sl e138) .nil), []⟩]
def o62 : List Grp := [⟨.c, (.cons .bool .nil), []⟩]
/-- laws.eqBlockS -/
noncomputable def F62.b0 (x0 : GD i62) : (v1 : (Int × Unit)) → Option (Sum (Int × Unit) (Sum (Int × Unit) (GD o62))) := fun v1 => bif iLt v1.1 (List.length x0.1.1 : Int) then (getI x0.1.1 v1.1).bind fun x2 => (getI x0.2.1.1 v1.1).bind fun x3 => (F148 (x2, (x3, ()))).bind fun y4 => bif (!y4.1.1) then some (.inr (.inr ((false, ()), ()))) else some (.inl (iAdd .i64 v1.1 (1:Int), ())) else some (.inr (.inl (v1.1, ())))
noncomputable def F62 : GD i62 → Option (GD o62) := fun x0 => bif !iEq (List.length x0.1.1 : Int) (List.length x0.2.1.1 : Int) then some ((false, ()), ()) else (loopF (F62.b0 x0) ((0:Int), ())).bind fun r6 => Sum.elim (fun v5 => some ((true, ()), ())) some r6
noncomputable def c62 : Con := ⟨i62, o62, F62⟩
noncomputable def C62 : Ctx := ⟨27, TT, EE, fun n => (bif Nat.beq n 148 then some c148 else none), fun n k => [], fun n => (bif Nat.beq n 0 then (some ⟨[(.t 5 (.int .i64) .sh)], [4, 11, 12, 13, 14, 15, 16, 17, 18, 19, 20, 21, 22, 23, 24, 25, 26], []⟩) else none), fun n => none⟩
theorem q62 : ∀ x, runF C62 Tryz.f62 i62 o62 x = F62 x := by intro x; kernel_rfl
def i150 : List Grp := [⟨.agg, (.cons (.int .i64) (.cons (.int .i64) (.cons .str .nil))), []⟩, ⟨.agg, (.cons (.int .i64) (.cons (.int .i64) (.cons .str .nil))), []⟩]
def o150 : List Grp := [⟨.c, (.cons .bool .nil), []⟩]
/-- laws.eqVote -/
noncomputable def F150 : GD i150 → Option (GD o150) := fun x0 => bif !iEq x0.1.1 x0.2.1.1 then some ((false, ()), ()) else bif !iEq x0.1.2.1 x0.2.1.2.1 then some ((false, ()), ()) else bif !sEq x0.1.2.2.1 x0.2.1.2.2.1 then some ((false, ()), ()) else some ((true, ()), ())
noncomputable def c150 : Con := ⟨i150, o150, F150⟩
noncomputable def C150 : Ctx := ⟨20, TT, EE, fun n => none, fun n k => [], fun n => none, fun n => none⟩
theorem q150 : ∀ x, runF C150 Tryz.f150 i150 o150 x = F150 x := by intro x; kernel_rfl
def i66 : List Grp := [⟨.c, (.cons (.sl e191) .nil), []⟩, ⟨.c, (.cons (.sl e191) .nil), []⟩]
def o66 : List Grp := [⟨.c, (.cons .bool .nil), []⟩]
/-- laws.eqVoteS -/
noncomputable def F66.b0 (x0 : GD i66) : (v1 : (Int × Unit)) → Option (Sum (Int × Unit) (Sum (Int × Unit) (GD o66))) := fun v1 => bif iLt v1.1 (List.length x0.1.1 : Int) then (getI x0.1.1 v1.1).bind fun x2 => (getI x0.2.1.1 v1.1).bind fun x3 => (F150 (x2, (x3, ()))).bind fun y4 => bif (!y4.1.1) then some (.inr (.inr ((false, ()), ()))) else some (.inl (iAdd .i64 v1.1 (1:Int), ())) else some (.inr (.inl (v1.1, ())))
noncomputable def F66 : GD i66 → Option (GD o66) := fun x0 => bif !iEq (List.length x0.1.1 : Int) (List.length x0.2.1.1 : Int) then some ((false, ()), ()) else (loopF (F66.b0 x0) ((0:Int), ())).bind fun r6 => Sum.elim (fun v5 => some ((true, ()), ())) some r6
noncomputable def c66 : Con := ⟨i66, o66, F66⟩
noncomputable def C66 : Ctx := ⟨27, TT, EE, fun n => (bif Nat.beq n 150 then some c150 else none), fun n k => [], fun n => (bif Nat.beq n 0 then (some ⟨[(.t 5 (.int .i64) .sh)], [4, 11, 12, 13, 14, 15, 16, 17, 18, 19, 20, 21, 22, 23, 24, 25, 26], []⟩) else none), fun n => none⟩
theorem q66 : ∀ x, runF C66 Tryz.f66 i66 o66 x = F66 x := by intro x; kernel_rfl
def i151 : List Grp := [⟨.agg, (.cons (.int .i64) (.cons (.int .i64) (.cons .str .nil))), []⟩, ⟨.agg, (.cons (.int .i64) (.cons (.int .i64) (.cons .str .nil))), []⟩]
def o151 : List Grp := [⟨.c, (.cons .bool .nil), []⟩]
/-- laws.eqGone -/
noncomputable def F151 : GD i151 → Option (GD o151) := fun x0 => bif !iEq x0.1.1 x0.2.1.1 then some ((false, ()), ()) else bif !iEq x0.1.2.1 x0.2.1.2.1 then some ((false, ()), ()) else bif !sEq x0.1.2.2.1 x0.2.1.2.2.1 then some ((false, ()), ()) else some ((true, ()), ())
noncomputable def c151 : Con := ⟨i151, o151, F151⟩
noncomputable def C151 : Ctx := ⟨20, TT, EE, fun n => none, fun n k => [], fun n => none, fun n => none⟩
theorem q151 : ∀ x, runF C151 Tryz.f151 i151 o151 x = F151 x := by intro x; kernel_rfl
def i67 : List Grp := [⟨.c, (.cons (.sl e193) .nil), []⟩, ⟨.c, (.cons (.sl e193) .nil), []⟩]
def o67 : List Grp := [⟨.c, (.cons .bool .nil), []⟩]
/-- laws.eqGoneS -/
noncomputable def F67.b0 (x0 : GD i67) : (v1 : (Int × Unit)) → Option (Sum (Int × Unit) (Sum (Int × Unit) (GD o67))) := fun v1 => bif iLt v1.1 (List.length x0.1.1 : Int) then (getI x0.1.1 v1.1).bind fun x2 => (getI x0.2.1.1 v1.1).bind fun x3 => (F151 (x2, (x3, ()))).bind fun y4 => bif (!y4.1.1) then some (.inr (.inr ((false, ()), ()))) else some (.inl (iAdd .i64 v1.1 (1:Int), ())) else some (.inr (.inl (v1.1, ())))
noncomputable def F67 : GD i67 → Option (GD o67) := fun x0 => bif !iEq (List.length x0.1.1 : Int) (List.length x0.2.1.1 : Int) then some ((false, ()), ()) else (loopF (F67.b0 x0) ((0:Int), ())).bind fun r6 => Sum.elim (fun v5 => some ((true, ()), ())) some r6
noncomputable def c67 : Con := ⟨i67, o67, F67⟩
noncomputable def C67 : Ctx := ⟨27, TT, EE, fun n => (bif Nat.beq n 151 then some c151 else none), fun n k => [], fun n => (bif Nat.beq n 0 then (some ⟨[(.t 5 (.int .i64) .sh)], [4, 11, 12, 13, 14, 15, 16, 17, 18, 19, 20, 21, 22, 23, 24, 25, 26], []⟩) else none), fun n => none⟩
theorem q67 : ∀ x, runF C67 Tryz.f67 i67 o67 x = F67 x := by intro x; kernel_rfl
def i12 : List Grp := [⟨.agg, (.cons (.int .i64) (.cons (.sl e138) (.cons (.int .i64) (.cons (.int .i64) (.cons (.sl e9) .nil))))), []⟩, ⟨.agg, (.cons (.int .i64) (.cons (.sl e138) (.cons (.int .i64) (.cons (.int .i64) (.cons (.sl e9) .nil))))), []⟩]
def o12 : List Grp := [⟨.c, (.cons .bool .nil), []⟩]
/-- laws.eqProof -/
noncomputable def F12 : GD i12 → Option (GD o12) := fun x0 => bif !iEq x0.1.1 x0.2.1.1 then some ((false, ()), ()) else (F62 ((x0.1.2.1, ()), ((x0.2.1.2.1, ()), ()))).bind fun y1 => bif (!y1.1.1) then some ((false, ()), ()) else (F63 ((x0.1.2.2.1, (x0.1.2.2.2.1, (x0.1.2.2.2.2.1, ()))), ((x0.2.1.2.2.1, (x0.2.1.2.2.2.1, (x0.2.1.2.2.2.2.1, ()))), ()))).bind fun y2 => bif (!y2.1.1) then some ((false, ()), ()) else some ((true, ()), ())
noncomputable def c12 : Con := ⟨i12, o12, F12⟩
noncomputable def C12 : Ctx := ⟨22, TT, EE, fun n => (bif Nat.ble n 62 then (bif Nat.beq n 62 then some c62 else none) else (bif Nat.beq n 63 then some c63 else none)), fun n k => [], fun n => none, fun n => none⟩
theorem q12 : ∀ x, runF C12 Tryz.f12 i12 o12 x = F12 x := by intro x; kernel_rfl
def i70 : List Grp := [⟨.c, (.cons (.sl e43) .nil), []⟩, ⟨.c, (.cons (.sl e43) .nil), []⟩]
def o70 : List Grp := [⟨.c, (.cons .bool .nil), []⟩]
/-- laws.eqProofS -/
noncomputable def F70.b0 (x0 : GD i70) : (v1 : (Int × Unit)) → Option (Sum (Int × Unit) (Sum (Int × Unit) (GD o70))) := fun v1 => bif iLt v1.1 (List.length x0.1.1 : Int) then (getI x0.1.1 v1.1).bind fun x2 => (getI x0.2.1.1 v1.1).bind fun x3 => (F12 (x2, (x3, ()))).bind fun y4 => bif (!y4.1.1) then some (.inr (.inr ((false, ()), ()))) else some (.inl (iAdd .i64 v1.1 (1:Int), ())) else some (.inr (.inl (v1.1, ())))
noncomputable def F70 : GD i70 → Option (GD o70) := fun x0 => bif !iEq (List.length x0.1.1 : Int) (List.length x0.2.1.1 : Int) then some ((false, ()), ()) else (loopF (F70.b0 x0) ((0:Int), ())).bind fun r6 => Sum.elim (fun v5 => some ((true, ()), ())) some r6
noncomputable def c70 : Con := ⟨i70, o70, F70⟩
noncomputable def C70 : Ctx := ⟨27, TT, EE, fun n => (bif Nat.beq n 12 then some c12 else none), fun n k => [], fun n => (bif Nat.beq n 0 then (some ⟨[(.t 5 (.int .i64) .sh)], [4, 11, 12, 13, 14, 15, 16, 17, 18, 19, 20, 21, 22, 23, 24, 25, 26], []⟩) else none), fun n => none⟩
theorem q70 : ∀ x, runF C70 Tryz.f70 i70 o70 x = F70 x := by intro x; kernel_rfl
def i13 : List Grp := [⟨.agg, (.cons .str (.cons (.int .i64) (.cons (.int .i64) (.cons (.sl e153) (.cons (.sl e188) (.cons (.sl e138) (.cons (.int .i64) (.cons (.int .i64) (.cons (.int .i64) (.cons (.int .i64) (.cons (.sl e9) (.cons (.int .i64) (.cons (.sl e9) (.cons (.sl e3) (.cons (.int .i64) (.cons (.sl e191) (.cons (.sl e193) (.cons (.sl e3) (.cons (.sl e195) (.cons (.sl e43) .nil)))))))))))))))))))), []⟩, ⟨.agg, (.cons .str (.cons (.int .i64) (.cons (.int .i64) (.cons (.sl e153) (.cons (.sl e188) (.cons (.sl e138) (.cons (.int .i64) (.cons (.int .i64) (.cons (.int .i64) (.cons (.int .i64) (.cons (.sl e9) (.cons (.int .i64) (.cons (.sl e9) (.cons (.sl e3) (.cons (.int .i64) (.cons (.sl e191) (.cons (.sl e193) (.cons (.sl e3) (.cons (.sl e195) (.cons (.sl e43) .nil)))))))))))))))))))), []⟩]
def o13 : List Grp := [⟨.c, (.cons .bool .nil), []⟩]
/-- laws.eqNode -/
noncomputable def F13 : GD i13 → Option (GD o13) := fun x0 => bif !sEq x0.1.1 x0.2.1.1 then some ((false, ()), ()) else bif !iEq x0.1.2.1 x0.2.1.2.1 then some ((false, ()), ()) else (F28 ((x0.1.2.2.1, (x0.1.2.2.2.1, ())), ((x0.2.1.2.2.1, (x0.2.1.2.2.2.1, ())), ()))).bind fun y1 => bif (!y1.1.1) then some ((false, ()), ()) else (F64 ((x0.1.2.2.2.2.1, ()), ((x0.2.1.2.2.2.2.1, ()), ()))).bind fun y2 => bif (!y2.1.1) then some ((false, ()), ()) else (F62 ((x0.1.2.2.2.2.2.1, ()), ((x0.2.1.2.2.2.2.2.1, ()), ()))).bind fun y3 => bif (!y3.1.1) then some ((false, ()), ()) else bif !iEq x0.1.2.2.2.2.2.2.1 x0.2.1.2.2.2.2.2.2.1 then some ((false, ()), ()) else bif !iEq x0.1.2.2.2.2.2.2.2.1 x0.2.1.2.2.2.2.2.2.2.1 then some ((false, ()), ()) else (F63 ((x0.1.2.2.2.2.2.2.2.2.1, (x0.1.2.2.2.2.2.2.2.2.2.1, (x0.1.2.2.2.2.2.2.2.2.2.2.1, ()))), ((x0.2.1.2.2.2.2.2.2.2.2.1, (x0.2.1.2.2.2.2.2.2.2.2.2.1, (x0.2.1.2.2.2.2.2.2.2.2.2.2.1, ()))), ()))).bind fun y4 => bif (!y4.1.1) then some ((false, ()), ()) else (F65 ((x0.1.2.2.2.2.2.2.2.2.2.2.2.1, (x0.1.2.2.2.2.2.2.2.2.2.2.2.2.1, (x0.1.2.2.2.2.2.2.2.2.2.2.2.2.2.1, ()))), ((x0.2.1.2.2.2.2.2.2.2.2.2.2.2.1, (x0.2.1.2.2.2.2.2.2.2.2.2.2.2.2.1, (x0.2.1.2.2.2.2.2.2.2.2.2.2.2.2.2.1, ()))), ()))).bind fun y5 => bif (!y5.1.1) then some ((false, ()), ()) else bif !iEq x0.1.2.2.2.2.2.2.2.2.2.2.2.2.2.2.1 x0.2.1.2.2.2.2.2.2.2.2.2.2.2.2.2.2.1 then some ((false, ()), ()) else (F66 ((x0.1.2.2.2.2.2.2.2.2.2.2.2.2.2.2.2.1, ()), ((x0.2.1.2.2.2.2.2.2.2.2.2.2.2.2.2.2.2.1, ()), ()))).bind fun y6 => bif (!y6.1.1) then some ((false, ()), ()) else (F67 ((x0.1.2.2.2.2.2.2.2.2.2.2.2.2.2.2.2.2.1, ()), ((x0.2.1.2.2.2.2.2.2.2.2.2.2.2.2.2.2.2.2.1, ()), ()))).bind fun y7 => bif (!y7.1.1) then some ((false, ()), ()) else (F68 ((x0.1.2.2.2.2.2.2.2.2.2.2.2.2.2.2.2.2.2.1, ()), ((x0.2.1.2.2.2.2.2.2.2.2.2.2.2.2.2.2.2.2.2.1, ()), ()))).bind fun y8 => bif (!y8.1.1) then some ((false, ()), ()) else (F69 ((x0.1.2.2.2.2.2.2.2.2.2.2.2.2.2.2.2.2.2.2.1, ()), ((x0.2.1.2.2.2.2.2.2.2.2.2.2.2.2.2.2.2.2.2.2.1, ()), ()))).bind fun y9 => bif (!y9.1.1) then some ((false, ()), ()) else (F70 ((x0.1.2.2.2.2.2.2.2.2.2.2.2.2.2.2.2.2.2.2.2.1, ()), ((x0.2.1.2.2.2.2.2.2.2.2.2.2.2.2.2.2.2.2.2.2.2.1, ()), ()))).bind fun y10 => bif (!y10.1.1) then some ((false, ()), ()) else some ((true, ()), ())
noncomputable def c13 : Con := ⟨i13, o13, F13⟩
noncomputable def C13 : Ctx := ⟨90, TT, EE, fun n => (bif Nat.ble n 65 then (bif Nat.ble n 62 then (bif Nat.ble n 28 then (bif Nat.beq n 28 then some c28 else none) else (bif Nat.beq n 62 then some c62 else none)) else (bif Nat.ble n 63 then (bif Nat.beq n 63 then some c63 else none) else (bif Nat.ble n 64 then (bif Nat.beq n 64 then some c64 else none) else (bif Nat.beq n 65 then some c65 else none)))) else (bif Nat.ble n 67 then (bif Nat.ble n 66 then (bif Nat.beq n 66 then some c66 else none) else (bif Nat.beq n 67 then some c67 else none)) else (bif Nat.ble n 68 then (bif Nat.beq n 68 then some c68 else none) else (bif Nat.ble n 69 then (bif Nat.beq n 69 then some c69 else none) else (bif Nat.beq n 70 then some c70 else none))))), fun n k => [], fun n => none, fun n => none⟩
theorem q13 : ∀ x, runF C13 Tryz.f13 i13 o13 x = F13 x := by intro x; kernel_rfl
def i92 : List Grp := [⟨.c, (.cons (.sl e56) .nil), []⟩, ⟨.c, (.cons (.sl e56) .nil), []⟩]
def o92 : List Grp := [⟨.c, (.cons .bool .nil), []⟩]
/-- laws.eqNodeS -/
noncomputable def F92.b0 (x0 : GD i92) : (v1 : (Int × Unit)) → Option (Sum (Int × Unit) (Sum (Int × Unit) (GD o92))) := fun v1 => bif iLt v1.1 (List.length x0.1.1 : Int) then (getI x0.1.1 v1.1).bind fun x2 => (getI x0.2.1.1 v1.1).bind fun x3 => (F13 (x2, (x3, ()))).bind fun y4 => bif (!y4.1.1) then some (.inr (.inr ((false, ()), ()))) else some (.inl (iAdd .i64 v1.1 (1:Int), ())) else some (.inr (.inl (v1.1, ())))
noncomputable def F92 : GD i92 → Option (GD o92) := fun x0 => bif !iEq (List.length x0.1.1 : Int) (List.length x0.2.1.1 : Int) then some ((false, ()), ()) else (loopF (F92.b0 x0) ((0:Int), ())).bind fun r6 => Sum.elim (fun v5 => some ((true, ()), ())) some r6
noncomputable def c92 : Con := ⟨i92, o92, F92⟩
noncomputable def C92 : Ctx := ⟨27, TT, EE, fun n => (bif Nat.beq n 13 then some c13 else none), fun n k => [], fun n => (bif Nat.beq n 0 then (some ⟨[(.t 5 (.int .i64) .sh)], [4, 11, 12, 13, 14, 15, 16, 17, 18, 19, 20, 21, 22, 23, 24, 25, 26], []⟩) else none), fun n => none⟩
theorem q92 : ∀ x, runF C92 Tryz.f92 i92 o92 x = F92 x := by intro x; kernel_rfl
def i164 : List Grp := [⟨.agg, (.cons (.int .i64) (.cons (.int .i64) (.cons (.int .i64) (.cons (.int .i64) (.cons .str .nil))))), []⟩, ⟨.agg, (.cons (.int .i64) (.cons (.int .i64) (.cons (.int .i64) (.cons (.int .i64) (.cons .str .nil))))), []⟩]
def o164 : List Grp := [⟨.c, (.cons .bool .nil), []⟩]
/-- laws.eqSig -/
noncomputable def F164 : GD i164 → Option (GD o164) := fun x0 => bif !iEq x0.1.1 x0.2.1.1 then some ((false, ()), ()) else bif !iEq x0.1.2.1 x0.2.1.2.1 then some ((false, ()), ()) else bif !iEq x0.1.2.2.1 x0.2.1.2.2.1 then some ((false, ()), ()) else bif !iEq x0.1.2.2.2.1 x0.2.1.2.2.2.1 then some ((false, ()), ()) else bif !sEq x0.1.2.2.2.2.1 x0.2.1.2.2.2.2.1 then some ((false, ()), ()) else some ((true, ()), ())
noncomputable def c164 : Con := ⟨i164, o164, F164⟩
noncomputable def C164 : Ctx := ⟨30, TT, EE, fun n => none, fun n k => [], fun n => none, fun n => none⟩
theorem q164 : ∀ x, runF C164 Tryz.f164 i164 o164 x = F164 x := by intro x; kernel_rfl
def i93 : List Grp := [⟨.c, (.cons (.sl e214) .nil), []⟩, ⟨.c, (.cons (.sl e214) .nil), []⟩]
def o93 : List Grp := [⟨.c, (.cons .bool .nil), []⟩]
/-- laws.eqSigS -/
noncomputable def F93.b0 (x0 : GD i93) : (v1 : (Int × Unit)) → Option (Sum (Int × Unit) (Sum (Int × Unit) (GD o93))) := fun v1 => bif iLt v1.1 (List.length x0.1.1 : Int) then (getI x0.1.1 v1.1).bind fun x2 => (getI x0.2.1.1 v1.1).bind fun x3 => (F164 (x2, (x3, ()))).bind fun y4 => bif (!y4.1.1) then some (.inr (.inr ((false, ()), ()))) else some (.inl (iAdd .i64 v1.1 (1:Int), ())) else some (.inr (.inl (v1.1, ())))
noncomputable def F93 : GD i93 → Option (GD o93) := fun x0 => bif !iEq (List.length x0.1.1 : Int) (List.length x0.2.1.1 : Int) then some ((false, ()), ()) else (loopF (F93.b0 x0) ((0:Int), ())).bind fun r6 => Sum.elim (fun v5 => some ((true, ()), ())) some r6
noncomputable def c93 : Con := ⟨i93, o93, F93⟩
noncomputable def C93 : Ctx := ⟨27, TT, EE, fun n => (bif Nat.beq n 164 then some c164 else none), fun n k => [], fun n => (bif Nat.beq n 0 then (some ⟨[(.t 5 (.int .i64) .sh)], [4, 11, 12, 13, 14, 15, 16, 17, 18, 19, 20, 21, 22, 23, 24, 25, 26], []⟩) else none), fun n => none⟩
theorem q93 : ∀ x, runF C93 Tryz.f93 i93 o93 x = F93 x := by intro x; kernel_rfl
def i165 : List Grp := [⟨.agg, (.cons (.int .i64) (.cons .str (.cons (.int .i64) (.cons (.sl e138) (.cons (.int .i64) (.cons (.int .i64) (.cons .str (.cons (.int .i64) (.cons (.int .i64) (.cons .str (.cons (.int .i64) (.cons (.int .i64) (.cons (.sl e9) (.cons (.int .i64) (.cons (.sl e9) (.cons (.sl e3) .nil)))))))))))))))), []⟩, ⟨.agg, (.cons (.int .i64) (.cons .str (.cons (.int .i64) (.cons (.sl e138) (.cons (.int .i64) (.cons (.int .i64) (.cons .str (.cons (.int .i64) (.cons (.int .i64) (.cons .str (.cons (.int .i64) (.cons (.int .i64) (.cons (.sl e9) (.cons (.int .i64) (.cons (.sl e9) (.cons (.sl e3) .nil)))))))))))))))), []⟩]
def o165 : List Grp := [⟨.c, (.cons .bool .nil), []⟩]
/-- laws.eqMsg -/
noncomputable def F165 : GD i165 → Option (GD o165) := fun x0 => bif !iEq x0.1.1 x0.2.1.1 then some ((false, ()), ()) else bif !sEq x0.1.2.1 x0.2.1.2.1 then some ((false, ()), ()) else bif !iEq x0.1.2.2.1 x0.2.1.2.2.1 then some ((false, ()), ()) else (F62 ((x0.1.2.2.2.1, ()), ((x0.2.1.2.2.2.1, ()), ()))).bind fun y1 => bif (!y1.1.1) then some ((false, ()), ()) else (F150 ((x0.1.2.2.2.2.1, (x0.1.2.2.2.2.2.1, (x0.1.2.2.2.2.2.2.1, ()))), ((x0.2.1.2.2.2.2.1, (x0.2.1.2.2.2.2.2.1, (x0.2.1.2.2.2.2.2.2.1, ()))), ()))).bind fun y2 => bif (!y2.1.1) then some ((false, ()), ()) else (F151 ((x0.1.2.2.2.2.2.2.2.1, (x0.1.2.2.2.2.2.2.2.2.1, (x0.1.2.2.2.2.2.2.2.2.2.1, ()))), ((x0.2.1.2.2.2.2.2.2.2.1, (x0.2.1.2.2.2.2.2.2.2.2.1, (x0.2.1.2.2.2.2.2.2.2.2.2.1, ()))), ()))).bind fun y3 => bif (!y3.1.1) then some ((false, ()), ()) else (F63 ((x0.1.2.2.2.2.2.2.2.2.2.2.1, (x0.1.2.2.2.2.2.2.2.2.2.2.2.1, (x0.1.2.2.2.2.2.2.2.2.2.2.2.2.1, ()))), ((x0.2.1.2.2.2.2.2.2.2.2.2.2.1, (x0.2.1.2.2.2.2.2.2.2.2.2.2.2.1, (x0.2.1.2.2.2.2.2.2.2.2.2.2.2.2.1, ()))), ()))).bind fun y4 => bif (!y4.1.1) then some ((false, ()), ()) else (F65 ((x0.1.2.2.2.2.2.2.2.2.2.2.2.2.2.1, (x0.1.2.2.2.2.2.2.2.2.2.2.2.2.2.2.1, (x0.1.2.2.2.2.2.2.2.2.2.2.2.2.2.2.2.1, ()))), ((x0.2.1.2.2.2.2.2.2.2.2.2.2.2.2.2.1, (x0.2.1.2.2.2.2.2.2.2.2.2.2.2.2.2.2.1, (x0.2.1.2.2.2.2.2.2.2.2.2.2.2.2.2.2.2.1, ()))), ()))).bind fun y5 => bif (!y5.1.1) then some ((false, ()), ()) else some ((true, ()), ())
noncomputable def c165 : Con := ⟨i165, o165, F165⟩
noncomputable def C165 : Ctx := ⟨50, TT, EE, fun n => (bif Nat.ble n 63 then (bif Nat.ble n 62 then (bif Nat.beq n 62 then some c62 else none) else (bif Nat.beq n 63 then some c63 else none)) else (bif Nat.ble n 65 then (bif Nat.beq n 65 then some c65 else none) else (bif Nat.ble n 150 then (bif Nat.beq n 150 then some c150 else none) else (bif Nat.beq n 151 then some c151 else none)))), fun n k => [], fun n => none, fun n => none⟩
theorem q165 : ∀ x, runF C165 Tryz.f165 i165 o165 x = F165 x := by intro x; kernel_rfl
def i94 : List Grp := [⟨.c, (.cons (.sl e217) .nil), []⟩, ⟨.c, (.cons (.sl e217) .nil), []⟩]
def o94 : List Grp := [⟨.c, (.cons .bool .nil), []⟩]
/-- laws.eqMsgS -/
noncomputable def F94.b0 (x0 : GD i94) : (v1 : (Int × Unit)) → Option (Sum (Int × Unit) (Sum (Int × Unit) (GD o94))) := fun v1 => bif iLt v1.1 (List.length x0.1.1 : Int) then (getI x0.1.1 v1.1).bind fun x2 => (getI x0.2.1.1 v1.1).bind fun x3 => (F165 (x2, (x3, ()))).bind fun y4 => bif (!y4.1.1) then some (.inr (.inr ((false, ()), ()))) else some (.inl (iAdd .i64 v1.1 (1:Int), ())) else some (.inr (.inl (v1.1, ())))
noncomputable def F94 : GD i94 → Option (GD o94) := fun x0 => bif !iEq (List.length x0.1.1 : Int) (List.length x0.2.1.1 : Int) then some ((false, ()), ()) else (loopF (F94.b0 x0) ((0:Int), ())).bind fun r6 => Sum.elim (fun v5 => some ((true, ()), ())) some r6
noncomputable def c94 : Con := ⟨i94, o94, F94⟩
noncomputable def C94 : Ctx := ⟨27, TT, EE, fun n => (bif Nat.beq n 165 then some c165 else none), fun n k => [], fun n => (bif Nat.beq n 0 then (some ⟨[(.t 5 (.int .i64) .sh)], [4, 11, 12, 13, 14, 15, 16, 17, 18, 19, 20, 21, 22, 23, 24, 25, 26], []⟩) else none), fun n => none⟩
theorem q94 : ∀ x, runF C94 Tryz.f94 i94 o94 x = F94 x := by intro x; kernel_rfl
def i21 : List Grp := [⟨.agg, (.cons (.int .i64) (.cons (.sl e153) (.cons (.sl e9) (.cons (.sl e56) (.cons (.sl e138) (.cons (.sl e214) (.cons (.sl e217) .nil))))))), []⟩, ⟨.agg, (.cons (.int .i64) (.cons (.sl e153) (.cons (.sl e9) (.cons (.sl e56) (.cons (.sl e138) (.cons (.sl e214) (.cons (.sl e217) .nil))))))), []⟩]
def o21 : List Grp := [⟨.c, (.cons .bool .nil), []⟩]
/-- laws.eqWorld -/
noncomputable def F21 : GD i21 → Option (GD o21) := fun x0 => (F28 ((x0.1.1, (x0.1.2.1, ())), ((x0.2.1.1, (x0.2.1.2.1, ())), ()))).bind fun y1 => bif (!y1.1.1) then some ((false, ()), ()) else (F29 ((x0.1.2.2.1, ()), ((x0.2.1.2.2.1, ()), ()))).bind fun y2 => bif (!y2.1.1) then some ((false, ()), ()) else (F92 ((x0.1.2.2.2.1, ()), ((x0.2.1.2.2.2.1, ()), ()))).bind fun y3 => bif (!y3.1.1) then some ((false, ()), ()) else (F62 ((x0.1.2.2.2.2.1, ()), ((x0.2.1.2.2.2.2.1, ()), ()))).bind fun y4 => bif (!y4.1.1) then some ((false, ()), ()) else (F93 ((x0.1.2.2.2.2.2.1, ()), ((x0.2.1.2.2.2.2.2.1, ()), ()))).bind fun y5 => bif (!y5.1.1) then some ((false, ()), ()) else (F94 ((x0.1.2.2.2.2.2.2.1, ()), ((x0.2.1.2.2.2.2.2.2.1, ()), ()))).bind fun y6 => bif (!y6.1.1) then some ((false, ()), ()) else some ((true, ()), ())
noncomputable def c21 : Con := ⟨i21, o21, F21⟩
noncomputable def C21 : Ctx := ⟨41, TT, EE, fun n => (bif Nat.ble n 62 then (bif Nat.ble n 28 then (bif Nat.beq n 28 then some c28 else none) else (bif Nat.ble n 29 then (bif Nat.beq n 29 then some c29 else none) else (bif Nat.beq n 62 then some c62 else none))) else (bif Nat.ble n 92 then (bif Nat.beq n 92 then some c92 else none) else (bif Nat.ble n 93 then (bif Nat.beq n 93 then some c93 else none) else (bif Nat.beq n 94 then some c94 else none)))), fun n k => [], fun n => none, fun n => none⟩
theorem q21 : ∀ x, runF C21 Tryz.f21 i21 o21 x = F21 x := by intro x; kernel_rfl
def i4 : List Grp := [⟨.agg, (.cons (.int .i64) (.cons (.sl e225) (.cons (.sl e9) (.cons (.sl e38) (.cons (.sl e173) (.cons (.sl e208) (.cons (.sl e211) .nil))))))), []⟩]
def o4 : List Grp := [⟨.c, (.cons .bool .nil), []⟩]
/-- laws.FnExactPremise -/
noncomputable def F4 : GD i4 → Option (GD o4) := fun x0 => (F17 (x0.1, (((1048576:Int), ()), ()))).bind fun y1 => bif iLt y1.1.1 (0:Int) then some ((true, ()), ()) else (F19 (x0.1, ())).bind fun y2 => (F18 (y2.1, ())).bind fun y3 => (F19 (x0.1, ())).bind fun y4 => (F20 (y4.1, ())).bind fun y5 => bif !bEq y5.1.1 y3.1.1 then some ((false, ()), ()) else (F19 (x0.1, ())).bind fun y6 => (F21 (y4.1, (y6.1, ()))).bind fun y7 => bif (!y7.1.1) then some ((false, ()), ()) else some ((true, ()), ())
noncomputable def c4 : Con := ⟨i4, o4, F4⟩
noncomputable def C4 : Ctx := ⟨27, TT, EE, fun n => (bif Nat.ble n 18 then (bif Nat.ble n 17 then (bif Nat.beq n 17 then some c17 else none) else (bif Nat.beq n 18 then some c18 else none)) else (bif Nat.ble n 19 then (bif Nat.beq n 19 then some c19 else none) else (bif Nat.ble n 20 then (bif Nat.beq n 20 then some c20 else none) else (bif Nat.beq n 21 then some c21 else none)))), fun n k => [], fun n => none, fun n => none⟩
theorem q4 : ∀ x, runF C4 Tryz.f4 i4 o4 x = F4 x := by intro x; kernel_rfl
end Go.Proofs.YtphaibffjdfhpaaGreat
