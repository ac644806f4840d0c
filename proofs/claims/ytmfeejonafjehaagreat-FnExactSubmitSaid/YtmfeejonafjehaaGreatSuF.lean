/- What the functions that the laws reach compute, as functions over plain data; each one's equation with the program is checked by the kernel. Conditions: none. -/

import Derived.Test.YtmfeejonafjehaaGreatTm4
import Derived.Test.YtmfeejonafjehaaGreatProg
namespace Go.Proofs.YtmfeejonafjehaaGreat
open Go Go.Tm
set_option linter.unusedVariables false
set_option maxRecDepth 100000
def e3 : Tys := (.cons (.int .i64) .nil)
abbrev D3 : Type := (Int × Unit)
def e5 : Tys := (.cons (.int .u8) .nil)
abbrev D5 : Type := (Int × Unit)
def e9 : Tys := (.cons .str .nil)
abbrev D9 : Type := (ByteArray × Unit)
def e212 : Tys := (.cons (.int .i64) (.cons (.int .i64) .nil))
abbrev D212 : Type := (Int × (Int × Unit))
def e173 : Tys := (.cons .str (.cons (.int .i64) (.cons (.int .i64) (.cons (.int .i64) (.cons (.sl e212) .nil)))))
abbrev D173 : Type := (ByteArray × (Int × (Int × (Int × (List D212 × Unit)))))
def e24 : Tys := (.cons (.int .i64) (.cons (.sl e173) .nil))
abbrev D24 : Type := (Int × (List D173 × Unit))
def e29 : Tys := (.cons (.int .i64) (.cons (.int .i64) (.cons (.sl e9) .nil)))
abbrev D29 : Type := (Int × (Int × (List D9 × Unit)))
def e32 : Tys := (.cons (.int .i64) (.cons (.sl e9) (.cons (.sl e3) .nil)))
abbrev D32 : Type := (Int × (List D9 × (List D3 × Unit)))
def e110 : Tys := (.cons .str (.cons (.int .i64) .nil))
abbrev D110 : Type := (ByteArray × (Int × Unit))
def e40 : Tys := (.cons (.int .i64) (.cons .str (.cons .str (.cons (.int .i64) (.cons (.int .i64) .nil)))))
abbrev D40 : Type := (Int × (ByteArray × (ByteArray × (Int × (Int × Unit)))))
def e113 : Tys := (.cons (.int .i64) (.cons (.int .i64) (.cons (.int .i64) (.cons .str (.cons (.int .i64) (.cons (.int .i64) (.cons (.sl e9) (.cons (.int .i64) (.cons (.sl e9) (.cons (.sl e3) (.cons (.sl e40) (.cons .bool (.cons (.sl e110) (.cons .str .nil))))))))))))))
abbrev D113 : Type := (Int × (Int × (Int × (ByteArray × (Int × (Int × (List D9 × (Int × (List D9 × (List D3 × (List D40 × (Bool × (List D110 × (ByteArray × Unit))))))))))))))
def e117 : Tys := (.cons (.int .i64) (.cons (.int .i64) (.cons .str .nil)))
abbrev D117 : Type := (Int × (Int × (ByteArray × Unit)))
def e120 : Tys := (.cons (.int .i64) (.cons (.int .i64) (.cons .str .nil)))
abbrev D120 : Type := (Int × (Int × (ByteArray × Unit)))
def e123 : Tys := (.cons (.int .i64) (.cons (.sl e113) (.cons (.int .i64) (.cons (.int .i64) (.cons (.sl e9) .nil)))))
abbrev D123 : Type := (Int × (List D113 × (Int × (Int × (List D9 × Unit)))))
def e38 : Tys := (.cons .str (.cons (.int .i64) (.cons (.int .i64) (.cons (.sl e173) (.cons (.sl e110) (.cons (.sl e113) (.cons (.int .i64) (.cons (.int .i64) (.cons (.int .i64) (.cons (.int .i64) (.cons (.sl e9) (.cons (.int .i64) (.cons (.sl e9) (.cons (.sl e3) (.cons (.int .i64) (.cons (.sl e117) (.cons (.sl e120) (.cons (.sl e3) (.cons (.sl e40) (.cons (.sl e123) .nil))))))))))))))))))))
abbrev D38 : Type := (ByteArray × (Int × (Int × (List D173 × (List D110 × (List D113 × (Int × (Int × (Int × (Int × (List D9 × (Int × (List D9 × (List D3 × (Int × (List D117 × (List D120 × (List D3 × (List D40 × (List D123 × Unit))))))))))))))))))))
def e205 : Tys := (.cons (.int .i64) (.cons (.int .i64) .nil))
abbrev D205 : Type := (Int × (Int × Unit))
def e183 : Tys := (.cons .str (.cons (.int .i64) (.cons (.int .i64) (.cons (.int .i64) (.cons (.sl e205) .nil)))))
abbrev D183 : Type := (ByteArray × (Int × (Int × (Int × (List D205 × Unit)))))
def e45 : Tys := (.cons (.int .i64) (.cons (.sl e183) .nil))
abbrev D45 : Type := (Int × (List D183 × Unit))
def e48 : Tys := (.cons (.int .i64) (.cons (.int .i64) (.cons (.sl e9) .nil)))
abbrev D48 : Type := (Int × (Int × (List D9 × Unit)))
def e49 : Tys := (.cons (.int .i64) (.cons (.sl e9) (.cons (.sl e3) .nil)))
abbrev D49 : Type := (Int × (List D9 × (List D3 × Unit)))
def e143 : Tys := (.cons .str (.cons (.int .i64) .nil))
abbrev D143 : Type := (ByteArray × (Int × Unit))
def e59 : Tys := (.cons (.int .i64) (.cons .str (.cons .str (.cons (.int .i64) (.cons (.int .i64) .nil)))))
abbrev D59 : Type := (Int × (ByteArray × (ByteArray × (Int × (Int × Unit)))))
def e137 : Tys := (.cons (.int .i64) (.cons (.int .i64) (.cons (.int .i64) (.cons .str (.cons (.int .i64) (.cons (.int .i64) (.cons (.sl e9) (.cons (.int .i64) (.cons (.sl e9) (.cons (.sl e3) (.cons (.sl e59) (.cons .bool (.cons (.sl e143) (.cons .str .nil))))))))))))))
abbrev D137 : Type := (Int × (Int × (Int × (ByteArray × (Int × (Int × (List D9 × (Int × (List D9 × (List D3 × (List D59 × (Bool × (List D143 × (ByteArray × Unit))))))))))))))
def e147 : Tys := (.cons (.int .i64) (.cons (.int .i64) (.cons .str .nil)))
abbrev D147 : Type := (Int × (Int × (ByteArray × Unit)))
def e149 : Tys := (.cons (.int .i64) (.cons (.int .i64) (.cons .str .nil)))
abbrev D149 : Type := (Int × (Int × (ByteArray × Unit)))
def e129 : Tys := (.cons (.int .i64) (.cons (.sl e137) (.cons (.int .i64) (.cons (.int .i64) (.cons (.sl e9) .nil)))))
abbrev D129 : Type := (Int × (List D137 × (Int × (Int × (List D9 × Unit)))))
def e55 : Tys := (.cons .str (.cons (.int .i64) (.cons (.int .i64) (.cons (.sl e183) (.cons (.sl e143) (.cons (.sl e137) (.cons (.int .i64) (.cons (.int .i64) (.cons (.int .i64) (.cons (.int .i64) (.cons (.sl e9) (.cons (.int .i64) (.cons (.sl e9) (.cons (.sl e3) (.cons (.int .i64) (.cons (.sl e147) (.cons (.sl e149) (.cons (.sl e3) (.cons (.sl e59) (.cons (.sl e129) .nil))))))))))))))))))))
abbrev D55 : Type := (ByteArray × (Int × (Int × (List D183 × (List D143 × (List D137 × (Int × (Int × (Int × (Int × (List D9 × (Int × (List D9 × (List D3 × (Int × (List D147 × (List D149 × (List D3 × (List D59 × (List D129 × Unit))))))))))))))))))))
def TTL : List (Nat × TI) := [(3, ⟨1, 8, .int .i64, [(.int .i64 (0:Int))], [], [], none⟩), (4, ⟨1, 1, .bool, [(.bool false)], [], [], none⟩), (5, ⟨1, 1, .int .u8, [(.int .u8 (0:Int))], [], [], none⟩), (9, ⟨1, 16, .str, [(.str ⟨#[]⟩)], [], [], none⟩), (22, ⟨1, 24, .slice 173, [.nils], [], [], none⟩), (24, ⟨2, 32, .struct, [(.int .i64 (0:Int)), .nils], [(0, 1), (1, 1)], [false, false], none⟩), (25, ⟨1, 24, .slice 110, [.nils], [], [], none⟩), (26, ⟨1, 24, .slice 113, [.nils], [], [], none⟩), (27, ⟨1, 24, .slice 9, [.nils], [], [], none⟩), (29, ⟨3, 40, .struct, [(.int .i64 (0:Int)), (.int .i64 (0:Int)), .nils], [(0, 1), (1, 1), (2, 1)], [false, false, false], none⟩), (30, ⟨1, 24, .slice 3, [.nils], [], [], none⟩), (32, ⟨3, 56, .struct, [(.int .i64 (0:Int)), .nils, .nils], [(0, 1), (1, 1), (2, 1)], [false, false, false], none⟩), (33, ⟨1, 24, .slice 117, [.nils], [], [], none⟩), (34, ⟨1, 24, .slice 120, [.nils], [], [], none⟩), (35, ⟨1, 24, .slice 40, [.nils], [], [], none⟩), (36, ⟨1, 24, .slice 123, [.nils], [], [], none⟩), (38, ⟨20, 344, .struct, [(.str ⟨#[]⟩), (.int .i64 (0:Int)), (.int .i64 (0:Int)), .nils, .nils, .nils, (.int .i64 (0:Int)), (.int .i64 (0:Int)), (.int .i64 (0:Int)), (.int .i64 (0:Int)), .nils, (.int .i64 (0:Int)), .nils, .nils, (.int .i64 (0:Int)), .nils, .nils, .nils, .nils, .nils], [(0, 1), (1, 1), (2, 2), (4, 1), (5, 1), (6, 1), (7, 1), (8, 3), (11, 3), (14, 1), (15, 1), (16, 1), (17, 1), (18, 1), (19, 1)], [false, false, true, false, false, false, false, true, true, false, false, false, false, false, false], none⟩), (40, ⟨5, 56, .struct, [(.int .i64 (0:Int)), (.str ⟨#[]⟩), (.str ⟨#[]⟩), (.int .i64 (0:Int)), (.int .i64 (0:Int))], [(0, 1), (1, 1), (2, 1), (3, 1), (4, 1)], [false, false, false, false, false], (some [.int .i64, .str, .str, .int .i64, .int .i64])⟩), (43, ⟨1, 24, .slice 183, [.nils], [], [], none⟩), (45, ⟨2, 32, .struct, [(.int .i64 (0:Int)), .nils], [(0, 1), (1, 1)], [false, false], none⟩), (46, ⟨1, 24, .slice 143, [.nils], [], [], none⟩), (47, ⟨1, 24, .slice 137, [.nils], [], [], none⟩), (48, ⟨3, 40, .struct, [(.int .i64 (0:Int)), (.int .i64 (0:Int)), .nils], [(0, 1), (1, 1), (2, 1)], [false, false, false], none⟩), (49, ⟨3, 56, .struct, [(.int .i64 (0:Int)), .nils, .nils], [(0, 1), (1, 1), (2, 1)], [false, false, false], none⟩), (50, ⟨1, 24, .slice 147, [.nils], [], [], none⟩), (51, ⟨1, 24, .slice 149, [.nils], [], [], none⟩), (52, ⟨1, 24, .slice 59, [.nils], [], [], none⟩), (53, ⟨1, 24, .slice 129, [.nils], [], [], none⟩), (55, ⟨20, 344, .struct, [(.str ⟨#[]⟩), (.int .i64 (0:Int)), (.int .i64 (0:Int)), .nils, .nils, .nils, (.int .i64 (0:Int)), (.int .i64 (0:Int)), (.int .i64 (0:Int)), (.int .i64 (0:Int)), .nils, (.int .i64 (0:Int)), .nils, .nils, (.int .i64 (0:Int)), .nils, .nils, .nils, .nils, .nils], [(0, 1), (1, 1), (2, 2), (4, 1), (5, 1), (6, 1), (7, 1), (8, 3), (11, 3), (14, 1), (15, 1), (16, 1), (17, 1), (18, 1), (19, 1)], [false, false, true, false, false, false, false, true, true, false, false, false, false, false, false], none⟩), (59, ⟨5, 56, .struct, [(.int .i64 (0:Int)), (.str ⟨#[]⟩), (.str ⟨#[]⟩), (.int .i64 (0:Int)), (.int .i64 (0:Int))], [(0, 1), (1, 1), (2, 1), (3, 1), (4, 1)], [false, false, false, false, false], (some [.int .i64, .str, .str, .int .i64, .int .i64])⟩), (110, ⟨2, 24, .struct, [(.str ⟨#[]⟩), (.int .i64 (0:Int))], [(0, 1), (1, 1)], [false, false], (some [.str, .int .i64])⟩), (113, ⟨14, 208, .struct, [(.int .i64 (0:Int)), (.int .i64 (0:Int)), (.int .i64 (0:Int)), (.str ⟨#[]⟩), (.int .i64 (0:Int)), (.int .i64 (0:Int)), .nils, (.int .i64 (0:Int)), .nils, .nils, .nils, (.bool false), .nils, (.str ⟨#[]⟩)], [(0, 1), (1, 1), (2, 1), (3, 1), (4, 3), (7, 3), (10, 1), (11, 1), (12, 1), (13, 1)], [false, false, false, false, true, true, false, false, false, false], none⟩), (117, ⟨3, 32, .struct, [(.int .i64 (0:Int)), (.int .i64 (0:Int)), (.str ⟨#[]⟩)], [(0, 1), (1, 1), (2, 1)], [false, false, false], (some [.int .i64, .int .i64, .str])⟩), (120, ⟨3, 32, .struct, [(.int .i64 (0:Int)), (.int .i64 (0:Int)), (.str ⟨#[]⟩)], [(0, 1), (1, 1), (2, 1)], [false, false, false], (some [.int .i64, .int .i64, .str])⟩), (123, ⟨5, 72, .struct, [(.int .i64 (0:Int)), .nils, (.int .i64 (0:Int)), (.int .i64 (0:Int)), .nils], [(0, 1), (1, 1), (2, 3)], [false, false, true], none⟩), (129, ⟨5, 72, .struct, [(.int .i64 (0:Int)), .nils, (.int .i64 (0:Int)), (.int .i64 (0:Int)), .nils], [(0, 1), (1, 1), (2, 3)], [false, false, true], none⟩), (137, ⟨14, 208, .struct, [(.int .i64 (0:Int)), (.int .i64 (0:Int)), (.int .i64 (0:Int)), (.str ⟨#[]⟩), (.int .i64 (0:Int)), (.int .i64 (0:Int)), .nils, (.int .i64 (0:Int)), .nils, .nils, .nils, (.bool false), .nils, (.str ⟨#[]⟩)], [(0, 1), (1, 1), (2, 1), (3, 1), (4, 3), (7, 3), (10, 1), (11, 1), (12, 1), (13, 1)], [false, false, false, false, true, true, false, false, false, false], none⟩), (143, ⟨2, 24, .struct, [(.str ⟨#[]⟩), (.int .i64 (0:Int))], [(0, 1), (1, 1)], [false, false], (some [.str, .int .i64])⟩), (147, ⟨3, 32, .struct, [(.int .i64 (0:Int)), (.int .i64 (0:Int)), (.str ⟨#[]⟩)], [(0, 1), (1, 1), (2, 1)], [false, false, false], (some [.int .i64, .int .i64, .str])⟩), (149, ⟨3, 32, .struct, [(.int .i64 (0:Int)), (.int .i64 (0:Int)), (.str ⟨#[]⟩)], [(0, 1), (1, 1), (2, 1)], [false, false, false], (some [.int .i64, .int .i64, .str])⟩), (171, ⟨1, 24, .slice 212, [.nils], [], [], none⟩), (173, ⟨5, 64, .struct, [(.str ⟨#[]⟩), (.int .i64 (0:Int)), (.int .i64 (0:Int)), (.int .i64 (0:Int)), .nils], [(0, 1), (1, 1), (2, 1), (3, 1), (4, 1)], [false, false, false, false, false], none⟩), (181, ⟨1, 24, .slice 205, [.nils], [], [], none⟩), (183, ⟨5, 64, .struct, [(.str ⟨#[]⟩), (.int .i64 (0:Int)), (.int .i64 (0:Int)), (.int .i64 (0:Int)), .nils], [(0, 1), (1, 1), (2, 1), (3, 1), (4, 1)], [false, false, false, false, false], none⟩), (187, ⟨1, 8, .int .u64, [(.int .u64 (0:Int))], [], [], none⟩), (194, ⟨1, 24, .slice 5, [.nils], [], [], none⟩), (205, ⟨2, 16, .struct, [(.int .i64 (0:Int)), (.int .i64 (0:Int))], [(0, 1), (1, 1)], [false, false], (some [.int .i64, .int .i64])⟩), (212, ⟨2, 16, .struct, [(.int .i64 (0:Int)), (.int .i64 (0:Int))], [(0, 1), (1, 1)], [false, false], (some [.int .i64, .int .i64])⟩)]
theorem tt_ok : TTL.map (fun p => tiOf Tryz.prog p.1) = TTL.map (fun p => some p.2) := by kernel_rfl
def TT : Nat → Option TI := lookT TTL
def EE : Nat → Tys := fun n => (bif Nat.ble n 59 then (bif Nat.ble n 32 then (bif Nat.ble n 9 then (bif Nat.ble n 3 then (bif Nat.beq n 3 then e3 else .nil) else (bif Nat.ble n 5 then (bif Nat.beq n 5 then e5 else .nil) else (bif Nat.beq n 9 then e9 else .nil))) else (bif Nat.ble n 24 then (bif Nat.beq n 24 then e24 else .nil) else (bif Nat.ble n 29 then (bif Nat.beq n 29 then e29 else .nil) else (bif Nat.beq n 32 then e32 else .nil)))) else (bif Nat.ble n 45 then (bif Nat.ble n 38 then (bif Nat.beq n 38 then e38 else .nil) else (bif Nat.ble n 40 then (bif Nat.beq n 40 then e40 else .nil) else (bif Nat.beq n 45 then e45 else .nil))) else (bif Nat.ble n 49 then (bif Nat.ble n 48 then (bif Nat.beq n 48 then e48 else .nil) else (bif Nat.beq n 49 then e49 else .nil)) else (bif Nat.ble n 55 then (bif Nat.beq n 55 then e55 else .nil) else (bif Nat.beq n 59 then e59 else .nil))))) else (bif Nat.ble n 137 then (bif Nat.ble n 117 then (bif Nat.ble n 110 then (bif Nat.beq n 110 then e110 else .nil) else (bif Nat.ble n 113 then (bif Nat.beq n 113 then e113 else .nil) else (bif Nat.beq n 117 then e117 else .nil))) else (bif Nat.ble n 123 then (bif Nat.ble n 120 then (bif Nat.beq n 120 then e120 else .nil) else (bif Nat.beq n 123 then e123 else .nil)) else (bif Nat.ble n 129 then (bif Nat.beq n 129 then e129 else .nil) else (bif Nat.beq n 137 then e137 else .nil)))) else (bif Nat.ble n 149 then (bif Nat.ble n 143 then (bif Nat.beq n 143 then e143 else .nil) else (bif Nat.ble n 147 then (bif Nat.beq n 147 then e147 else .nil) else (bif Nat.beq n 149 then e149 else .nil))) else (bif Nat.ble n 183 then (bif Nat.ble n 173 then (bif Nat.beq n 173 then e173 else .nil) else (bif Nat.beq n 183 then e183 else .nil)) else (bif Nat.ble n 205 then (bif Nat.beq n 205 then e205 else .nil) else (bif Nat.beq n 212 then e212 else .nil))))))
def i165 : List Grp := [⟨.c, (.cons (.sl e212) .nil), []⟩, ⟨.c, (.cons (.int .i64) .nil), []⟩]
def o165 : List Grp := [⟨.c, (.cons (.int .i64) .nil), []⟩]
/-- laws.szLeaveS -/
noncomputable def F165 : ((List D212 × Unit) × ((Int × Unit) × Unit)) → Option (((Int × Unit) × Unit)) := fun x0 => bif iLt (iSub .i64 x0.2.1.1 (List.length x0.1.1 : Int)) (0:Int) then some (((-1:Int), ()), ()) else some ((iSub .i64 x0.2.1.1 (List.length x0.1.1 : Int), ()), ())
noncomputable def c165 : Con := ⟨i165, o165, F165⟩
noncomputable def C165 : Ctx := ⟨12, TT, EE, fun n => none, fun n k => [], fun n => none, fun n => none⟩
theorem q165 : ∀ x, runF C165 Tryz.f165 i165 o165 x = F165 x := by intro x; kernel_rfl
def i132 : List Grp := [⟨.agg, e173, []⟩, ⟨.c, (.cons (.int .i64) .nil), []⟩]
def o132 : List Grp := [⟨.c, (.cons (.int .i64) .nil), []⟩]
/-- laws.szAcct -/
noncomputable def F132 : (D173 × ((Int × Unit) × Unit)) → Option (((Int × Unit) × Unit)) := fun x0 => bif iLt (iSub .i64 x0.2.1.1 (ByteArray.size x0.1.1 : Int)) (0:Int) then some (((-1:Int), ()), ()) else (F165 ((x0.1.2.2.2.2.1, ()), ((iSub .i64 x0.2.1.1 (ByteArray.size x0.1.1 : Int), ()), ()))).bind fun y1 => bif iLt y1.1.1 (0:Int) then some (((-1:Int), ()), ()) else some (y1.1, ())
noncomputable def c132 : Con := ⟨i132, o132, F132⟩
noncomputable def C132 : Ctx := ⟨19, TT, EE, fun n => (bif Nat.beq n 165 then some c165 else none), fun n k => [], fun n => none, fun n => none⟩
theorem q132 : ∀ x, runF C132 Tryz.f132 i132 o132 x = F132 x := by intro x; kernel_rfl
def i69 : List Grp := [⟨.c, (.cons (.sl e173) .nil), []⟩, ⟨.c, (.cons (.int .i64) .nil), []⟩]
def o69 : List Grp := [⟨.c, (.cons (.int .i64) .nil), []⟩]
/-- laws.szAcctS -/
noncomputable def F69.b0 (x0 : ((List D173 × Unit) × ((Int × Unit) × Unit))) : (v1 : (Int × (Int × Unit))) → Option (Sum (Int × (Int × Unit)) (Sum (Int × (Int × Unit)) (((Int × Unit) × Unit)))) := fun v1 => bif iLt v1.2.1 (List.length x0.1.1 : Int) then (getI x0.1.1 v1.2.1).bind fun x2 => (F132 (x2, ((v1.1, ()), ()))).bind fun y3 => bif iLt y3.1.1 (0:Int) then some (.inr (.inr (((-1:Int), ()), ()))) else some (.inl (y3.1.1, (iAdd .i64 v1.2.1 (1:Int), ()))) else some (.inr (.inl (v1.1, (v1.2.1, ()))))
noncomputable def F69 : ((List D173 × Unit) × ((Int × Unit) × Unit)) → Option (((Int × Unit) × Unit)) := fun x0 => bif iLt (iSub .i64 x0.2.1.1 (List.length x0.1.1 : Int)) (0:Int) then some (((-1:Int), ()), ()) else (loopF (F69.b0 x0) (iSub .i64 x0.2.1.1 (List.length x0.1.1 : Int), ((0:Int), ()))).bind fun r5 => Sum.elim (fun v4 => some ((v4.1, ()), ())) some r5
noncomputable def c69 : Con := ⟨i69, o69, F69⟩
noncomputable def C69 : Ctx := ⟨27, TT, EE, fun n => (bif Nat.beq n 132 then some c132 else none), fun n k => [], fun n => (bif Nat.beq n 0 then (some ⟨[(.t 1 (.int .i64) .sh), (.t 5 (.int .i64) .sh)], [4, 12, 13, 14, 15, 16, 17, 18, 19, 20, 21, 22, 23, 24, 25], []⟩) else none), fun n => none⟩
theorem q69 : ∀ x, runF C69 Tryz.f69 i69 o69 x = F69 x := by intro x; kernel_rfl
def i13 : List Grp := [⟨.agg, e24, []⟩, ⟨.c, (.cons (.int .i64) .nil), []⟩]
def o13 : List Grp := [⟨.c, (.cons (.int .i64) .nil), []⟩]
/-- laws.szLedger -/
noncomputable def F13 : (D24 × ((Int × Unit) × Unit)) → Option (((Int × Unit) × Unit)) := fun x0 => (F69 ((x0.1.2.1, ()), (x0.2.1, ()))).bind fun y1 => bif iLt y1.1.1 (0:Int) then some (((-1:Int), ()), ()) else some (y1.1, ())
noncomputable def c13 : Con := ⟨i13, o13, F13⟩
noncomputable def C13 : Ctx := ⟨12, TT, EE, fun n => (bif Nat.beq n 69 then some c69 else none), fun n k => [], fun n => none, fun n => none⟩
theorem q13 : ∀ x, runF C13 Tryz.f13 i13 o13 x = F13 x := by intro x; kernel_rfl
def i70 : List Grp := [⟨.agg, e110, []⟩, ⟨.c, (.cons (.int .i64) .nil), []⟩]
def o70 : List Grp := [⟨.c, (.cons (.int .i64) .nil), []⟩]
/-- laws.szVal -/
noncomputable def F70 : (D110 × ((Int × Unit) × Unit)) → Option (((Int × Unit) × Unit)) := fun x0 => bif iLt (iSub .i64 x0.2.1.1 (ByteArray.size x0.1.1 : Int)) (0:Int) then some (((-1:Int), ()), ()) else some ((iSub .i64 x0.2.1.1 (ByteArray.size x0.1.1 : Int), ()), ())
noncomputable def c70 : Con := ⟨i70, o70, F70⟩
noncomputable def C70 : Ctx := ⟨13, TT, EE, fun n => none, fun n k => [], fun n => none, fun n => none⟩
theorem q70 : ∀ x, runF C70 Tryz.f70 i70 o70 x = F70 x := by intro x; kernel_rfl
def i14 : List Grp := [⟨.c, (.cons (.sl e110) .nil), []⟩, ⟨.c, (.cons (.int .i64) .nil), []⟩]
def o14 : List Grp := [⟨.c, (.cons (.int .i64) .nil), []⟩]
/-- laws.szValS -/
noncomputable def F14.b0 (x0 : ((List D110 × Unit) × ((Int × Unit) × Unit))) : (v1 : (Int × (Int × Unit))) → Option (Sum (Int × (Int × Unit)) (Sum (Int × (Int × Unit)) (((Int × Unit) × Unit)))) := fun v1 => bif iLt v1.2.1 (List.length x0.1.1 : Int) then (getI x0.1.1 v1.2.1).bind fun x2 => (F70 (x2, ((v1.1, ()), ()))).bind fun y3 => bif iLt y3.1.1 (0:Int) then some (.inr (.inr (((-1:Int), ()), ()))) else some (.inl (y3.1.1, (iAdd .i64 v1.2.1 (1:Int), ()))) else some (.inr (.inl (v1.1, (v1.2.1, ()))))
noncomputable def F14 : ((List D110 × Unit) × ((Int × Unit) × Unit)) → Option (((Int × Unit) × Unit)) := fun x0 => bif iLt (iSub .i64 x0.2.1.1 (List.length x0.1.1 : Int)) (0:Int) then some (((-1:Int), ()), ()) else (loopF (F14.b0 x0) (iSub .i64 x0.2.1.1 (List.length x0.1.1 : Int), ((0:Int), ()))).bind fun r5 => Sum.elim (fun v4 => some ((v4.1, ()), ())) some r5
noncomputable def c14 : Con := ⟨i14, o14, F14⟩
noncomputable def C14 : Ctx := ⟨27, TT, EE, fun n => (bif Nat.beq n 70 then some c70 else none), fun n k => [], fun n => (bif Nat.beq n 0 then (some ⟨[(.t 1 (.int .i64) .sh), (.t 5 (.int .i64) .sh)], [4, 12, 13, 14, 15, 16, 17, 18, 19, 20, 21, 22, 23, 24, 25], []⟩) else none), fun n => none⟩
theorem q14 : ∀ x, runF C14 Tryz.f14 i14 o14 x = F14 x := by intro x; kernel_rfl
def i72 : List Grp := [⟨.c, (.cons (.sl e9) .nil), []⟩, ⟨.c, (.cons (.int .i64) .nil), []⟩]
def o72 : List Grp := [⟨.c, (.cons (.int .i64) .nil), []⟩]
/-- laws.szStringS -/
noncomputable def F72.b0 (x0 : ((List D9 × Unit) × ((Int × Unit) × Unit))) : (v1 : (Int × (Int × Unit))) → Option (Sum (Int × (Int × Unit)) (Sum (Int × (Int × Unit)) (((Int × Unit) × Unit)))) := fun v1 => bif iLt v1.2.1 (List.length x0.1.1 : Int) then (getI x0.1.1 v1.2.1).bind fun x2 => bif iLt (iSub .i64 v1.1 (ByteArray.size x2.1 : Int)) (0:Int) then some (.inr (.inr (((-1:Int), ()), ()))) else some (.inl (iSub .i64 v1.1 (ByteArray.size x2.1 : Int), (iAdd .i64 v1.2.1 (1:Int), ()))) else some (.inr (.inl (v1.1, (v1.2.1, ()))))
noncomputable def F72 : ((List D9 × Unit) × ((Int × Unit) × Unit)) → Option (((Int × Unit) × Unit)) := fun x0 => bif iLt (iSub .i64 x0.2.1.1 (List.length x0.1.1 : Int)) (0:Int) then some (((-1:Int), ()), ()) else (loopF (F72.b0 x0) (iSub .i64 x0.2.1.1 (List.length x0.1.1 : Int), ((0:Int), ()))).bind fun r4 => Sum.elim (fun v3 => some ((v3.1, ()), ())) some r4
noncomputable def c72 : Con := ⟨i72, o72, F72⟩
noncomputable def C72 : Ctx := ⟨28, TT, EE, fun n => none, fun n k => [], fun n => (bif Nat.beq n 0 then (some ⟨[(.t 1 (.int .i64) .sh), (.t 5 (.int .i64) .sh)], [4, 12, 13, 14, 15, 16, 17, 18, 19, 20, 21, 22, 23, 24, 25, 26], []⟩) else none), fun n => none⟩
theorem q72 : ∀ x, runF C72 Tryz.f72 i72 o72 x = F72 x := by intro x; kernel_rfl
def i16 : List Grp := [⟨.agg, e29, []⟩, ⟨.c, (.cons (.int .i64) .nil), []⟩]
def o16 : List Grp := [⟨.c, (.cons (.int .i64) .nil), []⟩]
/-- laws.szQc -/
noncomputable def F16 : (D29 × ((Int × Unit) × Unit)) → Option (((Int × Unit) × Unit)) := fun x0 => (F72 ((x0.1.2.2.1, ()), (x0.2.1, ()))).bind fun y1 => bif iLt y1.1.1 (0:Int) then some (((-1:Int), ()), ()) else some (y1.1, ())
noncomputable def c16 : Con := ⟨i16, o16, F16⟩
noncomputable def C16 : Ctx := ⟨12, TT, EE, fun n => (bif Nat.beq n 72 then some c72 else none), fun n k => [], fun n => none, fun n => none⟩
theorem q16 : ∀ x, runF C16 Tryz.f16 i16 o16 x = F16 x := by intro x; kernel_rfl
def i20 : List Grp := [⟨.c, (.cons (.sl e3) .nil), []⟩, ⟨.c, (.cons (.int .i64) .nil), []⟩]
def o20 : List Grp := [⟨.c, (.cons (.int .i64) .nil), []⟩]
/-- laws.szIntS -/
noncomputable def F20 : ((List D3 × Unit) × ((Int × Unit) × Unit)) → Option (((Int × Unit) × Unit)) := fun x0 => bif iLt (iSub .i64 x0.2.1.1 (List.length x0.1.1 : Int)) (0:Int) then some (((-1:Int), ()), ()) else some ((iSub .i64 x0.2.1.1 (List.length x0.1.1 : Int), ()), ())
noncomputable def c20 : Con := ⟨i20, o20, F20⟩
noncomputable def C20 : Ctx := ⟨12, TT, EE, fun n => none, fun n k => [], fun n => none, fun n => none⟩
theorem q20 : ∀ x, runF C20 Tryz.f20 i20 o20 x = F20 x := by intro x; kernel_rfl
def i17 : List Grp := [⟨.agg, e32, []⟩, ⟨.c, (.cons (.int .i64) .nil), []⟩]
def o17 : List Grp := [⟨.c, (.cons (.int .i64) .nil), []⟩]
/-- laws.szTc -/
noncomputable def F17 : (D32 × ((Int × Unit) × Unit)) → Option (((Int × Unit) × Unit)) := fun x0 => (F72 ((x0.1.2.1, ()), (x0.2.1, ()))).bind fun y1 => bif iLt y1.1.1 (0:Int) then some (((-1:Int), ()), ()) else (F20 ((x0.1.2.2.1, ()), (y1.1, ()))).bind fun y2 => bif iLt y2.1.1 (0:Int) then some (((-1:Int), ()), ()) else some (y2.1, ())
noncomputable def c17 : Con := ⟨i17, o17, F17⟩
noncomputable def C17 : Ctx := ⟨18, TT, EE, fun n => (bif Nat.ble n 20 then (bif Nat.beq n 20 then some c20 else none) else (bif Nat.beq n 72 then some c72 else none)), fun n k => [], fun n => none, fun n => none⟩
theorem q17 : ∀ x, runF C17 Tryz.f17 i17 o17 x = F17 x := by intro x; kernel_rfl
def i5 : List Grp := [⟨.agg, e40, []⟩, ⟨.c, (.cons (.int .i64) .nil), []⟩]
def o5 : List Grp := [⟨.c, (.cons (.int .i64) .nil), []⟩]
/-- laws.szTx -/
noncomputable def F5 : (D40 × ((Int × Unit) × Unit)) → Option (((Int × Unit) × Unit)) := fun x0 => bif iLt (iSub .i64 x0.2.1.1 (ByteArray.size x0.1.2.1 : Int)) (0:Int) then some (((-1:Int), ()), ()) else bif iLt (iSub .i64 (iSub .i64 x0.2.1.1 (ByteArray.size x0.1.2.1 : Int)) (ByteArray.size x0.1.2.2.1 : Int)) (0:Int) then some (((-1:Int), ()), ()) else some ((iSub .i64 (iSub .i64 x0.2.1.1 (ByteArray.size x0.1.2.1 : Int)) (ByteArray.size x0.1.2.2.1 : Int), ()), ())
noncomputable def c5 : Con := ⟨i5, o5, F5⟩
noncomputable def C5 : Ctx := ⟨20, TT, EE, fun n => none, fun n k => [], fun n => none, fun n => none⟩
theorem q5 : ∀ x, runF C5 Tryz.f5 i5 o5 x = F5 x := by intro x; kernel_rfl
def i21 : List Grp := [⟨.c, (.cons (.sl e40) .nil), []⟩, ⟨.c, (.cons (.int .i64) .nil), []⟩]
def o21 : List Grp := [⟨.c, (.cons (.int .i64) .nil), []⟩]
/-- laws.szTxS -/
noncomputable def F21.b0 (x0 : ((List D40 × Unit) × ((Int × Unit) × Unit))) : (v1 : (Int × (Int × Unit))) → Option (Sum (Int × (Int × Unit)) (Sum (Int × (Int × Unit)) (((Int × Unit) × Unit)))) := fun v1 => bif iLt v1.2.1 (List.length x0.1.1 : Int) then (getI x0.1.1 v1.2.1).bind fun x2 => (F5 (x2, ((v1.1, ()), ()))).bind fun y3 => bif iLt y3.1.1 (0:Int) then some (.inr (.inr (((-1:Int), ()), ()))) else some (.inl (y3.1.1, (iAdd .i64 v1.2.1 (1:Int), ()))) else some (.inr (.inl (v1.1, (v1.2.1, ()))))
noncomputable def F21 : ((List D40 × Unit) × ((Int × Unit) × Unit)) → Option (((Int × Unit) × Unit)) := fun x0 => bif iLt (iSub .i64 x0.2.1.1 (List.length x0.1.1 : Int)) (0:Int) then some (((-1:Int), ()), ()) else (loopF (F21.b0 x0) (iSub .i64 x0.2.1.1 (List.length x0.1.1 : Int), ((0:Int), ()))).bind fun r5 => Sum.elim (fun v4 => some ((v4.1, ()), ())) some r5
noncomputable def c21 : Con := ⟨i21, o21, F21⟩
noncomputable def C21 : Ctx := ⟨27, TT, EE, fun n => (bif Nat.beq n 5 then some c5 else none), fun n k => [], fun n => (bif Nat.beq n 0 then (some ⟨[(.t 1 (.int .i64) .sh), (.t 5 (.int .i64) .sh)], [4, 12, 13, 14, 15, 16, 17, 18, 19, 20, 21, 22, 23, 24, 25], []⟩) else none), fun n => none⟩
theorem q21 : ∀ x, runF C21 Tryz.f21 i21 o21 x = F21 x := by intro x; kernel_rfl
def i71 : List Grp := [⟨.agg, e113, []⟩, ⟨.c, (.cons (.int .i64) .nil), []⟩]
def o71 : List Grp := [⟨.c, (.cons (.int .i64) .nil), []⟩]
/-- laws.szBlock -/
noncomputable def F71 : (D113 × ((Int × Unit) × Unit)) → Option (((Int × Unit) × Unit)) := fun x0 => bif iLt (iSub .i64 x0.2.1.1 (ByteArray.size x0.1.2.2.2.1 : Int)) (0:Int) then some (((-1:Int), ()), ()) else (F16 ((x0.1.2.2.2.2.1, (x0.1.2.2.2.2.2.1, (x0.1.2.2.2.2.2.2.1, ()))), ((iSub .i64 x0.2.1.1 (ByteArray.size x0.1.2.2.2.1 : Int), ()), ()))).bind fun y1 => bif iLt y1.1.1 (0:Int) then some (((-1:Int), ()), ()) else (F17 ((x0.1.2.2.2.2.2.2.2.1, (x0.1.2.2.2.2.2.2.2.2.1, (x0.1.2.2.2.2.2.2.2.2.2.1, ()))), (y1.1, ()))).bind fun y2 => bif iLt y2.1.1 (0:Int) then some (((-1:Int), ()), ()) else (F21 ((x0.1.2.2.2.2.2.2.2.2.2.2.1, ()), (y2.1, ()))).bind fun y3 => bif iLt y3.1.1 (0:Int) then some (((-1:Int), ()), ()) else (F14 ((x0.1.2.2.2.2.2.2.2.2.2.2.2.2.1, ()), (y3.1, ()))).bind fun y4 => bif iLt y4.1.1 (0:Int) then some (((-1:Int), ()), ()) else bif iLt (iSub .i64 y4.1.1 (ByteArray.size x0.1.2.2.2.2.2.2.2.2.2.2.2.2.2.1 : Int)) (0:Int) then some (((-1:Int), ()), ()) else some ((iSub .i64 y4.1.1 (ByteArray.size x0.1.2.2.2.2.2.2.2.2.2.2.2.2.2.1 : Int), ()), ())
noncomputable def c71 : Con := ⟨i71, o71, F71⟩
noncomputable def C71 : Ctx := ⟨44, TT, EE, fun n => (bif Nat.ble n 16 then (bif Nat.ble n 14 then (bif Nat.beq n 14 then some c14 else none) else (bif Nat.beq n 16 then some c16 else none)) else (bif Nat.ble n 17 then (bif Nat.beq n 17 then some c17 else none) else (bif Nat.beq n 21 then some c21 else none))), fun n k => [], fun n => none, fun n => none⟩
theorem q71 : ∀ x, runF C71 Tryz.f71 i71 o71 x = F71 x := by intro x; kernel_rfl
def i15 : List Grp := [⟨.c, (.cons (.sl e113) .nil), []⟩, ⟨.c, (.cons (.int .i64) .nil), []⟩]
def o15 : List Grp := [⟨.c, (.cons (.int .i64) .nil), []⟩]
/-- laws.szBlockS -/
noncomputable def F15.b0 (x0 : ((List D113 × Unit) × ((Int × Unit) × Unit))) : (v1 : (Int × (Int × Unit))) → Option (Sum (Int × (Int × Unit)) (Sum (Int × (Int × Unit)) (((Int × Unit) × Unit)))) := fun v1 => bif iLt v1.2.1 (List.length x0.1.1 : Int) then (getI x0.1.1 v1.2.1).bind fun x2 => (F71 (x2, ((v1.1, ()), ()))).bind fun y3 => bif iLt y3.1.1 (0:Int) then some (.inr (.inr (((-1:Int), ()), ()))) else some (.inl (y3.1.1, (iAdd .i64 v1.2.1 (1:Int), ()))) else some (.inr (.inl (v1.1, (v1.2.1, ()))))
noncomputable def F15 : ((List D113 × Unit) × ((Int × Unit) × Unit)) → Option (((Int × Unit) × Unit)) := fun x0 => bif iLt (iSub .i64 x0.2.1.1 (List.length x0.1.1 : Int)) (0:Int) then some (((-1:Int), ()), ()) else (loopF (F15.b0 x0) (iSub .i64 x0.2.1.1 (List.length x0.1.1 : Int), ((0:Int), ()))).bind fun r5 => Sum.elim (fun v4 => some ((v4.1, ()), ())) some r5
noncomputable def c15 : Con := ⟨i15, o15, F15⟩
noncomputable def C15 : Ctx := ⟨27, TT, EE, fun n => (bif Nat.beq n 71 then some c71 else none), fun n k => [], fun n => (bif Nat.beq n 0 then (some ⟨[(.t 1 (.int .i64) .sh), (.t 5 (.int .i64) .sh)], [4, 12, 13, 14, 15, 16, 17, 18, 19, 20, 21, 22, 23, 24, 25], []⟩) else none), fun n => none⟩
theorem q15 : ∀ x, runF C15 Tryz.f15 i15 o15 x = F15 x := by intro x; kernel_rfl
def i73 : List Grp := [⟨.agg, e117, []⟩, ⟨.c, (.cons (.int .i64) .nil), []⟩]
def o73 : List Grp := [⟨.c, (.cons (.int .i64) .nil), []⟩]
/-- laws.szVote -/
noncomputable def F73 : (D117 × ((Int × Unit) × Unit)) → Option (((Int × Unit) × Unit)) := fun x0 => bif iLt (iSub .i64 x0.2.1.1 (ByteArray.size x0.1.2.2.1 : Int)) (0:Int) then some (((-1:Int), ()), ()) else some ((iSub .i64 x0.2.1.1 (ByteArray.size x0.1.2.2.1 : Int), ()), ())
noncomputable def c73 : Con := ⟨i73, o73, F73⟩
noncomputable def C73 : Ctx := ⟨13, TT, EE, fun n => none, fun n k => [], fun n => none, fun n => none⟩
theorem q73 : ∀ x, runF C73 Tryz.f73 i73 o73 x = F73 x := by intro x; kernel_rfl
def i18 : List Grp := [⟨.c, (.cons (.sl e117) .nil), []⟩, ⟨.c, (.cons (.int .i64) .nil), []⟩]
def o18 : List Grp := [⟨.c, (.cons (.int .i64) .nil), []⟩]
/-- laws.szVoteS -/
noncomputable def F18.b0 (x0 : ((List D117 × Unit) × ((Int × Unit) × Unit))) : (v1 : (Int × (Int × Unit))) → Option (Sum (Int × (Int × Unit)) (Sum (Int × (Int × Unit)) (((Int × Unit) × Unit)))) := fun v1 => bif iLt v1.2.1 (List.length x0.1.1 : Int) then (getI x0.1.1 v1.2.1).bind fun x2 => (F73 (x2, ((v1.1, ()), ()))).bind fun y3 => bif iLt y3.1.1 (0:Int) then some (.inr (.inr (((-1:Int), ()), ()))) else some (.inl (y3.1.1, (iAdd .i64 v1.2.1 (1:Int), ()))) else some (.inr (.inl (v1.1, (v1.2.1, ()))))
noncomputable def F18 : ((List D117 × Unit) × ((Int × Unit) × Unit)) → Option (((Int × Unit) × Unit)) := fun x0 => bif iLt (iSub .i64 x0.2.1.1 (List.length x0.1.1 : Int)) (0:Int) then some (((-1:Int), ()), ()) else (loopF (F18.b0 x0) (iSub .i64 x0.2.1.1 (List.length x0.1.1 : Int), ((0:Int), ()))).bind fun r5 => Sum.elim (fun v4 => some ((v4.1, ()), ())) some r5
noncomputable def c18 : Con := ⟨i18, o18, F18⟩
noncomputable def C18 : Ctx := ⟨27, TT, EE, fun n => (bif Nat.beq n 73 then some c73 else none), fun n k => [], fun n => (bif Nat.beq n 0 then (some ⟨[(.t 1 (.int .i64) .sh), (.t 5 (.int .i64) .sh)], [4, 12, 13, 14, 15, 16, 17, 18, 19, 20, 21, 22, 23, 24, 25], []⟩) else none), fun n => none⟩
theorem q18 : ∀ x, runF C18 Tryz.f18 i18 o18 x = F18 x := by intro x; kernel_rfl
def i74 : List Grp := [⟨.agg, e117, []⟩, ⟨.c, (.cons (.int .i64) .nil), []⟩]
def o74 : List Grp := [⟨.c, (.cons (.int .i64) .nil), []⟩]
/-- laws.szGone -/
noncomputable def F74 : (D117 × ((Int × Unit) × Unit)) → Option (((Int × Unit) × Unit)) := fun x0 => bif iLt (iSub .i64 x0.2.1.1 (ByteArray.size x0.1.2.2.1 : Int)) (0:Int) then some (((-1:Int), ()), ()) else some ((iSub .i64 x0.2.1.1 (ByteArray.size x0.1.2.2.1 : Int), ()), ())
noncomputable def c74 : Con := ⟨i74, o74, F74⟩
noncomputable def C74 : Ctx := ⟨13, TT, EE, fun n => none, fun n k => [], fun n => none, fun n => none⟩
theorem q74 : ∀ x, runF C74 Tryz.f74 i74 o74 x = F74 x := by intro x; kernel_rfl
def i19 : List Grp := [⟨.c, (.cons (.sl e120) .nil), []⟩, ⟨.c, (.cons (.int .i64) .nil), []⟩]
def o19 : List Grp := [⟨.c, (.cons (.int .i64) .nil), []⟩]
/-- laws.szGoneS -/
noncomputable def F19.b0 (x0 : ((List D120 × Unit) × ((Int × Unit) × Unit))) : (v1 : (Int × (Int × Unit))) → Option (Sum (Int × (Int × Unit)) (Sum (Int × (Int × Unit)) (((Int × Unit) × Unit)))) := fun v1 => bif iLt v1.2.1 (List.length x0.1.1 : Int) then (getI x0.1.1 v1.2.1).bind fun x2 => (F74 (x2, ((v1.1, ()), ()))).bind fun y3 => bif iLt y3.1.1 (0:Int) then some (.inr (.inr (((-1:Int), ()), ()))) else some (.inl (y3.1.1, (iAdd .i64 v1.2.1 (1:Int), ()))) else some (.inr (.inl (v1.1, (v1.2.1, ()))))
noncomputable def F19 : ((List D120 × Unit) × ((Int × Unit) × Unit)) → Option (((Int × Unit) × Unit)) := fun x0 => bif iLt (iSub .i64 x0.2.1.1 (List.length x0.1.1 : Int)) (0:Int) then some (((-1:Int), ()), ()) else (loopF (F19.b0 x0) (iSub .i64 x0.2.1.1 (List.length x0.1.1 : Int), ((0:Int), ()))).bind fun r5 => Sum.elim (fun v4 => some ((v4.1, ()), ())) some r5
noncomputable def c19 : Con := ⟨i19, o19, F19⟩
noncomputable def C19 : Ctx := ⟨27, TT, EE, fun n => (bif Nat.beq n 74 then some c74 else none), fun n k => [], fun n => (bif Nat.beq n 0 then (some ⟨[(.t 1 (.int .i64) .sh), (.t 5 (.int .i64) .sh)], [4, 12, 13, 14, 15, 16, 17, 18, 19, 20, 21, 22, 23, 24, 25], []⟩) else none), fun n => none⟩
theorem q19 : ∀ x, runF C19 Tryz.f19 i19 o19 x = F19 x := by intro x; kernel_rfl
def i75 : List Grp := [⟨.agg, e123, []⟩, ⟨.c, (.cons (.int .i64) .nil), []⟩]
def o75 : List Grp := [⟨.c, (.cons (.int .i64) .nil), []⟩]
/-- laws.szProof -/
noncomputable def F75 : (D123 × ((Int × Unit) × Unit)) → Option (((Int × Unit) × Unit)) := fun x0 => (F15 ((x0.1.2.1, ()), (x0.2.1, ()))).bind fun y1 => bif iLt y1.1.1 (0:Int) then some (((-1:Int), ()), ()) else (F16 ((x0.1.2.2.1, (x0.1.2.2.2.1, (x0.1.2.2.2.2.1, ()))), (y1.1, ()))).bind fun y2 => bif iLt y2.1.1 (0:Int) then some (((-1:Int), ()), ()) else some (y2.1, ())
noncomputable def c75 : Con := ⟨i75, o75, F75⟩
noncomputable def C75 : Ctx := ⟨18, TT, EE, fun n => (bif Nat.ble n 15 then (bif Nat.beq n 15 then some c15 else none) else (bif Nat.beq n 16 then some c16 else none)), fun n k => [], fun n => none, fun n => none⟩
theorem q75 : ∀ x, runF C75 Tryz.f75 i75 o75 x = F75 x := by intro x; kernel_rfl
def i22 : List Grp := [⟨.c, (.cons (.sl e123) .nil), []⟩, ⟨.c, (.cons (.int .i64) .nil), []⟩]
def o22 : List Grp := [⟨.c, (.cons (.int .i64) .nil), []⟩]
/-- laws.szProofS -/
noncomputable def F22.b0 (x0 : ((List D123 × Unit) × ((Int × Unit) × Unit))) : (v1 : (Int × (Int × Unit))) → Option (Sum (Int × (Int × Unit)) (Sum (Int × (Int × Unit)) (((Int × Unit) × Unit)))) := fun v1 => bif iLt v1.2.1 (List.length x0.1.1 : Int) then (getI x0.1.1 v1.2.1).bind fun x2 => (F75 (x2, ((v1.1, ()), ()))).bind fun y3 => bif iLt y3.1.1 (0:Int) then some (.inr (.inr (((-1:Int), ()), ()))) else some (.inl (y3.1.1, (iAdd .i64 v1.2.1 (1:Int), ()))) else some (.inr (.inl (v1.1, (v1.2.1, ()))))
noncomputable def F22 : ((List D123 × Unit) × ((Int × Unit) × Unit)) → Option (((Int × Unit) × Unit)) := fun x0 => bif iLt (iSub .i64 x0.2.1.1 (List.length x0.1.1 : Int)) (0:Int) then some (((-1:Int), ()), ()) else (loopF (F22.b0 x0) (iSub .i64 x0.2.1.1 (List.length x0.1.1 : Int), ((0:Int), ()))).bind fun r5 => Sum.elim (fun v4 => some ((v4.1, ()), ())) some r5
noncomputable def c22 : Con := ⟨i22, o22, F22⟩
noncomputable def C22 : Ctx := ⟨27, TT, EE, fun n => (bif Nat.beq n 75 then some c75 else none), fun n k => [], fun n => (bif Nat.beq n 0 then (some ⟨[(.t 1 (.int .i64) .sh), (.t 5 (.int .i64) .sh)], [4, 12, 13, 14, 15, 16, 17, 18, 19, 20, 21, 22, 23, 24, 25], []⟩) else none), fun n => none⟩
theorem q22 : ∀ x, runF C22 Tryz.f22 i22 o22 x = F22 x := by intro x; kernel_rfl
def i4 : List Grp := [⟨.agg, e38, []⟩, ⟨.c, (.cons (.int .i64) .nil), []⟩]
def o4 : List Grp := [⟨.c, (.cons (.int .i64) .nil), []⟩]
/-- laws.szNode -/
noncomputable def F4 : (D38 × ((Int × Unit) × Unit)) → Option (((Int × Unit) × Unit)) := fun x0 => bif iLt (iSub .i64 x0.2.1.1 (ByteArray.size x0.1.1 : Int)) (0:Int) then some (((-1:Int), ()), ()) else (F13 ((x0.1.2.2.1, (x0.1.2.2.2.1, ())), ((iSub .i64 x0.2.1.1 (ByteArray.size x0.1.1 : Int), ()), ()))).bind fun y1 => bif iLt y1.1.1 (0:Int) then some (((-1:Int), ()), ()) else (F14 ((x0.1.2.2.2.2.1, ()), (y1.1, ()))).bind fun y2 => bif iLt y2.1.1 (0:Int) then some (((-1:Int), ()), ()) else (F15 ((x0.1.2.2.2.2.2.1, ()), (y2.1, ()))).bind fun y3 => bif iLt y3.1.1 (0:Int) then some (((-1:Int), ()), ()) else (F16 ((x0.1.2.2.2.2.2.2.2.2.1, (x0.1.2.2.2.2.2.2.2.2.2.1, (x0.1.2.2.2.2.2.2.2.2.2.2.1, ()))), (y3.1, ()))).bind fun y4 => bif iLt y4.1.1 (0:Int) then some (((-1:Int), ()), ()) else (F17 ((x0.1.2.2.2.2.2.2.2.2.2.2.2.1, (x0.1.2.2.2.2.2.2.2.2.2.2.2.2.1, (x0.1.2.2.2.2.2.2.2.2.2.2.2.2.2.1, ()))), (y4.1, ()))).bind fun y5 => bif iLt y5.1.1 (0:Int) then some (((-1:Int), ()), ()) else (F18 ((x0.1.2.2.2.2.2.2.2.2.2.2.2.2.2.2.2.1, ()), (y5.1, ()))).bind fun y6 => bif iLt y6.1.1 (0:Int) then some (((-1:Int), ()), ()) else (F19 ((x0.1.2.2.2.2.2.2.2.2.2.2.2.2.2.2.2.2.1, ()), (y6.1, ()))).bind fun y7 => bif iLt y7.1.1 (0:Int) then some (((-1:Int), ()), ()) else (F20 ((x0.1.2.2.2.2.2.2.2.2.2.2.2.2.2.2.2.2.2.1, ()), (y7.1, ()))).bind fun y8 => bif iLt y8.1.1 (0:Int) then some (((-1:Int), ()), ()) else (F21 ((x0.1.2.2.2.2.2.2.2.2.2.2.2.2.2.2.2.2.2.2.1, ()), (y8.1, ()))).bind fun y9 => bif iLt y9.1.1 (0:Int) then some (((-1:Int), ()), ()) else (F22 ((x0.1.2.2.2.2.2.2.2.2.2.2.2.2.2.2.2.2.2.2.2.1, ()), (y9.1, ()))).bind fun y10 => bif iLt y10.1.1 (0:Int) then some (((-1:Int), ()), ()) else some (y10.1, ())
noncomputable def c4 : Con := ⟨i4, o4, F4⟩
noncomputable def C4 : Ctx := ⟨73, TT, EE, fun n => (bif Nat.ble n 17 then (bif Nat.ble n 14 then (bif Nat.ble n 13 then (bif Nat.beq n 13 then some c13 else none) else (bif Nat.beq n 14 then some c14 else none)) else (bif Nat.ble n 15 then (bif Nat.beq n 15 then some c15 else none) else (bif Nat.ble n 16 then (bif Nat.beq n 16 then some c16 else none) else (bif Nat.beq n 17 then some c17 else none)))) else (bif Nat.ble n 19 then (bif Nat.ble n 18 then (bif Nat.beq n 18 then some c18 else none) else (bif Nat.beq n 19 then some c19 else none)) else (bif Nat.ble n 20 then (bif Nat.beq n 20 then some c20 else none) else (bif Nat.ble n 21 then (bif Nat.beq n 21 then some c21 else none) else (bif Nat.beq n 22 then some c22 else none))))), fun n k => [], fun n => none, fun n => none⟩
theorem q4 : ∀ x, runF C4 Tryz.f4 i4 o4 x = F4 x := by intro x; kernel_rfl
def i191 : List Grp := [⟨.agg, e212, []⟩]
def o191 : List Grp := [⟨.agg, e212, []⟩]
/-- laws.toLeave -/
noncomputable def F191 : (D212 × Unit) → Option ((D212 × Unit)) := fun x0 => some (x0.1, ())
noncomputable def c191 : Con := ⟨i191, o191, F191⟩
noncomputable def C191 : Ctx := ⟨11, TT, EE, fun n => none, fun n k => [], fun n => none, fun n => none⟩
theorem q191 : ∀ x, runF C191 Tryz.f191 i191 o191 x = F191 x := by intro x; kernel_rfl
def i174 : List Grp := [⟨.c, (.cons (.sl e212) .nil), []⟩]
def o174 : List Grp := [⟨.c, (.cons (.sl e205) .nil), [(.own [])]⟩]
/-- laws.toLeaveS -/
noncomputable def F174.b0 (x0 : ((List D212 × Unit) × Unit)) : (v1 : (Int × (List (D205) × Unit))) → Option (Sum (Int × (List (D205) × Unit)) (Sum (Int × (List (D205) × Unit)) (((List D205 × Unit) × Unit)))) := fun v1 => bif iLt v1.1 (List.length x0.1.1 : Int) then (getI x0.1.1 v1.1).bind fun x2 => (F191 (x2, ())).bind fun y3 => (getI v1.2.1 v1.1).bind fun _ => (getN v1.2.1 (Int.toNat v1.1)).bind fun x4 => (some (List.set v1.2.1 (Int.toNat v1.1) (y3.1.1, (y3.1.2.1, ())))).bind fun z5 => some (.inl (iAdd .i64 v1.1 (1:Int), (z5, ()))) else some (.inr (.inl (v1.1, (v1.2.1, ()))))
noncomputable def F174 : ((List D212 × Unit) × Unit) → Option (((List D205 × Unit) × Unit)) := fun x0 => bif mkOk (List.length x0.1.1 : Int) (List.length x0.1.1 : Int) 16 then (loopF (F174.b0 x0) ((0:Int), (List.replicate (Int.toNat (List.length x0.1.1 : Int)) ((0:Int), ((0:Int), ())), ()))).bind fun r7 => Sum.elim (fun v6 => some ((v6.2.1, ()), ())) some r7 else none
noncomputable def c174 : Con := ⟨i174, o174, F174⟩
noncomputable def C174 : Ctx := ⟨23, TT, EE, fun n => (bif Nat.beq n 191 then some c191 else none), fun n k => [], fun n => (bif Nat.beq n 0 then (some ⟨[(.t 4 (.int .i64) .sh), (.r 8192 e205 [])], [8, 9, 10, 11, 12, 13, 14, 15, 16, 17, 18, 19, 20, 21], []⟩) else none), fun n => none⟩
theorem q174 : ∀ x, runF C174 Tryz.f174 i174 o174 x = F174 x := by intro x; kernel_rfl
def i143 : List Grp := [⟨.agg, e173, []⟩]
def o143 : List Grp := [⟨.agg, e183, [.sh, .sh, .sh, .sh, (.own [])]⟩]
/-- laws.toAcct -/
noncomputable def F143 : (D173 × Unit) → Option ((D183 × Unit)) := fun x0 => (F174 ((x0.1.2.2.2.2.1, ()), ())).bind fun y1 => some ((x0.1.1, (x0.1.2.1, (x0.1.2.2.1, (x0.1.2.2.2.1, (y1.1.1, ()))))), ())
noncomputable def c143 : Con := ⟨i143, o143, F143⟩
noncomputable def C143 : Ctx := ⟨21, TT, EE, fun n => (bif Nat.beq n 174 then some c174 else none), fun n k => [], fun n => none, fun n => none⟩
theorem q143 : ∀ x, runF C143 Tryz.f143 i143 o143 x = F143 x := by intro x; kernel_rfl
def i90 : List Grp := [⟨.c, (.cons (.sl e173) .nil), []⟩]
def o90 : List Grp := [⟨.c, (.cons (.sl e183) .nil), [(.own [.sh, .sh, .sh, .sh, (.own [])])]⟩]
/-- laws.toAcctS -/
noncomputable def F90.b0 (x0 : ((List D173 × Unit) × Unit)) : (v1 : (Int × (List (D183) × Unit))) → Option (Sum (Int × (List (D183) × Unit)) (Sum (Int × (List (D183) × Unit)) (((List D183 × Unit) × Unit)))) := fun v1 => bif iLt v1.1 (List.length x0.1.1 : Int) then (getI x0.1.1 v1.1).bind fun x2 => (F143 (x2, ())).bind fun y3 => (getI v1.2.1 v1.1).bind fun _ => (getN v1.2.1 (Int.toNat v1.1)).bind fun x4 => (some (List.set v1.2.1 (Int.toNat v1.1) (y3.1.1, (y3.1.2.1, (y3.1.2.2.1, (y3.1.2.2.2.1, (y3.1.2.2.2.2.1, ()))))))).bind fun z5 => some (.inl (iAdd .i64 v1.1 (1:Int), (z5, ()))) else some (.inr (.inl (v1.1, (v1.2.1, ()))))
noncomputable def F90 : ((List D173 × Unit) × Unit) → Option (((List D183 × Unit) × Unit)) := fun x0 => bif mkOk (List.length x0.1.1 : Int) (List.length x0.1.1 : Int) 64 then (loopF (F90.b0 x0) ((0:Int), (List.replicate (Int.toNat (List.length x0.1.1 : Int)) (⟨#[]⟩, ((0:Int), ((0:Int), ((0:Int), ([], ()))))), ()))).bind fun r7 => Sum.elim (fun v6 => some ((v6.2.1, ()), ())) some r7 else none
noncomputable def c90 : Con := ⟨i90, o90, F90⟩
noncomputable def C90 : Ctx := ⟨23, TT, EE, fun n => (bif Nat.beq n 143 then some c143 else none), fun n k => (bif Nat.beq n 1 then (match k with | 2 => [.sh, .sh, .sh, .sh, (.own [])] | _ => []) else []), fun n => (bif Nat.beq n 0 then (some ⟨[(.t 4 (.int .i64) .sh), (.r 8192 e183 [.sh, .sh, .sh, .sh, (.own [])])], [8, 9, 10, 11, 12, 13, 14, 15, 16, 17, 18, 19, 20, 21], []⟩) else none), fun n => none⟩
theorem q90 : ∀ x, runF C90 Tryz.f90 i90 o90 x = F90 x := by intro x; kernel_rfl
def i26 : List Grp := [⟨.agg, e24, []⟩]
def o26 : List Grp := [⟨.agg, e45, [.sh, (.own [.sh, .sh, .sh, .sh, (.own [])])]⟩]
/-- laws.toLedger -/
noncomputable def F26 : (D24 × Unit) → Option ((D45 × Unit)) := fun x0 => (F90 ((x0.1.2.1, ()), ())).bind fun y1 => some ((x0.1.1, (y1.1.1, ())), ())
noncomputable def c26 : Con := ⟨i26, o26, F26⟩
noncomputable def C26 : Ctx := ⟨12, TT, EE, fun n => (bif Nat.beq n 90 then some c90 else none), fun n k => [], fun n => none, fun n => none⟩
theorem q26 : ∀ x, runF C26 Tryz.f26 i26 o26 x = F26 x := by intro x; kernel_rfl
def i91 : List Grp := [⟨.agg, e110, []⟩]
def o91 : List Grp := [⟨.agg, e110, []⟩]
/-- laws.toVal -/
noncomputable def F91 : (D110 × Unit) → Option ((D110 × Unit)) := fun x0 => some (x0.1, ())
noncomputable def c91 : Con := ⟨i91, o91, F91⟩
noncomputable def C91 : Ctx := ⟨11, TT, EE, fun n => none, fun n k => [], fun n => none, fun n => none⟩
theorem q91 : ∀ x, runF C91 Tryz.f91 i91 o91 x = F91 x := by intro x; kernel_rfl
def i27 : List Grp := [⟨.c, (.cons (.sl e110) .nil), []⟩]
def o27 : List Grp := [⟨.c, (.cons (.sl e143) .nil), [(.own [])]⟩]
/-- laws.toValS -/
noncomputable def F27.b0 (x0 : ((List D110 × Unit) × Unit)) : (v1 : (Int × (List (D143) × Unit))) → Option (Sum (Int × (List (D143) × Unit)) (Sum (Int × (List (D143) × Unit)) (((List D143 × Unit) × Unit)))) := fun v1 => bif iLt v1.1 (List.length x0.1.1 : Int) then (getI x0.1.1 v1.1).bind fun x2 => (F91 (x2, ())).bind fun y3 => (getI v1.2.1 v1.1).bind fun _ => (getN v1.2.1 (Int.toNat v1.1)).bind fun x4 => (some (List.set v1.2.1 (Int.toNat v1.1) (y3.1.1, (y3.1.2.1, ())))).bind fun z5 => some (.inl (iAdd .i64 v1.1 (1:Int), (z5, ()))) else some (.inr (.inl (v1.1, (v1.2.1, ()))))
noncomputable def F27 : ((List D110 × Unit) × Unit) → Option (((List D143 × Unit) × Unit)) := fun x0 => bif mkOk (List.length x0.1.1 : Int) (List.length x0.1.1 : Int) 24 then (loopF (F27.b0 x0) ((0:Int), (List.replicate (Int.toNat (List.length x0.1.1 : Int)) (⟨#[]⟩, ((0:Int), ())), ()))).bind fun r7 => Sum.elim (fun v6 => some ((v6.2.1, ()), ())) some r7 else none
noncomputable def c27 : Con := ⟨i27, o27, F27⟩
noncomputable def C27 : Ctx := ⟨23, TT, EE, fun n => (bif Nat.beq n 91 then some c91 else none), fun n k => [], fun n => (bif Nat.beq n 0 then (some ⟨[(.t 4 (.int .i64) .sh), (.r 8192 e143 [])], [8, 9, 10, 11, 12, 13, 14, 15, 16, 17, 18, 19, 20, 21], []⟩) else none), fun n => none⟩
theorem q27 : ∀ x, runF C27 Tryz.f27 i27 o27 x = F27 x := by intro x; kernel_rfl
def i93 : List Grp := [⟨.c, (.cons (.sl e9) .nil), []⟩]
def o93 : List Grp := [⟨.c, (.cons (.sl e9) .nil), [(.own [])]⟩]
/-- laws.toStringS -/
noncomputable def F93.b0 (x0 : ((List D9 × Unit) × Unit)) : (v1 : (Int × (List (D9) × Unit))) → Option (Sum (Int × (List (D9) × Unit)) (Sum (Int × (List (D9) × Unit)) (((List D9 × Unit) × Unit)))) := fun v1 => bif iLt v1.1 (List.length x0.1.1 : Int) then (getI x0.1.1 v1.1).bind fun x2 => (getI v1.2.1 v1.1).bind fun _ => (getN v1.2.1 (Int.toNat v1.1)).bind fun x3 => (some (List.set v1.2.1 (Int.toNat v1.1) (x2.1, ()))).bind fun z4 => some (.inl (iAdd .i64 v1.1 (1:Int), (z4, ()))) else some (.inr (.inl (v1.1, (v1.2.1, ()))))
noncomputable def F93 : ((List D9 × Unit) × Unit) → Option (((List D9 × Unit) × Unit)) := fun x0 => bif mkOk (List.length x0.1.1 : Int) (List.length x0.1.1 : Int) 16 then (loopF (F93.b0 x0) ((0:Int), (List.replicate (Int.toNat (List.length x0.1.1 : Int)) (⟨#[]⟩, ()), ()))).bind fun r6 => Sum.elim (fun v5 => some ((v5.2.1, ()), ())) some r6 else none
noncomputable def c93 : Con := ⟨i93, o93, F93⟩
noncomputable def C93 : Ctx := ⟨22, TT, EE, fun n => none, fun n k => [], fun n => (bif Nat.beq n 0 then (some ⟨[(.t 4 (.int .i64) .sh), (.r 8192 e9 [])], [8, 9, 10, 11, 12, 13, 14, 15, 16, 17, 18, 19, 20], []⟩) else none), fun n => none⟩
theorem q93 : ∀ x, runF C93 Tryz.f93 i93 o93 x = F93 x := by intro x; kernel_rfl
def i29 : List Grp := [⟨.agg, e29, []⟩]
def o29 : List Grp := [⟨.agg, e29, [.sh, .sh, (.own [])]⟩]
/-- laws.toQc -/
noncomputable def F29 : (D29 × Unit) → Option ((D29 × Unit)) := fun x0 => (F93 ((x0.1.2.2.1, ()), ())).bind fun y1 => some ((x0.1.1, (x0.1.2.1, (y1.1.1, ()))), ())
noncomputable def c29 : Con := ⟨i29, o29, F29⟩
noncomputable def C29 : Ctx := ⟨15, TT, EE, fun n => (bif Nat.beq n 93 then some c93 else none), fun n k => [], fun n => none, fun n => none⟩
theorem q29 : ∀ x, runF C29 Tryz.f29 i29 o29 x = F29 x := by intro x; kernel_rfl
def i33 : List Grp := [⟨.c, (.cons (.sl e3) .nil), []⟩]
def o33 : List Grp := [⟨.c, (.cons (.sl e3) .nil), [(.own [])]⟩]
/-- laws.toIntS -/
noncomputable def F33.b0 (x0 : ((List D3 × Unit) × Unit)) : (v1 : (Int × (List (D3) × Unit))) → Option (Sum (Int × (List (D3) × Unit)) (Sum (Int × (List (D3) × Unit)) (((List D3 × Unit) × Unit)))) := fun v1 => bif iLt v1.1 (List.length x0.1.1 : Int) then (getI x0.1.1 v1.1).bind fun x2 => (getI v1.2.1 v1.1).bind fun _ => (getN v1.2.1 (Int.toNat v1.1)).bind fun x3 => (some (List.set v1.2.1 (Int.toNat v1.1) (x2.1, ()))).bind fun z4 => some (.inl (iAdd .i64 v1.1 (1:Int), (z4, ()))) else some (.inr (.inl (v1.1, (v1.2.1, ()))))
noncomputable def F33 : ((List D3 × Unit) × Unit) → Option (((List D3 × Unit) × Unit)) := fun x0 => bif mkOk (List.length x0.1.1 : Int) (List.length x0.1.1 : Int) 8 then (loopF (F33.b0 x0) ((0:Int), (List.replicate (Int.toNat (List.length x0.1.1 : Int)) ((0:Int), ()), ()))).bind fun r6 => Sum.elim (fun v5 => some ((v5.2.1, ()), ())) some r6 else none
noncomputable def c33 : Con := ⟨i33, o33, F33⟩
noncomputable def C33 : Ctx := ⟨22, TT, EE, fun n => none, fun n k => [], fun n => (bif Nat.beq n 0 then (some ⟨[(.t 4 (.int .i64) .sh), (.r 8192 e3 [])], [8, 9, 10, 11, 12, 13, 14, 15, 16, 17, 18, 19, 20], []⟩) else none), fun n => none⟩
theorem q33 : ∀ x, runF C33 Tryz.f33 i33 o33 x = F33 x := by intro x; kernel_rfl
def i30 : List Grp := [⟨.agg, e32, []⟩]
def o30 : List Grp := [⟨.agg, e32, [.sh, (.own []), (.own [])]⟩]
/-- laws.toTc -/
noncomputable def F30 : (D32 × Unit) → Option ((D32 × Unit)) := fun x0 => (F93 ((x0.1.2.1, ()), ())).bind fun y1 => (F33 ((x0.1.2.2.1, ()), ())).bind fun y2 => some ((x0.1.1, (y1.1.1, (y2.1.1, ()))), ())
noncomputable def c30 : Con := ⟨i30, o30, F30⟩
noncomputable def C30 : Ctx := ⟨16, TT, EE, fun n => (bif Nat.ble n 33 then (bif Nat.beq n 33 then some c33 else none) else (bif Nat.beq n 93 then some c93 else none)), fun n k => [], fun n => none, fun n => none⟩
theorem q30 : ∀ x, runF C30 Tryz.f30 i30 o30 x = F30 x := by intro x; kernel_rfl
def i8 : List Grp := [⟨.agg, e40, []⟩]
def o8 : List Grp := [⟨.agg, e40, []⟩]
/-- laws.toTx -/
noncomputable def F8 : (D40 × Unit) → Option ((D40 × Unit)) := fun x0 => some (x0.1, ())
noncomputable def c8 : Con := ⟨i8, o8, F8⟩
noncomputable def C8 : Ctx := ⟨20, TT, EE, fun n => none, fun n k => [], fun n => none, fun n => none⟩
theorem q8 : ∀ x, runF C8 Tryz.f8 i8 o8 x = F8 x := by intro x; kernel_rfl
def i34 : List Grp := [⟨.c, (.cons (.sl e40) .nil), []⟩]
def o34 : List Grp := [⟨.c, (.cons (.sl e59) .nil), [(.own [])]⟩]
/-- laws.toTxS -/
noncomputable def F34.b0 (x0 : ((List D40 × Unit) × Unit)) : (v1 : (Int × (List (D59) × Unit))) → Option (Sum (Int × (List (D59) × Unit)) (Sum (Int × (List (D59) × Unit)) (((List D59 × Unit) × Unit)))) := fun v1 => bif iLt v1.1 (List.length x0.1.1 : Int) then (getI x0.1.1 v1.1).bind fun x2 => (F8 (x2, ())).bind fun y3 => (getI v1.2.1 v1.1).bind fun _ => (getN v1.2.1 (Int.toNat v1.1)).bind fun x4 => (some (List.set v1.2.1 (Int.toNat v1.1) (y3.1.1, (y3.1.2.1, (y3.1.2.2.1, (y3.1.2.2.2.1, (y3.1.2.2.2.2.1, ()))))))).bind fun z5 => some (.inl (iAdd .i64 v1.1 (1:Int), (z5, ()))) else some (.inr (.inl (v1.1, (v1.2.1, ()))))
noncomputable def F34 : ((List D40 × Unit) × Unit) → Option (((List D59 × Unit) × Unit)) := fun x0 => bif mkOk (List.length x0.1.1 : Int) (List.length x0.1.1 : Int) 56 then (loopF (F34.b0 x0) ((0:Int), (List.replicate (Int.toNat (List.length x0.1.1 : Int)) ((0:Int), (⟨#[]⟩, (⟨#[]⟩, ((0:Int), ((0:Int), ()))))), ()))).bind fun r7 => Sum.elim (fun v6 => some ((v6.2.1, ()), ())) some r7 else none
noncomputable def c34 : Con := ⟨i34, o34, F34⟩
noncomputable def C34 : Ctx := ⟨23, TT, EE, fun n => (bif Nat.beq n 8 then some c8 else none), fun n k => [], fun n => (bif Nat.beq n 0 then (some ⟨[(.t 4 (.int .i64) .sh), (.r 8192 e59 [])], [8, 9, 10, 11, 12, 13, 14, 15, 16, 17, 18, 19, 20, 21], []⟩) else none), fun n => none⟩
theorem q34 : ∀ x, runF C34 Tryz.f34 i34 o34 x = F34 x := by intro x; kernel_rfl
def i92 : List Grp := [⟨.agg, e113, []⟩]
def o92 : List Grp := [⟨.agg, e137, [.sh, .sh, .sh, .sh, .sh, .sh, (.own []), .sh, (.own []), (.own []), (.own []), .sh, (.own [])]⟩]
/-- laws.toBlock -/
noncomputable def F92 : (D113 × Unit) → Option ((D137 × Unit)) := fun x0 => (F29 ((x0.1.2.2.2.2.1, (x0.1.2.2.2.2.2.1, (x0.1.2.2.2.2.2.2.1, ()))), ())).bind fun y1 => (F30 ((x0.1.2.2.2.2.2.2.2.1, (x0.1.2.2.2.2.2.2.2.2.1, (x0.1.2.2.2.2.2.2.2.2.2.1, ()))), ())).bind fun y2 => (F34 ((x0.1.2.2.2.2.2.2.2.2.2.2.1, ()), ())).bind fun y3 => (F27 ((x0.1.2.2.2.2.2.2.2.2.2.2.2.2.1, ()), ())).bind fun y4 => some ((x0.1.1, (x0.1.2.1, (x0.1.2.2.1, (x0.1.2.2.2.1, (y1.1.1, (y1.1.2.1, (y1.1.2.2.1, (y2.1.1, (y2.1.2.1, (y2.1.2.2.1, (y3.1.1, (x0.1.2.2.2.2.2.2.2.2.2.2.2.1, (y4.1.1, (x0.1.2.2.2.2.2.2.2.2.2.2.2.2.2.1, ())))))))))))))), ())
noncomputable def c92 : Con := ⟨i92, o92, F92⟩
noncomputable def C92 : Ctx := ⟨39, TT, EE, fun n => (bif Nat.ble n 29 then (bif Nat.ble n 27 then (bif Nat.beq n 27 then some c27 else none) else (bif Nat.beq n 29 then some c29 else none)) else (bif Nat.ble n 30 then (bif Nat.beq n 30 then some c30 else none) else (bif Nat.beq n 34 then some c34 else none))), fun n k => [], fun n => none, fun n => none⟩
theorem q92 : ∀ x, runF C92 Tryz.f92 i92 o92 x = F92 x := by intro x; kernel_rfl
def i28 : List Grp := [⟨.c, (.cons (.sl e113) .nil), []⟩]
def o28 : List Grp := [⟨.c, (.cons (.sl e137) .nil), [(.own [.sh, .sh, .sh, .sh, .sh, .sh, (.own []), .sh, (.own []), (.own []), (.own []), .sh, (.own [])])]⟩]
/-- laws.toBlockS -/
noncomputable def F28.b0 (x0 : ((List D113 × Unit) × Unit)) : (v1 : (Int × (List (D137) × Unit))) → Option (Sum (Int × (List (D137) × Unit)) (Sum (Int × (List (D137) × Unit)) (((List D137 × Unit) × Unit)))) := fun v1 => bif iLt v1.1 (List.length x0.1.1 : Int) then (getI x0.1.1 v1.1).bind fun x2 => (F92 (x2, ())).bind fun y3 => (getI v1.2.1 v1.1).bind fun _ => (getN v1.2.1 (Int.toNat v1.1)).bind fun x4 => (some (List.set v1.2.1 (Int.toNat v1.1) (y3.1.1, (y3.1.2.1, (y3.1.2.2.1, (y3.1.2.2.2.1, (y3.1.2.2.2.2.1, (y3.1.2.2.2.2.2.1, (y3.1.2.2.2.2.2.2.1, (y3.1.2.2.2.2.2.2.2.1, (y3.1.2.2.2.2.2.2.2.2.1, (y3.1.2.2.2.2.2.2.2.2.2.1, (y3.1.2.2.2.2.2.2.2.2.2.2.1, (y3.1.2.2.2.2.2.2.2.2.2.2.2.1, (y3.1.2.2.2.2.2.2.2.2.2.2.2.2.1, (y3.1.2.2.2.2.2.2.2.2.2.2.2.2.2.1, ())))))))))))))))).bind fun z5 => some (.inl (iAdd .i64 v1.1 (1:Int), (z5, ()))) else some (.inr (.inl (v1.1, (v1.2.1, ()))))
noncomputable def F28 : ((List D113 × Unit) × Unit) → Option (((List D137 × Unit) × Unit)) := fun x0 => bif mkOk (List.length x0.1.1 : Int) (List.length x0.1.1 : Int) 208 then (loopF (F28.b0 x0) ((0:Int), (List.replicate (Int.toNat (List.length x0.1.1 : Int)) ((0:Int), ((0:Int), ((0:Int), (⟨#[]⟩, ((0:Int), ((0:Int), ([], ((0:Int), ([], ([], ([], (false, ([], (⟨#[]⟩, ())))))))))))))), ()))).bind fun r7 => Sum.elim (fun v6 => some ((v6.2.1, ()), ())) some r7 else none
noncomputable def c28 : Con := ⟨i28, o28, F28⟩
noncomputable def C28 : Ctx := ⟨23, TT, EE, fun n => (bif Nat.beq n 92 then some c92 else none), fun n k => (bif Nat.beq n 1 then (match k with | 2 => [.sh, .sh, .sh, .sh, .sh, .sh, (.own []), .sh, (.own []), (.own []), (.own []), .sh, (.own [])] | _ => []) else []), fun n => (bif Nat.beq n 0 then (some ⟨[(.t 4 (.int .i64) .sh), (.r 8192 e137 [.sh, .sh, .sh, .sh, .sh, .sh, (.own []), .sh, (.own []), (.own []), (.own []), .sh, (.own [])])], [8, 9, 10, 11, 12, 13, 14, 15, 16, 17, 18, 19, 20, 21], []⟩) else none), fun n => none⟩
theorem q28 : ∀ x, runF C28 Tryz.f28 i28 o28 x = F28 x := by intro x; kernel_rfl
def i94 : List Grp := [⟨.agg, e117, []⟩]
def o94 : List Grp := [⟨.agg, e117, []⟩]
/-- laws.toVote -/
noncomputable def F94 : (D117 × Unit) → Option ((D117 × Unit)) := fun x0 => some (x0.1, ())
noncomputable def c94 : Con := ⟨i94, o94, F94⟩
noncomputable def C94 : Ctx := ⟨14, TT, EE, fun n => none, fun n k => [], fun n => none, fun n => none⟩
theorem q94 : ∀ x, runF C94 Tryz.f94 i94 o94 x = F94 x := by intro x; kernel_rfl
def i31 : List Grp := [⟨.c, (.cons (.sl e117) .nil), []⟩]
def o31 : List Grp := [⟨.c, (.cons (.sl e147) .nil), [(.own [])]⟩]
/-- laws.toVoteS -/
noncomputable def F31.b0 (x0 : ((List D117 × Unit) × Unit)) : (v1 : (Int × (List (D147) × Unit))) → Option (Sum (Int × (List (D147) × Unit)) (Sum (Int × (List (D147) × Unit)) (((List D147 × Unit) × Unit)))) := fun v1 => bif iLt v1.1 (List.length x0.1.1 : Int) then (getI x0.1.1 v1.1).bind fun x2 => (F94 (x2, ())).bind fun y3 => (getI v1.2.1 v1.1).bind fun _ => (getN v1.2.1 (Int.toNat v1.1)).bind fun x4 => (some (List.set v1.2.1 (Int.toNat v1.1) (y3.1.1, (y3.1.2.1, (y3.1.2.2.1, ()))))).bind fun z5 => some (.inl (iAdd .i64 v1.1 (1:Int), (z5, ()))) else some (.inr (.inl (v1.1, (v1.2.1, ()))))
noncomputable def F31 : ((List D117 × Unit) × Unit) → Option (((List D147 × Unit) × Unit)) := fun x0 => bif mkOk (List.length x0.1.1 : Int) (List.length x0.1.1 : Int) 32 then (loopF (F31.b0 x0) ((0:Int), (List.replicate (Int.toNat (List.length x0.1.1 : Int)) ((0:Int), ((0:Int), (⟨#[]⟩, ()))), ()))).bind fun r7 => Sum.elim (fun v6 => some ((v6.2.1, ()), ())) some r7 else none
noncomputable def c31 : Con := ⟨i31, o31, F31⟩
noncomputable def C31 : Ctx := ⟨23, TT, EE, fun n => (bif Nat.beq n 94 then some c94 else none), fun n k => [], fun n => (bif Nat.beq n 0 then (some ⟨[(.t 4 (.int .i64) .sh), (.r 8192 e147 [])], [8, 9, 10, 11, 12, 13, 14, 15, 16, 17, 18, 19, 20, 21], []⟩) else none), fun n => none⟩
theorem q31 : ∀ x, runF C31 Tryz.f31 i31 o31 x = F31 x := by intro x; kernel_rfl
def i95 : List Grp := [⟨.agg, e117, []⟩]
def o95 : List Grp := [⟨.agg, e117, []⟩]
/-- laws.toGone -/
noncomputable def F95 : (D117 × Unit) → Option ((D117 × Unit)) := fun x0 => some (x0.1, ())
noncomputable def c95 : Con := ⟨i95, o95, F95⟩
noncomputable def C95 : Ctx := ⟨14, TT, EE, fun n => none, fun n k => [], fun n => none, fun n => none⟩
theorem q95 : ∀ x, runF C95 Tryz.f95 i95 o95 x = F95 x := by intro x; kernel_rfl
def i32 : List Grp := [⟨.c, (.cons (.sl e120) .nil), []⟩]
def o32 : List Grp := [⟨.c, (.cons (.sl e149) .nil), [(.own [])]⟩]
/-- laws.toGoneS -/
noncomputable def F32.b0 (x0 : ((List D120 × Unit) × Unit)) : (v1 : (Int × (List (D149) × Unit))) → Option (Sum (Int × (List (D149) × Unit)) (Sum (Int × (List (D149) × Unit)) (((List D149 × Unit) × Unit)))) := fun v1 => bif iLt v1.1 (List.length x0.1.1 : Int) then (getI x0.1.1 v1.1).bind fun x2 => (F95 (x2, ())).bind fun y3 => (getI v1.2.1 v1.1).bind fun _ => (getN v1.2.1 (Int.toNat v1.1)).bind fun x4 => (some (List.set v1.2.1 (Int.toNat v1.1) (y3.1.1, (y3.1.2.1, (y3.1.2.2.1, ()))))).bind fun z5 => some (.inl (iAdd .i64 v1.1 (1:Int), (z5, ()))) else some (.inr (.inl (v1.1, (v1.2.1, ()))))
noncomputable def F32 : ((List D120 × Unit) × Unit) → Option (((List D149 × Unit) × Unit)) := fun x0 => bif mkOk (List.length x0.1.1 : Int) (List.length x0.1.1 : Int) 32 then (loopF (F32.b0 x0) ((0:Int), (List.replicate (Int.toNat (List.length x0.1.1 : Int)) ((0:Int), ((0:Int), (⟨#[]⟩, ()))), ()))).bind fun r7 => Sum.elim (fun v6 => some ((v6.2.1, ()), ())) some r7 else none
noncomputable def c32 : Con := ⟨i32, o32, F32⟩
noncomputable def C32 : Ctx := ⟨23, TT, EE, fun n => (bif Nat.beq n 95 then some c95 else none), fun n k => [], fun n => (bif Nat.beq n 0 then (some ⟨[(.t 4 (.int .i64) .sh), (.r 8192 e149 [])], [8, 9, 10, 11, 12, 13, 14, 15, 16, 17, 18, 19, 20, 21], []⟩) else none), fun n => none⟩
theorem q32 : ∀ x, runF C32 Tryz.f32 i32 o32 x = F32 x := by intro x; kernel_rfl
def i96 : List Grp := [⟨.agg, e123, []⟩]
def o96 : List Grp := [⟨.agg, e129, [.sh, (.own [.sh, .sh, .sh, .sh, .sh, .sh, (.own []), .sh, (.own []), (.own []), (.own []), .sh, (.own [])]), .sh, .sh, (.own [])]⟩]
/-- laws.toProof -/
noncomputable def F96 : (D123 × Unit) → Option ((D129 × Unit)) := fun x0 => (F28 ((x0.1.2.1, ()), ())).bind fun y1 => (F29 ((x0.1.2.2.1, (x0.1.2.2.2.1, (x0.1.2.2.2.2.1, ()))), ())).bind fun y2 => some ((x0.1.1, (y1.1.1, (y2.1.1, (y2.1.2.1, (y2.1.2.2.1, ()))))), ())
noncomputable def c96 : Con := ⟨i96, o96, F96⟩
noncomputable def C96 : Ctx := ⟨16, TT, EE, fun n => (bif Nat.ble n 28 then (bif Nat.beq n 28 then some c28 else none) else (bif Nat.beq n 29 then some c29 else none)), fun n k => [], fun n => none, fun n => none⟩
theorem q96 : ∀ x, runF C96 Tryz.f96 i96 o96 x = F96 x := by intro x; kernel_rfl
def i35 : List Grp := [⟨.c, (.cons (.sl e123) .nil), []⟩]
def o35 : List Grp := [⟨.c, (.cons (.sl e129) .nil), [(.own [.sh, (.own [.sh, .sh, .sh, .sh, .sh, .sh, (.own []), .sh, (.own []), (.own []), (.own []), .sh, (.own [])]), .sh, .sh, (.own [])])]⟩]
/-- laws.toProofS -/
noncomputable def F35.b0 (x0 : ((List D123 × Unit) × Unit)) : (v1 : (Int × (List (D129) × Unit))) → Option (Sum (Int × (List (D129) × Unit)) (Sum (Int × (List (D129) × Unit)) (((List D129 × Unit) × Unit)))) := fun v1 => bif iLt v1.1 (List.length x0.1.1 : Int) then (getI x0.1.1 v1.1).bind fun x2 => (F96 (x2, ())).bind fun y3 => (getI v1.2.1 v1.1).bind fun _ => (getN v1.2.1 (Int.toNat v1.1)).bind fun x4 => (some (List.set v1.2.1 (Int.toNat v1.1) (y3.1.1, (y3.1.2.1, (y3.1.2.2.1, (y3.1.2.2.2.1, (y3.1.2.2.2.2.1, ()))))))).bind fun z5 => some (.inl (iAdd .i64 v1.1 (1:Int), (z5, ()))) else some (.inr (.inl (v1.1, (v1.2.1, ()))))
noncomputable def F35 : ((List D123 × Unit) × Unit) → Option (((List D129 × Unit) × Unit)) := fun x0 => bif mkOk (List.length x0.1.1 : Int) (List.length x0.1.1 : Int) 72 then (loopF (F35.b0 x0) ((0:Int), (List.replicate (Int.toNat (List.length x0.1.1 : Int)) ((0:Int), ([], ((0:Int), ((0:Int), ([], ()))))), ()))).bind fun r7 => Sum.elim (fun v6 => some ((v6.2.1, ()), ())) some r7 else none
noncomputable def c35 : Con := ⟨i35, o35, F35⟩
noncomputable def C35 : Ctx := ⟨23, TT, EE, fun n => (bif Nat.beq n 96 then some c96 else none), fun n k => (bif Nat.beq n 1 then (match k with | 2 => [.sh, (.own [.sh, .sh, .sh, .sh, .sh, .sh, (.own []), .sh, (.own []), (.own []), (.own []), .sh, (.own [])]), .sh, .sh, (.own [])] | _ => []) else []), fun n => (bif Nat.beq n 0 then (some ⟨[(.t 4 (.int .i64) .sh), (.r 8192 e129 [.sh, (.own [.sh, .sh, .sh, .sh, .sh, .sh, (.own []), .sh, (.own []), (.own []), (.own []), .sh, (.own [])]), .sh, .sh, (.own [])])], [8, 9, 10, 11, 12, 13, 14, 15, 16, 17, 18, 19, 20, 21], []⟩) else none), fun n => none⟩
theorem q35 : ∀ x, runF C35 Tryz.f35 i35 o35 x = F35 x := by intro x; kernel_rfl
def i7 : List Grp := [⟨.agg, e38, []⟩]
def o7 : List Grp := [⟨.agg, e55, [.sh, .sh, .sh, (.own [.sh, .sh, .sh, .sh, (.own [])]), (.own []), (.own [.sh, .sh, .sh, .sh, .sh, .sh, (.own []), .sh, (.own []), (.own []), (.own []), .sh, (.own [])]), .sh, .sh, .sh, .sh, (.own []), .sh, (.own []), (.own []), .sh, (.own []), (.own []), (.own []), (.own []), (.own [.sh, (.own [.sh, .sh, .sh, .sh, .sh, .sh, (.own []), .sh, (.own []), (.own []), (.own []), .sh, (.own [])]), .sh, .sh, (.own [])])]⟩]
/-- laws.toNode -/
noncomputable def F7 : (D38 × Unit) → Option ((D55 × Unit)) := fun x0 => (F26 ((x0.1.2.2.1, (x0.1.2.2.2.1, ())), ())).bind fun y1 => (F27 ((x0.1.2.2.2.2.1, ()), ())).bind fun y2 => (F28 ((x0.1.2.2.2.2.2.1, ()), ())).bind fun y3 => (F29 ((x0.1.2.2.2.2.2.2.2.2.1, (x0.1.2.2.2.2.2.2.2.2.2.1, (x0.1.2.2.2.2.2.2.2.2.2.2.1, ()))), ())).bind fun y4 => (F30 ((x0.1.2.2.2.2.2.2.2.2.2.2.2.1, (x0.1.2.2.2.2.2.2.2.2.2.2.2.2.1, (x0.1.2.2.2.2.2.2.2.2.2.2.2.2.2.1, ()))), ())).bind fun y5 => (F31 ((x0.1.2.2.2.2.2.2.2.2.2.2.2.2.2.2.2.1, ()), ())).bind fun y6 => (F32 ((x0.1.2.2.2.2.2.2.2.2.2.2.2.2.2.2.2.2.1, ()), ())).bind fun y7 => (F33 ((x0.1.2.2.2.2.2.2.2.2.2.2.2.2.2.2.2.2.2.1, ()), ())).bind fun y8 => (F34 ((x0.1.2.2.2.2.2.2.2.2.2.2.2.2.2.2.2.2.2.2.1, ()), ())).bind fun y9 => (F35 ((x0.1.2.2.2.2.2.2.2.2.2.2.2.2.2.2.2.2.2.2.2.1, ()), ())).bind fun y10 => some ((x0.1.1, (x0.1.2.1, (y1.1.1, (y1.1.2.1, (y2.1.1, (y3.1.1, (x0.1.2.2.2.2.2.2.1, (x0.1.2.2.2.2.2.2.2.1, (y4.1.1, (y4.1.2.1, (y4.1.2.2.1, (y5.1.1, (y5.1.2.1, (y5.1.2.2.1, (x0.1.2.2.2.2.2.2.2.2.2.2.2.2.2.2.1, (y6.1.1, (y7.1.1, (y8.1.1, (y9.1.1, (y10.1.1, ())))))))))))))))))))), ())
noncomputable def c7 : Con := ⟨i7, o7, F7⟩
noncomputable def C7 : Ctx := ⟨60, TT, EE, fun n => (bif Nat.ble n 30 then (bif Nat.ble n 27 then (bif Nat.ble n 26 then (bif Nat.beq n 26 then some c26 else none) else (bif Nat.beq n 27 then some c27 else none)) else (bif Nat.ble n 28 then (bif Nat.beq n 28 then some c28 else none) else (bif Nat.ble n 29 then (bif Nat.beq n 29 then some c29 else none) else (bif Nat.beq n 30 then some c30 else none)))) else (bif Nat.ble n 32 then (bif Nat.ble n 31 then (bif Nat.beq n 31 then some c31 else none) else (bif Nat.beq n 32 then some c32 else none)) else (bif Nat.ble n 33 then (bif Nat.beq n 33 then some c33 else none) else (bif Nat.ble n 34 then (bif Nat.beq n 34 then some c34 else none) else (bif Nat.beq n 35 then some c35 else none))))), fun n k => [], fun n => none, fun n => none⟩
theorem q7 : ∀ x, runF C7 Tryz.f7 i7 o7 x = F7 x := by intro x; kernel_rfl
def i133 : List Grp := [⟨.c, (.cons (.sl e183) .nil), []⟩]
def o133 : List Grp := [⟨.c, (.cons (.sl e183) .nil), [(.own [])]⟩]
/-- spec.l4Copy -/
noncomputable def F133.b0 (x0 : ((List D183 × Unit) × Unit)) : (v1 : (List (D183) × (Int × Unit))) → Option (Sum (List (D183) × (Int × Unit)) (Sum (List (D183) × (Int × Unit)) (((List D183 × Unit) × Unit)))) := fun v1 => bif iLt v1.2.1 (List.length x0.1.1 : Int) then (getI x0.1.1 v1.2.1).bind fun x2 => bif room (List.length ([] : List (D205)) + List.length x2.2.2.2.2.1) 16 then bif room (List.length v1.1 + List.length ([(x2.1, (x2.2.1, (x2.2.2.1, (x2.2.2.2.1, (lapp ([] : List (D205)) x2.2.2.2.2.1, ())))))] : List (D183))) 64 then some (.inl (lapp v1.1 ([(x2.1, (x2.2.1, (x2.2.2.1, (x2.2.2.2.1, (lapp ([] : List (D205)) x2.2.2.2.2.1, ())))))] : List (D183)), (iAdd .i64 v1.2.1 (1:Int), ()))) else none else none else some (.inr (.inl (v1.1, (v1.2.1, ()))))
noncomputable def F133 : ((List D183 × Unit) × Unit) → Option (((List D183 × Unit) × Unit)) := fun x0 => (loopF (F133.b0 x0) (([] : List (D183)), ((0:Int), ()))).bind fun r4 => Sum.elim (fun v3 => some ((v3.1, ()), ())) some r4
noncomputable def c133 : Con := ⟨i133, o133, F133⟩
noncomputable def C133 : Ctx := ⟨27, TT, EE, fun n => none, fun n k => [], fun n => (bif Nat.beq n 0 then (some ⟨[(.t 3 (.sl e183) (.own [])), (.t 4 (.int .i64) .sh)], [5, 7, 8, 9, 10, 11, 12, 13, 14, 15, 16, 17, 18, 19, 20, 21, 22, 23, 24, 25], []⟩) else none), fun n => none⟩
theorem q133 : ∀ x, runF C133 Tryz.f133 i133 o133 x = F133 x := by intro x; kernel_rfl
def i76 : List Grp := [⟨.agg, e45, []⟩]
def o76 : List Grp := [⟨.agg, e45, [.sh, (.own [])]⟩]
/-- spec.l6Copy -/
noncomputable def F76 : (D45 × Unit) → Option ((D45 × Unit)) := fun x0 => (F133 ((x0.1.2.1, ()), ())).bind fun y1 => some ((x0.1.1, (y1.1.1, ())), ())
noncomputable def c76 : Con := ⟨i76, o76, F76⟩
noncomputable def C76 : Ctx := ⟨9, TT, EE, fun n => (bif Nat.beq n 133 then some c133 else none), fun n k => [], fun n => none, fun n => none⟩
theorem q76 : ∀ x, runF C76 Tryz.f76 i76 o76 x = F76 x := by intro x; kernel_rfl
def i78 : List Grp := [⟨.agg, e29, []⟩]
def o78 : List Grp := [⟨.agg, e29, [.sh, .sh, (.own [])]⟩]
/-- spec.l8CopyQc -/
noncomputable def F78 : (D29 × Unit) → Option ((D29 × Unit)) := fun x0 => bif room (List.length ([] : List (D9)) + List.length x0.1.2.2.1) 16 then some ((x0.1.1, (x0.1.2.1, (lapp ([] : List (D9)) x0.1.2.2.1, ()))), ()) else none
noncomputable def c78 : Con := ⟨i78, o78, F78⟩
noncomputable def C78 : Ctx := ⟨9, TT, EE, fun n => none, fun n k => [], fun n => none, fun n => none⟩
theorem q78 : ∀ x, runF C78 Tryz.f78 i78 o78 x = F78 x := by intro x; kernel_rfl
def i79 : List Grp := [⟨.agg, e32, []⟩]
def o79 : List Grp := [⟨.agg, e32, [.sh, (.own []), (.own [])]⟩]
/-- spec.l8CopyTc -/
noncomputable def F79 : (D32 × Unit) → Option ((D32 × Unit)) := fun x0 => bif room (List.length ([] : List (D9)) + List.length x0.1.2.1) 16 then bif room (List.length ([] : List (D3)) + List.length x0.1.2.2.1) 8 then some ((x0.1.1, (lapp ([] : List (D9)) x0.1.2.1, (lapp ([] : List (D3)) x0.1.2.2.1, ()))), ()) else none else none
noncomputable def c79 : Con := ⟨i79, o79, F79⟩
noncomputable def C79 : Ctx := ⟨14, TT, EE, fun n => none, fun n k => [], fun n => none, fun n => none⟩
theorem q79 : ∀ x, runF C79 Tryz.f79 i79 o79 x = F79 x := by intro x; kernel_rfl
def i134 : List Grp := [⟨.agg, e137, []⟩]
def o134 : List Grp := [⟨.agg, e137, [.sh, .sh, .sh, .sh, .sh, .sh, (.own []), .sh, (.own []), (.own []), (.own []), .sh, (.own [])]⟩]
/-- spec.l9Copy -/
noncomputable def F134 : (D137 × Unit) → Option ((D137 × Unit)) := fun x0 => (F78 ((x0.1.2.2.2.2.1, (x0.1.2.2.2.2.2.1, (x0.1.2.2.2.2.2.2.1, ()))), ())).bind fun y1 => (F79 ((x0.1.2.2.2.2.2.2.2.1, (x0.1.2.2.2.2.2.2.2.2.1, (x0.1.2.2.2.2.2.2.2.2.2.1, ()))), ())).bind fun y2 => bif room (List.length ([] : List (D59)) + List.length x0.1.2.2.2.2.2.2.2.2.2.2.1) 56 then bif room (List.length ([] : List (D143)) + List.length x0.1.2.2.2.2.2.2.2.2.2.2.2.2.1) 24 then some ((x0.1.1, (x0.1.2.1, (x0.1.2.2.1, (x0.1.2.2.2.1, (y1.1.1, (y1.1.2.1, (y1.1.2.2.1, (y2.1.1, (y2.1.2.1, (y2.1.2.2.1, (lapp ([] : List (D59)) x0.1.2.2.2.2.2.2.2.2.2.2.1, (x0.1.2.2.2.2.2.2.2.2.2.2.2.1, (lapp ([] : List (D143)) x0.1.2.2.2.2.2.2.2.2.2.2.2.2.1, (x0.1.2.2.2.2.2.2.2.2.2.2.2.2.2.1, ())))))))))))))), ()) else none else none
noncomputable def c134 : Con := ⟨i134, o134, F134⟩
noncomputable def C134 : Ctx := ⟨22, TT, EE, fun n => (bif Nat.ble n 78 then (bif Nat.beq n 78 then some c78 else none) else (bif Nat.beq n 79 then some c79 else none)), fun n k => [], fun n => none, fun n => none⟩
theorem q134 : ∀ x, runF C134 Tryz.f134 i134 o134 x = F134 x := by intro x; kernel_rfl
def i77 : List Grp := [⟨.c, (.cons (.sl e137) .nil), []⟩]
def o77 : List Grp := [⟨.c, (.cons (.sl e137) .nil), [(.own [])]⟩]
/-- spec.l10Copy -/
noncomputable def F77.b0 (x0 : ((List D137 × Unit) × Unit)) : (v1 : (List (D137) × (Int × Unit))) → Option (Sum (List (D137) × (Int × Unit)) (Sum (List (D137) × (Int × Unit)) (((List D137 × Unit) × Unit)))) := fun v1 => bif iLt v1.2.1 (List.length x0.1.1 : Int) then (getI x0.1.1 v1.2.1).bind fun x2 => (F134 (x2, ())).bind fun y3 => bif room (List.length v1.1 + List.length ([y3.1] : List (D137))) 208 then some (.inl (lapp v1.1 ([y3.1] : List (D137)), (iAdd .i64 v1.2.1 (1:Int), ()))) else none else some (.inr (.inl (v1.1, (v1.2.1, ()))))
noncomputable def F77 : ((List D137 × Unit) × Unit) → Option (((List D137 × Unit) × Unit)) := fun x0 => (loopF (F77.b0 x0) (([] : List (D137)), ((0:Int), ()))).bind fun r5 => Sum.elim (fun v4 => some ((v4.1, ()), ())) some r5
noncomputable def c77 : Con := ⟨i77, o77, F77⟩
noncomputable def C77 : Ctx := ⟨21, TT, EE, fun n => (bif Nat.beq n 134 then some c134 else none), fun n k => [], fun n => (bif Nat.beq n 0 then (some ⟨[(.t 3 (.sl e137) (.own [])), (.t 4 (.int .i64) .sh)], [6, 7, 8, 9, 10, 11, 12, 13, 14, 15, 16, 17, 18, 19], []⟩) else none), fun n => none⟩
theorem q77 : ∀ x, runF C77 Tryz.f77 i77 o77 x = F77 x := by intro x; kernel_rfl
def i80 : List Grp := [⟨.agg, e129, []⟩]
def o80 : List Grp := [⟨.agg, e129, [.sh, (.own []), .sh, .sh, (.own [])]⟩]
/-- spec.l14CopyProof -/
noncomputable def F80 : (D129 × Unit) → Option ((D129 × Unit)) := fun x0 => (F77 ((x0.1.2.1, ()), ())).bind fun y1 => (F78 ((x0.1.2.2.1, (x0.1.2.2.2.1, (x0.1.2.2.2.2.1, ()))), ())).bind fun y2 => some ((x0.1.1, (y1.1.1, (y2.1.1, (y2.1.2.1, (y2.1.2.2.1, ()))))), ())
noncomputable def c80 : Con := ⟨i80, o80, F80⟩
noncomputable def C80 : Ctx := ⟨12, TT, EE, fun n => (bif Nat.ble n 77 then (bif Nat.beq n 77 then some c77 else none) else (bif Nat.beq n 78 then some c78 else none)), fun n k => [], fun n => none, fun n => none⟩
theorem q80 : ∀ x, runF C80 Tryz.f80 i80 o80 x = F80 x := by intro x; kernel_rfl
def i23 : List Grp := [⟨.agg, e55, []⟩]
def o23 : List Grp := [⟨.agg, e55, [.sh, .sh, .sh, (.own []), (.own []), (.own []), .sh, .sh, .sh, .sh, (.own []), .sh, (.own []), (.own []), .sh, (.own []), (.own []), (.own []), (.own []), (.own [])]⟩]
/-- spec.l14Copy -/
noncomputable def F23.b0 (x0 : (D55 × Unit)) : (v5 : (Int × (List (D129) × Unit))) → Option (Sum (Int × (List (D129) × Unit)) (Sum (Int × (List (D129) × Unit)) ((D55 × Unit)))) := fun v5 => bif iLt v5.1 (List.length x0.1.2.2.2.2.2.2.2.2.2.2.2.2.2.2.2.2.2.2.2.1 : Int) then (getI x0.1.2.2.2.2.2.2.2.2.2.2.2.2.2.2.2.2.2.2.2.1 v5.1).bind fun x6 => (F80 (x6, ())).bind fun y7 => bif room (List.length v5.2.1 + List.length ([y7.1] : List (D129))) 72 then some (.inl (iAdd .i64 v5.1 (1:Int), (lapp v5.2.1 ([y7.1] : List (D129)), ()))) else none else some (.inr (.inl (v5.1, (v5.2.1, ()))))
noncomputable def F23 : (D55 × Unit) → Option ((D55 × Unit)) := fun x0 => (F76 ((x0.1.2.2.1, (x0.1.2.2.2.1, ())), ())).bind fun y1 => bif room (List.length ([] : List (D143)) + List.length x0.1.2.2.2.2.1) 24 then (F77 ((x0.1.2.2.2.2.2.1, ()), ())).bind fun y2 => (F78 ((x0.1.2.2.2.2.2.2.2.2.1, (x0.1.2.2.2.2.2.2.2.2.2.1, (x0.1.2.2.2.2.2.2.2.2.2.2.1, ()))), ())).bind fun y3 => (F79 ((x0.1.2.2.2.2.2.2.2.2.2.2.2.1, (x0.1.2.2.2.2.2.2.2.2.2.2.2.2.1, (x0.1.2.2.2.2.2.2.2.2.2.2.2.2.2.1, ()))), ())).bind fun y4 => bif room (List.length ([] : List (D147)) + List.length x0.1.2.2.2.2.2.2.2.2.2.2.2.2.2.2.2.1) 32 then bif room (List.length ([] : List (D149)) + List.length x0.1.2.2.2.2.2.2.2.2.2.2.2.2.2.2.2.2.1) 32 then bif room (List.length ([] : List (D3)) + List.length x0.1.2.2.2.2.2.2.2.2.2.2.2.2.2.2.2.2.2.1) 8 then bif room (List.length ([] : List (D59)) + List.length x0.1.2.2.2.2.2.2.2.2.2.2.2.2.2.2.2.2.2.2.1) 56 then (loopF (F23.b0 x0) ((0:Int), (([] : List (D129)), ()))).bind fun r9 => Sum.elim (fun v8 => some ((x0.1.1, (x0.1.2.1, (y1.1.1, (y1.1.2.1, (lapp ([] : List (D143)) x0.1.2.2.2.2.1, (y2.1.1, (x0.1.2.2.2.2.2.2.1, (x0.1.2.2.2.2.2.2.2.1, (y3.1.1, (y3.1.2.1, (y3.1.2.2.1, (y4.1.1, (y4.1.2.1, (y4.1.2.2.1, (x0.1.2.2.2.2.2.2.2.2.2.2.2.2.2.2.1, (lapp ([] : List (D147)) x0.1.2.2.2.2.2.2.2.2.2.2.2.2.2.2.2.1, (lapp ([] : List (D149)) x0.1.2.2.2.2.2.2.2.2.2.2.2.2.2.2.2.2.1, (lapp ([] : List (D3)) x0.1.2.2.2.2.2.2.2.2.2.2.2.2.2.2.2.2.2.1, (lapp ([] : List (D59)) x0.1.2.2.2.2.2.2.2.2.2.2.2.2.2.2.2.2.2.2.1, (v8.2.1, ())))))))))))))))))))), ())) some r9 else none else none else none else none else none
noncomputable def c23 : Con := ⟨i23, o23, F23⟩
noncomputable def C23 : Ctx := ⟨68, TT, EE, fun n => (bif Nat.ble n 77 then (bif Nat.ble n 76 then (bif Nat.beq n 76 then some c76 else none) else (bif Nat.beq n 77 then some c77 else none)) else (bif Nat.ble n 78 then (bif Nat.beq n 78 then some c78 else none) else (bif Nat.ble n 79 then (bif Nat.beq n 79 then some c79 else none) else (bif Nat.beq n 80 then some c80 else none)))), fun n k => [], fun n => (bif Nat.beq n 0 then (some ⟨[(.t 4 (.int .i64) .sh), (.b 8192 19 (.sl e129) (.own []))], [49, 50, 51, 52, 53, 54, 55, 56, 57, 58, 59, 60, 61, 62, 63, 64, 65, 66], [114688]⟩) else none), fun n => none⟩
theorem q23 : ∀ x, runF C23 Tryz.f23 i23 o23 x = F23 x := by intro x; kernel_rfl
def i86 : List Grp := [⟨.c, (.cons (.int .i64) .nil), []⟩, ⟨.c, (.cons (.int .i64) .nil), []⟩, ⟨.c, (.cons (.int .i64) .nil), []⟩]
def o86 : List Grp := [⟨.c, (.cons .bool .nil), []⟩]
/-- spec.l1In -/
noncomputable def F86 : ((Int × Unit) × ((Int × Unit) × ((Int × Unit) × Unit))) → Option (((Bool × Unit) × Unit)) := fun x0 => bif iLe x0.2.1.1 x0.1.1 then some ((iLe x0.1.1 x0.2.2.1.1, ()), ()) else some ((false, ()), ())
noncomputable def c86 : Con := ⟨i86, o86, F86⟩
noncomputable def C86 : Ctx := ⟨15, TT, EE, fun n => none, fun n k => [], fun n => none, fun n => none⟩
theorem q86 : ∀ x, runF C86 Tryz.f86 i86 o86 x = F86 x := by intro x; kernel_rfl
def i81 : List Grp := [⟨.c, (.cons .str .nil), []⟩]
def o81 : List Grp := [⟨.c, (.cons .bool .nil), []⟩]
/-- spec.NameOk -/
noncomputable def F81.b0 (x0 : ((ByteArray × Unit) × Unit)) : (v1 : (Int × Unit)) → Option (Sum (Int × Unit) (Sum (Int × Unit) (((Bool × Unit) × Unit)))) := fun v1 => bif iLt v1.1 (ByteArray.size x0.1.1 : Int) then (getI (ByteArray.data x0.1.1).toList v1.1).bind fun b2 => (F86 ((IntKind.wrap .i64 (UInt8.toNat b2 : Int), ()), (((97:Int), ()), (((122:Int), ()), ())))).bind fun y3 => bif (!y3.1.1) then (getI (ByteArray.data x0.1.1).toList v1.1).bind fun b4 => (F86 ((IntKind.wrap .i64 (UInt8.toNat b4 : Int), ()), (((48:Int), ()), (((57:Int), ()), ())))).bind fun y5 => bif (!y5.1.1) then some (.inr (.inr ((false, ()), ()))) else some (.inl (iAdd .i64 v1.1 (1:Int), ())) else some (.inl (iAdd .i64 v1.1 (1:Int), ())) else some (.inr (.inl (v1.1, ())))
noncomputable def F81 : ((ByteArray × Unit) × Unit) → Option (((Bool × Unit) × Unit)) := fun x0 => (loopF (F81.b0 x0) ((0:Int), ())).bind fun r7 => Sum.elim (fun v6 => (F86 (((ByteArray.size x0.1.1 : Int), ()), (((1:Int), ()), (((8:Int), ()), ())))).bind fun y8 => some (y8.1, ())) some r7
noncomputable def c81 : Con := ⟨i81, o81, F81⟩
noncomputable def C81 : Ctx := ⟨27, TT, EE, fun n => (bif Nat.beq n 86 then some c86 else none), fun n k => [], fun n => (bif Nat.beq n 0 then (some ⟨[(.t 3 (.int .i64) .sh)], [2, 4, 5, 6, 7, 8, 9, 10, 11, 12, 13, 14, 15, 16, 17, 18, 19, 20, 21, 22, 23], []⟩) else none), fun n => none⟩
theorem q81 : ∀ x, runF C81 Tryz.f81 i81 o81 x = F81 x := by intro x; kernel_rfl
def i166 : List Grp := [⟨.agg, e183, []⟩]
def o166 : List Grp := [⟨.c, (.cons .bool .nil), []⟩]
/-- spec.AcctOk -/
noncomputable def F166.b0 (x0 : (D183 × Unit)) : (v5 : (Int × Unit)) → Option (Sum (Int × Unit) (Sum (Int × Unit) (((Bool × Unit) × Unit)))) := fun v5 => bif iLt v5.1 (List.length x0.1.2.2.2.2.1 : Int) then (getI x0.1.2.2.2.2.1 v5.1).bind fun x6 => (F86 ((x6.1, ()), (((1:Int), ()), (((1000000:Int), ()), ())))).bind fun y7 => bif (!y7.1.1) then some (.inr (.inr ((false, ()), ()))) else (F86 ((x6.2.1, ()), (((0:Int), ()), (((1000:Int), ()), ())))).bind fun y8 => bif (!y8.1.1) then some (.inr (.inr ((false, ()), ()))) else bif iLt (0:Int) v5.1 then (getI x0.1.2.2.2.2.1 (iSub .i64 v5.1 (1:Int))).bind fun x9 => bif iLe x6.2.1 x9.2.1 then some (.inr (.inr ((false, ()), ()))) else some (.inl (iAdd .i64 v5.1 (1:Int), ())) else some (.inl (iAdd .i64 v5.1 (1:Int), ())) else some (.inr (.inl (v5.1, ())))
noncomputable def F166 : (D183 × Unit) → Option (((Bool × Unit) × Unit)) := fun x0 => (F81 ((x0.1.1, ()), ())).bind fun y1 => bif (!y1.1.1) then some ((false, ()), ()) else (F86 ((x0.1.2.1, ()), (((0:Int), ()), (((1000000:Int), ()), ())))).bind fun y2 => bif (!y2.1.1) then some ((false, ()), ()) else (F86 ((x0.1.2.2.1, ()), (((0:Int), ()), (((10000:Int), ()), ())))).bind fun y3 => bif (!y3.1.1) then some ((false, ()), ()) else (F86 ((x0.1.2.2.2.1, ()), (((0:Int), ()), (((1000000:Int), ()), ())))).bind fun y4 => bif (!y4.1.1) then some ((false, ()), ()) else bif iLt (4:Int) (List.length x0.1.2.2.2.2.1 : Int) then some ((false, ()), ()) else (loopF (F166.b0 x0) ((0:Int), ())).bind fun r11 => Sum.elim (fun v10 => some ((true, ()), ())) some r11
noncomputable def c166 : Con := ⟨i166, o166, F166⟩
noncomputable def C166 : Ctx := ⟨71, TT, EE, fun n => (bif Nat.ble n 81 then (bif Nat.beq n 81 then some c81 else none) else (bif Nat.beq n 86 then some c86 else none)), fun n k => [], fun n => (bif Nat.beq n 0 then (some ⟨[(.t 3 (.int .i64) .sh)], [2, 4, 33, 34, 35, 36, 37, 38, 39, 40, 41, 42, 43, 44, 45, 46, 47, 48, 49, 50, 51, 52, 53, 54, 55, 56, 57, 58, 59, 60, 61, 62, 63, 64, 65, 66, 67, 68, 69, 70], []⟩) else none), fun n => none⟩
theorem q166 : ∀ x, runF C166 Tryz.f166 i166 o166 x = F166 x := by intro x; kernel_rfl
def i189 : List Grp := [⟨.agg, e183, []⟩]
def o189 : List Grp := [⟨.c, (.cons (.int .i64) .nil), []⟩]
/-- spec.l4Of -/
noncomputable def F189.b0 (x0 : (D183 × Unit)) : (v1 : (Int × (Int × Unit))) → Option (Sum (Int × (Int × Unit)) (Sum (Int × (Int × Unit)) (((Int × Unit) × Unit)))) := fun v1 => bif iLt v1.2.1 (List.length x0.1.2.2.2.2.1 : Int) then (getI x0.1.2.2.2.2.1 v1.2.1).bind fun x2 => some (.inl (iAdd .i64 v1.1 x2.1, (iAdd .i64 v1.2.1 (1:Int), ()))) else some (.inr (.inl (v1.1, (v1.2.1, ()))))
noncomputable def F189 : (D183 × Unit) → Option (((Int × Unit) × Unit)) := fun x0 => (loopF (F189.b0 x0) (iAdd .i64 x0.1.2.1 x0.1.2.2.2.1, ((0:Int), ()))).bind fun r4 => Sum.elim (fun v3 => some ((v3.1, ()), ())) some r4
noncomputable def c189 : Con := ⟨i189, o189, F189⟩
noncomputable def C189 : Ctx := ⟨26, TT, EE, fun n => none, fun n k => [], fun n => (bif Nat.beq n 0 then (some ⟨[(.t 3 (.int .i64) .sh), (.t 4 (.int .i64) .sh)], [10, 11, 12, 13, 14, 15, 16, 17, 18, 19, 20, 21, 22, 23, 24], []⟩) else none), fun n => none⟩
theorem q189 : ∀ x, runF C189 Tryz.f189 i189 o189 x = F189 x := by intro x; kernel_rfl
def i167 : List Grp := [⟨.c, (.cons (.sl e183) .nil), []⟩]
def o167 : List Grp := [⟨.c, (.cons (.int .i64) .nil), []⟩]
/-- spec.Wealth -/
noncomputable def F167.b0 (x0 : ((List D183 × Unit) × Unit)) : (v1 : (Int × (Int × Unit))) → Option (Sum (Int × (Int × Unit)) (Sum (Int × (Int × Unit)) (((Int × Unit) × Unit)))) := fun v1 => bif iLt v1.2.1 (List.length x0.1.1 : Int) then (getI x0.1.1 v1.2.1).bind fun x2 => (F189 (x2, ())).bind fun y3 => some (.inl (iAdd .i64 v1.1 y3.1.1, (iAdd .i64 v1.2.1 (1:Int), ()))) else some (.inr (.inl (v1.1, (v1.2.1, ()))))
noncomputable def F167 : ((List D183 × Unit) × Unit) → Option (((Int × Unit) × Unit)) := fun x0 => (loopF (F167.b0 x0) ((0:Int), ((0:Int), ()))).bind fun r5 => Sum.elim (fun v4 => some ((v4.1, ()), ())) some r5
noncomputable def c167 : Con := ⟨i167, o167, F167⟩
noncomputable def C167 : Ctx := ⟨19, TT, EE, fun n => (bif Nat.beq n 189 then some c189 else none), fun n k => [], fun n => (bif Nat.beq n 0 then (some ⟨[(.t 3 (.int .i64) .sh), (.t 4 (.int .i64) .sh)], [5, 6, 7, 8, 9, 10, 11, 12, 13, 14, 15, 16, 17], []⟩) else none), fun n => none⟩
theorem q167 : ∀ x, runF C167 Tryz.f167 i167 o167 x = F167 x := by intro x; kernel_rfl
def i135 : List Grp := [⟨.c, (.cons (.sl e183) .nil), []⟩]
def o135 : List Grp := [⟨.c, (.cons .bool .nil), []⟩]
/-- spec.AcctsOk -/
noncomputable def F135.b0 (x0 : ((List D183 × Unit) × Unit)) : (v1 : (Int × Unit)) → Option (Sum (Int × Unit) (Sum (Int × Unit) (((Bool × Unit) × Unit)))) := fun v1 => bif iLt v1.1 (List.length x0.1.1 : Int) then (getI x0.1.1 v1.1).bind fun x2 => (F166 (x2, ())).bind fun y3 => bif (!y3.1.1) then some (.inr (.inr ((false, ()), ()))) else bif iLt (0:Int) v1.1 then (getI x0.1.1 (iSub .i64 v1.1 (1:Int))).bind fun x4 => (getI x0.1.1 v1.1).bind fun x5 => bif !sLt x4.1 x5.1 then some (.inr (.inr ((false, ()), ()))) else some (.inl (iAdd .i64 v1.1 (1:Int), ())) else some (.inl (iAdd .i64 v1.1 (1:Int), ())) else some (.inr (.inl (v1.1, ())))
noncomputable def F135 : ((List D183 × Unit) × Unit) → Option (((Bool × Unit) × Unit)) := fun x0 => (loopF (F135.b0 x0) ((0:Int), ())).bind fun r7 => Sum.elim (fun v6 => bif iLe (List.length x0.1.1 : Int) (12:Int) then (F167 (x0.1, ())).bind fun y8 => some ((iLe y8.1.1 (1000000:Int), ()), ()) else some ((false, ()), ())) some r7
noncomputable def c135 : Con := ⟨i135, o135, F135⟩
noncomputable def C135 : Ctx := ⟨42, TT, EE, fun n => (bif Nat.ble n 166 then (bif Nat.beq n 166 then some c166 else none) else (bif Nat.beq n 167 then some c167 else none)), fun n k => [], fun n => (bif Nat.beq n 0 then (some ⟨[(.t 3 (.int .i64) .sh)], [2, 4, 5, 6, 7, 8, 9, 10, 11, 12, 13, 14, 15, 16, 17, 18, 19, 20, 21, 22, 23, 24, 25, 26, 27, 28, 29, 30, 31, 32, 33], []⟩) else none), fun n => none⟩
theorem q135 : ∀ x, runF C135 Tryz.f135 i135 o135 x = F135 x := by intro x; kernel_rfl
def i82 : List Grp := [⟨.agg, e45, []⟩]
def o82 : List Grp := [⟨.c, (.cons .bool .nil), []⟩]
/-- spec.LedgerOk -/
noncomputable def F82 : (D45 × Unit) → Option (((Bool × Unit) × Unit)) := fun x0 => (F86 ((x0.1.1, ()), (((0:Int), ()), (((900:Int), ()), ())))).bind fun y1 => bif y1.1.1 then (F135 ((x0.1.2.1, ()), ())).bind fun y2 => some (y2.1, ()) else some ((false, ()), ())
noncomputable def c82 : Con := ⟨i82, o82, F82⟩
noncomputable def C82 : Ctx := ⟨11, TT, EE, fun n => (bif Nat.ble n 86 then (bif Nat.beq n 86 then some c86 else none) else (bif Nat.beq n 135 then some c135 else none)), fun n k => [], fun n => none, fun n => none⟩
theorem q82 : ∀ x, runF C82 Tryz.f82 i82 o82 x = F82 x := by intro x; kernel_rfl
def i136 : List Grp := [⟨.agg, e40, []⟩]
def o136 : List Grp := [⟨.c, (.cons .bool .nil), []⟩]
/-- spec.TxOk -/
noncomputable def F136 : (D40 × Unit) → Option (((Bool × Unit) × Unit)) := fun x0 => (F81 ((x0.1.2.1, ()), ())).bind fun y1 => bif (!y1.1.1) then some ((false, ()), ()) else (F86 ((x0.1.2.2.2.1, ()), (((1:Int), ()), (((1000000:Int), ()), ())))).bind fun y2 => bif (!y2.1.1) then some ((false, ()), ()) else (F86 ((x0.1.2.2.2.2.1, ()), (((0:Int), ()), (((10000:Int), ()), ())))).bind fun y3 => bif (!y3.1.1) then some ((false, ()), ()) else bif iEq x0.1.1 (1:Int) then (F81 ((x0.1.2.2.1, ()), ())).bind fun y4 => some (y4.1, ()) else (F86 ((x0.1.1, ()), (((2:Int), ()), (((3:Int), ()), ())))).bind fun y5 => bif y5.1.1 then some ((sEq x0.1.2.2.1 ⟨#[]⟩, ()), ()) else some ((false, ()), ())
noncomputable def c136 : Con := ⟨i136, o136, F136⟩
noncomputable def C136 : Ctx := ⟨33, TT, EE, fun n => (bif Nat.ble n 81 then (bif Nat.beq n 81 then some c81 else none) else (bif Nat.beq n 86 then some c86 else none)), fun n k => [], fun n => none, fun n => none⟩
theorem q136 : ∀ x, runF C136 Tryz.f136 i136 o136 x = F136 x := by intro x; kernel_rfl
def i89 : List Grp := [⟨.agg, e40, []⟩, ⟨.agg, e40, []⟩]
def o89 : List Grp := [⟨.c, (.cons .bool .nil), []⟩]
/-- spec.TxLess -/
noncomputable def F89 : (D40 × (D40 × Unit)) → Option (((Bool × Unit) × Unit)) := fun x0 => bif !sEq x0.1.2.1 x0.2.1.2.1 then some ((sLt x0.1.2.1 x0.2.1.2.1, ()), ()) else bif !iEq x0.1.2.2.2.2.1 x0.2.1.2.2.2.2.1 then some ((iLt x0.1.2.2.2.2.1 x0.2.1.2.2.2.2.1, ()), ()) else bif !iEq x0.1.1 x0.2.1.1 then some ((iLt x0.1.1 x0.2.1.1, ()), ()) else bif !sEq x0.1.2.2.1 x0.2.1.2.2.1 then some ((sLt x0.1.2.2.1 x0.2.1.2.2.1, ()), ()) else some ((iLt x0.1.2.2.2.1 x0.2.1.2.2.2.1, ()), ())
noncomputable def c89 : Con := ⟨i89, o89, F89⟩
noncomputable def C89 : Ctx := ⟨54, TT, EE, fun n => none, fun n k => [], fun n => none, fun n => none⟩
theorem q89 : ∀ x, runF C89 Tryz.f89 i89 o89 x = F89 x := by intro x; kernel_rfl
def i83 : List Grp := [⟨.c, (.cons (.sl e59) .nil), []⟩]
def o83 : List Grp := [⟨.c, (.cons .bool .nil), []⟩]
/-- spec.PoolOk -/
noncomputable def F83.b0 (x0 : ((List D59 × Unit) × Unit)) : (v1 : (Int × Unit)) → Option (Sum (Int × Unit) (Sum (Int × Unit) (((Bool × Unit) × Unit)))) := fun v1 => bif iLt v1.1 (List.length x0.1.1 : Int) then (getI x0.1.1 v1.1).bind fun x2 => (F136 (x2, ())).bind fun y3 => bif (!y3.1.1) then some (.inr (.inr ((false, ()), ()))) else bif iLt (0:Int) v1.1 then (getI x0.1.1 (iSub .i64 v1.1 (1:Int))).bind fun x4 => (getI x0.1.1 v1.1).bind fun x5 => (F89 (x4, (x5, ()))).bind fun y6 => bif (!y6.1.1) then some (.inr (.inr ((false, ()), ()))) else some (.inl (iAdd .i64 v1.1 (1:Int), ())) else some (.inl (iAdd .i64 v1.1 (1:Int), ())) else some (.inr (.inl (v1.1, ())))
noncomputable def F83 : ((List D59 × Unit) × Unit) → Option (((Bool × Unit) × Unit)) := fun x0 => (loopF (F83.b0 x0) ((0:Int), ())).bind fun r8 => Sum.elim (fun v7 => some ((iLe (List.length x0.1.1 : Int) (20:Int), ()), ())) some r8
noncomputable def c83 : Con := ⟨i83, o83, F83⟩
noncomputable def C83 : Ctx := ⟨36, TT, EE, fun n => (bif Nat.ble n 89 then (bif Nat.beq n 89 then some c89 else none) else (bif Nat.beq n 136 then some c136 else none)), fun n k => [], fun n => (bif Nat.beq n 0 then (some ⟨[(.t 3 (.int .i64) .sh)], [2, 4, 5, 6, 7, 8, 9, 10, 11, 12, 13, 14, 15, 16, 17, 18, 19, 20, 21, 22, 23, 24, 25, 26, 27, 28, 29, 30, 31, 32], []⟩) else none), fun n => none⟩
theorem q83 : ∀ x, runF C83 Tryz.f83 i83 o83 x = F83 x := by intro x; kernel_rfl
def i84 : List Grp := [⟨.c, (.cons (.sl e143) .nil), []⟩]
def o84 : List Grp := [⟨.c, (.cons .bool .nil), []⟩]
/-- spec.SetOk -/
noncomputable def F84.b0 (x0 : ((List D143 × Unit) × Unit)) : (v1 : (Int × Unit)) → Option (Sum (Int × Unit) (Sum (Int × Unit) (((Bool × Unit) × Unit)))) := fun v1 => bif iLt v1.1 (List.length x0.1.1 : Int) then (getI x0.1.1 v1.1).bind fun x2 => (F81 ((x2.1, ()), ())).bind fun y3 => bif (!y3.1.1) then some (.inr (.inr ((false, ()), ()))) else (getI x0.1.1 v1.1).bind fun x4 => (F86 ((x4.2.1, ()), (((1:Int), ()), (((1000000:Int), ()), ())))).bind fun y5 => bif (!y5.1.1) then some (.inr (.inr ((false, ()), ()))) else bif iLt (0:Int) v1.1 then (getI x0.1.1 (iSub .i64 v1.1 (1:Int))).bind fun x6 => (getI x0.1.1 v1.1).bind fun x7 => bif !sLt x6.1 x7.1 then some (.inr (.inr ((false, ()), ()))) else some (.inl (iAdd .i64 v1.1 (1:Int), ())) else some (.inl (iAdd .i64 v1.1 (1:Int), ())) else some (.inr (.inl (v1.1, ())))
noncomputable def F84 : ((List D143 × Unit) × Unit) → Option (((Bool × Unit) × Unit)) := fun x0 => (loopF (F84.b0 x0) ((0:Int), ())).bind fun r9 => Sum.elim (fun v8 => (F86 (((List.length x0.1.1 : Int), ()), (((1:Int), ()), (((12:Int), ()), ())))).bind fun y10 => some (y10.1, ())) some r9
noncomputable def c84 : Con := ⟨i84, o84, F84⟩
noncomputable def C84 : Ctx := ⟨47, TT, EE, fun n => (bif Nat.ble n 81 then (bif Nat.beq n 81 then some c81 else none) else (bif Nat.beq n 86 then some c86 else none)), fun n k => [], fun n => (bif Nat.beq n 0 then (some ⟨[(.t 3 (.int .i64) .sh)], [2, 4, 5, 6, 7, 8, 9, 10, 11, 12, 13, 14, 15, 16, 17, 18, 19, 20, 21, 22, 23, 24, 25, 26, 27, 28, 29, 30, 31, 32, 33, 34, 35, 36, 37, 38, 39, 40, 41, 42, 43], []⟩) else none), fun n => none⟩
theorem q84 : ∀ x, runF C84 Tryz.f84 i84 o84 x = F84 x := by intro x; kernel_rfl
def i138 : List Grp := [⟨.agg, e29, []⟩]
def o138 : List Grp := [⟨.c, (.cons .bool .nil), []⟩]
/-- spec.l8Root -/
noncomputable def F138 : (D29 × Unit) → Option (((Bool × Unit) × Unit)) := fun x0 => bif iEq x0.1.1 (0:Int) then bif iEq x0.1.2.1 (-1:Int) then some ((iEq (List.length x0.1.2.2.1 : Int) (0:Int), ()), ()) else some ((false, ()), ()) else some ((false, ()), ())
noncomputable def c138 : Con := ⟨i138, o138, F138⟩
noncomputable def C138 : Ctx := ⟨17, TT, EE, fun n => none, fun n k => [], fun n => none, fun n => none⟩
theorem q138 : ∀ x, runF C138 Tryz.f138 i138 o138 x = F138 x := by intro x; kernel_rfl
def i171 : List Grp := [⟨.c, (.cons (.sl e9) .nil), []⟩]
def o171 : List Grp := [⟨.c, (.cons .bool .nil), []⟩]
/-- spec.NamesOk -/
noncomputable def F171.b0 (x0 : ((List D9 × Unit) × Unit)) : (v1 : (Int × Unit)) → Option (Sum (Int × Unit) (Sum (Int × Unit) (((Bool × Unit) × Unit)))) := fun v1 => bif iLt v1.1 (List.length x0.1.1 : Int) then (getI x0.1.1 v1.1).bind fun x2 => (F81 (x2, ())).bind fun y3 => bif (!y3.1.1) then some (.inr (.inr ((false, ()), ()))) else bif iLt (0:Int) v1.1 then (getI x0.1.1 (iSub .i64 v1.1 (1:Int))).bind fun x4 => (getI x0.1.1 v1.1).bind fun x5 => bif !sLt x4.1 x5.1 then some (.inr (.inr ((false, ()), ()))) else some (.inl (iAdd .i64 v1.1 (1:Int), ())) else some (.inl (iAdd .i64 v1.1 (1:Int), ())) else some (.inr (.inl (v1.1, ())))
noncomputable def F171 : ((List D9 × Unit) × Unit) → Option (((Bool × Unit) × Unit)) := fun x0 => (loopF (F171.b0 x0) ((0:Int), ())).bind fun r7 => Sum.elim (fun v6 => some ((iLe (List.length x0.1.1 : Int) (20:Int), ()), ())) some r7
noncomputable def c171 : Con := ⟨i171, o171, F171⟩
noncomputable def C171 : Ctx := ⟨35, TT, EE, fun n => (bif Nat.beq n 81 then some c81 else none), fun n k => [], fun n => (bif Nat.beq n 0 then (some ⟨[(.t 3 (.int .i64) .sh)], [2, 4, 5, 6, 7, 8, 9, 10, 11, 12, 13, 14, 15, 16, 17, 18, 19, 20, 21, 22, 23, 24, 25, 26, 27, 28, 29, 30, 31], []⟩) else none), fun n => none⟩
theorem q171 : ∀ x, runF C171 Tryz.f171 i171 o171 x = F171 x := by intro x; kernel_rfl
def i168 : List Grp := [⟨.agg, e137, []⟩]
def o168 : List Grp := [⟨.c, (.cons .bool .nil), []⟩]
/-- spec.l9Qc -/
noncomputable def F168 : (D137 × Unit) → Option (((Bool × Unit) × Unit)) := fun x0 => (F138 ((x0.1.2.2.2.2.1, (x0.1.2.2.2.2.2.1, (x0.1.2.2.2.2.2.2.1, ()))), ())).bind fun y1 => bif y1.1.1 then some ((true, ()), ()) else (F86 ((x0.1.2.2.2.2.1, ()), (((1:Int), ()), ((iSub .i64 x0.1.2.2.1 (1:Int), ()), ())))).bind fun y2 => bif y2.1.1 then (F86 ((x0.1.2.2.2.2.2.1, ()), (((0:Int), ()), ((iSub .i64 x0.1.1 (1:Int), ()), ())))).bind fun y3 => bif y3.1.1 then (F171 ((x0.1.2.2.2.2.2.2.1, ()), ())).bind fun y4 => some (y4.1, ()) else some ((false, ()), ()) else some ((false, ()), ())
noncomputable def c168 : Con := ⟨i168, o168, F168⟩
noncomputable def C168 : Ctx := ⟨27, TT, EE, fun n => (bif Nat.ble n 86 then (bif Nat.beq n 86 then some c86 else none) else (bif Nat.ble n 138 then (bif Nat.beq n 138 then some c138 else none) else (bif Nat.beq n 171 then some c171 else none))), fun n k => [], fun n => none, fun n => none⟩
theorem q168 : ∀ x, runF C168 Tryz.f168 i168 o168 x = F168 x := by intro x; kernel_rfl
def i142 : List Grp := [⟨.agg, e32, []⟩]
def o142 : List Grp := [⟨.c, (.cons .bool .nil), []⟩]
/-- spec.l8None -/
noncomputable def F142 : (D32 × Unit) → Option (((Bool × Unit) × Unit)) := fun x0 => bif iEq x0.1.1 (0:Int) then bif iEq (List.length x0.1.2.1 : Int) (0:Int) then some ((iEq (List.length x0.1.2.2.1 : Int) (0:Int), ()), ()) else some ((false, ()), ()) else some ((false, ()), ())
noncomputable def c142 : Con := ⟨i142, o142, F142⟩
noncomputable def C142 : Ctx := ⟨18, TT, EE, fun n => none, fun n k => [], fun n => none, fun n => none⟩
theorem q142 : ∀ x, runF C142 Tryz.f142 i142 o142 x = F142 x := by intro x; kernel_rfl
def i169 : List Grp := [⟨.agg, e137, []⟩]
def o169 : List Grp := [⟨.c, (.cons .bool .nil), []⟩]
/-- spec.l9Tc -/
noncomputable def F169.b0 (x0 : (D137 × Unit)) : (v4 : (Int × Unit)) → Option (Sum (Int × Unit) (Sum (Int × Unit) (((Bool × Unit) × Unit)))) := fun v4 => bif iLt v4.1 (List.length x0.1.2.2.2.2.2.2.2.2.2.1 : Int) then (getI x0.1.2.2.2.2.2.2.2.2.2.1 v4.1).bind fun x5 => (F86 (x5, (((0:Int), ()), ((iSub .i64 x0.1.2.2.2.2.2.2.2.1 (1:Int), ()), ())))).bind fun y6 => bif (!y6.1.1) then some (.inr (.inr ((false, ()), ()))) else some (.inl (iAdd .i64 v4.1 (1:Int), ())) else some (.inr (.inl (v4.1, ())))
noncomputable def F169 : (D137 × Unit) → Option (((Bool × Unit) × Unit)) := fun x0 => (F142 ((x0.1.2.2.2.2.2.2.2.1, (x0.1.2.2.2.2.2.2.2.2.1, (x0.1.2.2.2.2.2.2.2.2.2.1, ()))), ())).bind fun y1 => bif y1.1.1 then some ((true, ()), ()) else (F86 ((x0.1.2.2.2.2.2.2.2.1, ()), (((1:Int), ()), ((iSub .i64 x0.1.2.2.1 (1:Int), ()), ())))).bind fun y2 => bif (!y2.1.1) then some ((false, ()), ()) else (F171 ((x0.1.2.2.2.2.2.2.2.2.1, ()), ())).bind fun y3 => bif (!y3.1.1) then some ((false, ()), ()) else bif !iEq (List.length x0.1.2.2.2.2.2.2.2.2.2.1 : Int) (List.length x0.1.2.2.2.2.2.2.2.2.1 : Int) then some ((false, ()), ()) else (loopF (F169.b0 x0) ((0:Int), ())).bind fun r8 => Sum.elim (fun v7 => some ((true, ()), ())) some r8
noncomputable def c169 : Con := ⟨i169, o169, F169⟩
noncomputable def C169 : Ctx := ⟨48, TT, EE, fun n => (bif Nat.ble n 86 then (bif Nat.beq n 86 then some c86 else none) else (bif Nat.ble n 142 then (bif Nat.beq n 142 then some c142 else none) else (bif Nat.beq n 171 then some c171 else none))), fun n k => [], fun n => (bif Nat.beq n 0 then (some ⟨[(.t 4 (.int .i64) .sh)], [2, 31, 32, 33, 34, 35, 36, 37, 38, 39, 40, 41, 42, 43, 44, 45, 46, 47], []⟩) else none), fun n => none⟩
theorem q169 : ∀ x, runF C169 Tryz.f169 i169 o169 x = F169 x := by intro x; kernel_rfl
def i137 : List Grp := [⟨.agg, e137, []⟩]
def o137 : List Grp := [⟨.c, (.cons .bool .nil), []⟩]
/-- spec.BlockOk -/
noncomputable def F137.b0 (x0 : (D137 × Unit)) : (v7 : (Int × Unit)) → Option (Sum (Int × Unit) (Sum (Int × Unit) (((Bool × Unit) × Unit)))) := fun v7 => bif iLt v7.1 (List.length x0.1.2.2.2.2.2.2.2.2.2.2.1 : Int) then (getI x0.1.2.2.2.2.2.2.2.2.2.2.1 v7.1).bind fun x8 => (F136 (x8, ())).bind fun y9 => bif (!y9.1.1) then some (.inr (.inr ((false, ()), ()))) else some (.inl (iAdd .i64 v7.1 (1:Int), ())) else some (.inr (.inl (v7.1, ())))
noncomputable def F137 : (D137 × Unit) → Option (((Bool × Unit) × Unit)) := fun x0 => (F86 ((x0.1.1, ()), (((0:Int), ()), (((100000:Int), ()), ())))).bind fun y1 => bif (!y1.1.1) then some ((false, ()), ()) else (F86 ((x0.1.2.1, ()), (((0:Int), ()), (((900:Int), ()), ())))).bind fun y2 => bif (!y2.1.1) then some ((false, ()), ()) else (F86 ((x0.1.2.2.1, ()), (((1:Int), ()), (((10000:Int), ()), ())))).bind fun y3 => bif (!y3.1.1) then some ((false, ()), ()) else (F81 ((x0.1.2.2.2.1, ()), ())).bind fun y4 => bif (!y4.1.1) then some ((false, ()), ()) else (F168 (x0.1, ())).bind fun y5 => bif (!y5.1.1) then some ((false, ()), ()) else (F169 (x0.1, ())).bind fun y6 => bif (!y6.1.1) then some ((false, ()), ()) else bif iLt (4:Int) (List.length x0.1.2.2.2.2.2.2.2.2.2.2.1 : Int) then some ((false, ()), ()) else (loopF (F137.b0 x0) ((0:Int), ())).bind fun r11 => Sum.elim (fun v10 => bif (!x0.1.2.2.2.2.2.2.2.2.2.2.2.1) then bif iEq (List.length x0.1.2.2.2.2.2.2.2.2.2.2.2.2.1 : Int) (0:Int) then some ((sEq x0.1.2.2.2.2.2.2.2.2.2.2.2.2.2.1 ⟨#[]⟩, ()), ()) else some ((false, ()), ()) else (F84 ((x0.1.2.2.2.2.2.2.2.2.2.2.2.2.1, ()), ())).bind fun y12 => bif y12.1.1 then some ((iEq (ByteArray.size x0.1.2.2.2.2.2.2.2.2.2.2.2.2.2.1 : Int) (32:Int), ()), ()) else some ((false, ()), ())) some r11
noncomputable def c137 : Con := ⟨i137, o137, F137⟩
noncomputable def C137 : Ctx := ⟨77, TT, EE, fun n => (bif Nat.ble n 86 then (bif Nat.ble n 81 then (bif Nat.beq n 81 then some c81 else none) else (bif Nat.ble n 84 then (bif Nat.beq n 84 then some c84 else none) else (bif Nat.beq n 86 then some c86 else none))) else (bif Nat.ble n 136 then (bif Nat.beq n 136 then some c136 else none) else (bif Nat.ble n 168 then (bif Nat.beq n 168 then some c168 else none) else (bif Nat.beq n 169 then some c169 else none)))), fun n k => [], fun n => (bif Nat.beq n 0 then (some ⟨[(.t 3 (.int .i64) .sh)], [2, 42, 43, 44, 45, 46, 47, 48, 49, 50, 51, 52, 53, 54, 55], []⟩) else none), fun n => none⟩
theorem q137 : ∀ x, runF C137 Tryz.f137 i137 o137 x = F137 x := by intro x; kernel_rfl
def i139 : List Grp := [⟨.c, (.cons (.sl e137) .nil), []⟩, ⟨.c, (.cons (.int .i64) .nil), []⟩]
def o139 : List Grp := [⟨.c, (.cons (.int .i64) .nil), []⟩]
/-- spec.l10At -/
noncomputable def F139.b0 (x0 : ((List D137 × Unit) × ((Int × Unit) × Unit))) : (v1 : (Int × Unit)) → Option (Sum (Int × Unit) (Sum (Int × Unit) (((Int × Unit) × Unit)))) := fun v1 => bif iLt v1.1 (List.length x0.1.1 : Int) then (getI x0.1.1 v1.1).bind fun x2 => bif iEq x2.1 x0.2.1.1 then some (.inr (.inr ((v1.1, ()), ()))) else some (.inl (iAdd .i64 v1.1 (1:Int), ())) else some (.inr (.inl (v1.1, ())))
noncomputable def F139 : ((List D137 × Unit) × ((Int × Unit) × Unit)) → Option (((Int × Unit) × Unit)) := fun x0 => (loopF (F139.b0 x0) ((0:Int), ())).bind fun r4 => Sum.elim (fun v3 => some (((-1:Int), ()), ())) some r4
noncomputable def c139 : Con := ⟨i139, o139, F139⟩
noncomputable def C139 : Ctx := ⟨20, TT, EE, fun n => none, fun n k => [], fun n => (bif Nat.beq n 0 then (some ⟨[(.t 5 (.int .i64) .sh)], [4, 6, 7, 8, 9, 10, 11, 12, 13, 14, 15, 16, 17, 18, 19], []⟩) else none), fun n => none⟩
theorem q139 : ∀ x, runF C139 Tryz.f139 i139 o139 x = F139 x := by intro x; kernel_rfl
def i85 : List Grp := [⟨.c, (.cons (.sl e137) .nil), []⟩]
def o85 : List Grp := [⟨.c, (.cons .bool .nil), []⟩]
/-- spec.TreeOk -/
noncomputable def F85.b0 (x0 : ((List D137 × Unit) × Unit)) : (v1 : (Int × Unit)) → Option (Sum (Int × Unit) (Sum (Int × Unit) (((Bool × Unit) × Unit)))) := fun v1 => bif iLt v1.1 (List.length x0.1.1 : Int) then (getI x0.1.1 v1.1).bind fun x2 => Option.bind ((F137 (x2, ())).bind fun y3 => bif (!y3.1.1) then some (.inr (.inr (.inr ((false, ()), ())))) else (getI x0.1.1 (0:Int)).bind fun x4 => bif !iEq x2.2.1 x4.2.1 then some (.inr (.inr (.inr ((false, ()), ())))) else bif iLt (0:Int) v1.1 then (getI x0.1.1 (iSub .i64 v1.1 (1:Int))).bind fun x5 => bif iLe x2.1 x5.1 then some (.inr (.inr (.inr ((false, ()), ())))) else some (.inl ()) else some (.inl ())) fun r7 => Sum.elim (fun v6 => (F138 ((x2.2.2.2.2.1, (x2.2.2.2.2.2.1, (x2.2.2.2.2.2.2.1, ()))), ())).bind fun y8 => bif (!y8.1.1) then bif cutHi v1.1 (List.length x0.1.1) then (F139 ((List.take ((Int.toNat v1.1) - 0) (List.drop 0 x0.1.1), ()), ((x2.2.2.2.2.2.1, ()), ()))).bind fun y9 => bif iLt y9.1.1 (0:Int) then some (.inr (.inr ((false, ()), ()))) else (getI x0.1.1 y9.1.1).bind fun x10 => bif !iEq x10.2.2.1 x2.2.2.2.2.1 then some (.inr (.inr ((false, ()), ()))) else some (.inl (iAdd .i64 v1.1 (1:Int), ())) else none else some (.inl (iAdd .i64 v1.1 (1:Int), ()))) some r7 else some (.inr (.inl (v1.1, ())))
noncomputable def F85 : ((List D137 × Unit) × Unit) → Option (((Bool × Unit) × Unit)) := fun x0 => (loopF (F85.b0 x0) ((0:Int), ())).bind fun r12 => Sum.elim (fun v11 => some ((iLe (List.length x0.1.1 : Int) (400:Int), ()), ())) some r12
noncomputable def c85 : Con := ⟨i85, o85, F85⟩
noncomputable def C85 : Ctx := ⟨70, TT, EE, fun n => (bif Nat.ble n 137 then (bif Nat.beq n 137 then some c137 else none) else (bif Nat.ble n 138 then (bif Nat.beq n 138 then some c138 else none) else (bif Nat.beq n 139 then some c139 else none))), fun n k => [], fun n => (bif Nat.beq n 0 then (some ⟨[(.t 3 (.int .i64) .sh)], [2, 4, 5, 6, 7, 8, 9, 10, 11, 12, 13, 14, 15, 16, 17, 18, 19, 20, 21, 22, 23, 24, 25, 26, 27, 28, 29, 30, 31, 32, 33, 34, 35, 36, 37, 38, 39, 40, 41, 42, 43, 44, 45, 46, 47, 48, 49, 50, 51, 52, 53, 54, 55, 56, 57, 58, 59, 60, 61, 62, 63, 64, 65, 66], []⟩) else none), fun n => (bif Nat.beq n 7 then (some ⟨[], [16, 17, 18, 19, 20, 21, 22, 23, 24, 25, 26, 27, 28, 29, 30, 31, 32, 33, 34, 35, 36, 37, 38, 39, 40, 41, 42], []⟩) else none)⟩
theorem q85 : ∀ x, runF C85 Tryz.f85 i85 o85 x = F85 x := by intro x; kernel_rfl
def i170 : List Grp := [⟨.c, (.cons (.sl e143) .nil), []⟩, ⟨.c, (.cons .str .nil), []⟩]
def o170 : List Grp := [⟨.c, (.cons .bool .nil), []⟩]
/-- spec.l7In -/
noncomputable def F170.b0 (x0 : ((List D143 × Unit) × ((ByteArray × Unit) × Unit))) : (v1 : (Int × Unit)) → Option (Sum (Int × Unit) (Sum (Int × Unit) (((Bool × Unit) × Unit)))) := fun v1 => bif iLt v1.1 (List.length x0.1.1 : Int) then (getI x0.1.1 v1.1).bind fun x2 => bif sEq x2.1 x0.2.1.1 then some (.inr (.inr ((true, ()), ()))) else some (.inl (iAdd .i64 v1.1 (1:Int), ())) else some (.inr (.inl (v1.1, ())))
noncomputable def F170 : ((List D143 × Unit) × ((ByteArray × Unit) × Unit)) → Option (((Bool × Unit) × Unit)) := fun x0 => (loopF (F170.b0 x0) ((0:Int), ())).bind fun r4 => Sum.elim (fun v3 => some ((false, ()), ())) some r4
noncomputable def c170 : Con := ⟨i170, o170, F170⟩
noncomputable def C170 : Ctx := ⟨19, TT, EE, fun n => none, fun n k => [], fun n => (bif Nat.beq n 0 then (some ⟨[(.t 5 (.int .i64) .sh)], [4, 6, 7, 8, 9, 10, 11, 12, 13, 14, 15, 16, 17, 18], []⟩) else none), fun n => none⟩
theorem q170 : ∀ x, runF C170 Tryz.f170 i170 o170 x = F170 x := by intro x; kernel_rfl
def i140 : List Grp := [⟨.c, (.cons (.sl e143) .nil), []⟩, ⟨.c, (.cons (.sl e9) .nil), []⟩]
def o140 : List Grp := [⟨.c, (.cons .bool .nil), []⟩]
/-- spec.l8All -/
noncomputable def F140.b0 (x0 : ((List D143 × Unit) × ((List D9 × Unit) × Unit))) : (v1 : (Int × Unit)) → Option (Sum (Int × Unit) (Sum (Int × Unit) (((Bool × Unit) × Unit)))) := fun v1 => bif iLt v1.1 (List.length x0.2.1.1 : Int) then (getI x0.2.1.1 v1.1).bind fun x2 => (F170 (x0.1, (x2, ()))).bind fun y3 => bif (!y3.1.1) then some (.inr (.inr ((false, ()), ()))) else some (.inl (iAdd .i64 v1.1 (1:Int), ())) else some (.inr (.inl (v1.1, ())))
noncomputable def F140 : ((List D143 × Unit) × ((List D9 × Unit) × Unit)) → Option (((Bool × Unit) × Unit)) := fun x0 => (loopF (F140.b0 x0) ((0:Int), ())).bind fun r5 => Sum.elim (fun v4 => (F171 (x0.2.1, ())).bind fun y6 => some (y6.1, ())) some r5
noncomputable def c140 : Con := ⟨i140, o140, F140⟩
noncomputable def C140 : Ctx := ⟨21, TT, EE, fun n => (bif Nat.ble n 170 then (bif Nat.beq n 170 then some c170 else none) else (bif Nat.beq n 171 then some c171 else none)), fun n k => [], fun n => (bif Nat.beq n 0 then (some ⟨[(.t 5 (.int .i64) .sh)], [4, 6, 7, 8, 9, 10, 11, 12, 13, 14, 15, 16, 17, 18], []⟩) else none), fun n => none⟩
theorem q140 : ∀ x, runF C140 Tryz.f140 i140 o140 x = F140 x := by intro x; kernel_rfl
def i190 : List Grp := [⟨.c, (.cons (.sl e9) .nil), []⟩, ⟨.c, (.cons .str .nil), []⟩]
def o190 : List Grp := [⟨.c, (.cons .bool .nil), []⟩]
/-- spec.l7Has -/
noncomputable def F190.b0 (x0 : ((List D9 × Unit) × ((ByteArray × Unit) × Unit))) : (v1 : (Int × Unit)) → Option (Sum (Int × Unit) (Sum (Int × Unit) (((Bool × Unit) × Unit)))) := fun v1 => bif iLt v1.1 (List.length x0.1.1 : Int) then (getI x0.1.1 v1.1).bind fun x2 => bif sEq x2.1 x0.2.1.1 then some (.inr (.inr ((true, ()), ()))) else some (.inl (iAdd .i64 v1.1 (1:Int), ())) else some (.inr (.inl (v1.1, ())))
noncomputable def F190 : ((List D9 × Unit) × ((ByteArray × Unit) × Unit)) → Option (((Bool × Unit) × Unit)) := fun x0 => (loopF (F190.b0 x0) ((0:Int), ())).bind fun r4 => Sum.elim (fun v3 => some ((false, ()), ())) some r4
noncomputable def c190 : Con := ⟨i190, o190, F190⟩
noncomputable def C190 : Ctx := ⟨18, TT, EE, fun n => none, fun n k => [], fun n => (bif Nat.beq n 0 then (some ⟨[(.t 5 (.int .i64) .sh)], [4, 6, 7, 8, 9, 10, 11, 12, 13, 14, 15, 16, 17], []⟩) else none), fun n => none⟩
theorem q190 : ∀ x, runF C190 Tryz.f190 i190 o190 x = F190 x := by intro x; kernel_rfl
def i172 : List Grp := [⟨.c, (.cons (.sl e143) .nil), []⟩, ⟨.c, (.cons (.sl e9) .nil), []⟩]
def o172 : List Grp := [⟨.c, (.cons (.int .i64) .nil), []⟩]
/-- spec.WeightOf -/
noncomputable def F172.b0 (x0 : ((List D143 × Unit) × ((List D9 × Unit) × Unit))) : (v1 : (Int × (Int × Unit))) → Option (Sum (Int × (Int × Unit)) (Sum (Int × (Int × Unit)) (((Int × Unit) × Unit)))) := fun v1 => bif iLt v1.2.1 (List.length x0.1.1 : Int) then (getI x0.1.1 v1.2.1).bind fun x2 => (F190 (x0.2.1, ((x2.1, ()), ()))).bind fun y3 => bif y3.1.1 then (getI x0.1.1 v1.2.1).bind fun x4 => some (.inl (iAdd .i64 v1.1 x4.2.1, (iAdd .i64 v1.2.1 (1:Int), ()))) else some (.inl (v1.1, (iAdd .i64 v1.2.1 (1:Int), ()))) else some (.inr (.inl (v1.1, (v1.2.1, ()))))
noncomputable def F172 : ((List D143 × Unit) × ((List D9 × Unit) × Unit)) → Option (((Int × Unit) × Unit)) := fun x0 => (loopF (F172.b0 x0) ((0:Int), ((0:Int), ()))).bind fun r6 => Sum.elim (fun v5 => some ((v5.1, ()), ())) some r6
noncomputable def c172 : Con := ⟨i172, o172, F172⟩
noncomputable def C172 : Ctx := ⟨28, TT, EE, fun n => (bif Nat.beq n 190 then some c190 else none), fun n k => [], fun n => (bif Nat.beq n 0 then (some ⟨[(.t 5 (.int .i64) .sh), (.t 6 (.int .i64) .sh)], [7, 8, 9, 10, 11, 12, 13, 14, 15, 16, 17, 18, 19, 20, 21, 22, 23, 24, 25, 26], []⟩) else none), fun n => none⟩
theorem q172 : ∀ x, runF C172 Tryz.f172 i172 o172 x = F172 x := by intro x; kernel_rfl
def i173 : List Grp := [⟨.c, (.cons (.sl e143) .nil), []⟩]
def o173 : List Grp := [⟨.c, (.cons (.int .i64) .nil), []⟩]
/-- spec.TotalOf -/
noncomputable def F173.b0 (x0 : ((List D143 × Unit) × Unit)) : (v1 : (Int × (Int × Unit))) → Option (Sum (Int × (Int × Unit)) (Sum (Int × (Int × Unit)) (((Int × Unit) × Unit)))) := fun v1 => bif iLt v1.2.1 (List.length x0.1.1 : Int) then (getI x0.1.1 v1.2.1).bind fun x2 => some (.inl (iAdd .i64 v1.1 x2.2.1, (iAdd .i64 v1.2.1 (1:Int), ()))) else some (.inr (.inl (v1.1, (v1.2.1, ()))))
noncomputable def F173 : ((List D143 × Unit) × Unit) → Option (((Int × Unit) × Unit)) := fun x0 => (loopF (F173.b0 x0) ((0:Int), ((0:Int), ()))).bind fun r4 => Sum.elim (fun v3 => some ((v3.1, ()), ())) some r4
noncomputable def c173 : Con := ⟨i173, o173, F173⟩
noncomputable def C173 : Ctx := ⟨19, TT, EE, fun n => none, fun n k => [], fun n => (bif Nat.beq n 0 then (some ⟨[(.t 3 (.int .i64) .sh), (.t 4 (.int .i64) .sh)], [5, 6, 7, 8, 9, 10, 11, 12, 13, 14, 15, 16, 17], []⟩) else none), fun n => none⟩
theorem q173 : ∀ x, runF C173 Tryz.f173 i173 o173 x = F173 x := by intro x; kernel_rfl
def i141 : List Grp := [⟨.c, (.cons (.sl e143) .nil), []⟩, ⟨.c, (.cons (.sl e9) .nil), []⟩]
def o141 : List Grp := [⟨.c, (.cons .bool .nil), []⟩]
/-- spec.IsQuorum -/
noncomputable def F141 : ((List D143 × Unit) × ((List D9 × Unit) × Unit)) → Option (((Bool × Unit) × Unit)) := fun x0 => (F172 (x0.1, (x0.2.1, ()))).bind fun y1 => (F173 (x0.1, ())).bind fun y2 => some ((iLt (iMul .i64 (2:Int) y2.1.1) (iMul .i64 (3:Int) y1.1.1), ()), ())
noncomputable def c141 : Con := ⟨i141, o141, F141⟩
noncomputable def C141 : Ctx := ⟨13, TT, EE, fun n => (bif Nat.ble n 172 then (bif Nat.beq n 172 then some c172 else none) else (bif Nat.beq n 173 then some c173 else none)), fun n k => [], fun n => none, fun n => none⟩
theorem q141 : ∀ x, runF C141 Tryz.f141 i141 o141 x = F141 x := by intro x; kernel_rfl
def i87 : List Grp := [⟨.c, (.cons (.sl e143) .nil), []⟩, ⟨.agg, e29, []⟩]
def o87 : List Grp := [⟨.c, (.cons .bool .nil), []⟩]
/-- spec.QcOk -/
noncomputable def F87 : ((List D143 × Unit) × (D29 × Unit)) → Option (((Bool × Unit) × Unit)) := fun x0 => (F138 (x0.2.1, ())).bind fun y1 => bif y1.1.1 then some ((true, ()), ()) else (F86 ((x0.2.1.1, ()), (((1:Int), ()), (((10000:Int), ()), ())))).bind fun y2 => bif y2.1.1 then (F86 ((x0.2.1.2.1, ()), (((0:Int), ()), (((100000:Int), ()), ())))).bind fun y3 => bif y3.1.1 then (F140 (x0.1, ((x0.2.1.2.2.1, ()), ()))).bind fun y4 => bif y4.1.1 then (F141 (x0.1, ((x0.2.1.2.2.1, ()), ()))).bind fun y5 => some (y5.1, ()) else some ((false, ()), ()) else some ((false, ()), ()) else some ((false, ()), ())
noncomputable def c87 : Con := ⟨i87, o87, F87⟩
noncomputable def C87 : Ctx := ⟨27, TT, EE, fun n => (bif Nat.ble n 138 then (bif Nat.ble n 86 then (bif Nat.beq n 86 then some c86 else none) else (bif Nat.beq n 138 then some c138 else none)) else (bif Nat.ble n 140 then (bif Nat.beq n 140 then some c140 else none) else (bif Nat.beq n 141 then some c141 else none))), fun n k => [], fun n => none, fun n => none⟩
theorem q87 : ∀ x, runF C87 Tryz.f87 i87 o87 x = F87 x := by intro x; kernel_rfl
def i88 : List Grp := [⟨.c, (.cons (.sl e143) .nil), []⟩, ⟨.agg, e32, []⟩]
def o88 : List Grp := [⟨.c, (.cons .bool .nil), []⟩]
/-- spec.TcOk -/
noncomputable def F88.b0 (x0 : ((List D143 × Unit) × (D32 × Unit))) : (v5 : (Int × Unit)) → Option (Sum (Int × Unit) (Sum (Int × Unit) (((Bool × Unit) × Unit)))) := fun v5 => bif iLt v5.1 (List.length x0.2.1.2.2.1 : Int) then (getI x0.2.1.2.2.1 v5.1).bind fun x6 => (F86 (x6, (((0:Int), ()), ((iSub .i64 x0.2.1.1 (1:Int), ()), ())))).bind fun y7 => bif (!y7.1.1) then some (.inr (.inr ((false, ()), ()))) else some (.inl (iAdd .i64 v5.1 (1:Int), ())) else some (.inr (.inl (v5.1, ())))
noncomputable def F88 : ((List D143 × Unit) × (D32 × Unit)) → Option (((Bool × Unit) × Unit)) := fun x0 => (F142 (x0.2.1, ())).bind fun y1 => bif y1.1.1 then some ((true, ()), ()) else (F86 ((x0.2.1.1, ()), (((1:Int), ()), (((10000:Int), ()), ())))).bind fun y2 => bif (!y2.1.1) then some ((false, ()), ()) else (F140 (x0.1, ((x0.2.1.2.1, ()), ()))).bind fun y3 => bif (!y3.1.1) then some ((false, ()), ()) else (F141 (x0.1, ((x0.2.1.2.1, ()), ()))).bind fun y4 => bif (!y4.1.1) then some ((false, ()), ()) else bif !iEq (List.length x0.2.1.2.2.1 : Int) (List.length x0.2.1.2.1 : Int) then some ((false, ()), ()) else (loopF (F88.b0 x0) ((0:Int), ())).bind fun r9 => Sum.elim (fun v8 => some ((true, ()), ())) some r9
noncomputable def c88 : Con := ⟨i88, o88, F88⟩
noncomputable def C88 : Ctx := ⟨52, TT, EE, fun n => (bif Nat.ble n 140 then (bif Nat.ble n 86 then (bif Nat.beq n 86 then some c86 else none) else (bif Nat.beq n 140 then some c140 else none)) else (bif Nat.ble n 141 then (bif Nat.beq n 141 then some c141 else none) else (bif Nat.beq n 142 then some c142 else none))), fun n k => [], fun n => (bif Nat.beq n 0 then (some ⟨[(.t 5 (.int .i64) .sh)], [4, 35, 36, 37, 38, 39, 40, 41, 42, 43, 44, 45, 46, 47, 48, 49, 50, 51], []⟩) else none), fun n => none⟩
theorem q88 : ∀ x, runF C88 Tryz.f88 i88 o88 x = F88 x := by intro x; kernel_rfl
def i24 : List Grp := [⟨.agg, e55, []⟩]
def o24 : List Grp := [⟨.c, (.cons .bool .nil), []⟩]
/-- spec.NodeOk -/
noncomputable def F24 : (D55 × Unit) → Option (((Bool × Unit) × Unit)) := fun x0 => Option.bind ((F81 ((x0.1.1, ()), ())).bind fun y1 => bif (!y1.1.1) then some (.inr ((false, ()), ())) else (F82 ((x0.1.2.2.1, (x0.1.2.2.2.1, ())), ())).bind fun y2 => bif (!y2.1.1) then some (.inr ((false, ()), ())) else bif !iEq x0.1.2.2.1 x0.1.2.1 then some (.inr ((false, ()), ())) else (F83 ((x0.1.2.2.2.2.2.2.2.2.2.2.2.2.2.2.2.2.2.2.1, ()), ())).bind fun y3 => bif (!y3.1.1) then some (.inr ((false, ()), ())) else bif iLt (0:Int) (List.length x0.1.2.2.2.2.1 : Int) then (F84 ((x0.1.2.2.2.2.1, ()), ())).bind fun y4 => bif (!y4.1.1) then some (.inr ((false, ()), ())) else (F85 ((x0.1.2.2.2.2.2.1, ()), ())).bind fun y5 => bif (!y5.1.1) then some (.inr ((false, ()), ())) else bif iLt (0:Int) (List.length x0.1.2.2.2.2.2.1 : Int) then (getI x0.1.2.2.2.2.2.1 (0:Int)).bind fun x6 => bif !iEq x6.2.1 x0.1.2.1 then some (.inr ((false, ()), ())) else some (.inl ()) else some (.inl ()) else (F85 ((x0.1.2.2.2.2.2.1, ()), ())).bind fun y7 => bif (!y7.1.1) then some (.inr ((false, ()), ())) else bif iLt (0:Int) (List.length x0.1.2.2.2.2.2.1 : Int) then (getI x0.1.2.2.2.2.2.1 (0:Int)).bind fun x8 => bif !iEq x8.2.1 x0.1.2.1 then some (.inr ((false, ()), ())) else some (.inl ()) else some (.inl ())) fun r10 => Sum.elim (fun v9 => (F86 ((x0.1.2.2.2.2.2.2.1, ()), (((1:Int), ()), (((10000:Int), ()), ())))).bind fun y11 => bif y11.1.1 then bif iLt x0.1.2.2.2.2.2.2.2.2.1 x0.1.2.2.2.2.2.2.1 then bif iLt x0.1.2.2.2.2.2.2.2.2.2.2.2.1 x0.1.2.2.2.2.2.2.1 then (F86 ((x0.1.2.2.2.2.2.2.2.1, ()), (((0:Int), ()), (((10000:Int), ()), ())))).bind fun y12 => bif y12.1.1 then (F86 ((x0.1.2.2.2.2.2.2.2.2.2.2.2.2.2.2.1, ()), (((0:Int), ()), (((10000:Int), ()), ())))).bind fun y13 => bif y13.1.1 then (F87 ((x0.1.2.2.2.2.1, ()), ((x0.1.2.2.2.2.2.2.2.2.1, (x0.1.2.2.2.2.2.2.2.2.2.1, (x0.1.2.2.2.2.2.2.2.2.2.2.1, ()))), ()))).bind fun y14 => bif y14.1.1 then (F88 ((x0.1.2.2.2.2.1, ()), ((x0.1.2.2.2.2.2.2.2.2.2.2.2.1, (x0.1.2.2.2.2.2.2.2.2.2.2.2.2.1, (x0.1.2.2.2.2.2.2.2.2.2.2.2.2.2.1, ()))), ()))).bind fun y15 => bif y15.1.1 then bif iLe (List.length x0.1.2.2.2.2.2.2.2.2.2.2.2.2.2.2.2.1 : Int) (1000:Int) then bif iLe (List.length x0.1.2.2.2.2.2.2.2.2.2.2.2.2.2.2.2.2.1 : Int) (1000:Int) then bif iLe (List.length x0.1.2.2.2.2.2.2.2.2.2.2.2.2.2.2.2.2.2.1 : Int) (200:Int) then some ((iLe (List.length x0.1.2.2.2.2.2.2.2.2.2.2.2.2.2.2.2.2.2.2.2.1 : Int) (200:Int), ()), ()) else some ((false, ()), ()) else some ((false, ()), ()) else some ((false, ()), ()) else some ((false, ()), ()) else some ((false, ()), ()) else some ((false, ()), ()) else some ((false, ()), ()) else some ((false, ()), ()) else some ((false, ()), ()) else some ((false, ()), ())) some r10
noncomputable def c24 : Con := ⟨i24, o24, F24⟩
noncomputable def C24 : Ctx := ⟨128, TT, EE, fun n => (bif Nat.ble n 84 then (bif Nat.ble n 82 then (bif Nat.ble n 81 then (bif Nat.beq n 81 then some c81 else none) else (bif Nat.beq n 82 then some c82 else none)) else (bif Nat.ble n 83 then (bif Nat.beq n 83 then some c83 else none) else (bif Nat.beq n 84 then some c84 else none))) else (bif Nat.ble n 86 then (bif Nat.ble n 85 then (bif Nat.beq n 85 then some c85 else none) else (bif Nat.beq n 86 then some c86 else none)) else (bif Nat.ble n 87 then (bif Nat.beq n 87 then some c87 else none) else (bif Nat.beq n 88 then some c88 else none)))), fun n k => [], fun n => none, fun n => (bif Nat.beq n 3 then (some ⟨[], [3, 4, 5, 6, 7, 8, 9, 10, 11, 12, 13, 14, 15, 16, 17, 18, 19, 20, 21, 22, 23, 24, 25, 26, 27, 28, 29, 30, 31, 32, 33, 34, 35, 36, 37, 38, 39, 40, 41, 42, 43, 44, 45, 46, 47, 48, 49, 50, 51, 52, 53, 54, 55, 56, 57, 58, 59, 60], []⟩) else none)⟩
theorem q24 : ∀ x, runF C24 Tryz.f24 i24 o24 x = F24 x := by intro x; kernel_rfl
def i25 : List Grp := [⟨.c, (.cons (.sl e59) .nil), []⟩, ⟨.agg, e40, []⟩]
def o25 : List Grp := [⟨.c, (.cons (.sl e59) .nil), [(.own [])]⟩, ⟨.c, (.cons .bool .nil), []⟩]
/-- spec.PoolAdd -/
noncomputable def F25.b0 (x0 : ((List D59 × Unit) × (D40 × Unit))) : (v1 : (Int × (List (D59) × Unit))) → Option (Sum (Int × (List (D59) × Unit)) (Sum (Int × (List (D59) × Unit)) (((List D59 × Unit) × ((Bool × Unit) × Unit))))) := fun v1 => bif iLt (0:Int) v1.1 then (getI v1.2.1 (iSub .i64 v1.1 (1:Int))).bind fun _ => (getN v1.2.1 (Int.toNat (iSub .i64 v1.1 (1:Int)))).bind fun x2 => (F89 (x0.2.1, (x2, ()))).bind fun y3 => bif y3.1.1 then (getI v1.2.1 (iSub .i64 v1.1 (1:Int))).bind fun _ => (getN v1.2.1 (Int.toNat (iSub .i64 v1.1 (1:Int)))).bind fun x4 => (getI v1.2.1 v1.1).bind fun _ => (getN v1.2.1 (Int.toNat v1.1)).bind fun x5 => (some (List.set v1.2.1 (Int.toNat v1.1) (x4.1, (x4.2.1, (x4.2.2.1, (x4.2.2.2.1, (x4.2.2.2.2.1, ()))))))).bind fun z6 => some (.inl (iSub .i64 v1.1 (1:Int), (z6, ()))) else some (.inr (.inl (v1.1, (v1.2.1, ())))) else some (.inr (.inl (v1.1, (v1.2.1, ()))))
noncomputable def F25 : ((List D59 × Unit) × (D40 × Unit)) → Option (((List D59 × Unit) × ((Bool × Unit) × Unit))) := fun x0 => bif room (List.length ([] : List (D59)) + List.length x0.1.1) 56 then bif room (List.length (lapp ([] : List (D59)) x0.1.1) + List.length ([x0.2.1] : List (D59))) 56 then (loopF (F25.b0 x0) (iSub .i64 (List.length (lapp (lapp ([] : List (D59)) x0.1.1) ([x0.2.1] : List (D59))) : Int) (1:Int), (lapp (lapp ([] : List (D59)) x0.1.1) ([x0.2.1] : List (D59)), ()))).bind fun r8 => Sum.elim (fun v7 => (getI v7.2.1 v7.1).bind fun _ => (getN v7.2.1 (Int.toNat v7.1)).bind fun x9 => (some (List.set v7.2.1 (Int.toNat v7.1) (x0.2.1.1, (x0.2.1.2.1, (x0.2.1.2.2.1, (x0.2.1.2.2.2.1, (x0.2.1.2.2.2.2.1, ()))))))).bind fun z10 => (F83 (x0.1, ())).bind fun y11 => bif (!y11.1.1) then bif room (List.length ([] : List (D59)) + List.length x0.1.1) 56 then some ((lapp ([] : List (D59)) x0.1.1, ()), ((false, ()), ())) else none else (F83 ((z10, ()), ())).bind fun y12 => bif (!y12.1.1) then bif room (List.length ([] : List (D59)) + List.length x0.1.1) 56 then some ((lapp ([] : List (D59)) x0.1.1, ()), ((false, ()), ())) else none else some ((z10, ()), ((true, ()), ()))) some r8 else none else none
noncomputable def c25 : Con := ⟨i25, o25, F25⟩
noncomputable def C25 : Ctx := ⟨54, TT, EE, fun n => (bif Nat.ble n 83 then (bif Nat.beq n 83 then some c83 else none) else (bif Nat.beq n 89 then some c89 else none)), fun n k => [], fun n => (bif Nat.beq n 0 then (some ⟨[(.t 7 (.int .i64) .sh), (.r 18432 e59 [])], [17, 18, 19, 20, 21, 22, 23, 24, 25, 26, 27, 28, 29, 30, 31, 32, 33, 34, 35, 36, 37], []⟩) else none), fun n => none⟩
theorem q25 : ∀ x, runF C25 Tryz.f25 i25 o25 x = F25 x := by intro x; kernel_rfl
def i6 : List Grp := [⟨.agg, e55, []⟩, ⟨.agg, e40, []⟩]
def o6 : List Grp := [⟨.agg, e55, [.sh, .sh, .sh, (.own []), (.own []), (.own []), .sh, .sh, .sh, .sh, (.own []), .sh, (.own []), (.own []), .sh, (.own []), (.own []), (.own []), (.own []), (.own [])]⟩, ⟨.c, (.cons .bool .nil), []⟩]
/-- spec.Submit -/
noncomputable def F6 : (D55 × (D40 × Unit)) → Option ((D55 × ((Bool × Unit) × Unit))) := fun x0 => (F23 (x0.1, ())).bind fun y1 => (F24 (x0.1, ())).bind fun y2 => bif (!y2.1.1) then some (y1.1, ((false, ()), ())) else (F25 ((x0.1.2.2.2.2.2.2.2.2.2.2.2.2.2.2.2.2.2.2.1, ()), (x0.2.1, ()))).bind fun y3 => some ((y1.1.1, (y1.1.2.1, (y1.1.2.2.1, (y1.1.2.2.2.1, (y1.1.2.2.2.2.1, (y1.1.2.2.2.2.2.1, (y1.1.2.2.2.2.2.2.1, (y1.1.2.2.2.2.2.2.2.1, (y1.1.2.2.2.2.2.2.2.2.1, (y1.1.2.2.2.2.2.2.2.2.2.1, (y1.1.2.2.2.2.2.2.2.2.2.2.1, (y1.1.2.2.2.2.2.2.2.2.2.2.2.1, (y1.1.2.2.2.2.2.2.2.2.2.2.2.2.1, (y1.1.2.2.2.2.2.2.2.2.2.2.2.2.2.1, (y1.1.2.2.2.2.2.2.2.2.2.2.2.2.2.2.1, (y1.1.2.2.2.2.2.2.2.2.2.2.2.2.2.2.2.1, (y1.1.2.2.2.2.2.2.2.2.2.2.2.2.2.2.2.2.1, (y1.1.2.2.2.2.2.2.2.2.2.2.2.2.2.2.2.2.2.1, (y3.1.1, (y1.1.2.2.2.2.2.2.2.2.2.2.2.2.2.2.2.2.2.2.2.1, ())))))))))))))))))))), (y3.2.1, ()))
noncomputable def c6 : Con := ⟨i6, o6, F6⟩
noncomputable def C6 : Ctx := ⟨26, TT, EE, fun n => (bif Nat.ble n 23 then (bif Nat.beq n 23 then some c23 else none) else (bif Nat.ble n 24 then (bif Nat.beq n 24 then some c24 else none) else (bif Nat.beq n 25 then some c25 else none))), fun n k => [], fun n => none, fun n => none⟩
theorem q6 : ∀ x, runF C6 Tryz.f6 i6 o6 x = F6 x := by intro x; kernel_rfl
def i175 : List Grp := [⟨.c, (.cons (.sl e205) .nil), []⟩]
def o175 : List Grp := [⟨.c, (.cons (.sl e205) .nil), [(.own [])]⟩]
/-- slices.Clone[[]impl.Leave,impl.Leave] -/
noncomputable def F175 : ((List D205 × Unit) × Unit) → Option (((List D205 × Unit) × Unit)) := fun x0 => bif x0.1.1.isEmpty then both (some (([], ()), ())) (bif room (List.length ([] : List (D205)) + List.length x0.1.1) 16 then some ((lapp ([] : List (D205)) x0.1.1, ()), ()) else none) else bif room (List.length ([] : List (D205)) + List.length x0.1.1) 16 then some ((lapp ([] : List (D205)) x0.1.1, ()), ()) else none
noncomputable def c175 : Con := ⟨i175, o175, F175⟩
noncomputable def C175 : Ctx := ⟨8, TT, EE, fun n => none, fun n k => [], fun n => none, fun n => none⟩
theorem q175 : ∀ x, runF C175 Tryz.f175 i175 o175 x = F175 x := by intro x; kernel_rfl
def i144 : List Grp := [⟨.c, (.cons (.sl e183) .nil), []⟩]
def o144 : List Grp := [⟨.c, (.cons (.sl e183) .nil), [(.own [.sh, .sh, .sh, .sh, (.own [])])]⟩]
/-- impl.copyAccts -/
noncomputable def F144.b0 (x0 : ((List D183 × Unit) × Unit)) : (v1 : (List (D183) × (Int × Unit))) → Option (Sum (List (D183) × (Int × Unit)) (Sum (List (D183) × (Int × Unit)) (((List D183 × Unit) × Unit)))) := fun v1 => bif iLt v1.2.1 (List.length x0.1.1 : Int) then (getI x0.1.1 v1.2.1).bind fun x2 => (F175 ((x2.2.2.2.2.1, ()), ())).bind fun y3 => bif room (List.length v1.1 + List.length ([(x2.1, (x2.2.1, (x2.2.2.1, (x2.2.2.2.1, (y3.1.1, ())))))] : List (D183))) 64 then some (.inl (lapp v1.1 ([(x2.1, (x2.2.1, (x2.2.2.1, (x2.2.2.2.1, (y3.1.1, ())))))] : List (D183)), (iAdd .i64 v1.2.1 (1:Int), ()))) else none else some (.inr (.inl (v1.1, (v1.2.1, ()))))
noncomputable def F144 : ((List D183 × Unit) × Unit) → Option (((List D183 × Unit) × Unit)) := fun x0 => (loopF (F144.b0 x0) ([], ((0:Int), ()))).bind fun r5 => Sum.elim (fun v4 => some ((v4.1, ()), ())) some r5
noncomputable def c144 : Con := ⟨i144, o144, F144⟩
noncomputable def C144 : Ctx := ⟨22, TT, EE, fun n => (bif Nat.beq n 175 then some c175 else none), fun n k => (bif Nat.beq n 6 then (match k with | 2 => [.sh, .sh, .sh, .sh, (.own [])] | 3 => [.sh, .sh, .sh, .sh, (.own [])] | _ => []) else []), fun n => (bif Nat.beq n 0 then (some ⟨[(.t 3 (.sl e183) (.own [.sh, .sh, .sh, .sh, (.own [])])), (.t 8 (.int .i64) .sh)], [5, 9, 10, 11, 12, 13, 14, 15, 16, 17, 18, 19, 20], []⟩) else none), fun n => none⟩
theorem q144 : ∀ x, runF C144 Tryz.f144 i144 o144 x = F144 x := by intro x; kernel_rfl
def i97 : List Grp := [⟨.agg, e45, []⟩]
def o97 : List Grp := [⟨.agg, e45, [.sh, (.own [.sh, .sh, .sh, .sh, (.own [])])]⟩]
/-- impl.copyLedger -/
noncomputable def F97 : (D45 × Unit) → Option ((D45 × Unit)) := fun x0 => (F144 ((x0.1.2.1, ()), ())).bind fun y1 => some ((x0.1.1, (y1.1.1, ())), ())
noncomputable def c97 : Con := ⟨i97, o97, F97⟩
noncomputable def C97 : Ctx := ⟨9, TT, EE, fun n => (bif Nat.beq n 144 then some c144 else none), fun n k => [], fun n => none, fun n => none⟩
theorem q97 : ∀ x, runF C97 Tryz.f97 i97 o97 x = F97 x := by intro x; kernel_rfl
def i98 : List Grp := [⟨.c, (.cons (.sl e143) .nil), []⟩]
def o98 : List Grp := [⟨.c, (.cons (.sl e143) .nil), [(.own [])]⟩]
/-- slices.Clone[[]impl.Val,impl.Val] -/
noncomputable def F98 : ((List D143 × Unit) × Unit) → Option (((List D143 × Unit) × Unit)) := fun x0 => bif x0.1.1.isEmpty then both (some (([], ()), ())) (bif room (List.length ([] : List (D143)) + List.length x0.1.1) 24 then some ((lapp ([] : List (D143)) x0.1.1, ()), ()) else none) else bif room (List.length ([] : List (D143)) + List.length x0.1.1) 24 then some ((lapp ([] : List (D143)) x0.1.1, ()), ()) else none
noncomputable def c98 : Con := ⟨i98, o98, F98⟩
noncomputable def C98 : Ctx := ⟨8, TT, EE, fun n => none, fun n k => [], fun n => none, fun n => none⟩
theorem q98 : ∀ x, runF C98 Tryz.f98 i98 o98 x = F98 x := by intro x; kernel_rfl
def i146 : List Grp := [⟨.c, (.cons (.sl e9) .nil), []⟩]
def o146 : List Grp := [⟨.c, (.cons (.sl e9) .nil), [(.own [])]⟩]
/-- slices.Clone[[]string,string] -/
noncomputable def F146 : ((List D9 × Unit) × Unit) → Option (((List D9 × Unit) × Unit)) := fun x0 => bif x0.1.1.isEmpty then both (some (([], ()), ())) (bif room (List.length ([] : List (D9)) + List.length x0.1.1) 16 then some ((lapp ([] : List (D9)) x0.1.1, ()), ()) else none) else bif room (List.length ([] : List (D9)) + List.length x0.1.1) 16 then some ((lapp ([] : List (D9)) x0.1.1, ()), ()) else none
noncomputable def c146 : Con := ⟨i146, o146, F146⟩
noncomputable def C146 : Ctx := ⟨8, TT, EE, fun n => none, fun n k => [], fun n => none, fun n => none⟩
theorem q146 : ∀ x, runF C146 Tryz.f146 i146 o146 x = F146 x := by intro x; kernel_rfl
def i100 : List Grp := [⟨.agg, e29, []⟩]
def o100 : List Grp := [⟨.agg, e29, [.sh, .sh, (.own [])]⟩]
/-- impl.copyQc -/
noncomputable def F100 : (D29 × Unit) → Option ((D29 × Unit)) := fun x0 => (F146 ((x0.1.2.2.1, ()), ())).bind fun y1 => some ((x0.1.1, (x0.1.2.1, (y1.1.1, ()))), ())
noncomputable def c100 : Con := ⟨i100, o100, F100⟩
noncomputable def C100 : Ctx := ⟨8, TT, EE, fun n => (bif Nat.beq n 146 then some c146 else none), fun n k => [], fun n => none, fun n => none⟩
theorem q100 : ∀ x, runF C100 Tryz.f100 i100 o100 x = F100 x := by intro x; kernel_rfl
def i104 : List Grp := [⟨.c, (.cons (.sl e3) .nil), []⟩]
def o104 : List Grp := [⟨.c, (.cons (.sl e3) .nil), [(.own [])]⟩]
/-- slices.Clone[[]int,int] -/
noncomputable def F104 : ((List D3 × Unit) × Unit) → Option (((List D3 × Unit) × Unit)) := fun x0 => bif x0.1.1.isEmpty then both (some (([], ()), ())) (bif room (List.length ([] : List (D3)) + List.length x0.1.1) 8 then some ((lapp ([] : List (D3)) x0.1.1, ()), ()) else none) else bif room (List.length ([] : List (D3)) + List.length x0.1.1) 8 then some ((lapp ([] : List (D3)) x0.1.1, ()), ()) else none
noncomputable def c104 : Con := ⟨i104, o104, F104⟩
noncomputable def C104 : Ctx := ⟨8, TT, EE, fun n => none, fun n k => [], fun n => none, fun n => none⟩
theorem q104 : ∀ x, runF C104 Tryz.f104 i104 o104 x = F104 x := by intro x; kernel_rfl
def i101 : List Grp := [⟨.agg, e32, []⟩]
def o101 : List Grp := [⟨.agg, e32, [.sh, (.own []), (.own [])]⟩]
/-- impl.copyTc -/
noncomputable def F101 : (D32 × Unit) → Option ((D32 × Unit)) := fun x0 => (F146 ((x0.1.2.1, ()), ())).bind fun y1 => (F104 ((x0.1.2.2.1, ()), ())).bind fun y2 => some ((x0.1.1, (y1.1.1, (y2.1.1, ()))), ())
noncomputable def c101 : Con := ⟨i101, o101, F101⟩
noncomputable def C101 : Ctx := ⟨12, TT, EE, fun n => (bif Nat.ble n 104 then (bif Nat.beq n 104 then some c104 else none) else (bif Nat.beq n 146 then some c146 else none)), fun n k => [], fun n => none, fun n => none⟩
theorem q101 : ∀ x, runF C101 Tryz.f101 i101 o101 x = F101 x := by intro x; kernel_rfl
def i105 : List Grp := [⟨.c, (.cons (.sl e59) .nil), []⟩]
def o105 : List Grp := [⟨.c, (.cons (.sl e59) .nil), [(.own [])]⟩]
/-- slices.Clone[[]impl.Tx,impl.Tx] -/
noncomputable def F105 : ((List D59 × Unit) × Unit) → Option (((List D59 × Unit) × Unit)) := fun x0 => bif x0.1.1.isEmpty then both (some (([], ()), ())) (bif room (List.length ([] : List (D59)) + List.length x0.1.1) 56 then some ((lapp ([] : List (D59)) x0.1.1, ()), ()) else none) else bif room (List.length ([] : List (D59)) + List.length x0.1.1) 56 then some ((lapp ([] : List (D59)) x0.1.1, ()), ()) else none
noncomputable def c105 : Con := ⟨i105, o105, F105⟩
noncomputable def C105 : Ctx := ⟨8, TT, EE, fun n => none, fun n k => [], fun n => none, fun n => none⟩
theorem q105 : ∀ x, runF C105 Tryz.f105 i105 o105 x = F105 x := by intro x; kernel_rfl
def i145 : List Grp := [⟨.agg, e137, []⟩]
def o145 : List Grp := [⟨.agg, e137, [.sh, .sh, .sh, .sh, .sh, .sh, (.own []), .sh, (.own []), (.own []), (.own []), .sh, (.own [])]⟩]
/-- impl.copyBlock -/
noncomputable def F145 : (D137 × Unit) → Option ((D137 × Unit)) := fun x0 => (F100 ((x0.1.2.2.2.2.1, (x0.1.2.2.2.2.2.1, (x0.1.2.2.2.2.2.2.1, ()))), ())).bind fun y1 => (F101 ((x0.1.2.2.2.2.2.2.2.1, (x0.1.2.2.2.2.2.2.2.2.1, (x0.1.2.2.2.2.2.2.2.2.2.1, ()))), ())).bind fun y2 => (F105 ((x0.1.2.2.2.2.2.2.2.2.2.2.1, ()), ())).bind fun y3 => (F98 ((x0.1.2.2.2.2.2.2.2.2.2.2.2.2.1, ()), ())).bind fun y4 => some ((x0.1.1, (x0.1.2.1, (x0.1.2.2.1, (x0.1.2.2.2.1, (y1.1.1, (y1.1.2.1, (y1.1.2.2.1, (y2.1.1, (y2.1.2.1, (y2.1.2.2.1, (y3.1.1, (x0.1.2.2.2.2.2.2.2.2.2.2.2.1, (y4.1.1, (x0.1.2.2.2.2.2.2.2.2.2.2.2.2.2.1, ())))))))))))))), ())
noncomputable def c145 : Con := ⟨i145, o145, F145⟩
noncomputable def C145 : Ctx := ⟨20, TT, EE, fun n => (bif Nat.ble n 100 then (bif Nat.ble n 98 then (bif Nat.beq n 98 then some c98 else none) else (bif Nat.beq n 100 then some c100 else none)) else (bif Nat.ble n 101 then (bif Nat.beq n 101 then some c101 else none) else (bif Nat.beq n 105 then some c105 else none))), fun n k => [], fun n => none, fun n => none⟩
theorem q145 : ∀ x, runF C145 Tryz.f145 i145 o145 x = F145 x := by intro x; kernel_rfl
def i99 : List Grp := [⟨.c, (.cons (.sl e137) .nil), []⟩]
def o99 : List Grp := [⟨.c, (.cons (.sl e137) .nil), [(.own [.sh, .sh, .sh, .sh, .sh, .sh, (.own []), .sh, (.own []), (.own []), (.own []), .sh, (.own [])])]⟩]
/-- impl.copyBlocks -/
noncomputable def F99.b0 (x0 : ((List D137 × Unit) × Unit)) : (v1 : (List (D137) × (Int × Unit))) → Option (Sum (List (D137) × (Int × Unit)) (Sum (List (D137) × (Int × Unit)) (((List D137 × Unit) × Unit)))) := fun v1 => bif iLt v1.2.1 (List.length x0.1.1 : Int) then (getI x0.1.1 v1.2.1).bind fun x2 => (F145 (x2, ())).bind fun y3 => bif room (List.length v1.1 + List.length ([y3.1] : List (D137))) 208 then some (.inl (lapp v1.1 ([y3.1] : List (D137)), (iAdd .i64 v1.2.1 (1:Int), ()))) else none else some (.inr (.inl (v1.1, (v1.2.1, ()))))
noncomputable def F99 : ((List D137 × Unit) × Unit) → Option (((List D137 × Unit) × Unit)) := fun x0 => (loopF (F99.b0 x0) ([], ((0:Int), ()))).bind fun r5 => Sum.elim (fun v4 => some ((v4.1, ()), ())) some r5
noncomputable def c99 : Con := ⟨i99, o99, F99⟩
noncomputable def C99 : Ctx := ⟨19, TT, EE, fun n => (bif Nat.beq n 145 then some c145 else none), fun n k => (bif Nat.beq n 5 then (match k with | 3 => [.sh, .sh, .sh, .sh, .sh, .sh, (.own []), .sh, (.own []), (.own []), (.own []), .sh, (.own [])] | 4 => [.sh, .sh, .sh, .sh, .sh, .sh, (.own []), .sh, (.own []), (.own []), (.own []), .sh, (.own [])] | _ => []) else []), fun n => (bif Nat.beq n 0 then (some ⟨[(.t 3 (.sl e137) (.own [.sh, .sh, .sh, .sh, .sh, .sh, (.own []), .sh, (.own []), (.own []), (.own []), .sh, (.own [])])), (.t 8 (.int .i64) .sh)], [5, 9, 10, 11, 12, 13, 14, 15, 16, 17], []⟩) else none), fun n => none⟩
theorem q99 : ∀ x, runF C99 Tryz.f99 i99 o99 x = F99 x := by intro x; kernel_rfl
def i102 : List Grp := [⟨.c, (.cons (.sl e147) .nil), []⟩]
def o102 : List Grp := [⟨.c, (.cons (.sl e147) .nil), [(.own [])]⟩]
/-- slices.Clone[[]impl.Vote,impl.Vote] -/
noncomputable def F102 : ((List D147 × Unit) × Unit) → Option (((List D147 × Unit) × Unit)) := fun x0 => bif x0.1.1.isEmpty then both (some (([], ()), ())) (bif room (List.length ([] : List (D147)) + List.length x0.1.1) 32 then some ((lapp ([] : List (D147)) x0.1.1, ()), ()) else none) else bif room (List.length ([] : List (D147)) + List.length x0.1.1) 32 then some ((lapp ([] : List (D147)) x0.1.1, ()), ()) else none
noncomputable def c102 : Con := ⟨i102, o102, F102⟩
noncomputable def C102 : Ctx := ⟨8, TT, EE, fun n => none, fun n k => [], fun n => none, fun n => none⟩
theorem q102 : ∀ x, runF C102 Tryz.f102 i102 o102 x = F102 x := by intro x; kernel_rfl
def i103 : List Grp := [⟨.c, (.cons (.sl e149) .nil), []⟩]
def o103 : List Grp := [⟨.c, (.cons (.sl e149) .nil), [(.own [])]⟩]
/-- slices.Clone[[]impl.Gone,impl.Gone] -/
noncomputable def F103 : ((List D149 × Unit) × Unit) → Option (((List D149 × Unit) × Unit)) := fun x0 => bif x0.1.1.isEmpty then both (some (([], ()), ())) (bif room (List.length ([] : List (D149)) + List.length x0.1.1) 32 then some ((lapp ([] : List (D149)) x0.1.1, ()), ()) else none) else bif room (List.length ([] : List (D149)) + List.length x0.1.1) 32 then some ((lapp ([] : List (D149)) x0.1.1, ()), ()) else none
noncomputable def c103 : Con := ⟨i103, o103, F103⟩
noncomputable def C103 : Ctx := ⟨8, TT, EE, fun n => none, fun n k => [], fun n => none, fun n => none⟩
theorem q103 : ∀ x, runF C103 Tryz.f103 i103 o103 x = F103 x := by intro x; kernel_rfl
def i106 : List Grp := [⟨.agg, e129, []⟩]
def o106 : List Grp := [⟨.agg, e129, [.sh, (.own [.sh, .sh, .sh, .sh, .sh, .sh, (.own []), .sh, (.own []), (.own []), (.own []), .sh, (.own [])]), .sh, .sh, (.own [])]⟩]
/-- impl.copyProof -/
noncomputable def F106 : (D129 × Unit) → Option ((D129 × Unit)) := fun x0 => (F99 ((x0.1.2.1, ()), ())).bind fun y1 => (F100 ((x0.1.2.2.1, (x0.1.2.2.2.1, (x0.1.2.2.2.2.1, ()))), ())).bind fun y2 => some ((x0.1.1, (y1.1.1, (y2.1.1, (y2.1.2.1, (y2.1.2.2.1, ()))))), ())
noncomputable def c106 : Con := ⟨i106, o106, F106⟩
noncomputable def C106 : Ctx := ⟨12, TT, EE, fun n => (bif Nat.ble n 99 then (bif Nat.beq n 99 then some c99 else none) else (bif Nat.beq n 100 then some c100 else none)), fun n k => [], fun n => none, fun n => none⟩
theorem q106 : ∀ x, runF C106 Tryz.f106 i106 o106 x = F106 x := by intro x; kernel_rfl
def i36 : List Grp := [⟨.agg, e55, []⟩]
def o36 : List Grp := [⟨.agg, e55, [.sh, .sh, .sh, (.own [.sh, .sh, .sh, .sh, (.own [])]), (.own []), (.own [.sh, .sh, .sh, .sh, .sh, .sh, (.own []), .sh, (.own []), (.own []), (.own []), .sh, (.own [])]), .sh, .sh, .sh, .sh, (.own []), .sh, (.own []), (.own []), .sh, (.own []), (.own []), (.own []), (.own []), (.own [.sh, (.own [.sh, .sh, .sh, .sh, .sh, .sh, (.own []), .sh, (.own []), (.own []), (.own []), .sh, (.own [])]), .sh, .sh, (.own [])])]⟩]
/-- impl.copyNode -/
noncomputable def F36.b0 (x0 : (D55 × Unit)) : (v10 : (Int × (List (D129) × Unit))) → Option (Sum (Int × (List (D129) × Unit)) (Sum (Int × (List (D129) × Unit)) ((D55 × Unit)))) := fun v10 => bif iLt v10.1 (List.length x0.1.2.2.2.2.2.2.2.2.2.2.2.2.2.2.2.2.2.2.2.1 : Int) then (getI x0.1.2.2.2.2.2.2.2.2.2.2.2.2.2.2.2.2.2.2.2.1 v10.1).bind fun x11 => (F106 (x11, ())).bind fun y12 => bif room (List.length v10.2.1 + List.length ([y12.1] : List (D129))) 72 then some (.inl (iAdd .i64 v10.1 (1:Int), (lapp v10.2.1 ([y12.1] : List (D129)), ()))) else none else some (.inr (.inl (v10.1, (v10.2.1, ()))))
noncomputable def F36 : (D55 × Unit) → Option ((D55 × Unit)) := fun x0 => (F97 ((x0.1.2.2.1, (x0.1.2.2.2.1, ())), ())).bind fun y1 => (F98 ((x0.1.2.2.2.2.1, ()), ())).bind fun y2 => (F99 ((x0.1.2.2.2.2.2.1, ()), ())).bind fun y3 => (F100 ((x0.1.2.2.2.2.2.2.2.2.1, (x0.1.2.2.2.2.2.2.2.2.2.1, (x0.1.2.2.2.2.2.2.2.2.2.2.1, ()))), ())).bind fun y4 => (F101 ((x0.1.2.2.2.2.2.2.2.2.2.2.2.1, (x0.1.2.2.2.2.2.2.2.2.2.2.2.2.1, (x0.1.2.2.2.2.2.2.2.2.2.2.2.2.2.1, ()))), ())).bind fun y5 => (F102 ((x0.1.2.2.2.2.2.2.2.2.2.2.2.2.2.2.2.1, ()), ())).bind fun y6 => (F103 ((x0.1.2.2.2.2.2.2.2.2.2.2.2.2.2.2.2.2.1, ()), ())).bind fun y7 => (F104 ((x0.1.2.2.2.2.2.2.2.2.2.2.2.2.2.2.2.2.2.1, ()), ())).bind fun y8 => (F105 ((x0.1.2.2.2.2.2.2.2.2.2.2.2.2.2.2.2.2.2.2.1, ()), ())).bind fun y9 => (loopF (F36.b0 x0) ((0:Int), ([], ()))).bind fun r14 => Sum.elim (fun v13 => some ((x0.1.1, (x0.1.2.1, (y1.1.1, (y1.1.2.1, (y2.1.1, (y3.1.1, (x0.1.2.2.2.2.2.2.1, (x0.1.2.2.2.2.2.2.2.1, (y4.1.1, (y4.1.2.1, (y4.1.2.2.1, (y5.1.1, (y5.1.2.1, (y5.1.2.2.1, (x0.1.2.2.2.2.2.2.2.2.2.2.2.2.2.2.1, (y6.1.1, (y7.1.1, (y8.1.1, (y9.1.1, (v13.2.1, ())))))))))))))))))))), ())) some r14
noncomputable def c36 : Con := ⟨i36, o36, F36⟩
noncomputable def C36 : Ctx := ⟨60, TT, EE, fun n => (bif Nat.ble n 101 then (bif Nat.ble n 98 then (bif Nat.ble n 97 then (bif Nat.beq n 97 then some c97 else none) else (bif Nat.beq n 98 then some c98 else none)) else (bif Nat.ble n 99 then (bif Nat.beq n 99 then some c99 else none) else (bif Nat.ble n 100 then (bif Nat.beq n 100 then some c100 else none) else (bif Nat.beq n 101 then some c101 else none)))) else (bif Nat.ble n 103 then (bif Nat.ble n 102 then (bif Nat.beq n 102 then some c102 else none) else (bif Nat.beq n 103 then some c103 else none)) else (bif Nat.ble n 104 then (bif Nat.beq n 104 then some c104 else none) else (bif Nat.ble n 105 then (bif Nat.beq n 105 then some c105 else none) else (bif Nat.beq n 106 then some c106 else none))))), fun n k => (bif Nat.beq n 10 then (match k with | 4 => [.sh, (.own [.sh, .sh, .sh, .sh, .sh, .sh, (.own []), .sh, (.own []), (.own []), (.own []), .sh, (.own [])]), .sh, .sh, (.own [])] | 5 => [.sh, (.own [.sh, .sh, .sh, .sh, .sh, .sh, (.own []), .sh, (.own []), (.own []), (.own []), .sh, (.own [])]), .sh, .sh, (.own [])] | _ => []) else []), fun n => (bif Nat.beq n 0 then (some ⟨[(.t 47 (.int .i64) .sh), (.b 8192 19 (.sl e129) (.own [.sh, (.own [.sh, .sh, .sh, .sh, .sh, .sh, (.own []), .sh, (.own []), (.own []), (.own []), .sh, (.own [])]), .sh, .sh, (.own [])]))], [5, 48, 49, 50, 51, 52, 53, 54, 55, 56, 57, 58], []⟩) else none), fun n => none⟩
theorem q36 : ∀ x, runF C36 Tryz.f36 i36 o36 x = F36 x := by intro x; kernel_rfl
def i111 : List Grp := [⟨.c, (.cons (.int .i64) .nil), []⟩, ⟨.c, (.cons (.int .i64) .nil), []⟩, ⟨.c, (.cons (.int .i64) .nil), []⟩]
def o111 : List Grp := [⟨.c, (.cons .bool .nil), []⟩]
/-- impl.inRange -/
noncomputable def F111 : ((Int × Unit) × ((Int × Unit) × ((Int × Unit) × Unit))) → Option (((Bool × Unit) × Unit)) := fun x0 => bif iLe x0.2.1.1 x0.1.1 then some ((iLe x0.1.1 x0.2.2.1.1, ()), ()) else some ((false, ()), ())
noncomputable def c111 : Con := ⟨i111, o111, F111⟩
noncomputable def C111 : Ctx := ⟨15, TT, EE, fun n => none, fun n k => [], fun n => none, fun n => none⟩
theorem q111 : ∀ x, runF C111 Tryz.f111 i111 o111 x = F111 x := by intro x; kernel_rfl
def i107 : List Grp := [⟨.c, (.cons .str .nil), []⟩]
def o107 : List Grp := [⟨.c, (.cons .bool .nil), []⟩]
/-- impl.NameOk -/
noncomputable def F107.b0 (x0 : ((ByteArray × Unit) × Unit)) : (v1 : (Int × Unit)) → Option (Sum (Int × Unit) (Sum (Int × Unit) (((Bool × Unit) × Unit)))) := fun v1 => bif iLt v1.1 (ByteArray.size x0.1.1 : Int) then (getI (ByteArray.data x0.1.1).toList v1.1).bind fun b2 => bif iLe (97:Int) (UInt8.toNat b2 : Int) then (getI (ByteArray.data x0.1.1).toList v1.1).bind fun b3 => bif iLe (UInt8.toNat b3 : Int) (122:Int) then some (.inl (iAdd .i64 v1.1 (1:Int), ())) else (getI (ByteArray.data x0.1.1).toList v1.1).bind fun b4 => bif iLe (48:Int) (UInt8.toNat b4 : Int) then (getI (ByteArray.data x0.1.1).toList v1.1).bind fun b5 => bif (!(iLe (UInt8.toNat b5 : Int) (57:Int))) then some (.inr (.inr ((false, ()), ()))) else some (.inl (iAdd .i64 v1.1 (1:Int), ())) else some (.inr (.inr ((false, ()), ()))) else (getI (ByteArray.data x0.1.1).toList v1.1).bind fun b6 => bif iLe (48:Int) (UInt8.toNat b6 : Int) then (getI (ByteArray.data x0.1.1).toList v1.1).bind fun b7 => bif (!(iLe (UInt8.toNat b7 : Int) (57:Int))) then some (.inr (.inr ((false, ()), ()))) else some (.inl (iAdd .i64 v1.1 (1:Int), ())) else some (.inr (.inr ((false, ()), ()))) else some (.inr (.inl (v1.1, ())))
noncomputable def F107 : ((ByteArray × Unit) × Unit) → Option (((Bool × Unit) × Unit)) := fun x0 => (loopF (F107.b0 x0) ((0:Int), ())).bind fun r9 => Sum.elim (fun v8 => (F111 (((ByteArray.size x0.1.1 : Int), ()), (((1:Int), ()), (((8:Int), ()), ())))).bind fun y10 => some (y10.1, ())) some r9
noncomputable def c107 : Con := ⟨i107, o107, F107⟩
noncomputable def C107 : Ctx := ⟨36, TT, EE, fun n => (bif Nat.beq n 111 then some c111 else none), fun n k => [], fun n => (bif Nat.beq n 0 then (some ⟨[(.t 3 (.int .i64) .sh)], [2, 4, 5, 6, 7, 8, 9, 10, 11, 12, 13, 14, 15, 16, 17, 18, 19, 20, 21, 22, 23, 24, 25, 26, 27, 28, 29, 30, 31, 32], []⟩) else none), fun n => none⟩
theorem q107 : ∀ x, runF C107 Tryz.f107 i107 o107 x = F107 x := by intro x; kernel_rfl
def i192 : List Grp := [⟨.c, (.cons (.int .i64) .nil), []⟩]
def o192 : List Grp := [⟨.c, (.cons .bool .nil), []⟩]
/-- impl.isAmount -/
noncomputable def F192 : ((Int × Unit) × Unit) → Option (((Bool × Unit) × Unit)) := fun x0 => (F111 (x0.1, (((0:Int), ()), (((1000000:Int), ()), ())))).bind fun y1 => some (y1.1, ())
noncomputable def c192 : Con := ⟨i192, o192, F192⟩
noncomputable def C192 : Ctx := ⟨5, TT, EE, fun n => (bif Nat.beq n 111 then some c111 else none), fun n k => [], fun n => none, fun n => none⟩
theorem q192 : ∀ x, runF C192 Tryz.f192 i192 o192 x = F192 x := by intro x; kernel_rfl
def i176 : List Grp := [⟨.agg, e183, []⟩]
def o176 : List Grp := [⟨.c, (.cons .bool .nil), []⟩]
/-- impl.AcctOk -/
noncomputable def F176.b0 (x0 : (D183 × Unit)) : (v1 : (Int × Unit)) → Option (Sum (Int × Unit) (Sum (Int × Unit) (((Bool × Unit) × Unit)))) := fun v1 => bif iLt v1.1 (List.length x0.1.2.2.2.2.1 : Int) then (getI x0.1.2.2.2.2.1 v1.1).bind fun x2 => (F111 ((x2.1, ()), (((1:Int), ()), (((1000000:Int), ()), ())))).bind fun y3 => bif (!y3.1.1) then some (.inr (.inr ((false, ()), ()))) else (F111 ((x2.2.1, ()), (((0:Int), ()), (((1000:Int), ()), ())))).bind fun y4 => bif (!y4.1.1) then some (.inr (.inr ((false, ()), ()))) else bif iLt (0:Int) v1.1 then (getI x0.1.2.2.2.2.1 (iSub .i64 v1.1 (1:Int))).bind fun x5 => bif iLe x2.2.1 x5.2.1 then some (.inr (.inr ((false, ()), ()))) else some (.inl (iAdd .i64 v1.1 (1:Int), ())) else some (.inl (iAdd .i64 v1.1 (1:Int), ())) else some (.inr (.inl (v1.1, ())))
noncomputable def F176 : (D183 × Unit) → Option (((Bool × Unit) × Unit)) := fun x0 => (loopF (F176.b0 x0) ((0:Int), ())).bind fun r7 => Sum.elim (fun v6 => (F107 ((x0.1.1, ()), ())).bind fun y8 => bif y8.1.1 then (F192 ((x0.1.2.1, ()), ())).bind fun y9 => bif y9.1.1 then (F192 ((x0.1.2.2.2.1, ()), ())).bind fun y10 => bif y10.1.1 then (F111 ((x0.1.2.2.1, ()), (((0:Int), ()), (((10000:Int), ()), ())))).bind fun y11 => bif y11.1.1 then some ((iLe (List.length x0.1.2.2.2.2.1 : Int) (4:Int), ()), ()) else some ((false, ()), ()) else some ((false, ()), ()) else some ((false, ()), ()) else some ((false, ()), ())) some r7
noncomputable def c176 : Con := ⟨i176, o176, F176⟩
noncomputable def C176 : Ctx := ⟨64, TT, EE, fun n => (bif Nat.ble n 107 then (bif Nat.beq n 107 then some c107 else none) else (bif Nat.ble n 111 then (bif Nat.beq n 111 then some c111 else none) else (bif Nat.beq n 192 then some c192 else none))), fun n k => [], fun n => (bif Nat.beq n 0 then (some ⟨[(.t 8 (.int .i64) .sh)], [2, 3, 4, 9, 10, 11, 12, 13, 14, 15, 16, 17, 18, 19, 20, 21, 22, 23, 24, 25, 26, 27, 28, 29, 30, 31, 32, 33, 34, 35, 36, 37, 38, 39], []⟩) else none), fun n => none⟩
theorem q176 : ∀ x, runF C176 Tryz.f176 i176 o176 x = F176 x := by intro x; kernel_rfl
def i177 : List Grp := [⟨.c, (.cons (.sl e183) .nil), []⟩]
def o177 : List Grp := [⟨.c, (.cons (.int .i64) .nil), []⟩]
/-- impl.Wealth -/
noncomputable def F177.b1 (x2 : D183) : (v3 : (Int × (Int × Unit))) → Option (Sum (Int × (Int × Unit)) (Sum (Int × (Int × Unit)) (Sum (Int × (Int × Unit)) (Sum (Int × (Int × Unit)) (((Int × Unit) × Unit)))))) := fun v3 => bif iLt v3.2.1 (List.length x2.2.2.2.2.1 : Int) then (getI x2.2.2.2.2.1 v3.2.1).bind fun x4 => some (.inl (iAdd .i64 v3.1 x4.1, (iAdd .i64 v3.2.1 (1:Int), ()))) else some (.inr (.inl (v3.1, (v3.2.1, ()))))
noncomputable def F177.b0 (x0 : ((List D183 × Unit) × Unit)) : (v1 : (Int × (Int × Unit))) → Option (Sum (Int × (Int × Unit)) (Sum (Int × (Int × Unit)) (((Int × Unit) × Unit)))) := fun v1 => bif iLt v1.2.1 (List.length x0.1.1 : Int) then (getI x0.1.1 v1.2.1).bind fun x2 => (loopF (F177.b1 x2) (iAdd .i64 v1.1 (iAdd .i64 x2.2.1 x2.2.2.2.1), ((0:Int), ()))).bind fun r6 => Sum.elim (fun v5 => some (.inl (v5.1, (iAdd .i64 v1.2.1 (1:Int), ())))) some r6 else some (.inr (.inl (v1.1, (v1.2.1, ()))))
noncomputable def F177 : ((List D183 × Unit) × Unit) → Option (((Int × Unit) × Unit)) := fun x0 => (loopF (F177.b0 x0) ((0:Int), ((0:Int), ()))).bind fun r8 => Sum.elim (fun v7 => some ((v7.1, ()), ())) some r8
noncomputable def c177 : Con := ⟨i177, o177, F177⟩
noncomputable def C177 : Ctx := ⟨35, TT, EE, fun n => none, fun n k => [], fun n => (bif Nat.ble n 0 then (bif Nat.beq n 0 then (some ⟨[(.t 3 (.int .i64) .sh), (.t 10 (.int .i64) .sh)], [5, 7, 11, 12, 13, 14, 15, 16, 17, 18, 19, 20, 21, 22, 23, 24, 25, 26, 27, 28, 29, 30, 31, 32, 33], []⟩) else none) else (bif Nat.beq n 2 then (some ⟨[(.t 3 (.int .i64) .sh), (.t 24 (.int .i64) .sh)], [7, 25, 26, 27, 28, 29, 30, 31, 32], []⟩) else none)), fun n => none⟩
theorem q177 : ∀ x, runF C177 Tryz.f177 i177 o177 x = F177 x := by intro x; kernel_rfl
def i147 : List Grp := [⟨.c, (.cons (.sl e183) .nil), []⟩]
def o147 : List Grp := [⟨.c, (.cons .bool .nil), []⟩]
/-- impl.AcctsOk -/
noncomputable def F147.b0 (x0 : ((List D183 × Unit) × Unit)) : (v1 : (Int × Unit)) → Option (Sum (Int × Unit) (Sum (Int × Unit) (((Bool × Unit) × Unit)))) := fun v1 => bif iLt v1.1 (List.length x0.1.1 : Int) then (getI x0.1.1 v1.1).bind fun x2 => (F176 (x2, ())).bind fun y3 => bif (!y3.1.1) then some (.inr (.inr ((false, ()), ()))) else bif iLt (0:Int) v1.1 then (getI x0.1.1 (iSub .i64 v1.1 (1:Int))).bind fun x4 => bif sLt x2.1 x4.1 || sEq x2.1 x4.1 then some (.inr (.inr ((false, ()), ()))) else some (.inl (iAdd .i64 v1.1 (1:Int), ())) else some (.inl (iAdd .i64 v1.1 (1:Int), ())) else some (.inr (.inl (v1.1, ())))
noncomputable def F147 : ((List D183 × Unit) × Unit) → Option (((Bool × Unit) × Unit)) := fun x0 => (loopF (F147.b0 x0) ((0:Int), ())).bind fun r6 => Sum.elim (fun v5 => bif iLe (List.length x0.1.1 : Int) (12:Int) then (F177 (x0.1, ())).bind fun y7 => some ((iLe y7.1.1 (1000000:Int), ()), ()) else some ((false, ()), ())) some r6
noncomputable def c147 : Con := ⟨i147, o147, F147⟩
noncomputable def C147 : Ctx := ⟨39, TT, EE, fun n => (bif Nat.ble n 176 then (bif Nat.beq n 176 then some c176 else none) else (bif Nat.beq n 177 then some c177 else none)), fun n k => [], fun n => (bif Nat.beq n 0 then (some ⟨[(.t 7 (.int .i64) .sh)], [2, 3, 4, 8, 9, 10, 11, 12, 13, 14, 15, 16, 17, 18, 19, 20, 21, 22, 23, 24, 25, 26, 27, 28, 29, 30], []⟩) else none), fun n => none⟩
theorem q147 : ∀ x, runF C147 Tryz.f147 i147 o147 x = F147 x := by intro x; kernel_rfl
def i108 : List Grp := [⟨.agg, e45, []⟩]
def o108 : List Grp := [⟨.c, (.cons .bool .nil), []⟩]
/-- impl.LedgerOk -/
noncomputable def F108 : (D45 × Unit) → Option (((Bool × Unit) × Unit)) := fun x0 => (F111 ((x0.1.1, ()), (((0:Int), ()), (((900:Int), ()), ())))).bind fun y1 => bif y1.1.1 then (F147 ((x0.1.2.1, ()), ())).bind fun y2 => some (y2.1, ()) else some ((false, ()), ())
noncomputable def c108 : Con := ⟨i108, o108, F108⟩
noncomputable def C108 : Ctx := ⟨11, TT, EE, fun n => (bif Nat.ble n 111 then (bif Nat.beq n 111 then some c111 else none) else (bif Nat.beq n 147 then some c147 else none)), fun n k => [], fun n => none, fun n => none⟩
theorem q108 : ∀ x, runF C108 Tryz.f108 i108 o108 x = F108 x := by intro x; kernel_rfl
def i109 : List Grp := [⟨.c, (.cons (.sl e143) .nil), []⟩]
def o109 : List Grp := [⟨.c, (.cons .bool .nil), []⟩]
/-- impl.SetOk -/
noncomputable def F109.b0 (x0 : ((List D143 × Unit) × Unit)) : (v1 : (Int × Unit)) → Option (Sum (Int × Unit) (Sum (Int × Unit) (((Bool × Unit) × Unit)))) := fun v1 => bif iLt v1.1 (List.length x0.1.1 : Int) then (getI x0.1.1 v1.1).bind fun x2 => (F107 ((x2.1, ()), ())).bind fun y3 => bif (!y3.1.1) then some (.inr (.inr ((false, ()), ()))) else (F111 ((x2.2.1, ()), (((1:Int), ()), (((1000000:Int), ()), ())))).bind fun y4 => bif (!y4.1.1) then some (.inr (.inr ((false, ()), ()))) else bif iLt (0:Int) v1.1 then (getI x0.1.1 (iSub .i64 v1.1 (1:Int))).bind fun x5 => bif sLt x2.1 x5.1 || sEq x2.1 x5.1 then some (.inr (.inr ((false, ()), ()))) else some (.inl (iAdd .i64 v1.1 (1:Int), ())) else some (.inl (iAdd .i64 v1.1 (1:Int), ())) else some (.inr (.inl (v1.1, ())))
noncomputable def F109 : ((List D143 × Unit) × Unit) → Option (((Bool × Unit) × Unit)) := fun x0 => (loopF (F109.b0 x0) ((0:Int), ())).bind fun r7 => Sum.elim (fun v6 => (F111 (((List.length x0.1.1 : Int), ()), (((1:Int), ()), (((12:Int), ()), ())))).bind fun y8 => some (y8.1, ())) some r7
noncomputable def c109 : Con := ⟨i109, o109, F109⟩
noncomputable def C109 : Ctx := ⟨41, TT, EE, fun n => (bif Nat.ble n 107 then (bif Nat.beq n 107 then some c107 else none) else (bif Nat.beq n 111 then some c111 else none)), fun n k => [], fun n => (bif Nat.beq n 0 then (some ⟨[(.t 7 (.int .i64) .sh)], [2, 3, 4, 8, 9, 10, 11, 12, 13, 14, 15, 16, 17, 18, 19, 20, 21, 22, 23, 24, 25, 26, 27, 28, 29, 30, 31, 32, 33, 34, 35, 36, 37], []⟩) else none), fun n => none⟩
theorem q109 : ∀ x, runF C109 Tryz.f109 i109 o109 x = F109 x := by intro x; kernel_rfl
def i117 : List Grp := [⟨.agg, e40, []⟩]
def o117 : List Grp := [⟨.c, (.cons .bool .nil), []⟩]
/-- impl.TxOk -/
noncomputable def F117 : (D40 × Unit) → Option (((Bool × Unit) × Unit)) := fun x0 => (F111 ((x0.1.1, ()), (((1:Int), ()), (((3:Int), ()), ())))).bind fun y1 => bif (!y1.1.1) then some ((false, ()), ()) else (F107 ((x0.1.2.1, ()), ())).bind fun y2 => bif (!y2.1.1) then some ((false, ()), ()) else (F111 ((x0.1.2.2.2.1, ()), (((1:Int), ()), (((1000000:Int), ()), ())))).bind fun y3 => bif (!y3.1.1) then some ((false, ()), ()) else (F111 ((x0.1.2.2.2.2.1, ()), (((0:Int), ()), (((10000:Int), ()), ())))).bind fun y4 => bif (!y4.1.1) then some ((false, ()), ()) else bif iEq x0.1.1 (1:Int) then (F107 ((x0.1.2.2.1, ()), ())).bind fun y5 => some (y5.1, ()) else some ((sEq x0.1.2.2.1 ⟨#[]⟩, ()), ())
noncomputable def c117 : Con := ⟨i117, o117, F117⟩
noncomputable def C117 : Ctx := ⟨34, TT, EE, fun n => (bif Nat.ble n 107 then (bif Nat.beq n 107 then some c107 else none) else (bif Nat.beq n 111 then some c111 else none)), fun n k => [], fun n => none, fun n => none⟩
theorem q117 : ∀ x, runF C117 Tryz.f117 i117 o117 x = F117 x := by intro x; kernel_rfl
def i185 : List Grp := [⟨.c, (.cons .str .nil), []⟩]
def o185 : List Grp := [⟨.c, (.cons .bool .nil), []⟩]
/-- cmp.isNaN[string] -/
noncomputable def F185 : ((ByteArray × Unit) × Unit) → Option (((Bool × Unit) × Unit)) := fun x0 => some ((!sEq x0.1.1 x0.1.1, ()), ())
noncomputable def c185 : Con := ⟨i185, o185, F185⟩
noncomputable def C185 : Ctx := ⟨6, TT, EE, fun n => none, fun n k => [], fun n => none, fun n => none⟩
theorem q185 : ∀ x, runF C185 Tryz.f185 i185 o185 x = F185 x := by intro x; kernel_rfl
def i158 : List Grp := [⟨.c, (.cons .str .nil), []⟩, ⟨.c, (.cons .str .nil), []⟩]
def o158 : List Grp := [⟨.c, (.cons (.int .i64) .nil), []⟩]
/-- cmp.Compare[string] -/
noncomputable def F158 : ((ByteArray × Unit) × ((ByteArray × Unit) × Unit)) → Option (((Int × Unit) × Unit)) := fun x0 => (F185 (x0.1, ())).bind fun y1 => (F185 (x0.2.1, ())).bind fun y2 => bif y1.1.1 then bif y2.1.1 then some (((0:Int), ()), ()) else some (((-1:Int), ()), ()) else bif y2.1.1 then some (((1:Int), ()), ()) else bif sLt x0.1.1 x0.2.1.1 then some (((-1:Int), ()), ()) else bif !(sLt x0.1.1 x0.2.1.1 || sEq x0.1.1 x0.2.1.1) then some (((1:Int), ()), ()) else some (((0:Int), ()), ())
noncomputable def c158 : Con := ⟨i158, o158, F158⟩
noncomputable def C158 : Ctx := ⟨20, TT, EE, fun n => (bif Nat.beq n 185 then some c185 else none), fun n k => [], fun n => none, fun n => none⟩
theorem q158 : ∀ x, runF C158 Tryz.f158 i158 o158 x = F158 x := by intro x; kernel_rfl
def i186 : List Grp := [⟨.c, (.cons (.int .i64) .nil), []⟩]
def o186 : List Grp := [⟨.c, (.cons .bool .nil), []⟩]
/-- cmp.isNaN[int] -/
noncomputable def F186 : ((Int × Unit) × Unit) → Option (((Bool × Unit) × Unit)) := fun x0 => some ((!iEq x0.1.1 x0.1.1, ()), ())
noncomputable def c186 : Con := ⟨i186, o186, F186⟩
noncomputable def C186 : Ctx := ⟨6, TT, EE, fun n => none, fun n k => [], fun n => none, fun n => none⟩
theorem q186 : ∀ x, runF C186 Tryz.f186 i186 o186 x = F186 x := by intro x; kernel_rfl
def i159 : List Grp := [⟨.c, (.cons (.int .i64) .nil), []⟩, ⟨.c, (.cons (.int .i64) .nil), []⟩]
def o159 : List Grp := [⟨.c, (.cons (.int .i64) .nil), []⟩]
/-- cmp.Compare[int] -/
noncomputable def F159 : ((Int × Unit) × ((Int × Unit) × Unit)) → Option (((Int × Unit) × Unit)) := fun x0 => (F186 (x0.1, ())).bind fun y1 => (F186 (x0.2.1, ())).bind fun y2 => bif y1.1.1 then bif y2.1.1 then some (((0:Int), ()), ()) else some (((-1:Int), ()), ()) else bif y2.1.1 then some (((1:Int), ()), ()) else bif iLt x0.1.1 x0.2.1.1 then some (((-1:Int), ()), ()) else bif iLt x0.2.1.1 x0.1.1 then some (((1:Int), ()), ()) else some (((0:Int), ()), ())
noncomputable def c159 : Con := ⟨i159, o159, F159⟩
noncomputable def C159 : Ctx := ⟨20, TT, EE, fun n => (bif Nat.beq n 186 then some c186 else none), fun n k => [], fun n => none, fun n => none⟩
theorem q159 : ∀ x, runF C159 Tryz.f159 i159 o159 x = F159 x := by intro x; kernel_rfl
def i157 : List Grp := [⟨.c, (.cons (.sl e3) .nil), []⟩]
def o157 : List Grp := [⟨.c, (.cons (.int .i64) .nil), []⟩]
/-- cmp.Or[int] -/
noncomputable def F157.b0 (x0 : ((List D3 × Unit) × Unit)) : (v1 : (Int × Unit)) → Option (Sum (Int × Unit) (Sum (Int × Unit) (((Int × Unit) × Unit)))) := fun v1 => bif iLt v1.1 (List.length x0.1.1 : Int) then (getI x0.1.1 v1.1).bind fun x2 => bif !iEq x2.1 (0:Int) then some (.inr (.inr (x2, ()))) else some (.inl (iAdd .i64 v1.1 (1:Int), ())) else some (.inr (.inl (v1.1, ())))
noncomputable def F157 : ((List D3 × Unit) × Unit) → Option (((Int × Unit) × Unit)) := fun x0 => (loopF (F157.b0 x0) ((0:Int), ())).bind fun r4 => Sum.elim (fun v3 => some (((0:Int), ()), ())) some r4
noncomputable def c157 : Con := ⟨i157, o157, F157⟩
noncomputable def C157 : Ctx := ⟨18, TT, EE, fun n => none, fun n k => [], fun n => (bif Nat.beq n 0 then (some ⟨[(.t 8 (.int .i64) .sh)], [2, 5, 9, 10, 11, 12, 13, 14, 15, 16], []⟩) else none), fun n => none⟩
theorem q157 : ∀ x, runF C157 Tryz.f157 i157 o157 x = F157 x := by intro x; kernel_rfl
def i116 : List Grp := [⟨.agg, e40, []⟩, ⟨.agg, e40, []⟩]
def o116 : List Grp := [⟨.c, (.cons (.int .i64) .nil), []⟩]
/-- impl.compareTx -/
noncomputable def F116 : (D40 × (D40 × Unit)) → Option (((Int × Unit) × Unit)) := fun x0 => (F158 ((x0.1.2.1, ()), ((x0.2.1.2.1, ()), ()))).bind fun y1 => (F159 ((x0.1.2.2.2.2.1, ()), ((x0.2.1.2.2.2.2.1, ()), ()))).bind fun y2 => (F159 ((x0.1.1, ()), ((x0.2.1.1, ()), ()))).bind fun y3 => (F158 ((x0.1.2.2.1, ()), ((x0.2.1.2.2.1, ()), ()))).bind fun y4 => (F159 ((x0.1.2.2.2.1, ()), ((x0.2.1.2.2.2.1, ()), ()))).bind fun y5 => (F157 ((([y1.1, y2.1, y3.1, y4.1, y5.1] : List (D3)), ()), ())).bind fun y6 => some (y6.1, ())
noncomputable def c116 : Con := ⟨i116, o116, F116⟩
noncomputable def C116 : Ctx := ⟨32, TT, EE, fun n => (bif Nat.ble n 157 then (bif Nat.beq n 157 then some c157 else none) else (bif Nat.ble n 158 then (bif Nat.beq n 158 then some c158 else none) else (bif Nat.beq n 159 then some c159 else none))), fun n k => [], fun n => none, fun n => none⟩
theorem q116 : ∀ x, runF C116 Tryz.f116 i116 o116 x = F116 x := by intro x; kernel_rfl
def i148 : List Grp := [⟨.agg, e40, []⟩, ⟨.agg, e40, []⟩]
def o148 : List Grp := [⟨.c, (.cons .bool .nil), []⟩]
/-- impl.TxLess -/
noncomputable def F148 : (D40 × (D40 × Unit)) → Option (((Bool × Unit) × Unit)) := fun x0 => (F116 (x0.1, (x0.2.1, ()))).bind fun y1 => some ((iLt y1.1.1 (0:Int), ()), ())
noncomputable def c148 : Con := ⟨i148, o148, F148⟩
noncomputable def C148 : Ctx := ⟨9, TT, EE, fun n => (bif Nat.beq n 116 then some c116 else none), fun n k => [], fun n => none, fun n => none⟩
theorem q148 : ∀ x, runF C148 Tryz.f148 i148 o148 x = F148 x := by intro x; kernel_rfl
def i110 : List Grp := [⟨.c, (.cons (.sl e59) .nil), []⟩]
def o110 : List Grp := [⟨.c, (.cons .bool .nil), []⟩]
/-- impl.PoolOk -/
noncomputable def F110.b0 (x0 : ((List D59 × Unit) × Unit)) : (v1 : (Int × Unit)) → Option (Sum (Int × Unit) (Sum (Int × Unit) (((Bool × Unit) × Unit)))) := fun v1 => bif iLt v1.1 (List.length x0.1.1 : Int) then (getI x0.1.1 v1.1).bind fun x2 => (F117 (x2, ())).bind fun y3 => bif (!y3.1.1) then some (.inr (.inr ((false, ()), ()))) else bif iLt (0:Int) v1.1 then (getI x0.1.1 (iSub .i64 v1.1 (1:Int))).bind fun x4 => (F148 (x4, (x2, ()))).bind fun y5 => bif (!y5.1.1) then some (.inr (.inr ((false, ()), ()))) else some (.inl (iAdd .i64 v1.1 (1:Int), ())) else some (.inl (iAdd .i64 v1.1 (1:Int), ())) else some (.inr (.inl (v1.1, ())))
noncomputable def F110 : ((List D59 × Unit) × Unit) → Option (((Bool × Unit) × Unit)) := fun x0 => (loopF (F110.b0 x0) ((0:Int), ())).bind fun r7 => Sum.elim (fun v6 => some ((iLe (List.length x0.1.1 : Int) (20:Int), ()), ())) some r7
noncomputable def c110 : Con := ⟨i110, o110, F110⟩
noncomputable def C110 : Ctx := ⟨33, TT, EE, fun n => (bif Nat.ble n 117 then (bif Nat.beq n 117 then some c117 else none) else (bif Nat.beq n 148 then some c148 else none)), fun n k => [], fun n => (bif Nat.beq n 0 then (some ⟨[(.t 7 (.int .i64) .sh)], [2, 3, 4, 8, 9, 10, 11, 12, 13, 14, 15, 16, 17, 18, 19, 20, 21, 22, 23, 24, 25, 26, 27, 28, 29], []⟩) else none), fun n => none⟩
theorem q110 : ∀ x, runF C110 Tryz.f110 i110 o110 x = F110 x := by intro x; kernel_rfl
def i149 : List Grp := [⟨.agg, e29, []⟩]
def o149 : List Grp := [⟨.c, (.cons .bool .nil), []⟩]
/-- impl.isRoot -/
noncomputable def F149 : (D29 × Unit) → Option (((Bool × Unit) × Unit)) := fun x0 => bif iEq x0.1.1 (0:Int) then bif iEq x0.1.2.1 (-1:Int) then some ((iEq (List.length x0.1.2.2.1 : Int) (0:Int), ()), ()) else some ((false, ()), ()) else some ((false, ()), ())
noncomputable def c149 : Con := ⟨i149, o149, F149⟩
noncomputable def C149 : Ctx := ⟨17, TT, EE, fun n => none, fun n k => [], fun n => none, fun n => none⟩
theorem q149 : ∀ x, runF C149 Tryz.f149 i149 o149 x = F149 x := by intro x; kernel_rfl
def i178 : List Grp := [⟨.c, (.cons (.sl e9) .nil), []⟩]
def o178 : List Grp := [⟨.c, (.cons .bool .nil), []⟩]
/-- impl.NamesOk -/
noncomputable def F178.b0 (x0 : ((List D9 × Unit) × Unit)) : (v1 : (Int × Unit)) → Option (Sum (Int × Unit) (Sum (Int × Unit) (((Bool × Unit) × Unit)))) := fun v1 => bif iLt v1.1 (List.length x0.1.1 : Int) then (getI x0.1.1 v1.1).bind fun x2 => (F107 (x2, ())).bind fun y3 => bif (!y3.1.1) then some (.inr (.inr ((false, ()), ()))) else bif iLt (0:Int) v1.1 then (getI x0.1.1 (iSub .i64 v1.1 (1:Int))).bind fun x4 => bif sLt x2.1 x4.1 || sEq x2.1 x4.1 then some (.inr (.inr ((false, ()), ()))) else some (.inl (iAdd .i64 v1.1 (1:Int), ())) else some (.inl (iAdd .i64 v1.1 (1:Int), ())) else some (.inr (.inl (v1.1, ())))
noncomputable def F178 : ((List D9 × Unit) × Unit) → Option (((Bool × Unit) × Unit)) := fun x0 => (loopF (F178.b0 x0) ((0:Int), ())).bind fun r6 => Sum.elim (fun v5 => some ((iLe (List.length x0.1.1 : Int) (20:Int), ()), ())) some r6
noncomputable def c178 : Con := ⟨i178, o178, F178⟩
noncomputable def C178 : Ctx := ⟨32, TT, EE, fun n => (bif Nat.beq n 107 then some c107 else none), fun n k => [], fun n => (bif Nat.beq n 0 then (some ⟨[(.t 7 (.int .i64) .sh)], [2, 3, 4, 8, 9, 10, 11, 12, 13, 14, 15, 16, 17, 18, 19, 20, 21, 22, 23, 24, 25, 26, 27, 28], []⟩) else none), fun n => none⟩
theorem q178 : ∀ x, runF C178 Tryz.f178 i178 o178 x = F178 x := by intro x; kernel_rfl
def i150 : List Grp := [⟨.agg, e29, []⟩, ⟨.c, (.cons (.int .i64) .nil), []⟩, ⟨.c, (.cons (.int .i64) .nil), []⟩]
def o150 : List Grp := [⟨.c, (.cons .bool .nil), []⟩]
/-- impl.qcForm -/
noncomputable def F150 : (D29 × ((Int × Unit) × ((Int × Unit) × Unit))) → Option (((Bool × Unit) × Unit)) := fun x0 => (F149 (x0.1, ())).bind fun y1 => bif y1.1.1 then some ((true, ()), ()) else (F111 ((x0.1.1, ()), (((1:Int), ()), (x0.2.1, ())))).bind fun y2 => bif y2.1.1 then (F111 ((x0.1.2.1, ()), (((0:Int), ()), (x0.2.2.1, ())))).bind fun y3 => bif y3.1.1 then (F178 ((x0.1.2.2.1, ()), ())).bind fun y4 => some (y4.1, ()) else some ((false, ()), ()) else some ((false, ()), ())
noncomputable def c150 : Con := ⟨i150, o150, F150⟩
noncomputable def C150 : Ctx := ⟨26, TT, EE, fun n => (bif Nat.ble n 111 then (bif Nat.beq n 111 then some c111 else none) else (bif Nat.ble n 149 then (bif Nat.beq n 149 then some c149 else none) else (bif Nat.beq n 178 then some c178 else none))), fun n k => [], fun n => none, fun n => none⟩
theorem q150 : ∀ x, runF C150 Tryz.f150 i150 o150 x = F150 x := by intro x; kernel_rfl
def i198 : List Grp := [⟨.c, (.cons (.sl e9) .nil), []⟩, ⟨.c, (.cons .str .nil), []⟩]
def o198 : List Grp := [⟨.c, (.cons (.int .i64) .nil), []⟩]
/-- slices.Index[[]string,string] -/
noncomputable def F198.b0 (x0 : ((List D9 × Unit) × ((ByteArray × Unit) × Unit))) : (v1 : (Int × Unit)) → Option (Sum (Int × Unit) (Sum (Int × Unit) (((Int × Unit) × Unit)))) := fun v1 => bif iLt v1.1 (List.length x0.1.1 : Int) then (getI x0.1.1 v1.1).bind fun x2 => bif sEq x0.2.1.1 x2.1 then some (.inr (.inr ((v1.1, ()), ()))) else some (.inl (iAdd .i64 v1.1 (1:Int), ())) else some (.inr (.inl (v1.1, ())))
noncomputable def F198 : ((List D9 × Unit) × ((ByteArray × Unit) × Unit)) → Option (((Int × Unit) × Unit)) := fun x0 => (loopF (F198.b0 x0) ((0:Int), ())).bind fun r4 => Sum.elim (fun v3 => some (((-1:Int), ()), ())) some r4
noncomputable def c198 : Con := ⟨i198, o198, F198⟩
noncomputable def C198 : Ctx := ⟨19, TT, EE, fun n => none, fun n k => [], fun n => (bif Nat.beq n 0 then (some ⟨[(.t 8 (.int .i64) .sh)], [4, 5, 9, 10, 11, 12, 13, 14, 15, 16, 17, 18], []⟩) else none), fun n => none⟩
theorem q198 : ∀ x, runF C198 Tryz.f198 i198 o198 x = F198 x := by intro x; kernel_rfl
def i193 : List Grp := [⟨.c, (.cons (.sl e9) .nil), []⟩, ⟨.c, (.cons .str .nil), []⟩]
def o193 : List Grp := [⟨.c, (.cons .bool .nil), []⟩]
/-- slices.Contains[[]string,string] -/
noncomputable def F193 : ((List D9 × Unit) × ((ByteArray × Unit) × Unit)) → Option (((Bool × Unit) × Unit)) := fun x0 => (F198 (x0.1, (x0.2.1, ()))).bind fun y1 => some ((iLe (0:Int) y1.1.1, ()), ())
noncomputable def c193 : Con := ⟨i193, o193, F193⟩
noncomputable def C193 : Ctx := ⟨9, TT, EE, fun n => (bif Nat.beq n 198 then some c198 else none), fun n k => [], fun n => none, fun n => none⟩
theorem q193 : ∀ x, runF C193 Tryz.f193 i193 o193 x = F193 x := by intro x; kernel_rfl
def i179 : List Grp := [⟨.c, (.cons (.sl e143) .nil), []⟩, ⟨.c, (.cons (.sl e9) .nil), []⟩]
def o179 : List Grp := [⟨.c, (.cons (.int .i64) .nil), []⟩]
/-- impl.WeightOf -/
noncomputable def F179.b0 (x0 : ((List D143 × Unit) × ((List D9 × Unit) × Unit))) : (v1 : (Int × (Int × Unit))) → Option (Sum (Int × (Int × Unit)) (Sum (Int × (Int × Unit)) (((Int × Unit) × Unit)))) := fun v1 => bif iLt v1.2.1 (List.length x0.1.1 : Int) then (getI x0.1.1 v1.2.1).bind fun x2 => (F193 (x0.2.1, ((x2.1, ()), ()))).bind fun y3 => bif y3.1.1 then some (.inl (iAdd .i64 v1.1 x2.2.1, (iAdd .i64 v1.2.1 (1:Int), ()))) else some (.inl (v1.1, (iAdd .i64 v1.2.1 (1:Int), ()))) else some (.inr (.inl (v1.1, (v1.2.1, ()))))
noncomputable def F179 : ((List D143 × Unit) × ((List D9 × Unit) × Unit)) → Option (((Int × Unit) × Unit)) := fun x0 => (loopF (F179.b0 x0) ((0:Int), ((0:Int), ()))).bind fun r5 => Sum.elim (fun v4 => some ((v4.1, ()), ())) some r5
noncomputable def c179 : Con := ⟨i179, o179, F179⟩
noncomputable def C179 : Ctx := ⟨24, TT, EE, fun n => (bif Nat.beq n 193 then some c193 else none), fun n k => [], fun n => (bif Nat.beq n 0 then (some ⟨[(.t 5 (.int .i64) .sh), (.t 10 (.int .i64) .sh)], [7, 11, 12, 13, 14, 15, 16, 17, 18, 19, 20, 21, 22], []⟩) else none), fun n => none⟩
theorem q179 : ∀ x, runF C179 Tryz.f179 i179 o179 x = F179 x := by intro x; kernel_rfl
def i180 : List Grp := [⟨.c, (.cons (.sl e143) .nil), []⟩]
def o180 : List Grp := [⟨.c, (.cons (.int .i64) .nil), []⟩]
/-- impl.TotalOf -/
noncomputable def F180.b0 (x0 : ((List D143 × Unit) × Unit)) : (v1 : (Int × (Int × Unit))) → Option (Sum (Int × (Int × Unit)) (Sum (Int × (Int × Unit)) (((Int × Unit) × Unit)))) := fun v1 => bif iLt v1.2.1 (List.length x0.1.1 : Int) then (getI x0.1.1 v1.2.1).bind fun x2 => some (.inl (iAdd .i64 v1.1 x2.2.1, (iAdd .i64 v1.2.1 (1:Int), ()))) else some (.inr (.inl (v1.1, (v1.2.1, ()))))
noncomputable def F180 : ((List D143 × Unit) × Unit) → Option (((Int × Unit) × Unit)) := fun x0 => (loopF (F180.b0 x0) ((0:Int), ((0:Int), ()))).bind fun r4 => Sum.elim (fun v3 => some ((v3.1, ()), ())) some r4
noncomputable def c180 : Con := ⟨i180, o180, F180⟩
noncomputable def C180 : Ctx := ⟨18, TT, EE, fun n => none, fun n k => [], fun n => (bif Nat.beq n 0 then (some ⟨[(.t 3 (.int .i64) .sh), (.t 8 (.int .i64) .sh)], [5, 9, 10, 11, 12, 13, 14, 15, 16], []⟩) else none), fun n => none⟩
theorem q180 : ∀ x, runF C180 Tryz.f180 i180 o180 x = F180 x := by intro x; kernel_rfl
def i151 : List Grp := [⟨.c, (.cons (.sl e143) .nil), []⟩, ⟨.c, (.cons (.sl e9) .nil), []⟩]
def o151 : List Grp := [⟨.c, (.cons .bool .nil), []⟩]
/-- impl.IsQuorum -/
noncomputable def F151 : ((List D143 × Unit) × ((List D9 × Unit) × Unit)) → Option (((Bool × Unit) × Unit)) := fun x0 => (F179 (x0.1, (x0.2.1, ()))).bind fun y1 => (F180 (x0.1, ())).bind fun y2 => some ((iLt (iMul .i64 (2:Int) y2.1.1) (iMul .i64 (3:Int) y1.1.1), ()), ())
noncomputable def c151 : Con := ⟨i151, o151, F151⟩
noncomputable def C151 : Ctx := ⟨13, TT, EE, fun n => (bif Nat.ble n 179 then (bif Nat.beq n 179 then some c179 else none) else (bif Nat.beq n 180 then some c180 else none)), fun n k => [], fun n => none, fun n => none⟩
theorem q151 : ∀ x, runF C151 Tryz.f151 i151 o151 x = F151 x := by intro x; kernel_rfl
def i199 : List Grp := [⟨.c, (.cons (.sl e143) .nil), []⟩, ⟨.c, (.cons (.fn [3] (.cons .str (.cons (.int .i64) .nil)) (.cons .bool .nil)) .nil), []⟩]
def o199 : List Grp := [⟨.c, (.cons (.int .i64) .nil), []⟩]
/-- slices.IndexFunc[[]impl.Val,impl.Val] -/
noncomputable def F199.b0 (x0 : ((List D143 × Unit) × (((D110 → Option (Bool × Unit)) × Unit) × Unit))) : (v1 : (Int × Unit)) → Option (Sum (Int × Unit) (Sum (Int × Unit) (((Int × Unit) × Unit)))) := fun v1 => bif iLt v1.1 (List.length x0.1.1 : Int) then (getI x0.1.1 v1.1).bind fun x2 => (x0.2.1.1 x2).bind fun y3 => bif y3.1 then some (.inr (.inr ((v1.1, ()), ()))) else some (.inl (iAdd .i64 v1.1 (1:Int), ())) else some (.inr (.inl (v1.1, ())))
noncomputable def F199 : ((List D143 × Unit) × (((D110 → Option (Bool × Unit)) × Unit) × Unit)) → Option (((Int × Unit) × Unit)) := fun x0 => (loopF (F199.b0 x0) ((0:Int), ())).bind fun r5 => Sum.elim (fun v4 => some (((-1:Int), ()), ())) some r5
noncomputable def c199 : Con := ⟨i199, o199, F199⟩
noncomputable def C199 : Ctx := ⟨19, TT, EE, fun n => none, fun n k => [], fun n => (bif Nat.beq n 0 then (some ⟨[(.t 8 (.int .i64) .sh)], [4, 5, 9, 10, 11, 12, 13, 14, 15, 16, 17, 18], []⟩) else none), fun n => none⟩
theorem q199 : ∀ x, runF C199 Tryz.f199 i199 o199 x = F199 x := by intro x; kernel_rfl
def i194 : List Grp := [⟨.c, (.cons (.sl e143) .nil), []⟩, ⟨.c, (.cons (.fn [3] (.cons .str (.cons (.int .i64) .nil)) (.cons .bool .nil)) .nil), []⟩]
def o194 : List Grp := [⟨.c, (.cons .bool .nil), []⟩]
/-- slices.ContainsFunc[[]impl.Val,impl.Val] -/
noncomputable def F194 : ((List D143 × Unit) × (((D110 → Option (Bool × Unit)) × Unit) × Unit)) → Option (((Bool × Unit) × Unit)) := fun x0 => (F199 (x0.1, (x0.2.1, ()))).bind fun y1 => some ((iLe (0:Int) y1.1.1, ()), ())
noncomputable def c194 : Con := ⟨i194, o194, F194⟩
noncomputable def C194 : Ctx := ⟨9, TT, EE, fun n => (bif Nat.beq n 199 then some c199 else none), fun n k => [], fun n => none, fun n => none⟩
theorem q194 : ∀ x, runF C194 Tryz.f194 i194 o194 x = F194 x := by intro x; kernel_rfl
def i195 : List Grp := [⟨.agg, e110, []⟩, ⟨.rp, (.cons .str .nil), []⟩]
def o195 : List Grp := [⟨.c, (.cons .bool .nil), []⟩]
/-- impl.isIn$1 -/
noncomputable def F195 : (D110 × ((ByteArray × Unit) × Unit)) → Option (((Bool × Unit) × Unit)) := fun x0 => some ((sEq x0.1.1 x0.2.1.1, ()), ())
noncomputable def c195 : Con := ⟨i195, o195, F195⟩
noncomputable def C195 : Ctx := ⟨8, TT, EE, fun n => none, fun n k => [], fun n => none, fun n => none⟩
theorem q195 : ∀ x, runF C195 Tryz.f195 i195 o195 x = F195 x := by intro x; kernel_rfl
def i181 : List Grp := [⟨.c, (.cons (.sl e143) .nil), []⟩, ⟨.c, (.cons .str .nil), []⟩]
def o181 : List Grp := [⟨.c, (.cons .bool .nil), []⟩]
/-- impl.isIn -/
noncomputable def F181 : ((List D143 × Unit) × ((ByteArray × Unit) × Unit)) → Option (((Bool × Unit) × Unit)) := fun x0 => (F194 (x0.1, (((fun p1 => (F195 ((p1.1, (p1.2.1, ())), ((x0.2.1.1, ()), ()))).bind fun y2 => some (y2.1.1, ())), ()), ()))).bind fun y3 => some (y3.1, ())
noncomputable def c181 : Con := ⟨i181, o181, F181⟩
noncomputable def C181 : Ctx := ⟨8, TT, EE, fun n => (bif Nat.ble n 194 then (bif Nat.beq n 194 then some c194 else none) else (bif Nat.beq n 195 then some c195 else none)), fun n k => [], fun n => none, fun n => none⟩
theorem q181 : ∀ x, runF C181 Tryz.f181 i181 o181 x = F181 x := by intro x; kernel_rfl
def i152 : List Grp := [⟨.c, (.cons (.sl e143) .nil), []⟩, ⟨.c, (.cons (.sl e9) .nil), []⟩]
def o152 : List Grp := [⟨.c, (.cons .bool .nil), []⟩]
/-- impl.allIn -/
noncomputable def F152.b0 (x0 : ((List D143 × Unit) × ((List D9 × Unit) × Unit))) : (v1 : (Int × Unit)) → Option (Sum (Int × Unit) (Sum (Int × Unit) (((Bool × Unit) × Unit)))) := fun v1 => bif iLt v1.1 (List.length x0.2.1.1 : Int) then (getI x0.2.1.1 v1.1).bind fun x2 => (F181 (x0.1, (x2, ()))).bind fun y3 => bif (!y3.1.1) then some (.inr (.inr ((false, ()), ()))) else some (.inl (iAdd .i64 v1.1 (1:Int), ())) else some (.inr (.inl (v1.1, ())))
noncomputable def F152 : ((List D143 × Unit) × ((List D9 × Unit) × Unit)) → Option (((Bool × Unit) × Unit)) := fun x0 => (loopF (F152.b0 x0) ((0:Int), ())).bind fun r5 => Sum.elim (fun v4 => some ((true, ()), ())) some r5
noncomputable def c152 : Con := ⟨i152, o152, F152⟩
noncomputable def C152 : Ctx := ⟨18, TT, EE, fun n => (bif Nat.beq n 181 then some c181 else none), fun n k => [], fun n => (bif Nat.beq n 0 then (some ⟨[(.t 9 (.int .i64) .sh)], [4, 6, 10, 11, 12, 13, 14, 15, 16, 17], []⟩) else none), fun n => none⟩
theorem q152 : ∀ x, runF C152 Tryz.f152 i152 o152 x = F152 x := by intro x; kernel_rfl
def i112 : List Grp := [⟨.c, (.cons (.sl e143) .nil), []⟩, ⟨.agg, e29, []⟩]
def o112 : List Grp := [⟨.c, (.cons .bool .nil), []⟩]
/-- impl.QcOk -/
noncomputable def F112 : ((List D143 × Unit) × (D29 × Unit)) → Option (((Bool × Unit) × Unit)) := fun x0 => (F149 (x0.2.1, ())).bind fun y1 => bif y1.1.1 then some ((true, ()), ()) else (F150 (x0.2.1, (((10000:Int), ()), (((100000:Int), ()), ())))).bind fun y2 => bif y2.1.1 then (F151 (x0.1, ((x0.2.1.2.2.1, ()), ()))).bind fun y3 => bif y3.1.1 then (F152 (x0.1, ((x0.2.1.2.2.1, ()), ()))).bind fun y4 => some (y4.1, ()) else some ((false, ()), ()) else some ((false, ()), ())
noncomputable def c112 : Con := ⟨i112, o112, F112⟩
noncomputable def C112 : Ctx := ⟨23, TT, EE, fun n => (bif Nat.ble n 150 then (bif Nat.ble n 149 then (bif Nat.beq n 149 then some c149 else none) else (bif Nat.beq n 150 then some c150 else none)) else (bif Nat.ble n 151 then (bif Nat.beq n 151 then some c151 else none) else (bif Nat.beq n 152 then some c152 else none))), fun n k => [], fun n => none, fun n => none⟩
theorem q112 : ∀ x, runF C112 Tryz.f112 i112 o112 x = F112 x := by intro x; kernel_rfl
def i153 : List Grp := [⟨.agg, e32, []⟩]
def o153 : List Grp := [⟨.c, (.cons .bool .nil), []⟩]
/-- impl.isNone -/
noncomputable def F153 : (D32 × Unit) → Option (((Bool × Unit) × Unit)) := fun x0 => bif iEq x0.1.1 (0:Int) then bif iEq (List.length x0.1.2.1 : Int) (0:Int) then some ((iEq (List.length x0.1.2.2.1 : Int) (0:Int), ()), ()) else some ((false, ()), ()) else some ((false, ()), ())
noncomputable def c153 : Con := ⟨i153, o153, F153⟩
noncomputable def C153 : Ctx := ⟨18, TT, EE, fun n => none, fun n k => [], fun n => none, fun n => none⟩
theorem q153 : ∀ x, runF C153 Tryz.f153 i153 o153 x = F153 x := by intro x; kernel_rfl
def i154 : List Grp := [⟨.agg, e32, []⟩, ⟨.c, (.cons (.int .i64) .nil), []⟩]
def o154 : List Grp := [⟨.c, (.cons .bool .nil), []⟩]
/-- impl.tcForm -/
noncomputable def F154.b0 (x0 : (D32 × ((Int × Unit) × Unit))) : (v2 : (Int × Unit)) → Option (Sum (Int × Unit) (Sum (Int × Unit) (((Bool × Unit) × Unit)))) := fun v2 => bif iLt v2.1 (List.length x0.1.2.2.1 : Int) then (getI x0.1.2.2.1 v2.1).bind fun x3 => (F111 (x3, (((0:Int), ()), ((iSub .i64 x0.1.1 (1:Int), ()), ())))).bind fun y4 => bif (!y4.1.1) then some (.inr (.inr ((false, ()), ()))) else some (.inl (iAdd .i64 v2.1 (1:Int), ())) else some (.inr (.inl (v2.1, ())))
noncomputable def F154 : (D32 × ((Int × Unit) × Unit)) → Option (((Bool × Unit) × Unit)) := fun x0 => (F153 (x0.1, ())).bind fun y1 => bif y1.1.1 then some ((true, ()), ()) else (loopF (F154.b0 x0) ((0:Int), ())).bind fun r6 => Sum.elim (fun v5 => (F111 ((x0.1.1, ()), (((1:Int), ()), (x0.2.1, ())))).bind fun y7 => bif y7.1.1 then (F178 ((x0.1.2.1, ()), ())).bind fun y8 => bif y8.1.1 then some ((iEq (List.length x0.1.2.2.1 : Int) (List.length x0.1.2.1 : Int), ()), ()) else some ((false, ()), ()) else some ((false, ()), ())) some r6
noncomputable def c154 : Con := ⟨i154, o154, F154⟩
noncomputable def C154 : Ctx := ⟨41, TT, EE, fun n => (bif Nat.ble n 111 then (bif Nat.beq n 111 then some c111 else none) else (bif Nat.ble n 153 then (bif Nat.beq n 153 then some c153 else none) else (bif Nat.beq n 178 then some c178 else none))), fun n k => [], fun n => (bif Nat.beq n 0 then (some ⟨[(.t 12 (.int .i64) .sh)], [4, 6, 13, 14, 15, 16, 17, 18, 19, 20, 21, 22], []⟩) else none), fun n => none⟩
theorem q154 : ∀ x, runF C154 Tryz.f154 i154 o154 x = F154 x := by intro x; kernel_rfl
def i113 : List Grp := [⟨.c, (.cons (.sl e143) .nil), []⟩, ⟨.agg, e32, []⟩]
def o113 : List Grp := [⟨.c, (.cons .bool .nil), []⟩]
/-- impl.TcOk -/
noncomputable def F113 : ((List D143 × Unit) × (D32 × Unit)) → Option (((Bool × Unit) × Unit)) := fun x0 => (F153 (x0.2.1, ())).bind fun y1 => bif y1.1.1 then some ((true, ()), ()) else (F154 (x0.2.1, (((10000:Int), ()), ()))).bind fun y2 => bif y2.1.1 then (F151 (x0.1, ((x0.2.1.2.1, ()), ()))).bind fun y3 => bif y3.1.1 then (F152 (x0.1, ((x0.2.1.2.1, ()), ()))).bind fun y4 => some (y4.1, ()) else some ((false, ()), ()) else some ((false, ()), ())
noncomputable def c113 : Con := ⟨i113, o113, F113⟩
noncomputable def C113 : Ctx := ⟨23, TT, EE, fun n => (bif Nat.ble n 152 then (bif Nat.ble n 151 then (bif Nat.beq n 151 then some c151 else none) else (bif Nat.beq n 152 then some c152 else none)) else (bif Nat.ble n 153 then (bif Nat.beq n 153 then some c153 else none) else (bif Nat.beq n 154 then some c154 else none))), fun n k => [], fun n => none, fun n => none⟩
theorem q113 : ∀ x, runF C113 Tryz.f113 i113 o113 x = F113 x := by intro x; kernel_rfl
def i182 : List Grp := [⟨.c, (.cons (.sl e59) .nil), []⟩]
def o182 : List Grp := [⟨.c, (.cons .bool .nil), []⟩]
/-- impl.txsOk -/
noncomputable def F182.b0 (x0 : ((List D59 × Unit) × Unit)) : (v1 : (Int × Unit)) → Option (Sum (Int × Unit) (Sum (Int × Unit) (((Bool × Unit) × Unit)))) := fun v1 => bif iLt v1.1 (List.length x0.1.1 : Int) then (getI x0.1.1 v1.1).bind fun x2 => (F117 (x2, ())).bind fun y3 => bif (!y3.1.1) then some (.inr (.inr ((false, ()), ()))) else some (.inl (iAdd .i64 v1.1 (1:Int), ())) else some (.inr (.inl (v1.1, ())))
noncomputable def F182 : ((List D59 × Unit) × Unit) → Option (((Bool × Unit) × Unit)) := fun x0 => (loopF (F182.b0 x0) ((0:Int), ())).bind fun r5 => Sum.elim (fun v4 => some ((true, ()), ())) some r5
noncomputable def c182 : Con := ⟨i182, o182, F182⟩
noncomputable def C182 : Ctx := ⟨15, TT, EE, fun n => (bif Nat.beq n 117 then some c117 else none), fun n k => [], fun n => (bif Nat.beq n 0 then (some ⟨[(.t 7 (.int .i64) .sh)], [2, 4, 8, 9, 10, 11, 12, 13, 14], []⟩) else none), fun n => none⟩
theorem q182 : ∀ x, runF C182 Tryz.f182 i182 o182 x = F182 x := by intro x; kernel_rfl
def i155 : List Grp := [⟨.agg, e137, []⟩]
def o155 : List Grp := [⟨.c, (.cons .bool .nil), []⟩]
/-- impl.BlockOk -/
noncomputable def F155 : (D137 × Unit) → Option (((Bool × Unit) × Unit)) := fun x0 => (F111 ((x0.1.1, ()), (((0:Int), ()), (((100000:Int), ()), ())))).bind fun y1 => bif (!y1.1.1) then some ((false, ()), ()) else (F111 ((x0.1.2.1, ()), (((0:Int), ()), (((900:Int), ()), ())))).bind fun y2 => bif (!y2.1.1) then some ((false, ()), ()) else (F111 ((x0.1.2.2.1, ()), (((1:Int), ()), (((10000:Int), ()), ())))).bind fun y3 => bif (!y3.1.1) then some ((false, ()), ()) else (F107 ((x0.1.2.2.2.1, ()), ())).bind fun y4 => bif (!y4.1.1) then some ((false, ()), ()) else (F150 ((x0.1.2.2.2.2.1, (x0.1.2.2.2.2.2.1, (x0.1.2.2.2.2.2.2.1, ()))), ((iSub .i64 x0.1.2.2.1 (1:Int), ()), ((iSub .i64 x0.1.1 (1:Int), ()), ())))).bind fun y5 => bif (!y5.1.1) then some ((false, ()), ()) else (F154 ((x0.1.2.2.2.2.2.2.2.1, (x0.1.2.2.2.2.2.2.2.2.1, (x0.1.2.2.2.2.2.2.2.2.2.1, ()))), ((iSub .i64 x0.1.2.2.1 (1:Int), ()), ()))).bind fun y6 => bif (!y6.1.1) then some ((false, ()), ()) else bif iLt (4:Int) (List.length x0.1.2.2.2.2.2.2.2.2.2.2.1 : Int) then some ((false, ()), ()) else (F182 ((x0.1.2.2.2.2.2.2.2.2.2.2.1, ()), ())).bind fun y7 => bif (!y7.1.1) then some ((false, ()), ()) else bif (!x0.1.2.2.2.2.2.2.2.2.2.2.2.1) then bif iEq (List.length x0.1.2.2.2.2.2.2.2.2.2.2.2.2.1 : Int) (0:Int) then some ((sEq x0.1.2.2.2.2.2.2.2.2.2.2.2.2.2.1 ⟨#[]⟩, ()), ()) else some ((false, ()), ()) else (F109 ((x0.1.2.2.2.2.2.2.2.2.2.2.2.2.1, ()), ())).bind fun y8 => bif y8.1.1 then some ((iEq (ByteArray.size x0.1.2.2.2.2.2.2.2.2.2.2.2.2.2.1 : Int) (32:Int), ()), ()) else some ((false, ()), ())
noncomputable def c155 : Con := ⟨i155, o155, F155⟩
noncomputable def C155 : Ctx := ⟨77, TT, EE, fun n => (bif Nat.ble n 111 then (bif Nat.ble n 107 then (bif Nat.beq n 107 then some c107 else none) else (bif Nat.ble n 109 then (bif Nat.beq n 109 then some c109 else none) else (bif Nat.beq n 111 then some c111 else none))) else (bif Nat.ble n 150 then (bif Nat.beq n 150 then some c150 else none) else (bif Nat.ble n 154 then (bif Nat.beq n 154 then some c154 else none) else (bif Nat.beq n 182 then some c182 else none)))), fun n k => [], fun n => none, fun n => none⟩
theorem q155 : ∀ x, runF C155 Tryz.f155 i155 o155 x = F155 x := by intro x; kernel_rfl
def i183 : List Grp := [⟨.c, (.cons (.sl e137) .nil), []⟩, ⟨.c, (.cons (.fn [15] (.cons (.int .i64) (.cons (.int .i64) (.cons (.int .i64) (.cons .str (.cons (.int .i64) (.cons (.int .i64) (.cons (.sl e9) (.cons (.int .i64) (.cons (.sl e9) (.cons (.sl e3) (.cons (.sl e59) (.cons .bool (.cons (.sl e143) (.cons .str .nil)))))))))))))) (.cons .bool .nil)) .nil), []⟩]
def o183 : List Grp := [⟨.c, (.cons (.int .i64) .nil), []⟩]
/-- slices.IndexFunc[[]impl.Block,impl.Block] -/
noncomputable def F183.b0 (x0 : ((List D137 × Unit) × (((D137 → Option (Bool × Unit)) × Unit) × Unit))) : (v1 : (Int × Unit)) → Option (Sum (Int × Unit) (Sum (Int × Unit) (((Int × Unit) × Unit)))) := fun v1 => bif iLt v1.1 (List.length x0.1.1 : Int) then (getI x0.1.1 v1.1).bind fun x2 => (x0.2.1.1 x2).bind fun y3 => bif y3.1 then some (.inr (.inr ((v1.1, ()), ()))) else some (.inl (iAdd .i64 v1.1 (1:Int), ())) else some (.inr (.inl (v1.1, ())))
noncomputable def F183 : ((List D137 × Unit) × (((D137 → Option (Bool × Unit)) × Unit) × Unit)) → Option (((Int × Unit) × Unit)) := fun x0 => (loopF (F183.b0 x0) ((0:Int), ())).bind fun r5 => Sum.elim (fun v4 => some (((-1:Int), ()), ())) some r5
noncomputable def c183 : Con := ⟨i183, o183, F183⟩
noncomputable def C183 : Ctx := ⟨19, TT, EE, fun n => none, fun n k => [], fun n => (bif Nat.beq n 0 then (some ⟨[(.t 8 (.int .i64) .sh)], [4, 5, 9, 10, 11, 12, 13, 14, 15, 16, 17, 18], []⟩) else none), fun n => none⟩
theorem q183 : ∀ x, runF C183 Tryz.f183 i183 o183 x = F183 x := by intro x; kernel_rfl
def i184 : List Grp := [⟨.agg, e137, []⟩, ⟨.rp, (.cons (.int .i64) .nil), []⟩]
def o184 : List Grp := [⟨.c, (.cons .bool .nil), []⟩]
/-- impl.blockAt$1 -/
noncomputable def F184 : (D137 × ((Int × Unit) × Unit)) → Option (((Bool × Unit) × Unit)) := fun x0 => some ((iEq x0.1.1 x0.2.1.1, ()), ())
noncomputable def c184 : Con := ⟨i184, o184, F184⟩
noncomputable def C184 : Ctx := ⟨8, TT, EE, fun n => none, fun n k => [], fun n => none, fun n => none⟩
theorem q184 : ∀ x, runF C184 Tryz.f184 i184 o184 x = F184 x := by intro x; kernel_rfl
def i156 : List Grp := [⟨.c, (.cons (.sl e137) .nil), []⟩, ⟨.c, (.cons (.int .i64) .nil), []⟩]
def o156 : List Grp := [⟨.c, (.cons (.int .i64) .nil), []⟩]
/-- impl.blockAt -/
noncomputable def F156 : ((List D137 × Unit) × ((Int × Unit) × Unit)) → Option (((Int × Unit) × Unit)) := fun x0 => (F183 (x0.1, (((fun p1 => (F184 ((p1.1, (p1.2.1, (p1.2.2.1, (p1.2.2.2.1, (p1.2.2.2.2.1, (p1.2.2.2.2.2.1, (p1.2.2.2.2.2.2.1, (p1.2.2.2.2.2.2.2.1, (p1.2.2.2.2.2.2.2.2.1, (p1.2.2.2.2.2.2.2.2.2.1, (p1.2.2.2.2.2.2.2.2.2.2.1, (p1.2.2.2.2.2.2.2.2.2.2.2.1, (p1.2.2.2.2.2.2.2.2.2.2.2.2.1, (p1.2.2.2.2.2.2.2.2.2.2.2.2.2.1, ())))))))))))))), ((x0.2.1.1, ()), ()))).bind fun y2 => some (y2.1.1, ())), ()), ()))).bind fun y3 => some (y3.1, ())
noncomputable def c156 : Con := ⟨i156, o156, F156⟩
noncomputable def C156 : Ctx := ⟨8, TT, EE, fun n => (bif Nat.ble n 183 then (bif Nat.beq n 183 then some c183 else none) else (bif Nat.beq n 184 then some c184 else none)), fun n k => [], fun n => none, fun n => none⟩
theorem q156 : ∀ x, runF C156 Tryz.f156 i156 o156 x = F156 x := by intro x; kernel_rfl
def i114 : List Grp := [⟨.c, (.cons (.sl e137) .nil), []⟩]
def o114 : List Grp := [⟨.c, (.cons .bool .nil), []⟩]
/-- impl.TreeOk -/
noncomputable def F114.b0 (x0 : ((List D137 × Unit) × Unit)) : (v1 : (Int × Unit)) → Option (Sum (Int × Unit) (Sum (Int × Unit) (((Bool × Unit) × Unit)))) := fun v1 => bif iLt v1.1 (List.length x0.1.1 : Int) then (getI x0.1.1 v1.1).bind fun x2 => Option.bind ((F155 (x2, ())).bind fun y3 => bif (!y3.1.1) then some (.inr (.inr (.inr ((false, ()), ())))) else (getI x0.1.1 (0:Int)).bind fun x4 => bif !iEq x2.2.1 x4.2.1 then some (.inr (.inr (.inr ((false, ()), ())))) else bif iLt (0:Int) v1.1 then (getI x0.1.1 (iSub .i64 v1.1 (1:Int))).bind fun x5 => bif iLe x2.1 x5.1 then some (.inr (.inr (.inr ((false, ()), ())))) else some (.inl ()) else some (.inl ())) fun r7 => Sum.elim (fun v6 => (F149 ((x2.2.2.2.2.1, (x2.2.2.2.2.2.1, (x2.2.2.2.2.2.2.1, ()))), ())).bind fun y8 => bif y8.1.1 then some (.inl (iAdd .i64 v1.1 (1:Int), ())) else (F156 (x0.1, ((x2.2.2.2.2.2.1, ()), ()))).bind fun y9 => bif iLt y9.1.1 (0:Int) then some (.inr (.inr ((false, ()), ()))) else (getI x0.1.1 y9.1.1).bind fun x10 => bif !iEq x10.2.2.1 x2.2.2.2.2.1 then some (.inr (.inr ((false, ()), ()))) else some (.inl (iAdd .i64 v1.1 (1:Int), ()))) some r7 else some (.inr (.inl (v1.1, ())))
noncomputable def F114 : ((List D137 × Unit) × Unit) → Option (((Bool × Unit) × Unit)) := fun x0 => (loopF (F114.b0 x0) ((0:Int), ())).bind fun r12 => Sum.elim (fun v11 => some ((iLe (List.length x0.1.1 : Int) (400:Int), ()), ())) some r12
noncomputable def c114 : Con := ⟨i114, o114, F114⟩
noncomputable def C114 : Ctx := ⟨65, TT, EE, fun n => (bif Nat.ble n 149 then (bif Nat.beq n 149 then some c149 else none) else (bif Nat.ble n 155 then (bif Nat.beq n 155 then some c155 else none) else (bif Nat.beq n 156 then some c156 else none))), fun n k => [], fun n => (bif Nat.beq n 0 then (some ⟨[(.t 8 (.int .i64) .sh)], [2, 3, 4, 5, 9, 10, 11, 12, 13, 14, 15, 16, 17, 18, 19, 20, 21, 22, 23, 24, 25, 26, 27, 28, 29, 30, 31, 32, 33, 34, 35, 36, 37, 38, 39, 40, 41, 42, 43, 44, 45, 46, 47, 48, 49, 50, 51, 52, 53, 54, 55, 56, 57, 58, 59, 60, 61], []⟩) else none), fun n => (bif Nat.beq n 6 then (some ⟨[], [13, 14, 15, 16, 17, 18, 19, 20, 21, 22, 23, 24, 25, 26, 27, 28, 29, 30, 31, 32, 33, 34, 35, 36, 37, 38, 39], []⟩) else none)⟩
theorem q114 : ∀ x, runF C114 Tryz.f114 i114 o114 x = F114 x := by intro x; kernel_rfl
def i37 : List Grp := [⟨.agg, e55, []⟩]
def o37 : List Grp := [⟨.c, (.cons .bool .nil), []⟩]
/-- impl.NodeOk -/
noncomputable def F37 : (D55 × Unit) → Option (((Bool × Unit) × Unit)) := fun x0 => Option.bind ((F107 ((x0.1.1, ()), ())).bind fun y1 => bif (!y1.1.1) then some (.inr ((false, ()), ())) else (F108 ((x0.1.2.2.1, (x0.1.2.2.2.1, ())), ())).bind fun y2 => bif (!y2.1.1) then some (.inr ((false, ()), ())) else bif !iEq x0.1.2.2.1 x0.1.2.1 then some (.inr ((false, ()), ())) else bif iLt (0:Int) (List.length x0.1.2.2.2.2.1 : Int) then (F109 ((x0.1.2.2.2.2.1, ()), ())).bind fun y3 => bif (!y3.1.1) then some (.inr ((false, ()), ())) else (F110 ((x0.1.2.2.2.2.2.2.2.2.2.2.2.2.2.2.2.2.2.2.1, ()), ())).bind fun y4 => bif (!y4.1.1) then some (.inr ((false, ()), ())) else some (.inl ()) else (F110 ((x0.1.2.2.2.2.2.2.2.2.2.2.2.2.2.2.2.2.2.2.1, ()), ())).bind fun y5 => bif (!y5.1.1) then some (.inr ((false, ()), ())) else some (.inl ())) fun r7 => Sum.elim (fun v6 => (F111 ((x0.1.2.2.2.2.2.2.1, ()), (((1:Int), ()), (((10000:Int), ()), ())))).bind fun y8 => bif (!y8.1.1) then some ((false, ()), ()) else (F111 ((x0.1.2.2.2.2.2.2.2.1, ()), (((0:Int), ()), (((10000:Int), ()), ())))).bind fun y9 => bif (!y9.1.1) then some ((false, ()), ()) else (F111 ((x0.1.2.2.2.2.2.2.2.2.2.2.2.2.2.2.1, ()), (((0:Int), ()), (((10000:Int), ()), ())))).bind fun y10 => bif (!y10.1.1) then some ((false, ()), ()) else (F112 ((x0.1.2.2.2.2.1, ()), ((x0.1.2.2.2.2.2.2.2.2.1, (x0.1.2.2.2.2.2.2.2.2.2.1, (x0.1.2.2.2.2.2.2.2.2.2.2.1, ()))), ()))).bind fun y11 => bif (!y11.1.1) then some ((false, ()), ()) else (F113 ((x0.1.2.2.2.2.1, ()), ((x0.1.2.2.2.2.2.2.2.2.2.2.2.1, (x0.1.2.2.2.2.2.2.2.2.2.2.2.2.1, (x0.1.2.2.2.2.2.2.2.2.2.2.2.2.2.1, ()))), ()))).bind fun y12 => bif (!y12.1.1) then some ((false, ()), ()) else bif iLe x0.1.2.2.2.2.2.2.1 x0.1.2.2.2.2.2.2.2.2.1 then some ((false, ()), ()) else bif iLe x0.1.2.2.2.2.2.2.1 x0.1.2.2.2.2.2.2.2.2.2.2.2.1 then some ((false, ()), ()) else bif iLt (1000:Int) (List.length x0.1.2.2.2.2.2.2.2.2.2.2.2.2.2.2.2.1 : Int) then some ((false, ()), ()) else bif iLt (1000:Int) (List.length x0.1.2.2.2.2.2.2.2.2.2.2.2.2.2.2.2.2.1 : Int) then some ((false, ()), ()) else bif iLt (200:Int) (List.length x0.1.2.2.2.2.2.2.2.2.2.2.2.2.2.2.2.2.2.1 : Int) then some ((false, ()), ()) else bif iLt (200:Int) (List.length x0.1.2.2.2.2.2.2.2.2.2.2.2.2.2.2.2.2.2.2.2.1 : Int) then some ((false, ()), ()) else (F114 ((x0.1.2.2.2.2.2.1, ()), ())).bind fun y13 => bif y13.1.1 then bif iEq (List.length x0.1.2.2.2.2.2.1 : Int) (0:Int) then some ((true, ()), ()) else (getI x0.1.2.2.2.2.2.1 (0:Int)).bind fun x14 => some ((iEq x14.2.1 x0.1.2.1, ()), ()) else some ((false, ()), ())) some r7
noncomputable def c37 : Con := ⟨i37, o37, F37⟩
noncomputable def C37 : Ctx := ⟨126, TT, EE, fun n => (bif Nat.ble n 110 then (bif Nat.ble n 108 then (bif Nat.ble n 107 then (bif Nat.beq n 107 then some c107 else none) else (bif Nat.beq n 108 then some c108 else none)) else (bif Nat.ble n 109 then (bif Nat.beq n 109 then some c109 else none) else (bif Nat.beq n 110 then some c110 else none))) else (bif Nat.ble n 112 then (bif Nat.ble n 111 then (bif Nat.beq n 111 then some c111 else none) else (bif Nat.beq n 112 then some c112 else none)) else (bif Nat.ble n 113 then (bif Nat.beq n 113 then some c113 else none) else (bif Nat.beq n 114 then some c114 else none)))), fun n k => [], fun n => none, fun n => (bif Nat.beq n 3 then (some ⟨[], [3, 4, 5, 6, 7, 8, 9, 10, 11, 12, 13, 14, 15, 16, 17, 18, 19, 20, 21, 22, 23, 24, 25, 26, 27, 28, 29, 30, 31, 32, 33, 34, 35, 36, 37, 38], []⟩) else none)⟩
theorem q37 : ∀ x, runF C37 Tryz.f37 i37 o37 x = F37 x := by intro x; kernel_rfl
def i115 : List Grp := [⟨.c, (.cons (.sl e59) .nil), []⟩, ⟨.agg, e40, []⟩, ⟨.c, (.cons (.fn [6, 6] (.cons (.int .i64) (.cons .str (.cons .str (.cons (.int .i64) (.cons (.int .i64) (.cons (.int .i64) (.cons .str (.cons .str (.cons (.int .i64) (.cons (.int .i64) .nil)))))))))) (.cons (.int .i64) .nil)) .nil), []⟩]
def o115 : List Grp := [⟨.c, (.cons (.int .i64) .nil), []⟩, ⟨.c, (.cons .bool .nil), []⟩]
/-- slices.BinarySearchFunc[[]impl.Tx,impl.Tx,impl.Tx] -/
noncomputable def F115.b0 (x0 : ((List D59 × Unit) × (D40 × ((((Int × (ByteArray × (ByteArray × (Int × (Int × (Int × (ByteArray × (ByteArray × (Int × (Int × Unit)))))))))) → Option (Int × Unit)) × Unit) × Unit)))) : (v1 : (Int × (Int × Unit))) → Option (Sum (Int × (Int × Unit)) (Sum (Int × (Int × Unit)) (((Int × Unit) × ((Bool × Unit) × Unit))))) := fun v1 => bif iLt v1.1 v1.2.1 then bif iLt (1:Int) 0 then none else (getI x0.1.1 (IntKind.wrap .i64 (iShr .u64 (IntKind.wrap .u64 (iAdd .i64 v1.1 v1.2.1)) (1:Int)))).bind fun x2 => (x0.2.2.1.1 (x2.1, (x2.2.1, (x2.2.2.1, (x2.2.2.2.1, (x2.2.2.2.2.1, (x0.2.1.1, (x0.2.1.2.1, (x0.2.1.2.2.1, (x0.2.1.2.2.2.1, (x0.2.1.2.2.2.2.1, ()))))))))))).bind fun y3 => bif iLt y3.1 (0:Int) then some (.inl (iAdd .i64 (IntKind.wrap .i64 (iShr .u64 (IntKind.wrap .u64 (iAdd .i64 v1.1 v1.2.1)) (1:Int))) (1:Int), (v1.2.1, ()))) else some (.inl (v1.1, (IntKind.wrap .i64 (iShr .u64 (IntKind.wrap .u64 (iAdd .i64 v1.1 v1.2.1)) (1:Int)), ()))) else some (.inr (.inl (v1.1, (v1.2.1, ()))))
noncomputable def F115 : ((List D59 × Unit) × (D40 × ((((Int × (ByteArray × (ByteArray × (Int × (Int × (Int × (ByteArray × (ByteArray × (Int × (Int × Unit)))))))))) → Option (Int × Unit)) × Unit) × Unit))) → Option (((Int × Unit) × ((Bool × Unit) × Unit))) := fun x0 => (loopF (F115.b0 x0) ((0:Int), ((List.length x0.1.1 : Int), ()))).bind fun r5 => Sum.elim (fun v4 => bif iLt v4.1 (List.length x0.1.1 : Int) then (getI x0.1.1 v4.1).bind fun x6 => (x0.2.2.1.1 (x6.1, (x6.2.1, (x6.2.2.1, (x6.2.2.2.1, (x6.2.2.2.2.1, (x0.2.1.1, (x0.2.1.2.1, (x0.2.1.2.2.1, (x0.2.1.2.2.2.1, (x0.2.1.2.2.2.2.1, ()))))))))))).bind fun y7 => some ((v4.1, ()), ((iEq y7.1 (0:Int), ()), ())) else some ((v4.1, ()), ((false, ()), ()))) some r5
noncomputable def c115 : Con := ⟨i115, o115, F115⟩
noncomputable def C115 : Ctx := ⟨49, TT, EE, fun n => none, fun n k => [], fun n => (bif Nat.beq n 0 then (some ⟨[(.t 9 (.int .i64) .sh), (.t 10 (.int .i64) .sh)], [11, 15, 16, 17, 18, 19, 20, 21, 22, 23, 24, 25, 26, 27, 28, 29, 30, 31, 32, 33, 34], []⟩) else none), fun n => none⟩
theorem q115 : ∀ x, runF C115 Tryz.f115 i115 o115 x = F115 x := by intro x; kernel_rfl
def i118 : List Grp := [⟨.c, (.cons (.sl e59) .nil), [(.own [])]⟩, ⟨.c, (.cons (.int .i64) .nil), []⟩, ⟨.c, (.cons (.sl e59) .nil), [(.own [])]⟩]
def o118 : List Grp := [⟨.c, (.cons (.sl e59) .nil), [(.own [])]⟩]
/-- slices.Insert[[]impl.Tx,impl.Tx] -/
noncomputable def F118 : ((List D59 × Unit) × ((Int × Unit) × ((List D59 × Unit) × Unit))) → Option (((List D59 × Unit) × Unit)) := insF e59 56
noncomputable def c118 : Con := ⟨i118, o118, F118⟩
def i38 : List Grp := [⟨.c, (.cons (.sl e59) .nil), []⟩, ⟨.agg, e40, []⟩]
def o38 : List Grp := [⟨.c, (.cons (.sl e59) .nil), [(.own [])]⟩, ⟨.c, (.cons .bool .nil), []⟩]
/-- impl.PoolAdd -/
noncomputable def F38 : ((List D59 × Unit) × (D40 × Unit)) → Option (((List D59 × Unit) × ((Bool × Unit) × Unit))) := fun x0 => (F105 (x0.1, ())).bind fun y1 => (F115 (x0.1, (x0.2.1, (((fun p2 => (F116 ((p2.1, (p2.2.1, (p2.2.2.1, (p2.2.2.2.1, (p2.2.2.2.2.1, ()))))), ((p2.2.2.2.2.2.1, (p2.2.2.2.2.2.2.1, (p2.2.2.2.2.2.2.2.1, (p2.2.2.2.2.2.2.2.2.1, (p2.2.2.2.2.2.2.2.2.2.1, ()))))), ()))).bind fun y3 => some (y3.1.1, ())), ()), ())))).bind fun y4 => bif y4.2.1.1 then some (y1.1, ((false, ()), ())) else bif iLe (20:Int) (List.length x0.1.1 : Int) then some (y1.1, ((false, ()), ())) else (F117 (x0.2.1, ())).bind fun y5 => bif (!y5.1.1) then some (y1.1, ((false, ()), ())) else (F110 (x0.1, ())).bind fun y6 => bif (!y6.1.1) then some (y1.1, ((false, ()), ())) else (F118 (y1.1, (y4.1, ((([x0.2.1] : List (D59)), ()), ())))).bind fun y7 => some (y7.1, ((true, ()), ()))
noncomputable def c38 : Con := ⟨i38, o38, F38⟩
noncomputable def C38 : Ctx := ⟨39, TT, EE, fun n => (bif Nat.ble n 115 then (bif Nat.ble n 105 then (bif Nat.beq n 105 then some c105 else none) else (bif Nat.ble n 110 then (bif Nat.beq n 110 then some c110 else none) else (bif Nat.beq n 115 then some c115 else none))) else (bif Nat.ble n 116 then (bif Nat.beq n 116 then some c116 else none) else (bif Nat.ble n 117 then (bif Nat.beq n 117 then some c117 else none) else (bif Nat.beq n 118 then some c118 else none)))), fun n k => [], fun n => none, fun n => none⟩
theorem q38 : ∀ x, runF C38 Tryz.f38 i38 o38 x = F38 x := by intro x; kernel_rfl
def i9 : List Grp := [⟨.agg, e55, []⟩, ⟨.agg, e40, []⟩]
def o9 : List Grp := [⟨.agg, e55, [.sh, .sh, .sh, (.own [.sh, .sh, .sh, .sh, (.own [])]), (.own []), (.own [.sh, .sh, .sh, .sh, .sh, .sh, (.own []), .sh, (.own []), (.own []), (.own []), .sh, (.own [])]), .sh, .sh, .sh, .sh, (.own []), .sh, (.own []), (.own []), .sh, (.own []), (.own []), (.own []), (.own []), (.own [.sh, (.own [.sh, .sh, .sh, .sh, .sh, .sh, (.own []), .sh, (.own []), (.own []), (.own []), .sh, (.own [])]), .sh, .sh, (.own [])])]⟩, ⟨.c, (.cons .bool .nil), []⟩]
/-- impl.Submit -/
noncomputable def F9 : (D55 × (D40 × Unit)) → Option ((D55 × ((Bool × Unit) × Unit))) := fun x0 => (F36 (x0.1, ())).bind fun y1 => (F37 (x0.1, ())).bind fun y2 => bif (!y2.1.1) then some (y1.1, ((false, ()), ())) else (F38 ((x0.1.2.2.2.2.2.2.2.2.2.2.2.2.2.2.2.2.2.2.1, ()), (x0.2.1, ()))).bind fun y3 => some ((y1.1.1, (y1.1.2.1, (y1.1.2.2.1, (y1.1.2.2.2.1, (y1.1.2.2.2.2.1, (y1.1.2.2.2.2.2.1, (y1.1.2.2.2.2.2.2.1, (y1.1.2.2.2.2.2.2.2.1, (y1.1.2.2.2.2.2.2.2.2.1, (y1.1.2.2.2.2.2.2.2.2.2.1, (y1.1.2.2.2.2.2.2.2.2.2.2.1, (y1.1.2.2.2.2.2.2.2.2.2.2.2.1, (y1.1.2.2.2.2.2.2.2.2.2.2.2.2.1, (y1.1.2.2.2.2.2.2.2.2.2.2.2.2.2.1, (y1.1.2.2.2.2.2.2.2.2.2.2.2.2.2.2.1, (y1.1.2.2.2.2.2.2.2.2.2.2.2.2.2.2.2.1, (y1.1.2.2.2.2.2.2.2.2.2.2.2.2.2.2.2.2.1, (y1.1.2.2.2.2.2.2.2.2.2.2.2.2.2.2.2.2.2.1, (y3.1.1, (y1.1.2.2.2.2.2.2.2.2.2.2.2.2.2.2.2.2.2.2.2.1, ())))))))))))))))))))), (y3.2.1, ()))
noncomputable def c9 : Con := ⟨i9, o9, F9⟩
noncomputable def C9 : Ctx := ⟨26, TT, EE, fun n => (bif Nat.ble n 36 then (bif Nat.beq n 36 then some c36 else none) else (bif Nat.ble n 37 then (bif Nat.beq n 37 then some c37 else none) else (bif Nat.beq n 38 then some c38 else none))), fun n k => [], fun n => none, fun n => none⟩
theorem q9 : ∀ x, runF C9 Tryz.f9 i9 o9 x = F9 x := by intro x; kernel_rfl
def i197 : List Grp := [⟨.agg, e212, []⟩, ⟨.agg, e212, []⟩]
def o197 : List Grp := [⟨.c, (.cons .bool .nil), []⟩]
/-- laws.eqLeave -/
noncomputable def F197 : (D212 × (D212 × Unit)) → Option (((Bool × Unit) × Unit)) := fun x0 => bif !iEq x0.1.1 x0.2.1.1 then some ((false, ()), ()) else bif !iEq x0.1.2.1 x0.2.1.2.1 then some ((false, ()), ()) else some ((true, ()), ())
noncomputable def c197 : Con := ⟨i197, o197, F197⟩
noncomputable def C197 : Ctx := ⟨15, TT, EE, fun n => none, fun n k => [], fun n => none, fun n => none⟩
theorem q197 : ∀ x, runF C197 Tryz.f197 i197 o197 x = F197 x := by intro x; kernel_rfl
def i188 : List Grp := [⟨.c, (.cons (.sl e205) .nil), []⟩, ⟨.c, (.cons (.sl e205) .nil), []⟩]
def o188 : List Grp := [⟨.c, (.cons .bool .nil), []⟩]
/-- laws.eqLeaveS -/
noncomputable def F188.b0 (x0 : ((List D205 × Unit) × ((List D205 × Unit) × Unit))) : (v1 : (Int × Unit)) → Option (Sum (Int × Unit) (Sum (Int × Unit) (((Bool × Unit) × Unit)))) := fun v1 => bif iLt v1.1 (List.length x0.1.1 : Int) then (getI x0.1.1 v1.1).bind fun x2 => (getI x0.2.1.1 v1.1).bind fun x3 => (F197 (x2, (x3, ()))).bind fun y4 => bif (!y4.1.1) then some (.inr (.inr ((false, ()), ()))) else some (.inl (iAdd .i64 v1.1 (1:Int), ())) else some (.inr (.inl (v1.1, ())))
noncomputable def F188 : ((List D205 × Unit) × ((List D205 × Unit) × Unit)) → Option (((Bool × Unit) × Unit)) := fun x0 => bif !iEq (List.length x0.1.1 : Int) (List.length x0.2.1.1 : Int) then some ((false, ()), ()) else (loopF (F188.b0 x0) ((0:Int), ())).bind fun r6 => Sum.elim (fun v5 => some ((true, ()), ())) some r6
noncomputable def c188 : Con := ⟨i188, o188, F188⟩
noncomputable def C188 : Ctx := ⟨27, TT, EE, fun n => (bif Nat.beq n 197 then some c197 else none), fun n k => [], fun n => (bif Nat.beq n 0 then (some ⟨[(.t 5 (.int .i64) .sh)], [4, 11, 12, 13, 14, 15, 16, 17, 18, 19, 20, 21, 22, 23, 24, 25, 26], []⟩) else none), fun n => none⟩
theorem q188 : ∀ x, runF C188 Tryz.f188 i188 o188 x = F188 x := by intro x; kernel_rfl
def i162 : List Grp := [⟨.agg, e183, []⟩, ⟨.agg, e183, []⟩]
def o162 : List Grp := [⟨.c, (.cons .bool .nil), []⟩]
/-- laws.eqAcct -/
noncomputable def F162 : (D183 × (D183 × Unit)) → Option (((Bool × Unit) × Unit)) := fun x0 => bif !sEq x0.1.1 x0.2.1.1 then some ((false, ()), ()) else bif !iEq x0.1.2.1 x0.2.1.2.1 then some ((false, ()), ()) else bif !iEq x0.1.2.2.1 x0.2.1.2.2.1 then some ((false, ()), ()) else bif !iEq x0.1.2.2.2.1 x0.2.1.2.2.2.1 then some ((false, ()), ()) else (F188 ((x0.1.2.2.2.2.1, ()), ((x0.2.1.2.2.2.2.1, ()), ()))).bind fun y1 => bif (!y1.1.1) then some ((false, ()), ()) else some ((true, ()), ())
noncomputable def c162 : Con := ⟨i162, o162, F162⟩
noncomputable def C162 : Ctx := ⟨31, TT, EE, fun n => (bif Nat.beq n 188 then some c188 else none), fun n k => [], fun n => none, fun n => none⟩
theorem q162 : ∀ x, runF C162 Tryz.f162 i162 o162 x = F162 x := by intro x; kernel_rfl
def i119 : List Grp := [⟨.c, (.cons (.sl e183) .nil), []⟩, ⟨.c, (.cons (.sl e183) .nil), []⟩]
def o119 : List Grp := [⟨.c, (.cons .bool .nil), []⟩]
/-- laws.eqAcctS -/
noncomputable def F119.b0 (x0 : ((List D183 × Unit) × ((List D183 × Unit) × Unit))) : (v1 : (Int × Unit)) → Option (Sum (Int × Unit) (Sum (Int × Unit) (((Bool × Unit) × Unit)))) := fun v1 => bif iLt v1.1 (List.length x0.1.1 : Int) then (getI x0.1.1 v1.1).bind fun x2 => (getI x0.2.1.1 v1.1).bind fun x3 => (F162 (x2, (x3, ()))).bind fun y4 => bif (!y4.1.1) then some (.inr (.inr ((false, ()), ()))) else some (.inl (iAdd .i64 v1.1 (1:Int), ())) else some (.inr (.inl (v1.1, ())))
noncomputable def F119 : ((List D183 × Unit) × ((List D183 × Unit) × Unit)) → Option (((Bool × Unit) × Unit)) := fun x0 => bif !iEq (List.length x0.1.1 : Int) (List.length x0.2.1.1 : Int) then some ((false, ()), ()) else (loopF (F119.b0 x0) ((0:Int), ())).bind fun r6 => Sum.elim (fun v5 => some ((true, ()), ())) some r6
noncomputable def c119 : Con := ⟨i119, o119, F119⟩
noncomputable def C119 : Ctx := ⟨27, TT, EE, fun n => (bif Nat.beq n 162 then some c162 else none), fun n k => [], fun n => (bif Nat.beq n 0 then (some ⟨[(.t 5 (.int .i64) .sh)], [4, 11, 12, 13, 14, 15, 16, 17, 18, 19, 20, 21, 22, 23, 24, 25, 26], []⟩) else none), fun n => none⟩
theorem q119 : ∀ x, runF C119 Tryz.f119 i119 o119 x = F119 x := by intro x; kernel_rfl
def i39 : List Grp := [⟨.agg, e45, []⟩, ⟨.agg, e45, []⟩]
def o39 : List Grp := [⟨.c, (.cons .bool .nil), []⟩]
/-- laws.eqLedger -/
noncomputable def F39 : (D45 × (D45 × Unit)) → Option (((Bool × Unit) × Unit)) := fun x0 => bif !iEq x0.1.1 x0.2.1.1 then some ((false, ()), ()) else (F119 ((x0.1.2.1, ()), ((x0.2.1.2.1, ()), ()))).bind fun y1 => bif (!y1.1.1) then some ((false, ()), ()) else some ((true, ()), ())
noncomputable def c39 : Con := ⟨i39, o39, F39⟩
noncomputable def C39 : Ctx := ⟨16, TT, EE, fun n => (bif Nat.beq n 119 then some c119 else none), fun n k => [], fun n => none, fun n => none⟩
theorem q39 : ∀ x, runF C39 Tryz.f39 i39 o39 x = F39 x := by intro x; kernel_rfl
def i120 : List Grp := [⟨.agg, e110, []⟩, ⟨.agg, e110, []⟩]
def o120 : List Grp := [⟨.c, (.cons .bool .nil), []⟩]
/-- laws.eqVal -/
noncomputable def F120 : (D110 × (D110 × Unit)) → Option (((Bool × Unit) × Unit)) := fun x0 => bif !sEq x0.1.1 x0.2.1.1 then some ((false, ()), ()) else bif !iEq x0.1.2.1 x0.2.1.2.1 then some ((false, ()), ()) else some ((true, ()), ())
noncomputable def c120 : Con := ⟨i120, o120, F120⟩
noncomputable def C120 : Ctx := ⟨15, TT, EE, fun n => none, fun n k => [], fun n => none, fun n => none⟩
theorem q120 : ∀ x, runF C120 Tryz.f120 i120 o120 x = F120 x := by intro x; kernel_rfl
def i40 : List Grp := [⟨.c, (.cons (.sl e143) .nil), []⟩, ⟨.c, (.cons (.sl e143) .nil), []⟩]
def o40 : List Grp := [⟨.c, (.cons .bool .nil), []⟩]
/-- laws.eqValS -/
noncomputable def F40.b0 (x0 : ((List D143 × Unit) × ((List D143 × Unit) × Unit))) : (v1 : (Int × Unit)) → Option (Sum (Int × Unit) (Sum (Int × Unit) (((Bool × Unit) × Unit)))) := fun v1 => bif iLt v1.1 (List.length x0.1.1 : Int) then (getI x0.1.1 v1.1).bind fun x2 => (getI x0.2.1.1 v1.1).bind fun x3 => (F120 (x2, (x3, ()))).bind fun y4 => bif (!y4.1.1) then some (.inr (.inr ((false, ()), ()))) else some (.inl (iAdd .i64 v1.1 (1:Int), ())) else some (.inr (.inl (v1.1, ())))
noncomputable def F40 : ((List D143 × Unit) × ((List D143 × Unit) × Unit)) → Option (((Bool × Unit) × Unit)) := fun x0 => bif !iEq (List.length x0.1.1 : Int) (List.length x0.2.1.1 : Int) then some ((false, ()), ()) else (loopF (F40.b0 x0) ((0:Int), ())).bind fun r6 => Sum.elim (fun v5 => some ((true, ()), ())) some r6
noncomputable def c40 : Con := ⟨i40, o40, F40⟩
noncomputable def C40 : Ctx := ⟨27, TT, EE, fun n => (bif Nat.beq n 120 then some c120 else none), fun n k => [], fun n => (bif Nat.beq n 0 then (some ⟨[(.t 5 (.int .i64) .sh)], [4, 11, 12, 13, 14, 15, 16, 17, 18, 19, 20, 21, 22, 23, 24, 25, 26], []⟩) else none), fun n => none⟩
theorem q40 : ∀ x, runF C40 Tryz.f40 i40 o40 x = F40 x := by intro x; kernel_rfl
def i122 : List Grp := [⟨.c, (.cons (.sl e9) .nil), []⟩, ⟨.c, (.cons (.sl e9) .nil), []⟩]
def o122 : List Grp := [⟨.c, (.cons .bool .nil), []⟩]
/-- laws.eqStringS -/
noncomputable def F122.b0 (x0 : ((List D9 × Unit) × ((List D9 × Unit) × Unit))) : (v1 : (Int × Unit)) → Option (Sum (Int × Unit) (Sum (Int × Unit) (((Bool × Unit) × Unit)))) := fun v1 => bif iLt v1.1 (List.length x0.1.1 : Int) then (getI x0.1.1 v1.1).bind fun x2 => (getI x0.2.1.1 v1.1).bind fun x3 => bif !sEq x2.1 x3.1 then some (.inr (.inr ((false, ()), ()))) else some (.inl (iAdd .i64 v1.1 (1:Int), ())) else some (.inr (.inl (v1.1, ())))
noncomputable def F122 : ((List D9 × Unit) × ((List D9 × Unit) × Unit)) → Option (((Bool × Unit) × Unit)) := fun x0 => bif !iEq (List.length x0.1.1 : Int) (List.length x0.2.1.1 : Int) then some ((false, ()), ()) else (loopF (F122.b0 x0) ((0:Int), ())).bind fun r5 => Sum.elim (fun v4 => some ((true, ()), ())) some r5
noncomputable def c122 : Con := ⟨i122, o122, F122⟩
noncomputable def C122 : Ctx := ⟨26, TT, EE, fun n => none, fun n k => [], fun n => (bif Nat.beq n 0 then (some ⟨[(.t 5 (.int .i64) .sh)], [4, 11, 12, 13, 14, 15, 16, 17, 18, 19, 20, 21, 22, 23, 24, 25], []⟩) else none), fun n => none⟩
theorem q122 : ∀ x, runF C122 Tryz.f122 i122 o122 x = F122 x := by intro x; kernel_rfl
def i42 : List Grp := [⟨.agg, e29, []⟩, ⟨.agg, e29, []⟩]
def o42 : List Grp := [⟨.c, (.cons .bool .nil), []⟩]
/-- laws.eqQc -/
noncomputable def F42 : (D29 × (D29 × Unit)) → Option (((Bool × Unit) × Unit)) := fun x0 => bif !iEq x0.1.1 x0.2.1.1 then some ((false, ()), ()) else bif !iEq x0.1.2.1 x0.2.1.2.1 then some ((false, ()), ()) else (F122 ((x0.1.2.2.1, ()), ((x0.2.1.2.2.1, ()), ()))).bind fun y1 => bif (!y1.1.1) then some ((false, ()), ()) else some ((true, ()), ())
noncomputable def c42 : Con := ⟨i42, o42, F42⟩
noncomputable def C42 : Ctx := ⟨21, TT, EE, fun n => (bif Nat.beq n 122 then some c122 else none), fun n k => [], fun n => none, fun n => none⟩
theorem q42 : ∀ x, runF C42 Tryz.f42 i42 o42 x = F42 x := by intro x; kernel_rfl
def i46 : List Grp := [⟨.c, (.cons (.sl e3) .nil), []⟩, ⟨.c, (.cons (.sl e3) .nil), []⟩]
def o46 : List Grp := [⟨.c, (.cons .bool .nil), []⟩]
/-- laws.eqIntS -/
noncomputable def F46.b0 (x0 : ((List D3 × Unit) × ((List D3 × Unit) × Unit))) : (v1 : (Int × Unit)) → Option (Sum (Int × Unit) (Sum (Int × Unit) (((Bool × Unit) × Unit)))) := fun v1 => bif iLt v1.1 (List.length x0.1.1 : Int) then (getI x0.1.1 v1.1).bind fun x2 => (getI x0.2.1.1 v1.1).bind fun x3 => bif !iEq x2.1 x3.1 then some (.inr (.inr ((false, ()), ()))) else some (.inl (iAdd .i64 v1.1 (1:Int), ())) else some (.inr (.inl (v1.1, ())))
noncomputable def F46 : ((List D3 × Unit) × ((List D3 × Unit) × Unit)) → Option (((Bool × Unit) × Unit)) := fun x0 => bif !iEq (List.length x0.1.1 : Int) (List.length x0.2.1.1 : Int) then some ((false, ()), ()) else (loopF (F46.b0 x0) ((0:Int), ())).bind fun r5 => Sum.elim (fun v4 => some ((true, ()), ())) some r5
noncomputable def c46 : Con := ⟨i46, o46, F46⟩
noncomputable def C46 : Ctx := ⟨26, TT, EE, fun n => none, fun n k => [], fun n => (bif Nat.beq n 0 then (some ⟨[(.t 5 (.int .i64) .sh)], [4, 11, 12, 13, 14, 15, 16, 17, 18, 19, 20, 21, 22, 23, 24, 25], []⟩) else none), fun n => none⟩
theorem q46 : ∀ x, runF C46 Tryz.f46 i46 o46 x = F46 x := by intro x; kernel_rfl
def i43 : List Grp := [⟨.agg, e32, []⟩, ⟨.agg, e32, []⟩]
def o43 : List Grp := [⟨.c, (.cons .bool .nil), []⟩]
/-- laws.eqTc -/
noncomputable def F43 : (D32 × (D32 × Unit)) → Option (((Bool × Unit) × Unit)) := fun x0 => bif !iEq x0.1.1 x0.2.1.1 then some ((false, ()), ()) else (F122 ((x0.1.2.1, ()), ((x0.2.1.2.1, ()), ()))).bind fun y1 => bif (!y1.1.1) then some ((false, ()), ()) else (F46 ((x0.1.2.2.1, ()), ((x0.2.1.2.2.1, ()), ()))).bind fun y2 => bif (!y2.1.1) then some ((false, ()), ()) else some ((true, ()), ())
noncomputable def c43 : Con := ⟨i43, o43, F43⟩
noncomputable def C43 : Ctx := ⟨22, TT, EE, fun n => (bif Nat.ble n 46 then (bif Nat.beq n 46 then some c46 else none) else (bif Nat.beq n 122 then some c122 else none)), fun n k => [], fun n => none, fun n => none⟩
theorem q43 : ∀ x, runF C43 Tryz.f43 i43 o43 x = F43 x := by intro x; kernel_rfl
def i125 : List Grp := [⟨.agg, e40, []⟩, ⟨.agg, e40, []⟩]
def o125 : List Grp := [⟨.c, (.cons .bool .nil), []⟩]
/-- laws.eqTx -/
noncomputable def F125 : (D40 × (D40 × Unit)) → Option (((Bool × Unit) × Unit)) := fun x0 => bif !iEq x0.1.1 x0.2.1.1 then some ((false, ()), ()) else bif !sEq x0.1.2.1 x0.2.1.2.1 then some ((false, ()), ()) else bif !sEq x0.1.2.2.1 x0.2.1.2.2.1 then some ((false, ()), ()) else bif !iEq x0.1.2.2.2.1 x0.2.1.2.2.2.1 then some ((false, ()), ()) else bif !iEq x0.1.2.2.2.2.1 x0.2.1.2.2.2.2.1 then some ((false, ()), ()) else some ((true, ()), ())
noncomputable def c125 : Con := ⟨i125, o125, F125⟩
noncomputable def C125 : Ctx := ⟨30, TT, EE, fun n => none, fun n k => [], fun n => none, fun n => none⟩
theorem q125 : ∀ x, runF C125 Tryz.f125 i125 o125 x = F125 x := by intro x; kernel_rfl
def i47 : List Grp := [⟨.c, (.cons (.sl e59) .nil), []⟩, ⟨.c, (.cons (.sl e59) .nil), []⟩]
def o47 : List Grp := [⟨.c, (.cons .bool .nil), []⟩]
/-- laws.eqTxS -/
noncomputable def F47.b0 (x0 : ((List D59 × Unit) × ((List D59 × Unit) × Unit))) : (v1 : (Int × Unit)) → Option (Sum (Int × Unit) (Sum (Int × Unit) (((Bool × Unit) × Unit)))) := fun v1 => bif iLt v1.1 (List.length x0.1.1 : Int) then (getI x0.1.1 v1.1).bind fun x2 => (getI x0.2.1.1 v1.1).bind fun x3 => (F125 (x2, (x3, ()))).bind fun y4 => bif (!y4.1.1) then some (.inr (.inr ((false, ()), ()))) else some (.inl (iAdd .i64 v1.1 (1:Int), ())) else some (.inr (.inl (v1.1, ())))
noncomputable def F47 : ((List D59 × Unit) × ((List D59 × Unit) × Unit)) → Option (((Bool × Unit) × Unit)) := fun x0 => bif !iEq (List.length x0.1.1 : Int) (List.length x0.2.1.1 : Int) then some ((false, ()), ()) else (loopF (F47.b0 x0) ((0:Int), ())).bind fun r6 => Sum.elim (fun v5 => some ((true, ()), ())) some r6
noncomputable def c47 : Con := ⟨i47, o47, F47⟩
noncomputable def C47 : Ctx := ⟨27, TT, EE, fun n => (bif Nat.beq n 125 then some c125 else none), fun n k => [], fun n => (bif Nat.beq n 0 then (some ⟨[(.t 5 (.int .i64) .sh)], [4, 11, 12, 13, 14, 15, 16, 17, 18, 19, 20, 21, 22, 23, 24, 25, 26], []⟩) else none), fun n => none⟩
theorem q47 : ∀ x, runF C47 Tryz.f47 i47 o47 x = F47 x := by intro x; kernel_rfl
def i121 : List Grp := [⟨.agg, e137, []⟩, ⟨.agg, e137, []⟩]
def o121 : List Grp := [⟨.c, (.cons .bool .nil), []⟩]
/-- laws.eqBlock -/
noncomputable def F121 : (D137 × (D137 × Unit)) → Option (((Bool × Unit) × Unit)) := fun x0 => bif !iEq x0.1.1 x0.2.1.1 then some ((false, ()), ()) else bif !iEq x0.1.2.1 x0.2.1.2.1 then some ((false, ()), ()) else bif !iEq x0.1.2.2.1 x0.2.1.2.2.1 then some ((false, ()), ()) else bif !sEq x0.1.2.2.2.1 x0.2.1.2.2.2.1 then some ((false, ()), ()) else (F42 ((x0.1.2.2.2.2.1, (x0.1.2.2.2.2.2.1, (x0.1.2.2.2.2.2.2.1, ()))), ((x0.2.1.2.2.2.2.1, (x0.2.1.2.2.2.2.2.1, (x0.2.1.2.2.2.2.2.2.1, ()))), ()))).bind fun y1 => bif (!y1.1.1) then some ((false, ()), ()) else (F43 ((x0.1.2.2.2.2.2.2.2.1, (x0.1.2.2.2.2.2.2.2.2.1, (x0.1.2.2.2.2.2.2.2.2.2.1, ()))), ((x0.2.1.2.2.2.2.2.2.2.1, (x0.2.1.2.2.2.2.2.2.2.2.1, (x0.2.1.2.2.2.2.2.2.2.2.2.1, ()))), ()))).bind fun y2 => bif (!y2.1.1) then some ((false, ()), ()) else (F47 ((x0.1.2.2.2.2.2.2.2.2.2.2.1, ()), ((x0.2.1.2.2.2.2.2.2.2.2.2.2.1, ()), ()))).bind fun y3 => bif (!y3.1.1) then some ((false, ()), ()) else bif !bEq x0.1.2.2.2.2.2.2.2.2.2.2.2.1 x0.2.1.2.2.2.2.2.2.2.2.2.2.2.1 then some ((false, ()), ()) else (F40 ((x0.1.2.2.2.2.2.2.2.2.2.2.2.2.1, ()), ((x0.2.1.2.2.2.2.2.2.2.2.2.2.2.2.1, ()), ()))).bind fun y4 => bif (!y4.1.1) then some ((false, ()), ()) else bif !sEq x0.1.2.2.2.2.2.2.2.2.2.2.2.2.2.1 x0.2.1.2.2.2.2.2.2.2.2.2.2.2.2.2.1 then some ((false, ()), ()) else some ((true, ()), ())
noncomputable def c121 : Con := ⟨i121, o121, F121⟩
noncomputable def C121 : Ctx := ⟨59, TT, EE, fun n => (bif Nat.ble n 42 then (bif Nat.ble n 40 then (bif Nat.beq n 40 then some c40 else none) else (bif Nat.beq n 42 then some c42 else none)) else (bif Nat.ble n 43 then (bif Nat.beq n 43 then some c43 else none) else (bif Nat.beq n 47 then some c47 else none))), fun n k => [], fun n => none, fun n => none⟩
theorem q121 : ∀ x, runF C121 Tryz.f121 i121 o121 x = F121 x := by intro x; kernel_rfl
def i41 : List Grp := [⟨.c, (.cons (.sl e137) .nil), []⟩, ⟨.c, (.cons (.sl e137) .nil), []⟩]
def o41 : List Grp := [⟨.c, (.cons .bool .nil), []⟩]
/-- laws.eqBlockS -/
noncomputable def F41.b0 (x0 : ((List D137 × Unit) × ((List D137 × Unit) × Unit))) : (v1 : (Int × Unit)) → Option (Sum (Int × Unit) (Sum (Int × Unit) (((Bool × Unit) × Unit)))) := fun v1 => bif iLt v1.1 (List.length x0.1.1 : Int) then (getI x0.1.1 v1.1).bind fun x2 => (getI x0.2.1.1 v1.1).bind fun x3 => (F121 (x2, (x3, ()))).bind fun y4 => bif (!y4.1.1) then some (.inr (.inr ((false, ()), ()))) else some (.inl (iAdd .i64 v1.1 (1:Int), ())) else some (.inr (.inl (v1.1, ())))
noncomputable def F41 : ((List D137 × Unit) × ((List D137 × Unit) × Unit)) → Option (((Bool × Unit) × Unit)) := fun x0 => bif !iEq (List.length x0.1.1 : Int) (List.length x0.2.1.1 : Int) then some ((false, ()), ()) else (loopF (F41.b0 x0) ((0:Int), ())).bind fun r6 => Sum.elim (fun v5 => some ((true, ()), ())) some r6
noncomputable def c41 : Con := ⟨i41, o41, F41⟩
noncomputable def C41 : Ctx := ⟨27, TT, EE, fun n => (bif Nat.beq n 121 then some c121 else none), fun n k => [], fun n => (bif Nat.beq n 0 then (some ⟨[(.t 5 (.int .i64) .sh)], [4, 11, 12, 13, 14, 15, 16, 17, 18, 19, 20, 21, 22, 23, 24, 25, 26], []⟩) else none), fun n => none⟩
theorem q41 : ∀ x, runF C41 Tryz.f41 i41 o41 x = F41 x := by intro x; kernel_rfl
def i123 : List Grp := [⟨.agg, e117, []⟩, ⟨.agg, e117, []⟩]
def o123 : List Grp := [⟨.c, (.cons .bool .nil), []⟩]
/-- laws.eqVote -/
noncomputable def F123 : (D117 × (D117 × Unit)) → Option (((Bool × Unit) × Unit)) := fun x0 => bif !iEq x0.1.1 x0.2.1.1 then some ((false, ()), ()) else bif !iEq x0.1.2.1 x0.2.1.2.1 then some ((false, ()), ()) else bif !sEq x0.1.2.2.1 x0.2.1.2.2.1 then some ((false, ()), ()) else some ((true, ()), ())
noncomputable def c123 : Con := ⟨i123, o123, F123⟩
noncomputable def C123 : Ctx := ⟨20, TT, EE, fun n => none, fun n k => [], fun n => none, fun n => none⟩
theorem q123 : ∀ x, runF C123 Tryz.f123 i123 o123 x = F123 x := by intro x; kernel_rfl
def i44 : List Grp := [⟨.c, (.cons (.sl e147) .nil), []⟩, ⟨.c, (.cons (.sl e147) .nil), []⟩]
def o44 : List Grp := [⟨.c, (.cons .bool .nil), []⟩]
/-- laws.eqVoteS -/
noncomputable def F44.b0 (x0 : ((List D147 × Unit) × ((List D147 × Unit) × Unit))) : (v1 : (Int × Unit)) → Option (Sum (Int × Unit) (Sum (Int × Unit) (((Bool × Unit) × Unit)))) := fun v1 => bif iLt v1.1 (List.length x0.1.1 : Int) then (getI x0.1.1 v1.1).bind fun x2 => (getI x0.2.1.1 v1.1).bind fun x3 => (F123 (x2, (x3, ()))).bind fun y4 => bif (!y4.1.1) then some (.inr (.inr ((false, ()), ()))) else some (.inl (iAdd .i64 v1.1 (1:Int), ())) else some (.inr (.inl (v1.1, ())))
noncomputable def F44 : ((List D147 × Unit) × ((List D147 × Unit) × Unit)) → Option (((Bool × Unit) × Unit)) := fun x0 => bif !iEq (List.length x0.1.1 : Int) (List.length x0.2.1.1 : Int) then some ((false, ()), ()) else (loopF (F44.b0 x0) ((0:Int), ())).bind fun r6 => Sum.elim (fun v5 => some ((true, ()), ())) some r6
noncomputable def c44 : Con := ⟨i44, o44, F44⟩
noncomputable def C44 : Ctx := ⟨27, TT, EE, fun n => (bif Nat.beq n 123 then some c123 else none), fun n k => [], fun n => (bif Nat.beq n 0 then (some ⟨[(.t 5 (.int .i64) .sh)], [4, 11, 12, 13, 14, 15, 16, 17, 18, 19, 20, 21, 22, 23, 24, 25, 26], []⟩) else none), fun n => none⟩
theorem q44 : ∀ x, runF C44 Tryz.f44 i44 o44 x = F44 x := by intro x; kernel_rfl
def i124 : List Grp := [⟨.agg, e117, []⟩, ⟨.agg, e117, []⟩]
def o124 : List Grp := [⟨.c, (.cons .bool .nil), []⟩]
/-- laws.eqGone -/
noncomputable def F124 : (D117 × (D117 × Unit)) → Option (((Bool × Unit) × Unit)) := fun x0 => bif !iEq x0.1.1 x0.2.1.1 then some ((false, ()), ()) else bif !iEq x0.1.2.1 x0.2.1.2.1 then some ((false, ()), ()) else bif !sEq x0.1.2.2.1 x0.2.1.2.2.1 then some ((false, ()), ()) else some ((true, ()), ())
noncomputable def c124 : Con := ⟨i124, o124, F124⟩
noncomputable def C124 : Ctx := ⟨20, TT, EE, fun n => none, fun n k => [], fun n => none, fun n => none⟩
theorem q124 : ∀ x, runF C124 Tryz.f124 i124 o124 x = F124 x := by intro x; kernel_rfl
def i45 : List Grp := [⟨.c, (.cons (.sl e149) .nil), []⟩, ⟨.c, (.cons (.sl e149) .nil), []⟩]
def o45 : List Grp := [⟨.c, (.cons .bool .nil), []⟩]
/-- laws.eqGoneS -/
noncomputable def F45.b0 (x0 : ((List D149 × Unit) × ((List D149 × Unit) × Unit))) : (v1 : (Int × Unit)) → Option (Sum (Int × Unit) (Sum (Int × Unit) (((Bool × Unit) × Unit)))) := fun v1 => bif iLt v1.1 (List.length x0.1.1 : Int) then (getI x0.1.1 v1.1).bind fun x2 => (getI x0.2.1.1 v1.1).bind fun x3 => (F124 (x2, (x3, ()))).bind fun y4 => bif (!y4.1.1) then some (.inr (.inr ((false, ()), ()))) else some (.inl (iAdd .i64 v1.1 (1:Int), ())) else some (.inr (.inl (v1.1, ())))
noncomputable def F45 : ((List D149 × Unit) × ((List D149 × Unit) × Unit)) → Option (((Bool × Unit) × Unit)) := fun x0 => bif !iEq (List.length x0.1.1 : Int) (List.length x0.2.1.1 : Int) then some ((false, ()), ()) else (loopF (F45.b0 x0) ((0:Int), ())).bind fun r6 => Sum.elim (fun v5 => some ((true, ()), ())) some r6
noncomputable def c45 : Con := ⟨i45, o45, F45⟩
noncomputable def C45 : Ctx := ⟨27, TT, EE, fun n => (bif Nat.beq n 124 then some c124 else none), fun n k => [], fun n => (bif Nat.beq n 0 then (some ⟨[(.t 5 (.int .i64) .sh)], [4, 11, 12, 13, 14, 15, 16, 17, 18, 19, 20, 21, 22, 23, 24, 25, 26], []⟩) else none), fun n => none⟩
theorem q45 : ∀ x, runF C45 Tryz.f45 i45 o45 x = F45 x := by intro x; kernel_rfl
def i126 : List Grp := [⟨.agg, e129, []⟩, ⟨.agg, e129, []⟩]
def o126 : List Grp := [⟨.c, (.cons .bool .nil), []⟩]
/-- laws.eqProof -/
noncomputable def F126 : (D129 × (D129 × Unit)) → Option (((Bool × Unit) × Unit)) := fun x0 => bif !iEq x0.1.1 x0.2.1.1 then some ((false, ()), ()) else (F41 ((x0.1.2.1, ()), ((x0.2.1.2.1, ()), ()))).bind fun y1 => bif (!y1.1.1) then some ((false, ()), ()) else (F42 ((x0.1.2.2.1, (x0.1.2.2.2.1, (x0.1.2.2.2.2.1, ()))), ((x0.2.1.2.2.1, (x0.2.1.2.2.2.1, (x0.2.1.2.2.2.2.1, ()))), ()))).bind fun y2 => bif (!y2.1.1) then some ((false, ()), ()) else some ((true, ()), ())
noncomputable def c126 : Con := ⟨i126, o126, F126⟩
noncomputable def C126 : Ctx := ⟨22, TT, EE, fun n => (bif Nat.ble n 41 then (bif Nat.beq n 41 then some c41 else none) else (bif Nat.beq n 42 then some c42 else none)), fun n k => [], fun n => none, fun n => none⟩
theorem q126 : ∀ x, runF C126 Tryz.f126 i126 o126 x = F126 x := by intro x; kernel_rfl
def i48 : List Grp := [⟨.c, (.cons (.sl e129) .nil), []⟩, ⟨.c, (.cons (.sl e129) .nil), []⟩]
def o48 : List Grp := [⟨.c, (.cons .bool .nil), []⟩]
/-- laws.eqProofS -/
noncomputable def F48.b0 (x0 : ((List D129 × Unit) × ((List D129 × Unit) × Unit))) : (v1 : (Int × Unit)) → Option (Sum (Int × Unit) (Sum (Int × Unit) (((Bool × Unit) × Unit)))) := fun v1 => bif iLt v1.1 (List.length x0.1.1 : Int) then (getI x0.1.1 v1.1).bind fun x2 => (getI x0.2.1.1 v1.1).bind fun x3 => (F126 (x2, (x3, ()))).bind fun y4 => bif (!y4.1.1) then some (.inr (.inr ((false, ()), ()))) else some (.inl (iAdd .i64 v1.1 (1:Int), ())) else some (.inr (.inl (v1.1, ())))
noncomputable def F48 : ((List D129 × Unit) × ((List D129 × Unit) × Unit)) → Option (((Bool × Unit) × Unit)) := fun x0 => bif !iEq (List.length x0.1.1 : Int) (List.length x0.2.1.1 : Int) then some ((false, ()), ()) else (loopF (F48.b0 x0) ((0:Int), ())).bind fun r6 => Sum.elim (fun v5 => some ((true, ()), ())) some r6
noncomputable def c48 : Con := ⟨i48, o48, F48⟩
noncomputable def C48 : Ctx := ⟨27, TT, EE, fun n => (bif Nat.beq n 126 then some c126 else none), fun n k => [], fun n => (bif Nat.beq n 0 then (some ⟨[(.t 5 (.int .i64) .sh)], [4, 11, 12, 13, 14, 15, 16, 17, 18, 19, 20, 21, 22, 23, 24, 25, 26], []⟩) else none), fun n => none⟩
theorem q48 : ∀ x, runF C48 Tryz.f48 i48 o48 x = F48 x := by intro x; kernel_rfl
def i10 : List Grp := [⟨.agg, e55, []⟩, ⟨.agg, e55, []⟩]
def o10 : List Grp := [⟨.c, (.cons .bool .nil), []⟩]
/-- laws.eqNode -/
noncomputable def F10 : (D55 × (D55 × Unit)) → Option (((Bool × Unit) × Unit)) := fun x0 => bif !sEq x0.1.1 x0.2.1.1 then some ((false, ()), ()) else bif !iEq x0.1.2.1 x0.2.1.2.1 then some ((false, ()), ()) else (F39 ((x0.1.2.2.1, (x0.1.2.2.2.1, ())), ((x0.2.1.2.2.1, (x0.2.1.2.2.2.1, ())), ()))).bind fun y1 => bif (!y1.1.1) then some ((false, ()), ()) else (F40 ((x0.1.2.2.2.2.1, ()), ((x0.2.1.2.2.2.2.1, ()), ()))).bind fun y2 => bif (!y2.1.1) then some ((false, ()), ()) else (F41 ((x0.1.2.2.2.2.2.1, ()), ((x0.2.1.2.2.2.2.2.1, ()), ()))).bind fun y3 => bif (!y3.1.1) then some ((false, ()), ()) else bif !iEq x0.1.2.2.2.2.2.2.1 x0.2.1.2.2.2.2.2.2.1 then some ((false, ()), ()) else bif !iEq x0.1.2.2.2.2.2.2.2.1 x0.2.1.2.2.2.2.2.2.2.1 then some ((false, ()), ()) else (F42 ((x0.1.2.2.2.2.2.2.2.2.1, (x0.1.2.2.2.2.2.2.2.2.2.1, (x0.1.2.2.2.2.2.2.2.2.2.2.1, ()))), ((x0.2.1.2.2.2.2.2.2.2.2.1, (x0.2.1.2.2.2.2.2.2.2.2.2.1, (x0.2.1.2.2.2.2.2.2.2.2.2.2.1, ()))), ()))).bind fun y4 => bif (!y4.1.1) then some ((false, ()), ()) else (F43 ((x0.1.2.2.2.2.2.2.2.2.2.2.2.1, (x0.1.2.2.2.2.2.2.2.2.2.2.2.2.1, (x0.1.2.2.2.2.2.2.2.2.2.2.2.2.2.1, ()))), ((x0.2.1.2.2.2.2.2.2.2.2.2.2.2.1, (x0.2.1.2.2.2.2.2.2.2.2.2.2.2.2.1, (x0.2.1.2.2.2.2.2.2.2.2.2.2.2.2.2.1, ()))), ()))).bind fun y5 => bif (!y5.1.1) then some ((false, ()), ()) else bif !iEq x0.1.2.2.2.2.2.2.2.2.2.2.2.2.2.2.1 x0.2.1.2.2.2.2.2.2.2.2.2.2.2.2.2.2.1 then some ((false, ()), ()) else (F44 ((x0.1.2.2.2.2.2.2.2.2.2.2.2.2.2.2.2.1, ()), ((x0.2.1.2.2.2.2.2.2.2.2.2.2.2.2.2.2.2.1, ()), ()))).bind fun y6 => bif (!y6.1.1) then some ((false, ()), ()) else (F45 ((x0.1.2.2.2.2.2.2.2.2.2.2.2.2.2.2.2.2.1, ()), ((x0.2.1.2.2.2.2.2.2.2.2.2.2.2.2.2.2.2.2.1, ()), ()))).bind fun y7 => bif (!y7.1.1) then some ((false, ()), ()) else (F46 ((x0.1.2.2.2.2.2.2.2.2.2.2.2.2.2.2.2.2.2.1, ()), ((x0.2.1.2.2.2.2.2.2.2.2.2.2.2.2.2.2.2.2.2.1, ()), ()))).bind fun y8 => bif (!y8.1.1) then some ((false, ()), ()) else (F47 ((x0.1.2.2.2.2.2.2.2.2.2.2.2.2.2.2.2.2.2.2.1, ()), ((x0.2.1.2.2.2.2.2.2.2.2.2.2.2.2.2.2.2.2.2.2.1, ()), ()))).bind fun y9 => bif (!y9.1.1) then some ((false, ()), ()) else (F48 ((x0.1.2.2.2.2.2.2.2.2.2.2.2.2.2.2.2.2.2.2.2.1, ()), ((x0.2.1.2.2.2.2.2.2.2.2.2.2.2.2.2.2.2.2.2.2.2.1, ()), ()))).bind fun y10 => bif (!y10.1.1) then some ((false, ()), ()) else some ((true, ()), ())
noncomputable def c10 : Con := ⟨i10, o10, F10⟩
noncomputable def C10 : Ctx := ⟨90, TT, EE, fun n => (bif Nat.ble n 43 then (bif Nat.ble n 40 then (bif Nat.ble n 39 then (bif Nat.beq n 39 then some c39 else none) else (bif Nat.beq n 40 then some c40 else none)) else (bif Nat.ble n 41 then (bif Nat.beq n 41 then some c41 else none) else (bif Nat.ble n 42 then (bif Nat.beq n 42 then some c42 else none) else (bif Nat.beq n 43 then some c43 else none)))) else (bif Nat.ble n 45 then (bif Nat.ble n 44 then (bif Nat.beq n 44 then some c44 else none) else (bif Nat.beq n 45 then some c45 else none)) else (bif Nat.ble n 46 then (bif Nat.beq n 46 then some c46 else none) else (bif Nat.ble n 47 then (bif Nat.beq n 47 then some c47 else none) else (bif Nat.beq n 48 then some c48 else none))))), fun n k => [], fun n => none, fun n => none⟩
theorem q10 : ∀ x, runF C10 Tryz.f10 i10 o10 x = F10 x := by intro x; kernel_rfl
def i128 : List Grp := [⟨.c, (.cons (.int .i64) .nil), []⟩]
def o128 : List Grp := [⟨.c, (.cons .str .nil), []⟩]
/-- laws.markText -/
noncomputable def F128.b0 : (v1 : (Int × (ByteArray × Unit))) → Option (Sum (Int × (ByteArray × Unit)) (Sum (Int × (ByteArray × Unit)) (((ByteArray × Unit) × Unit)))) := fun v1 => bif iLt (0:Int) v1.1 then bif iEq (10:Int) 0 then none else bif sRoom (bytesStr ([(IntKind.wrap .u8 (iAdd .i64 (48:Int) (iRem v1.1 (10:Int))), ())] : List (D5))) v1.2.1 then bif iEq (10:Int) 0 then none else some (.inl (iQuo .i64 v1.1 (10:Int), (sApp (bytesStr ([(IntKind.wrap .u8 (iAdd .i64 (48:Int) (iRem v1.1 (10:Int))), ())] : List (D5))) v1.2.1, ()))) else none else some (.inr (.inl (v1.1, (v1.2.1, ()))))
noncomputable def F128 : ((Int × Unit) × Unit) → Option (((ByteArray × Unit) × Unit)) := fun x0 => bif iLe x0.1.1 (0:Int) then some ((⟨#[109, 48]⟩, ()), ()) else (loopF F128.b0 (x0.1.1, (⟨#[]⟩, ()))).bind fun r3 => Sum.elim (fun v2 => bif sRoom ⟨#[109]⟩ v2.2.1 then some ((sApp ⟨#[109]⟩ v2.2.1, ()), ()) else none) some r3
noncomputable def c128 : Con := ⟨i128, o128, F128⟩
noncomputable def C128 : Ctx := ⟨20, TT, EE, fun n => none, fun n k => [], fun n => (bif Nat.beq n 0 then (some ⟨[(.t 0 (.int .i64) .sh), (.t 3 .str .sh)], [6, 7, 8, 9, 10, 11, 12, 13, 14, 15, 16, 17], []⟩) else none), fun n => none⟩
theorem q128 : ∀ x, runF C128 Tryz.f128 i128 o128 x = F128 x := by intro x; kernel_rfl
def i163 : List Grp := [⟨.wc, (.cons (.sl e205) .nil), [(.own [])]⟩, ⟨.c, (.cons (.int .i64) .nil), []⟩]
def o163 : List Grp := [⟨.c, (.cons (.int .i64) .nil), []⟩, ⟨.wc, (.cons (.sl e205) .nil), [(.own [])]⟩]
/-- laws.markLeaveS -/
noncomputable def F163 : ((List D205 × Unit) × ((Int × Unit) × Unit)) → Option (((Int × Unit) × ((List D205 × Unit) × Unit))) := markSl e205 F128 ((), ((), ()))
noncomputable def c163 : Con := ⟨i163, o163, F163⟩
noncomputable def C163 : Ctx := ⟨27, TT, EE, fun n => none, fun n k => [], fun n => (bif Nat.beq n 0 then (some ⟨[(.t 1 (.int .i64) .sh), (.t 5 (.int .i64) .sh), (.r 1 e205 [])], [6, 7, 8, 9, 10, 11, 12, 13, 14, 15, 16, 17, 18, 19, 20, 21, 22, 23, 24, 25], []⟩) else none), fun n => none⟩
theorem q163 : ∀ x, runF C163 Tryz.f163 i163 o163 x = F163 x := by intro x; kernel_rfl
def i127 : List Grp := [⟨.wc, (.cons (.sl e183) .nil), [(.own [.sh, .sh, .sh, .sh, (.own [])])]⟩, ⟨.c, (.cons (.int .i64) .nil), []⟩]
def o127 : List Grp := [⟨.c, (.cons (.int .i64) .nil), []⟩, ⟨.wc, (.cons (.sl e183) .nil), [(.own [.sh, .sh, .sh, .sh, (.own [])])]⟩]
/-- laws.markAcctS -/
noncomputable def F127 : ((List D183 × Unit) × ((Int × Unit) × Unit)) → Option (((Int × Unit) × ((List D183 × Unit) × Unit))) := markSl e183 F128 ((), ((), ((), ((), (F163, ())))))
noncomputable def c127 : Con := ⟨i127, o127, F127⟩
noncomputable def C127 : Ctx := ⟨49, TT, EE, fun n => (bif Nat.ble n 128 then (bif Nat.beq n 128 then some c128 else none) else (bif Nat.beq n 163 then some c163 else none)), fun n k => [], fun n => (bif Nat.beq n 0 then (some ⟨[(.t 1 (.int .i64) .sh), (.t 5 (.int .i64) .sh), (.r 1 e183 [.sh, .sh, .sh, .sh, (.own [])])], [6, 7, 8, 9, 10, 11, 12, 13, 14, 15, 16, 17, 18, 19, 20, 21, 22, 23, 24, 25, 26, 27, 28, 29, 30, 31, 32, 33, 34, 35, 36, 37, 38, 39, 40, 41, 42, 43, 44, 45, 46, 47], []⟩) else none), fun n => none⟩
theorem q127 : ∀ x, runF C127 Tryz.f127 i127 o127 x = F127 x := by intro x; kernel_rfl
def i49 : List Grp := [⟨.wa, e45, [.sh, (.own [.sh, .sh, .sh, .sh, (.own [])])]⟩, ⟨.c, (.cons (.int .i64) .nil), []⟩]
def o49 : List Grp := [⟨.c, (.cons (.int .i64) .nil), []⟩, ⟨.wa, e45, [.sh, (.own [.sh, .sh, .sh, .sh, (.own [])])]⟩]
/-- laws.markLedger -/
noncomputable def F49 : (D45 × ((Int × Unit) × Unit)) → Option (((Int × Unit) × (D45 × Unit))) := fun x0 => (F127 ((x0.1.2.1, ()), (x0.2.1, ()))).bind fun y1 => some (y1.1, ((x0.1.1, (y1.2.1.1, ())), ()))
noncomputable def c49 : Con := ⟨i49, o49, F49⟩
noncomputable def C49 : Ctx := ⟨10, TT, EE, fun n => (bif Nat.beq n 127 then some c127 else none), fun n k => [], fun n => none, fun n => none⟩
theorem q49 : ∀ x, runF C49 Tryz.f49 i49 o49 x = F49 x := by intro x; kernel_rfl
def i50 : List Grp := [⟨.wc, (.cons (.sl e143) .nil), [(.own [])]⟩, ⟨.c, (.cons (.int .i64) .nil), []⟩]
def o50 : List Grp := [⟨.c, (.cons (.int .i64) .nil), []⟩, ⟨.wc, (.cons (.sl e143) .nil), [(.own [])]⟩]
/-- laws.markValS -/
noncomputable def F50 : ((List D143 × Unit) × ((Int × Unit) × Unit)) → Option (((Int × Unit) × ((List D143 × Unit) × Unit))) := markSl e143 F128 ((), ((), ()))
noncomputable def c50 : Con := ⟨i50, o50, F50⟩
noncomputable def C50 : Ctx := ⟨28, TT, EE, fun n => (bif Nat.beq n 128 then some c128 else none), fun n k => [], fun n => (bif Nat.beq n 0 then (some ⟨[(.t 1 (.int .i64) .sh), (.t 5 (.int .i64) .sh), (.r 1 e143 [])], [6, 7, 8, 9, 10, 11, 12, 13, 14, 15, 16, 17, 18, 19, 20, 21, 22, 23, 24, 25, 26], []⟩) else none), fun n => none⟩
theorem q50 : ∀ x, runF C50 Tryz.f50 i50 o50 x = F50 x := by intro x; kernel_rfl
def i129 : List Grp := [⟨.wc, (.cons (.sl e9) .nil), [(.own [])]⟩, ⟨.c, (.cons (.int .i64) .nil), []⟩]
def o129 : List Grp := [⟨.c, (.cons (.int .i64) .nil), []⟩, ⟨.wc, (.cons (.sl e9) .nil), [(.own [])]⟩]
/-- laws.markStringS -/
noncomputable def F129 : ((List D9 × Unit) × ((Int × Unit) × Unit)) → Option (((Int × Unit) × ((List D9 × Unit) × Unit))) := markSl e9 F128 ((), ())
noncomputable def c129 : Con := ⟨i129, o129, F129⟩
noncomputable def C129 : Ctx := ⟨20, TT, EE, fun n => (bif Nat.beq n 128 then some c128 else none), fun n k => [], fun n => (bif Nat.beq n 0 then (some ⟨[(.t 1 (.int .i64) .sh), (.t 5 (.int .i64) .sh), (.r 1 e9 [])], [6, 7, 8, 9, 10, 11, 12, 13, 14, 15, 16, 17, 18], []⟩) else none), fun n => none⟩
theorem q129 : ∀ x, runF C129 Tryz.f129 i129 o129 x = F129 x := by intro x; kernel_rfl
def i56 : List Grp := [⟨.wc, (.cons (.sl e3) .nil), [(.own [])]⟩, ⟨.c, (.cons (.int .i64) .nil), []⟩]
def o56 : List Grp := [⟨.c, (.cons (.int .i64) .nil), []⟩, ⟨.wc, (.cons (.sl e3) .nil), [(.own [])]⟩]
/-- laws.markIntS -/
noncomputable def F56 : ((List D3 × Unit) × ((Int × Unit) × Unit)) → Option (((Int × Unit) × ((List D3 × Unit) × Unit))) := markSl e3 F128 ((), ())
noncomputable def c56 : Con := ⟨i56, o56, F56⟩
noncomputable def C56 : Ctx := ⟨19, TT, EE, fun n => none, fun n k => [], fun n => (bif Nat.beq n 0 then (some ⟨[(.t 1 (.int .i64) .sh), (.t 5 (.int .i64) .sh), (.r 1 e3 [])], [6, 7, 8, 9, 10, 11, 12, 13, 14, 15, 16, 17], []⟩) else none), fun n => none⟩
theorem q56 : ∀ x, runF C56 Tryz.f56 i56 o56 x = F56 x := by intro x; kernel_rfl
def i57 : List Grp := [⟨.wc, (.cons (.sl e59) .nil), [(.own [])]⟩, ⟨.c, (.cons (.int .i64) .nil), []⟩]
def o57 : List Grp := [⟨.c, (.cons (.int .i64) .nil), []⟩, ⟨.wc, (.cons (.sl e59) .nil), [(.own [])]⟩]
/-- laws.markTxS -/
noncomputable def F57 : ((List D59 × Unit) × ((Int × Unit) × Unit)) → Option (((Int × Unit) × ((List D59 × Unit) × Unit))) := markSl e59 F128 ((), ((), ((), ((), ((), ())))))
noncomputable def c57 : Con := ⟨i57, o57, F57⟩
noncomputable def C57 : Ctx := ⟨50, TT, EE, fun n => (bif Nat.beq n 128 then some c128 else none), fun n k => [], fun n => (bif Nat.beq n 0 then (some ⟨[(.t 1 (.int .i64) .sh), (.t 5 (.int .i64) .sh), (.r 1 e59 [])], [6, 7, 8, 9, 10, 11, 12, 13, 14, 15, 16, 17, 18, 19, 20, 21, 22, 23, 24, 25, 26, 27, 28, 29, 30, 31, 32, 33, 34, 35, 36, 37, 38, 39, 40, 41, 42, 43, 44, 45, 46, 47, 48], []⟩) else none), fun n => none⟩
theorem q57 : ∀ x, runF C57 Tryz.f57 i57 o57 x = F57 x := by intro x; kernel_rfl
def i51 : List Grp := [⟨.wc, (.cons (.sl e137) .nil), [(.own [.sh, .sh, .sh, .sh, .sh, .sh, (.own []), .sh, (.own []), (.own []), (.own []), .sh, (.own [])])]⟩, ⟨.c, (.cons (.int .i64) .nil), []⟩]
def o51 : List Grp := [⟨.c, (.cons (.int .i64) .nil), []⟩, ⟨.wc, (.cons (.sl e137) .nil), [(.own [.sh, .sh, .sh, .sh, .sh, .sh, (.own []), .sh, (.own []), (.own []), (.own []), .sh, (.own [])])]⟩]
/-- laws.markBlockS -/
noncomputable def F51 : ((List D137 × Unit) × ((Int × Unit) × Unit)) → Option (((Int × Unit) × ((List D137 × Unit) × Unit))) := markSl e137 F128 ((), ((), ((), ((), ((), ((), (F129, ((), (F129, (F56, (F57, ((), (F50, ((), ()))))))))))))))
noncomputable def c51 : Con := ⟨i51, o51, F51⟩
noncomputable def C51 : Ctx := ⟨121, TT, EE, fun n => (bif Nat.ble n 56 then (bif Nat.ble n 50 then (bif Nat.beq n 50 then some c50 else none) else (bif Nat.beq n 56 then some c56 else none)) else (bif Nat.ble n 57 then (bif Nat.beq n 57 then some c57 else none) else (bif Nat.ble n 128 then (bif Nat.beq n 128 then some c128 else none) else (bif Nat.beq n 129 then some c129 else none)))), fun n k => [], fun n => (bif Nat.beq n 0 then (some ⟨[(.t 1 (.int .i64) .sh), (.t 5 (.int .i64) .sh), (.r 1 e137 [.sh, .sh, .sh, .sh, .sh, .sh, (.own []), .sh, (.own []), (.own []), (.own []), .sh, (.own [])])], [6, 7, 8, 9, 10, 11, 12, 13, 14, 15, 16, 17, 18, 19, 20, 21, 22, 23, 24, 25, 26, 27, 28, 29, 30, 31, 32, 33, 34, 35, 36, 37, 38, 39, 40, 41, 42, 43, 44, 45, 46, 47, 48, 49, 50, 51, 52, 53, 54, 55, 56, 57, 58, 59, 60, 61, 62, 63, 64, 65, 66, 67, 68, 69, 70, 71, 72, 73, 74, 75, 76, 77, 78, 79, 80, 81, 82, 83, 84, 85, 86, 87, 88, 89, 90, 91, 92, 93, 94, 95, 96, 97, 98, 99, 100, 101, 102, 103, 104, 105, 106, 107, 108, 109, 110, 111, 112, 113, 114, 115, 116, 117, 118, 119], []⟩) else none), fun n => none⟩
theorem q51 : ∀ x, runF C51 Tryz.f51 i51 o51 x = F51 x := by intro x; kernel_rfl
def i52 : List Grp := [⟨.wa, e29, [.sh, .sh, (.own [])]⟩, ⟨.c, (.cons (.int .i64) .nil), []⟩]
def o52 : List Grp := [⟨.c, (.cons (.int .i64) .nil), []⟩, ⟨.wa, e29, [.sh, .sh, (.own [])]⟩]
/-- laws.markQc -/
noncomputable def F52 : (D29 × ((Int × Unit) × Unit)) → Option (((Int × Unit) × (D29 × Unit))) := fun x0 => (F129 ((x0.1.2.2.1, ()), (x0.2.1, ()))).bind fun y1 => some (y1.1, ((x0.1.1, (x0.1.2.1, (y1.2.1.1, ()))), ()))
noncomputable def c52 : Con := ⟨i52, o52, F52⟩
noncomputable def C52 : Ctx := ⟨10, TT, EE, fun n => (bif Nat.beq n 129 then some c129 else none), fun n k => [], fun n => none, fun n => none⟩
theorem q52 : ∀ x, runF C52 Tryz.f52 i52 o52 x = F52 x := by intro x; kernel_rfl
def i53 : List Grp := [⟨.wa, e32, [.sh, (.own []), (.own [])]⟩, ⟨.c, (.cons (.int .i64) .nil), []⟩]
def o53 : List Grp := [⟨.c, (.cons (.int .i64) .nil), []⟩, ⟨.wa, e32, [.sh, (.own []), (.own [])]⟩]
/-- laws.markTc -/
noncomputable def F53 : (D32 × ((Int × Unit) × Unit)) → Option (((Int × Unit) × (D32 × Unit))) := fun x0 => (F129 ((x0.1.2.1, ()), (x0.2.1, ()))).bind fun y1 => (F56 ((x0.1.2.2.1, ()), (y1.1, ()))).bind fun y2 => some (y2.1, ((x0.1.1, (y1.2.1.1, (y2.2.1.1, ()))), ()))
noncomputable def c53 : Con := ⟨i53, o53, F53⟩
noncomputable def C53 : Ctx := ⟨14, TT, EE, fun n => (bif Nat.ble n 56 then (bif Nat.beq n 56 then some c56 else none) else (bif Nat.beq n 129 then some c129 else none)), fun n k => [], fun n => none, fun n => none⟩
theorem q53 : ∀ x, runF C53 Tryz.f53 i53 o53 x = F53 x := by intro x; kernel_rfl
def i54 : List Grp := [⟨.wc, (.cons (.sl e147) .nil), [(.own [])]⟩, ⟨.c, (.cons (.int .i64) .nil), []⟩]
def o54 : List Grp := [⟨.c, (.cons (.int .i64) .nil), []⟩, ⟨.wc, (.cons (.sl e147) .nil), [(.own [])]⟩]
/-- laws.markVoteS -/
noncomputable def F54 : ((List D147 × Unit) × ((Int × Unit) × Unit)) → Option (((Int × Unit) × ((List D147 × Unit) × Unit))) := markSl e147 F128 ((), ((), ((), ())))
noncomputable def c54 : Con := ⟨i54, o54, F54⟩
noncomputable def C54 : Ctx := ⟨35, TT, EE, fun n => (bif Nat.beq n 128 then some c128 else none), fun n k => [], fun n => (bif Nat.beq n 0 then (some ⟨[(.t 1 (.int .i64) .sh), (.t 5 (.int .i64) .sh), (.r 1 e147 [])], [6, 7, 8, 9, 10, 11, 12, 13, 14, 15, 16, 17, 18, 19, 20, 21, 22, 23, 24, 25, 26, 27, 28, 29, 30, 31, 32, 33], []⟩) else none), fun n => none⟩
theorem q54 : ∀ x, runF C54 Tryz.f54 i54 o54 x = F54 x := by intro x; kernel_rfl
def i55 : List Grp := [⟨.wc, (.cons (.sl e149) .nil), [(.own [])]⟩, ⟨.c, (.cons (.int .i64) .nil), []⟩]
def o55 : List Grp := [⟨.c, (.cons (.int .i64) .nil), []⟩, ⟨.wc, (.cons (.sl e149) .nil), [(.own [])]⟩]
/-- laws.markGoneS -/
noncomputable def F55 : ((List D149 × Unit) × ((Int × Unit) × Unit)) → Option (((Int × Unit) × ((List D149 × Unit) × Unit))) := markSl e149 F128 ((), ((), ((), ())))
noncomputable def c55 : Con := ⟨i55, o55, F55⟩
noncomputable def C55 : Ctx := ⟨35, TT, EE, fun n => (bif Nat.beq n 128 then some c128 else none), fun n k => [], fun n => (bif Nat.beq n 0 then (some ⟨[(.t 1 (.int .i64) .sh), (.t 5 (.int .i64) .sh), (.r 1 e149 [])], [6, 7, 8, 9, 10, 11, 12, 13, 14, 15, 16, 17, 18, 19, 20, 21, 22, 23, 24, 25, 26, 27, 28, 29, 30, 31, 32, 33], []⟩) else none), fun n => none⟩
theorem q55 : ∀ x, runF C55 Tryz.f55 i55 o55 x = F55 x := by intro x; kernel_rfl
def i58 : List Grp := [⟨.wc, (.cons (.sl e129) .nil), [(.own [.sh, (.own [.sh, .sh, .sh, .sh, .sh, .sh, (.own []), .sh, (.own []), (.own []), (.own []), .sh, (.own [])]), .sh, .sh, (.own [])])]⟩, ⟨.c, (.cons (.int .i64) .nil), []⟩]
def o58 : List Grp := [⟨.c, (.cons (.int .i64) .nil), []⟩, ⟨.wc, (.cons (.sl e129) .nil), [(.own [.sh, (.own [.sh, .sh, .sh, .sh, .sh, .sh, (.own []), .sh, (.own []), (.own []), (.own []), .sh, (.own [])]), .sh, .sh, (.own [])])]⟩]
/-- laws.markProofS -/
noncomputable def F58 : ((List D129 × Unit) × ((Int × Unit) × Unit)) → Option (((Int × Unit) × ((List D129 × Unit) × Unit))) := markSl e129 F128 ((), (F51, ((), ((), (F129, ())))))
noncomputable def c58 : Con := ⟨i58, o58, F58⟩
noncomputable def C58 : Ctx := ⟨51, TT, EE, fun n => (bif Nat.ble n 51 then (bif Nat.beq n 51 then some c51 else none) else (bif Nat.beq n 129 then some c129 else none)), fun n k => [], fun n => (bif Nat.beq n 0 then (some ⟨[(.t 1 (.int .i64) .sh), (.t 5 (.int .i64) .sh), (.r 1 e129 [.sh, (.own [.sh, .sh, .sh, .sh, .sh, .sh, (.own []), .sh, (.own []), (.own []), (.own []), .sh, (.own [])]), .sh, .sh, (.own [])])], [6, 7, 8, 9, 10, 11, 12, 13, 14, 15, 16, 17, 18, 19, 20, 21, 22, 23, 24, 25, 26, 27, 28, 29, 30, 31, 32, 33, 34, 35, 36, 37, 38, 39, 40, 41, 42, 43, 44, 45, 46, 47, 48, 49], []⟩) else none), fun n => none⟩
theorem q58 : ∀ x, runF C58 Tryz.f58 i58 o58 x = F58 x := by intro x; kernel_rfl
def i11 : List Grp := [⟨.wa, e55, [.sh, .sh, .sh, (.own [.sh, .sh, .sh, .sh, (.own [])]), (.own []), (.own [.sh, .sh, .sh, .sh, .sh, .sh, (.own []), .sh, (.own []), (.own []), (.own []), .sh, (.own [])]), .sh, .sh, .sh, .sh, (.own []), .sh, (.own []), (.own []), .sh, (.own []), (.own []), (.own []), (.own []), (.own [.sh, (.own [.sh, .sh, .sh, .sh, .sh, .sh, (.own []), .sh, (.own []), (.own []), (.own []), .sh, (.own [])]), .sh, .sh, (.own [])])]⟩, ⟨.c, (.cons (.int .i64) .nil), []⟩]
def o11 : List Grp := [⟨.c, (.cons (.int .i64) .nil), []⟩, ⟨.wa, e55, [.sh, .sh, .sh, (.own [.sh, .sh, .sh, .sh, (.own [])]), (.own []), (.own [.sh, .sh, .sh, .sh, .sh, .sh, (.own []), .sh, (.own []), (.own []), (.own []), .sh, (.own [])]), .sh, .sh, .sh, .sh, (.own []), .sh, (.own []), (.own []), .sh, (.own []), (.own []), (.own []), (.own []), (.own [.sh, (.own [.sh, .sh, .sh, .sh, .sh, .sh, (.own []), .sh, (.own []), (.own []), (.own []), .sh, (.own [])]), .sh, .sh, (.own [])])]⟩]
/-- laws.markNode -/
noncomputable def F11 : (D55 × ((Int × Unit) × Unit)) → Option (((Int × Unit) × (D55 × Unit))) := fun x0 => (F49 ((x0.1.2.2.1, (x0.1.2.2.2.1, ())), (x0.2.1, ()))).bind fun y1 => (F50 ((x0.1.2.2.2.2.1, ()), (y1.1, ()))).bind fun y2 => (F51 ((x0.1.2.2.2.2.2.1, ()), (y2.1, ()))).bind fun y3 => (F52 ((x0.1.2.2.2.2.2.2.2.2.1, (x0.1.2.2.2.2.2.2.2.2.2.1, (x0.1.2.2.2.2.2.2.2.2.2.2.1, ()))), (y3.1, ()))).bind fun y4 => (F53 ((x0.1.2.2.2.2.2.2.2.2.2.2.2.1, (x0.1.2.2.2.2.2.2.2.2.2.2.2.2.1, (x0.1.2.2.2.2.2.2.2.2.2.2.2.2.2.1, ()))), (y4.1, ()))).bind fun y5 => (F54 ((x0.1.2.2.2.2.2.2.2.2.2.2.2.2.2.2.2.1, ()), (y5.1, ()))).bind fun y6 => (F55 ((x0.1.2.2.2.2.2.2.2.2.2.2.2.2.2.2.2.2.1, ()), (y6.1, ()))).bind fun y7 => (F56 ((x0.1.2.2.2.2.2.2.2.2.2.2.2.2.2.2.2.2.2.1, ()), (y7.1, ()))).bind fun y8 => (F57 ((x0.1.2.2.2.2.2.2.2.2.2.2.2.2.2.2.2.2.2.2.1, ()), (y8.1, ()))).bind fun y9 => (F58 ((x0.1.2.2.2.2.2.2.2.2.2.2.2.2.2.2.2.2.2.2.2.1, ()), (y9.1, ()))).bind fun y10 => some (y10.1, ((x0.1.1, (x0.1.2.1, (x0.1.2.2.1, (y1.2.1.2.1, (y2.2.1.1, (y3.2.1.1, (x0.1.2.2.2.2.2.2.1, (x0.1.2.2.2.2.2.2.2.1, (x0.1.2.2.2.2.2.2.2.2.1, (x0.1.2.2.2.2.2.2.2.2.2.1, (y4.2.1.2.2.1, (x0.1.2.2.2.2.2.2.2.2.2.2.2.1, (y5.2.1.2.1, (y5.2.1.2.2.1, (x0.1.2.2.2.2.2.2.2.2.2.2.2.2.2.2.1, (y6.2.1.1, (y7.2.1.1, (y8.2.1.1, (y9.2.1.1, (y10.2.1.1, ())))))))))))))))))))), ()))
noncomputable def c11 : Con := ⟨i11, o11, F11⟩
noncomputable def C11 : Ctx := ⟨46, TT, EE, fun n => (bif Nat.ble n 53 then (bif Nat.ble n 50 then (bif Nat.ble n 49 then (bif Nat.beq n 49 then some c49 else none) else (bif Nat.beq n 50 then some c50 else none)) else (bif Nat.ble n 51 then (bif Nat.beq n 51 then some c51 else none) else (bif Nat.ble n 52 then (bif Nat.beq n 52 then some c52 else none) else (bif Nat.beq n 53 then some c53 else none)))) else (bif Nat.ble n 55 then (bif Nat.ble n 54 then (bif Nat.beq n 54 then some c54 else none) else (bif Nat.beq n 55 then some c55 else none)) else (bif Nat.ble n 56 then (bif Nat.beq n 56 then some c56 else none) else (bif Nat.ble n 57 then (bif Nat.beq n 57 then some c57 else none) else (bif Nat.beq n 58 then some c58 else none))))), fun n k => [], fun n => none, fun n => none⟩
theorem q11 : ∀ x, runF C11 Tryz.f11 i11 o11 x = F11 x := by intro x; kernel_rfl
def i164 : List Grp := [⟨.c, (.cons (.sl e205) .nil), []⟩, ⟨.c, (.cons (.int .i64) .nil), []⟩]
def o164 : List Grp := [⟨.c, (.cons (.int .i64) .nil), []⟩]
/-- laws.heldLeaveS -/
noncomputable def F164 : ((List D205 × Unit) × ((Int × Unit) × Unit)) → Option (((Int × Unit) × Unit)) := heldSl e205 F128 ((), ((), ()))
noncomputable def c164 : Con := ⟨i164, o164, F164⟩
noncomputable def C164 : Ctx := ⟨31, TT, EE, fun n => none, fun n k => [], fun n => (bif Nat.beq n 0 then (some ⟨[(.t 1 (.int .i64) .sh), (.t 5 (.int .i64) .sh)], [4, 6, 7, 8, 9, 10, 11, 12, 13, 14, 15, 16, 17, 18, 19, 20, 21, 22, 23, 24, 25, 26, 27, 28, 29], []⟩) else none), fun n => none⟩
theorem q164 : ∀ x, runF C164 Tryz.f164 i164 o164 x = F164 x := by intro x; kernel_rfl
def i130 : List Grp := [⟨.c, (.cons (.sl e183) .nil), []⟩, ⟨.c, (.cons (.int .i64) .nil), []⟩]
def o130 : List Grp := [⟨.c, (.cons (.int .i64) .nil), []⟩]
/-- laws.heldAcctS -/
noncomputable def F130 : ((List D183 × Unit) × ((Int × Unit) × Unit)) → Option (((Int × Unit) × Unit)) := heldSl e183 F128 ((), ((), ((), ((), (F164, ())))))
noncomputable def c130 : Con := ⟨i130, o130, F130⟩
noncomputable def C130 : Ctx := ⟨59, TT, EE, fun n => (bif Nat.ble n 128 then (bif Nat.beq n 128 then some c128 else none) else (bif Nat.beq n 164 then some c164 else none)), fun n k => [], fun n => (bif Nat.beq n 0 then (some ⟨[(.t 1 (.int .i64) .sh), (.t 5 (.int .i64) .sh)], [4, 6, 7, 8, 9, 10, 11, 12, 13, 14, 15, 16, 17, 18, 19, 20, 21, 22, 23, 24, 25, 26, 27, 28, 29, 30, 31, 32, 33, 34, 35, 36, 37, 38, 39, 40, 41, 42, 43, 44, 45, 46, 47, 48, 49, 50, 51, 52, 53, 54, 55, 56, 57], []⟩) else none), fun n => none⟩
theorem q130 : ∀ x, runF C130 Tryz.f130 i130 o130 x = F130 x := by intro x; kernel_rfl
def i59 : List Grp := [⟨.agg, e45, []⟩, ⟨.c, (.cons (.int .i64) .nil), []⟩]
def o59 : List Grp := [⟨.c, (.cons (.int .i64) .nil), []⟩]
/-- laws.heldLedger -/
noncomputable def F59 : (D45 × ((Int × Unit) × Unit)) → Option (((Int × Unit) × Unit)) := fun x0 => (F130 ((x0.1.2.1, ()), (x0.2.1, ()))).bind fun y1 => bif iLt y1.1.1 (0:Int) then some (((-1:Int), ()), ()) else some (y1.1, ())
noncomputable def c59 : Con := ⟨i59, o59, F59⟩
noncomputable def C59 : Ctx := ⟨12, TT, EE, fun n => (bif Nat.beq n 130 then some c130 else none), fun n k => [], fun n => none, fun n => none⟩
theorem q59 : ∀ x, runF C59 Tryz.f59 i59 o59 x = F59 x := by intro x; kernel_rfl
def i60 : List Grp := [⟨.c, (.cons (.sl e143) .nil), []⟩, ⟨.c, (.cons (.int .i64) .nil), []⟩]
def o60 : List Grp := [⟨.c, (.cons (.int .i64) .nil), []⟩]
/-- laws.heldValS -/
noncomputable def F60 : ((List D143 × Unit) × ((Int × Unit) × Unit)) → Option (((Int × Unit) × Unit)) := heldSl e143 F128 ((), ((), ()))
noncomputable def c60 : Con := ⟨i60, o60, F60⟩
noncomputable def C60 : Ctx := ⟨32, TT, EE, fun n => (bif Nat.beq n 128 then some c128 else none), fun n k => [], fun n => (bif Nat.beq n 0 then (some ⟨[(.t 1 (.int .i64) .sh), (.t 5 (.int .i64) .sh)], [4, 6, 7, 8, 9, 10, 11, 12, 13, 14, 15, 16, 17, 18, 19, 20, 21, 22, 23, 24, 25, 26, 27, 28, 29, 30], []⟩) else none), fun n => none⟩
theorem q60 : ∀ x, runF C60 Tryz.f60 i60 o60 x = F60 x := by intro x; kernel_rfl
def i131 : List Grp := [⟨.c, (.cons (.sl e9) .nil), []⟩, ⟨.c, (.cons (.int .i64) .nil), []⟩]
def o131 : List Grp := [⟨.c, (.cons (.int .i64) .nil), []⟩]
/-- laws.heldStringS -/
noncomputable def F131 : ((List D9 × Unit) × ((Int × Unit) × Unit)) → Option (((Int × Unit) × Unit)) := heldSl e9 F128 ((), ())
noncomputable def c131 : Con := ⟨i131, o131, F131⟩
noncomputable def C131 : Ctx := ⟨22, TT, EE, fun n => (bif Nat.beq n 128 then some c128 else none), fun n k => [], fun n => (bif Nat.beq n 0 then (some ⟨[(.t 1 (.int .i64) .sh), (.t 5 (.int .i64) .sh)], [4, 6, 7, 8, 9, 10, 11, 12, 13, 14, 15, 16, 17, 18, 19, 20], []⟩) else none), fun n => none⟩
theorem q131 : ∀ x, runF C131 Tryz.f131 i131 o131 x = F131 x := by intro x; kernel_rfl
def i66 : List Grp := [⟨.c, (.cons (.sl e3) .nil), []⟩, ⟨.c, (.cons (.int .i64) .nil), []⟩]
def o66 : List Grp := [⟨.c, (.cons (.int .i64) .nil), []⟩]
/-- laws.heldIntS -/
noncomputable def F66 : ((List D3 × Unit) × ((Int × Unit) × Unit)) → Option (((Int × Unit) × Unit)) := heldSl e3 F128 ((), ())
noncomputable def c66 : Con := ⟨i66, o66, F66⟩
noncomputable def C66 : Ctx := ⟨21, TT, EE, fun n => none, fun n k => [], fun n => (bif Nat.beq n 0 then (some ⟨[(.t 1 (.int .i64) .sh), (.t 5 (.int .i64) .sh)], [4, 6, 7, 8, 9, 10, 11, 12, 13, 14, 15, 16, 17, 18, 19], []⟩) else none), fun n => none⟩
theorem q66 : ∀ x, runF C66 Tryz.f66 i66 o66 x = F66 x := by intro x; kernel_rfl
def i67 : List Grp := [⟨.c, (.cons (.sl e59) .nil), []⟩, ⟨.c, (.cons (.int .i64) .nil), []⟩]
def o67 : List Grp := [⟨.c, (.cons (.int .i64) .nil), []⟩]
/-- laws.heldTxS -/
noncomputable def F67 : ((List D59 × Unit) × ((Int × Unit) × Unit)) → Option (((Int × Unit) × Unit)) := heldSl e59 F128 ((), ((), ((), ((), ((), ())))))
noncomputable def c67 : Con := ⟨i67, o67, F67⟩
noncomputable def C67 : Ctx := ⟨60, TT, EE, fun n => (bif Nat.beq n 128 then some c128 else none), fun n k => [], fun n => (bif Nat.beq n 0 then (some ⟨[(.t 1 (.int .i64) .sh), (.t 5 (.int .i64) .sh)], [4, 6, 7, 8, 9, 10, 11, 12, 13, 14, 15, 16, 17, 18, 19, 20, 21, 22, 23, 24, 25, 26, 27, 28, 29, 30, 31, 32, 33, 34, 35, 36, 37, 38, 39, 40, 41, 42, 43, 44, 45, 46, 47, 48, 49, 50, 51, 52, 53, 54, 55, 56, 57, 58], []⟩) else none), fun n => none⟩
theorem q67 : ∀ x, runF C67 Tryz.f67 i67 o67 x = F67 x := by intro x; kernel_rfl
def i61 : List Grp := [⟨.c, (.cons (.sl e137) .nil), []⟩, ⟨.c, (.cons (.int .i64) .nil), []⟩]
def o61 : List Grp := [⟨.c, (.cons (.int .i64) .nil), []⟩]
/-- laws.heldBlockS -/
noncomputable def F61 : ((List D137 × Unit) × ((Int × Unit) × Unit)) → Option (((Int × Unit) × Unit)) := heldSl e137 F128 ((), ((), ((), ((), ((), ((), (F131, ((), (F131, (F66, (F67, ((), (F60, ((), ()))))))))))))))
noncomputable def c61 : Con := ⟨i61, o61, F61⟩
noncomputable def C61 : Ctx := ⟨149, TT, EE, fun n => (bif Nat.ble n 66 then (bif Nat.ble n 60 then (bif Nat.beq n 60 then some c60 else none) else (bif Nat.beq n 66 then some c66 else none)) else (bif Nat.ble n 67 then (bif Nat.beq n 67 then some c67 else none) else (bif Nat.ble n 128 then (bif Nat.beq n 128 then some c128 else none) else (bif Nat.beq n 131 then some c131 else none)))), fun n k => [], fun n => (bif Nat.beq n 0 then (some ⟨[(.t 1 (.int .i64) .sh), (.t 5 (.int .i64) .sh)], [4, 6, 7, 8, 9, 10, 11, 12, 13, 14, 15, 16, 17, 18, 19, 20, 21, 22, 23, 24, 25, 26, 27, 28, 29, 30, 31, 32, 33, 34, 35, 36, 37, 38, 39, 40, 41, 42, 43, 44, 45, 46, 47, 48, 49, 50, 51, 52, 53, 54, 55, 56, 57, 58, 59, 60, 61, 62, 63, 64, 65, 66, 67, 68, 69, 70, 71, 72, 73, 74, 75, 76, 77, 78, 79, 80, 81, 82, 83, 84, 85, 86, 87, 88, 89, 90, 91, 92, 93, 94, 95, 96, 97, 98, 99, 100, 101, 102, 103, 104, 105, 106, 107, 108, 109, 110, 111, 112, 113, 114, 115, 116, 117, 118, 119, 120, 121, 122, 123, 124, 125, 126, 127, 128, 129, 130, 131, 132, 133, 134, 135, 136, 137, 138, 139, 140, 141, 142, 143, 144, 145, 146, 147], []⟩) else none), fun n => none⟩
theorem q61 : ∀ x, runF C61 Tryz.f61 i61 o61 x = F61 x := by intro x; kernel_rfl
def i62 : List Grp := [⟨.agg, e29, []⟩, ⟨.c, (.cons (.int .i64) .nil), []⟩]
def o62 : List Grp := [⟨.c, (.cons (.int .i64) .nil), []⟩]
/-- laws.heldQc -/
noncomputable def F62 : (D29 × ((Int × Unit) × Unit)) → Option (((Int × Unit) × Unit)) := fun x0 => (F131 ((x0.1.2.2.1, ()), (x0.2.1, ()))).bind fun y1 => bif iLt y1.1.1 (0:Int) then some (((-1:Int), ()), ()) else some (y1.1, ())
noncomputable def c62 : Con := ⟨i62, o62, F62⟩
noncomputable def C62 : Ctx := ⟨12, TT, EE, fun n => (bif Nat.beq n 131 then some c131 else none), fun n k => [], fun n => none, fun n => none⟩
theorem q62 : ∀ x, runF C62 Tryz.f62 i62 o62 x = F62 x := by intro x; kernel_rfl
def i63 : List Grp := [⟨.agg, e32, []⟩, ⟨.c, (.cons (.int .i64) .nil), []⟩]
def o63 : List Grp := [⟨.c, (.cons (.int .i64) .nil), []⟩]
/-- laws.heldTc -/
noncomputable def F63 : (D32 × ((Int × Unit) × Unit)) → Option (((Int × Unit) × Unit)) := fun x0 => (F131 ((x0.1.2.1, ()), (x0.2.1, ()))).bind fun y1 => bif iLt y1.1.1 (0:Int) then some (((-1:Int), ()), ()) else (F66 ((x0.1.2.2.1, ()), (y1.1, ()))).bind fun y2 => bif iLt y2.1.1 (0:Int) then some (((-1:Int), ()), ()) else some (y2.1, ())
noncomputable def c63 : Con := ⟨i63, o63, F63⟩
noncomputable def C63 : Ctx := ⟨18, TT, EE, fun n => (bif Nat.ble n 66 then (bif Nat.beq n 66 then some c66 else none) else (bif Nat.beq n 131 then some c131 else none)), fun n k => [], fun n => none, fun n => none⟩
theorem q63 : ∀ x, runF C63 Tryz.f63 i63 o63 x = F63 x := by intro x; kernel_rfl
def i64 : List Grp := [⟨.c, (.cons (.sl e147) .nil), []⟩, ⟨.c, (.cons (.int .i64) .nil), []⟩]
def o64 : List Grp := [⟨.c, (.cons (.int .i64) .nil), []⟩]
/-- laws.heldVoteS -/
noncomputable def F64 : ((List D147 × Unit) × ((Int × Unit) × Unit)) → Option (((Int × Unit) × Unit)) := heldSl e147 F128 ((), ((), ((), ())))
noncomputable def c64 : Con := ⟨i64, o64, F64⟩
noncomputable def C64 : Ctx := ⟨41, TT, EE, fun n => (bif Nat.beq n 128 then some c128 else none), fun n k => [], fun n => (bif Nat.beq n 0 then (some ⟨[(.t 1 (.int .i64) .sh), (.t 5 (.int .i64) .sh)], [4, 6, 7, 8, 9, 10, 11, 12, 13, 14, 15, 16, 17, 18, 19, 20, 21, 22, 23, 24, 25, 26, 27, 28, 29, 30, 31, 32, 33, 34, 35, 36, 37, 38, 39], []⟩) else none), fun n => none⟩
theorem q64 : ∀ x, runF C64 Tryz.f64 i64 o64 x = F64 x := by intro x; kernel_rfl
def i65 : List Grp := [⟨.c, (.cons (.sl e149) .nil), []⟩, ⟨.c, (.cons (.int .i64) .nil), []⟩]
def o65 : List Grp := [⟨.c, (.cons (.int .i64) .nil), []⟩]
/-- laws.heldGoneS -/
noncomputable def F65 : ((List D149 × Unit) × ((Int × Unit) × Unit)) → Option (((Int × Unit) × Unit)) := heldSl e149 F128 ((), ((), ((), ())))
noncomputable def c65 : Con := ⟨i65, o65, F65⟩
noncomputable def C65 : Ctx := ⟨41, TT, EE, fun n => (bif Nat.beq n 128 then some c128 else none), fun n k => [], fun n => (bif Nat.beq n 0 then (some ⟨[(.t 1 (.int .i64) .sh), (.t 5 (.int .i64) .sh)], [4, 6, 7, 8, 9, 10, 11, 12, 13, 14, 15, 16, 17, 18, 19, 20, 21, 22, 23, 24, 25, 26, 27, 28, 29, 30, 31, 32, 33, 34, 35, 36, 37, 38, 39], []⟩) else none), fun n => none⟩
theorem q65 : ∀ x, runF C65 Tryz.f65 i65 o65 x = F65 x := by intro x; kernel_rfl
def i68 : List Grp := [⟨.c, (.cons (.sl e129) .nil), []⟩, ⟨.c, (.cons (.int .i64) .nil), []⟩]
def o68 : List Grp := [⟨.c, (.cons (.int .i64) .nil), []⟩]
/-- laws.heldProofS -/
noncomputable def F68 : ((List D129 × Unit) × ((Int × Unit) × Unit)) → Option (((Int × Unit) × Unit)) := heldSl e129 F128 ((), (F61, ((), ((), (F131, ())))))
noncomputable def c68 : Con := ⟨i68, o68, F68⟩
noncomputable def C68 : Ctx := ⟨61, TT, EE, fun n => (bif Nat.ble n 61 then (bif Nat.beq n 61 then some c61 else none) else (bif Nat.beq n 131 then some c131 else none)), fun n k => [], fun n => (bif Nat.beq n 0 then (some ⟨[(.t 1 (.int .i64) .sh), (.t 5 (.int .i64) .sh)], [4, 6, 7, 8, 9, 10, 11, 12, 13, 14, 15, 16, 17, 18, 19, 20, 21, 22, 23, 24, 25, 26, 27, 28, 29, 30, 31, 32, 33, 34, 35, 36, 37, 38, 39, 40, 41, 42, 43, 44, 45, 46, 47, 48, 49, 50, 51, 52, 53, 54, 55, 56, 57, 58, 59], []⟩) else none), fun n => none⟩
theorem q68 : ∀ x, runF C68 Tryz.f68 i68 o68 x = F68 x := by intro x; kernel_rfl
def i12 : List Grp := [⟨.agg, e55, []⟩, ⟨.c, (.cons (.int .i64) .nil), []⟩]
def o12 : List Grp := [⟨.c, (.cons (.int .i64) .nil), []⟩]
/-- laws.heldNode -/
noncomputable def F12 : (D55 × ((Int × Unit) × Unit)) → Option (((Int × Unit) × Unit)) := fun x0 => (F59 ((x0.1.2.2.1, (x0.1.2.2.2.1, ())), (x0.2.1, ()))).bind fun y1 => bif iLt y1.1.1 (0:Int) then some (((-1:Int), ()), ()) else (F60 ((x0.1.2.2.2.2.1, ()), (y1.1, ()))).bind fun y2 => bif iLt y2.1.1 (0:Int) then some (((-1:Int), ()), ()) else (F61 ((x0.1.2.2.2.2.2.1, ()), (y2.1, ()))).bind fun y3 => bif iLt y3.1.1 (0:Int) then some (((-1:Int), ()), ()) else (F62 ((x0.1.2.2.2.2.2.2.2.2.1, (x0.1.2.2.2.2.2.2.2.2.2.1, (x0.1.2.2.2.2.2.2.2.2.2.2.1, ()))), (y3.1, ()))).bind fun y4 => bif iLt y4.1.1 (0:Int) then some (((-1:Int), ()), ()) else (F63 ((x0.1.2.2.2.2.2.2.2.2.2.2.2.1, (x0.1.2.2.2.2.2.2.2.2.2.2.2.2.1, (x0.1.2.2.2.2.2.2.2.2.2.2.2.2.2.1, ()))), (y4.1, ()))).bind fun y5 => bif iLt y5.1.1 (0:Int) then some (((-1:Int), ()), ()) else (F64 ((x0.1.2.2.2.2.2.2.2.2.2.2.2.2.2.2.2.1, ()), (y5.1, ()))).bind fun y6 => bif iLt y6.1.1 (0:Int) then some (((-1:Int), ()), ()) else (F65 ((x0.1.2.2.2.2.2.2.2.2.2.2.2.2.2.2.2.2.1, ()), (y6.1, ()))).bind fun y7 => bif iLt y7.1.1 (0:Int) then some (((-1:Int), ()), ()) else (F66 ((x0.1.2.2.2.2.2.2.2.2.2.2.2.2.2.2.2.2.2.1, ()), (y7.1, ()))).bind fun y8 => bif iLt y8.1.1 (0:Int) then some (((-1:Int), ()), ()) else (F67 ((x0.1.2.2.2.2.2.2.2.2.2.2.2.2.2.2.2.2.2.2.1, ()), (y8.1, ()))).bind fun y9 => bif iLt y9.1.1 (0:Int) then some (((-1:Int), ()), ()) else (F68 ((x0.1.2.2.2.2.2.2.2.2.2.2.2.2.2.2.2.2.2.2.2.1, ()), (y9.1, ()))).bind fun y10 => bif iLt y10.1.1 (0:Int) then some (((-1:Int), ()), ()) else some (y10.1, ())
noncomputable def c12 : Con := ⟨i12, o12, F12⟩
noncomputable def C12 : Ctx := ⟨66, TT, EE, fun n => (bif Nat.ble n 63 then (bif Nat.ble n 60 then (bif Nat.ble n 59 then (bif Nat.beq n 59 then some c59 else none) else (bif Nat.beq n 60 then some c60 else none)) else (bif Nat.ble n 61 then (bif Nat.beq n 61 then some c61 else none) else (bif Nat.ble n 62 then (bif Nat.beq n 62 then some c62 else none) else (bif Nat.beq n 63 then some c63 else none)))) else (bif Nat.ble n 65 then (bif Nat.ble n 64 then (bif Nat.beq n 64 then some c64 else none) else (bif Nat.beq n 65 then some c65 else none)) else (bif Nat.ble n 66 then (bif Nat.beq n 66 then some c66 else none) else (bif Nat.ble n 67 then (bif Nat.beq n 67 then some c67 else none) else (bif Nat.beq n 68 then some c68 else none))))), fun n k => [], fun n => none, fun n => none⟩
theorem q12 : ∀ x, runF C12 Tryz.f12 i12 o12 x = F12 x := by intro x; kernel_rfl
def i3 : List Grp := [⟨.agg, e38, []⟩, ⟨.agg, e40, []⟩]
def o3 : List Grp := [⟨.c, (.cons .bool .nil), []⟩]
/-- laws.FnExactSubmit -/
noncomputable def F3 : (D38 × (D40 × Unit)) → Option (((Bool × Unit) × Unit)) := fun x0 => (F4 (x0.1, (((1048576:Int), ()), ()))).bind fun y1 => bif iLt y1.1.1 (0:Int) then some ((true, ()), ()) else (F5 (x0.2.1, (y1.1, ()))).bind fun y2 => bif iLt y2.1.1 (0:Int) then some ((true, ()), ()) else (F7 (x0.1, ())).bind fun y3 => (F8 (x0.2.1, ())).bind fun y4 => (F6 (y3.1, (y4.1, ()))).bind fun y5 => (F7 (x0.1, ())).bind fun y6 => (F8 (x0.2.1, ())).bind fun y7 => (F9 (y6.1, (y7.1, ()))).bind fun y8 => (F10 (y8.1, (y5.1, ()))).bind fun y9 => bif (!y9.1.1) then some ((false, ()), ()) else bif !bEq y8.2.1.1 y5.2.1.1 then some ((false, ()), ()) else (F7 (x0.1, ())).bind fun y10 => (F10 (y6.1, (y10.1, ()))).bind fun y11 => bif (!y11.1.1) then some ((false, ()), ()) else (F11 (y6.1, (((1:Int), ()), ()))).bind fun y12 => bif iLt y12.1.1 (0:Int) then some ((false, ()), ()) else (F10 (y8.1, (y5.1, ()))).bind fun y13 => bif (!y13.1.1) then some ((false, ()), ()) else bif !bEq y8.2.1.1 y5.2.1.1 then some ((false, ()), ()) else (F11 (y8.1, (((1:Int), ()), ()))).bind fun y14 => (F12 ((y8.1.1, (y8.1.2.1, (y8.1.2.2.1, (y14.2.1.2.2.2.1, (y14.2.1.2.2.2.2.1, (y14.2.1.2.2.2.2.2.1, (y8.1.2.2.2.2.2.2.1, (y8.1.2.2.2.2.2.2.2.1, (y8.1.2.2.2.2.2.2.2.2.1, (y8.1.2.2.2.2.2.2.2.2.2.1, (y14.2.1.2.2.2.2.2.2.2.2.2.2.1, (y8.1.2.2.2.2.2.2.2.2.2.2.2.1, (y14.2.1.2.2.2.2.2.2.2.2.2.2.2.2.1, (y14.2.1.2.2.2.2.2.2.2.2.2.2.2.2.2.1, (y8.1.2.2.2.2.2.2.2.2.2.2.2.2.2.2.1, (y14.2.1.2.2.2.2.2.2.2.2.2.2.2.2.2.2.2.1, (y14.2.1.2.2.2.2.2.2.2.2.2.2.2.2.2.2.2.2.1, (y14.2.1.2.2.2.2.2.2.2.2.2.2.2.2.2.2.2.2.2.1, (y14.2.1.2.2.2.2.2.2.2.2.2.2.2.2.2.2.2.2.2.2.1, (y14.2.1.2.2.2.2.2.2.2.2.2.2.2.2.2.2.2.2.2.2.2.1, ())))))))))))))))))))), (((1:Int), ()), ()))).bind fun y15 => bif iLt y15.1.1 (0:Int) then some ((false, ()), ()) else bif !iEq y15.1.1 y14.1.1 then some ((false, ()), ()) else (F7 (x0.1, ())).bind fun y16 => (F8 (x0.2.1, ())).bind fun y17 => (F9 (y16.1, (y17.1, ()))).bind fun y18 => (F10 (y18.1, (y5.1, ()))).bind fun y19 => bif (!y19.1.1) then some ((false, ()), ()) else bif !bEq y18.2.1.1 y5.2.1.1 then some ((false, ()), ()) else (F12 ((y8.1.1, (y8.1.2.1, (y8.1.2.2.1, (y14.2.1.2.2.2.1, (y14.2.1.2.2.2.2.1, (y14.2.1.2.2.2.2.2.1, (y8.1.2.2.2.2.2.2.1, (y8.1.2.2.2.2.2.2.2.1, (y8.1.2.2.2.2.2.2.2.2.1, (y8.1.2.2.2.2.2.2.2.2.2.1, (y14.2.1.2.2.2.2.2.2.2.2.2.2.1, (y8.1.2.2.2.2.2.2.2.2.2.2.2.1, (y14.2.1.2.2.2.2.2.2.2.2.2.2.2.2.1, (y14.2.1.2.2.2.2.2.2.2.2.2.2.2.2.2.1, (y8.1.2.2.2.2.2.2.2.2.2.2.2.2.2.2.1, (y14.2.1.2.2.2.2.2.2.2.2.2.2.2.2.2.2.2.1, (y14.2.1.2.2.2.2.2.2.2.2.2.2.2.2.2.2.2.2.1, (y14.2.1.2.2.2.2.2.2.2.2.2.2.2.2.2.2.2.2.2.1, (y14.2.1.2.2.2.2.2.2.2.2.2.2.2.2.2.2.2.2.2.2.1, (y14.2.1.2.2.2.2.2.2.2.2.2.2.2.2.2.2.2.2.2.2.2.1, ())))))))))))))))))))), (((1:Int), ()), ()))).bind fun y20 => bif iLt y20.1.1 (0:Int) then some ((false, ()), ()) else bif !iEq y20.1.1 y14.1.1 then some ((false, ()), ()) else some ((true, ()), ())
noncomputable def c3 : Con := ⟨i3, o3, F3⟩
noncomputable def C3 : Ctx := ⟨109, TT, EE, fun n => (bif Nat.ble n 7 then (bif Nat.ble n 5 then (bif Nat.ble n 4 then (bif Nat.beq n 4 then some c4 else none) else (bif Nat.beq n 5 then some c5 else none)) else (bif Nat.ble n 6 then (bif Nat.beq n 6 then some c6 else none) else (bif Nat.beq n 7 then some c7 else none))) else (bif Nat.ble n 9 then (bif Nat.ble n 8 then (bif Nat.beq n 8 then some c8 else none) else (bif Nat.beq n 9 then some c9 else none)) else (bif Nat.ble n 10 then (bif Nat.beq n 10 then some c10 else none) else (bif Nat.ble n 11 then (bif Nat.beq n 11 then some c11 else none) else (bif Nat.beq n 12 then some c12 else none))))), fun n k => [], fun n => none, fun n => none⟩
theorem q3 : ∀ x, runF C3 Tryz.f3 i3 o3 x = F3 x := by intro x; kernel_rfl
end Go.Proofs.YtmfeejonafjehaaGreat
