/- What the functions that the laws reach compute, as functions over plain data; each one's equation with the program is checked by the kernel. Conditions: none. -/

import Derived.Test.YtphaibffjdfhpaaGreatTm4
import Derived.Test.YtphaibffjdfhpaaGreatProg
namespace Go.Proofs.YtphaibffjdfhpaaGreat
open Go Go.Tm
set_option linter.unusedVariables false
set_option maxRecDepth 100000
def e3 : Tys := (.cons (.int .i64) .nil)
abbrev D3 : Type := (Int × Unit)
def e9 : Tys := (.cons .str .nil)
abbrev D9 : Type := (ByteArray × Unit)
def e264 : Tys := (.cons (.int .i64) (.cons (.int .i64) .nil))
abbrev D264 : Type := (Int × (Int × Unit))
def e225 : Tys := (.cons .str (.cons (.int .i64) (.cons (.int .i64) (.cons (.int .i64) (.cons (.sl e264) .nil)))))
abbrev D225 : Type := (ByteArray × (Int × (Int × (Int × (List D264 × Unit)))))
def e24 : Tys := (.cons (.int .i64) (.cons (.sl e225) .nil))
abbrev D24 : Type := (Int × (List D225 × Unit))
def e29 : Tys := (.cons (.int .i64) (.cons (.int .i64) (.cons (.sl e9) .nil)))
abbrev D29 : Type := (Int × (Int × (List D9 × Unit)))
def e32 : Tys := (.cons (.int .i64) (.cons (.sl e9) (.cons (.sl e3) .nil)))
abbrev D32 : Type := (Int × (List D9 × (List D3 × Unit)))
def e170 : Tys := (.cons .str (.cons (.int .i64) .nil))
abbrev D170 : Type := (ByteArray × (Int × Unit))
def e182 : Tys := (.cons (.int .i64) (.cons .str (.cons .str (.cons (.int .i64) (.cons (.int .i64) .nil)))))
abbrev D182 : Type := (Int × (ByteArray × (ByteArray × (Int × (Int × Unit)))))
def e173 : Tys := (.cons (.int .i64) (.cons (.int .i64) (.cons (.int .i64) (.cons .str (.cons (.int .i64) (.cons (.int .i64) (.cons (.sl e9) (.cons (.int .i64) (.cons (.sl e9) (.cons (.sl e3) (.cons (.sl e182) (.cons .bool (.cons (.sl e170) (.cons .str .nil))))))))))))))
abbrev D173 : Type := (Int × (Int × (Int × (ByteArray × (Int × (Int × (List D9 × (Int × (List D9 × (List D3 × (List D182 × (Bool × (List D170 × (ByteArray × Unit))))))))))))))
def e176 : Tys := (.cons (.int .i64) (.cons (.int .i64) (.cons .str .nil)))
abbrev D176 : Type := (Int × (Int × (ByteArray × Unit)))
def e179 : Tys := (.cons (.int .i64) (.cons (.int .i64) (.cons .str .nil)))
abbrev D179 : Type := (Int × (Int × (ByteArray × Unit)))
def e185 : Tys := (.cons (.int .i64) (.cons (.sl e173) (.cons (.int .i64) (.cons (.int .i64) (.cons (.sl e9) .nil)))))
abbrev D185 : Type := (Int × (List D173 × (Int × (Int × (List D9 × Unit)))))
def e38 : Tys := (.cons .str (.cons (.int .i64) (.cons (.int .i64) (.cons (.sl e225) (.cons (.sl e170) (.cons (.sl e173) (.cons (.int .i64) (.cons (.int .i64) (.cons (.int .i64) (.cons (.int .i64) (.cons (.sl e9) (.cons (.int .i64) (.cons (.sl e9) (.cons (.sl e3) (.cons (.int .i64) (.cons (.sl e176) (.cons (.sl e179) (.cons (.sl e3) (.cons (.sl e182) (.cons (.sl e185) .nil))))))))))))))))))))
abbrev D38 : Type := (ByteArray × (Int × (Int × (List D225 × (List D170 × (List D173 × (Int × (Int × (Int × (Int × (List D9 × (Int × (List D9 × (List D3 × (Int × (List D176 × (List D179 × (List D3 × (List D182 × (List D185 × Unit))))))))))))))))))))
def e41 : Tys := (.cons (.int .i64) (.cons (.int .i64) (.cons (.sl e9) .nil)))
abbrev D41 : Type := (Int × (Int × (List D9 × Unit)))
def e195 : Tys := (.cons (.int .i64) (.cons .str (.cons .str (.cons (.int .i64) (.cons (.int .i64) .nil)))))
abbrev D195 : Type := (Int × (ByteArray × (ByteArray × (Int × (Int × Unit)))))
def e188 : Tys := (.cons .str (.cons (.int .i64) .nil))
abbrev D188 : Type := (ByteArray × (Int × Unit))
def e138 : Tys := (.cons (.int .i64) (.cons (.int .i64) (.cons (.int .i64) (.cons .str (.cons (.int .i64) (.cons (.int .i64) (.cons (.sl e9) (.cons (.int .i64) (.cons (.sl e9) (.cons (.sl e3) (.cons (.sl e195) (.cons .bool (.cons (.sl e188) (.cons .str .nil))))))))))))))
abbrev D138 : Type := (Int × (Int × (Int × (ByteArray × (Int × (Int × (List D9 × (Int × (List D9 × (List D3 × (List D195 × (Bool × (List D188 × (ByteArray × Unit))))))))))))))
def e43 : Tys := (.cons (.int .i64) (.cons (.sl e138) (.cons (.int .i64) (.cons (.int .i64) (.cons (.sl e9) .nil)))))
abbrev D43 : Type := (Int × (List D138 × (Int × (Int × (List D9 × Unit)))))
def e248 : Tys := (.cons (.int .i64) (.cons (.int .i64) .nil))
abbrev D248 : Type := (Int × (Int × Unit))
def e153 : Tys := (.cons .str (.cons (.int .i64) (.cons (.int .i64) (.cons (.int .i64) (.cons (.sl e248) .nil)))))
abbrev D153 : Type := (ByteArray × (Int × (Int × (Int × (List D248 × Unit)))))
def e48 : Tys := (.cons (.int .i64) (.cons (.sl e153) .nil))
abbrev D48 : Type := (Int × (List D153 × Unit))
def e50 : Tys := (.cons (.int .i64) (.cons (.sl e9) (.cons (.sl e3) .nil)))
abbrev D50 : Type := (Int × (List D9 × (List D3 × Unit)))
def e191 : Tys := (.cons (.int .i64) (.cons (.int .i64) (.cons .str .nil)))
abbrev D191 : Type := (Int × (Int × (ByteArray × Unit)))
def e193 : Tys := (.cons (.int .i64) (.cons (.int .i64) (.cons .str .nil)))
abbrev D193 : Type := (Int × (Int × (ByteArray × Unit)))
def e56 : Tys := (.cons .str (.cons (.int .i64) (.cons (.int .i64) (.cons (.sl e153) (.cons (.sl e188) (.cons (.sl e138) (.cons (.int .i64) (.cons (.int .i64) (.cons (.int .i64) (.cons (.int .i64) (.cons (.sl e9) (.cons (.int .i64) (.cons (.sl e9) (.cons (.sl e3) (.cons (.int .i64) (.cons (.sl e191) (.cons (.sl e193) (.cons (.sl e3) (.cons (.sl e195) (.cons (.sl e43) .nil))))))))))))))))))))
abbrev D56 : Type := (ByteArray × (Int × (Int × (List D153 × (List D188 × (List D138 × (Int × (Int × (Int × (Int × (List D9 × (Int × (List D9 × (List D3 × (Int × (List D191 × (List D193 × (List D3 × (List D195 × (List D43 × Unit))))))))))))))))))))
def e208 : Tys := (.cons (.int .i64) (.cons (.int .i64) (.cons (.int .i64) (.cons (.int .i64) (.cons .str .nil)))))
abbrev D208 : Type := (Int × (Int × (Int × (Int × (ByteArray × Unit)))))
def e211 : Tys := (.cons (.int .i64) (.cons .str (.cons (.int .i64) (.cons (.sl e173) (.cons (.int .i64) (.cons (.int .i64) (.cons .str (.cons (.int .i64) (.cons (.int .i64) (.cons .str (.cons (.int .i64) (.cons (.int .i64) (.cons (.sl e9) (.cons (.int .i64) (.cons (.sl e9) (.cons (.sl e3) .nil))))))))))))))))
abbrev D211 : Type := (Int × (ByteArray × (Int × (List D173 × (Int × (Int × (ByteArray × (Int × (Int × (ByteArray × (Int × (Int × (List D9 × (Int × (List D9 × (List D3 × Unit))))))))))))))))
def e67 : Tys := (.cons (.int .i64) (.cons (.sl e225) (.cons (.sl e9) (.cons (.sl e38) (.cons (.sl e173) (.cons (.sl e208) (.cons (.sl e211) .nil)))))))
abbrev D67 : Type := (Int × (List D225 × (List D9 × (List D38 × (List D173 × (List D208 × (List D211 × Unit)))))))
def e214 : Tys := (.cons (.int .i64) (.cons (.int .i64) (.cons (.int .i64) (.cons (.int .i64) (.cons .str .nil)))))
abbrev D214 : Type := (Int × (Int × (Int × (Int × (ByteArray × Unit)))))
def e217 : Tys := (.cons (.int .i64) (.cons .str (.cons (.int .i64) (.cons (.sl e138) (.cons (.int .i64) (.cons (.int .i64) (.cons .str (.cons (.int .i64) (.cons (.int .i64) (.cons .str (.cons (.int .i64) (.cons (.int .i64) (.cons (.sl e9) (.cons (.int .i64) (.cons (.sl e9) (.cons (.sl e3) .nil))))))))))))))))
abbrev D217 : Type := (Int × (ByteArray × (Int × (List D138 × (Int × (Int × (ByteArray × (Int × (Int × (ByteArray × (Int × (Int × (List D9 × (Int × (List D9 × (List D3 × Unit))))))))))))))))
def e74 : Tys := (.cons (.int .i64) (.cons (.sl e153) (.cons (.sl e9) (.cons (.sl e56) (.cons (.sl e138) (.cons (.sl e214) (.cons (.sl e217) .nil)))))))
abbrev D74 : Type := (Int × (List D153 × (List D9 × (List D56 × (List D138 × (List D214 × (List D217 × Unit)))))))
def TTL : List (Nat × TI) := [(3, ⟨1, 8, .int .i64, [(.int .i64 (0:Int))], [], [], none⟩), (4, ⟨1, 1, .bool, [(.bool false)], [], [], none⟩), (5, ⟨1, 1, .int .u8, [(.int .u8 (0:Int))], [], [], none⟩), (9, ⟨1, 16, .str, [(.str ⟨#[]⟩)], [], [], none⟩), (22, ⟨1, 24, .slice 225, [.nils], [], [], none⟩), (24, ⟨2, 32, .struct, [(.int .i64 (0:Int)), .nils], [(0, 1), (1, 1)], [false, false], none⟩), (25, ⟨1, 24, .slice 170, [.nils], [], [], none⟩), (26, ⟨1, 24, .slice 173, [.nils], [], [], none⟩), (27, ⟨1, 24, .slice 9, [.nils], [], [], none⟩), (29, ⟨3, 40, .struct, [(.int .i64 (0:Int)), (.int .i64 (0:Int)), .nils], [(0, 1), (1, 1), (2, 1)], [false, false, false], none⟩), (30, ⟨1, 24, .slice 3, [.nils], [], [], none⟩), (32, ⟨3, 56, .struct, [(.int .i64 (0:Int)), .nils, .nils], [(0, 1), (1, 1), (2, 1)], [false, false, false], none⟩), (33, ⟨1, 24, .slice 176, [.nils], [], [], none⟩), (34, ⟨1, 24, .slice 179, [.nils], [], [], none⟩), (35, ⟨1, 24, .slice 182, [.nils], [], [], none⟩), (36, ⟨1, 24, .slice 185, [.nils], [], [], none⟩), (38, ⟨20, 344, .struct, [(.str ⟨#[]⟩), (.int .i64 (0:Int)), (.int .i64 (0:Int)), .nils, .nils, .nils, (.int .i64 (0:Int)), (.int .i64 (0:Int)), (.int .i64 (0:Int)), (.int .i64 (0:Int)), .nils, (.int .i64 (0:Int)), .nils, .nils, (.int .i64 (0:Int)), .nils, .nils, .nils, .nils, .nils], [(0, 1), (1, 1), (2, 2), (4, 1), (5, 1), (6, 1), (7, 1), (8, 3), (11, 3), (14, 1), (15, 1), (16, 1), (17, 1), (18, 1), (19, 1)], [false, false, true, false, false, false, false, true, true, false, false, false, false, false, false], none⟩), (40, ⟨1, 24, .slice 138, [.nils], [], [], none⟩), (41, ⟨3, 40, .struct, [(.int .i64 (0:Int)), (.int .i64 (0:Int)), .nils], [(0, 1), (1, 1), (2, 1)], [false, false, false], none⟩), (43, ⟨5, 72, .struct, [(.int .i64 (0:Int)), .nils, (.int .i64 (0:Int)), (.int .i64 (0:Int)), .nils], [(0, 1), (1, 1), (2, 3)], [false, false, true], none⟩), (46, ⟨1, 24, .slice 153, [.nils], [], [], none⟩), (48, ⟨2, 32, .struct, [(.int .i64 (0:Int)), .nils], [(0, 1), (1, 1)], [false, false], none⟩), (49, ⟨1, 24, .slice 188, [.nils], [], [], none⟩), (50, ⟨3, 56, .struct, [(.int .i64 (0:Int)), .nils, .nils], [(0, 1), (1, 1), (2, 1)], [false, false, false], none⟩), (51, ⟨1, 24, .slice 191, [.nils], [], [], none⟩), (52, ⟨1, 24, .slice 193, [.nils], [], [], none⟩), (53, ⟨1, 24, .slice 195, [.nils], [], [], none⟩), (54, ⟨1, 24, .slice 43, [.nils], [], [], none⟩), (56, ⟨20, 344, .struct, [(.str ⟨#[]⟩), (.int .i64 (0:Int)), (.int .i64 (0:Int)), .nils, .nils, .nils, (.int .i64 (0:Int)), (.int .i64 (0:Int)), (.int .i64 (0:Int)), (.int .i64 (0:Int)), .nils, (.int .i64 (0:Int)), .nils, .nils, (.int .i64 (0:Int)), .nils, .nils, .nils, .nils, .nils], [(0, 1), (1, 1), (2, 2), (4, 1), (5, 1), (6, 1), (7, 1), (8, 3), (11, 3), (14, 1), (15, 1), (16, 1), (17, 1), (18, 1), (19, 1)], [false, false, true, false, false, false, false, true, true, false, false, false, false, false, false], none⟩), (63, ⟨1, 24, .slice 38, [.nils], [], [], none⟩), (64, ⟨1, 24, .slice 208, [.nils], [], [], none⟩), (65, ⟨1, 24, .slice 211, [.nils], [], [], none⟩), (67, ⟨7, 152, .struct, [(.int .i64 (0:Int)), .nils, .nils, .nils, .nils, .nils, .nils], [(0, 2), (2, 1), (3, 1), (4, 1), (5, 1), (6, 1)], [true, false, false, false, false, false], none⟩), (70, ⟨1, 24, .slice 56, [.nils], [], [], none⟩), (71, ⟨1, 24, .slice 214, [.nils], [], [], none⟩), (72, ⟨1, 24, .slice 217, [.nils], [], [], none⟩), (74, ⟨7, 152, .struct, [(.int .i64 (0:Int)), .nils, .nils, .nils, .nils, .nils, .nils], [(0, 2), (2, 1), (3, 1), (4, 1), (5, 1), (6, 1)], [true, false, false, false, false, false], none⟩), (138, ⟨14, 208, .struct, [(.int .i64 (0:Int)), (.int .i64 (0:Int)), (.int .i64 (0:Int)), (.str ⟨#[]⟩), (.int .i64 (0:Int)), (.int .i64 (0:Int)), .nils, (.int .i64 (0:Int)), .nils, .nils, .nils, (.bool false), .nils, (.str ⟨#[]⟩)], [(0, 1), (1, 1), (2, 1), (3, 1), (4, 3), (7, 3), (10, 1), (11, 1), (12, 1), (13, 1)], [false, false, false, false, true, true, false, false, false, false], none⟩), (151, ⟨1, 24, .slice 248, [.nils], [], [], none⟩), (153, ⟨5, 64, .struct, [(.str ⟨#[]⟩), (.int .i64 (0:Int)), (.int .i64 (0:Int)), (.int .i64 (0:Int)), .nils], [(0, 1), (1, 1), (2, 1), (3, 1), (4, 1)], [false, false, false, false, false], none⟩), (170, ⟨2, 24, .struct, [(.str ⟨#[]⟩), (.int .i64 (0:Int))], [(0, 1), (1, 1)], [false, false], (some [.str, .int .i64])⟩), (173, ⟨14, 208, .struct, [(.int .i64 (0:Int)), (.int .i64 (0:Int)), (.int .i64 (0:Int)), (.str ⟨#[]⟩), (.int .i64 (0:Int)), (.int .i64 (0:Int)), .nils, (.int .i64 (0:Int)), .nils, .nils, .nils, (.bool false), .nils, (.str ⟨#[]⟩)], [(0, 1), (1, 1), (2, 1), (3, 1), (4, 3), (7, 3), (10, 1), (11, 1), (12, 1), (13, 1)], [false, false, false, false, true, true, false, false, false, false], none⟩), (176, ⟨3, 32, .struct, [(.int .i64 (0:Int)), (.int .i64 (0:Int)), (.str ⟨#[]⟩)], [(0, 1), (1, 1), (2, 1)], [false, false, false], (some [.int .i64, .int .i64, .str])⟩), (179, ⟨3, 32, .struct, [(.int .i64 (0:Int)), (.int .i64 (0:Int)), (.str ⟨#[]⟩)], [(0, 1), (1, 1), (2, 1)], [false, false, false], (some [.int .i64, .int .i64, .str])⟩), (182, ⟨5, 56, .struct, [(.int .i64 (0:Int)), (.str ⟨#[]⟩), (.str ⟨#[]⟩), (.int .i64 (0:Int)), (.int .i64 (0:Int))], [(0, 1), (1, 1), (2, 1), (3, 1), (4, 1)], [false, false, false, false, false], (some [.int .i64, .str, .str, .int .i64, .int .i64])⟩), (185, ⟨5, 72, .struct, [(.int .i64 (0:Int)), .nils, (.int .i64 (0:Int)), (.int .i64 (0:Int)), .nils], [(0, 1), (1, 1), (2, 3)], [false, false, true], none⟩), (188, ⟨2, 24, .struct, [(.str ⟨#[]⟩), (.int .i64 (0:Int))], [(0, 1), (1, 1)], [false, false], (some [.str, .int .i64])⟩), (191, ⟨3, 32, .struct, [(.int .i64 (0:Int)), (.int .i64 (0:Int)), (.str ⟨#[]⟩)], [(0, 1), (1, 1), (2, 1)], [false, false, false], (some [.int .i64, .int .i64, .str])⟩), (193, ⟨3, 32, .struct, [(.int .i64 (0:Int)), (.int .i64 (0:Int)), (.str ⟨#[]⟩)], [(0, 1), (1, 1), (2, 1)], [false, false, false], (some [.int .i64, .int .i64, .str])⟩), (195, ⟨5, 56, .struct, [(.int .i64 (0:Int)), (.str ⟨#[]⟩), (.str ⟨#[]⟩), (.int .i64 (0:Int)), (.int .i64 (0:Int))], [(0, 1), (1, 1), (2, 1), (3, 1), (4, 1)], [false, false, false, false, false], (some [.int .i64, .str, .str, .int .i64, .int .i64])⟩), (208, ⟨5, 48, .struct, [(.int .i64 (0:Int)), (.int .i64 (0:Int)), (.int .i64 (0:Int)), (.int .i64 (0:Int)), (.str ⟨#[]⟩)], [(0, 1), (1, 1), (2, 1), (3, 1), (4, 1)], [false, false, false, false, false], (some [.int .i64, .int .i64, .int .i64, .int .i64, .str])⟩), (211, ⟨16, 216, .struct, [(.int .i64 (0:Int)), (.str ⟨#[]⟩), (.int .i64 (0:Int)), .nils, (.int .i64 (0:Int)), (.int .i64 (0:Int)), (.str ⟨#[]⟩), (.int .i64 (0:Int)), (.int .i64 (0:Int)), (.str ⟨#[]⟩), (.int .i64 (0:Int)), (.int .i64 (0:Int)), .nils, (.int .i64 (0:Int)), .nils, .nils], [(0, 1), (1, 1), (2, 1), (3, 1), (4, 3), (7, 3), (10, 3), (13, 3)], [false, false, false, false, true, true, true, true], none⟩), (214, ⟨5, 48, .struct, [(.int .i64 (0:Int)), (.int .i64 (0:Int)), (.int .i64 (0:Int)), (.int .i64 (0:Int)), (.str ⟨#[]⟩)], [(0, 1), (1, 1), (2, 1), (3, 1), (4, 1)], [false, false, false, false, false], (some [.int .i64, .int .i64, .int .i64, .int .i64, .str])⟩), (217, ⟨16, 216, .struct, [(.int .i64 (0:Int)), (.str ⟨#[]⟩), (.int .i64 (0:Int)), .nils, (.int .i64 (0:Int)), (.int .i64 (0:Int)), (.str ⟨#[]⟩), (.int .i64 (0:Int)), (.int .i64 (0:Int)), (.str ⟨#[]⟩), (.int .i64 (0:Int)), (.int .i64 (0:Int)), .nils, (.int .i64 (0:Int)), .nils, .nils], [(0, 1), (1, 1), (2, 1), (3, 1), (4, 3), (7, 3), (10, 3), (13, 3)], [false, false, false, false, true, true, true, true], none⟩), (223, ⟨1, 24, .slice 264, [.nils], [], [], none⟩), (225, ⟨5, 64, .struct, [(.str ⟨#[]⟩), (.int .i64 (0:Int)), (.int .i64 (0:Int)), (.int .i64 (0:Int)), .nils], [(0, 1), (1, 1), (2, 1), (3, 1), (4, 1)], [false, false, false, false, false], none⟩), (248, ⟨2, 16, .struct, [(.int .i64 (0:Int)), (.int .i64 (0:Int))], [(0, 1), (1, 1)], [false, false], (some [.int .i64, .int .i64])⟩), (264, ⟨2, 16, .struct, [(.int .i64 (0:Int)), (.int .i64 (0:Int))], [(0, 1), (1, 1)], [false, false], (some [.int .i64, .int .i64])⟩)]
theorem tt_ok : TTL.map (fun p => tiOf Tryz.prog p.1) = TTL.map (fun p => some p.2) := by kernel_rfl
def TT : Nat → Option TI := lookT TTL
def EE : Nat → Tys := fun n => (bif Nat.ble n 170 then (bif Nat.ble n 43 then (bif Nat.ble n 29 then (bif Nat.ble n 9 then (bif Nat.ble n 3 then (bif Nat.beq n 3 then e3 else .nil) else (bif Nat.beq n 9 then e9 else .nil)) else (bif Nat.ble n 24 then (bif Nat.beq n 24 then e24 else .nil) else (bif Nat.beq n 29 then e29 else .nil))) else (bif Nat.ble n 38 then (bif Nat.ble n 32 then (bif Nat.beq n 32 then e32 else .nil) else (bif Nat.beq n 38 then e38 else .nil)) else (bif Nat.ble n 41 then (bif Nat.beq n 41 then e41 else .nil) else (bif Nat.beq n 43 then e43 else .nil)))) else (bif Nat.ble n 67 then (bif Nat.ble n 50 then (bif Nat.ble n 48 then (bif Nat.beq n 48 then e48 else .nil) else (bif Nat.beq n 50 then e50 else .nil)) else (bif Nat.ble n 56 then (bif Nat.beq n 56 then e56 else .nil) else (bif Nat.beq n 67 then e67 else .nil))) else (bif Nat.ble n 138 then (bif Nat.ble n 74 then (bif Nat.beq n 74 then e74 else .nil) else (bif Nat.beq n 138 then e138 else .nil)) else (bif Nat.ble n 153 then (bif Nat.beq n 153 then e153 else .nil) else (bif Nat.beq n 170 then e170 else .nil))))) else (bif Nat.ble n 193 then (bif Nat.ble n 182 then (bif Nat.ble n 176 then (bif Nat.ble n 173 then (bif Nat.beq n 173 then e173 else .nil) else (bif Nat.beq n 176 then e176 else .nil)) else (bif Nat.ble n 179 then (bif Nat.beq n 179 then e179 else .nil) else (bif Nat.beq n 182 then e182 else .nil))) else (bif Nat.ble n 188 then (bif Nat.ble n 185 then (bif Nat.beq n 185 then e185 else .nil) else (bif Nat.beq n 188 then e188 else .nil)) else (bif Nat.ble n 191 then (bif Nat.beq n 191 then e191 else .nil) else (bif Nat.beq n 193 then e193 else .nil)))) else (bif Nat.ble n 214 then (bif Nat.ble n 208 then (bif Nat.ble n 195 then (bif Nat.beq n 195 then e195 else .nil) else (bif Nat.beq n 208 then e208 else .nil)) else (bif Nat.ble n 211 then (bif Nat.beq n 211 then e211 else .nil) else (bif Nat.beq n 214 then e214 else .nil))) else (bif Nat.ble n 225 then (bif Nat.ble n 217 then (bif Nat.beq n 217 then e217 else .nil) else (bif Nat.beq n 225 then e225 else .nil)) else (bif Nat.ble n 248 then (bif Nat.beq n 248 then e248 else .nil) else (bif Nat.beq n 264 then e264 else .nil))))))
def i205 : List Grp := [⟨.c, (.cons (.sl e264) .nil), []⟩, ⟨.c, (.cons (.int .i64) .nil), []⟩]
def o205 : List Grp := [⟨.c, (.cons (.int .i64) .nil), []⟩]
/-- laws.szLeaveS -/
noncomputable def F205 : ((List D264 × Unit) × ((Int × Unit) × Unit)) → Option (((Int × Unit) × Unit)) := fun x0 => bif iLt (iSub .i64 x0.2.1.1 (List.length x0.1.1 : Int)) (0:Int) then some (((-1:Int), ()), ()) else some ((iSub .i64 x0.2.1.1 (List.length x0.1.1 : Int), ()), ())
noncomputable def c205 : Con := ⟨i205, o205, F205⟩
noncomputable def C205 : Ctx := ⟨12, TT, EE, fun n => none, fun n k => [], fun n => none, fun n => none⟩
theorem q205 : ∀ x, runF C205 Tryz.f205 i205 o205 x = F205 x := by intro x; kernel_rfl
def i166 : List Grp := [⟨.agg, e225, []⟩, ⟨.c, (.cons (.int .i64) .nil), []⟩]
def o166 : List Grp := [⟨.c, (.cons (.int .i64) .nil), []⟩]
/-- laws.szAcct -/
noncomputable def F166 : (D225 × ((Int × Unit) × Unit)) → Option (((Int × Unit) × Unit)) := fun x0 => bif iLt (iSub .i64 x0.2.1.1 (ByteArray.size x0.1.1 : Int)) (0:Int) then some (((-1:Int), ()), ()) else (F205 ((x0.1.2.2.2.2.1, ()), ((iSub .i64 x0.2.1.1 (ByteArray.size x0.1.1 : Int), ()), ()))).bind fun y1 => bif iLt y1.1.1 (0:Int) then some (((-1:Int), ()), ()) else some (y1.1, ())
noncomputable def c166 : Con := ⟨i166, o166, F166⟩
noncomputable def C166 : Ctx := ⟨19, TT, EE, fun n => (bif Nat.beq n 205 then some c205 else none), fun n k => [], fun n => none, fun n => none⟩
theorem q166 : ∀ x, runF C166 Tryz.f166 i166 o166 x = F166 x := by intro x; kernel_rfl
def i95 : List Grp := [⟨.c, (.cons (.sl e225) .nil), []⟩, ⟨.c, (.cons (.int .i64) .nil), []⟩]
def o95 : List Grp := [⟨.c, (.cons (.int .i64) .nil), []⟩]
/-- laws.szAcctS -/
noncomputable def F95.b0 (x0 : ((List D225 × Unit) × ((Int × Unit) × Unit))) : (v1 : (Int × (Int × Unit))) → Option (Sum (Int × (Int × Unit)) (Sum (Int × (Int × Unit)) (((Int × Unit) × Unit)))) := fun v1 => bif iLt v1.2.1 (List.length x0.1.1 : Int) then (getI x0.1.1 v1.2.1).bind fun x2 => (F166 (x2, ((v1.1, ()), ()))).bind fun y3 => bif iLt y3.1.1 (0:Int) then some (.inr (.inr (((-1:Int), ()), ()))) else some (.inl (y3.1.1, (iAdd .i64 v1.2.1 (1:Int), ()))) else some (.inr (.inl (v1.1, (v1.2.1, ()))))
noncomputable def F95 : ((List D225 × Unit) × ((Int × Unit) × Unit)) → Option (((Int × Unit) × Unit)) := fun x0 => bif iLt (iSub .i64 x0.2.1.1 (List.length x0.1.1 : Int)) (0:Int) then some (((-1:Int), ()), ()) else (loopF (F95.b0 x0) (iSub .i64 x0.2.1.1 (List.length x0.1.1 : Int), ((0:Int), ()))).bind fun r5 => Sum.elim (fun v4 => some ((v4.1, ()), ())) some r5
noncomputable def c95 : Con := ⟨i95, o95, F95⟩
noncomputable def C95 : Ctx := ⟨27, TT, EE, fun n => (bif Nat.beq n 166 then some c166 else none), fun n k => [], fun n => (bif Nat.beq n 0 then (some ⟨[(.t 1 (.int .i64) .sh), (.t 5 (.int .i64) .sh)], [4, 12, 13, 14, 15, 16, 17, 18, 19, 20, 21, 22, 23, 24, 25], []⟩) else none), fun n => none⟩
theorem q95 : ∀ x, runF C95 Tryz.f95 i95 o95 x = F95 x := by intro x; kernel_rfl
def i22 : List Grp := [⟨.agg, e24, []⟩, ⟨.c, (.cons (.int .i64) .nil), []⟩]
def o22 : List Grp := [⟨.c, (.cons (.int .i64) .nil), []⟩]
/-- laws.szLedger -/
noncomputable def F22 : (D24 × ((Int × Unit) × Unit)) → Option (((Int × Unit) × Unit)) := fun x0 => (F95 ((x0.1.2.1, ()), (x0.2.1, ()))).bind fun y1 => bif iLt y1.1.1 (0:Int) then some (((-1:Int), ()), ()) else some (y1.1, ())
noncomputable def c22 : Con := ⟨i22, o22, F22⟩
noncomputable def C22 : Ctx := ⟨12, TT, EE, fun n => (bif Nat.beq n 95 then some c95 else none), fun n k => [], fun n => none, fun n => none⟩
theorem q22 : ∀ x, runF C22 Tryz.f22 i22 o22 x = F22 x := by intro x; kernel_rfl
def i23 : List Grp := [⟨.c, (.cons (.sl e9) .nil), []⟩, ⟨.c, (.cons (.int .i64) .nil), []⟩]
def o23 : List Grp := [⟨.c, (.cons (.int .i64) .nil), []⟩]
/-- laws.szStringS -/
noncomputable def F23.b0 (x0 : ((List D9 × Unit) × ((Int × Unit) × Unit))) : (v1 : (Int × (Int × Unit))) → Option (Sum (Int × (Int × Unit)) (Sum (Int × (Int × Unit)) (((Int × Unit) × Unit)))) := fun v1 => bif iLt v1.2.1 (List.length x0.1.1 : Int) then (getI x0.1.1 v1.2.1).bind fun x2 => bif iLt (iSub .i64 v1.1 (ByteArray.size x2.1 : Int)) (0:Int) then some (.inr (.inr (((-1:Int), ()), ()))) else some (.inl (iSub .i64 v1.1 (ByteArray.size x2.1 : Int), (iAdd .i64 v1.2.1 (1:Int), ()))) else some (.inr (.inl (v1.1, (v1.2.1, ()))))
noncomputable def F23 : ((List D9 × Unit) × ((Int × Unit) × Unit)) → Option (((Int × Unit) × Unit)) := fun x0 => bif iLt (iSub .i64 x0.2.1.1 (List.length x0.1.1 : Int)) (0:Int) then some (((-1:Int), ()), ()) else (loopF (F23.b0 x0) (iSub .i64 x0.2.1.1 (List.length x0.1.1 : Int), ((0:Int), ()))).bind fun r4 => Sum.elim (fun v3 => some ((v3.1, ()), ())) some r4
noncomputable def c23 : Con := ⟨i23, o23, F23⟩
noncomputable def C23 : Ctx := ⟨28, TT, EE, fun n => none, fun n k => [], fun n => (bif Nat.beq n 0 then (some ⟨[(.t 1 (.int .i64) .sh), (.t 5 (.int .i64) .sh)], [4, 12, 13, 14, 15, 16, 17, 18, 19, 20, 21, 22, 23, 24, 25, 26], []⟩) else none), fun n => none⟩
theorem q23 : ∀ x, runF C23 Tryz.f23 i23 o23 x = F23 x := by intro x; kernel_rfl
def i130 : List Grp := [⟨.agg, e170, []⟩, ⟨.c, (.cons (.int .i64) .nil), []⟩]
def o130 : List Grp := [⟨.c, (.cons (.int .i64) .nil), []⟩]
/-- laws.szVal -/
noncomputable def F130 : (D170 × ((Int × Unit) × Unit)) → Option (((Int × Unit) × Unit)) := fun x0 => bif iLt (iSub .i64 x0.2.1.1 (ByteArray.size x0.1.1 : Int)) (0:Int) then some (((-1:Int), ()), ()) else some ((iSub .i64 x0.2.1.1 (ByteArray.size x0.1.1 : Int), ()), ())
noncomputable def c130 : Con := ⟨i130, o130, F130⟩
noncomputable def C130 : Ctx := ⟨13, TT, EE, fun n => none, fun n k => [], fun n => none, fun n => none⟩
theorem q130 : ∀ x, runF C130 Tryz.f130 i130 o130 x = F130 x := by intro x; kernel_rfl
def i41 : List Grp := [⟨.c, (.cons (.sl e170) .nil), []⟩, ⟨.c, (.cons (.int .i64) .nil), []⟩]
def o41 : List Grp := [⟨.c, (.cons (.int .i64) .nil), []⟩]
/-- laws.szValS -/
noncomputable def F41.b0 (x0 : ((List D170 × Unit) × ((Int × Unit) × Unit))) : (v1 : (Int × (Int × Unit))) → Option (Sum (Int × (Int × Unit)) (Sum (Int × (Int × Unit)) (((Int × Unit) × Unit)))) := fun v1 => bif iLt v1.2.1 (List.length x0.1.1 : Int) then (getI x0.1.1 v1.2.1).bind fun x2 => (F130 (x2, ((v1.1, ()), ()))).bind fun y3 => bif iLt y3.1.1 (0:Int) then some (.inr (.inr (((-1:Int), ()), ()))) else some (.inl (y3.1.1, (iAdd .i64 v1.2.1 (1:Int), ()))) else some (.inr (.inl (v1.1, (v1.2.1, ()))))
noncomputable def F41 : ((List D170 × Unit) × ((Int × Unit) × Unit)) → Option (((Int × Unit) × Unit)) := fun x0 => bif iLt (iSub .i64 x0.2.1.1 (List.length x0.1.1 : Int)) (0:Int) then some (((-1:Int), ()), ()) else (loopF (F41.b0 x0) (iSub .i64 x0.2.1.1 (List.length x0.1.1 : Int), ((0:Int), ()))).bind fun r5 => Sum.elim (fun v4 => some ((v4.1, ()), ())) some r5
noncomputable def c41 : Con := ⟨i41, o41, F41⟩
noncomputable def C41 : Ctx := ⟨27, TT, EE, fun n => (bif Nat.beq n 130 then some c130 else none), fun n k => [], fun n => (bif Nat.beq n 0 then (some ⟨[(.t 1 (.int .i64) .sh), (.t 5 (.int .i64) .sh)], [4, 12, 13, 14, 15, 16, 17, 18, 19, 20, 21, 22, 23, 24, 25], []⟩) else none), fun n => none⟩
theorem q41 : ∀ x, runF C41 Tryz.f41 i41 o41 x = F41 x := by intro x; kernel_rfl
def i43 : List Grp := [⟨.agg, e29, []⟩, ⟨.c, (.cons (.int .i64) .nil), []⟩]
def o43 : List Grp := [⟨.c, (.cons (.int .i64) .nil), []⟩]
/-- laws.szQc -/
noncomputable def F43 : (D29 × ((Int × Unit) × Unit)) → Option (((Int × Unit) × Unit)) := fun x0 => (F23 ((x0.1.2.2.1, ()), (x0.2.1, ()))).bind fun y1 => bif iLt y1.1.1 (0:Int) then some (((-1:Int), ()), ()) else some (y1.1, ())
noncomputable def c43 : Con := ⟨i43, o43, F43⟩
noncomputable def C43 : Ctx := ⟨12, TT, EE, fun n => (bif Nat.beq n 23 then some c23 else none), fun n k => [], fun n => none, fun n => none⟩
theorem q43 : ∀ x, runF C43 Tryz.f43 i43 o43 x = F43 x := by intro x; kernel_rfl
def i47 : List Grp := [⟨.c, (.cons (.sl e3) .nil), []⟩, ⟨.c, (.cons (.int .i64) .nil), []⟩]
def o47 : List Grp := [⟨.c, (.cons (.int .i64) .nil), []⟩]
/-- laws.szIntS -/
noncomputable def F47 : ((List D3 × Unit) × ((Int × Unit) × Unit)) → Option (((Int × Unit) × Unit)) := fun x0 => bif iLt (iSub .i64 x0.2.1.1 (List.length x0.1.1 : Int)) (0:Int) then some (((-1:Int), ()), ()) else some ((iSub .i64 x0.2.1.1 (List.length x0.1.1 : Int), ()), ())
noncomputable def c47 : Con := ⟨i47, o47, F47⟩
noncomputable def C47 : Ctx := ⟨12, TT, EE, fun n => none, fun n k => [], fun n => none, fun n => none⟩
theorem q47 : ∀ x, runF C47 Tryz.f47 i47 o47 x = F47 x := by intro x; kernel_rfl
def i44 : List Grp := [⟨.agg, e32, []⟩, ⟨.c, (.cons (.int .i64) .nil), []⟩]
def o44 : List Grp := [⟨.c, (.cons (.int .i64) .nil), []⟩]
/-- laws.szTc -/
noncomputable def F44 : (D32 × ((Int × Unit) × Unit)) → Option (((Int × Unit) × Unit)) := fun x0 => (F23 ((x0.1.2.1, ()), (x0.2.1, ()))).bind fun y1 => bif iLt y1.1.1 (0:Int) then some (((-1:Int), ()), ()) else (F47 ((x0.1.2.2.1, ()), (y1.1, ()))).bind fun y2 => bif iLt y2.1.1 (0:Int) then some (((-1:Int), ()), ()) else some (y2.1, ())
noncomputable def c44 : Con := ⟨i44, o44, F44⟩
noncomputable def C44 : Ctx := ⟨18, TT, EE, fun n => (bif Nat.ble n 23 then (bif Nat.beq n 23 then some c23 else none) else (bif Nat.beq n 47 then some c47 else none)), fun n k => [], fun n => none, fun n => none⟩
theorem q44 : ∀ x, runF C44 Tryz.f44 i44 o44 x = F44 x := by intro x; kernel_rfl
def i134 : List Grp := [⟨.agg, e182, []⟩, ⟨.c, (.cons (.int .i64) .nil), []⟩]
def o134 : List Grp := [⟨.c, (.cons (.int .i64) .nil), []⟩]
/-- laws.szTx -/
noncomputable def F134 : (D182 × ((Int × Unit) × Unit)) → Option (((Int × Unit) × Unit)) := fun x0 => bif iLt (iSub .i64 x0.2.1.1 (ByteArray.size x0.1.2.1 : Int)) (0:Int) then some (((-1:Int), ()), ()) else bif iLt (iSub .i64 (iSub .i64 x0.2.1.1 (ByteArray.size x0.1.2.1 : Int)) (ByteArray.size x0.1.2.2.1 : Int)) (0:Int) then some (((-1:Int), ()), ()) else some ((iSub .i64 (iSub .i64 x0.2.1.1 (ByteArray.size x0.1.2.1 : Int)) (ByteArray.size x0.1.2.2.1 : Int), ()), ())
noncomputable def c134 : Con := ⟨i134, o134, F134⟩
noncomputable def C134 : Ctx := ⟨20, TT, EE, fun n => none, fun n k => [], fun n => none, fun n => none⟩
theorem q134 : ∀ x, runF C134 Tryz.f134 i134 o134 x = F134 x := by intro x; kernel_rfl
def i48 : List Grp := [⟨.c, (.cons (.sl e182) .nil), []⟩, ⟨.c, (.cons (.int .i64) .nil), []⟩]
def o48 : List Grp := [⟨.c, (.cons (.int .i64) .nil), []⟩]
/-- laws.szTxS -/
noncomputable def F48.b0 (x0 : ((List D182 × Unit) × ((Int × Unit) × Unit))) : (v1 : (Int × (Int × Unit))) → Option (Sum (Int × (Int × Unit)) (Sum (Int × (Int × Unit)) (((Int × Unit) × Unit)))) := fun v1 => bif iLt v1.2.1 (List.length x0.1.1 : Int) then (getI x0.1.1 v1.2.1).bind fun x2 => (F134 (x2, ((v1.1, ()), ()))).bind fun y3 => bif iLt y3.1.1 (0:Int) then some (.inr (.inr (((-1:Int), ()), ()))) else some (.inl (y3.1.1, (iAdd .i64 v1.2.1 (1:Int), ()))) else some (.inr (.inl (v1.1, (v1.2.1, ()))))
noncomputable def F48 : ((List D182 × Unit) × ((Int × Unit) × Unit)) → Option (((Int × Unit) × Unit)) := fun x0 => bif iLt (iSub .i64 x0.2.1.1 (List.length x0.1.1 : Int)) (0:Int) then some (((-1:Int), ()), ()) else (loopF (F48.b0 x0) (iSub .i64 x0.2.1.1 (List.length x0.1.1 : Int), ((0:Int), ()))).bind fun r5 => Sum.elim (fun v4 => some ((v4.1, ()), ())) some r5
noncomputable def c48 : Con := ⟨i48, o48, F48⟩
noncomputable def C48 : Ctx := ⟨27, TT, EE, fun n => (bif Nat.beq n 134 then some c134 else none), fun n k => [], fun n => (bif Nat.beq n 0 then (some ⟨[(.t 1 (.int .i64) .sh), (.t 5 (.int .i64) .sh)], [4, 12, 13, 14, 15, 16, 17, 18, 19, 20, 21, 22, 23, 24, 25], []⟩) else none), fun n => none⟩
theorem q48 : ∀ x, runF C48 Tryz.f48 i48 o48 x = F48 x := by intro x; kernel_rfl
def i131 : List Grp := [⟨.agg, e173, []⟩, ⟨.c, (.cons (.int .i64) .nil), []⟩]
def o131 : List Grp := [⟨.c, (.cons (.int .i64) .nil), []⟩]
/-- laws.szBlock -/
noncomputable def F131 : (D173 × ((Int × Unit) × Unit)) → Option (((Int × Unit) × Unit)) := fun x0 => bif iLt (iSub .i64 x0.2.1.1 (ByteArray.size x0.1.2.2.2.1 : Int)) (0:Int) then some (((-1:Int), ()), ()) else (F43 ((x0.1.2.2.2.2.1, (x0.1.2.2.2.2.2.1, (x0.1.2.2.2.2.2.2.1, ()))), ((iSub .i64 x0.2.1.1 (ByteArray.size x0.1.2.2.2.1 : Int), ()), ()))).bind fun y1 => bif iLt y1.1.1 (0:Int) then some (((-1:Int), ()), ()) else (F44 ((x0.1.2.2.2.2.2.2.2.1, (x0.1.2.2.2.2.2.2.2.2.1, (x0.1.2.2.2.2.2.2.2.2.2.1, ()))), (y1.1, ()))).bind fun y2 => bif iLt y2.1.1 (0:Int) then some (((-1:Int), ()), ()) else (F48 ((x0.1.2.2.2.2.2.2.2.2.2.2.1, ()), (y2.1, ()))).bind fun y3 => bif iLt y3.1.1 (0:Int) then some (((-1:Int), ()), ()) else (F41 ((x0.1.2.2.2.2.2.2.2.2.2.2.2.2.1, ()), (y3.1, ()))).bind fun y4 => bif iLt y4.1.1 (0:Int) then some (((-1:Int), ()), ()) else bif iLt (iSub .i64 y4.1.1 (ByteArray.size x0.1.2.2.2.2.2.2.2.2.2.2.2.2.2.1 : Int)) (0:Int) then some (((-1:Int), ()), ()) else some ((iSub .i64 y4.1.1 (ByteArray.size x0.1.2.2.2.2.2.2.2.2.2.2.2.2.2.1 : Int), ()), ())
noncomputable def c131 : Con := ⟨i131, o131, F131⟩
noncomputable def C131 : Ctx := ⟨44, TT, EE, fun n => (bif Nat.ble n 43 then (bif Nat.ble n 41 then (bif Nat.beq n 41 then some c41 else none) else (bif Nat.beq n 43 then some c43 else none)) else (bif Nat.ble n 44 then (bif Nat.beq n 44 then some c44 else none) else (bif Nat.beq n 48 then some c48 else none))), fun n k => [], fun n => none, fun n => none⟩
theorem q131 : ∀ x, runF C131 Tryz.f131 i131 o131 x = F131 x := by intro x; kernel_rfl
def i42 : List Grp := [⟨.c, (.cons (.sl e173) .nil), []⟩, ⟨.c, (.cons (.int .i64) .nil), []⟩]
def o42 : List Grp := [⟨.c, (.cons (.int .i64) .nil), []⟩]
/-- laws.szBlockS -/
noncomputable def F42.b0 (x0 : ((List D173 × Unit) × ((Int × Unit) × Unit))) : (v1 : (Int × (Int × Unit))) → Option (Sum (Int × (Int × Unit)) (Sum (Int × (Int × Unit)) (((Int × Unit) × Unit)))) := fun v1 => bif iLt v1.2.1 (List.length x0.1.1 : Int) then (getI x0.1.1 v1.2.1).bind fun x2 => (F131 (x2, ((v1.1, ()), ()))).bind fun y3 => bif iLt y3.1.1 (0:Int) then some (.inr (.inr (((-1:Int), ()), ()))) else some (.inl (y3.1.1, (iAdd .i64 v1.2.1 (1:Int), ()))) else some (.inr (.inl (v1.1, (v1.2.1, ()))))
noncomputable def F42 : ((List D173 × Unit) × ((Int × Unit) × Unit)) → Option (((Int × Unit) × Unit)) := fun x0 => bif iLt (iSub .i64 x0.2.1.1 (List.length x0.1.1 : Int)) (0:Int) then some (((-1:Int), ()), ()) else (loopF (F42.b0 x0) (iSub .i64 x0.2.1.1 (List.length x0.1.1 : Int), ((0:Int), ()))).bind fun r5 => Sum.elim (fun v4 => some ((v4.1, ()), ())) some r5
noncomputable def c42 : Con := ⟨i42, o42, F42⟩
noncomputable def C42 : Ctx := ⟨27, TT, EE, fun n => (bif Nat.beq n 131 then some c131 else none), fun n k => [], fun n => (bif Nat.beq n 0 then (some ⟨[(.t 1 (.int .i64) .sh), (.t 5 (.int .i64) .sh)], [4, 12, 13, 14, 15, 16, 17, 18, 19, 20, 21, 22, 23, 24, 25], []⟩) else none), fun n => none⟩
theorem q42 : ∀ x, runF C42 Tryz.f42 i42 o42 x = F42 x := by intro x; kernel_rfl
def i132 : List Grp := [⟨.agg, e176, []⟩, ⟨.c, (.cons (.int .i64) .nil), []⟩]
def o132 : List Grp := [⟨.c, (.cons (.int .i64) .nil), []⟩]
/-- laws.szVote -/
noncomputable def F132 : (D176 × ((Int × Unit) × Unit)) → Option (((Int × Unit) × Unit)) := fun x0 => bif iLt (iSub .i64 x0.2.1.1 (ByteArray.size x0.1.2.2.1 : Int)) (0:Int) then some (((-1:Int), ()), ()) else some ((iSub .i64 x0.2.1.1 (ByteArray.size x0.1.2.2.1 : Int), ()), ())
noncomputable def c132 : Con := ⟨i132, o132, F132⟩
noncomputable def C132 : Ctx := ⟨13, TT, EE, fun n => none, fun n k => [], fun n => none, fun n => none⟩
theorem q132 : ∀ x, runF C132 Tryz.f132 i132 o132 x = F132 x := by intro x; kernel_rfl
def i45 : List Grp := [⟨.c, (.cons (.sl e176) .nil), []⟩, ⟨.c, (.cons (.int .i64) .nil), []⟩]
def o45 : List Grp := [⟨.c, (.cons (.int .i64) .nil), []⟩]
/-- laws.szVoteS -/
noncomputable def F45.b0 (x0 : ((List D176 × Unit) × ((Int × Unit) × Unit))) : (v1 : (Int × (Int × Unit))) → Option (Sum (Int × (Int × Unit)) (Sum (Int × (Int × Unit)) (((Int × Unit) × Unit)))) := fun v1 => bif iLt v1.2.1 (List.length x0.1.1 : Int) then (getI x0.1.1 v1.2.1).bind fun x2 => (F132 (x2, ((v1.1, ()), ()))).bind fun y3 => bif iLt y3.1.1 (0:Int) then some (.inr (.inr (((-1:Int), ()), ()))) else some (.inl (y3.1.1, (iAdd .i64 v1.2.1 (1:Int), ()))) else some (.inr (.inl (v1.1, (v1.2.1, ()))))
noncomputable def F45 : ((List D176 × Unit) × ((Int × Unit) × Unit)) → Option (((Int × Unit) × Unit)) := fun x0 => bif iLt (iSub .i64 x0.2.1.1 (List.length x0.1.1 : Int)) (0:Int) then some (((-1:Int), ()), ()) else (loopF (F45.b0 x0) (iSub .i64 x0.2.1.1 (List.length x0.1.1 : Int), ((0:Int), ()))).bind fun r5 => Sum.elim (fun v4 => some ((v4.1, ()), ())) some r5
noncomputable def c45 : Con := ⟨i45, o45, F45⟩
noncomputable def C45 : Ctx := ⟨27, TT, EE, fun n => (bif Nat.beq n 132 then some c132 else none), fun n k => [], fun n => (bif Nat.beq n 0 then (some ⟨[(.t 1 (.int .i64) .sh), (.t 5 (.int .i64) .sh)], [4, 12, 13, 14, 15, 16, 17, 18, 19, 20, 21, 22, 23, 24, 25], []⟩) else none), fun n => none⟩
theorem q45 : ∀ x, runF C45 Tryz.f45 i45 o45 x = F45 x := by intro x; kernel_rfl
def i133 : List Grp := [⟨.agg, e176, []⟩, ⟨.c, (.cons (.int .i64) .nil), []⟩]
def o133 : List Grp := [⟨.c, (.cons (.int .i64) .nil), []⟩]
/-- laws.szGone -/
noncomputable def F133 : (D176 × ((Int × Unit) × Unit)) → Option (((Int × Unit) × Unit)) := fun x0 => bif iLt (iSub .i64 x0.2.1.1 (ByteArray.size x0.1.2.2.1 : Int)) (0:Int) then some (((-1:Int), ()), ()) else some ((iSub .i64 x0.2.1.1 (ByteArray.size x0.1.2.2.1 : Int), ()), ())
noncomputable def c133 : Con := ⟨i133, o133, F133⟩
noncomputable def C133 : Ctx := ⟨13, TT, EE, fun n => none, fun n k => [], fun n => none, fun n => none⟩
theorem q133 : ∀ x, runF C133 Tryz.f133 i133 o133 x = F133 x := by intro x; kernel_rfl
def i46 : List Grp := [⟨.c, (.cons (.sl e179) .nil), []⟩, ⟨.c, (.cons (.int .i64) .nil), []⟩]
def o46 : List Grp := [⟨.c, (.cons (.int .i64) .nil), []⟩]
/-- laws.szGoneS -/
noncomputable def F46.b0 (x0 : ((List D179 × Unit) × ((Int × Unit) × Unit))) : (v1 : (Int × (Int × Unit))) → Option (Sum (Int × (Int × Unit)) (Sum (Int × (Int × Unit)) (((Int × Unit) × Unit)))) := fun v1 => bif iLt v1.2.1 (List.length x0.1.1 : Int) then (getI x0.1.1 v1.2.1).bind fun x2 => (F133 (x2, ((v1.1, ()), ()))).bind fun y3 => bif iLt y3.1.1 (0:Int) then some (.inr (.inr (((-1:Int), ()), ()))) else some (.inl (y3.1.1, (iAdd .i64 v1.2.1 (1:Int), ()))) else some (.inr (.inl (v1.1, (v1.2.1, ()))))
noncomputable def F46 : ((List D179 × Unit) × ((Int × Unit) × Unit)) → Option (((Int × Unit) × Unit)) := fun x0 => bif iLt (iSub .i64 x0.2.1.1 (List.length x0.1.1 : Int)) (0:Int) then some (((-1:Int), ()), ()) else (loopF (F46.b0 x0) (iSub .i64 x0.2.1.1 (List.length x0.1.1 : Int), ((0:Int), ()))).bind fun r5 => Sum.elim (fun v4 => some ((v4.1, ()), ())) some r5
noncomputable def c46 : Con := ⟨i46, o46, F46⟩
noncomputable def C46 : Ctx := ⟨27, TT, EE, fun n => (bif Nat.beq n 133 then some c133 else none), fun n k => [], fun n => (bif Nat.beq n 0 then (some ⟨[(.t 1 (.int .i64) .sh), (.t 5 (.int .i64) .sh)], [4, 12, 13, 14, 15, 16, 17, 18, 19, 20, 21, 22, 23, 24, 25], []⟩) else none), fun n => none⟩
theorem q46 : ∀ x, runF C46 Tryz.f46 i46 o46 x = F46 x := by intro x; kernel_rfl
def i135 : List Grp := [⟨.agg, e185, []⟩, ⟨.c, (.cons (.int .i64) .nil), []⟩]
def o135 : List Grp := [⟨.c, (.cons (.int .i64) .nil), []⟩]
/-- laws.szProof -/
noncomputable def F135 : (D185 × ((Int × Unit) × Unit)) → Option (((Int × Unit) × Unit)) := fun x0 => (F42 ((x0.1.2.1, ()), (x0.2.1, ()))).bind fun y1 => bif iLt y1.1.1 (0:Int) then some (((-1:Int), ()), ()) else (F43 ((x0.1.2.2.1, (x0.1.2.2.2.1, (x0.1.2.2.2.2.1, ()))), (y1.1, ()))).bind fun y2 => bif iLt y2.1.1 (0:Int) then some (((-1:Int), ()), ()) else some (y2.1, ())
noncomputable def c135 : Con := ⟨i135, o135, F135⟩
noncomputable def C135 : Ctx := ⟨18, TT, EE, fun n => (bif Nat.ble n 42 then (bif Nat.beq n 42 then some c42 else none) else (bif Nat.beq n 43 then some c43 else none)), fun n k => [], fun n => none, fun n => none⟩
theorem q135 : ∀ x, runF C135 Tryz.f135 i135 o135 x = F135 x := by intro x; kernel_rfl
def i49 : List Grp := [⟨.c, (.cons (.sl e185) .nil), []⟩, ⟨.c, (.cons (.int .i64) .nil), []⟩]
def o49 : List Grp := [⟨.c, (.cons (.int .i64) .nil), []⟩]
/-- laws.szProofS -/
noncomputable def F49.b0 (x0 : ((List D185 × Unit) × ((Int × Unit) × Unit))) : (v1 : (Int × (Int × Unit))) → Option (Sum (Int × (Int × Unit)) (Sum (Int × (Int × Unit)) (((Int × Unit) × Unit)))) := fun v1 => bif iLt v1.2.1 (List.length x0.1.1 : Int) then (getI x0.1.1 v1.2.1).bind fun x2 => (F135 (x2, ((v1.1, ()), ()))).bind fun y3 => bif iLt y3.1.1 (0:Int) then some (.inr (.inr (((-1:Int), ()), ()))) else some (.inl (y3.1.1, (iAdd .i64 v1.2.1 (1:Int), ()))) else some (.inr (.inl (v1.1, (v1.2.1, ()))))
noncomputable def F49 : ((List D185 × Unit) × ((Int × Unit) × Unit)) → Option (((Int × Unit) × Unit)) := fun x0 => bif iLt (iSub .i64 x0.2.1.1 (List.length x0.1.1 : Int)) (0:Int) then some (((-1:Int), ()), ()) else (loopF (F49.b0 x0) (iSub .i64 x0.2.1.1 (List.length x0.1.1 : Int), ((0:Int), ()))).bind fun r5 => Sum.elim (fun v4 => some ((v4.1, ()), ())) some r5
noncomputable def c49 : Con := ⟨i49, o49, F49⟩
noncomputable def C49 : Ctx := ⟨27, TT, EE, fun n => (bif Nat.beq n 135 then some c135 else none), fun n k => [], fun n => (bif Nat.beq n 0 then (some ⟨[(.t 1 (.int .i64) .sh), (.t 5 (.int .i64) .sh)], [4, 12, 13, 14, 15, 16, 17, 18, 19, 20, 21, 22, 23, 24, 25], []⟩) else none), fun n => none⟩
theorem q49 : ∀ x, runF C49 Tryz.f49 i49 o49 x = F49 x := by intro x; kernel_rfl
def i8 : List Grp := [⟨.agg, e38, []⟩, ⟨.c, (.cons (.int .i64) .nil), []⟩]
def o8 : List Grp := [⟨.c, (.cons (.int .i64) .nil), []⟩]
/-- laws.szNode -/
noncomputable def F8 : (D38 × ((Int × Unit) × Unit)) → Option (((Int × Unit) × Unit)) := fun x0 => bif iLt (iSub .i64 x0.2.1.1 (ByteArray.size x0.1.1 : Int)) (0:Int) then some (((-1:Int), ()), ()) else (F22 ((x0.1.2.2.1, (x0.1.2.2.2.1, ())), ((iSub .i64 x0.2.1.1 (ByteArray.size x0.1.1 : Int), ()), ()))).bind fun y1 => bif iLt y1.1.1 (0:Int) then some (((-1:Int), ()), ()) else (F41 ((x0.1.2.2.2.2.1, ()), (y1.1, ()))).bind fun y2 => bif iLt y2.1.1 (0:Int) then some (((-1:Int), ()), ()) else (F42 ((x0.1.2.2.2.2.2.1, ()), (y2.1, ()))).bind fun y3 => bif iLt y3.1.1 (0:Int) then some (((-1:Int), ()), ()) else (F43 ((x0.1.2.2.2.2.2.2.2.2.1, (x0.1.2.2.2.2.2.2.2.2.2.1, (x0.1.2.2.2.2.2.2.2.2.2.2.1, ()))), (y3.1, ()))).bind fun y4 => bif iLt y4.1.1 (0:Int) then some (((-1:Int), ()), ()) else (F44 ((x0.1.2.2.2.2.2.2.2.2.2.2.2.1, (x0.1.2.2.2.2.2.2.2.2.2.2.2.2.1, (x0.1.2.2.2.2.2.2.2.2.2.2.2.2.2.1, ()))), (y4.1, ()))).bind fun y5 => bif iLt y5.1.1 (0:Int) then some (((-1:Int), ()), ()) else (F45 ((x0.1.2.2.2.2.2.2.2.2.2.2.2.2.2.2.2.1, ()), (y5.1, ()))).bind fun y6 => bif iLt y6.1.1 (0:Int) then some (((-1:Int), ()), ()) else (F46 ((x0.1.2.2.2.2.2.2.2.2.2.2.2.2.2.2.2.2.1, ()), (y6.1, ()))).bind fun y7 => bif iLt y7.1.1 (0:Int) then some (((-1:Int), ()), ()) else (F47 ((x0.1.2.2.2.2.2.2.2.2.2.2.2.2.2.2.2.2.2.1, ()), (y7.1, ()))).bind fun y8 => bif iLt y8.1.1 (0:Int) then some (((-1:Int), ()), ()) else (F48 ((x0.1.2.2.2.2.2.2.2.2.2.2.2.2.2.2.2.2.2.2.1, ()), (y8.1, ()))).bind fun y9 => bif iLt y9.1.1 (0:Int) then some (((-1:Int), ()), ()) else (F49 ((x0.1.2.2.2.2.2.2.2.2.2.2.2.2.2.2.2.2.2.2.2.1, ()), (y9.1, ()))).bind fun y10 => bif iLt y10.1.1 (0:Int) then some (((-1:Int), ()), ()) else some (y10.1, ())
noncomputable def c8 : Con := ⟨i8, o8, F8⟩
noncomputable def C8 : Ctx := ⟨73, TT, EE, fun n => (bif Nat.ble n 44 then (bif Nat.ble n 41 then (bif Nat.ble n 22 then (bif Nat.beq n 22 then some c22 else none) else (bif Nat.beq n 41 then some c41 else none)) else (bif Nat.ble n 42 then (bif Nat.beq n 42 then some c42 else none) else (bif Nat.ble n 43 then (bif Nat.beq n 43 then some c43 else none) else (bif Nat.beq n 44 then some c44 else none)))) else (bif Nat.ble n 46 then (bif Nat.ble n 45 then (bif Nat.beq n 45 then some c45 else none) else (bif Nat.beq n 46 then some c46 else none)) else (bif Nat.ble n 47 then (bif Nat.beq n 47 then some c47 else none) else (bif Nat.ble n 48 then (bif Nat.beq n 48 then some c48 else none) else (bif Nat.beq n 49 then some c49 else none))))), fun n k => [], fun n => none, fun n => none⟩
theorem q8 : ∀ x, runF C8 Tryz.f8 i8 o8 x = F8 x := by intro x; kernel_rfl
def i82 : List Grp := [⟨.c, (.cons (.sl e38) .nil), []⟩, ⟨.c, (.cons (.int .i64) .nil), []⟩]
def o82 : List Grp := [⟨.c, (.cons (.int .i64) .nil), []⟩]
/-- laws.szNodeS -/
noncomputable def F82.b0 (x0 : ((List D38 × Unit) × ((Int × Unit) × Unit))) : (v1 : (Int × (Int × Unit))) → Option (Sum (Int × (Int × Unit)) (Sum (Int × (Int × Unit)) (((Int × Unit) × Unit)))) := fun v1 => bif iLt v1.2.1 (List.length x0.1.1 : Int) then (getI x0.1.1 v1.2.1).bind fun x2 => (F8 (x2, ((v1.1, ()), ()))).bind fun y3 => bif iLt y3.1.1 (0:Int) then some (.inr (.inr (((-1:Int), ()), ()))) else some (.inl (y3.1.1, (iAdd .i64 v1.2.1 (1:Int), ()))) else some (.inr (.inl (v1.1, (v1.2.1, ()))))
noncomputable def F82 : ((List D38 × Unit) × ((Int × Unit) × Unit)) → Option (((Int × Unit) × Unit)) := fun x0 => bif iLt (iSub .i64 x0.2.1.1 (List.length x0.1.1 : Int)) (0:Int) then some (((-1:Int), ()), ()) else (loopF (F82.b0 x0) (iSub .i64 x0.2.1.1 (List.length x0.1.1 : Int), ((0:Int), ()))).bind fun r5 => Sum.elim (fun v4 => some ((v4.1, ()), ())) some r5
noncomputable def c82 : Con := ⟨i82, o82, F82⟩
noncomputable def C82 : Ctx := ⟨27, TT, EE, fun n => (bif Nat.beq n 8 then some c8 else none), fun n k => [], fun n => (bif Nat.beq n 0 then (some ⟨[(.t 1 (.int .i64) .sh), (.t 5 (.int .i64) .sh)], [4, 12, 13, 14, 15, 16, 17, 18, 19, 20, 21, 22, 23, 24, 25], []⟩) else none), fun n => none⟩
theorem q82 : ∀ x, runF C82 Tryz.f82 i82 o82 x = F82 x := by intro x; kernel_rfl
def i155 : List Grp := [⟨.agg, e208, []⟩, ⟨.c, (.cons (.int .i64) .nil), []⟩]
def o155 : List Grp := [⟨.c, (.cons (.int .i64) .nil), []⟩]
/-- laws.szSig -/
noncomputable def F155 : (D208 × ((Int × Unit) × Unit)) → Option (((Int × Unit) × Unit)) := fun x0 => bif iLt (iSub .i64 x0.2.1.1 (ByteArray.size x0.1.2.2.2.2.1 : Int)) (0:Int) then some (((-1:Int), ()), ()) else some ((iSub .i64 x0.2.1.1 (ByteArray.size x0.1.2.2.2.2.1 : Int), ()), ())
noncomputable def c155 : Con := ⟨i155, o155, F155⟩
noncomputable def C155 : Ctx := ⟨13, TT, EE, fun n => none, fun n k => [], fun n => none, fun n => none⟩
theorem q155 : ∀ x, runF C155 Tryz.f155 i155 o155 x = F155 x := by intro x; kernel_rfl
def i83 : List Grp := [⟨.c, (.cons (.sl e208) .nil), []⟩, ⟨.c, (.cons (.int .i64) .nil), []⟩]
def o83 : List Grp := [⟨.c, (.cons (.int .i64) .nil), []⟩]
/-- laws.szSigS -/
noncomputable def F83.b0 (x0 : ((List D208 × Unit) × ((Int × Unit) × Unit))) : (v1 : (Int × (Int × Unit))) → Option (Sum (Int × (Int × Unit)) (Sum (Int × (Int × Unit)) (((Int × Unit) × Unit)))) := fun v1 => bif iLt v1.2.1 (List.length x0.1.1 : Int) then (getI x0.1.1 v1.2.1).bind fun x2 => (F155 (x2, ((v1.1, ()), ()))).bind fun y3 => bif iLt y3.1.1 (0:Int) then some (.inr (.inr (((-1:Int), ()), ()))) else some (.inl (y3.1.1, (iAdd .i64 v1.2.1 (1:Int), ()))) else some (.inr (.inl (v1.1, (v1.2.1, ()))))
noncomputable def F83 : ((List D208 × Unit) × ((Int × Unit) × Unit)) → Option (((Int × Unit) × Unit)) := fun x0 => bif iLt (iSub .i64 x0.2.1.1 (List.length x0.1.1 : Int)) (0:Int) then some (((-1:Int), ()), ()) else (loopF (F83.b0 x0) (iSub .i64 x0.2.1.1 (List.length x0.1.1 : Int), ((0:Int), ()))).bind fun r5 => Sum.elim (fun v4 => some ((v4.1, ()), ())) some r5
noncomputable def c83 : Con := ⟨i83, o83, F83⟩
noncomputable def C83 : Ctx := ⟨27, TT, EE, fun n => (bif Nat.beq n 155 then some c155 else none), fun n k => [], fun n => (bif Nat.beq n 0 then (some ⟨[(.t 1 (.int .i64) .sh), (.t 5 (.int .i64) .sh)], [4, 12, 13, 14, 15, 16, 17, 18, 19, 20, 21, 22, 23, 24, 25], []⟩) else none), fun n => none⟩
theorem q83 : ∀ x, runF C83 Tryz.f83 i83 o83 x = F83 x := by intro x; kernel_rfl
def i156 : List Grp := [⟨.agg, e211, []⟩, ⟨.c, (.cons (.int .i64) .nil), []⟩]
def o156 : List Grp := [⟨.c, (.cons (.int .i64) .nil), []⟩]
/-- laws.szMsg -/
noncomputable def F156 : (D211 × ((Int × Unit) × Unit)) → Option (((Int × Unit) × Unit)) := fun x0 => bif iLt (iSub .i64 x0.2.1.1 (ByteArray.size x0.1.2.1 : Int)) (0:Int) then some (((-1:Int), ()), ()) else (F42 ((x0.1.2.2.2.1, ()), ((iSub .i64 x0.2.1.1 (ByteArray.size x0.1.2.1 : Int), ()), ()))).bind fun y1 => bif iLt y1.1.1 (0:Int) then some (((-1:Int), ()), ()) else (F132 ((x0.1.2.2.2.2.1, (x0.1.2.2.2.2.2.1, (x0.1.2.2.2.2.2.2.1, ()))), (y1.1, ()))).bind fun y2 => bif iLt y2.1.1 (0:Int) then some (((-1:Int), ()), ()) else (F133 ((x0.1.2.2.2.2.2.2.2.1, (x0.1.2.2.2.2.2.2.2.2.1, (x0.1.2.2.2.2.2.2.2.2.2.1, ()))), (y2.1, ()))).bind fun y3 => bif iLt y3.1.1 (0:Int) then some (((-1:Int), ()), ()) else (F43 ((x0.1.2.2.2.2.2.2.2.2.2.2.1, (x0.1.2.2.2.2.2.2.2.2.2.2.2.1, (x0.1.2.2.2.2.2.2.2.2.2.2.2.2.1, ()))), (y3.1, ()))).bind fun y4 => bif iLt y4.1.1 (0:Int) then some (((-1:Int), ()), ()) else (F44 ((x0.1.2.2.2.2.2.2.2.2.2.2.2.2.2.1, (x0.1.2.2.2.2.2.2.2.2.2.2.2.2.2.2.1, (x0.1.2.2.2.2.2.2.2.2.2.2.2.2.2.2.2.1, ()))), (y4.1, ()))).bind fun y5 => bif iLt y5.1.1 (0:Int) then some (((-1:Int), ()), ()) else some (y5.1, ())
noncomputable def c156 : Con := ⟨i156, o156, F156⟩
noncomputable def C156 : Ctx := ⟨43, TT, EE, fun n => (bif Nat.ble n 43 then (bif Nat.ble n 42 then (bif Nat.beq n 42 then some c42 else none) else (bif Nat.beq n 43 then some c43 else none)) else (bif Nat.ble n 44 then (bif Nat.beq n 44 then some c44 else none) else (bif Nat.ble n 132 then (bif Nat.beq n 132 then some c132 else none) else (bif Nat.beq n 133 then some c133 else none)))), fun n k => [], fun n => none, fun n => none⟩
theorem q156 : ∀ x, runF C156 Tryz.f156 i156 o156 x = F156 x := by intro x; kernel_rfl
def i84 : List Grp := [⟨.c, (.cons (.sl e211) .nil), []⟩, ⟨.c, (.cons (.int .i64) .nil), []⟩]
def o84 : List Grp := [⟨.c, (.cons (.int .i64) .nil), []⟩]
/-- laws.szMsgS -/
noncomputable def F84.b0 (x0 : ((List D211 × Unit) × ((Int × Unit) × Unit))) : (v1 : (Int × (Int × Unit))) → Option (Sum (Int × (Int × Unit)) (Sum (Int × (Int × Unit)) (((Int × Unit) × Unit)))) := fun v1 => bif iLt v1.2.1 (List.length x0.1.1 : Int) then (getI x0.1.1 v1.2.1).bind fun x2 => (F156 (x2, ((v1.1, ()), ()))).bind fun y3 => bif iLt y3.1.1 (0:Int) then some (.inr (.inr (((-1:Int), ()), ()))) else some (.inl (y3.1.1, (iAdd .i64 v1.2.1 (1:Int), ()))) else some (.inr (.inl (v1.1, (v1.2.1, ()))))
noncomputable def F84 : ((List D211 × Unit) × ((Int × Unit) × Unit)) → Option (((Int × Unit) × Unit)) := fun x0 => bif iLt (iSub .i64 x0.2.1.1 (List.length x0.1.1 : Int)) (0:Int) then some (((-1:Int), ()), ()) else (loopF (F84.b0 x0) (iSub .i64 x0.2.1.1 (List.length x0.1.1 : Int), ((0:Int), ()))).bind fun r5 => Sum.elim (fun v4 => some ((v4.1, ()), ())) some r5
noncomputable def c84 : Con := ⟨i84, o84, F84⟩
noncomputable def C84 : Ctx := ⟨27, TT, EE, fun n => (bif Nat.beq n 156 then some c156 else none), fun n k => [], fun n => (bif Nat.beq n 0 then (some ⟨[(.t 1 (.int .i64) .sh), (.t 5 (.int .i64) .sh)], [4, 12, 13, 14, 15, 16, 17, 18, 19, 20, 21, 22, 23, 24, 25], []⟩) else none), fun n => none⟩
theorem q84 : ∀ x, runF C84 Tryz.f84 i84 o84 x = F84 x := by intro x; kernel_rfl
def i17 : List Grp := [⟨.agg, e67, []⟩, ⟨.c, (.cons (.int .i64) .nil), []⟩]
def o17 : List Grp := [⟨.c, (.cons (.int .i64) .nil), []⟩]
/-- laws.szWorld -/
noncomputable def F17 : (D67 × ((Int × Unit) × Unit)) → Option (((Int × Unit) × Unit)) := fun x0 => (F22 ((x0.1.1, (x0.1.2.1, ())), (x0.2.1, ()))).bind fun y1 => bif iLt y1.1.1 (0:Int) then some (((-1:Int), ()), ()) else (F23 ((x0.1.2.2.1, ()), (y1.1, ()))).bind fun y2 => bif iLt y2.1.1 (0:Int) then some (((-1:Int), ()), ()) else (F82 ((x0.1.2.2.2.1, ()), (y2.1, ()))).bind fun y3 => bif iLt y3.1.1 (0:Int) then some (((-1:Int), ()), ()) else (F42 ((x0.1.2.2.2.2.1, ()), (y3.1, ()))).bind fun y4 => bif iLt y4.1.1 (0:Int) then some (((-1:Int), ()), ()) else (F83 ((x0.1.2.2.2.2.2.1, ()), (y4.1, ()))).bind fun y5 => bif iLt y5.1.1 (0:Int) then some (((-1:Int), ()), ()) else (F84 ((x0.1.2.2.2.2.2.2.1, ()), (y5.1, ()))).bind fun y6 => bif iLt y6.1.1 (0:Int) then some (((-1:Int), ()), ()) else some (y6.1, ())
noncomputable def c17 : Con := ⟨i17, o17, F17⟩
noncomputable def C17 : Ctx := ⟨42, TT, EE, fun n => (bif Nat.ble n 42 then (bif Nat.ble n 22 then (bif Nat.beq n 22 then some c22 else none) else (bif Nat.ble n 23 then (bif Nat.beq n 23 then some c23 else none) else (bif Nat.beq n 42 then some c42 else none))) else (bif Nat.ble n 82 then (bif Nat.beq n 82 then some c82 else none) else (bif Nat.ble n 83 then (bif Nat.beq n 83 then some c83 else none) else (bif Nat.beq n 84 then some c84 else none)))), fun n k => [], fun n => none, fun n => none⟩
theorem q17 : ∀ x, runF C17 Tryz.f17 i17 o17 x = F17 x := by intro x; kernel_rfl
def i229 : List Grp := [⟨.agg, e264, []⟩]
def o229 : List Grp := [⟨.agg, e264, []⟩]
/-- laws.toLeave -/
noncomputable def F229 : (D264 × Unit) → Option ((D264 × Unit)) := fun x0 => some (x0.1, ())
noncomputable def c229 : Con := ⟨i229, o229, F229⟩
noncomputable def C229 : Ctx := ⟨11, TT, EE, fun n => none, fun n k => [], fun n => none, fun n => none⟩
theorem q229 : ∀ x, runF C229 Tryz.f229 i229 o229 x = F229 x := by intro x; kernel_rfl
def i208 : List Grp := [⟨.c, (.cons (.sl e264) .nil), []⟩]
def o208 : List Grp := [⟨.c, (.cons (.sl e248) .nil), [(.own [])]⟩]
/-- laws.toLeaveS -/
noncomputable def F208.b0 (x0 : ((List D264 × Unit) × Unit)) : (v1 : (Int × (List (D248) × Unit))) → Option (Sum (Int × (List (D248) × Unit)) (Sum (Int × (List (D248) × Unit)) (((List D248 × Unit) × Unit)))) := fun v1 => bif iLt v1.1 (List.length x0.1.1 : Int) then (getI x0.1.1 v1.1).bind fun x2 => (F229 (x2, ())).bind fun y3 => (getI v1.2.1 v1.1).bind fun _ => (getN v1.2.1 (Int.toNat v1.1)).bind fun x4 => (some (List.set v1.2.1 (Int.toNat v1.1) (y3.1.1, (y3.1.2.1, ())))).bind fun z5 => some (.inl (iAdd .i64 v1.1 (1:Int), (z5, ()))) else some (.inr (.inl (v1.1, (v1.2.1, ()))))
noncomputable def F208 : ((List D264 × Unit) × Unit) → Option (((List D248 × Unit) × Unit)) := fun x0 => bif mkOk (List.length x0.1.1 : Int) (List.length x0.1.1 : Int) 16 then (loopF (F208.b0 x0) ((0:Int), (List.replicate (Int.toNat (List.length x0.1.1 : Int)) ((0:Int), ((0:Int), ())), ()))).bind fun r7 => Sum.elim (fun v6 => some ((v6.2.1, ()), ())) some r7 else none
noncomputable def c208 : Con := ⟨i208, o208, F208⟩
noncomputable def C208 : Ctx := ⟨23, TT, EE, fun n => (bif Nat.beq n 229 then some c229 else none), fun n k => [], fun n => (bif Nat.beq n 0 then (some ⟨[(.t 4 (.int .i64) .sh), (.r 8192 e248 [])], [8, 9, 10, 11, 12, 13, 14, 15, 16, 17, 18, 19, 20, 21], []⟩) else none), fun n => none⟩
theorem q208 : ∀ x, runF C208 Tryz.f208 i208 o208 x = F208 x := by intro x; kernel_rfl
def i171 : List Grp := [⟨.agg, e225, []⟩]
def o171 : List Grp := [⟨.agg, e153, [.sh, .sh, .sh, .sh, (.own [])]⟩]
/-- laws.toAcct -/
noncomputable def F171 : (D225 × Unit) → Option ((D153 × Unit)) := fun x0 => (F208 ((x0.1.2.2.2.2.1, ()), ())).bind fun y1 => some ((x0.1.1, (x0.1.2.1, (x0.1.2.2.1, (x0.1.2.2.2.1, (y1.1.1, ()))))), ())
noncomputable def c171 : Con := ⟨i171, o171, F171⟩
noncomputable def C171 : Ctx := ⟨21, TT, EE, fun n => (bif Nat.beq n 208 then some c208 else none), fun n k => [], fun n => none, fun n => none⟩
theorem q171 : ∀ x, runF C171 Tryz.f171 i171 o171 x = F171 x := by intro x; kernel_rfl
def i101 : List Grp := [⟨.c, (.cons (.sl e225) .nil), []⟩]
def o101 : List Grp := [⟨.c, (.cons (.sl e153) .nil), [(.own [.sh, .sh, .sh, .sh, (.own [])])]⟩]
/-- laws.toAcctS -/
noncomputable def F101.b0 (x0 : ((List D225 × Unit) × Unit)) : (v1 : (Int × (List (D153) × Unit))) → Option (Sum (Int × (List (D153) × Unit)) (Sum (Int × (List (D153) × Unit)) (((List D153 × Unit) × Unit)))) := fun v1 => bif iLt v1.1 (List.length x0.1.1 : Int) then (getI x0.1.1 v1.1).bind fun x2 => (F171 (x2, ())).bind fun y3 => (getI v1.2.1 v1.1).bind fun _ => (getN v1.2.1 (Int.toNat v1.1)).bind fun x4 => (some (List.set v1.2.1 (Int.toNat v1.1) (y3.1.1, (y3.1.2.1, (y3.1.2.2.1, (y3.1.2.2.2.1, (y3.1.2.2.2.2.1, ()))))))).bind fun z5 => some (.inl (iAdd .i64 v1.1 (1:Int), (z5, ()))) else some (.inr (.inl (v1.1, (v1.2.1, ()))))
noncomputable def F101 : ((List D225 × Unit) × Unit) → Option (((List D153 × Unit) × Unit)) := fun x0 => bif mkOk (List.length x0.1.1 : Int) (List.length x0.1.1 : Int) 64 then (loopF (F101.b0 x0) ((0:Int), (List.replicate (Int.toNat (List.length x0.1.1 : Int)) (⟨#[]⟩, ((0:Int), ((0:Int), ((0:Int), ([], ()))))), ()))).bind fun r7 => Sum.elim (fun v6 => some ((v6.2.1, ()), ())) some r7 else none
noncomputable def c101 : Con := ⟨i101, o101, F101⟩
noncomputable def C101 : Ctx := ⟨23, TT, EE, fun n => (bif Nat.beq n 171 then some c171 else none), fun n k => (bif Nat.beq n 1 then (match k with | 2 => [.sh, .sh, .sh, .sh, (.own [])] | _ => []) else []), fun n => (bif Nat.beq n 0 then (some ⟨[(.t 4 (.int .i64) .sh), (.r 8192 e153 [.sh, .sh, .sh, .sh, (.own [])])], [8, 9, 10, 11, 12, 13, 14, 15, 16, 17, 18, 19, 20, 21], []⟩) else none), fun n => none⟩
theorem q101 : ∀ x, runF C101 Tryz.f101 i101 o101 x = F101 x := by intro x; kernel_rfl
def i25 : List Grp := [⟨.agg, e24, []⟩]
def o25 : List Grp := [⟨.agg, e48, [.sh, (.own [.sh, .sh, .sh, .sh, (.own [])])]⟩]
/-- laws.toLedger -/
noncomputable def F25 : (D24 × Unit) → Option ((D48 × Unit)) := fun x0 => (F101 ((x0.1.2.1, ()), ())).bind fun y1 => some ((x0.1.1, (y1.1.1, ())), ())
noncomputable def c25 : Con := ⟨i25, o25, F25⟩
noncomputable def C25 : Ctx := ⟨12, TT, EE, fun n => (bif Nat.beq n 101 then some c101 else none), fun n k => [], fun n => none, fun n => none⟩
theorem q25 : ∀ x, runF C25 Tryz.f25 i25 o25 x = F25 x := by intro x; kernel_rfl
def i26 : List Grp := [⟨.c, (.cons (.sl e9) .nil), []⟩]
def o26 : List Grp := [⟨.c, (.cons (.sl e9) .nil), [(.own [])]⟩]
/-- laws.toStringS -/
noncomputable def F26.b0 (x0 : ((List D9 × Unit) × Unit)) : (v1 : (Int × (List (D9) × Unit))) → Option (Sum (Int × (List (D9) × Unit)) (Sum (Int × (List (D9) × Unit)) (((List D9 × Unit) × Unit)))) := fun v1 => bif iLt v1.1 (List.length x0.1.1 : Int) then (getI x0.1.1 v1.1).bind fun x2 => (getI v1.2.1 v1.1).bind fun _ => (getN v1.2.1 (Int.toNat v1.1)).bind fun x3 => (some (List.set v1.2.1 (Int.toNat v1.1) (x2.1, ()))).bind fun z4 => some (.inl (iAdd .i64 v1.1 (1:Int), (z4, ()))) else some (.inr (.inl (v1.1, (v1.2.1, ()))))
noncomputable def F26 : ((List D9 × Unit) × Unit) → Option (((List D9 × Unit) × Unit)) := fun x0 => bif mkOk (List.length x0.1.1 : Int) (List.length x0.1.1 : Int) 16 then (loopF (F26.b0 x0) ((0:Int), (List.replicate (Int.toNat (List.length x0.1.1 : Int)) (⟨#[]⟩, ()), ()))).bind fun r6 => Sum.elim (fun v5 => some ((v5.2.1, ()), ())) some r6 else none
noncomputable def c26 : Con := ⟨i26, o26, F26⟩
noncomputable def C26 : Ctx := ⟨22, TT, EE, fun n => none, fun n k => [], fun n => (bif Nat.beq n 0 then (some ⟨[(.t 4 (.int .i64) .sh), (.r 8192 e9 [])], [8, 9, 10, 11, 12, 13, 14, 15, 16, 17, 18, 19, 20], []⟩) else none), fun n => none⟩
theorem q26 : ∀ x, runF C26 Tryz.f26 i26 o26 x = F26 x := by intro x; kernel_rfl
def i138 : List Grp := [⟨.agg, e170, []⟩]
def o138 : List Grp := [⟨.agg, e170, []⟩]
/-- laws.toVal -/
noncomputable def F138 : (D170 × Unit) → Option ((D170 × Unit)) := fun x0 => some (x0.1, ())
noncomputable def c138 : Con := ⟨i138, o138, F138⟩
noncomputable def C138 : Ctx := ⟨11, TT, EE, fun n => none, fun n k => [], fun n => none, fun n => none⟩
theorem q138 : ∀ x, runF C138 Tryz.f138 i138 o138 x = F138 x := by intro x; kernel_rfl
def i51 : List Grp := [⟨.c, (.cons (.sl e170) .nil), []⟩]
def o51 : List Grp := [⟨.c, (.cons (.sl e188) .nil), [(.own [])]⟩]
/-- laws.toValS -/
noncomputable def F51.b0 (x0 : ((List D170 × Unit) × Unit)) : (v1 : (Int × (List (D188) × Unit))) → Option (Sum (Int × (List (D188) × Unit)) (Sum (Int × (List (D188) × Unit)) (((List D188 × Unit) × Unit)))) := fun v1 => bif iLt v1.1 (List.length x0.1.1 : Int) then (getI x0.1.1 v1.1).bind fun x2 => (F138 (x2, ())).bind fun y3 => (getI v1.2.1 v1.1).bind fun _ => (getN v1.2.1 (Int.toNat v1.1)).bind fun x4 => (some (List.set v1.2.1 (Int.toNat v1.1) (y3.1.1, (y3.1.2.1, ())))).bind fun z5 => some (.inl (iAdd .i64 v1.1 (1:Int), (z5, ()))) else some (.inr (.inl (v1.1, (v1.2.1, ()))))
noncomputable def F51 : ((List D170 × Unit) × Unit) → Option (((List D188 × Unit) × Unit)) := fun x0 => bif mkOk (List.length x0.1.1 : Int) (List.length x0.1.1 : Int) 24 then (loopF (F51.b0 x0) ((0:Int), (List.replicate (Int.toNat (List.length x0.1.1 : Int)) (⟨#[]⟩, ((0:Int), ())), ()))).bind fun r7 => Sum.elim (fun v6 => some ((v6.2.1, ()), ())) some r7 else none
noncomputable def c51 : Con := ⟨i51, o51, F51⟩
noncomputable def C51 : Ctx := ⟨23, TT, EE, fun n => (bif Nat.beq n 138 then some c138 else none), fun n k => [], fun n => (bif Nat.beq n 0 then (some ⟨[(.t 4 (.int .i64) .sh), (.r 8192 e188 [])], [8, 9, 10, 11, 12, 13, 14, 15, 16, 17, 18, 19, 20, 21], []⟩) else none), fun n => none⟩
theorem q51 : ∀ x, runF C51 Tryz.f51 i51 o51 x = F51 x := by intro x; kernel_rfl
def i53 : List Grp := [⟨.agg, e29, []⟩]
def o53 : List Grp := [⟨.agg, e29, [.sh, .sh, (.own [])]⟩]
/-- laws.toQc -/
noncomputable def F53 : (D29 × Unit) → Option ((D29 × Unit)) := fun x0 => (F26 ((x0.1.2.2.1, ()), ())).bind fun y1 => some ((x0.1.1, (x0.1.2.1, (y1.1.1, ()))), ())
noncomputable def c53 : Con := ⟨i53, o53, F53⟩
noncomputable def C53 : Ctx := ⟨15, TT, EE, fun n => (bif Nat.beq n 26 then some c26 else none), fun n k => [], fun n => none, fun n => none⟩
theorem q53 : ∀ x, runF C53 Tryz.f53 i53 o53 x = F53 x := by intro x; kernel_rfl
def i57 : List Grp := [⟨.c, (.cons (.sl e3) .nil), []⟩]
def o57 : List Grp := [⟨.c, (.cons (.sl e3) .nil), [(.own [])]⟩]
/-- laws.toIntS -/
noncomputable def F57.b0 (x0 : ((List D3 × Unit) × Unit)) : (v1 : (Int × (List (D3) × Unit))) → Option (Sum (Int × (List (D3) × Unit)) (Sum (Int × (List (D3) × Unit)) (((List D3 × Unit) × Unit)))) := fun v1 => bif iLt v1.1 (List.length x0.1.1 : Int) then (getI x0.1.1 v1.1).bind fun x2 => (getI v1.2.1 v1.1).bind fun _ => (getN v1.2.1 (Int.toNat v1.1)).bind fun x3 => (some (List.set v1.2.1 (Int.toNat v1.1) (x2.1, ()))).bind fun z4 => some (.inl (iAdd .i64 v1.1 (1:Int), (z4, ()))) else some (.inr (.inl (v1.1, (v1.2.1, ()))))
noncomputable def F57 : ((List D3 × Unit) × Unit) → Option (((List D3 × Unit) × Unit)) := fun x0 => bif mkOk (List.length x0.1.1 : Int) (List.length x0.1.1 : Int) 8 then (loopF (F57.b0 x0) ((0:Int), (List.replicate (Int.toNat (List.length x0.1.1 : Int)) ((0:Int), ()), ()))).bind fun r6 => Sum.elim (fun v5 => some ((v5.2.1, ()), ())) some r6 else none
noncomputable def c57 : Con := ⟨i57, o57, F57⟩
noncomputable def C57 : Ctx := ⟨22, TT, EE, fun n => none, fun n k => [], fun n => (bif Nat.beq n 0 then (some ⟨[(.t 4 (.int .i64) .sh), (.r 8192 e3 [])], [8, 9, 10, 11, 12, 13, 14, 15, 16, 17, 18, 19, 20], []⟩) else none), fun n => none⟩
theorem q57 : ∀ x, runF C57 Tryz.f57 i57 o57 x = F57 x := by intro x; kernel_rfl
def i54 : List Grp := [⟨.agg, e32, []⟩]
def o54 : List Grp := [⟨.agg, e32, [.sh, (.own []), (.own [])]⟩]
/-- laws.toTc -/
noncomputable def F54 : (D32 × Unit) → Option ((D32 × Unit)) := fun x0 => (F26 ((x0.1.2.1, ()), ())).bind fun y1 => (F57 ((x0.1.2.2.1, ()), ())).bind fun y2 => some ((x0.1.1, (y1.1.1, (y2.1.1, ()))), ())
noncomputable def c54 : Con := ⟨i54, o54, F54⟩
noncomputable def C54 : Ctx := ⟨16, TT, EE, fun n => (bif Nat.ble n 26 then (bif Nat.beq n 26 then some c26 else none) else (bif Nat.beq n 57 then some c57 else none)), fun n k => [], fun n => none, fun n => none⟩
theorem q54 : ∀ x, runF C54 Tryz.f54 i54 o54 x = F54 x := by intro x; kernel_rfl
def i142 : List Grp := [⟨.agg, e182, []⟩]
def o142 : List Grp := [⟨.agg, e182, []⟩]
/-- laws.toTx -/
noncomputable def F142 : (D182 × Unit) → Option ((D182 × Unit)) := fun x0 => some (x0.1, ())
noncomputable def c142 : Con := ⟨i142, o142, F142⟩
noncomputable def C142 : Ctx := ⟨20, TT, EE, fun n => none, fun n k => [], fun n => none, fun n => none⟩
theorem q142 : ∀ x, runF C142 Tryz.f142 i142 o142 x = F142 x := by intro x; kernel_rfl
def i58 : List Grp := [⟨.c, (.cons (.sl e182) .nil), []⟩]
def o58 : List Grp := [⟨.c, (.cons (.sl e195) .nil), [(.own [])]⟩]
/-- laws.toTxS -/
noncomputable def F58.b0 (x0 : ((List D182 × Unit) × Unit)) : (v1 : (Int × (List (D195) × Unit))) → Option (Sum (Int × (List (D195) × Unit)) (Sum (Int × (List (D195) × Unit)) (((List D195 × Unit) × Unit)))) := fun v1 => bif iLt v1.1 (List.length x0.1.1 : Int) then (getI x0.1.1 v1.1).bind fun x2 => (F142 (x2, ())).bind fun y3 => (getI v1.2.1 v1.1).bind fun _ => (getN v1.2.1 (Int.toNat v1.1)).bind fun x4 => (some (List.set v1.2.1 (Int.toNat v1.1) (y3.1.1, (y3.1.2.1, (y3.1.2.2.1, (y3.1.2.2.2.1, (y3.1.2.2.2.2.1, ()))))))).bind fun z5 => some (.inl (iAdd .i64 v1.1 (1:Int), (z5, ()))) else some (.inr (.inl (v1.1, (v1.2.1, ()))))
noncomputable def F58 : ((List D182 × Unit) × Unit) → Option (((List D195 × Unit) × Unit)) := fun x0 => bif mkOk (List.length x0.1.1 : Int) (List.length x0.1.1 : Int) 56 then (loopF (F58.b0 x0) ((0:Int), (List.replicate (Int.toNat (List.length x0.1.1 : Int)) ((0:Int), (⟨#[]⟩, (⟨#[]⟩, ((0:Int), ((0:Int), ()))))), ()))).bind fun r7 => Sum.elim (fun v6 => some ((v6.2.1, ()), ())) some r7 else none
noncomputable def c58 : Con := ⟨i58, o58, F58⟩
noncomputable def C58 : Ctx := ⟨23, TT, EE, fun n => (bif Nat.beq n 142 then some c142 else none), fun n k => [], fun n => (bif Nat.beq n 0 then (some ⟨[(.t 4 (.int .i64) .sh), (.r 8192 e195 [])], [8, 9, 10, 11, 12, 13, 14, 15, 16, 17, 18, 19, 20, 21], []⟩) else none), fun n => none⟩
theorem q58 : ∀ x, runF C58 Tryz.f58 i58 o58 x = F58 x := by intro x; kernel_rfl
def i139 : List Grp := [⟨.agg, e173, []⟩]
def o139 : List Grp := [⟨.agg, e138, [.sh, .sh, .sh, .sh, .sh, .sh, (.own []), .sh, (.own []), (.own []), (.own []), .sh, (.own [])]⟩]
/-- laws.toBlock -/
noncomputable def F139 : (D173 × Unit) → Option ((D138 × Unit)) := fun x0 => (F53 ((x0.1.2.2.2.2.1, (x0.1.2.2.2.2.2.1, (x0.1.2.2.2.2.2.2.1, ()))), ())).bind fun y1 => (F54 ((x0.1.2.2.2.2.2.2.2.1, (x0.1.2.2.2.2.2.2.2.2.1, (x0.1.2.2.2.2.2.2.2.2.2.1, ()))), ())).bind fun y2 => (F58 ((x0.1.2.2.2.2.2.2.2.2.2.2.1, ()), ())).bind fun y3 => (F51 ((x0.1.2.2.2.2.2.2.2.2.2.2.2.2.1, ()), ())).bind fun y4 => some ((x0.1.1, (x0.1.2.1, (x0.1.2.2.1, (x0.1.2.2.2.1, (y1.1.1, (y1.1.2.1, (y1.1.2.2.1, (y2.1.1, (y2.1.2.1, (y2.1.2.2.1, (y3.1.1, (x0.1.2.2.2.2.2.2.2.2.2.2.2.1, (y4.1.1, (x0.1.2.2.2.2.2.2.2.2.2.2.2.2.2.1, ())))))))))))))), ())
noncomputable def c139 : Con := ⟨i139, o139, F139⟩
noncomputable def C139 : Ctx := ⟨39, TT, EE, fun n => (bif Nat.ble n 53 then (bif Nat.ble n 51 then (bif Nat.beq n 51 then some c51 else none) else (bif Nat.beq n 53 then some c53 else none)) else (bif Nat.ble n 54 then (bif Nat.beq n 54 then some c54 else none) else (bif Nat.beq n 58 then some c58 else none))), fun n k => [], fun n => none, fun n => none⟩
theorem q139 : ∀ x, runF C139 Tryz.f139 i139 o139 x = F139 x := by intro x; kernel_rfl
def i52 : List Grp := [⟨.c, (.cons (.sl e173) .nil), []⟩]
def o52 : List Grp := [⟨.c, (.cons (.sl e138) .nil), [(.own [.sh, .sh, .sh, .sh, .sh, .sh, (.own []), .sh, (.own []), (.own []), (.own []), .sh, (.own [])])]⟩]
/-- laws.toBlockS -/
noncomputable def F52.b0 (x0 : ((List D173 × Unit) × Unit)) : (v1 : (Int × (List (D138) × Unit))) → Option (Sum (Int × (List (D138) × Unit)) (Sum (Int × (List (D138) × Unit)) (((List D138 × Unit) × Unit)))) := fun v1 => bif iLt v1.1 (List.length x0.1.1 : Int) then (getI x0.1.1 v1.1).bind fun x2 => (F139 (x2, ())).bind fun y3 => (getI v1.2.1 v1.1).bind fun _ => (getN v1.2.1 (Int.toNat v1.1)).bind fun x4 => (some (List.set v1.2.1 (Int.toNat v1.1) (y3.1.1, (y3.1.2.1, (y3.1.2.2.1, (y3.1.2.2.2.1, (y3.1.2.2.2.2.1, (y3.1.2.2.2.2.2.1, (y3.1.2.2.2.2.2.2.1, (y3.1.2.2.2.2.2.2.2.1, (y3.1.2.2.2.2.2.2.2.2.1, (y3.1.2.2.2.2.2.2.2.2.2.1, (y3.1.2.2.2.2.2.2.2.2.2.2.1, (y3.1.2.2.2.2.2.2.2.2.2.2.2.1, (y3.1.2.2.2.2.2.2.2.2.2.2.2.2.1, (y3.1.2.2.2.2.2.2.2.2.2.2.2.2.2.1, ())))))))))))))))).bind fun z5 => some (.inl (iAdd .i64 v1.1 (1:Int), (z5, ()))) else some (.inr (.inl (v1.1, (v1.2.1, ()))))
noncomputable def F52 : ((List D173 × Unit) × Unit) → Option (((List D138 × Unit) × Unit)) := fun x0 => bif mkOk (List.length x0.1.1 : Int) (List.length x0.1.1 : Int) 208 then (loopF (F52.b0 x0) ((0:Int), (List.replicate (Int.toNat (List.length x0.1.1 : Int)) ((0:Int), ((0:Int), ((0:Int), (⟨#[]⟩, ((0:Int), ((0:Int), ([], ((0:Int), ([], ([], ([], (false, ([], (⟨#[]⟩, ())))))))))))))), ()))).bind fun r7 => Sum.elim (fun v6 => some ((v6.2.1, ()), ())) some r7 else none
noncomputable def c52 : Con := ⟨i52, o52, F52⟩
noncomputable def C52 : Ctx := ⟨23, TT, EE, fun n => (bif Nat.beq n 139 then some c139 else none), fun n k => (bif Nat.beq n 1 then (match k with | 2 => [.sh, .sh, .sh, .sh, .sh, .sh, (.own []), .sh, (.own []), (.own []), (.own []), .sh, (.own [])] | _ => []) else []), fun n => (bif Nat.beq n 0 then (some ⟨[(.t 4 (.int .i64) .sh), (.r 8192 e138 [.sh, .sh, .sh, .sh, .sh, .sh, (.own []), .sh, (.own []), (.own []), (.own []), .sh, (.own [])])], [8, 9, 10, 11, 12, 13, 14, 15, 16, 17, 18, 19, 20, 21], []⟩) else none), fun n => none⟩
theorem q52 : ∀ x, runF C52 Tryz.f52 i52 o52 x = F52 x := by intro x; kernel_rfl
def i140 : List Grp := [⟨.agg, e176, []⟩]
def o140 : List Grp := [⟨.agg, e176, []⟩]
/-- laws.toVote -/
noncomputable def F140 : (D176 × Unit) → Option ((D176 × Unit)) := fun x0 => some (x0.1, ())
noncomputable def c140 : Con := ⟨i140, o140, F140⟩
noncomputable def C140 : Ctx := ⟨14, TT, EE, fun n => none, fun n k => [], fun n => none, fun n => none⟩
theorem q140 : ∀ x, runF C140 Tryz.f140 i140 o140 x = F140 x := by intro x; kernel_rfl
def i55 : List Grp := [⟨.c, (.cons (.sl e176) .nil), []⟩]
def o55 : List Grp := [⟨.c, (.cons (.sl e191) .nil), [(.own [])]⟩]
/-- laws.toVoteS -/
noncomputable def F55.b0 (x0 : ((List D176 × Unit) × Unit)) : (v1 : (Int × (List (D191) × Unit))) → Option (Sum (Int × (List (D191) × Unit)) (Sum (Int × (List (D191) × Unit)) (((List D191 × Unit) × Unit)))) := fun v1 => bif iLt v1.1 (List.length x0.1.1 : Int) then (getI x0.1.1 v1.1).bind fun x2 => (F140 (x2, ())).bind fun y3 => (getI v1.2.1 v1.1).bind fun _ => (getN v1.2.1 (Int.toNat v1.1)).bind fun x4 => (some (List.set v1.2.1 (Int.toNat v1.1) (y3.1.1, (y3.1.2.1, (y3.1.2.2.1, ()))))).bind fun z5 => some (.inl (iAdd .i64 v1.1 (1:Int), (z5, ()))) else some (.inr (.inl (v1.1, (v1.2.1, ()))))
noncomputable def F55 : ((List D176 × Unit) × Unit) → Option (((List D191 × Unit) × Unit)) := fun x0 => bif mkOk (List.length x0.1.1 : Int) (List.length x0.1.1 : Int) 32 then (loopF (F55.b0 x0) ((0:Int), (List.replicate (Int.toNat (List.length x0.1.1 : Int)) ((0:Int), ((0:Int), (⟨#[]⟩, ()))), ()))).bind fun r7 => Sum.elim (fun v6 => some ((v6.2.1, ()), ())) some r7 else none
noncomputable def c55 : Con := ⟨i55, o55, F55⟩
noncomputable def C55 : Ctx := ⟨23, TT, EE, fun n => (bif Nat.beq n 140 then some c140 else none), fun n k => [], fun n => (bif Nat.beq n 0 then (some ⟨[(.t 4 (.int .i64) .sh), (.r 8192 e191 [])], [8, 9, 10, 11, 12, 13, 14, 15, 16, 17, 18, 19, 20, 21], []⟩) else none), fun n => none⟩
theorem q55 : ∀ x, runF C55 Tryz.f55 i55 o55 x = F55 x := by intro x; kernel_rfl
def i141 : List Grp := [⟨.agg, e176, []⟩]
def o141 : List Grp := [⟨.agg, e176, []⟩]
/-- laws.toGone -/
noncomputable def F141 : (D176 × Unit) → Option ((D176 × Unit)) := fun x0 => some (x0.1, ())
noncomputable def c141 : Con := ⟨i141, o141, F141⟩
noncomputable def C141 : Ctx := ⟨14, TT, EE, fun n => none, fun n k => [], fun n => none, fun n => none⟩
theorem q141 : ∀ x, runF C141 Tryz.f141 i141 o141 x = F141 x := by intro x; kernel_rfl
def i56 : List Grp := [⟨.c, (.cons (.sl e179) .nil), []⟩]
def o56 : List Grp := [⟨.c, (.cons (.sl e193) .nil), [(.own [])]⟩]
/-- laws.toGoneS -/
noncomputable def F56.b0 (x0 : ((List D179 × Unit) × Unit)) : (v1 : (Int × (List (D193) × Unit))) → Option (Sum (Int × (List (D193) × Unit)) (Sum (Int × (List (D193) × Unit)) (((List D193 × Unit) × Unit)))) := fun v1 => bif iLt v1.1 (List.length x0.1.1 : Int) then (getI x0.1.1 v1.1).bind fun x2 => (F141 (x2, ())).bind fun y3 => (getI v1.2.1 v1.1).bind fun _ => (getN v1.2.1 (Int.toNat v1.1)).bind fun x4 => (some (List.set v1.2.1 (Int.toNat v1.1) (y3.1.1, (y3.1.2.1, (y3.1.2.2.1, ()))))).bind fun z5 => some (.inl (iAdd .i64 v1.1 (1:Int), (z5, ()))) else some (.inr (.inl (v1.1, (v1.2.1, ()))))
noncomputable def F56 : ((List D179 × Unit) × Unit) → Option (((List D193 × Unit) × Unit)) := fun x0 => bif mkOk (List.length x0.1.1 : Int) (List.length x0.1.1 : Int) 32 then (loopF (F56.b0 x0) ((0:Int), (List.replicate (Int.toNat (List.length x0.1.1 : Int)) ((0:Int), ((0:Int), (⟨#[]⟩, ()))), ()))).bind fun r7 => Sum.elim (fun v6 => some ((v6.2.1, ()), ())) some r7 else none
noncomputable def c56 : Con := ⟨i56, o56, F56⟩
noncomputable def C56 : Ctx := ⟨23, TT, EE, fun n => (bif Nat.beq n 141 then some c141 else none), fun n k => [], fun n => (bif Nat.beq n 0 then (some ⟨[(.t 4 (.int .i64) .sh), (.r 8192 e193 [])], [8, 9, 10, 11, 12, 13, 14, 15, 16, 17, 18, 19, 20, 21], []⟩) else none), fun n => none⟩
theorem q56 : ∀ x, runF C56 Tryz.f56 i56 o56 x = F56 x := by intro x; kernel_rfl
def i143 : List Grp := [⟨.agg, e185, []⟩]
def o143 : List Grp := [⟨.agg, e43, [.sh, (.own [.sh, .sh, .sh, .sh, .sh, .sh, (.own []), .sh, (.own []), (.own []), (.own []), .sh, (.own [])]), .sh, .sh, (.own [])]⟩]
/-- laws.toProof -/
noncomputable def F143 : (D185 × Unit) → Option ((D43 × Unit)) := fun x0 => (F52 ((x0.1.2.1, ()), ())).bind fun y1 => (F53 ((x0.1.2.2.1, (x0.1.2.2.2.1, (x0.1.2.2.2.2.1, ()))), ())).bind fun y2 => some ((x0.1.1, (y1.1.1, (y2.1.1, (y2.1.2.1, (y2.1.2.2.1, ()))))), ())
noncomputable def c143 : Con := ⟨i143, o143, F143⟩
noncomputable def C143 : Ctx := ⟨16, TT, EE, fun n => (bif Nat.ble n 52 then (bif Nat.beq n 52 then some c52 else none) else (bif Nat.beq n 53 then some c53 else none)), fun n k => [], fun n => none, fun n => none⟩
theorem q143 : ∀ x, runF C143 Tryz.f143 i143 o143 x = F143 x := by intro x; kernel_rfl
def i59 : List Grp := [⟨.c, (.cons (.sl e185) .nil), []⟩]
def o59 : List Grp := [⟨.c, (.cons (.sl e43) .nil), [(.own [.sh, (.own [.sh, .sh, .sh, .sh, .sh, .sh, (.own []), .sh, (.own []), (.own []), (.own []), .sh, (.own [])]), .sh, .sh, (.own [])])]⟩]
/-- laws.toProofS -/
noncomputable def F59.b0 (x0 : ((List D185 × Unit) × Unit)) : (v1 : (Int × (List (D43) × Unit))) → Option (Sum (Int × (List (D43) × Unit)) (Sum (Int × (List (D43) × Unit)) (((List D43 × Unit) × Unit)))) := fun v1 => bif iLt v1.1 (List.length x0.1.1 : Int) then (getI x0.1.1 v1.1).bind fun x2 => (F143 (x2, ())).bind fun y3 => (getI v1.2.1 v1.1).bind fun _ => (getN v1.2.1 (Int.toNat v1.1)).bind fun x4 => (some (List.set v1.2.1 (Int.toNat v1.1) (y3.1.1, (y3.1.2.1, (y3.1.2.2.1, (y3.1.2.2.2.1, (y3.1.2.2.2.2.1, ()))))))).bind fun z5 => some (.inl (iAdd .i64 v1.1 (1:Int), (z5, ()))) else some (.inr (.inl (v1.1, (v1.2.1, ()))))
noncomputable def F59 : ((List D185 × Unit) × Unit) → Option (((List D43 × Unit) × Unit)) := fun x0 => bif mkOk (List.length x0.1.1 : Int) (List.length x0.1.1 : Int) 72 then (loopF (F59.b0 x0) ((0:Int), (List.replicate (Int.toNat (List.length x0.1.1 : Int)) ((0:Int), ([], ((0:Int), ((0:Int), ([], ()))))), ()))).bind fun r7 => Sum.elim (fun v6 => some ((v6.2.1, ()), ())) some r7 else none
noncomputable def c59 : Con := ⟨i59, o59, F59⟩
noncomputable def C59 : Ctx := ⟨23, TT, EE, fun n => (bif Nat.beq n 143 then some c143 else none), fun n k => (bif Nat.beq n 1 then (match k with | 2 => [.sh, (.own [.sh, .sh, .sh, .sh, .sh, .sh, (.own []), .sh, (.own []), (.own []), (.own []), .sh, (.own [])]), .sh, .sh, (.own [])] | _ => []) else []), fun n => (bif Nat.beq n 0 then (some ⟨[(.t 4 (.int .i64) .sh), (.r 8192 e43 [.sh, (.own [.sh, .sh, .sh, .sh, .sh, .sh, (.own []), .sh, (.own []), (.own []), (.own []), .sh, (.own [])]), .sh, .sh, (.own [])])], [8, 9, 10, 11, 12, 13, 14, 15, 16, 17, 18, 19, 20, 21], []⟩) else none), fun n => none⟩
theorem q59 : ∀ x, runF C59 Tryz.f59 i59 o59 x = F59 x := by intro x; kernel_rfl
def i10 : List Grp := [⟨.agg, e38, []⟩]
def o10 : List Grp := [⟨.agg, e56, [.sh, .sh, .sh, (.own [.sh, .sh, .sh, .sh, (.own [])]), (.own []), (.own [.sh, .sh, .sh, .sh, .sh, .sh, (.own []), .sh, (.own []), (.own []), (.own []), .sh, (.own [])]), .sh, .sh, .sh, .sh, (.own []), .sh, (.own []), (.own []), .sh, (.own []), (.own []), (.own []), (.own []), (.own [.sh, (.own [.sh, .sh, .sh, .sh, .sh, .sh, (.own []), .sh, (.own []), (.own []), (.own []), .sh, (.own [])]), .sh, .sh, (.own [])])]⟩]
/-- laws.toNode -/
noncomputable def F10 : (D38 × Unit) → Option ((D56 × Unit)) := fun x0 => (F25 ((x0.1.2.2.1, (x0.1.2.2.2.1, ())), ())).bind fun y1 => (F51 ((x0.1.2.2.2.2.1, ()), ())).bind fun y2 => (F52 ((x0.1.2.2.2.2.2.1, ()), ())).bind fun y3 => (F53 ((x0.1.2.2.2.2.2.2.2.2.1, (x0.1.2.2.2.2.2.2.2.2.2.1, (x0.1.2.2.2.2.2.2.2.2.2.2.1, ()))), ())).bind fun y4 => (F54 ((x0.1.2.2.2.2.2.2.2.2.2.2.2.1, (x0.1.2.2.2.2.2.2.2.2.2.2.2.2.1, (x0.1.2.2.2.2.2.2.2.2.2.2.2.2.2.1, ()))), ())).bind fun y5 => (F55 ((x0.1.2.2.2.2.2.2.2.2.2.2.2.2.2.2.2.1, ()), ())).bind fun y6 => (F56 ((x0.1.2.2.2.2.2.2.2.2.2.2.2.2.2.2.2.2.1, ()), ())).bind fun y7 => (F57 ((x0.1.2.2.2.2.2.2.2.2.2.2.2.2.2.2.2.2.2.1, ()), ())).bind fun y8 => (F58 ((x0.1.2.2.2.2.2.2.2.2.2.2.2.2.2.2.2.2.2.2.1, ()), ())).bind fun y9 => (F59 ((x0.1.2.2.2.2.2.2.2.2.2.2.2.2.2.2.2.2.2.2.2.1, ()), ())).bind fun y10 => some ((x0.1.1, (x0.1.2.1, (y1.1.1, (y1.1.2.1, (y2.1.1, (y3.1.1, (x0.1.2.2.2.2.2.2.1, (x0.1.2.2.2.2.2.2.2.1, (y4.1.1, (y4.1.2.1, (y4.1.2.2.1, (y5.1.1, (y5.1.2.1, (y5.1.2.2.1, (x0.1.2.2.2.2.2.2.2.2.2.2.2.2.2.2.1, (y6.1.1, (y7.1.1, (y8.1.1, (y9.1.1, (y10.1.1, ())))))))))))))))))))), ())
noncomputable def c10 : Con := ⟨i10, o10, F10⟩
noncomputable def C10 : Ctx := ⟨60, TT, EE, fun n => (bif Nat.ble n 54 then (bif Nat.ble n 51 then (bif Nat.ble n 25 then (bif Nat.beq n 25 then some c25 else none) else (bif Nat.beq n 51 then some c51 else none)) else (bif Nat.ble n 52 then (bif Nat.beq n 52 then some c52 else none) else (bif Nat.ble n 53 then (bif Nat.beq n 53 then some c53 else none) else (bif Nat.beq n 54 then some c54 else none)))) else (bif Nat.ble n 56 then (bif Nat.ble n 55 then (bif Nat.beq n 55 then some c55 else none) else (bif Nat.beq n 56 then some c56 else none)) else (bif Nat.ble n 57 then (bif Nat.beq n 57 then some c57 else none) else (bif Nat.ble n 58 then (bif Nat.beq n 58 then some c58 else none) else (bif Nat.beq n 59 then some c59 else none))))), fun n k => [], fun n => none, fun n => none⟩
theorem q10 : ∀ x, runF C10 Tryz.f10 i10 o10 x = F10 x := by intro x; kernel_rfl
def i87 : List Grp := [⟨.c, (.cons (.sl e38) .nil), []⟩]
def o87 : List Grp := [⟨.c, (.cons (.sl e56) .nil), [(.own [.sh, .sh, .sh, (.own [.sh, .sh, .sh, .sh, (.own [])]), (.own []), (.own [.sh, .sh, .sh, .sh, .sh, .sh, (.own []), .sh, (.own []), (.own []), (.own []), .sh, (.own [])]), .sh, .sh, .sh, .sh, (.own []), .sh, (.own []), (.own []), .sh, (.own []), (.own []), (.own []), (.own []), (.own [.sh, (.own [.sh, .sh, .sh, .sh, .sh, .sh, (.own []), .sh, (.own []), (.own []), (.own []), .sh, (.own [])]), .sh, .sh, (.own [])])])]⟩]
/-- laws.toNodeS -/
noncomputable def F87.b0 (x0 : ((List D38 × Unit) × Unit)) : (v1 : (Int × (List (D56) × Unit))) → Option (Sum (Int × (List (D56) × Unit)) (Sum (Int × (List (D56) × Unit)) (((List D56 × Unit) × Unit)))) := fun v1 => bif iLt v1.1 (List.length x0.1.1 : Int) then (getI x0.1.1 v1.1).bind fun x2 => (F10 (x2, ())).bind fun y3 => (getI v1.2.1 v1.1).bind fun _ => (getN v1.2.1 (Int.toNat v1.1)).bind fun x4 => (some (List.set v1.2.1 (Int.toNat v1.1) (y3.1.1, (y3.1.2.1, (y3.1.2.2.1, (y3.1.2.2.2.1, (y3.1.2.2.2.2.1, (y3.1.2.2.2.2.2.1, (y3.1.2.2.2.2.2.2.1, (y3.1.2.2.2.2.2.2.2.1, (y3.1.2.2.2.2.2.2.2.2.1, (y3.1.2.2.2.2.2.2.2.2.2.1, (y3.1.2.2.2.2.2.2.2.2.2.2.1, (y3.1.2.2.2.2.2.2.2.2.2.2.2.1, (y3.1.2.2.2.2.2.2.2.2.2.2.2.2.1, (y3.1.2.2.2.2.2.2.2.2.2.2.2.2.2.1, (y3.1.2.2.2.2.2.2.2.2.2.2.2.2.2.2.1, (y3.1.2.2.2.2.2.2.2.2.2.2.2.2.2.2.2.1, (y3.1.2.2.2.2.2.2.2.2.2.2.2.2.2.2.2.2.1, (y3.1.2.2.2.2.2.2.2.2.2.2.2.2.2.2.2.2.2.1, (y3.1.2.2.2.2.2.2.2.2.2.2.2.2.2.2.2.2.2.2.1, (y3.1.2.2.2.2.2.2.2.2.2.2.2.2.2.2.2.2.2.2.2.1, ())))))))))))))))))))))).bind fun z5 => some (.inl (iAdd .i64 v1.1 (1:Int), (z5, ()))) else some (.inr (.inl (v1.1, (v1.2.1, ()))))
noncomputable def F87 : ((List D38 × Unit) × Unit) → Option (((List D56 × Unit) × Unit)) := fun x0 => bif mkOk (List.length x0.1.1 : Int) (List.length x0.1.1 : Int) 344 then (loopF (F87.b0 x0) ((0:Int), (List.replicate (Int.toNat (List.length x0.1.1 : Int)) (⟨#[]⟩, ((0:Int), ((0:Int), ([], ([], ([], ((0:Int), ((0:Int), ((0:Int), ((0:Int), ([], ((0:Int), ([], ([], ((0:Int), ([], ([], ([], ([], ([], ())))))))))))))))))))), ()))).bind fun r7 => Sum.elim (fun v6 => some ((v6.2.1, ()), ())) some r7 else none
noncomputable def c87 : Con := ⟨i87, o87, F87⟩
noncomputable def C87 : Ctx := ⟨23, TT, EE, fun n => (bif Nat.beq n 10 then some c10 else none), fun n k => (bif Nat.beq n 1 then (match k with | 2 => [.sh, .sh, .sh, (.own [.sh, .sh, .sh, .sh, (.own [])]), (.own []), (.own [.sh, .sh, .sh, .sh, .sh, .sh, (.own []), .sh, (.own []), (.own []), (.own []), .sh, (.own [])]), .sh, .sh, .sh, .sh, (.own []), .sh, (.own []), (.own []), .sh, (.own []), (.own []), (.own []), (.own []), (.own [.sh, (.own [.sh, .sh, .sh, .sh, .sh, .sh, (.own []), .sh, (.own []), (.own []), (.own []), .sh, (.own [])]), .sh, .sh, (.own [])])] | _ => []) else []), fun n => (bif Nat.beq n 0 then (some ⟨[(.t 4 (.int .i64) .sh), (.r 8192 e56 [.sh, .sh, .sh, (.own [.sh, .sh, .sh, .sh, (.own [])]), (.own []), (.own [.sh, .sh, .sh, .sh, .sh, .sh, (.own []), .sh, (.own []), (.own []), (.own []), .sh, (.own [])]), .sh, .sh, .sh, .sh, (.own []), .sh, (.own []), (.own []), .sh, (.own []), (.own []), (.own []), (.own []), (.own [.sh, (.own [.sh, .sh, .sh, .sh, .sh, .sh, (.own []), .sh, (.own []), (.own []), (.own []), .sh, (.own [])]), .sh, .sh, (.own [])])])], [8, 9, 10, 11, 12, 13, 14, 15, 16, 17, 18, 19, 20, 21], []⟩) else none), fun n => none⟩
theorem q87 : ∀ x, runF C87 Tryz.f87 i87 o87 x = F87 x := by intro x; kernel_rfl
def i160 : List Grp := [⟨.agg, e208, []⟩]
def o160 : List Grp := [⟨.agg, e208, []⟩]
/-- laws.toSig -/
noncomputable def F160 : (D208 × Unit) → Option ((D208 × Unit)) := fun x0 => some (x0.1, ())
noncomputable def c160 : Con := ⟨i160, o160, F160⟩
noncomputable def C160 : Ctx := ⟨20, TT, EE, fun n => none, fun n k => [], fun n => none, fun n => none⟩
theorem q160 : ∀ x, runF C160 Tryz.f160 i160 o160 x = F160 x := by intro x; kernel_rfl
def i88 : List Grp := [⟨.c, (.cons (.sl e208) .nil), []⟩]
def o88 : List Grp := [⟨.c, (.cons (.sl e214) .nil), [(.own [])]⟩]
/-- laws.toSigS -/
noncomputable def F88.b0 (x0 : ((List D208 × Unit) × Unit)) : (v1 : (Int × (List (D214) × Unit))) → Option (Sum (Int × (List (D214) × Unit)) (Sum (Int × (List (D214) × Unit)) (((List D214 × Unit) × Unit)))) := fun v1 => bif iLt v1.1 (List.length x0.1.1 : Int) then (getI x0.1.1 v1.1).bind fun x2 => (F160 (x2, ())).bind fun y3 => (getI v1.2.1 v1.1).bind fun _ => (getN v1.2.1 (Int.toNat v1.1)).bind fun x4 => (some (List.set v1.2.1 (Int.toNat v1.1) (y3.1.1, (y3.1.2.1, (y3.1.2.2.1, (y3.1.2.2.2.1, (y3.1.2.2.2.2.1, ()))))))).bind fun z5 => some (.inl (iAdd .i64 v1.1 (1:Int), (z5, ()))) else some (.inr (.inl (v1.1, (v1.2.1, ()))))
noncomputable def F88 : ((List D208 × Unit) × Unit) → Option (((List D214 × Unit) × Unit)) := fun x0 => bif mkOk (List.length x0.1.1 : Int) (List.length x0.1.1 : Int) 48 then (loopF (F88.b0 x0) ((0:Int), (List.replicate (Int.toNat (List.length x0.1.1 : Int)) ((0:Int), ((0:Int), ((0:Int), ((0:Int), (⟨#[]⟩, ()))))), ()))).bind fun r7 => Sum.elim (fun v6 => some ((v6.2.1, ()), ())) some r7 else none
noncomputable def c88 : Con := ⟨i88, o88, F88⟩
noncomputable def C88 : Ctx := ⟨23, TT, EE, fun n => (bif Nat.beq n 160 then some c160 else none), fun n k => [], fun n => (bif Nat.beq n 0 then (some ⟨[(.t 4 (.int .i64) .sh), (.r 8192 e214 [])], [8, 9, 10, 11, 12, 13, 14, 15, 16, 17, 18, 19, 20, 21], []⟩) else none), fun n => none⟩
theorem q88 : ∀ x, runF C88 Tryz.f88 i88 o88 x = F88 x := by intro x; kernel_rfl
def i161 : List Grp := [⟨.agg, e211, []⟩]
def o161 : List Grp := [⟨.agg, e217, [.sh, .sh, .sh, (.own [.sh, .sh, .sh, .sh, .sh, .sh, (.own []), .sh, (.own []), (.own []), (.own []), .sh, (.own [])]), .sh, .sh, .sh, .sh, .sh, .sh, .sh, .sh, (.own []), .sh, (.own []), (.own [])]⟩]
/-- laws.toMsg -/
noncomputable def F161 : (D211 × Unit) → Option ((D217 × Unit)) := fun x0 => (F52 ((x0.1.2.2.2.1, ()), ())).bind fun y1 => (F140 ((x0.1.2.2.2.2.1, (x0.1.2.2.2.2.2.1, (x0.1.2.2.2.2.2.2.1, ()))), ())).bind fun y2 => (F141 ((x0.1.2.2.2.2.2.2.2.1, (x0.1.2.2.2.2.2.2.2.2.1, (x0.1.2.2.2.2.2.2.2.2.2.1, ()))), ())).bind fun y3 => (F53 ((x0.1.2.2.2.2.2.2.2.2.2.2.1, (x0.1.2.2.2.2.2.2.2.2.2.2.2.1, (x0.1.2.2.2.2.2.2.2.2.2.2.2.2.1, ()))), ())).bind fun y4 => (F54 ((x0.1.2.2.2.2.2.2.2.2.2.2.2.2.2.1, (x0.1.2.2.2.2.2.2.2.2.2.2.2.2.2.2.1, (x0.1.2.2.2.2.2.2.2.2.2.2.2.2.2.2.2.1, ()))), ())).bind fun y5 => some ((x0.1.1, (x0.1.2.1, (x0.1.2.2.1, (y1.1.1, (y2.1.1, (y2.1.2.1, (y2.1.2.2.1, (y3.1.1, (y3.1.2.1, (y3.1.2.2.1, (y4.1.1, (y4.1.2.1, (y4.1.2.2.1, (y5.1.1, (y5.1.2.1, (y5.1.2.2.1, ())))))))))))))))), ())
noncomputable def c161 : Con := ⟨i161, o161, F161⟩
noncomputable def C161 : Ctx := ⟨34, TT, EE, fun n => (bif Nat.ble n 53 then (bif Nat.ble n 52 then (bif Nat.beq n 52 then some c52 else none) else (bif Nat.beq n 53 then some c53 else none)) else (bif Nat.ble n 54 then (bif Nat.beq n 54 then some c54 else none) else (bif Nat.ble n 140 then (bif Nat.beq n 140 then some c140 else none) else (bif Nat.beq n 141 then some c141 else none)))), fun n k => [], fun n => none, fun n => none⟩
theorem q161 : ∀ x, runF C161 Tryz.f161 i161 o161 x = F161 x := by intro x; kernel_rfl
def i89 : List Grp := [⟨.c, (.cons (.sl e211) .nil), []⟩]
def o89 : List Grp := [⟨.c, (.cons (.sl e217) .nil), [(.own [.sh, .sh, .sh, (.own [.sh, .sh, .sh, .sh, .sh, .sh, (.own []), .sh, (.own []), (.own []), (.own []), .sh, (.own [])]), .sh, .sh, .sh, .sh, .sh, .sh, .sh, .sh, (.own []), .sh, (.own []), (.own [])])]⟩]
/-- laws.toMsgS -/
noncomputable def F89.b0 (x0 : ((List D211 × Unit) × Unit)) : (v1 : (Int × (List (D217) × Unit))) → Option (Sum (Int × (List (D217) × Unit)) (Sum (Int × (List (D217) × Unit)) (((List D217 × Unit) × Unit)))) := fun v1 => bif iLt v1.1 (List.length x0.1.1 : Int) then (getI x0.1.1 v1.1).bind fun x2 => (F161 (x2, ())).bind fun y3 => (getI v1.2.1 v1.1).bind fun _ => (getN v1.2.1 (Int.toNat v1.1)).bind fun x4 => (some (List.set v1.2.1 (Int.toNat v1.1) (y3.1.1, (y3.1.2.1, (y3.1.2.2.1, (y3.1.2.2.2.1, (y3.1.2.2.2.2.1, (y3.1.2.2.2.2.2.1, (y3.1.2.2.2.2.2.2.1, (y3.1.2.2.2.2.2.2.2.1, (y3.1.2.2.2.2.2.2.2.2.1, (y3.1.2.2.2.2.2.2.2.2.2.1, (y3.1.2.2.2.2.2.2.2.2.2.2.1, (y3.1.2.2.2.2.2.2.2.2.2.2.2.1, (y3.1.2.2.2.2.2.2.2.2.2.2.2.2.1, (y3.1.2.2.2.2.2.2.2.2.2.2.2.2.2.1, (y3.1.2.2.2.2.2.2.2.2.2.2.2.2.2.2.1, (y3.1.2.2.2.2.2.2.2.2.2.2.2.2.2.2.2.1, ())))))))))))))))))).bind fun z5 => some (.inl (iAdd .i64 v1.1 (1:Int), (z5, ()))) else some (.inr (.inl (v1.1, (v1.2.1, ()))))
noncomputable def F89 : ((List D211 × Unit) × Unit) → Option (((List D217 × Unit) × Unit)) := fun x0 => bif mkOk (List.length x0.1.1 : Int) (List.length x0.1.1 : Int) 216 then (loopF (F89.b0 x0) ((0:Int), (List.replicate (Int.toNat (List.length x0.1.1 : Int)) ((0:Int), (⟨#[]⟩, ((0:Int), ([], ((0:Int), ((0:Int), (⟨#[]⟩, ((0:Int), ((0:Int), (⟨#[]⟩, ((0:Int), ((0:Int), ([], ((0:Int), ([], ([], ())))))))))))))))), ()))).bind fun r7 => Sum.elim (fun v6 => some ((v6.2.1, ()), ())) some r7 else none
noncomputable def c89 : Con := ⟨i89, o89, F89⟩
noncomputable def C89 : Ctx := ⟨23, TT, EE, fun n => (bif Nat.beq n 161 then some c161 else none), fun n k => (bif Nat.beq n 1 then (match k with | 2 => [.sh, .sh, .sh, (.own [.sh, .sh, .sh, .sh, .sh, .sh, (.own []), .sh, (.own []), (.own []), (.own []), .sh, (.own [])]), .sh, .sh, .sh, .sh, .sh, .sh, .sh, .sh, (.own []), .sh, (.own []), (.own [])] | _ => []) else []), fun n => (bif Nat.beq n 0 then (some ⟨[(.t 4 (.int .i64) .sh), (.r 8192 e217 [.sh, .sh, .sh, (.own [.sh, .sh, .sh, .sh, .sh, .sh, (.own []), .sh, (.own []), (.own []), (.own []), .sh, (.own [])]), .sh, .sh, .sh, .sh, .sh, .sh, .sh, .sh, (.own []), .sh, (.own []), (.own [])])], [8, 9, 10, 11, 12, 13, 14, 15, 16, 17, 18, 19, 20, 21], []⟩) else none), fun n => none⟩
theorem q89 : ∀ x, runF C89 Tryz.f89 i89 o89 x = F89 x := by intro x; kernel_rfl
def i19 : List Grp := [⟨.agg, e67, []⟩]
def o19 : List Grp := [⟨.agg, e74, [.sh, (.own [.sh, .sh, .sh, .sh, (.own [])]), (.own []), (.own [.sh, .sh, .sh, (.own [.sh, .sh, .sh, .sh, (.own [])]), (.own []), (.own [.sh, .sh, .sh, .sh, .sh, .sh, (.own []), .sh, (.own []), (.own []), (.own []), .sh, (.own [])]), .sh, .sh, .sh, .sh, (.own []), .sh, (.own []), (.own []), .sh, (.own []), (.own []), (.own []), (.own []), (.own [.sh, (.own [.sh, .sh, .sh, .sh, .sh, .sh, (.own []), .sh, (.own []), (.own []), (.own []), .sh, (.own [])]), .sh, .sh, (.own [])])]), (.own [.sh, .sh, .sh, .sh, .sh, .sh, (.own []), .sh, (.own []), (.own []), (.own []), .sh, (.own [])]), (.own []), (.own [.sh, .sh, .sh, (.own [.sh, .sh, .sh, .sh, .sh, .sh, (.own []), .sh, (.own []), (.own []), (.own []), .sh, (.own [])]), .sh, .sh, .sh, .sh, .sh, .sh, .sh, .sh, (.own []), .sh, (.own []), (.own [])])]⟩]
/-- laws.toWorld -/
noncomputable def F19 : (D67 × Unit) → Option ((D74 × Unit)) := fun x0 => (F25 ((x0.1.1, (x0.1.2.1, ())), ())).bind fun y1 => (F26 ((x0.1.2.2.1, ()), ())).bind fun y2 => (F87 ((x0.1.2.2.2.1, ()), ())).bind fun y3 => (F52 ((x0.1.2.2.2.2.1, ()), ())).bind fun y4 => (F88 ((x0.1.2.2.2.2.2.1, ()), ())).bind fun y5 => (F89 ((x0.1.2.2.2.2.2.2.1, ()), ())).bind fun y6 => some ((y1.1.1, (y1.1.2.1, (y2.1.1, (y3.1.1, (y4.1.1, (y5.1.1, (y6.1.1, ()))))))), ())
noncomputable def c19 : Con := ⟨i19, o19, F19⟩
noncomputable def C19 : Ctx := ⟨29, TT, EE, fun n => (bif Nat.ble n 52 then (bif Nat.ble n 25 then (bif Nat.beq n 25 then some c25 else none) else (bif Nat.ble n 26 then (bif Nat.beq n 26 then some c26 else none) else (bif Nat.beq n 52 then some c52 else none))) else (bif Nat.ble n 87 then (bif Nat.beq n 87 then some c87 else none) else (bif Nat.ble n 88 then (bif Nat.beq n 88 then some c88 else none) else (bif Nat.beq n 89 then some c89 else none)))), fun n k => [], fun n => none, fun n => none⟩
theorem q19 : ∀ x, runF C19 Tryz.f19 i19 o19 x = F19 x := by intro x; kernel_rfl
def i167 : List Grp := [⟨.c, (.cons (.int .i64) .nil), []⟩, ⟨.c, (.cons (.int .i64) .nil), []⟩, ⟨.c, (.cons (.int .i64) .nil), []⟩]
def o167 : List Grp := [⟨.c, (.cons .bool .nil), []⟩]
/-- spec.l1In -/
noncomputable def F167 : ((Int × Unit) × ((Int × Unit) × ((Int × Unit) × Unit))) → Option (((Bool × Unit) × Unit)) := fun x0 => bif iLe x0.2.1.1 x0.1.1 then some ((iLe x0.1.1 x0.2.2.1.1, ()), ()) else some ((false, ()), ())
noncomputable def c167 : Con := ⟨i167, o167, F167⟩
noncomputable def C167 : Ctx := ⟨15, TT, EE, fun n => none, fun n k => [], fun n => none, fun n => none⟩
theorem q167 : ∀ x, runF C167 Tryz.f167 i167 o167 x = F167 x := by intro x; kernel_rfl
def i125 : List Grp := [⟨.agg, e74, []⟩, ⟨.c, (.cons (.sl e3) .nil), []⟩]
def o125 : List Grp := [⟨.c, (.cons (.int .i64) .nil), []⟩]
/-- spec.l16Ends -/
noncomputable def F125.b0 (x0 : (D74 × ((List D3 × Unit) × Unit))) : (v1 : (Int × (Int × Unit))) → Option (Sum (Int × (Int × Unit)) (Sum (Int × (Int × Unit)) (((Int × Unit) × Unit)))) := fun v1 => bif iLt v1.2.1 (List.length x0.2.1.1 : Int) then (getI x0.2.1.1 v1.2.1).bind fun x2 => (F167 (x2, (((0:Int), ()), ((iSub .i64 (List.length x0.1.2.2.2.2.1 : Int) (1:Int), ()), ())))).bind fun y3 => bif y3.1.1 then (getI x0.2.1.1 v1.2.1).bind fun x4 => (getI x0.1.2.2.2.2.1 x4.1).bind fun x5 => bif x5.2.2.2.2.2.2.2.2.2.2.2.1 then some (.inl (iAdd .i64 v1.2.1 (1:Int), (iAdd .i64 v1.2.1 (1:Int), ()))) else some (.inl (v1.1, (iAdd .i64 v1.2.1 (1:Int), ()))) else some (.inl (v1.1, (iAdd .i64 v1.2.1 (1:Int), ()))) else some (.inr (.inl (v1.1, (v1.2.1, ()))))
noncomputable def F125 : (D74 × ((List D3 × Unit) × Unit)) → Option (((Int × Unit) × Unit)) := fun x0 => (loopF (F125.b0 x0) ((0:Int), ((0:Int), ()))).bind fun r7 => Sum.elim (fun v6 => some ((v6.1, ()), ())) some r7
noncomputable def c125 : Con := ⟨i125, o125, F125⟩
noncomputable def C125 : Ctx := ⟨36, TT, EE, fun n => (bif Nat.beq n 167 then some c167 else none), fun n k => [], fun n => (bif Nat.beq n 0 then (some ⟨[(.t 5 (.int .i64) .sh), (.t 6 (.int .i64) .sh)], [7, 8, 9, 10, 11, 12, 13, 14, 15, 16, 17, 18, 19, 20, 21, 22, 23, 24, 25, 26, 27, 28, 29, 30, 31, 32, 33, 34], []⟩) else none), fun n => none⟩
theorem q125 : ∀ x, runF C125 Tryz.f125 i125 o125 x = F125 x := by intro x; kernel_rfl
def i170 : List Grp := [⟨.c, (.cons (.sl e153) .nil), []⟩]
def o170 : List Grp := [⟨.c, (.cons (.sl e153) .nil), [(.own [.sh, .sh, .sh, .sh, (.own [])])]⟩]
/-- spec.l4Copy -/
noncomputable def F170.b0 (x0 : ((List D153 × Unit) × Unit)) : (v1 : (List (D153) × (Int × Unit))) → Option (Sum (List (D153) × (Int × Unit)) (Sum (List (D153) × (Int × Unit)) (((List D153 × Unit) × Unit)))) := fun v1 => bif iLt v1.2.1 (List.length x0.1.1 : Int) then (getI x0.1.1 v1.2.1).bind fun x2 => bif room (List.length ([] : List (D248)) + List.length x2.2.2.2.2.1) 16 then bif room (List.length v1.1 + List.length ([(x2.1, (x2.2.1, (x2.2.2.1, (x2.2.2.2.1, (lapp ([] : List (D248)) x2.2.2.2.2.1, ())))))] : List (D153))) 64 then some (.inl (lapp v1.1 ([(x2.1, (x2.2.1, (x2.2.2.1, (x2.2.2.2.1, (lapp ([] : List (D248)) x2.2.2.2.2.1, ())))))] : List (D153)), (iAdd .i64 v1.2.1 (1:Int), ()))) else none else none else some (.inr (.inl (v1.1, (v1.2.1, ()))))
noncomputable def F170 : ((List D153 × Unit) × Unit) → Option (((List D153 × Unit) × Unit)) := fun x0 => (loopF (F170.b0 x0) (([] : List (D153)), ((0:Int), ()))).bind fun r4 => Sum.elim (fun v3 => some ((v3.1, ()), ())) some r4
noncomputable def c170 : Con := ⟨i170, o170, F170⟩
noncomputable def C170 : Ctx := ⟨27, TT, EE, fun n => none, fun n k => (bif Nat.ble n 1 then (bif Nat.beq n 1 then (match k with | 0 => [.sh, .sh, .sh, .sh, (.own [])] | _ => []) else []) else (bif Nat.beq n 7 then (match k with | 2 => [.sh, .sh, .sh, .sh, (.own [])] | 3 => [.sh, .sh, .sh, .sh, (.own [])] | _ => []) else [])), fun n => (bif Nat.beq n 0 then (some ⟨[(.t 3 (.sl e153) (.own [.sh, .sh, .sh, .sh, (.own [])])), (.t 4 (.int .i64) .sh)], [5, 7, 8, 9, 10, 11, 12, 13, 14, 15, 16, 17, 18, 19, 20, 21, 22, 23, 24, 25], []⟩) else none), fun n => none⟩
theorem q170 : ∀ x, runF C170 Tryz.f170 i170 o170 x = F170 x := by intro x; kernel_rfl
def i98 : List Grp := [⟨.agg, e48, []⟩]
def o98 : List Grp := [⟨.agg, e48, [.sh, (.own [.sh, .sh, .sh, .sh, (.own [])])]⟩]
/-- spec.l6Copy -/
noncomputable def F98 : (D48 × Unit) → Option ((D48 × Unit)) := fun x0 => (F170 ((x0.1.2.1, ()), ())).bind fun y1 => some ((x0.1.1, (y1.1.1, ())), ())
noncomputable def c98 : Con := ⟨i98, o98, F98⟩
noncomputable def C98 : Ctx := ⟨9, TT, EE, fun n => (bif Nat.beq n 170 then some c170 else none), fun n k => [], fun n => none, fun n => none⟩
theorem q98 : ∀ x, runF C98 Tryz.f98 i98 o98 x = F98 x := by intro x; kernel_rfl
def i169 : List Grp := [⟨.c, (.cons .str .nil), []⟩]
def o169 : List Grp := [⟨.c, (.cons .bool .nil), []⟩]
/-- spec.NameOk -/
noncomputable def F169.b0 (x0 : ((ByteArray × Unit) × Unit)) : (v1 : (Int × Unit)) → Option (Sum (Int × Unit) (Sum (Int × Unit) (((Bool × Unit) × Unit)))) := fun v1 => bif iLt v1.1 (ByteArray.size x0.1.1 : Int) then (getI (ByteArray.data x0.1.1).toList v1.1).bind fun b2 => (F167 ((IntKind.wrap .i64 (UInt8.toNat b2 : Int), ()), (((97:Int), ()), (((122:Int), ()), ())))).bind fun y3 => bif (!y3.1.1) then (getI (ByteArray.data x0.1.1).toList v1.1).bind fun b4 => (F167 ((IntKind.wrap .i64 (UInt8.toNat b4 : Int), ()), (((48:Int), ()), (((57:Int), ()), ())))).bind fun y5 => bif (!y5.1.1) then some (.inr (.inr ((false, ()), ()))) else some (.inl (iAdd .i64 v1.1 (1:Int), ())) else some (.inl (iAdd .i64 v1.1 (1:Int), ())) else some (.inr (.inl (v1.1, ())))
noncomputable def F169 : ((ByteArray × Unit) × Unit) → Option (((Bool × Unit) × Unit)) := fun x0 => (loopF (F169.b0 x0) ((0:Int), ())).bind fun r7 => Sum.elim (fun v6 => (F167 (((ByteArray.size x0.1.1 : Int), ()), (((1:Int), ()), (((8:Int), ()), ())))).bind fun y8 => some (y8.1, ())) some r7
noncomputable def c169 : Con := ⟨i169, o169, F169⟩
noncomputable def C169 : Ctx := ⟨27, TT, EE, fun n => (bif Nat.beq n 167 then some c167 else none), fun n k => [], fun n => (bif Nat.beq n 0 then (some ⟨[(.t 3 (.int .i64) .sh)], [2, 4, 5, 6, 7, 8, 9, 10, 11, 12, 13, 14, 15, 16, 17, 18, 19, 20, 21, 22, 23], []⟩) else none), fun n => none⟩
theorem q169 : ∀ x, runF C169 Tryz.f169 i169 o169 x = F169 x := by intro x; kernel_rfl
def i206 : List Grp := [⟨.agg, e153, []⟩]
def o206 : List Grp := [⟨.c, (.cons .bool .nil), []⟩]
/-- spec.AcctOk -/
noncomputable def F206.b0 (x0 : (D153 × Unit)) : (v5 : (Int × Unit)) → Option (Sum (Int × Unit) (Sum (Int × Unit) (((Bool × Unit) × Unit)))) := fun v5 => bif iLt v5.1 (List.length x0.1.2.2.2.2.1 : Int) then (getI x0.1.2.2.2.2.1 v5.1).bind fun x6 => (F167 ((x6.1, ()), (((1:Int), ()), (((1000000:Int), ()), ())))).bind fun y7 => bif (!y7.1.1) then some (.inr (.inr ((false, ()), ()))) else (F167 ((x6.2.1, ()), (((0:Int), ()), (((1000:Int), ()), ())))).bind fun y8 => bif (!y8.1.1) then some (.inr (.inr ((false, ()), ()))) else bif iLt (0:Int) v5.1 then (getI x0.1.2.2.2.2.1 (iSub .i64 v5.1 (1:Int))).bind fun x9 => bif iLe x6.2.1 x9.2.1 then some (.inr (.inr ((false, ()), ()))) else some (.inl (iAdd .i64 v5.1 (1:Int), ())) else some (.inl (iAdd .i64 v5.1 (1:Int), ())) else some (.inr (.inl (v5.1, ())))
noncomputable def F206 : (D153 × Unit) → Option (((Bool × Unit) × Unit)) := fun x0 => (F169 ((x0.1.1, ()), ())).bind fun y1 => bif (!y1.1.1) then some ((false, ()), ()) else (F167 ((x0.1.2.1, ()), (((0:Int), ()), (((1000000:Int), ()), ())))).bind fun y2 => bif (!y2.1.1) then some ((false, ()), ()) else (F167 ((x0.1.2.2.1, ()), (((0:Int), ()), (((10000:Int), ()), ())))).bind fun y3 => bif (!y3.1.1) then some ((false, ()), ()) else (F167 ((x0.1.2.2.2.1, ()), (((0:Int), ()), (((1000000:Int), ()), ())))).bind fun y4 => bif (!y4.1.1) then some ((false, ()), ()) else bif iLt (4:Int) (List.length x0.1.2.2.2.2.1 : Int) then some ((false, ()), ()) else (loopF (F206.b0 x0) ((0:Int), ())).bind fun r11 => Sum.elim (fun v10 => some ((true, ()), ())) some r11
noncomputable def c206 : Con := ⟨i206, o206, F206⟩
noncomputable def C206 : Ctx := ⟨71, TT, EE, fun n => (bif Nat.ble n 167 then (bif Nat.beq n 167 then some c167 else none) else (bif Nat.beq n 169 then some c169 else none)), fun n k => [], fun n => (bif Nat.beq n 0 then (some ⟨[(.t 3 (.int .i64) .sh)], [2, 4, 33, 34, 35, 36, 37, 38, 39, 40, 41, 42, 43, 44, 45, 46, 47, 48, 49, 50, 51, 52, 53, 54, 55, 56, 57, 58, 59, 60, 61, 62, 63, 64, 65, 66, 67, 68, 69, 70], []⟩) else none), fun n => none⟩
theorem q206 : ∀ x, runF C206 Tryz.f206 i206 o206 x = F206 x := by intro x; kernel_rfl
def i228 : List Grp := [⟨.agg, e153, []⟩]
def o228 : List Grp := [⟨.c, (.cons (.int .i64) .nil), []⟩]
/-- spec.l4Of -/
noncomputable def F228.b0 (x0 : (D153 × Unit)) : (v1 : (Int × (Int × Unit))) → Option (Sum (Int × (Int × Unit)) (Sum (Int × (Int × Unit)) (((Int × Unit) × Unit)))) := fun v1 => bif iLt v1.2.1 (List.length x0.1.2.2.2.2.1 : Int) then (getI x0.1.2.2.2.2.1 v1.2.1).bind fun x2 => some (.inl (iAdd .i64 v1.1 x2.1, (iAdd .i64 v1.2.1 (1:Int), ()))) else some (.inr (.inl (v1.1, (v1.2.1, ()))))
noncomputable def F228 : (D153 × Unit) → Option (((Int × Unit) × Unit)) := fun x0 => (loopF (F228.b0 x0) (iAdd .i64 x0.1.2.1 x0.1.2.2.2.1, ((0:Int), ()))).bind fun r4 => Sum.elim (fun v3 => some ((v3.1, ()), ())) some r4
noncomputable def c228 : Con := ⟨i228, o228, F228⟩
noncomputable def C228 : Ctx := ⟨26, TT, EE, fun n => none, fun n k => [], fun n => (bif Nat.beq n 0 then (some ⟨[(.t 3 (.int .i64) .sh), (.t 4 (.int .i64) .sh)], [10, 11, 12, 13, 14, 15, 16, 17, 18, 19, 20, 21, 22, 23, 24], []⟩) else none), fun n => none⟩
theorem q228 : ∀ x, runF C228 Tryz.f228 i228 o228 x = F228 x := by intro x; kernel_rfl
def i207 : List Grp := [⟨.c, (.cons (.sl e153) .nil), []⟩]
def o207 : List Grp := [⟨.c, (.cons (.int .i64) .nil), []⟩]
/-- spec.Wealth -/
noncomputable def F207.b0 (x0 : ((List D153 × Unit) × Unit)) : (v1 : (Int × (Int × Unit))) → Option (Sum (Int × (Int × Unit)) (Sum (Int × (Int × Unit)) (((Int × Unit) × Unit)))) := fun v1 => bif iLt v1.2.1 (List.length x0.1.1 : Int) then (getI x0.1.1 v1.2.1).bind fun x2 => (F228 (x2, ())).bind fun y3 => some (.inl (iAdd .i64 v1.1 y3.1.1, (iAdd .i64 v1.2.1 (1:Int), ()))) else some (.inr (.inl (v1.1, (v1.2.1, ()))))
noncomputable def F207 : ((List D153 × Unit) × Unit) → Option (((Int × Unit) × Unit)) := fun x0 => (loopF (F207.b0 x0) ((0:Int), ((0:Int), ()))).bind fun r5 => Sum.elim (fun v4 => some ((v4.1, ()), ())) some r5
noncomputable def c207 : Con := ⟨i207, o207, F207⟩
noncomputable def C207 : Ctx := ⟨19, TT, EE, fun n => (bif Nat.beq n 228 then some c228 else none), fun n k => [], fun n => (bif Nat.beq n 0 then (some ⟨[(.t 3 (.int .i64) .sh), (.t 4 (.int .i64) .sh)], [5, 6, 7, 8, 9, 10, 11, 12, 13, 14, 15, 16, 17], []⟩) else none), fun n => none⟩
theorem q207 : ∀ x, runF C207 Tryz.f207 i207 o207 x = F207 x := by intro x; kernel_rfl
def i168 : List Grp := [⟨.c, (.cons (.sl e153) .nil), []⟩]
def o168 : List Grp := [⟨.c, (.cons .bool .nil), []⟩]
/-- spec.AcctsOk -/
noncomputable def F168.b0 (x0 : ((List D153 × Unit) × Unit)) : (v1 : (Int × Unit)) → Option (Sum (Int × Unit) (Sum (Int × Unit) (((Bool × Unit) × Unit)))) := fun v1 => bif iLt v1.1 (List.length x0.1.1 : Int) then (getI x0.1.1 v1.1).bind fun x2 => (F206 (x2, ())).bind fun y3 => bif (!y3.1.1) then some (.inr (.inr ((false, ()), ()))) else bif iLt (0:Int) v1.1 then (getI x0.1.1 (iSub .i64 v1.1 (1:Int))).bind fun x4 => (getI x0.1.1 v1.1).bind fun x5 => bif !sLt x4.1 x5.1 then some (.inr (.inr ((false, ()), ()))) else some (.inl (iAdd .i64 v1.1 (1:Int), ())) else some (.inl (iAdd .i64 v1.1 (1:Int), ())) else some (.inr (.inl (v1.1, ())))
noncomputable def F168 : ((List D153 × Unit) × Unit) → Option (((Bool × Unit) × Unit)) := fun x0 => (loopF (F168.b0 x0) ((0:Int), ())).bind fun r7 => Sum.elim (fun v6 => bif iLe (List.length x0.1.1 : Int) (12:Int) then (F207 (x0.1, ())).bind fun y8 => some ((iLe y8.1.1 (1000000:Int), ()), ()) else some ((false, ()), ())) some r7
noncomputable def c168 : Con := ⟨i168, o168, F168⟩
noncomputable def C168 : Ctx := ⟨42, TT, EE, fun n => (bif Nat.ble n 206 then (bif Nat.beq n 206 then some c206 else none) else (bif Nat.beq n 207 then some c207 else none)), fun n k => [], fun n => (bif Nat.beq n 0 then (some ⟨[(.t 3 (.int .i64) .sh)], [2, 4, 5, 6, 7, 8, 9, 10, 11, 12, 13, 14, 15, 16, 17, 18, 19, 20, 21, 22, 23, 24, 25, 26, 27, 28, 29, 30, 31, 32, 33], []⟩) else none), fun n => none⟩
theorem q168 : ∀ x, runF C168 Tryz.f168 i168 o168 x = F168 x := by intro x; kernel_rfl
def i96 : List Grp := [⟨.agg, e48, []⟩]
def o96 : List Grp := [⟨.c, (.cons .bool .nil), []⟩]
/-- spec.LedgerOk -/
noncomputable def F96 : (D48 × Unit) → Option (((Bool × Unit) × Unit)) := fun x0 => (F167 ((x0.1.1, ()), (((0:Int), ()), (((900:Int), ()), ())))).bind fun y1 => bif y1.1.1 then (F168 ((x0.1.2.1, ()), ())).bind fun y2 => some (y2.1, ()) else some ((false, ()), ())
noncomputable def c96 : Con := ⟨i96, o96, F96⟩
noncomputable def C96 : Ctx := ⟨11, TT, EE, fun n => (bif Nat.ble n 167 then (bif Nat.beq n 167 then some c167 else none) else (bif Nat.beq n 168 then some c168 else none)), fun n k => [], fun n => none, fun n => none⟩
theorem q96 : ∀ x, runF C96 Tryz.f96 i96 o96 x = F96 x := by intro x; kernel_rfl
def i234 : List Grp := [⟨.agg, e182, []⟩]
def o234 : List Grp := [⟨.c, (.cons .bool .nil), []⟩]
/-- spec.TxOk -/
noncomputable def F234 : (D182 × Unit) → Option (((Bool × Unit) × Unit)) := fun x0 => (F169 ((x0.1.2.1, ()), ())).bind fun y1 => bif (!y1.1.1) then some ((false, ()), ()) else (F167 ((x0.1.2.2.2.1, ()), (((1:Int), ()), (((1000000:Int), ()), ())))).bind fun y2 => bif (!y2.1.1) then some ((false, ()), ()) else (F167 ((x0.1.2.2.2.2.1, ()), (((0:Int), ()), (((10000:Int), ()), ())))).bind fun y3 => bif (!y3.1.1) then some ((false, ()), ()) else bif iEq x0.1.1 (1:Int) then (F169 ((x0.1.2.2.1, ()), ())).bind fun y4 => some (y4.1, ()) else (F167 ((x0.1.1, ()), (((2:Int), ()), (((3:Int), ()), ())))).bind fun y5 => bif y5.1.1 then some ((sEq x0.1.2.2.1 ⟨#[]⟩, ()), ()) else some ((false, ()), ())
noncomputable def c234 : Con := ⟨i234, o234, F234⟩
noncomputable def C234 : Ctx := ⟨33, TT, EE, fun n => (bif Nat.ble n 167 then (bif Nat.beq n 167 then some c167 else none) else (bif Nat.beq n 169 then some c169 else none)), fun n k => [], fun n => none, fun n => none⟩
theorem q234 : ∀ x, runF C234 Tryz.f234 i234 o234 x = F234 x := by intro x; kernel_rfl
def i239 : List Grp := [⟨.c, (.cons (.sl e153) .nil), []⟩, ⟨.c, (.cons .str .nil), []⟩]
def o239 : List Grp := [⟨.c, (.cons (.int .i64) .nil), []⟩]
/-- spec.AcctAt -/
noncomputable def F239.b0 (x0 : ((List D153 × Unit) × ((ByteArray × Unit) × Unit))) : (v1 : (Int × Unit)) → Option (Sum (Int × Unit) (Sum (Int × Unit) (((Int × Unit) × Unit)))) := fun v1 => bif iLt v1.1 (List.length x0.1.1 : Int) then (getI x0.1.1 v1.1).bind fun x2 => bif sEq x2.1 x0.2.1.1 then some (.inr (.inr ((v1.1, ()), ()))) else some (.inl (iAdd .i64 v1.1 (1:Int), ())) else some (.inr (.inl (v1.1, ())))
noncomputable def F239 : ((List D153 × Unit) × ((ByteArray × Unit) × Unit)) → Option (((Int × Unit) × Unit)) := fun x0 => (loopF (F239.b0 x0) ((0:Int), ())).bind fun r4 => Sum.elim (fun v3 => some (((-1:Int), ()), ())) some r4
noncomputable def c239 : Con := ⟨i239, o239, F239⟩
noncomputable def C239 : Ctx := ⟨20, TT, EE, fun n => none, fun n k => [], fun n => (bif Nat.beq n 0 then (some ⟨[(.t 5 (.int .i64) .sh)], [4, 6, 7, 8, 9, 10, 11, 12, 13, 14, 15, 16, 17, 18, 19], []⟩) else none), fun n => none⟩
theorem q239 : ∀ x, runF C239 Tryz.f239 i239 o239 x = F239 x := by intro x; kernel_rfl
def i284 : List Grp := [⟨.c, (.cons (.sl e153) .nil), []⟩]
def o284 : List Grp := [⟨.c, (.cons (.sl e153) .nil), [(.own [])]⟩]
/-- spec.l4Copy -/
noncomputable def c284 : Con := ⟨i284, o284, F170⟩
def i250 : List Grp := [⟨.c, (.cons (.sl e153) .nil), []⟩, ⟨.c, (.cons .str .nil), []⟩]
def o250 : List Grp := [⟨.c, (.cons (.sl e153) .nil), [(.own [])]⟩]
/-- spec.l4With -/
noncomputable def F250.b0 (x0 : ((List D153 × Unit) × ((ByteArray × Unit) × Unit))) : (v3 : (Int × (List (D153) × Unit))) → Option (Sum (Int × (List (D153) × Unit)) (Sum (Int × (List (D153) × Unit)) (((List D153 × Unit) × Unit)))) := fun v3 => bif iLt (0:Int) v3.1 then (getI v3.2.1 (iSub .i64 v3.1 (1:Int))).bind fun _ => (getN v3.2.1 (Int.toNat (iSub .i64 v3.1 (1:Int)))).bind fun x4 => bif !(sLt x4.1 x0.2.1.1 || sEq x4.1 x0.2.1.1) then (getI v3.2.1 (iSub .i64 v3.1 (1:Int))).bind fun _ => (getN v3.2.1 (Int.toNat (iSub .i64 v3.1 (1:Int)))).bind fun x5 => (getI v3.2.1 v3.1).bind fun _ => (getN v3.2.1 (Int.toNat v3.1)).bind fun x6 => (some (List.set v3.2.1 (Int.toNat v3.1) (x5.1, (x5.2.1, (x5.2.2.1, (x5.2.2.2.1, (x5.2.2.2.2.1, ()))))))).bind fun z7 => some (.inl (iSub .i64 v3.1 (1:Int), (z7, ()))) else some (.inr (.inl (v3.1, (v3.2.1, ())))) else some (.inr (.inl (v3.1, (v3.2.1, ()))))
noncomputable def F250 : ((List D153 × Unit) × ((ByteArray × Unit) × Unit)) → Option (((List D153 × Unit) × Unit)) := fun x0 => (F170 (x0.1, ())).bind fun y1 => (F239 (x0.1, (x0.2.1, ()))).bind fun y2 => bif iLe (0:Int) y2.1.1 then some (y1.1, ()) else bif room (List.length y1.1.1 + List.length ([(⟨#[]⟩, ((0:Int), ((0:Int), ((0:Int), ([], ())))))] : List (D153))) 64 then (loopF (F250.b0 x0) (iSub .i64 (List.length (lapp y1.1.1 ([(⟨#[]⟩, ((0:Int), ((0:Int), ((0:Int), ([], ())))))] : List (D153))) : Int) (1:Int), (lapp y1.1.1 ([(⟨#[]⟩, ((0:Int), ((0:Int), ((0:Int), ([], ())))))] : List (D153)), ()))).bind fun r9 => Sum.elim (fun v8 => (getI v8.2.1 v8.1).bind fun _ => (getN v8.2.1 (Int.toNat v8.1)).bind fun x10 => (some (List.set v8.2.1 (Int.toNat v8.1) (x0.2.1.1, ((0:Int), ((0:Int), ((0:Int), ([], ()))))))).bind fun z11 => some ((z11, ()), ())) some r9 else none
noncomputable def c250 : Con := ⟨i250, o250, F250⟩
noncomputable def C250 : Ctx := ⟨49, TT, EE, fun n => (bif Nat.ble n 170 then (bif Nat.beq n 170 then some c284 else none) else (bif Nat.beq n 239 then some c239 else none)), fun n k => [], fun n => (bif Nat.beq n 0 then (some ⟨[(.t 6 (.int .i64) .sh), (.r 24576 e153 [])], [21, 22, 23, 24, 25, 26, 27, 28, 29, 30, 31, 32, 33, 34, 35, 36, 37, 38, 39, 40, 41, 42], []⟩) else none), fun n => none⟩
theorem q250 : ∀ x, runF C250 Tryz.f250 i250 o250 x = F250 x := by intro x; kernel_rfl
def i251 : List Grp := [⟨.c, (.cons (.sl e248) .nil), []⟩, ⟨.c, (.cons (.int .i64) .nil), []⟩, ⟨.c, (.cons (.int .i64) .nil), []⟩]
def o251 : List Grp := [⟨.c, (.cons (.sl e248) .nil), [(.own [])]⟩]
/-- spec.l6Leave -/
noncomputable def F251.b0 (x0 : ((List D248 × Unit) × ((Int × Unit) × ((Int × Unit) × Unit)))) : (v1 : (List (D248) × (Bool × (Int × Unit)))) → Option (Sum (List (D248) × (Bool × (Int × Unit))) (Sum (List (D248) × (Bool × (Int × Unit))) (((List D248 × Unit) × Unit)))) := fun v1 => bif iLt v1.2.2.1 (List.length x0.1.1 : Int) then (getI x0.1.1 v1.2.2.1).bind fun x2 => Option.bind (bif (!v1.2.1) then bif iEq x2.2.1 x0.2.2.1.1 then some (.inl (true, (iAdd .i64 x2.1 x0.2.1.1, ()))) else some (.inl (v1.2.1, (x2.1, ()))) else some (.inl (v1.2.1, (x2.1, ())))) fun r4 => Sum.elim (fun v3 => Option.bind (bif (!v3.1) then bif iLt x0.2.2.1.1 x2.2.1 then bif room (List.length v1.1 + List.length ([(x0.2.1.1, (x0.2.2.1.1, ()))] : List (D248))) 16 then some (.inl (lapp v1.1 ([(x0.2.1.1, (x0.2.2.1.1, ()))] : List (D248)), (true, ()))) else none else some (.inl (v1.1, (v3.1, ()))) else some (.inl (v1.1, (v3.1, ())))) fun r6 => Sum.elim (fun v5 => bif room (List.length v5.1 + List.length ([(v3.2.1, (x2.2.1, ()))] : List (D248))) 16 then some (.inl (lapp v5.1 ([(v3.2.1, (x2.2.1, ()))] : List (D248)), (v5.2.1, (iAdd .i64 v1.2.2.1 (1:Int), ())))) else none) some r6) some r4 else some (.inr (.inl (v1.1, (v1.2.1, (v1.2.2.1, ())))))
noncomputable def F251 : ((List D248 × Unit) × ((Int × Unit) × ((Int × Unit) × Unit))) → Option (((List D248 × Unit) × Unit)) := fun x0 => (loopF (F251.b0 x0) (([] : List (D248)), (false, ((0:Int), ())))).bind fun r8 => Sum.elim (fun v7 => Option.bind (bif (!v7.2.1) then bif room (List.length v7.1 + List.length ([(x0.2.1.1, (x0.2.2.1.1, ()))] : List (D248))) 16 then some (.inl (lapp v7.1 ([(x0.2.1.1, (x0.2.2.1.1, ()))] : List (D248)), ())) else none else some (.inl (v7.1, ()))) fun r10 => Sum.elim (fun v9 => some ((v9.1, ()), ())) some r10) some r8
noncomputable def c251 : Con := ⟨i251, o251, F251⟩
noncomputable def C251 : Ctx := ⟨62, TT, EE, fun n => none, fun n k => [], fun n => (bif Nat.beq n 0 then (some ⟨[(.t 7 (.sl e248) (.own [])), (.t 8 .bool .sh), (.t 9 (.int .i64) .sh)], [10, 12, 13, 14, 15, 16, 17, 18, 19, 20, 21, 22, 23, 24, 25, 26, 27, 28, 29, 30, 31, 32, 33, 34, 35, 36, 37, 38, 39, 40, 41, 42, 43, 44, 45, 46, 47, 48, 49, 50, 51, 52], []⟩) else none), fun n => (bif Nat.ble n 10 then (bif Nat.beq n 10 then (some ⟨[(.t 8 .bool .sh), (.b 30720 0 (.int .i64) .sh)], [22, 23, 24, 25, 26, 27, 28, 29, 30, 31, 32, 33, 34], []⟩) else none) else (bif Nat.ble n 13 then (bif Nat.beq n 13 then (some ⟨[(.t 7 (.sl e248) (.own [])), (.t 8 .bool .sh)], [35, 36, 37, 38, 39, 40, 41, 42, 43, 44, 45, 46, 47, 48], [12288]⟩) else none) else (bif Nat.beq n 16 then (some ⟨[(.t 7 (.sl e248) (.own []))], [53, 54, 55, 56, 57, 58, 59, 60], [12288]⟩) else none)))⟩
theorem q251 : ∀ x, runF C251 Tryz.f251 i251 o251 x = F251 x := by intro x; kernel_rfl
def i285 : List Grp := [⟨.agg, e48, []⟩]
def o285 : List Grp := [⟨.agg, e48, [.sh, (.own [])]⟩]
/-- spec.l6Copy -/
noncomputable def c285 : Con := ⟨i285, o285, F98⟩
def i240 : List Grp := [⟨.agg, e48, []⟩, ⟨.agg, e182, []⟩, ⟨.c, (.cons (.int .i64) .nil), []⟩]
def o240 : List Grp := [⟨.agg, e48, [.sh, (.own [])]⟩]
/-- spec.l6Do -/
noncomputable def F240 : (D48 × (D182 × ((Int × Unit) × Unit))) → Option ((D48 × Unit)) := fun x0 => (F98 (x0.1, ())).bind fun y1 => (getI y1.1.2.1 x0.2.2.1.1).bind fun _ => (getN y1.1.2.1 (Int.toNat x0.2.2.1.1)).bind fun x2 => (getN y1.1.2.1 (Int.toNat x0.2.2.1.1)).bind fun x3 => (some (List.set y1.1.2.1 (Int.toNat x0.2.2.1.1) (x3.1, (x3.2.1, (iAdd .i64 x2.2.2.1 (1:Int), x3.2.2.2))))).bind fun z4 => Option.bind (bif iEq x0.2.1.1 (1:Int) then (getN z4 (Int.toNat x0.2.2.1.1)).bind fun x5 => (getN z4 (Int.toNat x0.2.2.1.1)).bind fun x6 => (some (List.set z4 (Int.toNat x0.2.2.1.1) (x6.1, (iSub .i64 x5.2.1 x0.2.1.2.2.2.1, x6.2.2)))).bind fun z7 => (F250 ((z7, ()), ((x0.2.1.2.2.1, ()), ()))).bind fun y8 => (F239 (y8.1, ((x0.2.1.2.2.1, ()), ()))).bind fun y9 => (getI y8.1.1 y9.1.1).bind fun _ => (getN y8.1.1 (Int.toNat y9.1.1)).bind fun x10 => (getI y8.1.1 y9.1.1).bind fun _ => (getN y8.1.1 (Int.toNat y9.1.1)).bind fun x11 => (some (List.set y8.1.1 (Int.toNat y9.1.1) (x11.1, (iAdd .i64 x10.2.1 x0.2.1.2.2.2.1, x11.2.2)))).bind fun z12 => some (.inl (z12, ())) else bif iEq x0.2.1.1 (2:Int) then (getN z4 (Int.toNat x0.2.2.1.1)).bind fun x13 => (getN z4 (Int.toNat x0.2.2.1.1)).bind fun x14 => (some (List.set z4 (Int.toNat x0.2.2.1.1) (x14.1, (iSub .i64 x13.2.1 x0.2.1.2.2.2.1, x14.2.2)))).bind fun z15 => (getN z15 (Int.toNat x0.2.2.1.1)).bind fun x16 => (getN z15 (Int.toNat x0.2.2.1.1)).bind fun x17 => (some (List.set z15 (Int.toNat x0.2.2.1.1) (x17.1, (x17.2.1, (x17.2.2.1, (iAdd .i64 x16.2.2.2.1 x0.2.1.2.2.2.1, x17.2.2.2.2)))))).bind fun z18 => some (.inl (z18, ())) else (getN z4 (Int.toNat x0.2.2.1.1)).bind fun x19 => (getN z4 (Int.toNat x0.2.2.1.1)).bind fun x20 => (some (List.set z4 (Int.toNat x0.2.2.1.1) (x20.1, (x20.2.1, (x20.2.2.1, (iSub .i64 x19.2.2.2.1 x0.2.1.2.2.2.1, x20.2.2.2.2)))))).bind fun z21 => (getN z21 (Int.toNat x0.2.2.1.1)).bind fun x22 => (F251 ((x22.2.2.2.2.1, ()), ((x0.2.1.2.2.2.1, ()), ((iAdd .i64 x0.1.1 (2:Int), ()), ())))).bind fun y23 => (getN z21 (Int.toNat x0.2.2.1.1)).bind fun x24 => (some (List.set z21 (Int.toNat x0.2.2.1.1) (x24.1, (x24.2.1, (x24.2.2.1, (x24.2.2.2.1, (y23.1.1, ()))))))).bind fun z25 => some (.inl (z25, ()))) fun r27 => Sum.elim (fun v26 => some ((y1.1.1, (v26.1, ())), ())) some r27
noncomputable def c240 : Con := ⟨i240, o240, F240⟩
noncomputable def C240 : Ctx := ⟨109, TT, EE, fun n => (bif Nat.ble n 239 then (bif Nat.ble n 98 then (bif Nat.beq n 98 then some c285 else none) else (bif Nat.beq n 239 then some c239 else none)) else (bif Nat.ble n 250 then (bif Nat.beq n 250 then some c250 else none) else (bif Nat.beq n 251 then some c251 else none))), fun n k => [], fun n => none, fun n => (bif Nat.beq n 15 then (some ⟨[(.b 12288 1 (.sl e153) (.own []))], [9, 24, 25, 26, 27, 28, 29, 30, 31, 32, 33, 34, 35, 36, 37, 38, 39, 40, 41, 42, 43, 44, 45, 46, 47, 48, 49, 50, 51, 52, 53, 54, 55, 56, 57, 58, 59, 60, 61, 62, 63, 64, 65, 66, 67, 68, 69, 70, 71, 72, 73, 74, 75, 76, 77, 78, 79, 80, 81, 82, 83, 84, 85, 86, 87, 88, 89, 90, 91, 92, 93, 94, 95, 96, 97, 98, 99, 100, 101, 102, 103, 104, 105, 106, 107], [10242]⟩) else none)⟩
theorem q240 : ∀ x, runF C240 Tryz.f240 i240 o240 x = F240 x := by intro x; kernel_rfl
def i223 : List Grp := [⟨.agg, e48, []⟩, ⟨.agg, e182, []⟩]
def o223 : List Grp := [⟨.agg, e48, []⟩, ⟨.c, (.cons (.int .i64) .nil), []⟩]
/-- spec.Apply -/
noncomputable def F223 : (D48 × (D182 × Unit)) → Option ((D48 × ((Int × Unit) × Unit))) := fun x0 => (F98 (x0.1, ())).bind fun y1 => (F96 (x0.1, ())).bind fun y2 => bif (!y2.1.1) then some (y1.1, (((1:Int), ()), ())) else (F234 (x0.2.1, ())).bind fun y3 => bif (!y3.1.1) then some (y1.1, (((1:Int), ()), ())) else (F239 ((x0.1.2.1, ()), ((x0.2.1.2.1, ()), ()))).bind fun y4 => bif iLt y4.1.1 (0:Int) then some (y1.1, (((2:Int), ()), ())) else (getI x0.1.2.1 y4.1.1).bind fun x5 => Option.bind (bif iEq x0.2.1.1 (3:Int) then some (.inl (x5.2.2.2.1, ())) else some (.inl (x5.2.1, ()))) fun r7 => Sum.elim (fun v6 => bif !iEq x5.2.2.1 x0.2.1.2.2.2.2.1 then some (y1.1, (((3:Int), ()), ())) else bif iLt v6.1 x0.2.1.2.2.2.1 then some (y1.1, (((4:Int), ()), ())) else (F240 (x0.1, (x0.2.1, (y4.1, ())))).bind fun y8 => (F96 (y8.1, ())).bind fun y9 => bif (!y9.1.1) then some (y1.1, (((5:Int), ()), ())) else some (y8.1, (((0:Int), ()), ()))) some r7
noncomputable def c223 : Con := ⟨i223, o223, F223⟩
noncomputable def C223 : Ctx := ⟨64, TT, EE, fun n => (bif Nat.ble n 98 then (bif Nat.ble n 96 then (bif Nat.beq n 96 then some c96 else none) else (bif Nat.beq n 98 then some c98 else none)) else (bif Nat.ble n 234 then (bif Nat.beq n 234 then some c234 else none) else (bif Nat.ble n 239 then (bif Nat.beq n 239 then some c239 else none) else (bif Nat.beq n 240 then some c240 else none)))), fun n k => [], fun n => none, fun n => (bif Nat.beq n 11 then (some ⟨[(.t 9 (.int .i64) .sh)], [37, 38, 39, 40, 41], []⟩) else none)⟩
theorem q223 : ∀ x, runF C223 Tryz.f223 i223 o223 x = F223 x := by intro x; kernel_rfl
def i195 : List Grp := [⟨.agg, e48, []⟩, ⟨.c, (.cons (.sl e195) .nil), []⟩]
def o195 : List Grp := [⟨.agg, e48, []⟩, ⟨.c, (.cons (.int .i64) .nil), []⟩]
/-- spec.ApplyAll -/
noncomputable def F195.b0 (x0 : (D48 × ((List D195 × Unit) × Unit))) : (v2 : (Int × (Int × (Int × (List (D153) × Unit))))) → Option (Sum (Int × (Int × (Int × (List (D153) × Unit)))) (Sum (Int × (Int × (Int × (List (D153) × Unit)))) ((D48 × ((Int × Unit) × Unit))))) := fun v2 => bif iLt v2.2.1 (List.length x0.2.1.1 : Int) then (getI x0.2.1.1 v2.2.1).bind fun x3 => (F223 ((v2.2.2.1, (v2.2.2.2.1, ())), (x3, ()))).bind fun y4 => bif iEq y4.2.1.1 (0:Int) then some (.inl (iAdd .i64 v2.1 (1:Int), (iAdd .i64 v2.2.1 (1:Int), (y4.1.1, (y4.1.2.1, ()))))) else some (.inl (v2.1, (iAdd .i64 v2.2.1 (1:Int), (v2.2.2.1, (v2.2.2.2.1, ()))))) else some (.inr (.inl (v2.1, (v2.2.1, (v2.2.2.1, (v2.2.2.2.1, ()))))))
noncomputable def F195 : (D48 × ((List D195 × Unit) × Unit)) → Option ((D48 × ((Int × Unit) × Unit))) := fun x0 => (F98 (x0.1, ())).bind fun y1 => (loopF (F195.b0 x0) ((0:Int), ((0:Int), (y1.1.1, (y1.1.2.1, ()))))).bind fun r6 => Sum.elim (fun v5 => some ((v5.2.2.1, (v5.2.2.2.1, ())), ((v5.1, ()), ()))) some r6
noncomputable def c195 : Con := ⟨i195, o195, F195⟩
noncomputable def C195 : Ctx := ⟨35, TT, EE, fun n => (bif Nat.ble n 98 then (bif Nat.beq n 98 then some c98 else none) else (bif Nat.beq n 223 then some c223 else none)), fun n k => [], fun n => (bif Nat.beq n 0 then (some ⟨[(.t 7 (.int .i64) .sh), (.t 8 (.int .i64) .sh), (.b 12288 0 (.int .i64) .sh), (.b 12288 1 (.sl e153) .sh)], [9, 10, 13, 14, 15, 16, 17, 18, 19, 20, 21, 22, 23, 24, 25, 26, 27, 28, 29, 30, 31, 32], [10242]⟩) else none), fun n => none⟩
theorem q195 : ∀ x, runF C195 Tryz.f195 i195 o195 x = F195 x := by intro x; kernel_rfl
def i196 : List Grp := [⟨.agg, e48, []⟩]
def o196 : List Grp := [⟨.agg, e48, [.sh, (.own [])]⟩]
/-- spec.NextEpoch -/
noncomputable def F196.b1 (v3 : (Int × (List (D153) × Unit))) (x0 : (D48 × Unit)) : (v4 : (List (D248) × (Int × (List (D153) × Unit)))) → Option (Sum (List (D248) × (Int × (List (D153) × Unit))) (Sum (List (D248) × (Int × (List (D153) × Unit))) (Sum (Int × (List (D153) × Unit)) (Sum (Int × (List (D153) × Unit)) ((D48 × Unit)))))) := fun v4 => (getN v4.2.2.1 (Int.toNat v3.1)).bind fun x5 => bif iLt v4.2.1 (List.length x5.2.2.2.2.1 : Int) then (getN v4.2.2.1 (Int.toNat v3.1)).bind fun x6 => (getI x6.2.2.2.2.1 v4.2.1).bind fun x7 => bif iLe x7.2.1 (iAdd .i64 x0.1.1 (1:Int)) then (getN v4.2.2.1 (Int.toNat v3.1)).bind fun x8 => (getN v4.2.2.1 (Int.toNat v3.1)).bind fun x9 => (getI x9.2.2.2.2.1 v4.2.1).bind fun x10 => (getN v4.2.2.1 (Int.toNat v3.1)).bind fun x11 => (some (List.set v4.2.2.1 (Int.toNat v3.1) (x11.1, (iAdd .i64 x8.2.1 x10.1, x11.2.2)))).bind fun z12 => some (.inl (v4.1, (iAdd .i64 v4.2.1 (1:Int), (z12, ())))) else (getN v4.2.2.1 (Int.toNat v3.1)).bind fun x13 => (getI x13.2.2.2.2.1 v4.2.1).bind fun x14 => bif room (List.length v4.1 + List.length ([x14] : List (D248))) 16 then some (.inl (lapp v4.1 ([x14] : List (D248)), (iAdd .i64 v4.2.1 (1:Int), (v4.2.2.1, ())))) else none else some (.inr (.inl (v4.1, (v4.2.1, (v4.2.2.1, ())))))
noncomputable def F196.b0 (x0 : (D48 × Unit)) : (v3 : (Int × (List (D153) × Unit))) → Option (Sum (Int × (List (D153) × Unit)) (Sum (Int × (List (D153) × Unit)) ((D48 × Unit)))) := fun v3 => bif iLt v3.1 (List.length v3.2.1 : Int) then (getI v3.2.1 v3.1).bind fun _ => (loopF (F196.b1 v3 x0) (([] : List (D248)), ((0:Int), (v3.2.1, ())))).bind fun r16 => Sum.elim (fun v15 => (getN v15.2.2.1 (Int.toNat v3.1)).bind fun x17 => (some (List.set v15.2.2.1 (Int.toNat v3.1) (x17.1, (x17.2.1, (x17.2.2.1, (x17.2.2.2.1, (v15.1, ()))))))).bind fun z18 => some (.inl (iAdd .i64 v3.1 (1:Int), (z18, ())))) some r16 else some (.inr (.inl (v3.1, (v3.2.1, ()))))
noncomputable def F196 : (D48 × Unit) → Option ((D48 × Unit)) := fun x0 => (F98 (x0.1, ())).bind fun y1 => (F96 (x0.1, ())).bind fun y2 => bif (!y2.1.1) then some (y1.1, ()) else (loopF (F196.b0 x0) ((0:Int), (y1.1.2.1, ()))).bind fun r20 => Sum.elim (fun v19 => (F96 ((iAdd .i64 x0.1.1 (1:Int), (v19.2.1, ())), ())).bind fun y21 => bif (!y21.1.1) then (F98 (x0.1, ())).bind fun y22 => some (y22.1, ()) else some ((iAdd .i64 x0.1.1 (1:Int), (v19.2.1, ())), ())) some r20
noncomputable def c196 : Con := ⟨i196, o196, F196⟩
noncomputable def C196 : Ctx := ⟨86, TT, EE, fun n => (bif Nat.ble n 96 then (bif Nat.beq n 96 then some c96 else none) else (bif Nat.beq n 98 then some c285 else none)), fun n k => [], fun n => (bif Nat.ble n 0 then (bif Nat.beq n 0 then (some ⟨[(.t 4 (.int .i64) .sh), (.r 8194 e153 [])], [5, 6, 7, 18, 19, 20, 21, 22, 23, 24, 25, 26, 27, 28, 29, 30, 31, 32, 33, 34, 35, 36, 37, 38, 39, 40, 41, 42, 43, 44, 45, 46, 47, 48, 49, 50, 51, 52, 53, 54, 55, 56, 57, 58, 59, 60, 61, 62, 63, 64, 65, 66, 67, 68, 69, 70, 71, 72, 73, 74, 75, 76, 77, 78, 79], []⟩) else none) else (bif Nat.beq n 2 then (some ⟨[(.t 6 (.sl e248) (.own [])), (.t 7 (.int .i64) .sh), (.r 8194 e153 [])], [30, 31, 32, 33, 34, 35, 36, 37, 38, 39, 40, 41, 42, 43, 44, 45, 46, 47, 48, 49, 50, 51, 52, 53, 54, 55, 56, 57, 58, 59, 60, 61, 62, 63, 64, 65, 66, 67, 68, 69, 70, 71, 72, 73, 74, 75], []⟩) else none)), fun n => none⟩
theorem q196 : ∀ x, runF C196 Tryz.f196 i196 o196 x = F196 x := by intro x; kernel_rfl
def i124 : List Grp := [⟨.agg, e74, []⟩, ⟨.c, (.cons (.sl e3) .nil), []⟩]
def o124 : List Grp := [⟨.agg, e48, []⟩, ⟨.c, (.cons .bool .nil), []⟩]
/-- spec.Fold -/
noncomputable def F124.b0 (x0 : (D74 × ((List D3 × Unit) × Unit))) : (v2 : (Int × (Int × (List (D153) × Unit)))) → Option (Sum (Int × (Int × (List (D153) × Unit))) (Sum (Int × (Int × (List (D153) × Unit))) ((D48 × ((Bool × Unit) × Unit))))) := fun v2 => bif iLt v2.1 (List.length x0.2.1.1 : Int) then (getI x0.2.1.1 v2.1).bind fun x3 => (F167 (x3, (((0:Int), ()), ((iSub .i64 (List.length x0.1.2.2.2.2.1 : Int) (1:Int), ()), ())))).bind fun y4 => bif (!y4.1.1) then (F98 ((x0.1.1, (x0.1.2.1, ())), ())).bind fun y5 => some (.inr (.inr (y5.1, ((false, ()), ())))) else (getI x0.2.1.1 v2.1).bind fun x6 => (getI x0.1.2.2.2.2.1 x6.1).bind fun x7 => (F195 ((v2.2.1, (v2.2.2.1, ())), ((x7.2.2.2.2.2.2.2.2.2.2.1, ()), ()))).bind fun y8 => bif x7.2.2.2.2.2.2.2.2.2.2.2.1 then (F196 (y8.1, ())).bind fun y9 => some (.inl (iAdd .i64 v2.1 (1:Int), (y9.1.1, (y9.1.2.1, ())))) else some (.inl (iAdd .i64 v2.1 (1:Int), (y8.1.1, (y8.1.2.1, ())))) else some (.inr (.inl (v2.1, (v2.2.1, (v2.2.2.1, ())))))
noncomputable def F124 : (D74 × ((List D3 × Unit) × Unit)) → Option ((D48 × ((Bool × Unit) × Unit))) := fun x0 => (F98 ((x0.1.1, (x0.1.2.1, ())), ())).bind fun y1 => (loopF (F124.b0 x0) ((0:Int), (y1.1.1, (y1.1.2.1, ())))).bind fun r11 => Sum.elim (fun v10 => some ((v10.2.1, (v10.2.2.1, ())), ((true, ()), ()))) some r11
noncomputable def c124 : Con := ⟨i124, o124, F124⟩
noncomputable def C124 : Ctx := ⟨51, TT, EE, fun n => (bif Nat.ble n 167 then (bif Nat.ble n 98 then (bif Nat.beq n 98 then some c285 else none) else (bif Nat.beq n 167 then some c167 else none)) else (bif Nat.ble n 195 then (bif Nat.beq n 195 then some c195 else none) else (bif Nat.beq n 196 then some c196 else none))), fun n k => [], fun n => (bif Nat.beq n 0 then (some ⟨[(.t 7 (.int .i64) .sh), (.b 14336 0 (.int .i64) .sh), (.b 14336 1 (.sl e153) .sh)], [5, 8, 12, 13, 14, 15, 16, 17, 18, 19, 20, 21, 22, 23, 24, 25, 26, 27, 28, 29, 30, 31, 32, 33, 34, 35, 36, 37, 38, 39, 40, 41, 42, 43, 44, 45, 46, 47, 48, 49], [12290]⟩) else none), fun n => none⟩
theorem q124 : ∀ x, runF C124 Tryz.f124 i124 o124 x = F124 x := by intro x; kernel_rfl
def i197 : List Grp := [⟨.agg, e153, []⟩, ⟨.agg, e153, []⟩]
def o197 : List Grp := [⟨.c, (.cons .bool .nil), []⟩]
/-- spec.l16SameAcct -/
noncomputable def F197.b0 (x0 : (D153 × (D153 × Unit))) : (v1 : (Int × Unit)) → Option (Sum (Int × Unit) (Sum (Int × Unit) (((Bool × Unit) × Unit)))) := fun v1 => bif iLt v1.1 (List.length x0.1.2.2.2.2.1 : Int) then (getI x0.1.2.2.2.2.1 v1.1).bind fun x2 => (getI x0.2.1.2.2.2.2.1 v1.1).bind fun x3 => bif !((iEq x2.1 x3.1) && (iEq x2.2.1 x3.2.1)) then some (.inr (.inr ((false, ()), ()))) else some (.inl (iAdd .i64 v1.1 (1:Int), ())) else some (.inr (.inl (v1.1, ())))
noncomputable def F197 : (D153 × (D153 × Unit)) → Option (((Bool × Unit) × Unit)) := fun x0 => bif !sEq x0.1.1 x0.2.1.1 then some ((false, ()), ()) else bif !iEq x0.1.2.1 x0.2.1.2.1 then some ((false, ()), ()) else bif !iEq x0.1.2.2.1 x0.2.1.2.2.1 then some ((false, ()), ()) else bif !iEq x0.1.2.2.2.1 x0.2.1.2.2.2.1 then some ((false, ()), ()) else bif !iEq (List.length x0.1.2.2.2.2.1 : Int) (List.length x0.2.1.2.2.2.2.1 : Int) then some ((false, ()), ()) else (loopF (F197.b0 x0) ((0:Int), ())).bind fun r5 => Sum.elim (fun v4 => some ((true, ()), ())) some r5
noncomputable def c197 : Con := ⟨i197, o197, F197⟩
noncomputable def C197 : Ctx := ⟨59, TT, EE, fun n => none, fun n k => [], fun n => (bif Nat.beq n 0 then (some ⟨[(.t 5 (.int .i64) .sh)], [4, 41, 42, 43, 44, 45, 46, 47, 48, 49, 50, 51, 52, 53, 54, 55, 56, 57, 58], []⟩) else none), fun n => none⟩
theorem q197 : ∀ x, runF C197 Tryz.f197 i197 o197 x = F197 x := by intro x; kernel_rfl
def i126 : List Grp := [⟨.agg, e48, []⟩, ⟨.agg, e48, []⟩]
def o126 : List Grp := [⟨.c, (.cons .bool .nil), []⟩]
/-- spec.l16Same -/
noncomputable def F126.b0 (x0 : (D48 × (D48 × Unit))) : (v1 : (Int × Unit)) → Option (Sum (Int × Unit) (Sum (Int × Unit) (((Bool × Unit) × Unit)))) := fun v1 => bif iLt v1.1 (List.length x0.1.2.1 : Int) then (getI x0.1.2.1 v1.1).bind fun x2 => (getI x0.2.1.2.1 v1.1).bind fun x3 => (F197 (x2, (x3, ()))).bind fun y4 => bif (!y4.1.1) then some (.inr (.inr ((false, ()), ()))) else some (.inl (iAdd .i64 v1.1 (1:Int), ())) else some (.inr (.inl (v1.1, ())))
noncomputable def F126 : (D48 × (D48 × Unit)) → Option (((Bool × Unit) × Unit)) := fun x0 => bif !iEq x0.1.1 x0.2.1.1 then some ((false, ()), ()) else bif !iEq (List.length x0.1.2.1 : Int) (List.length x0.2.1.2.1 : Int) then some ((false, ()), ()) else (loopF (F126.b0 x0) ((0:Int), ())).bind fun r6 => Sum.elim (fun v5 => some ((true, ()), ())) some r6
noncomputable def c126 : Con := ⟨i126, o126, F126⟩
noncomputable def C126 : Ctx := ⟨39, TT, EE, fun n => (bif Nat.beq n 197 then some c197 else none), fun n k => [], fun n => (bif Nat.beq n 0 then (some ⟨[(.t 5 (.int .i64) .sh)], [4, 20, 21, 22, 23, 24, 25, 26, 27, 28, 29, 30, 31, 32, 33, 34, 35, 36, 37, 38], []⟩) else none), fun n => none⟩
theorem q126 : ∀ x, runF C126 Tryz.f126 i126 o126 x = F126 x := by intro x; kernel_rfl
def i39 : List Grp := [⟨.agg, e74, []⟩]
def o39 : List Grp := [⟨.c, (.cons .bool .nil), []⟩]
/-- spec.Folded -/
noncomputable def F39.b0 (x0 : (D74 × Unit)) : (v1 : (Int × Unit)) → Option (Sum (Int × Unit) (Sum (Int × Unit) (((Bool × Unit) × Unit)))) := fun v1 => bif iLt v1.1 (List.length x0.1.2.2.2.1 : Int) then (getI x0.1.2.2.2.1 v1.1).bind fun x2 => (F125 (x0.1, ((x2.2.2.2.2.2.2.2.2.2.2.2.2.2.2.2.2.2.1, ()), ()))).bind fun y3 => bif cutHi y3.1.1 (List.length x2.2.2.2.2.2.2.2.2.2.2.2.2.2.2.2.2.2.1) then (F124 (x0.1, ((List.take ((Int.toNat y3.1.1) - 0) (List.drop 0 x2.2.2.2.2.2.2.2.2.2.2.2.2.2.2.2.2.2.1), ()), ()))).bind fun y4 => bif (!y4.2.1.1) then some (.inr (.inr ((false, ()), ()))) else (F126 (y4.1, ((x2.2.2.1, (x2.2.2.2.1, ())), ()))).bind fun y5 => bif (!y5.1.1) then some (.inr (.inr ((false, ()), ()))) else some (.inl (iAdd .i64 v1.1 (1:Int), ())) else none else some (.inr (.inl (v1.1, ())))
noncomputable def F39 : (D74 × Unit) → Option (((Bool × Unit) × Unit)) := fun x0 => (loopF (F39.b0 x0) ((0:Int), ())).bind fun r7 => Sum.elim (fun v6 => some ((true, ()), ())) some r7
noncomputable def c39 : Con := ⟨i39, o39, F39⟩
noncomputable def C39 : Ctx := ⟨40, TT, EE, fun n => (bif Nat.ble n 124 then (bif Nat.beq n 124 then some c124 else none) else (bif Nat.ble n 125 then (bif Nat.beq n 125 then some c125 else none) else (bif Nat.beq n 126 then some c126 else none))), fun n k => [], fun n => (bif Nat.beq n 0 then (some ⟨[(.t 3 (.int .i64) .sh)], [2, 4, 5, 6, 7, 8, 9, 10, 11, 12, 13, 14, 15, 16, 17, 18, 19, 20, 21, 22, 23, 24, 25, 26, 27, 28, 29, 30, 31, 32, 33, 34, 35, 36, 37, 38, 39], []⟩) else none), fun n => none⟩
theorem q39 : ∀ x, runF C39 Tryz.f39 i39 o39 x = F39 x := by intro x; kernel_rfl
def i172 : List Grp := [⟨.c, (.cons (.int .i64) .nil), []⟩, ⟨.c, (.cons (.int .i64) .nil), []⟩, ⟨.c, (.cons (.int .i64) .nil), []⟩]
def o172 : List Grp := [⟨.c, (.cons .bool .nil), []⟩]
/-- impl.inRange -/
noncomputable def F172 : ((Int × Unit) × ((Int × Unit) × ((Int × Unit) × Unit))) → Option (((Bool × Unit) × Unit)) := fun x0 => bif iLe x0.2.1.1 x0.1.1 then some ((iLe x0.1.1 x0.2.2.1.1, ()), ()) else some ((false, ()), ())
noncomputable def c172 : Con := ⟨i172, o172, F172⟩
noncomputable def C172 : Ctx := ⟨15, TT, EE, fun n => none, fun n k => [], fun n => none, fun n => none⟩
theorem q172 : ∀ x, runF C172 Tryz.f172 i172 o172 x = F172 x := by intro x; kernel_rfl
def i128 : List Grp := [⟨.rp, e74, []⟩, ⟨.c, (.cons (.sl e3) .nil), []⟩]
def o128 : List Grp := [⟨.c, (.cons (.sl e3) .nil), []⟩]
/-- (*impl.World).upToEnd -/
noncomputable def F128.b0 (x0 : (D74 × ((List D3 × Unit) × Unit))) : (v1 : (Int × (Int × Unit))) → Option (Sum (Int × (Int × Unit)) (Sum (Int × (Int × Unit)) (((List D3 × Unit) × Unit)))) := fun v1 => bif iLt v1.2.1 (List.length x0.2.1.1 : Int) then (getI x0.2.1.1 v1.2.1).bind fun x2 => (F172 (x2, (((0:Int), ()), ((iSub .i64 (List.length x0.1.2.2.2.2.1 : Int) (1:Int), ()), ())))).bind fun y3 => bif y3.1.1 then (getI x0.1.2.2.2.2.1 x2.1).bind fun x4 => bif x4.2.2.2.2.2.2.2.2.2.2.2.1 then some (.inl (iAdd .i64 v1.2.1 (1:Int), (iAdd .i64 v1.2.1 (1:Int), ()))) else some (.inl (v1.1, (iAdd .i64 v1.2.1 (1:Int), ()))) else some (.inl (v1.1, (iAdd .i64 v1.2.1 (1:Int), ()))) else some (.inr (.inl (v1.1, (v1.2.1, ()))))
noncomputable def F128 : (D74 × ((List D3 × Unit) × Unit)) → Option (((List D3 × Unit) × Unit)) := fun x0 => (loopF (F128.b0 x0) ((0:Int), ((0:Int), ()))).bind fun r6 => Sum.elim (fun v5 => bif cutHi v5.1 (List.length x0.2.1.1) then some ((List.take ((Int.toNat v5.1) - 0) (List.drop 0 x0.2.1.1), ()), ()) else none) some r6
noncomputable def c128 : Con := ⟨i128, o128, F128⟩
noncomputable def C128 : Ctx := ⟨39, TT, EE, fun n => (bif Nat.beq n 172 then some c172 else none), fun n k => [], fun n => (bif Nat.beq n 0 then (some ⟨[(.t 5 (.int .i64) .sh), (.t 10 (.int .i64) .sh)], [6, 7, 11, 12, 13, 14, 15, 16, 17, 18, 19, 20, 21, 22, 23, 24, 25, 26, 27, 28, 29, 30, 31, 32, 33, 34, 35], []⟩) else none), fun n => none⟩
theorem q128 : ∀ x, runF C128 Tryz.f128 i128 o128 x = F128 x := by intro x; kernel_rfl
def i211 : List Grp := [⟨.c, (.cons (.sl e248) .nil), []⟩]
def o211 : List Grp := [⟨.c, (.cons (.sl e248) .nil), [(.own [])]⟩]
/-- slices.Clone[[]impl.Leave,impl.Leave] -/
noncomputable def F211 : ((List D248 × Unit) × Unit) → Option (((List D248 × Unit) × Unit)) := fun x0 => bif x0.1.1.isEmpty then both (some (([], ()), ())) (bif room (List.length ([] : List (D248)) + List.length x0.1.1) 16 then some ((lapp ([] : List (D248)) x0.1.1, ()), ()) else none) else bif room (List.length ([] : List (D248)) + List.length x0.1.1) 16 then some ((lapp ([] : List (D248)) x0.1.1, ()), ()) else none
noncomputable def c211 : Con := ⟨i211, o211, F211⟩
noncomputable def C211 : Ctx := ⟨8, TT, EE, fun n => none, fun n k => [], fun n => none, fun n => none⟩
theorem q211 : ∀ x, runF C211 Tryz.f211 i211 o211 x = F211 x := by intro x; kernel_rfl
def i175 : List Grp := [⟨.c, (.cons (.sl e153) .nil), []⟩]
def o175 : List Grp := [⟨.c, (.cons (.sl e153) .nil), [(.own [.sh, .sh, .sh, .sh, (.own [])])]⟩]
/-- impl.copyAccts -/
noncomputable def F175.b0 (x0 : ((List D153 × Unit) × Unit)) : (v1 : (List (D153) × (Int × Unit))) → Option (Sum (List (D153) × (Int × Unit)) (Sum (List (D153) × (Int × Unit)) (((List D153 × Unit) × Unit)))) := fun v1 => bif iLt v1.2.1 (List.length x0.1.1 : Int) then (getI x0.1.1 v1.2.1).bind fun x2 => (F211 ((x2.2.2.2.2.1, ()), ())).bind fun y3 => bif room (List.length v1.1 + List.length ([(x2.1, (x2.2.1, (x2.2.2.1, (x2.2.2.2.1, (y3.1.1, ())))))] : List (D153))) 64 then some (.inl (lapp v1.1 ([(x2.1, (x2.2.1, (x2.2.2.1, (x2.2.2.2.1, (y3.1.1, ())))))] : List (D153)), (iAdd .i64 v1.2.1 (1:Int), ()))) else none else some (.inr (.inl (v1.1, (v1.2.1, ()))))
noncomputable def F175 : ((List D153 × Unit) × Unit) → Option (((List D153 × Unit) × Unit)) := fun x0 => (loopF (F175.b0 x0) ([], ((0:Int), ()))).bind fun r5 => Sum.elim (fun v4 => some ((v4.1, ()), ())) some r5
noncomputable def c175 : Con := ⟨i175, o175, F175⟩
noncomputable def C175 : Ctx := ⟨22, TT, EE, fun n => (bif Nat.beq n 211 then some c211 else none), fun n k => (bif Nat.beq n 6 then (match k with | 2 => [.sh, .sh, .sh, .sh, (.own [])] | 3 => [.sh, .sh, .sh, .sh, (.own [])] | _ => []) else []), fun n => (bif Nat.beq n 0 then (some ⟨[(.t 3 (.sl e153) (.own [.sh, .sh, .sh, .sh, (.own [])])), (.t 8 (.int .i64) .sh)], [5, 9, 10, 11, 12, 13, 14, 15, 16, 17, 18, 19, 20], []⟩) else none), fun n => none⟩
theorem q175 : ∀ x, runF C175 Tryz.f175 i175 o175 x = F175 x := by intro x; kernel_rfl
def i104 : List Grp := [⟨.agg, e48, []⟩]
def o104 : List Grp := [⟨.agg, e48, [.sh, (.own [.sh, .sh, .sh, .sh, (.own [])])]⟩]
/-- impl.copyLedger -/
noncomputable def F104 : (D48 × Unit) → Option ((D48 × Unit)) := fun x0 => (F175 ((x0.1.2.1, ()), ())).bind fun y1 => some ((x0.1.1, (y1.1.1, ())), ())
noncomputable def c104 : Con := ⟨i104, o104, F104⟩
noncomputable def C104 : Ctx := ⟨9, TT, EE, fun n => (bif Nat.beq n 175 then some c175 else none), fun n k => [], fun n => none, fun n => none⟩
theorem q104 : ∀ x, runF C104 Tryz.f104 i104 o104 x = F104 x := by intro x; kernel_rfl
def i252 : List Grp := [⟨.c, (.cons (.sl e153) .nil), []⟩, ⟨.c, (.cons (.fn [6] (.cons .str (.cons (.int .i64) (.cons (.int .i64) (.cons (.int .i64) (.cons (.sl e248) .nil))))) (.cons .bool .nil)) .nil), []⟩]
def o252 : List Grp := [⟨.c, (.cons (.int .i64) .nil), []⟩]
/-- slices.IndexFunc[[]impl.Acct,impl.Acct] -/
noncomputable def F252.b0 (x0 : ((List D153 × Unit) × (((D153 → Option (Bool × Unit)) × Unit) × Unit))) : (v1 : (Int × Unit)) → Option (Sum (Int × Unit) (Sum (Int × Unit) (((Int × Unit) × Unit)))) := fun v1 => bif iLt v1.1 (List.length x0.1.1 : Int) then (getI x0.1.1 v1.1).bind fun x2 => (x0.2.1.1 x2).bind fun y3 => bif y3.1 then some (.inr (.inr ((v1.1, ()), ()))) else some (.inl (iAdd .i64 v1.1 (1:Int), ())) else some (.inr (.inl (v1.1, ())))
noncomputable def F252 : ((List D153 × Unit) × (((D153 → Option (Bool × Unit)) × Unit) × Unit)) → Option (((Int × Unit) × Unit)) := fun x0 => (loopF (F252.b0 x0) ((0:Int), ())).bind fun r5 => Sum.elim (fun v4 => some (((-1:Int), ()), ())) some r5
noncomputable def c252 : Con := ⟨i252, o252, F252⟩
noncomputable def C252 : Ctx := ⟨19, TT, EE, fun n => none, fun n k => [], fun n => (bif Nat.beq n 0 then (some ⟨[(.t 8 (.int .i64) .sh)], [4, 5, 9, 10, 11, 12, 13, 14, 15, 16, 17, 18], []⟩) else none), fun n => none⟩
theorem q252 : ∀ x, runF C252 Tryz.f252 i252 o252 x = F252 x := by intro x; kernel_rfl
def i253 : List Grp := [⟨.agg, e153, []⟩, ⟨.rp, (.cons .str .nil), []⟩]
def o253 : List Grp := [⟨.c, (.cons .bool .nil), []⟩]
/-- impl.AcctAt$1 -/
noncomputable def F253 : (D153 × ((ByteArray × Unit) × Unit)) → Option (((Bool × Unit) × Unit)) := fun x0 => some ((sEq x0.1.1 x0.2.1.1, ()), ())
noncomputable def c253 : Con := ⟨i253, o253, F253⟩
noncomputable def C253 : Ctx := ⟨8, TT, EE, fun n => none, fun n k => [], fun n => none, fun n => none⟩
theorem q253 : ∀ x, runF C253 Tryz.f253 i253 o253 x = F253 x := by intro x; kernel_rfl
def i241 : List Grp := [⟨.c, (.cons (.sl e153) .nil), []⟩, ⟨.c, (.cons .str .nil), []⟩]
def o241 : List Grp := [⟨.c, (.cons (.int .i64) .nil), []⟩]
/-- impl.AcctAt -/
noncomputable def F241 : ((List D153 × Unit) × ((ByteArray × Unit) × Unit)) → Option (((Int × Unit) × Unit)) := fun x0 => (F252 (x0.1, (((fun p1 => (F253 ((p1.1, (p1.2.1, (p1.2.2.1, (p1.2.2.2.1, (p1.2.2.2.2.1, ()))))), ((x0.2.1.1, ()), ()))).bind fun y2 => some (y2.1.1, ())), ()), ()))).bind fun y3 => some (y3.1, ())
noncomputable def c241 : Con := ⟨i241, o241, F241⟩
noncomputable def C241 : Ctx := ⟨8, TT, EE, fun n => (bif Nat.ble n 252 then (bif Nat.beq n 252 then some c252 else none) else (bif Nat.beq n 253 then some c253 else none)), fun n k => [], fun n => none, fun n => none⟩
theorem q241 : ∀ x, runF C241 Tryz.f241 i241 o241 x = F241 x := by intro x; kernel_rfl
def i174 : List Grp := [⟨.c, (.cons .str .nil), []⟩]
def o174 : List Grp := [⟨.c, (.cons .bool .nil), []⟩]
/-- impl.NameOk -/
noncomputable def F174.b0 (x0 : ((ByteArray × Unit) × Unit)) : (v1 : (Int × Unit)) → Option (Sum (Int × Unit) (Sum (Int × Unit) (((Bool × Unit) × Unit)))) := fun v1 => bif iLt v1.1 (ByteArray.size x0.1.1 : Int) then (getI (ByteArray.data x0.1.1).toList v1.1).bind fun b2 => bif iLe (97:Int) (UInt8.toNat b2 : Int) then (getI (ByteArray.data x0.1.1).toList v1.1).bind fun b3 => bif iLe (UInt8.toNat b3 : Int) (122:Int) then some (.inl (iAdd .i64 v1.1 (1:Int), ())) else (getI (ByteArray.data x0.1.1).toList v1.1).bind fun b4 => bif iLe (48:Int) (UInt8.toNat b4 : Int) then (getI (ByteArray.data x0.1.1).toList v1.1).bind fun b5 => bif (!(iLe (UInt8.toNat b5 : Int) (57:Int))) then some (.inr (.inr ((false, ()), ()))) else some (.inl (iAdd .i64 v1.1 (1:Int), ())) else some (.inr (.inr ((false, ()), ()))) else (getI (ByteArray.data x0.1.1).toList v1.1).bind fun b6 => bif iLe (48:Int) (UInt8.toNat b6 : Int) then (getI (ByteArray.data x0.1.1).toList v1.1).bind fun b7 => bif (!(iLe (UInt8.toNat b7 : Int) (57:Int))) then some (.inr (.inr ((false, ()), ()))) else some (.inl (iAdd .i64 v1.1 (1:Int), ())) else some (.inr (.inr ((false, ()), ()))) else some (.inr (.inl (v1.1, ())))
noncomputable def F174 : ((ByteArray × Unit) × Unit) → Option (((Bool × Unit) × Unit)) := fun x0 => (loopF (F174.b0 x0) ((0:Int), ())).bind fun r9 => Sum.elim (fun v8 => (F172 (((ByteArray.size x0.1.1 : Int), ()), (((1:Int), ()), (((8:Int), ()), ())))).bind fun y10 => some (y10.1, ())) some r9
noncomputable def c174 : Con := ⟨i174, o174, F174⟩
noncomputable def C174 : Ctx := ⟨36, TT, EE, fun n => (bif Nat.beq n 172 then some c172 else none), fun n k => [], fun n => (bif Nat.beq n 0 then (some ⟨[(.t 3 (.int .i64) .sh)], [2, 4, 5, 6, 7, 8, 9, 10, 11, 12, 13, 14, 15, 16, 17, 18, 19, 20, 21, 22, 23, 24, 25, 26, 27, 28, 29, 30, 31, 32], []⟩) else none), fun n => none⟩
theorem q174 : ∀ x, runF C174 Tryz.f174 i174 o174 x = F174 x := by intro x; kernel_rfl
def i230 : List Grp := [⟨.c, (.cons (.int .i64) .nil), []⟩]
def o230 : List Grp := [⟨.c, (.cons .bool .nil), []⟩]
/-- impl.isAmount -/
noncomputable def F230 : ((Int × Unit) × Unit) → Option (((Bool × Unit) × Unit)) := fun x0 => (F172 (x0.1, (((0:Int), ()), (((1000000:Int), ()), ())))).bind fun y1 => some (y1.1, ())
noncomputable def c230 : Con := ⟨i230, o230, F230⟩
noncomputable def C230 : Ctx := ⟨5, TT, EE, fun n => (bif Nat.beq n 172 then some c172 else none), fun n k => [], fun n => none, fun n => none⟩
theorem q230 : ∀ x, runF C230 Tryz.f230 i230 o230 x = F230 x := by intro x; kernel_rfl
def i209 : List Grp := [⟨.agg, e153, []⟩]
def o209 : List Grp := [⟨.c, (.cons .bool .nil), []⟩]
/-- impl.AcctOk -/
noncomputable def F209.b0 (x0 : (D153 × Unit)) : (v1 : (Int × Unit)) → Option (Sum (Int × Unit) (Sum (Int × Unit) (((Bool × Unit) × Unit)))) := fun v1 => bif iLt v1.1 (List.length x0.1.2.2.2.2.1 : Int) then (getI x0.1.2.2.2.2.1 v1.1).bind fun x2 => (F172 ((x2.1, ()), (((1:Int), ()), (((1000000:Int), ()), ())))).bind fun y3 => bif (!y3.1.1) then some (.inr (.inr ((false, ()), ()))) else (F172 ((x2.2.1, ()), (((0:Int), ()), (((1000:Int), ()), ())))).bind fun y4 => bif (!y4.1.1) then some (.inr (.inr ((false, ()), ()))) else bif iLt (0:Int) v1.1 then (getI x0.1.2.2.2.2.1 (iSub .i64 v1.1 (1:Int))).bind fun x5 => bif iLe x2.2.1 x5.2.1 then some (.inr (.inr ((false, ()), ()))) else some (.inl (iAdd .i64 v1.1 (1:Int), ())) else some (.inl (iAdd .i64 v1.1 (1:Int), ())) else some (.inr (.inl (v1.1, ())))
noncomputable def F209 : (D153 × Unit) → Option (((Bool × Unit) × Unit)) := fun x0 => (loopF (F209.b0 x0) ((0:Int), ())).bind fun r7 => Sum.elim (fun v6 => (F174 ((x0.1.1, ()), ())).bind fun y8 => bif y8.1.1 then (F230 ((x0.1.2.1, ()), ())).bind fun y9 => bif y9.1.1 then (F230 ((x0.1.2.2.2.1, ()), ())).bind fun y10 => bif y10.1.1 then (F172 ((x0.1.2.2.1, ()), (((0:Int), ()), (((10000:Int), ()), ())))).bind fun y11 => bif y11.1.1 then some ((iLe (List.length x0.1.2.2.2.2.1 : Int) (4:Int), ()), ()) else some ((false, ()), ()) else some ((false, ()), ()) else some ((false, ()), ()) else some ((false, ()), ())) some r7
noncomputable def c209 : Con := ⟨i209, o209, F209⟩
noncomputable def C209 : Ctx := ⟨64, TT, EE, fun n => (bif Nat.ble n 172 then (bif Nat.beq n 172 then some c172 else none) else (bif Nat.ble n 174 then (bif Nat.beq n 174 then some c174 else none) else (bif Nat.beq n 230 then some c230 else none))), fun n k => [], fun n => (bif Nat.beq n 0 then (some ⟨[(.t 8 (.int .i64) .sh)], [2, 3, 4, 9, 10, 11, 12, 13, 14, 15, 16, 17, 18, 19, 20, 21, 22, 23, 24, 25, 26, 27, 28, 29, 30, 31, 32, 33, 34, 35, 36, 37, 38, 39], []⟩) else none), fun n => none⟩
theorem q209 : ∀ x, runF C209 Tryz.f209 i209 o209 x = F209 x := by intro x; kernel_rfl
def i210 : List Grp := [⟨.c, (.cons (.sl e153) .nil), []⟩]
def o210 : List Grp := [⟨.c, (.cons (.int .i64) .nil), []⟩]
/-- impl.Wealth -/
noncomputable def F210.b1 (x2 : D153) : (v3 : (Int × (Int × Unit))) → Option (Sum (Int × (Int × Unit)) (Sum (Int × (Int × Unit)) (Sum (Int × (Int × Unit)) (Sum (Int × (Int × Unit)) (((Int × Unit) × Unit)))))) := fun v3 => bif iLt v3.2.1 (List.length x2.2.2.2.2.1 : Int) then (getI x2.2.2.2.2.1 v3.2.1).bind fun x4 => some (.inl (iAdd .i64 v3.1 x4.1, (iAdd .i64 v3.2.1 (1:Int), ()))) else some (.inr (.inl (v3.1, (v3.2.1, ()))))
noncomputable def F210.b0 (x0 : ((List D153 × Unit) × Unit)) : (v1 : (Int × (Int × Unit))) → Option (Sum (Int × (Int × Unit)) (Sum (Int × (Int × Unit)) (((Int × Unit) × Unit)))) := fun v1 => bif iLt v1.2.1 (List.length x0.1.1 : Int) then (getI x0.1.1 v1.2.1).bind fun x2 => (loopF (F210.b1 x2) (iAdd .i64 v1.1 (iAdd .i64 x2.2.1 x2.2.2.2.1), ((0:Int), ()))).bind fun r6 => Sum.elim (fun v5 => some (.inl (v5.1, (iAdd .i64 v1.2.1 (1:Int), ())))) some r6 else some (.inr (.inl (v1.1, (v1.2.1, ()))))
noncomputable def F210 : ((List D153 × Unit) × Unit) → Option (((Int × Unit) × Unit)) := fun x0 => (loopF (F210.b0 x0) ((0:Int), ((0:Int), ()))).bind fun r8 => Sum.elim (fun v7 => some ((v7.1, ()), ())) some r8
noncomputable def c210 : Con := ⟨i210, o210, F210⟩
noncomputable def C210 : Ctx := ⟨35, TT, EE, fun n => none, fun n k => [], fun n => (bif Nat.ble n 0 then (bif Nat.beq n 0 then (some ⟨[(.t 3 (.int .i64) .sh), (.t 10 (.int .i64) .sh)], [5, 7, 11, 12, 13, 14, 15, 16, 17, 18, 19, 20, 21, 22, 23, 24, 25, 26, 27, 28, 29, 30, 31, 32, 33], []⟩) else none) else (bif Nat.beq n 2 then (some ⟨[(.t 3 (.int .i64) .sh), (.t 24 (.int .i64) .sh)], [7, 25, 26, 27, 28, 29, 30, 31, 32], []⟩) else none)), fun n => none⟩
theorem q210 : ∀ x, runF C210 Tryz.f210 i210 o210 x = F210 x := by intro x; kernel_rfl
def i173 : List Grp := [⟨.c, (.cons (.sl e153) .nil), []⟩]
def o173 : List Grp := [⟨.c, (.cons .bool .nil), []⟩]
/-- impl.AcctsOk -/
noncomputable def F173.b0 (x0 : ((List D153 × Unit) × Unit)) : (v1 : (Int × Unit)) → Option (Sum (Int × Unit) (Sum (Int × Unit) (((Bool × Unit) × Unit)))) := fun v1 => bif iLt v1.1 (List.length x0.1.1 : Int) then (getI x0.1.1 v1.1).bind fun x2 => (F209 (x2, ())).bind fun y3 => bif (!y3.1.1) then some (.inr (.inr ((false, ()), ()))) else bif iLt (0:Int) v1.1 then (getI x0.1.1 (iSub .i64 v1.1 (1:Int))).bind fun x4 => bif sLt x2.1 x4.1 || sEq x2.1 x4.1 then some (.inr (.inr ((false, ()), ()))) else some (.inl (iAdd .i64 v1.1 (1:Int), ())) else some (.inl (iAdd .i64 v1.1 (1:Int), ())) else some (.inr (.inl (v1.1, ())))
noncomputable def F173 : ((List D153 × Unit) × Unit) → Option (((Bool × Unit) × Unit)) := fun x0 => (loopF (F173.b0 x0) ((0:Int), ())).bind fun r6 => Sum.elim (fun v5 => bif iLe (List.length x0.1.1 : Int) (12:Int) then (F210 (x0.1, ())).bind fun y7 => some ((iLe y7.1.1 (1000000:Int), ()), ()) else some ((false, ()), ())) some r6
noncomputable def c173 : Con := ⟨i173, o173, F173⟩
noncomputable def C173 : Ctx := ⟨39, TT, EE, fun n => (bif Nat.ble n 209 then (bif Nat.beq n 209 then some c209 else none) else (bif Nat.beq n 210 then some c210 else none)), fun n k => [], fun n => (bif Nat.beq n 0 then (some ⟨[(.t 7 (.int .i64) .sh)], [2, 3, 4, 8, 9, 10, 11, 12, 13, 14, 15, 16, 17, 18, 19, 20, 21, 22, 23, 24, 25, 26, 27, 28, 29, 30], []⟩) else none), fun n => none⟩
theorem q173 : ∀ x, runF C173 Tryz.f173 i173 o173 x = F173 x := by intro x; kernel_rfl
def i102 : List Grp := [⟨.agg, e48, []⟩]
def o102 : List Grp := [⟨.c, (.cons .bool .nil), []⟩]
/-- impl.LedgerOk -/
noncomputable def F102 : (D48 × Unit) → Option (((Bool × Unit) × Unit)) := fun x0 => (F172 ((x0.1.1, ()), (((0:Int), ()), (((900:Int), ()), ())))).bind fun y1 => bif y1.1.1 then (F173 ((x0.1.2.1, ()), ())).bind fun y2 => some (y2.1, ()) else some ((false, ()), ())
noncomputable def c102 : Con := ⟨i102, o102, F102⟩
noncomputable def C102 : Ctx := ⟨11, TT, EE, fun n => (bif Nat.ble n 172 then (bif Nat.beq n 172 then some c172 else none) else (bif Nat.beq n 173 then some c173 else none)), fun n k => [], fun n => none, fun n => none⟩
theorem q102 : ∀ x, runF C102 Tryz.f102 i102 o102 x = F102 x := by intro x; kernel_rfl
def i242 : List Grp := [⟨.agg, e182, []⟩]
def o242 : List Grp := [⟨.c, (.cons .bool .nil), []⟩]
/-- impl.TxOk -/
noncomputable def F242 : (D182 × Unit) → Option (((Bool × Unit) × Unit)) := fun x0 => (F172 ((x0.1.1, ()), (((1:Int), ()), (((3:Int), ()), ())))).bind fun y1 => bif (!y1.1.1) then some ((false, ()), ()) else (F174 ((x0.1.2.1, ()), ())).bind fun y2 => bif (!y2.1.1) then some ((false, ()), ()) else (F172 ((x0.1.2.2.2.1, ()), (((1:Int), ()), (((1000000:Int), ()), ())))).bind fun y3 => bif (!y3.1.1) then some ((false, ()), ()) else (F172 ((x0.1.2.2.2.2.1, ()), (((0:Int), ()), (((10000:Int), ()), ())))).bind fun y4 => bif (!y4.1.1) then some ((false, ()), ()) else bif iEq x0.1.1 (1:Int) then (F174 ((x0.1.2.2.1, ()), ())).bind fun y5 => some (y5.1, ()) else some ((sEq x0.1.2.2.1 ⟨#[]⟩, ()), ())
noncomputable def c242 : Con := ⟨i242, o242, F242⟩
noncomputable def C242 : Ctx := ⟨34, TT, EE, fun n => (bif Nat.ble n 172 then (bif Nat.beq n 172 then some c172 else none) else (bif Nat.beq n 174 then some c174 else none)), fun n k => [], fun n => none, fun n => none⟩
theorem q242 : ∀ x, runF C242 Tryz.f242 i242 o242 x = F242 x := by intro x; kernel_rfl
def i243 : List Grp := [⟨.rp, e153, []⟩, ⟨.c, (.cons (.int .i64) .nil), []⟩]
def o243 : List Grp := [⟨.c, (.cons (.int .i64) .nil), []⟩]
/-- (*impl.Acct).has -/
noncomputable def F243 : (D153 × ((Int × Unit) × Unit)) → Option (((Int × Unit) × Unit)) := fun x0 => bif iEq x0.2.1.1 (3:Int) then some ((x0.1.2.2.2.1, ()), ()) else some ((x0.1.2.1, ()), ())
noncomputable def c243 : Con := ⟨i243, o243, F243⟩
noncomputable def C243 : Ctx := ⟨15, TT, EE, fun n => none, fun n k => [], fun n => none, fun n => none⟩
theorem q243 : ∀ x, runF C243 Tryz.f243 i243 o243 x = F243 x := by intro x; kernel_rfl
def i257 : List Grp := [⟨.c, (.cons (.sl e153) .nil), [(.own [.sh, .sh, .sh, .sh, (.own [])])]⟩, ⟨.c, (.cons (.int .i64) .nil), []⟩, ⟨.c, (.cons (.sl e153) .nil), [(.own [.sh, .sh, .sh, .sh, (.own [])])]⟩]
def o257 : List Grp := [⟨.c, (.cons (.sl e153) .nil), [(.own [.sh, .sh, .sh, .sh, (.own [])])]⟩]
/-- slices.Insert[[]impl.Acct,impl.Acct] -/
noncomputable def F257 : ((List D153 × Unit) × ((Int × Unit) × ((List D153 × Unit) × Unit))) → Option (((List D153 × Unit) × Unit)) := insF e153 64
noncomputable def c257 : Con := ⟨i257, o257, F257⟩
def i254 : List Grp := [⟨.c, (.cons (.sl e153) .nil), [(.own [.sh, .sh, .sh, .sh, (.own [])])]⟩, ⟨.c, (.cons .str .nil), []⟩, ⟨.c, (.cons (.int .i64) .nil), []⟩]
def o254 : List Grp := [⟨.c, (.cons (.sl e153) .nil), [(.own [.sh, .sh, .sh, .sh, (.own [])])]⟩]
/-- impl.credited -/
noncomputable def F254.b0 (x0 : ((List D153 × Unit) × ((ByteArray × Unit) × ((Int × Unit) × Unit)))) : (v5 : (Int × Unit)) → Option (Sum (Int × Unit) (Sum (Int × Unit) (((List D153 × Unit) × Unit)))) := fun v5 => bif iLt v5.1 (List.length x0.1.1 : Int) then (getI x0.1.1 v5.1).bind fun _ => (getN x0.1.1 (Int.toNat v5.1)).bind fun x6 => bif sLt x6.1 x0.2.1.1 then some (.inl (iAdd .i64 v5.1 (1:Int), ())) else some (.inr (.inl (v5.1, ()))) else some (.inr (.inl (v5.1, ())))
noncomputable def F254 : ((List D153 × Unit) × ((ByteArray × Unit) × ((Int × Unit) × Unit))) → Option (((List D153 × Unit) × Unit)) := fun x0 => (F241 (x0.1, (x0.2.1, ()))).bind fun y1 => bif iLe (0:Int) y1.1.1 then (getI x0.1.1 y1.1.1).bind fun _ => (getN x0.1.1 (Int.toNat y1.1.1)).bind fun x2 => (getI x0.1.1 y1.1.1).bind fun _ => (getN x0.1.1 (Int.toNat y1.1.1)).bind fun x3 => (some (List.set x0.1.1 (Int.toNat y1.1.1) (x3.1, (iAdd .i64 x2.2.1 x0.2.2.1.1, x3.2.2)))).bind fun z4 => some ((z4, ()), ()) else (loopF (F254.b0 x0) ((0:Int), ())).bind fun r8 => Sum.elim (fun v7 => (F257 (x0.1, ((v7.1, ()), ((([(x0.2.1.1, (x0.2.2.1.1, ((0:Int), ((0:Int), ([], ())))))] : List (D153)), ()), ())))).bind fun y9 => some (y9.1, ())) some r8
noncomputable def c254 : Con := ⟨i254, o254, F254⟩
noncomputable def C254 : Ctx := ⟨46, TT, EE, fun n => (bif Nat.ble n 241 then (bif Nat.beq n 241 then some c241 else none) else (bif Nat.beq n 257 then some c257 else none)), fun n k => (bif Nat.beq n 8 then (match k with | 5 => [.sh, .sh, .sh, .sh, (.own [])] | _ => []) else []), fun n => (bif Nat.beq n 0 then (some ⟨[(.t 8 (.int .i64) .sh)], [24, 25, 26, 27, 28, 29, 30, 31, 32, 33, 34, 35, 36, 37, 38], []⟩) else none), fun n => none⟩
theorem q254 : ∀ x, runF C254 Tryz.f254 i254 o254 x = F254 x := by intro x; kernel_rfl
def i258 : List Grp := [⟨.c, (.cons (.sl e248) .nil), [(.own [])]⟩, ⟨.c, (.cons (.int .i64) .nil), []⟩, ⟨.c, (.cons (.sl e248) .nil), [(.own [])]⟩]
def o258 : List Grp := [⟨.c, (.cons (.sl e248) .nil), [(.own [])]⟩]
/-- slices.Insert[[]impl.Leave,impl.Leave] -/
noncomputable def F258 : ((List D248 × Unit) × ((Int × Unit) × ((List D248 × Unit) × Unit))) → Option (((List D248 × Unit) × Unit)) := insF e248 16
noncomputable def c258 : Con := ⟨i258, o258, F258⟩
def i255 : List Grp := [⟨.io, e153, [.sh, .sh, .sh, .sh, (.own [])]⟩, ⟨.c, (.cons (.int .i64) .nil), []⟩, ⟨.c, (.cons (.int .i64) .nil), []⟩]
def o255 : List Grp := [⟨.io, e153, [.sh, .sh, .sh, .sh, (.own [])]⟩]
/-- (*impl.Acct).leaves -/
noncomputable def F255.b0 (x0 : (D153 × ((Int × Unit) × ((Int × Unit) × Unit)))) : (v1 : (Int × Unit)) → Option (Sum (Int × Unit) (Sum (Int × Unit) ((D153 × Unit)))) := fun v1 => bif iLt v1.1 (List.length x0.1.2.2.2.2.1 : Int) then (getI x0.1.2.2.2.2.1 v1.1).bind fun _ => (getN x0.1.2.2.2.2.1 (Int.toNat v1.1)).bind fun x2 => bif iEq x2.2.1 x0.2.2.1.1 then (getI x0.1.2.2.2.2.1 v1.1).bind fun _ => (getN x0.1.2.2.2.2.1 (Int.toNat v1.1)).bind fun x3 => (getI x0.1.2.2.2.2.1 v1.1).bind fun _ => (getN x0.1.2.2.2.2.1 (Int.toNat v1.1)).bind fun x4 => (some (List.set x0.1.2.2.2.2.1 (Int.toNat v1.1) (iAdd .i64 x3.1 x0.2.1.1, x4.2))).bind fun z5 => some (.inr (.inr ((x0.1.1, (x0.1.2.1, (x0.1.2.2.1, (x0.1.2.2.2.1, (z5, ()))))), ()))) else some (.inl (iAdd .i64 v1.1 (1:Int), ())) else some (.inr (.inl (v1.1, ())))
noncomputable def F255.b1 (x0 : (D153 × ((Int × Unit) × ((Int × Unit) × Unit)))) : (v8 : (Int × Unit)) → Option (Sum (Int × Unit) (Sum (Int × Unit) ((D153 × Unit)))) := fun v8 => bif iLt v8.1 (List.length x0.1.2.2.2.2.1 : Int) then (getI x0.1.2.2.2.2.1 v8.1).bind fun _ => (getN x0.1.2.2.2.2.1 (Int.toNat v8.1)).bind fun x9 => bif iLt x9.2.1 x0.2.2.1.1 then some (.inl (iAdd .i64 v8.1 (1:Int), ())) else some (.inr (.inl (v8.1, ()))) else some (.inr (.inl (v8.1, ())))
noncomputable def F255 : (D153 × ((Int × Unit) × ((Int × Unit) × Unit))) → Option ((D153 × Unit)) := fun x0 => (loopF (F255.b0 x0) ((0:Int), ())).bind fun r7 => Sum.elim (fun v6 => (loopF (F255.b1 x0) ((0:Int), ())).bind fun r11 => Sum.elim (fun v10 => (F258 ((x0.1.2.2.2.2.1, ()), ((v10.1, ()), ((([(x0.2.1.1, (x0.2.2.1.1, ()))] : List (D248)), ()), ())))).bind fun y12 => some ((x0.1.1, (x0.1.2.1, (x0.1.2.2.1, (x0.1.2.2.2.1, (y12.1.1, ()))))), ())) some r11) some r7
noncomputable def c255 : Con := ⟨i255, o255, F255⟩
noncomputable def C255 : Ctx := ⟨73, TT, EE, fun n => (bif Nat.beq n 258 then some c258 else none), fun n k => [], fun n => (bif Nat.ble n 0 then (bif Nat.beq n 0 then (some ⟨[(.t 13 (.int .i64) .sh)], [6, 14, 15, 16, 17, 18, 19, 20, 21, 22, 23, 24, 25, 26, 27, 28, 29, 30, 31, 32, 33, 34, 35, 36, 37, 38], []⟩) else none) else (bif Nat.beq n 2 then (some ⟨[(.t 7 (.int .i64) .sh)], [39, 40, 41, 42, 43, 44, 45, 46, 47, 48, 49, 50, 51, 52, 53, 54, 55, 56, 57, 58, 59], []⟩) else none)), fun n => none⟩
theorem q255 : ∀ x, runF C255 Tryz.f255 i255 o255 x = F255 x := by intro x; kernel_rfl
def i244 : List Grp := [⟨.agg, e48, [.sh, (.own [.sh, .sh, .sh, .sh, (.own [])])]⟩, ⟨.c, (.cons (.int .i64) .nil), []⟩, ⟨.agg, e182, []⟩]
def o244 : List Grp := [⟨.agg, e48, [.sh, (.own [.sh, .sh, .sh, .sh, (.own [])])]⟩]
/-- impl.done -/
noncomputable def F244 : (D48 × ((Int × Unit) × (D182 × Unit))) → Option ((D48 × Unit)) := fun x0 => (getI x0.1.2.1 x0.2.1.1).bind fun _ => (getN x0.1.2.1 (Int.toNat x0.2.1.1)).bind fun x1 => (getN x0.1.2.1 (Int.toNat x0.2.1.1)).bind fun x2 => (some (List.set x0.1.2.1 (Int.toNat x0.2.1.1) (x2.1, (x2.2.1, (iAdd .i64 x1.2.2.1 (1:Int), x2.2.2.2))))).bind fun z3 => Option.bind (bif iEq x0.2.2.1.1 (1:Int) then (getN z3 (Int.toNat x0.2.1.1)).bind fun x4 => (getN z3 (Int.toNat x0.2.1.1)).bind fun x5 => (some (List.set z3 (Int.toNat x0.2.1.1) (x5.1, (iSub .i64 x4.2.1 x0.2.2.1.2.2.2.1, x5.2.2)))).bind fun z6 => (F254 ((z6, ()), ((x0.2.2.1.2.2.1, ()), ((x0.2.2.1.2.2.2.1, ()), ())))).bind fun y7 => some (.inl (y7.1.1, ())) else bif iEq x0.2.2.1.1 (2:Int) then (getN z3 (Int.toNat x0.2.1.1)).bind fun x8 => (getN z3 (Int.toNat x0.2.1.1)).bind fun x9 => (some (List.set z3 (Int.toNat x0.2.1.1) (x9.1, (iSub .i64 x8.2.1 x0.2.2.1.2.2.2.1, x9.2.2)))).bind fun z10 => (getN z10 (Int.toNat x0.2.1.1)).bind fun x11 => (getN z10 (Int.toNat x0.2.1.1)).bind fun x12 => (some (List.set z10 (Int.toNat x0.2.1.1) (x12.1, (x12.2.1, (x12.2.2.1, (iAdd .i64 x11.2.2.2.1 x0.2.2.1.2.2.2.1, x12.2.2.2.2)))))).bind fun z13 => some (.inl (z13, ())) else bif iEq x0.2.2.1.1 (3:Int) then (getN z3 (Int.toNat x0.2.1.1)).bind fun x14 => (getN z3 (Int.toNat x0.2.1.1)).bind fun x15 => (some (List.set z3 (Int.toNat x0.2.1.1) (x15.1, (x15.2.1, (x15.2.2.1, (iSub .i64 x14.2.2.2.1 x0.2.2.1.2.2.2.1, x15.2.2.2.2)))))).bind fun z16 => (getN z16 (Int.toNat x0.2.1.1)).bind fun x17 => (F255 (x17, ((x0.2.2.1.2.2.2.1, ()), ((iAdd .i64 x0.1.1 (2:Int), ()), ())))).bind fun y18 => (some (List.set z16 (Int.toNat x0.2.1.1) y18.1)).bind fun z19 => some (.inl (z19, ())) else some (.inl (z3, ()))) fun r21 => Sum.elim (fun v20 => some ((x0.1.1, (v20.1, ())), ())) some r21
noncomputable def c244 : Con := ⟨i244, o244, F244⟩
noncomputable def C244 : Ctx := ⟨79, TT, EE, fun n => (bif Nat.ble n 254 then (bif Nat.beq n 254 then some c254 else none) else (bif Nat.beq n 255 then some c255 else none)), fun n k => [], fun n => none, fun n => (bif Nat.beq n 13 then (some ⟨[(.b 2048 1 (.sl e153) (.own [.sh, .sh, .sh, .sh, (.own [])]))], [19, 20, 21, 22, 23, 24, 25, 26, 27, 28, 29, 30, 31, 32, 33, 34, 35, 36, 37, 38, 39, 40, 41, 42, 43, 44, 45, 46, 47, 48, 49, 50, 51, 52, 53, 54, 55, 56, 57, 58, 59, 60, 61, 62, 63, 64, 65, 66, 67, 68, 69, 70, 71, 72, 73, 74, 75, 76, 77], [2]⟩) else none)⟩
theorem q244 : ∀ x, runF C244 Tryz.f244 i244 o244 x = F244 x := by intro x; kernel_rfl
def i224 : List Grp := [⟨.agg, e48, []⟩, ⟨.agg, e182, []⟩]
def o224 : List Grp := [⟨.agg, e48, [.sh, (.own [.sh, .sh, .sh, .sh, (.own [])])]⟩, ⟨.c, (.cons (.int .i64) .nil), []⟩]
/-- impl.Apply -/
noncomputable def F224 : (D48 × (D182 × Unit)) → Option ((D48 × ((Int × Unit) × Unit))) := fun x0 => (F241 ((x0.1.2.1, ()), ((x0.2.1.2.1, ()), ()))).bind fun y1 => (F102 (x0.1, ())).bind fun y2 => bif (!y2.1.1) then (F104 (x0.1, ())).bind fun y3 => some (y3.1, (((1:Int), ()), ())) else (F242 (x0.2.1, ())).bind fun y4 => bif (!y4.1.1) then (F104 (x0.1, ())).bind fun y5 => some (y5.1, (((1:Int), ()), ())) else bif iLt y1.1.1 (0:Int) then (F104 (x0.1, ())).bind fun y6 => some (y6.1, (((2:Int), ()), ())) else (getI x0.1.2.1 y1.1.1).bind fun x7 => bif !iEq x0.2.1.2.2.2.2.1 x7.2.2.1 then (F104 (x0.1, ())).bind fun y8 => some (y8.1, (((3:Int), ()), ())) else (getI x0.1.2.1 y1.1.1).bind fun x9 => (F243 (x9, ((x0.2.1.1, ()), ()))).bind fun y10 => bif iLt y10.1.1 x0.2.1.2.2.2.1 then (F104 (x0.1, ())).bind fun y11 => some (y11.1, (((4:Int), ()), ())) else (F104 (x0.1, ())).bind fun y12 => (F244 (y12.1, (y1.1, (x0.2.1, ())))).bind fun y13 => (F102 (y13.1, ())).bind fun y14 => bif (!y14.1.1) then (F104 (x0.1, ())).bind fun y15 => some (y15.1, (((5:Int), ()), ())) else some (y13.1, (((0:Int), ()), ()))
noncomputable def c224 : Con := ⟨i224, o224, F224⟩
noncomputable def C224 : Ctx := ⟨65, TT, EE, fun n => (bif Nat.ble n 241 then (bif Nat.ble n 102 then (bif Nat.beq n 102 then some c102 else none) else (bif Nat.ble n 104 then (bif Nat.beq n 104 then some c104 else none) else (bif Nat.beq n 241 then some c241 else none))) else (bif Nat.ble n 242 then (bif Nat.beq n 242 then some c242 else none) else (bif Nat.ble n 243 then (bif Nat.beq n 243 then some c243 else none) else (bif Nat.beq n 244 then some c244 else none)))), fun n k => [], fun n => none, fun n => none⟩
theorem q224 : ∀ x, runF C224 Tryz.f224 i224 o224 x = F224 x := by intro x; kernel_rfl
def i198 : List Grp := [⟨.agg, e48, []⟩, ⟨.c, (.cons (.sl e195) .nil), []⟩]
def o198 : List Grp := [⟨.agg, e48, [.sh, (.own [.sh, .sh, .sh, .sh, (.own [])])]⟩, ⟨.c, (.cons (.int .i64) .nil), []⟩]
/-- impl.ApplyAll -/
noncomputable def F198.b0 (x0 : (D48 × ((List D195 × Unit) × Unit))) : (v2 : (Int × (Int × (Int × (List (D153) × Unit))))) → Option (Sum (Int × (Int × (Int × (List (D153) × Unit)))) (Sum (Int × (Int × (Int × (List (D153) × Unit)))) ((D48 × ((Int × Unit) × Unit))))) := fun v2 => bif iLt v2.2.1 (List.length x0.2.1.1 : Int) then (getI x0.2.1.1 v2.2.1).bind fun x3 => (F224 ((v2.2.2.1, (v2.2.2.2.1, ())), (x3, ()))).bind fun y4 => bif iEq y4.2.1.1 (0:Int) then some (.inl (iAdd .i64 v2.1 (1:Int), (iAdd .i64 v2.2.1 (1:Int), (y4.1.1, (y4.1.2.1, ()))))) else some (.inl (v2.1, (iAdd .i64 v2.2.1 (1:Int), (y4.1.1, (y4.1.2.1, ()))))) else some (.inr (.inl (v2.1, (v2.2.1, (v2.2.2.1, (v2.2.2.2.1, ()))))))
noncomputable def F198 : (D48 × ((List D195 × Unit) × Unit)) → Option ((D48 × ((Int × Unit) × Unit))) := fun x0 => (F104 (x0.1, ())).bind fun y1 => (loopF (F198.b0 x0) ((0:Int), ((0:Int), (y1.1.1, (y1.1.2.1, ()))))).bind fun r6 => Sum.elim (fun v5 => some ((v5.2.2.1, (v5.2.2.2.1, ())), ((v5.1, ()), ()))) some r6
noncomputable def c198 : Con := ⟨i198, o198, F198⟩
noncomputable def C198 : Ctx := ⟨34, TT, EE, fun n => (bif Nat.ble n 104 then (bif Nat.beq n 104 then some c104 else none) else (bif Nat.beq n 224 then some c224 else none)), fun n k => [], fun n => (bif Nat.beq n 0 then (some ⟨[(.t 7 (.int .i64) .sh), (.t 16 (.int .i64) .sh), (.b 12288 0 (.int .i64) .sh), (.b 12288 1 (.sl e153) (.own [.sh, .sh, .sh, .sh, (.own [])]))], [9, 10, 11, 17, 18, 19, 20, 21, 22, 23, 24, 25, 26, 27, 28, 29, 30, 31], []⟩) else none), fun n => none⟩
theorem q198 : ∀ x, runF C198 Tryz.f198 i198 o198 x = F198 x := by intro x; kernel_rfl
def i286 : List Grp := [⟨.agg, e48, []⟩]
def o286 : List Grp := [⟨.agg, e48, [.sh, (.own [])]⟩]
/-- impl.copyLedger -/
noncomputable def c286 : Con := ⟨i286, o286, F104⟩
def i199 : List Grp := [⟨.agg, e48, []⟩]
def o199 : List Grp := [⟨.agg, e48, [.sh, (.own [])]⟩]
/-- impl.NextEpoch -/
noncomputable def F199.b1 (x5 : D153) (y3 : (D48 × Unit)) (v4 : (Int × (List (D153) × Unit))) : (v6 : (List (D248) × (Int × (List (D153) × Unit)))) → Option (Sum (List (D248) × (Int × (List (D153) × Unit))) (Sum (List (D248) × (Int × (List (D153) × Unit))) (Sum (Int × (List (D153) × Unit)) (Sum (Int × (List (D153) × Unit)) ((D48 × Unit)))))) := fun v6 => bif iLt v6.2.1 (List.length x5.2.2.2.2.1 : Int) then (getI x5.2.2.2.2.1 v6.2.1).bind fun x7 => bif iLe x7.2.1 (iAdd .i64 y3.1.1 (1:Int)) then (getN v6.2.2.1 (Int.toNat v4.1)).bind fun x8 => (getN v6.2.2.1 (Int.toNat v4.1)).bind fun x9 => (some (List.set v6.2.2.1 (Int.toNat v4.1) (x9.1, (iAdd .i64 x8.2.1 x7.1, x9.2.2)))).bind fun z10 => some (.inl (v6.1, (iAdd .i64 v6.2.1 (1:Int), (z10, ())))) else bif room (List.length v6.1 + List.length ([x7] : List (D248))) 16 then some (.inl (lapp v6.1 ([x7] : List (D248)), (iAdd .i64 v6.2.1 (1:Int), (v6.2.2.1, ())))) else none else some (.inr (.inl (v6.1, (v6.2.1, (v6.2.2.1, ())))))
noncomputable def F199.b0 (y3 : (D48 × Unit)) : (v4 : (Int × (List (D153) × Unit))) → Option (Sum (Int × (List (D153) × Unit)) (Sum (Int × (List (D153) × Unit)) ((D48 × Unit)))) := fun v4 => bif iLt v4.1 (List.length y3.1.2.1 : Int) then (getI v4.2.1 v4.1).bind fun _ => (getN v4.2.1 (Int.toNat v4.1)).bind fun x5 => (loopF (F199.b1 x5 y3 v4) ([], ((0:Int), (v4.2.1, ())))).bind fun r12 => Sum.elim (fun v11 => (getN v11.2.2.1 (Int.toNat v4.1)).bind fun x13 => (some (List.set v11.2.2.1 (Int.toNat v4.1) (x13.1, (x13.2.1, (x13.2.2.1, (x13.2.2.2.1, (v11.1, ()))))))).bind fun z14 => some (.inl (iAdd .i64 v4.1 (1:Int), (z14, ())))) some r12 else some (.inr (.inl (v4.1, (v4.2.1, ()))))
noncomputable def F199 : (D48 × Unit) → Option ((D48 × Unit)) := fun x0 => (F102 (x0.1, ())).bind fun y1 => bif (!y1.1.1) then (F104 (x0.1, ())).bind fun y2 => some (y2.1, ()) else (F104 (x0.1, ())).bind fun y3 => (loopF (F199.b0 y3) ((0:Int), (y3.1.2.1, ()))).bind fun r16 => Sum.elim (fun v15 => (F102 ((iAdd .i64 y3.1.1 (1:Int), (v15.2.1, ())), ())).bind fun y17 => bif (!y17.1.1) then (F104 (x0.1, ())).bind fun y18 => some (y18.1, ()) else some ((iAdd .i64 y3.1.1 (1:Int), (v15.2.1, ())), ())) some r16
noncomputable def c199 : Con := ⟨i199, o199, F199⟩
noncomputable def C199 : Ctx := ⟨69, TT, EE, fun n => (bif Nat.ble n 102 then (bif Nat.beq n 102 then some c102 else none) else (bif Nat.beq n 104 then some c286 else none)), fun n k => [], fun n => (bif Nat.ble n 0 then (bif Nat.beq n 0 then (some ⟨[(.t 23 (.int .i64) .sh), (.r 14338 e153 [])], [4, 5, 6, 8, 24, 25, 26, 27, 28, 29, 30, 31, 32, 33, 34, 35, 36, 37, 38, 39, 40, 41, 42, 43, 44, 45, 46, 47, 48, 49, 50, 51, 52, 53, 54, 55, 56, 57, 58, 59, 60, 61, 62], []⟩) else none) else (bif Nat.beq n 2 then (some ⟨[(.t 6 (.sl e248) (.own [])), (.t 35 (.int .i64) .sh), (.r 14338 e153 [])], [8, 36, 37, 38, 39, 40, 41, 42, 43, 44, 45, 46, 47, 48, 49, 50, 51, 52, 53, 54, 55, 56, 57], []⟩) else none)), fun n => none⟩
theorem q199 : ∀ x, runF C199 Tryz.f199 i199 o199 x = F199 x := by intro x; kernel_rfl
def i287 : List Grp := [⟨.agg, e48, []⟩, ⟨.c, (.cons (.sl e195) .nil), []⟩]
def o287 : List Grp := [⟨.agg, e48, [.sh, (.own [])]⟩, ⟨.c, (.cons (.int .i64) .nil), []⟩]
/-- impl.ApplyAll -/
noncomputable def c287 : Con := ⟨i287, o287, F198⟩
def i127 : List Grp := [⟨.agg, e74, []⟩, ⟨.c, (.cons (.sl e3) .nil), []⟩]
def o127 : List Grp := [⟨.agg, e48, [.sh, (.own [])]⟩, ⟨.c, (.cons .bool .nil), []⟩]
/-- impl.Fold -/
noncomputable def F127.b0 (x0 : (D74 × ((List D3 × Unit) × Unit))) : (v2 : (Int × (Int × (List (D153) × Unit)))) → Option (Sum (Int × (Int × (List (D153) × Unit))) (Sum (Int × (Int × (List (D153) × Unit))) ((D48 × ((Bool × Unit) × Unit))))) := fun v2 => bif iLt v2.1 (List.length x0.2.1.1 : Int) then (getI x0.2.1.1 v2.1).bind fun x3 => (F172 (x3, (((0:Int), ()), ((iSub .i64 (List.length x0.1.2.2.2.2.1 : Int) (1:Int), ()), ())))).bind fun y4 => bif (!y4.1.1) then (F104 ((x0.1.1, (x0.1.2.1, ())), ())).bind fun y5 => some (.inr (.inr (y5.1, ((false, ()), ())))) else (getI x0.1.2.2.2.2.1 x3.1).bind fun x6 => (F198 ((v2.2.1, (v2.2.2.1, ())), ((x6.2.2.2.2.2.2.2.2.2.2.1, ()), ()))).bind fun y7 => bif x6.2.2.2.2.2.2.2.2.2.2.2.1 then (F199 (y7.1, ())).bind fun y8 => some (.inl (iAdd .i64 v2.1 (1:Int), (y8.1.1, (y8.1.2.1, ())))) else some (.inl (iAdd .i64 v2.1 (1:Int), (y7.1.1, (y7.1.2.1, ())))) else some (.inr (.inl (v2.1, (v2.2.1, (v2.2.2.1, ())))))
noncomputable def F127 : (D74 × ((List D3 × Unit) × Unit)) → Option ((D48 × ((Bool × Unit) × Unit))) := fun x0 => (F104 ((x0.1.1, (x0.1.2.1, ())), ())).bind fun y1 => (loopF (F127.b0 x0) ((0:Int), (y1.1.1, (y1.1.2.1, ())))).bind fun r10 => Sum.elim (fun v9 => some ((v9.2.1, (v9.2.2.1, ())), ((true, ()), ()))) some r10
noncomputable def c127 : Con := ⟨i127, o127, F127⟩
noncomputable def C127 : Ctx := ⟨47, TT, EE, fun n => (bif Nat.ble n 172 then (bif Nat.ble n 104 then (bif Nat.beq n 104 then some c286 else none) else (bif Nat.beq n 172 then some c172 else none)) else (bif Nat.ble n 198 then (bif Nat.beq n 198 then some c287 else none) else (bif Nat.beq n 199 then some c199 else none))), fun n k => [], fun n => (bif Nat.beq n 0 then (some ⟨[(.t 15 (.int .i64) .sh), (.b 14336 0 (.int .i64) .sh), (.b 14336 1 (.sl e153) (.own []))], [5, 8, 9, 16, 17, 18, 19, 20, 21, 22, 23, 24, 25, 26, 27, 28, 29, 30, 31, 32, 33, 34, 35, 36, 37, 38, 39, 40, 41, 42, 43, 44, 45], [12290]⟩) else none), fun n => none⟩
theorem q127 : ∀ x, runF C127 Tryz.f127 i127 o127 x = F127 x := by intro x; kernel_rfl
def i200 : List Grp := [⟨.c, (.cons (.sl e153) .nil), []⟩, ⟨.c, (.cons (.sl e153) .nil), []⟩, ⟨.c, (.cons (.fn [6, 6] (.cons .str (.cons (.int .i64) (.cons (.int .i64) (.cons (.int .i64) (.cons (.sl e248) (.cons .str (.cons (.int .i64) (.cons (.int .i64) (.cons (.int .i64) (.cons (.sl e248) .nil)))))))))) (.cons .bool .nil)) .nil), []⟩]
def o200 : List Grp := [⟨.c, (.cons .bool .nil), []⟩]
/-- slices.EqualFunc[[]impl.Acct,[]impl.Acct,impl.Acct,impl.Acct] -/
noncomputable def F200.b0 (x0 : ((List D153 × Unit) × ((List D153 × Unit) × ((((ByteArray × (Int × (Int × (Int × (List D248 × (ByteArray × (Int × (Int × (Int × (List D248 × Unit)))))))))) → Option (Bool × Unit)) × Unit) × Unit)))) : (v1 : (Int × Unit)) → Option (Sum (Int × Unit) (Sum (Int × Unit) (((Bool × Unit) × Unit)))) := fun v1 => bif iLt v1.1 (List.length x0.1.1 : Int) then (getI x0.1.1 v1.1).bind fun x2 => (getI x0.2.1.1 v1.1).bind fun x3 => (x0.2.2.1.1 (x2.1, (x2.2.1, (x2.2.2.1, (x2.2.2.2.1, (x2.2.2.2.2.1, (x3.1, (x3.2.1, (x3.2.2.1, (x3.2.2.2.1, (x3.2.2.2.2.1, ()))))))))))).bind fun y4 => bif (!y4.1) then some (.inr (.inr ((false, ()), ()))) else some (.inl (iAdd .i64 v1.1 (1:Int), ())) else some (.inr (.inl (v1.1, ())))
noncomputable def F200 : ((List D153 × Unit) × ((List D153 × Unit) × ((((ByteArray × (Int × (Int × (Int × (List D248 × (ByteArray × (Int × (Int × (Int × (List D248 × Unit)))))))))) → Option (Bool × Unit)) × Unit) × Unit))) → Option (((Bool × Unit) × Unit)) := fun x0 => bif !iEq (List.length x0.1.1 : Int) (List.length x0.2.1.1 : Int) then some ((false, ()), ()) else (loopF (F200.b0 x0) ((0:Int), ())).bind fun r6 => Sum.elim (fun v5 => some ((true, ()), ())) some r6
noncomputable def c200 : Con := ⟨i200, o200, F200⟩
noncomputable def C200 : Ctx := ⟨32, TT, EE, fun n => none, fun n k => [], fun n => (bif Nat.beq n 0 then (some ⟨[(.t 17 (.int .i64) .sh)], [6, 7, 8, 9, 18, 19, 20, 21, 22, 23, 24, 25, 26, 27, 28, 29, 30, 31], []⟩) else none), fun n => none⟩
theorem q200 : ∀ x, runF C200 Tryz.f200 i200 o200 x = F200 x := by intro x; kernel_rfl
def i202 : List Grp := [⟨.c, (.cons (.sl e248) .nil), []⟩, ⟨.c, (.cons (.sl e248) .nil), []⟩]
def o202 : List Grp := [⟨.c, (.cons .bool .nil), []⟩]
/-- slices.Equal[[]impl.Leave,impl.Leave] -/
noncomputable def F202.b0 (x0 : ((List D248 × Unit) × ((List D248 × Unit) × Unit))) : (v1 : (Int × Unit)) → Option (Sum (Int × Unit) (Sum (Int × Unit) (((Bool × Unit) × Unit)))) := fun v1 => bif iLt v1.1 (List.length x0.1.1 : Int) then (getI x0.1.1 v1.1).bind fun x2 => (getI x0.2.1.1 v1.1).bind fun x3 => bif !((iEq x2.1 x3.1) && (iEq x2.2.1 x3.2.1)) then some (.inr (.inr ((false, ()), ()))) else some (.inl (iAdd .i64 v1.1 (1:Int), ())) else some (.inr (.inl (v1.1, ())))
noncomputable def F202 : ((List D248 × Unit) × ((List D248 × Unit) × Unit)) → Option (((Bool × Unit) × Unit)) := fun x0 => bif !iEq (List.length x0.1.1 : Int) (List.length x0.2.1.1 : Int) then some ((false, ()), ()) else (loopF (F202.b0 x0) ((0:Int), ())).bind fun r5 => Sum.elim (fun v4 => some ((true, ()), ())) some r5
noncomputable def c202 : Con := ⟨i202, o202, F202⟩
noncomputable def C202 : Ctx := ⟨26, TT, EE, fun n => none, fun n k => [], fun n => (bif Nat.beq n 0 then (some ⟨[(.t 13 (.int .i64) .sh)], [4, 5, 14, 15, 16, 17, 18, 19, 20, 21, 22, 23, 24, 25], []⟩) else none), fun n => none⟩
theorem q202 : ∀ x, runF C202 Tryz.f202 i202 o202 x = F202 x := by intro x; kernel_rfl
def i201 : List Grp := [⟨.agg, e153, []⟩, ⟨.agg, e153, []⟩]
def o201 : List Grp := [⟨.c, (.cons .bool .nil), []⟩]
/-- impl.sameLedger$1 -/
noncomputable def F201 : (D153 × (D153 × Unit)) → Option (((Bool × Unit) × Unit)) := fun x0 => bif sEq x0.1.1 x0.2.1.1 then bif iEq x0.1.2.1 x0.2.1.2.1 then bif iEq x0.1.2.2.1 x0.2.1.2.2.1 then bif iEq x0.1.2.2.2.1 x0.2.1.2.2.2.1 then (F202 ((x0.1.2.2.2.2.1, ()), ((x0.2.1.2.2.2.2.1, ()), ()))).bind fun y1 => some (y1.1, ()) else some ((false, ()), ()) else some ((false, ()), ()) else some ((false, ()), ()) else some ((false, ()), ())
noncomputable def c201 : Con := ⟨i201, o201, F201⟩
noncomputable def C201 : Ctx := ⟨38, TT, EE, fun n => (bif Nat.beq n 202 then some c202 else none), fun n k => [], fun n => none, fun n => none⟩
theorem q201 : ∀ x, runF C201 Tryz.f201 i201 o201 x = F201 x := by intro x; kernel_rfl
def i129 : List Grp := [⟨.agg, e48, []⟩, ⟨.agg, e48, []⟩]
def o129 : List Grp := [⟨.c, (.cons .bool .nil), []⟩]
/-- impl.sameLedger -/
noncomputable def F129 : (D48 × (D48 × Unit)) → Option (((Bool × Unit) × Unit)) := fun x0 => bif iEq x0.1.1 x0.2.1.1 then (F200 ((x0.1.2.1, ()), ((x0.2.1.2.1, ()), (((fun p1 => (F201 ((p1.1, (p1.2.1, (p1.2.2.1, (p1.2.2.2.1, (p1.2.2.2.2.1, ()))))), ((p1.2.2.2.2.2.1, (p1.2.2.2.2.2.2.1, (p1.2.2.2.2.2.2.2.1, (p1.2.2.2.2.2.2.2.2.1, (p1.2.2.2.2.2.2.2.2.2.1, ()))))), ()))).bind fun y2 => some (y2.1.1, ())), ()), ())))).bind fun y3 => some (y3.1, ()) else some ((false, ()), ())
noncomputable def c129 : Con := ⟨i129, o129, F129⟩
noncomputable def C129 : Ctx := ⟨17, TT, EE, fun n => (bif Nat.ble n 200 then (bif Nat.beq n 200 then some c200 else none) else (bif Nat.beq n 201 then some c201 else none)), fun n k => [], fun n => none, fun n => none⟩
theorem q129 : ∀ x, runF C129 Tryz.f129 i129 o129 x = F129 x := by intro x; kernel_rfl
def i40 : List Grp := [⟨.agg, e74, []⟩]
def o40 : List Grp := [⟨.c, (.cons .bool .nil), []⟩]
/-- impl.Folded -/
noncomputable def F40.b0 (x0 : (D74 × Unit)) : (v1 : (Int × Unit)) → Option (Sum (Int × Unit) (Sum (Int × Unit) (((Bool × Unit) × Unit)))) := fun v1 => bif iLt v1.1 (List.length x0.1.2.2.2.1 : Int) then (getI x0.1.2.2.2.1 v1.1).bind fun x2 => (F128 (x0.1, ((x2.2.2.2.2.2.2.2.2.2.2.2.2.2.2.2.2.2.1, ()), ()))).bind fun y3 => (F127 (x0.1, (y3.1, ()))).bind fun y4 => bif (!y4.2.1.1) then some (.inr (.inr ((false, ()), ()))) else (F129 (y4.1, ((x2.2.2.1, (x2.2.2.2.1, ())), ()))).bind fun y5 => bif (!y5.1.1) then some (.inr (.inr ((false, ()), ()))) else some (.inl (iAdd .i64 v1.1 (1:Int), ())) else some (.inr (.inl (v1.1, ())))
noncomputable def F40 : (D74 × Unit) → Option (((Bool × Unit) × Unit)) := fun x0 => (loopF (F40.b0 x0) ((0:Int), ())).bind fun r7 => Sum.elim (fun v6 => some ((true, ()), ())) some r7
noncomputable def c40 : Con := ⟨i40, o40, F40⟩
noncomputable def C40 : Ctx := ⟨32, TT, EE, fun n => (bif Nat.ble n 127 then (bif Nat.beq n 127 then some c127 else none) else (bif Nat.ble n 128 then (bif Nat.beq n 128 then some c128 else none) else (bif Nat.beq n 129 then some c129 else none))), fun n k => (bif Nat.beq n 0 then (match k with | 0 => [(.own [])] | _ => []) else []), fun n => (bif Nat.beq n 0 then (some ⟨[(.t 10 (.int .i64) .sh)], [2, 4, 5, 6, 11, 12, 13, 14, 15, 16, 17, 18, 19, 20, 21, 22, 23, 24, 25, 26, 27, 28, 29, 30, 31], []⟩) else none), fun n => none⟩
theorem q40 : ∀ x, runF C40 Tryz.f40 i40 o40 x = F40 x := by intro x; kernel_rfl
def i231 : List Grp := [⟨.agg, e264, []⟩, ⟨.agg, e264, []⟩]
def o231 : List Grp := [⟨.c, (.cons .bool .nil), []⟩]
/-- laws.eqLeave -/
noncomputable def F231 : (D264 × (D264 × Unit)) → Option (((Bool × Unit) × Unit)) := fun x0 => bif !iEq x0.1.1 x0.2.1.1 then some ((false, ()), ()) else bif !iEq x0.1.2.1 x0.2.1.2.1 then some ((false, ()), ()) else some ((true, ()), ())
noncomputable def c231 : Con := ⟨i231, o231, F231⟩
noncomputable def C231 : Ctx := ⟨15, TT, EE, fun n => none, fun n k => [], fun n => none, fun n => none⟩
theorem q231 : ∀ x, runF C231 Tryz.f231 i231 o231 x = F231 x := by intro x; kernel_rfl
def i212 : List Grp := [⟨.c, (.cons (.sl e248) .nil), []⟩, ⟨.c, (.cons (.sl e248) .nil), []⟩]
def o212 : List Grp := [⟨.c, (.cons .bool .nil), []⟩]
/-- laws.eqLeaveS -/
noncomputable def F212.b0 (x0 : ((List D248 × Unit) × ((List D248 × Unit) × Unit))) : (v1 : (Int × Unit)) → Option (Sum (Int × Unit) (Sum (Int × Unit) (((Bool × Unit) × Unit)))) := fun v1 => bif iLt v1.1 (List.length x0.1.1 : Int) then (getI x0.1.1 v1.1).bind fun x2 => (getI x0.2.1.1 v1.1).bind fun x3 => (F231 (x2, (x3, ()))).bind fun y4 => bif (!y4.1.1) then some (.inr (.inr ((false, ()), ()))) else some (.inl (iAdd .i64 v1.1 (1:Int), ())) else some (.inr (.inl (v1.1, ())))
noncomputable def F212 : ((List D248 × Unit) × ((List D248 × Unit) × Unit)) → Option (((Bool × Unit) × Unit)) := fun x0 => bif !iEq (List.length x0.1.1 : Int) (List.length x0.2.1.1 : Int) then some ((false, ()), ()) else (loopF (F212.b0 x0) ((0:Int), ())).bind fun r6 => Sum.elim (fun v5 => some ((true, ()), ())) some r6
noncomputable def c212 : Con := ⟨i212, o212, F212⟩
noncomputable def C212 : Ctx := ⟨27, TT, EE, fun n => (bif Nat.beq n 231 then some c231 else none), fun n k => [], fun n => (bif Nat.beq n 0 then (some ⟨[(.t 5 (.int .i64) .sh)], [4, 11, 12, 13, 14, 15, 16, 17, 18, 19, 20, 21, 22, 23, 24, 25, 26], []⟩) else none), fun n => none⟩
theorem q212 : ∀ x, runF C212 Tryz.f212 i212 o212 x = F212 x := by intro x; kernel_rfl
def i178 : List Grp := [⟨.agg, e153, []⟩, ⟨.agg, e153, []⟩]
def o178 : List Grp := [⟨.c, (.cons .bool .nil), []⟩]
/-- laws.eqAcct -/
noncomputable def F178 : (D153 × (D153 × Unit)) → Option (((Bool × Unit) × Unit)) := fun x0 => bif !sEq x0.1.1 x0.2.1.1 then some ((false, ()), ()) else bif !iEq x0.1.2.1 x0.2.1.2.1 then some ((false, ()), ()) else bif !iEq x0.1.2.2.1 x0.2.1.2.2.1 then some ((false, ()), ()) else bif !iEq x0.1.2.2.2.1 x0.2.1.2.2.2.1 then some ((false, ()), ()) else (F212 ((x0.1.2.2.2.2.1, ()), ((x0.2.1.2.2.2.2.1, ()), ()))).bind fun y1 => bif (!y1.1.1) then some ((false, ()), ()) else some ((true, ()), ())
noncomputable def c178 : Con := ⟨i178, o178, F178⟩
noncomputable def C178 : Ctx := ⟨31, TT, EE, fun n => (bif Nat.beq n 212 then some c212 else none), fun n k => [], fun n => none, fun n => none⟩
theorem q178 : ∀ x, runF C178 Tryz.f178 i178 o178 x = F178 x := by intro x; kernel_rfl
def i108 : List Grp := [⟨.c, (.cons (.sl e153) .nil), []⟩, ⟨.c, (.cons (.sl e153) .nil), []⟩]
def o108 : List Grp := [⟨.c, (.cons .bool .nil), []⟩]
/-- laws.eqAcctS -/
noncomputable def F108.b0 (x0 : ((List D153 × Unit) × ((List D153 × Unit) × Unit))) : (v1 : (Int × Unit)) → Option (Sum (Int × Unit) (Sum (Int × Unit) (((Bool × Unit) × Unit)))) := fun v1 => bif iLt v1.1 (List.length x0.1.1 : Int) then (getI x0.1.1 v1.1).bind fun x2 => (getI x0.2.1.1 v1.1).bind fun x3 => (F178 (x2, (x3, ()))).bind fun y4 => bif (!y4.1.1) then some (.inr (.inr ((false, ()), ()))) else some (.inl (iAdd .i64 v1.1 (1:Int), ())) else some (.inr (.inl (v1.1, ())))
noncomputable def F108 : ((List D153 × Unit) × ((List D153 × Unit) × Unit)) → Option (((Bool × Unit) × Unit)) := fun x0 => bif !iEq (List.length x0.1.1 : Int) (List.length x0.2.1.1 : Int) then some ((false, ()), ()) else (loopF (F108.b0 x0) ((0:Int), ())).bind fun r6 => Sum.elim (fun v5 => some ((true, ()), ())) some r6
noncomputable def c108 : Con := ⟨i108, o108, F108⟩
noncomputable def C108 : Ctx := ⟨27, TT, EE, fun n => (bif Nat.beq n 178 then some c178 else none), fun n k => [], fun n => (bif Nat.beq n 0 then (some ⟨[(.t 5 (.int .i64) .sh)], [4, 11, 12, 13, 14, 15, 16, 17, 18, 19, 20, 21, 22, 23, 24, 25, 26], []⟩) else none), fun n => none⟩
theorem q108 : ∀ x, runF C108 Tryz.f108 i108 o108 x = F108 x := by intro x; kernel_rfl
def i28 : List Grp := [⟨.agg, e48, []⟩, ⟨.agg, e48, []⟩]
def o28 : List Grp := [⟨.c, (.cons .bool .nil), []⟩]
/-- laws.eqLedger -/
noncomputable def F28 : (D48 × (D48 × Unit)) → Option (((Bool × Unit) × Unit)) := fun x0 => bif !iEq x0.1.1 x0.2.1.1 then some ((false, ()), ()) else (F108 ((x0.1.2.1, ()), ((x0.2.1.2.1, ()), ()))).bind fun y1 => bif (!y1.1.1) then some ((false, ()), ()) else some ((true, ()), ())
noncomputable def c28 : Con := ⟨i28, o28, F28⟩
noncomputable def C28 : Ctx := ⟨16, TT, EE, fun n => (bif Nat.beq n 108 then some c108 else none), fun n k => [], fun n => none, fun n => none⟩
theorem q28 : ∀ x, runF C28 Tryz.f28 i28 o28 x = F28 x := by intro x; kernel_rfl
def i29 : List Grp := [⟨.c, (.cons (.sl e9) .nil), []⟩, ⟨.c, (.cons (.sl e9) .nil), []⟩]
def o29 : List Grp := [⟨.c, (.cons .bool .nil), []⟩]
/-- laws.eqStringS -/
noncomputable def F29.b0 (x0 : ((List D9 × Unit) × ((List D9 × Unit) × Unit))) : (v1 : (Int × Unit)) → Option (Sum (Int × Unit) (Sum (Int × Unit) (((Bool × Unit) × Unit)))) := fun v1 => bif iLt v1.1 (List.length x0.1.1 : Int) then (getI x0.1.1 v1.1).bind fun x2 => (getI x0.2.1.1 v1.1).bind fun x3 => bif !sEq x2.1 x3.1 then some (.inr (.inr ((false, ()), ()))) else some (.inl (iAdd .i64 v1.1 (1:Int), ())) else some (.inr (.inl (v1.1, ())))
noncomputable def F29 : ((List D9 × Unit) × ((List D9 × Unit) × Unit)) → Option (((Bool × Unit) × Unit)) := fun x0 => bif !iEq (List.length x0.1.1 : Int) (List.length x0.2.1.1 : Int) then some ((false, ()), ()) else (loopF (F29.b0 x0) ((0:Int), ())).bind fun r5 => Sum.elim (fun v4 => some ((true, ()), ())) some r5
noncomputable def c29 : Con := ⟨i29, o29, F29⟩
noncomputable def C29 : Ctx := ⟨26, TT, EE, fun n => none, fun n k => [], fun n => (bif Nat.beq n 0 then (some ⟨[(.t 5 (.int .i64) .sh)], [4, 11, 12, 13, 14, 15, 16, 17, 18, 19, 20, 21, 22, 23, 24, 25], []⟩) else none), fun n => none⟩
theorem q29 : ∀ x, runF C29 Tryz.f29 i29 o29 x = F29 x := by intro x; kernel_rfl
def i149 : List Grp := [⟨.agg, e170, []⟩, ⟨.agg, e170, []⟩]
def o149 : List Grp := [⟨.c, (.cons .bool .nil), []⟩]
/-- laws.eqVal -/
noncomputable def F149 : (D170 × (D170 × Unit)) → Option (((Bool × Unit) × Unit)) := fun x0 => bif !sEq x0.1.1 x0.2.1.1 then some ((false, ()), ()) else bif !iEq x0.1.2.1 x0.2.1.2.1 then some ((false, ()), ()) else some ((true, ()), ())
noncomputable def c149 : Con := ⟨i149, o149, F149⟩
noncomputable def C149 : Ctx := ⟨15, TT, EE, fun n => none, fun n k => [], fun n => none, fun n => none⟩
theorem q149 : ∀ x, runF C149 Tryz.f149 i149 o149 x = F149 x := by intro x; kernel_rfl
def i64 : List Grp := [⟨.c, (.cons (.sl e188) .nil), []⟩, ⟨.c, (.cons (.sl e188) .nil), []⟩]
def o64 : List Grp := [⟨.c, (.cons .bool .nil), []⟩]
/-- laws.eqValS -/
noncomputable def F64.b0 (x0 : ((List D188 × Unit) × ((List D188 × Unit) × Unit))) : (v1 : (Int × Unit)) → Option (Sum (Int × Unit) (Sum (Int × Unit) (((Bool × Unit) × Unit)))) := fun v1 => bif iLt v1.1 (List.length x0.1.1 : Int) then (getI x0.1.1 v1.1).bind fun x2 => (getI x0.2.1.1 v1.1).bind fun x3 => (F149 (x2, (x3, ()))).bind fun y4 => bif (!y4.1.1) then some (.inr (.inr ((false, ()), ()))) else some (.inl (iAdd .i64 v1.1 (1:Int), ())) else some (.inr (.inl (v1.1, ())))
noncomputable def F64 : ((List D188 × Unit) × ((List D188 × Unit) × Unit)) → Option (((Bool × Unit) × Unit)) := fun x0 => bif !iEq (List.length x0.1.1 : Int) (List.length x0.2.1.1 : Int) then some ((false, ()), ()) else (loopF (F64.b0 x0) ((0:Int), ())).bind fun r6 => Sum.elim (fun v5 => some ((true, ()), ())) some r6
noncomputable def c64 : Con := ⟨i64, o64, F64⟩
noncomputable def C64 : Ctx := ⟨27, TT, EE, fun n => (bif Nat.beq n 149 then some c149 else none), fun n k => [], fun n => (bif Nat.beq n 0 then (some ⟨[(.t 5 (.int .i64) .sh)], [4, 11, 12, 13, 14, 15, 16, 17, 18, 19, 20, 21, 22, 23, 24, 25, 26], []⟩) else none), fun n => none⟩
theorem q64 : ∀ x, runF C64 Tryz.f64 i64 o64 x = F64 x := by intro x; kernel_rfl
def i63 : List Grp := [⟨.agg, e29, []⟩, ⟨.agg, e29, []⟩]
def o63 : List Grp := [⟨.c, (.cons .bool .nil), []⟩]
/-- laws.eqQc -/
noncomputable def F63 : (D29 × (D29 × Unit)) → Option (((Bool × Unit) × Unit)) := fun x0 => bif !iEq x0.1.1 x0.2.1.1 then some ((false, ()), ()) else bif !iEq x0.1.2.1 x0.2.1.2.1 then some ((false, ()), ()) else (F29 ((x0.1.2.2.1, ()), ((x0.2.1.2.2.1, ()), ()))).bind fun y1 => bif (!y1.1.1) then some ((false, ()), ()) else some ((true, ()), ())
noncomputable def c63 : Con := ⟨i63, o63, F63⟩
noncomputable def C63 : Ctx := ⟨21, TT, EE, fun n => (bif Nat.beq n 29 then some c29 else none), fun n k => [], fun n => none, fun n => none⟩
theorem q63 : ∀ x, runF C63 Tryz.f63 i63 o63 x = F63 x := by intro x; kernel_rfl
def i68 : List Grp := [⟨.c, (.cons (.sl e3) .nil), []⟩, ⟨.c, (.cons (.sl e3) .nil), []⟩]
def o68 : List Grp := [⟨.c, (.cons .bool .nil), []⟩]
/-- laws.eqIntS -/
noncomputable def F68.b0 (x0 : ((List D3 × Unit) × ((List D3 × Unit) × Unit))) : (v1 : (Int × Unit)) → Option (Sum (Int × Unit) (Sum (Int × Unit) (((Bool × Unit) × Unit)))) := fun v1 => bif iLt v1.1 (List.length x0.1.1 : Int) then (getI x0.1.1 v1.1).bind fun x2 => (getI x0.2.1.1 v1.1).bind fun x3 => bif !iEq x2.1 x3.1 then some (.inr (.inr ((false, ()), ()))) else some (.inl (iAdd .i64 v1.1 (1:Int), ())) else some (.inr (.inl (v1.1, ())))
noncomputable def F68 : ((List D3 × Unit) × ((List D3 × Unit) × Unit)) → Option (((Bool × Unit) × Unit)) := fun x0 => bif !iEq (List.length x0.1.1 : Int) (List.length x0.2.1.1 : Int) then some ((false, ()), ()) else (loopF (F68.b0 x0) ((0:Int), ())).bind fun r5 => Sum.elim (fun v4 => some ((true, ()), ())) some r5
noncomputable def c68 : Con := ⟨i68, o68, F68⟩
noncomputable def C68 : Ctx := ⟨26, TT, EE, fun n => none, fun n k => [], fun n => (bif Nat.beq n 0 then (some ⟨[(.t 5 (.int .i64) .sh)], [4, 11, 12, 13, 14, 15, 16, 17, 18, 19, 20, 21, 22, 23, 24, 25], []⟩) else none), fun n => none⟩
theorem q68 : ∀ x, runF C68 Tryz.f68 i68 o68 x = F68 x := by intro x; kernel_rfl
def i65 : List Grp := [⟨.agg, e32, []⟩, ⟨.agg, e32, []⟩]
def o65 : List Grp := [⟨.c, (.cons .bool .nil), []⟩]
/-- laws.eqTc -/
noncomputable def F65 : (D32 × (D32 × Unit)) → Option (((Bool × Unit) × Unit)) := fun x0 => bif !iEq x0.1.1 x0.2.1.1 then some ((false, ()), ()) else (F29 ((x0.1.2.1, ()), ((x0.2.1.2.1, ()), ()))).bind fun y1 => bif (!y1.1.1) then some ((false, ()), ()) else (F68 ((x0.1.2.2.1, ()), ((x0.2.1.2.2.1, ()), ()))).bind fun y2 => bif (!y2.1.1) then some ((false, ()), ()) else some ((true, ()), ())
noncomputable def c65 : Con := ⟨i65, o65, F65⟩
noncomputable def C65 : Ctx := ⟨22, TT, EE, fun n => (bif Nat.ble n 29 then (bif Nat.beq n 29 then some c29 else none) else (bif Nat.beq n 68 then some c68 else none)), fun n k => [], fun n => none, fun n => none⟩
theorem q65 : ∀ x, runF C65 Tryz.f65 i65 o65 x = F65 x := by intro x; kernel_rfl
def i152 : List Grp := [⟨.agg, e182, []⟩, ⟨.agg, e182, []⟩]
def o152 : List Grp := [⟨.c, (.cons .bool .nil), []⟩]
/-- laws.eqTx -/
noncomputable def F152 : (D182 × (D182 × Unit)) → Option (((Bool × Unit) × Unit)) := fun x0 => bif !iEq x0.1.1 x0.2.1.1 then some ((false, ()), ()) else bif !sEq x0.1.2.1 x0.2.1.2.1 then some ((false, ()), ()) else bif !sEq x0.1.2.2.1 x0.2.1.2.2.1 then some ((false, ()), ()) else bif !iEq x0.1.2.2.2.1 x0.2.1.2.2.2.1 then some ((false, ()), ()) else bif !iEq x0.1.2.2.2.2.1 x0.2.1.2.2.2.2.1 then some ((false, ()), ()) else some ((true, ()), ())
noncomputable def c152 : Con := ⟨i152, o152, F152⟩
noncomputable def C152 : Ctx := ⟨30, TT, EE, fun n => none, fun n k => [], fun n => none, fun n => none⟩
theorem q152 : ∀ x, runF C152 Tryz.f152 i152 o152 x = F152 x := by intro x; kernel_rfl
def i69 : List Grp := [⟨.c, (.cons (.sl e195) .nil), []⟩, ⟨.c, (.cons (.sl e195) .nil), []⟩]
def o69 : List Grp := [⟨.c, (.cons .bool .nil), []⟩]
/-- laws.eqTxS -/
noncomputable def F69.b0 (x0 : ((List D195 × Unit) × ((List D195 × Unit) × Unit))) : (v1 : (Int × Unit)) → Option (Sum (Int × Unit) (Sum (Int × Unit) (((Bool × Unit) × Unit)))) := fun v1 => bif iLt v1.1 (List.length x0.1.1 : Int) then (getI x0.1.1 v1.1).bind fun x2 => (getI x0.2.1.1 v1.1).bind fun x3 => (F152 (x2, (x3, ()))).bind fun y4 => bif (!y4.1.1) then some (.inr (.inr ((false, ()), ()))) else some (.inl (iAdd .i64 v1.1 (1:Int), ())) else some (.inr (.inl (v1.1, ())))
noncomputable def F69 : ((List D195 × Unit) × ((List D195 × Unit) × Unit)) → Option (((Bool × Unit) × Unit)) := fun x0 => bif !iEq (List.length x0.1.1 : Int) (List.length x0.2.1.1 : Int) then some ((false, ()), ()) else (loopF (F69.b0 x0) ((0:Int), ())).bind fun r6 => Sum.elim (fun v5 => some ((true, ()), ())) some r6
noncomputable def c69 : Con := ⟨i69, o69, F69⟩
noncomputable def C69 : Ctx := ⟨27, TT, EE, fun n => (bif Nat.beq n 152 then some c152 else none), fun n k => [], fun n => (bif Nat.beq n 0 then (some ⟨[(.t 5 (.int .i64) .sh)], [4, 11, 12, 13, 14, 15, 16, 17, 18, 19, 20, 21, 22, 23, 24, 25, 26], []⟩) else none), fun n => none⟩
theorem q69 : ∀ x, runF C69 Tryz.f69 i69 o69 x = F69 x := by intro x; kernel_rfl
def i148 : List Grp := [⟨.agg, e138, []⟩, ⟨.agg, e138, []⟩]
def o148 : List Grp := [⟨.c, (.cons .bool .nil), []⟩]
/-- laws.eqBlock -/
noncomputable def F148 : (D138 × (D138 × Unit)) → Option (((Bool × Unit) × Unit)) := fun x0 => bif !iEq x0.1.1 x0.2.1.1 then some ((false, ()), ()) else bif !iEq x0.1.2.1 x0.2.1.2.1 then some ((false, ()), ()) else bif !iEq x0.1.2.2.1 x0.2.1.2.2.1 then some ((false, ()), ()) else bif !sEq x0.1.2.2.2.1 x0.2.1.2.2.2.1 then some ((false, ()), ()) else (F63 ((x0.1.2.2.2.2.1, (x0.1.2.2.2.2.2.1, (x0.1.2.2.2.2.2.2.1, ()))), ((x0.2.1.2.2.2.2.1, (x0.2.1.2.2.2.2.2.1, (x0.2.1.2.2.2.2.2.2.1, ()))), ()))).bind fun y1 => bif (!y1.1.1) then some ((false, ()), ()) else (F65 ((x0.1.2.2.2.2.2.2.2.1, (x0.1.2.2.2.2.2.2.2.2.1, (x0.1.2.2.2.2.2.2.2.2.2.1, ()))), ((x0.2.1.2.2.2.2.2.2.2.1, (x0.2.1.2.2.2.2.2.2.2.2.1, (x0.2.1.2.2.2.2.2.2.2.2.2.1, ()))), ()))).bind fun y2 => bif (!y2.1.1) then some ((false, ()), ()) else (F69 ((x0.1.2.2.2.2.2.2.2.2.2.2.1, ()), ((x0.2.1.2.2.2.2.2.2.2.2.2.2.1, ()), ()))).bind fun y3 => bif (!y3.1.1) then some ((false, ()), ()) else bif !bEq x0.1.2.2.2.2.2.2.2.2.2.2.2.1 x0.2.1.2.2.2.2.2.2.2.2.2.2.2.1 then some ((false, ()), ()) else (F64 ((x0.1.2.2.2.2.2.2.2.2.2.2.2.2.1, ()), ((x0.2.1.2.2.2.2.2.2.2.2.2.2.2.2.1, ()), ()))).bind fun y4 => bif (!y4.1.1) then some ((false, ()), ()) else bif !sEq x0.1.2.2.2.2.2.2.2.2.2.2.2.2.2.1 x0.2.1.2.2.2.2.2.2.2.2.2.2.2.2.2.1 then some ((false, ()), ()) else some ((true, ()), ())
noncomputable def c148 : Con := ⟨i148, o148, F148⟩
noncomputable def C148 : Ctx := ⟨59, TT, EE, fun n => (bif Nat.ble n 64 then (bif Nat.ble n 63 then (bif Nat.beq n 63 then some c63 else none) else (bif Nat.beq n 64 then some c64 else none)) else (bif Nat.ble n 65 then (bif Nat.beq n 65 then some c65 else none) else (bif Nat.beq n 69 then some c69 else none))), fun n k => [], fun n => none, fun n => none⟩
theorem q148 : ∀ x, runF C148 Tryz.f148 i148 o148 x = F148 x := by intro x; kernel_rfl
def i62 : List Grp := [⟨.c, (.cons (.sl e138) .nil), []⟩, ⟨.c, (.cons (.sl e138) .nil), []⟩]
def o62 : List Grp := [⟨.c, (.cons .bool .nil), []⟩]
/-- laws.eqBlockS -/
noncomputable def F62.b0 (x0 : ((List D138 × Unit) × ((List D138 × Unit) × Unit))) : (v1 : (Int × Unit)) → Option (Sum (Int × Unit) (Sum (Int × Unit) (((Bool × Unit) × Unit)))) := fun v1 => bif iLt v1.1 (List.length x0.1.1 : Int) then (getI x0.1.1 v1.1).bind fun x2 => (getI x0.2.1.1 v1.1).bind fun x3 => (F148 (x2, (x3, ()))).bind fun y4 => bif (!y4.1.1) then some (.inr (.inr ((false, ()), ()))) else some (.inl (iAdd .i64 v1.1 (1:Int), ())) else some (.inr (.inl (v1.1, ())))
noncomputable def F62 : ((List D138 × Unit) × ((List D138 × Unit) × Unit)) → Option (((Bool × Unit) × Unit)) := fun x0 => bif !iEq (List.length x0.1.1 : Int) (List.length x0.2.1.1 : Int) then some ((false, ()), ()) else (loopF (F62.b0 x0) ((0:Int), ())).bind fun r6 => Sum.elim (fun v5 => some ((true, ()), ())) some r6
noncomputable def c62 : Con := ⟨i62, o62, F62⟩
noncomputable def C62 : Ctx := ⟨27, TT, EE, fun n => (bif Nat.beq n 148 then some c148 else none), fun n k => [], fun n => (bif Nat.beq n 0 then (some ⟨[(.t 5 (.int .i64) .sh)], [4, 11, 12, 13, 14, 15, 16, 17, 18, 19, 20, 21, 22, 23, 24, 25, 26], []⟩) else none), fun n => none⟩
theorem q62 : ∀ x, runF C62 Tryz.f62 i62 o62 x = F62 x := by intro x; kernel_rfl
def i150 : List Grp := [⟨.agg, e176, []⟩, ⟨.agg, e176, []⟩]
def o150 : List Grp := [⟨.c, (.cons .bool .nil), []⟩]
/-- laws.eqVote -/
noncomputable def F150 : (D176 × (D176 × Unit)) → Option (((Bool × Unit) × Unit)) := fun x0 => bif !iEq x0.1.1 x0.2.1.1 then some ((false, ()), ()) else bif !iEq x0.1.2.1 x0.2.1.2.1 then some ((false, ()), ()) else bif !sEq x0.1.2.2.1 x0.2.1.2.2.1 then some ((false, ()), ()) else some ((true, ()), ())
noncomputable def c150 : Con := ⟨i150, o150, F150⟩
noncomputable def C150 : Ctx := ⟨20, TT, EE, fun n => none, fun n k => [], fun n => none, fun n => none⟩
theorem q150 : ∀ x, runF C150 Tryz.f150 i150 o150 x = F150 x := by intro x; kernel_rfl
def i66 : List Grp := [⟨.c, (.cons (.sl e191) .nil), []⟩, ⟨.c, (.cons (.sl e191) .nil), []⟩]
def o66 : List Grp := [⟨.c, (.cons .bool .nil), []⟩]
/-- laws.eqVoteS -/
noncomputable def F66.b0 (x0 : ((List D191 × Unit) × ((List D191 × Unit) × Unit))) : (v1 : (Int × Unit)) → Option (Sum (Int × Unit) (Sum (Int × Unit) (((Bool × Unit) × Unit)))) := fun v1 => bif iLt v1.1 (List.length x0.1.1 : Int) then (getI x0.1.1 v1.1).bind fun x2 => (getI x0.2.1.1 v1.1).bind fun x3 => (F150 (x2, (x3, ()))).bind fun y4 => bif (!y4.1.1) then some (.inr (.inr ((false, ()), ()))) else some (.inl (iAdd .i64 v1.1 (1:Int), ())) else some (.inr (.inl (v1.1, ())))
noncomputable def F66 : ((List D191 × Unit) × ((List D191 × Unit) × Unit)) → Option (((Bool × Unit) × Unit)) := fun x0 => bif !iEq (List.length x0.1.1 : Int) (List.length x0.2.1.1 : Int) then some ((false, ()), ()) else (loopF (F66.b0 x0) ((0:Int), ())).bind fun r6 => Sum.elim (fun v5 => some ((true, ()), ())) some r6
noncomputable def c66 : Con := ⟨i66, o66, F66⟩
noncomputable def C66 : Ctx := ⟨27, TT, EE, fun n => (bif Nat.beq n 150 then some c150 else none), fun n k => [], fun n => (bif Nat.beq n 0 then (some ⟨[(.t 5 (.int .i64) .sh)], [4, 11, 12, 13, 14, 15, 16, 17, 18, 19, 20, 21, 22, 23, 24, 25, 26], []⟩) else none), fun n => none⟩
theorem q66 : ∀ x, runF C66 Tryz.f66 i66 o66 x = F66 x := by intro x; kernel_rfl
def i151 : List Grp := [⟨.agg, e176, []⟩, ⟨.agg, e176, []⟩]
def o151 : List Grp := [⟨.c, (.cons .bool .nil), []⟩]
/-- laws.eqGone -/
noncomputable def F151 : (D176 × (D176 × Unit)) → Option (((Bool × Unit) × Unit)) := fun x0 => bif !iEq x0.1.1 x0.2.1.1 then some ((false, ()), ()) else bif !iEq x0.1.2.1 x0.2.1.2.1 then some ((false, ()), ()) else bif !sEq x0.1.2.2.1 x0.2.1.2.2.1 then some ((false, ()), ()) else some ((true, ()), ())
noncomputable def c151 : Con := ⟨i151, o151, F151⟩
noncomputable def C151 : Ctx := ⟨20, TT, EE, fun n => none, fun n k => [], fun n => none, fun n => none⟩
theorem q151 : ∀ x, runF C151 Tryz.f151 i151 o151 x = F151 x := by intro x; kernel_rfl
def i67 : List Grp := [⟨.c, (.cons (.sl e193) .nil), []⟩, ⟨.c, (.cons (.sl e193) .nil), []⟩]
def o67 : List Grp := [⟨.c, (.cons .bool .nil), []⟩]
/-- laws.eqGoneS -/
noncomputable def F67.b0 (x0 : ((List D193 × Unit) × ((List D193 × Unit) × Unit))) : (v1 : (Int × Unit)) → Option (Sum (Int × Unit) (Sum (Int × Unit) (((Bool × Unit) × Unit)))) := fun v1 => bif iLt v1.1 (List.length x0.1.1 : Int) then (getI x0.1.1 v1.1).bind fun x2 => (getI x0.2.1.1 v1.1).bind fun x3 => (F151 (x2, (x3, ()))).bind fun y4 => bif (!y4.1.1) then some (.inr (.inr ((false, ()), ()))) else some (.inl (iAdd .i64 v1.1 (1:Int), ())) else some (.inr (.inl (v1.1, ())))
noncomputable def F67 : ((List D193 × Unit) × ((List D193 × Unit) × Unit)) → Option (((Bool × Unit) × Unit)) := fun x0 => bif !iEq (List.length x0.1.1 : Int) (List.length x0.2.1.1 : Int) then some ((false, ()), ()) else (loopF (F67.b0 x0) ((0:Int), ())).bind fun r6 => Sum.elim (fun v5 => some ((true, ()), ())) some r6
noncomputable def c67 : Con := ⟨i67, o67, F67⟩
noncomputable def C67 : Ctx := ⟨27, TT, EE, fun n => (bif Nat.beq n 151 then some c151 else none), fun n k => [], fun n => (bif Nat.beq n 0 then (some ⟨[(.t 5 (.int .i64) .sh)], [4, 11, 12, 13, 14, 15, 16, 17, 18, 19, 20, 21, 22, 23, 24, 25, 26], []⟩) else none), fun n => none⟩
theorem q67 : ∀ x, runF C67 Tryz.f67 i67 o67 x = F67 x := by intro x; kernel_rfl
def i12 : List Grp := [⟨.agg, e43, []⟩, ⟨.agg, e43, []⟩]
def o12 : List Grp := [⟨.c, (.cons .bool .nil), []⟩]
/-- laws.eqProof -/
noncomputable def F12 : (D43 × (D43 × Unit)) → Option (((Bool × Unit) × Unit)) := fun x0 => bif !iEq x0.1.1 x0.2.1.1 then some ((false, ()), ()) else (F62 ((x0.1.2.1, ()), ((x0.2.1.2.1, ()), ()))).bind fun y1 => bif (!y1.1.1) then some ((false, ()), ()) else (F63 ((x0.1.2.2.1, (x0.1.2.2.2.1, (x0.1.2.2.2.2.1, ()))), ((x0.2.1.2.2.1, (x0.2.1.2.2.2.1, (x0.2.1.2.2.2.2.1, ()))), ()))).bind fun y2 => bif (!y2.1.1) then some ((false, ()), ()) else some ((true, ()), ())
noncomputable def c12 : Con := ⟨i12, o12, F12⟩
noncomputable def C12 : Ctx := ⟨22, TT, EE, fun n => (bif Nat.ble n 62 then (bif Nat.beq n 62 then some c62 else none) else (bif Nat.beq n 63 then some c63 else none)), fun n k => [], fun n => none, fun n => none⟩
theorem q12 : ∀ x, runF C12 Tryz.f12 i12 o12 x = F12 x := by intro x; kernel_rfl
def i70 : List Grp := [⟨.c, (.cons (.sl e43) .nil), []⟩, ⟨.c, (.cons (.sl e43) .nil), []⟩]
def o70 : List Grp := [⟨.c, (.cons .bool .nil), []⟩]
/-- laws.eqProofS -/
noncomputable def F70.b0 (x0 : ((List D43 × Unit) × ((List D43 × Unit) × Unit))) : (v1 : (Int × Unit)) → Option (Sum (Int × Unit) (Sum (Int × Unit) (((Bool × Unit) × Unit)))) := fun v1 => bif iLt v1.1 (List.length x0.1.1 : Int) then (getI x0.1.1 v1.1).bind fun x2 => (getI x0.2.1.1 v1.1).bind fun x3 => (F12 (x2, (x3, ()))).bind fun y4 => bif (!y4.1.1) then some (.inr (.inr ((false, ()), ()))) else some (.inl (iAdd .i64 v1.1 (1:Int), ())) else some (.inr (.inl (v1.1, ())))
noncomputable def F70 : ((List D43 × Unit) × ((List D43 × Unit) × Unit)) → Option (((Bool × Unit) × Unit)) := fun x0 => bif !iEq (List.length x0.1.1 : Int) (List.length x0.2.1.1 : Int) then some ((false, ()), ()) else (loopF (F70.b0 x0) ((0:Int), ())).bind fun r6 => Sum.elim (fun v5 => some ((true, ()), ())) some r6
noncomputable def c70 : Con := ⟨i70, o70, F70⟩
noncomputable def C70 : Ctx := ⟨27, TT, EE, fun n => (bif Nat.beq n 12 then some c12 else none), fun n k => [], fun n => (bif Nat.beq n 0 then (some ⟨[(.t 5 (.int .i64) .sh)], [4, 11, 12, 13, 14, 15, 16, 17, 18, 19, 20, 21, 22, 23, 24, 25, 26], []⟩) else none), fun n => none⟩
theorem q70 : ∀ x, runF C70 Tryz.f70 i70 o70 x = F70 x := by intro x; kernel_rfl
def i13 : List Grp := [⟨.agg, e56, []⟩, ⟨.agg, e56, []⟩]
def o13 : List Grp := [⟨.c, (.cons .bool .nil), []⟩]
/-- laws.eqNode -/
noncomputable def F13 : (D56 × (D56 × Unit)) → Option (((Bool × Unit) × Unit)) := fun x0 => bif !sEq x0.1.1 x0.2.1.1 then some ((false, ()), ()) else bif !iEq x0.1.2.1 x0.2.1.2.1 then some ((false, ()), ()) else (F28 ((x0.1.2.2.1, (x0.1.2.2.2.1, ())), ((x0.2.1.2.2.1, (x0.2.1.2.2.2.1, ())), ()))).bind fun y1 => bif (!y1.1.1) then some ((false, ()), ()) else (F64 ((x0.1.2.2.2.2.1, ()), ((x0.2.1.2.2.2.2.1, ()), ()))).bind fun y2 => bif (!y2.1.1) then some ((false, ()), ()) else (F62 ((x0.1.2.2.2.2.2.1, ()), ((x0.2.1.2.2.2.2.2.1, ()), ()))).bind fun y3 => bif (!y3.1.1) then some ((false, ()), ()) else bif !iEq x0.1.2.2.2.2.2.2.1 x0.2.1.2.2.2.2.2.2.1 then some ((false, ()), ()) else bif !iEq x0.1.2.2.2.2.2.2.2.1 x0.2.1.2.2.2.2.2.2.2.1 then some ((false, ()), ()) else (F63 ((x0.1.2.2.2.2.2.2.2.2.1, (x0.1.2.2.2.2.2.2.2.2.2.1, (x0.1.2.2.2.2.2.2.2.2.2.2.1, ()))), ((x0.2.1.2.2.2.2.2.2.2.2.1, (x0.2.1.2.2.2.2.2.2.2.2.2.1, (x0.2.1.2.2.2.2.2.2.2.2.2.2.1, ()))), ()))).bind fun y4 => bif (!y4.1.1) then some ((false, ()), ()) else (F65 ((x0.1.2.2.2.2.2.2.2.2.2.2.2.1, (x0.1.2.2.2.2.2.2.2.2.2.2.2.2.1, (x0.1.2.2.2.2.2.2.2.2.2.2.2.2.2.1, ()))), ((x0.2.1.2.2.2.2.2.2.2.2.2.2.2.1, (x0.2.1.2.2.2.2.2.2.2.2.2.2.2.2.1, (x0.2.1.2.2.2.2.2.2.2.2.2.2.2.2.2.1, ()))), ()))).bind fun y5 => bif (!y5.1.1) then some ((false, ()), ()) else bif !iEq x0.1.2.2.2.2.2.2.2.2.2.2.2.2.2.2.1 x0.2.1.2.2.2.2.2.2.2.2.2.2.2.2.2.2.1 then some ((false, ()), ()) else (F66 ((x0.1.2.2.2.2.2.2.2.2.2.2.2.2.2.2.2.1, ()), ((x0.2.1.2.2.2.2.2.2.2.2.2.2.2.2.2.2.2.1, ()), ()))).bind fun y6 => bif (!y6.1.1) then some ((false, ()), ()) else (F67 ((x0.1.2.2.2.2.2.2.2.2.2.2.2.2.2.2.2.2.1, ()), ((x0.2.1.2.2.2.2.2.2.2.2.2.2.2.2.2.2.2.2.1, ()), ()))).bind fun y7 => bif (!y7.1.1) then some ((false, ()), ()) else (F68 ((x0.1.2.2.2.2.2.2.2.2.2.2.2.2.2.2.2.2.2.1, ()), ((x0.2.1.2.2.2.2.2.2.2.2.2.2.2.2.2.2.2.2.2.1, ()), ()))).bind fun y8 => bif (!y8.1.1) then some ((false, ()), ()) else (F69 ((x0.1.2.2.2.2.2.2.2.2.2.2.2.2.2.2.2.2.2.2.1, ()), ((x0.2.1.2.2.2.2.2.2.2.2.2.2.2.2.2.2.2.2.2.2.1, ()), ()))).bind fun y9 => bif (!y9.1.1) then some ((false, ()), ()) else (F70 ((x0.1.2.2.2.2.2.2.2.2.2.2.2.2.2.2.2.2.2.2.2.1, ()), ((x0.2.1.2.2.2.2.2.2.2.2.2.2.2.2.2.2.2.2.2.2.2.1, ()), ()))).bind fun y10 => bif (!y10.1.1) then some ((false, ()), ()) else some ((true, ()), ())
noncomputable def c13 : Con := ⟨i13, o13, F13⟩
noncomputable def C13 : Ctx := ⟨90, TT, EE, fun n => (bif Nat.ble n 65 then (bif Nat.ble n 62 then (bif Nat.ble n 28 then (bif Nat.beq n 28 then some c28 else none) else (bif Nat.beq n 62 then some c62 else none)) else (bif Nat.ble n 63 then (bif Nat.beq n 63 then some c63 else none) else (bif Nat.ble n 64 then (bif Nat.beq n 64 then some c64 else none) else (bif Nat.beq n 65 then some c65 else none)))) else (bif Nat.ble n 67 then (bif Nat.ble n 66 then (bif Nat.beq n 66 then some c66 else none) else (bif Nat.beq n 67 then some c67 else none)) else (bif Nat.ble n 68 then (bif Nat.beq n 68 then some c68 else none) else (bif Nat.ble n 69 then (bif Nat.beq n 69 then some c69 else none) else (bif Nat.beq n 70 then some c70 else none))))), fun n k => [], fun n => none, fun n => none⟩
theorem q13 : ∀ x, runF C13 Tryz.f13 i13 o13 x = F13 x := by intro x; kernel_rfl
def i92 : List Grp := [⟨.c, (.cons (.sl e56) .nil), []⟩, ⟨.c, (.cons (.sl e56) .nil), []⟩]
def o92 : List Grp := [⟨.c, (.cons .bool .nil), []⟩]
/-- laws.eqNodeS -/
noncomputable def F92.b0 (x0 : ((List D56 × Unit) × ((List D56 × Unit) × Unit))) : (v1 : (Int × Unit)) → Option (Sum (Int × Unit) (Sum (Int × Unit) (((Bool × Unit) × Unit)))) := fun v1 => bif iLt v1.1 (List.length x0.1.1 : Int) then (getI x0.1.1 v1.1).bind fun x2 => (getI x0.2.1.1 v1.1).bind fun x3 => (F13 (x2, (x3, ()))).bind fun y4 => bif (!y4.1.1) then some (.inr (.inr ((false, ()), ()))) else some (.inl (iAdd .i64 v1.1 (1:Int), ())) else some (.inr (.inl (v1.1, ())))
noncomputable def F92 : ((List D56 × Unit) × ((List D56 × Unit) × Unit)) → Option (((Bool × Unit) × Unit)) := fun x0 => bif !iEq (List.length x0.1.1 : Int) (List.length x0.2.1.1 : Int) then some ((false, ()), ()) else (loopF (F92.b0 x0) ((0:Int), ())).bind fun r6 => Sum.elim (fun v5 => some ((true, ()), ())) some r6
noncomputable def c92 : Con := ⟨i92, o92, F92⟩
noncomputable def C92 : Ctx := ⟨27, TT, EE, fun n => (bif Nat.beq n 13 then some c13 else none), fun n k => [], fun n => (bif Nat.beq n 0 then (some ⟨[(.t 5 (.int .i64) .sh)], [4, 11, 12, 13, 14, 15, 16, 17, 18, 19, 20, 21, 22, 23, 24, 25, 26], []⟩) else none), fun n => none⟩
theorem q92 : ∀ x, runF C92 Tryz.f92 i92 o92 x = F92 x := by intro x; kernel_rfl
def i164 : List Grp := [⟨.agg, e208, []⟩, ⟨.agg, e208, []⟩]
def o164 : List Grp := [⟨.c, (.cons .bool .nil), []⟩]
/-- laws.eqSig -/
noncomputable def F164 : (D208 × (D208 × Unit)) → Option (((Bool × Unit) × Unit)) := fun x0 => bif !iEq x0.1.1 x0.2.1.1 then some ((false, ()), ()) else bif !iEq x0.1.2.1 x0.2.1.2.1 then some ((false, ()), ()) else bif !iEq x0.1.2.2.1 x0.2.1.2.2.1 then some ((false, ()), ()) else bif !iEq x0.1.2.2.2.1 x0.2.1.2.2.2.1 then some ((false, ()), ()) else bif !sEq x0.1.2.2.2.2.1 x0.2.1.2.2.2.2.1 then some ((false, ()), ()) else some ((true, ()), ())
noncomputable def c164 : Con := ⟨i164, o164, F164⟩
noncomputable def C164 : Ctx := ⟨30, TT, EE, fun n => none, fun n k => [], fun n => none, fun n => none⟩
theorem q164 : ∀ x, runF C164 Tryz.f164 i164 o164 x = F164 x := by intro x; kernel_rfl
def i93 : List Grp := [⟨.c, (.cons (.sl e214) .nil), []⟩, ⟨.c, (.cons (.sl e214) .nil), []⟩]
def o93 : List Grp := [⟨.c, (.cons .bool .nil), []⟩]
/-- laws.eqSigS -/
noncomputable def F93.b0 (x0 : ((List D214 × Unit) × ((List D214 × Unit) × Unit))) : (v1 : (Int × Unit)) → Option (Sum (Int × Unit) (Sum (Int × Unit) (((Bool × Unit) × Unit)))) := fun v1 => bif iLt v1.1 (List.length x0.1.1 : Int) then (getI x0.1.1 v1.1).bind fun x2 => (getI x0.2.1.1 v1.1).bind fun x3 => (F164 (x2, (x3, ()))).bind fun y4 => bif (!y4.1.1) then some (.inr (.inr ((false, ()), ()))) else some (.inl (iAdd .i64 v1.1 (1:Int), ())) else some (.inr (.inl (v1.1, ())))
noncomputable def F93 : ((List D214 × Unit) × ((List D214 × Unit) × Unit)) → Option (((Bool × Unit) × Unit)) := fun x0 => bif !iEq (List.length x0.1.1 : Int) (List.length x0.2.1.1 : Int) then some ((false, ()), ()) else (loopF (F93.b0 x0) ((0:Int), ())).bind fun r6 => Sum.elim (fun v5 => some ((true, ()), ())) some r6
noncomputable def c93 : Con := ⟨i93, o93, F93⟩
noncomputable def C93 : Ctx := ⟨27, TT, EE, fun n => (bif Nat.beq n 164 then some c164 else none), fun n k => [], fun n => (bif Nat.beq n 0 then (some ⟨[(.t 5 (.int .i64) .sh)], [4, 11, 12, 13, 14, 15, 16, 17, 18, 19, 20, 21, 22, 23, 24, 25, 26], []⟩) else none), fun n => none⟩
theorem q93 : ∀ x, runF C93 Tryz.f93 i93 o93 x = F93 x := by intro x; kernel_rfl
def i165 : List Grp := [⟨.agg, e217, []⟩, ⟨.agg, e217, []⟩]
def o165 : List Grp := [⟨.c, (.cons .bool .nil), []⟩]
/-- laws.eqMsg -/
noncomputable def F165 : (D217 × (D217 × Unit)) → Option (((Bool × Unit) × Unit)) := fun x0 => bif !iEq x0.1.1 x0.2.1.1 then some ((false, ()), ()) else bif !sEq x0.1.2.1 x0.2.1.2.1 then some ((false, ()), ()) else bif !iEq x0.1.2.2.1 x0.2.1.2.2.1 then some ((false, ()), ()) else (F62 ((x0.1.2.2.2.1, ()), ((x0.2.1.2.2.2.1, ()), ()))).bind fun y1 => bif (!y1.1.1) then some ((false, ()), ()) else (F150 ((x0.1.2.2.2.2.1, (x0.1.2.2.2.2.2.1, (x0.1.2.2.2.2.2.2.1, ()))), ((x0.2.1.2.2.2.2.1, (x0.2.1.2.2.2.2.2.1, (x0.2.1.2.2.2.2.2.2.1, ()))), ()))).bind fun y2 => bif (!y2.1.1) then some ((false, ()), ()) else (F151 ((x0.1.2.2.2.2.2.2.2.1, (x0.1.2.2.2.2.2.2.2.2.1, (x0.1.2.2.2.2.2.2.2.2.2.1, ()))), ((x0.2.1.2.2.2.2.2.2.2.1, (x0.2.1.2.2.2.2.2.2.2.2.1, (x0.2.1.2.2.2.2.2.2.2.2.2.1, ()))), ()))).bind fun y3 => bif (!y3.1.1) then some ((false, ()), ()) else (F63 ((x0.1.2.2.2.2.2.2.2.2.2.2.1, (x0.1.2.2.2.2.2.2.2.2.2.2.2.1, (x0.1.2.2.2.2.2.2.2.2.2.2.2.2.1, ()))), ((x0.2.1.2.2.2.2.2.2.2.2.2.2.1, (x0.2.1.2.2.2.2.2.2.2.2.2.2.2.1, (x0.2.1.2.2.2.2.2.2.2.2.2.2.2.2.1, ()))), ()))).bind fun y4 => bif (!y4.1.1) then some ((false, ()), ()) else (F65 ((x0.1.2.2.2.2.2.2.2.2.2.2.2.2.2.1, (x0.1.2.2.2.2.2.2.2.2.2.2.2.2.2.2.1, (x0.1.2.2.2.2.2.2.2.2.2.2.2.2.2.2.2.1, ()))), ((x0.2.1.2.2.2.2.2.2.2.2.2.2.2.2.2.1, (x0.2.1.2.2.2.2.2.2.2.2.2.2.2.2.2.2.1, (x0.2.1.2.2.2.2.2.2.2.2.2.2.2.2.2.2.2.1, ()))), ()))).bind fun y5 => bif (!y5.1.1) then some ((false, ()), ()) else some ((true, ()), ())
noncomputable def c165 : Con := ⟨i165, o165, F165⟩
noncomputable def C165 : Ctx := ⟨50, TT, EE, fun n => (bif Nat.ble n 63 then (bif Nat.ble n 62 then (bif Nat.beq n 62 then some c62 else none) else (bif Nat.beq n 63 then some c63 else none)) else (bif Nat.ble n 65 then (bif Nat.beq n 65 then some c65 else none) else (bif Nat.ble n 150 then (bif Nat.beq n 150 then some c150 else none) else (bif Nat.beq n 151 then some c151 else none)))), fun n k => [], fun n => none, fun n => none⟩
theorem q165 : ∀ x, runF C165 Tryz.f165 i165 o165 x = F165 x := by intro x; kernel_rfl
def i94 : List Grp := [⟨.c, (.cons (.sl e217) .nil), []⟩, ⟨.c, (.cons (.sl e217) .nil), []⟩]
def o94 : List Grp := [⟨.c, (.cons .bool .nil), []⟩]
/-- laws.eqMsgS -/
noncomputable def F94.b0 (x0 : ((List D217 × Unit) × ((List D217 × Unit) × Unit))) : (v1 : (Int × Unit)) → Option (Sum (Int × Unit) (Sum (Int × Unit) (((Bool × Unit) × Unit)))) := fun v1 => bif iLt v1.1 (List.length x0.1.1 : Int) then (getI x0.1.1 v1.1).bind fun x2 => (getI x0.2.1.1 v1.1).bind fun x3 => (F165 (x2, (x3, ()))).bind fun y4 => bif (!y4.1.1) then some (.inr (.inr ((false, ()), ()))) else some (.inl (iAdd .i64 v1.1 (1:Int), ())) else some (.inr (.inl (v1.1, ())))
noncomputable def F94 : ((List D217 × Unit) × ((List D217 × Unit) × Unit)) → Option (((Bool × Unit) × Unit)) := fun x0 => bif !iEq (List.length x0.1.1 : Int) (List.length x0.2.1.1 : Int) then some ((false, ()), ()) else (loopF (F94.b0 x0) ((0:Int), ())).bind fun r6 => Sum.elim (fun v5 => some ((true, ()), ())) some r6
noncomputable def c94 : Con := ⟨i94, o94, F94⟩
noncomputable def C94 : Ctx := ⟨27, TT, EE, fun n => (bif Nat.beq n 165 then some c165 else none), fun n k => [], fun n => (bif Nat.beq n 0 then (some ⟨[(.t 5 (.int .i64) .sh)], [4, 11, 12, 13, 14, 15, 16, 17, 18, 19, 20, 21, 22, 23, 24, 25, 26], []⟩) else none), fun n => none⟩
theorem q94 : ∀ x, runF C94 Tryz.f94 i94 o94 x = F94 x := by intro x; kernel_rfl
def i21 : List Grp := [⟨.agg, e74, []⟩, ⟨.agg, e74, []⟩]
def o21 : List Grp := [⟨.c, (.cons .bool .nil), []⟩]
/-- laws.eqWorld -/
noncomputable def F21 : (D74 × (D74 × Unit)) → Option (((Bool × Unit) × Unit)) := fun x0 => (F28 ((x0.1.1, (x0.1.2.1, ())), ((x0.2.1.1, (x0.2.1.2.1, ())), ()))).bind fun y1 => bif (!y1.1.1) then some ((false, ()), ()) else (F29 ((x0.1.2.2.1, ()), ((x0.2.1.2.2.1, ()), ()))).bind fun y2 => bif (!y2.1.1) then some ((false, ()), ()) else (F92 ((x0.1.2.2.2.1, ()), ((x0.2.1.2.2.2.1, ()), ()))).bind fun y3 => bif (!y3.1.1) then some ((false, ()), ()) else (F62 ((x0.1.2.2.2.2.1, ()), ((x0.2.1.2.2.2.2.1, ()), ()))).bind fun y4 => bif (!y4.1.1) then some ((false, ()), ()) else (F93 ((x0.1.2.2.2.2.2.1, ()), ((x0.2.1.2.2.2.2.2.1, ()), ()))).bind fun y5 => bif (!y5.1.1) then some ((false, ()), ()) else (F94 ((x0.1.2.2.2.2.2.2.1, ()), ((x0.2.1.2.2.2.2.2.2.1, ()), ()))).bind fun y6 => bif (!y6.1.1) then some ((false, ()), ()) else some ((true, ()), ())
noncomputable def c21 : Con := ⟨i21, o21, F21⟩
noncomputable def C21 : Ctx := ⟨41, TT, EE, fun n => (bif Nat.ble n 62 then (bif Nat.ble n 28 then (bif Nat.beq n 28 then some c28 else none) else (bif Nat.ble n 29 then (bif Nat.beq n 29 then some c29 else none) else (bif Nat.beq n 62 then some c62 else none))) else (bif Nat.ble n 92 then (bif Nat.beq n 92 then some c92 else none) else (bif Nat.ble n 93 then (bif Nat.beq n 93 then some c93 else none) else (bif Nat.beq n 94 then some c94 else none)))), fun n k => [], fun n => none, fun n => none⟩
theorem q21 : ∀ x, runF C21 Tryz.f21 i21 o21 x = F21 x := by intro x; kernel_rfl
def i7 : List Grp := [⟨.agg, e67, []⟩]
def o7 : List Grp := [⟨.c, (.cons .bool .nil), []⟩]
/-- laws.FnExactFolded -/
noncomputable def F7 : (D67 × Unit) → Option (((Bool × Unit) × Unit)) := fun x0 => (F17 (x0.1, (((1048576:Int), ()), ()))).bind fun y1 => bif iLt y1.1.1 (0:Int) then some ((true, ()), ()) else (F19 (x0.1, ())).bind fun y2 => (F39 (y2.1, ())).bind fun y3 => (F19 (x0.1, ())).bind fun y4 => (F40 (y4.1, ())).bind fun y5 => bif !bEq y5.1.1 y3.1.1 then some ((false, ()), ()) else (F19 (x0.1, ())).bind fun y6 => (F21 (y4.1, (y6.1, ()))).bind fun y7 => bif (!y7.1.1) then some ((false, ()), ()) else some ((true, ()), ())
noncomputable def c7 : Con := ⟨i7, o7, F7⟩
noncomputable def C7 : Ctx := ⟨27, TT, EE, fun n => (bif Nat.ble n 19 then (bif Nat.ble n 17 then (bif Nat.beq n 17 then some c17 else none) else (bif Nat.beq n 19 then some c19 else none)) else (bif Nat.ble n 21 then (bif Nat.beq n 21 then some c21 else none) else (bif Nat.ble n 39 then (bif Nat.beq n 39 then some c39 else none) else (bif Nat.beq n 40 then some c40 else none)))), fun n k => [], fun n => none, fun n => none⟩
theorem q7 : ∀ x, runF C7 Tryz.f7 i7 o7 x = F7 x := by intro x; kernel_rfl
end Go.Proofs.YtphaibffjdfhpaaGreat
