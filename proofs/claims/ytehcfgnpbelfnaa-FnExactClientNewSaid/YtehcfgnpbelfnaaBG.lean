/- Each function does as its contract says. Conditions: none. -/

import Derived.Test.YtehcfgnpbelfnaaTm3
import Derived.Test.YtehcfgnpbelfnaaBF
namespace Go.Proofs.Ytehcfgnpbelfnaa
open Go Go.Tm
set_option linter.unusedVariables false
set_option maxRecDepth 100000
theorem mx : Try.prog.follows .mixedOrders = true := by kernel_rfl
theorem n116 : Enters Try.prog 116 := enters_of Try.func116 (by kernel_rfl)
theorem g116 : Good Try.prog 116 c116 := good_of (C := C116) mx (table_ok tt_ok) TreeOk.nil Try.func116 q116
theorem n78 : Enters Try.prog 78 := enters_of Try.func78 (by kernel_rfl)
theorem g78 : Good Try.prog 78 c78 := good_of (C := C78) mx (table_ok tt_ok) (TreeOk.leaf ⟨g116, n116⟩) Try.func78 q78
theorem n34 : Enters Try.prog 34 := enters_of Try.func34 (by kernel_rfl)
theorem g34 : Good Try.prog 34 c34 := good_of (C := C34) mx (table_ok tt_ok) (TreeOk.leaf ⟨g78, n78⟩) Try.func34 q34
theorem n8 : Enters Try.prog 8 := enters_of Try.func8 (by kernel_rfl)
theorem g8 : Good Try.prog 8 c8 := good_of (C := C8) mx (table_ok tt_ok) (TreeOk.leaf ⟨g34, n34⟩) Try.func8 q8
theorem n161 : Enters Try.prog 161 := enters_of Try.func161 (by kernel_rfl)
theorem g161 : Good Try.prog 161 c161 := good_of (C := C161) mx (table_ok tt_ok) TreeOk.nil Try.func161 q161
theorem n119 : Enters Try.prog 119 := enters_of Try.func119 (by kernel_rfl)
theorem g119 : Good Try.prog 119 c119 := good_of (C := C119) mx (table_ok tt_ok) (TreeOk.leaf ⟨g161, n161⟩) Try.func119 q119
theorem n81 : Enters Try.prog 81 := enters_of Try.func81 (by kernel_rfl)
theorem g81 : Good Try.prog 81 c81 := good_of (C := C81) mx (table_ok tt_ok) (TreeOk.leaf ⟨g119, n119⟩) Try.func81 q81
theorem n37 : Enters Try.prog 37 := enters_of Try.func37 (by kernel_rfl)
theorem g37 : Good Try.prog 37 c37 := good_of (C := C37) mx (table_ok tt_ok) (TreeOk.leaf ⟨g81, n81⟩) Try.func37 q37
theorem n10 : Enters Try.prog 10 := enters_of Try.func10 (by kernel_rfl)
theorem g10 : Good Try.prog 10 c10 := good_of (C := C10) mx (table_ok tt_ok) (TreeOk.leaf ⟨g37, n37⟩) Try.func10 q10
theorem n79 : Enters Try.prog 79 := enters_of Try.func79 (by kernel_rfl)
theorem g79 : Good Try.prog 79 c79 := good_of (C := C79) mx (table_ok tt_ok) TreeOk.nil Try.func79 q79
theorem n90 : Enters Try.prog 90 := enters_of Try.func90 (by kernel_rfl)
theorem g90 : Good Try.prog 90 c90 := good_of (C := C90) mx (table_ok tt_ok) (TreeOk.leaf ⟨g79, n79⟩) Try.func90 q90
theorem n117 : Enters Try.prog 117 := enters_of Try.func117 (by kernel_rfl)
theorem g117 : Good Try.prog 117 c117 := good_of (C := C117) mx (table_ok tt_ok) (TreeOk.node (TreeOk.leaf ⟨g79, n79⟩) (TreeOk.leaf ⟨g90, n90⟩)) Try.func117 q117
theorem n160 : Enters Try.prog 160 := enters_of Try.func160 (by kernel_rfl)
theorem g160 : Good Try.prog 160 c160 := good_of (C := C160) mx (table_ok tt_ok) TreeOk.nil Try.func160 q160
theorem n118 : Enters Try.prog 118 := enters_of Try.func118 (by kernel_rfl)
theorem g118 : Good Try.prog 118 c118 := good_of (C := C118) mx (table_ok tt_ok) (TreeOk.leaf ⟨g160, n160⟩) Try.func118 q118
theorem n80 : Enters Try.prog 80 := enters_of Try.func80 (by kernel_rfl)
theorem g80 : Good Try.prog 80 c80 := good_of (C := C80) mx (table_ok tt_ok) (TreeOk.node (TreeOk.leaf ⟨g117, n117⟩) (TreeOk.leaf ⟨g118, n118⟩)) Try.func80 q80
theorem n35 : Enters Try.prog 35 := enters_of Try.func35 (by kernel_rfl)
theorem g35 : Good Try.prog 35 c35 := good_of (C := C35) mx (table_ok tt_ok) (TreeOk.node (TreeOk.leaf ⟨g79, n79⟩) (TreeOk.leaf ⟨g80, n80⟩)) Try.func35 q35
theorem n36 : Enters Try.prog 36 := enters_of Try.func36 (by kernel_rfl)
theorem g36 : Good Try.prog 36 c36 := good_of (C := C36) mx (table_ok tt_ok) TreeOk.nil Try.func36 q36
theorem n9 : Enters Try.prog 9 := enters_of Try.func9 (by kernel_rfl)
theorem g9 : Good Try.prog 9 c9 := good_of (C := C9) mx (table_ok tt_ok) (TreeOk.node (TreeOk.leaf ⟨g35, n35⟩) (TreeOk.leaf ⟨g36, n36⟩)) Try.func9 q9
theorem n82 : Enters Try.prog 82 := enters_of Try.func82 (by kernel_rfl)
theorem g82 : Good Try.prog 82 c82 := good_of (C := C82) mx (table_ok tt_ok) TreeOk.nil Try.func82 q82
theorem n97 : Enters Try.prog 97 := enters_of Try.func97 (by kernel_rfl)
theorem g97 : Good Try.prog 97 c97 := good_of (C := C97) mx (table_ok tt_ok) (TreeOk.leaf ⟨g82, n82⟩) Try.func97 q97
theorem n162 : Enters Try.prog 162 := enters_of Try.func162 (by kernel_rfl)
theorem g162 : Good Try.prog 162 c162 := good_of (C := C162) mx (table_ok tt_ok) (TreeOk.leaf ⟨g82, n82⟩) Try.func162 q162
theorem n120 : Enters Try.prog 120 := enters_of Try.func120 (by kernel_rfl)
theorem g120 : Good Try.prog 120 c120 := good_of (C := C120) mx (table_ok tt_ok) (TreeOk.node (TreeOk.leaf ⟨g82, n82⟩) (TreeOk.node (TreeOk.leaf ⟨g97, n97⟩) (TreeOk.leaf ⟨g162, n162⟩))) Try.func120 q120
theorem n121 : Enters Try.prog 121 := enters_of Try.func121 (by kernel_rfl)
theorem g121 : Good Try.prog 121 c121 := good_of (C := C121) mx (table_ok tt_ok) TreeOk.nil Try.func121 q121
theorem n83 : Enters Try.prog 83 := enters_of Try.func83 (by kernel_rfl)
theorem g83 : Good Try.prog 83 c83 := good_of (C := C83) mx (table_ok tt_ok) (TreeOk.node (TreeOk.leaf ⟨g120, n120⟩) (TreeOk.leaf ⟨g121, n121⟩)) Try.func83 q83
theorem n38 : Enters Try.prog 38 := enters_of Try.func38 (by kernel_rfl)
theorem g38 : Good Try.prog 38 c38 := good_of (C := C38) mx (table_ok tt_ok) (TreeOk.node (TreeOk.leaf ⟨g82, n82⟩) (TreeOk.leaf ⟨g83, n83⟩)) Try.func38 q38
theorem n39 : Enters Try.prog 39 := enters_of Try.func39 (by kernel_rfl)
theorem g39 : Good Try.prog 39 c39 := good_of (C := C39) mx (table_ok tt_ok) (TreeOk.leaf ⟨g38, n38⟩) Try.func39 q39
theorem n11 : Enters Try.prog 11 := enters_of Try.func11 (by kernel_rfl)
theorem g11 : Good Try.prog 11 c11 := good_of (C := C11) mx (table_ok tt_ok) (TreeOk.node (TreeOk.leaf ⟨g38, n38⟩) (TreeOk.leaf ⟨g39, n39⟩)) Try.func11 q11
theorem n84 : Enters Try.prog 84 := enters_of Try.func84 (by kernel_rfl)
theorem g84 : Good Try.prog 84 c84 := good_of (C := C84) mx (table_ok tt_ok) TreeOk.nil Try.func84 q84
theorem n40 : Enters Try.prog 40 := enters_of Try.func40 (by kernel_rfl)
theorem g40 : Good Try.prog 40 c40 := good_of (C := C40) mx (table_ok tt_ok) (TreeOk.leaf ⟨g84, n84⟩) Try.func40 q40
theorem n12 : Enters Try.prog 12 := enters_of Try.func12 (by kernel_rfl)
theorem g12 : Good Try.prog 12 c12 := good_of (C := C12) mx (table_ok tt_ok) (TreeOk.leaf ⟨g40, n40⟩) Try.func12 q12
theorem n163 : Enters Try.prog 163 := enters_of Try.func163 (by kernel_rfl)
theorem g163 : Good Try.prog 163 c163 := good_of (C := C163) mx (table_ok tt_ok) TreeOk.nil Try.func163 q163
theorem n122 : Enters Try.prog 122 := enters_of Try.func122 (by kernel_rfl)
theorem g122 : Good Try.prog 122 c122 := good_of (C := C122) mx (table_ok tt_ok) (TreeOk.leaf ⟨g163, n163⟩) Try.func122 q122
theorem n85 : Enters Try.prog 85 := enters_of Try.func85 (by kernel_rfl)
theorem g85 : Good Try.prog 85 c85 := good_of (C := C85) mx (table_ok tt_ok) (TreeOk.leaf ⟨g122, n122⟩) Try.func85 q85
theorem n41 : Enters Try.prog 41 := enters_of Try.func41 (by kernel_rfl)
theorem g41 : Good Try.prog 41 c41 := good_of (C := C41) mx (table_ok tt_ok) (TreeOk.leaf ⟨g85, n85⟩) Try.func41 q41
theorem n13 : Enters Try.prog 13 := enters_of Try.func13 (by kernel_rfl)
theorem g13 : Good Try.prog 13 c13 := good_of (C := C13) mx (table_ok tt_ok) (TreeOk.leaf ⟨g41, n41⟩) Try.func13 q13
theorem n86 : Enters Try.prog 86 := enters_of Try.func86 (by kernel_rfl)
theorem g86 : Good Try.prog 86 c86 := good_of (C := C86) mx (table_ok tt_ok) TreeOk.nil Try.func86 q86
theorem n87 : Enters Try.prog 87 := enters_of Try.func87 (by kernel_rfl)
theorem g87 : Good Try.prog 87 c87 := good_of (C := C87) mx (table_ok tt_ok) TreeOk.nil Try.func87 q87
theorem n42 : Enters Try.prog 42 := enters_of Try.func42 (by kernel_rfl)
theorem g42 : Good Try.prog 42 c42 := good_of (C := C42) mx (table_ok tt_ok) (TreeOk.node (TreeOk.leaf ⟨g86, n86⟩) (TreeOk.leaf ⟨g87, n87⟩)) Try.func42 q42
theorem n14 : Enters Try.prog 14 := enters_of Try.func14 (by kernel_rfl)
theorem g14 : Good Try.prog 14 c14 := good_of (C := C14) mx (table_ok tt_ok) (TreeOk.leaf ⟨g42, n42⟩) Try.func14 q14
theorem n43 : Enters Try.prog 43 := enters_of Try.func43 (by kernel_rfl)
theorem g43 : Good Try.prog 43 c43 := good_of (C := C43) mx (table_ok tt_ok) (TreeOk.leaf ⟨g86, n86⟩) Try.func43 q43
theorem n15 : Enters Try.prog 15 := enters_of Try.func15 (by kernel_rfl)
theorem g15 : Good Try.prog 15 c15 := good_of (C := C15) mx (table_ok tt_ok) (TreeOk.leaf ⟨g43, n43⟩) Try.func15 q15
theorem n44 : Enters Try.prog 44 := enters_of Try.func44 (by kernel_rfl)
theorem g44 : Good Try.prog 44 c44 := good_of (C := C44) mx (table_ok tt_ok) (TreeOk.leaf ⟨g86, n86⟩) Try.func44 q44
theorem n16 : Enters Try.prog 16 := enters_of Try.func16 (by kernel_rfl)
theorem g16 : Good Try.prog 16 c16 := good_of (C := C16) mx (table_ok tt_ok) (TreeOk.leaf ⟨g44, n44⟩) Try.func16 q16
theorem n3 : Enters Try.prog 3 := enters_of Try.func3 (by kernel_rfl)
theorem g3 : Good Try.prog 3 c3 := good_of (C := C3) mx (table_ok tt_ok) (TreeOk.node (TreeOk.node (TreeOk.node (TreeOk.leaf ⟨g8, n8⟩) (TreeOk.leaf ⟨g9, n9⟩)) (TreeOk.node (TreeOk.leaf ⟨g10, n10⟩) (TreeOk.leaf ⟨g11, n11⟩))) (TreeOk.node (TreeOk.node (TreeOk.leaf ⟨g12, n12⟩) (TreeOk.leaf ⟨g13, n13⟩)) (TreeOk.node (TreeOk.leaf ⟨g14, n14⟩) (TreeOk.node (TreeOk.leaf ⟨g15, n15⟩) (TreeOk.leaf ⟨g16, n16⟩))))) Try.func3 q3
end Go.Proofs.Ytehcfgnpbelfnaa
