/- Each function does as its contract says. Conditions: none. -/

import Derived.Test.YtphaibffjdfhpaaTm3
import Derived.Test.YtphaibffjdfhpaaAF
namespace Go.Proofs.Ytphaibffjdfhpaa
open Go Go.Tm
set_option linter.unusedVariables false
set_option maxRecDepth 100000
theorem mx : Try.prog.follows .mixedOrders = true := by kernel_rfl
theorem n77 : Enters Try.prog 77 := enters_of Try.func77 (by kernel_rfl)
theorem g77 : Good Try.prog 77 c77 := good_of (C := C77) mx (table_ok tt_ok) TreeOk.nil Try.func77 q77
theorem n44 : Enters Try.prog 44 := enters_of Try.func44 (by kernel_rfl)
theorem g44 : Good Try.prog 44 c44 := good_of (C := C44) mx (table_ok tt_ok) (TreeOk.leaf ⟨g77, n77⟩) Try.func44 q44
theorem n29 : Enters Try.prog 29 := enters_of Try.func29 (by kernel_rfl)
theorem g29 : Good Try.prog 29 c29 := good_of (C := C29) mx (table_ok tt_ok) (TreeOk.leaf ⟨g44, n44⟩) Try.func29 q29
theorem n9 : Enters Try.prog 9 := enters_of Try.func9 (by kernel_rfl)
theorem g9 : Good Try.prog 9 c9 := good_of (C := C9) mx (table_ok tt_ok) (TreeOk.leaf ⟨g29, n29⟩) Try.func9 q9
theorem n10 : Enters Try.prog 10 := enters_of Try.func10 (by kernel_rfl)
theorem g10 : Good Try.prog 10 c10 := good_of (C := C10) mx (table_ok tt_ok) TreeOk.nil Try.func10 q10
theorem n78 : Enters Try.prog 78 := enters_of Try.func78 (by kernel_rfl)
theorem g78 : Good Try.prog 78 c78 := good_of (C := C78) mx (table_ok tt_ok) TreeOk.nil Try.func78 q78
theorem n45 : Enters Try.prog 45 := enters_of Try.func45 (by kernel_rfl)
theorem g45 : Good Try.prog 45 c45 := good_of (C := C45) mx (table_ok tt_ok) (TreeOk.leaf ⟨g78, n78⟩) Try.func45 q45
theorem n46 : Enters Try.prog 46 := enters_of Try.func46 (by kernel_rfl)
theorem g46 : Good Try.prog 46 c46 := good_of (C := C46) mx (table_ok tt_ok) (TreeOk.leaf ⟨g10, n10⟩) Try.func46 q46
theorem n50 : Enters Try.prog 50 := enters_of Try.func50 (by kernel_rfl)
theorem g50 : Good Try.prog 50 c50 := good_of (C := C50) mx (table_ok tt_ok) TreeOk.nil Try.func50 q50
theorem n47 : Enters Try.prog 47 := enters_of Try.func47 (by kernel_rfl)
theorem g47 : Good Try.prog 47 c47 := good_of (C := C47) mx (table_ok tt_ok) (TreeOk.node (TreeOk.leaf ⟨g10, n10⟩) (TreeOk.leaf ⟨g50, n50⟩)) Try.func47 q47
theorem n79 : Enters Try.prog 79 := enters_of Try.func79 (by kernel_rfl)
theorem g79 : Good Try.prog 79 c79 := good_of (C := C79) mx (table_ok tt_ok) TreeOk.nil Try.func79 q79
theorem n51 : Enters Try.prog 51 := enters_of Try.func51 (by kernel_rfl)
theorem g51 : Good Try.prog 51 c51 := good_of (C := C51) mx (table_ok tt_ok) (TreeOk.leaf ⟨g79, n79⟩) Try.func51 q51
theorem n31 : Enters Try.prog 31 := enters_of Try.func31 (by kernel_rfl)
theorem g31 : Good Try.prog 31 c31 := good_of (C := C31) mx (table_ok tt_ok) (TreeOk.node (TreeOk.node (TreeOk.leaf ⟨g45, n45⟩) (TreeOk.leaf ⟨g46, n46⟩)) (TreeOk.node (TreeOk.leaf ⟨g47, n47⟩) (TreeOk.leaf ⟨g51, n51⟩))) Try.func31 q31
theorem n12 : Enters Try.prog 12 := enters_of Try.func12 (by kernel_rfl)
theorem g12 : Good Try.prog 12 c12 := good_of (C := C12) mx (table_ok tt_ok) (TreeOk.leaf ⟨g31, n31⟩) Try.func12 q12
theorem n53 : Enters Try.prog 53 := enters_of Try.func53 (by kernel_rfl)
theorem g53 : Good Try.prog 53 c53 := good_of (C := C53) mx (table_ok tt_ok) TreeOk.nil Try.func53 q53
theorem n48 : Enters Try.prog 48 := enters_of Try.func48 (by kernel_rfl)
theorem g48 : Good Try.prog 48 c48 := good_of (C := C48) mx (table_ok tt_ok) (TreeOk.leaf ⟨g53, n53⟩) Try.func48 q48
theorem n54 : Enters Try.prog 54 := enters_of Try.func54 (by kernel_rfl)
theorem g54 : Good Try.prog 54 c54 := good_of (C := C54) mx (table_ok tt_ok) TreeOk.nil Try.func54 q54
theorem n49 : Enters Try.prog 49 := enters_of Try.func49 (by kernel_rfl)
theorem g49 : Good Try.prog 49 c49 := good_of (C := C49) mx (table_ok tt_ok) (TreeOk.leaf ⟨g54, n54⟩) Try.func49 q49
theorem n80 : Enters Try.prog 80 := enters_of Try.func80 (by kernel_rfl)
theorem g80 : Good Try.prog 80 c80 := good_of (C := C80) mx (table_ok tt_ok) (TreeOk.node (TreeOk.leaf ⟨g12, n12⟩) (TreeOk.leaf ⟨g46, n46⟩)) Try.func80 q80
theorem n52 : Enters Try.prog 52 := enters_of Try.func52 (by kernel_rfl)
theorem g52 : Good Try.prog 52 c52 := good_of (C := C52) mx (table_ok tt_ok) (TreeOk.leaf ⟨g80, n80⟩) Try.func52 q52
theorem n30 : Enters Try.prog 30 := enters_of Try.func30 (by kernel_rfl)
theorem g30 : Good Try.prog 30 c30 := good_of (C := C30) mx (table_ok tt_ok) (TreeOk.node (TreeOk.node (TreeOk.node (TreeOk.leaf ⟨g9, n9⟩) (TreeOk.leaf ⟨g12, n12⟩)) (TreeOk.node (TreeOk.leaf ⟨g45, n45⟩) (TreeOk.node (TreeOk.leaf ⟨g46, n46⟩) (TreeOk.leaf ⟨g47, n47⟩)))) (TreeOk.node (TreeOk.node (TreeOk.leaf ⟨g48, n48⟩) (TreeOk.leaf ⟨g49, n49⟩)) (TreeOk.node (TreeOk.leaf ⟨g50, n50⟩) (TreeOk.node (TreeOk.leaf ⟨g51, n51⟩) (TreeOk.leaf ⟨g52, n52⟩))))) Try.func30 q30
theorem n11 : Enters Try.prog 11 := enters_of Try.func11 (by kernel_rfl)
theorem g11 : Good Try.prog 11 c11 := good_of (C := C11) mx (table_ok tt_ok) (TreeOk.leaf ⟨g30, n30⟩) Try.func11 q11
theorem n32 : Enters Try.prog 32 := enters_of Try.func32 (by kernel_rfl)
theorem g32 : Good Try.prog 32 c32 := good_of (C := C32) mx (table_ok tt_ok) TreeOk.nil Try.func32 q32
theorem n13 : Enters Try.prog 13 := enters_of Try.func13 (by kernel_rfl)
theorem g13 : Good Try.prog 13 c13 := good_of (C := C13) mx (table_ok tt_ok) (TreeOk.leaf ⟨g32, n32⟩) Try.func13 q13
theorem n33 : Enters Try.prog 33 := enters_of Try.func33 (by kernel_rfl)
theorem g33 : Good Try.prog 33 c33 := good_of (C := C33) mx (table_ok tt_ok) (TreeOk.node (TreeOk.node (TreeOk.leaf ⟨g12, n12⟩) (TreeOk.leaf ⟨g46, n46⟩)) (TreeOk.node (TreeOk.leaf ⟨g47, n47⟩) (TreeOk.node (TreeOk.leaf ⟨g53, n53⟩) (TreeOk.leaf ⟨g54, n54⟩)))) Try.func33 q33
theorem n14 : Enters Try.prog 14 := enters_of Try.func14 (by kernel_rfl)
theorem g14 : Good Try.prog 14 c14 := good_of (C := C14) mx (table_ok tt_ok) (TreeOk.leaf ⟨g33, n33⟩) Try.func14 q14
theorem n4 : Enters Try.prog 4 := enters_of Try.func4 (by kernel_rfl)
theorem g4 : Good Try.prog 4 c4 := good_of (C := C4) mx (table_ok tt_ok) (TreeOk.node (TreeOk.node (TreeOk.leaf ⟨g9, n9⟩) (TreeOk.node (TreeOk.leaf ⟨g10, n10⟩) (TreeOk.leaf ⟨g11, n11⟩))) (TreeOk.node (TreeOk.leaf ⟨g12, n12⟩) (TreeOk.node (TreeOk.leaf ⟨g13, n13⟩) (TreeOk.leaf ⟨g14, n14⟩)))) Try.func4 q4
theorem n89 : Enters Try.prog 89 := enters_of Try.func89 (by kernel_rfl)
theorem g89 : Good Try.prog 89 c89 := good_of (C := C89) mx (table_ok tt_ok) TreeOk.nil Try.func89 q89
theorem n81 : Enters Try.prog 81 := enters_of Try.func81 (by kernel_rfl)
theorem g81 : Good Try.prog 81 c81 := good_of (C := C81) mx (table_ok tt_ok) (TreeOk.leaf ⟨g89, n89⟩) Try.func81 q81
theorem n55 : Enters Try.prog 55 := enters_of Try.func55 (by kernel_rfl)
theorem g55 : Good Try.prog 55 c55 := good_of (C := C55) mx (table_ok tt_ok) (TreeOk.leaf ⟨g81, n81⟩) Try.func55 q55
theorem n34 : Enters Try.prog 34 := enters_of Try.func34 (by kernel_rfl)
theorem g34 : Good Try.prog 34 c34 := good_of (C := C34) mx (table_ok tt_ok) (TreeOk.leaf ⟨g55, n55⟩) Try.func34 q34
theorem n16 : Enters Try.prog 16 := enters_of Try.func16 (by kernel_rfl)
theorem g16 : Good Try.prog 16 c16 := good_of (C := C16) mx (table_ok tt_ok) (TreeOk.leaf ⟨g34, n34⟩) Try.func16 q16
theorem n17 : Enters Try.prog 17 := enters_of Try.func17 (by kernel_rfl)
theorem g17 : Good Try.prog 17 c17 := good_of (C := C17) mx (table_ok tt_ok) TreeOk.nil Try.func17 q17
theorem n82 : Enters Try.prog 82 := enters_of Try.func82 (by kernel_rfl)
theorem g82 : Good Try.prog 82 c82 := good_of (C := C82) mx (table_ok tt_ok) TreeOk.nil Try.func82 q82
theorem n56 : Enters Try.prog 56 := enters_of Try.func56 (by kernel_rfl)
theorem g56 : Good Try.prog 56 c56 := good_of (C := C56) mx (table_ok tt_ok) (TreeOk.leaf ⟨g82, n82⟩) Try.func56 q56
theorem n57 : Enters Try.prog 57 := enters_of Try.func57 (by kernel_rfl)
theorem g57 : Good Try.prog 57 c57 := good_of (C := C57) mx (table_ok tt_ok) (TreeOk.leaf ⟨g17, n17⟩) Try.func57 q57
theorem n61 : Enters Try.prog 61 := enters_of Try.func61 (by kernel_rfl)
theorem g61 : Good Try.prog 61 c61 := good_of (C := C61) mx (table_ok tt_ok) TreeOk.nil Try.func61 q61
theorem n58 : Enters Try.prog 58 := enters_of Try.func58 (by kernel_rfl)
theorem g58 : Good Try.prog 58 c58 := good_of (C := C58) mx (table_ok tt_ok) (TreeOk.node (TreeOk.leaf ⟨g17, n17⟩) (TreeOk.leaf ⟨g61, n61⟩)) Try.func58 q58
theorem n83 : Enters Try.prog 83 := enters_of Try.func83 (by kernel_rfl)
theorem g83 : Good Try.prog 83 c83 := good_of (C := C83) mx (table_ok tt_ok) TreeOk.nil Try.func83 q83
theorem n62 : Enters Try.prog 62 := enters_of Try.func62 (by kernel_rfl)
theorem g62 : Good Try.prog 62 c62 := good_of (C := C62) mx (table_ok tt_ok) (TreeOk.leaf ⟨g83, n83⟩) Try.func62 q62
theorem n36 : Enters Try.prog 36 := enters_of Try.func36 (by kernel_rfl)
theorem g36 : Good Try.prog 36 c36 := good_of (C := C36) mx (table_ok tt_ok) (TreeOk.node (TreeOk.node (TreeOk.leaf ⟨g56, n56⟩) (TreeOk.leaf ⟨g57, n57⟩)) (TreeOk.node (TreeOk.leaf ⟨g58, n58⟩) (TreeOk.leaf ⟨g62, n62⟩))) Try.func36 q36
theorem n19 : Enters Try.prog 19 := enters_of Try.func19 (by kernel_rfl)
theorem g19 : Good Try.prog 19 c19 := good_of (C := C19) mx (table_ok tt_ok) (TreeOk.leaf ⟨g36, n36⟩) Try.func19 q19
theorem n64 : Enters Try.prog 64 := enters_of Try.func64 (by kernel_rfl)
theorem g64 : Good Try.prog 64 c64 := good_of (C := C64) mx (table_ok tt_ok) TreeOk.nil Try.func64 q64
theorem n59 : Enters Try.prog 59 := enters_of Try.func59 (by kernel_rfl)
theorem g59 : Good Try.prog 59 c59 := good_of (C := C59) mx (table_ok tt_ok) (TreeOk.leaf ⟨g64, n64⟩) Try.func59 q59
theorem n65 : Enters Try.prog 65 := enters_of Try.func65 (by kernel_rfl)
theorem g65 : Good Try.prog 65 c65 := good_of (C := C65) mx (table_ok tt_ok) TreeOk.nil Try.func65 q65
theorem n60 : Enters Try.prog 60 := enters_of Try.func60 (by kernel_rfl)
theorem g60 : Good Try.prog 60 c60 := good_of (C := C60) mx (table_ok tt_ok) (TreeOk.leaf ⟨g65, n65⟩) Try.func60 q60
theorem n84 : Enters Try.prog 84 := enters_of Try.func84 (by kernel_rfl)
theorem g84 : Good Try.prog 84 c84 := good_of (C := C84) mx (table_ok tt_ok) (TreeOk.node (TreeOk.leaf ⟨g19, n19⟩) (TreeOk.leaf ⟨g57, n57⟩)) Try.func84 q84
theorem n63 : Enters Try.prog 63 := enters_of Try.func63 (by kernel_rfl)
theorem g63 : Good Try.prog 63 c63 := good_of (C := C63) mx (table_ok tt_ok) (TreeOk.leaf ⟨g84, n84⟩) Try.func63 q63
theorem n35 : Enters Try.prog 35 := enters_of Try.func35 (by kernel_rfl)
theorem g35 : Good Try.prog 35 c35 := good_of (C := C35) mx (table_ok tt_ok) (TreeOk.node (TreeOk.node (TreeOk.node (TreeOk.leaf ⟨g16, n16⟩) (TreeOk.leaf ⟨g19, n19⟩)) (TreeOk.node (TreeOk.leaf ⟨g56, n56⟩) (TreeOk.node (TreeOk.leaf ⟨g57, n57⟩) (TreeOk.leaf ⟨g58, n58⟩)))) (TreeOk.node (TreeOk.node (TreeOk.leaf ⟨g59, n59⟩) (TreeOk.leaf ⟨g60, n60⟩)) (TreeOk.node (TreeOk.leaf ⟨g61, n61⟩) (TreeOk.node (TreeOk.leaf ⟨g62, n62⟩) (TreeOk.leaf ⟨g63, n63⟩))))) Try.func35 q35
theorem n18 : Enters Try.prog 18 := enters_of Try.func18 (by kernel_rfl)
theorem g18 : Good Try.prog 18 c18 := good_of (C := C18) mx (table_ok tt_ok) (TreeOk.leaf ⟨g35, n35⟩) Try.func18 q18
theorem n37 : Enters Try.prog 37 := enters_of Try.func37 (by kernel_rfl)
theorem g37 : Good Try.prog 37 c37 := good_of (C := C37) mx (table_ok tt_ok) TreeOk.nil Try.func37 q37
theorem n20 : Enters Try.prog 20 := enters_of Try.func20 (by kernel_rfl)
theorem g20 : Good Try.prog 20 c20 := good_of (C := C20) mx (table_ok tt_ok) (TreeOk.leaf ⟨g37, n37⟩) Try.func20 q20
theorem n38 : Enters Try.prog 38 := enters_of Try.func38 (by kernel_rfl)
theorem g38 : Good Try.prog 38 c38 := good_of (C := C38) mx (table_ok tt_ok) (TreeOk.node (TreeOk.node (TreeOk.leaf ⟨g19, n19⟩) (TreeOk.leaf ⟨g57, n57⟩)) (TreeOk.node (TreeOk.leaf ⟨g58, n58⟩) (TreeOk.node (TreeOk.leaf ⟨g64, n64⟩) (TreeOk.leaf ⟨g65, n65⟩)))) Try.func38 q38
theorem n21 : Enters Try.prog 21 := enters_of Try.func21 (by kernel_rfl)
theorem g21 : Good Try.prog 21 c21 := good_of (C := C21) mx (table_ok tt_ok) (TreeOk.leaf ⟨g38, n38⟩) Try.func21 q21
theorem n6 : Enters Try.prog 6 := enters_of Try.func6 (by kernel_rfl)
theorem g6 : Good Try.prog 6 c6 := good_of (C := C6) mx (table_ok tt_ok) (TreeOk.node (TreeOk.node (TreeOk.leaf ⟨g16, n16⟩) (TreeOk.node (TreeOk.leaf ⟨g17, n17⟩) (TreeOk.leaf ⟨g18, n18⟩))) (TreeOk.node (TreeOk.leaf ⟨g19, n19⟩) (TreeOk.node (TreeOk.leaf ⟨g20, n20⟩) (TreeOk.leaf ⟨g21, n21⟩)))) Try.func6 q6
theorem n15 : Enters Try.prog 15 := enters_of Try.func15 (by kernel_rfl)
theorem g15 : Good Try.prog 15 c15 := good_of (C := C15) mx (table_ok tt_ok) TreeOk.nil Try.func15 q15
theorem n5 : Enters Try.prog 5 := enters_of Try.func5 (by kernel_rfl)
theorem g5 : Good Try.prog 5 c5 := good_of (C := C5) mx (table_ok tt_ok) (TreeOk.leaf ⟨g15, n15⟩) Try.func5 q5
theorem n22 : Enters Try.prog 22 := enters_of Try.func22 (by kernel_rfl)
theorem g22 : Good Try.prog 22 c22 := good_of (C := C22) mx (table_ok tt_ok) TreeOk.nil Try.func22 q22
theorem n7 : Enters Try.prog 7 := enters_of Try.func7 (by kernel_rfl)
theorem g7 : Good Try.prog 7 c7 := good_of (C := C7) mx (table_ok tt_ok) (TreeOk.leaf ⟨g22, n22⟩) Try.func7 q7
theorem n90 : Enters Try.prog 90 := enters_of Try.func90 (by kernel_rfl)
theorem g90 : Good Try.prog 90 c90 := good_of (C := C90) mx (table_ok tt_ok) TreeOk.nil Try.func90 q90
theorem n85 : Enters Try.prog 85 := enters_of Try.func85 (by kernel_rfl)
theorem g85 : Good Try.prog 85 c85 := good_of (C := C85) mx (table_ok tt_ok) (TreeOk.leaf ⟨g90, n90⟩) Try.func85 q85
theorem n66 : Enters Try.prog 66 := enters_of Try.func66 (by kernel_rfl)
theorem g66 : Good Try.prog 66 c66 := good_of (C := C66) mx (table_ok tt_ok) (TreeOk.leaf ⟨g85, n85⟩) Try.func66 q66
theorem n39 : Enters Try.prog 39 := enters_of Try.func39 (by kernel_rfl)
theorem g39 : Good Try.prog 39 c39 := good_of (C := C39) mx (table_ok tt_ok) (TreeOk.leaf ⟨g66, n66⟩) Try.func39 q39
theorem n23 : Enters Try.prog 23 := enters_of Try.func23 (by kernel_rfl)
theorem g23 : Good Try.prog 23 c23 := good_of (C := C23) mx (table_ok tt_ok) (TreeOk.leaf ⟨g39, n39⟩) Try.func23 q23
theorem n24 : Enters Try.prog 24 := enters_of Try.func24 (by kernel_rfl)
theorem g24 : Good Try.prog 24 c24 := good_of (C := C24) mx (table_ok tt_ok) TreeOk.nil Try.func24 q24
theorem n86 : Enters Try.prog 86 := enters_of Try.func86 (by kernel_rfl)
theorem g86 : Good Try.prog 86 c86 := good_of (C := C86) mx (table_ok tt_ok) TreeOk.nil Try.func86 q86
theorem n67 : Enters Try.prog 67 := enters_of Try.func67 (by kernel_rfl)
theorem g67 : Good Try.prog 67 c67 := good_of (C := C67) mx (table_ok tt_ok) (TreeOk.leaf ⟨g86, n86⟩) Try.func67 q67
theorem n68 : Enters Try.prog 68 := enters_of Try.func68 (by kernel_rfl)
theorem g68 : Good Try.prog 68 c68 := good_of (C := C68) mx (table_ok tt_ok) (TreeOk.leaf ⟨g24, n24⟩) Try.func68 q68
theorem n72 : Enters Try.prog 72 := enters_of Try.func72 (by kernel_rfl)
theorem g72 : Good Try.prog 72 c72 := good_of (C := C72) mx (table_ok tt_ok) TreeOk.nil Try.func72 q72
theorem n69 : Enters Try.prog 69 := enters_of Try.func69 (by kernel_rfl)
theorem g69 : Good Try.prog 69 c69 := good_of (C := C69) mx (table_ok tt_ok) (TreeOk.node (TreeOk.leaf ⟨g24, n24⟩) (TreeOk.leaf ⟨g72, n72⟩)) Try.func69 q69
theorem n87 : Enters Try.prog 87 := enters_of Try.func87 (by kernel_rfl)
theorem g87 : Good Try.prog 87 c87 := good_of (C := C87) mx (table_ok tt_ok) TreeOk.nil Try.func87 q87
theorem n73 : Enters Try.prog 73 := enters_of Try.func73 (by kernel_rfl)
theorem g73 : Good Try.prog 73 c73 := good_of (C := C73) mx (table_ok tt_ok) (TreeOk.leaf ⟨g87, n87⟩) Try.func73 q73
theorem n41 : Enters Try.prog 41 := enters_of Try.func41 (by kernel_rfl)
theorem g41 : Good Try.prog 41 c41 := good_of (C := C41) mx (table_ok tt_ok) (TreeOk.node (TreeOk.node (TreeOk.leaf ⟨g67, n67⟩) (TreeOk.leaf ⟨g68, n68⟩)) (TreeOk.node (TreeOk.leaf ⟨g69, n69⟩) (TreeOk.leaf ⟨g73, n73⟩))) Try.func41 q41
theorem n26 : Enters Try.prog 26 := enters_of Try.func26 (by kernel_rfl)
theorem g26 : Good Try.prog 26 c26 := good_of (C := C26) mx (table_ok tt_ok) (TreeOk.leaf ⟨g41, n41⟩) Try.func26 q26
theorem n75 : Enters Try.prog 75 := enters_of Try.func75 (by kernel_rfl)
theorem g75 : Good Try.prog 75 c75 := good_of (C := C75) mx (table_ok tt_ok) TreeOk.nil Try.func75 q75
theorem n70 : Enters Try.prog 70 := enters_of Try.func70 (by kernel_rfl)
theorem g70 : Good Try.prog 70 c70 := good_of (C := C70) mx (table_ok tt_ok) (TreeOk.leaf ⟨g75, n75⟩) Try.func70 q70
theorem n76 : Enters Try.prog 76 := enters_of Try.func76 (by kernel_rfl)
theorem g76 : Good Try.prog 76 c76 := good_of (C := C76) mx (table_ok tt_ok) TreeOk.nil Try.func76 q76
theorem n71 : Enters Try.prog 71 := enters_of Try.func71 (by kernel_rfl)
theorem g71 : Good Try.prog 71 c71 := good_of (C := C71) mx (table_ok tt_ok) (TreeOk.leaf ⟨g76, n76⟩) Try.func71 q71
theorem n88 : Enters Try.prog 88 := enters_of Try.func88 (by kernel_rfl)
theorem g88 : Good Try.prog 88 c88 := good_of (C := C88) mx (table_ok tt_ok) (TreeOk.node (TreeOk.leaf ⟨g26, n26⟩) (TreeOk.leaf ⟨g68, n68⟩)) Try.func88 q88
theorem n74 : Enters Try.prog 74 := enters_of Try.func74 (by kernel_rfl)
theorem g74 : Good Try.prog 74 c74 := good_of (C := C74) mx (table_ok tt_ok) (TreeOk.leaf ⟨g88, n88⟩) Try.func74 q74
theorem n40 : Enters Try.prog 40 := enters_of Try.func40 (by kernel_rfl)
theorem g40 : Good Try.prog 40 c40 := good_of (C := C40) mx (table_ok tt_ok) (TreeOk.node (TreeOk.node (TreeOk.node (TreeOk.leaf ⟨g23, n23⟩) (TreeOk.leaf ⟨g26, n26⟩)) (TreeOk.node (TreeOk.leaf ⟨g67, n67⟩) (TreeOk.node (TreeOk.leaf ⟨g68, n68⟩) (TreeOk.leaf ⟨g69, n69⟩)))) (TreeOk.node (TreeOk.node (TreeOk.leaf ⟨g70, n70⟩) (TreeOk.leaf ⟨g71, n71⟩)) (TreeOk.node (TreeOk.leaf ⟨g72, n72⟩) (TreeOk.node (TreeOk.leaf ⟨g73, n73⟩) (TreeOk.leaf ⟨g74, n74⟩))))) Try.func40 q40
theorem n25 : Enters Try.prog 25 := enters_of Try.func25 (by kernel_rfl)
theorem g25 : Good Try.prog 25 c25 := good_of (C := C25) mx (table_ok tt_ok) (TreeOk.leaf ⟨g40, n40⟩) Try.func25 q25
theorem n42 : Enters Try.prog 42 := enters_of Try.func42 (by kernel_rfl)
theorem g42 : Good Try.prog 42 c42 := good_of (C := C42) mx (table_ok tt_ok) TreeOk.nil Try.func42 q42
theorem n27 : Enters Try.prog 27 := enters_of Try.func27 (by kernel_rfl)
theorem g27 : Good Try.prog 27 c27 := good_of (C := C27) mx (table_ok tt_ok) (TreeOk.leaf ⟨g42, n42⟩) Try.func27 q27
theorem n43 : Enters Try.prog 43 := enters_of Try.func43 (by kernel_rfl)
theorem g43 : Good Try.prog 43 c43 := good_of (C := C43) mx (table_ok tt_ok) (TreeOk.node (TreeOk.node (TreeOk.leaf ⟨g26, n26⟩) (TreeOk.leaf ⟨g68, n68⟩)) (TreeOk.node (TreeOk.leaf ⟨g69, n69⟩) (TreeOk.node (TreeOk.leaf ⟨g75, n75⟩) (TreeOk.leaf ⟨g76, n76⟩)))) Try.func43 q43
theorem n28 : Enters Try.prog 28 := enters_of Try.func28 (by kernel_rfl)
theorem g28 : Good Try.prog 28 c28 := good_of (C := C28) mx (table_ok tt_ok) (TreeOk.leaf ⟨g43, n43⟩) Try.func28 q28
theorem n8 : Enters Try.prog 8 := enters_of Try.func8 (by kernel_rfl)
theorem g8 : Good Try.prog 8 c8 := good_of (C := C8) mx (table_ok tt_ok) (TreeOk.node (TreeOk.node (TreeOk.leaf ⟨g23, n23⟩) (TreeOk.node (TreeOk.leaf ⟨g24, n24⟩) (TreeOk.leaf ⟨g25, n25⟩))) (TreeOk.node (TreeOk.leaf ⟨g26, n26⟩) (TreeOk.node (TreeOk.leaf ⟨g27, n27⟩) (TreeOk.leaf ⟨g28, n28⟩)))) Try.func8 q8
theorem n3 : Enters Try.prog 3 := enters_of Try.func3 (by kernel_rfl)
theorem g3 : Good Try.prog 3 c3 := good_of (C := C3) mx (table_ok tt_ok) (TreeOk.node (TreeOk.node (TreeOk.leaf ⟨g4, n4⟩) (TreeOk.leaf ⟨g5, n5⟩)) (TreeOk.node (TreeOk.leaf ⟨g6, n6⟩) (TreeOk.node (TreeOk.leaf ⟨g7, n7⟩) (TreeOk.leaf ⟨g8, n8⟩)))) Try.func3 q3
end Go.Proofs.Ytphaibffjdfhpaa
