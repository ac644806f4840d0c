/- Each function does as its contract says. Conditions: none. -/

import Derived.Test.YtodcmpnbcgobkacGreatTm4
import Derived.Test.YtodcmpnbcgobkacGreatRbF
namespace Go.Proofs.YtodcmpnbcgobkacGreat
open Go Go.Tm
set_option linter.unusedVariables false
set_option maxRecDepth 100000
theorem mx : Tryz.prog.follows .mixedOrders = true := by kernel_rfl
theorem n156 : Enters Tryz.prog 156 := enters_of Tryz.func156 (by kernel_rfl)
theorem g156 : Good Tryz.prog 156 c156 := good_of (C := C156) mx (table_ok tt_ok) TreeOk.nil Tryz.func156 q156
theorem n126 : Enters Tryz.prog 126 := enters_of Tryz.func126 (by kernel_rfl)
theorem g126 : Good Tryz.prog 126 c126 := good_of (C := C126) mx (table_ok tt_ok) (TreeOk.leaf ⟨g156, n156⟩) Tryz.func126 q126
theorem n66 : Enters Tryz.prog 66 := enters_of Tryz.func66 (by kernel_rfl)
theorem g66 : Good Tryz.prog 66 c66 := good_of (C := C66) mx (table_ok tt_ok) (TreeOk.leaf ⟨g126, n126⟩) Tryz.func66 q66
theorem n11 : Enters Tryz.prog 11 := enters_of Tryz.func11 (by kernel_rfl)
theorem g11 : Good Tryz.prog 11 c11 := good_of (C := C11) mx (table_ok tt_ok) (TreeOk.leaf ⟨g66, n66⟩) Tryz.func11 q11
theorem n67 : Enters Tryz.prog 67 := enters_of Tryz.func67 (by kernel_rfl)
theorem g67 : Good Tryz.prog 67 c67 := good_of (C := C67) mx (table_ok tt_ok) TreeOk.nil Tryz.func67 q67
theorem n12 : Enters Tryz.prog 12 := enters_of Tryz.func12 (by kernel_rfl)
theorem g12 : Good Tryz.prog 12 c12 := good_of (C := C12) mx (table_ok tt_ok) (TreeOk.leaf ⟨g67, n67⟩) Tryz.func12 q12
theorem n69 : Enters Tryz.prog 69 := enters_of Tryz.func69 (by kernel_rfl)
theorem g69 : Good Tryz.prog 69 c69 := good_of (C := C69) mx (table_ok tt_ok) TreeOk.nil Tryz.func69 q69
theorem n14 : Enters Tryz.prog 14 := enters_of Tryz.func14 (by kernel_rfl)
theorem g14 : Good Tryz.prog 14 c14 := good_of (C := C14) mx (table_ok tt_ok) (TreeOk.leaf ⟨g69, n69⟩) Tryz.func14 q14
theorem n18 : Enters Tryz.prog 18 := enters_of Tryz.func18 (by kernel_rfl)
theorem g18 : Good Tryz.prog 18 c18 := good_of (C := C18) mx (table_ok tt_ok) TreeOk.nil Tryz.func18 q18
theorem n15 : Enters Tryz.prog 15 := enters_of Tryz.func15 (by kernel_rfl)
theorem g15 : Good Tryz.prog 15 c15 := good_of (C := C15) mx (table_ok tt_ok) (TreeOk.node (TreeOk.leaf ⟨g18, n18⟩) (TreeOk.leaf ⟨g69, n69⟩)) Tryz.func15 q15
theorem n72 : Enters Tryz.prog 72 := enters_of Tryz.func72 (by kernel_rfl)
theorem g72 : Good Tryz.prog 72 c72 := good_of (C := C72) mx (table_ok tt_ok) TreeOk.nil Tryz.func72 q72
theorem n19 : Enters Tryz.prog 19 := enters_of Tryz.func19 (by kernel_rfl)
theorem g19 : Good Tryz.prog 19 c19 := good_of (C := C19) mx (table_ok tt_ok) (TreeOk.leaf ⟨g72, n72⟩) Tryz.func19 q19
theorem n68 : Enters Tryz.prog 68 := enters_of Tryz.func68 (by kernel_rfl)
theorem g68 : Good Tryz.prog 68 c68 := good_of (C := C68) mx (table_ok tt_ok) (TreeOk.node (TreeOk.node (TreeOk.leaf ⟨g12, n12⟩) (TreeOk.leaf ⟨g14, n14⟩)) (TreeOk.node (TreeOk.leaf ⟨g15, n15⟩) (TreeOk.leaf ⟨g19, n19⟩))) Tryz.func68 q68
theorem n13 : Enters Tryz.prog 13 := enters_of Tryz.func13 (by kernel_rfl)
theorem g13 : Good Tryz.prog 13 c13 := good_of (C := C13) mx (table_ok tt_ok) (TreeOk.leaf ⟨g68, n68⟩) Tryz.func13 q13
theorem n70 : Enters Tryz.prog 70 := enters_of Tryz.func70 (by kernel_rfl)
theorem g70 : Good Tryz.prog 70 c70 := good_of (C := C70) mx (table_ok tt_ok) TreeOk.nil Tryz.func70 q70
theorem n16 : Enters Tryz.prog 16 := enters_of Tryz.func16 (by kernel_rfl)
theorem g16 : Good Tryz.prog 16 c16 := good_of (C := C16) mx (table_ok tt_ok) (TreeOk.leaf ⟨g70, n70⟩) Tryz.func16 q16
theorem n71 : Enters Tryz.prog 71 := enters_of Tryz.func71 (by kernel_rfl)
theorem g71 : Good Tryz.prog 71 c71 := good_of (C := C71) mx (table_ok tt_ok) TreeOk.nil Tryz.func71 q71
theorem n17 : Enters Tryz.prog 17 := enters_of Tryz.func17 (by kernel_rfl)
theorem g17 : Good Tryz.prog 17 c17 := good_of (C := C17) mx (table_ok tt_ok) (TreeOk.leaf ⟨g71, n71⟩) Tryz.func17 q17
theorem n73 : Enters Tryz.prog 73 := enters_of Tryz.func73 (by kernel_rfl)
theorem g73 : Good Tryz.prog 73 c73 := good_of (C := C73) mx (table_ok tt_ok) (TreeOk.node (TreeOk.leaf ⟨g13, n13⟩) (TreeOk.leaf ⟨g14, n14⟩)) Tryz.func73 q73
theorem n20 : Enters Tryz.prog 20 := enters_of Tryz.func20 (by kernel_rfl)
theorem g20 : Good Tryz.prog 20 c20 := good_of (C := C20) mx (table_ok tt_ok) (TreeOk.leaf ⟨g73, n73⟩) Tryz.func20 q20
theorem n4 : Enters Tryz.prog 4 := enters_of Tryz.func4 (by kernel_rfl)
theorem g4 : Good Tryz.prog 4 c4 := good_of (C := C4) mx (table_ok tt_ok) (TreeOk.node (TreeOk.node (TreeOk.node (TreeOk.leaf ⟨g11, n11⟩) (TreeOk.leaf ⟨g12, n12⟩)) (TreeOk.node (TreeOk.leaf ⟨g13, n13⟩) (TreeOk.node (TreeOk.leaf ⟨g14, n14⟩) (TreeOk.leaf ⟨g15, n15⟩)))) (TreeOk.node (TreeOk.node (TreeOk.leaf ⟨g16, n16⟩) (TreeOk.leaf ⟨g17, n17⟩)) (TreeOk.node (TreeOk.leaf ⟨g18, n18⟩) (TreeOk.node (TreeOk.leaf ⟨g19, n19⟩) (TreeOk.leaf ⟨g20, n20⟩))))) Tryz.func4 q4
theorem n180 : Enters Tryz.prog 180 := enters_of Tryz.func180 (by kernel_rfl)
theorem g180 : Good Tryz.prog 180 c180 := good_of (C := C180) mx (table_ok tt_ok) TreeOk.nil Tryz.func180 q180
theorem n165 : Enters Tryz.prog 165 := enters_of Tryz.func165 (by kernel_rfl)
theorem g165 : Good Tryz.prog 165 c165 := good_of (C := C165) mx (table_ok tt_ok) (TreeOk.leaf ⟨g180, n180⟩) Tryz.func165 q165
theorem n138 : Enters Tryz.prog 138 := enters_of Tryz.func138 (by kernel_rfl)
theorem g138 : Good Tryz.prog 138 c138 := good_of (C := C138) mx (table_ok tt_ok) (TreeOk.leaf ⟨g165, n165⟩) Tryz.func138 q138
theorem n87 : Enters Tryz.prog 87 := enters_of Tryz.func87 (by kernel_rfl)
theorem g87 : Good Tryz.prog 87 c87 := good_of (C := C87) mx (table_ok tt_ok) (TreeOk.leaf ⟨g138, n138⟩) Tryz.func87 q87
theorem n24 : Enters Tryz.prog 24 := enters_of Tryz.func24 (by kernel_rfl)
theorem g24 : Good Tryz.prog 24 c24 := good_of (C := C24) mx (table_ok tt_ok) (TreeOk.leaf ⟨g87, n87⟩) Tryz.func24 q24
theorem n88 : Enters Tryz.prog 88 := enters_of Tryz.func88 (by kernel_rfl)
theorem g88 : Good Tryz.prog 88 c88 := good_of (C := C88) mx (table_ok tt_ok) TreeOk.nil Tryz.func88 q88
theorem n25 : Enters Tryz.prog 25 := enters_of Tryz.func25 (by kernel_rfl)
theorem g25 : Good Tryz.prog 25 c25 := good_of (C := C25) mx (table_ok tt_ok) (TreeOk.leaf ⟨g88, n88⟩) Tryz.func25 q25
theorem n90 : Enters Tryz.prog 90 := enters_of Tryz.func90 (by kernel_rfl)
theorem g90 : Good Tryz.prog 90 c90 := good_of (C := C90) mx (table_ok tt_ok) TreeOk.nil Tryz.func90 q90
theorem n27 : Enters Tryz.prog 27 := enters_of Tryz.func27 (by kernel_rfl)
theorem g27 : Good Tryz.prog 27 c27 := good_of (C := C27) mx (table_ok tt_ok) (TreeOk.leaf ⟨g90, n90⟩) Tryz.func27 q27
theorem n31 : Enters Tryz.prog 31 := enters_of Tryz.func31 (by kernel_rfl)
theorem g31 : Good Tryz.prog 31 c31 := good_of (C := C31) mx (table_ok tt_ok) TreeOk.nil Tryz.func31 q31
theorem n28 : Enters Tryz.prog 28 := enters_of Tryz.func28 (by kernel_rfl)
theorem g28 : Good Tryz.prog 28 c28 := good_of (C := C28) mx (table_ok tt_ok) (TreeOk.node (TreeOk.leaf ⟨g31, n31⟩) (TreeOk.leaf ⟨g90, n90⟩)) Tryz.func28 q28
theorem n93 : Enters Tryz.prog 93 := enters_of Tryz.func93 (by kernel_rfl)
theorem g93 : Good Tryz.prog 93 c93 := good_of (C := C93) mx (table_ok tt_ok) TreeOk.nil Tryz.func93 q93
theorem n32 : Enters Tryz.prog 32 := enters_of Tryz.func32 (by kernel_rfl)
theorem g32 : Good Tryz.prog 32 c32 := good_of (C := C32) mx (table_ok tt_ok) (TreeOk.leaf ⟨g93, n93⟩) Tryz.func32 q32
theorem n89 : Enters Tryz.prog 89 := enters_of Tryz.func89 (by kernel_rfl)
theorem g89 : Good Tryz.prog 89 c89 := good_of (C := C89) mx (table_ok tt_ok) (TreeOk.node (TreeOk.node (TreeOk.leaf ⟨g25, n25⟩) (TreeOk.leaf ⟨g27, n27⟩)) (TreeOk.node (TreeOk.leaf ⟨g28, n28⟩) (TreeOk.leaf ⟨g32, n32⟩))) Tryz.func89 q89
theorem n26 : Enters Tryz.prog 26 := enters_of Tryz.func26 (by kernel_rfl)
theorem g26 : Good Tryz.prog 26 c26 := good_of (C := C26) mx (table_ok tt_ok) (TreeOk.leaf ⟨g89, n89⟩) Tryz.func26 q26
theorem n91 : Enters Tryz.prog 91 := enters_of Tryz.func91 (by kernel_rfl)
theorem g91 : Good Tryz.prog 91 c91 := good_of (C := C91) mx (table_ok tt_ok) TreeOk.nil Tryz.func91 q91
theorem n29 : Enters Tryz.prog 29 := enters_of Tryz.func29 (by kernel_rfl)
theorem g29 : Good Tryz.prog 29 c29 := good_of (C := C29) mx (table_ok tt_ok) (TreeOk.leaf ⟨g91, n91⟩) Tryz.func29 q29
theorem n92 : Enters Tryz.prog 92 := enters_of Tryz.func92 (by kernel_rfl)
theorem g92 : Good Tryz.prog 92 c92 := good_of (C := C92) mx (table_ok tt_ok) TreeOk.nil Tryz.func92 q92
theorem n30 : Enters Tryz.prog 30 := enters_of Tryz.func30 (by kernel_rfl)
theorem g30 : Good Tryz.prog 30 c30 := good_of (C := C30) mx (table_ok tt_ok) (TreeOk.leaf ⟨g92, n92⟩) Tryz.func30 q30
theorem n94 : Enters Tryz.prog 94 := enters_of Tryz.func94 (by kernel_rfl)
theorem g94 : Good Tryz.prog 94 c94 := good_of (C := C94) mx (table_ok tt_ok) (TreeOk.node (TreeOk.leaf ⟨g26, n26⟩) (TreeOk.leaf ⟨g27, n27⟩)) Tryz.func94 q94
theorem n33 : Enters Tryz.prog 33 := enters_of Tryz.func33 (by kernel_rfl)
theorem g33 : Good Tryz.prog 33 c33 := good_of (C := C33) mx (table_ok tt_ok) (TreeOk.leaf ⟨g94, n94⟩) Tryz.func33 q33
theorem n6 : Enters Tryz.prog 6 := enters_of Tryz.func6 (by kernel_rfl)
theorem g6 : Good Tryz.prog 6 c6 := good_of (C := C6) mx (table_ok tt_ok) (TreeOk.node (TreeOk.node (TreeOk.node (TreeOk.leaf ⟨g24, n24⟩) (TreeOk.leaf ⟨g25, n25⟩)) (TreeOk.node (TreeOk.leaf ⟨g26, n26⟩) (TreeOk.node (TreeOk.leaf ⟨g27, n27⟩) (TreeOk.leaf ⟨g28, n28⟩)))) (TreeOk.node (TreeOk.node (TreeOk.leaf ⟨g29, n29⟩) (TreeOk.leaf ⟨g30, n30⟩)) (TreeOk.node (TreeOk.leaf ⟨g31, n31⟩) (TreeOk.node (TreeOk.leaf ⟨g32, n32⟩) (TreeOk.leaf ⟨g33, n33⟩))))) Tryz.func6 q6
theorem n127 : Enters Tryz.prog 127 := enters_of Tryz.func127 (by kernel_rfl)
theorem g127 : Good Tryz.prog 127 c127 := good_of (C := C127) mx (table_ok tt_ok) TreeOk.nil Tryz.func127 q127
theorem n74 : Enters Tryz.prog 74 := enters_of Tryz.func74 (by kernel_rfl)
theorem g74 : Good Tryz.prog 74 c74 := good_of (C := C74) mx (table_ok tt_ok) (TreeOk.leaf ⟨g127, n127⟩) Tryz.func74 q74
theorem n76 : Enters Tryz.prog 76 := enters_of Tryz.func76 (by kernel_rfl)
theorem g76 : Good Tryz.prog 76 c76 := good_of (C := C76) mx (table_ok tt_ok) TreeOk.nil Tryz.func76 q76
theorem n77 : Enters Tryz.prog 77 := enters_of Tryz.func77 (by kernel_rfl)
theorem g77 : Good Tryz.prog 77 c77 := good_of (C := C77) mx (table_ok tt_ok) TreeOk.nil Tryz.func77 q77
theorem n128 : Enters Tryz.prog 128 := enters_of Tryz.func128 (by kernel_rfl)
theorem g128 : Good Tryz.prog 128 c128 := good_of (C := C128) mx (table_ok tt_ok) (TreeOk.node (TreeOk.leaf ⟨g76, n76⟩) (TreeOk.leaf ⟨g77, n77⟩)) Tryz.func128 q128
theorem n75 : Enters Tryz.prog 75 := enters_of Tryz.func75 (by kernel_rfl)
theorem g75 : Good Tryz.prog 75 c75 := good_of (C := C75) mx (table_ok tt_ok) (TreeOk.leaf ⟨g128, n128⟩) Tryz.func75 q75
theorem n78 : Enters Tryz.prog 78 := enters_of Tryz.func78 (by kernel_rfl)
theorem g78 : Good Tryz.prog 78 c78 := good_of (C := C78) mx (table_ok tt_ok) (TreeOk.node (TreeOk.leaf ⟨g75, n75⟩) (TreeOk.leaf ⟨g76, n76⟩)) Tryz.func78 q78
theorem n21 : Enters Tryz.prog 21 := enters_of Tryz.func21 (by kernel_rfl)
theorem g21 : Good Tryz.prog 21 c21 := good_of (C := C21) mx (table_ok tt_ok) (TreeOk.node (TreeOk.node (TreeOk.leaf ⟨g74, n74⟩) (TreeOk.leaf ⟨g75, n75⟩)) (TreeOk.node (TreeOk.leaf ⟨g76, n76⟩) (TreeOk.node (TreeOk.leaf ⟨g77, n77⟩) (TreeOk.leaf ⟨g78, n78⟩)))) Tryz.func21 q21
theorem n84 : Enters Tryz.prog 84 := enters_of Tryz.func84 (by kernel_rfl)
theorem g84 : Good Tryz.prog 84 c84 := good_of (C := C84) mx (table_ok tt_ok) TreeOk.nil Tryz.func84 q84
theorem n79 : Enters Tryz.prog 79 := enters_of Tryz.func79 (by kernel_rfl)
theorem g79 : Good Tryz.prog 79 c79 := good_of (C := C79) mx (table_ok tt_ok) (TreeOk.leaf ⟨g84, n84⟩) Tryz.func79 q79
theorem n157 : Enters Tryz.prog 157 := enters_of Tryz.func157 (by kernel_rfl)
theorem g157 : Good Tryz.prog 157 c157 := good_of (C := C157) mx (table_ok tt_ok) (TreeOk.node (TreeOk.leaf ⟨g79, n79⟩) (TreeOk.leaf ⟨g84, n84⟩)) Tryz.func157 q157
theorem n178 : Enters Tryz.prog 178 := enters_of Tryz.func178 (by kernel_rfl)
theorem g178 : Good Tryz.prog 178 c178 := good_of (C := C178) mx (table_ok tt_ok) TreeOk.nil Tryz.func178 q178
theorem n158 : Enters Tryz.prog 158 := enters_of Tryz.func158 (by kernel_rfl)
theorem g158 : Good Tryz.prog 158 c158 := good_of (C := C158) mx (table_ok tt_ok) (TreeOk.leaf ⟨g178, n178⟩) Tryz.func158 q158
theorem n129 : Enters Tryz.prog 129 := enters_of Tryz.func129 (by kernel_rfl)
theorem g129 : Good Tryz.prog 129 c129 := good_of (C := C129) mx (table_ok tt_ok) (TreeOk.node (TreeOk.leaf ⟨g157, n157⟩) (TreeOk.leaf ⟨g158, n158⟩)) Tryz.func129 q129
theorem n80 : Enters Tryz.prog 80 := enters_of Tryz.func80 (by kernel_rfl)
theorem g80 : Good Tryz.prog 80 c80 := good_of (C := C80) mx (table_ok tt_ok) (TreeOk.node (TreeOk.leaf ⟨g84, n84⟩) (TreeOk.leaf ⟨g129, n129⟩)) Tryz.func80 q80
theorem n130 : Enters Tryz.prog 130 := enters_of Tryz.func130 (by kernel_rfl)
theorem g130 : Good Tryz.prog 130 c130 := good_of (C := C130) mx (table_ok tt_ok) (TreeOk.node (TreeOk.leaf ⟨g79, n79⟩) (TreeOk.leaf ⟨g84, n84⟩)) Tryz.func130 q130
theorem n131 : Enters Tryz.prog 131 := enters_of Tryz.func131 (by kernel_rfl)
theorem g131 : Good Tryz.prog 131 c131 := good_of (C := C131) mx (table_ok tt_ok) TreeOk.nil Tryz.func131 q131
theorem n81 : Enters Tryz.prog 81 := enters_of Tryz.func81 (by kernel_rfl)
theorem g81 : Good Tryz.prog 81 c81 := good_of (C := C81) mx (table_ok tt_ok) (TreeOk.node (TreeOk.leaf ⟨g130, n130⟩) (TreeOk.leaf ⟨g131, n131⟩)) Tryz.func81 q81
theorem n82 : Enters Tryz.prog 82 := enters_of Tryz.func82 (by kernel_rfl)
theorem g82 : Good Tryz.prog 82 c82 := good_of (C := C82) mx (table_ok tt_ok) (TreeOk.node (TreeOk.leaf ⟨g79, n79⟩) (TreeOk.leaf ⟨g84, n84⟩)) Tryz.func82 q82
theorem n133 : Enters Tryz.prog 133 := enters_of Tryz.func133 (by kernel_rfl)
theorem g133 : Good Tryz.prog 133 c133 := good_of (C := C133) mx (table_ok tt_ok) TreeOk.nil Tryz.func133 q133
theorem n162 : Enters Tryz.prog 162 := enters_of Tryz.func162 (by kernel_rfl)
theorem g162 : Good Tryz.prog 162 c162 := good_of (C := C162) mx (table_ok tt_ok) (TreeOk.leaf ⟨g79, n79⟩) Tryz.func162 q162
theorem n159 : Enters Tryz.prog 159 := enters_of Tryz.func159 (by kernel_rfl)
theorem g159 : Good Tryz.prog 159 c159 := good_of (C := C159) mx (table_ok tt_ok) (TreeOk.node (TreeOk.leaf ⟨g84, n84⟩) (TreeOk.node (TreeOk.leaf ⟨g133, n133⟩) (TreeOk.leaf ⟨g162, n162⟩))) Tryz.func159 q159
theorem n137 : Enters Tryz.prog 137 := enters_of Tryz.func137 (by kernel_rfl)
theorem g137 : Good Tryz.prog 137 c137 := good_of (C := C137) mx (table_ok tt_ok) TreeOk.nil Tryz.func137 q137
theorem n160 : Enters Tryz.prog 160 := enters_of Tryz.func160 (by kernel_rfl)
theorem g160 : Good Tryz.prog 160 c160 := good_of (C := C160) mx (table_ok tt_ok) (TreeOk.node (TreeOk.leaf ⟨g84, n84⟩) (TreeOk.node (TreeOk.leaf ⟨g137, n137⟩) (TreeOk.leaf ⟨g162, n162⟩))) Tryz.func160 q160
theorem n132 : Enters Tryz.prog 132 := enters_of Tryz.func132 (by kernel_rfl)
theorem g132 : Good Tryz.prog 132 c132 := good_of (C := C132) mx (table_ok tt_ok) (TreeOk.node (TreeOk.node (TreeOk.leaf ⟨g79, n79⟩) (TreeOk.node (TreeOk.leaf ⟨g82, n82⟩) (TreeOk.leaf ⟨g84, n84⟩))) (TreeOk.node (TreeOk.leaf ⟨g130, n130⟩) (TreeOk.node (TreeOk.leaf ⟨g159, n159⟩) (TreeOk.leaf ⟨g160, n160⟩)))) Tryz.func132 q132
theorem n134 : Enters Tryz.prog 134 := enters_of Tryz.func134 (by kernel_rfl)
theorem g134 : Good Tryz.prog 134 c134 := good_of (C := C134) mx (table_ok tt_ok) TreeOk.nil Tryz.func134 q134
theorem n83 : Enters Tryz.prog 83 := enters_of Tryz.func83 (by kernel_rfl)
theorem g83 : Good Tryz.prog 83 c83 := good_of (C := C83) mx (table_ok tt_ok) (TreeOk.node (TreeOk.leaf ⟨g132, n132⟩) (TreeOk.node (TreeOk.leaf ⟨g133, n133⟩) (TreeOk.leaf ⟨g134, n134⟩))) Tryz.func83 q83
theorem n161 : Enters Tryz.prog 161 := enters_of Tryz.func161 (by kernel_rfl)
theorem g161 : Good Tryz.prog 161 c161 := good_of (C := C161) mx (table_ok tt_ok) TreeOk.nil Tryz.func161 q161
theorem n135 : Enters Tryz.prog 135 := enters_of Tryz.func135 (by kernel_rfl)
theorem g135 : Good Tryz.prog 135 c135 := good_of (C := C135) mx (table_ok tt_ok) (TreeOk.node (TreeOk.leaf ⟨g161, n161⟩) (TreeOk.leaf ⟨g162, n162⟩)) Tryz.func135 q135
theorem n179 : Enters Tryz.prog 179 := enters_of Tryz.func179 (by kernel_rfl)
theorem g179 : Good Tryz.prog 179 c179 := good_of (C := C179) mx (table_ok tt_ok) TreeOk.nil Tryz.func179 q179
theorem n163 : Enters Tryz.prog 163 := enters_of Tryz.func163 (by kernel_rfl)
theorem g163 : Good Tryz.prog 163 c163 := good_of (C := C163) mx (table_ok tt_ok) (TreeOk.leaf ⟨g179, n179⟩) Tryz.func163 q163
theorem n164 : Enters Tryz.prog 164 := enters_of Tryz.func164 (by kernel_rfl)
theorem g164 : Good Tryz.prog 164 c164 := good_of (C := C164) mx (table_ok tt_ok) TreeOk.nil Tryz.func164 q164
theorem n136 : Enters Tryz.prog 136 := enters_of Tryz.func136 (by kernel_rfl)
theorem g136 : Good Tryz.prog 136 c136 := good_of (C := C136) mx (table_ok tt_ok) (TreeOk.node (TreeOk.leaf ⟨g163, n163⟩) (TreeOk.leaf ⟨g164, n164⟩)) Tryz.func136 q136
theorem n85 : Enters Tryz.prog 85 := enters_of Tryz.func85 (by kernel_rfl)
theorem g85 : Good Tryz.prog 85 c85 := good_of (C := C85) mx (table_ok tt_ok) (TreeOk.node (TreeOk.node (TreeOk.leaf ⟨g84, n84⟩) (TreeOk.leaf ⟨g133, n133⟩)) (TreeOk.node (TreeOk.leaf ⟨g135, n135⟩) (TreeOk.leaf ⟨g136, n136⟩))) Tryz.func85 q85
theorem n86 : Enters Tryz.prog 86 := enters_of Tryz.func86 (by kernel_rfl)
theorem g86 : Good Tryz.prog 86 c86 := good_of (C := C86) mx (table_ok tt_ok) (TreeOk.node (TreeOk.node (TreeOk.leaf ⟨g84, n84⟩) (TreeOk.leaf ⟨g135, n135⟩)) (TreeOk.node (TreeOk.leaf ⟨g136, n136⟩) (TreeOk.leaf ⟨g137, n137⟩))) Tryz.func86 q86
theorem n22 : Enters Tryz.prog 22 := enters_of Tryz.func22 (by kernel_rfl)
theorem g22 : Good Tryz.prog 22 c22 := good_of (C := C22) mx (table_ok tt_ok) (TreeOk.node (TreeOk.node (TreeOk.node (TreeOk.leaf ⟨g79, n79⟩) (TreeOk.leaf ⟨g80, n80⟩)) (TreeOk.node (TreeOk.leaf ⟨g81, n81⟩) (TreeOk.leaf ⟨g82, n82⟩))) (TreeOk.node (TreeOk.node (TreeOk.leaf ⟨g83, n83⟩) (TreeOk.leaf ⟨g84, n84⟩)) (TreeOk.node (TreeOk.leaf ⟨g85, n85⟩) (TreeOk.leaf ⟨g86, n86⟩)))) Tryz.func22 q22
theorem n23 : Enters Tryz.prog 23 := enters_of Tryz.func23 (by kernel_rfl)
theorem g23 : Good Tryz.prog 23 c23 := good_of (C := C23) mx (table_ok tt_ok) TreeOk.nil Tryz.func23 q23
theorem n5 : Enters Tryz.prog 5 := enters_of Tryz.func5 (by kernel_rfl)
theorem g5 : Good Tryz.prog 5 c5 := good_of (C := C5) mx (table_ok tt_ok) (TreeOk.node (TreeOk.leaf ⟨g21, n21⟩) (TreeOk.node (TreeOk.leaf ⟨g22, n22⟩) (TreeOk.leaf ⟨g23, n23⟩))) Tryz.func5 q5
theorem n166 : Enters Tryz.prog 166 := enters_of Tryz.func166 (by kernel_rfl)
theorem g166 : Good Tryz.prog 166 c166 := good_of (C := C166) mx (table_ok tt_ok) TreeOk.nil Tryz.func166 q166
theorem n139 : Enters Tryz.prog 139 := enters_of Tryz.func139 (by kernel_rfl)
theorem g139 : Good Tryz.prog 139 c139 := good_of (C := C139) mx (table_ok tt_ok) (TreeOk.leaf ⟨g166, n166⟩) Tryz.func139 q139
theorem n95 : Enters Tryz.prog 95 := enters_of Tryz.func95 (by kernel_rfl)
theorem g95 : Good Tryz.prog 95 c95 := good_of (C := C95) mx (table_ok tt_ok) (TreeOk.leaf ⟨g139, n139⟩) Tryz.func95 q95
theorem n96 : Enters Tryz.prog 96 := enters_of Tryz.func96 (by kernel_rfl)
theorem g96 : Good Tryz.prog 96 c96 := good_of (C := C96) mx (table_ok tt_ok) TreeOk.nil Tryz.func96 q96
theorem n141 : Enters Tryz.prog 141 := enters_of Tryz.func141 (by kernel_rfl)
theorem g141 : Good Tryz.prog 141 c141 := good_of (C := C141) mx (table_ok tt_ok) TreeOk.nil Tryz.func141 q141
theorem n98 : Enters Tryz.prog 98 := enters_of Tryz.func98 (by kernel_rfl)
theorem g98 : Good Tryz.prog 98 c98 := good_of (C := C98) mx (table_ok tt_ok) (TreeOk.leaf ⟨g141, n141⟩) Tryz.func98 q98
theorem n102 : Enters Tryz.prog 102 := enters_of Tryz.func102 (by kernel_rfl)
theorem g102 : Good Tryz.prog 102 c102 := good_of (C := C102) mx (table_ok tt_ok) TreeOk.nil Tryz.func102 q102
theorem n99 : Enters Tryz.prog 99 := enters_of Tryz.func99 (by kernel_rfl)
theorem g99 : Good Tryz.prog 99 c99 := good_of (C := C99) mx (table_ok tt_ok) (TreeOk.node (TreeOk.leaf ⟨g102, n102⟩) (TreeOk.leaf ⟨g141, n141⟩)) Tryz.func99 q99
theorem n103 : Enters Tryz.prog 103 := enters_of Tryz.func103 (by kernel_rfl)
theorem g103 : Good Tryz.prog 103 c103 := good_of (C := C103) mx (table_ok tt_ok) TreeOk.nil Tryz.func103 q103
theorem n140 : Enters Tryz.prog 140 := enters_of Tryz.func140 (by kernel_rfl)
theorem g140 : Good Tryz.prog 140 c140 := good_of (C := C140) mx (table_ok tt_ok) (TreeOk.node (TreeOk.node (TreeOk.leaf ⟨g96, n96⟩) (TreeOk.leaf ⟨g98, n98⟩)) (TreeOk.node (TreeOk.leaf ⟨g99, n99⟩) (TreeOk.leaf ⟨g103, n103⟩))) Tryz.func140 q140
theorem n97 : Enters Tryz.prog 97 := enters_of Tryz.func97 (by kernel_rfl)
theorem g97 : Good Tryz.prog 97 c97 := good_of (C := C97) mx (table_ok tt_ok) (TreeOk.leaf ⟨g140, n140⟩) Tryz.func97 q97
theorem n100 : Enters Tryz.prog 100 := enters_of Tryz.func100 (by kernel_rfl)
theorem g100 : Good Tryz.prog 100 c100 := good_of (C := C100) mx (table_ok tt_ok) TreeOk.nil Tryz.func100 q100
theorem n101 : Enters Tryz.prog 101 := enters_of Tryz.func101 (by kernel_rfl)
theorem g101 : Good Tryz.prog 101 c101 := good_of (C := C101) mx (table_ok tt_ok) TreeOk.nil Tryz.func101 q101
theorem n104 : Enters Tryz.prog 104 := enters_of Tryz.func104 (by kernel_rfl)
theorem g104 : Good Tryz.prog 104 c104 := good_of (C := C104) mx (table_ok tt_ok) (TreeOk.node (TreeOk.leaf ⟨g97, n97⟩) (TreeOk.leaf ⟨g98, n98⟩)) Tryz.func104 q104
theorem n34 : Enters Tryz.prog 34 := enters_of Tryz.func34 (by kernel_rfl)
theorem g34 : Good Tryz.prog 34 c34 := good_of (C := C34) mx (table_ok tt_ok) (TreeOk.node (TreeOk.node (TreeOk.node (TreeOk.leaf ⟨g95, n95⟩) (TreeOk.leaf ⟨g96, n96⟩)) (TreeOk.node (TreeOk.leaf ⟨g97, n97⟩) (TreeOk.node (TreeOk.leaf ⟨g98, n98⟩) (TreeOk.leaf ⟨g99, n99⟩)))) (TreeOk.node (TreeOk.node (TreeOk.leaf ⟨g100, n100⟩) (TreeOk.leaf ⟨g101, n101⟩)) (TreeOk.node (TreeOk.leaf ⟨g102, n102⟩) (TreeOk.node (TreeOk.leaf ⟨g103, n103⟩) (TreeOk.leaf ⟨g104, n104⟩))))) Tryz.func34 q34
theorem n109 : Enters Tryz.prog 109 := enters_of Tryz.func109 (by kernel_rfl)
theorem g109 : Good Tryz.prog 109 c109 := good_of (C := C109) mx (table_ok tt_ok) TreeOk.nil Tryz.func109 q109
theorem n105 : Enters Tryz.prog 105 := enters_of Tryz.func105 (by kernel_rfl)
theorem g105 : Good Tryz.prog 105 c105 := good_of (C := C105) mx (table_ok tt_ok) (TreeOk.leaf ⟨g109, n109⟩) Tryz.func105 q105
theorem n181 : Enters Tryz.prog 181 := enters_of Tryz.func181 (by kernel_rfl)
theorem g181 : Good Tryz.prog 181 c181 := good_of (C := C181) mx (table_ok tt_ok) (TreeOk.leaf ⟨g109, n109⟩) Tryz.func181 q181
theorem n167 : Enters Tryz.prog 167 := enters_of Tryz.func167 (by kernel_rfl)
theorem g167 : Good Tryz.prog 167 c167 := good_of (C := C167) mx (table_ok tt_ok) (TreeOk.node (TreeOk.leaf ⟨g105, n105⟩) (TreeOk.node (TreeOk.leaf ⟨g109, n109⟩) (TreeOk.leaf ⟨g181, n181⟩))) Tryz.func167 q167
theorem n168 : Enters Tryz.prog 168 := enters_of Tryz.func168 (by kernel_rfl)
theorem g168 : Good Tryz.prog 168 c168 := good_of (C := C168) mx (table_ok tt_ok) TreeOk.nil Tryz.func168 q168
theorem n142 : Enters Tryz.prog 142 := enters_of Tryz.func142 (by kernel_rfl)
theorem g142 : Good Tryz.prog 142 c142 := good_of (C := C142) mx (table_ok tt_ok) (TreeOk.node (TreeOk.leaf ⟨g167, n167⟩) (TreeOk.leaf ⟨g168, n168⟩)) Tryz.func142 q142
theorem n106 : Enters Tryz.prog 106 := enters_of Tryz.func106 (by kernel_rfl)
theorem g106 : Good Tryz.prog 106 c106 := good_of (C := C106) mx (table_ok tt_ok) (TreeOk.node (TreeOk.leaf ⟨g109, n109⟩) (TreeOk.leaf ⟨g142, n142⟩)) Tryz.func106 q106
theorem n107 : Enters Tryz.prog 107 := enters_of Tryz.func107 (by kernel_rfl)
theorem g107 : Good Tryz.prog 107 c107 := good_of (C := C107) mx (table_ok tt_ok) (TreeOk.node (TreeOk.leaf ⟨g105, n105⟩) (TreeOk.leaf ⟨g109, n109⟩)) Tryz.func107 q107
theorem n143 : Enters Tryz.prog 143 := enters_of Tryz.func143 (by kernel_rfl)
theorem g143 : Good Tryz.prog 143 c143 := good_of (C := C143) mx (table_ok tt_ok) (TreeOk.node (TreeOk.leaf ⟨g105, n105⟩) (TreeOk.leaf ⟨g109, n109⟩)) Tryz.func143 q143
theorem n189 : Enters Tryz.prog 189 := enters_of Tryz.func189 (by kernel_rfl)
theorem g189 : Good Tryz.prog 189 c189 := good_of (C := C189) mx (table_ok tt_ok) TreeOk.nil Tryz.func189 q189
theorem n183 : Enters Tryz.prog 183 := enters_of Tryz.func183 (by kernel_rfl)
theorem g183 : Good Tryz.prog 183 c183 := good_of (C := C183) mx (table_ok tt_ok) (TreeOk.leaf ⟨g189, n189⟩) Tryz.func183 q183
theorem n190 : Enters Tryz.prog 190 := enters_of Tryz.func190 (by kernel_rfl)
theorem g190 : Good Tryz.prog 190 c190 := good_of (C := C190) mx (table_ok tt_ok) TreeOk.nil Tryz.func190 q190
theorem n184 : Enters Tryz.prog 184 := enters_of Tryz.func184 (by kernel_rfl)
theorem g184 : Good Tryz.prog 184 c184 := good_of (C := C184) mx (table_ok tt_ok) (TreeOk.leaf ⟨g190, n190⟩) Tryz.func184 q184
theorem n182 : Enters Tryz.prog 182 := enters_of Tryz.func182 (by kernel_rfl)
theorem g182 : Good Tryz.prog 182 c182 := good_of (C := C182) mx (table_ok tt_ok) TreeOk.nil Tryz.func182 q182
theorem n169 : Enters Tryz.prog 169 := enters_of Tryz.func169 (by kernel_rfl)
theorem g169 : Good Tryz.prog 169 c169 := good_of (C := C169) mx (table_ok tt_ok) (TreeOk.node (TreeOk.leaf ⟨g182, n182⟩) (TreeOk.node (TreeOk.leaf ⟨g183, n183⟩) (TreeOk.leaf ⟨g184, n184⟩))) Tryz.func169 q169
theorem n144 : Enters Tryz.prog 144 := enters_of Tryz.func144 (by kernel_rfl)
theorem g144 : Good Tryz.prog 144 c144 := good_of (C := C144) mx (table_ok tt_ok) (TreeOk.leaf ⟨g169, n169⟩) Tryz.func144 q144
theorem n108 : Enters Tryz.prog 108 := enters_of Tryz.func108 (by kernel_rfl)
theorem g108 : Good Tryz.prog 108 c108 := good_of (C := C108) mx (table_ok tt_ok) (TreeOk.node (TreeOk.leaf ⟨g143, n143⟩) (TreeOk.leaf ⟨g144, n144⟩)) Tryz.func108 q108
theorem n145 : Enters Tryz.prog 145 := enters_of Tryz.func145 (by kernel_rfl)
theorem g145 : Good Tryz.prog 145 c145 := good_of (C := C145) mx (table_ok tt_ok) TreeOk.nil Tryz.func145 q145
theorem n170 : Enters Tryz.prog 170 := enters_of Tryz.func170 (by kernel_rfl)
theorem g170 : Good Tryz.prog 170 c170 := good_of (C := C170) mx (table_ok tt_ok) (TreeOk.leaf ⟨g105, n105⟩) Tryz.func170 q170
theorem n146 : Enters Tryz.prog 146 := enters_of Tryz.func146 (by kernel_rfl)
theorem g146 : Good Tryz.prog 146 c146 := good_of (C := C146) mx (table_ok tt_ok) (TreeOk.node (TreeOk.leaf ⟨g109, n109⟩) (TreeOk.node (TreeOk.leaf ⟨g145, n145⟩) (TreeOk.leaf ⟨g170, n170⟩))) Tryz.func146 q146
theorem n191 : Enters Tryz.prog 191 := enters_of Tryz.func191 (by kernel_rfl)
theorem g191 : Good Tryz.prog 191 c191 := good_of (C := C191) mx (table_ok tt_ok) TreeOk.nil Tryz.func191 q191
theorem n185 : Enters Tryz.prog 185 := enters_of Tryz.func185 (by kernel_rfl)
theorem g185 : Good Tryz.prog 185 c185 := good_of (C := C185) mx (table_ok tt_ok) (TreeOk.leaf ⟨g191, n191⟩) Tryz.func185 q185
theorem n171 : Enters Tryz.prog 171 := enters_of Tryz.func171 (by kernel_rfl)
theorem g171 : Good Tryz.prog 171 c171 := good_of (C := C171) mx (table_ok tt_ok) (TreeOk.leaf ⟨g185, n185⟩) Tryz.func171 q171
theorem n172 : Enters Tryz.prog 172 := enters_of Tryz.func172 (by kernel_rfl)
theorem g172 : Good Tryz.prog 172 c172 := good_of (C := C172) mx (table_ok tt_ok) TreeOk.nil Tryz.func172 q172
theorem n147 : Enters Tryz.prog 147 := enters_of Tryz.func147 (by kernel_rfl)
theorem g147 : Good Tryz.prog 147 c147 := good_of (C := C147) mx (table_ok tt_ok) (TreeOk.node (TreeOk.leaf ⟨g171, n171⟩) (TreeOk.leaf ⟨g172, n172⟩)) Tryz.func147 q147
theorem n192 : Enters Tryz.prog 192 := enters_of Tryz.func192 (by kernel_rfl)
theorem g192 : Good Tryz.prog 192 c192 := good_of (C := C192) mx (table_ok tt_ok) TreeOk.nil Tryz.func192 q192
theorem n186 : Enters Tryz.prog 186 := enters_of Tryz.func186 (by kernel_rfl)
theorem g186 : Good Tryz.prog 186 c186 := good_of (C := C186) mx (table_ok tt_ok) (TreeOk.leaf ⟨g192, n192⟩) Tryz.func186 q186
theorem n187 : Enters Tryz.prog 187 := enters_of Tryz.func187 (by kernel_rfl)
theorem g187 : Good Tryz.prog 187 c187 := good_of (C := C187) mx (table_ok tt_ok) TreeOk.nil Tryz.func187 q187
theorem n173 : Enters Tryz.prog 173 := enters_of Tryz.func173 (by kernel_rfl)
theorem g173 : Good Tryz.prog 173 c173 := good_of (C := C173) mx (table_ok tt_ok) (TreeOk.node (TreeOk.leaf ⟨g186, n186⟩) (TreeOk.leaf ⟨g187, n187⟩)) Tryz.func173 q173
theorem n148 : Enters Tryz.prog 148 := enters_of Tryz.func148 (by kernel_rfl)
theorem g148 : Good Tryz.prog 148 c148 := good_of (C := C148) mx (table_ok tt_ok) (TreeOk.leaf ⟨g173, n173⟩) Tryz.func148 q148
theorem n110 : Enters Tryz.prog 110 := enters_of Tryz.func110 (by kernel_rfl)
theorem g110 : Good Tryz.prog 110 c110 := good_of (C := C110) mx (table_ok tt_ok) (TreeOk.node (TreeOk.node (TreeOk.leaf ⟨g145, n145⟩) (TreeOk.leaf ⟨g146, n146⟩)) (TreeOk.node (TreeOk.leaf ⟨g147, n147⟩) (TreeOk.leaf ⟨g148, n148⟩))) Tryz.func110 q110
theorem n149 : Enters Tryz.prog 149 := enters_of Tryz.func149 (by kernel_rfl)
theorem g149 : Good Tryz.prog 149 c149 := good_of (C := C149) mx (table_ok tt_ok) TreeOk.nil Tryz.func149 q149
theorem n150 : Enters Tryz.prog 150 := enters_of Tryz.func150 (by kernel_rfl)
theorem g150 : Good Tryz.prog 150 c150 := good_of (C := C150) mx (table_ok tt_ok) (TreeOk.node (TreeOk.leaf ⟨g109, n109⟩) (TreeOk.node (TreeOk.leaf ⟨g149, n149⟩) (TreeOk.leaf ⟨g170, n170⟩))) Tryz.func150 q150
theorem n111 : Enters Tryz.prog 111 := enters_of Tryz.func111 (by kernel_rfl)
theorem g111 : Good Tryz.prog 111 c111 := good_of (C := C111) mx (table_ok tt_ok) (TreeOk.node (TreeOk.node (TreeOk.leaf ⟨g147, n147⟩) (TreeOk.leaf ⟨g148, n148⟩)) (TreeOk.node (TreeOk.leaf ⟨g149, n149⟩) (TreeOk.leaf ⟨g150, n150⟩))) Tryz.func111 q111
theorem n174 : Enters Tryz.prog 174 := enters_of Tryz.func174 (by kernel_rfl)
theorem g174 : Good Tryz.prog 174 c174 := good_of (C := C174) mx (table_ok tt_ok) (TreeOk.leaf ⟨g143, n143⟩) Tryz.func174 q174
theorem n151 : Enters Tryz.prog 151 := enters_of Tryz.func151 (by kernel_rfl)
theorem g151 : Good Tryz.prog 151 c151 := good_of (C := C151) mx (table_ok tt_ok) (TreeOk.node (TreeOk.node (TreeOk.leaf ⟨g105, n105⟩) (TreeOk.node (TreeOk.leaf ⟨g107, n107⟩) (TreeOk.leaf ⟨g109, n109⟩))) (TreeOk.node (TreeOk.leaf ⟨g146, n146⟩) (TreeOk.node (TreeOk.leaf ⟨g150, n150⟩) (TreeOk.leaf ⟨g174, n174⟩)))) Tryz.func151 q151
theorem n175 : Enters Tryz.prog 175 := enters_of Tryz.func175 (by kernel_rfl)
theorem g175 : Good Tryz.prog 175 c175 := good_of (C := C175) mx (table_ok tt_ok) TreeOk.nil Tryz.func175 q175
theorem n176 : Enters Tryz.prog 176 := enters_of Tryz.func176 (by kernel_rfl)
theorem g176 : Good Tryz.prog 176 c176 := good_of (C := C176) mx (table_ok tt_ok) TreeOk.nil Tryz.func176 q176
theorem n152 : Enters Tryz.prog 152 := enters_of Tryz.func152 (by kernel_rfl)
theorem g152 : Good Tryz.prog 152 c152 := good_of (C := C152) mx (table_ok tt_ok) (TreeOk.node (TreeOk.leaf ⟨g175, n175⟩) (TreeOk.leaf ⟨g176, n176⟩)) Tryz.func152 q152
theorem n112 : Enters Tryz.prog 112 := enters_of Tryz.func112 (by kernel_rfl)
theorem g112 : Good Tryz.prog 112 c112 := good_of (C := C112) mx (table_ok tt_ok) (TreeOk.node (TreeOk.leaf ⟨g145, n145⟩) (TreeOk.node (TreeOk.leaf ⟨g151, n151⟩) (TreeOk.leaf ⟨g152, n152⟩))) Tryz.func112 q112
theorem n35 : Enters Tryz.prog 35 := enters_of Tryz.func35 (by kernel_rfl)
theorem g35 : Good Tryz.prog 35 c35 := good_of (C := C35) mx (table_ok tt_ok) (TreeOk.node (TreeOk.node (TreeOk.node (TreeOk.leaf ⟨g105, n105⟩) (TreeOk.leaf ⟨g106, n106⟩)) (TreeOk.node (TreeOk.leaf ⟨g107, n107⟩) (TreeOk.leaf ⟨g108, n108⟩))) (TreeOk.node (TreeOk.node (TreeOk.leaf ⟨g109, n109⟩) (TreeOk.leaf ⟨g110, n110⟩)) (TreeOk.node (TreeOk.leaf ⟨g111, n111⟩) (TreeOk.leaf ⟨g112, n112⟩)))) Tryz.func35 q35
theorem n7 : Enters Tryz.prog 7 := enters_of Tryz.func7 (by kernel_rfl)
theorem g7 : Good Tryz.prog 7 c7 := good_of (C := C7) mx (table_ok tt_ok) (TreeOk.node (TreeOk.leaf ⟨g34, n34⟩) (TreeOk.leaf ⟨g35, n35⟩)) Tryz.func7 q7
theorem n188 : Enters Tryz.prog 188 := enters_of Tryz.func188 (by kernel_rfl)
theorem g188 : Good Tryz.prog 188 c188 := good_of (C := C188) mx (table_ok tt_ok) TreeOk.nil Tryz.func188 q188
theorem n177 : Enters Tryz.prog 177 := enters_of Tryz.func177 (by kernel_rfl)
theorem g177 : Good Tryz.prog 177 c177 := good_of (C := C177) mx (table_ok tt_ok) (TreeOk.leaf ⟨g188, n188⟩) Tryz.func177 q177
theorem n153 : Enters Tryz.prog 153 := enters_of Tryz.func153 (by kernel_rfl)
theorem g153 : Good Tryz.prog 153 c153 := good_of (C := C153) mx (table_ok tt_ok) (TreeOk.leaf ⟨g177, n177⟩) Tryz.func153 q153
theorem n113 : Enters Tryz.prog 113 := enters_of Tryz.func113 (by kernel_rfl)
theorem g113 : Good Tryz.prog 113 c113 := good_of (C := C113) mx (table_ok tt_ok) (TreeOk.leaf ⟨g153, n153⟩) Tryz.func113 q113
theorem n36 : Enters Tryz.prog 36 := enters_of Tryz.func36 (by kernel_rfl)
theorem g36 : Good Tryz.prog 36 c36 := good_of (C := C36) mx (table_ok tt_ok) (TreeOk.leaf ⟨g113, n113⟩) Tryz.func36 q36
theorem n114 : Enters Tryz.prog 114 := enters_of Tryz.func114 (by kernel_rfl)
theorem g114 : Good Tryz.prog 114 c114 := good_of (C := C114) mx (table_ok tt_ok) TreeOk.nil Tryz.func114 q114
theorem n37 : Enters Tryz.prog 37 := enters_of Tryz.func37 (by kernel_rfl)
theorem g37 : Good Tryz.prog 37 c37 := good_of (C := C37) mx (table_ok tt_ok) (TreeOk.leaf ⟨g114, n114⟩) Tryz.func37 q37
theorem n116 : Enters Tryz.prog 116 := enters_of Tryz.func116 (by kernel_rfl)
theorem g116 : Good Tryz.prog 116 c116 := good_of (C := C116) mx (table_ok tt_ok) TreeOk.nil Tryz.func116 q116
theorem n39 : Enters Tryz.prog 39 := enters_of Tryz.func39 (by kernel_rfl)
theorem g39 : Good Tryz.prog 39 c39 := good_of (C := C39) mx (table_ok tt_ok) (TreeOk.leaf ⟨g116, n116⟩) Tryz.func39 q39
theorem n43 : Enters Tryz.prog 43 := enters_of Tryz.func43 (by kernel_rfl)
theorem g43 : Good Tryz.prog 43 c43 := good_of (C := C43) mx (table_ok tt_ok) TreeOk.nil Tryz.func43 q43
theorem n40 : Enters Tryz.prog 40 := enters_of Tryz.func40 (by kernel_rfl)
theorem g40 : Good Tryz.prog 40 c40 := good_of (C := C40) mx (table_ok tt_ok) (TreeOk.node (TreeOk.leaf ⟨g43, n43⟩) (TreeOk.leaf ⟨g116, n116⟩)) Tryz.func40 q40
theorem n119 : Enters Tryz.prog 119 := enters_of Tryz.func119 (by kernel_rfl)
theorem g119 : Good Tryz.prog 119 c119 := good_of (C := C119) mx (table_ok tt_ok) TreeOk.nil Tryz.func119 q119
theorem n44 : Enters Tryz.prog 44 := enters_of Tryz.func44 (by kernel_rfl)
theorem g44 : Good Tryz.prog 44 c44 := good_of (C := C44) mx (table_ok tt_ok) (TreeOk.leaf ⟨g119, n119⟩) Tryz.func44 q44
theorem n115 : Enters Tryz.prog 115 := enters_of Tryz.func115 (by kernel_rfl)
theorem g115 : Good Tryz.prog 115 c115 := good_of (C := C115) mx (table_ok tt_ok) (TreeOk.node (TreeOk.node (TreeOk.leaf ⟨g37, n37⟩) (TreeOk.leaf ⟨g39, n39⟩)) (TreeOk.node (TreeOk.leaf ⟨g40, n40⟩) (TreeOk.leaf ⟨g44, n44⟩))) Tryz.func115 q115
theorem n38 : Enters Tryz.prog 38 := enters_of Tryz.func38 (by kernel_rfl)
theorem g38 : Good Tryz.prog 38 c38 := good_of (C := C38) mx (table_ok tt_ok) (TreeOk.leaf ⟨g115, n115⟩) Tryz.func38 q38
theorem n117 : Enters Tryz.prog 117 := enters_of Tryz.func117 (by kernel_rfl)
theorem g117 : Good Tryz.prog 117 c117 := good_of (C := C117) mx (table_ok tt_ok) TreeOk.nil Tryz.func117 q117
theorem n41 : Enters Tryz.prog 41 := enters_of Tryz.func41 (by kernel_rfl)
theorem g41 : Good Tryz.prog 41 c41 := good_of (C := C41) mx (table_ok tt_ok) (TreeOk.leaf ⟨g117, n117⟩) Tryz.func41 q41
theorem n118 : Enters Tryz.prog 118 := enters_of Tryz.func118 (by kernel_rfl)
theorem g118 : Good Tryz.prog 118 c118 := good_of (C := C118) mx (table_ok tt_ok) TreeOk.nil Tryz.func118 q118
theorem n42 : Enters Tryz.prog 42 := enters_of Tryz.func42 (by kernel_rfl)
theorem g42 : Good Tryz.prog 42 c42 := good_of (C := C42) mx (table_ok tt_ok) (TreeOk.leaf ⟨g118, n118⟩) Tryz.func42 q42
theorem n120 : Enters Tryz.prog 120 := enters_of Tryz.func120 (by kernel_rfl)
theorem g120 : Good Tryz.prog 120 c120 := good_of (C := C120) mx (table_ok tt_ok) (TreeOk.node (TreeOk.leaf ⟨g38, n38⟩) (TreeOk.leaf ⟨g39, n39⟩)) Tryz.func120 q120
theorem n45 : Enters Tryz.prog 45 := enters_of Tryz.func45 (by kernel_rfl)
theorem g45 : Good Tryz.prog 45 c45 := good_of (C := C45) mx (table_ok tt_ok) (TreeOk.leaf ⟨g120, n120⟩) Tryz.func45 q45
theorem n8 : Enters Tryz.prog 8 := enters_of Tryz.func8 (by kernel_rfl)
theorem g8 : Good Tryz.prog 8 c8 := good_of (C := C8) mx (table_ok tt_ok) (TreeOk.node (TreeOk.node (TreeOk.node (TreeOk.leaf ⟨g36, n36⟩) (TreeOk.leaf ⟨g37, n37⟩)) (TreeOk.node (TreeOk.leaf ⟨g38, n38⟩) (TreeOk.node (TreeOk.leaf ⟨g39, n39⟩) (TreeOk.leaf ⟨g40, n40⟩)))) (TreeOk.node (TreeOk.node (TreeOk.leaf ⟨g41, n41⟩) (TreeOk.leaf ⟨g42, n42⟩)) (TreeOk.node (TreeOk.leaf ⟨g43, n43⟩) (TreeOk.node (TreeOk.leaf ⟨g44, n44⟩) (TreeOk.leaf ⟨g45, n45⟩))))) Tryz.func8 q8
theorem n122 : Enters Tryz.prog 122 := enters_of Tryz.func122 (by kernel_rfl)
theorem g122 : Good Tryz.prog 122 c122 := good_of (C := C122) mx (table_ok tt_ok) TreeOk.nil Tryz.func122 q122
theorem n154 : Enters Tryz.prog 154 := enters_of Tryz.func154 (by kernel_rfl)
theorem g154 : Good Tryz.prog 154 c154 := good_of (C := C154) mx (table_ok tt_ok) TreeOk.nil Tryz.func154 q154
theorem n121 : Enters Tryz.prog 121 := enters_of Tryz.func121 (by kernel_rfl)
theorem g121 : Good Tryz.prog 121 c121 := good_of (C := C121) mx (table_ok tt_ok) (TreeOk.node (TreeOk.leaf ⟨g122, n122⟩) (TreeOk.leaf ⟨g154, n154⟩)) Tryz.func121 q121
theorem n46 : Enters Tryz.prog 46 := enters_of Tryz.func46 (by kernel_rfl)
theorem g46 : Good Tryz.prog 46 c46 := good_of (C := C46) mx (table_ok tt_ok) (TreeOk.leaf ⟨g121, n121⟩) Tryz.func46 q46
theorem n47 : Enters Tryz.prog 47 := enters_of Tryz.func47 (by kernel_rfl)
theorem g47 : Good Tryz.prog 47 c47 := good_of (C := C47) mx (table_ok tt_ok) (TreeOk.leaf ⟨g122, n122⟩) Tryz.func47 q47
theorem n123 : Enters Tryz.prog 123 := enters_of Tryz.func123 (by kernel_rfl)
theorem g123 : Good Tryz.prog 123 c123 := good_of (C := C123) mx (table_ok tt_ok) (TreeOk.leaf ⟨g122, n122⟩) Tryz.func123 q123
theorem n53 : Enters Tryz.prog 53 := enters_of Tryz.func53 (by kernel_rfl)
theorem g53 : Good Tryz.prog 53 c53 := good_of (C := C53) mx (table_ok tt_ok) TreeOk.nil Tryz.func53 q53
theorem n54 : Enters Tryz.prog 54 := enters_of Tryz.func54 (by kernel_rfl)
theorem g54 : Good Tryz.prog 54 c54 := good_of (C := C54) mx (table_ok tt_ok) (TreeOk.leaf ⟨g122, n122⟩) Tryz.func54 q54
theorem n48 : Enters Tryz.prog 48 := enters_of Tryz.func48 (by kernel_rfl)
theorem g48 : Good Tryz.prog 48 c48 := good_of (C := C48) mx (table_ok tt_ok) (TreeOk.node (TreeOk.node (TreeOk.leaf ⟨g47, n47⟩) (TreeOk.leaf ⟨g53, n53⟩)) (TreeOk.node (TreeOk.leaf ⟨g54, n54⟩) (TreeOk.node (TreeOk.leaf ⟨g122, n122⟩) (TreeOk.leaf ⟨g123, n123⟩)))) Tryz.func48 q48
theorem n49 : Enters Tryz.prog 49 := enters_of Tryz.func49 (by kernel_rfl)
theorem g49 : Good Tryz.prog 49 c49 := good_of (C := C49) mx (table_ok tt_ok) (TreeOk.leaf ⟨g123, n123⟩) Tryz.func49 q49
theorem n50 : Enters Tryz.prog 50 := enters_of Tryz.func50 (by kernel_rfl)
theorem g50 : Good Tryz.prog 50 c50 := good_of (C := C50) mx (table_ok tt_ok) (TreeOk.node (TreeOk.leaf ⟨g53, n53⟩) (TreeOk.leaf ⟨g123, n123⟩)) Tryz.func50 q50
theorem n51 : Enters Tryz.prog 51 := enters_of Tryz.func51 (by kernel_rfl)
theorem g51 : Good Tryz.prog 51 c51 := good_of (C := C51) mx (table_ok tt_ok) (TreeOk.leaf ⟨g122, n122⟩) Tryz.func51 q51
theorem n52 : Enters Tryz.prog 52 := enters_of Tryz.func52 (by kernel_rfl)
theorem g52 : Good Tryz.prog 52 c52 := good_of (C := C52) mx (table_ok tt_ok) (TreeOk.leaf ⟨g122, n122⟩) Tryz.func52 q52
theorem n55 : Enters Tryz.prog 55 := enters_of Tryz.func55 (by kernel_rfl)
theorem g55 : Good Tryz.prog 55 c55 := good_of (C := C55) mx (table_ok tt_ok) (TreeOk.node (TreeOk.leaf ⟨g48, n48⟩) (TreeOk.leaf ⟨g123, n123⟩)) Tryz.func55 q55
theorem n9 : Enters Tryz.prog 9 := enters_of Tryz.func9 (by kernel_rfl)
theorem g9 : Good Tryz.prog 9 c9 := good_of (C := C9) mx (table_ok tt_ok) (TreeOk.node (TreeOk.node (TreeOk.node (TreeOk.leaf ⟨g46, n46⟩) (TreeOk.leaf ⟨g47, n47⟩)) (TreeOk.node (TreeOk.leaf ⟨g48, n48⟩) (TreeOk.node (TreeOk.leaf ⟨g49, n49⟩) (TreeOk.leaf ⟨g50, n50⟩)))) (TreeOk.node (TreeOk.node (TreeOk.leaf ⟨g51, n51⟩) (TreeOk.leaf ⟨g52, n52⟩)) (TreeOk.node (TreeOk.leaf ⟨g53, n53⟩) (TreeOk.node (TreeOk.leaf ⟨g54, n54⟩) (TreeOk.leaf ⟨g55, n55⟩))))) Tryz.func9 q9
theorem n155 : Enters Tryz.prog 155 := enters_of Tryz.func155 (by kernel_rfl)
theorem g155 : Good Tryz.prog 155 c155 := good_of (C := C155) mx (table_ok tt_ok) TreeOk.nil Tryz.func155 q155
theorem n124 : Enters Tryz.prog 124 := enters_of Tryz.func124 (by kernel_rfl)
theorem g124 : Good Tryz.prog 124 c124 := good_of (C := C124) mx (table_ok tt_ok) (TreeOk.node (TreeOk.leaf ⟨g122, n122⟩) (TreeOk.leaf ⟨g155, n155⟩)) Tryz.func124 q124
theorem n56 : Enters Tryz.prog 56 := enters_of Tryz.func56 (by kernel_rfl)
theorem g56 : Good Tryz.prog 56 c56 := good_of (C := C56) mx (table_ok tt_ok) (TreeOk.leaf ⟨g124, n124⟩) Tryz.func56 q56
theorem n57 : Enters Tryz.prog 57 := enters_of Tryz.func57 (by kernel_rfl)
theorem g57 : Good Tryz.prog 57 c57 := good_of (C := C57) mx (table_ok tt_ok) (TreeOk.leaf ⟨g122, n122⟩) Tryz.func57 q57
theorem n125 : Enters Tryz.prog 125 := enters_of Tryz.func125 (by kernel_rfl)
theorem g125 : Good Tryz.prog 125 c125 := good_of (C := C125) mx (table_ok tt_ok) (TreeOk.leaf ⟨g122, n122⟩) Tryz.func125 q125
theorem n63 : Enters Tryz.prog 63 := enters_of Tryz.func63 (by kernel_rfl)
theorem g63 : Good Tryz.prog 63 c63 := good_of (C := C63) mx (table_ok tt_ok) TreeOk.nil Tryz.func63 q63
theorem n64 : Enters Tryz.prog 64 := enters_of Tryz.func64 (by kernel_rfl)
theorem g64 : Good Tryz.prog 64 c64 := good_of (C := C64) mx (table_ok tt_ok) (TreeOk.leaf ⟨g122, n122⟩) Tryz.func64 q64
theorem n58 : Enters Tryz.prog 58 := enters_of Tryz.func58 (by kernel_rfl)
theorem g58 : Good Tryz.prog 58 c58 := good_of (C := C58) mx (table_ok tt_ok) (TreeOk.node (TreeOk.node (TreeOk.leaf ⟨g57, n57⟩) (TreeOk.leaf ⟨g63, n63⟩)) (TreeOk.node (TreeOk.leaf ⟨g64, n64⟩) (TreeOk.node (TreeOk.leaf ⟨g122, n122⟩) (TreeOk.leaf ⟨g125, n125⟩)))) Tryz.func58 q58
theorem n59 : Enters Tryz.prog 59 := enters_of Tryz.func59 (by kernel_rfl)
theorem g59 : Good Tryz.prog 59 c59 := good_of (C := C59) mx (table_ok tt_ok) (TreeOk.leaf ⟨g125, n125⟩) Tryz.func59 q59
theorem n60 : Enters Tryz.prog 60 := enters_of Tryz.func60 (by kernel_rfl)
theorem g60 : Good Tryz.prog 60 c60 := good_of (C := C60) mx (table_ok tt_ok) (TreeOk.node (TreeOk.leaf ⟨g63, n63⟩) (TreeOk.leaf ⟨g125, n125⟩)) Tryz.func60 q60
theorem n61 : Enters Tryz.prog 61 := enters_of Tryz.func61 (by kernel_rfl)
theorem g61 : Good Tryz.prog 61 c61 := good_of (C := C61) mx (table_ok tt_ok) (TreeOk.leaf ⟨g122, n122⟩) Tryz.func61 q61
theorem n62 : Enters Tryz.prog 62 := enters_of Tryz.func62 (by kernel_rfl)
theorem g62 : Good Tryz.prog 62 c62 := good_of (C := C62) mx (table_ok tt_ok) (TreeOk.leaf ⟨g122, n122⟩) Tryz.func62 q62
theorem n65 : Enters Tryz.prog 65 := enters_of Tryz.func65 (by kernel_rfl)
theorem g65 : Good Tryz.prog 65 c65 := good_of (C := C65) mx (table_ok tt_ok) (TreeOk.node (TreeOk.leaf ⟨g58, n58⟩) (TreeOk.leaf ⟨g125, n125⟩)) Tryz.func65 q65
theorem n10 : Enters Tryz.prog 10 := enters_of Tryz.func10 (by kernel_rfl)
theorem g10 : Good Tryz.prog 10 c10 := good_of (C := C10) mx (table_ok tt_ok) (TreeOk.node (TreeOk.node (TreeOk.node (TreeOk.leaf ⟨g56, n56⟩) (TreeOk.leaf ⟨g57, n57⟩)) (TreeOk.node (TreeOk.leaf ⟨g58, n58⟩) (TreeOk.node (TreeOk.leaf ⟨g59, n59⟩) (TreeOk.leaf ⟨g60, n60⟩)))) (TreeOk.node (TreeOk.node (TreeOk.leaf ⟨g61, n61⟩) (TreeOk.leaf ⟨g62, n62⟩)) (TreeOk.node (TreeOk.leaf ⟨g63, n63⟩) (TreeOk.node (TreeOk.leaf ⟨g64, n64⟩) (TreeOk.leaf ⟨g65, n65⟩))))) Tryz.func10 q10
theorem n3 : Enters Tryz.prog 3 := enters_of Tryz.func3 (by kernel_rfl)
theorem g3 : Good Tryz.prog 3 c3 := good_of (C := C3) mx (table_ok tt_ok) (TreeOk.node (TreeOk.node (TreeOk.leaf ⟨g4, n4⟩) (TreeOk.node (TreeOk.leaf ⟨g5, n5⟩) (TreeOk.leaf ⟨g6, n6⟩))) (TreeOk.node (TreeOk.node (TreeOk.leaf ⟨g7, n7⟩) (TreeOk.leaf ⟨g8, n8⟩)) (TreeOk.node (TreeOk.leaf ⟨g9, n9⟩) (TreeOk.leaf ⟨g10, n10⟩)))) Tryz.func3 q3
end Go.Proofs.YtodcmpnbcgobkacGreat
