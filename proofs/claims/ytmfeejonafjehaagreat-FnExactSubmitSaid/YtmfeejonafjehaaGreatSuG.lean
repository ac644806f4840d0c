/- Each function does as its contract says. Conditions: none. -/

import Derived.Test.YtmfeejonafjehaaGreatTm4
import Derived.Test.YtmfeejonafjehaaGreatSuF
namespace Go.Proofs.YtmfeejonafjehaaGreat
open Go Go.Tm
set_option linter.unusedVariables false
set_option maxRecDepth 100000
theorem mx : Tryz.prog.follows .mixedOrders = true := by kernel_rfl
theorem n165 : Go.Tm.Enters Tryz.prog 165 := Go.Tm.enters_of Tryz.func165 (by kernel_rfl)
theorem g165 : Go.Tm.Good Tryz.prog 165 c165 := Go.Tm.good_of (C := C165) mx (table_ok tt_ok) TreeOk.nil Tryz.func165 q165
theorem n132 : Go.Tm.Enters Tryz.prog 132 := Go.Tm.enters_of Tryz.func132 (by kernel_rfl)
theorem g132 : Go.Tm.Good Tryz.prog 132 c132 := Go.Tm.good_of (C := C132) mx (table_ok tt_ok) (TreeOk.leaf ⟨g165, n165⟩) Tryz.func132 q132
theorem n69 : Go.Tm.Enters Tryz.prog 69 := Go.Tm.enters_of Tryz.func69 (by kernel_rfl)
theorem g69 : Go.Tm.Good Tryz.prog 69 c69 := Go.Tm.good_of (C := C69) mx (table_ok tt_ok) (TreeOk.leaf ⟨g132, n132⟩) Tryz.func69 q69
theorem n13 : Go.Tm.Enters Tryz.prog 13 := Go.Tm.enters_of Tryz.func13 (by kernel_rfl)
theorem g13 : Go.Tm.Good Tryz.prog 13 c13 := Go.Tm.good_of (C := C13) mx (table_ok tt_ok) (TreeOk.leaf ⟨g69, n69⟩) Tryz.func13 q13
theorem n70 : Go.Tm.Enters Tryz.prog 70 := Go.Tm.enters_of Tryz.func70 (by kernel_rfl)
theorem g70 : Go.Tm.Good Tryz.prog 70 c70 := Go.Tm.good_of (C := C70) mx (table_ok tt_ok) TreeOk.nil Tryz.func70 q70
theorem n14 : Go.Tm.Enters Tryz.prog 14 := Go.Tm.enters_of Tryz.func14 (by kernel_rfl)
theorem g14 : Go.Tm.Good Tryz.prog 14 c14 := Go.Tm.good_of (C := C14) mx (table_ok tt_ok) (TreeOk.leaf ⟨g70, n70⟩) Tryz.func14 q14
theorem n72 : Go.Tm.Enters Tryz.prog 72 := Go.Tm.enters_of Tryz.func72 (by kernel_rfl)
theorem g72 : Go.Tm.Good Tryz.prog 72 c72 := Go.Tm.good_of (C := C72) mx (table_ok tt_ok) TreeOk.nil Tryz.func72 q72
theorem n16 : Go.Tm.Enters Tryz.prog 16 := Go.Tm.enters_of Tryz.func16 (by kernel_rfl)
theorem g16 : Go.Tm.Good Tryz.prog 16 c16 := Go.Tm.good_of (C := C16) mx (table_ok tt_ok) (TreeOk.leaf ⟨g72, n72⟩) Tryz.func16 q16
theorem n20 : Go.Tm.Enters Tryz.prog 20 := Go.Tm.enters_of Tryz.func20 (by kernel_rfl)
theorem g20 : Go.Tm.Good Tryz.prog 20 c20 := Go.Tm.good_of (C := C20) mx (table_ok tt_ok) TreeOk.nil Tryz.func20 q20
theorem n17 : Go.Tm.Enters Tryz.prog 17 := Go.Tm.enters_of Tryz.func17 (by kernel_rfl)
theorem g17 : Go.Tm.Good Tryz.prog 17 c17 := Go.Tm.good_of (C := C17) mx (table_ok tt_ok) (TreeOk.node (TreeOk.leaf ⟨g20, n20⟩) (TreeOk.leaf ⟨g72, n72⟩)) Tryz.func17 q17
theorem n5 : Go.Tm.Enters Tryz.prog 5 := Go.Tm.enters_of Tryz.func5 (by kernel_rfl)
theorem g5 : Go.Tm.Good Tryz.prog 5 c5 := Go.Tm.good_of (C := C5) mx (table_ok tt_ok) TreeOk.nil Tryz.func5 q5
theorem n21 : Go.Tm.Enters Tryz.prog 21 := Go.Tm.enters_of Tryz.func21 (by kernel_rfl)
theorem g21 : Go.Tm.Good Tryz.prog 21 c21 := Go.Tm.good_of (C := C21) mx (table_ok tt_ok) (TreeOk.leaf ⟨g5, n5⟩) Tryz.func21 q21
theorem n71 : Go.Tm.Enters Tryz.prog 71 := Go.Tm.enters_of Tryz.func71 (by kernel_rfl)
theorem g71 : Go.Tm.Good Tryz.prog 71 c71 := Go.Tm.good_of (C := C71) mx (table_ok tt_ok) (TreeOk.node (TreeOk.node (TreeOk.leaf ⟨g14, n14⟩) (TreeOk.leaf ⟨g16, n16⟩)) (TreeOk.node (TreeOk.leaf ⟨g17, n17⟩) (TreeOk.leaf ⟨g21, n21⟩))) Tryz.func71 q71
theorem n15 : Go.Tm.Enters Tryz.prog 15 := Go.Tm.enters_of Tryz.func15 (by kernel_rfl)
theorem g15 : Go.Tm.Good Tryz.prog 15 c15 := Go.Tm.good_of (C := C15) mx (table_ok tt_ok) (TreeOk.leaf ⟨g71, n71⟩) Tryz.func15 q15
theorem n73 : Go.Tm.Enters Tryz.prog 73 := Go.Tm.enters_of Tryz.func73 (by kernel_rfl)
theorem g73 : Go.Tm.Good Tryz.prog 73 c73 := Go.Tm.good_of (C := C73) mx (table_ok tt_ok) TreeOk.nil Tryz.func73 q73
theorem n18 : Go.Tm.Enters Tryz.prog 18 := Go.Tm.enters_of Tryz.func18 (by kernel_rfl)
theorem g18 : Go.Tm.Good Tryz.prog 18 c18 := Go.Tm.good_of (C := C18) mx (table_ok tt_ok) (TreeOk.leaf ⟨g73, n73⟩) Tryz.func18 q18
theorem n74 : Go.Tm.Enters Tryz.prog 74 := Go.Tm.enters_of Tryz.func74 (by kernel_rfl)
theorem g74 : Go.Tm.Good Tryz.prog 74 c74 := Go.Tm.good_of (C := C74) mx (table_ok tt_ok) TreeOk.nil Tryz.func74 q74
theorem n19 : Go.Tm.Enters Tryz.prog 19 := Go.Tm.enters_of Tryz.func19 (by kernel_rfl)
theorem g19 : Go.Tm.Good Tryz.prog 19 c19 := Go.Tm.good_of (C := C19) mx (table_ok tt_ok) (TreeOk.leaf ⟨g74, n74⟩) Tryz.func19 q19
theorem n75 : Go.Tm.Enters Tryz.prog 75 := Go.Tm.enters_of Tryz.func75 (by kernel_rfl)
theorem g75 : Go.Tm.Good Tryz.prog 75 c75 := Go.Tm.good_of (C := C75) mx (table_ok tt_ok) (TreeOk.node (TreeOk.leaf ⟨g15, n15⟩) (TreeOk.leaf ⟨g16, n16⟩)) Tryz.func75 q75
theorem n22 : Go.Tm.Enters Tryz.prog 22 := Go.Tm.enters_of Tryz.func22 (by kernel_rfl)
theorem g22 : Go.Tm.Good Tryz.prog 22 c22 := Go.Tm.good_of (C := C22) mx (table_ok tt_ok) (TreeOk.leaf ⟨g75, n75⟩) Tryz.func22 q22
theorem n4 : Go.Tm.Enters Tryz.prog 4 := Go.Tm.enters_of Tryz.func4 (by kernel_rfl)
theorem g4 : Go.Tm.Good Tryz.prog 4 c4 := Go.Tm.good_of (C := C4) mx (table_ok tt_ok) (TreeOk.node (TreeOk.node (TreeOk.node (TreeOk.leaf ⟨g13, n13⟩) (TreeOk.leaf ⟨g14, n14⟩)) (TreeOk.node (TreeOk.leaf ⟨g15, n15⟩) (TreeOk.node (TreeOk.leaf ⟨g16, n16⟩) (TreeOk.leaf ⟨g17, n17⟩)))) (TreeOk.node (TreeOk.node (TreeOk.leaf ⟨g18, n18⟩) (TreeOk.leaf ⟨g19, n19⟩)) (TreeOk.node (TreeOk.leaf ⟨g20, n20⟩) (TreeOk.node (TreeOk.leaf ⟨g21, n21⟩) (TreeOk.leaf ⟨g22, n22⟩))))) Tryz.func4 q4
theorem n191 : Go.Tm.Enters Tryz.prog 191 := Go.Tm.enters_of Tryz.func191 (by kernel_rfl)
theorem g191 : Go.Tm.Good Tryz.prog 191 c191 := Go.Tm.good_of (C := C191) mx (table_ok tt_ok) TreeOk.nil Tryz.func191 q191
theorem n174 : Go.Tm.Enters Tryz.prog 174 := Go.Tm.enters_of Tryz.func174 (by kernel_rfl)
theorem g174 : Go.Tm.Good Tryz.prog 174 c174 := Go.Tm.good_of (C := C174) mx (table_ok tt_ok) (TreeOk.leaf ⟨g191, n191⟩) Tryz.func174 q174
theorem n143 : Go.Tm.Enters Tryz.prog 143 := Go.Tm.enters_of Tryz.func143 (by kernel_rfl)
theorem g143 : Go.Tm.Good Tryz.prog 143 c143 := Go.Tm.good_of (C := C143) mx (table_ok tt_ok) (TreeOk.leaf ⟨g174, n174⟩) Tryz.func143 q143
theorem n90 : Go.Tm.Enters Tryz.prog 90 := Go.Tm.enters_of Tryz.func90 (by kernel_rfl)
theorem g90 : Go.Tm.Good Tryz.prog 90 c90 := Go.Tm.good_of (C := C90) mx (table_ok tt_ok) (TreeOk.leaf ⟨g143, n143⟩) Tryz.func90 q90
theorem n26 : Go.Tm.Enters Tryz.prog 26 := Go.Tm.enters_of Tryz.func26 (by kernel_rfl)
theorem g26 : Go.Tm.Good Tryz.prog 26 c26 := Go.Tm.good_of (C := C26) mx (table_ok tt_ok) (TreeOk.leaf ⟨g90, n90⟩) Tryz.func26 q26
theorem n91 : Go.Tm.Enters Tryz.prog 91 := Go.Tm.enters_of Tryz.func91 (by kernel_rfl)
theorem g91 : Go.Tm.Good Tryz.prog 91 c91 := Go.Tm.good_of (C := C91) mx (table_ok tt_ok) TreeOk.nil Tryz.func91 q91
theorem n27 : Go.Tm.Enters Tryz.prog 27 := Go.Tm.enters_of Tryz.func27 (by kernel_rfl)
theorem g27 : Go.Tm.Good Tryz.prog 27 c27 := Go.Tm.good_of (C := C27) mx (table_ok tt_ok) (TreeOk.leaf ⟨g91, n91⟩) Tryz.func27 q27
theorem n93 : Go.Tm.Enters Tryz.prog 93 := Go.Tm.enters_of Tryz.func93 (by kernel_rfl)
theorem g93 : Go.Tm.Good Tryz.prog 93 c93 := Go.Tm.good_of (C := C93) mx (table_ok tt_ok) TreeOk.nil Tryz.func93 q93
theorem n29 : Go.Tm.Enters Tryz.prog 29 := Go.Tm.enters_of Tryz.func29 (by kernel_rfl)
theorem g29 : Go.Tm.Good Tryz.prog 29 c29 := Go.Tm.good_of (C := C29) mx (table_ok tt_ok) (TreeOk.leaf ⟨g93, n93⟩) Tryz.func29 q29
theorem n33 : Go.Tm.Enters Tryz.prog 33 := Go.Tm.enters_of Tryz.func33 (by kernel_rfl)
theorem g33 : Go.Tm.Good Tryz.prog 33 c33 := Go.Tm.good_of (C := C33) mx (table_ok tt_ok) TreeOk.nil Tryz.func33 q33
theorem n30 : Go.Tm.Enters Tryz.prog 30 := Go.Tm.enters_of Tryz.func30 (by kernel_rfl)
theorem g30 : Go.Tm.Good Tryz.prog 30 c30 := Go.Tm.good_of (C := C30) mx (table_ok tt_ok) (TreeOk.node (TreeOk.leaf ⟨g33, n33⟩) (TreeOk.leaf ⟨g93, n93⟩)) Tryz.func30 q30
theorem n8 : Go.Tm.Enters Tryz.prog 8 := Go.Tm.enters_of Tryz.func8 (by kernel_rfl)
theorem g8 : Go.Tm.Good Tryz.prog 8 c8 := Go.Tm.good_of (C := C8) mx (table_ok tt_ok) TreeOk.nil Tryz.func8 q8
theorem n34 : Go.Tm.Enters Tryz.prog 34 := Go.Tm.enters_of Tryz.func34 (by kernel_rfl)
theorem g34 : Go.Tm.Good Tryz.prog 34 c34 := Go.Tm.good_of (C := C34) mx (table_ok tt_ok) (TreeOk.leaf ⟨g8, n8⟩) Tryz.func34 q34
theorem n92 : Go.Tm.Enters Tryz.prog 92 := Go.Tm.enters_of Tryz.func92 (by kernel_rfl)
theorem g92 : Go.Tm.Good Tryz.prog 92 c92 := Go.Tm.good_of (C := C92) mx (table_ok tt_ok) (TreeOk.node (TreeOk.node (TreeOk.leaf ⟨g27, n27⟩) (TreeOk.leaf ⟨g29, n29⟩)) (TreeOk.node (TreeOk.leaf ⟨g30, n30⟩) (TreeOk.leaf ⟨g34, n34⟩))) Tryz.func92 q92
theorem n28 : Go.Tm.Enters Tryz.prog 28 := Go.Tm.enters_of Tryz.func28 (by kernel_rfl)
theorem g28 : Go.Tm.Good Tryz.prog 28 c28 := Go.Tm.good_of (C := C28) mx (table_ok tt_ok) (TreeOk.leaf ⟨g92, n92⟩) Tryz.func28 q28
theorem n94 : Go.Tm.Enters Tryz.prog 94 := Go.Tm.enters_of Tryz.func94 (by kernel_rfl)
theorem g94 : Go.Tm.Good Tryz.prog 94 c94 := Go.Tm.good_of (C := C94) mx (table_ok tt_ok) TreeOk.nil Tryz.func94 q94
theorem n31 : Go.Tm.Enters Tryz.prog 31 := Go.Tm.enters_of Tryz.func31 (by kernel_rfl)
theorem g31 : Go.Tm.Good Tryz.prog 31 c31 := Go.Tm.good_of (C := C31) mx (table_ok tt_ok) (TreeOk.leaf ⟨g94, n94⟩) Tryz.func31 q31
theorem n95 : Go.Tm.Enters Tryz.prog 95 := Go.Tm.enters_of Tryz.func95 (by kernel_rfl)
theorem g95 : Go.Tm.Good Tryz.prog 95 c95 := Go.Tm.good_of (C := C95) mx (table_ok tt_ok) TreeOk.nil Tryz.func95 q95
theorem n32 : Go.Tm.Enters Tryz.prog 32 := Go.Tm.enters_of Tryz.func32 (by kernel_rfl)
theorem g32 : Go.Tm.Good Tryz.prog 32 c32 := Go.Tm.good_of (C := C32) mx (table_ok tt_ok) (TreeOk.leaf ⟨g95, n95⟩) Tryz.func32 q32
theorem n96 : Go.Tm.Enters Tryz.prog 96 := Go.Tm.enters_of Tryz.func96 (by kernel_rfl)
theorem g96 : Go.Tm.Good Tryz.prog 96 c96 := Go.Tm.good_of (C := C96) mx (table_ok tt_ok) (TreeOk.node (TreeOk.leaf ⟨g28, n28⟩) (TreeOk.leaf ⟨g29, n29⟩)) Tryz.func96 q96
theorem n35 : Go.Tm.Enters Tryz.prog 35 := Go.Tm.enters_of Tryz.func35 (by kernel_rfl)
theorem g35 : Go.Tm.Good Tryz.prog 35 c35 := Go.Tm.good_of (C := C35) mx (table_ok tt_ok) (TreeOk.leaf ⟨g96, n96⟩) Tryz.func35 q35
theorem n7 : Go.Tm.Enters Tryz.prog 7 := Go.Tm.enters_of Tryz.func7 (by kernel_rfl)
theorem g7 : Go.Tm.Good Tryz.prog 7 c7 := Go.Tm.good_of (C := C7) mx (table_ok tt_ok) (TreeOk.node (TreeOk.node (TreeOk.node (TreeOk.leaf ⟨g26, n26⟩) (TreeOk.leaf ⟨g27, n27⟩)) (TreeOk.node (TreeOk.leaf ⟨g28, n28⟩) (TreeOk.node (TreeOk.leaf ⟨g29, n29⟩) (TreeOk.leaf ⟨g30, n30⟩)))) (TreeOk.node (TreeOk.node (TreeOk.leaf ⟨g31, n31⟩) (TreeOk.leaf ⟨g32, n32⟩)) (TreeOk.node (TreeOk.leaf ⟨g33, n33⟩) (TreeOk.node (TreeOk.leaf ⟨g34, n34⟩) (TreeOk.leaf ⟨g35, n35⟩))))) Tryz.func7 q7
theorem n133 : Go.Tm.Enters Tryz.prog 133 := Go.Tm.enters_of Tryz.func133 (by kernel_rfl)
theorem g133 : Go.Tm.Good Tryz.prog 133 c133 := Go.Tm.good_of (C := C133) mx (table_ok tt_ok) TreeOk.nil Tryz.func133 q133
theorem n76 : Go.Tm.Enters Tryz.prog 76 := Go.Tm.enters_of Tryz.func76 (by kernel_rfl)
theorem g76 : Go.Tm.Good Tryz.prog 76 c76 := Go.Tm.good_of (C := C76) mx (table_ok tt_ok) (TreeOk.leaf ⟨g133, n133⟩) Tryz.func76 q76
theorem n78 : Go.Tm.Enters Tryz.prog 78 := Go.Tm.enters_of Tryz.func78 (by kernel_rfl)
theorem g78 : Go.Tm.Good Tryz.prog 78 c78 := Go.Tm.good_of (C := C78) mx (table_ok tt_ok) TreeOk.nil Tryz.func78 q78
theorem n79 : Go.Tm.Enters Tryz.prog 79 := Go.Tm.enters_of Tryz.func79 (by kernel_rfl)
theorem g79 : Go.Tm.Good Tryz.prog 79 c79 := Go.Tm.good_of (C := C79) mx (table_ok tt_ok) TreeOk.nil Tryz.func79 q79
theorem n134 : Go.Tm.Enters Tryz.prog 134 := Go.Tm.enters_of Tryz.func134 (by kernel_rfl)
theorem g134 : Go.Tm.Good Tryz.prog 134 c134 := Go.Tm.good_of (C := C134) mx (table_ok tt_ok) (TreeOk.node (TreeOk.leaf ⟨g78, n78⟩) (TreeOk.leaf ⟨g79, n79⟩)) Tryz.func134 q134
theorem n77 : Go.Tm.Enters Tryz.prog 77 := Go.Tm.enters_of Tryz.func77 (by kernel_rfl)
theorem g77 : Go.Tm.Good Tryz.prog 77 c77 := Go.Tm.good_of (C := C77) mx (table_ok tt_ok) (TreeOk.leaf ⟨g134, n134⟩) Tryz.func77 q77
theorem n80 : Go.Tm.Enters Tryz.prog 80 := Go.Tm.enters_of Tryz.func80 (by kernel_rfl)
theorem g80 : Go.Tm.Good Tryz.prog 80 c80 := Go.Tm.good_of (C := C80) mx (table_ok tt_ok) (TreeOk.node (TreeOk.leaf ⟨g77, n77⟩) (TreeOk.leaf ⟨g78, n78⟩)) Tryz.func80 q80
theorem n23 : Go.Tm.Enters Tryz.prog 23 := Go.Tm.enters_of Tryz.func23 (by kernel_rfl)
theorem g23 : Go.Tm.Good Tryz.prog 23 c23 := Go.Tm.good_of (C := C23) mx (table_ok tt_ok) (TreeOk.node (TreeOk.node (TreeOk.leaf ⟨g76, n76⟩) (TreeOk.leaf ⟨g77, n77⟩)) (TreeOk.node (TreeOk.leaf ⟨g78, n78⟩) (TreeOk.node (TreeOk.leaf ⟨g79, n79⟩) (TreeOk.leaf ⟨g80, n80⟩)))) Tryz.func23 q23
theorem n86 : Go.Tm.Enters Tryz.prog 86 := Go.Tm.enters_of Tryz.func86 (by kernel_rfl)
theorem g86 : Go.Tm.Good Tryz.prog 86 c86 := Go.Tm.good_of (C := C86) mx (table_ok tt_ok) TreeOk.nil Tryz.func86 q86
theorem n81 : Go.Tm.Enters Tryz.prog 81 := Go.Tm.enters_of Tryz.func81 (by kernel_rfl)
theorem g81 : Go.Tm.Good Tryz.prog 81 c81 := Go.Tm.good_of (C := C81) mx (table_ok tt_ok) (TreeOk.leaf ⟨g86, n86⟩) Tryz.func81 q81
theorem n166 : Go.Tm.Enters Tryz.prog 166 := Go.Tm.enters_of Tryz.func166 (by kernel_rfl)
theorem g166 : Go.Tm.Good Tryz.prog 166 c166 := Go.Tm.good_of (C := C166) mx (table_ok tt_ok) (TreeOk.node (TreeOk.leaf ⟨g81, n81⟩) (TreeOk.leaf ⟨g86, n86⟩)) Tryz.func166 q166
theorem n189 : Go.Tm.Enters Tryz.prog 189 := Go.Tm.enters_of Tryz.func189 (by kernel_rfl)
theorem g189 : Go.Tm.Good Tryz.prog 189 c189 := Go.Tm.good_of (C := C189) mx (table_ok tt_ok) TreeOk.nil Tryz.func189 q189
theorem n167 : Go.Tm.Enters Tryz.prog 167 := Go.Tm.enters_of Tryz.func167 (by kernel_rfl)
theorem g167 : Go.Tm.Good Tryz.prog 167 c167 := Go.Tm.good_of (C := C167) mx (table_ok tt_ok) (TreeOk.leaf ⟨g189, n189⟩) Tryz.func167 q167
theorem n135 : Go.Tm.Enters Tryz.prog 135 := Go.Tm.enters_of Tryz.func135 (by kernel_rfl)
theorem g135 : Go.Tm.Good Tryz.prog 135 c135 := Go.Tm.good_of (C := C135) mx (table_ok tt_ok) (TreeOk.node (TreeOk.leaf ⟨g166, n166⟩) (TreeOk.leaf ⟨g167, n167⟩)) Tryz.func135 q135
theorem n82 : Go.Tm.Enters Tryz.prog 82 := Go.Tm.enters_of Tryz.func82 (by kernel_rfl)
theorem g82 : Go.Tm.Good Tryz.prog 82 c82 := Go.Tm.good_of (C := C82) mx (table_ok tt_ok) (TreeOk.node (TreeOk.leaf ⟨g86, n86⟩) (TreeOk.leaf ⟨g135, n135⟩)) Tryz.func82 q82
theorem n136 : Go.Tm.Enters Tryz.prog 136 := Go.Tm.enters_of Tryz.func136 (by kernel_rfl)
theorem g136 : Go.Tm.Good Tryz.prog 136 c136 := Go.Tm.good_of (C := C136) mx (table_ok tt_ok) (TreeOk.node (TreeOk.leaf ⟨g81, n81⟩) (TreeOk.leaf ⟨g86, n86⟩)) Tryz.func136 q136
theorem n89 : Go.Tm.Enters Tryz.prog 89 := Go.Tm.enters_of Tryz.func89 (by kernel_rfl)
theorem g89 : Go.Tm.Good Tryz.prog 89 c89 := Go.Tm.good_of (C := C89) mx (table_ok tt_ok) TreeOk.nil Tryz.func89 q89
theorem n83 : Go.Tm.Enters Tryz.prog 83 := Go.Tm.enters_of Tryz.func83 (by kernel_rfl)
theorem g83 : Go.Tm.Good Tryz.prog 83 c83 := Go.Tm.good_of (C := C83) mx (table_ok tt_ok) (TreeOk.node (TreeOk.leaf ⟨g89, n89⟩) (TreeOk.leaf ⟨g136, n136⟩)) Tryz.func83 q83
theorem n84 : Go.Tm.Enters Tryz.prog 84 := Go.Tm.enters_of Tryz.func84 (by kernel_rfl)
theorem g84 : Go.Tm.Good Tryz.prog 84 c84 := Go.Tm.good_of (C := C84) mx (table_ok tt_ok) (TreeOk.node (TreeOk.leaf ⟨g81, n81⟩) (TreeOk.leaf ⟨g86, n86⟩)) Tryz.func84 q84
theorem n138 : Go.Tm.Enters Tryz.prog 138 := Go.Tm.enters_of Tryz.func138 (by kernel_rfl)
theorem g138 : Go.Tm.Good Tryz.prog 138 c138 := Go.Tm.good_of (C := C138) mx (table_ok tt_ok) TreeOk.nil Tryz.func138 q138
theorem n171 : Go.Tm.Enters Tryz.prog 171 := Go.Tm.enters_of Tryz.func171 (by kernel_rfl)
theorem g171 : Go.Tm.Good Tryz.prog 171 c171 := Go.Tm.good_of (C := C171) mx (table_ok tt_ok) (TreeOk.leaf ⟨g81, n81⟩) Tryz.func171 q171
theorem n168 : Go.Tm.Enters Tryz.prog 168 := Go.Tm.enters_of Tryz.func168 (by kernel_rfl)
theorem g168 : Go.Tm.Good Tryz.prog 168 c168 := Go.Tm.good_of (C := C168) mx (table_ok tt_ok) (TreeOk.node (TreeOk.leaf ⟨g86, n86⟩) (TreeOk.node (TreeOk.leaf ⟨g138, n138⟩) (TreeOk.leaf ⟨g171, n171⟩))) Tryz.func168 q168
theorem n142 : Go.Tm.Enters Tryz.prog 142 := Go.Tm.enters_of Tryz.func142 (by kernel_rfl)
theorem g142 : Go.Tm.Good Tryz.prog 142 c142 := Go.Tm.good_of (C := C142) mx (table_ok tt_ok) TreeOk.nil Tryz.func142 q142
theorem n169 : Go.Tm.Enters Tryz.prog 169 := Go.Tm.enters_of Tryz.func169 (by kernel_rfl)
theorem g169 : Go.Tm.Good Tryz.prog 169 c169 := Go.Tm.good_of (C := C169) mx (table_ok tt_ok) (TreeOk.node (TreeOk.leaf ⟨g86, n86⟩) (TreeOk.node (TreeOk.leaf ⟨g142, n142⟩) (TreeOk.leaf ⟨g171, n171⟩))) Tryz.func169 q169
theorem n137 : Go.Tm.Enters Tryz.prog 137 := Go.Tm.enters_of Tryz.func137 (by kernel_rfl)
theorem g137 : Go.Tm.Good Tryz.prog 137 c137 := Go.Tm.good_of (C := C137) mx (table_ok tt_ok) (TreeOk.node (TreeOk.node (TreeOk.leaf ⟨g81, n81⟩) (TreeOk.node (TreeOk.leaf ⟨g84, n84⟩) (TreeOk.leaf ⟨g86, n86⟩))) (TreeOk.node (TreeOk.leaf ⟨g136, n136⟩) (TreeOk.node (TreeOk.leaf ⟨g168, n168⟩) (TreeOk.leaf ⟨g169, n169⟩)))) Tryz.func137 q137
theorem n139 : Go.Tm.Enters Tryz.prog 139 := Go.Tm.enters_of Tryz.func139 (by kernel_rfl)
theorem g139 : Go.Tm.Good Tryz.prog 139 c139 := Go.Tm.good_of (C := C139) mx (table_ok tt_ok) TreeOk.nil Tryz.func139 q139
theorem n85 : Go.Tm.Enters Tryz.prog 85 := Go.Tm.enters_of Tryz.func85 (by kernel_rfl)
theorem g85 : Go.Tm.Good Tryz.prog 85 c85 := Go.Tm.good_of (C := C85) mx (table_ok tt_ok) (TreeOk.node (TreeOk.leaf ⟨g137, n137⟩) (TreeOk.node (TreeOk.leaf ⟨g138, n138⟩) (TreeOk.leaf ⟨g139, n139⟩))) Tryz.func85 q85
theorem n170 : Go.Tm.Enters Tryz.prog 170 := Go.Tm.enters_of Tryz.func170 (by kernel_rfl)
theorem g170 : Go.Tm.Good Tryz.prog 170 c170 := Go.Tm.good_of (C := C170) mx (table_ok tt_ok) TreeOk.nil Tryz.func170 q170
theorem n140 : Go.Tm.Enters Tryz.prog 140 := Go.Tm.enters_of Tryz.func140 (by kernel_rfl)
theorem g140 : Go.Tm.Good Tryz.prog 140 c140 := Go.Tm.good_of (C := C140) mx (table_ok tt_ok) (TreeOk.node (TreeOk.leaf ⟨g170, n170⟩) (TreeOk.leaf ⟨g171, n171⟩)) Tryz.func140 q140
theorem n190 : Go.Tm.Enters Tryz.prog 190 := Go.Tm.enters_of Tryz.func190 (by kernel_rfl)
theorem g190 : Go.Tm.Good Tryz.prog 190 c190 := Go.Tm.good_of (C := C190) mx (table_ok tt_ok) TreeOk.nil Tryz.func190 q190
theorem n172 : Go.Tm.Enters Tryz.prog 172 := Go.Tm.enters_of Tryz.func172 (by kernel_rfl)
theorem g172 : Go.Tm.Good Tryz.prog 172 c172 := Go.Tm.good_of (C := C172) mx (table_ok tt_ok) (TreeOk.leaf ⟨g190, n190⟩) Tryz.func172 q172
theorem n173 : Go.Tm.Enters Tryz.prog 173 := Go.Tm.enters_of Tryz.func173 (by kernel_rfl)
theorem g173 : Go.Tm.Good Tryz.prog 173 c173 := Go.Tm.good_of (C := C173) mx (table_ok tt_ok) TreeOk.nil Tryz.func173 q173
theorem n141 : Go.Tm.Enters Tryz.prog 141 := Go.Tm.enters_of Tryz.func141 (by kernel_rfl)
theorem g141 : Go.Tm.Good Tryz.prog 141 c141 := Go.Tm.good_of (C := C141) mx (table_ok tt_ok) (TreeOk.node (TreeOk.leaf ⟨g172, n172⟩) (TreeOk.leaf ⟨g173, n173⟩)) Tryz.func141 q141
theorem n87 : Go.Tm.Enters Tryz.prog 87 := Go.Tm.enters_of Tryz.func87 (by kernel_rfl)
theorem g87 : Go.Tm.Good Tryz.prog 87 c87 := Go.Tm.good_of (C := C87) mx (table_ok tt_ok) (TreeOk.node (TreeOk.node (TreeOk.leaf ⟨g86, n86⟩) (TreeOk.leaf ⟨g138, n138⟩)) (TreeOk.node (TreeOk.leaf ⟨g140, n140⟩) (TreeOk.leaf ⟨g141, n141⟩))) Tryz.func87 q87
theorem n88 : Go.Tm.Enters Tryz.prog 88 := Go.Tm.enters_of Tryz.func88 (by kernel_rfl)
theorem g88 : Go.Tm.Good Tryz.prog 88 c88 := Go.Tm.good_of (C := C88) mx (table_ok tt_ok) (TreeOk.node (TreeOk.node (TreeOk.leaf ⟨g86, n86⟩) (TreeOk.leaf ⟨g140, n140⟩)) (TreeOk.node (TreeOk.leaf ⟨g141, n141⟩) (TreeOk.leaf ⟨g142, n142⟩))) Tryz.func88 q88
theorem n24 : Go.Tm.Enters Tryz.prog 24 := Go.Tm.enters_of Tryz.func24 (by kernel_rfl)
theorem g24 : Go.Tm.Good Tryz.prog 24 c24 := Go.Tm.good_of (C := C24) mx (table_ok tt_ok) (TreeOk.node (TreeOk.node (TreeOk.node (TreeOk.leaf ⟨g81, n81⟩) (TreeOk.leaf ⟨g82, n82⟩)) (TreeOk.node (TreeOk.leaf ⟨g83, n83⟩) (TreeOk.leaf ⟨g84, n84⟩))) (TreeOk.node (TreeOk.node (TreeOk.leaf ⟨g85, n85⟩) (TreeOk.leaf ⟨g86, n86⟩)) (TreeOk.node (TreeOk.leaf ⟨g87, n87⟩) (TreeOk.leaf ⟨g88, n88⟩)))) Tryz.func24 q24
theorem n25 : Go.Tm.Enters Tryz.prog 25 := Go.Tm.enters_of Tryz.func25 (by kernel_rfl)
theorem g25 : Go.Tm.Good Tryz.prog 25 c25 := Go.Tm.good_of (C := C25) mx (table_ok tt_ok) (TreeOk.node (TreeOk.leaf ⟨g83, n83⟩) (TreeOk.leaf ⟨g89, n89⟩)) Tryz.func25 q25
theorem n6 : Go.Tm.Enters Tryz.prog 6 := Go.Tm.enters_of Tryz.func6 (by kernel_rfl)
theorem g6 : Go.Tm.Good Tryz.prog 6 c6 := Go.Tm.good_of (C := C6) mx (table_ok tt_ok) (TreeOk.node (TreeOk.leaf ⟨g23, n23⟩) (TreeOk.node (TreeOk.leaf ⟨g24, n24⟩) (TreeOk.leaf ⟨g25, n25⟩))) Tryz.func6 q6
theorem n175 : Go.Tm.Enters Tryz.prog 175 := Go.Tm.enters_of Tryz.func175 (by kernel_rfl)
theorem g175 : Go.Tm.Good Tryz.prog 175 c175 := Go.Tm.good_of (C := C175) mx (table_ok tt_ok) TreeOk.nil Tryz.func175 q175
theorem n144 : Go.Tm.Enters Tryz.prog 144 := Go.Tm.enters_of Tryz.func144 (by kernel_rfl)
theorem g144 : Go.Tm.Good Tryz.prog 144 c144 := Go.Tm.good_of (C := C144) mx (table_ok tt_ok) (TreeOk.leaf ⟨g175, n175⟩) Tryz.func144 q144
theorem n97 : Go.Tm.Enters Tryz.prog 97 := Go.Tm.enters_of Tryz.func97 (by kernel_rfl)
theorem g97 : Go.Tm.Good Tryz.prog 97 c97 := Go.Tm.good_of (C := C97) mx (table_ok tt_ok) (TreeOk.leaf ⟨g144, n144⟩) Tryz.func97 q97
theorem n98 : Go.Tm.Enters Tryz.prog 98 := Go.Tm.enters_of Tryz.func98 (by kernel_rfl)
theorem g98 : Go.Tm.Good Tryz.prog 98 c98 := Go.Tm.good_of (C := C98) mx (table_ok tt_ok) TreeOk.nil Tryz.func98 q98
theorem n146 : Go.Tm.Enters Tryz.prog 146 := Go.Tm.enters_of Tryz.func146 (by kernel_rfl)
theorem g146 : Go.Tm.Good Tryz.prog 146 c146 := Go.Tm.good_of (C := C146) mx (table_ok tt_ok) TreeOk.nil Tryz.func146 q146
theorem n100 : Go.Tm.Enters Tryz.prog 100 := Go.Tm.enters_of Tryz.func100 (by kernel_rfl)
theorem g100 : Go.Tm.Good Tryz.prog 100 c100 := Go.Tm.good_of (C := C100) mx (table_ok tt_ok) (TreeOk.leaf ⟨g146, n146⟩) Tryz.func100 q100
theorem n104 : Go.Tm.Enters Tryz.prog 104 := Go.Tm.enters_of Tryz.func104 (by kernel_rfl)
theorem g104 : Go.Tm.Good Tryz.prog 104 c104 := Go.Tm.good_of (C := C104) mx (table_ok tt_ok) TreeOk.nil Tryz.func104 q104
theorem n101 : Go.Tm.Enters Tryz.prog 101 := Go.Tm.enters_of Tryz.func101 (by kernel_rfl)
theorem g101 : Go.Tm.Good Tryz.prog 101 c101 := Go.Tm.good_of (C := C101) mx (table_ok tt_ok) (TreeOk.node (TreeOk.leaf ⟨g104, n104⟩) (TreeOk.leaf ⟨g146, n146⟩)) Tryz.func101 q101
theorem n105 : Go.Tm.Enters Tryz.prog 105 := Go.Tm.enters_of Tryz.func105 (by kernel_rfl)
theorem g105 : Go.Tm.Good Tryz.prog 105 c105 := Go.Tm.good_of (C := C105) mx (table_ok tt_ok) TreeOk.nil Tryz.func105 q105
theorem n145 : Go.Tm.Enters Tryz.prog 145 := Go.Tm.enters_of Tryz.func145 (by kernel_rfl)
theorem g145 : Go.Tm.Good Tryz.prog 145 c145 := Go.Tm.good_of (C := C145) mx (table_ok tt_ok) (TreeOk.node (TreeOk.node (TreeOk.leaf ⟨g98, n98⟩) (TreeOk.leaf ⟨g100, n100⟩)) (TreeOk.node (TreeOk.leaf ⟨g101, n101⟩) (TreeOk.leaf ⟨g105, n105⟩))) Tryz.func145 q145
theorem n99 : Go.Tm.Enters Tryz.prog 99 := Go.Tm.enters_of Tryz.func99 (by kernel_rfl)
theorem g99 : Go.Tm.Good Tryz.prog 99 c99 := Go.Tm.good_of (C := C99) mx (table_ok tt_ok) (TreeOk.leaf ⟨g145, n145⟩) Tryz.func99 q99
theorem n102 : Go.Tm.Enters Tryz.prog 102 := Go.Tm.enters_of Tryz.func102 (by kernel_rfl)
theorem g102 : Go.Tm.Good Tryz.prog 102 c102 := Go.Tm.good_of (C := C102) mx (table_ok tt_ok) TreeOk.nil Tryz.func102 q102
theorem n103 : Go.Tm.Enters Tryz.prog 103 := Go.Tm.enters_of Tryz.func103 (by kernel_rfl)
theorem g103 : Go.Tm.Good Tryz.prog 103 c103 := Go.Tm.good_of (C := C103) mx (table_ok tt_ok) TreeOk.nil Tryz.func103 q103
theorem n106 : Go.Tm.Enters Tryz.prog 106 := Go.Tm.enters_of Tryz.func106 (by kernel_rfl)
theorem g106 : Go.Tm.Good Tryz.prog 106 c106 := Go.Tm.good_of (C := C106) mx (table_ok tt_ok) (TreeOk.node (TreeOk.leaf ⟨g99, n99⟩) (TreeOk.leaf ⟨g100, n100⟩)) Tryz.func106 q106
theorem n36 : Go.Tm.Enters Tryz.prog 36 := Go.Tm.enters_of Tryz.func36 (by kernel_rfl)
theorem g36 : Go.Tm.Good Tryz.prog 36 c36 := Go.Tm.good_of (C := C36) mx (table_ok tt_ok) (TreeOk.node (TreeOk.node (TreeOk.node (TreeOk.leaf ⟨g97, n97⟩) (TreeOk.leaf ⟨g98, n98⟩)) (TreeOk.node (TreeOk.leaf ⟨g99, n99⟩) (TreeOk.node (TreeOk.leaf ⟨g100, n100⟩) (TreeOk.leaf ⟨g101, n101⟩)))) (TreeOk.node (TreeOk.node (TreeOk.leaf ⟨g102, n102⟩) (TreeOk.leaf ⟨g103, n103⟩)) (TreeOk.node (TreeOk.leaf ⟨g104, n104⟩) (TreeOk.node (TreeOk.leaf ⟨g105, n105⟩) (TreeOk.leaf ⟨g106, n106⟩))))) Tryz.func36 q36
theorem n111 : Go.Tm.Enters Tryz.prog 111 := Go.Tm.enters_of Tryz.func111 (by kernel_rfl)
theorem g111 : Go.Tm.Good Tryz.prog 111 c111 := Go.Tm.good_of (C := C111) mx (table_ok tt_ok) TreeOk.nil Tryz.func111 q111
theorem n107 : Go.Tm.Enters Tryz.prog 107 := Go.Tm.enters_of Tryz.func107 (by kernel_rfl)
theorem g107 : Go.Tm.Good Tryz.prog 107 c107 := Go.Tm.good_of (C := C107) mx (table_ok tt_ok) (TreeOk.leaf ⟨g111, n111⟩) Tryz.func107 q107
theorem n192 : Go.Tm.Enters Tryz.prog 192 := Go.Tm.enters_of Tryz.func192 (by kernel_rfl)
theorem g192 : Go.Tm.Good Tryz.prog 192 c192 := Go.Tm.good_of (C := C192) mx (table_ok tt_ok) (TreeOk.leaf ⟨g111, n111⟩) Tryz.func192 q192
theorem n176 : Go.Tm.Enters Tryz.prog 176 := Go.Tm.enters_of Tryz.func176 (by kernel_rfl)
theorem g176 : Go.Tm.Good Tryz.prog 176 c176 := Go.Tm.good_of (C := C176) mx (table_ok tt_ok) (TreeOk.node (TreeOk.leaf ⟨g107, n107⟩) (TreeOk.node (TreeOk.leaf ⟨g111, n111⟩) (TreeOk.leaf ⟨g192, n192⟩))) Tryz.func176 q176
theorem n177 : Go.Tm.Enters Tryz.prog 177 := Go.Tm.enters_of Tryz.func177 (by kernel_rfl)
theorem g177 : Go.Tm.Good Tryz.prog 177 c177 := Go.Tm.good_of (C := C177) mx (table_ok tt_ok) TreeOk.nil Tryz.func177 q177
theorem n147 : Go.Tm.Enters Tryz.prog 147 := Go.Tm.enters_of Tryz.func147 (by kernel_rfl)
theorem g147 : Go.Tm.Good Tryz.prog 147 c147 := Go.Tm.good_of (C := C147) mx (table_ok tt_ok) (TreeOk.node (TreeOk.leaf ⟨g176, n176⟩) (TreeOk.leaf ⟨g177, n177⟩)) Tryz.func147 q147
theorem n108 : Go.Tm.Enters Tryz.prog 108 := Go.Tm.enters_of Tryz.func108 (by kernel_rfl)
theorem g108 : Go.Tm.Good Tryz.prog 108 c108 := Go.Tm.good_of (C := C108) mx (table_ok tt_ok) (TreeOk.node (TreeOk.leaf ⟨g111, n111⟩) (TreeOk.leaf ⟨g147, n147⟩)) Tryz.func108 q108
theorem n109 : Go.Tm.Enters Tryz.prog 109 := Go.Tm.enters_of Tryz.func109 (by kernel_rfl)
theorem g109 : Go.Tm.Good Tryz.prog 109 c109 := Go.Tm.good_of (C := C109) mx (table_ok tt_ok) (TreeOk.node (TreeOk.leaf ⟨g107, n107⟩) (TreeOk.leaf ⟨g111, n111⟩)) Tryz.func109 q109
theorem n117 : Go.Tm.Enters Tryz.prog 117 := Go.Tm.enters_of Tryz.func117 (by kernel_rfl)
theorem g117 : Go.Tm.Good Tryz.prog 117 c117 := Go.Tm.good_of (C := C117) mx (table_ok tt_ok) (TreeOk.node (TreeOk.leaf ⟨g107, n107⟩) (TreeOk.leaf ⟨g111, n111⟩)) Tryz.func117 q117
theorem n185 : Go.Tm.Enters Tryz.prog 185 := Go.Tm.enters_of Tryz.func185 (by kernel_rfl)
theorem g185 : Go.Tm.Good Tryz.prog 185 c185 := Go.Tm.good_of (C := C185) mx (table_ok tt_ok) TreeOk.nil Tryz.func185 q185
theorem n158 : Go.Tm.Enters Tryz.prog 158 := Go.Tm.enters_of Tryz.func158 (by kernel_rfl)
theorem g158 : Go.Tm.Good Tryz.prog 158 c158 := Go.Tm.good_of (C := C158) mx (table_ok tt_ok) (TreeOk.leaf ⟨g185, n185⟩) Tryz.func158 q158
theorem n186 : Go.Tm.Enters Tryz.prog 186 := Go.Tm.enters_of Tryz.func186 (by kernel_rfl)
theorem g186 : Go.Tm.Good Tryz.prog 186 c186 := Go.Tm.good_of (C := C186) mx (table_ok tt_ok) TreeOk.nil Tryz.func186 q186
theorem n159 : Go.Tm.Enters Tryz.prog 159 := Go.Tm.enters_of Tryz.func159 (by kernel_rfl)
theorem g159 : Go.Tm.Good Tryz.prog 159 c159 := Go.Tm.good_of (C := C159) mx (table_ok tt_ok) (TreeOk.leaf ⟨g186, n186⟩) Tryz.func159 q159
theorem n157 : Go.Tm.Enters Tryz.prog 157 := Go.Tm.enters_of Tryz.func157 (by kernel_rfl)
theorem g157 : Go.Tm.Good Tryz.prog 157 c157 := Go.Tm.good_of (C := C157) mx (table_ok tt_ok) TreeOk.nil Tryz.func157 q157
theorem n116 : Go.Tm.Enters Tryz.prog 116 := Go.Tm.enters_of Tryz.func116 (by kernel_rfl)
theorem g116 : Go.Tm.Good Tryz.prog 116 c116 := Go.Tm.good_of (C := C116) mx (table_ok tt_ok) (TreeOk.node (TreeOk.leaf ⟨g157, n157⟩) (TreeOk.node (TreeOk.leaf ⟨g158, n158⟩) (TreeOk.leaf ⟨g159, n159⟩))) Tryz.func116 q116
theorem n148 : Go.Tm.Enters Tryz.prog 148 := Go.Tm.enters_of Tryz.func148 (by kernel_rfl)
theorem g148 : Go.Tm.Good Tryz.prog 148 c148 := Go.Tm.good_of (C := C148) mx (table_ok tt_ok) (TreeOk.leaf ⟨g116, n116⟩) Tryz.func148 q148
theorem n110 : Go.Tm.Enters Tryz.prog 110 := Go.Tm.enters_of Tryz.func110 (by kernel_rfl)
theorem g110 : Go.Tm.Good Tryz.prog 110 c110 := Go.Tm.good_of (C := C110) mx (table_ok tt_ok) (TreeOk.node (TreeOk.leaf ⟨g117, n117⟩) (TreeOk.leaf ⟨g148, n148⟩)) Tryz.func110 q110
theorem n149 : Go.Tm.Enters Tryz.prog 149 := Go.Tm.enters_of Tryz.func149 (by kernel_rfl)
theorem g149 : Go.Tm.Good Tryz.prog 149 c149 := Go.Tm.good_of (C := C149) mx (table_ok tt_ok) TreeOk.nil Tryz.func149 q149
theorem n178 : Go.Tm.Enters Tryz.prog 178 := Go.Tm.enters_of Tryz.func178 (by kernel_rfl)
theorem g178 : Go.Tm.Good Tryz.prog 178 c178 := Go.Tm.good_of (C := C178) mx (table_ok tt_ok) (TreeOk.leaf ⟨g107, n107⟩) Tryz.func178 q178
theorem n150 : Go.Tm.Enters Tryz.prog 150 := Go.Tm.enters_of Tryz.func150 (by kernel_rfl)
theorem g150 : Go.Tm.Good Tryz.prog 150 c150 := Go.Tm.good_of (C := C150) mx (table_ok tt_ok) (TreeOk.node (TreeOk.leaf ⟨g111, n111⟩) (TreeOk.node (TreeOk.leaf ⟨g149, n149⟩) (TreeOk.leaf ⟨g178, n178⟩))) Tryz.func150 q150
theorem n198 : Go.Tm.Enters Tryz.prog 198 := Go.Tm.enters_of Tryz.func198 (by kernel_rfl)
theorem g198 : Go.Tm.Good Tryz.prog 198 c198 := Go.Tm.good_of (C := C198) mx (table_ok tt_ok) TreeOk.nil Tryz.func198 q198
theorem n193 : Go.Tm.Enters Tryz.prog 193 := Go.Tm.enters_of Tryz.func193 (by kernel_rfl)
theorem g193 : Go.Tm.Good Tryz.prog 193 c193 := Go.Tm.good_of (C := C193) mx (table_ok tt_ok) (TreeOk.leaf ⟨g198, n198⟩) Tryz.func193 q193
theorem n179 : Go.Tm.Enters Tryz.prog 179 := Go.Tm.enters_of Tryz.func179 (by kernel_rfl)
theorem g179 : Go.Tm.Good Tryz.prog 179 c179 := Go.Tm.good_of (C := C179) mx (table_ok tt_ok) (TreeOk.leaf ⟨g193, n193⟩) Tryz.func179 q179
theorem n180 : Go.Tm.Enters Tryz.prog 180 := Go.Tm.enters_of Tryz.func180 (by kernel_rfl)
theorem g180 : Go.Tm.Good Tryz.prog 180 c180 := Go.Tm.good_of (C := C180) mx (table_ok tt_ok) TreeOk.nil Tryz.func180 q180
theorem n151 : Go.Tm.Enters Tryz.prog 151 := Go.Tm.enters_of Tryz.func151 (by kernel_rfl)
theorem g151 : Go.Tm.Good Tryz.prog 151 c151 := Go.Tm.good_of (C := C151) mx (table_ok tt_ok) (TreeOk.node (TreeOk.leaf ⟨g179, n179⟩) (TreeOk.leaf ⟨g180, n180⟩)) Tryz.func151 q151
theorem n199 : Go.Tm.Enters Tryz.prog 199 := Go.Tm.enters_of Tryz.func199 (by kernel_rfl)
theorem g199 : Go.Tm.Good Tryz.prog 199 c199 := Go.Tm.good_of (C := C199) mx (table_ok tt_ok) TreeOk.nil Tryz.func199 q199
theorem n194 : Go.Tm.Enters Tryz.prog 194 := Go.Tm.enters_of Tryz.func194 (by kernel_rfl)
theorem g194 : Go.Tm.Good Tryz.prog 194 c194 := Go.Tm.good_of (C := C194) mx (table_ok tt_ok) (TreeOk.leaf ⟨g199, n199⟩) Tryz.func194 q194
theorem n195 : Go.Tm.Enters Tryz.prog 195 := Go.Tm.enters_of Tryz.func195 (by kernel_rfl)
theorem g195 : Go.Tm.Good Tryz.prog 195 c195 := Go.Tm.good_of (C := C195) mx (table_ok tt_ok) TreeOk.nil Tryz.func195 q195
theorem n181 : Go.Tm.Enters Tryz.prog 181 := Go.Tm.enters_of Tryz.func181 (by kernel_rfl)
theorem g181 : Go.Tm.Good Tryz.prog 181 c181 := Go.Tm.good_of (C := C181) mx (table_ok tt_ok) (TreeOk.node (TreeOk.leaf ⟨g194, n194⟩) (TreeOk.leaf ⟨g195, n195⟩)) Tryz.func181 q181
theorem n152 : Go.Tm.Enters Tryz.prog 152 := Go.Tm.enters_of Tryz.func152 (by kernel_rfl)
theorem g152 : Go.Tm.Good Tryz.prog 152 c152 := Go.Tm.good_of (C := C152) mx (table_ok tt_ok) (TreeOk.leaf ⟨g181, n181⟩) Tryz.func152 q152
theorem n112 : Go.Tm.Enters Tryz.prog 112 := Go.Tm.enters_of Tryz.func112 (by kernel_rfl)
theorem g112 : Go.Tm.Good Tryz.prog 112 c112 := Go.Tm.good_of (C := C112) mx (table_ok tt_ok) (TreeOk.node (TreeOk.node (TreeOk.leaf ⟨g149, n149⟩) (TreeOk.leaf ⟨g150, n150⟩)) (TreeOk.node (TreeOk.leaf ⟨g151, n151⟩) (TreeOk.leaf ⟨g152, n152⟩))) Tryz.func112 q112
theorem n153 : Go.Tm.Enters Tryz.prog 153 := Go.Tm.enters_of Tryz.func153 (by kernel_rfl)
theorem g153 : Go.Tm.Good Tryz.prog 153 c153 := Go.Tm.good_of (C := C153) mx (table_ok tt_ok) TreeOk.nil Tryz.func153 q153
theorem n154 : Go.Tm.Enters Tryz.prog 154 := Go.Tm.enters_of Tryz.func154 (by kernel_rfl)
theorem g154 : Go.Tm.Good Tryz.prog 154 c154 := Go.Tm.good_of (C := C154) mx (table_ok tt_ok) (TreeOk.node (TreeOk.leaf ⟨g111, n111⟩) (TreeOk.node (TreeOk.leaf ⟨g153, n153⟩) (TreeOk.leaf ⟨g178, n178⟩))) Tryz.func154 q154
theorem n113 : Go.Tm.Enters Tryz.prog 113 := Go.Tm.enters_of Tryz.func113 (by kernel_rfl)
theorem g113 : Go.Tm.Good Tryz.prog 113 c113 := Go.Tm.good_of (C := C113) mx (table_ok tt_ok) (TreeOk.node (TreeOk.node (TreeOk.leaf ⟨g151, n151⟩) (TreeOk.leaf ⟨g152, n152⟩)) (TreeOk.node (TreeOk.leaf ⟨g153, n153⟩) (TreeOk.leaf ⟨g154, n154⟩))) Tryz.func113 q113
theorem n182 : Go.Tm.Enters Tryz.prog 182 := Go.Tm.enters_of Tryz.func182 (by kernel_rfl)
theorem g182 : Go.Tm.Good Tryz.prog 182 c182 := Go.Tm.good_of (C := C182) mx (table_ok tt_ok) (TreeOk.leaf ⟨g117, n117⟩) Tryz.func182 q182
theorem n155 : Go.Tm.Enters Tryz.prog 155 := Go.Tm.enters_of Tryz.func155 (by kernel_rfl)
theorem g155 : Go.Tm.Good Tryz.prog 155 c155 := Go.Tm.good_of (C := C155) mx (table_ok tt_ok) (TreeOk.node (TreeOk.node (TreeOk.leaf ⟨g107, n107⟩) (TreeOk.node (TreeOk.leaf ⟨g109, n109⟩) (TreeOk.leaf ⟨g111, n111⟩))) (TreeOk.node (TreeOk.leaf ⟨g150, n150⟩) (TreeOk.node (TreeOk.leaf ⟨g154, n154⟩) (TreeOk.leaf ⟨g182, n182⟩)))) Tryz.func155 q155
theorem n183 : Go.Tm.Enters Tryz.prog 183 := Go.Tm.enters_of Tryz.func183 (by kernel_rfl)
theorem g183 : Go.Tm.Good Tryz.prog 183 c183 := Go.Tm.good_of (C := C183) mx (table_ok tt_ok) TreeOk.nil Tryz.func183 q183
theorem n184 : Go.Tm.Enters Tryz.prog 184 := Go.Tm.enters_of Tryz.func184 (by kernel_rfl)
theorem g184 : Go.Tm.Good Tryz.prog 184 c184 := Go.Tm.good_of (C := C184) mx (table_ok tt_ok) TreeOk.nil Tryz.func184 q184
theorem n156 : Go.Tm.Enters Tryz.prog 156 := Go.Tm.enters_of Tryz.func156 (by kernel_rfl)
theorem g156 : Go.Tm.Good Tryz.prog 156 c156 := Go.Tm.good_of (C := C156) mx (table_ok tt_ok) (TreeOk.node (TreeOk.leaf ⟨g183, n183⟩) (TreeOk.leaf ⟨g184, n184⟩)) Tryz.func156 q156
theorem n114 : Go.Tm.Enters Tryz.prog 114 := Go.Tm.enters_of Tryz.func114 (by kernel_rfl)
theorem g114 : Go.Tm.Good Tryz.prog 114 c114 := Go.Tm.good_of (C := C114) mx (table_ok tt_ok) (TreeOk.node (TreeOk.leaf ⟨g149, n149⟩) (TreeOk.node (TreeOk.leaf ⟨g155, n155⟩) (TreeOk.leaf ⟨g156, n156⟩))) Tryz.func114 q114
theorem n37 : Go.Tm.Enters Tryz.prog 37 := Go.Tm.enters_of Tryz.func37 (by kernel_rfl)
theorem g37 : Go.Tm.Good Tryz.prog 37 c37 := Go.Tm.good_of (C := C37) mx (table_ok tt_ok) (TreeOk.node (TreeOk.node (TreeOk.node (TreeOk.leaf ⟨g107, n107⟩) (TreeOk.leaf ⟨g108, n108⟩)) (TreeOk.node (TreeOk.leaf ⟨g109, n109⟩) (TreeOk.leaf ⟨g110, n110⟩))) (TreeOk.node (TreeOk.node (TreeOk.leaf ⟨g111, n111⟩) (TreeOk.leaf ⟨g112, n112⟩)) (TreeOk.node (TreeOk.leaf ⟨g113, n113⟩) (TreeOk.leaf ⟨g114, n114⟩)))) Tryz.func37 q37
theorem n115 : Go.Tm.Enters Tryz.prog 115 := Go.Tm.enters_of Tryz.func115 (by kernel_rfl)
theorem g115 : Go.Tm.Good Tryz.prog 115 c115 := Go.Tm.good_of (C := C115) mx (table_ok tt_ok) TreeOk.nil Tryz.func115 q115
noncomputable def r118 : Go.Shelf.Ren := ⟨fun n => match n with | 22 => 118 | 29 => 160 | 30 => 161 | n => n, fun n => match n with | 9 => 59 | 24 => 52 | n => n, fun n => n⟩
theorem L118 : InsL Tryz.prog r118 Tryz.f118.name 5 56 (.agg #[.int .i64 0, .string ByteArray.empty, .string ByteArray.empty, .int .i64 0, .int .i64 0]) where
  mixed := by kernel_rfl
  f22 := by kernel_rfl
  ov := fun args w => run_callFunc_extern Tryz.func160 (by kernel_rfl) (by kernel_rfl) (by kernel_rfl) (by kernel_rfl) args w
  t0 := by kernel_rfl
  a0 := fun w => by kernel_rfl
  z0 := fun w => by kernel_rfl
  v0 := fun w => by kernel_rfl
  t3 := by kernel_rfl
  a3 := fun w => by kernel_rfl
  z3 := fun w => by kernel_rfl
  v3 := fun w => by kernel_rfl
  t4 := by kernel_rfl
  a4 := fun w => by kernel_rfl
  z4 := fun w => by kernel_rfl
  v4 := fun w => by kernel_rfl
  t24 := by kernel_rfl
  a24 := fun w => by kernel_rfl
  z24 := fun w => by kernel_rfl
  v24 := fun w => by kernel_rfl
  z9 := fun w => by kernel_rfl
  i9 := by kernel_rfl
theorem n118 : Go.Tm.Enters Tryz.prog 118 := Go.Tm.enters_of Tryz.func118 (by kernel_rfl)
theorem g118 : Go.Tm.Good Tryz.prog 118 c118 := Go.Tm.good_insert (es := e59) (ms := []) L118 rfl (by decide) rfl
theorem n38 : Go.Tm.Enters Tryz.prog 38 := Go.Tm.enters_of Tryz.func38 (by kernel_rfl)
theorem g38 : Go.Tm.Good Tryz.prog 38 c38 := Go.Tm.good_of (C := C38) mx (table_ok tt_ok) (TreeOk.node (TreeOk.node (TreeOk.leaf ⟨g105, n105⟩) (TreeOk.node (TreeOk.leaf ⟨g110, n110⟩) (TreeOk.leaf ⟨g115, n115⟩))) (TreeOk.node (TreeOk.leaf ⟨g116, n116⟩) (TreeOk.node (TreeOk.leaf ⟨g117, n117⟩) (TreeOk.leaf ⟨g118, n118⟩)))) Tryz.func38 q38
theorem n9 : Go.Tm.Enters Tryz.prog 9 := Go.Tm.enters_of Tryz.func9 (by kernel_rfl)
theorem g9 : Go.Tm.Good Tryz.prog 9 c9 := Go.Tm.good_of (C := C9) mx (table_ok tt_ok) (TreeOk.node (TreeOk.leaf ⟨g36, n36⟩) (TreeOk.node (TreeOk.leaf ⟨g37, n37⟩) (TreeOk.leaf ⟨g38, n38⟩))) Tryz.func9 q9
theorem n197 : Go.Tm.Enters Tryz.prog 197 := Go.Tm.enters_of Tryz.func197 (by kernel_rfl)
theorem g197 : Go.Tm.Good Tryz.prog 197 c197 := Go.Tm.good_of (C := C197) mx (table_ok tt_ok) TreeOk.nil Tryz.func197 q197
theorem n188 : Go.Tm.Enters Tryz.prog 188 := Go.Tm.enters_of Tryz.func188 (by kernel_rfl)
theorem g188 : Go.Tm.Good Tryz.prog 188 c188 := Go.Tm.good_of (C := C188) mx (table_ok tt_ok) (TreeOk.leaf ⟨g197, n197⟩) Tryz.func188 q188
theorem n162 : Go.Tm.Enters Tryz.prog 162 := Go.Tm.enters_of Tryz.func162 (by kernel_rfl)
theorem g162 : Go.Tm.Good Tryz.prog 162 c162 := Go.Tm.good_of (C := C162) mx (table_ok tt_ok) (TreeOk.leaf ⟨g188, n188⟩) Tryz.func162 q162
theorem n119 : Go.Tm.Enters Tryz.prog 119 := Go.Tm.enters_of Tryz.func119 (by kernel_rfl)
theorem g119 : Go.Tm.Good Tryz.prog 119 c119 := Go.Tm.good_of (C := C119) mx (table_ok tt_ok) (TreeOk.leaf ⟨g162, n162⟩) Tryz.func119 q119
theorem n39 : Go.Tm.Enters Tryz.prog 39 := Go.Tm.enters_of Tryz.func39 (by kernel_rfl)
theorem g39 : Go.Tm.Good Tryz.prog 39 c39 := Go.Tm.good_of (C := C39) mx (table_ok tt_ok) (TreeOk.leaf ⟨g119, n119⟩) Tryz.func39 q39
theorem n120 : Go.Tm.Enters Tryz.prog 120 := Go.Tm.enters_of Tryz.func120 (by kernel_rfl)
theorem g120 : Go.Tm.Good Tryz.prog 120 c120 := Go.Tm.good_of (C := C120) mx (table_ok tt_ok) TreeOk.nil Tryz.func120 q120
theorem n40 : Go.Tm.Enters Tryz.prog 40 := Go.Tm.enters_of Tryz.func40 (by kernel_rfl)
theorem g40 : Go.Tm.Good Tryz.prog 40 c40 := Go.Tm.good_of (C := C40) mx (table_ok tt_ok) (TreeOk.leaf ⟨g120, n120⟩) Tryz.func40 q40
theorem n122 : Go.Tm.Enters Tryz.prog 122 := Go.Tm.enters_of Tryz.func122 (by kernel_rfl)
theorem g122 : Go.Tm.Good Tryz.prog 122 c122 := Go.Tm.good_of (C := C122) mx (table_ok tt_ok) TreeOk.nil Tryz.func122 q122
theorem n42 : Go.Tm.Enters Tryz.prog 42 := Go.Tm.enters_of Tryz.func42 (by kernel_rfl)
theorem g42 : Go.Tm.Good Tryz.prog 42 c42 := Go.Tm.good_of (C := C42) mx (table_ok tt_ok) (TreeOk.leaf ⟨g122, n122⟩) Tryz.func42 q42
theorem n46 : Go.Tm.Enters Tryz.prog 46 := Go.Tm.enters_of Tryz.func46 (by kernel_rfl)
theorem g46 : Go.Tm.Good Tryz.prog 46 c46 := Go.Tm.good_of (C := C46) mx (table_ok tt_ok) TreeOk.nil Tryz.func46 q46
theorem n43 : Go.Tm.Enters Tryz.prog 43 := Go.Tm.enters_of Tryz.func43 (by kernel_rfl)
theorem g43 : Go.Tm.Good Tryz.prog 43 c43 := Go.Tm.good_of (C := C43) mx (table_ok tt_ok) (TreeOk.node (TreeOk.leaf ⟨g46, n46⟩) (TreeOk.leaf ⟨g122, n122⟩)) Tryz.func43 q43
theorem n125 : Go.Tm.Enters Tryz.prog 125 := Go.Tm.enters_of Tryz.func125 (by kernel_rfl)
theorem g125 : Go.Tm.Good Tryz.prog 125 c125 := Go.Tm.good_of (C := C125) mx (table_ok tt_ok) TreeOk.nil Tryz.func125 q125
theorem n47 : Go.Tm.Enters Tryz.prog 47 := Go.Tm.enters_of Tryz.func47 (by kernel_rfl)
theorem g47 : Go.Tm.Good Tryz.prog 47 c47 := Go.Tm.good_of (C := C47) mx (table_ok tt_ok) (TreeOk.leaf ⟨g125, n125⟩) Tryz.func47 q47
theorem n121 : Go.Tm.Enters Tryz.prog 121 := Go.Tm.enters_of Tryz.func121 (by kernel_rfl)
theorem g121 : Go.Tm.Good Tryz.prog 121 c121 := Go.Tm.good_of (C := C121) mx (table_ok tt_ok) (TreeOk.node (TreeOk.node (TreeOk.leaf ⟨g40, n40⟩) (TreeOk.leaf ⟨g42, n42⟩)) (TreeOk.node (TreeOk.leaf ⟨g43, n43⟩) (TreeOk.leaf ⟨g47, n47⟩))) Tryz.func121 q121
theorem n41 : Go.Tm.Enters Tryz.prog 41 := Go.Tm.enters_of Tryz.func41 (by kernel_rfl)
theorem g41 : Go.Tm.Good Tryz.prog 41 c41 := Go.Tm.good_of (C := C41) mx (table_ok tt_ok) (TreeOk.leaf ⟨g121, n121⟩) Tryz.func41 q41
theorem n123 : Go.Tm.Enters Tryz.prog 123 := Go.Tm.enters_of Tryz.func123 (by kernel_rfl)
theorem g123 : Go.Tm.Good Tryz.prog 123 c123 := Go.Tm.good_of (C := C123) mx (table_ok tt_ok) TreeOk.nil Tryz.func123 q123
theorem n44 : Go.Tm.Enters Tryz.prog 44 := Go.Tm.enters_of Tryz.func44 (by kernel_rfl)
theorem g44 : Go.Tm.Good Tryz.prog 44 c44 := Go.Tm.good_of (C := C44) mx (table_ok tt_ok) (TreeOk.leaf ⟨g123, n123⟩) Tryz.func44 q44
theorem n124 : Go.Tm.Enters Tryz.prog 124 := Go.Tm.enters_of Tryz.func124 (by kernel_rfl)
theorem g124 : Go.Tm.Good Tryz.prog 124 c124 := Go.Tm.good_of (C := C124) mx (table_ok tt_ok) TreeOk.nil Tryz.func124 q124
theorem n45 : Go.Tm.Enters Tryz.prog 45 := Go.Tm.enters_of Tryz.func45 (by kernel_rfl)
theorem g45 : Go.Tm.Good Tryz.prog 45 c45 := Go.Tm.good_of (C := C45) mx (table_ok tt_ok) (TreeOk.leaf ⟨g124, n124⟩) Tryz.func45 q45
theorem n126 : Go.Tm.Enters Tryz.prog 126 := Go.Tm.enters_of Tryz.func126 (by kernel_rfl)
theorem g126 : Go.Tm.Good Tryz.prog 126 c126 := Go.Tm.good_of (C := C126) mx (table_ok tt_ok) (TreeOk.node (TreeOk.leaf ⟨g41, n41⟩) (TreeOk.leaf ⟨g42, n42⟩)) Tryz.func126 q126
theorem n48 : Go.Tm.Enters Tryz.prog 48 := Go.Tm.enters_of Tryz.func48 (by kernel_rfl)
theorem g48 : Go.Tm.Good Tryz.prog 48 c48 := Go.Tm.good_of (C := C48) mx (table_ok tt_ok) (TreeOk.leaf ⟨g126, n126⟩) Tryz.func48 q48
theorem n10 : Go.Tm.Enters Tryz.prog 10 := Go.Tm.enters_of Tryz.func10 (by kernel_rfl)
theorem g10 : Go.Tm.Good Tryz.prog 10 c10 := Go.Tm.good_of (C := C10) mx (table_ok tt_ok) (TreeOk.node (TreeOk.node (TreeOk.node (TreeOk.leaf ⟨g39, n39⟩) (TreeOk.leaf ⟨g40, n40⟩)) (TreeOk.node (TreeOk.leaf ⟨g41, n41⟩) (TreeOk.node (TreeOk.leaf ⟨g42, n42⟩) (TreeOk.leaf ⟨g43, n43⟩)))) (TreeOk.node (TreeOk.node (TreeOk.leaf ⟨g44, n44⟩) (TreeOk.leaf ⟨g45, n45⟩)) (TreeOk.node (TreeOk.leaf ⟨g46, n46⟩) (TreeOk.node (TreeOk.leaf ⟨g47, n47⟩) (TreeOk.leaf ⟨g48, n48⟩))))) Tryz.func10 q10
theorem n128 : Go.Tm.Enters Tryz.prog 128 := Go.Tm.enters_of Tryz.func128 (by kernel_rfl)
theorem g128 : Go.Tm.Good Tryz.prog 128 c128 := Go.Tm.good_of (C := C128) mx (table_ok tt_ok) TreeOk.nil Tryz.func128 q128
theorem n163 : Go.Tm.Enters Tryz.prog 163 := Go.Tm.enters_of Tryz.func163 (by kernel_rfl)
theorem g163 : Go.Tm.Good Tryz.prog 163 c163 := Go.Tm.good_of (C := C163) mx (table_ok tt_ok) TreeOk.nil Tryz.func163 q163
theorem n127 : Go.Tm.Enters Tryz.prog 127 := Go.Tm.enters_of Tryz.func127 (by kernel_rfl)
theorem g127 : Go.Tm.Good Tryz.prog 127 c127 := Go.Tm.good_of (C := C127) mx (table_ok tt_ok) (TreeOk.node (TreeOk.leaf ⟨g128, n128⟩) (TreeOk.leaf ⟨g163, n163⟩)) Tryz.func127 q127
theorem n49 : Go.Tm.Enters Tryz.prog 49 := Go.Tm.enters_of Tryz.func49 (by kernel_rfl)
theorem g49 : Go.Tm.Good Tryz.prog 49 c49 := Go.Tm.good_of (C := C49) mx (table_ok tt_ok) (TreeOk.leaf ⟨g127, n127⟩) Tryz.func49 q49
theorem n50 : Go.Tm.Enters Tryz.prog 50 := Go.Tm.enters_of Tryz.func50 (by kernel_rfl)
theorem g50 : Go.Tm.Good Tryz.prog 50 c50 := Go.Tm.good_of (C := C50) mx (table_ok tt_ok) (TreeOk.leaf ⟨g128, n128⟩) Tryz.func50 q50
theorem n129 : Go.Tm.Enters Tryz.prog 129 := Go.Tm.enters_of Tryz.func129 (by kernel_rfl)
theorem g129 : Go.Tm.Good Tryz.prog 129 c129 := Go.Tm.good_of (C := C129) mx (table_ok tt_ok) (TreeOk.leaf ⟨g128, n128⟩) Tryz.func129 q129
theorem n56 : Go.Tm.Enters Tryz.prog 56 := Go.Tm.enters_of Tryz.func56 (by kernel_rfl)
theorem g56 : Go.Tm.Good Tryz.prog 56 c56 := Go.Tm.good_of (C := C56) mx (table_ok tt_ok) TreeOk.nil Tryz.func56 q56
theorem n57 : Go.Tm.Enters Tryz.prog 57 := Go.Tm.enters_of Tryz.func57 (by kernel_rfl)
theorem g57 : Go.Tm.Good Tryz.prog 57 c57 := Go.Tm.good_of (C := C57) mx (table_ok tt_ok) (TreeOk.leaf ⟨g128, n128⟩) Tryz.func57 q57
theorem n51 : Go.Tm.Enters Tryz.prog 51 := Go.Tm.enters_of Tryz.func51 (by kernel_rfl)
theorem g51 : Go.Tm.Good Tryz.prog 51 c51 := Go.Tm.good_of (C := C51) mx (table_ok tt_ok) (TreeOk.node (TreeOk.node (TreeOk.leaf ⟨g50, n50⟩) (TreeOk.leaf ⟨g56, n56⟩)) (TreeOk.node (TreeOk.leaf ⟨g57, n57⟩) (TreeOk.node (TreeOk.leaf ⟨g128, n128⟩) (TreeOk.leaf ⟨g129, n129⟩)))) Tryz.func51 q51
theorem n52 : Go.Tm.Enters Tryz.prog 52 := Go.Tm.enters_of Tryz.func52 (by kernel_rfl)
theorem g52 : Go.Tm.Good Tryz.prog 52 c52 := Go.Tm.good_of (C := C52) mx (table_ok tt_ok) (TreeOk.leaf ⟨g129, n129⟩) Tryz.func52 q52
theorem n53 : Go.Tm.Enters Tryz.prog 53 := Go.Tm.enters_of Tryz.func53 (by kernel_rfl)
theorem g53 : Go.Tm.Good Tryz.prog 53 c53 := Go.Tm.good_of (C := C53) mx (table_ok tt_ok) (TreeOk.node (TreeOk.leaf ⟨g56, n56⟩) (TreeOk.leaf ⟨g129, n129⟩)) Tryz.func53 q53
theorem n54 : Go.Tm.Enters Tryz.prog 54 := Go.Tm.enters_of Tryz.func54 (by kernel_rfl)
theorem g54 : Go.Tm.Good Tryz.prog 54 c54 := Go.Tm.good_of (C := C54) mx (table_ok tt_ok) (TreeOk.leaf ⟨g128, n128⟩) Tryz.func54 q54
theorem n55 : Go.Tm.Enters Tryz.prog 55 := Go.Tm.enters_of Tryz.func55 (by kernel_rfl)
theorem g55 : Go.Tm.Good Tryz.prog 55 c55 := Go.Tm.good_of (C := C55) mx (table_ok tt_ok) (TreeOk.leaf ⟨g128, n128⟩) Tryz.func55 q55
theorem n58 : Go.Tm.Enters Tryz.prog 58 := Go.Tm.enters_of Tryz.func58 (by kernel_rfl)
theorem g58 : Go.Tm.Good Tryz.prog 58 c58 := Go.Tm.good_of (C := C58) mx (table_ok tt_ok) (TreeOk.node (TreeOk.leaf ⟨g51, n51⟩) (TreeOk.leaf ⟨g129, n129⟩)) Tryz.func58 q58
theorem n11 : Go.Tm.Enters Tryz.prog 11 := Go.Tm.enters_of Tryz.func11 (by kernel_rfl)
theorem g11 : Go.Tm.Good Tryz.prog 11 c11 := Go.Tm.good_of (C := C11) mx (table_ok tt_ok) (TreeOk.node (TreeOk.node (TreeOk.node (TreeOk.leaf ⟨g49, n49⟩) (TreeOk.leaf ⟨g50, n50⟩)) (TreeOk.node (TreeOk.leaf ⟨g51, n51⟩) (TreeOk.node (TreeOk.leaf ⟨g52, n52⟩) (TreeOk.leaf ⟨g53, n53⟩)))) (TreeOk.node (TreeOk.node (TreeOk.leaf ⟨g54, n54⟩) (TreeOk.leaf ⟨g55, n55⟩)) (TreeOk.node (TreeOk.leaf ⟨g56, n56⟩) (TreeOk.node (TreeOk.leaf ⟨g57, n57⟩) (TreeOk.leaf ⟨g58, n58⟩))))) Tryz.func11 q11
theorem n164 : Go.Tm.Enters Tryz.prog 164 := Go.Tm.enters_of Tryz.func164 (by kernel_rfl)
theorem g164 : Go.Tm.Good Tryz.prog 164 c164 := Go.Tm.good_of (C := C164) mx (table_ok tt_ok) TreeOk.nil Tryz.func164 q164
theorem n130 : Go.Tm.Enters Tryz.prog 130 := Go.Tm.enters_of Tryz.func130 (by kernel_rfl)
theorem g130 : Go.Tm.Good Tryz.prog 130 c130 := Go.Tm.good_of (C := C130) mx (table_ok tt_ok) (TreeOk.node (TreeOk.leaf ⟨g128, n128⟩) (TreeOk.leaf ⟨g164, n164⟩)) Tryz.func130 q130
theorem n59 : Go.Tm.Enters Tryz.prog 59 := Go.Tm.enters_of Tryz.func59 (by kernel_rfl)
theorem g59 : Go.Tm.Good Tryz.prog 59 c59 := Go.Tm.good_of (C := C59) mx (table_ok tt_ok) (TreeOk.leaf ⟨g130, n130⟩) Tryz.func59 q59
theorem n60 : Go.Tm.Enters Tryz.prog 60 := Go.Tm.enters_of Tryz.func60 (by kernel_rfl)
theorem g60 : Go.Tm.Good Tryz.prog 60 c60 := Go.Tm.good_of (C := C60) mx (table_ok tt_ok) (TreeOk.leaf ⟨g128, n128⟩) Tryz.func60 q60
theorem n131 : Go.Tm.Enters Tryz.prog 131 := Go.Tm.enters_of Tryz.func131 (by kernel_rfl)
theorem g131 : Go.Tm.Good Tryz.prog 131 c131 := Go.Tm.good_of (C := C131) mx (table_ok tt_ok) (TreeOk.leaf ⟨g128, n128⟩) Tryz.func131 q131
theorem n66 : Go.Tm.Enters Tryz.prog 66 := Go.Tm.enters_of Tryz.func66 (by kernel_rfl)
theorem g66 : Go.Tm.Good Tryz.prog 66 c66 := Go.Tm.good_of (C := C66) mx (table_ok tt_ok) TreeOk.nil Tryz.func66 q66
theorem n67 : Go.Tm.Enters Tryz.prog 67 := Go.Tm.enters_of Tryz.func67 (by kernel_rfl)
theorem g67 : Go.Tm.Good Tryz.prog 67 c67 := Go.Tm.good_of (C := C67) mx (table_ok tt_ok) (TreeOk.leaf ⟨g128, n128⟩) Tryz.func67 q67
theorem n61 : Go.Tm.Enters Tryz.prog 61 := Go.Tm.enters_of Tryz.func61 (by kernel_rfl)
theorem g61 : Go.Tm.Good Tryz.prog 61 c61 := Go.Tm.good_of (C := C61) mx (table_ok tt_ok) (TreeOk.node (TreeOk.node (TreeOk.leaf ⟨g60, n60⟩) (TreeOk.leaf ⟨g66, n66⟩)) (TreeOk.node (TreeOk.leaf ⟨g67, n67⟩) (TreeOk.node (TreeOk.leaf ⟨g128, n128⟩) (TreeOk.leaf ⟨g131, n131⟩)))) Tryz.func61 q61
theorem n62 : Go.Tm.Enters Tryz.prog 62 := Go.Tm.enters_of Tryz.func62 (by kernel_rfl)
theorem g62 : Go.Tm.Good Tryz.prog 62 c62 := Go.Tm.good_of (C := C62) mx (table_ok tt_ok) (TreeOk.leaf ⟨g131, n131⟩) Tryz.func62 q62
theorem n63 : Go.Tm.Enters Tryz.prog 63 := Go.Tm.enters_of Tryz.func63 (by kernel_rfl)
theorem g63 : Go.Tm.Good Tryz.prog 63 c63 := Go.Tm.good_of (C := C63) mx (table_ok tt_ok) (TreeOk.node (TreeOk.leaf ⟨g66, n66⟩) (TreeOk.leaf ⟨g131, n131⟩)) Tryz.func63 q63
theorem n64 : Go.Tm.Enters Tryz.prog 64 := Go.Tm.enters_of Tryz.func64 (by kernel_rfl)
theorem g64 : Go.Tm.Good Tryz.prog 64 c64 := Go.Tm.good_of (C := C64) mx (table_ok tt_ok) (TreeOk.leaf ⟨g128, n128⟩) Tryz.func64 q64
theorem n65 : Go.Tm.Enters Tryz.prog 65 := Go.Tm.enters_of Tryz.func65 (by kernel_rfl)
theorem g65 : Go.Tm.Good Tryz.prog 65 c65 := Go.Tm.good_of (C := C65) mx (table_ok tt_ok) (TreeOk.leaf ⟨g128, n128⟩) Tryz.func65 q65
theorem n68 : Go.Tm.Enters Tryz.prog 68 := Go.Tm.enters_of Tryz.func68 (by kernel_rfl)
theorem g68 : Go.Tm.Good Tryz.prog 68 c68 := Go.Tm.good_of (C := C68) mx (table_ok tt_ok) (TreeOk.node (TreeOk.leaf ⟨g61, n61⟩) (TreeOk.leaf ⟨g131, n131⟩)) Tryz.func68 q68
theorem n12 : Go.Tm.Enters Tryz.prog 12 := Go.Tm.enters_of Tryz.func12 (by kernel_rfl)
theorem g12 : Go.Tm.Good Tryz.prog 12 c12 := Go.Tm.good_of (C := C12) mx (table_ok tt_ok) (TreeOk.node (TreeOk.node (TreeOk.node (TreeOk.leaf ⟨g59, n59⟩) (TreeOk.leaf ⟨g60, n60⟩)) (TreeOk.node (TreeOk.leaf ⟨g61, n61⟩) (TreeOk.node (TreeOk.leaf ⟨g62, n62⟩) (TreeOk.leaf ⟨g63, n63⟩)))) (TreeOk.node (TreeOk.node (TreeOk.leaf ⟨g64, n64⟩) (TreeOk.leaf ⟨g65, n65⟩)) (TreeOk.node (TreeOk.leaf ⟨g66, n66⟩) (TreeOk.node (TreeOk.leaf ⟨g67, n67⟩) (TreeOk.leaf ⟨g68, n68⟩))))) Tryz.func12 q12
theorem n3 : Go.Tm.Enters Tryz.prog 3 := Go.Tm.enters_of Tryz.func3 (by kernel_rfl)
theorem g3 : Go.Tm.Good Tryz.prog 3 c3 := Go.Tm.good_of (C := C3) mx (table_ok tt_ok) (TreeOk.node (TreeOk.node (TreeOk.node (TreeOk.leaf ⟨g4, n4⟩) (TreeOk.leaf ⟨g5, n5⟩)) (TreeOk.node (TreeOk.leaf ⟨g6, n6⟩) (TreeOk.leaf ⟨g7, n7⟩))) (TreeOk.node (TreeOk.node (TreeOk.leaf ⟨g8, n8⟩) (TreeOk.leaf ⟨g9, n9⟩)) (TreeOk.node (TreeOk.leaf ⟨g10, n10⟩) (TreeOk.node (TreeOk.leaf ⟨g11, n11⟩) (TreeOk.leaf ⟨g12, n12⟩))))) Tryz.func3 q3
end Go.Proofs.YtmfeejonafjehaaGreat
