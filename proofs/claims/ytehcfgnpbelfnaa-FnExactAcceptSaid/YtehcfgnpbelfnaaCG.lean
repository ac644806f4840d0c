/- Each function does as its contract says. Conditions: none. -/

import Derived.Test.YtehcfgnpbelfnaaTm4
import Derived.Test.YtehcfgnpbelfnaaCF
namespace Go.Proofs.Ytehcfgnpbelfnaa
open Go Go.Tm
set_option linter.unusedVariables false
set_option maxRecDepth 100000
theorem mx : Try.prog.follows .mixedOrders = true := by kernel_rfl
theorem n88 : Enters Try.prog 88 := enters_of Try.func88 (by kernel_rfl)
theorem g88 : Good Try.prog 88 c88 := good_of (C := C88) mx (table_ok tt_ok) TreeOk.nil Try.func88 q88
theorem n45 : Enters Try.prog 45 := enters_of Try.func45 (by kernel_rfl)
theorem g45 : Good Try.prog 45 c45 := good_of (C := C45) mx (table_ok tt_ok) (TreeOk.leaf ⟨g88, n88⟩) Try.func45 q45
theorem n17 : Enters Try.prog 17 := enters_of Try.func17 (by kernel_rfl)
theorem g17 : Good Try.prog 17 c17 := good_of (C := C17) mx (table_ok tt_ok) (TreeOk.leaf ⟨g45, n45⟩) Try.func17 q17
theorem n66 : Enters Try.prog 66 := enters_of Try.func66 (by kernel_rfl)
theorem g66 : Good Try.prog 66 c66 := good_of (C := C66) mx (table_ok tt_ok) TreeOk.nil Try.func66 q66
theorem n47 : Enters Try.prog 47 := enters_of Try.func47 (by kernel_rfl)
theorem g47 : Good Try.prog 47 c47 := good_of (C := C47) mx (table_ok tt_ok) (TreeOk.leaf ⟨g66, n66⟩) Try.func47 q47
theorem n144 : Enters Try.prog 144 := enters_of Try.func144 (by kernel_rfl)
theorem g144 : Good Try.prog 144 c144 := good_of (C := C144) mx (table_ok tt_ok) TreeOk.nil Try.func144 q144
theorem n123 : Enters Try.prog 123 := enters_of Try.func123 (by kernel_rfl)
theorem g123 : Good Try.prog 123 c123 := good_of (C := C123) mx (table_ok tt_ok) (TreeOk.node (TreeOk.leaf ⟨g66, n66⟩) (TreeOk.leaf ⟨g144, n144⟩)) Try.func123 q123
theorem n164 : Enters Try.prog 164 := enters_of Try.func164 (by kernel_rfl)
theorem g164 : Good Try.prog 164 c164 := good_of (C := C164) mx (table_ok tt_ok) TreeOk.nil Try.func164 q164
theorem n124 : Enters Try.prog 124 := enters_of Try.func124 (by kernel_rfl)
theorem g124 : Good Try.prog 124 c124 := good_of (C := C124) mx (table_ok tt_ok) (TreeOk.leaf ⟨g164, n164⟩) Try.func124 q124
theorem n89 : Enters Try.prog 89 := enters_of Try.func89 (by kernel_rfl)
theorem g89 : Good Try.prog 89 c89 := good_of (C := C89) mx (table_ok tt_ok) (TreeOk.node (TreeOk.node (TreeOk.leaf ⟨g45, n45⟩) (TreeOk.leaf ⟨g47, n47⟩)) (TreeOk.node (TreeOk.leaf ⟨g123, n123⟩) (TreeOk.leaf ⟨g124, n124⟩))) Try.func89 q89
theorem n46 : Enters Try.prog 46 := enters_of Try.func46 (by kernel_rfl)
theorem g46 : Good Try.prog 46 c46 := good_of (C := C46) mx (table_ok tt_ok) (TreeOk.leaf ⟨g89, n89⟩) Try.func46 q46
theorem n18 : Enters Try.prog 18 := enters_of Try.func18 (by kernel_rfl)
theorem g18 : Good Try.prog 18 c18 := good_of (C := C18) mx (table_ok tt_ok) (TreeOk.node (TreeOk.leaf ⟨g46, n46⟩) (TreeOk.leaf ⟨g47, n47⟩)) Try.func18 q18
theorem n95 : Enters Try.prog 95 := enters_of Try.func95 (by kernel_rfl)
theorem g95 : Good Try.prog 95 c95 := good_of (C := C95) mx (table_ok tt_ok) TreeOk.nil Try.func95 q95
theorem n52 : Enters Try.prog 52 := enters_of Try.func52 (by kernel_rfl)
theorem g52 : Good Try.prog 52 c52 := good_of (C := C52) mx (table_ok tt_ok) (TreeOk.leaf ⟨g95, n95⟩) Try.func52 q52
theorem n20 : Enters Try.prog 20 := enters_of Try.func20 (by kernel_rfl)
theorem g20 : Good Try.prog 20 c20 := good_of (C := C20) mx (table_ok tt_ok) (TreeOk.leaf ⟨g52, n52⟩) Try.func20 q20
theorem n70 : Enters Try.prog 70 := enters_of Try.func70 (by kernel_rfl)
theorem g70 : Good Try.prog 70 c70 := good_of (C := C70) mx (table_ok tt_ok) TreeOk.nil Try.func70 q70
theorem n54 : Enters Try.prog 54 := enters_of Try.func54 (by kernel_rfl)
theorem g54 : Good Try.prog 54 c54 := good_of (C := C54) mx (table_ok tt_ok) (TreeOk.leaf ⟨g70, n70⟩) Try.func54 q54
theorem n150 : Enters Try.prog 150 := enters_of Try.func150 (by kernel_rfl)
theorem g150 : Good Try.prog 150 c150 := good_of (C := C150) mx (table_ok tt_ok) TreeOk.nil Try.func150 q150
theorem n132 : Enters Try.prog 132 := enters_of Try.func132 (by kernel_rfl)
theorem g132 : Good Try.prog 132 c132 := good_of (C := C132) mx (table_ok tt_ok) (TreeOk.node (TreeOk.leaf ⟨g70, n70⟩) (TreeOk.leaf ⟨g150, n150⟩)) Try.func132 q132
theorem n167 : Enters Try.prog 167 := enters_of Try.func167 (by kernel_rfl)
theorem g167 : Good Try.prog 167 c167 := good_of (C := C167) mx (table_ok tt_ok) TreeOk.nil Try.func167 q167
theorem n133 : Enters Try.prog 133 := enters_of Try.func133 (by kernel_rfl)
theorem g133 : Good Try.prog 133 c133 := good_of (C := C133) mx (table_ok tt_ok) (TreeOk.leaf ⟨g167, n167⟩) Try.func133 q133
theorem n96 : Enters Try.prog 96 := enters_of Try.func96 (by kernel_rfl)
theorem g96 : Good Try.prog 96 c96 := good_of (C := C96) mx (table_ok tt_ok) (TreeOk.node (TreeOk.node (TreeOk.leaf ⟨g52, n52⟩) (TreeOk.leaf ⟨g54, n54⟩)) (TreeOk.node (TreeOk.leaf ⟨g132, n132⟩) (TreeOk.leaf ⟨g133, n133⟩))) Try.func96 q96
theorem n53 : Enters Try.prog 53 := enters_of Try.func53 (by kernel_rfl)
theorem g53 : Good Try.prog 53 c53 := good_of (C := C53) mx (table_ok tt_ok) (TreeOk.leaf ⟨g96, n96⟩) Try.func53 q53
theorem n21 : Enters Try.prog 21 := enters_of Try.func21 (by kernel_rfl)
theorem g21 : Good Try.prog 21 c21 := good_of (C := C21) mx (table_ok tt_ok) (TreeOk.node (TreeOk.leaf ⟨g53, n53⟩) (TreeOk.leaf ⟨g54, n54⟩)) Try.func21 q21
theorem n48 : Enters Try.prog 48 := enters_of Try.func48 (by kernel_rfl)
theorem g48 : Good Try.prog 48 c48 := good_of (C := C48) mx (table_ok tt_ok) TreeOk.nil Try.func48 q48
theorem n79 : Enters Try.prog 79 := enters_of Try.func79 (by kernel_rfl)
theorem g79 : Good Try.prog 79 c79 := good_of (C := C79) mx (table_ok tt_ok) TreeOk.nil Try.func79 q79
theorem n90 : Enters Try.prog 90 := enters_of Try.func90 (by kernel_rfl)
theorem g90 : Good Try.prog 90 c90 := good_of (C := C90) mx (table_ok tt_ok) (TreeOk.leaf ⟨g79, n79⟩) Try.func90 q90
theorem n49 : Enters Try.prog 49 := enters_of Try.func49 (by kernel_rfl)
theorem g49 : Good Try.prog 49 c49 := good_of (C := C49) mx (table_ok tt_ok) (TreeOk.node (TreeOk.leaf ⟨g79, n79⟩) (TreeOk.leaf ⟨g90, n90⟩)) Try.func49 q49
theorem n92 : Enters Try.prog 92 := enters_of Try.func92 (by kernel_rfl)
theorem g92 : Good Try.prog 92 c92 := good_of (C := C92) mx (table_ok tt_ok) TreeOk.nil Try.func92 q92
theorem n129 : Enters Try.prog 129 := enters_of Try.func129 (by kernel_rfl)
theorem g129 : Good Try.prog 129 c129 := good_of (C := C129) mx (table_ok tt_ok) (TreeOk.leaf ⟨g90, n90⟩) Try.func129 q129
theorem n125 : Enters Try.prog 125 := enters_of Try.func125 (by kernel_rfl)
theorem g125 : Good Try.prog 125 c125 := good_of (C := C125) mx (table_ok tt_ok) (TreeOk.node (TreeOk.leaf ⟨g79, n79⟩) (TreeOk.node (TreeOk.leaf ⟨g92, n92⟩) (TreeOk.leaf ⟨g129, n129⟩))) Try.func125 q125
theorem n165 : Enters Try.prog 165 := enters_of Try.func165 (by kernel_rfl)
theorem g165 : Good Try.prog 165 c165 := good_of (C := C165) mx (table_ok tt_ok) TreeOk.nil Try.func165 q165
theorem n126 : Enters Try.prog 126 := enters_of Try.func126 (by kernel_rfl)
theorem g126 : Good Try.prog 126 c126 := good_of (C := C126) mx (table_ok tt_ok) (TreeOk.node (TreeOk.leaf ⟨g79, n79⟩) (TreeOk.node (TreeOk.leaf ⟨g129, n129⟩) (TreeOk.leaf ⟨g165, n165⟩))) Try.func126 q126
theorem n127 : Enters Try.prog 127 := enters_of Try.func127 (by kernel_rfl)
theorem g127 : Good Try.prog 127 c127 := good_of (C := C127) mx (table_ok tt_ok) (TreeOk.node (TreeOk.leaf ⟨g79, n79⟩) (TreeOk.leaf ⟨g90, n90⟩)) Try.func127 q127
theorem n91 : Enters Try.prog 91 := enters_of Try.func91 (by kernel_rfl)
theorem g91 : Good Try.prog 91 c91 := good_of (C := C91) mx (table_ok tt_ok) (TreeOk.node (TreeOk.node (TreeOk.leaf ⟨g49, n49⟩) (TreeOk.node (TreeOk.leaf ⟨g79, n79⟩) (TreeOk.leaf ⟨g90, n90⟩))) (TreeOk.node (TreeOk.leaf ⟨g125, n125⟩) (TreeOk.node (TreeOk.leaf ⟨g126, n126⟩) (TreeOk.leaf ⟨g127, n127⟩)))) Try.func91 q91
theorem n128 : Enters Try.prog 128 := enters_of Try.func128 (by kernel_rfl)
theorem g128 : Good Try.prog 128 c128 := good_of (C := C128) mx (table_ok tt_ok) TreeOk.nil Try.func128 q128
theorem n93 : Enters Try.prog 93 := enters_of Try.func93 (by kernel_rfl)
theorem g93 : Good Try.prog 93 c93 := good_of (C := C93) mx (table_ok tt_ok) (TreeOk.node (TreeOk.leaf ⟨g128, n128⟩) (TreeOk.leaf ⟨g129, n129⟩)) Try.func93 q93
theorem n166 : Enters Try.prog 166 := enters_of Try.func166 (by kernel_rfl)
theorem g166 : Good Try.prog 166 c166 := good_of (C := C166) mx (table_ok tt_ok) TreeOk.nil Try.func166 q166
theorem n130 : Enters Try.prog 130 := enters_of Try.func130 (by kernel_rfl)
theorem g130 : Good Try.prog 130 c130 := good_of (C := C130) mx (table_ok tt_ok) (TreeOk.leaf ⟨g166, n166⟩) Try.func130 q130
theorem n131 : Enters Try.prog 131 := enters_of Try.func131 (by kernel_rfl)
theorem g131 : Good Try.prog 131 c131 := good_of (C := C131) mx (table_ok tt_ok) TreeOk.nil Try.func131 q131
theorem n94 : Enters Try.prog 94 := enters_of Try.func94 (by kernel_rfl)
theorem g94 : Good Try.prog 94 c94 := good_of (C := C94) mx (table_ok tt_ok) (TreeOk.node (TreeOk.leaf ⟨g130, n130⟩) (TreeOk.leaf ⟨g131, n131⟩)) Try.func94 q94
theorem n51 : Enters Try.prog 51 := enters_of Try.func51 (by kernel_rfl)
theorem g51 : Good Try.prog 51 c51 := good_of (C := C51) mx (table_ok tt_ok) (TreeOk.node (TreeOk.node (TreeOk.leaf ⟨g79, n79⟩) (TreeOk.leaf ⟨g92, n92⟩)) (TreeOk.node (TreeOk.leaf ⟨g93, n93⟩) (TreeOk.leaf ⟨g94, n94⟩))) Try.func51 q51
theorem n50 : Enters Try.prog 50 := enters_of Try.func50 (by kernel_rfl)
theorem g50 : Good Try.prog 50 c50 := good_of (C := C50) mx (table_ok tt_ok) (TreeOk.node (TreeOk.leaf ⟨g51, n51⟩) (TreeOk.leaf ⟨g91, n91⟩)) Try.func50 q50
theorem n19 : Enters Try.prog 19 := enters_of Try.func19 (by kernel_rfl)
theorem g19 : Good Try.prog 19 c19 := good_of (C := C19) mx (table_ok tt_ok) (TreeOk.node (TreeOk.node (TreeOk.leaf ⟨g48, n48⟩) (TreeOk.leaf ⟨g49, n49⟩)) (TreeOk.node (TreeOk.leaf ⟨g50, n50⟩) (TreeOk.leaf ⟨g51, n51⟩))) Try.func19 q19
theorem n61 : Enters Try.prog 61 := enters_of Try.func61 (by kernel_rfl)
theorem g61 : Good Try.prog 61 c61 := good_of (C := C61) mx (table_ok tt_ok) TreeOk.nil Try.func61 q61
theorem n57 : Enters Try.prog 57 := enters_of Try.func57 (by kernel_rfl)
theorem g57 : Good Try.prog 57 c57 := good_of (C := C57) mx (table_ok tt_ok) (TreeOk.leaf ⟨g61, n61⟩) Try.func57 q57
theorem n82 : Enters Try.prog 82 := enters_of Try.func82 (by kernel_rfl)
theorem g82 : Good Try.prog 82 c82 := good_of (C := C82) mx (table_ok tt_ok) TreeOk.nil Try.func82 q82
theorem n97 : Enters Try.prog 97 := enters_of Try.func97 (by kernel_rfl)
theorem g97 : Good Try.prog 97 c97 := good_of (C := C97) mx (table_ok tt_ok) (TreeOk.leaf ⟨g82, n82⟩) Try.func97 q97
theorem n55 : Enters Try.prog 55 := enters_of Try.func55 (by kernel_rfl)
theorem g55 : Good Try.prog 55 c55 := good_of (C := C55) mx (table_ok tt_ok) (TreeOk.node (TreeOk.leaf ⟨g82, n82⟩) (TreeOk.leaf ⟨g97, n97⟩)) Try.func55 q55
theorem n99 : Enters Try.prog 99 := enters_of Try.func99 (by kernel_rfl)
theorem g99 : Good Try.prog 99 c99 := good_of (C := C99) mx (table_ok tt_ok) TreeOk.nil Try.func99 q99
theorem n136 : Enters Try.prog 136 := enters_of Try.func136 (by kernel_rfl)
theorem g136 : Good Try.prog 136 c136 := good_of (C := C136) mx (table_ok tt_ok) (TreeOk.leaf ⟨g97, n97⟩) Try.func136 q136
theorem n100 : Enters Try.prog 100 := enters_of Try.func100 (by kernel_rfl)
theorem g100 : Good Try.prog 100 c100 := good_of (C := C100) mx (table_ok tt_ok) (TreeOk.node (TreeOk.leaf ⟨g82, n82⟩) (TreeOk.node (TreeOk.leaf ⟨g99, n99⟩) (TreeOk.leaf ⟨g136, n136⟩))) Try.func100 q100
theorem n168 : Enters Try.prog 168 := enters_of Try.func168 (by kernel_rfl)
theorem g168 : Good Try.prog 168 c168 := good_of (C := C168) mx (table_ok tt_ok) TreeOk.nil Try.func168 q168
theorem n134 : Enters Try.prog 134 := enters_of Try.func134 (by kernel_rfl)
theorem g134 : Good Try.prog 134 c134 := good_of (C := C134) mx (table_ok tt_ok) (TreeOk.node (TreeOk.leaf ⟨g82, n82⟩) (TreeOk.node (TreeOk.leaf ⟨g136, n136⟩) (TreeOk.leaf ⟨g168, n168⟩))) Try.func134 q134
theorem n169 : Enters Try.prog 169 := enters_of Try.func169 (by kernel_rfl)
theorem g169 : Good Try.prog 169 c169 := good_of (C := C169) mx (table_ok tt_ok) (TreeOk.node (TreeOk.leaf ⟨g82, n82⟩) (TreeOk.leaf ⟨g97, n97⟩)) Try.func169 q169
theorem n135 : Enters Try.prog 135 := enters_of Try.func135 (by kernel_rfl)
theorem g135 : Good Try.prog 135 c135 := good_of (C := C135) mx (table_ok tt_ok) (TreeOk.leaf ⟨g169, n169⟩) Try.func135 q135
theorem n98 : Enters Try.prog 98 := enters_of Try.func98 (by kernel_rfl)
theorem g98 : Good Try.prog 98 c98 := good_of (C := C98) mx (table_ok tt_ok) (TreeOk.node (TreeOk.node (TreeOk.leaf ⟨g55, n55⟩) (TreeOk.node (TreeOk.leaf ⟨g82, n82⟩) (TreeOk.leaf ⟨g97, n97⟩))) (TreeOk.node (TreeOk.leaf ⟨g100, n100⟩) (TreeOk.node (TreeOk.leaf ⟨g134, n134⟩) (TreeOk.leaf ⟨g135, n135⟩)))) Try.func98 q98
theorem n174 : Enters Try.prog 174 := enters_of Try.func174 (by kernel_rfl)
theorem g174 : Good Try.prog 174 c174 := good_of (C := C174) mx (table_ok tt_ok) TreeOk.nil Try.func174 q174
theorem n170 : Enters Try.prog 170 := enters_of Try.func170 (by kernel_rfl)
theorem g170 : Good Try.prog 170 c170 := good_of (C := C170) mx (table_ok tt_ok) (TreeOk.leaf ⟨g174, n174⟩) Try.func170 q170
theorem n137 : Enters Try.prog 137 := enters_of Try.func137 (by kernel_rfl)
theorem g137 : Good Try.prog 137 c137 := good_of (C := C137) mx (table_ok tt_ok) (TreeOk.leaf ⟨g170, n170⟩) Try.func137 q137
theorem n138 : Enters Try.prog 138 := enters_of Try.func138 (by kernel_rfl)
theorem g138 : Good Try.prog 138 c138 := good_of (C := C138) mx (table_ok tt_ok) TreeOk.nil Try.func138 q138
theorem n101 : Enters Try.prog 101 := enters_of Try.func101 (by kernel_rfl)
theorem g101 : Good Try.prog 101 c101 := good_of (C := C101) mx (table_ok tt_ok) (TreeOk.node (TreeOk.leaf ⟨g137, n137⟩) (TreeOk.leaf ⟨g138, n138⟩)) Try.func101 q101
theorem n175 : Enters Try.prog 175 := enters_of Try.func175 (by kernel_rfl)
theorem g175 : Good Try.prog 175 c175 := good_of (C := C175) mx (table_ok tt_ok) TreeOk.nil Try.func175 q175
theorem n171 : Enters Try.prog 171 := enters_of Try.func171 (by kernel_rfl)
theorem g171 : Good Try.prog 171 c171 := good_of (C := C171) mx (table_ok tt_ok) (TreeOk.leaf ⟨g175, n175⟩) Try.func171 q171
theorem n172 : Enters Try.prog 172 := enters_of Try.func172 (by kernel_rfl)
theorem g172 : Good Try.prog 172 c172 := good_of (C := C172) mx (table_ok tt_ok) TreeOk.nil Try.func172 q172
theorem n139 : Enters Try.prog 139 := enters_of Try.func139 (by kernel_rfl)
theorem g139 : Good Try.prog 139 c139 := good_of (C := C139) mx (table_ok tt_ok) (TreeOk.node (TreeOk.leaf ⟨g171, n171⟩) (TreeOk.leaf ⟨g172, n172⟩)) Try.func139 q139
theorem n102 : Enters Try.prog 102 := enters_of Try.func102 (by kernel_rfl)
theorem g102 : Good Try.prog 102 c102 := good_of (C := C102) mx (table_ok tt_ok) (TreeOk.leaf ⟨g139, n139⟩) Try.func102 q102
theorem n58 : Enters Try.prog 58 := enters_of Try.func58 (by kernel_rfl)
theorem g58 : Good Try.prog 58 c58 := good_of (C := C58) mx (table_ok tt_ok) (TreeOk.node (TreeOk.node (TreeOk.leaf ⟨g99, n99⟩) (TreeOk.leaf ⟨g100, n100⟩)) (TreeOk.node (TreeOk.leaf ⟨g101, n101⟩) (TreeOk.leaf ⟨g102, n102⟩))) Try.func58 q58
theorem n56 : Enters Try.prog 56 := enters_of Try.func56 (by kernel_rfl)
theorem g56 : Good Try.prog 56 c56 := good_of (C := C56) mx (table_ok tt_ok) (TreeOk.node (TreeOk.leaf ⟨g58, n58⟩) (TreeOk.leaf ⟨g98, n98⟩)) Try.func56 q56
theorem n59 : Enters Try.prog 59 := enters_of Try.func59 (by kernel_rfl)
theorem g59 : Good Try.prog 59 c59 := good_of (C := C59) mx (table_ok tt_ok) TreeOk.nil Try.func59 q59
theorem n60 : Enters Try.prog 60 := enters_of Try.func60 (by kernel_rfl)
theorem g60 : Good Try.prog 60 c60 := good_of (C := C60) mx (table_ok tt_ok) TreeOk.nil Try.func60 q60
theorem n22 : Enters Try.prog 22 := enters_of Try.func22 (by kernel_rfl)
theorem g22 : Good Try.prog 22 c22 := good_of (C := C22) mx (table_ok tt_ok) (TreeOk.node (TreeOk.node (TreeOk.leaf ⟨g55, n55⟩) (TreeOk.node (TreeOk.leaf ⟨g56, n56⟩) (TreeOk.leaf ⟨g57, n57⟩))) (TreeOk.node (TreeOk.node (TreeOk.leaf ⟨g58, n58⟩) (TreeOk.leaf ⟨g59, n59⟩)) (TreeOk.node (TreeOk.leaf ⟨g60, n60⟩) (TreeOk.leaf ⟨g61, n61⟩)))) Try.func22 q22
theorem n84 : Enters Try.prog 84 := enters_of Try.func84 (by kernel_rfl)
theorem g84 : Good Try.prog 84 c84 := good_of (C := C84) mx (table_ok tt_ok) TreeOk.nil Try.func84 q84
theorem n40 : Enters Try.prog 40 := enters_of Try.func40 (by kernel_rfl)
theorem g40 : Good Try.prog 40 c40 := good_of (C := C40) mx (table_ok tt_ok) (TreeOk.leaf ⟨g84, n84⟩) Try.func40 q40
theorem n12 : Enters Try.prog 12 := enters_of Try.func12 (by kernel_rfl)
theorem g12 : Good Try.prog 12 c12 := good_of (C := C12) mx (table_ok tt_ok) (TreeOk.leaf ⟨g40, n40⟩) Try.func12 q12
theorem n74 : Enters Try.prog 74 := enters_of Try.func74 (by kernel_rfl)
theorem g74 : Good Try.prog 74 c74 := good_of (C := C74) mx (table_ok tt_ok) TreeOk.nil Try.func74 q74
theorem n63 : Enters Try.prog 63 := enters_of Try.func63 (by kernel_rfl)
theorem g63 : Good Try.prog 63 c63 := good_of (C := C63) mx (table_ok tt_ok) (TreeOk.leaf ⟨g74, n74⟩) Try.func63 q63
theorem n156 : Enters Try.prog 156 := enters_of Try.func156 (by kernel_rfl)
theorem g156 : Good Try.prog 156 c156 := good_of (C := C156) mx (table_ok tt_ok) TreeOk.nil Try.func156 q156
theorem n140 : Enters Try.prog 140 := enters_of Try.func140 (by kernel_rfl)
theorem g140 : Good Try.prog 140 c140 := good_of (C := C140) mx (table_ok tt_ok) (TreeOk.node (TreeOk.leaf ⟨g74, n74⟩) (TreeOk.leaf ⟨g156, n156⟩)) Try.func140 q140
theorem n173 : Enters Try.prog 173 := enters_of Try.func173 (by kernel_rfl)
theorem g173 : Good Try.prog 173 c173 := good_of (C := C173) mx (table_ok tt_ok) TreeOk.nil Try.func173 q173
theorem n141 : Enters Try.prog 141 := enters_of Try.func141 (by kernel_rfl)
theorem g141 : Good Try.prog 141 c141 := good_of (C := C141) mx (table_ok tt_ok) (TreeOk.leaf ⟨g173, n173⟩) Try.func141 q141
theorem n103 : Enters Try.prog 103 := enters_of Try.func103 (by kernel_rfl)
theorem g103 : Good Try.prog 103 c103 := good_of (C := C103) mx (table_ok tt_ok) (TreeOk.node (TreeOk.node (TreeOk.leaf ⟨g40, n40⟩) (TreeOk.leaf ⟨g63, n63⟩)) (TreeOk.node (TreeOk.leaf ⟨g140, n140⟩) (TreeOk.leaf ⟨g141, n141⟩))) Try.func103 q103
theorem n62 : Enters Try.prog 62 := enters_of Try.func62 (by kernel_rfl)
theorem g62 : Good Try.prog 62 c62 := good_of (C := C62) mx (table_ok tt_ok) (TreeOk.leaf ⟨g103, n103⟩) Try.func62 q62
theorem n23 : Enters Try.prog 23 := enters_of Try.func23 (by kernel_rfl)
theorem g23 : Good Try.prog 23 c23 := good_of (C := C23) mx (table_ok tt_ok) (TreeOk.node (TreeOk.leaf ⟨g62, n62⟩) (TreeOk.leaf ⟨g63, n63⟩)) Try.func23 q23
theorem n86 : Enters Try.prog 86 := enters_of Try.func86 (by kernel_rfl)
theorem g86 : Good Try.prog 86 c86 := good_of (C := C86) mx (table_ok tt_ok) TreeOk.nil Try.func86 q86
theorem n43 : Enters Try.prog 43 := enters_of Try.func43 (by kernel_rfl)
theorem g43 : Good Try.prog 43 c43 := good_of (C := C43) mx (table_ok tt_ok) (TreeOk.leaf ⟨g86, n86⟩) Try.func43 q43
theorem n15 : Enters Try.prog 15 := enters_of Try.func15 (by kernel_rfl)
theorem g15 : Good Try.prog 15 c15 := good_of (C := C15) mx (table_ok tt_ok) (TreeOk.leaf ⟨g43, n43⟩) Try.func15 q15
theorem n104 : Enters Try.prog 104 := enters_of Try.func104 (by kernel_rfl)
theorem g104 : Good Try.prog 104 c104 := good_of (C := C104) mx (table_ok tt_ok) (TreeOk.leaf ⟨g86, n86⟩) Try.func104 q104
theorem n105 : Enters Try.prog 105 := enters_of Try.func105 (by kernel_rfl)
theorem g105 : Good Try.prog 105 c105 := good_of (C := C105) mx (table_ok tt_ok) TreeOk.nil Try.func105 q105
theorem n106 : Enters Try.prog 106 := enters_of Try.func106 (by kernel_rfl)
theorem g106 : Good Try.prog 106 c106 := good_of (C := C106) mx (table_ok tt_ok) (TreeOk.leaf ⟨g86, n86⟩) Try.func106 q106
theorem n64 : Enters Try.prog 64 := enters_of Try.func64 (by kernel_rfl)
theorem g64 : Good Try.prog 64 c64 := good_of (C := C64) mx (table_ok tt_ok) (TreeOk.node (TreeOk.node (TreeOk.leaf ⟨g43, n43⟩) (TreeOk.leaf ⟨g86, n86⟩)) (TreeOk.node (TreeOk.leaf ⟨g104, n104⟩) (TreeOk.node (TreeOk.leaf ⟨g105, n105⟩) (TreeOk.leaf ⟨g106, n106⟩)))) Try.func64 q64
theorem n65 : Enters Try.prog 65 := enters_of Try.func65 (by kernel_rfl)
theorem g65 : Good Try.prog 65 c65 := good_of (C := C65) mx (table_ok tt_ok) (TreeOk.leaf ⟨g104, n104⟩) Try.func65 q65
theorem n24 : Enters Try.prog 24 := enters_of Try.func24 (by kernel_rfl)
theorem g24 : Good Try.prog 24 c24 := good_of (C := C24) mx (table_ok tt_ok) (TreeOk.node (TreeOk.leaf ⟨g64, n64⟩) (TreeOk.leaf ⟨g65, n65⟩)) Try.func24 q24
theorem n44 : Enters Try.prog 44 := enters_of Try.func44 (by kernel_rfl)
theorem g44 : Good Try.prog 44 c44 := good_of (C := C44) mx (table_ok tt_ok) (TreeOk.leaf ⟨g86, n86⟩) Try.func44 q44
theorem n16 : Enters Try.prog 16 := enters_of Try.func16 (by kernel_rfl)
theorem g16 : Good Try.prog 16 c16 := good_of (C := C16) mx (table_ok tt_ok) (TreeOk.leaf ⟨g44, n44⟩) Try.func16 q16
theorem n4 : Enters Try.prog 4 := enters_of Try.func4 (by kernel_rfl)
theorem g4 : Good Try.prog 4 c4 := good_of (C := C4) mx (table_ok tt_ok) (TreeOk.node (TreeOk.node (TreeOk.node (TreeOk.leaf ⟨g12, n12⟩) (TreeOk.leaf ⟨g15, n15⟩)) (TreeOk.node (TreeOk.leaf ⟨g16, n16⟩) (TreeOk.node (TreeOk.leaf ⟨g17, n17⟩) (TreeOk.leaf ⟨g18, n18⟩)))) (TreeOk.node (TreeOk.node (TreeOk.leaf ⟨g19, n19⟩) (TreeOk.node (TreeOk.leaf ⟨g20, n20⟩) (TreeOk.leaf ⟨g21, n21⟩))) (TreeOk.node (TreeOk.leaf ⟨g22, n22⟩) (TreeOk.node (TreeOk.leaf ⟨g23, n23⟩) (TreeOk.leaf ⟨g24, n24⟩))))) Try.func4 q4
end Go.Proofs.Ytehcfgnpbelfnaa
