/- Each function does as its contract says. Conditions: none. -/

import Derived.Test.YtphaibffjdfhpaaGreatTm4
import Derived.Test.YtphaibffjdfhpaaGreatFoF
namespace Go.Proofs.YtphaibffjdfhpaaGreat
open Go Go.Tm
set_option linter.unusedVariables false
set_option maxRecDepth 100000
theorem mx : Tryz.prog.follows .mixedOrders = true := by kernel_rfl
theorem n205 : Go.Tm.Enters Tryz.prog 205 := Go.Tm.enters_of Tryz.func205 (by kernel_rfl)
theorem g205 : Go.Tm.Good Tryz.prog 205 c205 := Go.Tm.good_of (C := C205) mx (table_ok tt_ok) TreeOk.nil Tryz.func205 q205
theorem n166 : Go.Tm.Enters Tryz.prog 166 := Go.Tm.enters_of Tryz.func166 (by kernel_rfl)
theorem g166 : Go.Tm.Good Tryz.prog 166 c166 := Go.Tm.good_of (C := C166) mx (table_ok tt_ok) (TreeOk.leaf ⟨g205, n205⟩) Tryz.func166 q166
theorem n95 : Go.Tm.Enters Tryz.prog 95 := Go.Tm.enters_of Tryz.func95 (by kernel_rfl)
theorem g95 : Go.Tm.Good Tryz.prog 95 c95 := Go.Tm.good_of (C := C95) mx (table_ok tt_ok) (TreeOk.leaf ⟨g166, n166⟩) Tryz.func95 q95
theorem n22 : Go.Tm.Enters Tryz.prog 22 := Go.Tm.enters_of Tryz.func22 (by kernel_rfl)
theorem g22 : Go.Tm.Good Tryz.prog 22 c22 := Go.Tm.good_of (C := C22) mx (table_ok tt_ok) (TreeOk.leaf ⟨g95, n95⟩) Tryz.func22 q22
theorem n23 : Go.Tm.Enters Tryz.prog 23 := Go.Tm.enters_of Tryz.func23 (by kernel_rfl)
theorem g23 : Go.Tm.Good Tryz.prog 23 c23 := Go.Tm.good_of (C := C23) mx (table_ok tt_ok) TreeOk.nil Tryz.func23 q23
theorem n130 : Go.Tm.Enters Tryz.prog 130 := Go.Tm.enters_of Tryz.func130 (by kernel_rfl)
theorem g130 : Go.Tm.Good Tryz.prog 130 c130 := Go.Tm.good_of (C := C130) mx (table_ok tt_ok) TreeOk.nil Tryz.func130 q130
theorem n41 : Go.Tm.Enters Tryz.prog 41 := Go.Tm.enters_of Tryz.func41 (by kernel_rfl)
theorem g41 : Go.Tm.Good Tryz.prog 41 c41 := Go.Tm.good_of (C := C41) mx (table_ok tt_ok) (TreeOk.leaf ⟨g130, n130⟩) Tryz.func41 q41
theorem n43 : Go.Tm.Enters Tryz.prog 43 := Go.Tm.enters_of Tryz.func43 (by kernel_rfl)
theorem g43 : Go.Tm.Good Tryz.prog 43 c43 := Go.Tm.good_of (C := C43) mx (table_ok tt_ok) (TreeOk.leaf ⟨g23, n23⟩) Tryz.func43 q43
theorem n47 : Go.Tm.Enters Tryz.prog 47 := Go.Tm.enters_of Tryz.func47 (by kernel_rfl)
theorem g47 : Go.Tm.Good Tryz.prog 47 c47 := Go.Tm.good_of (C := C47) mx (table_ok tt_ok) TreeOk.nil Tryz.func47 q47
theorem n44 : Go.Tm.Enters Tryz.prog 44 := Go.Tm.enters_of Tryz.func44 (by kernel_rfl)
theorem g44 : Go.Tm.Good Tryz.prog 44 c44 := Go.Tm.good_of (C := C44) mx (table_ok tt_ok) (TreeOk.node (TreeOk.leaf ⟨g23, n23⟩) (TreeOk.leaf ⟨g47, n47⟩)) Tryz.func44 q44
theorem n134 : Go.Tm.Enters Tryz.prog 134 := Go.Tm.enters_of Tryz.func134 (by kernel_rfl)
theorem g134 : Go.Tm.Good Tryz.prog 134 c134 := Go.Tm.good_of (C := C134) mx (table_ok tt_ok) TreeOk.nil Tryz.func134 q134
theorem n48 : Go.Tm.Enters Tryz.prog 48 := Go.Tm.enters_of Tryz.func48 (by kernel_rfl)
theorem g48 : Go.Tm.Good Tryz.prog 48 c48 := Go.Tm.good_of (C := C48) mx (table_ok tt_ok) (TreeOk.leaf ⟨g134, n134⟩) Tryz.func48 q48
theorem n131 : Go.Tm.Enters Tryz.prog 131 := Go.Tm.enters_of Tryz.func131 (by kernel_rfl)
theorem g131 : Go.Tm.Good Tryz.prog 131 c131 := Go.Tm.good_of (C := C131) mx (table_ok tt_ok) (TreeOk.node (TreeOk.node (TreeOk.leaf ⟨g41, n41⟩) (TreeOk.leaf ⟨g43, n43⟩)) (TreeOk.node (TreeOk.leaf ⟨g44, n44⟩) (TreeOk.leaf ⟨g48, n48⟩))) Tryz.func131 q131
theorem n42 : Go.Tm.Enters Tryz.prog 42 := Go.Tm.enters_of Tryz.func42 (by kernel_rfl)
theorem g42 : Go.Tm.Good Tryz.prog 42 c42 := Go.Tm.good_of (C := C42) mx (table_ok tt_ok) (TreeOk.leaf ⟨g131, n131⟩) Tryz.func42 q42
theorem n132 : Go.Tm.Enters Tryz.prog 132 := Go.Tm.enters_of Tryz.func132 (by kernel_rfl)
theorem g132 : Go.Tm.Good Tryz.prog 132 c132 := Go.Tm.good_of (C := C132) mx (table_ok tt_ok) TreeOk.nil Tryz.func132 q132
theorem n45 : Go.Tm.Enters Tryz.prog 45 := Go.Tm.enters_of Tryz.func45 (by kernel_rfl)
theorem g45 : Go.Tm.Good Tryz.prog 45 c45 := Go.Tm.good_of (C := C45) mx (table_ok tt_ok) (TreeOk.leaf ⟨g132, n132⟩) Tryz.func45 q45
theorem n133 : Go.Tm.Enters Tryz.prog 133 := Go.Tm.enters_of Tryz.func133 (by kernel_rfl)
theorem g133 : Go.Tm.Good Tryz.prog 133 c133 := Go.Tm.good_of (C := C133) mx (table_ok tt_ok) TreeOk.nil Tryz.func133 q133
theorem n46 : Go.Tm.Enters Tryz.prog 46 := Go.Tm.enters_of Tryz.func46 (by kernel_rfl)
theorem g46 : Go.Tm.Good Tryz.prog 46 c46 := Go.Tm.good_of (C := C46) mx (table_ok tt_ok) (TreeOk.leaf ⟨g133, n133⟩) Tryz.func46 q46
theorem n135 : Go.Tm.Enters Tryz.prog 135 := Go.Tm.enters_of Tryz.func135 (by kernel_rfl)
theorem g135 : Go.Tm.Good Tryz.prog 135 c135 := Go.Tm.good_of (C := C135) mx (table_ok tt_ok) (TreeOk.node (TreeOk.leaf ⟨g42, n42⟩) (TreeOk.leaf ⟨g43, n43⟩)) Tryz.func135 q135
theorem n49 : Go.Tm.Enters Tryz.prog 49 := Go.Tm.enters_of Tryz.func49 (by kernel_rfl)
theorem g49 : Go.Tm.Good Tryz.prog 49 c49 := Go.Tm.good_of (C := C49) mx (table_ok tt_ok) (TreeOk.leaf ⟨g135, n135⟩) Tryz.func49 q49
theorem n8 : Go.Tm.Enters Tryz.prog 8 := Go.Tm.enters_of Tryz.func8 (by kernel_rfl)
theorem g8 : Go.Tm.Good Tryz.prog 8 c8 := Go.Tm.good_of (C := C8) mx (table_ok tt_ok) (TreeOk.node (TreeOk.node (TreeOk.node (TreeOk.leaf ⟨g22, n22⟩) (TreeOk.leaf ⟨g41, n41⟩)) (TreeOk.node (TreeOk.leaf ⟨g42, n42⟩) (TreeOk.node (TreeOk.leaf ⟨g43, n43⟩) (TreeOk.leaf ⟨g44, n44⟩)))) (TreeOk.node (TreeOk.node (TreeOk.leaf ⟨g45, n45⟩) (TreeOk.leaf ⟨g46, n46⟩)) (TreeOk.node (TreeOk.leaf ⟨g47, n47⟩) (TreeOk.node (TreeOk.leaf ⟨g48, n48⟩) (TreeOk.leaf ⟨g49, n49⟩))))) Tryz.func8 q8
theorem n82 : Go.Tm.Enters Tryz.prog 82 := Go.Tm.enters_of Tryz.func82 (by kernel_rfl)
theorem g82 : Go.Tm.Good Tryz.prog 82 c82 := Go.Tm.good_of (C := C82) mx (table_ok tt_ok) (TreeOk.leaf ⟨g8, n8⟩) Tryz.func82 q82
theorem n155 : Go.Tm.Enters Tryz.prog 155 := Go.Tm.enters_of Tryz.func155 (by kernel_rfl)
theorem g155 : Go.Tm.Good Tryz.prog 155 c155 := Go.Tm.good_of (C := C155) mx (table_ok tt_ok) TreeOk.nil Tryz.func155 q155
theorem n83 : Go.Tm.Enters Tryz.prog 83 := Go.Tm.enters_of Tryz.func83 (by kernel_rfl)
theorem g83 : Go.Tm.Good Tryz.prog 83 c83 := Go.Tm.good_of (C := C83) mx (table_ok tt_ok) (TreeOk.leaf ⟨g155, n155⟩) Tryz.func83 q83
theorem n156 : Go.Tm.Enters Tryz.prog 156 := Go.Tm.enters_of Tryz.func156 (by kernel_rfl)
theorem g156 : Go.Tm.Good Tryz.prog 156 c156 := Go.Tm.good_of (C := C156) mx (table_ok tt_ok) (TreeOk.node (TreeOk.node (TreeOk.leaf ⟨g42, n42⟩) (TreeOk.leaf ⟨g43, n43⟩)) (TreeOk.node (TreeOk.leaf ⟨g44, n44⟩) (TreeOk.node (TreeOk.leaf ⟨g132, n132⟩) (TreeOk.leaf ⟨g133, n133⟩)))) Tryz.func156 q156
theorem n84 : Go.Tm.Enters Tryz.prog 84 := Go.Tm.enters_of Tryz.func84 (by kernel_rfl)
theorem g84 : Go.Tm.Good Tryz.prog 84 c84 := Go.Tm.good_of (C := C84) mx (table_ok tt_ok) (TreeOk.leaf ⟨g156, n156⟩) Tryz.func84 q84
theorem n17 : Go.Tm.Enters Tryz.prog 17 := Go.Tm.enters_of Tryz.func17 (by kernel_rfl)
theorem g17 : Go.Tm.Good Tryz.prog 17 c17 := Go.Tm.good_of (C := C17) mx (table_ok tt_ok) (TreeOk.node (TreeOk.node (TreeOk.leaf ⟨g22, n22⟩) (TreeOk.node (TreeOk.leaf ⟨g23, n23⟩) (TreeOk.leaf ⟨g42, n42⟩))) (TreeOk.node (TreeOk.leaf ⟨g82, n82⟩) (TreeOk.node (TreeOk.leaf ⟨g83, n83⟩) (TreeOk.leaf ⟨g84, n84⟩)))) Tryz.func17 q17
theorem n229 : Go.Tm.Enters Tryz.prog 229 := Go.Tm.enters_of Tryz.func229 (by kernel_rfl)
theorem g229 : Go.Tm.Good Tryz.prog 229 c229 := Go.Tm.good_of (C := C229) mx (table_ok tt_ok) TreeOk.nil Tryz.func229 q229
theorem n208 : Go.Tm.Enters Tryz.prog 208 := Go.Tm.enters_of Tryz.func208 (by kernel_rfl)
theorem g208 : Go.Tm.Good Tryz.prog 208 c208 := Go.Tm.good_of (C := C208) mx (table_ok tt_ok) (TreeOk.leaf ⟨g229, n229⟩) Tryz.func208 q208
theorem n171 : Go.Tm.Enters Tryz.prog 171 := Go.Tm.enters_of Tryz.func171 (by kernel_rfl)
theorem g171 : Go.Tm.Good Tryz.prog 171 c171 := Go.Tm.good_of (C := C171) mx (table_ok tt_ok) (TreeOk.leaf ⟨g208, n208⟩) Tryz.func171 q171
theorem n101 : Go.Tm.Enters Tryz.prog 101 := Go.Tm.enters_of Tryz.func101 (by kernel_rfl)
theorem g101 : Go.Tm.Good Tryz.prog 101 c101 := Go.Tm.good_of (C := C101) mx (table_ok tt_ok) (TreeOk.leaf ⟨g171, n171⟩) Tryz.func101 q101
theorem n25 : Go.Tm.Enters Tryz.prog 25 := Go.Tm.enters_of Tryz.func25 (by kernel_rfl)
theorem g25 : Go.Tm.Good Tryz.prog 25 c25 := Go.Tm.good_of (C := C25) mx (table_ok tt_ok) (TreeOk.leaf ⟨g101, n101⟩) Tryz.func25 q25
theorem n26 : Go.Tm.Enters Tryz.prog 26 := Go.Tm.enters_of Tryz.func26 (by kernel_rfl)
theorem g26 : Go.Tm.Good Tryz.prog 26 c26 := Go.Tm.good_of (C := C26) mx (table_ok tt_ok) TreeOk.nil Tryz.func26 q26
theorem n138 : Go.Tm.Enters Tryz.prog 138 := Go.Tm.enters_of Tryz.func138 (by kernel_rfl)
theorem g138 : Go.Tm.Good Tryz.prog 138 c138 := Go.Tm.good_of (C := C138) mx (table_ok tt_ok) TreeOk.nil Tryz.func138 q138
theorem n51 : Go.Tm.Enters Tryz.prog 51 := Go.Tm.enters_of Tryz.func51 (by kernel_rfl)
theorem g51 : Go.Tm.Good Tryz.prog 51 c51 := Go.Tm.good_of (C := C51) mx (table_ok tt_ok) (TreeOk.leaf ⟨g138, n138⟩) Tryz.func51 q51
theorem n53 : Go.Tm.Enters Tryz.prog 53 := Go.Tm.enters_of Tryz.func53 (by kernel_rfl)
theorem g53 : Go.Tm.Good Tryz.prog 53 c53 := Go.Tm.good_of (C := C53) mx (table_ok tt_ok) (TreeOk.leaf ⟨g26, n26⟩) Tryz.func53 q53
theorem n57 : Go.Tm.Enters Tryz.prog 57 := Go.Tm.enters_of Tryz.func57 (by kernel_rfl)
theorem g57 : Go.Tm.Good Tryz.prog 57 c57 := Go.Tm.good_of (C := C57) mx (table_ok tt_ok) TreeOk.nil Tryz.func57 q57
theorem n54 : Go.Tm.Enters Tryz.prog 54 := Go.Tm.enters_of Tryz.func54 (by kernel_rfl)
theorem g54 : Go.Tm.Good Tryz.prog 54 c54 := Go.Tm.good_of (C := C54) mx (table_ok tt_ok) (TreeOk.node (TreeOk.leaf ⟨g26, n26⟩) (TreeOk.leaf ⟨g57, n57⟩)) Tryz.func54 q54
theorem n142 : Go.Tm.Enters Tryz.prog 142 := Go.Tm.enters_of Tryz.func142 (by kernel_rfl)
theorem g142 : Go.Tm.Good Tryz.prog 142 c142 := Go.Tm.good_of (C := C142) mx (table_ok tt_ok) TreeOk.nil Tryz.func142 q142
theorem n58 : Go.Tm.Enters Tryz.prog 58 := Go.Tm.enters_of Tryz.func58 (by kernel_rfl)
theorem g58 : Go.Tm.Good Tryz.prog 58 c58 := Go.Tm.good_of (C := C58) mx (table_ok tt_ok) (TreeOk.leaf ⟨g142, n142⟩) Tryz.func58 q58
theorem n139 : Go.Tm.Enters Tryz.prog 139 := Go.Tm.enters_of Tryz.func139 (by kernel_rfl)
theorem g139 : Go.Tm.Good Tryz.prog 139 c139 := Go.Tm.good_of (C := C139) mx (table_ok tt_ok) (TreeOk.node (TreeOk.node (TreeOk.leaf ⟨g51, n51⟩) (TreeOk.leaf ⟨g53, n53⟩)) (TreeOk.node (TreeOk.leaf ⟨g54, n54⟩) (TreeOk.leaf ⟨g58, n58⟩))) Tryz.func139 q139
theorem n52 : Go.Tm.Enters Tryz.prog 52 := Go.Tm.enters_of Tryz.func52 (by kernel_rfl)
theorem g52 : Go.Tm.Good Tryz.prog 52 c52 := Go.Tm.good_of (C := C52) mx (table_ok tt_ok) (TreeOk.leaf ⟨g139, n139⟩) Tryz.func52 q52
theorem n140 : Go.Tm.Enters Tryz.prog 140 := Go.Tm.enters_of Tryz.func140 (by kernel_rfl)
theorem g140 : Go.Tm.Good Tryz.prog 140 c140 := Go.Tm.good_of (C := C140) mx (table_ok tt_ok) TreeOk.nil Tryz.func140 q140
theorem n55 : Go.Tm.Enters Tryz.prog 55 := Go.Tm.enters_of Tryz.func55 (by kernel_rfl)
theorem g55 : Go.Tm.Good Tryz.prog 55 c55 := Go.Tm.good_of (C := C55) mx (table_ok tt_ok) (TreeOk.leaf ⟨g140, n140⟩) Tryz.func55 q55
theorem n141 : Go.Tm.Enters Tryz.prog 141 := Go.Tm.enters_of Tryz.func141 (by kernel_rfl)
theorem g141 : Go.Tm.Good Tryz.prog 141 c141 := Go.Tm.good_of (C := C141) mx (table_ok tt_ok) TreeOk.nil Tryz.func141 q141
theorem n56 : Go.Tm.Enters Tryz.prog 56 := Go.Tm.enters_of Tryz.func56 (by kernel_rfl)
theorem g56 : Go.Tm.Good Tryz.prog 56 c56 := Go.Tm.good_of (C := C56) mx (table_ok tt_ok) (TreeOk.leaf ⟨g141, n141⟩) Tryz.func56 q56
theorem n143 : Go.Tm.Enters Tryz.prog 143 := Go.Tm.enters_of Tryz.func143 (by kernel_rfl)
theorem g143 : Go.Tm.Good Tryz.prog 143 c143 := Go.Tm.good_of (C := C143) mx (table_ok tt_ok) (TreeOk.node (TreeOk.leaf ⟨g52, n52⟩) (TreeOk.leaf ⟨g53, n53⟩)) Tryz.func143 q143
theorem n59 : Go.Tm.Enters Tryz.prog 59 := Go.Tm.enters_of Tryz.func59 (by kernel_rfl)
theorem g59 : Go.Tm.Good Tryz.prog 59 c59 := Go.Tm.good_of (C := C59) mx (table_ok tt_ok) (TreeOk.leaf ⟨g143, n143⟩) Tryz.func59 q59
theorem n10 : Go.Tm.Enters Tryz.prog 10 := Go.Tm.enters_of Tryz.func10 (by kernel_rfl)
theorem g10 : Go.Tm.Good Tryz.prog 10 c10 := Go.Tm.good_of (C := C10) mx (table_ok tt_ok) (TreeOk.node (TreeOk.node (TreeOk.node (TreeOk.leaf ⟨g25, n25⟩) (TreeOk.leaf ⟨g51, n51⟩)) (TreeOk.node (TreeOk.leaf ⟨g52, n52⟩) (TreeOk.node (TreeOk.leaf ⟨g53, n53⟩) (TreeOk.leaf ⟨g54, n54⟩)))) (TreeOk.node (TreeOk.node (TreeOk.leaf ⟨g55, n55⟩) (TreeOk.leaf ⟨g56, n56⟩)) (TreeOk.node (TreeOk.leaf ⟨g57, n57⟩) (TreeOk.node (TreeOk.leaf ⟨g58, n58⟩) (TreeOk.leaf ⟨g59, n59⟩))))) Tryz.func10 q10
theorem n87 : Go.Tm.Enters Tryz.prog 87 := Go.Tm.enters_of Tryz.func87 (by kernel_rfl)
theorem g87 : Go.Tm.Good Tryz.prog 87 c87 := Go.Tm.good_of (C := C87) mx (table_ok tt_ok) (TreeOk.leaf ⟨g10, n10⟩) Tryz.func87 q87
theorem n160 : Go.Tm.Enters Tryz.prog 160 := Go.Tm.enters_of Tryz.func160 (by kernel_rfl)
theorem g160 : Go.Tm.Good Tryz.prog 160 c160 := Go.Tm.good_of (C := C160) mx (table_ok tt_ok) TreeOk.nil Tryz.func160 q160
theorem n88 : Go.Tm.Enters Tryz.prog 88 := Go.Tm.enters_of Tryz.func88 (by kernel_rfl)
theorem g88 : Go.Tm.Good Tryz.prog 88 c88 := Go.Tm.good_of (C := C88) mx (table_ok tt_ok) (TreeOk.leaf ⟨g160, n160⟩) Tryz.func88 q88
theorem n161 : Go.Tm.Enters Tryz.prog 161 := Go.Tm.enters_of Tryz.func161 (by kernel_rfl)
theorem g161 : Go.Tm.Good Tryz.prog 161 c161 := Go.Tm.good_of (C := C161) mx (table_ok tt_ok) (TreeOk.node (TreeOk.node (TreeOk.leaf ⟨g52, n52⟩) (TreeOk.leaf ⟨g53, n53⟩)) (TreeOk.node (TreeOk.leaf ⟨g54, n54⟩) (TreeOk.node (TreeOk.leaf ⟨g140, n140⟩) (TreeOk.leaf ⟨g141, n141⟩)))) Tryz.func161 q161
theorem n89 : Go.Tm.Enters Tryz.prog 89 := Go.Tm.enters_of Tryz.func89 (by kernel_rfl)
theorem g89 : Go.Tm.Good Tryz.prog 89 c89 := Go.Tm.good_of (C := C89) mx (table_ok tt_ok) (TreeOk.leaf ⟨g161, n161⟩) Tryz.func89 q89
theorem n19 : Go.Tm.Enters Tryz.prog 19 := Go.Tm.enters_of Tryz.func19 (by kernel_rfl)
theorem g19 : Go.Tm.Good Tryz.prog 19 c19 := Go.Tm.good_of (C := C19) mx (table_ok tt_ok) (TreeOk.node (TreeOk.node (TreeOk.leaf ⟨g25, n25⟩) (TreeOk.node (TreeOk.leaf ⟨g26, n26⟩) (TreeOk.leaf ⟨g52, n52⟩))) (TreeOk.node (TreeOk.leaf ⟨g87, n87⟩) (TreeOk.node (TreeOk.leaf ⟨g88, n88⟩) (TreeOk.leaf ⟨g89, n89⟩)))) Tryz.func19 q19
theorem n167 : Go.Tm.Enters Tryz.prog 167 := Go.Tm.enters_of Tryz.func167 (by kernel_rfl)
theorem g167 : Go.Tm.Good Tryz.prog 167 c167 := Go.Tm.good_of (C := C167) mx (table_ok tt_ok) TreeOk.nil Tryz.func167 q167
theorem n125 : Go.Tm.Enters Tryz.prog 125 := Go.Tm.enters_of Tryz.func125 (by kernel_rfl)
theorem g125 : Go.Tm.Good Tryz.prog 125 c125 := Go.Tm.good_of (C := C125) mx (table_ok tt_ok) (TreeOk.leaf ⟨g167, n167⟩) Tryz.func125 q125
theorem n170 : Go.Tm.Enters Tryz.prog 170 := Go.Tm.enters_of Tryz.func170 (by kernel_rfl)
theorem g170 : Go.Tm.Good Tryz.prog 170 c170 := Go.Tm.good_of (C := C170) mx (table_ok tt_ok) TreeOk.nil Tryz.func170 q170
theorem n98 : Go.Tm.Enters Tryz.prog 98 := Go.Tm.enters_of Tryz.func98 (by kernel_rfl)
theorem g98 : Go.Tm.Good Tryz.prog 98 c98 := Go.Tm.good_of (C := C98) mx (table_ok tt_ok) (TreeOk.leaf ⟨g170, n170⟩) Tryz.func98 q98
theorem n169 : Go.Tm.Enters Tryz.prog 169 := Go.Tm.enters_of Tryz.func169 (by kernel_rfl)
theorem g169 : Go.Tm.Good Tryz.prog 169 c169 := Go.Tm.good_of (C := C169) mx (table_ok tt_ok) (TreeOk.leaf ⟨g167, n167⟩) Tryz.func169 q169
theorem n206 : Go.Tm.Enters Tryz.prog 206 := Go.Tm.enters_of Tryz.func206 (by kernel_rfl)
theorem g206 : Go.Tm.Good Tryz.prog 206 c206 := Go.Tm.good_of (C := C206) mx (table_ok tt_ok) (TreeOk.node (TreeOk.leaf ⟨g167, n167⟩) (TreeOk.leaf ⟨g169, n169⟩)) Tryz.func206 q206
theorem n228 : Go.Tm.Enters Tryz.prog 228 := Go.Tm.enters_of Tryz.func228 (by kernel_rfl)
theorem g228 : Go.Tm.Good Tryz.prog 228 c228 := Go.Tm.good_of (C := C228) mx (table_ok tt_ok) TreeOk.nil Tryz.func228 q228
theorem n207 : Go.Tm.Enters Tryz.prog 207 := Go.Tm.enters_of Tryz.func207 (by kernel_rfl)
theorem g207 : Go.Tm.Good Tryz.prog 207 c207 := Go.Tm.good_of (C := C207) mx (table_ok tt_ok) (TreeOk.leaf ⟨g228, n228⟩) Tryz.func207 q207
theorem n168 : Go.Tm.Enters Tryz.prog 168 := Go.Tm.enters_of Tryz.func168 (by kernel_rfl)
theorem g168 : Go.Tm.Good Tryz.prog 168 c168 := Go.Tm.good_of (C := C168) mx (table_ok tt_ok) (TreeOk.node (TreeOk.leaf ⟨g206, n206⟩) (TreeOk.leaf ⟨g207, n207⟩)) Tryz.func168 q168
theorem n96 : Go.Tm.Enters Tryz.prog 96 := Go.Tm.enters_of Tryz.func96 (by kernel_rfl)
theorem g96 : Go.Tm.Good Tryz.prog 96 c96 := Go.Tm.good_of (C := C96) mx (table_ok tt_ok) (TreeOk.node (TreeOk.leaf ⟨g167, n167⟩) (TreeOk.leaf ⟨g168, n168⟩)) Tryz.func96 q96
theorem n234 : Go.Tm.Enters Tryz.prog 234 := Go.Tm.enters_of Tryz.func234 (by kernel_rfl)
theorem g234 : Go.Tm.Good Tryz.prog 234 c234 := Go.Tm.good_of (C := C234) mx (table_ok tt_ok) (TreeOk.node (TreeOk.leaf ⟨g167, n167⟩) (TreeOk.leaf ⟨g169, n169⟩)) Tryz.func234 q234
theorem n239 : Go.Tm.Enters Tryz.prog 239 := Go.Tm.enters_of Tryz.func239 (by kernel_rfl)
theorem g239 : Go.Tm.Good Tryz.prog 239 c239 := Go.Tm.good_of (C := C239) mx (table_ok tt_ok) TreeOk.nil Tryz.func239 q239
theorem w_284 (z : Option (GD o170)) : (show Option (GD o284) from z) = z.map (Go.Tm.wkD o170) := by cases z <;> rfl
theorem n284 : Go.Tm.Enters Tryz.prog 170 := n170
theorem g284 : Go.Tm.Good Tryz.prog 170 c284 := Go.Tm.good_weak (ins := i170) (outs := o170) (F := F170) (F' := F170) g170 (fun x => w_284 (F170 x))
theorem n250 : Go.Tm.Enters Tryz.prog 250 := Go.Tm.enters_of Tryz.func250 (by kernel_rfl)
theorem g250 : Go.Tm.Good Tryz.prog 250 c250 := Go.Tm.good_of (C := C250) mx (table_ok tt_ok) (TreeOk.node (TreeOk.leaf ⟨g284, n284⟩) (TreeOk.leaf ⟨g239, n239⟩)) Tryz.func250 q250
theorem n251 : Go.Tm.Enters Tryz.prog 251 := Go.Tm.enters_of Tryz.func251 (by kernel_rfl)
theorem g251 : Go.Tm.Good Tryz.prog 251 c251 := Go.Tm.good_of (C := C251) mx (table_ok tt_ok) TreeOk.nil Tryz.func251 q251
theorem w_285 (z : Option (GD o98)) : (show Option (GD o285) from z) = z.map (Go.Tm.wkD o98) := by cases z <;> rfl
theorem n285 : Go.Tm.Enters Tryz.prog 98 := n98
theorem g285 : Go.Tm.Good Tryz.prog 98 c285 := Go.Tm.good_weak (ins := i98) (outs := o98) (F := F98) (F' := F98) g98 (fun x => w_285 (F98 x))
theorem n240 : Go.Tm.Enters Tryz.prog 240 := Go.Tm.enters_of Tryz.func240 (by kernel_rfl)
theorem g240 : Go.Tm.Good Tryz.prog 240 c240 := Go.Tm.good_of (C := C240) mx (table_ok tt_ok) (TreeOk.node (TreeOk.node (TreeOk.leaf ⟨g285, n285⟩) (TreeOk.leaf ⟨g239, n239⟩)) (TreeOk.node (TreeOk.leaf ⟨g250, n250⟩) (TreeOk.leaf ⟨g251, n251⟩))) Tryz.func240 q240
theorem n223 : Go.Tm.Enters Tryz.prog 223 := Go.Tm.enters_of Tryz.func223 (by kernel_rfl)
theorem g223 : Go.Tm.Good Tryz.prog 223 c223 := Go.Tm.good_of (C := C223) mx (table_ok tt_ok) (TreeOk.node (TreeOk.node (TreeOk.leaf ⟨g96, n96⟩) (TreeOk.leaf ⟨g98, n98⟩)) (TreeOk.node (TreeOk.leaf ⟨g234, n234⟩) (TreeOk.node (TreeOk.leaf ⟨g239, n239⟩) (TreeOk.leaf ⟨g240, n240⟩)))) Tryz.func223 q223
theorem n195 : Go.Tm.Enters Tryz.prog 195 := Go.Tm.enters_of Tryz.func195 (by kernel_rfl)
theorem g195 : Go.Tm.Good Tryz.prog 195 c195 := Go.Tm.good_of (C := C195) mx (table_ok tt_ok) (TreeOk.node (TreeOk.leaf ⟨g98, n98⟩) (TreeOk.leaf ⟨g223, n223⟩)) Tryz.func195 q195
theorem n196 : Go.Tm.Enters Tryz.prog 196 := Go.Tm.enters_of Tryz.func196 (by kernel_rfl)
theorem g196 : Go.Tm.Good Tryz.prog 196 c196 := Go.Tm.good_of (C := C196) mx (table_ok tt_ok) (TreeOk.node (TreeOk.leaf ⟨g96, n96⟩) (TreeOk.leaf ⟨g285, n285⟩)) Tryz.func196 q196
theorem n124 : Go.Tm.Enters Tryz.prog 124 := Go.Tm.enters_of Tryz.func124 (by kernel_rfl)
theorem g124 : Go.Tm.Good Tryz.prog 124 c124 := Go.Tm.good_of (C := C124) mx (table_ok tt_ok) (TreeOk.node (TreeOk.node (TreeOk.leaf ⟨g285, n285⟩) (TreeOk.leaf ⟨g167, n167⟩)) (TreeOk.node (TreeOk.leaf ⟨g195, n195⟩) (TreeOk.leaf ⟨g196, n196⟩))) Tryz.func124 q124
theorem n197 : Go.Tm.Enters Tryz.prog 197 := Go.Tm.enters_of Tryz.func197 (by kernel_rfl)
theorem g197 : Go.Tm.Good Tryz.prog 197 c197 := Go.Tm.good_of (C := C197) mx (table_ok tt_ok) TreeOk.nil Tryz.func197 q197
theorem n126 : Go.Tm.Enters Tryz.prog 126 := Go.Tm.enters_of Tryz.func126 (by kernel_rfl)
theorem g126 : Go.Tm.Good Tryz.prog 126 c126 := Go.Tm.good_of (C := C126) mx (table_ok tt_ok) (TreeOk.leaf ⟨g197, n197⟩) Tryz.func126 q126
theorem n39 : Go.Tm.Enters Tryz.prog 39 := Go.Tm.enters_of Tryz.func39 (by kernel_rfl)
theorem g39 : Go.Tm.Good Tryz.prog 39 c39 := Go.Tm.good_of (C := C39) mx (table_ok tt_ok) (TreeOk.node (TreeOk.leaf ⟨g124, n124⟩) (TreeOk.node (TreeOk.leaf ⟨g125, n125⟩) (TreeOk.leaf ⟨g126, n126⟩))) Tryz.func39 q39
theorem n172 : Go.Tm.Enters Tryz.prog 172 := Go.Tm.enters_of Tryz.func172 (by kernel_rfl)
theorem g172 : Go.Tm.Good Tryz.prog 172 c172 := Go.Tm.good_of (C := C172) mx (table_ok tt_ok) TreeOk.nil Tryz.func172 q172
theorem n128 : Go.Tm.Enters Tryz.prog 128 := Go.Tm.enters_of Tryz.func128 (by kernel_rfl)
theorem g128 : Go.Tm.Good Tryz.prog 128 c128 := Go.Tm.good_of (C := C128) mx (table_ok tt_ok) (TreeOk.leaf ⟨g172, n172⟩) Tryz.func128 q128
theorem n211 : Go.Tm.Enters Tryz.prog 211 := Go.Tm.enters_of Tryz.func211 (by kernel_rfl)
theorem g211 : Go.Tm.Good Tryz.prog 211 c211 := Go.Tm.good_of (C := C211) mx (table_ok tt_ok) TreeOk.nil Tryz.func211 q211
theorem n175 : Go.Tm.Enters Tryz.prog 175 := Go.Tm.enters_of Tryz.func175 (by kernel_rfl)
theorem g175 : Go.Tm.Good Tryz.prog 175 c175 := Go.Tm.good_of (C := C175) mx (table_ok tt_ok) (TreeOk.leaf ⟨g211, n211⟩) Tryz.func175 q175
theorem n104 : Go.Tm.Enters Tryz.prog 104 := Go.Tm.enters_of Tryz.func104 (by kernel_rfl)
theorem g104 : Go.Tm.Good Tryz.prog 104 c104 := Go.Tm.good_of (C := C104) mx (table_ok tt_ok) (TreeOk.leaf ⟨g175, n175⟩) Tryz.func104 q104
theorem n252 : Go.Tm.Enters Tryz.prog 252 := Go.Tm.enters_of Tryz.func252 (by kernel_rfl)
theorem g252 : Go.Tm.Good Tryz.prog 252 c252 := Go.Tm.good_of (C := C252) mx (table_ok tt_ok) TreeOk.nil Tryz.func252 q252
theorem n253 : Go.Tm.Enters Tryz.prog 253 := Go.Tm.enters_of Tryz.func253 (by kernel_rfl)
theorem g253 : Go.Tm.Good Tryz.prog 253 c253 := Go.Tm.good_of (C := C253) mx (table_ok tt_ok) TreeOk.nil Tryz.func253 q253
theorem n241 : Go.Tm.Enters Tryz.prog 241 := Go.Tm.enters_of Tryz.func241 (by kernel_rfl)
theorem g241 : Go.Tm.Good Tryz.prog 241 c241 := Go.Tm.good_of (C := C241) mx (table_ok tt_ok) (TreeOk.node (TreeOk.leaf ⟨g252, n252⟩) (TreeOk.leaf ⟨g253, n253⟩)) Tryz.func241 q241
theorem n174 : Go.Tm.Enters Tryz.prog 174 := Go.Tm.enters_of Tryz.func174 (by kernel_rfl)
theorem g174 : Go.Tm.Good Tryz.prog 174 c174 := Go.Tm.good_of (C := C174) mx (table_ok tt_ok) (TreeOk.leaf ⟨g172, n172⟩) Tryz.func174 q174
theorem n230 : Go.Tm.Enters Tryz.prog 230 := Go.Tm.enters_of Tryz.func230 (by kernel_rfl)
theorem g230 : Go.Tm.Good Tryz.prog 230 c230 := Go.Tm.good_of (C := C230) mx (table_ok tt_ok) (TreeOk.leaf ⟨g172, n172⟩) Tryz.func230 q230
theorem n209 : Go.Tm.Enters Tryz.prog 209 := Go.Tm.enters_of Tryz.func209 (by kernel_rfl)
theorem g209 : Go.Tm.Good Tryz.prog 209 c209 := Go.Tm.good_of (C := C209) mx (table_ok tt_ok) (TreeOk.node (TreeOk.leaf ⟨g172, n172⟩) (TreeOk.node (TreeOk.leaf ⟨g174, n174⟩) (TreeOk.leaf ⟨g230, n230⟩))) Tryz.func209 q209
theorem n210 : Go.Tm.Enters Tryz.prog 210 := Go.Tm.enters_of Tryz.func210 (by kernel_rfl)
theorem g210 : Go.Tm.Good Tryz.prog 210 c210 := Go.Tm.good_of (C := C210) mx (table_ok tt_ok) TreeOk.nil Tryz.func210 q210
theorem n173 : Go.Tm.Enters Tryz.prog 173 := Go.Tm.enters_of Tryz.func173 (by kernel_rfl)
theorem g173 : Go.Tm.Good Tryz.prog 173 c173 := Go.Tm.good_of (C := C173) mx (table_ok tt_ok) (TreeOk.node (TreeOk.leaf ⟨g209, n209⟩) (TreeOk.leaf ⟨g210, n210⟩)) Tryz.func173 q173
theorem n102 : Go.Tm.Enters Tryz.prog 102 := Go.Tm.enters_of Tryz.func102 (by kernel_rfl)
theorem g102 : Go.Tm.Good Tryz.prog 102 c102 := Go.Tm.good_of (C := C102) mx (table_ok tt_ok) (TreeOk.node (TreeOk.leaf ⟨g172, n172⟩) (TreeOk.leaf ⟨g173, n173⟩)) Tryz.func102 q102
theorem n242 : Go.Tm.Enters Tryz.prog 242 := Go.Tm.enters_of Tryz.func242 (by kernel_rfl)
theorem g242 : Go.Tm.Good Tryz.prog 242 c242 := Go.Tm.good_of (C := C242) mx (table_ok tt_ok) (TreeOk.node (TreeOk.leaf ⟨g172, n172⟩) (TreeOk.leaf ⟨g174, n174⟩)) Tryz.func242 q242
theorem n243 : Go.Tm.Enters Tryz.prog 243 := Go.Tm.enters_of Tryz.func243 (by kernel_rfl)
theorem g243 : Go.Tm.Good Tryz.prog 243 c243 := Go.Tm.good_of (C := C243) mx (table_ok tt_ok) TreeOk.nil Tryz.func243 q243
noncomputable def r257 : Go.Shelf.Ren := ⟨fun n => match n with | 22 => 257 | 29 => 259 | 30 => 260 | n => n, fun n => match n with | 9 => 153 | 24 => 46 | n => n, fun n => n⟩
theorem L257 : InsL Tryz.prog r257 Tryz.f257.name 5 64 (.agg #[.string ByteArray.empty, .int .i64 0, .int .i64 0, .int .i64 0, .slice none 0 0]) where
  mixed := by kernel_rfl
  f22 := by kernel_rfl
  ov := fun args w => run_callFunc_extern Tryz.func259 (by kernel_rfl) (by kernel_rfl) (by kernel_rfl) (by kernel_rfl) args w
  t0 := by kernel_rfl
  a0 := fun w => by kernel_rfl
  z0 := fun w => by kernel_rfl
  v0 := fun w => by kernel_rfl
  t3 := by kernel_rfl
  a3 := fun w => by kernel_rfl
  z3 := fun w => by kernel_rfl
  v3 := fun w => by kernel_rfl
  t4 := by kernel_rfl
  a4 := fun w => by kernel_rfl
  z4 := fun w => by kernel_rfl
  v4 := fun w => by kernel_rfl
  t24 := by kernel_rfl
  a24 := fun w => by kernel_rfl
  z24 := fun w => by kernel_rfl
  v24 := fun w => by kernel_rfl
  z9 := fun w => by kernel_rfl
  i9 := by kernel_rfl
theorem n257 : Go.Tm.Enters Tryz.prog 257 := Go.Tm.enters_of Tryz.func257 (by kernel_rfl)
theorem g257 : Go.Tm.Good Tryz.prog 257 c257 := Go.Tm.good_insert (es := e153) (ms := [.sh, .sh, .sh, .sh, (.own [])]) L257 rfl (by decide) rfl
theorem n254 : Go.Tm.Enters Tryz.prog 254 := Go.Tm.enters_of Tryz.func254 (by kernel_rfl)
theorem g254 : Go.Tm.Good Tryz.prog 254 c254 := Go.Tm.good_of (C := C254) mx (table_ok tt_ok) (TreeOk.node (TreeOk.leaf ⟨g241, n241⟩) (TreeOk.leaf ⟨g257, n257⟩)) Tryz.func254 q254
noncomputable def r258 : Go.Shelf.Ren := ⟨fun n => match n with | 22 => 258 | 29 => 261 | 30 => 262 | n => n, fun n => match n with | 9 => 248 | 24 => 151 | n => n, fun n => n⟩
theorem L258 : InsL Tryz.prog r258 Tryz.f258.name 2 16 (.agg #[.int .i64 0, .int .i64 0]) where
  mixed := by kernel_rfl
  f22 := by kernel_rfl
  ov := fun args w => run_callFunc_extern Tryz.func261 (by kernel_rfl) (by kernel_rfl) (by kernel_rfl) (by kernel_rfl) args w
  t0 := by kernel_rfl
  a0 := fun w => by kernel_rfl
  z0 := fun w => by kernel_rfl
  v0 := fun w => by kernel_rfl
  t3 := by kernel_rfl
  a3 := fun w => by kernel_rfl
  z3 := fun w => by kernel_rfl
  v3 := fun w => by kernel_rfl
  t4 := by kernel_rfl
  a4 := fun w => by kernel_rfl
  z4 := fun w => by kernel_rfl
  v4 := fun w => by kernel_rfl
  t24 := by kernel_rfl
  a24 := fun w => by kernel_rfl
  z24 := fun w => by kernel_rfl
  v24 := fun w => by kernel_rfl
  z9 := fun w => by kernel_rfl
  i9 := by kernel_rfl
theorem n258 : Go.Tm.Enters Tryz.prog 258 := Go.Tm.enters_of Tryz.func258 (by kernel_rfl)
theorem g258 : Go.Tm.Good Tryz.prog 258 c258 := Go.Tm.good_insert (es := e248) (ms := []) L258 rfl (by decide) rfl
theorem n255 : Go.Tm.Enters Tryz.prog 255 := Go.Tm.enters_of Tryz.func255 (by kernel_rfl)
theorem g255 : Go.Tm.Good Tryz.prog 255 c255 := Go.Tm.good_of (C := C255) mx (table_ok tt_ok) (TreeOk.leaf ⟨g258, n258⟩) Tryz.func255 q255
theorem n244 : Go.Tm.Enters Tryz.prog 244 := Go.Tm.enters_of Tryz.func244 (by kernel_rfl)
theorem g244 : Go.Tm.Good Tryz.prog 244 c244 := Go.Tm.good_of (C := C244) mx (table_ok tt_ok) (TreeOk.node (TreeOk.leaf ⟨g254, n254⟩) (TreeOk.leaf ⟨g255, n255⟩)) Tryz.func244 q244
theorem n224 : Go.Tm.Enters Tryz.prog 224 := Go.Tm.enters_of Tryz.func224 (by kernel_rfl)
theorem g224 : Go.Tm.Good Tryz.prog 224 c224 := Go.Tm.good_of (C := C224) mx (table_ok tt_ok) (TreeOk.node (TreeOk.node (TreeOk.leaf ⟨g102, n102⟩) (TreeOk.node (TreeOk.leaf ⟨g104, n104⟩) (TreeOk.leaf ⟨g241, n241⟩))) (TreeOk.node (TreeOk.leaf ⟨g242, n242⟩) (TreeOk.node (TreeOk.leaf ⟨g243, n243⟩) (TreeOk.leaf ⟨g244, n244⟩)))) Tryz.func224 q224
theorem n198 : Go.Tm.Enters Tryz.prog 198 := Go.Tm.enters_of Tryz.func198 (by kernel_rfl)
theorem g198 : Go.Tm.Good Tryz.prog 198 c198 := Go.Tm.good_of (C := C198) mx (table_ok tt_ok) (TreeOk.node (TreeOk.leaf ⟨g104, n104⟩) (TreeOk.leaf ⟨g224, n224⟩)) Tryz.func198 q198
theorem w_286 (z : Option (GD o104)) : (show Option (GD o286) from z) = z.map (Go.Tm.wkD o104) := by cases z <;> rfl
theorem n286 : Go.Tm.Enters Tryz.prog 104 := n104
theorem g286 : Go.Tm.Good Tryz.prog 104 c286 := Go.Tm.good_weak (ins := i104) (outs := o104) (F := F104) (F' := F104) g104 (fun x => w_286 (F104 x))
theorem n199 : Go.Tm.Enters Tryz.prog 199 := Go.Tm.enters_of Tryz.func199 (by kernel_rfl)
theorem g199 : Go.Tm.Good Tryz.prog 199 c199 := Go.Tm.good_of (C := C199) mx (table_ok tt_ok) (TreeOk.node (TreeOk.leaf ⟨g102, n102⟩) (TreeOk.leaf ⟨g286, n286⟩)) Tryz.func199 q199
theorem w_287 (z : Option (GD o198)) : (show Option (GD o287) from z) = z.map (Go.Tm.wkD o198) := by cases z <;> rfl
theorem n287 : Go.Tm.Enters Tryz.prog 198 := n198
theorem g287 : Go.Tm.Good Tryz.prog 198 c287 := Go.Tm.good_weak (ins := i198) (outs := o198) (F := F198) (F' := F198) g198 (fun x => w_287 (F198 x))
theorem n127 : Go.Tm.Enters Tryz.prog 127 := Go.Tm.enters_of Tryz.func127 (by kernel_rfl)
theorem g127 : Go.Tm.Good Tryz.prog 127 c127 := Go.Tm.good_of (C := C127) mx (table_ok tt_ok) (TreeOk.node (TreeOk.node (TreeOk.leaf ⟨g286, n286⟩) (TreeOk.leaf ⟨g172, n172⟩)) (TreeOk.node (TreeOk.leaf ⟨g287, n287⟩) (TreeOk.leaf ⟨g199, n199⟩))) Tryz.func127 q127
theorem n200 : Go.Tm.Enters Tryz.prog 200 := Go.Tm.enters_of Tryz.func200 (by kernel_rfl)
theorem g200 : Go.Tm.Good Tryz.prog 200 c200 := Go.Tm.good_of (C := C200) mx (table_ok tt_ok) TreeOk.nil Tryz.func200 q200
theorem n202 : Go.Tm.Enters Tryz.prog 202 := Go.Tm.enters_of Tryz.func202 (by kernel_rfl)
theorem g202 : Go.Tm.Good Tryz.prog 202 c202 := Go.Tm.good_of (C := C202) mx (table_ok tt_ok) TreeOk.nil Tryz.func202 q202
theorem n201 : Go.Tm.Enters Tryz.prog 201 := Go.Tm.enters_of Tryz.func201 (by kernel_rfl)
theorem g201 : Go.Tm.Good Tryz.prog 201 c201 := Go.Tm.good_of (C := C201) mx (table_ok tt_ok) (TreeOk.leaf ⟨g202, n202⟩) Tryz.func201 q201
theorem n129 : Go.Tm.Enters Tryz.prog 129 := Go.Tm.enters_of Tryz.func129 (by kernel_rfl)
theorem g129 : Go.Tm.Good Tryz.prog 129 c129 := Go.Tm.good_of (C := C129) mx (table_ok tt_ok) (TreeOk.node (TreeOk.leaf ⟨g200, n200⟩) (TreeOk.leaf ⟨g201, n201⟩)) Tryz.func129 q129
theorem n40 : Go.Tm.Enters Tryz.prog 40 := Go.Tm.enters_of Tryz.func40 (by kernel_rfl)
theorem g40 : Go.Tm.Good Tryz.prog 40 c40 := Go.Tm.good_of (C := C40) mx (table_ok tt_ok) (TreeOk.node (TreeOk.leaf ⟨g127, n127⟩) (TreeOk.node (TreeOk.leaf ⟨g128, n128⟩) (TreeOk.leaf ⟨g129, n129⟩))) Tryz.func40 q40
theorem n231 : Go.Tm.Enters Tryz.prog 231 := Go.Tm.enters_of Tryz.func231 (by kernel_rfl)
theorem g231 : Go.Tm.Good Tryz.prog 231 c231 := Go.Tm.good_of (C := C231) mx (table_ok tt_ok) TreeOk.nil Tryz.func231 q231
theorem n212 : Go.Tm.Enters Tryz.prog 212 := Go.Tm.enters_of Tryz.func212 (by kernel_rfl)
theorem g212 : Go.Tm.Good Tryz.prog 212 c212 := Go.Tm.good_of (C := C212) mx (table_ok tt_ok) (TreeOk.leaf ⟨g231, n231⟩) Tryz.func212 q212
theorem n178 : Go.Tm.Enters Tryz.prog 178 := Go.Tm.enters_of Tryz.func178 (by kernel_rfl)
theorem g178 : Go.Tm.Good Tryz.prog 178 c178 := Go.Tm.good_of (C := C178) mx (table_ok tt_ok) (TreeOk.leaf ⟨g212, n212⟩) Tryz.func178 q178
theorem n108 : Go.Tm.Enters Tryz.prog 108 := Go.Tm.enters_of Tryz.func108 (by kernel_rfl)
theorem g108 : Go.Tm.Good Tryz.prog 108 c108 := Go.Tm.good_of (C := C108) mx (table_ok tt_ok) (TreeOk.leaf ⟨g178, n178⟩) Tryz.func108 q108
theorem n28 : Go.Tm.Enters Tryz.prog 28 := Go.Tm.enters_of Tryz.func28 (by kernel_rfl)
theorem g28 : Go.Tm.Good Tryz.prog 28 c28 := Go.Tm.good_of (C := C28) mx (table_ok tt_ok) (TreeOk.leaf ⟨g108, n108⟩) Tryz.func28 q28
theorem n29 : Go.Tm.Enters Tryz.prog 29 := Go.Tm.enters_of Tryz.func29 (by kernel_rfl)
theorem g29 : Go.Tm.Good Tryz.prog 29 c29 := Go.Tm.good_of (C := C29) mx (table_ok tt_ok) TreeOk.nil Tryz.func29 q29
theorem n149 : Go.Tm.Enters Tryz.prog 149 := Go.Tm.enters_of Tryz.func149 (by kernel_rfl)
theorem g149 : Go.Tm.Good Tryz.prog 149 c149 := Go.Tm.good_of (C := C149) mx (table_ok tt_ok) TreeOk.nil Tryz.func149 q149
theorem n64 : Go.Tm.Enters Tryz.prog 64 := Go.Tm.enters_of Tryz.func64 (by kernel_rfl)
theorem g64 : Go.Tm.Good Tryz.prog 64 c64 := Go.Tm.good_of (C := C64) mx (table_ok tt_ok) (TreeOk.leaf ⟨g149, n149⟩) Tryz.func64 q64
theorem n63 : Go.Tm.Enters Tryz.prog 63 := Go.Tm.enters_of Tryz.func63 (by kernel_rfl)
theorem g63 : Go.Tm.Good Tryz.prog 63 c63 := Go.Tm.good_of (C := C63) mx (table_ok tt_ok) (TreeOk.leaf ⟨g29, n29⟩) Tryz.func63 q63
theorem n68 : Go.Tm.Enters Tryz.prog 68 := Go.Tm.enters_of Tryz.func68 (by kernel_rfl)
theorem g68 : Go.Tm.Good Tryz.prog 68 c68 := Go.Tm.good_of (C := C68) mx (table_ok tt_ok) TreeOk.nil Tryz.func68 q68
theorem n65 : Go.Tm.Enters Tryz.prog 65 := Go.Tm.enters_of Tryz.func65 (by kernel_rfl)
theorem g65 : Go.Tm.Good Tryz.prog 65 c65 := Go.Tm.good_of (C := C65) mx (table_ok tt_ok) (TreeOk.node (TreeOk.leaf ⟨g29, n29⟩) (TreeOk.leaf ⟨g68, n68⟩)) Tryz.func65 q65
theorem n152 : Go.Tm.Enters Tryz.prog 152 := Go.Tm.enters_of Tryz.func152 (by kernel_rfl)
theorem g152 : Go.Tm.Good Tryz.prog 152 c152 := Go.Tm.good_of (C := C152) mx (table_ok tt_ok) TreeOk.nil Tryz.func152 q152
theorem n69 : Go.Tm.Enters Tryz.prog 69 := Go.Tm.enters_of Tryz.func69 (by kernel_rfl)
theorem g69 : Go.Tm.Good Tryz.prog 69 c69 := Go.Tm.good_of (C := C69) mx (table_ok tt_ok) (TreeOk.leaf ⟨g152, n152⟩) Tryz.func69 q69
theorem n148 : Go.Tm.Enters Tryz.prog 148 := Go.Tm.enters_of Tryz.func148 (by kernel_rfl)
theorem g148 : Go.Tm.Good Tryz.prog 148 c148 := Go.Tm.good_of (C := C148) mx (table_ok tt_ok) (TreeOk.node (TreeOk.node (TreeOk.leaf ⟨g63, n63⟩) (TreeOk.leaf ⟨g64, n64⟩)) (TreeOk.node (TreeOk.leaf ⟨g65, n65⟩) (TreeOk.leaf ⟨g69, n69⟩))) Tryz.func148 q148
theorem n62 : Go.Tm.Enters Tryz.prog 62 := Go.Tm.enters_of Tryz.func62 (by kernel_rfl)
theorem g62 : Go.Tm.Good Tryz.prog 62 c62 := Go.Tm.good_of (C := C62) mx (table_ok tt_ok) (TreeOk.leaf ⟨g148, n148⟩) Tryz.func62 q62
theorem n150 : Go.Tm.Enters Tryz.prog 150 := Go.Tm.enters_of Tryz.func150 (by kernel_rfl)
theorem g150 : Go.Tm.Good Tryz.prog 150 c150 := Go.Tm.good_of (C := C150) mx (table_ok tt_ok) TreeOk.nil Tryz.func150 q150
theorem n66 : Go.Tm.Enters Tryz.prog 66 := Go.Tm.enters_of Tryz.func66 (by kernel_rfl)
theorem g66 : Go.Tm.Good Tryz.prog 66 c66 := Go.Tm.good_of (C := C66) mx (table_ok tt_ok) (TreeOk.leaf ⟨g150, n150⟩) Tryz.func66 q66
theorem n151 : Go.Tm.Enters Tryz.prog 151 := Go.Tm.enters_of Tryz.func151 (by kernel_rfl)
theorem g151 : Go.Tm.Good Tryz.prog 151 c151 := Go.Tm.good_of (C := C151) mx (table_ok tt_ok) TreeOk.nil Tryz.func151 q151
theorem n67 : Go.Tm.Enters Tryz.prog 67 := Go.Tm.enters_of Tryz.func67 (by kernel_rfl)
theorem g67 : Go.Tm.Good Tryz.prog 67 c67 := Go.Tm.good_of (C := C67) mx (table_ok tt_ok) (TreeOk.leaf ⟨g151, n151⟩) Tryz.func67 q67
theorem n12 : Go.Tm.Enters Tryz.prog 12 := Go.Tm.enters_of Tryz.func12 (by kernel_rfl)
theorem g12 : Go.Tm.Good Tryz.prog 12 c12 := Go.Tm.good_of (C := C12) mx (table_ok tt_ok) (TreeOk.node (TreeOk.leaf ⟨g62, n62⟩) (TreeOk.leaf ⟨g63, n63⟩)) Tryz.func12 q12
theorem n70 : Go.Tm.Enters Tryz.prog 70 := Go.Tm.enters_of Tryz.func70 (by kernel_rfl)
theorem g70 : Go.Tm.Good Tryz.prog 70 c70 := Go.Tm.good_of (C := C70) mx (table_ok tt_ok) (TreeOk.leaf ⟨g12, n12⟩) Tryz.func70 q70
theorem n13 : Go.Tm.Enters Tryz.prog 13 := Go.Tm.enters_of Tryz.func13 (by kernel_rfl)
theorem g13 : Go.Tm.Good Tryz.prog 13 c13 := Go.Tm.good_of (C := C13) mx (table_ok tt_ok) (TreeOk.node (TreeOk.node (TreeOk.node (TreeOk.leaf ⟨g28, n28⟩) (TreeOk.leaf ⟨g62, n62⟩)) (TreeOk.node (TreeOk.leaf ⟨g63, n63⟩) (TreeOk.node (TreeOk.leaf ⟨g64, n64⟩) (TreeOk.leaf ⟨g65, n65⟩)))) (TreeOk.node (TreeOk.node (TreeOk.leaf ⟨g66, n66⟩) (TreeOk.leaf ⟨g67, n67⟩)) (TreeOk.node (TreeOk.leaf ⟨g68, n68⟩) (TreeOk.node (TreeOk.leaf ⟨g69, n69⟩) (TreeOk.leaf ⟨g70, n70⟩))))) Tryz.func13 q13
theorem n92 : Go.Tm.Enters Tryz.prog 92 := Go.Tm.enters_of Tryz.func92 (by kernel_rfl)
theorem g92 : Go.Tm.Good Tryz.prog 92 c92 := Go.Tm.good_of (C := C92) mx (table_ok tt_ok) (TreeOk.leaf ⟨g13, n13⟩) Tryz.func92 q92
theorem n164 : Go.Tm.Enters Tryz.prog 164 := Go.Tm.enters_of Tryz.func164 (by kernel_rfl)
theorem g164 : Go.Tm.Good Tryz.prog 164 c164 := Go.Tm.good_of (C := C164) mx (table_ok tt_ok) TreeOk.nil Tryz.func164 q164
theorem n93 : Go.Tm.Enters Tryz.prog 93 := Go.Tm.enters_of Tryz.func93 (by kernel_rfl)
theorem g93 : Go.Tm.Good Tryz.prog 93 c93 := Go.Tm.good_of (C := C93) mx (table_ok tt_ok) (TreeOk.leaf ⟨g164, n164⟩) Tryz.func93 q93
theorem n165 : Go.Tm.Enters Tryz.prog 165 := Go.Tm.enters_of Tryz.func165 (by kernel_rfl)
theorem g165 : Go.Tm.Good Tryz.prog 165 c165 := Go.Tm.good_of (C := C165) mx (table_ok tt_ok) (TreeOk.node (TreeOk.node (TreeOk.leaf ⟨g62, n62⟩) (TreeOk.leaf ⟨g63, n63⟩)) (TreeOk.node (TreeOk.leaf ⟨g65, n65⟩) (TreeOk.node (TreeOk.leaf ⟨g150, n150⟩) (TreeOk.leaf ⟨g151, n151⟩)))) Tryz.func165 q165
theorem n94 : Go.Tm.Enters Tryz.prog 94 := Go.Tm.enters_of Tryz.func94 (by kernel_rfl)
theorem g94 : Go.Tm.Good Tryz.prog 94 c94 := Go.Tm.good_of (C := C94) mx (table_ok tt_ok) (TreeOk.leaf ⟨g165, n165⟩) Tryz.func94 q94
theorem n21 : Go.Tm.Enters Tryz.prog 21 := Go.Tm.enters_of Tryz.func21 (by kernel_rfl)
theorem g21 : Go.Tm.Good Tryz.prog 21 c21 := Go.Tm.good_of (C := C21) mx (table_ok tt_ok) (TreeOk.node (TreeOk.node (TreeOk.leaf ⟨g28, n28⟩) (TreeOk.node (TreeOk.leaf ⟨g29, n29⟩) (TreeOk.leaf ⟨g62, n62⟩))) (TreeOk.node (TreeOk.leaf ⟨g92, n92⟩) (TreeOk.node (TreeOk.leaf ⟨g93, n93⟩) (TreeOk.leaf ⟨g94, n94⟩)))) Tryz.func21 q21
theorem n7 : Go.Tm.Enters Tryz.prog 7 := Go.Tm.enters_of Tryz.func7 (by kernel_rfl)
theorem g7 : Go.Tm.Good Tryz.prog 7 c7 := Go.Tm.good_of (C := C7) mx (table_ok tt_ok) (TreeOk.node (TreeOk.node (TreeOk.leaf ⟨g17, n17⟩) (TreeOk.leaf ⟨g19, n19⟩)) (TreeOk.node (TreeOk.leaf ⟨g21, n21⟩) (TreeOk.node (TreeOk.leaf ⟨g39, n39⟩) (TreeOk.leaf ⟨g40, n40⟩)))) Tryz.func7 q7
end Go.Proofs.YtphaibffjdfhpaaGreat
