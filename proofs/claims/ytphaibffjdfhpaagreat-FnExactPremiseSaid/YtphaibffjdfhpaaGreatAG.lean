/- Each function does as its contract says. Conditions: none. -/

import Derived.Test.YtphaibffjdfhpaaGreatTm3
import Derived.Test.YtphaibffjdfhpaaGreatAF
namespace Go.Proofs.YtphaibffjdfhpaaGreat
open Go Go.Tm
set_option linter.unusedVariables false
set_option maxRecDepth 100000
theorem mx : Tryz.prog.follows .mixedOrders = true := by kernel_rfl
theorem n205 : Enters Tryz.prog 205 := enters_of Tryz.func205 (by kernel_rfl)
theorem g205 : Good Tryz.prog 205 c205 := good_of (C := C205) mx (table_ok tt_ok) TreeOk.nil Tryz.func205 q205
theorem n166 : Enters Tryz.prog 166 := enters_of Tryz.func166 (by kernel_rfl)
theorem g166 : Good Tryz.prog 166 c166 := good_of (C := C166) mx (table_ok tt_ok) (TreeOk.leaf ⟨g205, n205⟩) Tryz.func166 q166
theorem n95 : Enters Tryz.prog 95 := enters_of Tryz.func95 (by kernel_rfl)
theorem g95 : Good Tryz.prog 95 c95 := good_of (C := C95) mx (table_ok tt_ok) (TreeOk.leaf ⟨g166, n166⟩) Tryz.func95 q95
theorem n22 : Enters Tryz.prog 22 := enters_of Tryz.func22 (by kernel_rfl)
theorem g22 : Good Tryz.prog 22 c22 := good_of (C := C22) mx (table_ok tt_ok) (TreeOk.leaf ⟨g95, n95⟩) Tryz.func22 q22
theorem n23 : Enters Tryz.prog 23 := enters_of Tryz.func23 (by kernel_rfl)
theorem g23 : Good Tryz.prog 23 c23 := good_of (C := C23) mx (table_ok tt_ok) TreeOk.nil Tryz.func23 q23
theorem n130 : Enters Tryz.prog 130 := enters_of Tryz.func130 (by kernel_rfl)
theorem g130 : Good Tryz.prog 130 c130 := good_of (C := C130) mx (table_ok tt_ok) TreeOk.nil Tryz.func130 q130
theorem n41 : Enters Tryz.prog 41 := enters_of Tryz.func41 (by kernel_rfl)
theorem g41 : Good Tryz.prog 41 c41 := good_of (C := C41) mx (table_ok tt_ok) (TreeOk.leaf ⟨g130, n130⟩) Tryz.func41 q41
theorem n43 : Enters Tryz.prog 43 := enters_of Tryz.func43 (by kernel_rfl)
theorem g43 : Good Tryz.prog 43 c43 := good_of (C := C43) mx (table_ok tt_ok) (TreeOk.leaf ⟨g23, n23⟩) Tryz.func43 q43
theorem n47 : Enters Tryz.prog 47 := enters_of Tryz.func47 (by kernel_rfl)
theorem g47 : Good Tryz.prog 47 c47 := good_of (C := C47) mx (table_ok tt_ok) TreeOk.nil Tryz.func47 q47
theorem n44 : Enters Tryz.prog 44 := enters_of Tryz.func44 (by kernel_rfl)
theorem g44 : Good Tryz.prog 44 c44 := good_of (C := C44) mx (table_ok tt_ok) (TreeOk.node (TreeOk.leaf ⟨g23, n23⟩) (TreeOk.leaf ⟨g47, n47⟩)) Tryz.func44 q44
theorem n134 : Enters Tryz.prog 134 := enters_of Tryz.func134 (by kernel_rfl)
theorem g134 : Good Tryz.prog 134 c134 := good_of (C := C134) mx (table_ok tt_ok) TreeOk.nil Tryz.func134 q134
theorem n48 : Enters Tryz.prog 48 := enters_of Tryz.func48 (by kernel_rfl)
theorem g48 : Good Tryz.prog 48 c48 := good_of (C := C48) mx (table_ok tt_ok) (TreeOk.leaf ⟨g134, n134⟩) Tryz.func48 q48
theorem n131 : Enters Tryz.prog 131 := enters_of Tryz.func131 (by kernel_rfl)
theorem g131 : Good Tryz.prog 131 c131 := good_of (C := C131) mx (table_ok tt_ok) (TreeOk.node (TreeOk.node (TreeOk.leaf ⟨g41, n41⟩) (TreeOk.leaf ⟨g43, n43⟩)) (TreeOk.node (TreeOk.leaf ⟨g44, n44⟩) (TreeOk.leaf ⟨g48, n48⟩))) Tryz.func131 q131
theorem n42 : Enters Tryz.prog 42 := enters_of Tryz.func42 (by kernel_rfl)
theorem g42 : Good Tryz.prog 42 c42 := good_of (C := C42) mx (table_ok tt_ok) (TreeOk.leaf ⟨g131, n131⟩) Tryz.func42 q42
theorem n132 : Enters Tryz.prog 132 := enters_of Tryz.func132 (by kernel_rfl)
theorem g132 : Good Tryz.prog 132 c132 := good_of (C := C132) mx (table_ok tt_ok) TreeOk.nil Tryz.func132 q132
theorem n45 : Enters Tryz.prog 45 := enters_of Tryz.func45 (by kernel_rfl)
theorem g45 : Good Tryz.prog 45 c45 := good_of (C := C45) mx (table_ok tt_ok) (TreeOk.leaf ⟨g132, n132⟩) Tryz.func45 q45
theorem n133 : Enters Tryz.prog 133 := enters_of Tryz.func133 (by kernel_rfl)
theorem g133 : Good Tryz.prog 133 c133 := good_of (C := C133) mx (table_ok tt_ok) TreeOk.nil Tryz.func133 q133
theorem n46 : Enters Tryz.prog 46 := enters_of Tryz.func46 (by kernel_rfl)
theorem g46 : Good Tryz.prog 46 c46 := good_of (C := C46) mx (table_ok tt_ok) (TreeOk.leaf ⟨g133, n133⟩) Tryz.func46 q46
theorem n135 : Enters Tryz.prog 135 := enters_of Tryz.func135 (by kernel_rfl)
theorem g135 : Good Tryz.prog 135 c135 := good_of (C := C135) mx (table_ok tt_ok) (TreeOk.node (TreeOk.leaf ⟨g42, n42⟩) (TreeOk.leaf ⟨g43, n43⟩)) Tryz.func135 q135
theorem n49 : Enters Tryz.prog 49 := enters_of Tryz.func49 (by kernel_rfl)
theorem g49 : Good Tryz.prog 49 c49 := good_of (C := C49) mx (table_ok tt_ok) (TreeOk.leaf ⟨g135, n135⟩) Tryz.func49 q49
theorem n8 : Enters Tryz.prog 8 := enters_of Tryz.func8 (by kernel_rfl)
theorem g8 : Good Tryz.prog 8 c8 := good_of (C := C8) mx (table_ok tt_ok) (TreeOk.node (TreeOk.node (TreeOk.node (TreeOk.leaf ⟨g22, n22⟩) (TreeOk.leaf ⟨g41, n41⟩)) (TreeOk.node (TreeOk.leaf ⟨g42, n42⟩) (TreeOk.node (TreeOk.leaf ⟨g43, n43⟩) (TreeOk.leaf ⟨g44, n44⟩)))) (TreeOk.node (TreeOk.node (TreeOk.leaf ⟨g45, n45⟩) (TreeOk.leaf ⟨g46, n46⟩)) (TreeOk.node (TreeOk.leaf ⟨g47, n47⟩) (TreeOk.node (TreeOk.leaf ⟨g48, n48⟩) (TreeOk.leaf ⟨g49, n49⟩))))) Tryz.func8 q8
theorem n82 : Enters Tryz.prog 82 := enters_of Tryz.func82 (by kernel_rfl)
theorem g82 : Good Tryz.prog 82 c82 := good_of (C := C82) mx (table_ok tt_ok) (TreeOk.leaf ⟨g8, n8⟩) Tryz.func82 q82
theorem n155 : Enters Tryz.prog 155 := enters_of Tryz.func155 (by kernel_rfl)
theorem g155 : Good Tryz.prog 155 c155 := good_of (C := C155) mx (table_ok tt_ok) TreeOk.nil Tryz.func155 q155
theorem n83 : Enters Tryz.prog 83 := enters_of Tryz.func83 (by kernel_rfl)
theorem g83 : Good Tryz.prog 83 c83 := good_of (C := C83) mx (table_ok tt_ok) (TreeOk.leaf ⟨g155, n155⟩) Tryz.func83 q83
theorem n156 : Enters Tryz.prog 156 := enters_of Tryz.func156 (by kernel_rfl)
theorem g156 : Good Tryz.prog 156 c156 := good_of (C := C156) mx (table_ok tt_ok) (TreeOk.node (TreeOk.node (TreeOk.leaf ⟨g42, n42⟩) (TreeOk.leaf ⟨g43, n43⟩)) (TreeOk.node (TreeOk.leaf ⟨g44, n44⟩) (TreeOk.node (TreeOk.leaf ⟨g132, n132⟩) (TreeOk.leaf ⟨g133, n133⟩)))) Tryz.func156 q156
theorem n84 : Enters Tryz.prog 84 := enters_of Tryz.func84 (by kernel_rfl)
theorem g84 : Good Tryz.prog 84 c84 := good_of (C := C84) mx (table_ok tt_ok) (TreeOk.leaf ⟨g156, n156⟩) Tryz.func84 q84
theorem n17 : Enters Tryz.prog 17 := enters_of Tryz.func17 (by kernel_rfl)
theorem g17 : Good Tryz.prog 17 c17 := good_of (C := C17) mx (table_ok tt_ok) (TreeOk.node (TreeOk.node (TreeOk.leaf ⟨g22, n22⟩) (TreeOk.node (TreeOk.leaf ⟨g23, n23⟩) (TreeOk.leaf ⟨g42, n42⟩))) (TreeOk.node (TreeOk.leaf ⟨g82, n82⟩) (TreeOk.node (TreeOk.leaf ⟨g83, n83⟩) (TreeOk.leaf ⟨g84, n84⟩)))) Tryz.func17 q17
theorem n229 : Enters Tryz.prog 229 := enters_of Tryz.func229 (by kernel_rfl)
theorem g229 : Good Tryz.prog 229 c229 := good_of (C := C229) mx (table_ok tt_ok) TreeOk.nil Tryz.func229 q229
theorem n208 : Enters Tryz.prog 208 := enters_of Tryz.func208 (by kernel_rfl)
theorem g208 : Good Tryz.prog 208 c208 := good_of (C := C208) mx (table_ok tt_ok) (TreeOk.leaf ⟨g229, n229⟩) Tryz.func208 q208
theorem n171 : Enters Tryz.prog 171 := enters_of Tryz.func171 (by kernel_rfl)
theorem g171 : Good Tryz.prog 171 c171 := good_of (C := C171) mx (table_ok tt_ok) (TreeOk.leaf ⟨g208, n208⟩) Tryz.func171 q171
theorem n101 : Enters Tryz.prog 101 := enters_of Tryz.func101 (by kernel_rfl)
theorem g101 : Good Tryz.prog 101 c101 := good_of (C := C101) mx (table_ok tt_ok) (TreeOk.leaf ⟨g171, n171⟩) Tryz.func101 q101
theorem n25 : Enters Tryz.prog 25 := enters_of Tryz.func25 (by kernel_rfl)
theorem g25 : Good Tryz.prog 25 c25 := good_of (C := C25) mx (table_ok tt_ok) (TreeOk.leaf ⟨g101, n101⟩) Tryz.func25 q25
theorem n26 : Enters Tryz.prog 26 := enters_of Tryz.func26 (by kernel_rfl)
theorem g26 : Good Tryz.prog 26 c26 := good_of (C := C26) mx (table_ok tt_ok) TreeOk.nil Tryz.func26 q26
theorem n138 : Enters Tryz.prog 138 := enters_of Tryz.func138 (by kernel_rfl)
theorem g138 : Good Tryz.prog 138 c138 := good_of (C := C138) mx (table_ok tt_ok) TreeOk.nil Tryz.func138 q138
theorem n51 : Enters Tryz.prog 51 := enters_of Tryz.func51 (by kernel_rfl)
theorem g51 : Good Tryz.prog 51 c51 := good_of (C := C51) mx (table_ok tt_ok) (TreeOk.leaf ⟨g138, n138⟩) Tryz.func51 q51
theorem n53 : Enters Tryz.prog 53 := enters_of Tryz.func53 (by kernel_rfl)
theorem g53 : Good Tryz.prog 53 c53 := good_of (C := C53) mx (table_ok tt_ok) (TreeOk.leaf ⟨g26, n26⟩) Tryz.func53 q53
theorem n57 : Enters Tryz.prog 57 := enters_of Tryz.func57 (by kernel_rfl)
theorem g57 : Good Tryz.prog 57 c57 := good_of (C := C57) mx (table_ok tt_ok) TreeOk.nil Tryz.func57 q57
theorem n54 : Enters Tryz.prog 54 := enters_of Tryz.func54 (by kernel_rfl)
theorem g54 : Good Tryz.prog 54 c54 := good_of (C := C54) mx (table_ok tt_ok) (TreeOk.node (TreeOk.leaf ⟨g26, n26⟩) (TreeOk.leaf ⟨g57, n57⟩)) Tryz.func54 q54
theorem n142 : Enters Tryz.prog 142 := enters_of Tryz.func142 (by kernel_rfl)
theorem g142 : Good Tryz.prog 142 c142 := good_of (C := C142) mx (table_ok tt_ok) TreeOk.nil Tryz.func142 q142
theorem n58 : Enters Tryz.prog 58 := enters_of Tryz.func58 (by kernel_rfl)
theorem g58 : Good Tryz.prog 58 c58 := good_of (C := C58) mx (table_ok tt_ok) (TreeOk.leaf ⟨g142, n142⟩) Tryz.func58 q58
theorem n139 : Enters Tryz.prog 139 := enters_of Tryz.func139 (by kernel_rfl)
theorem g139 : Good Tryz.prog 139 c139 := good_of (C := C139) mx (table_ok tt_ok) (TreeOk.node (TreeOk.node (TreeOk.leaf ⟨g51, n51⟩) (TreeOk.leaf ⟨g53, n53⟩)) (TreeOk.node (TreeOk.leaf ⟨g54, n54⟩) (TreeOk.leaf ⟨g58, n58⟩))) Tryz.func139 q139
theorem n52 : Enters Tryz.prog 52 := enters_of Tryz.func52 (by kernel_rfl)
theorem g52 : Good Tryz.prog 52 c52 := good_of (C := C52) mx (table_ok tt_ok) (TreeOk.leaf ⟨g139, n139⟩) Tryz.func52 q52
theorem n140 : Enters Tryz.prog 140 := enters_of Tryz.func140 (by kernel_rfl)
theorem g140 : Good Tryz.prog 140 c140 := good_of (C := C140) mx (table_ok tt_ok) TreeOk.nil Tryz.func140 q140
theorem n55 : Enters Tryz.prog 55 := enters_of Tryz.func55 (by kernel_rfl)
theorem g55 : Good Tryz.prog 55 c55 := good_of (C := C55) mx (table_ok tt_ok) (TreeOk.leaf ⟨g140, n140⟩) Tryz.func55 q55
theorem n141 : Enters Tryz.prog 141 := enters_of Tryz.func141 (by kernel_rfl)
theorem g141 : Good Tryz.prog 141 c141 := good_of (C := C141) mx (table_ok tt_ok) TreeOk.nil Tryz.func141 q141
theorem n56 : Enters Tryz.prog 56 := enters_of Tryz.func56 (by kernel_rfl)
theorem g56 : Good Tryz.prog 56 c56 := good_of (C := C56) mx (table_ok tt_ok) (TreeOk.leaf ⟨g141, n141⟩) Tryz.func56 q56
theorem n143 : Enters Tryz.prog 143 := enters_of Tryz.func143 (by kernel_rfl)
theorem g143 : Good Tryz.prog 143 c143 := good_of (C := C143) mx (table_ok tt_ok) (TreeOk.node (TreeOk.leaf ⟨g52, n52⟩) (TreeOk.leaf ⟨g53, n53⟩)) Tryz.func143 q143
theorem n59 : Enters Tryz.prog 59 := enters_of Tryz.func59 (by kernel_rfl)
theorem g59 : Good Tryz.prog 59 c59 := good_of (C := C59) mx (table_ok tt_ok) (TreeOk.leaf ⟨g143, n143⟩) Tryz.func59 q59
theorem n10 : Enters Tryz.prog 10 := enters_of Tryz.func10 (by kernel_rfl)
theorem g10 : Good Tryz.prog 10 c10 := good_of (C := C10) mx (table_ok tt_ok) (TreeOk.node (TreeOk.node (TreeOk.node (TreeOk.leaf ⟨g25, n25⟩) (TreeOk.leaf ⟨g51, n51⟩)) (TreeOk.node (TreeOk.leaf ⟨g52, n52⟩) (TreeOk.node (TreeOk.leaf ⟨g53, n53⟩) (TreeOk.leaf ⟨g54, n54⟩)))) (TreeOk.node (TreeOk.node (TreeOk.leaf ⟨g55, n55⟩) (TreeOk.leaf ⟨g56, n56⟩)) (TreeOk.node (TreeOk.leaf ⟨g57, n57⟩) (TreeOk.node (TreeOk.leaf ⟨g58, n58⟩) (TreeOk.leaf ⟨g59, n59⟩))))) Tryz.func10 q10
theorem n87 : Enters Tryz.prog 87 := enters_of Tryz.func87 (by kernel_rfl)
theorem g87 : Good Tryz.prog 87 c87 := good_of (C := C87) mx (table_ok tt_ok) (TreeOk.leaf ⟨g10, n10⟩) Tryz.func87 q87
theorem n160 : Enters Tryz.prog 160 := enters_of Tryz.func160 (by kernel_rfl)
theorem g160 : Good Tryz.prog 160 c160 := good_of (C := C160) mx (table_ok tt_ok) TreeOk.nil Tryz.func160 q160
theorem n88 : Enters Tryz.prog 88 := enters_of Tryz.func88 (by kernel_rfl)
theorem g88 : Good Tryz.prog 88 c88 := good_of (C := C88) mx (table_ok tt_ok) (TreeOk.leaf ⟨g160, n160⟩) Tryz.func88 q88
theorem n161 : Enters Tryz.prog 161 := enters_of Tryz.func161 (by kernel_rfl)
theorem g161 : Good Tryz.prog 161 c161 := good_of (C := C161) mx (table_ok tt_ok) (TreeOk.node (TreeOk.node (TreeOk.leaf ⟨g52, n52⟩) (TreeOk.leaf ⟨g53, n53⟩)) (TreeOk.node (TreeOk.leaf ⟨g54, n54⟩) (TreeOk.node (TreeOk.leaf ⟨g140, n140⟩) (TreeOk.leaf ⟨g141, n141⟩)))) Tryz.func161 q161
theorem n89 : Enters Tryz.prog 89 := enters_of Tryz.func89 (by kernel_rfl)
theorem g89 : Good Tryz.prog 89 c89 := good_of (C := C89) mx (table_ok tt_ok) (TreeOk.leaf ⟨g161, n161⟩) Tryz.func89 q89
theorem n19 : Enters Tryz.prog 19 := enters_of Tryz.func19 (by kernel_rfl)
theorem g19 : Good Tryz.prog 19 c19 := good_of (C := C19) mx (table_ok tt_ok) (TreeOk.node (TreeOk.node (TreeOk.leaf ⟨g25, n25⟩) (TreeOk.node (TreeOk.leaf ⟨g26, n26⟩) (TreeOk.leaf ⟨g52, n52⟩))) (TreeOk.node (TreeOk.leaf ⟨g87, n87⟩) (TreeOk.node (TreeOk.leaf ⟨g88, n88⟩) (TreeOk.leaf ⟨g89, n89⟩)))) Tryz.func19 q19
theorem n167 : Enters Tryz.prog 167 := enters_of Tryz.func167 (by kernel_rfl)
theorem g167 : Good Tryz.prog 167 c167 := good_of (C := C167) mx (table_ok tt_ok) TreeOk.nil Tryz.func167 q167
theorem n169 : Enters Tryz.prog 169 := enters_of Tryz.func169 (by kernel_rfl)
theorem g169 : Good Tryz.prog 169 c169 := good_of (C := C169) mx (table_ok tt_ok) (TreeOk.leaf ⟨g167, n167⟩) Tryz.func169 q169
theorem n206 : Enters Tryz.prog 206 := enters_of Tryz.func206 (by kernel_rfl)
theorem g206 : Good Tryz.prog 206 c206 := good_of (C := C206) mx (table_ok tt_ok) (TreeOk.node (TreeOk.leaf ⟨g167, n167⟩) (TreeOk.leaf ⟨g169, n169⟩)) Tryz.func206 q206
theorem n228 : Enters Tryz.prog 228 := enters_of Tryz.func228 (by kernel_rfl)
theorem g228 : Good Tryz.prog 228 c228 := good_of (C := C228) mx (table_ok tt_ok) TreeOk.nil Tryz.func228 q228
theorem n207 : Enters Tryz.prog 207 := enters_of Tryz.func207 (by kernel_rfl)
theorem g207 : Good Tryz.prog 207 c207 := good_of (C := C207) mx (table_ok tt_ok) (TreeOk.leaf ⟨g228, n228⟩) Tryz.func207 q207
theorem n168 : Enters Tryz.prog 168 := enters_of Tryz.func168 (by kernel_rfl)
theorem g168 : Good Tryz.prog 168 c168 := good_of (C := C168) mx (table_ok tt_ok) (TreeOk.node (TreeOk.leaf ⟨g206, n206⟩) (TreeOk.leaf ⟨g207, n207⟩)) Tryz.func168 q168
theorem n96 : Enters Tryz.prog 96 := enters_of Tryz.func96 (by kernel_rfl)
theorem g96 : Good Tryz.prog 96 c96 := good_of (C := C96) mx (table_ok tt_ok) (TreeOk.node (TreeOk.leaf ⟨g167, n167⟩) (TreeOk.leaf ⟨g168, n168⟩)) Tryz.func96 q96
theorem n159 : Enters Tryz.prog 159 := enters_of Tryz.func159 (by kernel_rfl)
theorem g159 : Good Tryz.prog 159 c159 := good_of (C := C159) mx (table_ok tt_ok) TreeOk.nil Tryz.func159 q159
theorem n86 : Enters Tryz.prog 86 := enters_of Tryz.func86 (by kernel_rfl)
theorem g86 : Good Tryz.prog 86 c86 := good_of (C := C86) mx (table_ok tt_ok) (TreeOk.node (TreeOk.leaf ⟨g96, n96⟩) (TreeOk.leaf ⟨g159, n159⟩)) Tryz.func86 q86
theorem n99 : Enters Tryz.prog 99 := enters_of Tryz.func99 (by kernel_rfl)
theorem g99 : Good Tryz.prog 99 c99 := good_of (C := C99) mx (table_ok tt_ok) TreeOk.nil Tryz.func99 q99
theorem n157 : Enters Tryz.prog 157 := enters_of Tryz.func157 (by kernel_rfl)
theorem g157 : Good Tryz.prog 157 c157 := good_of (C := C157) mx (table_ok tt_ok) (TreeOk.leaf ⟨g99, n99⟩) Tryz.func157 q157
theorem n158 : Enters Tryz.prog 158 := enters_of Tryz.func158 (by kernel_rfl)
theorem g158 : Good Tryz.prog 158 c158 := good_of (C := C158) mx (table_ok tt_ok) TreeOk.nil Tryz.func158 q158
theorem n85 : Enters Tryz.prog 85 := enters_of Tryz.func85 (by kernel_rfl)
theorem g85 : Good Tryz.prog 85 c85 := good_of (C := C85) mx (table_ok tt_ok) (TreeOk.node (TreeOk.leaf ⟨g157, n157⟩) (TreeOk.leaf ⟨g158, n158⟩)) Tryz.func85 q85
theorem n18 : Enters Tryz.prog 18 := enters_of Tryz.func18 (by kernel_rfl)
theorem g18 : Good Tryz.prog 18 c18 := good_of (C := C18) mx (table_ok tt_ok) (TreeOk.node (TreeOk.leaf ⟨g85, n85⟩) (TreeOk.leaf ⟨g86, n86⟩)) Tryz.func18 q18
theorem n172 : Enters Tryz.prog 172 := enters_of Tryz.func172 (by kernel_rfl)
theorem g172 : Good Tryz.prog 172 c172 := good_of (C := C172) mx (table_ok tt_ok) TreeOk.nil Tryz.func172 q172
theorem n174 : Enters Tryz.prog 174 := enters_of Tryz.func174 (by kernel_rfl)
theorem g174 : Good Tryz.prog 174 c174 := good_of (C := C174) mx (table_ok tt_ok) (TreeOk.leaf ⟨g172, n172⟩) Tryz.func174 q174
theorem n230 : Enters Tryz.prog 230 := enters_of Tryz.func230 (by kernel_rfl)
theorem g230 : Good Tryz.prog 230 c230 := good_of (C := C230) mx (table_ok tt_ok) (TreeOk.leaf ⟨g172, n172⟩) Tryz.func230 q230
theorem n209 : Enters Tryz.prog 209 := enters_of Tryz.func209 (by kernel_rfl)
theorem g209 : Good Tryz.prog 209 c209 := good_of (C := C209) mx (table_ok tt_ok) (TreeOk.node (TreeOk.leaf ⟨g172, n172⟩) (TreeOk.node (TreeOk.leaf ⟨g174, n174⟩) (TreeOk.leaf ⟨g230, n230⟩))) Tryz.func209 q209
theorem n210 : Enters Tryz.prog 210 := enters_of Tryz.func210 (by kernel_rfl)
theorem g210 : Good Tryz.prog 210 c210 := good_of (C := C210) mx (table_ok tt_ok) TreeOk.nil Tryz.func210 q210
theorem n173 : Enters Tryz.prog 173 := enters_of Tryz.func173 (by kernel_rfl)
theorem g173 : Good Tryz.prog 173 c173 := good_of (C := C173) mx (table_ok tt_ok) (TreeOk.node (TreeOk.leaf ⟨g209, n209⟩) (TreeOk.leaf ⟨g210, n210⟩)) Tryz.func173 q173
theorem n102 : Enters Tryz.prog 102 := enters_of Tryz.func102 (by kernel_rfl)
theorem g102 : Good Tryz.prog 102 c102 := good_of (C := C102) mx (table_ok tt_ok) (TreeOk.node (TreeOk.leaf ⟨g172, n172⟩) (TreeOk.leaf ⟨g173, n173⟩)) Tryz.func102 q102
theorem n91 : Enters Tryz.prog 91 := enters_of Tryz.func91 (by kernel_rfl)
theorem g91 : Good Tryz.prog 91 c91 := good_of (C := C91) mx (table_ok tt_ok) (TreeOk.leaf ⟨g102, n102⟩) Tryz.func91 q91
theorem n176 : Enters Tryz.prog 176 := enters_of Tryz.func176 (by kernel_rfl)
theorem g176 : Good Tryz.prog 176 c176 := good_of (C := C176) mx (table_ok tt_ok) TreeOk.nil Tryz.func176 q176
theorem n106 : Enters Tryz.prog 106 := enters_of Tryz.func106 (by kernel_rfl)
theorem g106 : Good Tryz.prog 106 c106 := good_of (C := C106) mx (table_ok tt_ok) (TreeOk.leaf ⟨g176, n176⟩) Tryz.func106 q106
theorem n162 : Enters Tryz.prog 162 := enters_of Tryz.func162 (by kernel_rfl)
theorem g162 : Good Tryz.prog 162 c162 := good_of (C := C162) mx (table_ok tt_ok) (TreeOk.leaf ⟨g106, n106⟩) Tryz.func162 q162
theorem n163 : Enters Tryz.prog 163 := enters_of Tryz.func163 (by kernel_rfl)
theorem g163 : Good Tryz.prog 163 c163 := good_of (C := C163) mx (table_ok tt_ok) TreeOk.nil Tryz.func163 q163
theorem n90 : Enters Tryz.prog 90 := enters_of Tryz.func90 (by kernel_rfl)
theorem g90 : Good Tryz.prog 90 c90 := good_of (C := C90) mx (table_ok tt_ok) (TreeOk.node (TreeOk.leaf ⟨g162, n162⟩) (TreeOk.leaf ⟨g163, n163⟩)) Tryz.func90 q90
theorem n20 : Enters Tryz.prog 20 := enters_of Tryz.func20 (by kernel_rfl)
theorem g20 : Good Tryz.prog 20 c20 := good_of (C := C20) mx (table_ok tt_ok) (TreeOk.node (TreeOk.leaf ⟨g90, n90⟩) (TreeOk.leaf ⟨g91, n91⟩)) Tryz.func20 q20
theorem n231 : Enters Tryz.prog 231 := enters_of Tryz.func231 (by kernel_rfl)
theorem g231 : Good Tryz.prog 231 c231 := good_of (C := C231) mx (table_ok tt_ok) TreeOk.nil Tryz.func231 q231
theorem n212 : Enters Tryz.prog 212 := enters_of Tryz.func212 (by kernel_rfl)
theorem g212 : Good Tryz.prog 212 c212 := good_of (C := C212) mx (table_ok tt_ok) (TreeOk.leaf ⟨g231, n231⟩) Tryz.func212 q212
theorem n178 : Enters Tryz.prog 178 := enters_of Tryz.func178 (by kernel_rfl)
theorem g178 : Good Tryz.prog 178 c178 := good_of (C := C178) mx (table_ok tt_ok) (TreeOk.leaf ⟨g212, n212⟩) Tryz.func178 q178
theorem n108 : Enters Tryz.prog 108 := enters_of Tryz.func108 (by kernel_rfl)
theorem g108 : Good Tryz.prog 108 c108 := good_of (C := C108) mx (table_ok tt_ok) (TreeOk.leaf ⟨g178, n178⟩) Tryz.func108 q108
theorem n28 : Enters Tryz.prog 28 := enters_of Tryz.func28 (by kernel_rfl)
theorem g28 : Good Tryz.prog 28 c28 := good_of (C := C28) mx (table_ok tt_ok) (TreeOk.leaf ⟨g108, n108⟩) Tryz.func28 q28
theorem n29 : Enters Tryz.prog 29 := enters_of Tryz.func29 (by kernel_rfl)
theorem g29 : Good Tryz.prog 29 c29 := good_of (C := C29) mx (table_ok tt_ok) TreeOk.nil Tryz.func29 q29
theorem n149 : Enters Tryz.prog 149 := enters_of Tryz.func149 (by kernel_rfl)
theorem g149 : Good Tryz.prog 149 c149 := good_of (C := C149) mx (table_ok tt_ok) TreeOk.nil Tryz.func149 q149
theorem n64 : Enters Tryz.prog 64 := enters_of Tryz.func64 (by kernel_rfl)
theorem g64 : Good Tryz.prog 64 c64 := good_of (C := C64) mx (table_ok tt_ok) (TreeOk.leaf ⟨g149, n149⟩) Tryz.func64 q64
theorem n63 : Enters Tryz.prog 63 := enters_of Tryz.func63 (by kernel_rfl)
theorem g63 : Good Tryz.prog 63 c63 := good_of (C := C63) mx (table_ok tt_ok) (TreeOk.leaf ⟨g29, n29⟩) Tryz.func63 q63
theorem n68 : Enters Tryz.prog 68 := enters_of Tryz.func68 (by kernel_rfl)
theorem g68 : Good Tryz.prog 68 c68 := good_of (C := C68) mx (table_ok tt_ok) TreeOk.nil Tryz.func68 q68
theorem n65 : Enters Tryz.prog 65 := enters_of Tryz.func65 (by kernel_rfl)
theorem g65 : Good Tryz.prog 65 c65 := good_of (C := C65) mx (table_ok tt_ok) (TreeOk.node (TreeOk.leaf ⟨g29, n29⟩) (TreeOk.leaf ⟨g68, n68⟩)) Tryz.func65 q65
theorem n152 : Enters Tryz.prog 152 := enters_of Tryz.func152 (by kernel_rfl)
theorem g152 : Good Tryz.prog 152 c152 := good_of (C := C152) mx (table_ok tt_ok) TreeOk.nil Tryz.func152 q152
theorem n69 : Enters Tryz.prog 69 := enters_of Tryz.func69 (by kernel_rfl)
theorem g69 : Good Tryz.prog 69 c69 := good_of (C := C69) mx (table_ok tt_ok) (TreeOk.leaf ⟨g152, n152⟩) Tryz.func69 q69
theorem n148 : Enters Tryz.prog 148 := enters_of Tryz.func148 (by kernel_rfl)
theorem g148 : Good Tryz.prog 148 c148 := good_of (C := C148) mx (table_ok tt_ok) (TreeOk.node (TreeOk.node (TreeOk.leaf ⟨g63, n63⟩) (TreeOk.leaf ⟨g64, n64⟩)) (TreeOk.node (TreeOk.leaf ⟨g65, n65⟩) (TreeOk.leaf ⟨g69, n69⟩))) Tryz.func148 q148
theorem n62 : Enters Tryz.prog 62 := enters_of Tryz.func62 (by kernel_rfl)
theorem g62 : Good Tryz.prog 62 c62 := good_of (C := C62) mx (table_ok tt_ok) (TreeOk.leaf ⟨g148, n148⟩) Tryz.func62 q62
theorem n150 : Enters Tryz.prog 150 := enters_of Tryz.func150 (by kernel_rfl)
theorem g150 : Good Tryz.prog 150 c150 := good_of (C := C150) mx (table_ok tt_ok) TreeOk.nil Tryz.func150 q150
theorem n66 : Enters Tryz.prog 66 := enters_of Tryz.func66 (by kernel_rfl)
theorem g66 : Good Tryz.prog 66 c66 := good_of (C := C66) mx (table_ok tt_ok) (TreeOk.leaf ⟨g150, n150⟩) Tryz.func66 q66
theorem n151 : Enters Tryz.prog 151 := enters_of Tryz.func151 (by kernel_rfl)
theorem g151 : Good Tryz.prog 151 c151 := good_of (C := C151) mx (table_ok tt_ok) TreeOk.nil Tryz.func151 q151
theorem n67 : Enters Tryz.prog 67 := enters_of Tryz.func67 (by kernel_rfl)
theorem g67 : Good Tryz.prog 67 c67 := good_of (C := C67) mx (table_ok tt_ok) (TreeOk.leaf ⟨g151, n151⟩) Tryz.func67 q67
theorem n12 : Enters Tryz.prog 12 := enters_of Tryz.func12 (by kernel_rfl)
theorem g12 : Good Tryz.prog 12 c12 := good_of (C := C12) mx (table_ok tt_ok) (TreeOk.node (TreeOk.leaf ⟨g62, n62⟩) (TreeOk.leaf ⟨g63, n63⟩)) Tryz.func12 q12
theorem n70 : Enters Tryz.prog 70 := enters_of Tryz.func70 (by kernel_rfl)
theorem g70 : Good Tryz.prog 70 c70 := good_of (C := C70) mx (table_ok tt_ok) (TreeOk.leaf ⟨g12, n12⟩) Tryz.func70 q70
theorem n13 : Enters Tryz.prog 13 := enters_of Tryz.func13 (by kernel_rfl)
theorem g13 : Good Tryz.prog 13 c13 := good_of (C := C13) mx (table_ok tt_ok) (TreeOk.node (TreeOk.node (TreeOk.node (TreeOk.leaf ⟨g28, n28⟩) (TreeOk.leaf ⟨g62, n62⟩)) (TreeOk.node (TreeOk.leaf ⟨g63, n63⟩) (TreeOk.node (TreeOk.leaf ⟨g64, n64⟩) (TreeOk.leaf ⟨g65, n65⟩)))) (TreeOk.node (TreeOk.node (TreeOk.leaf ⟨g66, n66⟩) (TreeOk.leaf ⟨g67, n67⟩)) (TreeOk.node (TreeOk.leaf ⟨g68, n68⟩) (TreeOk.node (TreeOk.leaf ⟨g69, n69⟩) (TreeOk.leaf ⟨g70, n70⟩))))) Tryz.func13 q13
theorem n92 : Enters Tryz.prog 92 := enters_of Tryz.func92 (by kernel_rfl)
theorem g92 : Good Tryz.prog 92 c92 := good_of (C := C92) mx (table_ok tt_ok) (TreeOk.leaf ⟨g13, n13⟩) Tryz.func92 q92
theorem n164 : Enters Tryz.prog 164 := enters_of Tryz.func164 (by kernel_rfl)
theorem g164 : Good Tryz.prog 164 c164 := good_of (C := C164) mx (table_ok tt_ok) TreeOk.nil Tryz.func164 q164
theorem n93 : Enters Tryz.prog 93 := enters_of Tryz.func93 (by kernel_rfl)
theorem g93 : Good Tryz.prog 93 c93 := good_of (C := C93) mx (table_ok tt_ok) (TreeOk.leaf ⟨g164, n164⟩) Tryz.func93 q93
theorem n165 : Enters Tryz.prog 165 := enters_of Tryz.func165 (by kernel_rfl)
theorem g165 : Good Tryz.prog 165 c165 := good_of (C := C165) mx (table_ok tt_ok) (TreeOk.node (TreeOk.node (TreeOk.leaf ⟨g62, n62⟩) (TreeOk.leaf ⟨g63, n63⟩)) (TreeOk.node (TreeOk.leaf ⟨g65, n65⟩) (TreeOk.node (TreeOk.leaf ⟨g150, n150⟩) (TreeOk.leaf ⟨g151, n151⟩)))) Tryz.func165 q165
theorem n94 : Enters Tryz.prog 94 := enters_of Tryz.func94 (by kernel_rfl)
theorem g94 : Good Tryz.prog 94 c94 := good_of (C := C94) mx (table_ok tt_ok) (TreeOk.leaf ⟨g165, n165⟩) Tryz.func94 q94
theorem n21 : Enters Tryz.prog 21 := enters_of Tryz.func21 (by kernel_rfl)
theorem g21 : Good Tryz.prog 21 c21 := good_of (C := C21) mx (table_ok tt_ok) (TreeOk.node (TreeOk.node (TreeOk.leaf ⟨g28, n28⟩) (TreeOk.node (TreeOk.leaf ⟨g29, n29⟩) (TreeOk.leaf ⟨g62, n62⟩))) (TreeOk.node (TreeOk.leaf ⟨g92, n92⟩) (TreeOk.node (TreeOk.leaf ⟨g93, n93⟩) (TreeOk.leaf ⟨g94, n94⟩)))) Tryz.func21 q21
theorem n4 : Enters Tryz.prog 4 := enters_of Tryz.func4 (by kernel_rfl)
theorem g4 : Good Tryz.prog 4 c4 := good_of (C := C4) mx (table_ok tt_ok) (TreeOk.node (TreeOk.node (TreeOk.leaf ⟨g17, n17⟩) (TreeOk.leaf ⟨g18, n18⟩)) (TreeOk.node (TreeOk.leaf ⟨g19, n19⟩) (TreeOk.node (TreeOk.leaf ⟨g20, n20⟩) (TreeOk.leaf ⟨g21, n21⟩)))) Tryz.func4 q4
end Go.Proofs.YtphaibffjdfhpaaGreat
