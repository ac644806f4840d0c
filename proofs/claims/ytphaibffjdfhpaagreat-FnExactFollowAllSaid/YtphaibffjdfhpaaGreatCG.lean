/- Each function does as its contract says. Conditions: none. -/

import Derived.Test.YtphaibffjdfhpaaGreatTm4
import Derived.Test.YtphaibffjdfhpaaGreatCF
namespace Go.Proofs.YtphaibffjdfhpaaGreat
open Go Go.Tm
set_option linter.unusedVariables false
set_option maxRecDepth 100000
theorem mx : Tryz.prog.follows .mixedOrders = true := by kernel_rfl
theorem n205 : Enters Tryz.prog 205 := enters_of Tryz.func205 (by kernel_rfl)
theorem g205 : Good Tryz.prog 205 c205 := good_of (C := C205) mx (table_ok tt_ok) TreeOk.nil Tryz.func205 q205
theorem n166 : Enters Tryz.prog 166 := enters_of Tryz.func166 (by kernel_rfl)
theorem g166 : Good Tryz.prog 166 c166 := good_of (C := C166) mx (table_ok tt_ok) (TreeOk.leaf ⟨g205, n205⟩) Tryz.func166 q166
theorem n95 : Enters Tryz.prog 95 := enters_of Tryz.func95 (by kernel_rfl)
theorem g95 : Good Tryz.prog 95 c95 := good_of (C := C95) mx (table_ok tt_ok) (TreeOk.leaf ⟨g166, n166⟩) Tryz.func95 q95
theorem n22 : Enters Tryz.prog 22 := enters_of Tryz.func22 (by kernel_rfl)
theorem g22 : Good Tryz.prog 22 c22 := good_of (C := C22) mx (table_ok tt_ok) (TreeOk.leaf ⟨g95, n95⟩) Tryz.func22 q22
theorem n130 : Enters Tryz.prog 130 := enters_of Tryz.func130 (by kernel_rfl)
theorem g130 : Good Tryz.prog 130 c130 := good_of (C := C130) mx (table_ok tt_ok) TreeOk.nil Tryz.func130 q130
theorem n41 : Enters Tryz.prog 41 := enters_of Tryz.func41 (by kernel_rfl)
theorem g41 : Good Tryz.prog 41 c41 := good_of (C := C41) mx (table_ok tt_ok) (TreeOk.leaf ⟨g130, n130⟩) Tryz.func41 q41
theorem n23 : Enters Tryz.prog 23 := enters_of Tryz.func23 (by kernel_rfl)
theorem g23 : Good Tryz.prog 23 c23 := good_of (C := C23) mx (table_ok tt_ok) TreeOk.nil Tryz.func23 q23
theorem n43 : Enters Tryz.prog 43 := enters_of Tryz.func43 (by kernel_rfl)
theorem g43 : Good Tryz.prog 43 c43 := good_of (C := C43) mx (table_ok tt_ok) (TreeOk.leaf ⟨g23, n23⟩) Tryz.func43 q43
theorem n47 : Enters Tryz.prog 47 := enters_of Tryz.func47 (by kernel_rfl)
theorem g47 : Good Tryz.prog 47 c47 := good_of (C := C47) mx (table_ok tt_ok) TreeOk.nil Tryz.func47 q47
theorem n44 : Enters Tryz.prog 44 := enters_of Tryz.func44 (by kernel_rfl)
theorem g44 : Good Tryz.prog 44 c44 := good_of (C := C44) mx (table_ok tt_ok) (TreeOk.node (TreeOk.leaf ⟨g23, n23⟩) (TreeOk.leaf ⟨g47, n47⟩)) Tryz.func44 q44
theorem n134 : Enters Tryz.prog 134 := enters_of Tryz.func134 (by kernel_rfl)
theorem g134 : Good Tryz.prog 134 c134 := good_of (C := C134) mx (table_ok tt_ok) TreeOk.nil Tryz.func134 q134
theorem n48 : Enters Tryz.prog 48 := enters_of Tryz.func48 (by kernel_rfl)
theorem g48 : Good Tryz.prog 48 c48 := good_of (C := C48) mx (table_ok tt_ok) (TreeOk.leaf ⟨g134, n134⟩) Tryz.func48 q48
theorem n131 : Enters Tryz.prog 131 := enters_of Tryz.func131 (by kernel_rfl)
theorem g131 : Good Tryz.prog 131 c131 := good_of (C := C131) mx (table_ok tt_ok) (TreeOk.node (TreeOk.node (TreeOk.leaf ⟨g41, n41⟩) (TreeOk.leaf ⟨g43, n43⟩)) (TreeOk.node (TreeOk.leaf ⟨g44, n44⟩) (TreeOk.leaf ⟨g48, n48⟩))) Tryz.func131 q131
theorem n42 : Enters Tryz.prog 42 := enters_of Tryz.func42 (by kernel_rfl)
theorem g42 : Good Tryz.prog 42 c42 := good_of (C := C42) mx (table_ok tt_ok) (TreeOk.leaf ⟨g131, n131⟩) Tryz.func42 q42
theorem n132 : Enters Tryz.prog 132 := enters_of Tryz.func132 (by kernel_rfl)
theorem g132 : Good Tryz.prog 132 c132 := good_of (C := C132) mx (table_ok tt_ok) TreeOk.nil Tryz.func132 q132
theorem n45 : Enters Tryz.prog 45 := enters_of Tryz.func45 (by kernel_rfl)
theorem g45 : Good Tryz.prog 45 c45 := good_of (C := C45) mx (table_ok tt_ok) (TreeOk.leaf ⟨g132, n132⟩) Tryz.func45 q45
theorem n133 : Enters Tryz.prog 133 := enters_of Tryz.func133 (by kernel_rfl)
theorem g133 : Good Tryz.prog 133 c133 := good_of (C := C133) mx (table_ok tt_ok) TreeOk.nil Tryz.func133 q133
theorem n46 : Enters Tryz.prog 46 := enters_of Tryz.func46 (by kernel_rfl)
theorem g46 : Good Tryz.prog 46 c46 := good_of (C := C46) mx (table_ok tt_ok) (TreeOk.leaf ⟨g133, n133⟩) Tryz.func46 q46
theorem n135 : Enters Tryz.prog 135 := enters_of Tryz.func135 (by kernel_rfl)
theorem g135 : Good Tryz.prog 135 c135 := good_of (C := C135) mx (table_ok tt_ok) (TreeOk.node (TreeOk.leaf ⟨g42, n42⟩) (TreeOk.leaf ⟨g43, n43⟩)) Tryz.func135 q135
theorem n49 : Enters Tryz.prog 49 := enters_of Tryz.func49 (by kernel_rfl)
theorem g49 : Good Tryz.prog 49 c49 := good_of (C := C49) mx (table_ok tt_ok) (TreeOk.leaf ⟨g135, n135⟩) Tryz.func49 q49
theorem n8 : Enters Tryz.prog 8 := enters_of Tryz.func8 (by kernel_rfl)
theorem g8 : Good Tryz.prog 8 c8 := good_of (C := C8) mx (table_ok tt_ok) (TreeOk.node (TreeOk.node (TreeOk.node (TreeOk.leaf ⟨g22, n22⟩) (TreeOk.leaf ⟨g41, n41⟩)) (TreeOk.node (TreeOk.leaf ⟨g42, n42⟩) (TreeOk.node (TreeOk.leaf ⟨g43, n43⟩) (TreeOk.leaf ⟨g44, n44⟩)))) (TreeOk.node (TreeOk.node (TreeOk.leaf ⟨g45, n45⟩) (TreeOk.leaf ⟨g46, n46⟩)) (TreeOk.node (TreeOk.leaf ⟨g47, n47⟩) (TreeOk.node (TreeOk.leaf ⟨g48, n48⟩) (TreeOk.leaf ⟨g49, n49⟩))))) Tryz.func8 q8
theorem n229 : Enters Tryz.prog 229 := enters_of Tryz.func229 (by kernel_rfl)
theorem g229 : Good Tryz.prog 229 c229 := good_of (C := C229) mx (table_ok tt_ok) TreeOk.nil Tryz.func229 q229
theorem n208 : Enters Tryz.prog 208 := enters_of Tryz.func208 (by kernel_rfl)
theorem g208 : Good Tryz.prog 208 c208 := good_of (C := C208) mx (table_ok tt_ok) (TreeOk.leaf ⟨g229, n229⟩) Tryz.func208 q208
theorem n171 : Enters Tryz.prog 171 := enters_of Tryz.func171 (by kernel_rfl)
theorem g171 : Good Tryz.prog 171 c171 := good_of (C := C171) mx (table_ok tt_ok) (TreeOk.leaf ⟨g208, n208⟩) Tryz.func171 q171
theorem n101 : Enters Tryz.prog 101 := enters_of Tryz.func101 (by kernel_rfl)
theorem g101 : Good Tryz.prog 101 c101 := good_of (C := C101) mx (table_ok tt_ok) (TreeOk.leaf ⟨g171, n171⟩) Tryz.func101 q101
theorem n25 : Enters Tryz.prog 25 := enters_of Tryz.func25 (by kernel_rfl)
theorem g25 : Good Tryz.prog 25 c25 := good_of (C := C25) mx (table_ok tt_ok) (TreeOk.leaf ⟨g101, n101⟩) Tryz.func25 q25
theorem n138 : Enters Tryz.prog 138 := enters_of Tryz.func138 (by kernel_rfl)
theorem g138 : Good Tryz.prog 138 c138 := good_of (C := C138) mx (table_ok tt_ok) TreeOk.nil Tryz.func138 q138
theorem n51 : Enters Tryz.prog 51 := enters_of Tryz.func51 (by kernel_rfl)
theorem g51 : Good Tryz.prog 51 c51 := good_of (C := C51) mx (table_ok tt_ok) (TreeOk.leaf ⟨g138, n138⟩) Tryz.func51 q51
theorem n26 : Enters Tryz.prog 26 := enters_of Tryz.func26 (by kernel_rfl)
theorem g26 : Good Tryz.prog 26 c26 := good_of (C := C26) mx (table_ok tt_ok) TreeOk.nil Tryz.func26 q26
theorem n53 : Enters Tryz.prog 53 := enters_of Tryz.func53 (by kernel_rfl)
theorem g53 : Good Tryz.prog 53 c53 := good_of (C := C53) mx (table_ok tt_ok) (TreeOk.leaf ⟨g26, n26⟩) Tryz.func53 q53
theorem n57 : Enters Tryz.prog 57 := enters_of Tryz.func57 (by kernel_rfl)
theorem g57 : Good Tryz.prog 57 c57 := good_of (C := C57) mx (table_ok tt_ok) TreeOk.nil Tryz.func57 q57
theorem n54 : Enters Tryz.prog 54 := enters_of Tryz.func54 (by kernel_rfl)
theorem g54 : Good Tryz.prog 54 c54 := good_of (C := C54) mx (table_ok tt_ok) (TreeOk.node (TreeOk.leaf ⟨g26, n26⟩) (TreeOk.leaf ⟨g57, n57⟩)) Tryz.func54 q54
theorem n142 : Enters Tryz.prog 142 := enters_of Tryz.func142 (by kernel_rfl)
theorem g142 : Good Tryz.prog 142 c142 := good_of (C := C142) mx (table_ok tt_ok) TreeOk.nil Tryz.func142 q142
theorem n58 : Enters Tryz.prog 58 := enters_of Tryz.func58 (by kernel_rfl)
theorem g58 : Good Tryz.prog 58 c58 := good_of (C := C58) mx (table_ok tt_ok) (TreeOk.leaf ⟨g142, n142⟩) Tryz.func58 q58
theorem n139 : Enters Tryz.prog 139 := enters_of Tryz.func139 (by kernel_rfl)
theorem g139 : Good Tryz.prog 139 c139 := good_of (C := C139) mx (table_ok tt_ok) (TreeOk.node (TreeOk.node (TreeOk.leaf ⟨g51, n51⟩) (TreeOk.leaf ⟨g53, n53⟩)) (TreeOk.node (TreeOk.leaf ⟨g54, n54⟩) (TreeOk.leaf ⟨g58, n58⟩))) Tryz.func139 q139
theorem n52 : Enters Tryz.prog 52 := enters_of Tryz.func52 (by kernel_rfl)
theorem g52 : Good Tryz.prog 52 c52 := good_of (C := C52) mx (table_ok tt_ok) (TreeOk.leaf ⟨g139, n139⟩) Tryz.func52 q52
theorem n140 : Enters Tryz.prog 140 := enters_of Tryz.func140 (by kernel_rfl)
theorem g140 : Good Tryz.prog 140 c140 := good_of (C := C140) mx (table_ok tt_ok) TreeOk.nil Tryz.func140 q140
theorem n55 : Enters Tryz.prog 55 := enters_of Tryz.func55 (by kernel_rfl)
theorem g55 : Good Tryz.prog 55 c55 := good_of (C := C55) mx (table_ok tt_ok) (TreeOk.leaf ⟨g140, n140⟩) Tryz.func55 q55
theorem n141 : Enters Tryz.prog 141 := enters_of Tryz.func141 (by kernel_rfl)
theorem g141 : Good Tryz.prog 141 c141 := good_of (C := C141) mx (table_ok tt_ok) TreeOk.nil Tryz.func141 q141
theorem n56 : Enters Tryz.prog 56 := enters_of Tryz.func56 (by kernel_rfl)
theorem g56 : Good Tryz.prog 56 c56 := good_of (C := C56) mx (table_ok tt_ok) (TreeOk.leaf ⟨g141, n141⟩) Tryz.func56 q56
theorem n143 : Enters Tryz.prog 143 := enters_of Tryz.func143 (by kernel_rfl)
theorem g143 : Good Tryz.prog 143 c143 := good_of (C := C143) mx (table_ok tt_ok) (TreeOk.node (TreeOk.leaf ⟨g52, n52⟩) (TreeOk.leaf ⟨g53, n53⟩)) Tryz.func143 q143
theorem n59 : Enters Tryz.prog 59 := enters_of Tryz.func59 (by kernel_rfl)
theorem g59 : Good Tryz.prog 59 c59 := good_of (C := C59) mx (table_ok tt_ok) (TreeOk.leaf ⟨g143, n143⟩) Tryz.func59 q59
theorem n10 : Enters Tryz.prog 10 := enters_of Tryz.func10 (by kernel_rfl)
theorem g10 : Good Tryz.prog 10 c10 := good_of (C := C10) mx (table_ok tt_ok) (TreeOk.node (TreeOk.node (TreeOk.node (TreeOk.leaf ⟨g25, n25⟩) (TreeOk.leaf ⟨g51, n51⟩)) (TreeOk.node (TreeOk.leaf ⟨g52, n52⟩) (TreeOk.node (TreeOk.leaf ⟨g53, n53⟩) (TreeOk.leaf ⟨g54, n54⟩)))) (TreeOk.node (TreeOk.node (TreeOk.leaf ⟨g55, n55⟩) (TreeOk.leaf ⟨g56, n56⟩)) (TreeOk.node (TreeOk.leaf ⟨g57, n57⟩) (TreeOk.node (TreeOk.leaf ⟨g58, n58⟩) (TreeOk.leaf ⟨g59, n59⟩))))) Tryz.func10 q10
theorem n167 : Enters Tryz.prog 167 := enters_of Tryz.func167 (by kernel_rfl)
theorem g167 : Good Tryz.prog 167 c167 := good_of (C := C167) mx (table_ok tt_ok) TreeOk.nil Tryz.func167 q167
theorem n169 : Enters Tryz.prog 169 := enters_of Tryz.func169 (by kernel_rfl)
theorem g169 : Good Tryz.prog 169 c169 := good_of (C := C169) mx (table_ok tt_ok) (TreeOk.leaf ⟨g167, n167⟩) Tryz.func169 q169
theorem n206 : Enters Tryz.prog 206 := enters_of Tryz.func206 (by kernel_rfl)
theorem g206 : Good Tryz.prog 206 c206 := good_of (C := C206) mx (table_ok tt_ok) (TreeOk.node (TreeOk.leaf ⟨g167, n167⟩) (TreeOk.leaf ⟨g169, n169⟩)) Tryz.func206 q206
theorem n228 : Enters Tryz.prog 228 := enters_of Tryz.func228 (by kernel_rfl)
theorem g228 : Good Tryz.prog 228 c228 := good_of (C := C228) mx (table_ok tt_ok) TreeOk.nil Tryz.func228 q228
theorem n207 : Enters Tryz.prog 207 := enters_of Tryz.func207 (by kernel_rfl)
theorem g207 : Good Tryz.prog 207 c207 := good_of (C := C207) mx (table_ok tt_ok) (TreeOk.leaf ⟨g228, n228⟩) Tryz.func207 q207
theorem n168 : Enters Tryz.prog 168 := enters_of Tryz.func168 (by kernel_rfl)
theorem g168 : Good Tryz.prog 168 c168 := good_of (C := C168) mx (table_ok tt_ok) (TreeOk.node (TreeOk.leaf ⟨g206, n206⟩) (TreeOk.leaf ⟨g207, n207⟩)) Tryz.func168 q168
theorem n96 : Enters Tryz.prog 96 := enters_of Tryz.func96 (by kernel_rfl)
theorem g96 : Good Tryz.prog 96 c96 := good_of (C := C96) mx (table_ok tt_ok) (TreeOk.node (TreeOk.leaf ⟨g167, n167⟩) (TreeOk.leaf ⟨g168, n168⟩)) Tryz.func96 q96
theorem n159 : Enters Tryz.prog 159 := enters_of Tryz.func159 (by kernel_rfl)
theorem g159 : Good Tryz.prog 159 c159 := good_of (C := C159) mx (table_ok tt_ok) TreeOk.nil Tryz.func159 q159
theorem n119 : Enters Tryz.prog 119 := enters_of Tryz.func119 (by kernel_rfl)
theorem g119 : Good Tryz.prog 119 c119 := good_of (C := C119) mx (table_ok tt_ok) (TreeOk.node (TreeOk.leaf ⟨g96, n96⟩) (TreeOk.leaf ⟨g159, n159⟩)) Tryz.func119 q119
theorem n137 : Enters Tryz.prog 137 := enters_of Tryz.func137 (by kernel_rfl)
theorem g137 : Good Tryz.prog 137 c137 := good_of (C := C137) mx (table_ok tt_ok) TreeOk.nil Tryz.func137 q137
theorem n225 : Enters Tryz.prog 225 := enters_of Tryz.func225 (by kernel_rfl)
theorem g225 : Good Tryz.prog 225 c225 := good_of (C := C225) mx (table_ok tt_ok) TreeOk.nil Tryz.func225 q225
theorem n203 : Enters Tryz.prog 203 := enters_of Tryz.func203 (by kernel_rfl)
theorem g203 : Good Tryz.prog 203 c203 := good_of (C := C203) mx (table_ok tt_ok) (TreeOk.node (TreeOk.leaf ⟨g137, n137⟩) (TreeOk.leaf ⟨g225, n225⟩)) Tryz.func203 q203
theorem n136 : Enters Tryz.prog 136 := enters_of Tryz.func136 (by kernel_rfl)
theorem g136 : Good Tryz.prog 136 c136 := good_of (C := C136) mx (table_ok tt_ok) (TreeOk.leaf ⟨g203, n203⟩) Tryz.func136 q136
theorem n50 : Enters Tryz.prog 50 := enters_of Tryz.func50 (by kernel_rfl)
theorem g50 : Good Tryz.prog 50 c50 := good_of (C := C50) mx (table_ok tt_ok) (TreeOk.node (TreeOk.leaf ⟨g136, n136⟩) (TreeOk.leaf ⟨g137, n137⟩)) Tryz.func50 q50
theorem n9 : Enters Tryz.prog 9 := enters_of Tryz.func9 (by kernel_rfl)
theorem g9 : Good Tryz.prog 9 c9 := good_of (C := C9) mx (table_ok tt_ok) (TreeOk.leaf ⟨g50, n50⟩) Tryz.func9 q9
theorem n184 : Enters Tryz.prog 184 := enters_of Tryz.func184 (by kernel_rfl)
theorem g184 : Good Tryz.prog 184 c184 := good_of (C := C184) mx (table_ok tt_ok) TreeOk.nil Tryz.func184 q184
theorem n185 : Enters Tryz.prog 185 := enters_of Tryz.func185 (by kernel_rfl)
theorem g185 : Good Tryz.prog 185 c185 := good_of (C := C185) mx (table_ok tt_ok) (TreeOk.node (TreeOk.leaf ⟨g167, n167⟩) (TreeOk.leaf ⟨g169, n169⟩)) Tryz.func185 q185
theorem n215 : Enters Tryz.prog 215 := enters_of Tryz.func215 (by kernel_rfl)
theorem g215 : Good Tryz.prog 215 c215 := good_of (C := C215) mx (table_ok tt_ok) TreeOk.nil Tryz.func215 q215
theorem n97 : Enters Tryz.prog 97 := enters_of Tryz.func97 (by kernel_rfl)
theorem g97 : Good Tryz.prog 97 c97 := good_of (C := C97) mx (table_ok tt_ok) (TreeOk.leaf ⟨g169, n169⟩) Tryz.func97 q97
theorem n232 : Enters Tryz.prog 232 := enters_of Tryz.func232 (by kernel_rfl)
theorem g232 : Good Tryz.prog 232 c232 := good_of (C := C232) mx (table_ok tt_ok) (TreeOk.node (TreeOk.leaf ⟨g97, n97⟩) (TreeOk.node (TreeOk.leaf ⟨g167, n167⟩) (TreeOk.leaf ⟨g215, n215⟩))) Tryz.func232 q232
theorem n246 : Enters Tryz.prog 246 := enters_of Tryz.func246 (by kernel_rfl)
theorem g246 : Good Tryz.prog 246 c246 := good_of (C := C246) mx (table_ok tt_ok) TreeOk.nil Tryz.func246 q246
theorem n233 : Enters Tryz.prog 233 := enters_of Tryz.func233 (by kernel_rfl)
theorem g233 : Good Tryz.prog 233 c233 := good_of (C := C233) mx (table_ok tt_ok) (TreeOk.node (TreeOk.leaf ⟨g97, n97⟩) (TreeOk.node (TreeOk.leaf ⟨g167, n167⟩) (TreeOk.leaf ⟨g246, n246⟩))) Tryz.func233 q233
theorem n234 : Enters Tryz.prog 234 := enters_of Tryz.func234 (by kernel_rfl)
theorem g234 : Good Tryz.prog 234 c234 := good_of (C := C234) mx (table_ok tt_ok) (TreeOk.node (TreeOk.leaf ⟨g167, n167⟩) (TreeOk.leaf ⟨g169, n169⟩)) Tryz.func234 q234
theorem n214 : Enters Tryz.prog 214 := enters_of Tryz.func214 (by kernel_rfl)
theorem g214 : Good Tryz.prog 214 c214 := good_of (C := C214) mx (table_ok tt_ok) (TreeOk.node (TreeOk.node (TreeOk.leaf ⟨g167, n167⟩) (TreeOk.node (TreeOk.leaf ⟨g169, n169⟩) (TreeOk.leaf ⟨g185, n185⟩))) (TreeOk.node (TreeOk.leaf ⟨g232, n232⟩) (TreeOk.node (TreeOk.leaf ⟨g233, n233⟩) (TreeOk.leaf ⟨g234, n234⟩)))) Tryz.func214 q214
theorem n235 : Enters Tryz.prog 235 := enters_of Tryz.func235 (by kernel_rfl)
theorem g235 : Good Tryz.prog 235 c235 := good_of (C := C235) mx (table_ok tt_ok) TreeOk.nil Tryz.func235 q235
theorem n216 : Enters Tryz.prog 216 := enters_of Tryz.func216 (by kernel_rfl)
theorem g216 : Good Tryz.prog 216 c216 := good_of (C := C216) mx (table_ok tt_ok) (TreeOk.node (TreeOk.leaf ⟨g97, n97⟩) (TreeOk.leaf ⟨g235, n235⟩)) Tryz.func216 q216
theorem n99 : Enters Tryz.prog 99 := enters_of Tryz.func99 (by kernel_rfl)
theorem g99 : Good Tryz.prog 99 c99 := good_of (C := C99) mx (table_ok tt_ok) TreeOk.nil Tryz.func99 q99
theorem n157 : Enters Tryz.prog 157 := enters_of Tryz.func157 (by kernel_rfl)
theorem g157 : Good Tryz.prog 157 c157 := good_of (C := C157) mx (table_ok tt_ok) (TreeOk.leaf ⟨g99, n99⟩) Tryz.func157 q157
theorem n158 : Enters Tryz.prog 158 := enters_of Tryz.func158 (by kernel_rfl)
theorem g158 : Good Tryz.prog 158 c158 := good_of (C := C158) mx (table_ok tt_ok) TreeOk.nil Tryz.func158 q158
theorem n217 : Enters Tryz.prog 217 := enters_of Tryz.func217 (by kernel_rfl)
theorem g217 : Good Tryz.prog 217 c217 := good_of (C := C217) mx (table_ok tt_ok) (TreeOk.node (TreeOk.leaf ⟨g157, n157⟩) (TreeOk.leaf ⟨g158, n158⟩)) Tryz.func217 q217
theorem n187 : Enters Tryz.prog 187 := enters_of Tryz.func187 (by kernel_rfl)
theorem g187 : Good Tryz.prog 187 c187 := good_of (C := C187) mx (table_ok tt_ok) (TreeOk.node (TreeOk.node (TreeOk.leaf ⟨g167, n167⟩) (TreeOk.leaf ⟨g215, n215⟩)) (TreeOk.node (TreeOk.leaf ⟨g216, n216⟩) (TreeOk.leaf ⟨g217, n217⟩))) Tryz.func187 q187
theorem n186 : Enters Tryz.prog 186 := enters_of Tryz.func186 (by kernel_rfl)
theorem g186 : Good Tryz.prog 186 c186 := good_of (C := C186) mx (table_ok tt_ok) (TreeOk.node (TreeOk.leaf ⟨g187, n187⟩) (TreeOk.leaf ⟨g214, n214⟩)) Tryz.func186 q186
theorem n120 : Enters Tryz.prog 120 := enters_of Tryz.func120 (by kernel_rfl)
theorem g120 : Good Tryz.prog 120 c120 := good_of (C := C120) mx (table_ok tt_ok) (TreeOk.node (TreeOk.node (TreeOk.leaf ⟨g184, n184⟩) (TreeOk.leaf ⟨g185, n185⟩)) (TreeOk.node (TreeOk.leaf ⟨g186, n186⟩) (TreeOk.leaf ⟨g187, n187⟩))) Tryz.func120 q120
theorem n34 : Enters Tryz.prog 34 := enters_of Tryz.func34 (by kernel_rfl)
theorem g34 : Good Tryz.prog 34 c34 := good_of (C := C34) mx (table_ok tt_ok) (TreeOk.node (TreeOk.leaf ⟨g9, n9⟩) (TreeOk.node (TreeOk.leaf ⟨g119, n119⟩) (TreeOk.leaf ⟨g120, n120⟩))) Tryz.func34 q34
theorem n172 : Enters Tryz.prog 172 := enters_of Tryz.func172 (by kernel_rfl)
theorem g172 : Good Tryz.prog 172 c172 := good_of (C := C172) mx (table_ok tt_ok) TreeOk.nil Tryz.func172 q172
theorem n174 : Enters Tryz.prog 174 := enters_of Tryz.func174 (by kernel_rfl)
theorem g174 : Good Tryz.prog 174 c174 := good_of (C := C174) mx (table_ok tt_ok) (TreeOk.leaf ⟨g172, n172⟩) Tryz.func174 q174
theorem n230 : Enters Tryz.prog 230 := enters_of Tryz.func230 (by kernel_rfl)
theorem g230 : Good Tryz.prog 230 c230 := good_of (C := C230) mx (table_ok tt_ok) (TreeOk.leaf ⟨g172, n172⟩) Tryz.func230 q230
theorem n209 : Enters Tryz.prog 209 := enters_of Tryz.func209 (by kernel_rfl)
theorem g209 : Good Tryz.prog 209 c209 := good_of (C := C209) mx (table_ok tt_ok) (TreeOk.node (TreeOk.leaf ⟨g172, n172⟩) (TreeOk.node (TreeOk.leaf ⟨g174, n174⟩) (TreeOk.leaf ⟨g230, n230⟩))) Tryz.func209 q209
theorem n210 : Enters Tryz.prog 210 := enters_of Tryz.func210 (by kernel_rfl)
theorem g210 : Good Tryz.prog 210 c210 := good_of (C := C210) mx (table_ok tt_ok) TreeOk.nil Tryz.func210 q210
theorem n173 : Enters Tryz.prog 173 := enters_of Tryz.func173 (by kernel_rfl)
theorem g173 : Good Tryz.prog 173 c173 := good_of (C := C173) mx (table_ok tt_ok) (TreeOk.node (TreeOk.leaf ⟨g209, n209⟩) (TreeOk.leaf ⟨g210, n210⟩)) Tryz.func173 q173
theorem n102 : Enters Tryz.prog 102 := enters_of Tryz.func102 (by kernel_rfl)
theorem g102 : Good Tryz.prog 102 c102 := good_of (C := C102) mx (table_ok tt_ok) (TreeOk.node (TreeOk.leaf ⟨g172, n172⟩) (TreeOk.leaf ⟨g173, n173⟩)) Tryz.func102 q102
theorem n91 : Enters Tryz.prog 91 := enters_of Tryz.func91 (by kernel_rfl)
theorem g91 : Good Tryz.prog 91 c91 := good_of (C := C91) mx (table_ok tt_ok) (TreeOk.leaf ⟨g102, n102⟩) Tryz.func91 q91
theorem n121 : Enters Tryz.prog 121 := enters_of Tryz.func121 (by kernel_rfl)
theorem g121 : Good Tryz.prog 121 c121 := good_of (C := C121) mx (table_ok tt_ok) (TreeOk.node (TreeOk.leaf ⟨g91, n91⟩) (TreeOk.leaf ⟨g102, n102⟩)) Tryz.func121 q121
theorem n144 : Enters Tryz.prog 144 := enters_of Tryz.func144 (by kernel_rfl)
theorem g144 : Good Tryz.prog 144 c144 := good_of (C := C144) mx (table_ok tt_ok) TreeOk.nil Tryz.func144 q144
theorem n145 : Enters Tryz.prog 145 := enters_of Tryz.func145 (by kernel_rfl)
theorem g145 : Good Tryz.prog 145 c145 := good_of (C := C145) mx (table_ok tt_ok) TreeOk.nil Tryz.func145 q145
theorem n60 : Enters Tryz.prog 60 := enters_of Tryz.func60 (by kernel_rfl)
theorem g60 : Good Tryz.prog 60 c60 := good_of (C := C60) mx (table_ok tt_ok) (TreeOk.node (TreeOk.leaf ⟨g144, n144⟩) (TreeOk.leaf ⟨g145, n145⟩)) Tryz.func60 q60
theorem n194 : Enters Tryz.prog 194 := enters_of Tryz.func194 (by kernel_rfl)
theorem g194 : Good Tryz.prog 194 c194 := good_of (C := C194) mx (table_ok tt_ok) TreeOk.nil Tryz.func194 q194
theorem n190 : Enters Tryz.prog 190 := enters_of Tryz.func190 (by kernel_rfl)
theorem g190 : Good Tryz.prog 190 c190 := good_of (C := C190) mx (table_ok tt_ok) (TreeOk.leaf ⟨g194, n194⟩) Tryz.func190 q190
theorem n188 : Enters Tryz.prog 188 := enters_of Tryz.func188 (by kernel_rfl)
theorem g188 : Good Tryz.prog 188 c188 := good_of (C := C188) mx (table_ok tt_ok) (TreeOk.node (TreeOk.leaf ⟨g172, n172⟩) (TreeOk.leaf ⟨g174, n174⟩)) Tryz.func188 q188
theorem n219 : Enters Tryz.prog 219 := enters_of Tryz.func219 (by kernel_rfl)
theorem g219 : Good Tryz.prog 219 c219 := good_of (C := C219) mx (table_ok tt_ok) TreeOk.nil Tryz.func219 q219
theorem n103 : Enters Tryz.prog 103 := enters_of Tryz.func103 (by kernel_rfl)
theorem g103 : Good Tryz.prog 103 c103 := good_of (C := C103) mx (table_ok tt_ok) (TreeOk.leaf ⟨g174, n174⟩) Tryz.func103 q103
theorem n220 : Enters Tryz.prog 220 := enters_of Tryz.func220 (by kernel_rfl)
theorem g220 : Good Tryz.prog 220 c220 := good_of (C := C220) mx (table_ok tt_ok) (TreeOk.node (TreeOk.leaf ⟨g103, n103⟩) (TreeOk.node (TreeOk.leaf ⟨g172, n172⟩) (TreeOk.leaf ⟨g219, n219⟩))) Tryz.func220 q220
theorem n247 : Enters Tryz.prog 247 := enters_of Tryz.func247 (by kernel_rfl)
theorem g247 : Good Tryz.prog 247 c247 := good_of (C := C247) mx (table_ok tt_ok) TreeOk.nil Tryz.func247 q247
theorem n236 : Enters Tryz.prog 236 := enters_of Tryz.func236 (by kernel_rfl)
theorem g236 : Good Tryz.prog 236 c236 := good_of (C := C236) mx (table_ok tt_ok) (TreeOk.node (TreeOk.leaf ⟨g103, n103⟩) (TreeOk.node (TreeOk.leaf ⟨g172, n172⟩) (TreeOk.leaf ⟨g247, n247⟩))) Tryz.func236 q236
theorem n242 : Enters Tryz.prog 242 := enters_of Tryz.func242 (by kernel_rfl)
theorem g242 : Good Tryz.prog 242 c242 := good_of (C := C242) mx (table_ok tt_ok) (TreeOk.node (TreeOk.leaf ⟨g172, n172⟩) (TreeOk.leaf ⟨g174, n174⟩)) Tryz.func242 q242
theorem n237 : Enters Tryz.prog 237 := enters_of Tryz.func237 (by kernel_rfl)
theorem g237 : Good Tryz.prog 237 c237 := good_of (C := C237) mx (table_ok tt_ok) (TreeOk.leaf ⟨g242, n242⟩) Tryz.func237 q237
theorem n218 : Enters Tryz.prog 218 := enters_of Tryz.func218 (by kernel_rfl)
theorem g218 : Good Tryz.prog 218 c218 := good_of (C := C218) mx (table_ok tt_ok) (TreeOk.node (TreeOk.node (TreeOk.leaf ⟨g172, n172⟩) (TreeOk.node (TreeOk.leaf ⟨g174, n174⟩) (TreeOk.leaf ⟨g188, n188⟩))) (TreeOk.node (TreeOk.leaf ⟨g220, n220⟩) (TreeOk.node (TreeOk.leaf ⟨g236, n236⟩) (TreeOk.leaf ⟨g237, n237⟩)))) Tryz.func218 q218
theorem n176 : Enters Tryz.prog 176 := enters_of Tryz.func176 (by kernel_rfl)
theorem g176 : Good Tryz.prog 176 c176 := good_of (C := C176) mx (table_ok tt_ok) TreeOk.nil Tryz.func176 q176
theorem n106 : Enters Tryz.prog 106 := enters_of Tryz.func106 (by kernel_rfl)
theorem g106 : Good Tryz.prog 106 c106 := good_of (C := C106) mx (table_ok tt_ok) (TreeOk.leaf ⟨g176, n176⟩) Tryz.func106 q106
theorem n162 : Enters Tryz.prog 162 := enters_of Tryz.func162 (by kernel_rfl)
theorem g162 : Good Tryz.prog 162 c162 := good_of (C := C162) mx (table_ok tt_ok) (TreeOk.leaf ⟨g106, n106⟩) Tryz.func162 q162
theorem n163 : Enters Tryz.prog 163 := enters_of Tryz.func163 (by kernel_rfl)
theorem g163 : Good Tryz.prog 163 c163 := good_of (C := C163) mx (table_ok tt_ok) TreeOk.nil Tryz.func163 q163
theorem n221 : Enters Tryz.prog 221 := enters_of Tryz.func221 (by kernel_rfl)
theorem g221 : Good Tryz.prog 221 c221 := good_of (C := C221) mx (table_ok tt_ok) (TreeOk.node (TreeOk.leaf ⟨g162, n162⟩) (TreeOk.leaf ⟨g163, n163⟩)) Tryz.func221 q221
theorem n256 : Enters Tryz.prog 256 := enters_of Tryz.func256 (by kernel_rfl)
theorem g256 : Good Tryz.prog 256 c256 := good_of (C := C256) mx (table_ok tt_ok) TreeOk.nil Tryz.func256 q256
theorem n248 : Enters Tryz.prog 248 := enters_of Tryz.func248 (by kernel_rfl)
theorem g248 : Good Tryz.prog 248 c248 := good_of (C := C248) mx (table_ok tt_ok) (TreeOk.leaf ⟨g256, n256⟩) Tryz.func248 q248
theorem n249 : Enters Tryz.prog 249 := enters_of Tryz.func249 (by kernel_rfl)
theorem g249 : Good Tryz.prog 249 c249 := good_of (C := C249) mx (table_ok tt_ok) TreeOk.nil Tryz.func249 q249
theorem n238 : Enters Tryz.prog 238 := enters_of Tryz.func238 (by kernel_rfl)
theorem g238 : Good Tryz.prog 238 c238 := good_of (C := C238) mx (table_ok tt_ok) (TreeOk.node (TreeOk.leaf ⟨g248, n248⟩) (TreeOk.leaf ⟨g249, n249⟩)) Tryz.func238 q238
theorem n222 : Enters Tryz.prog 222 := enters_of Tryz.func222 (by kernel_rfl)
theorem g222 : Good Tryz.prog 222 c222 := good_of (C := C222) mx (table_ok tt_ok) (TreeOk.leaf ⟨g238, n238⟩) Tryz.func222 q222
theorem n191 : Enters Tryz.prog 191 := enters_of Tryz.func191 (by kernel_rfl)
theorem g191 : Good Tryz.prog 191 c191 := good_of (C := C191) mx (table_ok tt_ok) (TreeOk.node (TreeOk.node (TreeOk.leaf ⟨g219, n219⟩) (TreeOk.leaf ⟨g220, n220⟩)) (TreeOk.node (TreeOk.leaf ⟨g221, n221⟩) (TreeOk.leaf ⟨g222, n222⟩))) Tryz.func191 q191
theorem n189 : Enters Tryz.prog 189 := enters_of Tryz.func189 (by kernel_rfl)
theorem g189 : Good Tryz.prog 189 c189 := good_of (C := C189) mx (table_ok tt_ok) (TreeOk.node (TreeOk.leaf ⟨g191, n191⟩) (TreeOk.leaf ⟨g218, n218⟩)) Tryz.func189 q189
theorem n192 : Enters Tryz.prog 192 := enters_of Tryz.func192 (by kernel_rfl)
theorem g192 : Good Tryz.prog 192 c192 := good_of (C := C192) mx (table_ok tt_ok) TreeOk.nil Tryz.func192 q192
theorem n193 : Enters Tryz.prog 193 := enters_of Tryz.func193 (by kernel_rfl)
theorem g193 : Good Tryz.prog 193 c193 := good_of (C := C193) mx (table_ok tt_ok) TreeOk.nil Tryz.func193 q193
theorem n122 : Enters Tryz.prog 122 := enters_of Tryz.func122 (by kernel_rfl)
theorem g122 : Good Tryz.prog 122 c122 := good_of (C := C122) mx (table_ok tt_ok) (TreeOk.node (TreeOk.node (TreeOk.leaf ⟨g188, n188⟩) (TreeOk.node (TreeOk.leaf ⟨g189, n189⟩) (TreeOk.leaf ⟨g190, n190⟩))) (TreeOk.node (TreeOk.node (TreeOk.leaf ⟨g191, n191⟩) (TreeOk.leaf ⟨g192, n192⟩)) (TreeOk.node (TreeOk.leaf ⟨g193, n193⟩) (TreeOk.leaf ⟨g194, n194⟩)))) Tryz.func122 q122
theorem n35 : Enters Tryz.prog 35 := enters_of Tryz.func35 (by kernel_rfl)
theorem g35 : Good Tryz.prog 35 c35 := good_of (C := C35) mx (table_ok tt_ok) (TreeOk.node (TreeOk.leaf ⟨g60, n60⟩) (TreeOk.node (TreeOk.leaf ⟨g121, n121⟩) (TreeOk.leaf ⟨g122, n122⟩))) Tryz.func35 q35
theorem n149 : Enters Tryz.prog 149 := enters_of Tryz.func149 (by kernel_rfl)
theorem g149 : Good Tryz.prog 149 c149 := good_of (C := C149) mx (table_ok tt_ok) TreeOk.nil Tryz.func149 q149
theorem n64 : Enters Tryz.prog 64 := enters_of Tryz.func64 (by kernel_rfl)
theorem g64 : Good Tryz.prog 64 c64 := good_of (C := C64) mx (table_ok tt_ok) (TreeOk.leaf ⟨g149, n149⟩) Tryz.func64 q64
theorem n36 : Enters Tryz.prog 36 := enters_of Tryz.func36 (by kernel_rfl)
theorem g36 : Good Tryz.prog 36 c36 := good_of (C := C36) mx (table_ok tt_ok) (TreeOk.leaf ⟨g64, n64⟩) Tryz.func36 q36
theorem n231 : Enters Tryz.prog 231 := enters_of Tryz.func231 (by kernel_rfl)
theorem g231 : Good Tryz.prog 231 c231 := good_of (C := C231) mx (table_ok tt_ok) TreeOk.nil Tryz.func231 q231
theorem n212 : Enters Tryz.prog 212 := enters_of Tryz.func212 (by kernel_rfl)
theorem g212 : Good Tryz.prog 212 c212 := good_of (C := C212) mx (table_ok tt_ok) (TreeOk.leaf ⟨g231, n231⟩) Tryz.func212 q212
theorem n178 : Enters Tryz.prog 178 := enters_of Tryz.func178 (by kernel_rfl)
theorem g178 : Good Tryz.prog 178 c178 := good_of (C := C178) mx (table_ok tt_ok) (TreeOk.leaf ⟨g212, n212⟩) Tryz.func178 q178
theorem n108 : Enters Tryz.prog 108 := enters_of Tryz.func108 (by kernel_rfl)
theorem g108 : Good Tryz.prog 108 c108 := good_of (C := C108) mx (table_ok tt_ok) (TreeOk.leaf ⟨g178, n178⟩) Tryz.func108 q108
theorem n28 : Enters Tryz.prog 28 := enters_of Tryz.func28 (by kernel_rfl)
theorem g28 : Good Tryz.prog 28 c28 := good_of (C := C28) mx (table_ok tt_ok) (TreeOk.leaf ⟨g108, n108⟩) Tryz.func28 q28
theorem n29 : Enters Tryz.prog 29 := enters_of Tryz.func29 (by kernel_rfl)
theorem g29 : Good Tryz.prog 29 c29 := good_of (C := C29) mx (table_ok tt_ok) TreeOk.nil Tryz.func29 q29
theorem n63 : Enters Tryz.prog 63 := enters_of Tryz.func63 (by kernel_rfl)
theorem g63 : Good Tryz.prog 63 c63 := good_of (C := C63) mx (table_ok tt_ok) (TreeOk.leaf ⟨g29, n29⟩) Tryz.func63 q63
theorem n68 : Enters Tryz.prog 68 := enters_of Tryz.func68 (by kernel_rfl)
theorem g68 : Good Tryz.prog 68 c68 := good_of (C := C68) mx (table_ok tt_ok) TreeOk.nil Tryz.func68 q68
theorem n65 : Enters Tryz.prog 65 := enters_of Tryz.func65 (by kernel_rfl)
theorem g65 : Good Tryz.prog 65 c65 := good_of (C := C65) mx (table_ok tt_ok) (TreeOk.node (TreeOk.leaf ⟨g29, n29⟩) (TreeOk.leaf ⟨g68, n68⟩)) Tryz.func65 q65
theorem n152 : Enters Tryz.prog 152 := enters_of Tryz.func152 (by kernel_rfl)
theorem g152 : Good Tryz.prog 152 c152 := good_of (C := C152) mx (table_ok tt_ok) TreeOk.nil Tryz.func152 q152
theorem n69 : Enters Tryz.prog 69 := enters_of Tryz.func69 (by kernel_rfl)
theorem g69 : Good Tryz.prog 69 c69 := good_of (C := C69) mx (table_ok tt_ok) (TreeOk.leaf ⟨g152, n152⟩) Tryz.func69 q69
theorem n148 : Enters Tryz.prog 148 := enters_of Tryz.func148 (by kernel_rfl)
theorem g148 : Good Tryz.prog 148 c148 := good_of (C := C148) mx (table_ok tt_ok) (TreeOk.node (TreeOk.node (TreeOk.leaf ⟨g63, n63⟩) (TreeOk.leaf ⟨g64, n64⟩)) (TreeOk.node (TreeOk.leaf ⟨g65, n65⟩) (TreeOk.leaf ⟨g69, n69⟩))) Tryz.func148 q148
theorem n62 : Enters Tryz.prog 62 := enters_of Tryz.func62 (by kernel_rfl)
theorem g62 : Good Tryz.prog 62 c62 := good_of (C := C62) mx (table_ok tt_ok) (TreeOk.leaf ⟨g148, n148⟩) Tryz.func62 q62
theorem n150 : Enters Tryz.prog 150 := enters_of Tryz.func150 (by kernel_rfl)
theorem g150 : Good Tryz.prog 150 c150 := good_of (C := C150) mx (table_ok tt_ok) TreeOk.nil Tryz.func150 q150
theorem n66 : Enters Tryz.prog 66 := enters_of Tryz.func66 (by kernel_rfl)
theorem g66 : Good Tryz.prog 66 c66 := good_of (C := C66) mx (table_ok tt_ok) (TreeOk.leaf ⟨g150, n150⟩) Tryz.func66 q66
theorem n151 : Enters Tryz.prog 151 := enters_of Tryz.func151 (by kernel_rfl)
theorem g151 : Good Tryz.prog 151 c151 := good_of (C := C151) mx (table_ok tt_ok) TreeOk.nil Tryz.func151 q151
theorem n67 : Enters Tryz.prog 67 := enters_of Tryz.func67 (by kernel_rfl)
theorem g67 : Good Tryz.prog 67 c67 := good_of (C := C67) mx (table_ok tt_ok) (TreeOk.leaf ⟨g151, n151⟩) Tryz.func67 q67
theorem n12 : Enters Tryz.prog 12 := enters_of Tryz.func12 (by kernel_rfl)
theorem g12 : Good Tryz.prog 12 c12 := good_of (C := C12) mx (table_ok tt_ok) (TreeOk.node (TreeOk.leaf ⟨g62, n62⟩) (TreeOk.leaf ⟨g63, n63⟩)) Tryz.func12 q12
theorem n70 : Enters Tryz.prog 70 := enters_of Tryz.func70 (by kernel_rfl)
theorem g70 : Good Tryz.prog 70 c70 := good_of (C := C70) mx (table_ok tt_ok) (TreeOk.leaf ⟨g12, n12⟩) Tryz.func70 q70
theorem n13 : Enters Tryz.prog 13 := enters_of Tryz.func13 (by kernel_rfl)
theorem g13 : Good Tryz.prog 13 c13 := good_of (C := C13) mx (table_ok tt_ok) (TreeOk.node (TreeOk.node (TreeOk.node (TreeOk.leaf ⟨g28, n28⟩) (TreeOk.leaf ⟨g62, n62⟩)) (TreeOk.node (TreeOk.leaf ⟨g63, n63⟩) (TreeOk.node (TreeOk.leaf ⟨g64, n64⟩) (TreeOk.leaf ⟨g65, n65⟩)))) (TreeOk.node (TreeOk.node (TreeOk.leaf ⟨g66, n66⟩) (TreeOk.leaf ⟨g67, n67⟩)) (TreeOk.node (TreeOk.leaf ⟨g68, n68⟩) (TreeOk.node (TreeOk.leaf ⟨g69, n69⟩) (TreeOk.leaf ⟨g70, n70⟩))))) Tryz.func13 q13
theorem n110 : Enters Tryz.prog 110 := enters_of Tryz.func110 (by kernel_rfl)
theorem g110 : Good Tryz.prog 110 c110 := good_of (C := C110) mx (table_ok tt_ok) TreeOk.nil Tryz.func110 q110
theorem n179 : Enters Tryz.prog 179 := enters_of Tryz.func179 (by kernel_rfl)
theorem g179 : Good Tryz.prog 179 c179 := good_of (C := C179) mx (table_ok tt_ok) TreeOk.nil Tryz.func179 q179
theorem n109 : Enters Tryz.prog 109 := enters_of Tryz.func109 (by kernel_rfl)
theorem g109 : Good Tryz.prog 109 c109 := good_of (C := C109) mx (table_ok tt_ok) (TreeOk.node (TreeOk.leaf ⟨g110, n110⟩) (TreeOk.leaf ⟨g179, n179⟩)) Tryz.func109 q109
theorem n30 : Enters Tryz.prog 30 := enters_of Tryz.func30 (by kernel_rfl)
theorem g30 : Good Tryz.prog 30 c30 := good_of (C := C30) mx (table_ok tt_ok) (TreeOk.leaf ⟨g109, n109⟩) Tryz.func30 q30
theorem n71 : Enters Tryz.prog 71 := enters_of Tryz.func71 (by kernel_rfl)
theorem g71 : Good Tryz.prog 71 c71 := good_of (C := C71) mx (table_ok tt_ok) (TreeOk.leaf ⟨g110, n110⟩) Tryz.func71 q71
theorem n31 : Enters Tryz.prog 31 := enters_of Tryz.func31 (by kernel_rfl)
theorem g31 : Good Tryz.prog 31 c31 := good_of (C := C31) mx (table_ok tt_ok) (TreeOk.leaf ⟨g110, n110⟩) Tryz.func31 q31
theorem n77 : Enters Tryz.prog 77 := enters_of Tryz.func77 (by kernel_rfl)
theorem g77 : Good Tryz.prog 77 c77 := good_of (C := C77) mx (table_ok tt_ok) TreeOk.nil Tryz.func77 q77
theorem n78 : Enters Tryz.prog 78 := enters_of Tryz.func78 (by kernel_rfl)
theorem g78 : Good Tryz.prog 78 c78 := good_of (C := C78) mx (table_ok tt_ok) (TreeOk.leaf ⟨g110, n110⟩) Tryz.func78 q78
theorem n72 : Enters Tryz.prog 72 := enters_of Tryz.func72 (by kernel_rfl)
theorem g72 : Good Tryz.prog 72 c72 := good_of (C := C72) mx (table_ok tt_ok) (TreeOk.node (TreeOk.node (TreeOk.leaf ⟨g31, n31⟩) (TreeOk.leaf ⟨g71, n71⟩)) (TreeOk.node (TreeOk.leaf ⟨g77, n77⟩) (TreeOk.node (TreeOk.leaf ⟨g78, n78⟩) (TreeOk.leaf ⟨g110, n110⟩)))) Tryz.func72 q72
theorem n73 : Enters Tryz.prog 73 := enters_of Tryz.func73 (by kernel_rfl)
theorem g73 : Good Tryz.prog 73 c73 := good_of (C := C73) mx (table_ok tt_ok) (TreeOk.leaf ⟨g31, n31⟩) Tryz.func73 q73
theorem n74 : Enters Tryz.prog 74 := enters_of Tryz.func74 (by kernel_rfl)
theorem g74 : Good Tryz.prog 74 c74 := good_of (C := C74) mx (table_ok tt_ok) (TreeOk.node (TreeOk.leaf ⟨g31, n31⟩) (TreeOk.leaf ⟨g77, n77⟩)) Tryz.func74 q74
theorem n75 : Enters Tryz.prog 75 := enters_of Tryz.func75 (by kernel_rfl)
theorem g75 : Good Tryz.prog 75 c75 := good_of (C := C75) mx (table_ok tt_ok) (TreeOk.leaf ⟨g110, n110⟩) Tryz.func75 q75
theorem n76 : Enters Tryz.prog 76 := enters_of Tryz.func76 (by kernel_rfl)
theorem g76 : Good Tryz.prog 76 c76 := good_of (C := C76) mx (table_ok tt_ok) (TreeOk.leaf ⟨g110, n110⟩) Tryz.func76 q76
theorem n79 : Enters Tryz.prog 79 := enters_of Tryz.func79 (by kernel_rfl)
theorem g79 : Good Tryz.prog 79 c79 := good_of (C := C79) mx (table_ok tt_ok) (TreeOk.node (TreeOk.leaf ⟨g31, n31⟩) (TreeOk.leaf ⟨g72, n72⟩)) Tryz.func79 q79
theorem n14 : Enters Tryz.prog 14 := enters_of Tryz.func14 (by kernel_rfl)
theorem g14 : Good Tryz.prog 14 c14 := good_of (C := C14) mx (table_ok tt_ok) (TreeOk.node (TreeOk.node (TreeOk.node (TreeOk.leaf ⟨g30, n30⟩) (TreeOk.leaf ⟨g71, n71⟩)) (TreeOk.node (TreeOk.leaf ⟨g72, n72⟩) (TreeOk.node (TreeOk.leaf ⟨g73, n73⟩) (TreeOk.leaf ⟨g74, n74⟩)))) (TreeOk.node (TreeOk.node (TreeOk.leaf ⟨g75, n75⟩) (TreeOk.leaf ⟨g76, n76⟩)) (TreeOk.node (TreeOk.leaf ⟨g77, n77⟩) (TreeOk.node (TreeOk.leaf ⟨g78, n78⟩) (TreeOk.leaf ⟨g79, n79⟩))))) Tryz.func14 q14
theorem n37 : Enters Tryz.prog 37 := enters_of Tryz.func37 (by kernel_rfl)
theorem g37 : Good Tryz.prog 37 c37 := good_of (C := C37) mx (table_ok tt_ok) (TreeOk.leaf ⟨g71, n71⟩) Tryz.func37 q37
theorem n123 : Enters Tryz.prog 123 := enters_of Tryz.func123 (by kernel_rfl)
theorem g123 : Good Tryz.prog 123 c123 := good_of (C := C123) mx (table_ok tt_ok) (TreeOk.leaf ⟨g110, n110⟩) Tryz.func123 q123
theorem n38 : Enters Tryz.prog 38 := enters_of Tryz.func38 (by kernel_rfl)
theorem g38 : Good Tryz.prog 38 c38 := good_of (C := C38) mx (table_ok tt_ok) (TreeOk.leaf ⟨g123, n123⟩) Tryz.func38 q38
theorem n6 : Enters Tryz.prog 6 := enters_of Tryz.func6 (by kernel_rfl)
theorem g6 : Good Tryz.prog 6 c6 := good_of (C := C6) mx (table_ok tt_ok) (TreeOk.node (TreeOk.node (TreeOk.node (TreeOk.leaf ⟨g8, n8⟩) (TreeOk.node (TreeOk.leaf ⟨g10, n10⟩) (TreeOk.leaf ⟨g13, n13⟩))) (TreeOk.node (TreeOk.leaf ⟨g14, n14⟩) (TreeOk.node (TreeOk.leaf ⟨g22, n22⟩) (TreeOk.leaf ⟨g25, n25⟩)))) (TreeOk.node (TreeOk.node (TreeOk.leaf ⟨g28, n28⟩) (TreeOk.node (TreeOk.leaf ⟨g30, n30⟩) (TreeOk.leaf ⟨g34, n34⟩))) (TreeOk.node (TreeOk.node (TreeOk.leaf ⟨g35, n35⟩) (TreeOk.leaf ⟨g36, n36⟩)) (TreeOk.node (TreeOk.leaf ⟨g37, n37⟩) (TreeOk.leaf ⟨g38, n38⟩))))) Tryz.func6 q6
end Go.Proofs.YtphaibffjdfhpaaGreat
