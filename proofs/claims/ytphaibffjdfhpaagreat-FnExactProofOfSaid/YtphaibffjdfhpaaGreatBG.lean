/- Each function does as its contract says. Conditions: none. -/

import Derived.Test.YtphaibffjdfhpaaGreatTm4
import Derived.Test.YtphaibffjdfhpaaGreatBF
namespace Go.Proofs.YtphaibffjdfhpaaGreat
open Go Go.Tm
set_option linter.unusedVariables false
set_option maxRecDepth 100000
theorem mx : Tryz.prog.follows .mixedOrders = true := by kernel_rfl
theorem n205 : Enters Tryz.prog 205 := enters_of Tryz.func205 (by kernel_rfl)
theorem g205 : Good Tryz.prog 205 c205 := good_of (C := C205) mx (table_ok tt_ok) TreeOk.nil Tryz.func205 q205
theorem n166 : Enters Tryz.prog 166 := enters_of Tryz.func166 (by kernel_rfl)
theorem g166 : Good Tryz.prog 166 c166 := good_of (C := C166) mx (table_ok tt_ok) (TreeOk.leaf ⟨g205, n205⟩) Tryz.func166 q166
theorem n95 : Enters Tryz.prog 95 := enters_of Tryz.func95 (by kernel_rfl)
theorem g95 : Good Tryz.prog 95 c95 := good_of (C := C95) mx (table_ok tt_ok) (TreeOk.leaf ⟨g166, n166⟩) Tryz.func95 q95
theorem n22 : Enters Tryz.prog 22 := enters_of Tryz.func22 (by kernel_rfl)
theorem g22 : Good Tryz.prog 22 c22 := good_of (C := C22) mx (table_ok tt_ok) (TreeOk.leaf ⟨g95, n95⟩) Tryz.func22 q22
theorem n130 : Enters Tryz.prog 130 := enters_of Tryz.func130 (by kernel_rfl)
theorem g130 : Good Tryz.prog 130 c130 := good_of (C := C130) mx (table_ok tt_ok) TreeOk.nil Tryz.func130 q130
theorem n41 : Enters Tryz.prog 41 := enters_of Tryz.func41 (by kernel_rfl)
theorem g41 : Good Tryz.prog 41 c41 := good_of (C := C41) mx (table_ok tt_ok) (TreeOk.leaf ⟨g130, n130⟩) Tryz.func41 q41
theorem n23 : Enters Tryz.prog 23 := enters_of Tryz.func23 (by kernel_rfl)
theorem g23 : Good Tryz.prog 23 c23 := good_of (C := C23) mx (table_ok tt_ok) TreeOk.nil Tryz.func23 q23
theorem n43 : Enters Tryz.prog 43 := enters_of Tryz.func43 (by kernel_rfl)
theorem g43 : Good Tryz.prog 43 c43 := good_of (C := C43) mx (table_ok tt_ok) (TreeOk.leaf ⟨g23, n23⟩) Tryz.func43 q43
theorem n47 : Enters Tryz.prog 47 := enters_of Tryz.func47 (by kernel_rfl)
theorem g47 : Good Tryz.prog 47 c47 := good_of (C := C47) mx (table_ok tt_ok) TreeOk.nil Tryz.func47 q47
theorem n44 : Enters Tryz.prog 44 := enters_of Tryz.func44 (by kernel_rfl)
theorem g44 : Good Tryz.prog 44 c44 := good_of (C := C44) mx (table_ok tt_ok) (TreeOk.node (TreeOk.leaf ⟨g23, n23⟩) (TreeOk.leaf ⟨g47, n47⟩)) Tryz.func44 q44
theorem n134 : Enters Tryz.prog 134 := enters_of Tryz.func134 (by kernel_rfl)
theorem g134 : Good Tryz.prog 134 c134 := good_of (C := C134) mx (table_ok tt_ok) TreeOk.nil Tryz.func134 q134
theorem n48 : Enters Tryz.prog 48 := enters_of Tryz.func48 (by kernel_rfl)
theorem g48 : Good Tryz.prog 48 c48 := good_of (C := C48) mx (table_ok tt_ok) (TreeOk.leaf ⟨g134, n134⟩) Tryz.func48 q48
theorem n131 : Enters Tryz.prog 131 := enters_of Tryz.func131 (by kernel_rfl)
theorem g131 : Good Tryz.prog 131 c131 := good_of (C := C131) mx (table_ok tt_ok) (TreeOk.node (TreeOk.node (TreeOk.leaf ⟨g41, n41⟩) (TreeOk.leaf ⟨g43, n43⟩)) (TreeOk.node (TreeOk.leaf ⟨g44, n44⟩) (TreeOk.leaf ⟨g48, n48⟩))) Tryz.func131 q131
theorem n42 : Enters Tryz.prog 42 := enters_of Tryz.func42 (by kernel_rfl)
theorem g42 : Good Tryz.prog 42 c42 := good_of (C := C42) mx (table_ok tt_ok) (TreeOk.leaf ⟨g131, n131⟩) Tryz.func42 q42
theorem n132 : Enters Tryz.prog 132 := enters_of Tryz.func132 (by kernel_rfl)
theorem g132 : Good Tryz.prog 132 c132 := good_of (C := C132) mx (table_ok tt_ok) TreeOk.nil Tryz.func132 q132
theorem n45 : Enters Tryz.prog 45 := enters_of Tryz.func45 (by kernel_rfl)
theorem g45 : Good Tryz.prog 45 c45 := good_of (C := C45) mx (table_ok tt_ok) (TreeOk.leaf ⟨g132, n132⟩) Tryz.func45 q45
theorem n133 : Enters Tryz.prog 133 := enters_of Tryz.func133 (by kernel_rfl)
theorem g133 : Good Tryz.prog 133 c133 := good_of (C := C133) mx (table_ok tt_ok) TreeOk.nil Tryz.func133 q133
theorem n46 : Enters Tryz.prog 46 := enters_of Tryz.func46 (by kernel_rfl)
theorem g46 : Good Tryz.prog 46 c46 := good_of (C := C46) mx (table_ok tt_ok) (TreeOk.leaf ⟨g133, n133⟩) Tryz.func46 q46
theorem n135 : Enters Tryz.prog 135 := enters_of Tryz.func135 (by kernel_rfl)
theorem g135 : Good Tryz.prog 135 c135 := good_of (C := C135) mx (table_ok tt_ok) (TreeOk.node (TreeOk.leaf ⟨g42, n42⟩) (TreeOk.leaf ⟨g43, n43⟩)) Tryz.func135 q135
theorem n49 : Enters Tryz.prog 49 := enters_of Tryz.func49 (by kernel_rfl)
theorem g49 : Good Tryz.prog 49 c49 := good_of (C := C49) mx (table_ok tt_ok) (TreeOk.leaf ⟨g135, n135⟩) Tryz.func49 q49
theorem n8 : Enters Tryz.prog 8 := enters_of Tryz.func8 (by kernel_rfl)
theorem g8 : Good Tryz.prog 8 c8 := good_of (C := C8) mx (table_ok tt_ok) (TreeOk.node (TreeOk.node (TreeOk.node (TreeOk.leaf ⟨g22, n22⟩) (TreeOk.leaf ⟨g41, n41⟩)) (TreeOk.node (TreeOk.leaf ⟨g42, n42⟩) (TreeOk.node (TreeOk.leaf ⟨g43, n43⟩) (TreeOk.leaf ⟨g44, n44⟩)))) (TreeOk.node (TreeOk.node (TreeOk.leaf ⟨g45, n45⟩) (TreeOk.leaf ⟨g46, n46⟩)) (TreeOk.node (TreeOk.leaf ⟨g47, n47⟩) (TreeOk.node (TreeOk.leaf ⟨g48, n48⟩) (TreeOk.leaf ⟨g49, n49⟩))))) Tryz.func8 q8
theorem n229 : Enters Tryz.prog 229 := enters_of Tryz.func229 (by kernel_rfl)
theorem g229 : Good Tryz.prog 229 c229 := good_of (C := C229) mx (table_ok tt_ok) TreeOk.nil Tryz.func229 q229
theorem n208 : Enters Tryz.prog 208 := enters_of Tryz.func208 (by kernel_rfl)
theorem g208 : Good Tryz.prog 208 c208 := good_of (C := C208) mx (table_ok tt_ok) (TreeOk.leaf ⟨g229, n229⟩) Tryz.func208 q208
theorem n171 : Enters Tryz.prog 171 := enters_of Tryz.func171 (by kernel_rfl)
theorem g171 : Good Tryz.prog 171 c171 := good_of (C := C171) mx (table_ok tt_ok) (TreeOk.leaf ⟨g208, n208⟩) Tryz.func171 q171
theorem n101 : Enters Tryz.prog 101 := enters_of Tryz.func101 (by kernel_rfl)
theorem g101 : Good Tryz.prog 101 c101 := good_of (C := C101) mx (table_ok tt_ok) (TreeOk.leaf ⟨g171, n171⟩) Tryz.func101 q101
theorem n25 : Enters Tryz.prog 25 := enters_of Tryz.func25 (by kernel_rfl)
theorem g25 : Good Tryz.prog 25 c25 := good_of (C := C25) mx (table_ok tt_ok) (TreeOk.leaf ⟨g101, n101⟩) Tryz.func25 q25
theorem n138 : Enters Tryz.prog 138 := enters_of Tryz.func138 (by kernel_rfl)
theorem g138 : Good Tryz.prog 138 c138 := good_of (C := C138) mx (table_ok tt_ok) TreeOk.nil Tryz.func138 q138
theorem n51 : Enters Tryz.prog 51 := enters_of Tryz.func51 (by kernel_rfl)
theorem g51 : Good Tryz.prog 51 c51 := good_of (C := C51) mx (table_ok tt_ok) (TreeOk.leaf ⟨g138, n138⟩) Tryz.func51 q51
theorem n26 : Enters Tryz.prog 26 := enters_of Tryz.func26 (by kernel_rfl)
theorem g26 : Good Tryz.prog 26 c26 := good_of (C := C26) mx (table_ok tt_ok) TreeOk.nil Tryz.func26 q26
theorem n53 : Enters Tryz.prog 53 := enters_of Tryz.func53 (by kernel_rfl)
theorem g53 : Good Tryz.prog 53 c53 := good_of (C := C53) mx (table_ok tt_ok) (TreeOk.leaf ⟨g26, n26⟩) Tryz.func53 q53
theorem n57 : Enters Tryz.prog 57 := enters_of Tryz.func57 (by kernel_rfl)
theorem g57 : Good Tryz.prog 57 c57 := good_of (C := C57) mx (table_ok tt_ok) TreeOk.nil Tryz.func57 q57
theorem n54 : Enters Tryz.prog 54 := enters_of Tryz.func54 (by kernel_rfl)
theorem g54 : Good Tryz.prog 54 c54 := good_of (C := C54) mx (table_ok tt_ok) (TreeOk.node (TreeOk.leaf ⟨g26, n26⟩) (TreeOk.leaf ⟨g57, n57⟩)) Tryz.func54 q54
theorem n142 : Enters Tryz.prog 142 := enters_of Tryz.func142 (by kernel_rfl)
theorem g142 : Good Tryz.prog 142 c142 := good_of (C := C142) mx (table_ok tt_ok) TreeOk.nil Tryz.func142 q142
theorem n58 : Enters Tryz.prog 58 := enters_of Tryz.func58 (by kernel_rfl)
theorem g58 : Good Tryz.prog 58 c58 := good_of (C := C58) mx (table_ok tt_ok) (TreeOk.leaf ⟨g142, n142⟩) Tryz.func58 q58
theorem n139 : Enters Tryz.prog 139 := enters_of Tryz.func139 (by kernel_rfl)
theorem g139 : Good Tryz.prog 139 c139 := good_of (C := C139) mx (table_ok tt_ok) (TreeOk.node (TreeOk.node (TreeOk.leaf ⟨g51, n51⟩) (TreeOk.leaf ⟨g53, n53⟩)) (TreeOk.node (TreeOk.leaf ⟨g54, n54⟩) (TreeOk.leaf ⟨g58, n58⟩))) Tryz.func139 q139
theorem n52 : Enters Tryz.prog 52 := enters_of Tryz.func52 (by kernel_rfl)
theorem g52 : Good Tryz.prog 52 c52 := good_of (C := C52) mx (table_ok tt_ok) (TreeOk.leaf ⟨g139, n139⟩) Tryz.func52 q52
theorem n140 : Enters Tryz.prog 140 := enters_of Tryz.func140 (by kernel_rfl)
theorem g140 : Good Tryz.prog 140 c140 := good_of (C := C140) mx (table_ok tt_ok) TreeOk.nil Tryz.func140 q140
theorem n55 : Enters Tryz.prog 55 := enters_of Tryz.func55 (by kernel_rfl)
theorem g55 : Good Tryz.prog 55 c55 := good_of (C := C55) mx (table_ok tt_ok) (TreeOk.leaf ⟨g140, n140⟩) Tryz.func55 q55
theorem n141 : Enters Tryz.prog 141 := enters_of Tryz.func141 (by kernel_rfl)
theorem g141 : Good Tryz.prog 141 c141 := good_of (C := C141) mx (table_ok tt_ok) TreeOk.nil Tryz.func141 q141
theorem n56 : Enters Tryz.prog 56 := enters_of Tryz.func56 (by kernel_rfl)
theorem g56 : Good Tryz.prog 56 c56 := good_of (C := C56) mx (table_ok tt_ok) (TreeOk.leaf ⟨g141, n141⟩) Tryz.func56 q56
theorem n143 : Enters Tryz.prog 143 := enters_of Tryz.func143 (by kernel_rfl)
theorem g143 : Good Tryz.prog 143 c143 := good_of (C := C143) mx (table_ok tt_ok) (TreeOk.node (TreeOk.leaf ⟨g52, n52⟩) (TreeOk.leaf ⟨g53, n53⟩)) Tryz.func143 q143
theorem n59 : Enters Tryz.prog 59 := enters_of Tryz.func59 (by kernel_rfl)
theorem g59 : Good Tryz.prog 59 c59 := good_of (C := C59) mx (table_ok tt_ok) (TreeOk.leaf ⟨g143, n143⟩) Tryz.func59 q59
theorem n10 : Enters Tryz.prog 10 := enters_of Tryz.func10 (by kernel_rfl)
theorem g10 : Good Tryz.prog 10 c10 := good_of (C := C10) mx (table_ok tt_ok) (TreeOk.node (TreeOk.node (TreeOk.node (TreeOk.leaf ⟨g25, n25⟩) (TreeOk.leaf ⟨g51, n51⟩)) (TreeOk.node (TreeOk.leaf ⟨g52, n52⟩) (TreeOk.node (TreeOk.leaf ⟨g53, n53⟩) (TreeOk.leaf ⟨g54, n54⟩)))) (TreeOk.node (TreeOk.node (TreeOk.leaf ⟨g55, n55⟩) (TreeOk.leaf ⟨g56, n56⟩)) (TreeOk.node (TreeOk.leaf ⟨g57, n57⟩) (TreeOk.node (TreeOk.leaf ⟨g58, n58⟩) (TreeOk.leaf ⟨g59, n59⟩))))) Tryz.func10 q10
theorem n137 : Enters Tryz.prog 137 := enters_of Tryz.func137 (by kernel_rfl)
theorem g137 : Good Tryz.prog 137 c137 := good_of (C := C137) mx (table_ok tt_ok) TreeOk.nil Tryz.func137 q137
theorem n225 : Enters Tryz.prog 225 := enters_of Tryz.func225 (by kernel_rfl)
theorem g225 : Good Tryz.prog 225 c225 := good_of (C := C225) mx (table_ok tt_ok) TreeOk.nil Tryz.func225 q225
theorem n203 : Enters Tryz.prog 203 := enters_of Tryz.func203 (by kernel_rfl)
theorem g203 : Good Tryz.prog 203 c203 := good_of (C := C203) mx (table_ok tt_ok) (TreeOk.node (TreeOk.leaf ⟨g137, n137⟩) (TreeOk.leaf ⟨g225, n225⟩)) Tryz.func203 q203
theorem n136 : Enters Tryz.prog 136 := enters_of Tryz.func136 (by kernel_rfl)
theorem g136 : Good Tryz.prog 136 c136 := good_of (C := C136) mx (table_ok tt_ok) (TreeOk.leaf ⟨g203, n203⟩) Tryz.func136 q136
theorem n50 : Enters Tryz.prog 50 := enters_of Tryz.func50 (by kernel_rfl)
theorem g50 : Good Tryz.prog 50 c50 := good_of (C := C50) mx (table_ok tt_ok) (TreeOk.node (TreeOk.leaf ⟨g136, n136⟩) (TreeOk.leaf ⟨g137, n137⟩)) Tryz.func50 q50
theorem n9 : Enters Tryz.prog 9 := enters_of Tryz.func9 (by kernel_rfl)
theorem g9 : Good Tryz.prog 9 c9 := good_of (C := C9) mx (table_ok tt_ok) (TreeOk.leaf ⟨g50, n50⟩) Tryz.func9 q9
theorem n144 : Enters Tryz.prog 144 := enters_of Tryz.func144 (by kernel_rfl)
theorem g144 : Good Tryz.prog 144 c144 := good_of (C := C144) mx (table_ok tt_ok) TreeOk.nil Tryz.func144 q144
theorem n145 : Enters Tryz.prog 145 := enters_of Tryz.func145 (by kernel_rfl)
theorem g145 : Good Tryz.prog 145 c145 := good_of (C := C145) mx (table_ok tt_ok) TreeOk.nil Tryz.func145 q145
theorem n60 : Enters Tryz.prog 60 := enters_of Tryz.func60 (by kernel_rfl)
theorem g60 : Good Tryz.prog 60 c60 := good_of (C := C60) mx (table_ok tt_ok) (TreeOk.node (TreeOk.leaf ⟨g144, n144⟩) (TreeOk.leaf ⟨g145, n145⟩)) Tryz.func60 q60
theorem n105 : Enters Tryz.prog 105 := enters_of Tryz.func105 (by kernel_rfl)
theorem g105 : Good Tryz.prog 105 c105 := good_of (C := C105) mx (table_ok tt_ok) TreeOk.nil Tryz.func105 q105
theorem n147 : Enters Tryz.prog 147 := enters_of Tryz.func147 (by kernel_rfl)
theorem g147 : Good Tryz.prog 147 c147 := good_of (C := C147) mx (table_ok tt_ok) (TreeOk.leaf ⟨g105, n105⟩) Tryz.func147 q147
theorem n245 : Enters Tryz.prog 245 := enters_of Tryz.func245 (by kernel_rfl)
theorem g245 : Good Tryz.prog 245 c245 := good_of (C := C245) mx (table_ok tt_ok) TreeOk.nil Tryz.func245 q245
theorem n226 : Enters Tryz.prog 226 := enters_of Tryz.func226 (by kernel_rfl)
theorem g226 : Good Tryz.prog 226 c226 := good_of (C := C226) mx (table_ok tt_ok) (TreeOk.node (TreeOk.leaf ⟨g105, n105⟩) (TreeOk.leaf ⟨g245, n245⟩)) Tryz.func226 q226
theorem n227 : Enters Tryz.prog 227 := enters_of Tryz.func227 (by kernel_rfl)
theorem g227 : Good Tryz.prog 227 c227 := good_of (C := C227) mx (table_ok tt_ok) TreeOk.nil Tryz.func227 q227
theorem n194 : Enters Tryz.prog 194 := enters_of Tryz.func194 (by kernel_rfl)
theorem g194 : Good Tryz.prog 194 c194 := good_of (C := C194) mx (table_ok tt_ok) TreeOk.nil Tryz.func194 q194
theorem n204 : Enters Tryz.prog 204 := enters_of Tryz.func204 (by kernel_rfl)
theorem g204 : Good Tryz.prog 204 c204 := good_of (C := C204) mx (table_ok tt_ok) (TreeOk.node (TreeOk.node (TreeOk.leaf ⟨g147, n147⟩) (TreeOk.leaf ⟨g194, n194⟩)) (TreeOk.node (TreeOk.leaf ⟨g226, n226⟩) (TreeOk.leaf ⟨g227, n227⟩))) Tryz.func204 q204
theorem n146 : Enters Tryz.prog 146 := enters_of Tryz.func146 (by kernel_rfl)
theorem g146 : Good Tryz.prog 146 c146 := good_of (C := C146) mx (table_ok tt_ok) (TreeOk.leaf ⟨g204, n204⟩) Tryz.func146 q146
theorem n61 : Enters Tryz.prog 61 := enters_of Tryz.func61 (by kernel_rfl)
theorem g61 : Good Tryz.prog 61 c61 := good_of (C := C61) mx (table_ok tt_ok) (TreeOk.node (TreeOk.leaf ⟨g146, n146⟩) (TreeOk.leaf ⟨g147, n147⟩)) Tryz.func61 q61
theorem n11 : Enters Tryz.prog 11 := enters_of Tryz.func11 (by kernel_rfl)
theorem g11 : Good Tryz.prog 11 c11 := good_of (C := C11) mx (table_ok tt_ok) (TreeOk.node (TreeOk.leaf ⟨g60, n60⟩) (TreeOk.leaf ⟨g61, n61⟩)) Tryz.func11 q11
theorem n29 : Enters Tryz.prog 29 := enters_of Tryz.func29 (by kernel_rfl)
theorem g29 : Good Tryz.prog 29 c29 := good_of (C := C29) mx (table_ok tt_ok) TreeOk.nil Tryz.func29 q29
theorem n63 : Enters Tryz.prog 63 := enters_of Tryz.func63 (by kernel_rfl)
theorem g63 : Good Tryz.prog 63 c63 := good_of (C := C63) mx (table_ok tt_ok) (TreeOk.leaf ⟨g29, n29⟩) Tryz.func63 q63
theorem n68 : Enters Tryz.prog 68 := enters_of Tryz.func68 (by kernel_rfl)
theorem g68 : Good Tryz.prog 68 c68 := good_of (C := C68) mx (table_ok tt_ok) TreeOk.nil Tryz.func68 q68
theorem n65 : Enters Tryz.prog 65 := enters_of Tryz.func65 (by kernel_rfl)
theorem g65 : Good Tryz.prog 65 c65 := good_of (C := C65) mx (table_ok tt_ok) (TreeOk.node (TreeOk.leaf ⟨g29, n29⟩) (TreeOk.leaf ⟨g68, n68⟩)) Tryz.func65 q65
theorem n152 : Enters Tryz.prog 152 := enters_of Tryz.func152 (by kernel_rfl)
theorem g152 : Good Tryz.prog 152 c152 := good_of (C := C152) mx (table_ok tt_ok) TreeOk.nil Tryz.func152 q152
theorem n69 : Enters Tryz.prog 69 := enters_of Tryz.func69 (by kernel_rfl)
theorem g69 : Good Tryz.prog 69 c69 := good_of (C := C69) mx (table_ok tt_ok) (TreeOk.leaf ⟨g152, n152⟩) Tryz.func69 q69
theorem n149 : Enters Tryz.prog 149 := enters_of Tryz.func149 (by kernel_rfl)
theorem g149 : Good Tryz.prog 149 c149 := good_of (C := C149) mx (table_ok tt_ok) TreeOk.nil Tryz.func149 q149
theorem n64 : Enters Tryz.prog 64 := enters_of Tryz.func64 (by kernel_rfl)
theorem g64 : Good Tryz.prog 64 c64 := good_of (C := C64) mx (table_ok tt_ok) (TreeOk.leaf ⟨g149, n149⟩) Tryz.func64 q64
theorem n148 : Enters Tryz.prog 148 := enters_of Tryz.func148 (by kernel_rfl)
theorem g148 : Good Tryz.prog 148 c148 := good_of (C := C148) mx (table_ok tt_ok) (TreeOk.node (TreeOk.node (TreeOk.leaf ⟨g63, n63⟩) (TreeOk.leaf ⟨g64, n64⟩)) (TreeOk.node (TreeOk.leaf ⟨g65, n65⟩) (TreeOk.leaf ⟨g69, n69⟩))) Tryz.func148 q148
theorem n62 : Enters Tryz.prog 62 := enters_of Tryz.func62 (by kernel_rfl)
theorem g62 : Good Tryz.prog 62 c62 := good_of (C := C62) mx (table_ok tt_ok) (TreeOk.leaf ⟨g148, n148⟩) Tryz.func62 q62
theorem n12 : Enters Tryz.prog 12 := enters_of Tryz.func12 (by kernel_rfl)
theorem g12 : Good Tryz.prog 12 c12 := good_of (C := C12) mx (table_ok tt_ok) (TreeOk.node (TreeOk.leaf ⟨g62, n62⟩) (TreeOk.leaf ⟨g63, n63⟩)) Tryz.func12 q12
theorem n231 : Enters Tryz.prog 231 := enters_of Tryz.func231 (by kernel_rfl)
theorem g231 : Good Tryz.prog 231 c231 := good_of (C := C231) mx (table_ok tt_ok) TreeOk.nil Tryz.func231 q231
theorem n212 : Enters Tryz.prog 212 := enters_of Tryz.func212 (by kernel_rfl)
theorem g212 : Good Tryz.prog 212 c212 := good_of (C := C212) mx (table_ok tt_ok) (TreeOk.leaf ⟨g231, n231⟩) Tryz.func212 q212
theorem n178 : Enters Tryz.prog 178 := enters_of Tryz.func178 (by kernel_rfl)
theorem g178 : Good Tryz.prog 178 c178 := good_of (C := C178) mx (table_ok tt_ok) (TreeOk.leaf ⟨g212, n212⟩) Tryz.func178 q178
theorem n108 : Enters Tryz.prog 108 := enters_of Tryz.func108 (by kernel_rfl)
theorem g108 : Good Tryz.prog 108 c108 := good_of (C := C108) mx (table_ok tt_ok) (TreeOk.leaf ⟨g178, n178⟩) Tryz.func108 q108
theorem n28 : Enters Tryz.prog 28 := enters_of Tryz.func28 (by kernel_rfl)
theorem g28 : Good Tryz.prog 28 c28 := good_of (C := C28) mx (table_ok tt_ok) (TreeOk.leaf ⟨g108, n108⟩) Tryz.func28 q28
theorem n150 : Enters Tryz.prog 150 := enters_of Tryz.func150 (by kernel_rfl)
theorem g150 : Good Tryz.prog 150 c150 := good_of (C := C150) mx (table_ok tt_ok) TreeOk.nil Tryz.func150 q150
theorem n66 : Enters Tryz.prog 66 := enters_of Tryz.func66 (by kernel_rfl)
theorem g66 : Good Tryz.prog 66 c66 := good_of (C := C66) mx (table_ok tt_ok) (TreeOk.leaf ⟨g150, n150⟩) Tryz.func66 q66
theorem n151 : Enters Tryz.prog 151 := enters_of Tryz.func151 (by kernel_rfl)
theorem g151 : Good Tryz.prog 151 c151 := good_of (C := C151) mx (table_ok tt_ok) TreeOk.nil Tryz.func151 q151
theorem n67 : Enters Tryz.prog 67 := enters_of Tryz.func67 (by kernel_rfl)
theorem g67 : Good Tryz.prog 67 c67 := good_of (C := C67) mx (table_ok tt_ok) (TreeOk.leaf ⟨g151, n151⟩) Tryz.func67 q67
theorem n70 : Enters Tryz.prog 70 := enters_of Tryz.func70 (by kernel_rfl)
theorem g70 : Good Tryz.prog 70 c70 := good_of (C := C70) mx (table_ok tt_ok) (TreeOk.leaf ⟨g12, n12⟩) Tryz.func70 q70
theorem n13 : Enters Tryz.prog 13 := enters_of Tryz.func13 (by kernel_rfl)
theorem g13 : Good Tryz.prog 13 c13 := good_of (C := C13) mx (table_ok tt_ok) (TreeOk.node (TreeOk.node (TreeOk.node (TreeOk.leaf ⟨g28, n28⟩) (TreeOk.leaf ⟨g62, n62⟩)) (TreeOk.node (TreeOk.leaf ⟨g63, n63⟩) (TreeOk.node (TreeOk.leaf ⟨g64, n64⟩) (TreeOk.leaf ⟨g65, n65⟩)))) (TreeOk.node (TreeOk.node (TreeOk.leaf ⟨g66, n66⟩) (TreeOk.leaf ⟨g67, n67⟩)) (TreeOk.node (TreeOk.leaf ⟨g68, n68⟩) (TreeOk.node (TreeOk.leaf ⟨g69, n69⟩) (TreeOk.leaf ⟨g70, n70⟩))))) Tryz.func13 q13
theorem n110 : Enters Tryz.prog 110 := enters_of Tryz.func110 (by kernel_rfl)
theorem g110 : Good Tryz.prog 110 c110 := good_of (C := C110) mx (table_ok tt_ok) TreeOk.nil Tryz.func110 q110
theorem n179 : Enters Tryz.prog 179 := enters_of Tryz.func179 (by kernel_rfl)
theorem g179 : Good Tryz.prog 179 c179 := good_of (C := C179) mx (table_ok tt_ok) TreeOk.nil Tryz.func179 q179
theorem n109 : Enters Tryz.prog 109 := enters_of Tryz.func109 (by kernel_rfl)
theorem g109 : Good Tryz.prog 109 c109 := good_of (C := C109) mx (table_ok tt_ok) (TreeOk.node (TreeOk.leaf ⟨g110, n110⟩) (TreeOk.leaf ⟨g179, n179⟩)) Tryz.func109 q109
theorem n30 : Enters Tryz.prog 30 := enters_of Tryz.func30 (by kernel_rfl)
theorem g30 : Good Tryz.prog 30 c30 := good_of (C := C30) mx (table_ok tt_ok) (TreeOk.leaf ⟨g109, n109⟩) Tryz.func30 q30
theorem n71 : Enters Tryz.prog 71 := enters_of Tryz.func71 (by kernel_rfl)
theorem g71 : Good Tryz.prog 71 c71 := good_of (C := C71) mx (table_ok tt_ok) (TreeOk.leaf ⟨g110, n110⟩) Tryz.func71 q71
theorem n31 : Enters Tryz.prog 31 := enters_of Tryz.func31 (by kernel_rfl)
theorem g31 : Good Tryz.prog 31 c31 := good_of (C := C31) mx (table_ok tt_ok) (TreeOk.leaf ⟨g110, n110⟩) Tryz.func31 q31
theorem n77 : Enters Tryz.prog 77 := enters_of Tryz.func77 (by kernel_rfl)
theorem g77 : Good Tryz.prog 77 c77 := good_of (C := C77) mx (table_ok tt_ok) TreeOk.nil Tryz.func77 q77
theorem n78 : Enters Tryz.prog 78 := enters_of Tryz.func78 (by kernel_rfl)
theorem g78 : Good Tryz.prog 78 c78 := good_of (C := C78) mx (table_ok tt_ok) (TreeOk.leaf ⟨g110, n110⟩) Tryz.func78 q78
theorem n72 : Enters Tryz.prog 72 := enters_of Tryz.func72 (by kernel_rfl)
theorem g72 : Good Tryz.prog 72 c72 := good_of (C := C72) mx (table_ok tt_ok) (TreeOk.node (TreeOk.node (TreeOk.leaf ⟨g31, n31⟩) (TreeOk.leaf ⟨g71, n71⟩)) (TreeOk.node (TreeOk.leaf ⟨g77, n77⟩) (TreeOk.node (TreeOk.leaf ⟨g78, n78⟩) (TreeOk.leaf ⟨g110, n110⟩)))) Tryz.func72 q72
theorem n73 : Enters Tryz.prog 73 := enters_of Tryz.func73 (by kernel_rfl)
theorem g73 : Good Tryz.prog 73 c73 := good_of (C := C73) mx (table_ok tt_ok) (TreeOk.leaf ⟨g31, n31⟩) Tryz.func73 q73
theorem n74 : Enters Tryz.prog 74 := enters_of Tryz.func74 (by kernel_rfl)
theorem g74 : Good Tryz.prog 74 c74 := good_of (C := C74) mx (table_ok tt_ok) (TreeOk.node (TreeOk.leaf ⟨g31, n31⟩) (TreeOk.leaf ⟨g77, n77⟩)) Tryz.func74 q74
theorem n75 : Enters Tryz.prog 75 := enters_of Tryz.func75 (by kernel_rfl)
theorem g75 : Good Tryz.prog 75 c75 := good_of (C := C75) mx (table_ok tt_ok) (TreeOk.leaf ⟨g110, n110⟩) Tryz.func75 q75
theorem n76 : Enters Tryz.prog 76 := enters_of Tryz.func76 (by kernel_rfl)
theorem g76 : Good Tryz.prog 76 c76 := good_of (C := C76) mx (table_ok tt_ok) (TreeOk.leaf ⟨g110, n110⟩) Tryz.func76 q76
theorem n79 : Enters Tryz.prog 79 := enters_of Tryz.func79 (by kernel_rfl)
theorem g79 : Good Tryz.prog 79 c79 := good_of (C := C79) mx (table_ok tt_ok) (TreeOk.node (TreeOk.leaf ⟨g31, n31⟩) (TreeOk.leaf ⟨g72, n72⟩)) Tryz.func79 q79
theorem n14 : Enters Tryz.prog 14 := enters_of Tryz.func14 (by kernel_rfl)
theorem g14 : Good Tryz.prog 14 c14 := good_of (C := C14) mx (table_ok tt_ok) (TreeOk.node (TreeOk.node (TreeOk.node (TreeOk.leaf ⟨g30, n30⟩) (TreeOk.leaf ⟨g71, n71⟩)) (TreeOk.node (TreeOk.leaf ⟨g72, n72⟩) (TreeOk.node (TreeOk.leaf ⟨g73, n73⟩) (TreeOk.leaf ⟨g74, n74⟩)))) (TreeOk.node (TreeOk.node (TreeOk.leaf ⟨g75, n75⟩) (TreeOk.leaf ⟨g76, n76⟩)) (TreeOk.node (TreeOk.leaf ⟨g77, n77⟩) (TreeOk.node (TreeOk.leaf ⟨g78, n78⟩) (TreeOk.leaf ⟨g79, n79⟩))))) Tryz.func14 q14
theorem n15 : Enters Tryz.prog 15 := enters_of Tryz.func15 (by kernel_rfl)
theorem g15 : Good Tryz.prog 15 c15 := good_of (C := C15) mx (table_ok tt_ok) (TreeOk.node (TreeOk.leaf ⟨g72, n72⟩) (TreeOk.leaf ⟨g73, n73⟩)) Tryz.func15 q15
theorem n115 : Enters Tryz.prog 115 := enters_of Tryz.func115 (by kernel_rfl)
theorem g115 : Good Tryz.prog 115 c115 := good_of (C := C115) mx (table_ok tt_ok) (TreeOk.leaf ⟨g110, n110⟩) Tryz.func115 q115
theorem n153 : Enters Tryz.prog 153 := enters_of Tryz.func153 (by kernel_rfl)
theorem g153 : Good Tryz.prog 153 c153 := good_of (C := C153) mx (table_ok tt_ok) TreeOk.nil Tryz.func153 q153
theorem n154 : Enters Tryz.prog 154 := enters_of Tryz.func154 (by kernel_rfl)
theorem g154 : Good Tryz.prog 154 c154 := good_of (C := C154) mx (table_ok tt_ok) (TreeOk.leaf ⟨g110, n110⟩) Tryz.func154 q154
theorem n123 : Enters Tryz.prog 123 := enters_of Tryz.func123 (by kernel_rfl)
theorem g123 : Good Tryz.prog 123 c123 := good_of (C := C123) mx (table_ok tt_ok) (TreeOk.leaf ⟨g110, n110⟩) Tryz.func123 q123
theorem n80 : Enters Tryz.prog 80 := enters_of Tryz.func80 (by kernel_rfl)
theorem g80 : Good Tryz.prog 80 c80 := good_of (C := C80) mx (table_ok tt_ok) (TreeOk.node (TreeOk.node (TreeOk.leaf ⟨g110, n110⟩) (TreeOk.leaf ⟨g115, n115⟩)) (TreeOk.node (TreeOk.leaf ⟨g123, n123⟩) (TreeOk.node (TreeOk.leaf ⟨g153, n153⟩) (TreeOk.leaf ⟨g154, n154⟩)))) Tryz.func80 q80
theorem n81 : Enters Tryz.prog 81 := enters_of Tryz.func81 (by kernel_rfl)
theorem g81 : Good Tryz.prog 81 c81 := good_of (C := C81) mx (table_ok tt_ok) (TreeOk.leaf ⟨g115, n115⟩) Tryz.func81 q81
theorem n16 : Enters Tryz.prog 16 := enters_of Tryz.func16 (by kernel_rfl)
theorem g16 : Good Tryz.prog 16 c16 := good_of (C := C16) mx (table_ok tt_ok) (TreeOk.node (TreeOk.leaf ⟨g80, n80⟩) (TreeOk.leaf ⟨g81, n81⟩)) Tryz.func16 q16
theorem n3 : Enters Tryz.prog 3 := enters_of Tryz.func3 (by kernel_rfl)
theorem g3 : Good Tryz.prog 3 c3 := good_of (C := C3) mx (table_ok tt_ok) (TreeOk.node (TreeOk.node (TreeOk.node (TreeOk.leaf ⟨g8, n8⟩) (TreeOk.leaf ⟨g9, n9⟩)) (TreeOk.node (TreeOk.leaf ⟨g10, n10⟩) (TreeOk.leaf ⟨g11, n11⟩))) (TreeOk.node (TreeOk.node (TreeOk.leaf ⟨g12, n12⟩) (TreeOk.leaf ⟨g13, n13⟩)) (TreeOk.node (TreeOk.leaf ⟨g14, n14⟩) (TreeOk.node (TreeOk.leaf ⟨g15, n15⟩) (TreeOk.leaf ⟨g16, n16⟩))))) Tryz.func3 q3
end Go.Proofs.YtphaibffjdfhpaaGreat
