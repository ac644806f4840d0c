/- Each function does as its contract says. Conditions: none. -/

import Derived.Test.YtphaibffjdfhpaaGreatTm4
import Derived.Test.YtphaibffjdfhpaaGreatDF
namespace Go.Proofs.YtphaibffjdfhpaaGreat
open Go Go.Tm
set_option linter.unusedVariables false
set_option maxRecDepth 100000
theorem mx : Tryz.prog.follows .mixedOrders = true := by kernel_rfl
theorem n205 : Enters Tryz.prog 205 := enters_of Tryz.func205 (by kernel_rfl)
theorem g205 : Good Tryz.prog 205 c205 := good_of (C := C205) mx (table_ok tt_ok) TreeOk.nil Tryz.func205 q205
theorem n166 : Enters Tryz.prog 166 := enters_of Tryz.func166 (by kernel_rfl)
theorem g166 : Good Tryz.prog 166 c166 := good_of (C := C166) mx (table_ok tt_ok) (TreeOk.leaf ⟨g205, n205⟩) Tryz.func166 q166
theorem n95 : Enters Tryz.prog 95 := enters_of Tryz.func95 (by kernel_rfl)
theorem g95 : Good Tryz.prog 95 c95 := good_of (C := C95) mx (table_ok tt_ok) (TreeOk.leaf ⟨g166, n166⟩) Tryz.func95 q95
theorem n22 : Enters Tryz.prog 22 := enters_of Tryz.func22 (by kernel_rfl)
theorem g22 : Good Tryz.prog 22 c22 := good_of (C := C22) mx (table_ok tt_ok) (TreeOk.leaf ⟨g95, n95⟩) Tryz.func22 q22
theorem n23 : Enters Tryz.prog 23 := enters_of Tryz.func23 (by kernel_rfl)
theorem g23 : Good Tryz.prog 23 c23 := good_of (C := C23) mx (table_ok tt_ok) TreeOk.nil Tryz.func23 q23
theorem n229 : Enters Tryz.prog 229 := enters_of Tryz.func229 (by kernel_rfl)
theorem g229 : Good Tryz.prog 229 c229 := good_of (C := C229) mx (table_ok tt_ok) TreeOk.nil Tryz.func229 q229
theorem n208 : Enters Tryz.prog 208 := enters_of Tryz.func208 (by kernel_rfl)
theorem g208 : Good Tryz.prog 208 c208 := good_of (C := C208) mx (table_ok tt_ok) (TreeOk.leaf ⟨g229, n229⟩) Tryz.func208 q208
theorem n171 : Enters Tryz.prog 171 := enters_of Tryz.func171 (by kernel_rfl)
theorem g171 : Good Tryz.prog 171 c171 := good_of (C := C171) mx (table_ok tt_ok) (TreeOk.leaf ⟨g208, n208⟩) Tryz.func171 q171
theorem n101 : Enters Tryz.prog 101 := enters_of Tryz.func101 (by kernel_rfl)
theorem g101 : Good Tryz.prog 101 c101 := good_of (C := C101) mx (table_ok tt_ok) (TreeOk.leaf ⟨g171, n171⟩) Tryz.func101 q101
theorem n25 : Enters Tryz.prog 25 := enters_of Tryz.func25 (by kernel_rfl)
theorem g25 : Good Tryz.prog 25 c25 := good_of (C := C25) mx (table_ok tt_ok) (TreeOk.leaf ⟨g101, n101⟩) Tryz.func25 q25
theorem n26 : Enters Tryz.prog 26 := enters_of Tryz.func26 (by kernel_rfl)
theorem g26 : Good Tryz.prog 26 c26 := good_of (C := C26) mx (table_ok tt_ok) TreeOk.nil Tryz.func26 q26
theorem n167 : Enters Tryz.prog 167 := enters_of Tryz.func167 (by kernel_rfl)
theorem g167 : Good Tryz.prog 167 c167 := good_of (C := C167) mx (table_ok tt_ok) TreeOk.nil Tryz.func167 q167
theorem n169 : Enters Tryz.prog 169 := enters_of Tryz.func169 (by kernel_rfl)
theorem g169 : Good Tryz.prog 169 c169 := good_of (C := C169) mx (table_ok tt_ok) (TreeOk.leaf ⟨g167, n167⟩) Tryz.func169 q169
theorem n206 : Enters Tryz.prog 206 := enters_of Tryz.func206 (by kernel_rfl)
theorem g206 : Good Tryz.prog 206 c206 := good_of (C := C206) mx (table_ok tt_ok) (TreeOk.node (TreeOk.leaf ⟨g167, n167⟩) (TreeOk.leaf ⟨g169, n169⟩)) Tryz.func206 q206
theorem n228 : Enters Tryz.prog 228 := enters_of Tryz.func228 (by kernel_rfl)
theorem g228 : Good Tryz.prog 228 c228 := good_of (C := C228) mx (table_ok tt_ok) TreeOk.nil Tryz.func228 q228
theorem n207 : Enters Tryz.prog 207 := enters_of Tryz.func207 (by kernel_rfl)
theorem g207 : Good Tryz.prog 207 c207 := good_of (C := C207) mx (table_ok tt_ok) (TreeOk.leaf ⟨g228, n228⟩) Tryz.func207 q207
theorem n168 : Enters Tryz.prog 168 := enters_of Tryz.func168 (by kernel_rfl)
theorem g168 : Good Tryz.prog 168 c168 := good_of (C := C168) mx (table_ok tt_ok) (TreeOk.node (TreeOk.leaf ⟨g206, n206⟩) (TreeOk.leaf ⟨g207, n207⟩)) Tryz.func168 q168
theorem n96 : Enters Tryz.prog 96 := enters_of Tryz.func96 (by kernel_rfl)
theorem g96 : Good Tryz.prog 96 c96 := good_of (C := C96) mx (table_ok tt_ok) (TreeOk.node (TreeOk.leaf ⟨g167, n167⟩) (TreeOk.leaf ⟨g168, n168⟩)) Tryz.func96 q96
theorem n97 : Enters Tryz.prog 97 := enters_of Tryz.func97 (by kernel_rfl)
theorem g97 : Good Tryz.prog 97 c97 := good_of (C := C97) mx (table_ok tt_ok) (TreeOk.leaf ⟨g169, n169⟩) Tryz.func97 q97
theorem n170 : Enters Tryz.prog 170 := enters_of Tryz.func170 (by kernel_rfl)
theorem g170 : Good Tryz.prog 170 c170 := good_of (C := C170) mx (table_ok tt_ok) TreeOk.nil Tryz.func170 q170
theorem n98 : Enters Tryz.prog 98 := enters_of Tryz.func98 (by kernel_rfl)
theorem g98 : Good Tryz.prog 98 c98 := good_of (C := C98) mx (table_ok tt_ok) (TreeOk.leaf ⟨g170, n170⟩) Tryz.func98 q98
theorem n99 : Enters Tryz.prog 99 := enters_of Tryz.func99 (by kernel_rfl)
theorem g99 : Good Tryz.prog 99 c99 := good_of (C := C99) mx (table_ok tt_ok) TreeOk.nil Tryz.func99 q99
theorem n159 : Enters Tryz.prog 159 := enters_of Tryz.func159 (by kernel_rfl)
theorem g159 : Good Tryz.prog 159 c159 := good_of (C := C159) mx (table_ok tt_ok) TreeOk.nil Tryz.func159 q159
theorem n100 : Enters Tryz.prog 100 := enters_of Tryz.func100 (by kernel_rfl)
theorem g100 : Good Tryz.prog 100 c100 := good_of (C := C100) mx (table_ok tt_ok) (TreeOk.node (TreeOk.node (TreeOk.leaf ⟨g96, n96⟩) (TreeOk.leaf ⟨g98, n98⟩)) (TreeOk.node (TreeOk.leaf ⟨g159, n159⟩) (TreeOk.leaf ⟨g169, n169⟩))) Tryz.func100 q100
theorem n24 : Enters Tryz.prog 24 := enters_of Tryz.func24 (by kernel_rfl)
theorem g24 : Good Tryz.prog 24 c24 := good_of (C := C24) mx (table_ok tt_ok) (TreeOk.node (TreeOk.node (TreeOk.leaf ⟨g96, n96⟩) (TreeOk.leaf ⟨g97, n97⟩)) (TreeOk.node (TreeOk.leaf ⟨g98, n98⟩) (TreeOk.node (TreeOk.leaf ⟨g99, n99⟩) (TreeOk.leaf ⟨g100, n100⟩)))) Tryz.func24 q24
theorem n172 : Enters Tryz.prog 172 := enters_of Tryz.func172 (by kernel_rfl)
theorem g172 : Good Tryz.prog 172 c172 := good_of (C := C172) mx (table_ok tt_ok) TreeOk.nil Tryz.func172 q172
theorem n174 : Enters Tryz.prog 174 := enters_of Tryz.func174 (by kernel_rfl)
theorem g174 : Good Tryz.prog 174 c174 := good_of (C := C174) mx (table_ok tt_ok) (TreeOk.leaf ⟨g172, n172⟩) Tryz.func174 q174
theorem n230 : Enters Tryz.prog 230 := enters_of Tryz.func230 (by kernel_rfl)
theorem g230 : Good Tryz.prog 230 c230 := good_of (C := C230) mx (table_ok tt_ok) (TreeOk.leaf ⟨g172, n172⟩) Tryz.func230 q230
theorem n209 : Enters Tryz.prog 209 := enters_of Tryz.func209 (by kernel_rfl)
theorem g209 : Good Tryz.prog 209 c209 := good_of (C := C209) mx (table_ok tt_ok) (TreeOk.node (TreeOk.leaf ⟨g172, n172⟩) (TreeOk.node (TreeOk.leaf ⟨g174, n174⟩) (TreeOk.leaf ⟨g230, n230⟩))) Tryz.func209 q209
theorem n210 : Enters Tryz.prog 210 := enters_of Tryz.func210 (by kernel_rfl)
theorem g210 : Good Tryz.prog 210 c210 := good_of (C := C210) mx (table_ok tt_ok) TreeOk.nil Tryz.func210 q210
theorem n173 : Enters Tryz.prog 173 := enters_of Tryz.func173 (by kernel_rfl)
theorem g173 : Good Tryz.prog 173 c173 := good_of (C := C173) mx (table_ok tt_ok) (TreeOk.node (TreeOk.leaf ⟨g209, n209⟩) (TreeOk.leaf ⟨g210, n210⟩)) Tryz.func173 q173
theorem n102 : Enters Tryz.prog 102 := enters_of Tryz.func102 (by kernel_rfl)
theorem g102 : Good Tryz.prog 102 c102 := good_of (C := C102) mx (table_ok tt_ok) (TreeOk.node (TreeOk.leaf ⟨g172, n172⟩) (TreeOk.leaf ⟨g173, n173⟩)) Tryz.func102 q102
theorem n103 : Enters Tryz.prog 103 := enters_of Tryz.func103 (by kernel_rfl)
theorem g103 : Good Tryz.prog 103 c103 := good_of (C := C103) mx (table_ok tt_ok) (TreeOk.leaf ⟨g174, n174⟩) Tryz.func103 q103
theorem n211 : Enters Tryz.prog 211 := enters_of Tryz.func211 (by kernel_rfl)
theorem g211 : Good Tryz.prog 211 c211 := good_of (C := C211) mx (table_ok tt_ok) TreeOk.nil Tryz.func211 q211
theorem n175 : Enters Tryz.prog 175 := enters_of Tryz.func175 (by kernel_rfl)
theorem g175 : Good Tryz.prog 175 c175 := good_of (C := C175) mx (table_ok tt_ok) (TreeOk.leaf ⟨g211, n211⟩) Tryz.func175 q175
theorem n104 : Enters Tryz.prog 104 := enters_of Tryz.func104 (by kernel_rfl)
theorem g104 : Good Tryz.prog 104 c104 := good_of (C := C104) mx (table_ok tt_ok) (TreeOk.leaf ⟨g175, n175⟩) Tryz.func104 q104
theorem n105 : Enters Tryz.prog 105 := enters_of Tryz.func105 (by kernel_rfl)
theorem g105 : Good Tryz.prog 105 c105 := good_of (C := C105) mx (table_ok tt_ok) TreeOk.nil Tryz.func105 q105
theorem n176 : Enters Tryz.prog 176 := enters_of Tryz.func176 (by kernel_rfl)
theorem g176 : Good Tryz.prog 176 c176 := good_of (C := C176) mx (table_ok tt_ok) TreeOk.nil Tryz.func176 q176
theorem n106 : Enters Tryz.prog 106 := enters_of Tryz.func106 (by kernel_rfl)
theorem g106 : Good Tryz.prog 106 c106 := good_of (C := C106) mx (table_ok tt_ok) (TreeOk.leaf ⟨g176, n176⟩) Tryz.func106 q106
theorem n91 : Enters Tryz.prog 91 := enters_of Tryz.func91 (by kernel_rfl)
theorem g91 : Good Tryz.prog 91 c91 := good_of (C := C91) mx (table_ok tt_ok) (TreeOk.leaf ⟨g102, n102⟩) Tryz.func91 q91
theorem n177 : Enters Tryz.prog 177 := enters_of Tryz.func177 (by kernel_rfl)
theorem g177 : Good Tryz.prog 177 c177 := good_of (C := C177) mx (table_ok tt_ok) TreeOk.nil Tryz.func177 q177
theorem n107 : Enters Tryz.prog 107 := enters_of Tryz.func107 (by kernel_rfl)
theorem g107 : Good Tryz.prog 107 c107 := good_of (C := C107) mx (table_ok tt_ok) (TreeOk.node (TreeOk.node (TreeOk.leaf ⟨g91, n91⟩) (TreeOk.leaf ⟨g102, n102⟩)) (TreeOk.node (TreeOk.leaf ⟨g104, n104⟩) (TreeOk.node (TreeOk.leaf ⟨g174, n174⟩) (TreeOk.leaf ⟨g177, n177⟩)))) Tryz.func107 q107
theorem n27 : Enters Tryz.prog 27 := enters_of Tryz.func27 (by kernel_rfl)
theorem g27 : Good Tryz.prog 27 c27 := good_of (C := C27) mx (table_ok tt_ok) (TreeOk.node (TreeOk.node (TreeOk.leaf ⟨g102, n102⟩) (TreeOk.node (TreeOk.leaf ⟨g103, n103⟩) (TreeOk.leaf ⟨g104, n104⟩))) (TreeOk.node (TreeOk.leaf ⟨g105, n105⟩) (TreeOk.node (TreeOk.leaf ⟨g106, n106⟩) (TreeOk.leaf ⟨g107, n107⟩)))) Tryz.func27 q27
theorem n231 : Enters Tryz.prog 231 := enters_of Tryz.func231 (by kernel_rfl)
theorem g231 : Good Tryz.prog 231 c231 := good_of (C := C231) mx (table_ok tt_ok) TreeOk.nil Tryz.func231 q231
theorem n212 : Enters Tryz.prog 212 := enters_of Tryz.func212 (by kernel_rfl)
theorem g212 : Good Tryz.prog 212 c212 := good_of (C := C212) mx (table_ok tt_ok) (TreeOk.leaf ⟨g231, n231⟩) Tryz.func212 q212
theorem n178 : Enters Tryz.prog 178 := enters_of Tryz.func178 (by kernel_rfl)
theorem g178 : Good Tryz.prog 178 c178 := good_of (C := C178) mx (table_ok tt_ok) (TreeOk.leaf ⟨g212, n212⟩) Tryz.func178 q178
theorem n108 : Enters Tryz.prog 108 := enters_of Tryz.func108 (by kernel_rfl)
theorem g108 : Good Tryz.prog 108 c108 := good_of (C := C108) mx (table_ok tt_ok) (TreeOk.leaf ⟨g178, n178⟩) Tryz.func108 q108
theorem n28 : Enters Tryz.prog 28 := enters_of Tryz.func28 (by kernel_rfl)
theorem g28 : Good Tryz.prog 28 c28 := good_of (C := C28) mx (table_ok tt_ok) (TreeOk.leaf ⟨g108, n108⟩) Tryz.func28 q28
theorem n29 : Enters Tryz.prog 29 := enters_of Tryz.func29 (by kernel_rfl)
theorem g29 : Good Tryz.prog 29 c29 := good_of (C := C29) mx (table_ok tt_ok) TreeOk.nil Tryz.func29 q29
theorem n149 : Enters Tryz.prog 149 := enters_of Tryz.func149 (by kernel_rfl)
theorem g149 : Good Tryz.prog 149 c149 := good_of (C := C149) mx (table_ok tt_ok) TreeOk.nil Tryz.func149 q149
theorem n64 : Enters Tryz.prog 64 := enters_of Tryz.func64 (by kernel_rfl)
theorem g64 : Good Tryz.prog 64 c64 := good_of (C := C64) mx (table_ok tt_ok) (TreeOk.leaf ⟨g149, n149⟩) Tryz.func64 q64
theorem n63 : Enters Tryz.prog 63 := enters_of Tryz.func63 (by kernel_rfl)
theorem g63 : Good Tryz.prog 63 c63 := good_of (C := C63) mx (table_ok tt_ok) (TreeOk.leaf ⟨g29, n29⟩) Tryz.func63 q63
theorem n68 : Enters Tryz.prog 68 := enters_of Tryz.func68 (by kernel_rfl)
theorem g68 : Good Tryz.prog 68 c68 := good_of (C := C68) mx (table_ok tt_ok) TreeOk.nil Tryz.func68 q68
theorem n65 : Enters Tryz.prog 65 := enters_of Tryz.func65 (by kernel_rfl)
theorem g65 : Good Tryz.prog 65 c65 := good_of (C := C65) mx (table_ok tt_ok) (TreeOk.node (TreeOk.leaf ⟨g29, n29⟩) (TreeOk.leaf ⟨g68, n68⟩)) Tryz.func65 q65
theorem n152 : Enters Tryz.prog 152 := enters_of Tryz.func152 (by kernel_rfl)
theorem g152 : Good Tryz.prog 152 c152 := good_of (C := C152) mx (table_ok tt_ok) TreeOk.nil Tryz.func152 q152
theorem n69 : Enters Tryz.prog 69 := enters_of Tryz.func69 (by kernel_rfl)
theorem g69 : Good Tryz.prog 69 c69 := good_of (C := C69) mx (table_ok tt_ok) (TreeOk.leaf ⟨g152, n152⟩) Tryz.func69 q69
theorem n148 : Enters Tryz.prog 148 := enters_of Tryz.func148 (by kernel_rfl)
theorem g148 : Good Tryz.prog 148 c148 := good_of (C := C148) mx (table_ok tt_ok) (TreeOk.node (TreeOk.node (TreeOk.leaf ⟨g63, n63⟩) (TreeOk.leaf ⟨g64, n64⟩)) (TreeOk.node (TreeOk.leaf ⟨g65, n65⟩) (TreeOk.leaf ⟨g69, n69⟩))) Tryz.func148 q148
theorem n62 : Enters Tryz.prog 62 := enters_of Tryz.func62 (by kernel_rfl)
theorem g62 : Good Tryz.prog 62 c62 := good_of (C := C62) mx (table_ok tt_ok) (TreeOk.leaf ⟨g148, n148⟩) Tryz.func62 q62
theorem n150 : Enters Tryz.prog 150 := enters_of Tryz.func150 (by kernel_rfl)
theorem g150 : Good Tryz.prog 150 c150 := good_of (C := C150) mx (table_ok tt_ok) TreeOk.nil Tryz.func150 q150
theorem n66 : Enters Tryz.prog 66 := enters_of Tryz.func66 (by kernel_rfl)
theorem g66 : Good Tryz.prog 66 c66 := good_of (C := C66) mx (table_ok tt_ok) (TreeOk.leaf ⟨g150, n150⟩) Tryz.func66 q66
theorem n151 : Enters Tryz.prog 151 := enters_of Tryz.func151 (by kernel_rfl)
theorem g151 : Good Tryz.prog 151 c151 := good_of (C := C151) mx (table_ok tt_ok) TreeOk.nil Tryz.func151 q151
theorem n67 : Enters Tryz.prog 67 := enters_of Tryz.func67 (by kernel_rfl)
theorem g67 : Good Tryz.prog 67 c67 := good_of (C := C67) mx (table_ok tt_ok) (TreeOk.leaf ⟨g151, n151⟩) Tryz.func67 q67
theorem n12 : Enters Tryz.prog 12 := enters_of Tryz.func12 (by kernel_rfl)
theorem g12 : Good Tryz.prog 12 c12 := good_of (C := C12) mx (table_ok tt_ok) (TreeOk.node (TreeOk.leaf ⟨g62, n62⟩) (TreeOk.leaf ⟨g63, n63⟩)) Tryz.func12 q12
theorem n70 : Enters Tryz.prog 70 := enters_of Tryz.func70 (by kernel_rfl)
theorem g70 : Good Tryz.prog 70 c70 := good_of (C := C70) mx (table_ok tt_ok) (TreeOk.leaf ⟨g12, n12⟩) Tryz.func70 q70
theorem n13 : Enters Tryz.prog 13 := enters_of Tryz.func13 (by kernel_rfl)
theorem g13 : Good Tryz.prog 13 c13 := good_of (C := C13) mx (table_ok tt_ok) (TreeOk.node (TreeOk.node (TreeOk.node (TreeOk.leaf ⟨g28, n28⟩) (TreeOk.leaf ⟨g62, n62⟩)) (TreeOk.node (TreeOk.leaf ⟨g63, n63⟩) (TreeOk.node (TreeOk.leaf ⟨g64, n64⟩) (TreeOk.leaf ⟨g65, n65⟩)))) (TreeOk.node (TreeOk.node (TreeOk.leaf ⟨g66, n66⟩) (TreeOk.leaf ⟨g67, n67⟩)) (TreeOk.node (TreeOk.leaf ⟨g68, n68⟩) (TreeOk.node (TreeOk.leaf ⟨g69, n69⟩) (TreeOk.leaf ⟨g70, n70⟩))))) Tryz.func13 q13
theorem n92 : Enters Tryz.prog 92 := enters_of Tryz.func92 (by kernel_rfl)
theorem g92 : Good Tryz.prog 92 c92 := good_of (C := C92) mx (table_ok tt_ok) (TreeOk.leaf ⟨g13, n13⟩) Tryz.func92 q92
theorem n164 : Enters Tryz.prog 164 := enters_of Tryz.func164 (by kernel_rfl)
theorem g164 : Good Tryz.prog 164 c164 := good_of (C := C164) mx (table_ok tt_ok) TreeOk.nil Tryz.func164 q164
theorem n93 : Enters Tryz.prog 93 := enters_of Tryz.func93 (by kernel_rfl)
theorem g93 : Good Tryz.prog 93 c93 := good_of (C := C93) mx (table_ok tt_ok) (TreeOk.leaf ⟨g164, n164⟩) Tryz.func93 q93
theorem n165 : Enters Tryz.prog 165 := enters_of Tryz.func165 (by kernel_rfl)
theorem g165 : Good Tryz.prog 165 c165 := good_of (C := C165) mx (table_ok tt_ok) (TreeOk.node (TreeOk.node (TreeOk.leaf ⟨g62, n62⟩) (TreeOk.leaf ⟨g63, n63⟩)) (TreeOk.node (TreeOk.leaf ⟨g65, n65⟩) (TreeOk.node (TreeOk.leaf ⟨g150, n150⟩) (TreeOk.leaf ⟨g151, n151⟩)))) Tryz.func165 q165
theorem n94 : Enters Tryz.prog 94 := enters_of Tryz.func94 (by kernel_rfl)
theorem g94 : Good Tryz.prog 94 c94 := good_of (C := C94) mx (table_ok tt_ok) (TreeOk.leaf ⟨g165, n165⟩) Tryz.func94 q94
theorem n21 : Enters Tryz.prog 21 := enters_of Tryz.func21 (by kernel_rfl)
theorem g21 : Good Tryz.prog 21 c21 := good_of (C := C21) mx (table_ok tt_ok) (TreeOk.node (TreeOk.node (TreeOk.leaf ⟨g28, n28⟩) (TreeOk.node (TreeOk.leaf ⟨g29, n29⟩) (TreeOk.leaf ⟨g62, n62⟩))) (TreeOk.node (TreeOk.leaf ⟨g92, n92⟩) (TreeOk.node (TreeOk.leaf ⟨g93, n93⟩) (TreeOk.leaf ⟨g94, n94⟩)))) Tryz.func21 q21
theorem n110 : Enters Tryz.prog 110 := enters_of Tryz.func110 (by kernel_rfl)
theorem g110 : Good Tryz.prog 110 c110 := good_of (C := C110) mx (table_ok tt_ok) TreeOk.nil Tryz.func110 q110
theorem n179 : Enters Tryz.prog 179 := enters_of Tryz.func179 (by kernel_rfl)
theorem g179 : Good Tryz.prog 179 c179 := good_of (C := C179) mx (table_ok tt_ok) TreeOk.nil Tryz.func179 q179
theorem n109 : Enters Tryz.prog 109 := enters_of Tryz.func109 (by kernel_rfl)
theorem g109 : Good Tryz.prog 109 c109 := good_of (C := C109) mx (table_ok tt_ok) (TreeOk.node (TreeOk.leaf ⟨g110, n110⟩) (TreeOk.leaf ⟨g179, n179⟩)) Tryz.func109 q109
theorem n30 : Enters Tryz.prog 30 := enters_of Tryz.func30 (by kernel_rfl)
theorem g30 : Good Tryz.prog 30 c30 := good_of (C := C30) mx (table_ok tt_ok) (TreeOk.leaf ⟨g109, n109⟩) Tryz.func30 q30
theorem n31 : Enters Tryz.prog 31 := enters_of Tryz.func31 (by kernel_rfl)
theorem g31 : Good Tryz.prog 31 c31 := good_of (C := C31) mx (table_ok tt_ok) (TreeOk.leaf ⟨g110, n110⟩) Tryz.func31 q31
theorem n71 : Enters Tryz.prog 71 := enters_of Tryz.func71 (by kernel_rfl)
theorem g71 : Good Tryz.prog 71 c71 := good_of (C := C71) mx (table_ok tt_ok) (TreeOk.leaf ⟨g110, n110⟩) Tryz.func71 q71
theorem n77 : Enters Tryz.prog 77 := enters_of Tryz.func77 (by kernel_rfl)
theorem g77 : Good Tryz.prog 77 c77 := good_of (C := C77) mx (table_ok tt_ok) TreeOk.nil Tryz.func77 q77
theorem n78 : Enters Tryz.prog 78 := enters_of Tryz.func78 (by kernel_rfl)
theorem g78 : Good Tryz.prog 78 c78 := good_of (C := C78) mx (table_ok tt_ok) (TreeOk.leaf ⟨g110, n110⟩) Tryz.func78 q78
theorem n72 : Enters Tryz.prog 72 := enters_of Tryz.func72 (by kernel_rfl)
theorem g72 : Good Tryz.prog 72 c72 := good_of (C := C72) mx (table_ok tt_ok) (TreeOk.node (TreeOk.node (TreeOk.leaf ⟨g31, n31⟩) (TreeOk.leaf ⟨g71, n71⟩)) (TreeOk.node (TreeOk.leaf ⟨g77, n77⟩) (TreeOk.node (TreeOk.leaf ⟨g78, n78⟩) (TreeOk.leaf ⟨g110, n110⟩)))) Tryz.func72 q72
theorem n75 : Enters Tryz.prog 75 := enters_of Tryz.func75 (by kernel_rfl)
theorem g75 : Good Tryz.prog 75 c75 := good_of (C := C75) mx (table_ok tt_ok) (TreeOk.leaf ⟨g110, n110⟩) Tryz.func75 q75
theorem n76 : Enters Tryz.prog 76 := enters_of Tryz.func76 (by kernel_rfl)
theorem g76 : Good Tryz.prog 76 c76 := good_of (C := C76) mx (table_ok tt_ok) (TreeOk.leaf ⟨g110, n110⟩) Tryz.func76 q76
theorem n79 : Enters Tryz.prog 79 := enters_of Tryz.func79 (by kernel_rfl)
theorem g79 : Good Tryz.prog 79 c79 := good_of (C := C79) mx (table_ok tt_ok) (TreeOk.node (TreeOk.leaf ⟨g31, n31⟩) (TreeOk.leaf ⟨g72, n72⟩)) Tryz.func79 q79
theorem n111 : Enters Tryz.prog 111 := enters_of Tryz.func111 (by kernel_rfl)
theorem g111 : Good Tryz.prog 111 c111 := good_of (C := C111) mx (table_ok tt_ok) (TreeOk.node (TreeOk.node (TreeOk.node (TreeOk.leaf ⟨g31, n31⟩) (TreeOk.leaf ⟨g71, n71⟩)) (TreeOk.node (TreeOk.leaf ⟨g72, n72⟩) (TreeOk.node (TreeOk.leaf ⟨g75, n75⟩) (TreeOk.leaf ⟨g76, n76⟩)))) (TreeOk.node (TreeOk.node (TreeOk.leaf ⟨g77, n77⟩) (TreeOk.leaf ⟨g78, n78⟩)) (TreeOk.node (TreeOk.leaf ⟨g79, n79⟩) (TreeOk.node (TreeOk.leaf ⟨g109, n109⟩) (TreeOk.leaf ⟨g110, n110⟩))))) Tryz.func111 q111
theorem n112 : Enters Tryz.prog 112 := enters_of Tryz.func112 (by kernel_rfl)
theorem g112 : Good Tryz.prog 112 c112 := good_of (C := C112) mx (table_ok tt_ok) (TreeOk.leaf ⟨g110, n110⟩) Tryz.func112 q112
theorem n113 : Enters Tryz.prog 113 := enters_of Tryz.func113 (by kernel_rfl)
theorem g113 : Good Tryz.prog 113 c113 := good_of (C := C113) mx (table_ok tt_ok) (TreeOk.node (TreeOk.node (TreeOk.leaf ⟨g31, n31⟩) (TreeOk.leaf ⟨g72, n72⟩)) (TreeOk.node (TreeOk.leaf ⟨g77, n77⟩) (TreeOk.leaf ⟨g110, n110⟩))) Tryz.func113 q113
theorem n32 : Enters Tryz.prog 32 := enters_of Tryz.func32 (by kernel_rfl)
theorem g32 : Good Tryz.prog 32 c32 := good_of (C := C32) mx (table_ok tt_ok) (TreeOk.node (TreeOk.node (TreeOk.leaf ⟨g30, n30⟩) (TreeOk.node (TreeOk.leaf ⟨g31, n31⟩) (TreeOk.leaf ⟨g72, n72⟩))) (TreeOk.node (TreeOk.leaf ⟨g111, n111⟩) (TreeOk.node (TreeOk.leaf ⟨g112, n112⟩) (TreeOk.leaf ⟨g113, n113⟩)))) Tryz.func32 q32
theorem n213 : Enters Tryz.prog 213 := enters_of Tryz.func213 (by kernel_rfl)
theorem g213 : Good Tryz.prog 213 c213 := good_of (C := C213) mx (table_ok tt_ok) TreeOk.nil Tryz.func213 q213
theorem n180 : Enters Tryz.prog 180 := enters_of Tryz.func180 (by kernel_rfl)
theorem g180 : Good Tryz.prog 180 c180 := good_of (C := C180) mx (table_ok tt_ok) (TreeOk.node (TreeOk.leaf ⟨g110, n110⟩) (TreeOk.leaf ⟨g213, n213⟩)) Tryz.func180 q180
theorem n114 : Enters Tryz.prog 114 := enters_of Tryz.func114 (by kernel_rfl)
theorem g114 : Good Tryz.prog 114 c114 := good_of (C := C114) mx (table_ok tt_ok) (TreeOk.leaf ⟨g180, n180⟩) Tryz.func114 q114
theorem n115 : Enters Tryz.prog 115 := enters_of Tryz.func115 (by kernel_rfl)
theorem g115 : Good Tryz.prog 115 c115 := good_of (C := C115) mx (table_ok tt_ok) (TreeOk.leaf ⟨g110, n110⟩) Tryz.func115 q115
theorem n123 : Enters Tryz.prog 123 := enters_of Tryz.func123 (by kernel_rfl)
theorem g123 : Good Tryz.prog 123 c123 := good_of (C := C123) mx (table_ok tt_ok) (TreeOk.leaf ⟨g110, n110⟩) Tryz.func123 q123
theorem n153 : Enters Tryz.prog 153 := enters_of Tryz.func153 (by kernel_rfl)
theorem g153 : Good Tryz.prog 153 c153 := good_of (C := C153) mx (table_ok tt_ok) TreeOk.nil Tryz.func153 q153
theorem n154 : Enters Tryz.prog 154 := enters_of Tryz.func154 (by kernel_rfl)
theorem g154 : Good Tryz.prog 154 c154 := good_of (C := C154) mx (table_ok tt_ok) (TreeOk.leaf ⟨g110, n110⟩) Tryz.func154 q154
theorem n80 : Enters Tryz.prog 80 := enters_of Tryz.func80 (by kernel_rfl)
theorem g80 : Good Tryz.prog 80 c80 := good_of (C := C80) mx (table_ok tt_ok) (TreeOk.node (TreeOk.node (TreeOk.leaf ⟨g110, n110⟩) (TreeOk.leaf ⟨g115, n115⟩)) (TreeOk.node (TreeOk.leaf ⟨g123, n123⟩) (TreeOk.node (TreeOk.leaf ⟨g153, n153⟩) (TreeOk.leaf ⟨g154, n154⟩)))) Tryz.func80 q80
theorem n181 : Enters Tryz.prog 181 := enters_of Tryz.func181 (by kernel_rfl)
theorem g181 : Good Tryz.prog 181 c181 := good_of (C := C181) mx (table_ok tt_ok) (TreeOk.leaf ⟨g110, n110⟩) Tryz.func181 q181
theorem n182 : Enters Tryz.prog 182 := enters_of Tryz.func182 (by kernel_rfl)
theorem g182 : Good Tryz.prog 182 c182 := good_of (C := C182) mx (table_ok tt_ok) (TreeOk.leaf ⟨g110, n110⟩) Tryz.func182 q182
theorem n183 : Enters Tryz.prog 183 := enters_of Tryz.func183 (by kernel_rfl)
theorem g183 : Good Tryz.prog 183 c183 := good_of (C := C183) mx (table_ok tt_ok) (TreeOk.node (TreeOk.leaf ⟨g80, n80⟩) (TreeOk.leaf ⟨g115, n115⟩)) Tryz.func183 q183
theorem n116 : Enters Tryz.prog 116 := enters_of Tryz.func116 (by kernel_rfl)
theorem g116 : Good Tryz.prog 116 c116 := good_of (C := C116) mx (table_ok tt_ok) (TreeOk.node (TreeOk.node (TreeOk.node (TreeOk.leaf ⟨g80, n80⟩) (TreeOk.leaf ⟨g110, n110⟩)) (TreeOk.node (TreeOk.leaf ⟨g115, n115⟩) (TreeOk.node (TreeOk.leaf ⟨g123, n123⟩) (TreeOk.leaf ⟨g153, n153⟩)))) (TreeOk.node (TreeOk.node (TreeOk.leaf ⟨g154, n154⟩) (TreeOk.leaf ⟨g180, n180⟩)) (TreeOk.node (TreeOk.leaf ⟨g181, n181⟩) (TreeOk.node (TreeOk.leaf ⟨g182, n182⟩) (TreeOk.leaf ⟨g183, n183⟩))))) Tryz.func116 q116
theorem n117 : Enters Tryz.prog 117 := enters_of Tryz.func117 (by kernel_rfl)
theorem g117 : Good Tryz.prog 117 c117 := good_of (C := C117) mx (table_ok tt_ok) (TreeOk.leaf ⟨g110, n110⟩) Tryz.func117 q117
theorem n118 : Enters Tryz.prog 118 := enters_of Tryz.func118 (by kernel_rfl)
theorem g118 : Good Tryz.prog 118 c118 := good_of (C := C118) mx (table_ok tt_ok) (TreeOk.node (TreeOk.node (TreeOk.leaf ⟨g80, n80⟩) (TreeOk.leaf ⟨g110, n110⟩)) (TreeOk.node (TreeOk.leaf ⟨g115, n115⟩) (TreeOk.leaf ⟨g153, n153⟩))) Tryz.func118 q118
theorem n33 : Enters Tryz.prog 33 := enters_of Tryz.func33 (by kernel_rfl)
theorem g33 : Good Tryz.prog 33 c33 := good_of (C := C33) mx (table_ok tt_ok) (TreeOk.node (TreeOk.node (TreeOk.leaf ⟨g80, n80⟩) (TreeOk.node (TreeOk.leaf ⟨g114, n114⟩) (TreeOk.leaf ⟨g115, n115⟩))) (TreeOk.node (TreeOk.leaf ⟨g116, n116⟩) (TreeOk.node (TreeOk.leaf ⟨g117, n117⟩) (TreeOk.leaf ⟨g118, n118⟩)))) Tryz.func33 q33
theorem n5 : Enters Tryz.prog 5 := enters_of Tryz.func5 (by kernel_rfl)
theorem g5 : Good Tryz.prog 5 c5 := good_of (C := C5) mx (table_ok tt_ok) (TreeOk.node (TreeOk.node (TreeOk.node (TreeOk.leaf ⟨g21, n21⟩) (TreeOk.node (TreeOk.leaf ⟨g22, n22⟩) (TreeOk.leaf ⟨g23, n23⟩))) (TreeOk.node (TreeOk.leaf ⟨g24, n24⟩) (TreeOk.node (TreeOk.leaf ⟨g25, n25⟩) (TreeOk.leaf ⟨g26, n26⟩)))) (TreeOk.node (TreeOk.node (TreeOk.leaf ⟨g27, n27⟩) (TreeOk.node (TreeOk.leaf ⟨g28, n28⟩) (TreeOk.leaf ⟨g29, n29⟩))) (TreeOk.node (TreeOk.node (TreeOk.leaf ⟨g30, n30⟩) (TreeOk.leaf ⟨g31, n31⟩)) (TreeOk.node (TreeOk.leaf ⟨g32, n32⟩) (TreeOk.leaf ⟨g33, n33⟩))))) Tryz.func5 q5
end Go.Proofs.YtphaibffjdfhpaaGreat
