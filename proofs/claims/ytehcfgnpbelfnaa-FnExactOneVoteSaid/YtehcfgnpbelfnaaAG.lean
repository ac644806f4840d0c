/- Each function does as its contract says. Conditions: none. -/

import Derived.Test.YtehcfgnpbelfnaaTm3
import Derived.Test.YtehcfgnpbelfnaaAF
namespace Go.Proofs.Ytehcfgnpbelfnaa
open Go Go.Tm
set_option linter.unusedVariables false
set_option maxRecDepth 100000
theorem mx : Try.prog.follows .mixedOrders = true := by kernel_rfl
theorem n116 : Enters Try.prog 116 := enters_of Try.func116 (by kernel_rfl)
theorem g116 : Good Try.prog 116 c116 := good_of (C := C116) mx (table_ok tt_ok) TreeOk.nil Try.func116 q116
theorem n78 : Enters Try.prog 78 := enters_of Try.func78 (by kernel_rfl)
theorem g78 : Good Try.prog 78 c78 := good_of (C := C78) mx (table_ok tt_ok) (TreeOk.leaf ⟨g116, n116⟩) Try.func78 q78
theorem n34 : Enters Try.prog 34 := enters_of Try.func34 (by kernel_rfl)
theorem g34 : Good Try.prog 34 c34 := good_of (C := C34) mx (table_ok tt_ok) (TreeOk.leaf ⟨g78, n78⟩) Try.func34 q34
theorem n8 : Enters Try.prog 8 := enters_of Try.func8 (by kernel_rfl)
theorem g8 : Good Try.prog 8 c8 := good_of (C := C8) mx (table_ok tt_ok) (TreeOk.leaf ⟨g34, n34⟩) Try.func8 q8
theorem n66 : Enters Try.prog 66 := enters_of Try.func66 (by kernel_rfl)
theorem g66 : Good Try.prog 66 c66 := good_of (C := C66) mx (table_ok tt_ok) TreeOk.nil Try.func66 q66
theorem n88 : Enters Try.prog 88 := enters_of Try.func88 (by kernel_rfl)
theorem g88 : Good Try.prog 88 c88 := good_of (C := C88) mx (table_ok tt_ok) TreeOk.nil Try.func88 q88
theorem n45 : Enters Try.prog 45 := enters_of Try.func45 (by kernel_rfl)
theorem g45 : Good Try.prog 45 c45 := good_of (C := C45) mx (table_ok tt_ok) (TreeOk.leaf ⟨g88, n88⟩) Try.func45 q45
theorem n47 : Enters Try.prog 47 := enters_of Try.func47 (by kernel_rfl)
theorem g47 : Good Try.prog 47 c47 := good_of (C := C47) mx (table_ok tt_ok) (TreeOk.leaf ⟨g66, n66⟩) Try.func47 q47
theorem n144 : Enters Try.prog 144 := enters_of Try.func144 (by kernel_rfl)
theorem g144 : Good Try.prog 144 c144 := good_of (C := C144) mx (table_ok tt_ok) TreeOk.nil Try.func144 q144
theorem n123 : Enters Try.prog 123 := enters_of Try.func123 (by kernel_rfl)
theorem g123 : Good Try.prog 123 c123 := good_of (C := C123) mx (table_ok tt_ok) (TreeOk.node (TreeOk.leaf ⟨g66, n66⟩) (TreeOk.leaf ⟨g144, n144⟩)) Try.func123 q123
theorem n164 : Enters Try.prog 164 := enters_of Try.func164 (by kernel_rfl)
theorem g164 : Good Try.prog 164 c164 := good_of (C := C164) mx (table_ok tt_ok) TreeOk.nil Try.func164 q164
theorem n124 : Enters Try.prog 124 := enters_of Try.func124 (by kernel_rfl)
theorem g124 : Good Try.prog 124 c124 := good_of (C := C124) mx (table_ok tt_ok) (TreeOk.leaf ⟨g164, n164⟩) Try.func124 q124
theorem n89 : Enters Try.prog 89 := enters_of Try.func89 (by kernel_rfl)
theorem g89 : Good Try.prog 89 c89 := good_of (C := C89) mx (table_ok tt_ok) (TreeOk.node (TreeOk.node (TreeOk.leaf ⟨g45, n45⟩) (TreeOk.leaf ⟨g47, n47⟩)) (TreeOk.node (TreeOk.leaf ⟨g123, n123⟩) (TreeOk.leaf ⟨g124, n124⟩))) Try.func89 q89
theorem n46 : Enters Try.prog 46 := enters_of Try.func46 (by kernel_rfl)
theorem g46 : Good Try.prog 46 c46 := good_of (C := C46) mx (table_ok tt_ok) (TreeOk.leaf ⟨g89, n89⟩) Try.func46 q46
theorem n146 : Enters Try.prog 146 := enters_of Try.func146 (by kernel_rfl)
theorem g146 : Good Try.prog 146 c146 := good_of (C := C146) mx (table_ok tt_ok) TreeOk.nil Try.func146 q146
theorem n142 : Enters Try.prog 142 := enters_of Try.func142 (by kernel_rfl)
theorem g142 : Good Try.prog 142 c142 := good_of (C := C142) mx (table_ok tt_ok) (TreeOk.leaf ⟨g146, n146⟩) Try.func142 q142
theorem n147 : Enters Try.prog 147 := enters_of Try.func147 (by kernel_rfl)
theorem g147 : Good Try.prog 147 c147 := good_of (C := C147) mx (table_ok tt_ok) TreeOk.nil Try.func147 q147
theorem n143 : Enters Try.prog 143 := enters_of Try.func143 (by kernel_rfl)
theorem g143 : Good Try.prog 143 c143 := good_of (C := C143) mx (table_ok tt_ok) (TreeOk.leaf ⟨g147, n147⟩) Try.func143 q143
theorem n18 : Enters Try.prog 18 := enters_of Try.func18 (by kernel_rfl)
theorem g18 : Good Try.prog 18 c18 := good_of (C := C18) mx (table_ok tt_ok) (TreeOk.node (TreeOk.leaf ⟨g46, n46⟩) (TreeOk.leaf ⟨g47, n47⟩)) Try.func18 q18
theorem n145 : Enters Try.prog 145 := enters_of Try.func145 (by kernel_rfl)
theorem g145 : Good Try.prog 145 c145 := good_of (C := C145) mx (table_ok tt_ok) (TreeOk.leaf ⟨g18, n18⟩) Try.func145 q145
theorem n107 : Enters Try.prog 107 := enters_of Try.func107 (by kernel_rfl)
theorem g107 : Good Try.prog 107 c107 := good_of (C := C107) mx (table_ok tt_ok) (TreeOk.node (TreeOk.node (TreeOk.node (TreeOk.leaf ⟨g8, n8⟩) (TreeOk.leaf ⟨g45, n45⟩)) (TreeOk.node (TreeOk.leaf ⟨g46, n46⟩) (TreeOk.node (TreeOk.leaf ⟨g47, n47⟩) (TreeOk.leaf ⟨g123, n123⟩)))) (TreeOk.node (TreeOk.node (TreeOk.leaf ⟨g124, n124⟩) (TreeOk.leaf ⟨g142, n142⟩)) (TreeOk.node (TreeOk.leaf ⟨g143, n143⟩) (TreeOk.node (TreeOk.leaf ⟨g144, n144⟩) (TreeOk.leaf ⟨g145, n145⟩))))) Try.func107 q107
theorem n67 : Enters Try.prog 67 := enters_of Try.func67 (by kernel_rfl)
theorem g67 : Good Try.prog 67 c67 := good_of (C := C67) mx (table_ok tt_ok) (TreeOk.leaf ⟨g107, n107⟩) Try.func67 q67
theorem n108 : Enters Try.prog 108 := enters_of Try.func108 (by kernel_rfl)
theorem g108 : Good Try.prog 108 c108 := good_of (C := C108) mx (table_ok tt_ok) TreeOk.nil Try.func108 q108
theorem n68 : Enters Try.prog 68 := enters_of Try.func68 (by kernel_rfl)
theorem g68 : Good Try.prog 68 c68 := good_of (C := C68) mx (table_ok tt_ok) (TreeOk.leaf ⟨g108, n108⟩) Try.func68 q68
theorem n109 : Enters Try.prog 109 := enters_of Try.func109 (by kernel_rfl)
theorem g109 : Good Try.prog 109 c109 := good_of (C := C109) mx (table_ok tt_ok) (TreeOk.node (TreeOk.node (TreeOk.leaf ⟨g46, n46⟩) (TreeOk.leaf ⟨g47, n47⟩)) (TreeOk.node (TreeOk.leaf ⟨g123, n123⟩) (TreeOk.node (TreeOk.leaf ⟨g146, n146⟩) (TreeOk.leaf ⟨g147, n147⟩)))) Try.func109 q109
theorem n69 : Enters Try.prog 69 := enters_of Try.func69 (by kernel_rfl)
theorem g69 : Good Try.prog 69 c69 := good_of (C := C69) mx (table_ok tt_ok) (TreeOk.leaf ⟨g109, n109⟩) Try.func69 q69
theorem n25 : Enters Try.prog 25 := enters_of Try.func25 (by kernel_rfl)
theorem g25 : Good Try.prog 25 c25 := good_of (C := C25) mx (table_ok tt_ok) (TreeOk.node (TreeOk.node (TreeOk.leaf ⟨g8, n8⟩) (TreeOk.node (TreeOk.leaf ⟨g46, n46⟩) (TreeOk.leaf ⟨g66, n66⟩))) (TreeOk.node (TreeOk.leaf ⟨g67, n67⟩) (TreeOk.node (TreeOk.leaf ⟨g68, n68⟩) (TreeOk.leaf ⟨g69, n69⟩)))) Try.func25 q25
theorem n161 : Enters Try.prog 161 := enters_of Try.func161 (by kernel_rfl)
theorem g161 : Good Try.prog 161 c161 := good_of (C := C161) mx (table_ok tt_ok) TreeOk.nil Try.func161 q161
theorem n119 : Enters Try.prog 119 := enters_of Try.func119 (by kernel_rfl)
theorem g119 : Good Try.prog 119 c119 := good_of (C := C119) mx (table_ok tt_ok) (TreeOk.leaf ⟨g161, n161⟩) Try.func119 q119
theorem n81 : Enters Try.prog 81 := enters_of Try.func81 (by kernel_rfl)
theorem g81 : Good Try.prog 81 c81 := good_of (C := C81) mx (table_ok tt_ok) (TreeOk.leaf ⟨g119, n119⟩) Try.func81 q81
theorem n37 : Enters Try.prog 37 := enters_of Try.func37 (by kernel_rfl)
theorem g37 : Good Try.prog 37 c37 := good_of (C := C37) mx (table_ok tt_ok) (TreeOk.leaf ⟨g81, n81⟩) Try.func37 q37
theorem n10 : Enters Try.prog 10 := enters_of Try.func10 (by kernel_rfl)
theorem g10 : Good Try.prog 10 c10 := good_of (C := C10) mx (table_ok tt_ok) (TreeOk.leaf ⟨g37, n37⟩) Try.func10 q10
theorem n70 : Enters Try.prog 70 := enters_of Try.func70 (by kernel_rfl)
theorem g70 : Good Try.prog 70 c70 := good_of (C := C70) mx (table_ok tt_ok) TreeOk.nil Try.func70 q70
theorem n95 : Enters Try.prog 95 := enters_of Try.func95 (by kernel_rfl)
theorem g95 : Good Try.prog 95 c95 := good_of (C := C95) mx (table_ok tt_ok) TreeOk.nil Try.func95 q95
theorem n52 : Enters Try.prog 52 := enters_of Try.func52 (by kernel_rfl)
theorem g52 : Good Try.prog 52 c52 := good_of (C := C52) mx (table_ok tt_ok) (TreeOk.leaf ⟨g95, n95⟩) Try.func52 q52
theorem n54 : Enters Try.prog 54 := enters_of Try.func54 (by kernel_rfl)
theorem g54 : Good Try.prog 54 c54 := good_of (C := C54) mx (table_ok tt_ok) (TreeOk.leaf ⟨g70, n70⟩) Try.func54 q54
theorem n150 : Enters Try.prog 150 := enters_of Try.func150 (by kernel_rfl)
theorem g150 : Good Try.prog 150 c150 := good_of (C := C150) mx (table_ok tt_ok) TreeOk.nil Try.func150 q150
theorem n132 : Enters Try.prog 132 := enters_of Try.func132 (by kernel_rfl)
theorem g132 : Good Try.prog 132 c132 := good_of (C := C132) mx (table_ok tt_ok) (TreeOk.node (TreeOk.leaf ⟨g70, n70⟩) (TreeOk.leaf ⟨g150, n150⟩)) Try.func132 q132
theorem n167 : Enters Try.prog 167 := enters_of Try.func167 (by kernel_rfl)
theorem g167 : Good Try.prog 167 c167 := good_of (C := C167) mx (table_ok tt_ok) TreeOk.nil Try.func167 q167
theorem n133 : Enters Try.prog 133 := enters_of Try.func133 (by kernel_rfl)
theorem g133 : Good Try.prog 133 c133 := good_of (C := C133) mx (table_ok tt_ok) (TreeOk.leaf ⟨g167, n167⟩) Try.func133 q133
theorem n96 : Enters Try.prog 96 := enters_of Try.func96 (by kernel_rfl)
theorem g96 : Good Try.prog 96 c96 := good_of (C := C96) mx (table_ok tt_ok) (TreeOk.node (TreeOk.node (TreeOk.leaf ⟨g52, n52⟩) (TreeOk.leaf ⟨g54, n54⟩)) (TreeOk.node (TreeOk.leaf ⟨g132, n132⟩) (TreeOk.leaf ⟨g133, n133⟩))) Try.func96 q96
theorem n53 : Enters Try.prog 53 := enters_of Try.func53 (by kernel_rfl)
theorem g53 : Good Try.prog 53 c53 := good_of (C := C53) mx (table_ok tt_ok) (TreeOk.leaf ⟨g96, n96⟩) Try.func53 q53
theorem n152 : Enters Try.prog 152 := enters_of Try.func152 (by kernel_rfl)
theorem g152 : Good Try.prog 152 c152 := good_of (C := C152) mx (table_ok tt_ok) TreeOk.nil Try.func152 q152
theorem n148 : Enters Try.prog 148 := enters_of Try.func148 (by kernel_rfl)
theorem g148 : Good Try.prog 148 c148 := good_of (C := C148) mx (table_ok tt_ok) (TreeOk.leaf ⟨g152, n152⟩) Try.func148 q148
theorem n153 : Enters Try.prog 153 := enters_of Try.func153 (by kernel_rfl)
theorem g153 : Good Try.prog 153 c153 := good_of (C := C153) mx (table_ok tt_ok) TreeOk.nil Try.func153 q153
theorem n149 : Enters Try.prog 149 := enters_of Try.func149 (by kernel_rfl)
theorem g149 : Good Try.prog 149 c149 := good_of (C := C149) mx (table_ok tt_ok) (TreeOk.leaf ⟨g153, n153⟩) Try.func149 q149
theorem n21 : Enters Try.prog 21 := enters_of Try.func21 (by kernel_rfl)
theorem g21 : Good Try.prog 21 c21 := good_of (C := C21) mx (table_ok tt_ok) (TreeOk.node (TreeOk.leaf ⟨g53, n53⟩) (TreeOk.leaf ⟨g54, n54⟩)) Try.func21 q21
theorem n151 : Enters Try.prog 151 := enters_of Try.func151 (by kernel_rfl)
theorem g151 : Good Try.prog 151 c151 := good_of (C := C151) mx (table_ok tt_ok) (TreeOk.leaf ⟨g21, n21⟩) Try.func151 q151
theorem n110 : Enters Try.prog 110 := enters_of Try.func110 (by kernel_rfl)
theorem g110 : Good Try.prog 110 c110 := good_of (C := C110) mx (table_ok tt_ok) (TreeOk.node (TreeOk.node (TreeOk.node (TreeOk.leaf ⟨g10, n10⟩) (TreeOk.leaf ⟨g52, n52⟩)) (TreeOk.node (TreeOk.leaf ⟨g53, n53⟩) (TreeOk.node (TreeOk.leaf ⟨g54, n54⟩) (TreeOk.leaf ⟨g132, n132⟩)))) (TreeOk.node (TreeOk.node (TreeOk.leaf ⟨g133, n133⟩) (TreeOk.leaf ⟨g148, n148⟩)) (TreeOk.node (TreeOk.leaf ⟨g149, n149⟩) (TreeOk.node (TreeOk.leaf ⟨g150, n150⟩) (TreeOk.leaf ⟨g151, n151⟩))))) Try.func110 q110
theorem n71 : Enters Try.prog 71 := enters_of Try.func71 (by kernel_rfl)
theorem g71 : Good Try.prog 71 c71 := good_of (C := C71) mx (table_ok tt_ok) (TreeOk.leaf ⟨g110, n110⟩) Try.func71 q71
theorem n111 : Enters Try.prog 111 := enters_of Try.func111 (by kernel_rfl)
theorem g111 : Good Try.prog 111 c111 := good_of (C := C111) mx (table_ok tt_ok) TreeOk.nil Try.func111 q111
theorem n72 : Enters Try.prog 72 := enters_of Try.func72 (by kernel_rfl)
theorem g72 : Good Try.prog 72 c72 := good_of (C := C72) mx (table_ok tt_ok) (TreeOk.leaf ⟨g111, n111⟩) Try.func72 q72
theorem n112 : Enters Try.prog 112 := enters_of Try.func112 (by kernel_rfl)
theorem g112 : Good Try.prog 112 c112 := good_of (C := C112) mx (table_ok tt_ok) (TreeOk.node (TreeOk.node (TreeOk.leaf ⟨g53, n53⟩) (TreeOk.leaf ⟨g54, n54⟩)) (TreeOk.node (TreeOk.leaf ⟨g132, n132⟩) (TreeOk.node (TreeOk.leaf ⟨g152, n152⟩) (TreeOk.leaf ⟨g153, n153⟩)))) Try.func112 q112
theorem n73 : Enters Try.prog 73 := enters_of Try.func73 (by kernel_rfl)
theorem g73 : Good Try.prog 73 c73 := good_of (C := C73) mx (table_ok tt_ok) (TreeOk.leaf ⟨g112, n112⟩) Try.func73 q73
theorem n27 : Enters Try.prog 27 := enters_of Try.func27 (by kernel_rfl)
theorem g27 : Good Try.prog 27 c27 := good_of (C := C27) mx (table_ok tt_ok) (TreeOk.node (TreeOk.node (TreeOk.leaf ⟨g10, n10⟩) (TreeOk.node (TreeOk.leaf ⟨g53, n53⟩) (TreeOk.leaf ⟨g70, n70⟩))) (TreeOk.node (TreeOk.leaf ⟨g71, n71⟩) (TreeOk.node (TreeOk.leaf ⟨g72, n72⟩) (TreeOk.leaf ⟨g73, n73⟩)))) Try.func27 q27
theorem n26 : Enters Try.prog 26 := enters_of Try.func26 (by kernel_rfl)
theorem g26 : Good Try.prog 26 c26 := good_of (C := C26) mx (table_ok tt_ok) TreeOk.nil Try.func26 q26
theorem n28 : Enters Try.prog 28 := enters_of Try.func28 (by kernel_rfl)
theorem g28 : Good Try.prog 28 c28 := good_of (C := C28) mx (table_ok tt_ok) TreeOk.nil Try.func28 q28
theorem n163 : Enters Try.prog 163 := enters_of Try.func163 (by kernel_rfl)
theorem g163 : Good Try.prog 163 c163 := good_of (C := C163) mx (table_ok tt_ok) TreeOk.nil Try.func163 q163
theorem n122 : Enters Try.prog 122 := enters_of Try.func122 (by kernel_rfl)
theorem g122 : Good Try.prog 122 c122 := good_of (C := C122) mx (table_ok tt_ok) (TreeOk.leaf ⟨g163, n163⟩) Try.func122 q122
theorem n85 : Enters Try.prog 85 := enters_of Try.func85 (by kernel_rfl)
theorem g85 : Good Try.prog 85 c85 := good_of (C := C85) mx (table_ok tt_ok) (TreeOk.leaf ⟨g122, n122⟩) Try.func85 q85
theorem n41 : Enters Try.prog 41 := enters_of Try.func41 (by kernel_rfl)
theorem g41 : Good Try.prog 41 c41 := good_of (C := C41) mx (table_ok tt_ok) (TreeOk.leaf ⟨g85, n85⟩) Try.func41 q41
theorem n13 : Enters Try.prog 13 := enters_of Try.func13 (by kernel_rfl)
theorem g13 : Good Try.prog 13 c13 := good_of (C := C13) mx (table_ok tt_ok) (TreeOk.leaf ⟨g41, n41⟩) Try.func13 q13
theorem n74 : Enters Try.prog 74 := enters_of Try.func74 (by kernel_rfl)
theorem g74 : Good Try.prog 74 c74 := good_of (C := C74) mx (table_ok tt_ok) TreeOk.nil Try.func74 q74
theorem n84 : Enters Try.prog 84 := enters_of Try.func84 (by kernel_rfl)
theorem g84 : Good Try.prog 84 c84 := good_of (C := C84) mx (table_ok tt_ok) TreeOk.nil Try.func84 q84
theorem n40 : Enters Try.prog 40 := enters_of Try.func40 (by kernel_rfl)
theorem g40 : Good Try.prog 40 c40 := good_of (C := C40) mx (table_ok tt_ok) (TreeOk.leaf ⟨g84, n84⟩) Try.func40 q40
theorem n63 : Enters Try.prog 63 := enters_of Try.func63 (by kernel_rfl)
theorem g63 : Good Try.prog 63 c63 := good_of (C := C63) mx (table_ok tt_ok) (TreeOk.leaf ⟨g74, n74⟩) Try.func63 q63
theorem n156 : Enters Try.prog 156 := enters_of Try.func156 (by kernel_rfl)
theorem g156 : Good Try.prog 156 c156 := good_of (C := C156) mx (table_ok tt_ok) TreeOk.nil Try.func156 q156
theorem n140 : Enters Try.prog 140 := enters_of Try.func140 (by kernel_rfl)
theorem g140 : Good Try.prog 140 c140 := good_of (C := C140) mx (table_ok tt_ok) (TreeOk.node (TreeOk.leaf ⟨g74, n74⟩) (TreeOk.leaf ⟨g156, n156⟩)) Try.func140 q140
theorem n173 : Enters Try.prog 173 := enters_of Try.func173 (by kernel_rfl)
theorem g173 : Good Try.prog 173 c173 := good_of (C := C173) mx (table_ok tt_ok) TreeOk.nil Try.func173 q173
theorem n141 : Enters Try.prog 141 := enters_of Try.func141 (by kernel_rfl)
theorem g141 : Good Try.prog 141 c141 := good_of (C := C141) mx (table_ok tt_ok) (TreeOk.leaf ⟨g173, n173⟩) Try.func141 q141
theorem n103 : Enters Try.prog 103 := enters_of Try.func103 (by kernel_rfl)
theorem g103 : Good Try.prog 103 c103 := good_of (C := C103) mx (table_ok tt_ok) (TreeOk.node (TreeOk.node (TreeOk.leaf ⟨g40, n40⟩) (TreeOk.leaf ⟨g63, n63⟩)) (TreeOk.node (TreeOk.leaf ⟨g140, n140⟩) (TreeOk.leaf ⟨g141, n141⟩))) Try.func103 q103
theorem n62 : Enters Try.prog 62 := enters_of Try.func62 (by kernel_rfl)
theorem g62 : Good Try.prog 62 c62 := good_of (C := C62) mx (table_ok tt_ok) (TreeOk.leaf ⟨g103, n103⟩) Try.func62 q62
theorem n158 : Enters Try.prog 158 := enters_of Try.func158 (by kernel_rfl)
theorem g158 : Good Try.prog 158 c158 := good_of (C := C158) mx (table_ok tt_ok) TreeOk.nil Try.func158 q158
theorem n154 : Enters Try.prog 154 := enters_of Try.func154 (by kernel_rfl)
theorem g154 : Good Try.prog 154 c154 := good_of (C := C154) mx (table_ok tt_ok) (TreeOk.leaf ⟨g158, n158⟩) Try.func154 q154
theorem n159 : Enters Try.prog 159 := enters_of Try.func159 (by kernel_rfl)
theorem g159 : Good Try.prog 159 c159 := good_of (C := C159) mx (table_ok tt_ok) TreeOk.nil Try.func159 q159
theorem n155 : Enters Try.prog 155 := enters_of Try.func155 (by kernel_rfl)
theorem g155 : Good Try.prog 155 c155 := good_of (C := C155) mx (table_ok tt_ok) (TreeOk.leaf ⟨g159, n159⟩) Try.func155 q155
theorem n23 : Enters Try.prog 23 := enters_of Try.func23 (by kernel_rfl)
theorem g23 : Good Try.prog 23 c23 := good_of (C := C23) mx (table_ok tt_ok) (TreeOk.node (TreeOk.leaf ⟨g62, n62⟩) (TreeOk.leaf ⟨g63, n63⟩)) Try.func23 q23
theorem n157 : Enters Try.prog 157 := enters_of Try.func157 (by kernel_rfl)
theorem g157 : Good Try.prog 157 c157 := good_of (C := C157) mx (table_ok tt_ok) (TreeOk.leaf ⟨g23, n23⟩) Try.func157 q157
theorem n113 : Enters Try.prog 113 := enters_of Try.func113 (by kernel_rfl)
theorem g113 : Good Try.prog 113 c113 := good_of (C := C113) mx (table_ok tt_ok) (TreeOk.node (TreeOk.node (TreeOk.node (TreeOk.leaf ⟨g13, n13⟩) (TreeOk.leaf ⟨g40, n40⟩)) (TreeOk.node (TreeOk.leaf ⟨g62, n62⟩) (TreeOk.node (TreeOk.leaf ⟨g63, n63⟩) (TreeOk.leaf ⟨g140, n140⟩)))) (TreeOk.node (TreeOk.node (TreeOk.leaf ⟨g141, n141⟩) (TreeOk.leaf ⟨g154, n154⟩)) (TreeOk.node (TreeOk.leaf ⟨g155, n155⟩) (TreeOk.node (TreeOk.leaf ⟨g156, n156⟩) (TreeOk.leaf ⟨g157, n157⟩))))) Try.func113 q113
theorem n75 : Enters Try.prog 75 := enters_of Try.func75 (by kernel_rfl)
theorem g75 : Good Try.prog 75 c75 := good_of (C := C75) mx (table_ok tt_ok) (TreeOk.leaf ⟨g113, n113⟩) Try.func75 q75
theorem n114 : Enters Try.prog 114 := enters_of Try.func114 (by kernel_rfl)
theorem g114 : Good Try.prog 114 c114 := good_of (C := C114) mx (table_ok tt_ok) TreeOk.nil Try.func114 q114
theorem n76 : Enters Try.prog 76 := enters_of Try.func76 (by kernel_rfl)
theorem g76 : Good Try.prog 76 c76 := good_of (C := C76) mx (table_ok tt_ok) (TreeOk.leaf ⟨g114, n114⟩) Try.func76 q76
theorem n115 : Enters Try.prog 115 := enters_of Try.func115 (by kernel_rfl)
theorem g115 : Good Try.prog 115 c115 := good_of (C := C115) mx (table_ok tt_ok) (TreeOk.node (TreeOk.node (TreeOk.leaf ⟨g62, n62⟩) (TreeOk.leaf ⟨g63, n63⟩)) (TreeOk.node (TreeOk.leaf ⟨g140, n140⟩) (TreeOk.node (TreeOk.leaf ⟨g158, n158⟩) (TreeOk.leaf ⟨g159, n159⟩)))) Try.func115 q115
theorem n77 : Enters Try.prog 77 := enters_of Try.func77 (by kernel_rfl)
theorem g77 : Good Try.prog 77 c77 := good_of (C := C77) mx (table_ok tt_ok) (TreeOk.leaf ⟨g115, n115⟩) Try.func77 q77
theorem n29 : Enters Try.prog 29 := enters_of Try.func29 (by kernel_rfl)
theorem g29 : Good Try.prog 29 c29 := good_of (C := C29) mx (table_ok tt_ok) (TreeOk.node (TreeOk.node (TreeOk.leaf ⟨g13, n13⟩) (TreeOk.node (TreeOk.leaf ⟨g62, n62⟩) (TreeOk.leaf ⟨g74, n74⟩))) (TreeOk.node (TreeOk.leaf ⟨g75, n75⟩) (TreeOk.node (TreeOk.leaf ⟨g76, n76⟩) (TreeOk.leaf ⟨g77, n77⟩)))) Try.func29 q29
theorem n5 : Enters Try.prog 5 := enters_of Try.func5 (by kernel_rfl)
theorem g5 : Good Try.prog 5 c5 := good_of (C := C5) mx (table_ok tt_ok) (TreeOk.node (TreeOk.node (TreeOk.leaf ⟨g25, n25⟩) (TreeOk.leaf ⟨g26, n26⟩)) (TreeOk.node (TreeOk.leaf ⟨g27, n27⟩) (TreeOk.node (TreeOk.leaf ⟨g28, n28⟩) (TreeOk.leaf ⟨g29, n29⟩)))) Try.func5 q5
theorem n30 : Enters Try.prog 30 := enters_of Try.func30 (by kernel_rfl)
theorem g30 : Good Try.prog 30 c30 := good_of (C := C30) mx (table_ok tt_ok) TreeOk.nil Try.func30 q30
theorem n31 : Enters Try.prog 31 := enters_of Try.func31 (by kernel_rfl)
theorem g31 : Good Try.prog 31 c31 := good_of (C := C31) mx (table_ok tt_ok) TreeOk.nil Try.func31 q31
theorem n6 : Enters Try.prog 6 := enters_of Try.func6 (by kernel_rfl)
theorem g6 : Good Try.prog 6 c6 := good_of (C := C6) mx (table_ok tt_ok) (TreeOk.node (TreeOk.node (TreeOk.leaf ⟨g25, n25⟩) (TreeOk.leaf ⟨g27, n27⟩)) (TreeOk.node (TreeOk.leaf ⟨g29, n29⟩) (TreeOk.node (TreeOk.leaf ⟨g30, n30⟩) (TreeOk.leaf ⟨g31, n31⟩)))) Try.func6 q6
theorem n32 : Enters Try.prog 32 := enters_of Try.func32 (by kernel_rfl)
theorem g32 : Good Try.prog 32 c32 := good_of (C := C32) mx (table_ok tt_ok) TreeOk.nil Try.func32 q32
theorem n33 : Enters Try.prog 33 := enters_of Try.func33 (by kernel_rfl)
theorem g33 : Good Try.prog 33 c33 := good_of (C := C33) mx (table_ok tt_ok) TreeOk.nil Try.func33 q33
theorem n7 : Enters Try.prog 7 := enters_of Try.func7 (by kernel_rfl)
theorem g7 : Good Try.prog 7 c7 := good_of (C := C7) mx (table_ok tt_ok) (TreeOk.node (TreeOk.node (TreeOk.leaf ⟨g25, n25⟩) (TreeOk.leaf ⟨g27, n27⟩)) (TreeOk.node (TreeOk.leaf ⟨g29, n29⟩) (TreeOk.node (TreeOk.leaf ⟨g32, n32⟩) (TreeOk.leaf ⟨g33, n33⟩)))) Try.func7 q7
end Go.Proofs.Ytehcfgnpbelfnaa
