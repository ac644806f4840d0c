/- What the functions that the laws reach compute, as functions over plain data; each one's equation with the program is checked by the kernel, part 2. Conditions: none. -/
import Derived.Test.YtbhckidcagloeaaGreatLrFa
namespace Go.Proofs.YtbhckidcagloeaaGreat
open Go Go.Tm
set_option linter.unusedVariables false
set_option maxRecDepth 100000
def i61:List Grp:= [⟨.wc,(.cons (.sl e107) .nil),[(.own [])]⟩,⟨.c,(.cons (.int .i64) .nil),[]⟩]
def o61:List Grp:= [⟨.c,(.cons (.int .i64) .nil),[]⟩,⟨.wc,(.cons (.sl e107) .nil),[(.own [])]⟩]
noncomputable def F61:((List D107×Unit)×((Int×Unit)×Unit))→Option (((Int×Unit)×((List D107×Unit)×Unit))):=markSl e107 F65 ((),((),((),())))
noncomputable def c61:Con:=⟨i61,o61,F61⟩
def i64:List Grp:= [⟨.wc,(.cons (.sl e146) .nil),[(.own m3)]⟩,⟨.c,(.cons (.int .i64) .nil),[]⟩]
def o64:List Grp:= [⟨.c,(.cons (.int .i64) .nil),[]⟩,⟨.wc,(.cons (.sl e146) .nil),[(.own m3)]⟩]
noncomputable def F64:((List D146×Unit)×((Int×Unit)×Unit))→Option (((Int×Unit)×((List D146×Unit)×Unit))):=markSl e146 F65 ((),(F57,((),((),(F66,())))))
noncomputable def c64:Con:=⟨i64,o64,F64⟩
def i11:List Grp:= [⟨.wa,e52,m4⟩,⟨.c,(.cons (.int .i64) .nil),[]⟩]
def o11:List Grp:= [⟨.c,(.cons (.int .i64) .nil),[]⟩,⟨.wa,e52,m4⟩]
noncomputable def F11:(D52×((Int×Unit)×Unit))→Option (((Int×Unit)×(D52×Unit))):=fun x0=>(F55 ((x0.1.2.2.1,(x0.1.2.2.2.1,())),(x0.2.1,()))).bind fun y1=>(F56 ((x0.1.2.2.2.2.1,()),(y1.1,()))).bind fun y2=>(F57 ((x0.1.2.2.2.2.2.1,()),(y2.1,()))).bind fun y3=>(F58 ((x0.1.2.2.2.2.2.2.2.2.1,(x0.1.2.2.2.2.2.2.2.2.2.1,(x0.1.2.2.2.2.2.2.2.2.2.2.1,()))),(y3.1,()))).bind fun y4=>(F59 ((x0.1.2.2.2.2.2.2.2.2.2.2.2.1,(x0.1.2.2.2.2.2.2.2.2.2.2.2.2.1,(x0.1.2.2.2.2.2.2.2.2.2.2.2.2.2.1,()))),(y4.1,()))).bind fun y5=>(F60 ((x0.1.2.2.2.2.2.2.2.2.2.2.2.2.2.2.2.1,()),(y5.1,()))).bind fun y6=>(F61 ((x0.1.2.2.2.2.2.2.2.2.2.2.2.2.2.2.2.2.1,()),(y6.1,()))).bind fun y7=>(F62 ((x0.1.2.2.2.2.2.2.2.2.2.2.2.2.2.2.2.2.2.1,()),(y7.1,()))).bind fun y8=>(F63 ((x0.1.2.2.2.2.2.2.2.2.2.2.2.2.2.2.2.2.2.2.1,()),(y8.1,()))).bind fun y9=>(F64 ((x0.1.2.2.2.2.2.2.2.2.2.2.2.2.2.2.2.2.2.2.2.1,()),(y9.1,()))).bind fun y10=>some (y10.1,((x0.1.1,(x0.1.2.1,(x0.1.2.2.1,(y1.2.1.2.1,(y2.2.1.1,(y3.2.1.1,(x0.1.2.2.2.2.2.2.1,(x0.1.2.2.2.2.2.2.2.1,(x0.1.2.2.2.2.2.2.2.2.1,(x0.1.2.2.2.2.2.2.2.2.2.1,(y4.2.1.2.2.1,(x0.1.2.2.2.2.2.2.2.2.2.2.2.1,(y5.2.1.2.1,(y5.2.1.2.2.1,(x0.1.2.2.2.2.2.2.2.2.2.2.2.2.2.2.1,(y6.2.1.1,(y7.2.1.1,(y8.2.1.1,(y9.2.1.1,(y10.2.1.1,())))))))))))))))))))),()))
noncomputable def c11:Con:=⟨i11,o11,F11⟩
def i12:List Grp:= [⟨.wc,(.cons (.sl e109) .nil),[(.own m5)]⟩,⟨.c,(.cons (.int .i64) .nil),[]⟩]
def o12:List Grp:= [⟨.c,(.cons (.int .i64) .nil),[]⟩,⟨.wc,(.cons (.sl e109) .nil),[(.own m5)]⟩]
noncomputable def F12:((List D109×Unit)×((Int×Unit)×Unit))→Option (((Int×Unit)×((List D109×Unit)×Unit))):=markSl e109 F65 ((),((),((),(F57,((),((),((),((),((),((),((),((),(F66,((),(F66,(F62,()))))))))))))))))
noncomputable def c12:Con:=⟨i12,o12,F12⟩
def i13:List Grp:= [⟨.wc,(.cons (.sl e112) .nil),[(.own [])]⟩,⟨.c,(.cons (.int .i64) .nil),[]⟩]
def o13:List Grp:= [⟨.c,(.cons (.int .i64) .nil),[]⟩,⟨.wc,(.cons (.sl e112) .nil),[(.own [])]⟩]
noncomputable def F13:((List D112×Unit)×((Int×Unit)×Unit))→Option (((Int×Unit)×((List D112×Unit)×Unit))):=markSl e112 F65 ((),((),((),((),((),())))))
noncomputable def c13:Con:=⟨i13,o13,F13⟩
def i183:List Grp:= [⟨.c,(.cons (.sl e229) .nil),[]⟩,⟨.c,(.cons (.int .i64) .nil),[]⟩]
def o183:List Grp:= [⟨.c,(.cons (.int .i64) .nil),[]⟩]
noncomputable def F183:((List D229×Unit)×((Int×Unit)×Unit))→Option (((Int×Unit)×Unit)):=heldSl e229 F65 ((),((),()))
noncomputable def c183:Con:=⟨i183,o183,F183⟩
def i142:List Grp:= [⟨.c,(.cons (.sl e207) .nil),[]⟩,⟨.c,(.cons (.int .i64) .nil),[]⟩]
def o142:List Grp:= [⟨.c,(.cons (.int .i64) .nil),[]⟩]
noncomputable def F142:((List D207×Unit)×((Int×Unit)×Unit))→Option (((Int×Unit)×Unit)):=heldSl e207 F65 ((),((),((),((),(F183,())))))
noncomputable def c142:Con:=⟨i142,o142,F142⟩
def i67:List Grp:= [⟨.agg,e42,[]⟩,⟨.c,(.cons (.int .i64) .nil),[]⟩]
def o67:List Grp:= [⟨.c,(.cons (.int .i64) .nil),[]⟩]
noncomputable def F67:(D42×((Int×Unit)×Unit))→Option (((Int×Unit)×Unit)):=fun x0=>(F142 ((x0.1.2.1,()),(x0.2.1,()))).bind fun y1=>bif iLt y1.1.1 (0:Int) then some (((-1:Int),()),()) else some (y1.1,())
noncomputable def c67:Con:=⟨i67,o67,F67⟩
def i68:List Grp:= [⟨.c,(.cons (.sl e163) .nil),[]⟩,⟨.c,(.cons (.int .i64) .nil),[]⟩]
def o68:List Grp:= [⟨.c,(.cons (.int .i64) .nil),[]⟩]
noncomputable def F68:((List D163×Unit)×((Int×Unit)×Unit))→Option (((Int×Unit)×Unit)):=heldSl e163 F65 ((),((),()))
noncomputable def c68:Con:=⟨i68,o68,F68⟩
def i77:List Grp:= [⟨.c,(.cons (.sl e9) .nil),[]⟩,⟨.c,(.cons (.int .i64) .nil),[]⟩]
def o77:List Grp:= [⟨.c,(.cons (.int .i64) .nil),[]⟩]
noncomputable def F77:((List D9×Unit)×((Int×Unit)×Unit))→Option (((Int×Unit)×Unit)):=heldSl e9 F65 ((),())
noncomputable def c77:Con:=⟨i77,o77,F77⟩
def i74:List Grp:= [⟨.c,(.cons (.sl e3) .nil),[]⟩,⟨.c,(.cons (.int .i64) .nil),[]⟩]
def o74:List Grp:= [⟨.c,(.cons (.int .i64) .nil),[]⟩]
noncomputable def F74:((List D3×Unit)×((Int×Unit)×Unit))→Option (((Int×Unit)×Unit)):=heldSl e3 F65 ((),())
noncomputable def c74:Con:=⟨i74,o74,F74⟩
def i75:List Grp:= [⟨.c,(.cons (.sl e169) .nil),[]⟩,⟨.c,(.cons (.int .i64) .nil),[]⟩]
def o75:List Grp:= [⟨.c,(.cons (.int .i64) .nil),[]⟩]
noncomputable def F75:((List D169×Unit)×((Int×Unit)×Unit))→Option (((Int×Unit)×Unit)):=heldSl e169 F65 ((),((),((),((),((),())))))
noncomputable def c75:Con:=⟨i75,o75,F75⟩
def i69:List Grp:= [⟨.c,(.cons (.sl e154) .nil),[]⟩,⟨.c,(.cons (.int .i64) .nil),[]⟩]
def o69:List Grp:= [⟨.c,(.cons (.int .i64) .nil),[]⟩]
noncomputable def F69:((List D154×Unit)×((Int×Unit)×Unit))→Option (((Int×Unit)×Unit)):=heldSl e154 F65 ((),((),((),((),((),((),(F77,((),(F77,(F74,(F75,((),(F68,((),()))))))))))))))
noncomputable def c69:Con:=⟨i69,o69,F69⟩
def i70:List Grp:= [⟨.agg,e29,[]⟩,⟨.c,(.cons (.int .i64) .nil),[]⟩]
def o70:List Grp:= [⟨.c,(.cons (.int .i64) .nil),[]⟩]
noncomputable def F70:(D29×((Int×Unit)×Unit))→Option (((Int×Unit)×Unit)):=fun x0=>(F77 ((x0.1.2.2.1,()),(x0.2.1,()))).bind fun y1=>bif iLt y1.1.1 (0:Int) then some (((-1:Int),()),()) else some (y1.1,())
noncomputable def c70:Con:=⟨i70,o70,F70⟩
def i71:List Grp:= [⟨.agg,e32,[]⟩,⟨.c,(.cons (.int .i64) .nil),[]⟩]
def o71:List Grp:= [⟨.c,(.cons (.int .i64) .nil),[]⟩]
noncomputable def F71:(D32×((Int×Unit)×Unit))→Option (((Int×Unit)×Unit)):=fun x0=>(F77 ((x0.1.2.1,()),(x0.2.1,()))).bind fun y1=>bif iLt y1.1.1 (0:Int) then some (((-1:Int),()),()) else (F74 ((x0.1.2.2.1,()),(y1.1,()))).bind fun y2=>bif iLt y2.1.1 (0:Int) then some (((-1:Int),()),()) else some (y2.1,())
noncomputable def c71:Con:=⟨i71,o71,F71⟩
def i72:List Grp:= [⟨.c,(.cons (.sl e105) .nil),[]⟩,⟨.c,(.cons (.int .i64) .nil),[]⟩]
def o72:List Grp:= [⟨.c,(.cons (.int .i64) .nil),[]⟩]
noncomputable def F72:((List D105×Unit)×((Int×Unit)×Unit))→Option (((Int×Unit)×Unit)):=heldSl e105 F65 ((),((),((),())))
noncomputable def c72:Con:=⟨i72,o72,F72⟩
def i73:List Grp:= [⟨.c,(.cons (.sl e107) .nil),[]⟩,⟨.c,(.cons (.int .i64) .nil),[]⟩]
def o73:List Grp:= [⟨.c,(.cons (.int .i64) .nil),[]⟩]
noncomputable def F73:((List D107×Unit)×((Int×Unit)×Unit))→Option (((Int×Unit)×Unit)):=heldSl e107 F65 ((),((),((),())))
noncomputable def c73:Con:=⟨i73,o73,F73⟩
def i76:List Grp:= [⟨.c,(.cons (.sl e146) .nil),[]⟩,⟨.c,(.cons (.int .i64) .nil),[]⟩]
def o76:List Grp:= [⟨.c,(.cons (.int .i64) .nil),[]⟩]
noncomputable def F76:((List D146×Unit)×((Int×Unit)×Unit))→Option (((Int×Unit)×Unit)):=heldSl e146 F65 ((),(F69,((),((),(F77,())))))
noncomputable def c76:Con:=⟨i76,o76,F76⟩
def i14:List Grp:= [⟨.agg,e52,[]⟩,⟨.c,(.cons (.int .i64) .nil),[]⟩]
def o14:List Grp:= [⟨.c,(.cons (.int .i64) .nil),[]⟩]
noncomputable def F14:(D52×((Int×Unit)×Unit))→Option (((Int×Unit)×Unit)):=fun x0=>(F67 ((x0.1.2.2.1,(x0.1.2.2.2.1,())),(x0.2.1,()))).bind fun y1=>bif iLt y1.1.1 (0:Int) then some (((-1:Int),()),()) else (F68 ((x0.1.2.2.2.2.1,()),(y1.1,()))).bind fun y2=>bif iLt y2.1.1 (0:Int) then some (((-1:Int),()),()) else (F69 ((x0.1.2.2.2.2.2.1,()),(y2.1,()))).bind fun y3=>bif iLt y3.1.1 (0:Int) then some (((-1:Int),()),()) else (F70 ((x0.1.2.2.2.2.2.2.2.2.1,(x0.1.2.2.2.2.2.2.2.2.2.1,(x0.1.2.2.2.2.2.2.2.2.2.2.1,()))),(y3.1,()))).bind fun y4=>bif iLt y4.1.1 (0:Int) then some (((-1:Int),()),()) else (F71 ((x0.1.2.2.2.2.2.2.2.2.2.2.2.1,(x0.1.2.2.2.2.2.2.2.2.2.2.2.2.1,(x0.1.2.2.2.2.2.2.2.2.2.2.2.2.2.1,()))),(y4.1,()))).bind fun y5=>bif iLt y5.1.1 (0:Int) then some (((-1:Int),()),()) else (F72 ((x0.1.2.2.2.2.2.2.2.2.2.2.2.2.2.2.2.1,()),(y5.1,()))).bind fun y6=>bif iLt y6.1.1 (0:Int) then some (((-1:Int),()),()) else (F73 ((x0.1.2.2.2.2.2.2.2.2.2.2.2.2.2.2.2.2.1,()),(y6.1,()))).bind fun y7=>bif iLt y7.1.1 (0:Int) then some (((-1:Int),()),()) else (F74 ((x0.1.2.2.2.2.2.2.2.2.2.2.2.2.2.2.2.2.2.1,()),(y7.1,()))).bind fun y8=>bif iLt y8.1.1 (0:Int) then some (((-1:Int),()),()) else (F75 ((x0.1.2.2.2.2.2.2.2.2.2.2.2.2.2.2.2.2.2.2.1,()),(y8.1,()))).bind fun y9=>bif iLt y9.1.1 (0:Int) then some (((-1:Int),()),()) else (F76 ((x0.1.2.2.2.2.2.2.2.2.2.2.2.2.2.2.2.2.2.2.2.1,()),(y9.1,()))).bind fun y10=>bif iLt y10.1.1 (0:Int) then some (((-1:Int),()),()) else some (y10.1,())
noncomputable def c14:Con:=⟨i14,o14,F14⟩
def i15:List Grp:= [⟨.c,(.cons (.sl e109) .nil),[]⟩,⟨.c,(.cons (.int .i64) .nil),[]⟩]
def o15:List Grp:= [⟨.c,(.cons (.int .i64) .nil),[]⟩]
noncomputable def F15:((List D109×Unit)×((Int×Unit)×Unit))→Option (((Int×Unit)×Unit)):=heldSl e109 F65 ((),((),((),(F69,((),((),((),((),((),((),((),((),(F77,((),(F77,(F74,()))))))))))))))))
noncomputable def c15:Con:=⟨i15,o15,F15⟩
def i16:List Grp:= [⟨.c,(.cons (.sl e112) .nil),[]⟩,⟨.c,(.cons (.int .i64) .nil),[]⟩]
def o16:List Grp:= [⟨.c,(.cons (.int .i64) .nil),[]⟩]
noncomputable def F16:((List D112×Unit)×((Int×Unit)×Unit))→Option (((Int×Unit)×Unit)):=heldSl e112 F65 ((),((),((),((),((),())))))
noncomputable def c16:Con:=⟨i16,o16,F16⟩
def i3:List Grp:= [⟨.agg,e38,[]⟩]
def o3:List Grp:= [⟨.c,(.cons .bool .nil),[]⟩]
noncomputable def F3:(D38×Unit)→Option (((Bool×Unit)×Unit)):=fun x0=>(F4 (x0.1,(((1048576:Int),()),()))).bind fun y1=>bif iLt y1.1.1 (0:Int) then some ((true,()),()) else (F6 (x0.1,())).bind fun y2=>(F5 (y2.1,())).bind fun y3=>(F6 (x0.1,())).bind fun y4=>(F7 (y4.1,())).bind fun y5=>(F8 (y5.1,(y3.1,()))).bind fun y6=>bif (!y6.1.1) then some ((false,()),()) else (F9 (y5.2.1,(y3.2.1,()))).bind fun y7=>bif (!y7.1.1) then some ((false,()),()) else (F10 (y5.2.2.1,(y3.2.2.1,()))).bind fun y8=>bif (!y8.1.1) then some ((false,()),()) else (F6 (x0.1,())).bind fun y9=>(F8 (y4.1,(y9.1,()))).bind fun y10=>bif (!y10.1.1) then some ((false,()),()) else (F11 (y4.1,(((1:Int),()),()))).bind fun y11=>bif iLt y11.1.1 (0:Int) then some ((false,()),()) else (F8 (y5.1,(y3.1,()))).bind fun y12=>bif (!y12.1.1) then some ((false,()),()) else (F9 (y5.2.1,(y3.2.1,()))).bind fun y13=>bif (!y13.1.1) then some ((false,()),()) else (F10 (y5.2.2.1,(y3.2.2.1,()))).bind fun y14=>bif (!y14.1.1) then some ((false,()),()) else (F11 (y5.1,(((1:Int),()),()))).bind fun y15=>(F12 (y5.2.1,(y15.1,()))).bind fun y16=>(F13 (y5.2.2.1,(y16.1,()))).bind fun y17=>(F14 ((y5.1.1,(y5.1.2.1,(y5.1.2.2.1,(y15.2.1.2.2.2.1,(y15.2.1.2.2.2.2.1,(y15.2.1.2.2.2.2.2.1,(y5.1.2.2.2.2.2.2.1,(y5.1.2.2.2.2.2.2.2.1,(y5.1.2.2.2.2.2.2.2.2.1,(y5.1.2.2.2.2.2.2.2.2.2.1,(y15.2.1.2.2.2.2.2.2.2.2.2.2.1,(y5.1.2.2.2.2.2.2.2.2.2.2.2.1,(y15.2.1.2.2.2.2.2.2.2.2.2.2.2.2.1,(y15.2.1.2.2.2.2.2.2.2.2.2.2.2.2.2.1,(y5.1.2.2.2.2.2.2.2.2.2.2.2.2.2.2.1,(y15.2.1.2.2.2.2.2.2.2.2.2.2.2.2.2.2.2.1,(y15.2.1.2.2.2.2.2.2.2.2.2.2.2.2.2.2.2.2.1,(y15.2.1.2.2.2.2.2.2.2.2.2.2.2.2.2.2.2.2.2.1,(y15.2.1.2.2.2.2.2.2.2.2.2.2.2.2.2.2.2.2.2.2.1,(y15.2.1.2.2.2.2.2.2.2.2.2.2.2.2.2.2.2.2.2.2.2.1,())))))))))))))))))))),(((1:Int),()),()))).bind fun y18=>bif iLt y18.1.1 (0:Int) then some ((false,()),()) else (F15 (y16.2.1,(y18.1,()))).bind fun y19=>bif iLt y19.1.1 (0:Int) then some ((false,()),()) else (F16 (y17.2.1,(y19.1,()))).bind fun y20=>bif iLt y20.1.1 (0:Int) then some ((false,()),()) else bif !iEq y20.1.1 y17.1.1 then some ((false,()),()) else (F6 (x0.1,())).bind fun y21=>(F7 (y21.1,())).bind fun y22=>(F8 (y22.1,(y3.1,()))).bind fun y23=>bif (!y23.1.1) then some ((false,()),()) else (F9 (y22.2.1,(y3.2.1,()))).bind fun y24=>bif (!y24.1.1) then some ((false,()),()) else (F10 (y22.2.2.1,(y3.2.2.1,()))).bind fun y25=>bif (!y25.1.1) then some ((false,()),()) else (F14 ((y5.1.1,(y5.1.2.1,(y5.1.2.2.1,(y15.2.1.2.2.2.1,(y15.2.1.2.2.2.2.1,(y15.2.1.2.2.2.2.2.1,(y5.1.2.2.2.2.2.2.1,(y5.1.2.2.2.2.2.2.2.1,(y5.1.2.2.2.2.2.2.2.2.1,(y5.1.2.2.2.2.2.2.2.2.2.1,(y15.2.1.2.2.2.2.2.2.2.2.2.2.1,(y5.1.2.2.2.2.2.2.2.2.2.2.2.1,(y15.2.1.2.2.2.2.2.2.2.2.2.2.2.2.1,(y15.2.1.2.2.2.2.2.2.2.2.2.2.2.2.2.1,(y5.1.2.2.2.2.2.2.2.2.2.2.2.2.2.2.1,(y15.2.1.2.2.2.2.2.2.2.2.2.2.2.2.2.2.2.1,(y15.2.1.2.2.2.2.2.2.2.2.2.2.2.2.2.2.2.2.1,(y15.2.1.2.2.2.2.2.2.2.2.2.2.2.2.2.2.2.2.2.1,(y15.2.1.2.2.2.2.2.2.2.2.2.2.2.2.2.2.2.2.2.2.1,(y15.2.1.2.2.2.2.2.2.2.2.2.2.2.2.2.2.2.2.2.2.2.1,())))))))))))))))))))),(((1:Int),()),()))).bind fun y26=>bif iLt y26.1.1 (0:Int) then some ((false,()),()) else (F15 (y16.2.1,(y26.1,()))).bind fun y27=>bif iLt y27.1.1 (0:Int) then some ((false,()),()) else (F16 (y17.2.1,(y27.1,()))).bind fun y28=>bif iLt y28.1.1 (0:Int) then some ((false,()),()) else bif !iEq y28.1.1 y17.1.1 then some ((false,()),()) else some ((true,()),())
noncomputable def c3:Con:=⟨i3,o3,F3⟩
end Go.Proofs.YtbhckidcagloeaaGreat
-- no more blanks than needed
