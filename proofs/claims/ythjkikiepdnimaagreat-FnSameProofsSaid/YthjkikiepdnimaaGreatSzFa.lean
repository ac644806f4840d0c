/- What the functions that the laws reach compute, as functions over plain data; each one's equation with the program is checked by the kernel. Conditions: none. -/
import Derived.Test.YthjkikiepdnimaaGreatSzTm3
import Derived.Test.YthjkikiepdnimaaGreatProg
set_option linter.unusedVariables false
set_option linter.unusedSimpArgs false
set_option linter.constructorNameAsVariable false
namespace Go.Proofs.YthjkikiepdnimaaGreat
open Go Go.Tm
set_option maxRecDepth 100000
noncomputable section
def e3:af:=(.cons (.int .i64) .nil)
abbrev D3:Type:=(Int×Unit)
def e5:af:=(.cons (.int .u8) .nil)
abbrev D5:Type:=(Int×Unit)
def e9:af:=(.cons .str .nil)
abbrev D9:Type:=(ByteArray×Unit)
def Et:af:=(.cons (.int .i64) (.cons (.int .i64) .nil))
abbrev e6:Type:=(Int×(Int×Unit))
def cz:af:=(.cons .str (.cons (.int .i64) (.cons (.int .i64) (.cons (.int .i64) (.cons (.sl Et) .nil)))))
abbrev bF:Type:=(ByteArray×(Int×(Int×(Int×(List e6×Unit)))))
def ZG:af:=(.cons (.int .i64) (.cons (.sl cz) .nil))
abbrev Jz:Type:=(Int×(List bF×Unit))
def va:af:=(.cons .str (.cons (.int .i64) .nil))
abbrev ds:Type:=(ByteArray×(Int×Unit))
def i3:af:=(.cons (.int .i64) (.cons .str (.cons .str (.cons (.int .i64) (.cons (.int .i64) .nil)))))
abbrev cl:Type:=(Int×(ByteArray×(ByteArray×(Int×(Int×Unit)))))
def j7:af:=(.cons (.int .i64) (.cons (.int .i64) (.cons (.int .i64) (.cons .str (.cons (.int .i64) (.cons (.int .i64) (.cons (.sl e9) (.cons (.int .i64) (.cons (.sl e9) (.cons (.sl e3) (.cons (.sl i3) (.cons .bool (.cons (.sl va) (.cons .str .nil))))))))))))))
abbrev tR:Type:=(Int×(Int×(Int×(ByteArray×(Int×(Int×(List D9×(Int×(List D9×(List D3×(List cl×(Bool×(List ds×(ByteArray×Unit))))))))))))))
def Hq:af:=(.cons (.int .i64) (.cons (.int .i64) (.cons .str .nil)))
abbrev tb:Type:=(Int×(Int×(ByteArray×Unit)))
def GG:af:=(.cons (.int .i64) (.cons (.int .i64) (.cons .str .nil)))
abbrev pf:Type:=(Int×(Int×(ByteArray×Unit)))
def Hr:af:=(.cons (.int .i64) (.cons (.sl j7) (.cons (.int .i64) (.cons (.int .i64) (.cons (.sl e9) .nil)))))
abbrev Ka:Type:=(Int×(List tR×(Int×(Int×(List D9×Unit)))))
def HT:af:=(.cons .str (.cons (.int .i64) (.cons (.int .i64) (.cons (.sl cz) (.cons (.sl va) (.cons (.sl j7) (.cons (.int .i64) (.cons (.int .i64) (.cons (.int .i64) (.cons (.int .i64) (.cons (.sl e9) (.cons (.int .i64) (.cons (.sl e9) (.cons (.sl e3) (.cons (.int .i64) (.cons (.sl Hq) (.cons (.sl GG) (.cons (.sl e3) (.cons (.sl i3) (.cons (.sl Hr) .nil))))))))))))))))))))
abbrev Fh:Type:=(ByteArray×(Int×(Int×(List bF×(List ds×(List tR×(Int×(Int×(Int×(Int×(List D9×(Int×(List D9×(List D3×(Int×(List tb×(List pf×(List D3×(List cl×(List Ka×Unit))))))))))))))))))))
def FN:af:=(.cons (.int .i64) (.cons (.int .i64) (.cons (.int .i64) (.cons (.int .i64) (.cons .str .nil)))))
abbrev sH:Type:=(Int×(Int×(Int×(Int×(ByteArray×Unit)))))
def HU:af:=(.cons (.int .i64) (.cons .str (.cons (.int .i64) (.cons (.sl j7) (.cons (.int .i64) (.cons (.int .i64) (.cons .str (.cons (.int .i64) (.cons (.int .i64) (.cons .str (.cons (.int .i64) (.cons (.int .i64) (.cons (.sl e9) (.cons (.int .i64) (.cons (.sl e9) (.cons (.sl e3) .nil))))))))))))))))
abbrev B8:Type:=(Int×(ByteArray×(Int×(List tR×(Int×(Int×(ByteArray×(Int×(Int×(ByteArray×(Int×(Int×(List D9×(Int×(List D9×(List D3×Unit))))))))))))))))
def Ve:af:=(.cons (.int .i64) (.cons (.sl cz) (.cons (.sl e9) (.cons (.sl HT) (.cons (.sl j7) (.cons (.sl FN) (.cons (.sl HU) .nil)))))))
abbrev IY:Type:=(Int×(List bF×(List D9×(List Fh×(List tR×(List sH×(List B8×Unit)))))))
def Xv:af:=(.cons (.int .i64) (.cons (.sl va) .nil))
abbrev SV:Type:=(Int×(List ds×Unit))
def Z7:af:=(.cons (.int .i64) (.cons (.int .i64) (.cons (.sl e9) .nil)))
abbrev Xc:Type:=(Int×(Int×(List D9×Unit)))
def Z8:af:=(.cons (.int .i64) (.cons (.sl e9) (.cons (.sl e3) .nil)))
abbrev UO:Type:=(Int×(List D9×(List D3×Unit)))
def Vf:af:=(.cons (.sl e5) (.cons (.int .i64) (.cons (.int .i64) .nil)))
abbrev HV:Type:=(List D5×(Int×(Int×Unit)))
def Vg:af:=(.cons (.int .i64) (.cons (.int .i64) (.cons (.int .i64) (.cons (.int .i64) (.cons .str (.cons .str (.cons (.int .i64) (.cons (.int .i64) (.cons (.int .i64) (.cons .str (.cons (.int .i64) (.cons (.sl j7) (.cons (.int .i64) (.cons (.int .i64) (.cons .str (.cons (.int .i64) (.cons (.int .i64) (.cons .str (.cons (.int .i64) (.cons (.int .i64) (.cons (.sl e9) (.cons (.int .i64) (.cons (.sl e9) (.cons (.sl e3) .nil))))))))))))))))))))))))
abbrev Qh:Type:=(Int×(Int×(Int×(Int×(ByteArray×(ByteArray×(Int×(Int×(Int×(ByteArray×(Int×(List tR×(Int×(Int×(ByteArray×(Int×(Int×(ByteArray×(Int×(Int×(List D9×(Int×(List D9×(List D3×Unit))))))))))))))))))))))))
def m0:List Md:=[.sh,.sh,.sh,.sh,(.own [])]
def m1:List Md:=[.sh,.sh,.sh,.sh,.sh,.sh,(.own []),.sh,(.own []),(.own []),(.own []),.sh,(.own [])]
def m2:List Md:=[.sh,(.own m1),.sh,.sh,(.own [])]
def m3:List Md:=[.sh,.sh,.sh,(.own m0),(.own []),(.own m1),.sh,.sh,.sh,.sh,(.own []),.sh,(.own []),(.own []),.sh,(.own []),(.own []),(.own []),(.own []),(.own m2)]
def m4:List Md:=[.sh,.sh,.sh,.sh,.sh,.sh,.sh,.sh,.sh,.sh,.sh,.sh,.sh,.sh,.sh,(.own []),(.own []),(.own []),.sh,(.own m2)]
def m5:List Md:=[.sh,.sh,.sh,(.own m4),(.own []),(.own []),(.own [])]
def m6:List Md:=[.sh,(.own []),(.own [])]
def m7:List Md:=[.sh,.sh,.sh,(.own m1),.sh,.sh,.sh,.sh,.sh,.sh,.sh,.sh,(.own []),.sh,(.own []),(.own [])]
def m8:List Md:=[.sh,.sh,.sh,.sh,.sh,.sh,.sh,.sh,.sh,.sh,.sh,(.own m1),.sh,.sh,.sh,.sh,.sh,.sh,.sh,.sh,(.own []),.sh,(.own []),(.own [])]
abbrev ZH:Type:=(Int×(List (bF)×(List (D9)×(List (Fh)×(List (tR)×(List (sH)×(List (B8)×Unit)))))))
abbrev ix:Type:=(Int×Unit)
abbrev Em:Type:=((ByteArray×Unit)×Unit)
abbrev Kb:Type:=(List ds×Unit)
abbrev sF:Type:=(ix×Unit)
abbrev OF:Type:=(Int×(List (bF)×Unit))
abbrev Z9:Type:=(Int×(ByteArray×(Int×(Int×(List (bF)×(List (ds)×(List (tR)×(Int×(Int×(Int×(Int×(List (D9)×(Int×(List (D9)×(List (D3)×(Int×(List (tb)×(List (pf)×(List (D3)×(List (cl)×(List (Ka)×Unit)))))))))))))))))))))
abbrev GI:Type:=(List tR×Unit)
abbrev Fb:Type:=((List D3×Unit)×Unit)
abbrev GJ:Type:=(List cl×Unit)
abbrev sG:Type:=(IY×Unit)
abbrev EG:Type:=((List D5×Unit)×Unit)
abbrev FQ:Type:=((List bF×Unit)×Unit)
abbrev I5:Type:=(List sH×Unit)
abbrev MH:Type:=(Int×(List (D9)×(List (D3)×Unit)))
abbrev w7:Type:=(HV×Unit)
abbrev Eu:Type:=(Int×ZH)
abbrev AN:Type:=(Fh×Unit)
abbrev tS:Type:=(Jz×Unit)
abbrev I6:Type:=(Bool×Unit)
abbrev lf:Type:=(I6×Unit)
abbrev Ev:Type:=(Sum ix (Sum ix lf))
abbrev tm:Type:=(Int×ix)
abbrev Kc:Type:=(Sum tm (Sum tm sF))
abbrev Kd:Type:=(List (D3)×ix)
abbrev K6:Type:=(List (tR)×ix)
abbrev B9:Type:=(Kb×Unit)
abbrev K7:Type:=(Sum ix (Sum ix sF))
abbrev Hs:Type:=(List (D5)×ix)
abbrev D8:Type:=(tR×Unit)
abbrev Ew:Type:=(B8×Unit)
abbrev Ex:Type:=(Xc×Unit)
abbrev Vh:Type:=(Int×(List (tR)×(Int×(List (bF)×(List (D3)×Unit)))))
abbrev EH:Type:=(UO×Unit)
abbrev OG:Type:=(Sum Eu (Sum Eu sG))
abbrev FT:Type:=(GJ×Unit)
abbrev Ht:Type:=(GI×Unit)
abbrev OH:Type:=(Int×(List (D9)×Unit))
abbrev OI:Type:=(Int×(List (D3)×Unit))
abbrev SX:Type:=(List (D3)×(Int×(List (D5)×Unit)))
abbrev OJ:Type:=(List B8×Unit)
abbrev I7:Type:=(List D9×Unit)
abbrev K8:Type:=(I7×Unit)
abbrev Hu:Type:=(Bool×ix)
abbrev Vi:Type:=(Kb×(((ds->Option I6)×Unit)×Unit))
abbrev Qi:Type:=(Sum ix (Sum ix Ev))
abbrev Vj:Type:=((List D3×Unit)×((List D5×Unit)×Fb))
abbrev HW:Type:=(GI×sF)
abbrev Vk:Type:=(List (cl)×(Int×(List (D5)×tm)))
abbrev Vl:Type:=(Kb×((List tb×Unit)×(ix×sF)))
abbrev Hv:Type:=(Int×OF)
abbrev OK:Type:=(List (ds)×ix)
abbrev Ke:Type:=(I6×sG)
abbrev HX:Type:=(Kb×K8)
abbrev SY:Type:=((List bF×Unit)×Em)
abbrev K9:Type:=(bF×Unit)
abbrev Vm:Type:=(Int×(List (D5)×(Int×Eu)))
abbrev Vn:Type:=(Kb×((List pf×Unit)×sF))
abbrev Xw:Type:=((List Ka×Unit)×(((Ka->Option I6)×Unit)×Unit))
abbrev SZ:Type:=(OJ×(I5×AN))
abbrev La:Type:=(I5×Unit)
abbrev Vo:Type:=(Sum (List (sH)×ix) (Sum (List (sH)×ix) La))
abbrev MI:Type:=(cl×Unit)
abbrev MJ:Type:=(HV×sG)
abbrev Vp:Type:=(Sum K6 (Sum K6 Ht))
abbrev Vq:Type:=(Sum Kd (Sum Kd Fb))
abbrev Vr:Type:=(Int×(List (cl)×Unit))
abbrev S4:Type:=(List (tR)×Unit)
abbrev Vs:Type:=(Int×(List (B8)×Unit))
abbrev Vt:Type:=(Int×(List (Ka)×Unit))
abbrev Vu:Type:=(Int×(List (Fh)×Unit))
abbrev Vv:Type:=(Int×(List (sH)×Unit))
abbrev Gs:=List bX
def P7:bX:=⟨.c,(.cons .bool .nil),[]⟩
def ED:bX:=⟨.c,(.cons (.int .i64) .nil),[]⟩
def MD:bX:=⟨.io,Vf,[]⟩
def P8:bX:=⟨.c,(.cons .str .nil),[]⟩
def P9:bX:=⟨.c,(.cons (.sl va) .nil),[]⟩
def Qa:bX:=⟨.io,HT,m4⟩
def UP:bX:=⟨.io,Ve,m5⟩
def Qb:bX:=⟨.agg,ZG,[]⟩
def UQ:bX:=⟨.c,(.cons (.sl e9) .nil),[]⟩
def S5:bX:=⟨.c,(.cons (.sl j7) .nil),[]⟩
def I8:bX:=⟨.agg,Z7,[]⟩
def OL:bX:=⟨.agg,j7,[]⟩
def Qj:bX:=⟨.c,(.cons (.sl e5) .nil),[]⟩
def MK:bX:=⟨.agg,Z8,[]⟩
def Lb:bX:=⟨.agg,i3,[]⟩
def Qk:bX:=⟨.agg,HU,[]⟩
def ML:bX:=⟨.c,(.cons (.sl i3) .nil),[]⟩
def Ql:bX:=⟨.c,(.cons (.sl FN) .nil),[(.own [])]⟩
def Xx:bX:=⟨.c,(.cons (.sl cz) .nil),[]⟩
def Qm:bX:=⟨.c,(.cons (.sl e3) .nil),[]⟩
def Xy:bX:=⟨.c,(.cons (.sl va) .nil),[(.own [])]⟩
def S6:bX:=⟨.agg,HT,[]⟩
def S7:bX:=⟨.c,(.cons (.sl i3) .nil),[(.own [])]⟩
def aa0:bX:=⟨.c,(.cons (.sl e3) .nil),[(.own [])]⟩
def aa1:bX:=⟨.agg,cz,[]⟩
def Xz:bX:=⟨.agg,Ve,m5⟩
def Vw:bX:=⟨.agg,Hr,[]⟩
def Vx:bX:=⟨.wa,Ve,m5⟩
def XA:bX:=⟨.c,(.cons (.sl HU) .nil),[(.own m7)]⟩
def Vy:bX:=⟨.agg,Hq,[]⟩
def XB:bX:=⟨.agg,Z7,[.sh,.sh,(.own [])]⟩
def XC:bX:=⟨.agg,Z8,m6⟩
def aa2:bX:=⟨.agg,j7,m1⟩
def aa3:bX:=⟨.c,(.cons (.sl j7) .nil),[(.own m1)]⟩
def XD:bX:=⟨.agg,Hr,m2⟩
def aa4:bX:=⟨.agg,ZG,[.sh,(.own [])]⟩
def aa5:bX:=⟨.c,(.cons (.sl e5) .nil),[(.own [])]⟩
def Vz:bX:=⟨.agg,HU,m7⟩
def XE:bX:=⟨.agg,Ve,[]⟩
def VA:bX:=⟨.c,(.cons (.sl j7) .nil),[(.own [])]⟩
def XF:bX:=⟨.agg,FN,[]⟩
def VB:bX:=⟨.c,(.cons (.sl FN) .nil),[]⟩
def XG:bX:=⟨.agg,Xv,[.sh,(.own [])]⟩
def XH:bX:=⟨.agg,ZG,[.sh,(.own m0)]⟩
def aa6:bX:=⟨.c,(.cons (.sl cz) .nil),[(.own [])]⟩
def XI:bX:=⟨.c,(.cons (.sl HU) .nil),[]⟩
def aa7:bX:=⟨.c,(.cons (.fn [3] (.cons .str (.cons (.int .i64) .nil)) (.cons .bool .nil)) .nil),[]⟩
def TTL:List (Nat×TI):=[(3,⟨1,8,.int .i64,[(.int .i64 (0:Int))],[],[],none⟩),(4,⟨1,1,.bool,[(.bool false)],[],[],none⟩),(5,⟨1,1,.int .u8,[(.int .u8 (0:Int))],[],[],none⟩),(9,⟨1,16,.str,[(.str ⟨#[]⟩)],[],[],none⟩),(22,⟨1,24,.slice 5,[.cg],[],[],none⟩),(24,⟨1,24,.slice 120,[.cg],[],[],none⟩),(26,⟨2,32,.struct,[(.int .i64 (0:Int)),.cg],[(0,1),(1,1)],[false,false],none⟩),(27,⟨1,24,.slice 9,[.cg],[],[],none⟩),(28,⟨1,24,.slice 55,[.cg],[],[],none⟩),(29,⟨1,24,.slice 71,[.cg],[],[],none⟩),(30,⟨1,24,.slice 39,[.cg],[],[],none⟩),(31,⟨1,24,.slice 86,[.cg],[],[],none⟩),(33,⟨7,152,.struct,[(.int .i64 (0:Int)),.cg,.cg,.cg,.cg,.cg,.cg],[(0,2),(2,1),(3,1),(4,1),(5,1),(6,1)],[true,false,false,false,false,false],none⟩),(39,⟨5,48,.struct,[(.int .i64 (0:Int)),(.int .i64 (0:Int)),(.int .i64 (0:Int)),(.int .i64 (0:Int)),(.str ⟨#[]⟩)],[(0,1),(1,1),(2,1),(3,1),(4,1)],[false,false,false,false,false],(some [.int .i64,.int .i64,.int .i64,.int .i64,.str])⟩),(40,⟨1,24,.slice 97,[.cg],[],[],none⟩),(42,⟨2,32,.struct,[(.int .i64 (0:Int)),.cg],[(0,1),(1,1)],[false,false],none⟩),(46,⟨3,40,.struct,[(.int .i64 (0:Int)),(.int .i64 (0:Int)),.cg],[(0,1),(1,1),(2,1)],[false,false,false],none⟩),(47,⟨1,24,.slice 3,[.cg],[],[],none⟩),(49,⟨3,56,.struct,[(.int .i64 (0:Int)),.cg,.cg],[(0,1),(1,1),(2,1)],[false,false,false],none⟩),(50,⟨1,24,.slice 82,[.cg],[],[],none⟩),(51,⟨1,24,.slice 84,[.cg],[],[],none⟩),(52,⟨1,24,.slice 110,[.cg],[],[],none⟩),(53,⟨1,24,.slice 59,[.cg],[],[],none⟩),(55,⟨20,344,.struct,[(.str ⟨#[]⟩),(.int .i64 (0:Int)),(.int .i64 (0:Int)),.cg,.cg,.cg,(.int .i64 (0:Int)),(.int .i64 (0:Int)),(.int .i64 (0:Int)),(.int .i64 (0:Int)),.cg,(.int .i64 (0:Int)),.cg,.cg,(.int .i64 (0:Int)),.cg,.cg,.cg,.cg,.cg],[(0,1),(1,1),(2,2),(4,1),(5,1),(6,1),(7,1),(8,3),(11,3),(14,1),(15,1),(16,1),(17,1),(18,1),(19,1)],[false,false,true,false,false,false,false,true,true,false,false,false,false,false,false],none⟩),(59,⟨5,72,.struct,[(.int .i64 (0:Int)),.cg,(.int .i64 (0:Int)),(.int .i64 (0:Int)),.cg],[(0,1),(1,1),(2,3)],[false,false,true],none⟩),(71,⟨14,208,.struct,[(.int .i64 (0:Int)),(.int .i64 (0:Int)),(.int .i64 (0:Int)),(.str ⟨#[]⟩),(.int .i64 (0:Int)),(.int .i64 (0:Int)),.cg,(.int .i64 (0:Int)),.cg,.cg,.cg,(.bool false),.cg,(.str ⟨#[]⟩)],[(0,1),(1,1),(2,1),(3,1),(4,3),(7,3),(10,1),(11,1),(12,1),(13,1)],[false,false,false,false,true,true,false,false,false,false],none⟩),(82,⟨3,32,.struct,[(.int .i64 (0:Int)),(.int .i64 (0:Int)),(.str ⟨#[]⟩)],[(0,1),(1,1),(2,1)],[false,false,false],(some [.int .i64,.int .i64,.str])⟩),(84,⟨3,32,.struct,[(.int .i64 (0:Int)),(.int .i64 (0:Int)),(.str ⟨#[]⟩)],[(0,1),(1,1),(2,1)],[false,false,false],(some [.int .i64,.int .i64,.str])⟩),(86,⟨16,216,.struct,[(.int .i64 (0:Int)),(.str ⟨#[]⟩),(.int .i64 (0:Int)),.cg,(.int .i64 (0:Int)),(.int .i64 (0:Int)),(.str ⟨#[]⟩),(.int .i64 (0:Int)),(.int .i64 (0:Int)),(.str ⟨#[]⟩),(.int .i64 (0:Int)),(.int .i64 (0:Int)),.cg,(.int .i64 (0:Int)),.cg,.cg],[(0,1),(1,1),(2,1),(3,1),(4,3),(7,3),(10,3),(13,3)],[false,false,false,false,true,true,true,true],none⟩),(97,⟨2,24,.struct,[(.str ⟨#[]⟩),(.int .i64 (0:Int))],[(0,1),(1,1)],[false,false],(some [.str,.int .i64])⟩),(104,⟨3,40,.struct,[.cg,(.int .i64 (0:Int)),(.int .i64 (0:Int))],[(0,1),(1,1),(2,1)],[false,false,false],none⟩),(110,⟨5,56,.struct,[(.int .i64 (0:Int)),(.str ⟨#[]⟩),(.str ⟨#[]⟩),(.int .i64 (0:Int)),(.int .i64 (0:Int))],[(0,1),(1,1),(2,1),(3,1),(4,1)],[false,false,false,false,false],(some [.int .i64,.str,.str,.int .i64,.int .i64])⟩),(112,⟨24,296,.struct,[(.int .i64 (0:Int)),(.int .i64 (0:Int)),(.int .i64 (0:Int)),(.int .i64 (0:Int)),(.str ⟨#[]⟩),(.str ⟨#[]⟩),(.int .i64 (0:Int)),(.int .i64 (0:Int)),(.int .i64 (0:Int)),(.str ⟨#[]⟩),(.int .i64 (0:Int)),.cg,(.int .i64 (0:Int)),(.int .i64 (0:Int)),(.str ⟨#[]⟩),(.int .i64 (0:Int)),(.int .i64 (0:Int)),(.str ⟨#[]⟩),(.int .i64 (0:Int)),(.int .i64 (0:Int)),.cg,(.int .i64 (0:Int)),.cg,.cg],[(0,1),(1,1),(2,1),(3,5),(8,16)],[false,false,false,true,true],none⟩),(118,⟨1,24,.slice 145,[.cg],[],[],none⟩),(120,⟨5,64,.struct,[(.str ⟨#[]⟩),(.int .i64 (0:Int)),(.int .i64 (0:Int)),(.int .i64 (0:Int)),.cg],[(0,1),(1,1),(2,1),(3,1),(4,1)],[false,false,false,false,false],none⟩),(145,⟨2,16,.struct,[(.int .i64 (0:Int)),(.int .i64 (0:Int))],[(0,1),(1,1)],[false,false],(some [.int .i64,.int .i64])⟩),(179,⟨1,8,.int .u64,[(.int .u64 (0:Int))],[],[],none⟩)]
theorem XJ:TTL.map (λp=>fL Tryz.prog p.1)=TTL.map (λp=>some p.2):=by kernel_rfl
def TT:Nat->Option TI:=wj TTL
def EE:Nat->af:=λn=>(bif Nat.ble n 55 then(bif Nat.ble n 33 then(bif Nat.ble n 5 then(bif Nat.ble n 3 then(bif Nat.beq n 3 then e3 else .nil)else(bif Nat.beq n 5 then e5 else .nil))else(bif Nat.ble n 9 then(bif Nat.beq n 9 then e9 else .nil)else(bif Nat.ble n 26 then(bif Nat.beq n 26 then ZG else .nil)else(bif Nat.beq n 33 then Ve else .nil))))else(bif Nat.ble n 42 then(bif Nat.ble n 39 then(bif Nat.beq n 39 then FN else .nil)else(bif Nat.beq n 42 then Xv else .nil))else(bif Nat.ble n 46 then(bif Nat.beq n 46 then Z7 else .nil)else(bif Nat.ble n 49 then(bif Nat.beq n 49 then Z8 else .nil)else(bif Nat.beq n 55 then HT else .nil)))))else(bif Nat.ble n 86 then(bif Nat.ble n 71 then(bif Nat.ble n 59 then(bif Nat.beq n 59 then Hr else .nil)else(bif Nat.beq n 71 then j7 else .nil))else(bif Nat.ble n 82 then(bif Nat.beq n 82 then Hq else .nil)else(bif Nat.ble n 84 then(bif Nat.beq n 84 then GG else .nil)else(bif Nat.beq n 86 then HU else .nil))))else(bif Nat.ble n 110 then(bif Nat.ble n 97 then(bif Nat.beq n 97 then va else .nil)else(bif Nat.ble n 104 then(bif Nat.beq n 104 then Vf else .nil)else(bif Nat.beq n 110 then i3 else .nil)))else(bif Nat.ble n 112 then(bif Nat.beq n 112 then Vg else .nil)else(bif Nat.ble n 120 then(bif Nat.beq n 120 then cz else .nil)else(bif Nat.beq n 145 then Et else .nil))))))
def lk{a:Type _}:List (Nat×a)->Nat->Option a|[],_=>none|(k,v)::r,n=>bif Nat.beq n k then some v else lk r n
def li(a:Nat):Nat->List Nat|0=>[]|n+1=>a::li (a+1) n
def at2(l:List (Nat×List (Nat×List Md)))(r i:Nat):List Md:=match lk l r with|none=>[]|some z=>match lk z i with|none=>[]|some m=>m
def cx(d:Nat)(b:List (Nat×zi))(a:List (Nat×List (Nat×List Md)))(e c:List (Nat×jP)):Ctx:=⟨d,TT,EE,lk b,at2 a,lk e,lk c⟩
def i7:Gs:=[Qj]
def o7:Gs:=[P7]
def F7:EG->Option lf:=λa=>some ((dO (1048576:Int) (List.length a.1.1:Int),()),())
def c7:zi:=⟨i7,o7,F7⟩
def i25:=i7
def o25:Gs:=[⟨.np,Vf,[]⟩]
def VC.b0(b:EG):(a:tm)->Option (Sum tm (Sum tm w7)):=λa=>bif dO a.2.1 (List.length b.1.1:Int)then bif dO a.2.1 (4000:Int)then (bK b.1.1 a.2.1).bind λc=>some (.inl (sS .i64 (cM .i64 (cM .i64 (zJ .i64 a.1 (137:Int)) (IntKind.wrap .i64 c.1)) (11:Int)) (1073741823:Int),(cM .i64 a.2.1 (1:Int),())))else some (.inr (.inl (a.1,(a.2.1,()))))else some (.inr (.inl (a.1,(a.2.1,()))))
def VC:EG->Option w7:=λa=>(aR (VC.b0 a) (cM .i64 (366366:Int) (List.length a.1.1:Int),((0:Int),()))).bind λc=>Sum.elim (λb=>some ((a.1.1,((0:Int),(b.1,()))),())) some c
def c25:zi:=⟨i25,o25,VC⟩
def i27:Gs:=[Qj,ED]
def IZ:Gs:=[ED]
def ZI:((List D5×Unit)×sF)->Option sF:=λa=>bif gA (12:Int) 0 then none else bif dO a.2.1.1 (cM .i64 (3:Int) (AV .i64 (List.length a.1.1:Int) (12:Int)))then some (a.2.1,())else some ((cM .i64 (3:Int) (AV .i64 (List.length a.1.1:Int) (12:Int)),()),())
def c27:zi:=⟨i27,IZ,ZI⟩
def S8:Gs:=[MD]
def VD:Gs:=[ED,MD]
def MM:w7->Option (ix×w7):=λa=>bif dO (33:Int) 0 then none else bif dO (47:Int) 0 then none else Option.bind (bif dO a.1.2.1 (List.length a.1.1:Int)then (bK a.1.1 a.1.2.1).bind λc=>some (.inl (sS .i64 (cM .i64 (sS .i64 (qC .i64 (zL .i64 (cM .i64 (zJ .i64 a.1.2.2.1 (6364136223846793005:Int)) (1442695040888963407:Int)) (33:Int)) (zL .i64 (cM .i64 (zJ .i64 a.1.2.2.1 (6364136223846793005:Int)) (1442695040888963407:Int)) (47:Int))) (255:Int)) (IntKind.wrap .i64 c.1)) (255:Int),(cM .i64 a.1.2.1 (1:Int),())))else some (.inl (sS .i64 (qC .i64 (zL .i64 (cM .i64 (zJ .i64 a.1.2.2.1 (6364136223846793005:Int)) (1442695040888963407:Int)) (33:Int)) (zL .i64 (cM .i64 (zJ .i64 a.1.2.2.1 (6364136223846793005:Int)) (1442695040888963407:Int)) (47:Int))) (255:Int),(a.1.2.1,())))) λd=>Sum.elim (λb=>some ((b.1,()),((a.1.1,(b.2.1,(cM .i64 (zJ .i64 a.1.2.2.1 (6364136223846793005:Int)) (1442695040888963407:Int),()))),()))) some d
def aa9:zi:=⟨S8,VD,MM⟩
def ZJ:Gs:=[MD,ED]
def o60:=VD
def I0:(HV×sF)->Option (ix×w7):=λa=>bif km a.2.1.1 (0:Int)then some (((0:Int),()),(a.1,()))else bif km a.2.1.1 (256:Int)then (MM (a.1,())).bind λb=>bif gA a.2.1.1 0 then none else some ((ph b.1.1 a.2.1.1,()),(b.2.1,()))else (MM (a.1,())).bind λc=>(MM (c.2.1,())).bind λe=>(MM (e.2.1,())).bind λd=>bif gA a.2.1.1 0 then none else some ((ph (cM .i64 (cM .i64 (zJ .i64 c.1.1 (65536:Int)) (zJ .i64 e.1.1 (256:Int))) d.1.1) a.2.1.1,()),(d.2.1,()))
def c60:zi:=⟨ZJ,o60,I0⟩
def ab0:Gs:=[MD,Qm]
def ab1:=VD
def Kf:(HV×Fb)->Option (ix×w7):=λa=>(I0 (a.1,(((List.length a.2.1.1:Int),()),()))).bind λb=>(bK a.2.1.1 b.1.1).bind λc=>some (c,(b.2.1,()))
def ab2:zi:=⟨ab0,ab1,Kf⟩
def i59:=ZJ
def o59:Gs:=[P7,MD]
def Qn:(HV×sF)->Option (I6×w7):=λb=>(I0 (b.1,(b.2.1,()))).bind λa=>some ((gA a.1.1 (0:Int),()),(a.2.1,()))
def c59:zi:=⟨i59,o59,Qn⟩
def i58:=S8
def o58:Gs:=[XH,MD]
def VE.b0(d:(ix×w7)):(a:(Int×(List (D5)×Hv)))->Option (Sum (Int×(List (D5)×Hv)) (Sum (Int×(List (D5)×Hv)) (Jz×w7))):=λa=>bif dO a.1 d.1.1 then (bK ([(⟨#[97]⟩,()),(⟨#[98]⟩,()),(⟨#[99]⟩,()),(⟨#[100]⟩,())]:List (D9)) a.1).bind λ_=>(aC ([(⟨#[97]⟩,()),(⟨#[98]⟩,()),(⟨#[99]⟩,()),(⟨#[100]⟩,())]:List (D9)) (Int.toNat a.1)).bind λc=>(Kf ((a.2.1,(a.2.2.1,(a.2.2.2.1,()))),((([((3:Int),()),((20:Int),())]:List (D3)),()),()))).bind λb=>bif dE (List.length a.2.2.2.2.1+List.length ([(c.1,(b.1.1,((0:Int),((10:Int),([],())))))]:List (bF))) 64 then some (.inl (cM .i64 a.1 (1:Int),(b.2.1.1,(b.2.1.2.1,(b.2.1.2.2.1,(bV a.2.2.2.2.1 ([(c.1,(b.1.1,((0:Int),((10:Int),([],())))))]:List (bF)),())))))) else none else some (.inr (.inl (a.1,(a.2.1,(a.2.2.1,(a.2.2.2.1,(a.2.2.2.2.1,())))))))
def VE:w7->Option (Jz×w7):=λg=>(Kf (g.1,((([((4:Int),()),((4:Int),()),((4:Int),()),((3:Int),()),((2:Int),()),((1:Int),())]:List (D3)),()),()))).bind λc=>(aR (VE.b0 c) ((0:Int),(c.2.1.1,(c.2.1.2.1,(c.2.1.2.2.1,([],())))))).bind λe=>Sum.elim (λb=>Option.bind ((Qn ((b.2.1,(b.2.2.1,(b.2.2.2.1,()))),(((3:Int),()),()))).bind λa=>bif a.1.1 then bif dE (List.length b.2.2.2.2.1+List.length ([(⟨#[101]⟩,((7:Int),((0:Int),((0:Int),([],())))))]:List (bF))) 64 then some (.inl (a.2.1.1,(a.2.1.2.1,(a.2.1.2.2.1,(bV b.2.2.2.2.1 ([(⟨#[101]⟩,((7:Int),((0:Int),((0:Int),([],())))))]:List (bF)),())))))else none else some (.inl (a.2.1.1,(a.2.1.2.1,(a.2.1.2.2.1,(b.2.2.2.2.1,())))))) λf=>Sum.elim (λd=>some (((0:Int),(d.2.2.2.1,())),((d.1,(d.2.1,(d.2.2.1,()))),()))) some f) some e
def c58:zi:=⟨i58,o58,VE⟩
def XK:Gs:=[ED,ED,ED]
def ab3:=o7
def lh:(ix×(ix×sF))->Option lf:=λa=>bif km a.2.1.1 a.1.1 then some ((km a.1.1 a.2.2.1.1,()),())else some ((false,()),())
def ab4:zi:=⟨XK,ab3,lh⟩
def HY:Gs:=[P8]
def ab5:=o7
def Ey.b0(b:Em):(a:ix)->Option Ev:=λa=>bif dO a.1 (ByteArray.size b.1.1:Int)then(bK (ByteArray.data b.1.1).toList a.1).bind λf=>(lh ((IntKind.wrap .i64 (UInt8.toNat f:Int),()),(((97:Int),()),(((122:Int),()),())))).bind λe=>bif (!e.1.1)then (bK (ByteArray.data b.1.1).toList a.1).bind λc=>(lh ((IntKind.wrap .i64 (UInt8.toNat c:Int),()),(((48:Int),()),(((57:Int),()),())))).bind λd=>bif (!d.1.1)then some (.inr (.inr ((false,()),())))else some (.inl (cM .i64 a.1 (1:Int),()))else some (.inl (cM .i64 a.1 (1:Int),()))else some (.inr (.inl (a.1,())))
def Ey:Em->Option lf:=λa=>(aR (Ey.b0 a) ((0:Int),())).bind λc=>Sum.elim (λd=>(lh (((ByteArray.size a.1.1:Int),()),(((1:Int),()),(((8:Int),()),())))).bind λb=>some (b.1,())) some c
def ab6:zi:=⟨HY,ab5,Ey⟩
def S9:Gs:=[aa1]
def ab7:=o7
def Kg.b0(c:K9):(a:ix)->Option Ev:=λa=>bif dO a.1 (List.length c.1.2.2.2.2.1:Int)then(bK c.1.2.2.2.2.1 a.1).bind λb=>(lh ((b.1,()),(((1:Int),()),(((1000000:Int),()),())))).bind λd=>bif (!d.1.1)then some (.inr (.inr ((false,()),())))else (lh ((b.2.1,()),(((0:Int),()),(((1000:Int),()),())))).bind λe=>bif (!e.1.1)then some (.inr (.inr ((false,()),())))else bif dO (0:Int) a.1 then (bK c.1.2.2.2.2.1 (gS .i64 a.1 (1:Int))).bind λf=>bif km b.2.1 f.2.1 then some (.inr (.inr ((false,()),()))) else some (.inl (cM .i64 a.1 (1:Int),())) else some (.inl (cM .i64 a.1 (1:Int),())) else some (.inr (.inl (a.1,())))
def Kg:K9->Option lf:=λa=>(Ey ((a.1.1,()),())).bind λc=>bif (!c.1.1)then some ((false,()),())else (lh ((a.1.2.1,()),(((0:Int),()),(((1000000:Int),()),())))).bind λd=>bif (!d.1.1)then some ((false,()),())else (lh ((a.1.2.2.1,()),(((0:Int),()),(((10000:Int),()),())))).bind λf=>bif (!f.1.1)then some ((false,()),())else (lh ((a.1.2.2.2.1,()),(((0:Int),()),(((1000000:Int),()),())))).bind λe=>bif (!e.1.1)then some ((false,()),())else bif dO (4:Int) (List.length a.1.2.2.2.2.1:Int)then some ((false,()),())else (aR (Kg.b0 a) ((0:Int),())).bind λb=>Sum.elim (λg=>some ((true,()),())) some b
def ab8:zi:=⟨S9,ab7,Kg⟩
def ab9:=S9
def ac0:=IZ
def I9.b0(b:K9):(a:tm)->Option Kc:=λa=>bif dO a.2.1 (List.length b.1.2.2.2.2.1:Int)then(bK b.1.2.2.2.2.1 a.2.1).bind λc=>some (.inl (cM .i64 a.1 c.1,(cM .i64 a.2.1 (1:Int),())))else some (.inr (.inl (a.1,(a.2.1,()))))
def I9:K9->Option sF:=λa=>(aR (I9.b0 a) (cM .i64 a.1.2.1 a.1.2.2.2.1,((0:Int),()))).bind λc=>Sum.elim (λb=>some ((b.1,()),())) some c
def ac1:zi:=⟨ab9,ac0,I9⟩
def OM:Gs:=[Xx]
def ac2:=IZ
def Kh.b0(b:FQ):(a:tm)->Option Kc:=λa=>bif dO a.2.1 (List.length b.1.1:Int)then(bK b.1.1 a.2.1).bind λd=>(I9 (d,())).bind λc=>some (.inl (cM .i64 a.1 c.1.1,(cM .i64 a.2.1 (1:Int),())))else some (.inr (.inl (a.1,(a.2.1,()))))
def Kh:FQ->Option sF:=λc=>(aR (Kh.b0 c) ((0:Int),((0:Int),()))).bind λb=>Sum.elim (λa=>some ((a.1,()),())) some b
def ac3:zi:=⟨OM,ac2,Kh⟩
def ac4:=OM
def ac5:=o7
def Ki.b0(b:FQ):(a:ix)->Option Ev:=λa=>bif dO a.1 (List.length b.1.1:Int)then(bK b.1.1 a.1).bind λd=>(Kg (d,())).bind λe=>bif (!e.1.1)then some (.inr (.inr ((false,()),())))else bif dO (0:Int) a.1 then (bK b.1.1 (gS .i64 a.1 (1:Int))).bind λc=>(bK b.1.1 a.1).bind λf=>bif !ob c.1 f.1 then some (.inr (.inr ((false,()),()))) else some (.inl (cM .i64 a.1 (1:Int),())) else some (.inl (cM .i64 a.1 (1:Int),())) else some (.inr (.inl (a.1,())))
def Ki:FQ->Option lf:=λa=>(aR (Ki.b0 a) ((0:Int),())).bind λc=>Sum.elim (λd=>bif km (List.length a.1.1:Int) (12:Int)then (Kh (a.1,())).bind λb=>some ((km b.1.1 (1000000:Int),()),())else some ((false,()),())) some c
def ac6:zi:=⟨ac4,ac5,Ki⟩
def Qo:Gs:=[Qb]
def o68:=o7
def SH:tS->Option lf:=λa=>(lh ((a.1.1,()),(((0:Int),()),(((900:Int),()),())))).bind λb=>bif b.1.1 then (Ki ((a.1.2.1,()),())).bind λc=>some (c.1,())else some ((false,()),())
def c68:zi:=⟨Qo,o68,SH⟩
def XL:Gs:=[UQ]
def o70:=o7
def Nz.b0(b:K8):(a:ix)->Option Ev:=λa=>bif dO a.1 (List.length b.1.1:Int)then(bK b.1.1 a.1).bind λd=>(Ey (d,())).bind λe=>bif (!e.1.1)then some (.inr (.inr ((false,()),())))else bif dO (0:Int) a.1 then (bK b.1.1 (gS .i64 a.1 (1:Int))).bind λc=>(bK b.1.1 a.1).bind λf=>bif !ob c.1 f.1 then some (.inr (.inr ((false,()),()))) else some (.inl (cM .i64 a.1 (1:Int),())) else some (.inl (cM .i64 a.1 (1:Int),())) else some (.inr (.inl (a.1,())))
def Nz:K8->Option lf:=λa=>(aR (Nz.b0 a) ((0:Int),())).bind λb=>Sum.elim (λc=>some ((km (List.length a.1.1:Int) (20:Int),()),())) some b
def c70:zi:=⟨XL,o70,Nz⟩
def XM:=OM
def Ta:Gs:=[⟨.c,(.cons (.sl cz) .nil),[(.own m0)]⟩]
def FU.b0(c:FQ):(b:(List (bF)×ix))->Option (Sum (List (bF)×ix) (Sum (List (bF)×ix) FQ)):=λb=>bif dO b.2.1 (List.length c.1.1:Int) then (bK c.1.1 b.2.1).bind λa=>bif dE (List.length ([]:List (e6))+List.length a.2.2.2.2.1) 16 then bif dE (List.length b.1+List.length ([(a.1,(a.2.1,(a.2.2.1,(a.2.2.2.1,(bV ([]:List (e6)) a.2.2.2.2.1,())))))]:List (bF))) 64 then some (.inl (bV b.1 ([(a.1,(a.2.1,(a.2.2.1,(a.2.2.2.1,(bV ([]:List (e6)) a.2.2.2.2.1,())))))]:List (bF)),(cM .i64 b.2.1 (1:Int),()))) else none else none else some (.inr (.inl (b.1,(b.2.1,()))))
def FU:FQ->Option FQ:=λa=>(aR (FU.b0 a) (([]:List (bF)),((0:Int),()))).bind λc=>Sum.elim (λb=>some ((b.1,()),())) some c
def ac7:zi:=⟨XM,Ta,FU⟩
def XN:=Qo
def Tb:Gs:=[XH]
def Fc:tS->Option tS:=λa=>(FU ((a.1.2.1,()),())).bind λb=>some ((a.1.1,(b.1.1,())),())
def ac8:zi:=⟨XN,Tb,Fc⟩
def VF:Gs:=[UQ,P8]
def ac9:=o7
def FV.b0(b:(I7×Em)):(a:ix)->Option Ev:=λa=>bif dO a.1 (List.length b.1.1:Int)then(bK b.1.1 a.1).bind λc=>bif ko c.1 b.2.1.1 then some (.inr (.inr ((true,()),())))else some (.inl (cM .i64 a.1 (1:Int),()))else some (.inr (.inl (a.1,())))
def FV:(I7×Em)->Option lf:=λa=>(aR (FV.b0 a) ((0:Int),())).bind λb=>Sum.elim (λc=>some ((false,()),())) some b
def ad0:zi:=⟨VF,ac9,FV⟩
def i69:=Qo
def ZK:Gs:=[Xy]
def SJ.b0(b:tS):(a:OK)->Option (Sum OK (Sum OK B9)):=λa=>bif dO a.2.1 (List.length b.1.2.1:Int)then (bK b.1.2.1 a.2.1).bind λe=>bif km (5:Int) e.2.2.2.1 then (bK b.1.2.1 a.2.1).bind λd=>(bK b.1.2.1 a.2.1).bind λc=>bif dE (List.length a.1+List.length ([(d.1,(c.2.2.2.1,()))]:List (ds))) 24 then some (.inl (bV a.1 ([(d.1,(c.2.2.2.1,()))]:List (ds)),(cM .i64 a.2.1 (1:Int),()))) else none else some (.inl (a.1,(cM .i64 a.2.1 (1:Int),()))) else some (.inr (.inl (a.1,(a.2.1,()))))
def SJ:tS->Option B9:=λb=>(aR (SJ.b0 b) (([]:List (ds)),((0:Int),()))).bind λa=>Sum.elim (λc=>some ((c.1,()),())) some a
def c69:zi:=⟨i69,ZK,SJ⟩
def ad1:Gs:=[P8,Qb]
def XO:Gs:=[⟨.agg,HT,m3⟩]
def Tc:((ByteArray×Unit)×tS)->Option AN:=λa=>(Ey (a.1,())).bind λc=>bif (!c.1.1)then some ((⟨#[]⟩,((0:Int),((0:Int),([],([],([],((0:Int),((0:Int),((0:Int),((0:Int),([],((0:Int),([],([],((0:Int),([],([],([],([],([],())))))))))))))))))))),())else (SH (a.2.1,())).bind λd=>bif (!d.1.1)then some ((⟨#[]⟩,((0:Int),((0:Int),([],([],([],((0:Int),((0:Int),((0:Int),((0:Int),([],((0:Int),([],([],((0:Int),([],([],([],([],([],())))))))))))))))))))),())else (Fc (a.2.1,())).bind λb=>(SJ (a.2.1,())).bind λe=>some ((a.1.1,(a.2.1.1,(b.1.1,(b.1.2.1,(e.1.1,([],((1:Int),((0:Int),((0:Int),((-1:Int),([],((0:Int),([],([],((0:Int),([],([],([],([],([],())))))))))))))))))))),())
def ad2:zi:=⟨ad1,XO,Tc⟩
def i61:Gs:=[Qb,UQ]
def o61:Gs:=[Xz]
def Td.b0(b:(Jz×K8)):(a:Vu)->Option (Sum Vu (Sum Vu sG)):=λa=>bif dO a.1 (List.length b.1.2.1:Int)then (bK b.1.2.1 a.1).bind λe=>(FV (b.2.1,((e.1,()),()))).bind λf=>bif (!f.1.1)then (bK b.1.2.1 a.1).bind λd=>(Tc ((d.1,()),(b.1,()))).bind λc=>bif dE (List.length a.2.1+List.length ([c.1]:List (Fh))) 344 then some (.inl (cM .i64 a.1 (1:Int),(bV a.2.1 ([c.1]:List (Fh)),())))else none else some (.inl (cM .i64 a.1 (1:Int),(a.2.1,())))else some (.inr (.inl (a.1,(a.2.1,()))))
def Td:(Jz×K8)->Option sG:=λa=>(SH (a.1,())).bind λd=>bif (!d.1.1)then some (((0:Int),([],([],([],([],([],([],()))))))),())else (Nz (a.2.1,())).bind λe=>bif (!e.1.1)then some (((0:Int),([],([],([],([],([],([],()))))))),())else (Fc (a.1,())).bind λb=>bif dE (List.length ([]:List (D9))+List.length a.2.1.1) 16 then (aR (Td.b0 a) ((0:Int),([],()))).bind λc=>Sum.elim (λf=>some ((b.1.1,(b.1.2.1,(bV ([]:List (D9)) a.2.1.1,(f.2.1,([],([],([],()))))))),())) some c else none
def c61:zi:=⟨i61,o61,Td⟩
def ad3:Gs:=[P9,ED]
def ad4:=HY
def Kj:(Kb×sF)->Option Em:=λa=>bif gA (List.length a.1.1:Int) (0:Int)then some ((⟨#[]⟩,()),())else bif dO a.2.1.1 (0:Int)then some ((⟨#[]⟩,()),())else bif gA (List.length a.1.1:Int) 0 then none else (bK a.1.1 (ph a.2.1.1 (List.length a.1.1:Int))).bind λb=>some ((b.1,()),())
def ad5:zi:=⟨ad3,ad4,Kj⟩
def ad6:Gs:=[MD,UQ]
def XP:Gs:=[P8,MD]
def Te:(HV×K8)->Option ((ByteArray×Unit)×w7):=λa=>(I0 (a.1,(((List.length a.2.1.1:Int),()),()))).bind λb=>(bK a.2.1.1 b.1.1).bind λc=>some (c,(b.2.1,()))
def ad7:zi:=⟨ad6,XP,Te⟩
def ad8:=S8
def ad9:=XP
def Qp:w7->Option ((ByteArray×Unit)×w7):=λb=>(Te (b.1,((([(⟨#[97]⟩,()),(⟨#[98]⟩,()),(⟨#[99]⟩,()),(⟨#[100]⟩,()),(⟨#[101]⟩,()),(⟨#[97,49]⟩,())]:List (D9)),()),()))).bind λa=>some (a.1,(a.2.1,()))
def ae0:zi:=⟨ad8,ad9,Qp⟩
def ae1:=S8
def XQ:Gs:=[Lb,MD]
def Qq:w7->Option (cl×w7):=λh=>(I0 (h.1,(((3:Int),()),()))).bind λd=>(Qp (d.2.1,())).bind λe=>(Kf (e.2.1,((([((1:Int),()),((5:Int),()),((10:Int),()),((3:Int),()),((200:Int),())]:List (D3)),()),()))).bind λf=>(I0 (f.2.1,(((4:Int),()),()))).bind λa=>Option.bind (bif gA (cM .i64 (1:Int) d.1.1) (1:Int) then (Qp (a.2.1,())).bind λb=>some (.inl (b.2.1.1,(b.2.1.2.1,(b.2.1.2.2.1,(b.1.1,()))))) else some (.inl (a.2.1.1,(a.2.1.2.1,(a.2.1.2.2.1,(⟨#[]⟩,())))))) λg=>Sum.elim (λc=>some ((cM .i64 (1:Int) d.1.1,(e.1.1,(c.2.2.2.1,(f.1.1,(a.1.1,()))))),((c.1,(c.2.1,(c.2.2.1,()))),()))) some g
def ae2:zi:=⟨ae1,XQ,Qq⟩
def ae3:Gs:=[MD,Qb]
def ae4:=XQ
def Tf:(HV×tS)->Option (cl×w7):=λe=>(Qq (e.1,())).bind λa=>Option.bind (bif dO (0:Int) (List.length e.2.1.2.1:Int)then (Qn (a.2.1,(((5:Int),()),()))).bind λb=>bif (!b.1.1)then (I0 (b.2.1,(((List.length e.2.1.2.1:Int),()),()))).bind λd=>(bK e.2.1.2.1 d.1.1).bind λf=>some (.inl (d.2.1.1,(d.2.1.2.1,(d.2.1.2.2.1,(f.1,(f.2.2.1,()))))))else some (.inl (b.2.1.1,(b.2.1.2.1,(b.2.1.2.2.1,(a.1.2.1,(a.1.2.2.2.2.1,()))))))else some (.inl (a.2.1.1,(a.2.1.2.1,(a.2.1.2.2.1,(a.1.2.1,(a.1.2.2.2.2.1,()))))))) λg=>Sum.elim (λc=>some ((a.1.1,(c.2.2.2.1,(a.1.2.2.1,(a.1.2.2.2.1,(c.2.2.2.2.1,()))))),((c.1,(c.2.1,(c.2.2.1,()))),()))) some g
def ae5:zi:=⟨ae3,ae4,Tf⟩
def Qr:Gs:=[I8]
def XR:Gs:=[XB]
def Fw:Ex->Option Ex:=λa=>bif dE (List.length ([]:List (D9))+List.length a.1.2.2.1) 16 then some ((a.1.1,(a.1.2.1,(bV ([]:List (D9)) a.1.2.2.1,()))),()) else none
def ae6:zi:=⟨Qr,XR,Fw⟩
def ON:Gs:=[MK]
def XS:Gs:=[XC]
def HZ:EH->Option EH:=λa=>bif dE (List.length ([]:List (D9))+List.length a.1.2.1) 16 then bif dE (List.length ([]:List (D3))+List.length a.1.2.2.1) 8 then some ((a.1.1,(bV ([]:List (D9)) a.1.2.1,(bV ([]:List (D3)) a.1.2.2.1,()))),()) else none else none
def ae7:zi:=⟨ON,XS,HZ⟩
def Lc:Gs:=[OL]
def VG:Gs:=[aa2]
def H0:D8->Option D8:=λa=>(Fw ((a.1.2.2.2.2.1,(a.1.2.2.2.2.2.1,(a.1.2.2.2.2.2.2.1,()))),())).bind λb=>(HZ ((a.1.2.2.2.2.2.2.2.1,(a.1.2.2.2.2.2.2.2.2.1,(a.1.2.2.2.2.2.2.2.2.2.1,()))),())).bind λc=>bif dE (List.length ([]:List (cl))+List.length a.1.2.2.2.2.2.2.2.2.2.2.1) 56 then bif dE (List.length ([]:List (ds))+List.length a.1.2.2.2.2.2.2.2.2.2.2.2.2.1) 24 then some ((a.1.1,(a.1.2.1,(a.1.2.2.1,(a.1.2.2.2.1,(b.1.1,(b.1.2.1,(b.1.2.2.1,(c.1.1,(c.1.2.1,(c.1.2.2.1,(bV ([]:List (cl)) a.1.2.2.2.2.2.2.2.2.2.2.1,(a.1.2.2.2.2.2.2.2.2.2.2.2.1,(bV ([]:List (ds)) a.1.2.2.2.2.2.2.2.2.2.2.2.2.1,(a.1.2.2.2.2.2.2.2.2.2.2.2.2.2.1,())))))))))))))),()) else none else none
def ae8:zi:=⟨Lc,VG,H0⟩
def Qs:Gs:=[S5]
def OO:Gs:=[aa3]
def CV.b0(c:Ht):(a:K6)->Option Vp:=λa=>bif dO a.2.1 (List.length c.1.1:Int)then(bK c.1.1 a.2.1).bind λd=>(H0 (d,())).bind λb=>bif dE (List.length a.1+List.length ([b.1]:List (tR))) 208 then some (.inl (bV a.1 ([b.1]:List (tR)),(cM .i64 a.2.1 (1:Int),())))else none else some (.inr (.inl (a.1,(a.2.1,()))))
def CV:Ht->Option Ht:=λc=>(aR (CV.b0 c) (([]:List (tR)),((0:Int),()))).bind λb=>Sum.elim (λa=>some ((a.1,()),())) some b
def ae9:zi:=⟨Qs,OO,CV⟩
def XT:Gs:=[Vw]
def XU:Gs:=[XD]
def Tg:(Ka×Unit)->Option (Ka×Unit):=λa=>(CV ((a.1.2.1,()),())).bind λc=>(Fw ((a.1.2.2.1,(a.1.2.2.2.1,(a.1.2.2.2.2.1,()))),())).bind λb=>some ((a.1.1,(c.1.1,(b.1.1,(b.1.2.1,(b.1.2.2.1,()))))),())
def af0:zi:=⟨XT,XU,Tg⟩
def af1:Gs:=[S6]
def af2:=XO
def Kk.b0(b:AN):(a:Vt)->Option (Sum Vt (Sum Vt AN)):=λa=>bif dO a.1 (List.length b.1.2.2.2.2.2.2.2.2.2.2.2.2.2.2.2.2.2.2.2.1:Int)then (bK b.1.2.2.2.2.2.2.2.2.2.2.2.2.2.2.2.2.2.2.2.1 a.1).bind λd=>(Tg (d,())).bind λc=>bif dE (List.length a.2.1+List.length ([c.1]:List (Ka))) 72 then some (.inl (cM .i64 a.1 (1:Int),(bV a.2.1 ([c.1]:List (Ka)),())))else none else some (.inr (.inl (a.1,(a.2.1,()))))
def Kk:AN->Option AN:=λa=>(Fc ((a.1.2.2.1,(a.1.2.2.2.1,())),())).bind λd=>bif dE (List.length ([]:List (ds))+List.length a.1.2.2.2.2.1) 24 then (CV ((a.1.2.2.2.2.2.1,()),())).bind λe=>(Fw ((a.1.2.2.2.2.2.2.2.2.1,(a.1.2.2.2.2.2.2.2.2.2.1,(a.1.2.2.2.2.2.2.2.2.2.2.1,()))),())).bind λc=>(HZ ((a.1.2.2.2.2.2.2.2.2.2.2.2.1,(a.1.2.2.2.2.2.2.2.2.2.2.2.2.1,(a.1.2.2.2.2.2.2.2.2.2.2.2.2.2.1,()))),())).bind λb=>bif dE (List.length ([]:List (tb))+List.length a.1.2.2.2.2.2.2.2.2.2.2.2.2.2.2.2.1) 32 then bif dE (List.length ([]:List (pf))+List.length a.1.2.2.2.2.2.2.2.2.2.2.2.2.2.2.2.2.1) 32 then bif dE (List.length ([]:List (D3))+List.length a.1.2.2.2.2.2.2.2.2.2.2.2.2.2.2.2.2.2.1) 8 then bif dE (List.length ([]:List (cl))+List.length a.1.2.2.2.2.2.2.2.2.2.2.2.2.2.2.2.2.2.2.1) 56 then (aR (Kk.b0 a) ((0:Int),(([]:List (Ka)),()))).bind λf=>Sum.elim (λg=>some ((a.1.1,(a.1.2.1,(d.1.1,(d.1.2.1,(bV ([]:List (ds)) a.1.2.2.2.2.1,(e.1.1,(a.1.2.2.2.2.2.2.1,(a.1.2.2.2.2.2.2.2.1,(c.1.1,(c.1.2.1,(c.1.2.2.1,(b.1.1,(b.1.2.1,(b.1.2.2.1,(a.1.2.2.2.2.2.2.2.2.2.2.2.2.2.2.1,(bV ([]:List (tb)) a.1.2.2.2.2.2.2.2.2.2.2.2.2.2.2.2.1,(bV ([]:List (pf)) a.1.2.2.2.2.2.2.2.2.2.2.2.2.2.2.2.2.1,(bV ([]:List (D3)) a.1.2.2.2.2.2.2.2.2.2.2.2.2.2.2.2.2.2.1,(bV ([]:List (cl)) a.1.2.2.2.2.2.2.2.2.2.2.2.2.2.2.2.2.2.2.1,(g.2.1,())))))))))))))))))))),())) some f else none else none else none else none else none
def af3:zi:=⟨af1,af2,Kk⟩
def af4:Gs:=[Lb,Lb]
def af5:=o7
def Qt:(cl×MI)->Option lf:=λa=>bif !ko a.1.2.1 a.2.1.2.1 then some ((ob a.1.2.1 a.2.1.2.1,()),())else bif !gA a.1.2.2.2.2.1 a.2.1.2.2.2.2.1 then some ((dO a.1.2.2.2.2.1 a.2.1.2.2.2.2.1,()),())else bif !gA a.1.1 a.2.1.1 then some ((dO a.1.1 a.2.1.1,()),())else bif !ko a.1.2.2.1 a.2.1.2.2.1 then some ((ob a.1.2.2.1 a.2.1.2.2.1,()),())else some ((dO a.1.2.2.2.1 a.2.1.2.2.2.1,()),())
def af6:zi:=⟨af4,af5,Qt⟩
def XV:Gs:=[Lb]
def af7:=o7
def OP:MI->Option lf:=λa=>(Ey ((a.1.2.1,()),())).bind λb=>bif (!b.1.1)then some ((false,()),())else (lh ((a.1.2.2.2.1,()),(((1:Int),()),(((1000000:Int),()),())))).bind λc=>bif (!c.1.1)then some ((false,()),())else (lh ((a.1.2.2.2.2.1,()),(((0:Int),()),(((10000:Int),()),())))).bind λf=>bif (!f.1.1)then some ((false,()),())else bif gA a.1.1 (1:Int)then (Ey ((a.1.2.2.1,()),())).bind λe=>some (e.1,())else (lh ((a.1.1,()),(((2:Int),()),(((3:Int),()),())))).bind λd=>bif d.1.1 then some ((ko a.1.2.2.1 ⟨#[]⟩,()),())else some ((false,()),())
def af8:zi:=⟨XV,af7,OP⟩
def VH:Gs:=[ML]
def af9:=o7
def Ja.b0(b:FT):(a:ix)->Option Ev:=λa=>bif dO a.1 (List.length b.1.1:Int)then(bK b.1.1 a.1).bind λd=>(OP (d,())).bind λe=>bif (!e.1.1)then some (.inr (.inr ((false,()),())))else bif dO (0:Int) a.1 then (bK b.1.1 (gS .i64 a.1 (1:Int))).bind λc=>(bK b.1.1 a.1).bind λf=>(Qt (c,(f,()))).bind λg=>bif (!g.1.1) then some (.inr (.inr ((false,()),()))) else some (.inl (cM .i64 a.1 (1:Int),())) else some (.inl (cM .i64 a.1 (1:Int),())) else some (.inr (.inl (a.1,())))
def Ja:FT->Option lf:=λa=>(aR (Ja.b0 a) ((0:Int),())).bind λb=>Sum.elim (λc=>some ((km (List.length a.1.1:Int) (20:Int),()),())) some b
def ag0:zi:=⟨VH,af9,Ja⟩
def ag1:Gs:=[ML,Lb]
def ag2:Gs:=[S7,P7]
def Ld.b0(f:(GJ×MI)):(a:Vr)->Option (Sum Vr (Sum Vr ((GJ×lf)))):=λa=>bif dO (0:Int) a.1 then (bK a.2.1 (gS .i64 a.1 (1:Int))).bind λ_=>(aC a.2.1 (Int.toNat (gS .i64 a.1 (1:Int)))).bind λd=>(Qt (f.2.1,(d,()))).bind λe=>bif e.1.1 then (bK a.2.1 (gS .i64 a.1 (1:Int))).bind λ_=>(aC a.2.1 (Int.toNat (gS .i64 a.1 (1:Int)))).bind λb=>(bK a.2.1 a.1).bind λ_=>(aC a.2.1 (Int.toNat a.1)).bind λg=>(some (List.set a.2.1 (Int.toNat a.1) (b.1,(b.2.1,(b.2.2.1,(b.2.2.2.1,(b.2.2.2.2.1,()))))))).bind λc=>some (.inl (gS .i64 a.1 (1:Int),(c,()))) else some (.inr (.inl (a.1,(a.2.1,())))) else some (.inr (.inl (a.1,(a.2.1,()))))
def Ld:(GJ×MI)->Option ((GJ×lf)):=λa=>bif dE (List.length ([]:List (cl))+List.length a.1.1) 56 then bif dE (List.length (bV ([]:List (cl)) a.1.1)+List.length ([a.2.1]:List (cl))) 56 then (aR (Ld.b0 a) (gS .i64 (List.length (bV (bV ([]:List (cl)) a.1.1) ([a.2.1]:List (cl))):Int) (1:Int),(bV (bV ([]:List (cl)) a.1.1) ([a.2.1]:List (cl)),()))).bind λf=>Sum.elim (λb=>(bK b.2.1 b.1).bind λ_=>(aC b.2.1 (Int.toNat b.1)).bind λg=>(some (List.set b.2.1 (Int.toNat b.1) (a.2.1.1,(a.2.1.2.1,(a.2.1.2.2.1,(a.2.1.2.2.2.1,(a.2.1.2.2.2.2.1,()))))))).bind λc=>(Ja (a.1,())).bind λd=>bif (!d.1.1) then bif dE (List.length ([]:List (cl))+List.length a.1.1) 56 then some ((bV ([]:List (cl)) a.1.1,()),((false,()),())) else none else (Ja ((c,()),())).bind λe=>bif (!e.1.1) then bif dE (List.length ([]:List (cl))+List.length a.1.1) 56 then some ((bV ([]:List (cl)) a.1.1,()),((false,()),())) else none else some ((c,()),((true,()),()))) some f else none else none
def ag3:zi:=⟨ag1,ag2,Ld⟩
def ag4:=ZJ
def ag5:Gs:=[S7,MD]
def MN.b0:(a:Vk)->Option (Sum Vk (Sum Vk (GJ×w7))):=λa=>bif dO (0:Int) a.2.1 then (Qq ((a.2.2.1,(a.2.2.2.1,(a.2.2.2.2.1,()))),())).bind λb=>(Ld ((a.1,()),(b.1,()))).bind λc=>some (.inl (c.1.1,(gS .i64 a.2.1 (1:Int),(b.2.1.1,(b.2.1.2.1,(b.2.1.2.2.1,())))))) else some (.inr (.inl (a.1,(a.2.1,(a.2.2.1,(a.2.2.2.1,(a.2.2.2.2.1,())))))))
def MN:(HV×sF)->Option (GJ×w7):=λc=>(I0 (c.1,(c.2.1,()))).bind λa=>(aR MN.b0 (([]:List (cl)),(a.1.1,(a.2.1.1,(a.2.1.2.1,(a.2.1.2.2.1,())))))).bind λd=>Sum.elim (λb=>some ((b.1,()),((b.2.2.1,(b.2.2.2.1,(b.2.2.2.2.1,()))),()))) some d
def ag6:zi:=⟨ag4,ag5,MN⟩
def XW:Gs:=[P9,P8]
def ag7:=o7
def FW.b0(b:(Kb×Em)):(a:ix)->Option Ev:=λa=>bif dO a.1 (List.length b.1.1:Int)then(bK b.1.1 a.1).bind λc=>bif ko c.1 b.2.1.1 then some (.inr (.inr ((true,()),())))else some (.inl (cM .i64 a.1 (1:Int),()))else some (.inr (.inl (a.1,())))
def FW:(Kb×Em)->Option lf:=λa=>(aR (FW.b0 a) ((0:Int),())).bind λb=>Sum.elim (λc=>some ((false,()),())) some b
def ag8:zi:=⟨XW,ag7,FW⟩
def ag9:=Qr
def ah0:=o7
def Kl:Ex->Option lf:=λa=>bif gA a.1.1 (0:Int)then bif gA a.1.2.1 (-1:Int)then some ((gA (List.length a.1.2.2.1:Int) (0:Int),()),())else some ((false,()),())else some ((false,()),())
def ah1:zi:=⟨ag9,ah0,Kl⟩
def ah2:=Lc
def ah3:=o7
def Th:D8->Option lf:=λa=>(Kl ((a.1.2.2.2.2.1,(a.1.2.2.2.2.2.1,(a.1.2.2.2.2.2.2.1,()))),())).bind λb=>bif b.1.1 then some ((true,()),())else (lh ((a.1.2.2.2.2.1,()),(((1:Int),()),((gS .i64 a.1.2.2.1 (1:Int),()),())))).bind λc=>bif c.1.1 then (lh ((a.1.2.2.2.2.2.1,()),(((0:Int),()),((gS .i64 a.1.1 (1:Int),()),())))).bind λe=>bif e.1.1 then (Nz ((a.1.2.2.2.2.2.2.1,()),())).bind λd=>some (d.1,())else some ((false,()),())else some ((false,()),())
def ah4:zi:=⟨ah2,ah3,Th⟩
def ah5:=ON
def ah6:=o7
def Hw:EH->Option lf:=λa=>bif gA a.1.1 (0:Int)then bif gA (List.length a.1.2.1:Int) (0:Int)then some ((gA (List.length a.1.2.2.1:Int) (0:Int),()),())else some ((false,()),())else some ((false,()),())
def ah7:zi:=⟨ah5,ah6,Hw⟩
def ah8:=Lc
def ah9:=o7
def Km.b0(b:D8):(a:ix)->Option Ev:=λa=>bif dO a.1 (List.length b.1.2.2.2.2.2.2.2.2.2.1:Int)then(bK b.1.2.2.2.2.2.2.2.2.2.1 a.1).bind λc=>(lh (c,(((0:Int),()),((gS .i64 b.1.2.2.2.2.2.2.2.1 (1:Int),()),())))).bind λd=>bif (!d.1.1)then some (.inr (.inr ((false,()),())))else some (.inl (cM .i64 a.1 (1:Int),()))else some (.inr (.inl (a.1,())))
def Km:D8->Option lf:=λa=>(Hw ((a.1.2.2.2.2.2.2.2.1,(a.1.2.2.2.2.2.2.2.2.1,(a.1.2.2.2.2.2.2.2.2.2.1,()))),())).bind λb=>bif b.1.1 then some ((true,()),())else (lh ((a.1.2.2.2.2.2.2.2.1,()),(((1:Int),()),((gS .i64 a.1.2.2.1 (1:Int),()),())))).bind λc=>bif (!c.1.1)then some ((false,()),())else (Nz ((a.1.2.2.2.2.2.2.2.2.1,()),())).bind λe=>bif (!e.1.1)then some ((false,()),())else bif !gA (List.length a.1.2.2.2.2.2.2.2.2.2.1:Int) (List.length a.1.2.2.2.2.2.2.2.2.1:Int)then some ((false,()),())else (aR (Km.b0 a) ((0:Int),())).bind λd=>Sum.elim (λf=>some ((true,()),())) some d
def ai0:zi:=⟨ah8,ah9,Km⟩
def Qu:Gs:=[P9]
def ai1:=o7
def Kn.b0(b:B9):(a:ix)->Option Ev:=λa=>bif dO a.1 (List.length b.1.1:Int)then(bK b.1.1 a.1).bind λe=>(Ey ((e.1,()),())).bind λg=>bif (!g.1.1)then some (.inr (.inr ((false,()),())))else (bK b.1.1 a.1).bind λc=>(lh ((c.2.1,()),(((1:Int),()),(((1000000:Int),()),())))).bind λf=>bif (!f.1.1)then some (.inr (.inr ((false,()),())))else bif dO (0:Int) a.1 then (bK b.1.1 (gS .i64 a.1 (1:Int))).bind λd=>(bK b.1.1 a.1).bind λh=>bif !ob d.1 h.1 then some (.inr (.inr ((false,()),()))) else some (.inl (cM .i64 a.1 (1:Int),())) else some (.inl (cM .i64 a.1 (1:Int),())) else some (.inr (.inl (a.1,())))
def Kn:B9->Option lf:=λa=>(aR (Kn.b0 a) ((0:Int),())).bind λc=>Sum.elim (λd=>(lh (((List.length a.1.1:Int),()),(((1:Int),()),(((12:Int),()),())))).bind λb=>some (b.1,())) some c
def ai2:zi:=⟨Qu,ai1,Kn⟩
def i71:=Lc
def o71:=o7
def OQ.b0(b:D8):(a:ix)->Option Ev:=λa=>bif dO a.1 (List.length b.1.2.2.2.2.2.2.2.2.2.2.1:Int)then(bK b.1.2.2.2.2.2.2.2.2.2.2.1 a.1).bind λc=>(OP (c,())).bind λd=>bif (!d.1.1)then some (.inr (.inr ((false,()),())))else some (.inl (cM .i64 a.1 (1:Int),()))else some (.inr (.inl (a.1,())))
def OQ:D8->Option lf:=λa=>(lh ((a.1.1,()),(((0:Int),()),(((100000:Int),()),())))).bind λd=>bif (!d.1.1)then some ((false,()),())else (lh ((a.1.2.1,()),(((0:Int),()),(((900:Int),()),())))).bind λe=>bif (!e.1.1)then some ((false,()),())else (lh ((a.1.2.2.1,()),(((1:Int),()),(((10000:Int),()),())))).bind λh=>bif (!h.1.1)then some ((false,()),())else (Ey ((a.1.2.2.2.1,()),())).bind λg=>bif (!g.1.1)then some ((false,()),())else (Th (a.1,())).bind λf=>bif (!f.1.1)then some ((false,()),())else (Km (a.1,())).bind λi=>bif (!i.1.1)then some ((false,()),())else bif dO (4:Int) (List.length a.1.2.2.2.2.2.2.2.2.2.2.1:Int)then some ((false,()),())else (aR (OQ.b0 a) ((0:Int),())).bind λc=>Sum.elim (λj=>bif (!a.1.2.2.2.2.2.2.2.2.2.2.2.1)then bif gA (List.length a.1.2.2.2.2.2.2.2.2.2.2.2.2.1:Int) (0:Int)then some ((ko a.1.2.2.2.2.2.2.2.2.2.2.2.2.2.1 ⟨#[]⟩,()),())else some ((false,()),())else (Kn ((a.1.2.2.2.2.2.2.2.2.2.2.2.2.1,()),())).bind λb=>bif b.1.1 then some ((gA (ByteArray.size a.1.2.2.2.2.2.2.2.2.2.2.2.2.2.1:Int) (32:Int),()),())else some ((false,()),())) some c
def c71:zi:=⟨i71,o71,OQ⟩
def Qv:Gs:=[S5,ED]
def ai3:=IZ
def Fx.b0(b:HW):(a:ix)->Option K7:=λa=>bif dO a.1 (List.length b.1.1:Int)then(bK b.1.1 a.1).bind λc=>bif gA c.1 b.2.1.1 then some (.inr (.inr ((a.1,()),())))else some (.inl (cM .i64 a.1 (1:Int),()))else some (.inr (.inl (a.1,())))
def Fx:HW->Option sF:=λa=>(aR (Fx.b0 a) ((0:Int),())).bind λb=>Sum.elim (λc=>some (((-1:Int),()),())) some b
def ai4:zi:=⟨Qv,ai3,Fx⟩
def ai5:=Qs
def ai6:=o7
def Jb.b0(c:Ht):(a:ix)->Option Ev:=λa=>bif dO a.1 (List.length c.1.1:Int)then(bK c.1.1 a.1).bind λb=>Option.bind ((OQ (b,())).bind λh=>bif (!h.1.1)then some (.inr (.inr (.inr ((false,()),()))))else (bK c.1.1 (0:Int)).bind λg=>bif !gA b.2.1 g.2.1 then some (.inr (.inr (.inr ((false,()),()))))else bif dO (0:Int) a.1 then (bK c.1.1 (gS .i64 a.1 (1:Int))).bind λi=>bif km b.1 i.1 then some (.inr (.inr (.inr ((false,()),())))) else some (.inl ()) else some (.inl ())) λf=>Sum.elim (λk=>(Kl ((b.2.2.2.2.1,(b.2.2.2.2.2.1,(b.2.2.2.2.2.2.1,()))),())).bind λj=>bif (!j.1.1) then bif mX a.1 (List.length c.1.1) then (Fx ((List.take ((Int.toNat a.1)-0) (List.drop 0 c.1.1),()),((b.2.2.2.2.2.1,()),()))).bind λd=>bif dO d.1.1 (0:Int) then some (.inr (.inr ((false,()),()))) else (bK c.1.1 d.1.1).bind λe=>bif !gA e.2.2.1 b.2.2.2.2.1 then some (.inr (.inr ((false,()),()))) else some (.inl (cM .i64 a.1 (1:Int),())) else none else some (.inl (cM .i64 a.1 (1:Int),()))) some f else some (.inr (.inl (a.1,())))
def Jb:Ht->Option lf:=λa=>(aR (Jb.b0 a) ((0:Int),())).bind λb=>Sum.elim (λc=>some ((km (List.length a.1.1:Int) (400:Int),()),())) some b
def ai7:zi:=⟨ai5,ai6,Jb⟩
def ai8:=Qv
def ai9:=o7
def Qw:HW->Option lf:=λa=>(Jb (a.1,())).bind λb=>bif b.1.1 then bif gA a.2.1.1 (-1:Int)then some ((true,()),())else (Fx (a.1,(a.2.1,()))).bind λc=>some ((km (0:Int) c.1.1,()),()) else some ((false,()),())
def aj0:zi:=⟨ai8,ai9,Qw⟩
def aj1:=Qv
def Qx:Gs:=[aa0]
def Fy.b0(c:HW):(a:OI)->Option (Sum OI (Sum OI Fb)):=λa=>bif km (0:Int) a.1 then (Fx (c.1,((a.1,()),()))).bind λb=>bif dO b.1.1 (0:Int) then some (.inr (.inr ((([]:List (D3)),()),()))) else bif dE (List.length ([b.1]:List (D3))+List.length a.2.1) 8 then (bK c.1.1 b.1.1).bind λd=>some (.inl (d.2.2.2.2.2.1,(bV ([b.1]:List (D3)) a.2.1,()))) else none else some (.inr (.inl (a.1,(a.2.1,()))))
def Fy:HW->Option Fb:=λa=>(aR (Fy.b0 a) (a.2.1.1,(([]:List (D3)),()))).bind λc=>Sum.elim (λb=>some ((b.2.1,()),())) some c
def aj2:zi:=⟨aj1,Qx,Fy⟩
def aj3:=Qv
def aj4:=o7
def Le.b0(b:Fb)(d:HW):(a:ix)->Option Ev:=λa=>bif dO a.1 (List.length b.1.1:Int)then(bK b.1.1 a.1).bind λ_=>(aC b.1.1 (Int.toNat a.1)).bind λe=>(bK d.1.1 e.1).bind λc=>bif c.2.2.2.2.2.2.2.2.2.2.2.1 then some (.inr (.inr ((true,()),())))else some (.inl (cM .i64 a.1 (1:Int),()))else some (.inr (.inl (a.1,())))
def Le:HW->Option lf:=λa=>(Fy (a.1,(a.2.1,()))).bind λc=>(aR (Le.b0 c a) ((0:Int),())).bind λb=>Sum.elim (λd=>some ((false,()),())) some b
def aj5:zi:=⟨aj3,aj4,Le⟩
def XX:Gs:=[Xx,P8]
def aj6:=IZ
def Hx.b0(b:SY):(a:ix)->Option K7:=λa=>bif dO a.1 (List.length b.1.1:Int)then(bK b.1.1 a.1).bind λc=>bif ko c.1 b.2.1.1 then some (.inr (.inr ((a.1,()),())))else some (.inl (cM .i64 a.1 (1:Int),()))else some (.inr (.inl (a.1,())))
def Hx:SY->Option sF:=λa=>(aR (Hx.b0 a) ((0:Int),())).bind λb=>Sum.elim (λc=>some (((-1:Int),()),())) some b
def aj7:zi:=⟨XX,aj6,Hx⟩
def aj8:=OM
def VI:Gs:=[aa6]
def aj9:zi:=⟨aj8,VI,FU⟩
def ak0:=XX
def ak1:=VI
def Ez.b0(d:SY):(a:OF)->Option (Sum OF (Sum OF FQ)):=λa=>bif dO (0:Int) a.1 then (bK a.2.1 (gS .i64 a.1 (1:Int))).bind λ_=>(aC a.2.1 (Int.toNat (gS .i64 a.1 (1:Int)))).bind λc=>bif !(ob c.1 d.2.1.1||ko c.1 d.2.1.1) then (bK a.2.1 (gS .i64 a.1 (1:Int))).bind λ_=>(aC a.2.1 (Int.toNat (gS .i64 a.1 (1:Int)))).bind λb=>(bK a.2.1 a.1).bind λ_=>(aC a.2.1 (Int.toNat a.1)).bind λf=>(some (List.set a.2.1 (Int.toNat a.1) (b.1,(b.2.1,(b.2.2.1,(b.2.2.2.1,(b.2.2.2.2.1,()))))))).bind λe=>some (.inl (gS .i64 a.1 (1:Int),(e,()))) else some (.inr (.inl (a.1,(a.2.1,())))) else some (.inr (.inl (a.1,(a.2.1,()))))
def Ez:SY->Option FQ:=λb=>(FU (b.1,())).bind λc=>(Hx (b.1,(b.2.1,()))).bind λe=>bif km (0:Int) e.1.1 then some (c.1,()) else bif dE (List.length c.1.1+List.length ([(⟨#[]⟩,((0:Int),((0:Int),((0:Int),([],())))))]:List (bF))) 64 then (aR (Ez.b0 b) (gS .i64 (List.length (bV c.1.1 ([(⟨#[]⟩,((0:Int),((0:Int),((0:Int),([],())))))]:List (bF))):Int) (1:Int),(bV c.1.1 ([(⟨#[]⟩,((0:Int),((0:Int),((0:Int),([],())))))]:List (bF)),()))).bind λf=>Sum.elim (λa=>(bK a.2.1 a.1).bind λ_=>(aC a.2.1 (Int.toNat a.1)).bind λg=>(some (List.set a.2.1 (Int.toNat a.1) (b.2.1.1,((0:Int),((0:Int),((0:Int),([],()))))))).bind λd=>some ((d,()),())) some f else none
def ak2:zi:=⟨ak0,ak1,Ez⟩
def ak3:Gs:=[⟨.c,(.cons (.sl Et) .nil),[]⟩,ED,ED]
def ak4:Gs:=[⟨.c,(.cons (.sl Et) .nil),[(.own [])]⟩]
def Ko.b0(b:((List e6×Unit)×(ix×sF))):(a:(List (e6)×Hu))->Option (Sum (List (e6)×Hu) (Sum (List (e6)×Hu) ((List e6×Unit)×Unit))):=λa=>bif dO a.2.2.1 (List.length b.1.1:Int)then (bK b.1.1 a.2.2.1).bind λc=>Option.bind (bif (!a.2.1)then bif gA c.2.1 b.2.2.1.1 then some (.inl (true,(cM .i64 c.1 b.2.1.1,())))else some (.inl (a.2.1,(c.1,())))else some (.inl (a.2.1,(c.1,())))) λg=>Sum.elim (λd=>Option.bind (bif (!d.1) then bif dO b.2.2.1.1 c.2.1 then bif dE (List.length a.1+List.length ([(b.2.1.1,(b.2.2.1.1,()))]:List (e6))) 16 then some (.inl (bV a.1 ([(b.2.1.1,(b.2.2.1.1,()))]:List (e6)),(true,()))) else none else some (.inl (a.1,(d.1,()))) else some (.inl (a.1,(d.1,())))) λf=>Sum.elim (λe=>bif dE (List.length e.1+List.length ([(d.2.1,(c.2.1,()))]:List (e6))) 16 then some (.inl (bV e.1 ([(d.2.1,(c.2.1,()))]:List (e6)),(e.2.1,(cM .i64 a.2.2.1 (1:Int),())))) else none) some f) some g else some (.inr (.inl (a.1,(a.2.1,(a.2.2.1,())))))
def Ko:((List e6×Unit)×(ix×sF))->Option ((List e6×Unit)×Unit):=λa=>(aR (Ko.b0 a) (([]:List (e6)),(false,((0:Int),())))).bind λd=>Sum.elim (λb=>Option.bind (bif (!b.2.1)then bif dE (List.length b.1+List.length ([(a.2.1.1,(a.2.2.1.1,()))]:List (e6))) 16 then some (.inl (bV b.1 ([(a.2.1.1,(a.2.2.1.1,()))]:List (e6)),()))else none else some (.inl (b.1,()))) λc=>Sum.elim (λe=>some ((e.1,()),())) some c) some d
def ak5:zi:=⟨ak3,ak4,Ko⟩
def ak6:=Qo
def Ti:Gs:=[aa4]
def ak7:zi:=⟨ak6,Ti,Fc⟩
def ak8:Gs:=[Qb,Lb,ED]
def ak9:=Ti
def Qy:(Jz×(cl×sF))->Option tS:=λa=>(Fc (a.1,())).bind λe=>(bK e.1.2.1 a.2.2.1.1).bind λ_=>(aC e.1.2.1 (Int.toNat a.2.2.1.1)).bind λz=>(aC e.1.2.1 (Int.toNat a.2.2.1.1)).bind λk=>(some (List.set e.1.2.1 (Int.toNat a.2.2.1.1) (k.1,(k.2.1,(cM .i64 z.2.2.1 (1:Int),k.2.2.2))))).bind λb=>Option.bind (bif gA a.2.1.1 (1:Int)then (aC b (Int.toNat a.2.2.1.1)).bind λA=>(aC b (Int.toNat a.2.2.1.1)).bind λn=>(some (List.set b (Int.toNat a.2.2.1.1) (n.1,(gS .i64 A.2.1 a.2.1.2.2.2.1,n.2.2)))).bind λB=>(Ez ((B,()),((a.2.1.2.2.1,()),()))).bind λc=>(Hx (c.1,((a.2.1.2.2.1,()),()))).bind λd=>(bK c.1.1 d.1.1).bind λ_=>(aC c.1.1 (Int.toNat d.1.1)).bind λp=>(bK c.1.1 d.1.1).bind λ_=>(aC c.1.1 (Int.toNat d.1.1)).bind λm=>(some (List.set c.1.1 (Int.toNat d.1.1) (m.1,(cM .i64 p.2.1 a.2.1.2.2.2.1,m.2.2)))).bind λo=>some (.inl (o,()))else bif gA a.2.1.1 (2:Int)then (aC b (Int.toNat a.2.2.1.1)).bind λu=>(aC b (Int.toNat a.2.2.1.1)).bind λl=>(some (List.set b (Int.toNat a.2.2.1.1) (l.1,(gS .i64 u.2.1 a.2.1.2.2.2.1,l.2.2)))).bind λi=>(aC i (Int.toNat a.2.2.1.1)).bind λy=>(aC i (Int.toNat a.2.2.1.1)).bind λf=>(some (List.set i (Int.toNat a.2.2.1.1) (f.1,(f.2.1,(f.2.2.1,(cM .i64 y.2.2.2.1 a.2.1.2.2.2.1,f.2.2.2.2)))))).bind λv=>some (.inl (v,()))else (aC b (Int.toNat a.2.2.1.1)).bind λt=>(aC b (Int.toNat a.2.2.1.1)).bind λh=>(some (List.set b (Int.toNat a.2.2.1.1) (h.1,(h.2.1,(h.2.2.1,(gS .i64 t.2.2.2.1 a.2.1.2.2.2.1,h.2.2.2.2)))))).bind λj=>(aC j (Int.toNat a.2.2.1.1)).bind λs=>(Ko ((s.2.2.2.2.1,()),((a.2.1.2.2.2.1,()),((cM .i64 a.1.1 (2:Int),()),())))).bind λq=>(aC j (Int.toNat a.2.2.1.1)).bind λg=>(some (List.set j (Int.toNat a.2.2.1.1) (g.1,(g.2.1,(g.2.2.1,(g.2.2.2.1,(q.1.1,()))))))).bind λw=>some (.inl (w,()))) λx=>Sum.elim (λr=>some ((e.1.1,(r.1,())),())) some x
def al0:zi:=⟨ak8,ak9,Qy⟩
def al1:Gs:=[Qb,Lb]
def XY:Gs:=[Qb,ED]
def GK:(Jz×MI)->Option ((Jz×sF)):=λa=>(Fc (a.1,())).bind λb=>(SH (a.1,())).bind λf=>bif (!f.1.1)then some (b.1,(((1:Int),()),()))else (OP (a.2.1,())).bind λh=>bif (!h.1.1)then some (b.1,(((1:Int),()),()))else (Hx ((a.1.2.1,()),((a.2.1.2.1,()),()))).bind λc=>bif dO c.1.1 (0:Int)then some (b.1,(((2:Int),()),()))else (bK a.1.2.1 c.1.1).bind λd=>Option.bind (bif gA a.2.1.1 (3:Int)then some (.inl (d.2.2.2.1,()))else some (.inl (d.2.1,()))) λg=>Sum.elim (λi=>bif !gA d.2.2.1 a.2.1.2.2.2.2.1 then some (b.1,(((3:Int),()),())) else bif dO i.1 a.2.1.2.2.2.1 then some (b.1,(((4:Int),()),())) else (Qy (a.1,(a.2.1,(c.1,())))).bind λe=>(SH (e.1,())).bind λj=>bif (!j.1.1) then some (b.1,(((5:Int),()),())) else some (e.1,(((0:Int),()),()))) some g
def al2:zi:=⟨al1,XY,GK⟩
def al3:Gs:=[Qb,ML]
def al4:=XY
def H2.b0(c:(Jz×FT)):(a:(Int×Hv))->Option (Sum (Int×Hv) (Sum (Int×Hv) ((Jz×sF)))):=λa=>bif dO a.2.1 (List.length c.2.1.1:Int)then (bK c.2.1.1 a.2.1).bind λd=>(GK ((a.2.2.1,(a.2.2.2.1,())),(d,()))).bind λb=>bif gA b.2.1.1 (0:Int)then some (.inl (cM .i64 a.1 (1:Int),(cM .i64 a.2.1 (1:Int),(b.1.1,(b.1.2.1,())))))else some (.inl (a.1,(cM .i64 a.2.1 (1:Int),(a.2.2.1,(a.2.2.2.1,())))))else some (.inr (.inl (a.1,(a.2.1,(a.2.2.1,(a.2.2.2.1,()))))))
def H2:(Jz×FT)->Option ((Jz×sF)):=λb=>(Fc (b.1,())).bind λc=>(aR (H2.b0 b) ((0:Int),((0:Int),(c.1.1,(c.1.2.1,()))))).bind λd=>Sum.elim (λa=>some ((a.2.2.1,(a.2.2.2.1,())),((a.1,()),()))) some d
def al5:zi:=⟨al3,al4,H2⟩
def al6:Gs:=[Qb,S5,ED]
def al7:=Qo
def Lf.b0(b:Fb)(f:(Jz×HW)):(a:Hv)->Option (Sum Hv (Sum Hv tS)):=λa=>bif dO a.1 (List.length b.1.1:Int)then (bK b.1.1 a.1).bind λ_=>(aC b.1.1 (Int.toNat a.1)).bind λd=>(bK f.2.1.1 d.1).bind λe=>(H2 ((a.2.1,(a.2.2.1,())),((e.2.2.2.2.2.2.2.2.2.2.1,()),()))).bind λc=>some (.inl (cM .i64 a.1 (1:Int),(c.1.1,(c.1.2.1,()))))else some (.inr (.inl (a.1,(a.2.1,(a.2.2.1,())))))
def Lf:(Jz×HW)->Option tS:=λa=>(Fc (a.1,())).bind λb=>(Fy (a.2.1,(a.2.2.1,()))).bind λd=>(aR (Lf.b0 d a) ((0:Int),(b.1.1,(b.1.2.1,())))).bind λe=>Sum.elim (λc=>some ((c.2.1,(c.2.2.1,())),())) some e
def al8:zi:=⟨al6,al7,Lf⟩
def al9:=Qo
def am0:=Ti
def vm.b1(b:OF)(l:tS):(a:(List (e6)×OF))->Option (Sum (List (e6)×OF) (Sum (List (e6)×OF) (Sum OF (Sum OF tS)))):=λa=>(aC a.2.2.1 (Int.toNat b.1)).bind λk=>bif dO a.2.1 (List.length k.2.2.2.2.1:Int)then (aC a.2.2.1 (Int.toNat b.1)).bind λh=>(bK h.2.2.2.2.1 a.2.1).bind λj=>bif km j.2.1 (cM .i64 l.1.1 (1:Int))then (aC a.2.2.1 (Int.toNat b.1)).bind λi=>(aC a.2.2.1 (Int.toNat b.1)).bind λm=>(bK m.2.2.2.2.1 a.2.1).bind λf=>(aC a.2.2.1 (Int.toNat b.1)).bind λc=>(some (List.set a.2.2.1 (Int.toNat b.1) (c.1,(cM .i64 i.2.1 f.1,c.2.2)))).bind λe=>some (.inl (a.1,(cM .i64 a.2.1 (1:Int),(e,()))))else (aC a.2.2.1 (Int.toNat b.1)).bind λg=>(bK g.2.2.2.2.1 a.2.1).bind λd=>bif dE (List.length a.1+List.length ([d]:List (e6))) 16 then some (.inl (bV a.1 ([d]:List (e6)),(cM .i64 a.2.1 (1:Int),(a.2.2.1,()))))else none else some (.inr (.inl (a.1,(a.2.1,(a.2.2.1,())))))
def vm.b0(f:tS):(a:OF)->Option (Sum OF (Sum OF tS)):=λa=>bif dO a.1 (List.length a.2.1:Int)then (bK a.2.1 a.1).bind λ_=>(aR (vm.b1 a f) (([]:List (e6)),((0:Int),(a.2.1,())))).bind λd=>Sum.elim (λc=>(aC c.2.2.1 (Int.toNat a.1)).bind λb=>(some (List.set c.2.2.1 (Int.toNat a.1) (b.1,(b.2.1,(b.2.2.1,(b.2.2.2.1,(c.1,()))))))).bind λe=>some (.inl (cM .i64 a.1 (1:Int),(e,())))) some d else some (.inr (.inl (a.1,(a.2.1,()))))
def vm:tS->Option tS:=λa=>(Fc (a.1,())).bind λc=>(SH (a.1,())).bind λg=>bif (!g.1.1)then some (c.1,())else (aR (vm.b0 a) ((0:Int),(c.1.2.1,()))).bind λd=>Sum.elim (λb=>(SH ((cM .i64 a.1.1 (1:Int),(b.2.1,())),())).bind λf=>bif (!f.1.1)then (Fc (a.1,())).bind λe=>some (e.1,())else some ((cM .i64 a.1.1 (1:Int),(b.2.1,())),())) some d
def am1:zi:=⟨al9,am0,vm⟩
def i31:=Qo
def o31:=ZK
def Xd:tS->Option B9:=λa=>(SH (a.1,())).bind λb=>bif (!b.1.1)then some ((([]:List (ds)),()),())else (SJ (a.1,())).bind λc=>some (c.1,())
def c31:zi:=⟨i31,o31,Xd⟩
def am2:=i27
def VJ:Gs:=[aa5]
def GL.b0:(a:Hs)->Option (Sum Hs (Sum Hs EG)):=λa=>bif dO (127:Int) a.2.1 then bif dE (List.length a.1+List.length ([(IntKind.wrap .u8 (BS .i64 (sS .i64 a.2.1 (127:Int)) (128:Int)),())]:List (D5))) 1 then bif dO (7:Int) 0 then none else some (.inl (bV a.1 ([(IntKind.wrap .u8 (BS .i64 (sS .i64 a.2.1 (127:Int)) (128:Int)),())]:List (D5)),(zL .i64 a.2.1 (7:Int),()))) else none else some (.inr (.inl (a.1,(a.2.1,()))))
def GL:((List D5×Unit)×sF)->Option EG:=λa=>bif dE (List.length ([]:List (D5))+List.length a.1.1) 1 then Option.bind (bif dO (1000000000:Int) a.2.1.1 then some (.inl ((1000000000:Int),())) else some (.inl (a.2.1.1,()))) λi=>Sum.elim (λd=>Option.bind (bif dO d.1 (-1000000000:Int) then some (.inl ((-1000000000:Int),())) else some (.inl (d.1,()))) λg=>Sum.elim (λc=>Option.bind (bif dO c.1 (0:Int) then some (.inl (gS .i64 (zJ .i64 (-2:Int) c.1) (1:Int),())) else some (.inl (zJ .i64 (2:Int) c.1,()))) λe=>Sum.elim (λf=>(aR GL.b0 (bV ([]:List (D5)) a.1.1,(f.1,()))).bind λh=>Sum.elim (λb=>bif dE (List.length b.1+List.length ([(IntKind.wrap .u8 b.2.1,())]:List (D5))) 1 then some ((bV b.1 ([(IntKind.wrap .u8 b.2.1,())]:List (D5)),()),()) else none) some h) some e) some g) some i else none
def am3:zi:=⟨am2,VJ,GL⟩
def am4:Gs:=[Qj,P8]
def am5:=VJ
def Tj:((List D5×Unit)×Em)->Option EG:=λa=>(GL (a.1,(((ByteArray.size a.2.1.1:Int),()),()))).bind λb=>bif dE (List.length b.1.1+List.length (eo a.2.1.1)) 1 then some ((bV b.1.1 (eo a.2.1.1),()),())else none
def am6:zi:=⟨am4,am5,Tj⟩
def am7:=S9
def am8:=HY
def MO.b0(b:K9):(a:Hs)->Option (Sum Hs (Sum Hs Em)):=λa=>bif dO a.2.1 (List.length b.1.2.2.2.2.1:Int)then (bK b.1.2.2.2.2.1 a.2.1).bind λd=>(GL ((a.1,()),((d.1,()),()))).bind λe=>(bK b.1.2.2.2.2.1 a.2.1).bind λf=>(GL (e.1,((f.2.1,()),()))).bind λc=>some (.inl (c.1.1,(cM .i64 a.2.1 (1:Int),())))else some (.inr (.inl (a.1,(a.2.1,()))))
def MO:K9->Option Em:=λa=>(Tj ((([]:List (D5)),()),((a.1.1,()),()))).bind λd=>(GL (d.1,((a.1.2.1,()),()))).bind λe=>(GL (e.1,((a.1.2.2.1,()),()))).bind λh=>(GL (h.1,((a.1.2.2.2.1,()),()))).bind λg=>(GL (g.1,(((List.length a.1.2.2.2.2.1:Int),()),()))).bind λf=>(aR (MO.b0 a) (f.1.1,((0:Int),()))).bind λc=>Sum.elim (λb=>some ((bQ b.1,()),())) some c
def am9:zi:=⟨am7,am8,MO⟩
def an0:=i7
def an1:=VJ
def Jc.b0:(a:(List (D5)×Unit))->Option (Sum (List (D5)×Unit) (Sum (List (D5)×Unit) EG)):=λa=>bif gA (64:Int) 0 then none else bif !gA (ph (List.length a.1:Int) (64:Int)) (56:Int) then bif dE (List.length a.1+List.length ([((0:Int),())]:List (D5))) 1 then some (.inl (bV a.1 ([((0:Int),())]:List (D5)),())) else none else some (.inr (.inl (a.1,())))
def Jc.b1(b:EG):(a:Hs)->Option (Sum Hs (Sum Hs EG)):=λa=>bif km (0:Int) a.2.1 then bif dO (IntKind.wrap .u64 a.2.1) 0 then none else bif dE (List.length a.1+List.length ([(IntKind.wrap .u8 (zL .i64 (zJ .i64 (List.length b.1.1:Int) (8:Int)) (IntKind.wrap .u64 a.2.1)),())]:List (D5))) 1 then some (.inl (bV a.1 ([(IntKind.wrap .u8 (zL .i64 (zJ .i64 (List.length b.1.1:Int) (8:Int)) (IntKind.wrap .u64 a.2.1)),())]:List (D5)),(gS .i64 a.2.1 (8:Int),()))) else none else some (.inr (.inl (a.1,(a.2.1,()))))
def Jc:EG->Option EG:=λa=>bif dE (List.length ([]:List (D5))+List.length a.1.1) 1 then bif dE (List.length (bV ([]:List (D5)) a.1.1)+List.length ([((128:Int),())]:List (D5))) 1 then (aR Jc.b0 (bV (bV ([]:List (D5)) a.1.1) ([((128:Int),())]:List (D5)),())).bind λe=>Sum.elim (λc=>(aR (Jc.b1 a) (c.1,((56:Int),()))).bind λb=>Sum.elim (λd=>some ((d.1,()),())) some b) some e else none else none
def an2:zi:=⟨an0,an1,Jc⟩
def an3:Gs:=[]
def an4:=Qx
def XZ:Unit->Option Fb:=λa=>some ((([((1116352408:Int),()),((1899447441:Int),()),((3049323471:Int),()),((3921009573:Int),()),((961987163:Int),()),((1508970993:Int),()),((2453635748:Int),()),((2870763221:Int),()),((3624381080:Int),()),((310598401:Int),()),((607225278:Int),()),((1426881987:Int),()),((1925078388:Int),()),((2162078206:Int),()),((2614888103:Int),()),((3248222580:Int),()),((3835390401:Int),()),((4022224774:Int),()),((264347078:Int),()),((604807628:Int),()),((770255983:Int),()),((1249150122:Int),()),((1555081692:Int),()),((1996064986:Int),()),((2554220882:Int),()),((2821834349:Int),()),((2952996808:Int),()),((3210313671:Int),()),((3336571891:Int),()),((3584528711:Int),()),((113926993:Int),()),((338241895:Int),()),((666307205:Int),()),((773529912:Int),()),((1294757372:Int),()),((1396182291:Int),()),((1695183700:Int),()),((1986661051:Int),()),((2177026350:Int),()),((2456956037:Int),()),((2730485921:Int),()),((2820302411:Int),()),((3259730800:Int),()),((3345764771:Int),()),((3516065817:Int),()),((3600352804:Int),()),((4094571909:Int),()),((275423344:Int),()),((430227734:Int),()),((506948616:Int),()),((659060556:Int),()),((883997877:Int),()),((958139571:Int),()),((1322822218:Int),()),((1537002063:Int),()),((1747873779:Int),()),((1955562222:Int),()),((2024104815:Int),()),((2227730452:Int),()),((2361852424:Int),()),((2428436474:Int),()),((2756734187:Int),()),((3204031479:Int),()),((3329325298:Int),())]:List (D3)),()),())
def an5:zi:=⟨an3,an4,XZ⟩
def an6:Gs:=[ED,ED]
def an7:=IZ
def GM:(ix×sF)->Option sF:=λa=>bif dO (IntKind.wrap .u64 a.2.1.1) 0 then none else bif dO (IntKind.wrap .u64 (gS .i64 (32:Int) a.2.1.1)) 0 then none else some ((sS .i64 (BS .i64 (zL .i64 a.1.1 (IntKind.wrap .u64 a.2.1.1)) (zK .i64 a.1.1 (IntKind.wrap .u64 (gS .i64 (32:Int) a.2.1.1)))) (4294967295:Int),()),())
def an8:zi:=⟨an6,an7,GM⟩
def an9:=i7
def ao0:=Qx
def Jd.b0(b:EG):(a:Kd)->Option Vq:=λa=>bif dO a.2.1 (16:Int)then(bK b.1.1 (zJ .i64 (4:Int) a.2.1)).bind λd=>bif dO (24:Int) 0 then none else (bK b.1.1 (cM .i64 (zJ .i64 (4:Int) a.2.1) (1:Int))).bind λf=>bif dO (16:Int) 0 then none else (bK b.1.1 (cM .i64 (zJ .i64 (4:Int) a.2.1) (2:Int))).bind λc=>bif dO (8:Int) 0 then none else (bK b.1.1 (cM .i64 (zJ .i64 (4:Int) a.2.1) (3:Int))).bind λe=>bif dE (List.length a.1+List.length ([(BS .i64 (BS .i64 (BS .i64 (zK .i64 (IntKind.wrap .i64 d.1) (24:Int)) (zK .i64 (IntKind.wrap .i64 f.1) (16:Int))) (zK .i64 (IntKind.wrap .i64 c.1) (8:Int))) (IntKind.wrap .i64 e.1),())]:List (D3))) 8 then some (.inl (bV a.1 ([(BS .i64 (BS .i64 (BS .i64 (zK .i64 (IntKind.wrap .i64 d.1) (24:Int)) (zK .i64 (IntKind.wrap .i64 f.1) (16:Int))) (zK .i64 (IntKind.wrap .i64 c.1) (8:Int))) (IntKind.wrap .i64 e.1),())]:List (D3)),(cM .i64 a.2.1 (1:Int),()))) else none else some (.inr (.inl (a.1,(a.2.1,()))))
def Jd.b1:(a:Kd)->Option Vq:=λa=>bif dO a.2.1 (64:Int)then(bK a.1 (gS .i64 a.2.1 (15:Int))).bind λ_=>(aC a.1 (Int.toNat (gS .i64 a.2.1 (15:Int)))).bind λc=>(bK a.1 (gS .i64 a.2.1 (2:Int))).bind λ_=>(aC a.1 (Int.toNat (gS .i64 a.2.1 (2:Int)))).bind λb=>(GM (c,(((7:Int),()),()))).bind λe=>(GM (c,(((18:Int),()),()))).bind λg=>bif dO (3:Int) 0 then none else (GM (b,(((17:Int),()),()))).bind λf=>(GM (b,(((19:Int),()),()))).bind λh=>bif dO (10:Int) 0 then none else (bK a.1 (gS .i64 a.2.1 (16:Int))).bind λ_=>(aC a.1 (Int.toNat (gS .i64 a.2.1 (16:Int)))).bind λd=>(bK a.1 (gS .i64 a.2.1 (7:Int))).bind λ_=>(aC a.1 (Int.toNat (gS .i64 a.2.1 (7:Int)))).bind λi=>bif dE (List.length a.1+List.length ([(sS .i64 (cM .i64 (cM .i64 (cM .i64 d.1 (qC .i64 (qC .i64 e.1.1 g.1.1) (zL .i64 c.1 (3:Int)))) i.1) (qC .i64 (qC .i64 f.1.1 h.1.1) (zL .i64 b.1 (10:Int)))) (4294967295:Int),())]:List (D3))) 8 then some (.inl (bV a.1 ([(sS .i64 (cM .i64 (cM .i64 (cM .i64 d.1 (qC .i64 (qC .i64 e.1.1 g.1.1) (zL .i64 c.1 (3:Int)))) i.1) (qC .i64 (qC .i64 f.1.1 h.1.1) (zL .i64 b.1 (10:Int)))) (4294967295:Int),())]:List (D3)),(cM .i64 a.2.1 (1:Int),()))) else none else some (.inr (.inl (a.1,(a.2.1,()))))
def Jd:EG->Option Fb:=λd=>(aR (Jd.b0 d) (([]:List (D3)),((0:Int),()))).bind λc=>Sum.elim (λe=>(aR Jd.b1 (e.1,((16:Int),()))).bind λb=>Sum.elim (λa=>some ((a.1,()),())) some b) some c
def ao1:zi:=⟨an9,ao0,Jd⟩
def ao2:Gs:=[Qm,Qj,Qm]
def ao3:=Qx
def Je.b0(y:Vj)(g:Fb):(a:Kd)->Option Vq:=λa=>bif dO a.2.1 (64:Int)then(bK a.1 (4:Int)).bind λ_=>(aC a.1 (Int.toNat (4:Int))).bind λb=>(GM (b,(((6:Int),()),()))).bind λh=>(GM (b,(((11:Int),()),()))).bind λl=>(GM (b,(((25:Int),()),()))).bind λj=>(bK a.1 (5:Int)).bind λ_=>(aC a.1 (Int.toNat (5:Int))).bind λi=>(bK a.1 (6:Int)).bind λ_=>(aC a.1 (Int.toNat (6:Int))).bind λk=>(bK a.1 (7:Int)).bind λ_=>(aC a.1 (Int.toNat (7:Int))).bind λf=>(bK y.2.2.1.1 a.2.1).bind λd=>(bK g.1.1 a.2.1).bind λ_=>(aC g.1.1 (Int.toNat a.2.1)).bind λe=>(bK a.1 (0:Int)).bind λ_=>(aC a.1 (Int.toNat (0:Int))).bind λc=>(GM (c,(((2:Int),()),()))).bind λo=>(GM (c,(((13:Int),()),()))).bind λv=>(GM (c,(((22:Int),()),()))).bind λw=>(bK a.1 (1:Int)).bind λ_=>(aC a.1 (Int.toNat (1:Int))).bind λx=>(bK a.1 (2:Int)).bind λ_=>(aC a.1 (Int.toNat (2:Int))).bind λp=>(bK a.1 (1:Int)).bind λ_=>(aC a.1 (Int.toNat (1:Int))).bind λq=>(bK a.1 (2:Int)).bind λ_=>(aC a.1 (Int.toNat (2:Int))).bind λt=>(bK a.1 (1:Int)).bind λ_=>(aC a.1 (Int.toNat (1:Int))).bind λu=>(bK a.1 (2:Int)).bind λ_=>(aC a.1 (Int.toNat (2:Int))).bind λm=>(bK a.1 (3:Int)).bind λ_=>(aC a.1 (Int.toNat (3:Int))).bind λs=>(bK a.1 (5:Int)).bind λ_=>(aC a.1 (Int.toNat (5:Int))).bind λn=>(bK a.1 (6:Int)).bind λ_=>(aC a.1 (Int.toNat (6:Int))).bind λr=>some (.inl (([(sS .i64 (cM .i64 (cM .i64 (cM .i64 (cM .i64 (cM .i64 f.1 (qC .i64 (qC .i64 h.1.1 l.1.1) j.1.1)) (qC .i64 (sS .i64 b.1 i.1) (sS .i64 (qC .i64 (4294967295:Int) b.1) k.1))) d.1) e.1) (cM .i64 (qC .i64 (qC .i64 o.1.1 v.1.1) w.1.1) (qC .i64 (qC .i64 (sS .i64 c.1 x.1) (sS .i64 c.1 p.1)) (sS .i64 q.1 t.1)))) (4294967295:Int),()),c,u,m,(sS .i64 (cM .i64 s.1 (cM .i64 (cM .i64 (cM .i64 (cM .i64 f.1 (qC .i64 (qC .i64 h.1.1 l.1.1) j.1.1)) (qC .i64 (sS .i64 b.1 i.1) (sS .i64 (qC .i64 (4294967295:Int) b.1) k.1))) d.1) e.1)) (4294967295:Int),()),b,n,r]:List (D3)),(cM .i64 a.2.1 (1:Int),()))) else some (.inr (.inl (a.1,(a.2.1,()))))
def Je.b1(e:Vj):(a:OI)->Option (Sum OI (Sum OI Fb)):=λa=>bif dO a.1 (8:Int)then (bK a.2.1 a.1).bind λ_=>(aC a.2.1 (Int.toNat a.1)).bind λb=>(bK e.1.1 a.1).bind λc=>(bK a.2.1 a.1).bind λ_=>(aC a.2.1 (Int.toNat a.1)).bind λf=>(some (List.set a.2.1 (Int.toNat a.1) (sS .i64 (cM .i64 b.1 c.1) (4294967295:Int),()))).bind λd=>some (.inl (cM .i64 a.1 (1:Int),(d,())))else some (.inr (.inl (a.1,(a.2.1,()))))
def Je:Vj->Option Fb:=λa=>(Jd (a.2.1,())).bind λf=>bif dE (List.length ([]:List (D3))+List.length a.1.1) 8 then (aR (Je.b0 a f) (bV ([]:List (D3)) a.1.1,((0:Int),()))).bind λe=>Sum.elim (λb=>(aR (Je.b1 a) ((0:Int),(b.1,()))).bind λd=>Sum.elim (λc=>some ((c.2.1,()),())) some d) some e else none
def ao4:zi:=⟨ao2,ao3,Je⟩
def ao5:=i7
def ao6:=HY
def Hy.b0(c:Fb):(a:SX)->Option (Sum SX (Sum SX Em)):=λa=>bif dO a.2.1 (List.length a.2.2.1:Int)then bif wq a.2.1 (cM .i64 a.2.1 (64:Int)) (List.length a.2.2.1)then (Je ((a.1,()),((List.take ((Int.toNat (cM .i64 a.2.1 (64:Int)))-(Int.toNat a.2.1)) (List.drop (Int.toNat a.2.1) a.2.2.1),()),(c.1,())))).bind λb=>some (.inl (b.1.1,(cM .i64 a.2.1 (64:Int),(a.2.2.1,())))) else none else some (.inr (.inl (a.1,(a.2.1,(a.2.2.1,())))))
def Hy.b1(b:SX):(a:Hs)->Option (Sum Hs (Sum Hs Em)):=λa=>bif dO a.2.1 (8:Int)then (bK b.1 a.2.1).bind λ_=>(aC b.1 (Int.toNat a.2.1)).bind λe=>bif dO (24:Int) 0 then none else (bK b.1 a.2.1).bind λ_=>(aC b.1 (Int.toNat a.2.1)).bind λf=>bif dO (16:Int) 0 then none else (bK b.1 a.2.1).bind λ_=>(aC b.1 (Int.toNat a.2.1)).bind λc=>bif dO (8:Int) 0 then none else (bK b.1 a.2.1).bind λ_=>(aC b.1 (Int.toNat a.2.1)).bind λd=>bif dE (List.length a.1+List.length ([(IntKind.wrap .u8 (zL .i64 e.1 (24:Int)),()),(IntKind.wrap .u8 (zL .i64 f.1 (16:Int)),()),(IntKind.wrap .u8 (zL .i64 c.1 (8:Int)),()),(IntKind.wrap .u8 d.1,())]:List (D5))) 1 then some (.inl (bV a.1 ([(IntKind.wrap .u8 (zL .i64 e.1 (24:Int)),()),(IntKind.wrap .u8 (zL .i64 f.1 (16:Int)),()),(IntKind.wrap .u8 (zL .i64 c.1 (8:Int)),()),(IntKind.wrap .u8 d.1,())]:List (D5)),(cM .i64 a.2.1 (1:Int),())))else none else some (.inr (.inl (a.1,(a.2.1,()))))
def Hy:EG->Option Em:=λg=>(Jc (g.1,())).bind λc=>(XZ ()).bind λd=>(aR (Hy.b0 d) (([((1779033703:Int),()),((3144134277:Int),()),((1013904242:Int),()),((2773480762:Int),()),((1359893119:Int),()),((2600822924:Int),()),((528734635:Int),()),((1541459225:Int),())]:List (D3)),((0:Int),(c.1.1,())))).bind λe=>Sum.elim (λf=>(aR (Hy.b1 f) (([]:List (D5)),((0:Int),()))).bind λa=>Sum.elim (λb=>some ((bQ b.1,()),())) some a) some e
def ao7:zi:=⟨ao5,ao6,Hy⟩
def ao8:=HY
def ao9:=HY
def Tk:Em->Option Em:=λa=>bif dE (List.length ([((0:Int),())]:List (D5))+List.length (eo a.1.1)) 1 then (Hy ((bV ([((0:Int),())]:List (D5)) (eo a.1.1),()),())).bind λb=>some (b.1,())else none
def ap0:zi:=⟨ao8,ao9,Tk⟩
def ap1:=IZ
def ap2:=IZ
def MP.b0(b:sF):(a:ix)->Option K7:=λa=>bif dO (zJ .i64 (2:Int) a.1) b.1.1 then some (.inl (zJ .i64 (2:Int) a.1,())) else some (.inr (.inl (a.1,())))
def MP:sF->Option sF:=λb=>(aR (MP.b0 b) ((1:Int),())).bind λc=>Sum.elim (λa=>some ((a.1,()),())) some c
def ap3:zi:=⟨ap1,ap2,MP⟩
def ap4:Gs:=[P8,P8]
def ap5:=HY
def Tl:((ByteArray×Unit)×Em)->Option Em:=λa=>bif dE (List.length ([((1:Int),())]:List (D5))+List.length (eo a.1.1)) 1 then bif dE (List.length (bV ([((1:Int),())]:List (D5)) (eo a.1.1))+List.length (eo a.2.1.1)) 1 then (Hy ((bV (bV ([((1:Int),())]:List (D5)) (eo a.1.1)) (eo a.2.1.1),()),())).bind λb=>some (b.1,())else none else none
def ap6:zi:=⟨ap4,ap5,Tl⟩
def X0:=XL
def X1:=HY
def Qz:(K8->Option Em)->K8->Option Em:=λr a=>bif gA (List.length a.1.1:Int) (0:Int)then (Hy ((([]:List (D5)),()),())).bind λc=>some (c.1,())else bif gA (List.length a.1.1:Int) (1:Int)then (bK a.1.1 (0:Int)).bind λd=>(Tk (d,())).bind λg=>some (g.1,())else (MP (((List.length a.1.1:Int),()),())).bind λb=>bif mX b.1.1 (List.length a.1.1)then (r ((List.take ((Int.toNat b.1.1)-0) (List.drop 0 a.1.1),()),())).bind λf=>bif mX b.1.1 (List.length a.1.1)then (r ((List.take ((List.length a.1.1)-(Int.toNat b.1.1)) (List.drop (Int.toNat b.1.1) a.1.1),()),())).bind λh=>(Tl (f.1,(h.1,()))).bind λe=>some (e.1,()) else none else none
def Lg:Nat->K8->Option Em|0=>λ_=>none|k+1=>Qz (Lg k)
def VK:K8->Option Em:=sY Lg
def ap7:zi:=⟨X0,X1,VK⟩
def ap8(k:Nat):zi:=⟨X0,X1,Lg k⟩
def ap9:=XL
def aq0:=HY
def Tn:K8->Option Em:=λa=>bif dO (64:Int) (List.length a.1.1:Int)then some ((⟨#[]⟩,()),())else (VK (a.1,())).bind λb=>some (b.1,())
def aq1:zi:=⟨ap9,aq0,Tn⟩
def aq2:=Qo
def aq3:=HY
def Lh.b0(c:tS):(a:(List (D9)×ix))->Option (Sum (List (D9)×ix) (Sum (List (D9)×ix) Em)):=λa=>bif dO a.2.1 (List.length c.1.2.1:Int) then (bK c.1.2.1 a.2.1).bind λd=>(MO (d,())).bind λb=>bif dE (List.length a.1+List.length ([b.1]:List (D9))) 16 then some (.inl (bV a.1 ([b.1]:List (D9)),(cM .i64 a.2.1 (1:Int),()))) else none else some (.inr (.inl (a.1,(a.2.1,()))))
def Lh:tS->Option Em:=λa=>(SH (a.1,())).bind λb=>bif (!b.1.1)then some ((⟨#[]⟩,()),())else (aR (Lh.b0 a) (([]:List (D9)),((0:Int),()))).bind λc=>Sum.elim (λe=>(Tn ((e.1,()),())).bind λd=>some (d.1,())) some c
def aq4:zi:=⟨aq2,aq3,Lh⟩
def aq5:Gs:=[Qb,S5,ED,ML]
def aq6:Gs:=[S7,P7,Xy,P8]
def Kp.b0(b:(Jz×(GI×(ix×FT)))):(a:(List (cl)×Hv))->Option (Sum (List (cl)×Hv) (Sum (List (cl)×Hv) ((GJ×(I6×(Kb×Em)))))):=λa=>bif dO a.2.1 (List.length b.2.2.2.1.1:Int)then bif dO (List.length a.1:Int) (4:Int)then (bK b.2.2.2.1.1 a.2.1).bind λe=>(GK ((a.2.2.1,(a.2.2.2.1,())),(e,()))).bind λc=>bif gA c.2.1.1 (0:Int)then (bK b.2.2.2.1.1 a.2.1).bind λd=>bif dE (List.length a.1+List.length ([d]:List (cl))) 56 then some (.inl (bV a.1 ([d]:List (cl)),(cM .i64 a.2.1 (1:Int),(c.1.1,(c.1.2.1,())))))else none else some (.inl (a.1,(cM .i64 a.2.1 (1:Int),(a.2.2.1,(a.2.2.2.1,())))))else some (.inr (.inl (a.1,(a.2.1,(a.2.2.1,(a.2.2.2.1,()))))))else some (.inr (.inl (a.1,(a.2.1,(a.2.2.1,(a.2.2.2.1,()))))))
def Kp:(Jz×(GI×(ix×FT)))->Option ((GJ×(I6×(Kb×Em)))):=λa=>(Qw (a.2.1,(a.2.2.1,()))).bind λh=>bif (!h.1.1)then some ((([]:List (cl)),()),((false,()),((([]:List (ds)),()),((⟨#[]⟩,()),()))))else (Le (a.2.1,(a.2.2.1,()))).bind λi=>bif i.1.1 then some ((([]:List (cl)),()),((false,()),((([]:List (ds)),()),((⟨#[]⟩,()),()))))else (Lf (a.1,(a.2.1,(a.2.2.1,())))).bind λd=>(aR (Kp.b0 a) (([]:List (cl)),((0:Int),(d.1.1,(d.1.2.1,()))))).bind λj=>Sum.elim (λb=>(Fy (a.2.1,(a.2.2.1,()))).bind λe=>bif !gA (List.length e.1.1:Int) (1:Int)then some ((b.1,()),((false,()),((([]:List (ds)),()),((⟨#[]⟩,()),()))))else (vm ((b.2.2.1,(b.2.2.2.1,())),())).bind λc=>(Xd (c.1,())).bind λf=>(Lh (c.1,())).bind λg=>some ((b.1,()),((true,()),(f.1,(g.1,()))))) some j
def aq7:zi:=⟨aq5,aq6,Kp⟩
def X2:Gs:=[S6,ED]
def aq8:=VG
def OR:(Fh×sF)->Option D8:=λa=>(Fw ((a.1.2.2.2.2.2.2.2.2.1,(a.1.2.2.2.2.2.2.2.2.2.1,(a.1.2.2.2.2.2.2.2.2.2.2.1,()))),())).bind λc=>Option.bind (bif !gA a.1.2.2.2.2.2.2.2.2.1 (gS .i64 a.1.2.2.2.2.2.2.1 (1:Int))then (HZ ((a.1.2.2.2.2.2.2.2.2.2.2.2.1,(a.1.2.2.2.2.2.2.2.2.2.2.2.2.1,(a.1.2.2.2.2.2.2.2.2.2.2.2.2.2.1,()))),())).bind λd=>some (.inl (d.1.1,(d.1.2.1,(d.1.2.2.1,()))))else some (.inl ((0:Int),([],([],()))))) λf=>Sum.elim (λe=>(Kp ((a.1.2.2.1,(a.1.2.2.2.1,())),((a.1.2.2.2.2.2.1,()),((a.1.2.2.2.2.2.2.2.2.2.1,()),((a.1.2.2.2.2.2.2.2.2.2.2.2.2.2.2.2.2.2.2.1,()),()))))).bind λb=>some ((a.2.1.1,(a.1.2.1,(a.1.2.2.2.2.2.2.1,(a.1.1,(c.1.1,(c.1.2.1,(c.1.2.2.1,(e.1,(e.2.1,(e.2.2.1,(b.1.1,(b.2.1.1,(b.2.2.1.1,(b.2.2.2.1.1,())))))))))))))),())) some f
def aq9:zi:=⟨X2,aq8,OR⟩
def X3:Gs:=[MD,Vx]
def ar0:Gs:=[Vz,MD,Vx]
def MQ.b0(c:AN)(d:D9):(a:(List (D5)×(Int×tm)))->Option (Sum (List (D5)×(Int×tm)) (Sum (List (D5)×(Int×tm)) (Sum (List (D5)×(Int×(Int×(Int×(Int×(Int×(ByteArray×(Int×(Int×(List (D9)×(Int×(Int×(ByteArray×S4))))))))))))) ((B8×MJ))))):=λa=>bif dO a.2.2.2.1 (9990:Int)then (Kj ((c.1.2.2.2.2.1,()),((a.2.2.2.1,()),()))).bind λe=>bif !ko e.1.1 d.1 then (FW ((c.1.2.2.2.2.1,()),(d,()))).bind λf=>bif f.1.1 then (Qn ((a.1,(a.2.1,(a.2.2.1,()))),(((2:Int),()),()))).bind λb=>bif b.1.1 then some (.inl (b.2.1.1,(b.2.1.2.1,(b.2.1.2.2.1,(cM .i64 a.2.2.2.1 (1:Int),())))))else some (.inr (.inl (b.2.1.1,(b.2.1.2.1,(b.2.1.2.2.1,(a.2.2.2.1,()))))))else some (.inr (.inl (a.1,(a.2.1,(a.2.2.1,(a.2.2.2.1,()))))))else some (.inr (.inl (a.1,(a.2.1,(a.2.2.1,(a.2.2.2.1,()))))))else some (.inr (.inl (a.1,(a.2.1,(a.2.2.1,(a.2.2.2.1,()))))))
def MQ:MJ->Option ((B8×MJ)):=λd=>(I0 (d.1,(((List.length d.2.1.2.2.2.1:Int),()),()))).bind λh=>(bK d.2.1.2.2.2.1 h.1.1).bind λ_=>(aC d.2.1.2.2.2.1 (Int.toNat h.1.1)).bind λa=>(I0 (h.2.1,(((List.length d.2.1.2.2.1:Int),()),()))).bind λu=>(bK d.2.1.2.2.1 u.1.1).bind λm=>(I0 (u.2.1,(((2:Int),()),()))).bind λs=>Option.bind (bif dO (gS .i64 a.2.2.2.2.2.2.1 s.1.1) (1:Int)then some (.inl ((1:Int),()))else some (.inl (gS .i64 a.2.2.2.2.2.2.1 s.1.1,()))) λH=>Sum.elim (λG=>Option.bind ((I0 (s.2.1,(((4:Int),()),()))).bind λj=>Option.bind (bif gA j.1.1 (0:Int) then some (.inl (true,())) else some (.inl (gA j.1.1 (1:Int),()))) λF=>Sum.elim (λI=>bif I.1 then (I0 (j.2.1,((cM .i64 (List.length d.2.1.2.2.2.2.1:Int) (1:Int),()),()))).bind λk=>bif dO (0:Int) (List.length a.2.2.2.2.2.1:Int) then (I0 (k.2.1,(((List.length a.2.2.2.2.2.1:Int),()),()))).bind λn=>bif gA (2:Int) 0 then none else (bK a.2.2.2.2.2.1 (gS .i64 (gS .i64 (List.length a.2.2.2.2.2.1:Int) (1:Int)) (AV .i64 n.1.1 (2:Int)))).bind λt=>some (.inl (n.2.1.1,(n.2.1.2.1,(n.2.1.2.2.1,((2:Int),(t.2.2.1,(t.1,(m.1,((0:Int),((-1:Int),([],((0:Int),((0:Int),(⟨#[]⟩,([],()))))))))))))))) else some (.inl (k.2.1.1,(k.2.1.2.1,(k.2.1.2.2.1,((2:Int),(G.1,(k.1.1,(m.1,((0:Int),((-1:Int),([],((0:Int),((0:Int),(⟨#[]⟩,([],()))))))))))))))) else bif gA j.1.1 (2:Int) then (Fw ((a.2.2.2.2.2.2.2.2.1,(a.2.2.2.2.2.2.2.2.2.1,(a.2.2.2.2.2.2.2.2.2.2.1,()))),())).bind λr=>Option.bind ((Qn (j.2.1,(((2:Int),()),()))).bind λg=>bif g.1.1 then some (.inl (g.2.1.1,(g.2.1.2.1,(g.2.1.2.2.1,((0:Int),((-1:Int),([],()))))))) else some (.inl (g.2.1.1,(g.2.1.2.1,(g.2.1.2.2.1,(r.1.1,(r.1.2.1,(r.1.2.2.1,())))))))) λA=>Sum.elim (λf=>some (.inl (f.1,(f.2.1,(f.2.2.1,((3:Int),((0:Int),((0:Int),(⟨#[]⟩,(f.2.2.2.1,(f.2.2.2.2.1,(f.2.2.2.2.2.1,(a.2.2.2.2.2.2.1,(f.2.2.2.1,(m.1,([],())))))))))))))))) some A else (aC d.2.1.2.2.2.1 (Int.toNat h.1.1)).bind λy=>(aC d.2.1.2.2.2.1 (Int.toNat h.1.1)).bind λD=>(aC d.2.1.2.2.2.1 (Int.toNat h.1.1)).bind λE=>(aC d.2.1.2.2.2.1 (Int.toNat h.1.1)).bind λv=>(Kk ((a.1,(a.2.1,(a.2.2.1,(a.2.2.2.1,(a.2.2.2.2.1,(a.2.2.2.2.2.1,(a.2.2.2.2.2.2.1,(a.2.2.2.2.2.2.2.1,(a.2.2.2.2.2.2.2.2.1,(a.2.2.2.2.2.2.2.2.2.1,(a.2.2.2.2.2.2.2.2.2.2.1,(a.2.2.2.2.2.2.2.2.2.2.2.1,(a.2.2.2.2.2.2.2.2.2.2.2.2.1,(a.2.2.2.2.2.2.2.2.2.2.2.2.2.1,(a.2.2.2.2.2.2.2.2.2.2.2.2.2.2.1,(y.2.2.2.2.2.2.2.2.2.2.2.2.2.2.2.1,(D.2.2.2.2.2.2.2.2.2.2.2.2.2.2.2.2.1,(E.2.2.2.2.2.2.2.2.2.2.2.2.2.2.2.2.2.1,(a.2.2.2.2.2.2.2.2.2.2.2.2.2.2.2.2.2.2.1,(v.2.2.2.2.2.2.2.2.2.2.2.2.2.2.2.2.2.2.2.1,())))))))))))))))))))),())).bind λb=>Option.bind ((Qn (j.2.1,(((2:Int),()),()))).bind λe=>bif e.1.1 then some (.inl (e.2.1.1,(e.2.1.2.1,(e.2.1.2.2.1,((0:Int),((-1:Int),([],()))))))) else some (.inl (e.2.1.1,(e.2.1.2.1,(e.2.1.2.2.1,(b.1.2.2.2.2.2.2.2.2.1,(b.1.2.2.2.2.2.2.2.2.2.1,(b.1.2.2.2.2.2.2.2.2.2.2.1,())))))))) λB=>Sum.elim (λi=>Option.bind ((Qn ((i.1,(i.2.1,(i.2.2.1,()))),(((2:Int),()),()))).bind λl=>bif l.1.1 then (MN (l.2.1,(((3:Int),()),()))).bind λo=>some (.inl (o.2.1.1,(o.2.1.2.1,(o.2.1.2.2.1,(o.1.1,()))))) else some (.inl (l.2.1.1,(l.2.1.2.1,(l.2.1.2.2.1,(b.1.2.2.2.2.2.2.2.2.2.2.2.2.2.2.2.2.2.2.1,())))))) λC=>Sum.elim (λp=>(aR (MQ.b0 b m) (p.1,(p.2.1,(p.2.2.1,(b.1.2.2.2.2.2.2.1,()))))).bind λz=>Sum.elim (λq=>(OR ((m.1,(b.1.2.1,(b.1.2.2.1,(b.1.2.2.2.1,(b.1.2.2.2.2.1,(b.1.2.2.2.2.2.1,(q.2.2.2.1,(b.1.2.2.2.2.2.2.2.1,(i.2.2.2.1,(i.2.2.2.2.1,(i.2.2.2.2.2.1,(b.1.2.2.2.2.2.2.2.2.2.2.2.1,(b.1.2.2.2.2.2.2.2.2.2.2.2.2.1,(b.1.2.2.2.2.2.2.2.2.2.2.2.2.2.1,(b.1.2.2.2.2.2.2.2.2.2.2.2.2.2.2.1,(b.1.2.2.2.2.2.2.2.2.2.2.2.2.2.2.2.1,(b.1.2.2.2.2.2.2.2.2.2.2.2.2.2.2.2.2.1,(b.1.2.2.2.2.2.2.2.2.2.2.2.2.2.2.2.2.2.1,(p.2.2.2.1,(b.1.2.2.2.2.2.2.2.2.2.2.2.2.2.2.2.2.2.2.2.1,())))))))))))))))))))),(((List.length d.2.1.2.2.2.2.1:Int),()),()))).bind λw=>some (.inl (q.1,(q.2.1,(q.2.2.1,((1:Int),((0:Int),((0:Int),(⟨#[]⟩,((0:Int),((-1:Int),([],((0:Int),((0:Int),(⟨#[]⟩,(([w.1]:List (tR)),())))))))))))))))) some z) some C) some B) some F) λx=>Sum.elim (λc=>some ((c.2.2.2.1,(a.1,(a.2.1,(c.2.2.2.2.2.2.2.2.2.2.2.2.2.1,(c.2.2.2.2.1,(c.2.2.2.2.2.1,(c.2.2.2.2.2.2.1,(c.2.2.2.2.2.2.2.2.2.2.1,(c.2.2.2.2.2.2.2.2.2.2.2.1,(c.2.2.2.2.2.2.2.2.2.2.2.2.1,(c.2.2.2.2.2.2.2.1,(c.2.2.2.2.2.2.2.2.1,(c.2.2.2.2.2.2.2.2.2.1,((0:Int),([],([],())))))))))))))))),((c.1,(c.2.1,(c.2.2.1,()))),(d.2.1,())))) some x) some H
def ar1:zi:=⟨X3,ar0,MQ⟩
def i62:=X3
def o62:Gs:=[⟨.agg,Vg,m8⟩,MD,Vx]
def VL.b0(c:MJ):(a:tm)->Option (Sum tm (Sum tm (Sum (List (D5)×(Int×(Int×(Int×(Int×(Int×(Int×(ByteArray×(ByteArray×(Int×(Int×(List (Fh)×(List (tR)×(List (sH)×(List (B8)×(Int×(ByteArray×(Int×(List (tR)×(Int×(Int×(ByteArray×(Int×(Int×(ByteArray×(Int×(Int×(List (D9)×MH)))))))))))))))))))))))))))) ((Qh×MJ))))):=λa=>bif dO a.1 (List.length c.2.1.2.2.2.1:Int)then (bK c.2.1.2.2.2.1 a.1).bind λ_=>(aC c.2.1.2.2.2.1 (Int.toNat a.1)).bind λb=>(Kj ((b.2.2.2.2.1,()),((b.2.2.2.2.2.2.1,()),()))).bind λd=>bif ko d.1.1 b.1 then bif dO b.2.2.2.2.2.2.2.2.2.2.2.2.2.2.1 b.2.2.2.2.2.2.1 then some (.inl (cM .i64 a.1 (1:Int),(a.1,())))else some (.inl (cM .i64 a.1 (1:Int),(a.2.1,())))else some (.inl (cM .i64 a.1 (1:Int),(a.2.1,())))else some (.inr (.inl (a.1,(a.2.1,()))))
def VL:MJ->Option ((Qh×MJ)):=λa=>Option.bind (bif dO (0:Int) (List.length a.2.1.2.2.2.2.2.2.1:Int)then (Qn (a.1,(((3:Int),()),()))).bind λg=>bif (!g.1.1)then (Kf (g.2.1,((([((6:Int),()),((6:Int),()),((6:Int),()),((6:Int),()),((6:Int),()),((6:Int),()),((7:Int),()),((8:Int),())]:List (D3)),()),()))).bind λm=>(I0 (m.2.1,(((List.length a.2.1.2.2.2.2.2.2.1:Int),()),()))).bind λl=>some (.inr ((m.1.1,(l.1.1,((0:Int),((0:Int),(⟨#[]⟩,(⟨#[]⟩,((0:Int),((0:Int),((0:Int),(⟨#[]⟩,((0:Int),([],((0:Int),((0:Int),(⟨#[]⟩,((0:Int),((0:Int),(⟨#[]⟩,((0:Int),((0:Int),([],((0:Int),([],([],())))))))))))))))))))))))),(l.2.1,(a.2.1,()))))else some (.inl (g.2.1.1,(g.2.1.2.1,(g.2.1.2.2.1,()))))else some (.inl (a.1.1,(a.1.2.1,(a.1.2.2.1,()))))) λu=>Sum.elim (λj=>(I0 ((j.1,(j.2.1,(j.2.2.1,()))),(((List.length a.2.1.2.2.2.1:Int),()),()))).bind λe=>Option.bind ((I0 (e.2.1,(((12:Int),()),()))).bind λd=>Option.bind (bif gA d.1.1 (0:Int) then some (.inl (true,())) else bif gA d.1.1 (1:Int) then some (.inl (true,())) else bif gA d.1.1 (2:Int) then some (.inl (true,())) else some (.inl (gA d.1.1 (3:Int),()))) λw=>Sum.elim (λv=>bif v.1 then (aR (VL.b0 a) ((0:Int),(e.1.1,()))).bind λr=>Sum.elim (λp=>some (.inl (d.2.1.1,(d.2.1.2.1,(d.2.1.2.2.1,((1:Int),(p.2.1,((0:Int),((0:Int),(⟨#[]⟩,(⟨#[]⟩,((0:Int),((0:Int),(a.2.1.2.2.2.1,(a.2.1.2.2.2.2.1,(a.2.1.2.2.2.2.2.1,(a.2.1.2.2.2.2.2.2.1,((0:Int),(⟨#[]⟩,((0:Int),([],((0:Int),((0:Int),(⟨#[]⟩,((0:Int),((0:Int),(⟨#[]⟩,((0:Int),((0:Int),([],((0:Int),([],([],()))))))))))))))))))))))))))))))))) some r else Option.bind (bif gA d.1.1 (4:Int) then some (.inl (true,())) else some (.inl (gA d.1.1 (5:Int),()))) λt=>Sum.elim (λn=>bif n.1 then some (.inl (d.2.1.1,(d.2.1.2.1,(d.2.1.2.2.1,((2:Int),(e.1.1,((0:Int),((0:Int),(⟨#[]⟩,(⟨#[]⟩,((0:Int),((0:Int),(a.2.1.2.2.2.1,(a.2.1.2.2.2.2.1,(a.2.1.2.2.2.2.2.1,(a.2.1.2.2.2.2.2.2.1,((0:Int),(⟨#[]⟩,((0:Int),([],((0:Int),((0:Int),(⟨#[]⟩,((0:Int),((0:Int),(⟨#[]⟩,((0:Int),((0:Int),([],((0:Int),([],([],())))))))))))))))))))))))))))))))) else bif gA d.1.1 (6:Int) then (I0 (d.2.1,(((List.length a.2.1.2.2.2.1:Int),()),()))).bind λi=>some (.inl (i.2.1.1,(i.2.1.2.1,(i.2.1.2.2.1,((3:Int),(e.1.1,(i.1.1,((0:Int),(⟨#[]⟩,(⟨#[]⟩,((0:Int),((0:Int),(a.2.1.2.2.2.1,(a.2.1.2.2.2.2.1,(a.2.1.2.2.2.2.2.1,(a.2.1.2.2.2.2.2.2.1,((0:Int),(⟨#[]⟩,((0:Int),([],((0:Int),((0:Int),(⟨#[]⟩,((0:Int),((0:Int),(⟨#[]⟩,((0:Int),((0:Int),([],((0:Int),([],([],())))))))))))))))))))))))))))))))) else Option.bind (bif gA d.1.1 (7:Int) then some (.inl (true,())) else some (.inl (gA d.1.1 (8:Int),()))) λq=>Sum.elim (λs=>bif s.1 then (bK a.2.1.2.2.2.1 e.1.1).bind λ_=>(aC a.2.1.2.2.2.1 (Int.toNat e.1.1)).bind λk=>(Tf (d.2.1,((k.2.2.1,(k.2.2.2.1,())),()))).bind λf=>(Kf (f.2.1,((([((1:Int),()),((2:Int),()),((3:Int),())]:List (D3)),()),()))).bind λh=>some (.inl (h.2.1.1,(h.2.1.2.1,(h.2.1.2.2.1,((4:Int),(e.1.1,((0:Int),(f.1.1,(f.1.2.1,(f.1.2.2.1,(h.1.1,(f.1.2.2.2.2.1,(a.2.1.2.2.2.1,(a.2.1.2.2.2.2.1,(a.2.1.2.2.2.2.2.1,(a.2.1.2.2.2.2.2.2.1,((0:Int),(⟨#[]⟩,((0:Int),([],((0:Int),((0:Int),(⟨#[]⟩,((0:Int),((0:Int),(⟨#[]⟩,((0:Int),((0:Int),([],((0:Int),([],([],())))))))))))))))))))))))))))))))) else bif gA d.1.1 (9:Int) then some (.inl (d.2.1.1,(d.2.1.2.1,(d.2.1.2.2.1,((5:Int),(e.1.1,((0:Int),((0:Int),(⟨#[]⟩,(⟨#[]⟩,((0:Int),((0:Int),(a.2.1.2.2.2.1,(a.2.1.2.2.2.2.1,(a.2.1.2.2.2.2.2.1,(a.2.1.2.2.2.2.2.2.1,((0:Int),(⟨#[]⟩,((0:Int),([],((0:Int),((0:Int),(⟨#[]⟩,((0:Int),((0:Int),(⟨#[]⟩,((0:Int),((0:Int),([],((0:Int),([],([],())))))))))))))))))))))))))))))))) else bif gA (List.length a.2.1.2.2.1:Int) (0:Int) then some (.inr (((2:Int),(e.1.1,((0:Int),((0:Int),(⟨#[]⟩,(⟨#[]⟩,((0:Int),((0:Int),((0:Int),(⟨#[]⟩,((0:Int),([],((0:Int),((0:Int),(⟨#[]⟩,((0:Int),((0:Int),(⟨#[]⟩,((0:Int),((0:Int),([],((0:Int),([],([],())))))))))))))))))))))))),(d.2.1,(a.2.1,())))) else (MQ (d.2.1,(a.2.1,()))).bind λc=>some (.inl (c.2.1.1,(c.2.1.2.1,(c.2.1.2.2.1,((9:Int),(e.1.1,((0:Int),((0:Int),(⟨#[]⟩,(⟨#[]⟩,((0:Int),((0:Int),(c.2.2.1.2.2.2.1,(c.2.2.1.2.2.2.2.1,(c.2.2.1.2.2.2.2.2.1,(c.2.2.1.2.2.2.2.2.2.1,(c.1.1,(c.1.2.1,(c.1.2.2.1,(c.1.2.2.2.1,(c.1.2.2.2.2.1,(c.1.2.2.2.2.2.1,(c.1.2.2.2.2.2.2.1,(c.1.2.2.2.2.2.2.2.1,(c.1.2.2.2.2.2.2.2.2.1,(c.1.2.2.2.2.2.2.2.2.2.1,(c.1.2.2.2.2.2.2.2.2.2.2.1,(c.1.2.2.2.2.2.2.2.2.2.2.2.1,(c.1.2.2.2.2.2.2.2.2.2.2.2.2.1,(c.1.2.2.2.2.2.2.2.2.2.2.2.2.2.1,(c.1.2.2.2.2.2.2.2.2.2.2.2.2.2.2.1,(c.1.2.2.2.2.2.2.2.2.2.2.2.2.2.2.2.1,()))))))))))))))))))))))))))))))))) some q) some t) some w) λo=>Sum.elim (λb=>some ((b.2.2.2.1,(b.2.2.2.2.1,(b.2.2.2.2.2.1,(b.2.2.2.2.2.2.1,(b.2.2.2.2.2.2.2.1,(b.2.2.2.2.2.2.2.2.1,(b.2.2.2.2.2.2.2.2.2.1,(b.2.2.2.2.2.2.2.2.2.2.1,(b.2.2.2.2.2.2.2.2.2.2.2.2.2.2.2.1,(b.2.2.2.2.2.2.2.2.2.2.2.2.2.2.2.2.1,(b.2.2.2.2.2.2.2.2.2.2.2.2.2.2.2.2.2.1,(b.2.2.2.2.2.2.2.2.2.2.2.2.2.2.2.2.2.2.1,(b.2.2.2.2.2.2.2.2.2.2.2.2.2.2.2.2.2.2.2.1,(b.2.2.2.2.2.2.2.2.2.2.2.2.2.2.2.2.2.2.2.2.1,(b.2.2.2.2.2.2.2.2.2.2.2.2.2.2.2.2.2.2.2.2.2.1,(b.2.2.2.2.2.2.2.2.2.2.2.2.2.2.2.2.2.2.2.2.2.2.1,(b.2.2.2.2.2.2.2.2.2.2.2.2.2.2.2.2.2.2.2.2.2.2.2.1,(b.2.2.2.2.2.2.2.2.2.2.2.2.2.2.2.2.2.2.2.2.2.2.2.2.1,(b.2.2.2.2.2.2.2.2.2.2.2.2.2.2.2.2.2.2.2.2.2.2.2.2.2.1,(b.2.2.2.2.2.2.2.2.2.2.2.2.2.2.2.2.2.2.2.2.2.2.2.2.2.2.1,(b.2.2.2.2.2.2.2.2.2.2.2.2.2.2.2.2.2.2.2.2.2.2.2.2.2.2.2.1,(b.2.2.2.2.2.2.2.2.2.2.2.2.2.2.2.2.2.2.2.2.2.2.2.2.2.2.2.2.1,(b.2.2.2.2.2.2.2.2.2.2.2.2.2.2.2.2.2.2.2.2.2.2.2.2.2.2.2.2.2.1,(b.2.2.2.2.2.2.2.2.2.2.2.2.2.2.2.2.2.2.2.2.2.2.2.2.2.2.2.2.2.2.1,())))))))))))))))))))))))),((b.1,(b.2.1,(b.2.2.1,()))),((a.2.1.1,(a.2.1.2.1,(a.2.1.2.2.1,(b.2.2.2.2.2.2.2.2.2.2.2.1,(b.2.2.2.2.2.2.2.2.2.2.2.2.1,(b.2.2.2.2.2.2.2.2.2.2.2.2.2.1,(b.2.2.2.2.2.2.2.2.2.2.2.2.2.2.1,()))))))),())))) some o) some u
def c62:zi:=⟨i62,o62,VL⟩
def To:Gs:=[Qk]
def ar2:Gs:=[Vz]
def Jf:Ew->Option Ew:=λa=>(CV ((a.1.2.2.2.1,()),())).bind λd=>(Fw ((a.1.2.2.2.2.2.2.2.2.2.2.1,(a.1.2.2.2.2.2.2.2.2.2.2.2.1,(a.1.2.2.2.2.2.2.2.2.2.2.2.2.1,()))),())).bind λc=>(HZ ((a.1.2.2.2.2.2.2.2.2.2.2.2.2.2.1,(a.1.2.2.2.2.2.2.2.2.2.2.2.2.2.2.1,(a.1.2.2.2.2.2.2.2.2.2.2.2.2.2.2.2.1,()))),())).bind λb=>some ((a.1.1,(a.1.2.1,(a.1.2.2.1,(d.1.1,(a.1.2.2.2.2.1,(a.1.2.2.2.2.2.1,(a.1.2.2.2.2.2.2.1,(a.1.2.2.2.2.2.2.2.1,(a.1.2.2.2.2.2.2.2.2.1,(a.1.2.2.2.2.2.2.2.2.2.1,(c.1.1,(c.1.2.1,(c.1.2.2.1,(b.1.1,(b.1.2.1,(b.1.2.2.1,())))))))))))))))),())
def ar3:zi:=⟨To,ar2,Jf⟩
def i73:Gs:=[XE,P8]
def o73:=IZ
def Qc.b0(b:(IY×Em)):(a:ix)->Option K7:=λa=>bif dO a.1 (List.length b.1.2.2.2.1:Int)then(bK b.1.2.2.2.1 a.1).bind λc=>bif ko c.1 b.2.1.1 then some (.inr (.inr ((a.1,()),())))else some (.inl (cM .i64 a.1 (1:Int),()))else some (.inr (.inl (a.1,())))
def Qc:(IY×Em)->Option sF:=λa=>(aR (Qc.b0 a) ((0:Int),())).bind λb=>Sum.elim (λc=>some (((-1:Int),()),())) some b
def c73:zi:=⟨i73,o73,Qc⟩
def MS:Gs:=[P9,UQ]
def ar4:=o7
def Jg.b0(b:HX):(a:ix)->Option Ev:=λa=>bif dO a.1 (List.length b.2.1.1:Int)then(bK b.2.1.1 a.1).bind λd=>(FW (b.1,(d,()))).bind λc=>bif (!c.1.1)then some (.inr (.inr ((false,()),())))else some (.inl (cM .i64 a.1 (1:Int),()))else some (.inr (.inl (a.1,())))
def Jg:HX->Option lf:=λa=>(aR (Jg.b0 a) ((0:Int),())).bind λb=>Sum.elim (λd=>(Nz (a.2.1,())).bind λc=>some (c.1,())) some b
def ar5:zi:=⟨MS,ar4,Jg⟩
def i66:=MS
def o66:=IZ
def SK.b0(b:HX):(a:tm)->Option Kc:=λa=>bif dO a.2.1 (List.length b.1.1:Int)then(bK b.1.1 a.2.1).bind λd=>(FV (b.2.1,((d.1,()),()))).bind λe=>bif e.1.1 then (bK b.1.1 a.2.1).bind λc=>some (.inl (cM .i64 a.1 c.2.1,(cM .i64 a.2.1 (1:Int),())))else some (.inl (a.1,(cM .i64 a.2.1 (1:Int),())))else some (.inr (.inl (a.1,(a.2.1,()))))
def SK:HX->Option sF:=λb=>(aR (SK.b0 b) ((0:Int),((0:Int),()))).bind λa=>Sum.elim (λc=>some ((c.1,()),())) some a
def c66:zi:=⟨i66,o66,SK⟩
def i67:=Qu
def o67:=IZ
def SL.b0(b:B9):(a:tm)->Option Kc:=λa=>bif dO a.2.1 (List.length b.1.1:Int)then(bK b.1.1 a.2.1).bind λc=>some (.inl (cM .i64 a.1 c.2.1,(cM .i64 a.2.1 (1:Int),())))else some (.inr (.inl (a.1,(a.2.1,()))))
def SL:B9->Option sF:=λa=>(aR (SL.b0 a) ((0:Int),((0:Int),()))).bind λc=>Sum.elim (λb=>some ((b.1,()),())) some c
def c67:zi:=⟨i67,o67,SL⟩
def ar6:=MS
def ar7:=o7
def Tp:HX->Option lf:=λa=>(SK (a.1,(a.2.1,()))).bind λb=>(SL (a.1,())).bind λc=>some ((dO (zJ .i64 (2:Int) c.1.1) (zJ .i64 (3:Int) b.1.1),()),())
def ar8:zi:=⟨ar6,ar7,Tp⟩
def X4:Gs:=[P9,I8]
def ar9:=o7
def Li:(Kb×Ex)->Option lf:=λa=>(Kl (a.2.1,())).bind λb=>bif b.1.1 then some ((true,()),())else (lh ((a.2.1.1,()),(((1:Int),()),(((10000:Int),()),())))).bind λc=>bif c.1.1 then (lh ((a.2.1.2.1,()),(((0:Int),()),(((100000:Int),()),())))).bind λf=>bif f.1.1 then (Jg (a.1,((a.2.1.2.2.1,()),()))).bind λe=>bif e.1.1 then (Tp (a.1,((a.2.1.2.2.1,()),()))).bind λd=>some (d.1,())else some ((false,()),())else some ((false,()),())else some ((false,()),())
def as0:zi:=⟨X4,ar9,Li⟩
def as1:Gs:=[P9,MK]
def as2:=o7
def H3.b0(b:(Kb×EH)):(a:ix)->Option Ev:=λa=>bif dO a.1 (List.length b.2.1.2.2.1:Int)then(bK b.2.1.2.2.1 a.1).bind λc=>(lh (c,(((0:Int),()),((gS .i64 b.2.1.1 (1:Int),()),())))).bind λd=>bif (!d.1.1)then some (.inr (.inr ((false,()),())))else some (.inl (cM .i64 a.1 (1:Int),()))else some (.inr (.inl (a.1,())))
def H3:(Kb×EH)->Option lf:=λa=>(Hw (a.2.1,())).bind λb=>bif b.1.1 then some ((true,()),())else (lh ((a.2.1.1,()),(((1:Int),()),(((10000:Int),()),())))).bind λc=>bif (!c.1.1)then some ((false,()),())else (Jg (a.1,((a.2.1.2.1,()),()))).bind λe=>bif (!e.1.1)then some ((false,()),())else (Tp (a.1,((a.2.1.2.1,()),()))).bind λd=>bif (!d.1.1)then some ((false,()),())else bif !gA (List.length a.2.1.2.2.1:Int) (List.length a.2.1.2.1:Int)then some ((false,()),())else (aR (H3.b0 a) ((0:Int),())).bind λf=>Sum.elim (λg=>some ((true,()),())) some f
def as3:zi:=⟨as1,as2,H3⟩
def as4:=ON
def as5:=IZ
def GN.b0(b:EH):(a:tm)->Option Kc:=λa=>bif dO a.2.1 (List.length b.1.2.2.1:Int)then(bK b.1.2.2.1 a.2.1).bind λc=>bif dO a.1 c.1 then(bK b.1.2.2.1 a.2.1).bind λd=>some (.inl (d.1,(cM .i64 a.2.1 (1:Int),())))else some (.inl (a.1,(cM .i64 a.2.1 (1:Int),())))else some (.inr (.inl (a.1,(a.2.1,()))))
def GN:EH->Option sF:=λc=>(aR (GN.b0 c) ((0:Int),((0:Int),()))).bind λb=>Sum.elim (λa=>some ((a.1,()),())) some b
def as6:zi:=⟨as4,as5,GN⟩
def as7:=Lc
def as8:=o7
def Lj:D8->Option lf:=λa=>Option.bind (bif gA a.1.2.2.2.2.1 (gS .i64 a.1.2.2.1 (1:Int))then(Hw ((a.1.2.2.2.2.2.2.2.1,(a.1.2.2.2.2.2.2.2.2.1,(a.1.2.2.2.2.2.2.2.2.2.1,()))),())).bind λb=>bif b.1.1 then some (.inr ((true,()),()))else some (.inl ())else some (.inl ())) λd=>Sum.elim (λe=>bif gA a.1.2.2.2.2.2.2.2.1 (gS .i64 a.1.2.2.1 (1:Int)) then bif dO (0:Int) a.1.2.2.2.2.2.2.2.1 then (GN ((a.1.2.2.2.2.2.2.2.1,(a.1.2.2.2.2.2.2.2.2.1,(a.1.2.2.2.2.2.2.2.2.2.1,()))),())).bind λc=>some ((km c.1.1 a.1.2.2.2.2.1,()),()) else some ((false,()),()) else some ((false,()),())) some d
def as9:zi:=⟨as7,as8,Lj⟩
def X5:Gs:=[P9,P9]
def at0:=o7
def Kq.b0(b:(Kb×B9)):(a:ix)->Option Ev:=λa=>bif dO a.1 (List.length b.1.1:Int)then(bK b.1.1 a.1).bind λc=>(bK b.2.1.1 a.1).bind λd=>bif !((ko c.1 d.1)&&(gA c.2.1 d.2.1))then some (.inr (.inr ((false,()),())))else some (.inl (cM .i64 a.1 (1:Int),()))else some (.inr (.inl (a.1,())))
def Kq:(Kb×B9)->Option lf:=λa=>bif !gA (List.length a.1.1:Int) (List.length a.2.1.1:Int)then some ((false,()),())else (aR (Kq.b0 a) ((0:Int),())).bind λb=>Sum.elim (λc=>some ((true,()),())) some b
def at1:zi:=⟨X5,at0,Kq⟩
def at3:Gs:=[Qb,S5,OL]
def at4:=o7
def OS:(Jz×(GI×D8))->Option lf:=λa=>(Qw (a.2.1,((a.2.2.1.2.2.2.2.2.1,()),()))).bind λe=>bif (!e.1.1)then some ((false,()),())else (Le (a.2.1,((a.2.2.1.2.2.2.2.2.1,()),()))).bind λf=>bif f.1.1 then bif gA (List.length a.2.2.1.2.2.2.2.2.2.2.2.2.2.1:Int) (0:Int)then bif (!a.2.2.1.2.2.2.2.2.2.2.2.2.2.2.1)then bif gA (List.length a.2.2.1.2.2.2.2.2.2.2.2.2.2.2.2.1:Int) (0:Int)then some ((ko a.2.2.1.2.2.2.2.2.2.2.2.2.2.2.2.2.1 ⟨#[]⟩,()),())else some ((false,()),())else some ((false,()),())else some ((false,()),())else (Lf (a.1,(a.2.1,((a.2.2.1.2.2.2.2.2.1,()),())))).bind λh=>(H2 (h.1,((a.2.2.1.2.2.2.2.2.2.2.2.2.2.1,()),()))).bind λc=>(Fy (a.2.1,((a.2.2.1.2.2.2.2.2.1,()),()))).bind λb=>bif !gA c.2.1.1 (List.length a.2.2.1.2.2.2.2.2.2.2.2.2.2.1:Int)then some ((false,()),())else bif !wo a.2.2.1.2.2.2.2.2.2.2.2.2.2.2.1 (gA (List.length b.1.1:Int) (1:Int))then some ((false,()),())else bif (!(gA (List.length b.1.1:Int) (1:Int)))then bif gA (List.length a.2.2.1.2.2.2.2.2.2.2.2.2.2.2.2.1:Int) (0:Int)then some ((ko a.2.2.1.2.2.2.2.2.2.2.2.2.2.2.2.2.1 ⟨#[]⟩,()),())else some ((false,()),())else (vm (c.1,())).bind λd=>(Xd (d.1,())).bind λg=>(Kq ((a.2.2.1.2.2.2.2.2.2.2.2.2.2.2.2.1,()),(g.1,()))).bind λi=>bif i.1.1 then (Lh (d.1,())).bind λj=>some ((ko a.2.2.1.2.2.2.2.2.2.2.2.2.2.2.2.2.1 j.1.1,()),())else some ((false,()),())
def at5:zi:=⟨at3,at4,OS⟩
def at6:=Qs
def X6:Gs:=[VA]
def at7:zi:=⟨at6,X6,CV⟩
def at8:Gs:=[S5,OL]
def at9:Gs:=[VA,P7]
def Fz.b0(g:(GI×D8)):(a:(Int×S4))->Option (Sum (Int×S4) (Sum (Int×S4) ((GI×lf)))):=λa=>bif dO (0:Int) a.1 then (bK a.2.1 (gS .i64 a.1 (1:Int))).bind λ_=>(aC a.2.1 (Int.toNat (gS .i64 a.1 (1:Int)))).bind λf=>bif dO g.2.1.1 f.1 then (bK a.2.1 (gS .i64 a.1 (1:Int))).bind λ_=>(aC a.2.1 (Int.toNat (gS .i64 a.1 (1:Int)))).bind λc=>(bK a.2.1 a.1).bind λ_=>(aC a.2.1 (Int.toNat a.1)).bind λb=>(bK a.2.1 (gS .i64 a.1 (1:Int))).bind λ_=>(aC a.2.1 (Int.toNat (gS .i64 a.1 (1:Int)))).bind λi=>(some (List.set a.2.1 (Int.toNat (gS .i64 a.1 (1:Int))) (b.1,(b.2.1,(b.2.2.1,(b.2.2.2.1,(b.2.2.2.2.1,(b.2.2.2.2.2.1,(b.2.2.2.2.2.2.1,(b.2.2.2.2.2.2.2.1,(b.2.2.2.2.2.2.2.2.1,(b.2.2.2.2.2.2.2.2.2.1,(b.2.2.2.2.2.2.2.2.2.2.1,(b.2.2.2.2.2.2.2.2.2.2.2.1,(b.2.2.2.2.2.2.2.2.2.2.2.2.1,(b.2.2.2.2.2.2.2.2.2.2.2.2.2.1,())))))))))))))))).bind λd=>(bK d a.1).bind λ_=>(aC d (Int.toNat a.1)).bind λh=>(some (List.set d (Int.toNat a.1) (c.1,(c.2.1,(c.2.2.1,(c.2.2.2.1,(c.2.2.2.2.1,(c.2.2.2.2.2.1,(c.2.2.2.2.2.2.1,(c.2.2.2.2.2.2.2.1,(c.2.2.2.2.2.2.2.2.1,(c.2.2.2.2.2.2.2.2.2.1,(c.2.2.2.2.2.2.2.2.2.2.1,(c.2.2.2.2.2.2.2.2.2.2.2.1,(c.2.2.2.2.2.2.2.2.2.2.2.2.1,(c.2.2.2.2.2.2.2.2.2.2.2.2.2.1,())))))))))))))))).bind λe=>some (.inl (gS .i64 a.1 (1:Int),(e,()))) else some (.inr (.inl (a.1,(a.2.1,())))) else some (.inr (.inl (a.1,(a.2.1,()))))
def Fz:(GI×D8)->Option ((GI×lf)):=λa=>(Fx (a.1,((a.2.1.1,()),()))).bind λh=>bif km (0:Int) h.1.1 then (CV (a.1,())).bind λi=>some (i.1,((false,()),())) else (CV (a.1,())).bind λc=>(H0 (a.2.1,())).bind λb=>bif dE (List.length c.1.1+List.length ([b.1]:List (tR))) 208 then (aR (Fz.b0 a) (gS .i64 (List.length (bV c.1.1 ([b.1]:List (tR))):Int) (1:Int),(bV c.1.1 ([b.1]:List (tR)),()))).bind λe=>Sum.elim (λd=>(Jb ((d.2.1,()),())).bind λg=>bif (!g.1.1) then (CV (a.1,())).bind λf=>some (f.1,((false,()),())) else some ((d.2.1,()),((true,()),()))) some e else none
def au0:zi:=⟨at8,at9,Fz⟩
def au1:Gs:=[S5,I8]
def au2:=IZ
def Tq:(GI×Ex)->Option sF:=λa=>(Fx (a.1,((a.2.1.2.1,()),()))).bind λb=>bif dO b.1.1 (0:Int)then some (((-1:Int),()),())else (bK a.1.1 b.1.1).bind λe=>bif !gA e.2.2.1 a.2.1.1 then some (((-1:Int),()),())else (bK a.1.1 b.1.1).bind λg=>(Fx (a.1,((g.2.2.2.2.2.1,()),()))).bind λc=>bif dO c.1.1 (0:Int)then some (((-1:Int),()),())else (bK a.1.1 c.1.1).bind λf=>bif !gA f.2.2.1 (gS .i64 a.2.1.1 (1:Int))then some (((-1:Int),()),())else (bK a.1.1 c.1.1).bind λd=>some ((d.1,()),())
def au3:zi:=⟨au1,au2,Tq⟩
def au4:=Qv
def au5:=OO
def Jh.b0(b:Fb)(e:HW):(a:K6)->Option Vp:=λa=>bif dO a.2.1 (List.length b.1.1:Int)then(bK b.1.1 a.2.1).bind λ_=>(aC b.1.1 (Int.toNat a.2.1)).bind λf=>(bK e.1.1 f.1).bind λd=>(H0 (d,())).bind λc=>bif dE (List.length a.1+List.length ([c.1]:List (tR))) 208 then some (.inl (bV a.1 ([c.1]:List (tR)),(cM .i64 a.2.1 (1:Int),())))else none else some (.inr (.inl (a.1,(a.2.1,()))))
def Jh:HW->Option Ht:=λa=>(Fy (a.1,(a.2.1,()))).bind λc=>(aR (Jh.b0 c a) (([]:List (tR)),((0:Int),()))).bind λd=>Sum.elim (λb=>some ((b.1,()),())) some d
def au6:zi:=⟨au4,au5,Jh⟩
def au7:Gs:=[Qm,ED]
def au8:=o7
def Ji.b0(b:((List D3×Unit)×sF)):(a:ix)->Option Ev:=λa=>bif dO a.1 (List.length b.1.1:Int)then(bK b.1.1 a.1).bind λc=>bif gA c.1 b.2.1.1 then some (.inr (.inr ((true,()),())))else some (.inl (cM .i64 a.1 (1:Int),()))else some (.inr (.inl (a.1,())))
def Ji:((List D3×Unit)×sF)->Option lf:=λa=>(aR (Ji.b0 a) ((0:Int),())).bind λb=>Sum.elim (λc=>some ((false,()),())) some b
def au9:zi:=⟨au7,au8,Ji⟩
def av0:Gs:=[ML,Qb]
def X7:Gs:=[S7]
def Jj.b0(b:(GJ×tS)):(a:(List (cl)×ix))->Option (Sum (List (cl)×ix) (Sum (List (cl)×ix) FT)):=λa=>bif dO a.2.1 (List.length b.1.1:Int) then (bK b.1.1 a.2.1).bind λf=>(Hx ((b.2.1.2.1,()),((f.2.1,()),()))).bind λd=>bif km (0:Int) d.1.1 then (bK b.1.1 a.2.1).bind λe=>(bK b.2.1.2.1 d.1.1).bind λg=>bif km g.2.2.1 e.2.2.2.2.1 then (bK b.1.1 a.2.1).bind λc=>bif dE (List.length a.1+List.length ([c]:List (cl))) 56 then some (.inl (bV a.1 ([c]:List (cl)),(cM .i64 a.2.1 (1:Int),()))) else none else some (.inl (a.1,(cM .i64 a.2.1 (1:Int),()))) else some (.inl (a.1,(cM .i64 a.2.1 (1:Int),()))) else some (.inr (.inl (a.1,(a.2.1,()))))
def Jj:(GJ×tS)->Option FT:=λb=>(aR (Jj.b0 b) (([]:List (cl)),((0:Int),()))).bind λa=>Sum.elim (λc=>some ((c.1,()),())) some a
def av1:zi:=⟨av0,X7,Jj⟩
def av2:Gs:=[Qa,ED,I8]
def Kr:Gs:=[Qa]
def Jk.b0(b:(Fh×(ix×Ex))):(a:Vh)->Option (Sum Vh (Sum Vh AN)):=λa=>bif dO a.1 (List.length a.2.1:Int)then (bK a.2.1 a.1).bind λm=>(H2 ((a.2.2.1,(a.2.2.2.1,())),((m.2.2.2.2.2.2.2.2.2.2.1,()),()))).bind λe=>Option.bind ((bK a.2.1 a.1).bind λo=>(Ji ((a.2.2.2.2.1,()),((o.1,()),()))).bind λn=>bif (!n.1.1)then (bK a.2.1 a.1).bind λh=>bif dE (List.length a.2.2.2.2.1+List.length ([(h.1,())]:List (D3))) 8 then some (.inl (bV a.2.2.2.2.1 ([(h.1,())]:List (D3)),()))else none else some (.inl (a.2.2.2.2.1,()))) λk=>Sum.elim (λi=>(bK a.2.1 a.1).bind λj=>bif j.2.2.2.2.2.2.2.2.2.2.2.1 then (Jh ((b.1.2.2.2.2.2.1,()),((b.2.2.1.2.1,()),()))).bind λf=>(Fw (b.2.2.1,())).bind λc=>bif dE (List.length b.1.2.2.2.2.2.2.2.2.2.2.2.2.2.2.2.2.2.2.2.1+List.length ([(b.1.2.1,(f.1.1,(c.1.1,(c.1.2.1,(c.1.2.2.1,())))))]:List (Ka))) 72 then (vm (e.1,())).bind λd=>(Jj ((b.1.2.2.2.2.2.2.2.2.2.2.2.2.2.2.2.2.2.2.1,()),(d.1,()))).bind λl=>(bK a.2.1 a.1).bind λg=>bif dE (List.length ([]:List (ds))+List.length g.2.2.2.2.2.2.2.2.2.2.2.2.1) 24 then some (.inr (.inr ((b.1.1,(d.1.1,(d.1.1,(d.1.2.1,(bV ([]:List (ds)) g.2.2.2.2.2.2.2.2.2.2.2.2.1,(([]:List (tR)),((1:Int),((0:Int),((0:Int),((-1:Int),([],((0:Int),([],([],((0:Int),(([]:List (tb)),(([]:List (pf)),(i.1,(l.1.1,(bV b.1.2.2.2.2.2.2.2.2.2.2.2.2.2.2.2.2.2.2.2.1 ([(b.1.2.1,(f.1.1,(c.1.1,(c.1.2.1,(c.1.2.2.1,())))))]:List (Ka)),())))))))))))))))))))),()))) else none else none else some (.inl (cM .i64 a.1 (1:Int),(a.2.1,(e.1.1,(e.1.2.1,(i.1,()))))))) some k else some (.inr (.inl (a.1,(a.2.1,(a.2.2.1,(a.2.2.2.1,(a.2.2.2.2.1,())))))))
def Jk:(Fh×(ix×Ex))->Option AN:=λa=>(Jh ((a.1.2.2.2.2.2.1,()),(a.2.1,()))).bind λf=>(Fc ((a.1.2.2.1,(a.1.2.2.2.1,())),())).bind λc=>(aR (Jk.b0 a) ((0:Int),(f.1.1,(c.1.1,(c.1.2.1,(a.1.2.2.2.2.2.2.2.2.2.2.2.2.2.2.2.2.2.1,())))))).bind λd=>Sum.elim (λb=>(Jj ((a.1.2.2.2.2.2.2.2.2.2.2.2.2.2.2.2.2.2.2.1,()),((b.2.2.1,(b.2.2.2.1,())),()))).bind λe=>some ((a.1.1,(a.1.2.1,(a.1.2.2.1,(a.1.2.2.2.1,(a.1.2.2.2.2.1,(a.1.2.2.2.2.2.1,(a.1.2.2.2.2.2.2.1,(a.1.2.2.2.2.2.2.2.1,(a.1.2.2.2.2.2.2.2.2.1,(a.1.2.2.2.2.2.2.2.2.2.1,(a.1.2.2.2.2.2.2.2.2.2.2.1,(a.1.2.2.2.2.2.2.2.2.2.2.2.1,(a.1.2.2.2.2.2.2.2.2.2.2.2.2.1,(a.1.2.2.2.2.2.2.2.2.2.2.2.2.2.1,(a.1.2.2.2.2.2.2.2.2.2.2.2.2.2.2.1,(a.1.2.2.2.2.2.2.2.2.2.2.2.2.2.2.2.1,(a.1.2.2.2.2.2.2.2.2.2.2.2.2.2.2.2.2.1,(b.2.2.2.2.1,(e.1.1,(a.1.2.2.2.2.2.2.2.2.2.2.2.2.2.2.2.2.2.2.2.1,())))))))))))))))))))),())) some d
def av3:zi:=⟨av2,Kr,Jk⟩
def av4:Gs:=[Qa,I8]
def av5:=Kr
def Jl:(Fh×Ex)->Option AN:=λa=>Option.bind (bif dO a.1.2.2.2.2.2.2.2.2.1 a.2.1.1 then(Fw (a.2.1,())).bind λc=>some (.inl (c.1.1,(c.1.2.1,(c.1.2.2.1,()))))else some (.inl (a.1.2.2.2.2.2.2.2.2.1,(a.1.2.2.2.2.2.2.2.2.2.1,(a.1.2.2.2.2.2.2.2.2.2.2.1,()))))) λh=>Sum.elim (λb=>Option.bind (bif dO a.1.2.2.2.2.2.2.1 (cM .i64 a.2.1.1 (1:Int)) then some (.inl (cM .i64 a.2.1.1 (1:Int),())) else some (.inl (a.1.2.2.2.2.2.2.1,()))) λg=>Sum.elim (λe=>(Tq ((a.1.2.2.2.2.2.1,()),(a.2.1,()))).bind λd=>bif km (0:Int) d.1.1 then (Jk ((a.1.1,(a.1.2.1,(a.1.2.2.1,(a.1.2.2.2.1,(a.1.2.2.2.2.1,(a.1.2.2.2.2.2.1,(e.1,(a.1.2.2.2.2.2.2.2.1,(b.1,(b.2.1,(b.2.2.1,(a.1.2.2.2.2.2.2.2.2.2.2.2.1,(a.1.2.2.2.2.2.2.2.2.2.2.2.2.1,(a.1.2.2.2.2.2.2.2.2.2.2.2.2.2.1,(a.1.2.2.2.2.2.2.2.2.2.2.2.2.2.2.1,(a.1.2.2.2.2.2.2.2.2.2.2.2.2.2.2.2.1,(a.1.2.2.2.2.2.2.2.2.2.2.2.2.2.2.2.2.1,(a.1.2.2.2.2.2.2.2.2.2.2.2.2.2.2.2.2.2.1,(a.1.2.2.2.2.2.2.2.2.2.2.2.2.2.2.2.2.2.2.1,(a.1.2.2.2.2.2.2.2.2.2.2.2.2.2.2.2.2.2.2.2.1,())))))))))))))))))))),(d.1,(a.2.1,())))).bind λf=>some (f.1,()) else some ((a.1.1,(a.1.2.1,(a.1.2.2.1,(a.1.2.2.2.1,(a.1.2.2.2.2.1,(a.1.2.2.2.2.2.1,(e.1,(a.1.2.2.2.2.2.2.2.1,(b.1,(b.2.1,(b.2.2.1,(a.1.2.2.2.2.2.2.2.2.2.2.2.1,(a.1.2.2.2.2.2.2.2.2.2.2.2.2.1,(a.1.2.2.2.2.2.2.2.2.2.2.2.2.2.1,(a.1.2.2.2.2.2.2.2.2.2.2.2.2.2.2.1,(a.1.2.2.2.2.2.2.2.2.2.2.2.2.2.2.2.1,(a.1.2.2.2.2.2.2.2.2.2.2.2.2.2.2.2.2.1,(a.1.2.2.2.2.2.2.2.2.2.2.2.2.2.2.2.2.2.1,(a.1.2.2.2.2.2.2.2.2.2.2.2.2.2.2.2.2.2.2.1,(a.1.2.2.2.2.2.2.2.2.2.2.2.2.2.2.2.2.2.2.2.1,())))))))))))))))))))),())) some g) some h
def av6:zi:=⟨av4,av5,Jl⟩
def av7:Gs:=[Qa,MK]
def av8:=Kr
def MT:(Fh×EH)->Option AN:=λa=>Option.bind (bif dO a.1.2.2.2.2.2.2.2.2.2.2.2.1 a.2.1.1 then(HZ (a.2.1,())).bind λc=>some (.inl (c.1.1,(c.1.2.1,(c.1.2.2.1,()))))else some (.inl (a.1.2.2.2.2.2.2.2.2.2.2.2.1,(a.1.2.2.2.2.2.2.2.2.2.2.2.2.1,(a.1.2.2.2.2.2.2.2.2.2.2.2.2.2.1,()))))) λd=>Sum.elim (λb=>bif dO a.1.2.2.2.2.2.2.1 (cM .i64 a.2.1.1 (1:Int)) then some ((a.1.1,(a.1.2.1,(a.1.2.2.1,(a.1.2.2.2.1,(a.1.2.2.2.2.1,(a.1.2.2.2.2.2.1,(cM .i64 a.2.1.1 (1:Int),(a.1.2.2.2.2.2.2.2.1,(a.1.2.2.2.2.2.2.2.2.1,(a.1.2.2.2.2.2.2.2.2.2.1,(a.1.2.2.2.2.2.2.2.2.2.2.1,(b.1,(b.2.1,(b.2.2.1,(a.1.2.2.2.2.2.2.2.2.2.2.2.2.2.2.1,(a.1.2.2.2.2.2.2.2.2.2.2.2.2.2.2.2.1,(a.1.2.2.2.2.2.2.2.2.2.2.2.2.2.2.2.2.1,(a.1.2.2.2.2.2.2.2.2.2.2.2.2.2.2.2.2.2.1,(a.1.2.2.2.2.2.2.2.2.2.2.2.2.2.2.2.2.2.2.1,(a.1.2.2.2.2.2.2.2.2.2.2.2.2.2.2.2.2.2.2.2.1,())))))))))))))))))))),()) else some ((a.1.1,(a.1.2.1,(a.1.2.2.1,(a.1.2.2.2.1,(a.1.2.2.2.2.1,(a.1.2.2.2.2.2.1,(a.1.2.2.2.2.2.2.1,(a.1.2.2.2.2.2.2.2.1,(a.1.2.2.2.2.2.2.2.2.1,(a.1.2.2.2.2.2.2.2.2.2.1,(a.1.2.2.2.2.2.2.2.2.2.2.1,(b.1,(b.2.1,(b.2.2.1,(a.1.2.2.2.2.2.2.2.2.2.2.2.2.2.2.1,(a.1.2.2.2.2.2.2.2.2.2.2.2.2.2.2.2.1,(a.1.2.2.2.2.2.2.2.2.2.2.2.2.2.2.2.2.1,(a.1.2.2.2.2.2.2.2.2.2.2.2.2.2.2.2.2.2.1,(a.1.2.2.2.2.2.2.2.2.2.2.2.2.2.2.2.2.2.2.1,(a.1.2.2.2.2.2.2.2.2.2.2.2.2.2.2.2.2.2.2.2.1,())))))))))))))))))))),())) some d
def av9:zi:=⟨av7,av8,MT⟩
def X8:Gs:=[Qa,OL]
def aw0:Gs:=[P7,Qa]
def Jm:(Fh×D8)->Option (I6×AN):=λb=>(OQ (b.2.1,())).bind λj=>bif (!j.1.1)then some ((false,()),(b.1,()))else bif !gA b.2.1.2.1 b.1.2.1 then some ((false,()),(b.1,()))else (Kj ((b.1.2.2.2.2.1,()),((b.2.1.2.2.1,()),()))).bind λk=>bif !ko b.2.1.2.2.2.1 k.1.1 then some ((false,()),(b.1,()))else (Li ((b.1.2.2.2.2.1,()),((b.2.1.2.2.2.2.1,(b.2.1.2.2.2.2.2.1,(b.2.1.2.2.2.2.2.2.1,()))),()))).bind λn=>bif (!n.1.1)then some ((false,()),(b.1,()))else (H3 ((b.1.2.2.2.2.1,()),((b.2.1.2.2.2.2.2.2.2.1,(b.2.1.2.2.2.2.2.2.2.2.1,(b.2.1.2.2.2.2.2.2.2.2.2.1,()))),()))).bind λm=>bif (!m.1.1)then some ((false,()),(b.1,()))else (Lj (b.2.1,())).bind λl=>bif (!l.1.1)then some ((false,()),(b.1,()))else (OS ((b.1.2.2.1,(b.1.2.2.2.1,())),((b.1.2.2.2.2.2.1,()),(b.2.1,())))).bind λo=>bif (!o.1.1)then some ((false,()),(b.1,()))else (Fz ((b.1.2.2.2.2.2.1,()),(b.2.1,()))).bind λg=>bif (!g.2.1.1)then some ((false,()),(b.1,()))else (Jl ((b.1.1,(b.1.2.1,(b.1.2.2.1,(b.1.2.2.2.1,(b.1.2.2.2.2.1,(g.1.1,(b.1.2.2.2.2.2.2.1,(b.1.2.2.2.2.2.2.2.1,(b.1.2.2.2.2.2.2.2.2.1,(b.1.2.2.2.2.2.2.2.2.2.1,(b.1.2.2.2.2.2.2.2.2.2.2.1,(b.1.2.2.2.2.2.2.2.2.2.2.2.1,(b.1.2.2.2.2.2.2.2.2.2.2.2.2.1,(b.1.2.2.2.2.2.2.2.2.2.2.2.2.2.1,(b.1.2.2.2.2.2.2.2.2.2.2.2.2.2.2.1,(b.1.2.2.2.2.2.2.2.2.2.2.2.2.2.2.2.1,(b.1.2.2.2.2.2.2.2.2.2.2.2.2.2.2.2.2.1,(b.1.2.2.2.2.2.2.2.2.2.2.2.2.2.2.2.2.2.1,(b.1.2.2.2.2.2.2.2.2.2.2.2.2.2.2.2.2.2.2.1,(b.1.2.2.2.2.2.2.2.2.2.2.2.2.2.2.2.2.2.2.2.1,())))))))))))))))))))),((b.2.1.2.2.2.2.1,(b.2.1.2.2.2.2.2.1,(b.2.1.2.2.2.2.2.2.1,()))),()))).bind λc=>Option.bind (bif gA c.1.2.1 b.1.2.1 then (MT (c.1,((b.2.1.2.2.2.2.2.2.2.1,(b.2.1.2.2.2.2.2.2.2.2.1,(b.2.1.2.2.2.2.2.2.2.2.2.1,()))),()))).bind λf=>some (.inl (f.1.1,(f.1.2.1,(f.1.2.2.1,(f.1.2.2.2.1,(f.1.2.2.2.2.1,(f.1.2.2.2.2.2.1,(f.1.2.2.2.2.2.2.1,(f.1.2.2.2.2.2.2.2.1,(f.1.2.2.2.2.2.2.2.2.1,(f.1.2.2.2.2.2.2.2.2.2.1,(f.1.2.2.2.2.2.2.2.2.2.2.1,(f.1.2.2.2.2.2.2.2.2.2.2.2.1,(f.1.2.2.2.2.2.2.2.2.2.2.2.2.1,(f.1.2.2.2.2.2.2.2.2.2.2.2.2.2.1,(f.1.2.2.2.2.2.2.2.2.2.2.2.2.2.2.1,(f.1.2.2.2.2.2.2.2.2.2.2.2.2.2.2.2.1,(f.1.2.2.2.2.2.2.2.2.2.2.2.2.2.2.2.2.1,(f.1.2.2.2.2.2.2.2.2.2.2.2.2.2.2.2.2.2.1,(f.1.2.2.2.2.2.2.2.2.2.2.2.2.2.2.2.2.2.2.1,(f.1.2.2.2.2.2.2.2.2.2.2.2.2.2.2.2.2.2.2.2.1,())))))))))))))))))))))else some (.inl (c.1.1,(c.1.2.1,(c.1.2.2.1,(c.1.2.2.2.1,(c.1.2.2.2.2.1,(c.1.2.2.2.2.2.1,(c.1.2.2.2.2.2.2.1,(c.1.2.2.2.2.2.2.2.1,(c.1.2.2.2.2.2.2.2.2.1,(c.1.2.2.2.2.2.2.2.2.2.1,(c.1.2.2.2.2.2.2.2.2.2.2.1,(c.1.2.2.2.2.2.2.2.2.2.2.2.1,(c.1.2.2.2.2.2.2.2.2.2.2.2.2.1,(c.1.2.2.2.2.2.2.2.2.2.2.2.2.2.1,(c.1.2.2.2.2.2.2.2.2.2.2.2.2.2.2.1,(c.1.2.2.2.2.2.2.2.2.2.2.2.2.2.2.2.1,(c.1.2.2.2.2.2.2.2.2.2.2.2.2.2.2.2.2.1,(c.1.2.2.2.2.2.2.2.2.2.2.2.2.2.2.2.2.2.1,(c.1.2.2.2.2.2.2.2.2.2.2.2.2.2.2.2.2.2.2.1,(c.1.2.2.2.2.2.2.2.2.2.2.2.2.2.2.2.2.2.2.2.1,())))))))))))))))))))))) λi=>Sum.elim (λa=>Option.bind (bif gA a.2.1 b.1.2.1 then bif gA a.2.2.2.2.2.2.2.2.2.1 b.2.1.1 then (Jl ((a.1,(a.2.1,(a.2.2.1,(a.2.2.2.1,(a.2.2.2.2.1,(a.2.2.2.2.2.1,(a.2.2.2.2.2.2.1,(a.2.2.2.2.2.2.2.1,(a.2.2.2.2.2.2.2.2.1,(a.2.2.2.2.2.2.2.2.2.1,(a.2.2.2.2.2.2.2.2.2.2.1,(a.2.2.2.2.2.2.2.2.2.2.2.1,(a.2.2.2.2.2.2.2.2.2.2.2.2.1,(a.2.2.2.2.2.2.2.2.2.2.2.2.2.1,(a.2.2.2.2.2.2.2.2.2.2.2.2.2.2.1,(a.2.2.2.2.2.2.2.2.2.2.2.2.2.2.2.1,(a.2.2.2.2.2.2.2.2.2.2.2.2.2.2.2.2.1,(a.2.2.2.2.2.2.2.2.2.2.2.2.2.2.2.2.2.1,(a.2.2.2.2.2.2.2.2.2.2.2.2.2.2.2.2.2.2.1,(a.2.2.2.2.2.2.2.2.2.2.2.2.2.2.2.2.2.2.2.1,())))))))))))))))))))),((a.2.2.2.2.2.2.2.2.1,(a.2.2.2.2.2.2.2.2.2.1,(a.2.2.2.2.2.2.2.2.2.2.1,()))),()))).bind λd=>some (.inl (d.1.1,(d.1.2.1,(d.1.2.2.1,(d.1.2.2.2.1,(d.1.2.2.2.2.1,(d.1.2.2.2.2.2.1,(d.1.2.2.2.2.2.2.1,(d.1.2.2.2.2.2.2.2.1,(d.1.2.2.2.2.2.2.2.2.1,(d.1.2.2.2.2.2.2.2.2.2.1,(d.1.2.2.2.2.2.2.2.2.2.2.1,(d.1.2.2.2.2.2.2.2.2.2.2.2.1,(d.1.2.2.2.2.2.2.2.2.2.2.2.2.1,(d.1.2.2.2.2.2.2.2.2.2.2.2.2.2.1,(d.1.2.2.2.2.2.2.2.2.2.2.2.2.2.2.1,(d.1.2.2.2.2.2.2.2.2.2.2.2.2.2.2.2.1,(d.1.2.2.2.2.2.2.2.2.2.2.2.2.2.2.2.2.1,(d.1.2.2.2.2.2.2.2.2.2.2.2.2.2.2.2.2.2.1,(d.1.2.2.2.2.2.2.2.2.2.2.2.2.2.2.2.2.2.2.1,(d.1.2.2.2.2.2.2.2.2.2.2.2.2.2.2.2.2.2.2.2.1,()))))))))))))))))))))) else some (.inl (a.1,(a.2.1,(a.2.2.1,(a.2.2.2.1,(a.2.2.2.2.1,(a.2.2.2.2.2.1,(a.2.2.2.2.2.2.1,(a.2.2.2.2.2.2.2.1,(a.2.2.2.2.2.2.2.2.1,(a.2.2.2.2.2.2.2.2.2.1,(a.2.2.2.2.2.2.2.2.2.2.1,(a.2.2.2.2.2.2.2.2.2.2.2.1,(a.2.2.2.2.2.2.2.2.2.2.2.2.1,(a.2.2.2.2.2.2.2.2.2.2.2.2.2.1,(a.2.2.2.2.2.2.2.2.2.2.2.2.2.2.1,(a.2.2.2.2.2.2.2.2.2.2.2.2.2.2.2.1,(a.2.2.2.2.2.2.2.2.2.2.2.2.2.2.2.2.1,(a.2.2.2.2.2.2.2.2.2.2.2.2.2.2.2.2.2.1,(a.2.2.2.2.2.2.2.2.2.2.2.2.2.2.2.2.2.2.1,(a.2.2.2.2.2.2.2.2.2.2.2.2.2.2.2.2.2.2.2.1,()))))))))))))))))))))) else some (.inl (a.1,(a.2.1,(a.2.2.1,(a.2.2.2.1,(a.2.2.2.2.1,(a.2.2.2.2.2.1,(a.2.2.2.2.2.2.1,(a.2.2.2.2.2.2.2.1,(a.2.2.2.2.2.2.2.2.1,(a.2.2.2.2.2.2.2.2.2.1,(a.2.2.2.2.2.2.2.2.2.2.1,(a.2.2.2.2.2.2.2.2.2.2.2.1,(a.2.2.2.2.2.2.2.2.2.2.2.2.1,(a.2.2.2.2.2.2.2.2.2.2.2.2.2.1,(a.2.2.2.2.2.2.2.2.2.2.2.2.2.2.1,(a.2.2.2.2.2.2.2.2.2.2.2.2.2.2.2.1,(a.2.2.2.2.2.2.2.2.2.2.2.2.2.2.2.2.1,(a.2.2.2.2.2.2.2.2.2.2.2.2.2.2.2.2.2.1,(a.2.2.2.2.2.2.2.2.2.2.2.2.2.2.2.2.2.2.1,(a.2.2.2.2.2.2.2.2.2.2.2.2.2.2.2.2.2.2.2.1,())))))))))))))))))))))) λh=>Sum.elim (λe=>some ((true,()),((e.1,(e.2.1,(e.2.2.1,(e.2.2.2.1,(e.2.2.2.2.1,(e.2.2.2.2.2.1,(e.2.2.2.2.2.2.1,(e.2.2.2.2.2.2.2.1,(e.2.2.2.2.2.2.2.2.1,(e.2.2.2.2.2.2.2.2.2.1,(e.2.2.2.2.2.2.2.2.2.2.1,(e.2.2.2.2.2.2.2.2.2.2.2.1,(e.2.2.2.2.2.2.2.2.2.2.2.2.1,(e.2.2.2.2.2.2.2.2.2.2.2.2.2.1,(e.2.2.2.2.2.2.2.2.2.2.2.2.2.2.1,(e.2.2.2.2.2.2.2.2.2.2.2.2.2.2.2.1,(e.2.2.2.2.2.2.2.2.2.2.2.2.2.2.2.2.1,(e.2.2.2.2.2.2.2.2.2.2.2.2.2.2.2.2.2.1,(e.2.2.2.2.2.2.2.2.2.2.2.2.2.2.2.2.2.2.1,(e.2.2.2.2.2.2.2.2.2.2.2.2.2.2.2.2.2.2.2.1,())))))))))))))))))))),()))) some h) some i
def aw1:zi:=⟨X8,aw0,Jm⟩
def aw2:Gs:=[S6,Qk]
def aw3:Gs:=[XA]
def Hz.b0(c:(Fh×Ew)):(b:(List (B8)×ix))->Option (Sum (List (B8)×ix) (Sum (List (B8)×ix) (OJ×Unit))):=λb=>bif dO b.2.1 (List.length c.1.2.2.2.2.1:Int)then (bK c.1.2.2.2.2.1 b.2.1).bind λe=>bif !ko e.1 c.1.1 then (Jf (c.2.1,())).bind λa=>(bK c.1.2.2.2.2.1 b.2.1).bind λd=>bif dE (List.length b.1+List.length ([(a.1.1,(d.1,(a.1.2.2.1,(a.1.2.2.2.1,(a.1.2.2.2.2.1,(a.1.2.2.2.2.2.1,(a.1.2.2.2.2.2.2.1,(a.1.2.2.2.2.2.2.2.1,(a.1.2.2.2.2.2.2.2.2.1,(a.1.2.2.2.2.2.2.2.2.2.1,(a.1.2.2.2.2.2.2.2.2.2.2.1,(a.1.2.2.2.2.2.2.2.2.2.2.2.1,(a.1.2.2.2.2.2.2.2.2.2.2.2.2.1,(a.1.2.2.2.2.2.2.2.2.2.2.2.2.2.1,(a.1.2.2.2.2.2.2.2.2.2.2.2.2.2.2.1,(a.1.2.2.2.2.2.2.2.2.2.2.2.2.2.2.2.1,()))))))))))))))))]:List (B8))) 216 then some (.inl (bV b.1 ([(a.1.1,(d.1,(a.1.2.2.1,(a.1.2.2.2.1,(a.1.2.2.2.2.1,(a.1.2.2.2.2.2.1,(a.1.2.2.2.2.2.2.1,(a.1.2.2.2.2.2.2.2.1,(a.1.2.2.2.2.2.2.2.2.1,(a.1.2.2.2.2.2.2.2.2.2.1,(a.1.2.2.2.2.2.2.2.2.2.2.1,(a.1.2.2.2.2.2.2.2.2.2.2.2.1,(a.1.2.2.2.2.2.2.2.2.2.2.2.2.1,(a.1.2.2.2.2.2.2.2.2.2.2.2.2.2.1,(a.1.2.2.2.2.2.2.2.2.2.2.2.2.2.2.1,(a.1.2.2.2.2.2.2.2.2.2.2.2.2.2.2.2.1,()))))))))))))))))]:List (B8)),(cM .i64 b.2.1 (1:Int),())))else none else some (.inl (b.1,(cM .i64 b.2.1 (1:Int),())))else some (.inr (.inl (b.1,(b.2.1,()))))
def Hz:(Fh×Ew)->Option (OJ×Unit):=λb=>(aR (Hz.b0 b) (([]:List (B8)),((0:Int),()))).bind λa=>Sum.elim (λc=>some ((c.1,()),())) some a
def aw4:zi:=⟨aw2,aw3,Hz⟩
def aw5:Gs:=[P9,⟨.c,(.cons (.sl Hq) .nil),[]⟩,ED,ED]
def aw6:Gs:=[XB,P7]
def FA.b1(b:Vl)(e:OH):(a:Hu)->Option (Sum Hu (Sum Hu (Sum OH (Sum OH ((Xc×lf)))))):=λa=>bif dO a.2.1 (List.length b.2.1.1:Int)then bif a.1 then some (.inl (true,(cM .i64 a.2.1 (1:Int),())))else (bK b.2.1.1 a.2.1).bind λc=>(bK b.1.1 e.1).bind λd=>some (.inl ((gA c.1 b.2.2.1.1)&&((gA c.2.1 b.2.2.2.1.1)&&(ko c.2.2.1 d.1)),(cM .i64 a.2.1 (1:Int),())))else some (.inr (.inl (a.1,(a.2.1,()))))
def FA.b0(b:Vl):(a:OH)->Option (Sum OH (Sum OH ((Xc×lf)))):=λa=>bif dO a.1 (List.length b.1.1:Int)then (aR (FA.b1 b a) (false,((0:Int),()))).bind λd=>Sum.elim (λe=>bif e.1 then (bK b.1.1 a.1).bind λc=>bif dE (List.length a.2.1+List.length ([(c.1,())]:List (D9))) 16 then some (.inl (cM .i64 a.1 (1:Int),(bV a.2.1 ([(c.1,())]:List (D9)),())))else none else some (.inl (cM .i64 a.1 (1:Int),(a.2.1,())))) some d else some (.inr (.inl (a.1,(a.2.1,()))))
def FA:Vl->Option ((Xc×lf)):=λa=>(aR (FA.b0 a) ((0:Int),([],()))).bind λe=>Sum.elim (λb=>(Li (a.1,((a.2.2.1.1,(a.2.2.2.1.1,(b.2.1,()))),()))).bind λd=>bif (!d.1.1)then some (((0:Int),((0:Int),([],()))),((false,()),()))else (Kl ((a.2.2.1.1,(a.2.2.2.1.1,(b.2.1,()))),())).bind λc=>bif c.1.1 then some (((0:Int),((0:Int),([],()))),((false,()),()))else some ((a.2.2.1.1,(a.2.2.2.1.1,(b.2.1,()))),((true,()),()))) some e
def aw7:zi:=⟨aw5,aw6,FA⟩
def aw8:Gs:=[Qa,Vy]
def aw9:=Kr
def H4.b0(b:(Fh×(tb×Unit))):(a:Hu)->Option (Sum Hu (Sum Hu AN)):=λa=>bif dO a.2.1 (List.length b.1.2.2.2.2.2.2.2.2.2.2.2.2.2.2.2.1:Int)then bif a.1 then some (.inl (true,(cM .i64 a.2.1 (1:Int),())))else (bK b.1.2.2.2.2.2.2.2.2.2.2.2.2.2.2.2.1 a.2.1).bind λ_=>(aC b.1.2.2.2.2.2.2.2.2.2.2.2.2.2.2.2.1 (Int.toNat a.2.1)).bind λc=>some (.inl ((gA c.1 b.2.1.1)&&((gA c.2.1 b.2.1.2.1)&&(ko c.2.2.1 b.2.1.2.2.1)),(cM .i64 a.2.1 (1:Int),())))else some (.inr (.inl (a.1,(a.2.1,()))))
def H4:(Fh×(tb×Unit))->Option AN:=λa=>(FW ((a.1.2.2.2.2.1,()),((a.2.1.2.2.1,()),()))).bind λd=>bif (!d.1.1)then some (a.1,())else (aR (H4.b0 a) (false,((0:Int),()))).bind λf=>Sum.elim (λg=>Option.bind (bif (!g.1)then bif dO (List.length a.1.2.2.2.2.2.2.2.2.2.2.2.2.2.2.2.1:Int) (1000:Int)then bif dE (List.length a.1.2.2.2.2.2.2.2.2.2.2.2.2.2.2.2.1+List.length ([a.2.1]:List (tb))) 32 then some (.inl (bV a.1.2.2.2.2.2.2.2.2.2.2.2.2.2.2.2.1 ([a.2.1]:List (tb)),()))else none else some (.inl (a.1.2.2.2.2.2.2.2.2.2.2.2.2.2.2.2.1,()))else some (.inl (a.1.2.2.2.2.2.2.2.2.2.2.2.2.2.2.2.1,()))) λe=>Sum.elim (λb=>(FA ((a.1.2.2.2.2.1,()),((b.1,()),((a.2.1.1,()),((a.2.1.2.1,()),()))))).bind λc=>bif c.2.1.1 then (Jl ((a.1.1,(a.1.2.1,(a.1.2.2.1,(a.1.2.2.2.1,(a.1.2.2.2.2.1,(a.1.2.2.2.2.2.1,(a.1.2.2.2.2.2.2.1,(a.1.2.2.2.2.2.2.2.1,(a.1.2.2.2.2.2.2.2.2.1,(a.1.2.2.2.2.2.2.2.2.2.1,(a.1.2.2.2.2.2.2.2.2.2.2.1,(a.1.2.2.2.2.2.2.2.2.2.2.2.1,(a.1.2.2.2.2.2.2.2.2.2.2.2.2.1,(a.1.2.2.2.2.2.2.2.2.2.2.2.2.2.1,(a.1.2.2.2.2.2.2.2.2.2.2.2.2.2.2.1,(b.1,(a.1.2.2.2.2.2.2.2.2.2.2.2.2.2.2.2.2.1,(a.1.2.2.2.2.2.2.2.2.2.2.2.2.2.2.2.2.2.1,(a.1.2.2.2.2.2.2.2.2.2.2.2.2.2.2.2.2.2.2.1,(a.1.2.2.2.2.2.2.2.2.2.2.2.2.2.2.2.2.2.2.2.1,())))))))))))))))))))),(c.1,()))).bind λh=>some (h.1,()) else some ((a.1.1,(a.1.2.1,(a.1.2.2.1,(a.1.2.2.2.1,(a.1.2.2.2.2.1,(a.1.2.2.2.2.2.1,(a.1.2.2.2.2.2.2.1,(a.1.2.2.2.2.2.2.2.1,(a.1.2.2.2.2.2.2.2.2.1,(a.1.2.2.2.2.2.2.2.2.2.1,(a.1.2.2.2.2.2.2.2.2.2.2.1,(a.1.2.2.2.2.2.2.2.2.2.2.2.1,(a.1.2.2.2.2.2.2.2.2.2.2.2.2.1,(a.1.2.2.2.2.2.2.2.2.2.2.2.2.2.1,(a.1.2.2.2.2.2.2.2.2.2.2.2.2.2.2.1,(b.1,(a.1.2.2.2.2.2.2.2.2.2.2.2.2.2.2.2.2.1,(a.1.2.2.2.2.2.2.2.2.2.2.2.2.2.2.2.2.2.1,(a.1.2.2.2.2.2.2.2.2.2.2.2.2.2.2.2.2.2.2.1,(a.1.2.2.2.2.2.2.2.2.2.2.2.2.2.2.2.2.2.2.2.1,())))))))))))))))))))),())) some e) some f
def ax0:zi:=⟨aw8,aw9,H4⟩
def X9:Gs:=[ED,Vy]
def Ya:Gs:=[XF]
def QA:(ix×(tb×Unit))->Option (sH×Unit):=λa=>some (((1:Int),(a.1.1,(a.2.1.1,(a.2.1.2.1,(a.2.1.2.2.1,()))))),())
def ax1:zi:=⟨X9,Ya,QA⟩
def ax2:=X8
def VM:Gs:=[XA,Ql,Qa]
def OT:(Fh×D8)->Option (SZ):=λb=>(Jm (b.1,(b.2.1,()))).bind λa=>bif (!a.1.1)then some ((([]:List (B8)),()),((([]:List (sH)),()),(a.2.1,())))else bif !gA a.2.1.2.1 b.1.2.1 then some ((([]:List (B8)),()),((([]:List (sH)),()),(a.2.1,())))else bif !gA b.2.1.2.2.1 a.2.1.2.2.2.2.2.2.1 then some ((([]:List (B8)),()),((([]:List (sH)),()),(a.2.1,())))else bif km b.2.1.2.2.1 a.2.1.2.2.2.2.2.2.2.1 then some ((([]:List (B8)),()),((([]:List (sH)),()),(a.2.1,())))else (FW ((a.2.1.2.2.2.2.1,()),((a.2.1.1,()),()))).bind λc=>bif (!c.1.1)then some ((([]:List (B8)),()),((([]:List (sH)),()),(a.2.1,())))else (Hz ((a.2.1.1,(a.2.1.2.1,(a.2.1.2.2.1,(a.2.1.2.2.2.1,(a.2.1.2.2.2.2.1,(a.2.1.2.2.2.2.2.1,(a.2.1.2.2.2.2.2.2.1,(b.2.1.2.2.1,(a.2.1.2.2.2.2.2.2.2.2.1,(a.2.1.2.2.2.2.2.2.2.2.2.1,(a.2.1.2.2.2.2.2.2.2.2.2.2.1,(a.2.1.2.2.2.2.2.2.2.2.2.2.2.1,(a.2.1.2.2.2.2.2.2.2.2.2.2.2.2.1,(a.2.1.2.2.2.2.2.2.2.2.2.2.2.2.2.1,(a.2.1.2.2.2.2.2.2.2.2.2.2.2.2.2.2.1,(a.2.1.2.2.2.2.2.2.2.2.2.2.2.2.2.2.2.1,(a.2.1.2.2.2.2.2.2.2.2.2.2.2.2.2.2.2.2.1,(a.2.1.2.2.2.2.2.2.2.2.2.2.2.2.2.2.2.2.2.1,(a.2.1.2.2.2.2.2.2.2.2.2.2.2.2.2.2.2.2.2.2.1,(a.2.1.2.2.2.2.2.2.2.2.2.2.2.2.2.2.2.2.2.2.2.1,())))))))))))))))))))),(((2:Int),(⟨#[]⟩,(a.2.1.2.1,([],(b.2.1.2.2.1,(b.2.1.1,(a.2.1.1,((0:Int),((0:Int),(⟨#[]⟩,((0:Int),((-1:Int),([],((0:Int),([],([],())))))))))))))))),()))).bind λf=>(H4 ((a.2.1.1,(a.2.1.2.1,(a.2.1.2.2.1,(a.2.1.2.2.2.1,(a.2.1.2.2.2.2.1,(a.2.1.2.2.2.2.2.1,(a.2.1.2.2.2.2.2.2.1,(b.2.1.2.2.1,(a.2.1.2.2.2.2.2.2.2.2.1,(a.2.1.2.2.2.2.2.2.2.2.2.1,(a.2.1.2.2.2.2.2.2.2.2.2.2.1,(a.2.1.2.2.2.2.2.2.2.2.2.2.2.1,(a.2.1.2.2.2.2.2.2.2.2.2.2.2.2.1,(a.2.1.2.2.2.2.2.2.2.2.2.2.2.2.2.1,(a.2.1.2.2.2.2.2.2.2.2.2.2.2.2.2.2.1,(a.2.1.2.2.2.2.2.2.2.2.2.2.2.2.2.2.2.1,(a.2.1.2.2.2.2.2.2.2.2.2.2.2.2.2.2.2.2.1,(a.2.1.2.2.2.2.2.2.2.2.2.2.2.2.2.2.2.2.2.1,(a.2.1.2.2.2.2.2.2.2.2.2.2.2.2.2.2.2.2.2.2.1,(a.2.1.2.2.2.2.2.2.2.2.2.2.2.2.2.2.2.2.2.2.2.1,())))))))))))))))))))),((b.2.1.2.2.1,(b.2.1.1,(a.2.1.1,()))),()))).bind λe=>(QA ((b.1.2.1,()),((b.2.1.2.2.1,(b.2.1.1,(a.2.1.1,()))),()))).bind λd=>some (f.1,((([d.1]:List (sH)),()),(e.1,())))
def ax3:zi:=⟨ax2,VM,OT⟩
def ax4:Gs:=[P9,⟨.c,(.cons (.sl GG) .nil),[]⟩,ED]
def ax5:Gs:=[XC,P7]
def FB.b1(b:Vn)(e:MH):(a:tm)->Option (Sum tm (Sum tm (Sum MH (Sum MH ((UO×lf)))))):=λa=>bif dO a.2.1 (List.length b.2.1.1:Int)then (bK b.2.1.1 a.2.1).bind λh=>bif gA h.1 b.2.2.1.1 then (bK b.2.1.1 a.2.1).bind λc=>(bK b.1.1 e.1).bind λg=>bif ko c.2.2.1 g.1 then (bK b.2.1.1 a.2.1).bind λd=>bif dO a.1 d.2.1 then (bK b.2.1.1 a.2.1).bind λf=>some (.inl (f.2.1,(cM .i64 a.2.1 (1:Int),())))else some (.inl (a.1,(cM .i64 a.2.1 (1:Int),())))else some (.inl (a.1,(cM .i64 a.2.1 (1:Int),())))else some (.inl (a.1,(cM .i64 a.2.1 (1:Int),())))else some (.inr (.inl (a.1,(a.2.1,()))))
def FB.b0(b:Vn):(a:MH)->Option (Sum MH (Sum MH ((UO×lf)))):=λa=>bif dO a.1 (List.length b.1.1:Int)then (aR (FB.b1 b a) ((-1:Int),((0:Int),()))).bind λe=>Sum.elim (λc=>bif km (0:Int) c.1 then (bK b.1.1 a.1).bind λd=>bif dE (List.length a.2.1+List.length ([(d.1,())]:List (D9))) 16 then bif dE (List.length a.2.2.1+List.length ([(c.1,())]:List (D3))) 8 then some (.inl (cM .i64 a.1 (1:Int),(bV a.2.1 ([(d.1,())]:List (D9)),(bV a.2.2.1 ([(c.1,())]:List (D3)),())))) else none else none else some (.inl (cM .i64 a.1 (1:Int),(a.2.1,(a.2.2.1,()))))) some e else some (.inr (.inl (a.1,(a.2.1,(a.2.2.1,())))))
def FB:Vn->Option ((UO×lf)):=λb=>(aR (FB.b0 b) ((0:Int),([],([],())))).bind λe=>Sum.elim (λa=>(H3 (b.1,((b.2.2.1.1,(a.2.1,(a.2.2.1,()))),()))).bind λc=>bif (!c.1.1)then some (((0:Int),([],([],()))),((false,()),()))else (Hw ((b.2.2.1.1,(a.2.1,(a.2.2.1,()))),())).bind λd=>bif d.1.1 then some (((0:Int),([],([],()))),((false,()),()))else some ((b.2.2.1.1,(a.2.1,(a.2.2.1,()))),((true,()),()))) some e
def ax6:zi:=⟨ax4,ax5,FB⟩
def ax7:Gs:=[Qa,Vy,I8]
def ax8:=Kr
def HA.b0(b:AN)(c:(Fh×(tb×Ex))):(a:Hu)->Option (Sum Hu (Sum Hu AN)):=λa=>bif dO a.2.1 (List.length b.1.2.2.2.2.2.2.2.2.2.2.2.2.2.2.2.2.1:Int)then bif a.1 then some (.inl (true,(cM .i64 a.2.1 (1:Int),())))else (bK b.1.2.2.2.2.2.2.2.2.2.2.2.2.2.2.2.2.1 a.2.1).bind λ_=>(aC b.1.2.2.2.2.2.2.2.2.2.2.2.2.2.2.2.2.1 (Int.toNat a.2.1)).bind λd=>some (.inl ((gA d.1 c.2.1.1)&&((gA d.2.1 c.2.1.2.1)&&(ko d.2.2.1 c.2.1.2.2.1)),(cM .i64 a.2.1 (1:Int),())))else some (.inr (.inl (a.1,(a.2.1,()))))
def HA:(Fh×(tb×Ex))->Option AN:=λb=>(FW ((b.1.2.2.2.2.1,()),((b.2.1.2.2.1,()),()))).bind λf=>bif (!f.1.1)then some (b.1,())else (Li ((b.1.2.2.2.2.1,()),(b.2.2.1,()))).bind λg=>bif (!g.1.1)then some (b.1,())else (Jl (b.1,(b.2.2.1,()))).bind λa=>bif !gA a.1.2.1 b.1.2.1 then some (a.1,())else (aR (HA.b0 a b) (false,((0:Int),()))).bind λh=>Sum.elim (λj=>Option.bind (bif (!j.1)then bif dO (List.length a.1.2.2.2.2.2.2.2.2.2.2.2.2.2.2.2.2.1:Int) (1000:Int)then bif dE (List.length a.1.2.2.2.2.2.2.2.2.2.2.2.2.2.2.2.2.1+List.length ([b.2.1]:List (pf))) 32 then some (.inl (bV a.1.2.2.2.2.2.2.2.2.2.2.2.2.2.2.2.2.1 ([b.2.1]:List (pf)),()))else none else some (.inl (a.1.2.2.2.2.2.2.2.2.2.2.2.2.2.2.2.2.1,()))else some (.inl (a.1.2.2.2.2.2.2.2.2.2.2.2.2.2.2.2.2.1,()))) λi=>Sum.elim (λc=>(FB ((a.1.2.2.2.2.1,()),((c.1,()),((b.2.1.1,()),())))).bind λd=>bif d.2.1.1 then (MT ((a.1.1,(a.1.2.1,(a.1.2.2.1,(a.1.2.2.2.1,(a.1.2.2.2.2.1,(a.1.2.2.2.2.2.1,(a.1.2.2.2.2.2.2.1,(a.1.2.2.2.2.2.2.2.1,(a.1.2.2.2.2.2.2.2.2.1,(a.1.2.2.2.2.2.2.2.2.2.1,(a.1.2.2.2.2.2.2.2.2.2.2.1,(a.1.2.2.2.2.2.2.2.2.2.2.2.1,(a.1.2.2.2.2.2.2.2.2.2.2.2.2.1,(a.1.2.2.2.2.2.2.2.2.2.2.2.2.2.1,(a.1.2.2.2.2.2.2.2.2.2.2.2.2.2.2.1,(a.1.2.2.2.2.2.2.2.2.2.2.2.2.2.2.2.1,(c.1,(a.1.2.2.2.2.2.2.2.2.2.2.2.2.2.2.2.2.2.1,(a.1.2.2.2.2.2.2.2.2.2.2.2.2.2.2.2.2.2.2.1,(a.1.2.2.2.2.2.2.2.2.2.2.2.2.2.2.2.2.2.2.2.1,())))))))))))))))))))),(d.1,()))).bind λe=>some (e.1,()) else some ((a.1.1,(a.1.2.1,(a.1.2.2.1,(a.1.2.2.2.1,(a.1.2.2.2.2.1,(a.1.2.2.2.2.2.1,(a.1.2.2.2.2.2.2.1,(a.1.2.2.2.2.2.2.2.1,(a.1.2.2.2.2.2.2.2.2.1,(a.1.2.2.2.2.2.2.2.2.2.1,(a.1.2.2.2.2.2.2.2.2.2.2.1,(a.1.2.2.2.2.2.2.2.2.2.2.2.1,(a.1.2.2.2.2.2.2.2.2.2.2.2.2.1,(a.1.2.2.2.2.2.2.2.2.2.2.2.2.2.1,(a.1.2.2.2.2.2.2.2.2.2.2.2.2.2.2.1,(a.1.2.2.2.2.2.2.2.2.2.2.2.2.2.2.2.1,(c.1,(a.1.2.2.2.2.2.2.2.2.2.2.2.2.2.2.2.2.2.1,(a.1.2.2.2.2.2.2.2.2.2.2.2.2.2.2.2.2.2.2.1,(a.1.2.2.2.2.2.2.2.2.2.2.2.2.2.2.2.2.2.2.2.1,())))))))))))))))))))),())) some i) some h
def ax9:zi:=⟨ax7,ax8,HA⟩
def Yb:Gs:=[Qa,Qk]
def ay0:=Kr
def HB.b0(c:(Fh×Ew)):(a:Z9)->Option (Sum Z9 (Sum Z9 AN)):=λa=>bif dO a.1 (List.length c.2.1.2.2.2.1:Int)then bif gA a.2.2.1 c.2.1.2.2.1 then (bK c.2.1.2.2.2.1 a.1).bind λd=>(Jm ((a.2.1,(a.2.2.1,(a.2.2.2.1,(a.2.2.2.2.1,(a.2.2.2.2.2.1,(a.2.2.2.2.2.2.1,(a.2.2.2.2.2.2.2.1,(a.2.2.2.2.2.2.2.2.1,(a.2.2.2.2.2.2.2.2.2.1,(a.2.2.2.2.2.2.2.2.2.2.1,(a.2.2.2.2.2.2.2.2.2.2.2.1,(a.2.2.2.2.2.2.2.2.2.2.2.2.1,(a.2.2.2.2.2.2.2.2.2.2.2.2.2.1,(a.2.2.2.2.2.2.2.2.2.2.2.2.2.2.1,(a.2.2.2.2.2.2.2.2.2.2.2.2.2.2.2.1,(a.2.2.2.2.2.2.2.2.2.2.2.2.2.2.2.2.1,(a.2.2.2.2.2.2.2.2.2.2.2.2.2.2.2.2.2.1,(a.2.2.2.2.2.2.2.2.2.2.2.2.2.2.2.2.2.2.1,(a.2.2.2.2.2.2.2.2.2.2.2.2.2.2.2.2.2.2.2.1,(a.2.2.2.2.2.2.2.2.2.2.2.2.2.2.2.2.2.2.2.2.1,())))))))))))))))))))),(d,()))).bind λb=>some (.inl (cM .i64 a.1 (1:Int),(b.2.1.1,(b.2.1.2.1,(b.2.1.2.2.1,(b.2.1.2.2.2.1,(b.2.1.2.2.2.2.1,(b.2.1.2.2.2.2.2.1,(b.2.1.2.2.2.2.2.2.1,(b.2.1.2.2.2.2.2.2.2.1,(b.2.1.2.2.2.2.2.2.2.2.1,(b.2.1.2.2.2.2.2.2.2.2.2.1,(b.2.1.2.2.2.2.2.2.2.2.2.2.1,(b.2.1.2.2.2.2.2.2.2.2.2.2.2.1,(b.2.1.2.2.2.2.2.2.2.2.2.2.2.2.1,(b.2.1.2.2.2.2.2.2.2.2.2.2.2.2.2.1,(b.2.1.2.2.2.2.2.2.2.2.2.2.2.2.2.2.1,(b.2.1.2.2.2.2.2.2.2.2.2.2.2.2.2.2.2.1,(b.2.1.2.2.2.2.2.2.2.2.2.2.2.2.2.2.2.2.1,(b.2.1.2.2.2.2.2.2.2.2.2.2.2.2.2.2.2.2.2.1,(b.2.1.2.2.2.2.2.2.2.2.2.2.2.2.2.2.2.2.2.2.1,(b.2.1.2.2.2.2.2.2.2.2.2.2.2.2.2.2.2.2.2.2.2.1,()))))))))))))))))))))))else some (.inr (.inl (a.1,(a.2.1,(a.2.2.1,(a.2.2.2.1,(a.2.2.2.2.1,(a.2.2.2.2.2.1,(a.2.2.2.2.2.2.1,(a.2.2.2.2.2.2.2.1,(a.2.2.2.2.2.2.2.2.1,(a.2.2.2.2.2.2.2.2.2.1,(a.2.2.2.2.2.2.2.2.2.2.1,(a.2.2.2.2.2.2.2.2.2.2.2.1,(a.2.2.2.2.2.2.2.2.2.2.2.2.1,(a.2.2.2.2.2.2.2.2.2.2.2.2.2.1,(a.2.2.2.2.2.2.2.2.2.2.2.2.2.2.1,(a.2.2.2.2.2.2.2.2.2.2.2.2.2.2.2.1,(a.2.2.2.2.2.2.2.2.2.2.2.2.2.2.2.2.1,(a.2.2.2.2.2.2.2.2.2.2.2.2.2.2.2.2.2.1,(a.2.2.2.2.2.2.2.2.2.2.2.2.2.2.2.2.2.2.1,(a.2.2.2.2.2.2.2.2.2.2.2.2.2.2.2.2.2.2.2.1,(a.2.2.2.2.2.2.2.2.2.2.2.2.2.2.2.2.2.2.2.2.1,())))))))))))))))))))))))else some (.inr (.inl (a.1,(a.2.1,(a.2.2.1,(a.2.2.2.1,(a.2.2.2.2.1,(a.2.2.2.2.2.1,(a.2.2.2.2.2.2.1,(a.2.2.2.2.2.2.2.1,(a.2.2.2.2.2.2.2.2.1,(a.2.2.2.2.2.2.2.2.2.1,(a.2.2.2.2.2.2.2.2.2.2.1,(a.2.2.2.2.2.2.2.2.2.2.2.1,(a.2.2.2.2.2.2.2.2.2.2.2.2.1,(a.2.2.2.2.2.2.2.2.2.2.2.2.2.1,(a.2.2.2.2.2.2.2.2.2.2.2.2.2.2.1,(a.2.2.2.2.2.2.2.2.2.2.2.2.2.2.2.1,(a.2.2.2.2.2.2.2.2.2.2.2.2.2.2.2.2.1,(a.2.2.2.2.2.2.2.2.2.2.2.2.2.2.2.2.2.1,(a.2.2.2.2.2.2.2.2.2.2.2.2.2.2.2.2.2.2.1,(a.2.2.2.2.2.2.2.2.2.2.2.2.2.2.2.2.2.2.2.1,(a.2.2.2.2.2.2.2.2.2.2.2.2.2.2.2.2.2.2.2.2.1,())))))))))))))))))))))))
def HB:(Fh×Ew)->Option AN:=λc=>(aR (HB.b0 c) ((0:Int),(c.1.1,(c.1.2.1,(c.1.2.2.1,(c.1.2.2.2.1,(c.1.2.2.2.2.1,(c.1.2.2.2.2.2.1,(c.1.2.2.2.2.2.2.1,(c.1.2.2.2.2.2.2.2.1,(c.1.2.2.2.2.2.2.2.2.1,(c.1.2.2.2.2.2.2.2.2.2.1,(c.1.2.2.2.2.2.2.2.2.2.2.1,(c.1.2.2.2.2.2.2.2.2.2.2.2.1,(c.1.2.2.2.2.2.2.2.2.2.2.2.2.1,(c.1.2.2.2.2.2.2.2.2.2.2.2.2.2.1,(c.1.2.2.2.2.2.2.2.2.2.2.2.2.2.2.1,(c.1.2.2.2.2.2.2.2.2.2.2.2.2.2.2.2.1,(c.1.2.2.2.2.2.2.2.2.2.2.2.2.2.2.2.2.1,(c.1.2.2.2.2.2.2.2.2.2.2.2.2.2.2.2.2.2.1,(c.1.2.2.2.2.2.2.2.2.2.2.2.2.2.2.2.2.2.2.1,(c.1.2.2.2.2.2.2.2.2.2.2.2.2.2.2.2.2.2.2.2.1,())))))))))))))))))))))).bind λh=>Sum.elim (λb=>Option.bind (bif gA b.2.2.1 c.2.1.2.2.1 then (Li ((b.2.2.2.2.2.1,()),((c.2.1.2.2.2.2.2.2.2.2.2.2.1,(c.2.1.2.2.2.2.2.2.2.2.2.2.2.1,(c.2.1.2.2.2.2.2.2.2.2.2.2.2.2.1,()))),()))).bind λi=>bif i.1.1 then (Jl ((b.2.1,(b.2.2.1,(b.2.2.2.1,(b.2.2.2.2.1,(b.2.2.2.2.2.1,(b.2.2.2.2.2.2.1,(b.2.2.2.2.2.2.2.1,(b.2.2.2.2.2.2.2.2.1,(b.2.2.2.2.2.2.2.2.2.1,(b.2.2.2.2.2.2.2.2.2.2.1,(b.2.2.2.2.2.2.2.2.2.2.2.1,(b.2.2.2.2.2.2.2.2.2.2.2.2.1,(b.2.2.2.2.2.2.2.2.2.2.2.2.2.1,(b.2.2.2.2.2.2.2.2.2.2.2.2.2.2.1,(b.2.2.2.2.2.2.2.2.2.2.2.2.2.2.2.1,(b.2.2.2.2.2.2.2.2.2.2.2.2.2.2.2.2.1,(b.2.2.2.2.2.2.2.2.2.2.2.2.2.2.2.2.2.1,(b.2.2.2.2.2.2.2.2.2.2.2.2.2.2.2.2.2.2.1,(b.2.2.2.2.2.2.2.2.2.2.2.2.2.2.2.2.2.2.2.1,(b.2.2.2.2.2.2.2.2.2.2.2.2.2.2.2.2.2.2.2.2.1,())))))))))))))))))))),((c.2.1.2.2.2.2.2.2.2.2.2.2.1,(c.2.1.2.2.2.2.2.2.2.2.2.2.2.1,(c.2.1.2.2.2.2.2.2.2.2.2.2.2.2.1,()))),()))).bind λd=>some (.inl (d.1.1,(d.1.2.1,(d.1.2.2.1,(d.1.2.2.2.1,(d.1.2.2.2.2.1,(d.1.2.2.2.2.2.1,(d.1.2.2.2.2.2.2.1,(d.1.2.2.2.2.2.2.2.1,(d.1.2.2.2.2.2.2.2.2.1,(d.1.2.2.2.2.2.2.2.2.2.1,(d.1.2.2.2.2.2.2.2.2.2.2.1,(d.1.2.2.2.2.2.2.2.2.2.2.2.1,(d.1.2.2.2.2.2.2.2.2.2.2.2.2.1,(d.1.2.2.2.2.2.2.2.2.2.2.2.2.2.1,(d.1.2.2.2.2.2.2.2.2.2.2.2.2.2.2.1,(d.1.2.2.2.2.2.2.2.2.2.2.2.2.2.2.2.1,(d.1.2.2.2.2.2.2.2.2.2.2.2.2.2.2.2.2.1,(d.1.2.2.2.2.2.2.2.2.2.2.2.2.2.2.2.2.2.1,(d.1.2.2.2.2.2.2.2.2.2.2.2.2.2.2.2.2.2.2.1,(d.1.2.2.2.2.2.2.2.2.2.2.2.2.2.2.2.2.2.2.2.1,())))))))))))))))))))))else some (.inl (b.2.1,(b.2.2.1,(b.2.2.2.1,(b.2.2.2.2.1,(b.2.2.2.2.2.1,(b.2.2.2.2.2.2.1,(b.2.2.2.2.2.2.2.1,(b.2.2.2.2.2.2.2.2.1,(b.2.2.2.2.2.2.2.2.2.1,(b.2.2.2.2.2.2.2.2.2.2.1,(b.2.2.2.2.2.2.2.2.2.2.2.1,(b.2.2.2.2.2.2.2.2.2.2.2.2.1,(b.2.2.2.2.2.2.2.2.2.2.2.2.2.1,(b.2.2.2.2.2.2.2.2.2.2.2.2.2.2.1,(b.2.2.2.2.2.2.2.2.2.2.2.2.2.2.2.1,(b.2.2.2.2.2.2.2.2.2.2.2.2.2.2.2.2.1,(b.2.2.2.2.2.2.2.2.2.2.2.2.2.2.2.2.2.1,(b.2.2.2.2.2.2.2.2.2.2.2.2.2.2.2.2.2.2.1,(b.2.2.2.2.2.2.2.2.2.2.2.2.2.2.2.2.2.2.2.1,(b.2.2.2.2.2.2.2.2.2.2.2.2.2.2.2.2.2.2.2.2.1,())))))))))))))))))))))else some (.inl (b.2.1,(b.2.2.1,(b.2.2.2.1,(b.2.2.2.2.1,(b.2.2.2.2.2.1,(b.2.2.2.2.2.2.1,(b.2.2.2.2.2.2.2.1,(b.2.2.2.2.2.2.2.2.1,(b.2.2.2.2.2.2.2.2.2.1,(b.2.2.2.2.2.2.2.2.2.2.1,(b.2.2.2.2.2.2.2.2.2.2.2.1,(b.2.2.2.2.2.2.2.2.2.2.2.2.1,(b.2.2.2.2.2.2.2.2.2.2.2.2.2.1,(b.2.2.2.2.2.2.2.2.2.2.2.2.2.2.1,(b.2.2.2.2.2.2.2.2.2.2.2.2.2.2.2.1,(b.2.2.2.2.2.2.2.2.2.2.2.2.2.2.2.2.1,(b.2.2.2.2.2.2.2.2.2.2.2.2.2.2.2.2.2.1,(b.2.2.2.2.2.2.2.2.2.2.2.2.2.2.2.2.2.2.1,(b.2.2.2.2.2.2.2.2.2.2.2.2.2.2.2.2.2.2.2.1,(b.2.2.2.2.2.2.2.2.2.2.2.2.2.2.2.2.2.2.2.2.1,())))))))))))))))))))))) λg=>Sum.elim (λa=>bif gA a.2.1 c.2.1.2.2.1 then (H3 ((a.2.2.2.2.1,()),((c.2.1.2.2.2.2.2.2.2.2.2.2.2.2.2.1,(c.2.1.2.2.2.2.2.2.2.2.2.2.2.2.2.2.1,(c.2.1.2.2.2.2.2.2.2.2.2.2.2.2.2.2.2.1,()))),()))).bind λf=>bif f.1.1 then (MT ((a.1,(a.2.1,(a.2.2.1,(a.2.2.2.1,(a.2.2.2.2.1,(a.2.2.2.2.2.1,(a.2.2.2.2.2.2.1,(a.2.2.2.2.2.2.2.1,(a.2.2.2.2.2.2.2.2.1,(a.2.2.2.2.2.2.2.2.2.1,(a.2.2.2.2.2.2.2.2.2.2.1,(a.2.2.2.2.2.2.2.2.2.2.2.1,(a.2.2.2.2.2.2.2.2.2.2.2.2.1,(a.2.2.2.2.2.2.2.2.2.2.2.2.2.1,(a.2.2.2.2.2.2.2.2.2.2.2.2.2.2.1,(a.2.2.2.2.2.2.2.2.2.2.2.2.2.2.2.1,(a.2.2.2.2.2.2.2.2.2.2.2.2.2.2.2.2.1,(a.2.2.2.2.2.2.2.2.2.2.2.2.2.2.2.2.2.1,(a.2.2.2.2.2.2.2.2.2.2.2.2.2.2.2.2.2.2.1,(a.2.2.2.2.2.2.2.2.2.2.2.2.2.2.2.2.2.2.2.1,())))))))))))))))))))),((c.2.1.2.2.2.2.2.2.2.2.2.2.2.2.2.1,(c.2.1.2.2.2.2.2.2.2.2.2.2.2.2.2.2.1,(c.2.1.2.2.2.2.2.2.2.2.2.2.2.2.2.2.2.1,()))),()))).bind λe=>some (e.1,()) else some ((a.1,(a.2.1,(a.2.2.1,(a.2.2.2.1,(a.2.2.2.2.1,(a.2.2.2.2.2.1,(a.2.2.2.2.2.2.1,(a.2.2.2.2.2.2.2.1,(a.2.2.2.2.2.2.2.2.1,(a.2.2.2.2.2.2.2.2.2.1,(a.2.2.2.2.2.2.2.2.2.2.1,(a.2.2.2.2.2.2.2.2.2.2.2.1,(a.2.2.2.2.2.2.2.2.2.2.2.2.1,(a.2.2.2.2.2.2.2.2.2.2.2.2.2.1,(a.2.2.2.2.2.2.2.2.2.2.2.2.2.2.1,(a.2.2.2.2.2.2.2.2.2.2.2.2.2.2.2.1,(a.2.2.2.2.2.2.2.2.2.2.2.2.2.2.2.2.1,(a.2.2.2.2.2.2.2.2.2.2.2.2.2.2.2.2.2.1,(a.2.2.2.2.2.2.2.2.2.2.2.2.2.2.2.2.2.2.1,(a.2.2.2.2.2.2.2.2.2.2.2.2.2.2.2.2.2.2.2.1,())))))))))))))))))))),()) else some ((a.1,(a.2.1,(a.2.2.1,(a.2.2.2.1,(a.2.2.2.2.1,(a.2.2.2.2.2.1,(a.2.2.2.2.2.2.1,(a.2.2.2.2.2.2.2.1,(a.2.2.2.2.2.2.2.2.1,(a.2.2.2.2.2.2.2.2.2.1,(a.2.2.2.2.2.2.2.2.2.2.1,(a.2.2.2.2.2.2.2.2.2.2.2.1,(a.2.2.2.2.2.2.2.2.2.2.2.2.1,(a.2.2.2.2.2.2.2.2.2.2.2.2.2.1,(a.2.2.2.2.2.2.2.2.2.2.2.2.2.2.1,(a.2.2.2.2.2.2.2.2.2.2.2.2.2.2.2.1,(a.2.2.2.2.2.2.2.2.2.2.2.2.2.2.2.2.1,(a.2.2.2.2.2.2.2.2.2.2.2.2.2.2.2.2.2.1,(a.2.2.2.2.2.2.2.2.2.2.2.2.2.2.2.2.2.2.1,(a.2.2.2.2.2.2.2.2.2.2.2.2.2.2.2.2.2.2.2.1,())))))))))))))))))))),())) some g) some h
def ay1:zi:=⟨Yb,ay0,HB⟩
def ay2:=Yb
def ay3:=VM
def Tr:(Fh×Ew)->Option (SZ):=λe=>Option.bind (bif gA e.2.1.1 (1:Int)then (bK e.2.1.2.2.2.1 (0:Int)).bind λg=>(OT (e.1,(g,()))).bind λf=>some (.inr (f.1,(f.2.1,(f.2.2.1,()))))else bif gA e.2.1.1 (2:Int)then (H4 (e.1,((e.2.1.2.2.2.2.1,(e.2.1.2.2.2.2.2.1,(e.2.1.2.2.2.2.2.2.1,()))),()))).bind λc=>some (.inl (c.1.1,(c.1.2.1,(c.1.2.2.1,(c.1.2.2.2.1,(c.1.2.2.2.2.1,(c.1.2.2.2.2.2.1,(c.1.2.2.2.2.2.2.1,(c.1.2.2.2.2.2.2.2.1,(c.1.2.2.2.2.2.2.2.2.1,(c.1.2.2.2.2.2.2.2.2.2.1,(c.1.2.2.2.2.2.2.2.2.2.2.1,(c.1.2.2.2.2.2.2.2.2.2.2.2.1,(c.1.2.2.2.2.2.2.2.2.2.2.2.2.1,(c.1.2.2.2.2.2.2.2.2.2.2.2.2.2.1,(c.1.2.2.2.2.2.2.2.2.2.2.2.2.2.2.1,(c.1.2.2.2.2.2.2.2.2.2.2.2.2.2.2.2.1,(c.1.2.2.2.2.2.2.2.2.2.2.2.2.2.2.2.2.1,(c.1.2.2.2.2.2.2.2.2.2.2.2.2.2.2.2.2.2.1,(c.1.2.2.2.2.2.2.2.2.2.2.2.2.2.2.2.2.2.2.1,(c.1.2.2.2.2.2.2.2.2.2.2.2.2.2.2.2.2.2.2.2.1,())))))))))))))))))))))else bif gA e.2.1.1 (3:Int)then (HA (e.1,((e.2.1.2.2.2.2.2.2.2.1,(e.2.1.2.2.2.2.2.2.2.2.1,(e.2.1.2.2.2.2.2.2.2.2.2.1,()))),((e.2.1.2.2.2.2.2.2.2.2.2.2.1,(e.2.1.2.2.2.2.2.2.2.2.2.2.2.1,(e.2.1.2.2.2.2.2.2.2.2.2.2.2.2.1,()))),())))).bind λb=>some (.inl (b.1.1,(b.1.2.1,(b.1.2.2.1,(b.1.2.2.2.1,(b.1.2.2.2.2.1,(b.1.2.2.2.2.2.1,(b.1.2.2.2.2.2.2.1,(b.1.2.2.2.2.2.2.2.1,(b.1.2.2.2.2.2.2.2.2.1,(b.1.2.2.2.2.2.2.2.2.2.1,(b.1.2.2.2.2.2.2.2.2.2.2.1,(b.1.2.2.2.2.2.2.2.2.2.2.2.1,(b.1.2.2.2.2.2.2.2.2.2.2.2.2.1,(b.1.2.2.2.2.2.2.2.2.2.2.2.2.2.1,(b.1.2.2.2.2.2.2.2.2.2.2.2.2.2.2.1,(b.1.2.2.2.2.2.2.2.2.2.2.2.2.2.2.2.1,(b.1.2.2.2.2.2.2.2.2.2.2.2.2.2.2.2.2.1,(b.1.2.2.2.2.2.2.2.2.2.2.2.2.2.2.2.2.2.1,(b.1.2.2.2.2.2.2.2.2.2.2.2.2.2.2.2.2.2.2.1,(b.1.2.2.2.2.2.2.2.2.2.2.2.2.2.2.2.2.2.2.2.1,())))))))))))))))))))))else (HB (e.1,(e.2.1,()))).bind λa=>some (.inl (a.1.1,(a.1.2.1,(a.1.2.2.1,(a.1.2.2.2.1,(a.1.2.2.2.2.1,(a.1.2.2.2.2.2.1,(a.1.2.2.2.2.2.2.1,(a.1.2.2.2.2.2.2.2.1,(a.1.2.2.2.2.2.2.2.2.1,(a.1.2.2.2.2.2.2.2.2.2.1,(a.1.2.2.2.2.2.2.2.2.2.2.1,(a.1.2.2.2.2.2.2.2.2.2.2.2.1,(a.1.2.2.2.2.2.2.2.2.2.2.2.2.1,(a.1.2.2.2.2.2.2.2.2.2.2.2.2.2.1,(a.1.2.2.2.2.2.2.2.2.2.2.2.2.2.2.1,(a.1.2.2.2.2.2.2.2.2.2.2.2.2.2.2.2.1,(a.1.2.2.2.2.2.2.2.2.2.2.2.2.2.2.2.2.1,(a.1.2.2.2.2.2.2.2.2.2.2.2.2.2.2.2.2.2.1,(a.1.2.2.2.2.2.2.2.2.2.2.2.2.2.2.2.2.2.2.1,(a.1.2.2.2.2.2.2.2.2.2.2.2.2.2.2.2.2.2.2.2.1,())))))))))))))))))))))) λh=>Sum.elim (λd=>some ((([]:List (B8)),()),((([]:List (sH)),()),((d.1,(d.2.1,(d.2.2.1,(d.2.2.2.1,(d.2.2.2.2.1,(d.2.2.2.2.2.1,(d.2.2.2.2.2.2.1,(d.2.2.2.2.2.2.2.1,(d.2.2.2.2.2.2.2.2.1,(d.2.2.2.2.2.2.2.2.2.1,(d.2.2.2.2.2.2.2.2.2.2.1,(d.2.2.2.2.2.2.2.2.2.2.2.1,(d.2.2.2.2.2.2.2.2.2.2.2.2.1,(d.2.2.2.2.2.2.2.2.2.2.2.2.2.1,(d.2.2.2.2.2.2.2.2.2.2.2.2.2.2.1,(d.2.2.2.2.2.2.2.2.2.2.2.2.2.2.2.1,(d.2.2.2.2.2.2.2.2.2.2.2.2.2.2.2.2.1,(d.2.2.2.2.2.2.2.2.2.2.2.2.2.2.2.2.2.1,(d.2.2.2.2.2.2.2.2.2.2.2.2.2.2.2.2.2.2.1,(d.2.2.2.2.2.2.2.2.2.2.2.2.2.2.2.2.2.2.2.1,())))))))))))))))))))),())))) some h
def ay4:zi:=⟨ay2,ay3,Tr⟩
def ay5:Gs:=[VB,XF]
def ay6:=o7
def Jn.b0(a:(I5×(sH×Unit))):(c:ix)->Option Ev:=λc=>bif dO c.1 (List.length a.1.1:Int)then(bK a.1.1 c.1).bind λb=>bif(gA b.1 a.2.1.1)&&((gA b.2.1 a.2.1.2.1)&&((gA b.2.2.1 a.2.1.2.2.1)&&((gA b.2.2.2.1 a.2.1.2.2.2.1)&&(ko b.2.2.2.2.1 a.2.1.2.2.2.2.1))))then some (.inr (.inr ((true,()),())))else some (.inl (cM .i64 c.1 (1:Int),()))else some (.inr (.inl (c.1,())))
def Jn:(I5×(sH×Unit))->Option lf:=λa=>(aR (Jn.b0 a) ((0:Int),())).bind λb=>Sum.elim (λc=>some ((false,()),())) some b
def ay7:zi:=⟨ay5,ay6,Jn⟩
def ay8:Gs:=[UP,XI,VB]
def Ll:Gs:=[UP]
def vn.b0(b:(IY×(OJ×La))):(a:Vs)->Option (Sum Vs (Sum Vs sG)):=λa=>bif dO a.1 (List.length b.2.1.1:Int)then (bK b.2.1.1 a.1).bind λd=>(Qc ((b.1.1,(b.1.2.1,(b.1.2.2.1,(b.1.2.2.2.1,(b.1.2.2.2.2.1,(b.1.2.2.2.2.2.1,(a.2.1,()))))))),((d.2.1,()),()))).bind λe=>bif km (0:Int) e.1.1 then bif dO (List.length a.2.1:Int) (400:Int) then (bK b.2.1.1 a.1).bind λc=>bif dE (List.length a.2.1+List.length ([c]:List (B8))) 216 then some (.inl (cM .i64 a.1 (1:Int),(bV a.2.1 ([c]:List (B8)),()))) else none else some (.inl (cM .i64 a.1 (1:Int),(a.2.1,()))) else some (.inl (cM .i64 a.1 (1:Int),(a.2.1,()))) else some (.inr (.inl (a.1,(a.2.1,()))))
def vn.b1(b:(IY×(OJ×La))):(a:Vv)->Option (Sum Vv (Sum Vv sG)):=λa=>bif dO a.1 (List.length b.2.2.1.1:Int)then (bK b.2.2.1.1 a.1).bind λd=>(Jn ((a.2.1,()),(d,()))).bind λe=>bif (!e.1.1)then (bK b.2.2.1.1 a.1).bind λc=>bif dE (List.length a.2.1+List.length ([c]:List (sH))) 48 then some (.inl (cM .i64 a.1 (1:Int),(bV a.2.1 ([c]:List (sH)),())))else none else some (.inl (cM .i64 a.1 (1:Int),(a.2.1,())))else some (.inr (.inl (a.1,(a.2.1,()))))
def vn:(IY×(OJ×La))->Option sG:=λa=>(aR (vn.b0 a) ((0:Int),(a.1.2.2.2.2.2.2.1,()))).bind λd=>Sum.elim (λe=>(aR (vn.b1 a) ((0:Int),(a.1.2.2.2.2.2.1,()))).bind λc=>Sum.elim (λb=>some ((a.1.1,(a.1.2.1,(a.1.2.2.1,(a.1.2.2.2.1,(a.1.2.2.2.2.1,(b.2.1,(e.2.1,()))))))),())) some c) some d
def ay9:zi:=⟨ay8,Ll,vn⟩
def Yc:Gs:=[UP,Qk]
def az0:=Ll
def QB:(IY×Ew)->Option sG:=λa=>(Qc (a.1,((a.2.1.2.1,()),()))).bind λb=>(bK a.1.2.2.2.1 b.1.1).bind λ_=>(aC a.1.2.2.2.1 (Int.toNat b.1.1)).bind λd=>bif gA d.2.1 a.2.1.2.2.1 then (aC a.1.2.2.2.1 (Int.toNat b.1.1)).bind λe=>(Tr (e,(a.2.1,()))).bind λc=>(some (List.set a.1.2.2.2.1 (Int.toNat b.1.1) c.2.2.1)).bind λg=>(vn ((a.1.1,(a.1.2.1,(a.1.2.2.1,(g,(a.1.2.2.2.2.1,(a.1.2.2.2.2.2.1,(a.1.2.2.2.2.2.2.1,()))))))),(c.1,(c.2.1,())))).bind λf=>some (f.1,()) else some (a.1,())
def az1:zi:=⟨Yc,az0,QB⟩
def Yd:Gs:=[UP,⟨.agg,Vg,[]⟩]
def MU:Gs:=[P7,UP]
def MV:(IY×(Qh×Unit))->Option Ke:=λa=>(lh ((a.2.1.2.1,()),(((0:Int),()),((gS .i64 (List.length a.1.2.2.2.2.2.2.1:Int) (1:Int),()),())))).bind λf=>bif (!f.1.1)then some ((false,()),(a.1,()))else (bK a.1.2.2.2.2.2.2.1 a.2.1.2.1).bind λ_=>(aC a.1.2.2.2.2.2.2.1 (Int.toNat a.2.1.2.1)).bind λd=>bif gA a.2.1.1 (8:Int)then Option.bind (bif dO (List.length a.1.2.2.2.2.2.2.1:Int) (400:Int)then (Jf (d,())).bind λe=>bif dE (List.length a.1.2.2.2.2.2.2.1+List.length ([e.1]:List (B8))) 216 then some (.inl (bV a.1.2.2.2.2.2.2.1 ([e.1]:List (B8)),()))else none else some (.inl (a.1.2.2.2.2.2.2.1,()))) λh=>Sum.elim (λi=>some ((true,()),((a.1.1,(a.1.2.1,(a.1.2.2.1,(a.1.2.2.2.1,(a.1.2.2.2.2.1,(a.1.2.2.2.2.2.1,(i.1,()))))))),()))) some h else bif mX a.2.1.2.1 (List.length a.1.2.2.2.2.2.2.1) then bif dE (List.length ([]:List (B8))+List.length (List.take ((Int.toNat a.2.1.2.1)-0) (List.drop 0 a.1.2.2.2.2.2.2.1))) 216 then bif mX (cM .i64 a.2.1.2.1 (1:Int)) (List.length a.1.2.2.2.2.2.2.1) then bif dE (List.length (bV ([]:List (B8)) (List.take ((Int.toNat a.2.1.2.1)-0) (List.drop 0 a.1.2.2.2.2.2.2.1)))+List.length (List.take ((List.length a.1.2.2.2.2.2.2.1)-(Int.toNat (cM .i64 a.2.1.2.1 (1:Int)))) (List.drop (Int.toNat (cM .i64 a.2.1.2.1 (1:Int))) a.1.2.2.2.2.2.2.1))) 216 then Option.bind (bif gA a.2.1.1 (6:Int) then (QB ((a.1.1,(a.1.2.1,(a.1.2.2.1,(a.1.2.2.2.1,(a.1.2.2.2.2.1,(a.1.2.2.2.2.2.1,(bV (bV ([]:List (B8)) (List.take ((Int.toNat a.2.1.2.1)-0) (List.drop 0 a.1.2.2.2.2.2.2.1))) (List.take ((List.length a.1.2.2.2.2.2.2.1)-(Int.toNat (cM .i64 a.2.1.2.1 (1:Int)))) (List.drop (Int.toNat (cM .i64 a.2.1.2.1 (1:Int))) a.1.2.2.2.2.2.2.1)),()))))))),(d,()))).bind λb=>some (.inl (b.1.1,(b.1.2.1,(b.1.2.2.1,(b.1.2.2.2.1,(b.1.2.2.2.2.1,(b.1.2.2.2.2.2.1,(b.1.2.2.2.2.2.2.1,())))))))) else some (.inl (a.1.1,(a.1.2.1,(a.1.2.2.1,(a.1.2.2.2.1,(a.1.2.2.2.2.1,(a.1.2.2.2.2.2.1,(bV (bV ([]:List (B8)) (List.take ((Int.toNat a.2.1.2.1)-0) (List.drop 0 a.1.2.2.2.2.2.2.1))) (List.take ((List.length a.1.2.2.2.2.2.2.1)-(Int.toNat (cM .i64 a.2.1.2.1 (1:Int)))) (List.drop (Int.toNat (cM .i64 a.2.1.2.1 (1:Int))) a.1.2.2.2.2.2.2.1)),()))))))))) λg=>Sum.elim (λc=>some ((true,()),((c.1,(c.2.1,(c.2.2.1,(c.2.2.2.1,(c.2.2.2.2.1,(c.2.2.2.2.2.1,(c.2.2.2.2.2.2.1,()))))))),()))) some g else none else none else none else none
def az2:zi:=⟨Yd,MU,MV⟩
def az3:=To
def az4:=o7
def Ks.b0(b:Ew):(a:ix)->Option Ev:=λa=>bif dO a.1 (List.length b.1.2.2.2.1:Int)then(bK b.1.2.2.2.1 a.1).bind λc=>(OQ (c,())).bind λe=>bif (!e.1.1)then some (.inr (.inr ((false,()),())))else (bK b.1.2.2.2.1 a.1).bind λd=>bif !gA d.2.1 b.1.2.2.1 then some (.inr (.inr ((false,()),())))else some (.inl (cM .i64 a.1 (1:Int),()))else some (.inr (.inl (a.1,())))
def Ks:Ew->Option lf:=λa=>Option.bind (bif gA a.1.1 (1:Int)then some (.inl ((1:Int),()))else bif gA a.1.1 (4:Int)then some (.inl ((400:Int),()))else some (.inl ((0:Int),()))) λd=>Sum.elim (λc=>(aR (Ks.b0 a) ((0:Int),())).bind λb=>Sum.elim (λe=>bif km (List.length a.1.2.2.2.1:Int) c.1 then bif !gA a.1.1 (1:Int) then some ((true,()),()) else some ((gA (List.length a.1.2.2.2.1:Int) (1:Int),()),()) else some ((false,()),())) some b) some d
def az5:zi:=⟨az3,az4,Ks⟩
def az6:=ON
def az7:=o7
def HC.b0(b:EH):(a:ix)->Option Ev:=λa=>bif dO a.1 (List.length b.1.2.2.1:Int)then(bK b.1.2.2.1 a.1).bind λc=>(lh (c,(((0:Int),()),((gS .i64 b.1.1 (1:Int),()),())))).bind λd=>bif (!d.1.1)then some (.inr (.inr ((false,()),())))else some (.inl (cM .i64 a.1 (1:Int),()))else some (.inr (.inl (a.1,())))
def HC:EH->Option lf:=λa=>(Hw (a.1,())).bind λb=>bif b.1.1 then some ((true,()),())else (lh ((a.1.1,()),(((1:Int),()),(((10000:Int),()),())))).bind λc=>bif (!c.1.1)then some ((false,()),())else (Nz ((a.1.2.1,()),())).bind λe=>bif (!e.1.1)then some ((false,()),())else bif !gA (List.length a.1.2.2.1:Int) (List.length a.1.2.1:Int)then some ((false,()),())else (aR (HC.b0 a) ((0:Int),())).bind λd=>Sum.elim (λf=>some ((true,()),())) some d
def az8:zi:=⟨az6,az7,HC⟩
def az9:=Qr
def aA0:=o7
def QC:Ex->Option lf:=λa=>(Kl (a.1,())).bind λb=>bif b.1.1 then some ((true,()),())else (lh ((a.1.1,()),(((1:Int),()),(((10000:Int),()),())))).bind λc=>bif c.1.1 then (lh ((a.1.2.1,()),(((0:Int),()),(((100000:Int),()),())))).bind λe=>bif e.1.1 then (Nz ((a.1.2.2.1,()),())).bind λd=>some (d.1,())else some ((false,()),())else some ((false,()),())
def aA1:zi:=⟨az9,aA0,QC⟩
def i72:=To
def o72:=o7
def ZL:Ew->Option lf:=λa=>(Ey ((a.1.2.1,()),())).bind λo=>bif (!o.1.1)then some ((false,()),())else (lh ((a.1.2.2.1,()),(((0:Int),()),(((900:Int),()),())))).bind λs=>bif (!s.1.1)then some ((false,()),())else (lh ((a.1.1,()),(((1:Int),()),(((4:Int),()),())))).bind λq=>bif (!q.1.1)then some ((false,()),())else (Ks (a.1,())).bind λp=>bif (!p.1.1)then some ((false,()),())else Option.bind (bif gA a.1.1 (2:Int)then (lh ((a.1.2.2.2.2.1,()),(((1:Int),()),(((10000:Int),()),())))).bind λu=>bif u.1.1 then (lh ((a.1.2.2.2.2.2.1,()),(((0:Int),()),(((100000:Int),()),())))).bind λr=>bif r.1.1 then (Ey ((a.1.2.2.2.2.2.2.1,()),())).bind λt=>some (.inl (t.1.1,((gA a.1.2.2.2.2.2.2.2.1 (0:Int))&&((gA a.1.2.2.2.2.2.2.2.2.1 (0:Int))&&(ko a.1.2.2.2.2.2.2.2.2.2.1 ⟨#[]⟩)),())))else some (.inl (false,((gA a.1.2.2.2.2.2.2.2.1 (0:Int))&&((gA a.1.2.2.2.2.2.2.2.2.1 (0:Int))&&(ko a.1.2.2.2.2.2.2.2.2.2.1 ⟨#[]⟩)),())))else some (.inl (false,((gA a.1.2.2.2.2.2.2.2.1 (0:Int))&&((gA a.1.2.2.2.2.2.2.2.2.1 (0:Int))&&(ko a.1.2.2.2.2.2.2.2.2.2.1 ⟨#[]⟩)),())))else bif gA a.1.1 (3:Int)then (lh ((a.1.2.2.2.2.2.2.2.1,()),(((1:Int),()),(((10000:Int),()),())))).bind λv=>bif v.1.1 then (lh ((a.1.2.2.2.2.2.2.2.2.1,()),(((0:Int),()),((gS .i64 a.1.2.2.2.2.2.2.2.1 (1:Int),()),())))).bind λn=>bif n.1.1 then bif gA a.1.2.2.2.2.2.2.2.2.1 a.1.2.2.2.2.2.2.2.2.2.2.1 then (Ey ((a.1.2.2.2.2.2.2.2.2.2.1,()),())).bind λk=>some (.inl ((gA a.1.2.2.2.2.1 (0:Int))&&((gA a.1.2.2.2.2.2.1 (0:Int))&&(ko a.1.2.2.2.2.2.2.1 ⟨#[]⟩)),(k.1.1,())))else some (.inl ((gA a.1.2.2.2.2.1 (0:Int))&&((gA a.1.2.2.2.2.2.1 (0:Int))&&(ko a.1.2.2.2.2.2.2.1 ⟨#[]⟩)),(false,())))else some (.inl ((gA a.1.2.2.2.2.1 (0:Int))&&((gA a.1.2.2.2.2.2.1 (0:Int))&&(ko a.1.2.2.2.2.2.2.1 ⟨#[]⟩)),(false,())))else some (.inl ((gA a.1.2.2.2.2.1 (0:Int))&&((gA a.1.2.2.2.2.2.1 (0:Int))&&(ko a.1.2.2.2.2.2.2.1 ⟨#[]⟩)),(false,())))else some (.inl ((gA a.1.2.2.2.2.1 (0:Int))&&((gA a.1.2.2.2.2.2.1 (0:Int))&&(ko a.1.2.2.2.2.2.2.1 ⟨#[]⟩)),((gA a.1.2.2.2.2.2.2.2.1 (0:Int))&&((gA a.1.2.2.2.2.2.2.2.2.1 (0:Int))&&(ko a.1.2.2.2.2.2.2.2.2.2.1 ⟨#[]⟩)),())))) λl=>Sum.elim (λb=>bif b.1 then bif b.2.1 then (Kl ((a.1.2.2.2.2.2.2.2.2.2.2.1,(a.1.2.2.2.2.2.2.2.2.2.2.2.1,(a.1.2.2.2.2.2.2.2.2.2.2.2.2.1,()))),())).bind λd=>bif d.1.1 then (Hw ((a.1.2.2.2.2.2.2.2.2.2.2.2.2.2.1,(a.1.2.2.2.2.2.2.2.2.2.2.2.2.2.2.1,(a.1.2.2.2.2.2.2.2.2.2.2.2.2.2.2.2.1,()))),())).bind λh=>bif h.1.1 then some ((true,()),()) else bif gA a.1.1 (4:Int) then (HC ((a.1.2.2.2.2.2.2.2.2.2.2.2.2.2.1,(a.1.2.2.2.2.2.2.2.2.2.2.2.2.2.2.1,(a.1.2.2.2.2.2.2.2.2.2.2.2.2.2.2.2.1,()))),())).bind λj=>some (j.1,()) else some ((false,()),()) else bif gA a.1.1 (4:Int) then (QC ((a.1.2.2.2.2.2.2.2.2.2.2.1,(a.1.2.2.2.2.2.2.2.2.2.2.2.1,(a.1.2.2.2.2.2.2.2.2.2.2.2.2.1,()))),())).bind λf=>bif f.1.1 then (Hw ((a.1.2.2.2.2.2.2.2.2.2.2.2.2.2.1,(a.1.2.2.2.2.2.2.2.2.2.2.2.2.2.2.1,(a.1.2.2.2.2.2.2.2.2.2.2.2.2.2.2.2.1,()))),())).bind λg=>bif g.1.1 then some ((true,()),()) else bif gA a.1.1 (4:Int) then (HC ((a.1.2.2.2.2.2.2.2.2.2.2.2.2.2.1,(a.1.2.2.2.2.2.2.2.2.2.2.2.2.2.2.1,(a.1.2.2.2.2.2.2.2.2.2.2.2.2.2.2.2.1,()))),())).bind λe=>some (e.1,()) else some ((false,()),()) else some ((false,()),()) else bif gA a.1.1 (3:Int) then (QC ((a.1.2.2.2.2.2.2.2.2.2.2.1,(a.1.2.2.2.2.2.2.2.2.2.2.2.1,(a.1.2.2.2.2.2.2.2.2.2.2.2.2.1,()))),())).bind λm=>bif m.1.1 then (Hw ((a.1.2.2.2.2.2.2.2.2.2.2.2.2.2.1,(a.1.2.2.2.2.2.2.2.2.2.2.2.2.2.2.1,(a.1.2.2.2.2.2.2.2.2.2.2.2.2.2.2.2.1,()))),())).bind λc=>bif c.1.1 then some ((true,()),()) else bif gA a.1.1 (4:Int) then (HC ((a.1.2.2.2.2.2.2.2.2.2.2.2.2.2.1,(a.1.2.2.2.2.2.2.2.2.2.2.2.2.2.2.1,(a.1.2.2.2.2.2.2.2.2.2.2.2.2.2.2.2.1,()))),())).bind λi=>some (i.1,()) else some ((false,()),()) else some ((false,()),()) else some ((false,()),()) else some ((false,()),()) else some ((false,()),())) some l
def c72:zi:=⟨i72,o72,ZL⟩
def aA2:=X9
def aA3:=Ya
def QD:(ix×(tb×Unit))->Option (sH×Unit):=λa=>some (((2:Int),(a.1.1,(a.2.1.1,(a.2.1.2.1,(a.2.1.2.2.1,()))))),())
def aA4:zi:=⟨aA2,aA3,QD⟩
def aA5:Gs:=[Ql,ED,I8]
def VN:Gs:=[Ql]
def Jo.b0(a:(I5×(ix×Ex))):(b:(List (sH)×ix))->Option Vo:=λb=>bif dO b.2.1 (List.length a.2.2.1.2.2.1:Int)then (bK a.2.2.1.2.2.1 b.2.1).bind λc=>bif dE (List.length b.1+List.length ([((1:Int),(a.2.1.1,(a.2.2.1.1,(a.2.2.1.2.1,(c.1,())))))]:List (sH))) 48 then some (.inl (bV b.1 ([((1:Int),(a.2.1.1,(a.2.2.1.1,(a.2.2.1.2.1,(c.1,())))))]:List (sH)),(cM .i64 b.2.1 (1:Int),())))else none else some (.inr (.inl (b.1,(b.2.1,()))))
def Jo:(I5×(ix×Ex))->Option La:=λa=>(aR (Jo.b0 a) (a.1.1,((0:Int),()))).bind λc=>Sum.elim (λb=>some ((b.1,()),())) some c
def aA6:zi:=⟨aA5,VN,Jo⟩
def aA7:Gs:=[Ql,ED,MK]
def aA8:=VN
def Jp.b0(b:(I5×(ix×EH))):(a:(List (sH)×ix))->Option Vo:=λa=>bif dO a.2.1 (List.length b.2.2.1.2.1:Int)then bif dO a.2.1 (List.length b.2.2.1.2.2.1:Int)then (bK b.2.2.1.2.2.1 a.2.1).bind λc=>(bK b.2.2.1.2.1 a.2.1).bind λd=>bif dE (List.length a.1+List.length ([((2:Int),(b.2.1.1,(b.2.2.1.1,(c.1,(d.1,())))))]:List (sH))) 48 then some (.inl (bV a.1 ([((2:Int),(b.2.1.1,(b.2.2.1.1,(c.1,(d.1,())))))]:List (sH)),(cM .i64 a.2.1 (1:Int),())))else none else some (.inr (.inl (a.1,(a.2.1,()))))else some (.inr (.inl (a.1,(a.2.1,()))))
def Jp:(I5×(ix×EH))->Option La:=λa=>(aR (Jp.b0 a) (a.1.1,((0:Int),()))).bind λc=>Sum.elim (λb=>some ((b.1,()),())) some c
def aA9:zi:=⟨aA7,aA8,Jp⟩
def aB0:=To
def aB1:=VN
def Kt.b0(b:Ew):(a:(List (sH)×ix))->Option Vo:=λa=>bif dO a.2.1 (List.length b.1.2.2.2.1:Int)then (bK b.1.2.2.2.1 a.2.1).bind λd=>(Jo ((a.1,()),((b.1.2.2.1,()),((d.2.2.2.2.1,(d.2.2.2.2.2.1,(d.2.2.2.2.2.2.1,()))),())))).bind λe=>(bK b.1.2.2.2.1 a.2.1).bind λc=>(Jp (e.1,((b.1.2.2.1,()),((c.2.2.2.2.2.2.2.1,(c.2.2.2.2.2.2.2.2.1,(c.2.2.2.2.2.2.2.2.2.1,()))),())))).bind λf=>some (.inl (f.1.1,(cM .i64 a.2.1 (1:Int),())))else some (.inr (.inl (a.1,(a.2.1,()))))
def Kt:Ew->Option La:=λa=>Option.bind (bif !ko a.1.2.2.2.2.2.2.1 ⟨#[]⟩then(QA ((a.1.2.2.1,()),((a.1.2.2.2.2.1,(a.1.2.2.2.2.2.1,(a.1.2.2.2.2.2.2.1,()))),()))).bind λc=>bif dE (List.length ([]:List (sH))+List.length ([c.1]:List (sH))) 48 then some (.inl (bV ([]:List (sH)) ([c.1]:List (sH)),()))else none else some (.inl (([]:List (sH)),()))) λh=>Sum.elim (λb=>Option.bind (bif !ko a.1.2.2.2.2.2.2.2.2.2.1 ⟨#[]⟩then (QD ((a.1.2.2.1,()),((a.1.2.2.2.2.2.2.2.1,(a.1.2.2.2.2.2.2.2.2.1,(a.1.2.2.2.2.2.2.2.2.2.1,()))),()))).bind λd=>bif dE (List.length b.1+List.length ([d.1]:List (sH))) 48 then some (.inl (bV b.1 ([d.1]:List (sH)),())) else none else some (.inl (b.1,()))) λg=>Sum.elim (λi=>(Jo ((i.1,()),((a.1.2.2.1,()),((a.1.2.2.2.2.2.2.2.2.2.2.1,(a.1.2.2.2.2.2.2.2.2.2.2.2.1,(a.1.2.2.2.2.2.2.2.2.2.2.2.2.1,()))),())))).bind λj=>(Jp (j.1,((a.1.2.2.1,()),((a.1.2.2.2.2.2.2.2.2.2.2.2.2.2.1,(a.1.2.2.2.2.2.2.2.2.2.2.2.2.2.2.1,(a.1.2.2.2.2.2.2.2.2.2.2.2.2.2.2.2.1,()))),())))).bind λk=>(aR (Kt.b0 a) (k.1.1,((0:Int),()))).bind λf=>Sum.elim (λe=>some ((e.1,()),())) some f) some g) some h
def aB2:zi:=⟨aB0,aB1,Kt⟩
def aB3:Gs:=[VB,UQ,Qk]
def aB4:=o7
def Ku.b0(b:La)(c:(I5×(I7×Ew))):(a:ix)->Option Ev:=λa=>bif dO a.1 (List.length b.1.1:Int)then(bK b.1.1 a.1).bind λ_=>(aC b.1.1 (Int.toNat a.1)).bind λf=>(FV (c.2.1,((f.2.2.2.2.1,()),()))).bind λd=>bif (!d.1.1)then (bK b.1.1 a.1).bind λ_=>(aC b.1.1 (Int.toNat a.1)).bind λe=>(Jn (c.1,(e,()))).bind λg=>bif (!g.1.1)then some (.inr (.inr ((false,()),())))else some (.inl (cM .i64 a.1 (1:Int),()))else some (.inl (cM .i64 a.1 (1:Int),()))else some (.inr (.inl (a.1,())))
def Ku:(I5×(I7×Ew))->Option lf:=λa=>(Kt (a.2.2.1,())).bind λc=>(aR (Ku.b0 c a) ((0:Int),())).bind λb=>Sum.elim (λd=>some ((true,()),())) some b
def aB5:zi:=⟨aB3,aB4,Ku⟩
def aB6:Gs:=[UQ,UQ]
def aB7:=o7
def Kv.b0(b:(I7×K8)):(a:ix)->Option Ev:=λa=>bif dO a.1 (List.length b.1.1:Int)then(bK b.1.1 a.1).bind λc=>(bK b.2.1.1 a.1).bind λd=>bif !ko c.1 d.1 then some (.inr (.inr ((false,()),())))else some (.inl (cM .i64 a.1 (1:Int),()))else some (.inr (.inl (a.1,())))
def Kv:(I7×K8)->Option lf:=λa=>bif !gA (List.length a.1.1:Int) (List.length a.2.1.1:Int)then some ((false,()),())else (aR (Kv.b0 a) ((0:Int),())).bind λb=>Sum.elim (λc=>some ((true,()),())) some b
def aB8:zi:=⟨aB6,aB7,Kv⟩
def aB9:Gs:=[I8,I8]
def aC0:=o7
def VO:(Xc×Ex)->Option lf:=λa=>bif gA a.1.1 a.2.1.1 then bif gA a.1.2.1 a.2.1.2.1 then(Kv ((a.1.2.2.1,()),((a.2.1.2.2.1,()),()))).bind λb=>some (b.1,())else some ((false,()),())else some ((false,()),())
def aC1:zi:=⟨aB9,aC0,VO⟩
def aC2:Gs:=[MK,MK]
def aC3:=o7
def Lm.b0(b:(UO×EH)):(a:ix)->Option Ev:=λa=>bif dO a.1 (List.length b.1.2.2.1:Int)then(bK b.1.2.2.1 a.1).bind λd=>(bK b.2.1.2.2.1 a.1).bind λc=>bif !gA d.1 c.1 then some (.inr (.inr ((false,()),())))else some (.inl (cM .i64 a.1 (1:Int),()))else some (.inr (.inl (a.1,())))
def Lm:(UO×EH)->Option lf:=λa=>bif !gA a.1.1 a.2.1.1 then some ((false,()),())else (Kv ((a.1.2.1,()),((a.2.1.2.1,()),()))).bind λc=>bif (!c.1.1)then some ((false,()),())else bif !gA (List.length a.1.2.2.1:Int) (List.length a.2.1.2.2.1:Int)then some ((false,()),())else (aR (Lm.b0 a) ((0:Int),())).bind λb=>Sum.elim (λd=>some ((true,()),())) some b
def aC4:zi:=⟨aC2,aC3,Lm⟩
def aC5:Gs:=[ML,ML]
def aC6:=o7
def Ln.b0(d:(GJ×FT)):(a:ix)->Option Ev:=λa=>bif dO a.1 (List.length d.1.1:Int)then(bK d.1.1 a.1).bind λb=>(bK d.2.1.1 a.1).bind λc=>bif !((gA b.1 c.1)&&((ko b.2.1 c.2.1)&&((ko b.2.2.1 c.2.2.1)&&((gA b.2.2.2.1 c.2.2.2.1)&&(gA b.2.2.2.2.1 c.2.2.2.2.1)))))then some (.inr (.inr ((false,()),())))else some (.inl (cM .i64 a.1 (1:Int),()))else some (.inr (.inl (a.1,())))
def Ln:(GJ×FT)->Option lf:=λa=>bif !gA (List.length a.1.1:Int) (List.length a.2.1.1:Int)then some ((false,()),())else (aR (Ln.b0 a) ((0:Int),())).bind λb=>Sum.elim (λc=>some ((true,()),())) some b
def aC7:zi:=⟨aC5,aC6,Ln⟩
def aC8:Gs:=[OL,OL]
def aC9:=o7
def QE:(tR×D8)->Option lf:=λa=>bif gA a.1.1 a.2.1.1 then bif gA a.1.2.1 a.2.1.2.1 then bif gA a.1.2.2.1 a.2.1.2.2.1 then bif ko a.1.2.2.2.1 a.2.1.2.2.2.1 then(VO ((a.1.2.2.2.2.1,(a.1.2.2.2.2.2.1,(a.1.2.2.2.2.2.2.1,()))),((a.2.1.2.2.2.2.1,(a.2.1.2.2.2.2.2.1,(a.2.1.2.2.2.2.2.2.1,()))),()))).bind λb=>bif b.1.1 then (Lm ((a.1.2.2.2.2.2.2.2.1,(a.1.2.2.2.2.2.2.2.2.1,(a.1.2.2.2.2.2.2.2.2.2.1,()))),((a.2.1.2.2.2.2.2.2.2.1,(a.2.1.2.2.2.2.2.2.2.2.1,(a.2.1.2.2.2.2.2.2.2.2.2.1,()))),()))).bind λc=>bif c.1.1 then (Ln ((a.1.2.2.2.2.2.2.2.2.2.2.1,()),((a.2.1.2.2.2.2.2.2.2.2.2.2.1,()),()))).bind λe=>bif e.1.1 then bif wo a.1.2.2.2.2.2.2.2.2.2.2.2.1 a.2.1.2.2.2.2.2.2.2.2.2.2.2.1 then (Kq ((a.1.2.2.2.2.2.2.2.2.2.2.2.2.1,()),((a.2.1.2.2.2.2.2.2.2.2.2.2.2.2.1,()),()))).bind λd=>bif d.1.1 then some ((ko a.1.2.2.2.2.2.2.2.2.2.2.2.2.2.1 a.2.1.2.2.2.2.2.2.2.2.2.2.2.2.2.1,()),())else some ((false,()),())else some ((false,()),())else some ((false,()),())else some ((false,()),())else some ((false,()),())else some ((false,()),())else some ((false,()),())else some ((false,()),())else some ((false,()),())
def aD0:zi:=⟨aC8,aC9,QE⟩
def aD1:=Yc
def aD2:=MU
def vv.b1(c:(IY×Ew)):(a:K6)->Option (Sum K6 (Sum K6 Ke)):=λa=>bif dO a.2.1 (List.length c.2.1.2.2.2.1:Int)then (bK c.2.1.2.2.2.1 a.2.1).bind λb=>bif dO b.1 (List.length a.1:Int)then (bK a.1 b.1).bind λ_=>(aC a.1 (Int.toNat b.1)).bind λe=>(QE (e,(b,()))).bind λf=>bif (!f.1.1)then some (.inr (.inr ((false,()),(c.1,()))))else some (.inl (a.1,(cM .i64 a.2.1 (1:Int),())))else bif gA b.1 (List.length a.1:Int)then (FV ((c.1.2.2.1,()),((b.2.2.2.1,()),()))).bind λg=>bif g.1.1 then bif dO (List.length a.1:Int) (1000:Int)then bif dE (List.length ([]:List (tR))+List.length a.1) 208 then (H0 (b,())).bind λd=>bif dE (List.length (bV ([]:List (tR)) a.1)+List.length ([d.1]:List (tR))) 208 then some (.inl (bV (bV ([]:List (tR)) a.1) ([d.1]:List (tR)),(cM .i64 a.2.1 (1:Int),()))) else none else none else some (.inr (.inr ((false,()),(c.1,())))) else some (.inr (.inr ((false,()),(c.1,())))) else some (.inr (.inr ((false,()),(c.1,())))) else some (.inr (.inl (a.1,(a.2.1,()))))
def vv.b0(a:(IY×Ew)):(c:ix)->Option (Sum ix (Sum ix Ke)):=λc=>bif dO c.1 (List.length a.2.1.2.2.2.1:Int)then (bK a.2.1.2.2.2.1 c.1).bind λb=>bif dO b.1 (List.length a.1.2.2.2.2.1:Int)then (bK a.1.2.2.2.2.1 b.1).bind λ_=>(aC a.1.2.2.2.2.1 (Int.toNat b.1)).bind λi=>(QE (i,(b,()))).bind λj=>bif (!j.1.1)then some (.inr (.inr ((false,()),(a.1,()))))else some (.inl (cM .i64 c.1 (1:Int),()))else bif gA b.1 (List.length a.1.2.2.2.2.1:Int)then (FV ((a.1.2.2.1,()),((b.2.2.2.1,()),()))).bind λk=>bif k.1.1 then bif dO (List.length a.1.2.2.2.2.1:Int) (1000:Int)then bif dE (List.length ([]:List (tR))+List.length a.1.2.2.2.2.1) 208 then (H0 (b,())).bind λd=>bif dE (List.length (bV ([]:List (tR)) a.1.2.2.2.2.1)+List.length ([d.1]:List (tR))) 208 then Option.map (λq=>.inr (.inr q)) ((aR (vv.b1 a) (bV (bV ([]:List (tR)) a.1.2.2.2.2.1) ([d.1]:List (tR)),(cM .i64 c.1 (1:Int),()))).bind λe=>Sum.elim (λg=>(Jf (a.2.1,())).bind λf=>(vn ((a.1.1,(a.1.2.1,(a.1.2.2.1,(a.1.2.2.2.1,(g.1,(a.1.2.2.2.2.2.1,(a.1.2.2.2.2.2.2.1,()))))))),((([f.1]:List (B8)),()),((([]:List (sH)),()),())))).bind λh=>some ((true,()),(h.1,()))) some e) else none else none else some (.inr (.inr ((false,()),(a.1,())))) else some (.inr (.inr ((false,()),(a.1,())))) else some (.inr (.inr ((false,()),(a.1,())))) else some (.inr (.inl (c.1,())))
def vv:(IY×Ew)->Option Ke:=λa=>(ZL (a.2.1,())).bind λe=>bif (!e.1.1)then some ((false,()),(a.1,()))else (Qc (a.1,((a.2.1.2.1,()),()))).bind λf=>bif dO f.1.1 (0:Int)then some ((false,()),(a.1,()))else (Ku ((a.1.2.2.2.2.2.1,()),((a.1.2.2.1,()),(a.2.1,())))).bind λg=>bif (!g.1.1)then some ((false,()),(a.1,()))else (aR (vv.b0 a) ((0:Int),())).bind λd=>Sum.elim (λh=>(Jf (a.2.1,())).bind λc=>(vn (a.1,((([c.1]:List (B8)),()),((([]:List (sH)),()),())))).bind λb=>some ((true,()),(b.1,()))) some d
def aD3:zi:=⟨aD1,aD2,vv⟩
def aD4:Gs:=[Qa,ED]
def aD5:Gs:=[VA,XI,Ql,Qa]
def Ts:(Fh×sF)->Option ((GI×SZ)):=λa=>Option.bind ((Kj ((a.1.2.2.2.2.1,()),((a.1.2.2.2.2.2.2.1,()),()))).bind λf=>bif !ko f.1.1 a.1.1 then some (.inr ((([]:List (tR)),()),((([]:List (B8)),()),((([]:List (sH)),()),(a.1,())))))else bif km a.1.2.2.2.2.2.2.1 a.1.2.2.2.2.2.2.2.2.2.2.2.2.2.2.1 then some (.inr ((([]:List (tR)),()),((([]:List (B8)),()),((([]:List (sH)),()),(a.1,())))))else bif !gA a.1.2.2.2.2.2.2.2.2.2.1 (-1:Int)then (Fx ((a.1.2.2.2.2.2.1,()),((a.1.2.2.2.2.2.2.2.2.2.1,()),()))).bind λg=>bif dO g.1.1 (0:Int)then some (.inr ((([]:List (tR)),()),((([]:List (B8)),()),((([]:List (sH)),()),(a.1,())))))else some (.inl ())else some (.inl ())) λi=>Sum.elim (λk=>(OR (a.1,(a.2.1,()))).bind λb=>(OQ (b.1,())).bind λj=>bif (!j.1.1) then some ((([]:List (tR)),()),((([]:List (B8)),()),((([]:List (sH)),()),(a.1,())))) else (Lj (b.1,())).bind λh=>bif (!h.1.1) then some ((([]:List (tR)),()),((([]:List (B8)),()),((([]:List (sH)),()),(a.1,())))) else (Hz ((a.1.1,(a.1.2.1,(a.1.2.2.1,(a.1.2.2.2.1,(a.1.2.2.2.2.1,(a.1.2.2.2.2.2.1,(a.1.2.2.2.2.2.2.1,(a.1.2.2.2.2.2.2.2.1,(a.1.2.2.2.2.2.2.2.2.1,(a.1.2.2.2.2.2.2.2.2.2.1,(a.1.2.2.2.2.2.2.2.2.2.2.1,(a.1.2.2.2.2.2.2.2.2.2.2.2.1,(a.1.2.2.2.2.2.2.2.2.2.2.2.2.1,(a.1.2.2.2.2.2.2.2.2.2.2.2.2.2.1,(a.1.2.2.2.2.2.2.1,(a.1.2.2.2.2.2.2.2.2.2.2.2.2.2.2.2.1,(a.1.2.2.2.2.2.2.2.2.2.2.2.2.2.2.2.2.1,(a.1.2.2.2.2.2.2.2.2.2.2.2.2.2.2.2.2.2.1,(a.1.2.2.2.2.2.2.2.2.2.2.2.2.2.2.2.2.2.2.1,(a.1.2.2.2.2.2.2.2.2.2.2.2.2.2.2.2.2.2.2.2.1,())))))))))))))))))))),(((1:Int),(⟨#[]⟩,(a.1.2.1,(([b.1]:List (tR)),((0:Int),((0:Int),(⟨#[]⟩,((0:Int),((0:Int),(⟨#[]⟩,((0:Int),((-1:Int),([],((0:Int),([],([],())))))))))))))))),()))).bind λd=>(OT ((a.1.1,(a.1.2.1,(a.1.2.2.1,(a.1.2.2.2.1,(a.1.2.2.2.2.1,(a.1.2.2.2.2.2.1,(a.1.2.2.2.2.2.2.1,(a.1.2.2.2.2.2.2.2.1,(a.1.2.2.2.2.2.2.2.2.1,(a.1.2.2.2.2.2.2.2.2.2.1,(a.1.2.2.2.2.2.2.2.2.2.2.1,(a.1.2.2.2.2.2.2.2.2.2.2.2.1,(a.1.2.2.2.2.2.2.2.2.2.2.2.2.1,(a.1.2.2.2.2.2.2.2.2.2.2.2.2.2.1,(a.1.2.2.2.2.2.2.1,(a.1.2.2.2.2.2.2.2.2.2.2.2.2.2.2.2.1,(a.1.2.2.2.2.2.2.2.2.2.2.2.2.2.2.2.2.1,(a.1.2.2.2.2.2.2.2.2.2.2.2.2.2.2.2.2.2.1,(a.1.2.2.2.2.2.2.2.2.2.2.2.2.2.2.2.2.2.2.1,(a.1.2.2.2.2.2.2.2.2.2.2.2.2.2.2.2.2.2.2.2.1,())))))))))))))))))))),(b.1,()))).bind λc=>(H0 (b.1,())).bind λe=>bif dE (List.length d.1.1+List.length c.1.1) 216 then some ((([e.1]:List (tR)),()),((bV d.1.1 c.1.1,()),(c.2.1,(c.2.2.1,())))) else none) some i
def aD6:zi:=⟨aD4,aD5,Ts⟩
def Ye:Gs:=[UP,ED]
def aD7:=MU
def MW:(IY×sF)->Option Ke:=λa=>bif km (1000:Int) (List.length a.1.2.2.2.2.1:Int)then some ((false,()),(a.1,()))else (bK a.1.2.2.2.1 a.2.1.1).bind λ_=>(aC a.1.2.2.2.1 (Int.toNat a.2.1.1)).bind λd=>(Ts (d,(((List.length a.1.2.2.2.2.1:Int),()),()))).bind λb=>(some (List.set a.1.2.2.2.1 (Int.toNat a.2.1.1) b.2.2.2.1)).bind λc=>bif gA (List.length b.1.1:Int) (0:Int) then some ((false,()),((a.1.1,(a.1.2.1,(a.1.2.2.1,(c,(a.1.2.2.2.2.1,(a.1.2.2.2.2.2.1,(a.1.2.2.2.2.2.2.1,()))))))),())) else bif dE (List.length a.1.2.2.2.2.1+List.length b.1.1) 208 then (vn ((a.1.1,(a.1.2.1,(a.1.2.2.1,(c,(bV a.1.2.2.2.2.1 b.1.1,(a.1.2.2.2.2.2.1,(a.1.2.2.2.2.2.2.1,()))))))),(b.2.1,(b.2.2.1,())))).bind λe=>some ((true,()),(e.1,())) else none
def aD8:zi:=⟨Ye,aD7,MW⟩
def aD9:=Kr
def aE0:=VM
def QF:AN->Option (SZ):=λa=>(FW ((a.1.2.2.2.2.1,()),((a.1.1,()),()))).bind λc=>bif (!c.1.1)then some ((([]:List (B8)),()),((([]:List (sH)),()),(a.1,())))else bif dO a.1.2.2.2.2.2.2.1 a.1.2.2.2.2.2.2.2.1 then some ((([]:List (B8)),()),((([]:List (sH)),()),(a.1,())))else (Fw ((a.1.2.2.2.2.2.2.2.2.1,(a.1.2.2.2.2.2.2.2.2.2.1,(a.1.2.2.2.2.2.2.2.2.2.2.1,()))),())).bind λb=>(Hz ((a.1.1,(a.1.2.1,(a.1.2.2.1,(a.1.2.2.2.1,(a.1.2.2.2.2.1,(a.1.2.2.2.2.2.1,(a.1.2.2.2.2.2.2.1,(a.1.2.2.2.2.2.2.1,(a.1.2.2.2.2.2.2.2.2.1,(a.1.2.2.2.2.2.2.2.2.2.1,(a.1.2.2.2.2.2.2.2.2.2.2.1,(a.1.2.2.2.2.2.2.2.2.2.2.2.1,(a.1.2.2.2.2.2.2.2.2.2.2.2.2.1,(a.1.2.2.2.2.2.2.2.2.2.2.2.2.2.1,(a.1.2.2.2.2.2.2.2.2.2.2.2.2.2.2.1,(a.1.2.2.2.2.2.2.2.2.2.2.2.2.2.2.2.1,(a.1.2.2.2.2.2.2.2.2.2.2.2.2.2.2.2.2.1,(a.1.2.2.2.2.2.2.2.2.2.2.2.2.2.2.2.2.2.1,(a.1.2.2.2.2.2.2.2.2.2.2.2.2.2.2.2.2.2.2.1,(a.1.2.2.2.2.2.2.2.2.2.2.2.2.2.2.2.2.2.2.2.1,())))))))))))))))))))),(((3:Int),(⟨#[]⟩,(a.1.2.1,([],((0:Int),((0:Int),(⟨#[]⟩,(a.1.2.2.2.2.2.2.1,(a.1.2.2.2.2.2.2.2.2.1,(a.1.1,(b.1.1,(b.1.2.1,(b.1.2.2.1,((0:Int),([],([],())))))))))))))))),()))).bind λf=>(QD ((a.1.2.1,()),((a.1.2.2.2.2.2.2.1,(a.1.2.2.2.2.2.2.2.2.1,(a.1.1,()))),()))).bind λe=>(HA ((a.1.1,(a.1.2.1,(a.1.2.2.1,(a.1.2.2.2.1,(a.1.2.2.2.2.1,(a.1.2.2.2.2.2.1,(a.1.2.2.2.2.2.2.1,(a.1.2.2.2.2.2.2.1,(a.1.2.2.2.2.2.2.2.2.1,(a.1.2.2.2.2.2.2.2.2.2.1,(a.1.2.2.2.2.2.2.2.2.2.2.1,(a.1.2.2.2.2.2.2.2.2.2.2.2.1,(a.1.2.2.2.2.2.2.2.2.2.2.2.2.1,(a.1.2.2.2.2.2.2.2.2.2.2.2.2.2.1,(a.1.2.2.2.2.2.2.2.2.2.2.2.2.2.2.1,(a.1.2.2.2.2.2.2.2.2.2.2.2.2.2.2.2.1,(a.1.2.2.2.2.2.2.2.2.2.2.2.2.2.2.2.2.1,(a.1.2.2.2.2.2.2.2.2.2.2.2.2.2.2.2.2.2.1,(a.1.2.2.2.2.2.2.2.2.2.2.2.2.2.2.2.2.2.2.1,(a.1.2.2.2.2.2.2.2.2.2.2.2.2.2.2.2.2.2.2.2.1,())))))))))))))))))))),((a.1.2.2.2.2.2.2.1,(a.1.2.2.2.2.2.2.2.2.1,(a.1.1,()))),((a.1.2.2.2.2.2.2.2.2.1,(a.1.2.2.2.2.2.2.2.2.2.1,(a.1.2.2.2.2.2.2.2.2.2.2.1,()))),())))).bind λd=>some (f.1,((([e.1]:List (sH)),()),(d.1,())))
def aE1:zi:=⟨aD9,aE0,QF⟩
def aE2:=Ye
def aE3:=MU
def OU:(IY×sF)->Option Ke:=λa=>(bK a.1.2.2.2.1 a.2.1.1).bind λ_=>(aC a.1.2.2.2.1 (Int.toNat a.2.1.1)).bind λc=>(QF (c,())).bind λb=>(some (List.set a.1.2.2.2.1 (Int.toNat a.2.1.1) b.2.2.1)).bind λe=>(vn ((a.1.1,(a.1.2.1,(a.1.2.2.1,(e,(a.1.2.2.2.2.1,(a.1.2.2.2.2.2.1,(a.1.2.2.2.2.2.2.1,()))))))),(b.1,(b.2.1,())))).bind λd=>some ((dO (0:Int) (List.length b.2.1.1:Int),()),(d.1,()))
def aE4:zi:=⟨aE2,aE3,OU⟩
def aE5:Gs:=[S6,ED,P8]
def aE6:Gs:=[Vz,P7]
def Jq.b0(a:(Fh×(ix×Em))):(b:ix)->Option (Sum ix (Sum ix ((B8×lf)))):=λb=>bif dO b.1 (List.length a.1.2.2.2.2.2.2.2.2.2.2.2.2.2.2.2.2.2.2.2.1:Int)then (bK a.1.2.2.2.2.2.2.2.2.2.2.2.2.2.2.2.2.2.2.2.1 b.1).bind λg=>bif gA g.1 a.2.1.1 then (bK a.1.2.2.2.2.2.2.2.2.2.2.2.2.2.2.2.2.2.2.2.1 b.1).bind λe=>(CV ((e.2.1,()),())).bind λf=>(bK a.1.2.2.2.2.2.2.2.2.2.2.2.2.2.2.2.2.2.2.2.1 b.1).bind λc=>(Fw ((c.2.2.1,(c.2.2.2.1,(c.2.2.2.2.1,()))),())).bind λd=>some (.inr (.inr (((4:Int),(a.2.2.1.1,(a.2.1.1,(f.1.1,((0:Int),((0:Int),(⟨#[]⟩,((0:Int),((0:Int),(⟨#[]⟩,(d.1.1,(d.1.2.1,(d.1.2.2.1,((0:Int),([],([],())))))))))))))))),((true,()),()))))else some (.inl (cM .i64 b.1 (1:Int),()))else some (.inr (.inl (b.1,())))
def Jq:(Fh×(ix×Em))->Option ((B8×lf)):=λa=>bif gA a.2.1.1 a.1.2.1 then (CV ((a.1.2.2.2.2.2.1,()),())).bind λe=>(Fw ((a.1.2.2.2.2.2.2.2.2.1,(a.1.2.2.2.2.2.2.2.2.2.1,(a.1.2.2.2.2.2.2.2.2.2.2.1,()))),())).bind λb=>(HZ ((a.1.2.2.2.2.2.2.2.2.2.2.2.1,(a.1.2.2.2.2.2.2.2.2.2.2.2.2.1,(a.1.2.2.2.2.2.2.2.2.2.2.2.2.2.1,()))),())).bind λc=>some (((4:Int),(a.2.2.1.1,(a.2.1.1,(e.1.1,((0:Int),((0:Int),(⟨#[]⟩,((0:Int),((0:Int),(⟨#[]⟩,(b.1.1,(b.1.2.1,(b.1.2.2.1,(c.1.1,(c.1.2.1,(c.1.2.2.1,())))))))))))))))),((true,()),()))else (aR (Jq.b0 a) ((0:Int),())).bind λd=>Sum.elim (λf=>some (((0:Int),(⟨#[]⟩,((0:Int),([],((0:Int),((0:Int),(⟨#[]⟩,((0:Int),((0:Int),(⟨#[]⟩,((0:Int),((0:Int),([],((0:Int),([],([],())))))))))))))))),((false,()),()))) some d
def aE7:zi:=⟨aE5,aE6,Jq⟩
def aE8:Gs:=[UP,ED,ED]
def aE9:=MU
def OV:(IY×(ix×sF))->Option Ke:=λa=>(lh (a.2.2.1,(((0:Int),()),((gS .i64 (List.length a.1.2.2.2.1:Int) (1:Int),()),())))).bind λg=>bif (!g.1.1)then some ((false,()),(a.1,()))else (bK a.1.2.2.2.1 a.2.1.1).bind λ_=>(aC a.1.2.2.2.1 (Int.toNat a.2.1.1)).bind λb=>(bK a.1.2.2.2.1 a.2.2.1.1).bind λ_=>(aC a.1.2.2.2.1 (Int.toNat a.2.2.1.1)).bind λm=>(bK a.1.2.2.2.1 a.2.2.1.1).bind λ_=>(aC a.1.2.2.2.1 (Int.toNat a.2.2.1.1)).bind λh=>(aC a.1.2.2.2.1 (Int.toNat a.2.1.1)).bind λl=>(aC a.1.2.2.2.1 (Int.toNat a.2.1.1)).bind λi=>(aC a.1.2.2.2.1 (Int.toNat a.2.1.1)).bind λk=>(aC a.1.2.2.2.1 (Int.toNat a.2.1.1)).bind λj=>(Jq ((b.1,(b.2.1,(b.2.2.1,(b.2.2.2.1,(b.2.2.2.2.1,(b.2.2.2.2.2.1,(b.2.2.2.2.2.2.1,(b.2.2.2.2.2.2.2.1,(b.2.2.2.2.2.2.2.2.1,(b.2.2.2.2.2.2.2.2.2.1,(b.2.2.2.2.2.2.2.2.2.2.1,(b.2.2.2.2.2.2.2.2.2.2.2.1,(b.2.2.2.2.2.2.2.2.2.2.2.2.1,(b.2.2.2.2.2.2.2.2.2.2.2.2.2.1,(b.2.2.2.2.2.2.2.2.2.2.2.2.2.2.1,(l.2.2.2.2.2.2.2.2.2.2.2.2.2.2.2.1,(i.2.2.2.2.2.2.2.2.2.2.2.2.2.2.2.2.1,(k.2.2.2.2.2.2.2.2.2.2.2.2.2.2.2.2.2.1,(b.2.2.2.2.2.2.2.2.2.2.2.2.2.2.2.2.2.2.1,(j.2.2.2.2.2.2.2.2.2.2.2.2.2.2.2.2.2.2.2.1,())))))))))))))))))))),((m.2.1,()),((h.1,()),())))).bind λe=>Option.bind (bif e.2.1.1 then (vn (a.1,((([e.1]:List (B8)),()),((([]:List (sH)),()),())))).bind λc=>some (.inl (c.1.1,(c.1.2.1,(c.1.2.2.1,(c.1.2.2.2.1,(c.1.2.2.2.2.1,(c.1.2.2.2.2.2.1,(c.1.2.2.2.2.2.2.1,()))))))))else some (.inl (a.1.1,(a.1.2.1,(a.1.2.2.1,(a.1.2.2.2.1,(a.1.2.2.2.2.1,(a.1.2.2.2.2.2.1,(a.1.2.2.2.2.2.2.1,()))))))))) λf=>Sum.elim (λd=>some (e.2.1,((d.1,(d.2.1,(d.2.2.1,(d.2.2.2.1,(d.2.2.2.2.1,(d.2.2.2.2.2.1,(d.2.2.2.2.2.2.1,()))))))),()))) some f
def aF0:zi:=⟨aE8,aE9,OV⟩
def aF1:Gs:=[UP,ED,Lb]
def aF2:=MU
def Tt:(IY×(ix×MI))->Option Ke:=λb=>(bK b.1.2.2.2.1 b.2.1.1).bind λ_=>(aC b.1.2.2.2.1 (Int.toNat b.2.1.1)).bind λd=>(Ld ((d.2.2.2.2.2.2.2.2.2.2.2.2.2.2.2.2.2.2.1,()),(b.2.2.1,()))).bind λc=>(bK b.1.2.2.2.1 b.2.1.1).bind λ_=>(aC b.1.2.2.2.1 (Int.toNat b.2.1.1)).bind λa=>(some (List.set b.1.2.2.2.1 (Int.toNat b.2.1.1) (a.1,(a.2.1,(a.2.2.1,(a.2.2.2.1,(a.2.2.2.2.1,(a.2.2.2.2.2.1,(a.2.2.2.2.2.2.1,(a.2.2.2.2.2.2.2.1,(a.2.2.2.2.2.2.2.2.1,(a.2.2.2.2.2.2.2.2.2.1,(a.2.2.2.2.2.2.2.2.2.2.1,(a.2.2.2.2.2.2.2.2.2.2.2.1,(a.2.2.2.2.2.2.2.2.2.2.2.2.1,(a.2.2.2.2.2.2.2.2.2.2.2.2.2.1,(a.2.2.2.2.2.2.2.2.2.2.2.2.2.2.1,(a.2.2.2.2.2.2.2.2.2.2.2.2.2.2.2.1,(a.2.2.2.2.2.2.2.2.2.2.2.2.2.2.2.2.1,(a.2.2.2.2.2.2.2.2.2.2.2.2.2.2.2.2.2.1,(c.1.1,a.2.2.2.2.2.2.2.2.2.2.2.2.2.2.2.2.2.2.2))))))))))))))))))))).bind λe=>some (c.2.1,((b.1.1,(b.1.2.1,(b.1.2.2.1,(e,(b.1.2.2.2.2.1,(b.1.2.2.2.2.2.1,(b.1.2.2.2.2.2.2.1,()))))))),()))
def aF3:zi:=⟨aF1,aF2,Tt⟩
def aF4:=Kr
def aF5:=Kr
def VP:AN->Option AN:=λa=>some ((a.1.1,(a.1.2.1,(a.1.2.2.1,(a.1.2.2.2.1,(a.1.2.2.2.2.1,(a.1.2.2.2.2.2.1,(a.1.2.2.2.2.2.2.1,(a.1.2.2.2.2.2.2.2.1,(a.1.2.2.2.2.2.2.2.2.1,(a.1.2.2.2.2.2.2.2.2.2.1,(a.1.2.2.2.2.2.2.2.2.2.2.1,(a.1.2.2.2.2.2.2.2.2.2.2.2.1,(a.1.2.2.2.2.2.2.2.2.2.2.2.2.1,(a.1.2.2.2.2.2.2.2.2.2.2.2.2.2.1,(a.1.2.2.2.2.2.2.2.2.2.2.2.2.2.2.1,(([]:List (tb)),(([]:List (pf)),(a.1.2.2.2.2.2.2.2.2.2.2.2.2.2.2.2.2.2.1,(([]:List (cl)),(a.1.2.2.2.2.2.2.2.2.2.2.2.2.2.2.2.2.2.2.2.1,())))))))))))))))))))),())
def aF6:zi:=⟨aF4,aF5,VP⟩
def i63:=Yd
def o63:=MU
def ZM:(IY×(Qh×Unit))->Option Ke:=λa=>Option.bind (bif gA a.2.1.1 (6:Int)then some (.inl (true,()))else bif gA a.2.1.1 (7:Int)then some (.inl (true,()))else some (.inl (gA a.2.1.1 (8:Int),()))) λm=>Sum.elim (λk=>bif k.1 then (MV (a.1,(a.2.1,()))).bind λd=>some (d.1,(d.2.1,())) else bif gA a.2.1.1 (9:Int) then (vv (a.1,((a.2.1.2.2.2.2.2.2.2.2.1,(a.2.1.2.2.2.2.2.2.2.2.2.1,(a.2.1.2.2.2.2.2.2.2.2.2.2.1,(a.2.1.2.2.2.2.2.2.2.2.2.2.2.1,(a.2.1.2.2.2.2.2.2.2.2.2.2.2.2.1,(a.2.1.2.2.2.2.2.2.2.2.2.2.2.2.2.1,(a.2.1.2.2.2.2.2.2.2.2.2.2.2.2.2.2.1,(a.2.1.2.2.2.2.2.2.2.2.2.2.2.2.2.2.2.1,(a.2.1.2.2.2.2.2.2.2.2.2.2.2.2.2.2.2.2.1,(a.2.1.2.2.2.2.2.2.2.2.2.2.2.2.2.2.2.2.2.1,(a.2.1.2.2.2.2.2.2.2.2.2.2.2.2.2.2.2.2.2.2.1,(a.2.1.2.2.2.2.2.2.2.2.2.2.2.2.2.2.2.2.2.2.2.1,(a.2.1.2.2.2.2.2.2.2.2.2.2.2.2.2.2.2.2.2.2.2.2.1,(a.2.1.2.2.2.2.2.2.2.2.2.2.2.2.2.2.2.2.2.2.2.2.2.1,(a.2.1.2.2.2.2.2.2.2.2.2.2.2.2.2.2.2.2.2.2.2.2.2.2.1,(a.2.1.2.2.2.2.2.2.2.2.2.2.2.2.2.2.2.2.2.2.2.2.2.2.2.1,())))))))))))))))),()))).bind λc=>some (c.1,(c.2.1,())) else (lh ((a.2.1.2.1,()),(((0:Int),()),((gS .i64 (List.length a.1.2.2.2.1:Int) (1:Int),()),())))).bind λl=>bif (!l.1.1) then some ((false,()),(a.1,())) else bif gA a.2.1.1 (1:Int) then (MW (a.1,((a.2.1.2.1,()),()))).bind λf=>some (f.1,(f.2.1,())) else bif gA a.2.1.1 (2:Int) then (OU (a.1,((a.2.1.2.1,()),()))).bind λb=>some (b.1,(b.2.1,())) else bif gA a.2.1.1 (3:Int) then (OV (a.1,((a.2.1.2.1,()),((a.2.1.2.2.1,()),())))).bind λe=>some (e.1,(e.2.1,())) else bif gA a.2.1.1 (4:Int) then (Tt (a.1,((a.2.1.2.1,()),((a.2.1.2.2.2.1,(a.2.1.2.2.2.2.1,(a.2.1.2.2.2.2.2.1,(a.2.1.2.2.2.2.2.2.1,(a.2.1.2.2.2.2.2.2.2.1,()))))),())))).bind λg=>some (g.1,(g.2.1,())) else bif gA a.2.1.1 (5:Int) then (bK a.1.2.2.2.1 a.2.1.2.1).bind λ_=>(aC a.1.2.2.2.1 (Int.toNat a.2.1.2.1)).bind λi=>(VP (i,())).bind λj=>(some (List.set a.1.2.2.2.1 (Int.toNat a.2.1.2.1) j.1)).bind λh=>some ((true,()),((a.1.1,(a.1.2.1,(a.1.2.2.1,(h,(a.1.2.2.2.2.1,(a.1.2.2.2.2.2.1,(a.1.2.2.2.2.2.2.1,()))))))),())) else some ((false,()),(a.1,()))) some m
def c63:zi:=⟨i63,o63,ZM⟩
def i26:=ZJ
def o26:Gs:=[Xz,MD]
def VQ.b0:(a:Vm)->Option (Sum Vm (Sum Vm (IY×w7))):=λa=>bif dO (0:Int) a.1 then (VL ((a.2.1,(a.2.2.1,(a.2.2.2.1,()))),((a.2.2.2.2.1,(a.2.2.2.2.2.1,(a.2.2.2.2.2.2.1,(a.2.2.2.2.2.2.2.1,(a.2.2.2.2.2.2.2.2.1,(a.2.2.2.2.2.2.2.2.2.1,(a.2.2.2.2.2.2.2.2.2.2.1,()))))))),()))).bind λb=>(ZM ((a.2.2.2.2.1,(a.2.2.2.2.2.1,(a.2.2.2.2.2.2.1,(b.2.2.1.2.2.2.1,(b.2.2.1.2.2.2.2.1,(b.2.2.1.2.2.2.2.2.1,(b.2.2.1.2.2.2.2.2.2.1,()))))))),(b.1,()))).bind λc=>some (.inl (gS .i64 a.1 (1:Int),(b.2.1.1,(b.2.1.2.1,(b.2.1.2.2.1,(c.2.1.1,(c.2.1.2.1,(c.2.1.2.2.1,(c.2.1.2.2.2.1,(c.2.1.2.2.2.2.1,(c.2.1.2.2.2.2.2.1,(c.2.1.2.2.2.2.2.2.1,())))))))))))) else some (.inr (.inl (a.1,(a.2.1,(a.2.2.1,(a.2.2.2.1,(a.2.2.2.2.1,(a.2.2.2.2.2.1,(a.2.2.2.2.2.2.1,(a.2.2.2.2.2.2.2.1,(a.2.2.2.2.2.2.2.2.1,(a.2.2.2.2.2.2.2.2.2.1,(a.2.2.2.2.2.2.2.2.2.2.1,())))))))))))))
def VQ:(HV×sF)->Option (IY×w7):=λh=>(VE (h.1,())).bind λc=>Option.bind (bif dO (3:Int) (List.length c.1.2.1:Int)then (Qn (c.2.1,(((2:Int),()),()))).bind λd=>bif d.1.1 then (I0 (d.2.1,(((4:Int),()),()))).bind λe=>(bK ([(⟨#[97]⟩,()),(⟨#[98]⟩,()),(⟨#[99]⟩,()),(⟨#[100]⟩,())]:List (D9)) e.1.1).bind λ_=>(aC ([(⟨#[97]⟩,()),(⟨#[98]⟩,()),(⟨#[99]⟩,()),(⟨#[100]⟩,())]:List (D9)) (Int.toNat e.1.1)).bind λk=>some (.inl (([k]:List (D9)),(e.2.1.1,(e.2.1.2.1,(e.2.1.2.2.1,()))))) else some (.inl (([]:List (D9)),(d.2.1.1,(d.2.1.2.1,(d.2.1.2.2.1,()))))) else some (.inl (([]:List (D9)),(c.2.1.1,(c.2.1.2.1,(c.2.1.2.2.1,())))))) λj=>Sum.elim (λf=>(Td (c.1,((f.1,()),()))).bind λb=>(I0 ((f.2.1,(f.2.2.1,(f.2.2.2.1,()))),(h.2.1,()))).bind λg=>(aR VQ.b0 (g.1.1,(g.2.1.1,(g.2.1.2.1,(g.2.1.2.2.1,(b.1.1,(b.1.2.1,(b.1.2.2.1,(b.1.2.2.2.1,(b.1.2.2.2.2.1,(b.1.2.2.2.2.2.1,(b.1.2.2.2.2.2.2.1,())))))))))))).bind λi=>Sum.elim (λa=>some ((a.2.2.2.2.1,(a.2.2.2.2.2.1,(a.2.2.2.2.2.2.1,(a.2.2.2.2.2.2.2.1,(a.2.2.2.2.2.2.2.2.1,(a.2.2.2.2.2.2.2.2.2.1,(a.2.2.2.2.2.2.2.2.2.2.1,()))))))),((a.2.1,(a.2.2.1,(a.2.2.2.1,()))),()))) some i) some j
def c26:zi:=⟨i26,o26,VQ⟩
def aF7:=Ll
def aF8:=Ll
def Kw.b0:(a:Eu)->Option OG:=λa=>bif dO a.1 (3000:Int)then bif dO (0:Int) (List.length a.2.2.2.2.2.2.2.1:Int)then (MV ((a.2.1,(a.2.2.1,(a.2.2.2.1,(a.2.2.2.2.1,(a.2.2.2.2.2.1,(a.2.2.2.2.2.2.1,(a.2.2.2.2.2.2.2.1,()))))))),(((6:Int),((0:Int),((0:Int),((0:Int),(⟨#[]⟩,(⟨#[]⟩,((0:Int),((0:Int),((0:Int),(⟨#[]⟩,((0:Int),([],((0:Int),((0:Int),(⟨#[]⟩,((0:Int),((0:Int),(⟨#[]⟩,((0:Int),((0:Int),([],((0:Int),([],([],())))))))))))))))))))))))),()))).bind λb=>some (.inl (cM .i64 a.1 (1:Int),(b.2.1.1,(b.2.1.2.1,(b.2.1.2.2.1,(b.2.1.2.2.2.1,(b.2.1.2.2.2.2.1,(b.2.1.2.2.2.2.2.1,(b.2.1.2.2.2.2.2.2.1,())))))))))else some (.inr (.inl (a.1,(a.2.1,(a.2.2.1,(a.2.2.2.1,(a.2.2.2.2.1,(a.2.2.2.2.2.1,(a.2.2.2.2.2.2.1,(a.2.2.2.2.2.2.2.1,()))))))))))else some (.inr (.inl (a.1,(a.2.1,(a.2.2.1,(a.2.2.2.1,(a.2.2.2.2.1,(a.2.2.2.2.2.1,(a.2.2.2.2.2.2.1,(a.2.2.2.2.2.2.2.1,()))))))))))
def Kw:sG->Option sG:=λa=>(aR Kw.b0 ((0:Int),(a.1.1,(a.1.2.1,(a.1.2.2.1,(a.1.2.2.2.1,(a.1.2.2.2.2.1,(a.1.2.2.2.2.2.1,(a.1.2.2.2.2.2.2.1,()))))))))).bind λc=>Sum.elim (λb=>some ((b.2.1,(b.2.2.1,(b.2.2.2.1,(b.2.2.2.2.1,(b.2.2.2.2.2.1,(b.2.2.2.2.2.2.1,(b.2.2.2.2.2.2.2.1,()))))))),())) some c
def aF9:zi:=⟨aF7,aF8,Kw⟩
def aG0:=Ll
def aG1:=Ll
def FX.b2(f:Eu)(e:Eu):(a:(Bool×ZH))->Option (Sum (Bool×ZH) (Sum (Bool×ZH) (Sum Eu (Sum Eu OG)))):=λa=>bif a.1 then (bK a.2.2.2.2.1 f.1).bind λ_=>(aC a.2.2.2.2.1 (Int.toNat f.1)).bind λh=>(bK a.2.2.2.2.1 e.1).bind λ_=>(aC a.2.2.2.2.1 (Int.toNat e.1)).bind λb=>(bK a.2.2.2.2.1 f.1).bind λ_=>(aC a.2.2.2.2.1 (Int.toNat f.1)).bind λl=>(aC a.2.2.2.2.1 (Int.toNat e.1)).bind λn=>(aC a.2.2.2.2.1 (Int.toNat e.1)).bind λm=>(aC a.2.2.2.2.1 (Int.toNat e.1)).bind λo=>(aC a.2.2.2.2.1 (Int.toNat e.1)).bind λj=>(Jq ((b.1,(b.2.1,(b.2.2.1,(b.2.2.2.1,(b.2.2.2.2.1,(b.2.2.2.2.2.1,(b.2.2.2.2.2.2.1,(b.2.2.2.2.2.2.2.1,(b.2.2.2.2.2.2.2.2.1,(b.2.2.2.2.2.2.2.2.2.1,(b.2.2.2.2.2.2.2.2.2.2.1,(b.2.2.2.2.2.2.2.2.2.2.2.1,(b.2.2.2.2.2.2.2.2.2.2.2.2.1,(b.2.2.2.2.2.2.2.2.2.2.2.2.2.1,(b.2.2.2.2.2.2.2.2.2.2.2.2.2.2.1,(n.2.2.2.2.2.2.2.2.2.2.2.2.2.2.2.1,(m.2.2.2.2.2.2.2.2.2.2.2.2.2.2.2.2.1,(o.2.2.2.2.2.2.2.2.2.2.2.2.2.2.2.2.2.1,(b.2.2.2.2.2.2.2.2.2.2.2.2.2.2.2.2.2.2.1,(j.2.2.2.2.2.2.2.2.2.2.2.2.2.2.2.2.2.2.2.1,())))))))))))))))))))),((h.2.1,()),((l.1,()),())))).bind λg=>Option.bind (bif g.2.1.1 then (QB ((a.2.1,(a.2.2.1,(a.2.2.2.1,(a.2.2.2.2.1,(a.2.2.2.2.2.1,(a.2.2.2.2.2.2.1,(a.2.2.2.2.2.2.2.1,()))))))),(g.1,()))).bind λd=>some (.inl (d.1.1,(d.1.2.1,(d.1.2.2.1,(d.1.2.2.2.1,(d.1.2.2.2.2.1,(d.1.2.2.2.2.2.1,(d.1.2.2.2.2.2.2.1,()))))))))else some (.inl (a.2.1,(a.2.2.1,(a.2.2.2.1,(a.2.2.2.2.1,(a.2.2.2.2.2.1,(a.2.2.2.2.2.2.1,(a.2.2.2.2.2.2.2.1,()))))))))) λk=>Sum.elim (λc=>(bK c.2.2.2.1 f.1).bind λ_=>(aC c.2.2.2.1 (Int.toNat f.1)).bind λi=>some (.inl (!gA i.2.1 h.2.1,(c.1,(c.2.1,(c.2.2.1,(c.2.2.2.1,(c.2.2.2.2.1,(c.2.2.2.2.2.1,(c.2.2.2.2.2.2.1,())))))))))) some k else some (.inr (.inl (a.1,(a.2.1,(a.2.2.1,(a.2.2.2.1,(a.2.2.2.2.1,(a.2.2.2.2.2.1,(a.2.2.2.2.2.2.1,(a.2.2.2.2.2.2.2.1,()))))))))))
def FX.b1(c:Eu):(a:Eu)->Option (Sum Eu (Sum Eu OG)):=λa=>bif dO a.1 (List.length a.2.2.2.2.1:Int)then (aR (FX.b2 c a) (!gA a.1 c.1,(a.2.1,(a.2.2.1,(a.2.2.2.1,(a.2.2.2.2.1,(a.2.2.2.2.2.1,(a.2.2.2.2.2.2.1,(a.2.2.2.2.2.2.2.1,()))))))))).bind λd=>Sum.elim (λb=>some (.inl (cM .i64 a.1 (1:Int),(b.2.1,(b.2.2.1,(b.2.2.2.1,(b.2.2.2.2.1,(b.2.2.2.2.2.1,(b.2.2.2.2.2.2.1,(b.2.2.2.2.2.2.2.1,())))))))))) some d else some (.inr (.inl (a.1,(a.2.1,(a.2.2.1,(a.2.2.2.1,(a.2.2.2.2.1,(a.2.2.2.2.2.1,(a.2.2.2.2.2.2.1,(a.2.2.2.2.2.2.2.1,()))))))))))
def FX.b0:(a:Eu)->Option OG:=λa=>bif dO a.1 (List.length a.2.2.2.2.1:Int)then(aR (FX.b1 a) ((0:Int),(a.2.1,(a.2.2.1,(a.2.2.2.1,(a.2.2.2.2.1,(a.2.2.2.2.2.1,(a.2.2.2.2.2.2.1,(a.2.2.2.2.2.2.2.1,()))))))))).bind λc=>Sum.elim (λb=>some (.inl (cM .i64 a.1 (1:Int),(b.2.1,(b.2.2.1,(b.2.2.2.1,(b.2.2.2.2.1,(b.2.2.2.2.2.1,(b.2.2.2.2.2.2.1,(b.2.2.2.2.2.2.2.1,())))))))))) some c else some (.inr (.inl (a.1,(a.2.1,(a.2.2.1,(a.2.2.2.1,(a.2.2.2.2.1,(a.2.2.2.2.2.1,(a.2.2.2.2.2.2.1,(a.2.2.2.2.2.2.2.1,()))))))))))
def FX:sG->Option sG:=λb=>(aR FX.b0 ((0:Int),(b.1.1,(b.1.2.1,(b.1.2.2.1,(b.1.2.2.2.1,(b.1.2.2.2.2.1,(b.1.2.2.2.2.2.1,(b.1.2.2.2.2.2.2.1,()))))))))).bind λc=>Sum.elim (λa=>some ((a.2.1,(a.2.2.1,(a.2.2.2.1,(a.2.2.2.2.1,(a.2.2.2.2.2.1,(a.2.2.2.2.2.2.1,(a.2.2.2.2.2.2.2.1,()))))))),())) some c
def aG2:zi:=⟨aG0,aG1,FX⟩
def aG3:=Ll
def aG4:=Ll
def GO.b0(b:sG):(a:(List (D3)×Kd))->Option (Sum (List (D3)×Kd) (Sum (List (D3)×Kd) sG)):=λa=>bif dO a.2.2.1 (List.length b.1.2.2.2.1:Int) then (bK b.1.2.2.2.1 a.2.2.1).bind λ_=>(aC b.1.2.2.2.1 (Int.toNat a.2.2.1)).bind λc=>bif dE (List.length a.1+List.length ([(c.2.2.2.2.2.2.1,())]:List (D3))) 8 then (bK b.1.2.2.2.1 a.2.2.1).bind λ_=>(aC b.1.2.2.2.1 (Int.toNat a.2.2.1)).bind λd=>bif dE (List.length a.2.1+List.length ([(d.2.1,())]:List (D3))) 8 then some (.inl (bV a.1 ([(c.2.2.2.2.2.2.1,())]:List (D3)),(bV a.2.1 ([(d.2.1,())]:List (D3)),(cM .i64 a.2.2.1 (1:Int),())))) else none else none else some (.inr (.inl (a.1,(a.2.1,(a.2.2.1,())))))
def GO.b1:(a:Eu)->Option OG:=λa=>bif dO a.1 (List.length a.2.2.2.2.1:Int)then(MW ((a.2.1,(a.2.2.1,(a.2.2.2.1,(a.2.2.2.2.1,(a.2.2.2.2.2.1,(a.2.2.2.2.2.2.1,(a.2.2.2.2.2.2.2.1,()))))))),((a.1,()),()))).bind λb=>some (.inl (cM .i64 a.1 (1:Int),(b.2.1.1,(b.2.1.2.1,(b.2.1.2.2.1,(b.2.1.2.2.2.1,(b.2.1.2.2.2.2.1,(b.2.1.2.2.2.2.2.1,(b.2.1.2.2.2.2.2.2.1,())))))))))else some (.inr (.inl (a.1,(a.2.1,(a.2.2.1,(a.2.2.2.1,(a.2.2.2.2.1,(a.2.2.2.2.2.1,(a.2.2.2.2.2.2.1,(a.2.2.2.2.2.2.2.1,()))))))))))
def GO.b2(c:(List (D3)×Kd)):(a:Eu)->Option OG:=λa=>bif dO a.1 (List.length a.2.2.2.2.1:Int)then (bK a.2.2.2.2.1 a.1).bind λ_=>(aC a.2.2.2.2.1 (Int.toNat a.1)).bind λg=>(bK c.1 a.1).bind λ_=>(aC c.1 (Int.toNat a.1)).bind λd=>bif gA g.2.2.2.2.2.2.1 d.1 then (bK a.2.2.2.2.1 a.1).bind λ_=>(aC a.2.2.2.2.1 (Int.toNat a.1)).bind λe=>(bK c.2.1 a.1).bind λ_=>(aC c.2.1 (Int.toNat a.1)).bind λf=>bif gA e.2.1 f.1 then (OU ((a.2.1,(a.2.2.1,(a.2.2.2.1,(a.2.2.2.2.1,(a.2.2.2.2.2.1,(a.2.2.2.2.2.2.1,(a.2.2.2.2.2.2.2.1,()))))))),((a.1,()),()))).bind λb=>some (.inl (cM .i64 a.1 (1:Int),(b.2.1.1,(b.2.1.2.1,(b.2.1.2.2.1,(b.2.1.2.2.2.1,(b.2.1.2.2.2.2.1,(b.2.1.2.2.2.2.2.1,(b.2.1.2.2.2.2.2.2.1,())))))))))else some (.inl (cM .i64 a.1 (1:Int),(a.2.1,(a.2.2.1,(a.2.2.2.1,(a.2.2.2.2.1,(a.2.2.2.2.2.1,(a.2.2.2.2.2.2.1,(a.2.2.2.2.2.2.2.1,())))))))))else some (.inl (cM .i64 a.1 (1:Int),(a.2.1,(a.2.2.1,(a.2.2.2.1,(a.2.2.2.2.1,(a.2.2.2.2.2.1,(a.2.2.2.2.2.2.1,(a.2.2.2.2.2.2.2.1,())))))))))else some (.inr (.inl (a.1,(a.2.1,(a.2.2.1,(a.2.2.2.1,(a.2.2.2.2.1,(a.2.2.2.2.2.1,(a.2.2.2.2.2.2.1,(a.2.2.2.2.2.2.2.1,()))))))))))
def GO:sG->Option sG:=λk=>(Kw (k.1,())).bind λi=>(FX (i.1,())).bind λa=>(aR (GO.b0 a) (([]:List (D3)),(([]:List (D3)),((0:Int),())))).bind λj=>Sum.elim (λl=>(aR GO.b1 ((0:Int),(a.1.1,(a.1.2.1,(a.1.2.2.1,(a.1.2.2.2.1,(a.1.2.2.2.2.1,(a.1.2.2.2.2.2.1,(a.1.2.2.2.2.2.2.1,()))))))))).bind λh=>Sum.elim (λd=>(Kw ((d.2.1,(d.2.2.1,(d.2.2.2.1,(d.2.2.2.2.1,(d.2.2.2.2.2.1,(d.2.2.2.2.2.2.1,(d.2.2.2.2.2.2.2.1,()))))))),())).bind λb=>(aR (GO.b2 l) ((0:Int),(b.1.1,(b.1.2.1,(b.1.2.2.1,(b.1.2.2.2.1,(b.1.2.2.2.2.1,(b.1.2.2.2.2.2.1,(b.1.2.2.2.2.2.2.1,()))))))))).bind λe=>Sum.elim (λc=>(Kw ((c.2.1,(c.2.2.1,(c.2.2.2.1,(c.2.2.2.2.1,(c.2.2.2.2.2.1,(c.2.2.2.2.2.2.1,(c.2.2.2.2.2.2.2.1,()))))))),())).bind λg=>(FX (g.1,())).bind λf=>some (f.1,())) some e) some h) some j
def aG5:zi:=⟨aG3,aG4,GO⟩
def i48:Gs:=[MD,Qj]
def o48:=o26
def VR.b0:(a:Eu)->Option (Sum Eu (Sum Eu (IY×w7))):=λa=>bif dO (0:Int) a.1 then (GO ((a.2.1,(a.2.2.1,(a.2.2.2.1,(a.2.2.2.2.1,(a.2.2.2.2.2.1,(a.2.2.2.2.2.2.1,(a.2.2.2.2.2.2.2.1,()))))))),())).bind λb=>some (.inl (gS .i64 a.1 (1:Int),(b.1.1,(b.1.2.1,(b.1.2.2.1,(b.1.2.2.2.1,(b.1.2.2.2.2.1,(b.1.2.2.2.2.2.1,(b.1.2.2.2.2.2.2.1,()))))))))) else some (.inr (.inl (a.1,(a.2.1,(a.2.2.1,(a.2.2.2.1,(a.2.2.2.2.1,(a.2.2.2.2.2.1,(a.2.2.2.2.2.2.1,(a.2.2.2.2.2.2.2.1,()))))))))))
def VR:(HV×EG)->Option (IY×w7):=λd=>(ZI (d.2.1,(((20:Int),()),()))).bind λe=>(VQ (d.1,(e.1,()))).bind λa=>(Kf (a.2.1,((([((6:Int),()),((3:Int),()),((9:Int),()),((0:Int),())]:List (D3)),()),()))).bind λc=>(aR VR.b0 (c.1.1,(a.1.1,(a.1.2.1,(a.1.2.2.1,(a.1.2.2.2.1,(a.1.2.2.2.2.1,(a.1.2.2.2.2.2.1,(a.1.2.2.2.2.2.2.1,()))))))))).bind λf=>Sum.elim (λb=>some ((b.2.1,(b.2.2.1,(b.2.2.2.1,(b.2.2.2.2.1,(b.2.2.2.2.2.1,(b.2.2.2.2.2.2.1,(b.2.2.2.2.2.2.2.1,()))))))),(c.2.1,()))) some f
def c48:zi:=⟨i48,o48,VR⟩
def i19:=i7
def o19:=o61
def ZN:EG->Option sG:=λa=>(VC (a.1,())).bind λb=>(VR (b.1,(a.1,()))).bind λc=>some (c.1,())
def c19:zi:=⟨i19,o19,ZN⟩
def i80:=XK
def o80:=o7
def JA:(ix×(ix×sF))->Option lf:=λa=>bif km a.2.1.1 a.1.1 then some ((km a.1.1 a.2.2.1.1,()),())else some ((false,()),())
def c80:zi:=⟨i80,o80,JA⟩
def i82:=HY
def o82:=o7
def NA.b0(b:Em):(a:ix)->Option Ev:=λa=>bif dO a.1 (ByteArray.size b.1.1:Int)then(bK (ByteArray.data b.1.1).toList a.1).bind λh=>bif km (97:Int) (UInt8.toNat h:Int)then (bK (ByteArray.data b.1.1).toList a.1).bind λg=>bif km (UInt8.toNat g:Int) (122:Int)then some (.inl (cM .i64 a.1 (1:Int),()))else (bK (ByteArray.data b.1.1).toList a.1).bind λe=>bif km (48:Int) (UInt8.toNat e:Int)then (bK (ByteArray.data b.1.1).toList a.1).bind λd=>bif (!(km (UInt8.toNat d:Int) (57:Int)))then some (.inr (.inr ((false,()),())))else some (.inl (cM .i64 a.1 (1:Int),()))else some (.inr (.inr ((false,()),())))else (bK (ByteArray.data b.1.1).toList a.1).bind λf=>bif km (48:Int) (UInt8.toNat f:Int)then (bK (ByteArray.data b.1.1).toList a.1).bind λc=>bif (!(km (UInt8.toNat c:Int) (57:Int)))then some (.inr (.inr ((false,()),())))else some (.inl (cM .i64 a.1 (1:Int),()))else some (.inr (.inr ((false,()),())))else some (.inr (.inl (a.1,())))
def NA:Em->Option lf:=λa=>(aR (NA.b0 a) ((0:Int),())).bind λc=>Sum.elim (λd=>(JA (((ByteArray.size a.1.1:Int),()),(((1:Int),()),(((8:Int),()),())))).bind λb=>some (b.1,())) some c
def c82:zi:=⟨i82,o82,NA⟩
def aG6:=IZ
def aG7:=o7
def Tu:sF->Option lf:=λb=>(JA (b.1,(((0:Int),()),(((1000000:Int),()),())))).bind λa=>some (a.1,())
def aG8:zi:=⟨aG6,aG7,Tu⟩
end
end Go.Proofs.YthjkikiepdnimaaGreat
