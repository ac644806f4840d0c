/- What the functions that the laws reach compute, as functions over plain data; each one's equation with the program is checked by the kernel. Conditions: none. -/
import Derived.Test.YthjkikiepdnimaaGreatFzTm3
import Derived.Test.YthjkikiepdnimaaGreatProg
set_option linter.unusedVariables false
set_option linter.unusedSimpArgs false
set_option linter.constructorNameAsVariable false
namespace Go.Proofs.YthjkikiepdnimaaGreat
open Go Go.Tm
set_option maxRecDepth 100000
noncomputable section
def e3:af:=(.cons (.int .i64) .nil)
abbrev D3:Type:=(Int×Unit)
def e5:af:=(.cons (.int .u8) .nil)
abbrev D5:Type:=(Int×Unit)
def e9:af:=(.cons .str .nil)
abbrev D9:Type:=(ByteArray×Unit)
def Ei:af:=(.cons (.int .i64) (.cons (.int .i64) .nil))
abbrev ek:Type:=(Int×(Int×Unit))
def c6:af:=(.cons .str (.cons (.int .i64) (.cons (.int .i64) (.cons (.int .i64) (.cons (.sl Ei) .nil)))))
abbrev bF:Type:=(ByteArray×(Int×(Int×(Int×(List ek×Unit)))))
def YR:af:=(.cons (.int .i64) (.cons (.sl c6) .nil))
abbrev IH:Type:=(Int×(List bF×Unit))
def s6:af:=(.cons .str (.cons (.int .i64) .nil))
abbrev df:Type:=(ByteArray×(Int×Unit))
def il:af:=(.cons (.int .i64) (.cons .str (.cons .str (.cons (.int .i64) (.cons (.int .i64) .nil)))))
abbrev cp:Type:=(Int×(ByteArray×(ByteArray×(Int×(Int×Unit)))))
def j3:af:=(.cons (.int .i64) (.cons (.int .i64) (.cons (.int .i64) (.cons .str (.cons (.int .i64) (.cons (.int .i64) (.cons (.sl e9) (.cons (.int .i64) (.cons (.sl e9) (.cons (.sl e3) (.cons (.sl il) (.cons .bool (.cons (.sl s6) (.cons .str .nil))))))))))))))
abbrev uf:Type:=(Int×(Int×(Int×(ByteArray×(Int×(Int×(List D9×(Int×(List D9×(List D3×(List cp×(Bool×(List df×(ByteArray×Unit))))))))))))))
def Hf:af:=(.cons (.int .i64) (.cons (.int .i64) (.cons .str .nil)))
abbrev sH:Type:=(Int×(Int×(ByteArray×Unit)))
def Gr:af:=(.cons (.int .i64) (.cons (.int .i64) (.cons .str .nil)))
abbrev ow:Type:=(Int×(Int×(ByteArray×Unit)))
def G2:af:=(.cons (.int .i64) (.cons (.sl j3) (.cons (.int .i64) (.cons (.int .i64) (.cons (.sl e9) .nil)))))
abbrev Mo:Type:=(Int×(List uf×(Int×(Int×(List D9×Unit)))))
def HH:af:=(.cons .str (.cons (.int .i64) (.cons (.int .i64) (.cons (.sl c6) (.cons (.sl s6) (.cons (.sl j3) (.cons (.int .i64) (.cons (.int .i64) (.cons (.int .i64) (.cons (.int .i64) (.cons (.sl e9) (.cons (.int .i64) (.cons (.sl e9) (.cons (.sl e3) (.cons (.int .i64) (.cons (.sl Hf) (.cons (.sl Gr) (.cons (.sl e3) (.cons (.sl il) (.cons (.sl G2) .nil))))))))))))))))))))
abbrev Gt:Type:=(ByteArray×(Int×(Int×(List bF×(List df×(List uf×(Int×(Int×(Int×(Int×(List D9×(Int×(List D9×(List D3×(Int×(List sH×(List ow×(List D3×(List cp×(List Mo×Unit))))))))))))))))))))
def FD:af:=(.cons (.int .i64) (.cons (.int .i64) (.cons (.int .i64) (.cons (.int .i64) (.cons .str .nil)))))
abbrev sb:Type:=(Int×(Int×(Int×(Int×(ByteArray×Unit)))))
def HI:af:=(.cons (.int .i64) (.cons .str (.cons (.int .i64) (.cons (.sl j3) (.cons (.int .i64) (.cons (.int .i64) (.cons .str (.cons (.int .i64) (.cons (.int .i64) (.cons .str (.cons (.int .i64) (.cons (.int .i64) (.cons (.sl e9) (.cons (.int .i64) (.cons (.sl e9) (.cons (.sl e3) .nil))))))))))))))))
abbrev By:Type:=(Int×(ByteArray×(Int×(List uf×(Int×(Int×(ByteArray×(Int×(Int×(ByteArray×(Int×(Int×(List D9×(Int×(List D9×(List D3×Unit))))))))))))))))
def Wu:af:=(.cons (.int .i64) (.cons (.sl c6) (.cons (.sl e9) (.cons (.sl HH) (.cons (.sl j3) (.cons (.sl FD) (.cons (.sl HI) .nil)))))))
abbrev IK:Type:=(Int×(List bF×(List D9×(List Gt×(List uf×(List sb×(List By×Unit)))))))
def WO:af:=(.cons (.int .i64) (.cons (.sl s6) .nil))
abbrev Sn:Type:=(Int×(List df×Unit))
def Zi:af:=(.cons (.int .i64) (.cons (.int .i64) (.cons (.sl e9) .nil)))
abbrev Wv:Type:=(Int×(Int×(List D9×Unit)))
def YS:af:=(.cons (.int .i64) (.cons (.sl e9) (.cons (.sl e3) .nil)))
abbrev Um:Type:=(Int×(List D9×(List D3×Unit)))
def UI:af:=(.cons (.sl e5) (.cons (.int .i64) (.cons (.int .i64) .nil)))
abbrev HJ:Type:=(List D5×(Int×(Int×Unit)))
def UJ:af:=(.cons (.int .i64) (.cons (.int .i64) (.cons (.int .i64) (.cons (.int .i64) (.cons .str (.cons .str (.cons (.int .i64) (.cons (.int .i64) (.cons (.int .i64) (.cons .str (.cons (.int .i64) (.cons (.sl j3) (.cons (.int .i64) (.cons (.int .i64) (.cons .str (.cons (.int .i64) (.cons (.int .i64) (.cons .str (.cons (.int .i64) (.cons (.int .i64) (.cons (.sl e9) (.cons (.int .i64) (.cons (.sl e9) (.cons (.sl e3) .nil))))))))))))))))))))))))
abbrev PS:Type:=(Int×(Int×(Int×(Int×(ByteArray×(ByteArray×(Int×(Int×(Int×(ByteArray×(Int×(List uf×(Int×(Int×(ByteArray×(Int×(Int×(ByteArray×(Int×(Int×(List D9×(Int×(List D9×(List D3×Unit))))))))))))))))))))))))
def m0:List Md:=[.sh,.sh,.sh,.sh,(.own [])]
def m1:List Md:=[.sh,.sh,.sh,.sh,.sh,.sh,(.own []),.sh,(.own []),(.own []),(.own []),.sh,(.own [])]
def m2:List Md:=[.sh,(.own m1),.sh,.sh,(.own [])]
def m3:List Md:=[.sh,.sh,.sh,(.own m0),(.own []),(.own m1),.sh,.sh,.sh,.sh,(.own []),.sh,(.own []),(.own []),.sh,(.own []),(.own []),(.own []),(.own []),(.own m2)]
def m4:List Md:=[.sh,.sh,.sh,.sh,.sh,.sh,.sh,.sh,.sh,.sh,.sh,.sh,.sh,.sh,.sh,(.own []),(.own []),(.own []),.sh,(.own m2)]
def m5:List Md:=[.sh,.sh,.sh,(.own m4),(.own []),(.own []),(.own [])]
def m6:List Md:=[.sh,(.own []),(.own [])]
def m7:List Md:=[.sh,.sh,.sh,(.own m1),.sh,.sh,.sh,.sh,.sh,.sh,.sh,.sh,(.own []),.sh,(.own []),(.own [])]
def m8:List Md:=[.sh,.sh,.sh,.sh,.sh,.sh,.sh,.sh,.sh,.sh,.sh,(.own m1),.sh,.sh,.sh,.sh,.sh,.sh,.sh,.sh,(.own []),.sh,(.own []),(.own [])]
abbrev YT:Type:=(Int×(List (bF)×(List (D9)×(List (Gt)×(List (uf)×(List (sb)×(List (By)×Unit)))))))
abbrev i9:Type:=(Int×Unit)
abbrev Ed:Type:=((ByteArray×Unit)×Unit)
abbrev JV:Type:=(List df×Unit)
abbrev rS:Type:=(i9×Unit)
abbrev Oj:Type:=(Int×(List (bF)×Unit))
abbrev Zj:Type:=(Int×(ByteArray×(Int×(Int×(List (bF)×(List (df)×(List (uf)×(Int×(Int×(Int×(Int×(List (D9)×(Int×(List (D9)×(List (D3)×(Int×(List (sH)×(List (ow)×(List (D3)×(List (cp)×(List (Mo)×Unit)))))))))))))))))))))
abbrev Gu:Type:=(List uf×Unit)
abbrev FH:Type:=((List D3×Unit)×Unit)
abbrev Et:Type:=((List D5×Unit)×Unit)
abbrev Gv:Type:=(List cp×Unit)
abbrev FI:Type:=((List bF×Unit)×Unit)
abbrev C7:Type:=(IK×Unit)
abbrev IL:Type:=(List sb×Unit)
abbrev Mp:Type:=(Int×(List (D9)×(List (D3)×Unit)))
abbrev u3:Type:=(Gt×Unit)
abbrev wc:Type:=(HJ×Unit)
abbrev Ej:Type:=(Int×YT)
abbrev th:Type:=(IH×Unit)
abbrev IM:Type:=(Bool×Unit)
abbrev la:Type:=(IM×Unit)
abbrev EO:Type:=(Sum i9 (Sum i9 la))
abbrev s7:Type:=(Int×i9)
abbrev JW:Type:=(Sum s7 (Sum s7 rS))
abbrev JX:Type:=(List (D3)×i9)
abbrev KR:Type:=(Sum i9 (Sum i9 rS))
abbrev Hg:Type:=(List (D5)×i9)
abbrev C8:Type:=(JV×Unit)
abbrev Ek:Type:=(By×Unit)
abbrev UK:Type:=(Int×(List (uf)×(Int×(List (bF)×(List (D3)×Unit)))))
abbrev Eu:Type:=(uf×Unit)
abbrev Ol:Type:=(Sum Ej (Sum Ej C7))
abbrev E1:Type:=(Wv×Unit)
abbrev JY:Type:=(List (uf)×i9)
abbrev Om:Type:=(Int×(List (D9)×Unit))
abbrev On:Type:=(Int×(List (D3)×Unit))
abbrev So:Type:=(List (D3)×(Int×(List (D5)×Unit)))
abbrev Fj:Type:=(Um×Unit)
abbrev Oo:Type:=(List By×Unit)
abbrev Hh:Type:=(Gv×Unit)
abbrev IN:Type:=(List D9×Unit)
abbrev Mq:Type:=(IN×Unit)
abbrev Hi:Type:=(Bool×i9)
abbrev UL:Type:=(JV×(((df->Option IM)×Unit)×Unit))
abbrev UM:Type:=((List D3×Unit)×((List D5×Unit)×FH))
abbrev IP:Type:=(Gu×Unit)
abbrev HK:Type:=(Gu×rS)
abbrev UN:Type:=(List (cp)×(Int×(List (D5)×s7)))
abbrev UO:Type:=(Int×(Int×(Int×(List (df)×Unit))))
abbrev UP:Type:=(JV×((List sH×Unit)×(i9×rS)))
abbrev Hj:Type:=(Int×Oj)
abbrev Oq:Type:=(List (df)×i9)
abbrev JZ:Type:=(IM×C7)
abbrev Sp:Type:=((List bF×Unit)×Ed)
abbrev KS:Type:=(bF×Unit)
abbrev IQ:Type:=(JV×Mq)
abbrev UQ:Type:=(Int×(List (D5)×(Int×Ej)))
abbrev UR:Type:=(JV×((List ow×Unit)×rS))
abbrev WQ:Type:=((List Mo×Unit)×(((Mo->Option IM)×Unit)×Unit))
abbrev Sq:Type:=(Oo×(IL×u3))
abbrev KT:Type:=(IL×Unit)
abbrev US:Type:=(Sum (List (sb)×i9) (Sum (List (sb)×i9) KT))
abbrev Mr:Type:=(cp×Unit)
abbrev Ms:Type:=(HJ×C7)
abbrev UT:Type:=(Sum JX (Sum JX FH))
abbrev UU:Type:=(Int×(List (cp)×Unit))
abbrev Sr:Type:=(List (uf)×Unit)
abbrev UW:Type:=(Int×(List (By)×Unit))
abbrev UX:Type:=(Int×(List (Mo)×Unit))
abbrev UY:Type:=(Int×(List (Gt)×Unit))
abbrev UZ:Type:=(Int×(List (sb)×Unit))
abbrev Gs:=List bX
def PT:bX:=⟨.c,(.cons .bool .nil),[]⟩
def El:bX:=⟨.c,(.cons (.int .i64) .nil),[]⟩
def Ml:bX:=⟨.io,UI,[]⟩
def PK:bX:=⟨.c,(.cons .str .nil),[]⟩
def PU:bX:=⟨.c,(.cons (.sl s6) .nil),[]⟩
def Ot:bX:=⟨.agg,YR,[]⟩
def PL:bX:=⟨.io,HH,m4⟩
def Un:bX:=⟨.io,Wu,m5⟩
def Uo:bX:=⟨.c,(.cons (.sl e9) .nil),[]⟩
def Ss:bX:=⟨.c,(.cons (.sl j3) .nil),[]⟩
def IS:bX:=⟨.agg,Zi,[]⟩
def Ou:bX:=⟨.agg,j3,[]⟩
def PV:bX:=⟨.c,(.cons (.sl e5) .nil),[]⟩
def Mt:bX:=⟨.agg,YS,[]⟩
def KU:bX:=⟨.agg,il,[]⟩
def PX:bX:=⟨.agg,HI,[]⟩
def PY:bX:=⟨.c,(.cons (.sl FD) .nil),[(.own [])]⟩
def WS:bX:=⟨.c,(.cons (.sl c6) .nil),[]⟩
def Mu:bX:=⟨.c,(.cons (.sl il) .nil),[]⟩
def WT:bX:=⟨.c,(.cons (.sl s6) .nil),[(.own [])]⟩
def PZ:bX:=⟨.agg,HH,[]⟩
def St:bX:=⟨.c,(.cons (.sl e3) .nil),[]⟩
def Zk:bX:=⟨.agg,c6,[]⟩
def WU:bX:=⟨.agg,Wu,m5⟩
def Su:bX:=⟨.c,(.cons (.sl il) .nil),[(.own [])]⟩
def Zl:bX:=⟨.c,(.cons (.sl e3) .nil),[(.own [])]⟩
def U0:bX:=⟨.wa,Wu,m5⟩
def WV:bX:=⟨.c,(.cons (.sl HI) .nil),[(.own m7)]⟩
def U1:bX:=⟨.agg,Hf,[]⟩
def U2:bX:=⟨.agg,WO,[.sh,(.own [])]⟩
def U3:bX:=⟨.agg,G2,[]⟩
def Zm:bX:=⟨.agg,YR,[.sh,(.own [])]⟩
def Zn:bX:=⟨.c,(.cons (.sl e5) .nil),[(.own [])]⟩
def U4:bX:=⟨.agg,HI,m7⟩
def U5:bX:=⟨.c,(.cons (.sl j3) .nil),[(.own [])]⟩
def WW:bX:=⟨.agg,FD,[]⟩
def U6:bX:=⟨.c,(.cons (.sl FD) .nil),[]⟩
def WX:bX:=⟨.agg,YR,[.sh,(.own m0)]⟩
def WY:bX:=⟨.agg,Zi,[.sh,.sh,(.own [])]⟩
def Zo:bX:=⟨.c,(.cons (.sl j3) .nil),[(.own m1)]⟩
def Zp:bX:=⟨.c,(.cons (.sl c6) .nil),[(.own [])]⟩
def WZ:bX:=⟨.c,(.cons (.sl HI) .nil),[]⟩
def Zq:bX:=⟨.c,(.cons (.fn [3] (.cons .str (.cons (.int .i64) .nil)) (.cons .bool .nil)) .nil),[]⟩
def Zr:List (Nat×TI):=[(3,⟨1,8,.int .i64,[(.int .i64 (0:Int))],[],[],none⟩),(4,⟨1,1,.bool,[(.bool false)],[],[],none⟩),(5,⟨1,1,.int .u8,[(.int .u8 (0:Int))],[],[],none⟩),(9,⟨1,16,.str,[(.str ⟨#[]⟩)],[],[],none⟩),(22,⟨1,24,.slice 5,[.cg],[],[],none⟩),(24,⟨1,24,.slice 120,[.cg],[],[],none⟩),(26,⟨2,32,.struct,[(.int .i64 (0:Int)),.cg],[(0,1),(1,1)],[false,false],none⟩),(27,⟨1,24,.slice 9,[.cg],[],[],none⟩),(28,⟨1,24,.slice 55,[.cg],[],[],none⟩),(29,⟨1,24,.slice 71,[.cg],[],[],none⟩),(30,⟨1,24,.slice 39,[.cg],[],[],none⟩),(31,⟨1,24,.slice 86,[.cg],[],[],none⟩),(33,⟨7,152,.struct,[(.int .i64 (0:Int)),.cg,.cg,.cg,.cg,.cg,.cg],[(0,2),(2,1),(3,1),(4,1),(5,1),(6,1)],[true,false,false,false,false,false],none⟩),(39,⟨5,48,.struct,[(.int .i64 (0:Int)),(.int .i64 (0:Int)),(.int .i64 (0:Int)),(.int .i64 (0:Int)),(.str ⟨#[]⟩)],[(0,1),(1,1),(2,1),(3,1),(4,1)],[false,false,false,false,false],(some [.int .i64,.int .i64,.int .i64,.int .i64,.str])⟩),(40,⟨1,24,.slice 97,[.cg],[],[],none⟩),(42,⟨2,32,.struct,[(.int .i64 (0:Int)),.cg],[(0,1),(1,1)],[false,false],none⟩),(46,⟨3,40,.struct,[(.int .i64 (0:Int)),(.int .i64 (0:Int)),.cg],[(0,1),(1,1),(2,1)],[false,false,false],none⟩),(47,⟨1,24,.slice 3,[.cg],[],[],none⟩),(49,⟨3,56,.struct,[(.int .i64 (0:Int)),.cg,.cg],[(0,1),(1,1),(2,1)],[false,false,false],none⟩),(50,⟨1,24,.slice 82,[.cg],[],[],none⟩),(51,⟨1,24,.slice 84,[.cg],[],[],none⟩),(52,⟨1,24,.slice 110,[.cg],[],[],none⟩),(53,⟨1,24,.slice 59,[.cg],[],[],none⟩),(55,⟨20,344,.struct,[(.str ⟨#[]⟩),(.int .i64 (0:Int)),(.int .i64 (0:Int)),.cg,.cg,.cg,(.int .i64 (0:Int)),(.int .i64 (0:Int)),(.int .i64 (0:Int)),(.int .i64 (0:Int)),.cg,(.int .i64 (0:Int)),.cg,.cg,(.int .i64 (0:Int)),.cg,.cg,.cg,.cg,.cg],[(0,1),(1,1),(2,2),(4,1),(5,1),(6,1),(7,1),(8,3),(11,3),(14,1),(15,1),(16,1),(17,1),(18,1),(19,1)],[false,false,true,false,false,false,false,true,true,false,false,false,false,false,false],none⟩),(59,⟨5,72,.struct,[(.int .i64 (0:Int)),.cg,(.int .i64 (0:Int)),(.int .i64 (0:Int)),.cg],[(0,1),(1,1),(2,3)],[false,false,true],none⟩),(71,⟨14,208,.struct,[(.int .i64 (0:Int)),(.int .i64 (0:Int)),(.int .i64 (0:Int)),(.str ⟨#[]⟩),(.int .i64 (0:Int)),(.int .i64 (0:Int)),.cg,(.int .i64 (0:Int)),.cg,.cg,.cg,(.bool false),.cg,(.str ⟨#[]⟩)],[(0,1),(1,1),(2,1),(3,1),(4,3),(7,3),(10,1),(11,1),(12,1),(13,1)],[false,false,false,false,true,true,false,false,false,false],none⟩),(82,⟨3,32,.struct,[(.int .i64 (0:Int)),(.int .i64 (0:Int)),(.str ⟨#[]⟩)],[(0,1),(1,1),(2,1)],[false,false,false],(some [.int .i64,.int .i64,.str])⟩),(84,⟨3,32,.struct,[(.int .i64 (0:Int)),(.int .i64 (0:Int)),(.str ⟨#[]⟩)],[(0,1),(1,1),(2,1)],[false,false,false],(some [.int .i64,.int .i64,.str])⟩),(86,⟨16,216,.struct,[(.int .i64 (0:Int)),(.str ⟨#[]⟩),(.int .i64 (0:Int)),.cg,(.int .i64 (0:Int)),(.int .i64 (0:Int)),(.str ⟨#[]⟩),(.int .i64 (0:Int)),(.int .i64 (0:Int)),(.str ⟨#[]⟩),(.int .i64 (0:Int)),(.int .i64 (0:Int)),.cg,(.int .i64 (0:Int)),.cg,.cg],[(0,1),(1,1),(2,1),(3,1),(4,3),(7,3),(10,3),(13,3)],[false,false,false,false,true,true,true,true],none⟩),(97,⟨2,24,.struct,[(.str ⟨#[]⟩),(.int .i64 (0:Int))],[(0,1),(1,1)],[false,false],(some [.str,.int .i64])⟩),(104,⟨3,40,.struct,[.cg,(.int .i64 (0:Int)),(.int .i64 (0:Int))],[(0,1),(1,1),(2,1)],[false,false,false],none⟩),(110,⟨5,56,.struct,[(.int .i64 (0:Int)),(.str ⟨#[]⟩),(.str ⟨#[]⟩),(.int .i64 (0:Int)),(.int .i64 (0:Int))],[(0,1),(1,1),(2,1),(3,1),(4,1)],[false,false,false,false,false],(some [.int .i64,.str,.str,.int .i64,.int .i64])⟩),(112,⟨24,296,.struct,[(.int .i64 (0:Int)),(.int .i64 (0:Int)),(.int .i64 (0:Int)),(.int .i64 (0:Int)),(.str ⟨#[]⟩),(.str ⟨#[]⟩),(.int .i64 (0:Int)),(.int .i64 (0:Int)),(.int .i64 (0:Int)),(.str ⟨#[]⟩),(.int .i64 (0:Int)),.cg,(.int .i64 (0:Int)),(.int .i64 (0:Int)),(.str ⟨#[]⟩),(.int .i64 (0:Int)),(.int .i64 (0:Int)),(.str ⟨#[]⟩),(.int .i64 (0:Int)),(.int .i64 (0:Int)),.cg,(.int .i64 (0:Int)),.cg,.cg],[(0,1),(1,1),(2,1),(3,5),(8,16)],[false,false,false,true,true],none⟩),(118,⟨1,24,.slice 145,[.cg],[],[],none⟩),(120,⟨5,64,.struct,[(.str ⟨#[]⟩),(.int .i64 (0:Int)),(.int .i64 (0:Int)),(.int .i64 (0:Int)),.cg],[(0,1),(1,1),(2,1),(3,1),(4,1)],[false,false,false,false,false],none⟩),(145,⟨2,16,.struct,[(.int .i64 (0:Int)),(.int .i64 (0:Int))],[(0,1),(1,1)],[false,false],(some [.int .i64,.int .i64])⟩),(179,⟨1,8,.int .u64,[(.int .u64 (0:Int))],[],[],none⟩)]
theorem W0:Zr.map (λp=>fL Tryz.prog p.1)=Zr.map (λp=>some p.2):=by kernel_rfl
def TT:Nat->Option TI:=wj Zr
def EE:Nat->af:=λn=>(bif Nat.ble n 55 then(bif Nat.ble n 33 then(bif Nat.ble n 5 then(bif Nat.ble n 3 then(bif Nat.beq n 3 then e3 else .nil)else(bif Nat.beq n 5 then e5 else .nil))else(bif Nat.ble n 9 then(bif Nat.beq n 9 then e9 else .nil)else(bif Nat.ble n 26 then(bif Nat.beq n 26 then YR else .nil)else(bif Nat.beq n 33 then Wu else .nil))))else(bif Nat.ble n 42 then(bif Nat.ble n 39 then(bif Nat.beq n 39 then FD else .nil)else(bif Nat.beq n 42 then WO else .nil))else(bif Nat.ble n 46 then(bif Nat.beq n 46 then Zi else .nil)else(bif Nat.ble n 49 then(bif Nat.beq n 49 then YS else .nil)else(bif Nat.beq n 55 then HH else .nil)))))else(bif Nat.ble n 86 then(bif Nat.ble n 71 then(bif Nat.ble n 59 then(bif Nat.beq n 59 then G2 else .nil)else(bif Nat.beq n 71 then j3 else .nil))else(bif Nat.ble n 82 then(bif Nat.beq n 82 then Hf else .nil)else(bif Nat.ble n 84 then(bif Nat.beq n 84 then Gr else .nil)else(bif Nat.beq n 86 then HI else .nil))))else(bif Nat.ble n 110 then(bif Nat.ble n 97 then(bif Nat.beq n 97 then s6 else .nil)else(bif Nat.ble n 104 then(bif Nat.beq n 104 then UI else .nil)else(bif Nat.beq n 110 then il else .nil)))else(bif Nat.ble n 112 then(bif Nat.beq n 112 then UJ else .nil)else(bif Nat.ble n 120 then(bif Nat.beq n 120 then c6 else .nil)else(bif Nat.beq n 145 then Ei else .nil))))))
def lk{a:Type _}:List (Nat×a)->Nat->Option a|[],_=>none|(k,v)::r,n=>bif Nat.beq n k then some v else lk r n
def li(a:Nat):Nat->List Nat|0=>[]|n+1=>a::li (a+1) n
def at2(l:List (Nat×List (Nat×List Md)))(r i:Nat):List Md:=match lk l r with|none=>[]|some z=>match lk z i with|none=>[]|some m=>m
def cx(e:Nat)(b:List (Nat×zi))(a:List (Nat×List (Nat×List Md)))(d c:List (Nat×jP)):Ctx:=⟨e,TT,EE,lk b,at2 a,lk d,lk c⟩
def i7:Gs:=[PV]
def o7:Gs:=[PT]
def F7:Et->Option la:=λa=>some ((dO (1048576:Int) (List.length a.1.1:Int),()),())
def c7:zi:=⟨i7,o7,F7⟩
def i25:=i7
def o25:Gs:=[⟨.np,UI,[]⟩]
def U7.b0(b:Et):(a:s7)->Option (Sum s7 (Sum s7 wc)):=λa=>bif dO a.2.1 (List.length b.1.1:Int)then bif dO a.2.1 (4000:Int)then (bK b.1.1 a.2.1).bind λc=>some (.inl (sS .i64 (cM .i64 (cM .i64 (zJ .i64 a.1 (137:Int)) (IntKind.wrap .i64 c.1)) (11:Int)) (1073741823:Int),(cM .i64 a.2.1 (1:Int),())))else some (.inr (.inl (a.1,(a.2.1,()))))else some (.inr (.inl (a.1,(a.2.1,()))))
def U7:Et->Option wc:=λa=>(aR (U7.b0 a) (cM .i64 (366366:Int) (List.length a.1.1:Int),((0:Int),()))).bind λb=>Sum.elim (λc=>some ((a.1.1,((0:Int),(c.1,()))),())) some b
def c25:zi:=⟨i25,o25,U7⟩
def i27:Gs:=[PV,El]
def II:Gs:=[El]
def YU:((List D5×Unit)×rS)->Option rS:=λa=>bif gA (12:Int) 0 then none else bif dO a.2.1.1 (cM .i64 (3:Int) (AV .i64 (List.length a.1.1:Int) (12:Int)))then some (a.2.1,())else some ((cM .i64 (3:Int) (AV .i64 (List.length a.1.1:Int) (12:Int)),()),())
def c27:zi:=⟨i27,II,YU⟩
def Sv:Gs:=[Ml]
def U8:Gs:=[El,Ml]
def Mw:wc->Option (i9×wc):=λa=>bif dO (33:Int) 0 then none else bif dO (47:Int) 0 then none else Option.bind (bif dO a.1.2.1 (List.length a.1.1:Int)then (bK a.1.1 a.1.2.1).bind λc=>some (.inl (sS .i64 (cM .i64 (sS .i64 (qC .i64 (zL .i64 (cM .i64 (zJ .i64 a.1.2.2.1 (6364136223846793005:Int)) (1442695040888963407:Int)) (33:Int)) (zL .i64 (cM .i64 (zJ .i64 a.1.2.2.1 (6364136223846793005:Int)) (1442695040888963407:Int)) (47:Int))) (255:Int)) (IntKind.wrap .i64 c.1)) (255:Int),(cM .i64 a.1.2.1 (1:Int),())))else some (.inl (sS .i64 (qC .i64 (zL .i64 (cM .i64 (zJ .i64 a.1.2.2.1 (6364136223846793005:Int)) (1442695040888963407:Int)) (33:Int)) (zL .i64 (cM .i64 (zJ .i64 a.1.2.2.1 (6364136223846793005:Int)) (1442695040888963407:Int)) (47:Int))) (255:Int),(a.1.2.1,())))) λd=>Sum.elim (λb=>some ((b.1,()),((a.1.1,(b.2.1,(cM .i64 (zJ .i64 a.1.2.2.1 (6364136223846793005:Int)) (1442695040888963407:Int),()))),()))) some d
def Zs:zi:=⟨Sv,U8,Mw⟩
def YV:Gs:=[Ml,El]
def o60:=U8
def IJ:(HJ×rS)->Option (i9×wc):=λa=>bif km a.2.1.1 (0:Int)then some (((0:Int),()),(a.1,()))else bif km a.2.1.1 (256:Int)then (Mw (a.1,())).bind λd=>bif gA a.2.1.1 0 then none else some ((ph d.1.1 a.2.1.1,()),(d.2.1,()))else (Mw (a.1,())).bind λc=>(Mw (c.2.1,())).bind λe=>(Mw (e.2.1,())).bind λb=>bif gA a.2.1.1 0 then none else some ((ph (cM .i64 (cM .i64 (zJ .i64 c.1.1 (65536:Int)) (zJ .i64 e.1.1 (256:Int))) b.1.1) a.2.1.1,()),(b.2.1,()))
def c60:zi:=⟨YV,o60,IJ⟩
def Zt:Gs:=[Ml,St]
def Zu:=U8
def J0:(HJ×FH)->Option (i9×wc):=λa=>(IJ (a.1,(((List.length a.2.1.1:Int),()),()))).bind λb=>(bK a.2.1.1 b.1.1).bind λc=>some (c,(b.2.1,()))
def Zv:zi:=⟨Zt,Zu,J0⟩
def i59:=YV
def o59:Gs:=[PT,Ml]
def P0:(HJ×rS)->Option (IM×wc):=λa=>(IJ (a.1,(a.2.1,()))).bind λb=>some ((gA b.1.1 (0:Int),()),(b.2.1,()))
def c59:zi:=⟨i59,o59,P0⟩
def i58:=Sv
def o58:Gs:=[WX,Ml]
def U9.b0(d:(i9×wc)):(a:(Int×(List (D5)×Hj)))->Option (Sum (Int×(List (D5)×Hj)) (Sum (Int×(List (D5)×Hj)) (IH×wc))):=λa=>bif dO a.1 d.1.1 then (bK ([(⟨#[97]⟩,()),(⟨#[98]⟩,()),(⟨#[99]⟩,()),(⟨#[100]⟩,())]:List (D9)) a.1).bind λ_=>(aC ([(⟨#[97]⟩,()),(⟨#[98]⟩,()),(⟨#[99]⟩,()),(⟨#[100]⟩,())]:List (D9)) (Int.toNat a.1)).bind λc=>(J0 ((a.2.1,(a.2.2.1,(a.2.2.2.1,()))),((([((3:Int),()),((20:Int),())]:List (D3)),()),()))).bind λb=>bif dE (List.length a.2.2.2.2.1+List.length ([(c.1,(b.1.1,((0:Int),((10:Int),([],())))))]:List (bF))) 64 then some (.inl (cM .i64 a.1 (1:Int),(b.2.1.1,(b.2.1.2.1,(b.2.1.2.2.1,(bV a.2.2.2.2.1 ([(c.1,(b.1.1,((0:Int),((10:Int),([],())))))]:List (bF)),())))))) else none else some (.inr (.inl (a.1,(a.2.1,(a.2.2.1,(a.2.2.2.1,(a.2.2.2.2.1,())))))))
def U9:wc->Option (IH×wc):=λe=>(J0 (e.1,((([((4:Int),()),((4:Int),()),((4:Int),()),((3:Int),()),((2:Int),()),((1:Int),())]:List (D3)),()),()))).bind λc=>(aR (U9.b0 c) ((0:Int),(c.2.1.1,(c.2.1.2.1,(c.2.1.2.2.1,([],())))))).bind λf=>Sum.elim (λb=>Option.bind ((P0 ((b.2.1,(b.2.2.1,(b.2.2.2.1,()))),(((3:Int),()),()))).bind λa=>bif a.1.1 then bif dE (List.length b.2.2.2.2.1+List.length ([(⟨#[101]⟩,((7:Int),((0:Int),((0:Int),([],())))))]:List (bF))) 64 then some (.inl (a.2.1.1,(a.2.1.2.1,(a.2.1.2.2.1,(bV b.2.2.2.2.1 ([(⟨#[101]⟩,((7:Int),((0:Int),((0:Int),([],())))))]:List (bF)),())))))else none else some (.inl (a.2.1.1,(a.2.1.2.1,(a.2.1.2.2.1,(b.2.2.2.2.1,())))))) λg=>Sum.elim (λd=>some (((0:Int),(d.2.2.2.1,())),((d.1,(d.2.1,(d.2.2.1,()))),()))) some g) some f
def c58:zi:=⟨i58,o58,U9⟩
def W2:Gs:=[El,El,El]
def Zw:=o7
def k0:(i9×(i9×rS))->Option la:=λa=>bif km a.2.1.1 a.1.1 then some ((km a.1.1 a.2.2.1.1,()),())else some ((false,()),())
def Zx:zi:=⟨W2,Zw,k0⟩
def HL:Gs:=[PK]
def Zy:=o7
def Em.b0(b:Ed):(a:i9)->Option EO:=λa=>bif dO a.1 (ByteArray.size b.1.1:Int)then(bK (ByteArray.data b.1.1).toList a.1).bind λf=>(k0 ((IntKind.wrap .i64 (UInt8.toNat f:Int),()),(((97:Int),()),(((122:Int),()),())))).bind λd=>bif (!d.1.1)then (bK (ByteArray.data b.1.1).toList a.1).bind λe=>(k0 ((IntKind.wrap .i64 (UInt8.toNat e:Int),()),(((48:Int),()),(((57:Int),()),())))).bind λc=>bif (!c.1.1)then some (.inr (.inr ((false,()),())))else some (.inl (cM .i64 a.1 (1:Int),()))else some (.inl (cM .i64 a.1 (1:Int),()))else some (.inr (.inl (a.1,())))
def Em:Ed->Option la:=λa=>(aR (Em.b0 a) ((0:Int),())).bind λb=>Sum.elim (λd=>(k0 (((ByteArray.size a.1.1:Int),()),(((1:Int),()),(((8:Int),()),())))).bind λc=>some (c.1,())) some b
def Zz:zi:=⟨HL,Zy,Em⟩
def Sw:Gs:=[Zk]
def ZA:=o7
def J1.b0(b:KS):(a:i9)->Option EO:=λa=>bif dO a.1 (List.length b.1.2.2.2.2.1:Int)then(bK b.1.2.2.2.2.1 a.1).bind λc=>(k0 ((c.1,()),(((1:Int),()),(((1000000:Int),()),())))).bind λd=>bif (!d.1.1)then some (.inr (.inr ((false,()),())))else (k0 ((c.2.1,()),(((0:Int),()),(((1000:Int),()),())))).bind λe=>bif (!e.1.1)then some (.inr (.inr ((false,()),())))else bif dO (0:Int) a.1 then (bK b.1.2.2.2.2.1 (gS .i64 a.1 (1:Int))).bind λf=>bif km c.2.1 f.2.1 then some (.inr (.inr ((false,()),()))) else some (.inl (cM .i64 a.1 (1:Int),())) else some (.inl (cM .i64 a.1 (1:Int),())) else some (.inr (.inl (a.1,())))
def J1:KS->Option la:=λa=>(Em ((a.1.1,()),())).bind λe=>bif (!e.1.1)then some ((false,()),())else (k0 ((a.1.2.1,()),(((0:Int),()),(((1000000:Int),()),())))).bind λd=>bif (!d.1.1)then some ((false,()),())else (k0 ((a.1.2.2.1,()),(((0:Int),()),(((10000:Int),()),())))).bind λf=>bif (!f.1.1)then some ((false,()),())else (k0 ((a.1.2.2.2.1,()),(((0:Int),()),(((1000000:Int),()),())))).bind λc=>bif (!c.1.1)then some ((false,()),())else bif dO (4:Int) (List.length a.1.2.2.2.2.1:Int)then some ((false,()),())else (aR (J1.b0 a) ((0:Int),())).bind λb=>Sum.elim (λg=>some ((true,()),())) some b
def ZB:zi:=⟨Sw,ZA,J1⟩
def ZC:=Sw
def ZD:=II
def IT.b0(b:KS):(a:s7)->Option JW:=λa=>bif dO a.2.1 (List.length b.1.2.2.2.2.1:Int)then(bK b.1.2.2.2.2.1 a.2.1).bind λc=>some (.inl (cM .i64 a.1 c.1,(cM .i64 a.2.1 (1:Int),())))else some (.inr (.inl (a.1,(a.2.1,()))))
def IT:KS->Option rS:=λa=>(aR (IT.b0 a) (cM .i64 a.1.2.1 a.1.2.2.2.1,((0:Int),()))).bind λb=>Sum.elim (λc=>some ((c.1,()),())) some b
def ZE:zi:=⟨ZC,ZD,IT⟩
def Ov:Gs:=[WS]
def ZF:=II
def J2.b0(b:FI):(a:s7)->Option JW:=λa=>bif dO a.2.1 (List.length b.1.1:Int)then(bK b.1.1 a.2.1).bind λc=>(IT (c,())).bind λd=>some (.inl (cM .i64 a.1 d.1.1,(cM .i64 a.2.1 (1:Int),())))else some (.inr (.inl (a.1,(a.2.1,()))))
def J2:FI->Option rS:=λa=>(aR (J2.b0 a) ((0:Int),((0:Int),()))).bind λb=>Sum.elim (λc=>some ((c.1,()),())) some b
def ZG:zi:=⟨Ov,ZF,J2⟩
def ZH:=Ov
def ZI:=o7
def J3.b0(b:FI):(a:i9)->Option EO:=λa=>bif dO a.1 (List.length b.1.1:Int)then(bK b.1.1 a.1).bind λd=>(J1 (d,())).bind λe=>bif (!e.1.1)then some (.inr (.inr ((false,()),())))else bif dO (0:Int) a.1 then (bK b.1.1 (gS .i64 a.1 (1:Int))).bind λf=>(bK b.1.1 a.1).bind λc=>bif !ob f.1 c.1 then some (.inr (.inr ((false,()),()))) else some (.inl (cM .i64 a.1 (1:Int),())) else some (.inl (cM .i64 a.1 (1:Int),())) else some (.inr (.inl (a.1,())))
def J3:FI->Option la:=λa=>(aR (J3.b0 a) ((0:Int),())).bind λb=>Sum.elim (λd=>bif km (List.length a.1.1:Int) (12:Int)then (J2 (a.1,())).bind λc=>some ((km c.1.1 (1000000:Int),()),())else some ((false,()),())) some b
def ZJ:zi:=⟨ZH,ZI,J3⟩
def P1:Gs:=[Ot]
def o68:=o7
def Sf:th->Option la:=λa=>(k0 ((a.1.1,()),(((0:Int),()),(((900:Int),()),())))).bind λc=>bif c.1.1 then (J3 ((a.1.2.1,()),())).bind λb=>some (b.1,())else some ((false,()),())
def c68:zi:=⟨P1,o68,Sf⟩
def YW:Gs:=[Uo]
def o70:=o7
def Nk.b0(b:Mq):(a:i9)->Option EO:=λa=>bif dO a.1 (List.length b.1.1:Int)then(bK b.1.1 a.1).bind λd=>(Em (d,())).bind λe=>bif (!e.1.1)then some (.inr (.inr ((false,()),())))else bif dO (0:Int) a.1 then (bK b.1.1 (gS .i64 a.1 (1:Int))).bind λf=>(bK b.1.1 a.1).bind λc=>bif !ob f.1 c.1 then some (.inr (.inr ((false,()),()))) else some (.inl (cM .i64 a.1 (1:Int),())) else some (.inl (cM .i64 a.1 (1:Int),())) else some (.inr (.inl (a.1,())))
def Nk:Mq->Option la:=λa=>(aR (Nk.b0 a) ((0:Int),())).bind λb=>Sum.elim (λc=>some ((km (List.length a.1.1:Int) (20:Int),()),())) some b
def c70:zi:=⟨YW,o70,Nk⟩
def W3:=Ov
def Sx:Gs:=[⟨.c,(.cons (.sl c6) .nil),[(.own m0)]⟩]
def FJ.b0(c:FI):(b:(List (bF)×i9))->Option (Sum (List (bF)×i9) (Sum (List (bF)×i9) FI)):=λb=>bif dO b.2.1 (List.length c.1.1:Int) then (bK c.1.1 b.2.1).bind λa=>bif dE (List.length ([]:List (ek))+List.length a.2.2.2.2.1) 16 then bif dE (List.length b.1+List.length ([(a.1,(a.2.1,(a.2.2.1,(a.2.2.2.1,(bV ([]:List (ek)) a.2.2.2.2.1,())))))]:List (bF))) 64 then some (.inl (bV b.1 ([(a.1,(a.2.1,(a.2.2.1,(a.2.2.2.1,(bV ([]:List (ek)) a.2.2.2.2.1,())))))]:List (bF)),(cM .i64 b.2.1 (1:Int),()))) else none else none else some (.inr (.inl (b.1,(b.2.1,()))))
def FJ:FI->Option FI:=λa=>(aR (FJ.b0 a) (([]:List (bF)),((0:Int),()))).bind λb=>Sum.elim (λc=>some ((c.1,()),())) some b
def ZK:zi:=⟨W3,Sx,FJ⟩
def W4:=P1
def Sy:Gs:=[WX]
def E2:th->Option th:=λa=>(FJ ((a.1.2.1,()),())).bind λb=>some ((a.1.1,(b.1.1,())),())
def ZL:zi:=⟨W4,Sy,E2⟩
def Va:Gs:=[Uo,PK]
def ZM:=o7
def FK.b0(b:(IN×Ed)):(a:i9)->Option EO:=λa=>bif dO a.1 (List.length b.1.1:Int)then(bK b.1.1 a.1).bind λc=>bif ko c.1 b.2.1.1 then some (.inr (.inr ((true,()),())))else some (.inl (cM .i64 a.1 (1:Int),()))else some (.inr (.inl (a.1,())))
def FK:(IN×Ed)->Option la:=λa=>(aR (FK.b0 a) ((0:Int),())).bind λb=>Sum.elim (λc=>some ((false,()),())) some b
def ZN:zi:=⟨Va,ZM,FK⟩
def i69:=P1
def YX:Gs:=[WT]
def Sg.b0(b:th):(a:Oq)->Option (Sum Oq (Sum Oq C8)):=λa=>bif dO a.2.1 (List.length b.1.2.1:Int)then (bK b.1.2.1 a.2.1).bind λe=>bif km (5:Int) e.2.2.2.1 then (bK b.1.2.1 a.2.1).bind λc=>(bK b.1.2.1 a.2.1).bind λd=>bif dE (List.length a.1+List.length ([(c.1,(d.2.2.2.1,()))]:List (df))) 24 then some (.inl (bV a.1 ([(c.1,(d.2.2.2.1,()))]:List (df)),(cM .i64 a.2.1 (1:Int),()))) else none else some (.inl (a.1,(cM .i64 a.2.1 (1:Int),()))) else some (.inr (.inl (a.1,(a.2.1,()))))
def Sg:th->Option C8:=λa=>(aR (Sg.b0 a) (([]:List (df)),((0:Int),()))).bind λc=>Sum.elim (λb=>some ((b.1,()),())) some c
def c69:zi:=⟨i69,YX,Sg⟩
def ZO:Gs:=[PK,Ot]
def W5:Gs:=[⟨.agg,HH,m3⟩]
def Sz:((ByteArray×Unit)×th)->Option u3:=λa=>(Em (a.1,())).bind λe=>bif (!e.1.1)then some ((⟨#[]⟩,((0:Int),((0:Int),([],([],([],((0:Int),((0:Int),((0:Int),((0:Int),([],((0:Int),([],([],((0:Int),([],([],([],([],([],())))))))))))))))))))),())else (Sf (a.2.1,())).bind λd=>bif (!d.1.1)then some ((⟨#[]⟩,((0:Int),((0:Int),([],([],([],((0:Int),((0:Int),((0:Int),((0:Int),([],((0:Int),([],([],((0:Int),([],([],([],([],([],())))))))))))))))))))),())else (E2 (a.2.1,())).bind λb=>(Sg (a.2.1,())).bind λc=>some ((a.1.1,(a.2.1.1,(b.1.1,(b.1.2.1,(c.1.1,([],((1:Int),((0:Int),((0:Int),((-1:Int),([],((0:Int),([],([],((0:Int),([],([],([],([],([],())))))))))))))))))))),())
def ZP:zi:=⟨ZO,W5,Sz⟩
def i61:Gs:=[Ot,Uo]
def o61:Gs:=[WU]
def SA.b0(b:(IH×Mq)):(a:UY)->Option (Sum UY (Sum UY C7)):=λa=>bif dO a.1 (List.length b.1.2.1:Int)then (bK b.1.2.1 a.1).bind λd=>(FK (b.2.1,((d.1,()),()))).bind λe=>bif (!e.1.1)then (bK b.1.2.1 a.1).bind λf=>(Sz ((f.1,()),(b.1,()))).bind λc=>bif dE (List.length a.2.1+List.length ([c.1]:List (Gt))) 344 then some (.inl (cM .i64 a.1 (1:Int),(bV a.2.1 ([c.1]:List (Gt)),())))else none else some (.inl (cM .i64 a.1 (1:Int),(a.2.1,())))else some (.inr (.inl (a.1,(a.2.1,()))))
def SA:(IH×Mq)->Option C7:=λa=>(Sf (a.1,())).bind λf=>bif (!f.1.1)then some (((0:Int),([],([],([],([],([],([],()))))))),())else (Nk (a.2.1,())).bind λe=>bif (!e.1.1)then some (((0:Int),([],([],([],([],([],([],()))))))),())else (E2 (a.1,())).bind λb=>bif dE (List.length ([]:List (D9))+List.length a.2.1.1) 16 then (aR (SA.b0 a) ((0:Int),([],()))).bind λc=>Sum.elim (λd=>some ((b.1.1,(b.1.2.1,(bV ([]:List (D9)) a.2.1.1,(d.2.1,([],([],([],()))))))),())) some c else none
def c61:zi:=⟨i61,o61,SA⟩
def ZQ:Gs:=[PU,El]
def ZR:=HL
def J4:(JV×rS)->Option Ed:=λa=>bif gA (List.length a.1.1:Int) (0:Int)then some ((⟨#[]⟩,()),())else bif dO a.2.1.1 (0:Int)then some ((⟨#[]⟩,()),())else bif gA (List.length a.1.1:Int) 0 then none else (bK a.1.1 (ph a.2.1.1 (List.length a.1.1:Int))).bind λb=>some ((b.1,()),())
def ZS:zi:=⟨ZQ,ZR,J4⟩
def ZT:Gs:=[Ml,Uo]
def W6:Gs:=[PK,Ml]
def SB:(HJ×Mq)->Option ((ByteArray×Unit)×wc):=λa=>(IJ (a.1,(((List.length a.2.1.1:Int),()),()))).bind λb=>(bK a.2.1.1 b.1.1).bind λc=>some (c,(b.2.1,()))
def ZU:zi:=⟨ZT,W6,SB⟩
def ZV:=Sv
def ZW:=W6
def P2:wc->Option ((ByteArray×Unit)×wc):=λb=>(SB (b.1,((([(⟨#[97]⟩,()),(⟨#[98]⟩,()),(⟨#[99]⟩,()),(⟨#[100]⟩,()),(⟨#[101]⟩,()),(⟨#[97,49]⟩,())]:List (D9)),()),()))).bind λa=>some (a.1,(a.2.1,()))
def ZX:zi:=⟨ZV,ZW,P2⟩
def ZY:=Sv
def W7:Gs:=[KU,Ml]
def P3:wc->Option (cp×wc):=λg=>(IJ (g.1,(((3:Int),()),()))).bind λd=>(P2 (d.2.1,())).bind λe=>(J0 (e.2.1,((([((1:Int),()),((5:Int),()),((10:Int),()),((3:Int),()),((200:Int),())]:List (D3)),()),()))).bind λf=>(IJ (f.2.1,(((4:Int),()),()))).bind λa=>Option.bind (bif gA (cM .i64 (1:Int) d.1.1) (1:Int) then (P2 (a.2.1,())).bind λc=>some (.inl (c.2.1.1,(c.2.1.2.1,(c.2.1.2.2.1,(c.1.1,()))))) else some (.inl (a.2.1.1,(a.2.1.2.1,(a.2.1.2.2.1,(⟨#[]⟩,())))))) λh=>Sum.elim (λb=>some ((cM .i64 (1:Int) d.1.1,(e.1.1,(b.2.2.2.1,(f.1.1,(a.1.1,()))))),((b.1,(b.2.1,(b.2.2.1,()))),()))) some h
def ZZ:zi:=⟨ZY,W7,P3⟩
def Z0:Gs:=[Ml,Ot]
def Z1:=W7
def SC:(HJ×th)->Option (cp×wc):=λd=>(P3 (d.1,())).bind λa=>Option.bind (bif dO (0:Int) (List.length d.2.1.2.1:Int)then (P0 (a.2.1,(((5:Int),()),()))).bind λb=>bif (!b.1.1)then (IJ (b.2.1,(((List.length d.2.1.2.1:Int),()),()))).bind λe=>(bK d.2.1.2.1 e.1.1).bind λf=>some (.inl (e.2.1.1,(e.2.1.2.1,(e.2.1.2.2.1,(f.1,(f.2.2.1,()))))))else some (.inl (b.2.1.1,(b.2.1.2.1,(b.2.1.2.2.1,(a.1.2.1,(a.1.2.2.2.2.1,()))))))else some (.inl (a.2.1.1,(a.2.1.2.1,(a.2.1.2.2.1,(a.1.2.1,(a.1.2.2.2.2.1,()))))))) λg=>Sum.elim (λc=>some ((a.1.1,(c.2.2.2.1,(a.1.2.2.1,(a.1.2.2.2.1,(c.2.2.2.2.1,()))))),((c.1,(c.2.1,(c.2.2.1,()))),()))) some g
def Z2:zi:=⟨Z0,Z1,SC⟩
def SD:Gs:=[IS]
def Z3:Gs:=[WY]
def Fk:E1->Option E1:=λa=>bif dE (List.length ([]:List (D9))+List.length a.1.2.2.1) 16 then some ((a.1.1,(a.1.2.1,(bV ([]:List (D9)) a.1.2.2.1,()))),()) else none
def Z4:zi:=⟨SD,Z3,Fk⟩
def P4:Gs:=[Mt]
def Z5:Gs:=[⟨.agg,YS,m6⟩]
def HM:Fj->Option Fj:=λa=>bif dE (List.length ([]:List (D9))+List.length a.1.2.1) 16 then bif dE (List.length ([]:List (D3))+List.length a.1.2.2.1) 8 then some ((a.1.1,(bV ([]:List (D9)) a.1.2.1,(bV ([]:List (D3)) a.1.2.2.1,()))),()) else none else none
def Z6:zi:=⟨P4,Z5,HM⟩
def Mx:Gs:=[Ou]
def W8:Gs:=[⟨.agg,j3,m1⟩]
def HN:Eu->Option Eu:=λa=>(Fk ((a.1.2.2.2.2.1,(a.1.2.2.2.2.2.1,(a.1.2.2.2.2.2.2.1,()))),())).bind λc=>(HM ((a.1.2.2.2.2.2.2.2.1,(a.1.2.2.2.2.2.2.2.2.1,(a.1.2.2.2.2.2.2.2.2.2.1,()))),())).bind λb=>bif dE (List.length ([]:List (cp))+List.length a.1.2.2.2.2.2.2.2.2.2.2.1) 56 then bif dE (List.length ([]:List (df))+List.length a.1.2.2.2.2.2.2.2.2.2.2.2.2.1) 24 then some ((a.1.1,(a.1.2.1,(a.1.2.2.1,(a.1.2.2.2.1,(c.1.1,(c.1.2.1,(c.1.2.2.1,(b.1.1,(b.1.2.1,(b.1.2.2.1,(bV ([]:List (cp)) a.1.2.2.2.2.2.2.2.2.2.2.1,(a.1.2.2.2.2.2.2.2.2.2.2.2.1,(bV ([]:List (df)) a.1.2.2.2.2.2.2.2.2.2.2.2.2.1,(a.1.2.2.2.2.2.2.2.2.2.2.2.2.2.1,())))))))))))))),()) else none else none
def Z7:zi:=⟨Mx,W8,HN⟩
def SF:Gs:=[Ss]
def P5:Gs:=[Zo]
def BE.b0(b:IP):(a:JY)->Option (Sum JY (Sum JY IP)):=λa=>bif dO a.2.1 (List.length b.1.1:Int)then (bK b.1.1 a.2.1).bind λd=>(HN (d,())).bind λc=>bif dE (List.length a.1+List.length ([c.1]:List (uf))) 208 then some (.inl (bV a.1 ([c.1]:List (uf)),(cM .i64 a.2.1 (1:Int),())))else none else some (.inr (.inl (a.1,(a.2.1,()))))
def BE:IP->Option IP:=λa=>(aR (BE.b0 a) (([]:List (uf)),((0:Int),()))).bind λb=>Sum.elim (λc=>some ((c.1,()),())) some b
def Z8:zi:=⟨SF,P5,BE⟩
def Z9:Gs:=[U3]
def aa0:Gs:=[⟨.agg,G2,m2⟩]
def SG:(Mo×Unit)->Option (Mo×Unit):=λa=>(BE ((a.1.2.1,()),())).bind λc=>(Fk ((a.1.2.2.1,(a.1.2.2.2.1,(a.1.2.2.2.2.1,()))),())).bind λb=>some ((a.1.1,(c.1.1,(b.1.1,(b.1.2.1,(b.1.2.2.1,()))))),())
def aa1:zi:=⟨Z9,aa0,SG⟩
def aa2:Gs:=[PZ]
def aa3:=W5
def J5.b0(b:u3):(a:UX)->Option (Sum UX (Sum UX u3)):=λa=>bif dO a.1 (List.length b.1.2.2.2.2.2.2.2.2.2.2.2.2.2.2.2.2.2.2.2.1:Int)then (bK b.1.2.2.2.2.2.2.2.2.2.2.2.2.2.2.2.2.2.2.2.1 a.1).bind λd=>(SG (d,())).bind λc=>bif dE (List.length a.2.1+List.length ([c.1]:List (Mo))) 72 then some (.inl (cM .i64 a.1 (1:Int),(bV a.2.1 ([c.1]:List (Mo)),())))else none else some (.inr (.inl (a.1,(a.2.1,()))))
def J5:u3->Option u3:=λa=>(E2 ((a.1.2.2.1,(a.1.2.2.2.1,())),())).bind λd=>bif dE (List.length ([]:List (df))+List.length a.1.2.2.2.2.1) 24 then (BE ((a.1.2.2.2.2.2.1,()),())).bind λf=>(Fk ((a.1.2.2.2.2.2.2.2.2.1,(a.1.2.2.2.2.2.2.2.2.2.1,(a.1.2.2.2.2.2.2.2.2.2.2.1,()))),())).bind λc=>(HM ((a.1.2.2.2.2.2.2.2.2.2.2.2.1,(a.1.2.2.2.2.2.2.2.2.2.2.2.2.1,(a.1.2.2.2.2.2.2.2.2.2.2.2.2.2.1,()))),())).bind λb=>bif dE (List.length ([]:List (sH))+List.length a.1.2.2.2.2.2.2.2.2.2.2.2.2.2.2.2.1) 32 then bif dE (List.length ([]:List (ow))+List.length a.1.2.2.2.2.2.2.2.2.2.2.2.2.2.2.2.2.1) 32 then bif dE (List.length ([]:List (D3))+List.length a.1.2.2.2.2.2.2.2.2.2.2.2.2.2.2.2.2.2.1) 8 then bif dE (List.length ([]:List (cp))+List.length a.1.2.2.2.2.2.2.2.2.2.2.2.2.2.2.2.2.2.2.1) 56 then (aR (J5.b0 a) ((0:Int),(([]:List (Mo)),()))).bind λe=>Sum.elim (λg=>some ((a.1.1,(a.1.2.1,(d.1.1,(d.1.2.1,(bV ([]:List (df)) a.1.2.2.2.2.1,(f.1.1,(a.1.2.2.2.2.2.2.1,(a.1.2.2.2.2.2.2.2.1,(c.1.1,(c.1.2.1,(c.1.2.2.1,(b.1.1,(b.1.2.1,(b.1.2.2.1,(a.1.2.2.2.2.2.2.2.2.2.2.2.2.2.2.1,(bV ([]:List (sH)) a.1.2.2.2.2.2.2.2.2.2.2.2.2.2.2.2.1,(bV ([]:List (ow)) a.1.2.2.2.2.2.2.2.2.2.2.2.2.2.2.2.2.1,(bV ([]:List (D3)) a.1.2.2.2.2.2.2.2.2.2.2.2.2.2.2.2.2.2.1,(bV ([]:List (cp)) a.1.2.2.2.2.2.2.2.2.2.2.2.2.2.2.2.2.2.2.1,(g.2.1,())))))))))))))))))))),())) some e else none else none else none else none else none
def aa4:zi:=⟨aa2,aa3,J5⟩
def aa5:Gs:=[KU,KU]
def aa6:=o7
def P6:(cp×Mr)->Option la:=λa=>bif !ko a.1.2.1 a.2.1.2.1 then some ((ob a.1.2.1 a.2.1.2.1,()),())else bif !gA a.1.2.2.2.2.1 a.2.1.2.2.2.2.1 then some ((dO a.1.2.2.2.2.1 a.2.1.2.2.2.2.1,()),())else bif !gA a.1.1 a.2.1.1 then some ((dO a.1.1 a.2.1.1,()),())else bif !ko a.1.2.2.1 a.2.1.2.2.1 then some ((ob a.1.2.2.1 a.2.1.2.2.1,()),())else some ((dO a.1.2.2.2.1 a.2.1.2.2.2.1,()),())
def aa7:zi:=⟨aa5,aa6,P6⟩
def W9:Gs:=[KU]
def aa8:=o7
def Ow:Mr->Option la:=λa=>(Em ((a.1.2.1,()),())).bind λd=>bif (!d.1.1)then some ((false,()),())else (k0 ((a.1.2.2.2.1,()),(((1:Int),()),(((1000000:Int),()),())))).bind λc=>bif (!c.1.1)then some ((false,()),())else (k0 ((a.1.2.2.2.2.1,()),(((0:Int),()),(((10000:Int),()),())))).bind λe=>bif (!e.1.1)then some ((false,()),())else bif gA a.1.1 (1:Int)then (Em ((a.1.2.2.1,()),())).bind λb=>some (b.1,())else (k0 ((a.1.1,()),(((2:Int),()),(((3:Int),()),())))).bind λf=>bif f.1.1 then some ((ko a.1.2.2.1 ⟨#[]⟩,()),())else some ((false,()),())
def aa9:zi:=⟨W9,aa8,Ow⟩
def Xa:Gs:=[Mu]
def ab0:=o7
def IU.b0(b:Hh):(a:i9)->Option EO:=λa=>bif dO a.1 (List.length b.1.1:Int)then(bK b.1.1 a.1).bind λd=>(Ow (d,())).bind λe=>bif (!e.1.1)then some (.inr (.inr ((false,()),())))else bif dO (0:Int) a.1 then (bK b.1.1 (gS .i64 a.1 (1:Int))).bind λg=>(bK b.1.1 a.1).bind λc=>(P6 (g,(c,()))).bind λf=>bif (!f.1.1) then some (.inr (.inr ((false,()),()))) else some (.inl (cM .i64 a.1 (1:Int),())) else some (.inl (cM .i64 a.1 (1:Int),())) else some (.inr (.inl (a.1,())))
def IU:Hh->Option la:=λa=>(aR (IU.b0 a) ((0:Int),())).bind λb=>Sum.elim (λc=>some ((km (List.length a.1.1:Int) (20:Int),()),())) some b
def ab1:zi:=⟨Xa,ab0,IU⟩
def ab2:Gs:=[Mu,KU]
def ab3:Gs:=[Su,PT]
def KV.b0(c:(Gv×Mr)):(a:UU)->Option (Sum UU (Sum UU ((Gv×la)))):=λa=>bif dO (0:Int) a.1 then (bK a.2.1 (gS .i64 a.1 (1:Int))).bind λ_=>(aC a.2.1 (Int.toNat (gS .i64 a.1 (1:Int)))).bind λd=>(P6 (c.2.1,(d,()))).bind λe=>bif e.1.1 then (bK a.2.1 (gS .i64 a.1 (1:Int))).bind λ_=>(aC a.2.1 (Int.toNat (gS .i64 a.1 (1:Int)))).bind λb=>(bK a.2.1 a.1).bind λ_=>(aC a.2.1 (Int.toNat a.1)).bind λg=>(some (List.set a.2.1 (Int.toNat a.1) (b.1,(b.2.1,(b.2.2.1,(b.2.2.2.1,(b.2.2.2.2.1,()))))))).bind λf=>some (.inl (gS .i64 a.1 (1:Int),(f,()))) else some (.inr (.inl (a.1,(a.2.1,())))) else some (.inr (.inl (a.1,(a.2.1,()))))
def KV:(Gv×Mr)->Option ((Gv×la)):=λa=>bif dE (List.length ([]:List (cp))+List.length a.1.1) 56 then bif dE (List.length (bV ([]:List (cp)) a.1.1)+List.length ([a.2.1]:List (cp))) 56 then (aR (KV.b0 a) (gS .i64 (List.length (bV (bV ([]:List (cp)) a.1.1) ([a.2.1]:List (cp))):Int) (1:Int),(bV (bV ([]:List (cp)) a.1.1) ([a.2.1]:List (cp)),()))).bind λf=>Sum.elim (λb=>(bK b.2.1 b.1).bind λ_=>(aC b.2.1 (Int.toNat b.1)).bind λg=>(some (List.set b.2.1 (Int.toNat b.1) (a.2.1.1,(a.2.1.2.1,(a.2.1.2.2.1,(a.2.1.2.2.2.1,(a.2.1.2.2.2.2.1,()))))))).bind λc=>(IU (a.1,())).bind λd=>bif (!d.1.1) then bif dE (List.length ([]:List (cp))+List.length a.1.1) 56 then some ((bV ([]:List (cp)) a.1.1,()),((false,()),())) else none else (IU ((c,()),())).bind λe=>bif (!e.1.1) then bif dE (List.length ([]:List (cp))+List.length a.1.1) 56 then some ((bV ([]:List (cp)) a.1.1,()),((false,()),())) else none else some ((c,()),((true,()),()))) some f else none else none
def ab4:zi:=⟨ab2,ab3,KV⟩
def ab5:=YV
def ab6:Gs:=[Su,Ml]
def My.b0:(a:UN)->Option (Sum UN (Sum UN (Gv×wc))):=λa=>bif dO (0:Int) a.2.1 then (P3 ((a.2.2.1,(a.2.2.2.1,(a.2.2.2.2.1,()))),())).bind λb=>(KV ((a.1,()),(b.1,()))).bind λc=>some (.inl (c.1.1,(gS .i64 a.2.1 (1:Int),(b.2.1.1,(b.2.1.2.1,(b.2.1.2.2.1,())))))) else some (.inr (.inl (a.1,(a.2.1,(a.2.2.1,(a.2.2.2.1,(a.2.2.2.2.1,())))))))
def My:(HJ×rS)->Option (Gv×wc):=λc=>(IJ (c.1,(c.2.1,()))).bind λa=>(aR My.b0 (([]:List (cp)),(a.1.1,(a.2.1.1,(a.2.1.2.1,(a.2.1.2.2.1,())))))).bind λd=>Sum.elim (λb=>some ((b.1,()),((b.2.2.1,(b.2.2.2.1,(b.2.2.2.2.1,()))),()))) some d
def ab7:zi:=⟨ab5,ab6,My⟩
def Xb:Gs:=[PU,PK]
def ab8:=o7
def FL.b0(b:(JV×Ed)):(a:i9)->Option EO:=λa=>bif dO a.1 (List.length b.1.1:Int)then(bK b.1.1 a.1).bind λc=>bif ko c.1 b.2.1.1 then some (.inr (.inr ((true,()),())))else some (.inl (cM .i64 a.1 (1:Int),()))else some (.inr (.inl (a.1,())))
def FL:(JV×Ed)->Option la:=λa=>(aR (FL.b0 a) ((0:Int),())).bind λb=>Sum.elim (λc=>some ((false,()),())) some b
def ab9:zi:=⟨Xb,ab8,FL⟩
def ac0:=SD
def ac1:=o7
def J6:E1->Option la:=λa=>bif gA a.1.1 (0:Int)then bif gA a.1.2.1 (-1:Int)then some ((gA (List.length a.1.2.2.1:Int) (0:Int),()),())else some ((false,()),())else some ((false,()),())
def ac2:zi:=⟨ac0,ac1,J6⟩
def ac3:=Mx
def ac4:=o7
def SH:Eu->Option la:=λa=>(J6 ((a.1.2.2.2.2.1,(a.1.2.2.2.2.2.1,(a.1.2.2.2.2.2.2.1,()))),())).bind λd=>bif d.1.1 then some ((true,()),())else (k0 ((a.1.2.2.2.2.1,()),(((1:Int),()),((gS .i64 a.1.2.2.1 (1:Int),()),())))).bind λc=>bif c.1.1 then (k0 ((a.1.2.2.2.2.2.1,()),(((0:Int),()),((gS .i64 a.1.1 (1:Int),()),())))).bind λe=>bif e.1.1 then (Nk ((a.1.2.2.2.2.2.2.1,()),())).bind λb=>some (b.1,())else some ((false,()),())else some ((false,()),())
def ac5:zi:=⟨ac3,ac4,SH⟩
def ac6:=P4
def ac7:=o7
def Hk:Fj->Option la:=λa=>bif gA a.1.1 (0:Int)then bif gA (List.length a.1.2.1:Int) (0:Int)then some ((gA (List.length a.1.2.2.1:Int) (0:Int),()),())else some ((false,()),())else some ((false,()),())
def ac8:zi:=⟨ac6,ac7,Hk⟩
def ac9:=Mx
def ad0:=o7
def J7.b0(b:Eu):(a:i9)->Option EO:=λa=>bif dO a.1 (List.length b.1.2.2.2.2.2.2.2.2.2.1:Int)then(bK b.1.2.2.2.2.2.2.2.2.2.1 a.1).bind λc=>(k0 (c,(((0:Int),()),((gS .i64 b.1.2.2.2.2.2.2.2.1 (1:Int),()),())))).bind λd=>bif (!d.1.1)then some (.inr (.inr ((false,()),())))else some (.inl (cM .i64 a.1 (1:Int),()))else some (.inr (.inl (a.1,())))
def J7:Eu->Option la:=λa=>(Hk ((a.1.2.2.2.2.2.2.2.1,(a.1.2.2.2.2.2.2.2.2.1,(a.1.2.2.2.2.2.2.2.2.2.1,()))),())).bind λc=>bif c.1.1 then some ((true,()),())else (k0 ((a.1.2.2.2.2.2.2.2.1,()),(((1:Int),()),((gS .i64 a.1.2.2.1 (1:Int),()),())))).bind λb=>bif (!b.1.1)then some ((false,()),())else (Nk ((a.1.2.2.2.2.2.2.2.2.1,()),())).bind λd=>bif (!d.1.1)then some ((false,()),())else bif !gA (List.length a.1.2.2.2.2.2.2.2.2.2.1:Int) (List.length a.1.2.2.2.2.2.2.2.2.1:Int)then some ((false,()),())else (aR (J7.b0 a) ((0:Int),())).bind λe=>Sum.elim (λf=>some ((true,()),())) some e
def ad1:zi:=⟨ac9,ad0,J7⟩
def P7:Gs:=[PU]
def ad2:=o7
def J8.b0(b:C8):(a:i9)->Option EO:=λa=>bif dO a.1 (List.length b.1.1:Int)then(bK b.1.1 a.1).bind λd=>(Em ((d.1,()),())).bind λe=>bif (!e.1.1)then some (.inr (.inr ((false,()),())))else (bK b.1.1 a.1).bind λh=>(k0 ((h.2.1,()),(((1:Int),()),(((1000000:Int),()),())))).bind λf=>bif (!f.1.1)then some (.inr (.inr ((false,()),())))else bif dO (0:Int) a.1 then (bK b.1.1 (gS .i64 a.1 (1:Int))).bind λc=>(bK b.1.1 a.1).bind λg=>bif !ob c.1 g.1 then some (.inr (.inr ((false,()),()))) else some (.inl (cM .i64 a.1 (1:Int),())) else some (.inl (cM .i64 a.1 (1:Int),())) else some (.inr (.inl (a.1,())))
def J8:C8->Option la:=λa=>(aR (J8.b0 a) ((0:Int),())).bind λc=>Sum.elim (λd=>(k0 (((List.length a.1.1:Int),()),(((1:Int),()),(((12:Int),()),())))).bind λb=>some (b.1,())) some c
def ad3:zi:=⟨P7,ad2,J8⟩
def i71:=Mx
def o71:=o7
def Ox.b0(b:Eu):(a:i9)->Option EO:=λa=>bif dO a.1 (List.length b.1.2.2.2.2.2.2.2.2.2.2.1:Int)then(bK b.1.2.2.2.2.2.2.2.2.2.2.1 a.1).bind λc=>(Ow (c,())).bind λd=>bif (!d.1.1)then some (.inr (.inr ((false,()),())))else some (.inl (cM .i64 a.1 (1:Int),()))else some (.inr (.inl (a.1,())))
def Ox:Eu->Option la:=λa=>(k0 ((a.1.1,()),(((0:Int),()),(((100000:Int),()),())))).bind λf=>bif (!f.1.1)then some ((false,()),())else (k0 ((a.1.2.1,()),(((0:Int),()),(((900:Int),()),())))).bind λe=>bif (!e.1.1)then some ((false,()),())else (k0 ((a.1.2.2.1,()),(((1:Int),()),(((10000:Int),()),())))).bind λg=>bif (!g.1.1)then some ((false,()),())else (Em ((a.1.2.2.2.1,()),())).bind λd=>bif (!d.1.1)then some ((false,()),())else (SH (a.1,())).bind λh=>bif (!h.1.1)then some ((false,()),())else (J7 (a.1,())).bind λi=>bif (!i.1.1)then some ((false,()),())else bif dO (4:Int) (List.length a.1.2.2.2.2.2.2.2.2.2.2.1:Int)then some ((false,()),())else (aR (Ox.b0 a) ((0:Int),())).bind λb=>Sum.elim (λj=>bif (!a.1.2.2.2.2.2.2.2.2.2.2.2.1)then bif gA (List.length a.1.2.2.2.2.2.2.2.2.2.2.2.2.1:Int) (0:Int)then some ((ko a.1.2.2.2.2.2.2.2.2.2.2.2.2.2.1 ⟨#[]⟩,()),())else some ((false,()),())else (J8 ((a.1.2.2.2.2.2.2.2.2.2.2.2.2.1,()),())).bind λc=>bif c.1.1 then some ((gA (ByteArray.size a.1.2.2.2.2.2.2.2.2.2.2.2.2.2.1:Int) (32:Int),()),())else some ((false,()),())) some b
def c71:zi:=⟨i71,o71,Ox⟩
def P8:Gs:=[Ss,El]
def ad4:=II
def Fl.b0(b:HK):(a:i9)->Option KR:=λa=>bif dO a.1 (List.length b.1.1:Int)then(bK b.1.1 a.1).bind λc=>bif gA c.1 b.2.1.1 then some (.inr (.inr ((a.1,()),())))else some (.inl (cM .i64 a.1 (1:Int),()))else some (.inr (.inl (a.1,())))
def Fl:HK->Option rS:=λa=>(aR (Fl.b0 a) ((0:Int),())).bind λb=>Sum.elim (λc=>some (((-1:Int),()),())) some b
def ad5:zi:=⟨P8,ad4,Fl⟩
def ad6:=SF
def ad7:=o7
def IV.b0(c:IP):(a:i9)->Option EO:=λa=>bif dO a.1 (List.length c.1.1:Int)then(bK c.1.1 a.1).bind λb=>Option.bind ((Ox (b,())).bind λg=>bif (!g.1.1)then some (.inr (.inr (.inr ((false,()),()))))else (bK c.1.1 (0:Int)).bind λj=>bif !gA b.2.1 j.2.1 then some (.inr (.inr (.inr ((false,()),()))))else bif dO (0:Int) a.1 then (bK c.1.1 (gS .i64 a.1 (1:Int))).bind λf=>bif km b.1 f.1 then some (.inr (.inr (.inr ((false,()),())))) else some (.inl ()) else some (.inl ())) λi=>Sum.elim (λk=>(J6 ((b.2.2.2.2.1,(b.2.2.2.2.2.1,(b.2.2.2.2.2.2.1,()))),())).bind λh=>bif (!h.1.1) then bif mX a.1 (List.length c.1.1) then (Fl ((List.take ((Int.toNat a.1)-0) (List.drop 0 c.1.1),()),((b.2.2.2.2.2.1,()),()))).bind λd=>bif dO d.1.1 (0:Int) then some (.inr (.inr ((false,()),()))) else (bK c.1.1 d.1.1).bind λe=>bif !gA e.2.2.1 b.2.2.2.2.1 then some (.inr (.inr ((false,()),()))) else some (.inl (cM .i64 a.1 (1:Int),())) else none else some (.inl (cM .i64 a.1 (1:Int),()))) some i else some (.inr (.inl (a.1,())))
def IV:IP->Option la:=λa=>(aR (IV.b0 a) ((0:Int),())).bind λb=>Sum.elim (λc=>some ((km (List.length a.1.1:Int) (400:Int),()),())) some b
def ad8:zi:=⟨ad6,ad7,IV⟩
def ad9:=P8
def ae0:=o7
def P9:HK->Option la:=λa=>(IV (a.1,())).bind λc=>bif c.1.1 then bif gA a.2.1.1 (-1:Int)then some ((true,()),())else (Fl (a.1,(a.2.1,()))).bind λb=>some ((km (0:Int) b.1.1,()),()) else some ((false,()),())
def ae1:zi:=⟨ad9,ae0,P9⟩
def ae2:=P8
def SJ:Gs:=[Zl]
def Fm.b0(c:HK):(a:On)->Option (Sum On (Sum On FH)):=λa=>bif km (0:Int) a.1 then (Fl (c.1,((a.1,()),()))).bind λb=>bif dO b.1.1 (0:Int) then some (.inr (.inr ((([]:List (D3)),()),()))) else bif dE (List.length ([b.1]:List (D3))+List.length a.2.1) 8 then (bK c.1.1 b.1.1).bind λd=>some (.inl (d.2.2.2.2.2.1,(bV ([b.1]:List (D3)) a.2.1,()))) else none else some (.inr (.inl (a.1,(a.2.1,()))))
def Fm:HK->Option FH:=λa=>(aR (Fm.b0 a) (a.2.1.1,(([]:List (D3)),()))).bind λb=>Sum.elim (λc=>some ((c.2.1,()),())) some b
def ae3:zi:=⟨ae2,SJ,Fm⟩
def ae4:=P8
def ae5:=o7
def KW.b0(b:FH)(c:HK):(a:i9)->Option EO:=λa=>bif dO a.1 (List.length b.1.1:Int)then(bK b.1.1 a.1).bind λ_=>(aC b.1.1 (Int.toNat a.1)).bind λd=>(bK c.1.1 d.1).bind λe=>bif e.2.2.2.2.2.2.2.2.2.2.2.1 then some (.inr (.inr ((true,()),())))else some (.inl (cM .i64 a.1 (1:Int),()))else some (.inr (.inl (a.1,())))
def KW:HK->Option la:=λa=>(Fm (a.1,(a.2.1,()))).bind λb=>(aR (KW.b0 b a) ((0:Int),())).bind λc=>Sum.elim (λd=>some ((false,()),())) some c
def ae6:zi:=⟨ae4,ae5,KW⟩
def Xc:Gs:=[WS,PK]
def ae7:=II
def Hl.b0(b:Sp):(a:i9)->Option KR:=λa=>bif dO a.1 (List.length b.1.1:Int)then(bK b.1.1 a.1).bind λc=>bif ko c.1 b.2.1.1 then some (.inr (.inr ((a.1,()),())))else some (.inl (cM .i64 a.1 (1:Int),()))else some (.inr (.inl (a.1,())))
def Hl:Sp->Option rS:=λa=>(aR (Hl.b0 a) ((0:Int),())).bind λb=>Sum.elim (λc=>some (((-1:Int),()),())) some b
def ae8:zi:=⟨Xc,ae7,Hl⟩
def ae9:=Ov
def Vb:Gs:=[Zp]
def af0:zi:=⟨ae9,Vb,FJ⟩
def af1:=Xc
def af2:=Vb
def En.b0(c:Sp):(a:Oj)->Option (Sum Oj (Sum Oj FI)):=λa=>bif dO (0:Int) a.1 then (bK a.2.1 (gS .i64 a.1 (1:Int))).bind λ_=>(aC a.2.1 (Int.toNat (gS .i64 a.1 (1:Int)))).bind λd=>bif !(ob d.1 c.2.1.1||ko d.1 c.2.1.1) then (bK a.2.1 (gS .i64 a.1 (1:Int))).bind λ_=>(aC a.2.1 (Int.toNat (gS .i64 a.1 (1:Int)))).bind λb=>(bK a.2.1 a.1).bind λ_=>(aC a.2.1 (Int.toNat a.1)).bind λf=>(some (List.set a.2.1 (Int.toNat a.1) (b.1,(b.2.1,(b.2.2.1,(b.2.2.2.1,(b.2.2.2.2.1,()))))))).bind λe=>some (.inl (gS .i64 a.1 (1:Int),(e,()))) else some (.inr (.inl (a.1,(a.2.1,())))) else some (.inr (.inl (a.1,(a.2.1,()))))
def En:Sp->Option FI:=λb=>(FJ (b.1,())).bind λc=>(Hl (b.1,(b.2.1,()))).bind λe=>bif km (0:Int) e.1.1 then some (c.1,()) else bif dE (List.length c.1.1+List.length ([(⟨#[]⟩,((0:Int),((0:Int),((0:Int),([],())))))]:List (bF))) 64 then (aR (En.b0 b) (gS .i64 (List.length (bV c.1.1 ([(⟨#[]⟩,((0:Int),((0:Int),((0:Int),([],())))))]:List (bF))):Int) (1:Int),(bV c.1.1 ([(⟨#[]⟩,((0:Int),((0:Int),((0:Int),([],())))))]:List (bF)),()))).bind λf=>Sum.elim (λa=>(bK a.2.1 a.1).bind λ_=>(aC a.2.1 (Int.toNat a.1)).bind λg=>(some (List.set a.2.1 (Int.toNat a.1) (b.2.1.1,((0:Int),((0:Int),((0:Int),([],()))))))).bind λd=>some ((d,()),())) some f else none
def af3:zi:=⟨af1,af2,En⟩
def af4:Gs:=[⟨.c,(.cons (.sl Ei) .nil),[]⟩,El,El]
def af5:Gs:=[⟨.c,(.cons (.sl Ei) .nil),[(.own [])]⟩]
def J9.b0(b:((List ek×Unit)×(i9×rS))):(a:(List (ek)×Hi))->Option (Sum (List (ek)×Hi) (Sum (List (ek)×Hi) ((List ek×Unit)×Unit))):=λa=>bif dO a.2.2.1 (List.length b.1.1:Int)then (bK b.1.1 a.2.2.1).bind λc=>Option.bind (bif (!a.2.1)then bif gA c.2.1 b.2.2.1.1 then some (.inl (true,(cM .i64 c.1 b.2.1.1,())))else some (.inl (a.2.1,(c.1,())))else some (.inl (a.2.1,(c.1,())))) λg=>Sum.elim (λd=>Option.bind (bif (!d.1) then bif dO b.2.2.1.1 c.2.1 then bif dE (List.length a.1+List.length ([(b.2.1.1,(b.2.2.1.1,()))]:List (ek))) 16 then some (.inl (bV a.1 ([(b.2.1.1,(b.2.2.1.1,()))]:List (ek)),(true,()))) else none else some (.inl (a.1,(d.1,()))) else some (.inl (a.1,(d.1,())))) λf=>Sum.elim (λe=>bif dE (List.length e.1+List.length ([(d.2.1,(c.2.1,()))]:List (ek))) 16 then some (.inl (bV e.1 ([(d.2.1,(c.2.1,()))]:List (ek)),(e.2.1,(cM .i64 a.2.2.1 (1:Int),())))) else none) some f) some g else some (.inr (.inl (a.1,(a.2.1,(a.2.2.1,())))))
def J9:((List ek×Unit)×(i9×rS))->Option ((List ek×Unit)×Unit):=λa=>(aR (J9.b0 a) (([]:List (ek)),(false,((0:Int),())))).bind λe=>Sum.elim (λb=>Option.bind (bif (!b.2.1)then bif dE (List.length b.1+List.length ([(a.2.1.1,(a.2.2.1.1,()))]:List (ek))) 16 then some (.inl (bV b.1 ([(a.2.1.1,(a.2.2.1.1,()))]:List (ek)),()))else none else some (.inl (b.1,()))) λc=>Sum.elim (λd=>some ((d.1,()),())) some c) some e
def af6:zi:=⟨af4,af5,J9⟩
def af7:=P1
def SK:Gs:=[Zm]
def af8:zi:=⟨af7,SK,E2⟩
def af9:Gs:=[Ot,KU,El]
def ag0:=SK
def Qa:(IH×(cp×rS))->Option th:=λa=>(E2 (a.1,())).bind λd=>(bK d.1.2.1 a.2.2.1.1).bind λ_=>(aC d.1.2.1 (Int.toNat a.2.2.1.1)).bind λB=>(aC d.1.2.1 (Int.toNat a.2.2.1.1)).bind λk=>(some (List.set d.1.2.1 (Int.toNat a.2.2.1.1) (k.1,(k.2.1,(cM .i64 B.2.2.1 (1:Int),k.2.2.2))))).bind λb=>Option.bind (bif gA a.2.1.1 (1:Int)then (aC b (Int.toNat a.2.2.1.1)).bind λz=>(aC b (Int.toNat a.2.2.1.1)).bind λn=>(some (List.set b (Int.toNat a.2.2.1.1) (n.1,(gS .i64 z.2.1 a.2.1.2.2.2.1,n.2.2)))).bind λA=>(En ((A,()),((a.2.1.2.2.1,()),()))).bind λc=>(Hl (c.1,((a.2.1.2.2.1,()),()))).bind λe=>(bK c.1.1 e.1.1).bind λ_=>(aC c.1.1 (Int.toNat e.1.1)).bind λq=>(bK c.1.1 e.1.1).bind λ_=>(aC c.1.1 (Int.toNat e.1.1)).bind λm=>(some (List.set c.1.1 (Int.toNat e.1.1) (m.1,(cM .i64 q.2.1 a.2.1.2.2.2.1,m.2.2)))).bind λs=>some (.inl (s,()))else bif gA a.2.1.1 (2:Int)then (aC b (Int.toNat a.2.2.1.1)).bind λr=>(aC b (Int.toNat a.2.2.1.1)).bind λl=>(some (List.set b (Int.toNat a.2.2.1.1) (l.1,(gS .i64 r.2.1 a.2.1.2.2.2.1,l.2.2)))).bind λi=>(aC i (Int.toNat a.2.2.1.1)).bind λx=>(aC i (Int.toNat a.2.2.1.1)).bind λg=>(some (List.set i (Int.toNat a.2.2.1.1) (g.1,(g.2.1,(g.2.2.1,(cM .i64 x.2.2.2.1 a.2.1.2.2.2.1,g.2.2.2.2)))))).bind λt=>some (.inl (t,()))else (aC b (Int.toNat a.2.2.1.1)).bind λo=>(aC b (Int.toNat a.2.2.1.1)).bind λf=>(some (List.set b (Int.toNat a.2.2.1.1) (f.1,(f.2.1,(f.2.2.1,(gS .i64 o.2.2.2.1 a.2.1.2.2.2.1,f.2.2.2.2)))))).bind λj=>(aC j (Int.toNat a.2.2.1.1)).bind λv=>(J9 ((v.2.2.2.2.1,()),((a.2.1.2.2.2.1,()),((cM .i64 a.1.1 (2:Int),()),())))).bind λy=>(aC j (Int.toNat a.2.2.1.1)).bind λh=>(some (List.set j (Int.toNat a.2.2.1.1) (h.1,(h.2.1,(h.2.2.1,(h.2.2.2.1,(y.1.1,()))))))).bind λu=>some (.inl (u,()))) λp=>Sum.elim (λw=>some ((d.1.1,(w.1,())),())) some p
def ag1:zi:=⟨af9,ag0,Qa⟩
def ag2:Gs:=[Ot,KU]
def Xd:Gs:=[Ot,El]
def Gw:(IH×Mr)->Option ((IH×rS)):=λa=>(E2 (a.1,())).bind λb=>(Sf (a.1,())).bind λf=>bif (!f.1.1)then some (b.1,(((1:Int),()),()))else (Ow (a.2.1,())).bind λh=>bif (!h.1.1)then some (b.1,(((1:Int),()),()))else (Hl ((a.1.2.1,()),((a.2.1.2.1,()),()))).bind λd=>bif dO d.1.1 (0:Int)then some (b.1,(((2:Int),()),()))else (bK a.1.2.1 d.1.1).bind λc=>Option.bind (bif gA a.2.1.1 (3:Int)then some (.inl (c.2.2.2.1,()))else some (.inl (c.2.1,()))) λj=>Sum.elim (λg=>bif !gA c.2.2.1 a.2.1.2.2.2.2.1 then some (b.1,(((3:Int),()),())) else bif dO g.1 a.2.1.2.2.2.1 then some (b.1,(((4:Int),()),())) else (Qa (a.1,(a.2.1,(d.1,())))).bind λe=>(Sf (e.1,())).bind λi=>bif (!i.1.1) then some (b.1,(((5:Int),()),())) else some (e.1,(((0:Int),()),()))) some j
def ag3:zi:=⟨ag2,Xd,Gw⟩
def ag4:Gs:=[Ot,Mu]
def ag5:=Xd
def HO.b0(c:(IH×Hh)):(a:(Int×Hj))->Option (Sum (Int×Hj) (Sum (Int×Hj) ((IH×rS)))):=λa=>bif dO a.2.1 (List.length c.2.1.1:Int)then (bK c.2.1.1 a.2.1).bind λd=>(Gw ((a.2.2.1,(a.2.2.2.1,())),(d,()))).bind λb=>bif gA b.2.1.1 (0:Int)then some (.inl (cM .i64 a.1 (1:Int),(cM .i64 a.2.1 (1:Int),(b.1.1,(b.1.2.1,())))))else some (.inl (a.1,(cM .i64 a.2.1 (1:Int),(a.2.2.1,(a.2.2.2.1,())))))else some (.inr (.inl (a.1,(a.2.1,(a.2.2.1,(a.2.2.2.1,()))))))
def HO:(IH×Hh)->Option ((IH×rS)):=λb=>(E2 (b.1,())).bind λc=>(aR (HO.b0 b) ((0:Int),((0:Int),(c.1.1,(c.1.2.1,()))))).bind λd=>Sum.elim (λa=>some ((a.2.2.1,(a.2.2.2.1,())),((a.1,()),()))) some d
def ag6:zi:=⟨ag4,ag5,HO⟩
def ag7:Gs:=[Ot,Ss,El]
def ag8:=P1
def KX.b0(b:FH)(d:(IH×HK)):(a:Hj)->Option (Sum Hj (Sum Hj th)):=λa=>bif dO a.1 (List.length b.1.1:Int)then (bK b.1.1 a.1).bind λ_=>(aC b.1.1 (Int.toNat a.1)).bind λf=>(bK d.2.1.1 f.1).bind λe=>(HO ((a.2.1,(a.2.2.1,())),((e.2.2.2.2.2.2.2.2.2.2.1,()),()))).bind λc=>some (.inl (cM .i64 a.1 (1:Int),(c.1.1,(c.1.2.1,()))))else some (.inr (.inl (a.1,(a.2.1,(a.2.2.1,())))))
def KX:(IH×HK)->Option th:=λa=>(E2 (a.1,())).bind λc=>(Fm (a.2.1,(a.2.2.1,()))).bind λd=>(aR (KX.b0 d a) ((0:Int),(c.1.1,(c.1.2.1,())))).bind λe=>Sum.elim (λb=>some ((b.2.1,(b.2.2.1,())),())) some e
def ag9:zi:=⟨ag7,ag8,KX⟩
def ah0:=P1
def ah1:=SK
def u4.b1(b:Oj)(h:th):(a:(List (ek)×Oj))->Option (Sum (List (ek)×Oj) (Sum (List (ek)×Oj) (Sum Oj (Sum Oj th)))):=λa=>(aC a.2.2.1 (Int.toNat b.1)).bind λi=>bif dO a.2.1 (List.length i.2.2.2.2.1:Int)then (aC a.2.2.1 (Int.toNat b.1)).bind λj=>(bK j.2.2.2.2.1 a.2.1).bind λl=>bif km l.2.1 (cM .i64 h.1.1 (1:Int))then (aC a.2.2.1 (Int.toNat b.1)).bind λk=>(aC a.2.2.1 (Int.toNat b.1)).bind λm=>(bK m.2.2.2.2.1 a.2.1).bind λe=>(aC a.2.2.1 (Int.toNat b.1)).bind λd=>(some (List.set a.2.2.1 (Int.toNat b.1) (d.1,(cM .i64 k.2.1 e.1,d.2.2)))).bind λg=>some (.inl (a.1,(cM .i64 a.2.1 (1:Int),(g,()))))else (aC a.2.2.1 (Int.toNat b.1)).bind λf=>(bK f.2.2.2.2.1 a.2.1).bind λc=>bif dE (List.length a.1+List.length ([c]:List (ek))) 16 then some (.inl (bV a.1 ([c]:List (ek)),(cM .i64 a.2.1 (1:Int),(a.2.2.1,()))))else none else some (.inr (.inl (a.1,(a.2.1,(a.2.2.1,())))))
def u4.b0(f:th):(a:Oj)->Option (Sum Oj (Sum Oj th)):=λa=>bif dO a.1 (List.length a.2.1:Int)then (bK a.2.1 a.1).bind λ_=>(aR (u4.b1 a f) (([]:List (ek)),((0:Int),(a.2.1,())))).bind λd=>Sum.elim (λc=>(aC c.2.2.1 (Int.toNat a.1)).bind λb=>(some (List.set c.2.2.1 (Int.toNat a.1) (b.1,(b.2.1,(b.2.2.1,(b.2.2.2.1,(c.1,()))))))).bind λe=>some (.inl (cM .i64 a.1 (1:Int),(e,())))) some d else some (.inr (.inl (a.1,(a.2.1,()))))
def u4:th->Option th:=λa=>(E2 (a.1,())).bind λc=>(Sf (a.1,())).bind λg=>bif (!g.1.1)then some (c.1,())else (aR (u4.b0 a) ((0:Int),(c.1.2.1,()))).bind λd=>Sum.elim (λb=>(Sf ((cM .i64 a.1.1 (1:Int),(b.2.1,())),())).bind λe=>bif (!e.1.1)then (E2 (a.1,())).bind λf=>some (f.1,())else some ((cM .i64 a.1.1 (1:Int),(b.2.1,())),())) some d
def ah2:zi:=⟨ah0,ah1,u4⟩
def i31:=P1
def o31:=YX
def Xe:th->Option C8:=λa=>(Sf (a.1,())).bind λc=>bif (!c.1.1)then some ((([]:List (df)),()),())else (Sg (a.1,())).bind λb=>some (b.1,())
def c31:zi:=⟨i31,o31,Xe⟩
def ah3:=i27
def Vc:Gs:=[Zn]
def Gx.b0:(a:Hg)->Option (Sum Hg (Sum Hg Et)):=λa=>bif dO (127:Int) a.2.1 then bif dE (List.length a.1+List.length ([(IntKind.wrap .u8 (BS .i64 (sS .i64 a.2.1 (127:Int)) (128:Int)),())]:List (D5))) 1 then bif dO (7:Int) 0 then none else some (.inl (bV a.1 ([(IntKind.wrap .u8 (BS .i64 (sS .i64 a.2.1 (127:Int)) (128:Int)),())]:List (D5)),(zL .i64 a.2.1 (7:Int),()))) else none else some (.inr (.inl (a.1,(a.2.1,()))))
def Gx:((List D5×Unit)×rS)->Option Et:=λa=>bif dE (List.length ([]:List (D5))+List.length a.1.1) 1 then Option.bind (bif dO (1000000000:Int) a.2.1.1 then some (.inl ((1000000000:Int),())) else some (.inl (a.2.1.1,()))) λh=>Sum.elim (λd=>Option.bind (bif dO d.1 (-1000000000:Int) then some (.inl ((-1000000000:Int),())) else some (.inl (d.1,()))) λi=>Sum.elim (λc=>Option.bind (bif dO c.1 (0:Int) then some (.inl (gS .i64 (zJ .i64 (-2:Int) c.1) (1:Int),())) else some (.inl (zJ .i64 (2:Int) c.1,()))) λe=>Sum.elim (λg=>(aR Gx.b0 (bV ([]:List (D5)) a.1.1,(g.1,()))).bind λf=>Sum.elim (λb=>bif dE (List.length b.1+List.length ([(IntKind.wrap .u8 b.2.1,())]:List (D5))) 1 then some ((bV b.1 ([(IntKind.wrap .u8 b.2.1,())]:List (D5)),()),()) else none) some f) some e) some i) some h else none
def ah4:zi:=⟨ah3,Vc,Gx⟩
def ah5:Gs:=[PV,PK]
def ah6:=Vc
def SL:((List D5×Unit)×Ed)->Option Et:=λa=>(Gx (a.1,(((ByteArray.size a.2.1.1:Int),()),()))).bind λb=>bif dE (List.length b.1.1+List.length (eo a.2.1.1)) 1 then some ((bV b.1.1 (eo a.2.1.1),()),())else none
def ah7:zi:=⟨ah5,ah6,SL⟩
def ah8:=Sw
def ah9:=HL
def Mz.b0(b:KS):(a:Hg)->Option (Sum Hg (Sum Hg Ed)):=λa=>bif dO a.2.1 (List.length b.1.2.2.2.2.1:Int)then (bK b.1.2.2.2.2.1 a.2.1).bind λd=>(Gx ((a.1,()),((d.1,()),()))).bind λe=>(bK b.1.2.2.2.2.1 a.2.1).bind λf=>(Gx (e.1,((f.2.1,()),()))).bind λc=>some (.inl (c.1.1,(cM .i64 a.2.1 (1:Int),())))else some (.inr (.inl (a.1,(a.2.1,()))))
def Mz:KS->Option Ed:=λa=>(SL ((([]:List (D5)),()),((a.1.1,()),()))).bind λe=>(Gx (e.1,((a.1.2.1,()),()))).bind λf=>(Gx (f.1,((a.1.2.2.1,()),()))).bind λg=>(Gx (g.1,((a.1.2.2.2.1,()),()))).bind λd=>(Gx (d.1,(((List.length a.1.2.2.2.2.1:Int),()),()))).bind λh=>(aR (Mz.b0 a) (h.1.1,((0:Int),()))).bind λb=>Sum.elim (λc=>some ((bQ c.1,()),())) some b
def ai0:zi:=⟨ah8,ah9,Mz⟩
def ai1:=i7
def ai2:=Vc
def IW.b0:(a:(List (D5)×Unit))->Option (Sum (List (D5)×Unit) (Sum (List (D5)×Unit) Et)):=λa=>bif gA (64:Int) 0 then none else bif !gA (ph (List.length a.1:Int) (64:Int)) (56:Int) then bif dE (List.length a.1+List.length ([((0:Int),())]:List (D5))) 1 then some (.inl (bV a.1 ([((0:Int),())]:List (D5)),())) else none else some (.inr (.inl (a.1,())))
def IW.b1(b:Et):(a:Hg)->Option (Sum Hg (Sum Hg Et)):=λa=>bif km (0:Int) a.2.1 then bif dO (IntKind.wrap .u64 a.2.1) 0 then none else bif dE (List.length a.1+List.length ([(IntKind.wrap .u8 (zL .i64 (zJ .i64 (List.length b.1.1:Int) (8:Int)) (IntKind.wrap .u64 a.2.1)),())]:List (D5))) 1 then some (.inl (bV a.1 ([(IntKind.wrap .u8 (zL .i64 (zJ .i64 (List.length b.1.1:Int) (8:Int)) (IntKind.wrap .u64 a.2.1)),())]:List (D5)),(gS .i64 a.2.1 (8:Int),()))) else none else some (.inr (.inl (a.1,(a.2.1,()))))
def IW:Et->Option Et:=λa=>bif dE (List.length ([]:List (D5))+List.length a.1.1) 1 then bif dE (List.length (bV ([]:List (D5)) a.1.1)+List.length ([((128:Int),())]:List (D5))) 1 then (aR IW.b0 (bV (bV ([]:List (D5)) a.1.1) ([((128:Int),())]:List (D5)),())).bind λb=>Sum.elim (λe=>(aR (IW.b1 a) (e.1,((56:Int),()))).bind λc=>Sum.elim (λd=>some ((d.1,()),())) some c) some b else none else none
def ai3:zi:=⟨ai1,ai2,IW⟩
def ai4:Gs:=[]
def ai5:=SJ
def Xf:Unit->Option FH:=λa=>some ((([((1116352408:Int),()),((1899447441:Int),()),((3049323471:Int),()),((3921009573:Int),()),((961987163:Int),()),((1508970993:Int),()),((2453635748:Int),()),((2870763221:Int),()),((3624381080:Int),()),((310598401:Int),()),((607225278:Int),()),((1426881987:Int),()),((1925078388:Int),()),((2162078206:Int),()),((2614888103:Int),()),((3248222580:Int),()),((3835390401:Int),()),((4022224774:Int),()),((264347078:Int),()),((604807628:Int),()),((770255983:Int),()),((1249150122:Int),()),((1555081692:Int),()),((1996064986:Int),()),((2554220882:Int),()),((2821834349:Int),()),((2952996808:Int),()),((3210313671:Int),()),((3336571891:Int),()),((3584528711:Int),()),((113926993:Int),()),((338241895:Int),()),((666307205:Int),()),((773529912:Int),()),((1294757372:Int),()),((1396182291:Int),()),((1695183700:Int),()),((1986661051:Int),()),((2177026350:Int),()),((2456956037:Int),()),((2730485921:Int),()),((2820302411:Int),()),((3259730800:Int),()),((3345764771:Int),()),((3516065817:Int),()),((3600352804:Int),()),((4094571909:Int),()),((275423344:Int),()),((430227734:Int),()),((506948616:Int),()),((659060556:Int),()),((883997877:Int),()),((958139571:Int),()),((1322822218:Int),()),((1537002063:Int),()),((1747873779:Int),()),((1955562222:Int),()),((2024104815:Int),()),((2227730452:Int),()),((2361852424:Int),()),((2428436474:Int),()),((2756734187:Int),()),((3204031479:Int),()),((3329325298:Int),())]:List (D3)),()),())
def ai6:zi:=⟨ai4,ai5,Xf⟩
def ai7:Gs:=[El,El]
def ai8:=II
def Gy:(i9×rS)->Option rS:=λa=>bif dO (IntKind.wrap .u64 a.2.1.1) 0 then none else bif dO (IntKind.wrap .u64 (gS .i64 (32:Int) a.2.1.1)) 0 then none else some ((sS .i64 (BS .i64 (zL .i64 a.1.1 (IntKind.wrap .u64 a.2.1.1)) (zK .i64 a.1.1 (IntKind.wrap .u64 (gS .i64 (32:Int) a.2.1.1)))) (4294967295:Int),()),())
def ai9:zi:=⟨ai7,ai8,Gy⟩
def aj0:=i7
def aj1:=SJ
def IX.b0(b:Et):(a:JX)->Option UT:=λa=>bif dO a.2.1 (16:Int)then(bK b.1.1 (zJ .i64 (4:Int) a.2.1)).bind λe=>bif dO (24:Int) 0 then none else (bK b.1.1 (cM .i64 (zJ .i64 (4:Int) a.2.1) (1:Int))).bind λd=>bif dO (16:Int) 0 then none else (bK b.1.1 (cM .i64 (zJ .i64 (4:Int) a.2.1) (2:Int))).bind λf=>bif dO (8:Int) 0 then none else (bK b.1.1 (cM .i64 (zJ .i64 (4:Int) a.2.1) (3:Int))).bind λc=>bif dE (List.length a.1+List.length ([(BS .i64 (BS .i64 (BS .i64 (zK .i64 (IntKind.wrap .i64 e.1) (24:Int)) (zK .i64 (IntKind.wrap .i64 d.1) (16:Int))) (zK .i64 (IntKind.wrap .i64 f.1) (8:Int))) (IntKind.wrap .i64 c.1),())]:List (D3))) 8 then some (.inl (bV a.1 ([(BS .i64 (BS .i64 (BS .i64 (zK .i64 (IntKind.wrap .i64 e.1) (24:Int)) (zK .i64 (IntKind.wrap .i64 d.1) (16:Int))) (zK .i64 (IntKind.wrap .i64 f.1) (8:Int))) (IntKind.wrap .i64 c.1),())]:List (D3)),(cM .i64 a.2.1 (1:Int),()))) else none else some (.inr (.inl (a.1,(a.2.1,()))))
def IX.b1:(a:JX)->Option UT:=λa=>bif dO a.2.1 (64:Int)then(bK a.1 (gS .i64 a.2.1 (15:Int))).bind λ_=>(aC a.1 (Int.toNat (gS .i64 a.2.1 (15:Int)))).bind λc=>(bK a.1 (gS .i64 a.2.1 (2:Int))).bind λ_=>(aC a.1 (Int.toNat (gS .i64 a.2.1 (2:Int)))).bind λb=>(Gy (c,(((7:Int),()),()))).bind λe=>(Gy (c,(((18:Int),()),()))).bind λf=>bif dO (3:Int) 0 then none else (Gy (b,(((17:Int),()),()))).bind λi=>(Gy (b,(((19:Int),()),()))).bind λh=>bif dO (10:Int) 0 then none else (bK a.1 (gS .i64 a.2.1 (16:Int))).bind λ_=>(aC a.1 (Int.toNat (gS .i64 a.2.1 (16:Int)))).bind λg=>(bK a.1 (gS .i64 a.2.1 (7:Int))).bind λ_=>(aC a.1 (Int.toNat (gS .i64 a.2.1 (7:Int)))).bind λd=>bif dE (List.length a.1+List.length ([(sS .i64 (cM .i64 (cM .i64 (cM .i64 g.1 (qC .i64 (qC .i64 e.1.1 f.1.1) (zL .i64 c.1 (3:Int)))) d.1) (qC .i64 (qC .i64 i.1.1 h.1.1) (zL .i64 b.1 (10:Int)))) (4294967295:Int),())]:List (D3))) 8 then some (.inl (bV a.1 ([(sS .i64 (cM .i64 (cM .i64 (cM .i64 g.1 (qC .i64 (qC .i64 e.1.1 f.1.1) (zL .i64 c.1 (3:Int)))) d.1) (qC .i64 (qC .i64 i.1.1 h.1.1) (zL .i64 b.1 (10:Int)))) (4294967295:Int),())]:List (D3)),(cM .i64 a.2.1 (1:Int),()))) else none else some (.inr (.inl (a.1,(a.2.1,()))))
def IX:Et->Option FH:=λc=>(aR (IX.b0 c) (([]:List (D3)),((0:Int),()))).bind λe=>Sum.elim (λd=>(aR IX.b1 (d.1,((16:Int),()))).bind λb=>Sum.elim (λa=>some ((a.1,()),())) some b) some e
def aj2:zi:=⟨aj0,aj1,IX⟩
def aj3:Gs:=[St,PV,St]
def aj4:=SJ
def IY.b0(y:UM)(f:FH):(a:JX)->Option UT:=λa=>bif dO a.2.1 (64:Int)then(bK a.1 (4:Int)).bind λ_=>(aC a.1 (Int.toNat (4:Int))).bind λb=>(Gy (b,(((6:Int),()),()))).bind λk=>(Gy (b,(((11:Int),()),()))).bind λj=>(Gy (b,(((25:Int),()),()))).bind λl=>(bK a.1 (5:Int)).bind λ_=>(aC a.1 (Int.toNat (5:Int))).bind λg=>(bK a.1 (6:Int)).bind λ_=>(aC a.1 (Int.toNat (6:Int))).bind λi=>(bK a.1 (7:Int)).bind λ_=>(aC a.1 (Int.toNat (7:Int))).bind λh=>(bK y.2.2.1.1 a.2.1).bind λd=>(bK f.1.1 a.2.1).bind λ_=>(aC f.1.1 (Int.toNat a.2.1)).bind λe=>(bK a.1 (0:Int)).bind λ_=>(aC a.1 (Int.toNat (0:Int))).bind λc=>(Gy (c,(((2:Int),()),()))).bind λq=>(Gy (c,(((13:Int),()),()))).bind λw=>(Gy (c,(((22:Int),()),()))).bind λv=>(bK a.1 (1:Int)).bind λ_=>(aC a.1 (Int.toNat (1:Int))).bind λt=>(bK a.1 (2:Int)).bind λ_=>(aC a.1 (Int.toNat (2:Int))).bind λs=>(bK a.1 (1:Int)).bind λ_=>(aC a.1 (Int.toNat (1:Int))).bind λp=>(bK a.1 (2:Int)).bind λ_=>(aC a.1 (Int.toNat (2:Int))).bind λm=>(bK a.1 (1:Int)).bind λ_=>(aC a.1 (Int.toNat (1:Int))).bind λn=>(bK a.1 (2:Int)).bind λ_=>(aC a.1 (Int.toNat (2:Int))).bind λo=>(bK a.1 (3:Int)).bind λ_=>(aC a.1 (Int.toNat (3:Int))).bind λr=>(bK a.1 (5:Int)).bind λ_=>(aC a.1 (Int.toNat (5:Int))).bind λx=>(bK a.1 (6:Int)).bind λ_=>(aC a.1 (Int.toNat (6:Int))).bind λu=>some (.inl (([(sS .i64 (cM .i64 (cM .i64 (cM .i64 (cM .i64 (cM .i64 h.1 (qC .i64 (qC .i64 k.1.1 j.1.1) l.1.1)) (qC .i64 (sS .i64 b.1 g.1) (sS .i64 (qC .i64 (4294967295:Int) b.1) i.1))) d.1) e.1) (cM .i64 (qC .i64 (qC .i64 q.1.1 w.1.1) v.1.1) (qC .i64 (qC .i64 (sS .i64 c.1 t.1) (sS .i64 c.1 s.1)) (sS .i64 p.1 m.1)))) (4294967295:Int),()),c,n,o,(sS .i64 (cM .i64 r.1 (cM .i64 (cM .i64 (cM .i64 (cM .i64 h.1 (qC .i64 (qC .i64 k.1.1 j.1.1) l.1.1)) (qC .i64 (sS .i64 b.1 g.1) (sS .i64 (qC .i64 (4294967295:Int) b.1) i.1))) d.1) e.1)) (4294967295:Int),()),b,x,u]:List (D3)),(cM .i64 a.2.1 (1:Int),()))) else some (.inr (.inl (a.1,(a.2.1,()))))
def IY.b1(e:UM):(a:On)->Option (Sum On (Sum On FH)):=λa=>bif dO a.1 (8:Int)then (bK a.2.1 a.1).bind λ_=>(aC a.2.1 (Int.toNat a.1)).bind λc=>(bK e.1.1 a.1).bind λd=>(bK a.2.1 a.1).bind λ_=>(aC a.2.1 (Int.toNat a.1)).bind λf=>(some (List.set a.2.1 (Int.toNat a.1) (sS .i64 (cM .i64 c.1 d.1) (4294967295:Int),()))).bind λb=>some (.inl (cM .i64 a.1 (1:Int),(b,())))else some (.inr (.inl (a.1,(a.2.1,()))))
def IY:UM->Option FH:=λa=>(IX (a.2.1,())).bind λf=>bif dE (List.length ([]:List (D3))+List.length a.1.1) 8 then (aR (IY.b0 a f) (bV ([]:List (D3)) a.1.1,((0:Int),()))).bind λb=>Sum.elim (λe=>(aR (IY.b1 a) ((0:Int),(e.1,()))).bind λd=>Sum.elim (λc=>some ((c.2.1,()),())) some d) some b else none
def aj5:zi:=⟨aj3,aj4,IY⟩
def aj6:=i7
def aj7:=HL
def Hm.b0(b:FH):(a:So)->Option (Sum So (Sum So Ed)):=λa=>bif dO a.2.1 (List.length a.2.2.1:Int)then bif wq a.2.1 (cM .i64 a.2.1 (64:Int)) (List.length a.2.2.1)then (IY ((a.1,()),((List.take ((Int.toNat (cM .i64 a.2.1 (64:Int)))-(Int.toNat a.2.1)) (List.drop (Int.toNat a.2.1) a.2.2.1),()),(b.1,())))).bind λc=>some (.inl (c.1.1,(cM .i64 a.2.1 (64:Int),(a.2.2.1,())))) else none else some (.inr (.inl (a.1,(a.2.1,(a.2.2.1,())))))
def Hm.b1(b:So):(a:Hg)->Option (Sum Hg (Sum Hg Ed)):=λa=>bif dO a.2.1 (8:Int)then (bK b.1 a.2.1).bind λ_=>(aC b.1 (Int.toNat a.2.1)).bind λe=>bif dO (24:Int) 0 then none else (bK b.1 a.2.1).bind λ_=>(aC b.1 (Int.toNat a.2.1)).bind λf=>bif dO (16:Int) 0 then none else (bK b.1 a.2.1).bind λ_=>(aC b.1 (Int.toNat a.2.1)).bind λc=>bif dO (8:Int) 0 then none else (bK b.1 a.2.1).bind λ_=>(aC b.1 (Int.toNat a.2.1)).bind λd=>bif dE (List.length a.1+List.length ([(IntKind.wrap .u8 (zL .i64 e.1 (24:Int)),()),(IntKind.wrap .u8 (zL .i64 f.1 (16:Int)),()),(IntKind.wrap .u8 (zL .i64 c.1 (8:Int)),()),(IntKind.wrap .u8 d.1,())]:List (D5))) 1 then some (.inl (bV a.1 ([(IntKind.wrap .u8 (zL .i64 e.1 (24:Int)),()),(IntKind.wrap .u8 (zL .i64 f.1 (16:Int)),()),(IntKind.wrap .u8 (zL .i64 c.1 (8:Int)),()),(IntKind.wrap .u8 d.1,())]:List (D5)),(cM .i64 a.2.1 (1:Int),())))else none else some (.inr (.inl (a.1,(a.2.1,()))))
def Hm:Et->Option Ed:=λc=>(IW (c.1,())).bind λf=>(Xf ()).bind λe=>(aR (Hm.b0 e) (([((1779033703:Int),()),((3144134277:Int),()),((1013904242:Int),()),((2773480762:Int),()),((1359893119:Int),()),((2600822924:Int),()),((528734635:Int),()),((1541459225:Int),())]:List (D3)),((0:Int),(f.1.1,())))).bind λd=>Sum.elim (λg=>(aR (Hm.b1 g) (([]:List (D5)),((0:Int),()))).bind λa=>Sum.elim (λb=>some ((bQ b.1,()),())) some a) some d
def aj8:zi:=⟨aj6,aj7,Hm⟩
def aj9:=HL
def ak0:=HL
def SM:Ed->Option Ed:=λa=>bif dE (List.length ([((0:Int),())]:List (D5))+List.length (eo a.1.1)) 1 then (Hm ((bV ([((0:Int),())]:List (D5)) (eo a.1.1),()),())).bind λb=>some (b.1,())else none
def ak1:zi:=⟨aj9,ak0,SM⟩
def ak2:=II
def ak3:=II
def MA.b0(b:rS):(a:i9)->Option KR:=λa=>bif dO (zJ .i64 (2:Int) a.1) b.1.1 then some (.inl (zJ .i64 (2:Int) a.1,())) else some (.inr (.inl (a.1,())))
def MA:rS->Option rS:=λa=>(aR (MA.b0 a) ((1:Int),())).bind λc=>Sum.elim (λb=>some ((b.1,()),())) some c
def ak4:zi:=⟨ak2,ak3,MA⟩
def ak5:Gs:=[PK,PK]
def ak6:=HL
def SN:((ByteArray×Unit)×Ed)->Option Ed:=λa=>bif dE (List.length ([((1:Int),())]:List (D5))+List.length (eo a.1.1)) 1 then bif dE (List.length (bV ([((1:Int),())]:List (D5)) (eo a.1.1))+List.length (eo a.2.1.1)) 1 then (Hm ((bV (bV ([((1:Int),())]:List (D5)) (eo a.1.1)) (eo a.2.1.1),()),())).bind λb=>some (b.1,())else none else none
def ak7:zi:=⟨ak5,ak6,SN⟩
def Xg:=YW
def Xh:=HL
def Qb:(Mq->Option Ed)->Mq->Option Ed:=λr a=>bif gA (List.length a.1.1:Int) (0:Int)then (Hm ((([]:List (D5)),()),())).bind λd=>some (d.1,())else bif gA (List.length a.1.1:Int) (1:Int)then (bK a.1.1 (0:Int)).bind λe=>(SM (e,())).bind λf=>some (f.1,())else (MA (((List.length a.1.1:Int),()),())).bind λb=>bif mX b.1.1 (List.length a.1.1)then (r ((List.take ((Int.toNat b.1.1)-0) (List.drop 0 a.1.1),()),())).bind λg=>bif mX b.1.1 (List.length a.1.1)then (r ((List.take ((List.length a.1.1)-(Int.toNat b.1.1)) (List.drop (Int.toNat b.1.1) a.1.1),()),())).bind λh=>(SN (g.1,(h.1,()))).bind λc=>some (c.1,()) else none else none
def KY:Nat->Mq->Option Ed|0=>λ_=>none|k+1=>Qb (KY k)
def Vd:Mq->Option Ed:=sY KY
def ak8:zi:=⟨Xg,Xh,Vd⟩
def ak9(k:Nat):zi:=⟨Xg,Xh,KY k⟩
def al0:=YW
def al1:=HL
def SO:Mq->Option Ed:=λa=>bif dO (64:Int) (List.length a.1.1:Int)then some ((⟨#[]⟩,()),())else (Vd (a.1,())).bind λb=>some (b.1,())
def al2:zi:=⟨al0,al1,SO⟩
def al3:=P1
def al4:=HL
def KZ.b0(b:th):(a:(List (D9)×i9))->Option (Sum (List (D9)×i9) (Sum (List (D9)×i9) Ed)):=λa=>bif dO a.2.1 (List.length b.1.2.1:Int) then (bK b.1.2.1 a.2.1).bind λd=>(Mz (d,())).bind λc=>bif dE (List.length a.1+List.length ([c.1]:List (D9))) 16 then some (.inl (bV a.1 ([c.1]:List (D9)),(cM .i64 a.2.1 (1:Int),()))) else none else some (.inr (.inl (a.1,(a.2.1,()))))
def KZ:th->Option Ed:=λa=>(Sf (a.1,())).bind λd=>bif (!d.1.1)then some ((⟨#[]⟩,()),())else (aR (KZ.b0 a) (([]:List (D9)),((0:Int),()))).bind λb=>Sum.elim (λe=>(SO ((e.1,()),())).bind λc=>some (c.1,())) some b
def al5:zi:=⟨al3,al4,KZ⟩
def al6:Gs:=[Ot,Ss,El,Mu]
def al7:Gs:=[Su,PT,WT,PK]
def Ka.b0(b:(IH×(Gu×(i9×Hh)))):(a:(List (cp)×Hj))->Option (Sum (List (cp)×Hj) (Sum (List (cp)×Hj) ((Gv×(IM×(JV×Ed)))))):=λa=>bif dO a.2.1 (List.length b.2.2.2.1.1:Int)then bif dO (List.length a.1:Int) (4:Int)then (bK b.2.2.2.1.1 a.2.1).bind λe=>(Gw ((a.2.2.1,(a.2.2.2.1,())),(e,()))).bind λc=>bif gA c.2.1.1 (0:Int)then (bK b.2.2.2.1.1 a.2.1).bind λd=>bif dE (List.length a.1+List.length ([d]:List (cp))) 56 then some (.inl (bV a.1 ([d]:List (cp)),(cM .i64 a.2.1 (1:Int),(c.1.1,(c.1.2.1,())))))else none else some (.inl (a.1,(cM .i64 a.2.1 (1:Int),(a.2.2.1,(a.2.2.2.1,())))))else some (.inr (.inl (a.1,(a.2.1,(a.2.2.1,(a.2.2.2.1,()))))))else some (.inr (.inl (a.1,(a.2.1,(a.2.2.1,(a.2.2.2.1,()))))))
def Ka:(IH×(Gu×(i9×Hh)))->Option ((Gv×(IM×(JV×Ed)))):=λa=>(P9 (a.2.1,(a.2.2.1,()))).bind λi=>bif (!i.1.1)then some ((([]:List (cp)),()),((false,()),((([]:List (df)),()),((⟨#[]⟩,()),()))))else (KW (a.2.1,(a.2.2.1,()))).bind λh=>bif h.1.1 then some ((([]:List (cp)),()),((false,()),((([]:List (df)),()),((⟨#[]⟩,()),()))))else (KX (a.1,(a.2.1,(a.2.2.1,())))).bind λd=>(aR (Ka.b0 a) (([]:List (cp)),((0:Int),(d.1.1,(d.1.2.1,()))))).bind λj=>Sum.elim (λb=>(Fm (a.2.1,(a.2.2.1,()))).bind λe=>bif !gA (List.length e.1.1:Int) (1:Int)then some ((b.1,()),((false,()),((([]:List (df)),()),((⟨#[]⟩,()),()))))else (u4 ((b.2.2.1,(b.2.2.2.1,())),())).bind λc=>(Xe (c.1,())).bind λf=>(KZ (c.1,())).bind λg=>some ((b.1,()),((true,()),(f.1,(g.1,()))))) some j
def al8:zi:=⟨al6,al7,Ka⟩
def al9:Gs:=[PZ,El]
def am0:=W8
def Oy:(Gt×rS)->Option Eu:=λa=>(Fk ((a.1.2.2.2.2.2.2.2.2.1,(a.1.2.2.2.2.2.2.2.2.2.1,(a.1.2.2.2.2.2.2.2.2.2.2.1,()))),())).bind λe=>Option.bind (bif !gA a.1.2.2.2.2.2.2.2.2.1 (gS .i64 a.1.2.2.2.2.2.2.1 (1:Int))then (HM ((a.1.2.2.2.2.2.2.2.2.2.2.2.1,(a.1.2.2.2.2.2.2.2.2.2.2.2.2.1,(a.1.2.2.2.2.2.2.2.2.2.2.2.2.2.1,()))),())).bind λd=>some (.inl (d.1.1,(d.1.2.1,(d.1.2.2.1,()))))else some (.inl ((0:Int),([],([],()))))) λf=>Sum.elim (λc=>(Ka ((a.1.2.2.1,(a.1.2.2.2.1,())),((a.1.2.2.2.2.2.1,()),((a.1.2.2.2.2.2.2.2.2.2.1,()),((a.1.2.2.2.2.2.2.2.2.2.2.2.2.2.2.2.2.2.2.1,()),()))))).bind λb=>some ((a.2.1.1,(a.1.2.1,(a.1.2.2.2.2.2.2.1,(a.1.1,(e.1.1,(e.1.2.1,(e.1.2.2.1,(c.1,(c.2.1,(c.2.2.1,(b.1.1,(b.2.1.1,(b.2.2.1.1,(b.2.2.2.1.1,())))))))))))))),())) some f
def am1:zi:=⟨al9,am0,Oy⟩
def Xi:Gs:=[Ml,U0]
def am2:Gs:=[U4,Ml,U0]
def MB.b0(c:u3)(d:D9):(a:(List (D5)×(Int×s7)))->Option (Sum (List (D5)×(Int×s7)) (Sum (List (D5)×(Int×s7)) (Sum (List (D5)×(Int×(Int×(Int×(Int×(Int×(ByteArray×(Int×(Int×(List (D9)×(Int×(Int×(ByteArray×Sr))))))))))))) ((By×Ms))))):=λa=>bif dO a.2.2.2.1 (9990:Int)then (J4 ((c.1.2.2.2.2.1,()),((a.2.2.2.1,()),()))).bind λe=>bif !ko e.1.1 d.1 then (FL ((c.1.2.2.2.2.1,()),(d,()))).bind λf=>bif f.1.1 then (P0 ((a.1,(a.2.1,(a.2.2.1,()))),(((2:Int),()),()))).bind λb=>bif b.1.1 then some (.inl (b.2.1.1,(b.2.1.2.1,(b.2.1.2.2.1,(cM .i64 a.2.2.2.1 (1:Int),())))))else some (.inr (.inl (b.2.1.1,(b.2.1.2.1,(b.2.1.2.2.1,(a.2.2.2.1,()))))))else some (.inr (.inl (a.1,(a.2.1,(a.2.2.1,(a.2.2.2.1,()))))))else some (.inr (.inl (a.1,(a.2.1,(a.2.2.1,(a.2.2.2.1,()))))))else some (.inr (.inl (a.1,(a.2.1,(a.2.2.1,(a.2.2.2.1,()))))))
def MB:Ms->Option ((By×Ms)):=λd=>(IJ (d.1,(((List.length d.2.1.2.2.2.1:Int),()),()))).bind λh=>(bK d.2.1.2.2.2.1 h.1.1).bind λ_=>(aC d.2.1.2.2.2.1 (Int.toNat h.1.1)).bind λa=>(IJ (h.2.1,(((List.length d.2.1.2.2.1:Int),()),()))).bind λu=>(bK d.2.1.2.2.1 u.1.1).bind λm=>(IJ (u.2.1,(((2:Int),()),()))).bind λs=>Option.bind (bif dO (gS .i64 a.2.2.2.2.2.2.1 s.1.1) (1:Int)then some (.inl ((1:Int),()))else some (.inl (gS .i64 a.2.2.2.2.2.2.1 s.1.1,()))) λG=>Sum.elim (λI=>Option.bind ((IJ (s.2.1,(((4:Int),()),()))).bind λj=>Option.bind (bif gA j.1.1 (0:Int) then some (.inl (true,())) else some (.inl (gA j.1.1 (1:Int),()))) λB=>Sum.elim (λH=>bif H.1 then (IJ (j.2.1,((cM .i64 (List.length d.2.1.2.2.2.2.1:Int) (1:Int),()),()))).bind λk=>bif dO (0:Int) (List.length a.2.2.2.2.2.1:Int) then (IJ (k.2.1,(((List.length a.2.2.2.2.2.1:Int),()),()))).bind λn=>bif gA (2:Int) 0 then none else (bK a.2.2.2.2.2.1 (gS .i64 (gS .i64 (List.length a.2.2.2.2.2.1:Int) (1:Int)) (AV .i64 n.1.1 (2:Int)))).bind λt=>some (.inl (n.2.1.1,(n.2.1.2.1,(n.2.1.2.2.1,((2:Int),(t.2.2.1,(t.1,(m.1,((0:Int),((-1:Int),([],((0:Int),((0:Int),(⟨#[]⟩,([],()))))))))))))))) else some (.inl (k.2.1.1,(k.2.1.2.1,(k.2.1.2.2.1,((2:Int),(I.1,(k.1.1,(m.1,((0:Int),((-1:Int),([],((0:Int),((0:Int),(⟨#[]⟩,([],()))))))))))))))) else bif gA j.1.1 (2:Int) then (Fk ((a.2.2.2.2.2.2.2.2.1,(a.2.2.2.2.2.2.2.2.2.1,(a.2.2.2.2.2.2.2.2.2.2.1,()))),())).bind λr=>Option.bind ((P0 (j.2.1,(((2:Int),()),()))).bind λf=>bif f.1.1 then some (.inl (f.2.1.1,(f.2.1.2.1,(f.2.1.2.2.1,((0:Int),((-1:Int),([],()))))))) else some (.inl (f.2.1.1,(f.2.1.2.1,(f.2.1.2.2.1,(r.1.1,(r.1.2.1,(r.1.2.2.1,())))))))) λA=>Sum.elim (λe=>some (.inl (e.1,(e.2.1,(e.2.2.1,((3:Int),((0:Int),((0:Int),(⟨#[]⟩,(e.2.2.2.1,(e.2.2.2.2.1,(e.2.2.2.2.2.1,(a.2.2.2.2.2.2.1,(e.2.2.2.1,(m.1,([],())))))))))))))))) some A else (aC d.2.1.2.2.2.1 (Int.toNat h.1.1)).bind λD=>(aC d.2.1.2.2.2.1 (Int.toNat h.1.1)).bind λv=>(aC d.2.1.2.2.2.1 (Int.toNat h.1.1)).bind λw=>(aC d.2.1.2.2.2.1 (Int.toNat h.1.1)).bind λC=>(J5 ((a.1,(a.2.1,(a.2.2.1,(a.2.2.2.1,(a.2.2.2.2.1,(a.2.2.2.2.2.1,(a.2.2.2.2.2.2.1,(a.2.2.2.2.2.2.2.1,(a.2.2.2.2.2.2.2.2.1,(a.2.2.2.2.2.2.2.2.2.1,(a.2.2.2.2.2.2.2.2.2.2.1,(a.2.2.2.2.2.2.2.2.2.2.2.1,(a.2.2.2.2.2.2.2.2.2.2.2.2.1,(a.2.2.2.2.2.2.2.2.2.2.2.2.2.1,(a.2.2.2.2.2.2.2.2.2.2.2.2.2.2.1,(D.2.2.2.2.2.2.2.2.2.2.2.2.2.2.2.1,(v.2.2.2.2.2.2.2.2.2.2.2.2.2.2.2.2.1,(w.2.2.2.2.2.2.2.2.2.2.2.2.2.2.2.2.2.1,(a.2.2.2.2.2.2.2.2.2.2.2.2.2.2.2.2.2.2.1,(C.2.2.2.2.2.2.2.2.2.2.2.2.2.2.2.2.2.2.2.1,())))))))))))))))))))),())).bind λb=>Option.bind ((P0 (j.2.1,(((2:Int),()),()))).bind λg=>bif g.1.1 then some (.inl (g.2.1.1,(g.2.1.2.1,(g.2.1.2.2.1,((0:Int),((-1:Int),([],()))))))) else some (.inl (g.2.1.1,(g.2.1.2.1,(g.2.1.2.2.1,(b.1.2.2.2.2.2.2.2.2.1,(b.1.2.2.2.2.2.2.2.2.2.1,(b.1.2.2.2.2.2.2.2.2.2.2.1,())))))))) λy=>Sum.elim (λi=>Option.bind ((P0 ((i.1,(i.2.1,(i.2.2.1,()))),(((2:Int),()),()))).bind λl=>bif l.1.1 then (My (l.2.1,(((3:Int),()),()))).bind λp=>some (.inl (p.2.1.1,(p.2.1.2.1,(p.2.1.2.2.1,(p.1.1,()))))) else some (.inl (l.2.1.1,(l.2.1.2.1,(l.2.1.2.2.1,(b.1.2.2.2.2.2.2.2.2.2.2.2.2.2.2.2.2.2.2.1,())))))) λF=>Sum.elim (λq=>(aR (MB.b0 b m) (q.1,(q.2.1,(q.2.2.1,(b.1.2.2.2.2.2.2.1,()))))).bind λE=>Sum.elim (λo=>(Oy ((m.1,(b.1.2.1,(b.1.2.2.1,(b.1.2.2.2.1,(b.1.2.2.2.2.1,(b.1.2.2.2.2.2.1,(o.2.2.2.1,(b.1.2.2.2.2.2.2.2.1,(i.2.2.2.1,(i.2.2.2.2.1,(i.2.2.2.2.2.1,(b.1.2.2.2.2.2.2.2.2.2.2.2.1,(b.1.2.2.2.2.2.2.2.2.2.2.2.2.1,(b.1.2.2.2.2.2.2.2.2.2.2.2.2.2.1,(b.1.2.2.2.2.2.2.2.2.2.2.2.2.2.2.1,(b.1.2.2.2.2.2.2.2.2.2.2.2.2.2.2.2.1,(b.1.2.2.2.2.2.2.2.2.2.2.2.2.2.2.2.2.1,(b.1.2.2.2.2.2.2.2.2.2.2.2.2.2.2.2.2.2.1,(q.2.2.2.1,(b.1.2.2.2.2.2.2.2.2.2.2.2.2.2.2.2.2.2.2.2.1,())))))))))))))))))))),(((List.length d.2.1.2.2.2.2.1:Int),()),()))).bind λz=>some (.inl (o.1,(o.2.1,(o.2.2.1,((1:Int),((0:Int),((0:Int),(⟨#[]⟩,((0:Int),((-1:Int),([],((0:Int),((0:Int),(⟨#[]⟩,(([z.1]:List (uf)),())))))))))))))))) some E) some F) some y) some B) λx=>Sum.elim (λc=>some ((c.2.2.2.1,(a.1,(a.2.1,(c.2.2.2.2.2.2.2.2.2.2.2.2.2.1,(c.2.2.2.2.1,(c.2.2.2.2.2.1,(c.2.2.2.2.2.2.1,(c.2.2.2.2.2.2.2.2.2.2.1,(c.2.2.2.2.2.2.2.2.2.2.2.1,(c.2.2.2.2.2.2.2.2.2.2.2.2.1,(c.2.2.2.2.2.2.2.1,(c.2.2.2.2.2.2.2.2.1,(c.2.2.2.2.2.2.2.2.2.1,((0:Int),([],([],())))))))))))))))),((c.1,(c.2.1,(c.2.2.1,()))),(d.2.1,())))) some x) some G
def am3:zi:=⟨Xi,am2,MB⟩
def i62:=Xi
def o62:Gs:=[⟨.agg,UJ,m8⟩,Ml,U0]
def Ve.b0(c:Ms):(a:s7)->Option (Sum s7 (Sum s7 (Sum (List (D5)×(Int×(Int×(Int×(Int×(Int×(Int×(ByteArray×(ByteArray×(Int×(Int×(List (Gt)×(List (uf)×(List (sb)×(List (By)×(Int×(ByteArray×(Int×(List (uf)×(Int×(Int×(ByteArray×(Int×(Int×(ByteArray×(Int×(Int×(List (D9)×Mp)))))))))))))))))))))))))))) ((PS×Ms))))):=λa=>bif dO a.1 (List.length c.2.1.2.2.2.1:Int)then (bK c.2.1.2.2.2.1 a.1).bind λ_=>(aC c.2.1.2.2.2.1 (Int.toNat a.1)).bind λb=>(J4 ((b.2.2.2.2.1,()),((b.2.2.2.2.2.2.1,()),()))).bind λd=>bif ko d.1.1 b.1 then bif dO b.2.2.2.2.2.2.2.2.2.2.2.2.2.2.1 b.2.2.2.2.2.2.1 then some (.inl (cM .i64 a.1 (1:Int),(a.1,())))else some (.inl (cM .i64 a.1 (1:Int),(a.2.1,())))else some (.inl (cM .i64 a.1 (1:Int),(a.2.1,())))else some (.inr (.inl (a.1,(a.2.1,()))))
def Ve:Ms->Option ((PS×Ms)):=λa=>Option.bind (bif dO (0:Int) (List.length a.2.1.2.2.2.2.2.2.1:Int)then (P0 (a.1,(((3:Int),()),()))).bind λg=>bif (!g.1.1)then (J0 (g.2.1,((([((6:Int),()),((6:Int),()),((6:Int),()),((6:Int),()),((6:Int),()),((6:Int),()),((7:Int),()),((8:Int),())]:List (D3)),()),()))).bind λm=>(IJ (m.2.1,(((List.length a.2.1.2.2.2.2.2.2.1:Int),()),()))).bind λl=>some (.inr ((m.1.1,(l.1.1,((0:Int),((0:Int),(⟨#[]⟩,(⟨#[]⟩,((0:Int),((0:Int),((0:Int),(⟨#[]⟩,((0:Int),([],((0:Int),((0:Int),(⟨#[]⟩,((0:Int),((0:Int),(⟨#[]⟩,((0:Int),((0:Int),([],((0:Int),([],([],())))))))))))))))))))))))),(l.2.1,(a.2.1,()))))else some (.inl (g.2.1.1,(g.2.1.2.1,(g.2.1.2.2.1,()))))else some (.inl (a.1.1,(a.1.2.1,(a.1.2.2.1,()))))) λw=>Sum.elim (λj=>(IJ ((j.1,(j.2.1,(j.2.2.1,()))),(((List.length a.2.1.2.2.2.1:Int),()),()))).bind λe=>Option.bind ((IJ (e.2.1,(((12:Int),()),()))).bind λd=>Option.bind (bif gA d.1.1 (0:Int) then some (.inl (true,())) else bif gA d.1.1 (1:Int) then some (.inl (true,())) else bif gA d.1.1 (2:Int) then some (.inl (true,())) else some (.inl (gA d.1.1 (3:Int),()))) λu=>Sum.elim (λv=>bif v.1 then (aR (Ve.b0 a) ((0:Int),(e.1.1,()))).bind λs=>Sum.elim (λq=>some (.inl (d.2.1.1,(d.2.1.2.1,(d.2.1.2.2.1,((1:Int),(q.2.1,((0:Int),((0:Int),(⟨#[]⟩,(⟨#[]⟩,((0:Int),((0:Int),(a.2.1.2.2.2.1,(a.2.1.2.2.2.2.1,(a.2.1.2.2.2.2.2.1,(a.2.1.2.2.2.2.2.2.1,((0:Int),(⟨#[]⟩,((0:Int),([],((0:Int),((0:Int),(⟨#[]⟩,((0:Int),((0:Int),(⟨#[]⟩,((0:Int),((0:Int),([],((0:Int),([],([],()))))))))))))))))))))))))))))))))) some s else Option.bind (bif gA d.1.1 (4:Int) then some (.inl (true,())) else some (.inl (gA d.1.1 (5:Int),()))) λp=>Sum.elim (λn=>bif n.1 then some (.inl (d.2.1.1,(d.2.1.2.1,(d.2.1.2.2.1,((2:Int),(e.1.1,((0:Int),((0:Int),(⟨#[]⟩,(⟨#[]⟩,((0:Int),((0:Int),(a.2.1.2.2.2.1,(a.2.1.2.2.2.2.1,(a.2.1.2.2.2.2.2.1,(a.2.1.2.2.2.2.2.2.1,((0:Int),(⟨#[]⟩,((0:Int),([],((0:Int),((0:Int),(⟨#[]⟩,((0:Int),((0:Int),(⟨#[]⟩,((0:Int),((0:Int),([],((0:Int),([],([],())))))))))))))))))))))))))))))))) else bif gA d.1.1 (6:Int) then (IJ (d.2.1,(((List.length a.2.1.2.2.2.1:Int),()),()))).bind λh=>some (.inl (h.2.1.1,(h.2.1.2.1,(h.2.1.2.2.1,((3:Int),(e.1.1,(h.1.1,((0:Int),(⟨#[]⟩,(⟨#[]⟩,((0:Int),((0:Int),(a.2.1.2.2.2.1,(a.2.1.2.2.2.2.1,(a.2.1.2.2.2.2.2.1,(a.2.1.2.2.2.2.2.2.1,((0:Int),(⟨#[]⟩,((0:Int),([],((0:Int),((0:Int),(⟨#[]⟩,((0:Int),((0:Int),(⟨#[]⟩,((0:Int),((0:Int),([],((0:Int),([],([],())))))))))))))))))))))))))))))))) else Option.bind (bif gA d.1.1 (7:Int) then some (.inl (true,())) else some (.inl (gA d.1.1 (8:Int),()))) λt=>Sum.elim (λr=>bif r.1 then (bK a.2.1.2.2.2.1 e.1.1).bind λ_=>(aC a.2.1.2.2.2.1 (Int.toNat e.1.1)).bind λk=>(SC (d.2.1,((k.2.2.1,(k.2.2.2.1,())),()))).bind λf=>(J0 (f.2.1,((([((1:Int),()),((2:Int),()),((3:Int),())]:List (D3)),()),()))).bind λi=>some (.inl (i.2.1.1,(i.2.1.2.1,(i.2.1.2.2.1,((4:Int),(e.1.1,((0:Int),(f.1.1,(f.1.2.1,(f.1.2.2.1,(i.1.1,(f.1.2.2.2.2.1,(a.2.1.2.2.2.1,(a.2.1.2.2.2.2.1,(a.2.1.2.2.2.2.2.1,(a.2.1.2.2.2.2.2.2.1,((0:Int),(⟨#[]⟩,((0:Int),([],((0:Int),((0:Int),(⟨#[]⟩,((0:Int),((0:Int),(⟨#[]⟩,((0:Int),((0:Int),([],((0:Int),([],([],())))))))))))))))))))))))))))))))) else bif gA d.1.1 (9:Int) then some (.inl (d.2.1.1,(d.2.1.2.1,(d.2.1.2.2.1,((5:Int),(e.1.1,((0:Int),((0:Int),(⟨#[]⟩,(⟨#[]⟩,((0:Int),((0:Int),(a.2.1.2.2.2.1,(a.2.1.2.2.2.2.1,(a.2.1.2.2.2.2.2.1,(a.2.1.2.2.2.2.2.2.1,((0:Int),(⟨#[]⟩,((0:Int),([],((0:Int),((0:Int),(⟨#[]⟩,((0:Int),((0:Int),(⟨#[]⟩,((0:Int),((0:Int),([],((0:Int),([],([],())))))))))))))))))))))))))))))))) else bif gA (List.length a.2.1.2.2.1:Int) (0:Int) then some (.inr (((2:Int),(e.1.1,((0:Int),((0:Int),(⟨#[]⟩,(⟨#[]⟩,((0:Int),((0:Int),((0:Int),(⟨#[]⟩,((0:Int),([],((0:Int),((0:Int),(⟨#[]⟩,((0:Int),((0:Int),(⟨#[]⟩,((0:Int),((0:Int),([],((0:Int),([],([],())))))))))))))))))))))))),(d.2.1,(a.2.1,())))) else (MB (d.2.1,(a.2.1,()))).bind λc=>some (.inl (c.2.1.1,(c.2.1.2.1,(c.2.1.2.2.1,((9:Int),(e.1.1,((0:Int),((0:Int),(⟨#[]⟩,(⟨#[]⟩,((0:Int),((0:Int),(c.2.2.1.2.2.2.1,(c.2.2.1.2.2.2.2.1,(c.2.2.1.2.2.2.2.2.1,(c.2.2.1.2.2.2.2.2.2.1,(c.1.1,(c.1.2.1,(c.1.2.2.1,(c.1.2.2.2.1,(c.1.2.2.2.2.1,(c.1.2.2.2.2.2.1,(c.1.2.2.2.2.2.2.1,(c.1.2.2.2.2.2.2.2.1,(c.1.2.2.2.2.2.2.2.2.1,(c.1.2.2.2.2.2.2.2.2.2.1,(c.1.2.2.2.2.2.2.2.2.2.2.1,(c.1.2.2.2.2.2.2.2.2.2.2.2.1,(c.1.2.2.2.2.2.2.2.2.2.2.2.2.1,(c.1.2.2.2.2.2.2.2.2.2.2.2.2.2.1,(c.1.2.2.2.2.2.2.2.2.2.2.2.2.2.2.1,(c.1.2.2.2.2.2.2.2.2.2.2.2.2.2.2.2.1,()))))))))))))))))))))))))))))))))) some t) some p) some u) λo=>Sum.elim (λb=>some ((b.2.2.2.1,(b.2.2.2.2.1,(b.2.2.2.2.2.1,(b.2.2.2.2.2.2.1,(b.2.2.2.2.2.2.2.1,(b.2.2.2.2.2.2.2.2.1,(b.2.2.2.2.2.2.2.2.2.1,(b.2.2.2.2.2.2.2.2.2.2.1,(b.2.2.2.2.2.2.2.2.2.2.2.2.2.2.2.1,(b.2.2.2.2.2.2.2.2.2.2.2.2.2.2.2.2.1,(b.2.2.2.2.2.2.2.2.2.2.2.2.2.2.2.2.2.1,(b.2.2.2.2.2.2.2.2.2.2.2.2.2.2.2.2.2.2.1,(b.2.2.2.2.2.2.2.2.2.2.2.2.2.2.2.2.2.2.2.1,(b.2.2.2.2.2.2.2.2.2.2.2.2.2.2.2.2.2.2.2.2.1,(b.2.2.2.2.2.2.2.2.2.2.2.2.2.2.2.2.2.2.2.2.2.1,(b.2.2.2.2.2.2.2.2.2.2.2.2.2.2.2.2.2.2.2.2.2.2.1,(b.2.2.2.2.2.2.2.2.2.2.2.2.2.2.2.2.2.2.2.2.2.2.2.1,(b.2.2.2.2.2.2.2.2.2.2.2.2.2.2.2.2.2.2.2.2.2.2.2.2.1,(b.2.2.2.2.2.2.2.2.2.2.2.2.2.2.2.2.2.2.2.2.2.2.2.2.2.1,(b.2.2.2.2.2.2.2.2.2.2.2.2.2.2.2.2.2.2.2.2.2.2.2.2.2.2.1,(b.2.2.2.2.2.2.2.2.2.2.2.2.2.2.2.2.2.2.2.2.2.2.2.2.2.2.2.1,(b.2.2.2.2.2.2.2.2.2.2.2.2.2.2.2.2.2.2.2.2.2.2.2.2.2.2.2.2.1,(b.2.2.2.2.2.2.2.2.2.2.2.2.2.2.2.2.2.2.2.2.2.2.2.2.2.2.2.2.2.1,(b.2.2.2.2.2.2.2.2.2.2.2.2.2.2.2.2.2.2.2.2.2.2.2.2.2.2.2.2.2.2.1,())))))))))))))))))))))))),((b.1,(b.2.1,(b.2.2.1,()))),((a.2.1.1,(a.2.1.2.1,(a.2.1.2.2.1,(b.2.2.2.2.2.2.2.2.2.2.2.1,(b.2.2.2.2.2.2.2.2.2.2.2.2.1,(b.2.2.2.2.2.2.2.2.2.2.2.2.2.1,(b.2.2.2.2.2.2.2.2.2.2.2.2.2.2.1,()))))))),())))) some o) some w
def c62:zi:=⟨i62,o62,Ve⟩
def SP:Gs:=[PX]
def am4:Gs:=[U4]
def IZ:Ek->Option Ek:=λa=>(BE ((a.1.2.2.2.1,()),())).bind λd=>(Fk ((a.1.2.2.2.2.2.2.2.2.2.2.1,(a.1.2.2.2.2.2.2.2.2.2.2.2.1,(a.1.2.2.2.2.2.2.2.2.2.2.2.2.1,()))),())).bind λb=>(HM ((a.1.2.2.2.2.2.2.2.2.2.2.2.2.2.1,(a.1.2.2.2.2.2.2.2.2.2.2.2.2.2.2.1,(a.1.2.2.2.2.2.2.2.2.2.2.2.2.2.2.2.1,()))),())).bind λc=>some ((a.1.1,(a.1.2.1,(a.1.2.2.1,(d.1.1,(a.1.2.2.2.2.1,(a.1.2.2.2.2.2.1,(a.1.2.2.2.2.2.2.1,(a.1.2.2.2.2.2.2.2.1,(a.1.2.2.2.2.2.2.2.2.1,(a.1.2.2.2.2.2.2.2.2.2.1,(b.1.1,(b.1.2.1,(b.1.2.2.1,(c.1.1,(c.1.2.1,(c.1.2.2.1,())))))))))))))))),())
def am5:zi:=⟨SP,am4,IZ⟩
def i73:Gs:=[⟨.agg,Wu,[]⟩,PK]
def o73:=II
def PM.b0(b:(IK×Ed)):(a:i9)->Option KR:=λa=>bif dO a.1 (List.length b.1.2.2.2.1:Int)then(bK b.1.2.2.2.1 a.1).bind λc=>bif ko c.1 b.2.1.1 then some (.inr (.inr ((a.1,()),())))else some (.inl (cM .i64 a.1 (1:Int),()))else some (.inr (.inl (a.1,())))
def PM:(IK×Ed)->Option rS:=λa=>(aR (PM.b0 a) ((0:Int),())).bind λb=>Sum.elim (λc=>some (((-1:Int),()),())) some b
def c73:zi:=⟨i73,o73,PM⟩
def Oz:Gs:=[PU,Uo]
def am6:=o7
def I0.b0(b:IQ):(a:i9)->Option EO:=λa=>bif dO a.1 (List.length b.2.1.1:Int)then(bK b.2.1.1 a.1).bind λc=>(FL (b.1,(c,()))).bind λd=>bif (!d.1.1)then some (.inr (.inr ((false,()),())))else some (.inl (cM .i64 a.1 (1:Int),()))else some (.inr (.inl (a.1,())))
def I0:IQ->Option la:=λa=>(aR (I0.b0 a) ((0:Int),())).bind λb=>Sum.elim (λd=>(Nk (a.2.1,())).bind λc=>some (c.1,())) some b
def am7:zi:=⟨Oz,am6,I0⟩
def i66:=Oz
def o66:=II
def SQ.b0(b:IQ):(a:s7)->Option JW:=λa=>bif dO a.2.1 (List.length b.1.1:Int)then(bK b.1.1 a.2.1).bind λc=>(FK (b.2.1,((c.1,()),()))).bind λd=>bif d.1.1 then (bK b.1.1 a.2.1).bind λe=>some (.inl (cM .i64 a.1 e.2.1,(cM .i64 a.2.1 (1:Int),())))else some (.inl (a.1,(cM .i64 a.2.1 (1:Int),())))else some (.inr (.inl (a.1,(a.2.1,()))))
def SQ:IQ->Option rS:=λa=>(aR (SQ.b0 a) ((0:Int),((0:Int),()))).bind λc=>Sum.elim (λb=>some ((b.1,()),())) some c
def c66:zi:=⟨i66,o66,SQ⟩
def i67:=P7
def o67:=II
def SR.b0(b:C8):(a:s7)->Option JW:=λa=>bif dO a.2.1 (List.length b.1.1:Int)then(bK b.1.1 a.2.1).bind λc=>some (.inl (cM .i64 a.1 c.2.1,(cM .i64 a.2.1 (1:Int),())))else some (.inr (.inl (a.1,(a.2.1,()))))
def SR:C8->Option rS:=λa=>(aR (SR.b0 a) ((0:Int),((0:Int),()))).bind λb=>Sum.elim (λc=>some ((c.1,()),())) some b
def c67:zi:=⟨i67,o67,SR⟩
def am8:=Oz
def am9:=o7
def SS:IQ->Option la:=λa=>(SQ (a.1,(a.2.1,()))).bind λc=>(SR (a.1,())).bind λb=>some ((dO (zJ .i64 (2:Int) b.1.1) (zJ .i64 (3:Int) c.1.1),()),())
def an0:zi:=⟨am8,am9,SS⟩
def Xj:Gs:=[PU,IS]
def an1:=o7
def K0:(JV×E1)->Option la:=λa=>(J6 (a.2.1,())).bind λd=>bif d.1.1 then some ((true,()),())else (k0 ((a.2.1.1,()),(((1:Int),()),(((10000:Int),()),())))).bind λc=>bif c.1.1 then (k0 ((a.2.1.2.1,()),(((0:Int),()),(((100000:Int),()),())))).bind λe=>bif e.1.1 then (I0 (a.1,((a.2.1.2.2.1,()),()))).bind λb=>bif b.1.1 then (SS (a.1,((a.2.1.2.2.1,()),()))).bind λf=>some (f.1,())else some ((false,()),())else some ((false,()),())else some ((false,()),())
def an2:zi:=⟨Xj,an1,K0⟩
def an3:Gs:=[PU,Mt]
def an4:=o7
def HP.b0(b:(JV×Fj)):(a:i9)->Option EO:=λa=>bif dO a.1 (List.length b.2.1.2.2.1:Int)then(bK b.2.1.2.2.1 a.1).bind λc=>(k0 (c,(((0:Int),()),((gS .i64 b.2.1.1 (1:Int),()),())))).bind λd=>bif (!d.1.1)then some (.inr (.inr ((false,()),())))else some (.inl (cM .i64 a.1 (1:Int),()))else some (.inr (.inl (a.1,())))
def HP:(JV×Fj)->Option la:=λa=>(Hk (a.2.1,())).bind λe=>bif e.1.1 then some ((true,()),())else (k0 ((a.2.1.1,()),(((1:Int),()),(((10000:Int),()),())))).bind λd=>bif (!d.1.1)then some ((false,()),())else (I0 (a.1,((a.2.1.2.1,()),()))).bind λf=>bif (!f.1.1)then some ((false,()),())else (SS (a.1,((a.2.1.2.1,()),()))).bind λb=>bif (!b.1.1)then some ((false,()),())else bif !gA (List.length a.2.1.2.2.1:Int) (List.length a.2.1.2.1:Int)then some ((false,()),())else (aR (HP.b0 a) ((0:Int),())).bind λc=>Sum.elim (λg=>some ((true,()),())) some c
def an5:zi:=⟨an3,an4,HP⟩
def an6:=P4
def an7:=II
def Gz.b0(b:Fj):(a:s7)->Option JW:=λa=>bif dO a.2.1 (List.length b.1.2.2.1:Int)then(bK b.1.2.2.1 a.2.1).bind λd=>bif dO a.1 d.1 then(bK b.1.2.2.1 a.2.1).bind λc=>some (.inl (c.1,(cM .i64 a.2.1 (1:Int),())))else some (.inl (a.1,(cM .i64 a.2.1 (1:Int),())))else some (.inr (.inl (a.1,(a.2.1,()))))
def Gz:Fj->Option rS:=λa=>(aR (Gz.b0 a) ((0:Int),((0:Int),()))).bind λb=>Sum.elim (λc=>some ((c.1,()),())) some b
def an8:zi:=⟨an6,an7,Gz⟩
def an9:=Mx
def ao0:=o7
def K1:Eu->Option la:=λa=>Option.bind (bif gA a.1.2.2.2.2.1 (gS .i64 a.1.2.2.1 (1:Int))then(Hk ((a.1.2.2.2.2.2.2.2.1,(a.1.2.2.2.2.2.2.2.2.1,(a.1.2.2.2.2.2.2.2.2.2.1,()))),())).bind λd=>bif d.1.1 then some (.inr ((true,()),()))else some (.inl ())else some (.inl ())) λb=>Sum.elim (λe=>bif gA a.1.2.2.2.2.2.2.2.1 (gS .i64 a.1.2.2.1 (1:Int)) then bif dO (0:Int) a.1.2.2.2.2.2.2.2.1 then (Gz ((a.1.2.2.2.2.2.2.2.1,(a.1.2.2.2.2.2.2.2.2.1,(a.1.2.2.2.2.2.2.2.2.2.1,()))),())).bind λc=>some ((km c.1.1 a.1.2.2.2.2.1,()),()) else some ((false,()),()) else some ((false,()),())) some b
def ao1:zi:=⟨an9,ao0,K1⟩
def Xk:Gs:=[PU,PU]
def ao2:=o7
def Kb.b0(b:(JV×C8)):(a:i9)->Option EO:=λa=>bif dO a.1 (List.length b.1.1:Int)then(bK b.1.1 a.1).bind λd=>(bK b.2.1.1 a.1).bind λc=>bif !((ko d.1 c.1)&&(gA d.2.1 c.2.1))then some (.inr (.inr ((false,()),())))else some (.inl (cM .i64 a.1 (1:Int),()))else some (.inr (.inl (a.1,())))
def Kb:(JV×C8)->Option la:=λa=>bif !gA (List.length a.1.1:Int) (List.length a.2.1.1:Int)then some ((false,()),())else (aR (Kb.b0 a) ((0:Int),())).bind λb=>Sum.elim (λc=>some ((true,()),())) some b
def ao3:zi:=⟨Xk,ao2,Kb⟩
def ao4:Gs:=[Ot,Ss,Ou]
def ao5:=o7
def OA:(IH×(Gu×Eu))->Option la:=λa=>(P9 (a.2.1,((a.2.2.1.2.2.2.2.2.1,()),()))).bind λg=>bif (!g.1.1)then some ((false,()),())else (KW (a.2.1,((a.2.2.1.2.2.2.2.2.1,()),()))).bind λf=>bif f.1.1 then bif gA (List.length a.2.2.1.2.2.2.2.2.2.2.2.2.2.1:Int) (0:Int)then bif (!a.2.2.1.2.2.2.2.2.2.2.2.2.2.2.1)then bif gA (List.length a.2.2.1.2.2.2.2.2.2.2.2.2.2.2.2.1:Int) (0:Int)then some ((ko a.2.2.1.2.2.2.2.2.2.2.2.2.2.2.2.2.1 ⟨#[]⟩,()),())else some ((false,()),())else some ((false,()),())else some ((false,()),())else (KX (a.1,(a.2.1,((a.2.2.1.2.2.2.2.2.1,()),())))).bind λi=>(HO (i.1,((a.2.2.1.2.2.2.2.2.2.2.2.2.2.1,()),()))).bind λb=>(Fm (a.2.1,((a.2.2.1.2.2.2.2.2.1,()),()))).bind λc=>bif !gA b.2.1.1 (List.length a.2.2.1.2.2.2.2.2.2.2.2.2.2.1:Int)then some ((false,()),())else bif !wo a.2.2.1.2.2.2.2.2.2.2.2.2.2.2.1 (gA (List.length c.1.1:Int) (1:Int))then some ((false,()),())else bif (!(gA (List.length c.1.1:Int) (1:Int)))then bif gA (List.length a.2.2.1.2.2.2.2.2.2.2.2.2.2.2.2.1:Int) (0:Int)then some ((ko a.2.2.1.2.2.2.2.2.2.2.2.2.2.2.2.2.1 ⟨#[]⟩,()),())else some ((false,()),())else (u4 (b.1,())).bind λd=>(Xe (d.1,())).bind λe=>(Kb ((a.2.2.1.2.2.2.2.2.2.2.2.2.2.2.2.1,()),(e.1,()))).bind λj=>bif j.1.1 then (KZ (d.1,())).bind λh=>some ((ko a.2.2.1.2.2.2.2.2.2.2.2.2.2.2.2.2.1 h.1.1,()),())else some ((false,()),())
def ao6:zi:=⟨ao4,ao5,OA⟩
def ao7:=SF
def Xl:Gs:=[U5]
def ao8:zi:=⟨ao7,Xl,BE⟩
def ao9:Gs:=[Ss,Ou]
def ap0:Gs:=[U5,PT]
def Fo.b0(f:(Gu×Eu)):(a:(Int×Sr))->Option (Sum (Int×Sr) (Sum (Int×Sr) ((Gu×la)))):=λa=>bif dO (0:Int) a.1 then (bK a.2.1 (gS .i64 a.1 (1:Int))).bind λ_=>(aC a.2.1 (Int.toNat (gS .i64 a.1 (1:Int)))).bind λg=>bif dO f.2.1.1 g.1 then (bK a.2.1 (gS .i64 a.1 (1:Int))).bind λ_=>(aC a.2.1 (Int.toNat (gS .i64 a.1 (1:Int)))).bind λc=>(bK a.2.1 a.1).bind λ_=>(aC a.2.1 (Int.toNat a.1)).bind λb=>(bK a.2.1 (gS .i64 a.1 (1:Int))).bind λ_=>(aC a.2.1 (Int.toNat (gS .i64 a.1 (1:Int)))).bind λi=>(some (List.set a.2.1 (Int.toNat (gS .i64 a.1 (1:Int))) (b.1,(b.2.1,(b.2.2.1,(b.2.2.2.1,(b.2.2.2.2.1,(b.2.2.2.2.2.1,(b.2.2.2.2.2.2.1,(b.2.2.2.2.2.2.2.1,(b.2.2.2.2.2.2.2.2.1,(b.2.2.2.2.2.2.2.2.2.1,(b.2.2.2.2.2.2.2.2.2.2.1,(b.2.2.2.2.2.2.2.2.2.2.2.1,(b.2.2.2.2.2.2.2.2.2.2.2.2.1,(b.2.2.2.2.2.2.2.2.2.2.2.2.2.1,())))))))))))))))).bind λd=>(bK d a.1).bind λ_=>(aC d (Int.toNat a.1)).bind λh=>(some (List.set d (Int.toNat a.1) (c.1,(c.2.1,(c.2.2.1,(c.2.2.2.1,(c.2.2.2.2.1,(c.2.2.2.2.2.1,(c.2.2.2.2.2.2.1,(c.2.2.2.2.2.2.2.1,(c.2.2.2.2.2.2.2.2.1,(c.2.2.2.2.2.2.2.2.2.1,(c.2.2.2.2.2.2.2.2.2.2.1,(c.2.2.2.2.2.2.2.2.2.2.2.1,(c.2.2.2.2.2.2.2.2.2.2.2.2.1,(c.2.2.2.2.2.2.2.2.2.2.2.2.2.1,())))))))))))))))).bind λe=>some (.inl (gS .i64 a.1 (1:Int),(e,()))) else some (.inr (.inl (a.1,(a.2.1,())))) else some (.inr (.inl (a.1,(a.2.1,()))))
def Fo:(Gu×Eu)->Option ((Gu×la)):=λa=>(Fl (a.1,((a.2.1.1,()),()))).bind λi=>bif km (0:Int) i.1.1 then (BE (a.1,())).bind λh=>some (h.1,((false,()),())) else (BE (a.1,())).bind λc=>(HN (a.2.1,())).bind λb=>bif dE (List.length c.1.1+List.length ([b.1]:List (uf))) 208 then (aR (Fo.b0 a) (gS .i64 (List.length (bV c.1.1 ([b.1]:List (uf))):Int) (1:Int),(bV c.1.1 ([b.1]:List (uf)),()))).bind λf=>Sum.elim (λd=>(IV ((d.2.1,()),())).bind λe=>bif (!e.1.1) then (BE (a.1,())).bind λg=>some (g.1,((false,()),())) else some ((d.2.1,()),((true,()),()))) some f else none
def ap1:zi:=⟨ao9,ap0,Fo⟩
def ap2:Gs:=[Ss,IS]
def ap3:=II
def SU:(Gu×E1)->Option rS:=λa=>(Fl (a.1,((a.2.1.2.1,()),()))).bind λc=>bif dO c.1.1 (0:Int)then some (((-1:Int),()),())else (bK a.1.1 c.1.1).bind λg=>bif !gA g.2.2.1 a.2.1.1 then some (((-1:Int),()),())else (bK a.1.1 c.1.1).bind λe=>(Fl (a.1,((e.2.2.2.2.2.1,()),()))).bind λb=>bif dO b.1.1 (0:Int)then some (((-1:Int),()),())else (bK a.1.1 b.1.1).bind λd=>bif !gA d.2.2.1 (gS .i64 a.2.1.1 (1:Int))then some (((-1:Int),()),())else (bK a.1.1 b.1.1).bind λf=>some ((f.1,()),())
def ap4:zi:=⟨ap2,ap3,SU⟩
def ap5:=P8
def ap6:=P5
def I2.b0(b:FH)(d:HK):(a:JY)->Option (Sum JY (Sum JY IP)):=λa=>bif dO a.2.1 (List.length b.1.1:Int)then (bK b.1.1 a.2.1).bind λ_=>(aC b.1.1 (Int.toNat a.2.1)).bind λe=>(bK d.1.1 e.1).bind λf=>(HN (f,())).bind λc=>bif dE (List.length a.1+List.length ([c.1]:List (uf))) 208 then some (.inl (bV a.1 ([c.1]:List (uf)),(cM .i64 a.2.1 (1:Int),())))else none else some (.inr (.inl (a.1,(a.2.1,()))))
def I2:HK->Option IP:=λa=>(Fm (a.1,(a.2.1,()))).bind λb=>(aR (I2.b0 b a) (([]:List (uf)),((0:Int),()))).bind λc=>Sum.elim (λd=>some ((d.1,()),())) some c
def ap7:zi:=⟨ap5,ap6,I2⟩
def ap8:Gs:=[St,El]
def ap9:=o7
def I3.b0(b:((List D3×Unit)×rS)):(a:i9)->Option EO:=λa=>bif dO a.1 (List.length b.1.1:Int)then(bK b.1.1 a.1).bind λc=>bif gA c.1 b.2.1.1 then some (.inr (.inr ((true,()),())))else some (.inl (cM .i64 a.1 (1:Int),()))else some (.inr (.inl (a.1,())))
def I3:((List D3×Unit)×rS)->Option la:=λa=>(aR (I3.b0 a) ((0:Int),())).bind λb=>Sum.elim (λc=>some ((false,()),())) some b
def aq0:zi:=⟨ap8,ap9,I3⟩
def aq1:Gs:=[Mu,Ot]
def aq2:Gs:=[Su]
def I4.b0(b:(Gv×th)):(a:(List (cp)×i9))->Option (Sum (List (cp)×i9) (Sum (List (cp)×i9) Hh)):=λa=>bif dO a.2.1 (List.length b.1.1:Int) then (bK b.1.1 a.2.1).bind λf=>(Hl ((b.2.1.2.1,()),((f.2.1,()),()))).bind λd=>bif km (0:Int) d.1.1 then (bK b.1.1 a.2.1).bind λg=>(bK b.2.1.2.1 d.1.1).bind λe=>bif km e.2.2.1 g.2.2.2.2.1 then (bK b.1.1 a.2.1).bind λc=>bif dE (List.length a.1+List.length ([c]:List (cp))) 56 then some (.inl (bV a.1 ([c]:List (cp)),(cM .i64 a.2.1 (1:Int),()))) else none else some (.inl (a.1,(cM .i64 a.2.1 (1:Int),()))) else some (.inl (a.1,(cM .i64 a.2.1 (1:Int),()))) else some (.inr (.inl (a.1,(a.2.1,()))))
def I4:(Gv×th)->Option Hh:=λa=>(aR (I4.b0 a) (([]:List (cp)),((0:Int),()))).bind λc=>Sum.elim (λb=>some ((b.1,()),())) some c
def aq3:zi:=⟨aq1,aq2,I4⟩
def aq4:Gs:=[PL,El,IS]
def Kc:Gs:=[PL]
def I5.b0(b:(Gt×(i9×E1))):(a:UK)->Option (Sum UK (Sum UK u3)):=λa=>bif dO a.1 (List.length a.2.1:Int)then (bK a.2.1 a.1).bind λo=>(HO ((a.2.2.1,(a.2.2.2.1,())),((o.2.2.2.2.2.2.2.2.2.2.1,()),()))).bind λe=>Option.bind ((bK a.2.1 a.1).bind λn=>(I3 ((a.2.2.2.2.1,()),((n.1,()),()))).bind λm=>bif (!m.1.1)then (bK a.2.1 a.1).bind λi=>bif dE (List.length a.2.2.2.2.1+List.length ([(i.1,())]:List (D3))) 8 then some (.inl (bV a.2.2.2.2.1 ([(i.1,())]:List (D3)),()))else none else some (.inl (a.2.2.2.2.1,()))) λj=>Sum.elim (λh=>(bK a.2.1 a.1).bind λl=>bif l.2.2.2.2.2.2.2.2.2.2.2.1 then (I2 ((b.1.2.2.2.2.2.1,()),((b.2.2.1.2.1,()),()))).bind λg=>(Fk (b.2.2.1,())).bind λc=>bif dE (List.length b.1.2.2.2.2.2.2.2.2.2.2.2.2.2.2.2.2.2.2.2.1+List.length ([(b.1.2.1,(g.1.1,(c.1.1,(c.1.2.1,(c.1.2.2.1,())))))]:List (Mo))) 72 then (u4 (e.1,())).bind λd=>(I4 ((b.1.2.2.2.2.2.2.2.2.2.2.2.2.2.2.2.2.2.2.1,()),(d.1,()))).bind λk=>(bK a.2.1 a.1).bind λf=>bif dE (List.length ([]:List (df))+List.length f.2.2.2.2.2.2.2.2.2.2.2.2.1) 24 then some (.inr (.inr ((b.1.1,(d.1.1,(d.1.1,(d.1.2.1,(bV ([]:List (df)) f.2.2.2.2.2.2.2.2.2.2.2.2.1,(([]:List (uf)),((1:Int),((0:Int),((0:Int),((-1:Int),([],((0:Int),([],([],((0:Int),(([]:List (sH)),(([]:List (ow)),(h.1,(k.1.1,(bV b.1.2.2.2.2.2.2.2.2.2.2.2.2.2.2.2.2.2.2.2.1 ([(b.1.2.1,(g.1.1,(c.1.1,(c.1.2.1,(c.1.2.2.1,())))))]:List (Mo)),())))))))))))))))))))),()))) else none else none else some (.inl (cM .i64 a.1 (1:Int),(a.2.1,(e.1.1,(e.1.2.1,(h.1,()))))))) some j else some (.inr (.inl (a.1,(a.2.1,(a.2.2.1,(a.2.2.2.1,(a.2.2.2.2.1,())))))))
def I5:(Gt×(i9×E1))->Option u3:=λa=>(I2 ((a.1.2.2.2.2.2.1,()),(a.2.1,()))).bind λf=>(E2 ((a.1.2.2.1,(a.1.2.2.2.1,())),())).bind λc=>(aR (I5.b0 a) ((0:Int),(f.1.1,(c.1.1,(c.1.2.1,(a.1.2.2.2.2.2.2.2.2.2.2.2.2.2.2.2.2.2.1,())))))).bind λd=>Sum.elim (λb=>(I4 ((a.1.2.2.2.2.2.2.2.2.2.2.2.2.2.2.2.2.2.2.1,()),((b.2.2.1,(b.2.2.2.1,())),()))).bind λe=>some ((a.1.1,(a.1.2.1,(a.1.2.2.1,(a.1.2.2.2.1,(a.1.2.2.2.2.1,(a.1.2.2.2.2.2.1,(a.1.2.2.2.2.2.2.1,(a.1.2.2.2.2.2.2.2.1,(a.1.2.2.2.2.2.2.2.2.1,(a.1.2.2.2.2.2.2.2.2.2.1,(a.1.2.2.2.2.2.2.2.2.2.2.1,(a.1.2.2.2.2.2.2.2.2.2.2.2.1,(a.1.2.2.2.2.2.2.2.2.2.2.2.2.1,(a.1.2.2.2.2.2.2.2.2.2.2.2.2.2.1,(a.1.2.2.2.2.2.2.2.2.2.2.2.2.2.2.1,(a.1.2.2.2.2.2.2.2.2.2.2.2.2.2.2.2.1,(a.1.2.2.2.2.2.2.2.2.2.2.2.2.2.2.2.2.1,(b.2.2.2.2.1,(e.1.1,(a.1.2.2.2.2.2.2.2.2.2.2.2.2.2.2.2.2.2.2.2.1,())))))))))))))))))))),())) some d
def aq5:zi:=⟨aq4,Kc,I5⟩
def aq6:Gs:=[PL,IS]
def aq7:=Kc
def I6:(Gt×E1)->Option u3:=λa=>Option.bind (bif dO a.1.2.2.2.2.2.2.2.2.1 a.2.1.1 then(Fk (a.2.1,())).bind λc=>some (.inl (c.1.1,(c.1.2.1,(c.1.2.2.1,()))))else some (.inl (a.1.2.2.2.2.2.2.2.2.1,(a.1.2.2.2.2.2.2.2.2.2.1,(a.1.2.2.2.2.2.2.2.2.2.2.1,()))))) λf=>Sum.elim (λb=>Option.bind (bif dO a.1.2.2.2.2.2.2.1 (cM .i64 a.2.1.1 (1:Int)) then some (.inl (cM .i64 a.2.1.1 (1:Int),())) else some (.inl (a.1.2.2.2.2.2.2.1,()))) λh=>Sum.elim (λd=>(SU ((a.1.2.2.2.2.2.1,()),(a.2.1,()))).bind λe=>bif km (0:Int) e.1.1 then (I5 ((a.1.1,(a.1.2.1,(a.1.2.2.1,(a.1.2.2.2.1,(a.1.2.2.2.2.1,(a.1.2.2.2.2.2.1,(d.1,(a.1.2.2.2.2.2.2.2.1,(b.1,(b.2.1,(b.2.2.1,(a.1.2.2.2.2.2.2.2.2.2.2.2.1,(a.1.2.2.2.2.2.2.2.2.2.2.2.2.1,(a.1.2.2.2.2.2.2.2.2.2.2.2.2.2.1,(a.1.2.2.2.2.2.2.2.2.2.2.2.2.2.2.1,(a.1.2.2.2.2.2.2.2.2.2.2.2.2.2.2.2.1,(a.1.2.2.2.2.2.2.2.2.2.2.2.2.2.2.2.2.1,(a.1.2.2.2.2.2.2.2.2.2.2.2.2.2.2.2.2.2.1,(a.1.2.2.2.2.2.2.2.2.2.2.2.2.2.2.2.2.2.2.1,(a.1.2.2.2.2.2.2.2.2.2.2.2.2.2.2.2.2.2.2.2.1,())))))))))))))))))))),(e.1,(a.2.1,())))).bind λg=>some (g.1,()) else some ((a.1.1,(a.1.2.1,(a.1.2.2.1,(a.1.2.2.2.1,(a.1.2.2.2.2.1,(a.1.2.2.2.2.2.1,(d.1,(a.1.2.2.2.2.2.2.2.1,(b.1,(b.2.1,(b.2.2.1,(a.1.2.2.2.2.2.2.2.2.2.2.2.1,(a.1.2.2.2.2.2.2.2.2.2.2.2.2.1,(a.1.2.2.2.2.2.2.2.2.2.2.2.2.2.1,(a.1.2.2.2.2.2.2.2.2.2.2.2.2.2.2.1,(a.1.2.2.2.2.2.2.2.2.2.2.2.2.2.2.2.1,(a.1.2.2.2.2.2.2.2.2.2.2.2.2.2.2.2.2.1,(a.1.2.2.2.2.2.2.2.2.2.2.2.2.2.2.2.2.2.1,(a.1.2.2.2.2.2.2.2.2.2.2.2.2.2.2.2.2.2.2.1,(a.1.2.2.2.2.2.2.2.2.2.2.2.2.2.2.2.2.2.2.2.1,())))))))))))))))))))),())) some h) some f
def aq8:zi:=⟨aq6,aq7,I6⟩
def aq9:Gs:=[PL,Mt]
def ar0:=Kc
def MC:(Gt×Fj)->Option u3:=λa=>Option.bind (bif dO a.1.2.2.2.2.2.2.2.2.2.2.2.1 a.2.1.1 then(HM (a.2.1,())).bind λc=>some (.inl (c.1.1,(c.1.2.1,(c.1.2.2.1,()))))else some (.inl (a.1.2.2.2.2.2.2.2.2.2.2.2.1,(a.1.2.2.2.2.2.2.2.2.2.2.2.2.1,(a.1.2.2.2.2.2.2.2.2.2.2.2.2.2.1,()))))) λd=>Sum.elim (λb=>bif dO a.1.2.2.2.2.2.2.1 (cM .i64 a.2.1.1 (1:Int)) then some ((a.1.1,(a.1.2.1,(a.1.2.2.1,(a.1.2.2.2.1,(a.1.2.2.2.2.1,(a.1.2.2.2.2.2.1,(cM .i64 a.2.1.1 (1:Int),(a.1.2.2.2.2.2.2.2.1,(a.1.2.2.2.2.2.2.2.2.1,(a.1.2.2.2.2.2.2.2.2.2.1,(a.1.2.2.2.2.2.2.2.2.2.2.1,(b.1,(b.2.1,(b.2.2.1,(a.1.2.2.2.2.2.2.2.2.2.2.2.2.2.2.1,(a.1.2.2.2.2.2.2.2.2.2.2.2.2.2.2.2.1,(a.1.2.2.2.2.2.2.2.2.2.2.2.2.2.2.2.2.1,(a.1.2.2.2.2.2.2.2.2.2.2.2.2.2.2.2.2.2.1,(a.1.2.2.2.2.2.2.2.2.2.2.2.2.2.2.2.2.2.2.1,(a.1.2.2.2.2.2.2.2.2.2.2.2.2.2.2.2.2.2.2.2.1,())))))))))))))))))))),()) else some ((a.1.1,(a.1.2.1,(a.1.2.2.1,(a.1.2.2.2.1,(a.1.2.2.2.2.1,(a.1.2.2.2.2.2.1,(a.1.2.2.2.2.2.2.1,(a.1.2.2.2.2.2.2.2.1,(a.1.2.2.2.2.2.2.2.2.1,(a.1.2.2.2.2.2.2.2.2.2.1,(a.1.2.2.2.2.2.2.2.2.2.2.1,(b.1,(b.2.1,(b.2.2.1,(a.1.2.2.2.2.2.2.2.2.2.2.2.2.2.2.1,(a.1.2.2.2.2.2.2.2.2.2.2.2.2.2.2.2.1,(a.1.2.2.2.2.2.2.2.2.2.2.2.2.2.2.2.2.1,(a.1.2.2.2.2.2.2.2.2.2.2.2.2.2.2.2.2.2.1,(a.1.2.2.2.2.2.2.2.2.2.2.2.2.2.2.2.2.2.2.1,(a.1.2.2.2.2.2.2.2.2.2.2.2.2.2.2.2.2.2.2.2.1,())))))))))))))))))))),())) some d
def ar1:zi:=⟨aq9,ar0,MC⟩
def Xm:Gs:=[PL,Ou]
def ar2:Gs:=[PT,PL]
def I7:(Gt×Eu)->Option (IM×u3):=λb=>(Ox (b.2.1,())).bind λl=>bif (!l.1.1)then some ((false,()),(b.1,()))else bif !gA b.2.1.2.1 b.1.2.1 then some ((false,()),(b.1,()))else (J4 ((b.1.2.2.2.2.1,()),((b.2.1.2.2.1,()),()))).bind λk=>bif !ko b.2.1.2.2.2.1 k.1.1 then some ((false,()),(b.1,()))else (K0 ((b.1.2.2.2.2.1,()),((b.2.1.2.2.2.2.1,(b.2.1.2.2.2.2.2.1,(b.2.1.2.2.2.2.2.2.1,()))),()))).bind λm=>bif (!m.1.1)then some ((false,()),(b.1,()))else (HP ((b.1.2.2.2.2.1,()),((b.2.1.2.2.2.2.2.2.2.1,(b.2.1.2.2.2.2.2.2.2.2.1,(b.2.1.2.2.2.2.2.2.2.2.2.1,()))),()))).bind λj=>bif (!j.1.1)then some ((false,()),(b.1,()))else (K1 (b.2.1,())).bind λn=>bif (!n.1.1)then some ((false,()),(b.1,()))else (OA ((b.1.2.2.1,(b.1.2.2.2.1,())),((b.1.2.2.2.2.2.1,()),(b.2.1,())))).bind λo=>bif (!o.1.1)then some ((false,()),(b.1,()))else (Fo ((b.1.2.2.2.2.2.1,()),(b.2.1,()))).bind λg=>bif (!g.2.1.1)then some ((false,()),(b.1,()))else (I6 ((b.1.1,(b.1.2.1,(b.1.2.2.1,(b.1.2.2.2.1,(b.1.2.2.2.2.1,(g.1.1,(b.1.2.2.2.2.2.2.1,(b.1.2.2.2.2.2.2.2.1,(b.1.2.2.2.2.2.2.2.2.1,(b.1.2.2.2.2.2.2.2.2.2.1,(b.1.2.2.2.2.2.2.2.2.2.2.1,(b.1.2.2.2.2.2.2.2.2.2.2.2.1,(b.1.2.2.2.2.2.2.2.2.2.2.2.2.1,(b.1.2.2.2.2.2.2.2.2.2.2.2.2.2.1,(b.1.2.2.2.2.2.2.2.2.2.2.2.2.2.2.1,(b.1.2.2.2.2.2.2.2.2.2.2.2.2.2.2.2.1,(b.1.2.2.2.2.2.2.2.2.2.2.2.2.2.2.2.2.1,(b.1.2.2.2.2.2.2.2.2.2.2.2.2.2.2.2.2.2.1,(b.1.2.2.2.2.2.2.2.2.2.2.2.2.2.2.2.2.2.2.1,(b.1.2.2.2.2.2.2.2.2.2.2.2.2.2.2.2.2.2.2.2.1,())))))))))))))))))))),((b.2.1.2.2.2.2.1,(b.2.1.2.2.2.2.2.1,(b.2.1.2.2.2.2.2.2.1,()))),()))).bind λc=>Option.bind (bif gA c.1.2.1 b.1.2.1 then (MC (c.1,((b.2.1.2.2.2.2.2.2.2.1,(b.2.1.2.2.2.2.2.2.2.2.1,(b.2.1.2.2.2.2.2.2.2.2.2.1,()))),()))).bind λf=>some (.inl (f.1.1,(f.1.2.1,(f.1.2.2.1,(f.1.2.2.2.1,(f.1.2.2.2.2.1,(f.1.2.2.2.2.2.1,(f.1.2.2.2.2.2.2.1,(f.1.2.2.2.2.2.2.2.1,(f.1.2.2.2.2.2.2.2.2.1,(f.1.2.2.2.2.2.2.2.2.2.1,(f.1.2.2.2.2.2.2.2.2.2.2.1,(f.1.2.2.2.2.2.2.2.2.2.2.2.1,(f.1.2.2.2.2.2.2.2.2.2.2.2.2.1,(f.1.2.2.2.2.2.2.2.2.2.2.2.2.2.1,(f.1.2.2.2.2.2.2.2.2.2.2.2.2.2.2.1,(f.1.2.2.2.2.2.2.2.2.2.2.2.2.2.2.2.1,(f.1.2.2.2.2.2.2.2.2.2.2.2.2.2.2.2.2.1,(f.1.2.2.2.2.2.2.2.2.2.2.2.2.2.2.2.2.2.1,(f.1.2.2.2.2.2.2.2.2.2.2.2.2.2.2.2.2.2.2.1,(f.1.2.2.2.2.2.2.2.2.2.2.2.2.2.2.2.2.2.2.2.1,())))))))))))))))))))))else some (.inl (c.1.1,(c.1.2.1,(c.1.2.2.1,(c.1.2.2.2.1,(c.1.2.2.2.2.1,(c.1.2.2.2.2.2.1,(c.1.2.2.2.2.2.2.1,(c.1.2.2.2.2.2.2.2.1,(c.1.2.2.2.2.2.2.2.2.1,(c.1.2.2.2.2.2.2.2.2.2.1,(c.1.2.2.2.2.2.2.2.2.2.2.1,(c.1.2.2.2.2.2.2.2.2.2.2.2.1,(c.1.2.2.2.2.2.2.2.2.2.2.2.2.1,(c.1.2.2.2.2.2.2.2.2.2.2.2.2.2.1,(c.1.2.2.2.2.2.2.2.2.2.2.2.2.2.2.1,(c.1.2.2.2.2.2.2.2.2.2.2.2.2.2.2.2.1,(c.1.2.2.2.2.2.2.2.2.2.2.2.2.2.2.2.2.1,(c.1.2.2.2.2.2.2.2.2.2.2.2.2.2.2.2.2.2.1,(c.1.2.2.2.2.2.2.2.2.2.2.2.2.2.2.2.2.2.2.1,(c.1.2.2.2.2.2.2.2.2.2.2.2.2.2.2.2.2.2.2.2.1,())))))))))))))))))))))) λh=>Sum.elim (λa=>Option.bind (bif gA a.2.1 b.1.2.1 then bif gA a.2.2.2.2.2.2.2.2.2.1 b.2.1.1 then (I6 ((a.1,(a.2.1,(a.2.2.1,(a.2.2.2.1,(a.2.2.2.2.1,(a.2.2.2.2.2.1,(a.2.2.2.2.2.2.1,(a.2.2.2.2.2.2.2.1,(a.2.2.2.2.2.2.2.2.1,(a.2.2.2.2.2.2.2.2.2.1,(a.2.2.2.2.2.2.2.2.2.2.1,(a.2.2.2.2.2.2.2.2.2.2.2.1,(a.2.2.2.2.2.2.2.2.2.2.2.2.1,(a.2.2.2.2.2.2.2.2.2.2.2.2.2.1,(a.2.2.2.2.2.2.2.2.2.2.2.2.2.2.1,(a.2.2.2.2.2.2.2.2.2.2.2.2.2.2.2.1,(a.2.2.2.2.2.2.2.2.2.2.2.2.2.2.2.2.1,(a.2.2.2.2.2.2.2.2.2.2.2.2.2.2.2.2.2.1,(a.2.2.2.2.2.2.2.2.2.2.2.2.2.2.2.2.2.2.1,(a.2.2.2.2.2.2.2.2.2.2.2.2.2.2.2.2.2.2.2.1,())))))))))))))))))))),((a.2.2.2.2.2.2.2.2.1,(a.2.2.2.2.2.2.2.2.2.1,(a.2.2.2.2.2.2.2.2.2.2.1,()))),()))).bind λe=>some (.inl (e.1.1,(e.1.2.1,(e.1.2.2.1,(e.1.2.2.2.1,(e.1.2.2.2.2.1,(e.1.2.2.2.2.2.1,(e.1.2.2.2.2.2.2.1,(e.1.2.2.2.2.2.2.2.1,(e.1.2.2.2.2.2.2.2.2.1,(e.1.2.2.2.2.2.2.2.2.2.1,(e.1.2.2.2.2.2.2.2.2.2.2.1,(e.1.2.2.2.2.2.2.2.2.2.2.2.1,(e.1.2.2.2.2.2.2.2.2.2.2.2.2.1,(e.1.2.2.2.2.2.2.2.2.2.2.2.2.2.1,(e.1.2.2.2.2.2.2.2.2.2.2.2.2.2.2.1,(e.1.2.2.2.2.2.2.2.2.2.2.2.2.2.2.2.1,(e.1.2.2.2.2.2.2.2.2.2.2.2.2.2.2.2.2.1,(e.1.2.2.2.2.2.2.2.2.2.2.2.2.2.2.2.2.2.1,(e.1.2.2.2.2.2.2.2.2.2.2.2.2.2.2.2.2.2.2.1,(e.1.2.2.2.2.2.2.2.2.2.2.2.2.2.2.2.2.2.2.2.1,()))))))))))))))))))))) else some (.inl (a.1,(a.2.1,(a.2.2.1,(a.2.2.2.1,(a.2.2.2.2.1,(a.2.2.2.2.2.1,(a.2.2.2.2.2.2.1,(a.2.2.2.2.2.2.2.1,(a.2.2.2.2.2.2.2.2.1,(a.2.2.2.2.2.2.2.2.2.1,(a.2.2.2.2.2.2.2.2.2.2.1,(a.2.2.2.2.2.2.2.2.2.2.2.1,(a.2.2.2.2.2.2.2.2.2.2.2.2.1,(a.2.2.2.2.2.2.2.2.2.2.2.2.2.1,(a.2.2.2.2.2.2.2.2.2.2.2.2.2.2.1,(a.2.2.2.2.2.2.2.2.2.2.2.2.2.2.2.1,(a.2.2.2.2.2.2.2.2.2.2.2.2.2.2.2.2.1,(a.2.2.2.2.2.2.2.2.2.2.2.2.2.2.2.2.2.1,(a.2.2.2.2.2.2.2.2.2.2.2.2.2.2.2.2.2.2.1,(a.2.2.2.2.2.2.2.2.2.2.2.2.2.2.2.2.2.2.2.1,()))))))))))))))))))))) else some (.inl (a.1,(a.2.1,(a.2.2.1,(a.2.2.2.1,(a.2.2.2.2.1,(a.2.2.2.2.2.1,(a.2.2.2.2.2.2.1,(a.2.2.2.2.2.2.2.1,(a.2.2.2.2.2.2.2.2.1,(a.2.2.2.2.2.2.2.2.2.1,(a.2.2.2.2.2.2.2.2.2.2.1,(a.2.2.2.2.2.2.2.2.2.2.2.1,(a.2.2.2.2.2.2.2.2.2.2.2.2.1,(a.2.2.2.2.2.2.2.2.2.2.2.2.2.1,(a.2.2.2.2.2.2.2.2.2.2.2.2.2.2.1,(a.2.2.2.2.2.2.2.2.2.2.2.2.2.2.2.1,(a.2.2.2.2.2.2.2.2.2.2.2.2.2.2.2.2.1,(a.2.2.2.2.2.2.2.2.2.2.2.2.2.2.2.2.2.1,(a.2.2.2.2.2.2.2.2.2.2.2.2.2.2.2.2.2.2.1,(a.2.2.2.2.2.2.2.2.2.2.2.2.2.2.2.2.2.2.2.1,())))))))))))))))))))))) λi=>Sum.elim (λd=>some ((true,()),((d.1,(d.2.1,(d.2.2.1,(d.2.2.2.1,(d.2.2.2.2.1,(d.2.2.2.2.2.1,(d.2.2.2.2.2.2.1,(d.2.2.2.2.2.2.2.1,(d.2.2.2.2.2.2.2.2.1,(d.2.2.2.2.2.2.2.2.2.1,(d.2.2.2.2.2.2.2.2.2.2.1,(d.2.2.2.2.2.2.2.2.2.2.2.1,(d.2.2.2.2.2.2.2.2.2.2.2.2.1,(d.2.2.2.2.2.2.2.2.2.2.2.2.2.1,(d.2.2.2.2.2.2.2.2.2.2.2.2.2.2.1,(d.2.2.2.2.2.2.2.2.2.2.2.2.2.2.2.1,(d.2.2.2.2.2.2.2.2.2.2.2.2.2.2.2.2.1,(d.2.2.2.2.2.2.2.2.2.2.2.2.2.2.2.2.2.1,(d.2.2.2.2.2.2.2.2.2.2.2.2.2.2.2.2.2.2.1,(d.2.2.2.2.2.2.2.2.2.2.2.2.2.2.2.2.2.2.2.1,())))))))))))))))))))),()))) some i) some h
def ar3:zi:=⟨Xm,ar2,I7⟩
def ar4:Gs:=[PZ,PX]
def ar5:Gs:=[WV]
def Hn.b0(c:(Gt×Ek)):(b:(List (By)×i9))->Option (Sum (List (By)×i9) (Sum (List (By)×i9) (Oo×Unit))):=λb=>bif dO b.2.1 (List.length c.1.2.2.2.2.1:Int)then (bK c.1.2.2.2.2.1 b.2.1).bind λe=>bif !ko e.1 c.1.1 then (IZ (c.2.1,())).bind λa=>(bK c.1.2.2.2.2.1 b.2.1).bind λd=>bif dE (List.length b.1+List.length ([(a.1.1,(d.1,(a.1.2.2.1,(a.1.2.2.2.1,(a.1.2.2.2.2.1,(a.1.2.2.2.2.2.1,(a.1.2.2.2.2.2.2.1,(a.1.2.2.2.2.2.2.2.1,(a.1.2.2.2.2.2.2.2.2.1,(a.1.2.2.2.2.2.2.2.2.2.1,(a.1.2.2.2.2.2.2.2.2.2.2.1,(a.1.2.2.2.2.2.2.2.2.2.2.2.1,(a.1.2.2.2.2.2.2.2.2.2.2.2.2.1,(a.1.2.2.2.2.2.2.2.2.2.2.2.2.2.1,(a.1.2.2.2.2.2.2.2.2.2.2.2.2.2.2.1,(a.1.2.2.2.2.2.2.2.2.2.2.2.2.2.2.2.1,()))))))))))))))))]:List (By))) 216 then some (.inl (bV b.1 ([(a.1.1,(d.1,(a.1.2.2.1,(a.1.2.2.2.1,(a.1.2.2.2.2.1,(a.1.2.2.2.2.2.1,(a.1.2.2.2.2.2.2.1,(a.1.2.2.2.2.2.2.2.1,(a.1.2.2.2.2.2.2.2.2.1,(a.1.2.2.2.2.2.2.2.2.2.1,(a.1.2.2.2.2.2.2.2.2.2.2.1,(a.1.2.2.2.2.2.2.2.2.2.2.2.1,(a.1.2.2.2.2.2.2.2.2.2.2.2.2.1,(a.1.2.2.2.2.2.2.2.2.2.2.2.2.2.1,(a.1.2.2.2.2.2.2.2.2.2.2.2.2.2.2.1,(a.1.2.2.2.2.2.2.2.2.2.2.2.2.2.2.2.1,()))))))))))))))))]:List (By)),(cM .i64 b.2.1 (1:Int),())))else none else some (.inl (b.1,(cM .i64 b.2.1 (1:Int),())))else some (.inr (.inl (b.1,(b.2.1,()))))
def Hn:(Gt×Ek)->Option (Oo×Unit):=λa=>(aR (Hn.b0 a) (([]:List (By)),((0:Int),()))).bind λc=>Sum.elim (λb=>some ((b.1,()),())) some c
def ar6:zi:=⟨ar4,ar5,Hn⟩
def ar7:Gs:=[PU,⟨.c,(.cons (.sl Hf) .nil),[]⟩,El,El]
def ar8:Gs:=[WY,PT]
def Fp.b1(b:UP)(d:Om):(a:Hi)->Option (Sum Hi (Sum Hi (Sum Om (Sum Om ((Wv×la)))))):=λa=>bif dO a.2.1 (List.length b.2.1.1:Int)then bif a.1 then some (.inl (true,(cM .i64 a.2.1 (1:Int),())))else (bK b.2.1.1 a.2.1).bind λc=>(bK b.1.1 d.1).bind λe=>some (.inl ((gA c.1 b.2.2.1.1)&&((gA c.2.1 b.2.2.2.1.1)&&(ko c.2.2.1 e.1)),(cM .i64 a.2.1 (1:Int),())))else some (.inr (.inl (a.1,(a.2.1,()))))
def Fp.b0(b:UP):(a:Om)->Option (Sum Om (Sum Om ((Wv×la)))):=λa=>bif dO a.1 (List.length b.1.1:Int)then (aR (Fp.b1 b a) (false,((0:Int),()))).bind λd=>Sum.elim (λe=>bif e.1 then (bK b.1.1 a.1).bind λc=>bif dE (List.length a.2.1+List.length ([(c.1,())]:List (D9))) 16 then some (.inl (cM .i64 a.1 (1:Int),(bV a.2.1 ([(c.1,())]:List (D9)),())))else none else some (.inl (cM .i64 a.1 (1:Int),(a.2.1,())))) some d else some (.inr (.inl (a.1,(a.2.1,()))))
def Fp:UP->Option ((Wv×la)):=λa=>(aR (Fp.b0 a) ((0:Int),([],()))).bind λe=>Sum.elim (λb=>(K0 (a.1,((a.2.2.1.1,(a.2.2.2.1.1,(b.2.1,()))),()))).bind λd=>bif (!d.1.1)then some (((0:Int),((0:Int),([],()))),((false,()),()))else (J6 ((a.2.2.1.1,(a.2.2.2.1.1,(b.2.1,()))),())).bind λc=>bif c.1.1 then some (((0:Int),((0:Int),([],()))),((false,()),()))else some ((a.2.2.1.1,(a.2.2.2.1.1,(b.2.1,()))),((true,()),()))) some e
def ar9:zi:=⟨ar7,ar8,Fp⟩
def as0:Gs:=[PL,U1]
def as1:=Kc
def HQ.b0(b:(Gt×(sH×Unit))):(a:Hi)->Option (Sum Hi (Sum Hi u3)):=λa=>bif dO a.2.1 (List.length b.1.2.2.2.2.2.2.2.2.2.2.2.2.2.2.2.1:Int)then bif a.1 then some (.inl (true,(cM .i64 a.2.1 (1:Int),())))else (bK b.1.2.2.2.2.2.2.2.2.2.2.2.2.2.2.2.1 a.2.1).bind λ_=>(aC b.1.2.2.2.2.2.2.2.2.2.2.2.2.2.2.2.1 (Int.toNat a.2.1)).bind λc=>some (.inl ((gA c.1 b.2.1.1)&&((gA c.2.1 b.2.1.2.1)&&(ko c.2.2.1 b.2.1.2.2.1)),(cM .i64 a.2.1 (1:Int),())))else some (.inr (.inl (a.1,(a.2.1,()))))
def HQ:(Gt×(sH×Unit))->Option u3:=λa=>(FL ((a.1.2.2.2.2.1,()),((a.2.1.2.2.1,()),()))).bind λe=>bif (!e.1.1)then some (a.1,())else (aR (HQ.b0 a) (false,((0:Int),()))).bind λd=>Sum.elim (λg=>Option.bind (bif (!g.1)then bif dO (List.length a.1.2.2.2.2.2.2.2.2.2.2.2.2.2.2.2.1:Int) (1000:Int)then bif dE (List.length a.1.2.2.2.2.2.2.2.2.2.2.2.2.2.2.2.1+List.length ([a.2.1]:List (sH))) 32 then some (.inl (bV a.1.2.2.2.2.2.2.2.2.2.2.2.2.2.2.2.1 ([a.2.1]:List (sH)),()))else none else some (.inl (a.1.2.2.2.2.2.2.2.2.2.2.2.2.2.2.2.1,()))else some (.inl (a.1.2.2.2.2.2.2.2.2.2.2.2.2.2.2.2.1,()))) λh=>Sum.elim (λb=>(Fp ((a.1.2.2.2.2.1,()),((b.1,()),((a.2.1.1,()),((a.2.1.2.1,()),()))))).bind λc=>bif c.2.1.1 then (I6 ((a.1.1,(a.1.2.1,(a.1.2.2.1,(a.1.2.2.2.1,(a.1.2.2.2.2.1,(a.1.2.2.2.2.2.1,(a.1.2.2.2.2.2.2.1,(a.1.2.2.2.2.2.2.2.1,(a.1.2.2.2.2.2.2.2.2.1,(a.1.2.2.2.2.2.2.2.2.2.1,(a.1.2.2.2.2.2.2.2.2.2.2.1,(a.1.2.2.2.2.2.2.2.2.2.2.2.1,(a.1.2.2.2.2.2.2.2.2.2.2.2.2.1,(a.1.2.2.2.2.2.2.2.2.2.2.2.2.2.1,(a.1.2.2.2.2.2.2.2.2.2.2.2.2.2.2.1,(b.1,(a.1.2.2.2.2.2.2.2.2.2.2.2.2.2.2.2.2.1,(a.1.2.2.2.2.2.2.2.2.2.2.2.2.2.2.2.2.2.1,(a.1.2.2.2.2.2.2.2.2.2.2.2.2.2.2.2.2.2.2.1,(a.1.2.2.2.2.2.2.2.2.2.2.2.2.2.2.2.2.2.2.2.1,())))))))))))))))))))),(c.1,()))).bind λf=>some (f.1,()) else some ((a.1.1,(a.1.2.1,(a.1.2.2.1,(a.1.2.2.2.1,(a.1.2.2.2.2.1,(a.1.2.2.2.2.2.1,(a.1.2.2.2.2.2.2.1,(a.1.2.2.2.2.2.2.2.1,(a.1.2.2.2.2.2.2.2.2.1,(a.1.2.2.2.2.2.2.2.2.2.1,(a.1.2.2.2.2.2.2.2.2.2.2.1,(a.1.2.2.2.2.2.2.2.2.2.2.2.1,(a.1.2.2.2.2.2.2.2.2.2.2.2.2.1,(a.1.2.2.2.2.2.2.2.2.2.2.2.2.2.1,(a.1.2.2.2.2.2.2.2.2.2.2.2.2.2.2.1,(b.1,(a.1.2.2.2.2.2.2.2.2.2.2.2.2.2.2.2.2.1,(a.1.2.2.2.2.2.2.2.2.2.2.2.2.2.2.2.2.2.1,(a.1.2.2.2.2.2.2.2.2.2.2.2.2.2.2.2.2.2.2.1,(a.1.2.2.2.2.2.2.2.2.2.2.2.2.2.2.2.2.2.2.2.1,())))))))))))))))))))),())) some h) some d
def as2:zi:=⟨as0,as1,HQ⟩
def Xn:Gs:=[El,U1]
def Xo:Gs:=[WW]
def Qc:(i9×(sH×Unit))->Option (sb×Unit):=λa=>some (((1:Int),(a.1.1,(a.2.1.1,(a.2.1.2.1,(a.2.1.2.2.1,()))))),())
def as3:zi:=⟨Xn,Xo,Qc⟩
def as4:=Xm
def Vf:Gs:=[WV,PY,PL]
def OB:(Gt×Eu)->Option (Sq):=λb=>(I7 (b.1,(b.2.1,()))).bind λa=>bif (!a.1.1)then some ((([]:List (By)),()),((([]:List (sb)),()),(a.2.1,())))else bif !gA a.2.1.2.1 b.1.2.1 then some ((([]:List (By)),()),((([]:List (sb)),()),(a.2.1,())))else bif !gA b.2.1.2.2.1 a.2.1.2.2.2.2.2.2.1 then some ((([]:List (By)),()),((([]:List (sb)),()),(a.2.1,())))else bif km b.2.1.2.2.1 a.2.1.2.2.2.2.2.2.2.1 then some ((([]:List (By)),()),((([]:List (sb)),()),(a.2.1,())))else (FL ((a.2.1.2.2.2.2.1,()),((a.2.1.1,()),()))).bind λd=>bif (!d.1.1)then some ((([]:List (By)),()),((([]:List (sb)),()),(a.2.1,())))else (Hn ((a.2.1.1,(a.2.1.2.1,(a.2.1.2.2.1,(a.2.1.2.2.2.1,(a.2.1.2.2.2.2.1,(a.2.1.2.2.2.2.2.1,(a.2.1.2.2.2.2.2.2.1,(b.2.1.2.2.1,(a.2.1.2.2.2.2.2.2.2.2.1,(a.2.1.2.2.2.2.2.2.2.2.2.1,(a.2.1.2.2.2.2.2.2.2.2.2.2.1,(a.2.1.2.2.2.2.2.2.2.2.2.2.2.1,(a.2.1.2.2.2.2.2.2.2.2.2.2.2.2.1,(a.2.1.2.2.2.2.2.2.2.2.2.2.2.2.2.1,(a.2.1.2.2.2.2.2.2.2.2.2.2.2.2.2.2.1,(a.2.1.2.2.2.2.2.2.2.2.2.2.2.2.2.2.2.1,(a.2.1.2.2.2.2.2.2.2.2.2.2.2.2.2.2.2.2.1,(a.2.1.2.2.2.2.2.2.2.2.2.2.2.2.2.2.2.2.2.1,(a.2.1.2.2.2.2.2.2.2.2.2.2.2.2.2.2.2.2.2.2.1,(a.2.1.2.2.2.2.2.2.2.2.2.2.2.2.2.2.2.2.2.2.2.1,())))))))))))))))))))),(((2:Int),(⟨#[]⟩,(a.2.1.2.1,([],(b.2.1.2.2.1,(b.2.1.1,(a.2.1.1,((0:Int),((0:Int),(⟨#[]⟩,((0:Int),((-1:Int),([],((0:Int),([],([],())))))))))))))))),()))).bind λe=>(HQ ((a.2.1.1,(a.2.1.2.1,(a.2.1.2.2.1,(a.2.1.2.2.2.1,(a.2.1.2.2.2.2.1,(a.2.1.2.2.2.2.2.1,(a.2.1.2.2.2.2.2.2.1,(b.2.1.2.2.1,(a.2.1.2.2.2.2.2.2.2.2.1,(a.2.1.2.2.2.2.2.2.2.2.2.1,(a.2.1.2.2.2.2.2.2.2.2.2.2.1,(a.2.1.2.2.2.2.2.2.2.2.2.2.2.1,(a.2.1.2.2.2.2.2.2.2.2.2.2.2.2.1,(a.2.1.2.2.2.2.2.2.2.2.2.2.2.2.2.1,(a.2.1.2.2.2.2.2.2.2.2.2.2.2.2.2.2.1,(a.2.1.2.2.2.2.2.2.2.2.2.2.2.2.2.2.2.1,(a.2.1.2.2.2.2.2.2.2.2.2.2.2.2.2.2.2.2.1,(a.2.1.2.2.2.2.2.2.2.2.2.2.2.2.2.2.2.2.2.1,(a.2.1.2.2.2.2.2.2.2.2.2.2.2.2.2.2.2.2.2.2.1,(a.2.1.2.2.2.2.2.2.2.2.2.2.2.2.2.2.2.2.2.2.2.1,())))))))))))))))))))),((b.2.1.2.2.1,(b.2.1.1,(a.2.1.1,()))),()))).bind λc=>(Qc ((b.1.2.1,()),((b.2.1.2.2.1,(b.2.1.1,(a.2.1.1,()))),()))).bind λf=>some (e.1,((([f.1]:List (sb)),()),(c.1,())))
def as5:zi:=⟨as4,Vf,OB⟩
def as6:Gs:=[PU,⟨.c,(.cons (.sl Gr) .nil),[]⟩,El]
def as7:Gs:=[⟨.agg,YS,m6⟩,PT]
def Fq.b1(b:UR)(e:Mp):(a:s7)->Option (Sum s7 (Sum s7 (Sum Mp (Sum Mp ((Um×la)))))):=λa=>bif dO a.2.1 (List.length b.2.1.1:Int)then (bK b.2.1.1 a.2.1).bind λd=>bif gA d.1 b.2.2.1.1 then (bK b.2.1.1 a.2.1).bind λh=>(bK b.1.1 e.1).bind λc=>bif ko h.2.2.1 c.1 then (bK b.2.1.1 a.2.1).bind λf=>bif dO a.1 f.2.1 then (bK b.2.1.1 a.2.1).bind λg=>some (.inl (g.2.1,(cM .i64 a.2.1 (1:Int),())))else some (.inl (a.1,(cM .i64 a.2.1 (1:Int),())))else some (.inl (a.1,(cM .i64 a.2.1 (1:Int),())))else some (.inl (a.1,(cM .i64 a.2.1 (1:Int),())))else some (.inr (.inl (a.1,(a.2.1,()))))
def Fq.b0(b:UR):(a:Mp)->Option (Sum Mp (Sum Mp ((Um×la)))):=λa=>bif dO a.1 (List.length b.1.1:Int)then (aR (Fq.b1 b a) ((-1:Int),((0:Int),()))).bind λe=>Sum.elim (λc=>bif km (0:Int) c.1 then (bK b.1.1 a.1).bind λd=>bif dE (List.length a.2.1+List.length ([(d.1,())]:List (D9))) 16 then bif dE (List.length a.2.2.1+List.length ([(c.1,())]:List (D3))) 8 then some (.inl (cM .i64 a.1 (1:Int),(bV a.2.1 ([(d.1,())]:List (D9)),(bV a.2.2.1 ([(c.1,())]:List (D3)),())))) else none else none else some (.inl (cM .i64 a.1 (1:Int),(a.2.1,(a.2.2.1,()))))) some e else some (.inr (.inl (a.1,(a.2.1,(a.2.2.1,())))))
def Fq:UR->Option ((Um×la)):=λb=>(aR (Fq.b0 b) ((0:Int),([],([],())))).bind λc=>Sum.elim (λa=>(HP (b.1,((b.2.2.1.1,(a.2.1,(a.2.2.1,()))),()))).bind λe=>bif (!e.1.1)then some (((0:Int),([],([],()))),((false,()),()))else (Hk ((b.2.2.1.1,(a.2.1,(a.2.2.1,()))),())).bind λd=>bif d.1.1 then some (((0:Int),([],([],()))),((false,()),()))else some ((b.2.2.1.1,(a.2.1,(a.2.2.1,()))),((true,()),()))) some c
def as8:zi:=⟨as6,as7,Fq⟩
def as9:Gs:=[PL,U1,IS]
def at0:=Kc
def Ho.b0(d:u3)(b:(Gt×(sH×E1))):(a:Hi)->Option (Sum Hi (Sum Hi u3)):=λa=>bif dO a.2.1 (List.length d.1.2.2.2.2.2.2.2.2.2.2.2.2.2.2.2.2.1:Int)then bif a.1 then some (.inl (true,(cM .i64 a.2.1 (1:Int),())))else (bK d.1.2.2.2.2.2.2.2.2.2.2.2.2.2.2.2.2.1 a.2.1).bind λ_=>(aC d.1.2.2.2.2.2.2.2.2.2.2.2.2.2.2.2.2.1 (Int.toNat a.2.1)).bind λc=>some (.inl ((gA c.1 b.2.1.1)&&((gA c.2.1 b.2.1.2.1)&&(ko c.2.2.1 b.2.1.2.2.1)),(cM .i64 a.2.1 (1:Int),())))else some (.inr (.inl (a.1,(a.2.1,()))))
def Ho:(Gt×(sH×E1))->Option u3:=λb=>(FL ((b.1.2.2.2.2.1,()),((b.2.1.2.2.1,()),()))).bind λf=>bif (!f.1.1)then some (b.1,())else (K0 ((b.1.2.2.2.2.1,()),(b.2.2.1,()))).bind λg=>bif (!g.1.1)then some (b.1,())else (I6 (b.1,(b.2.2.1,()))).bind λa=>bif !gA a.1.2.1 b.1.2.1 then some (a.1,())else (aR (Ho.b0 a b) (false,((0:Int),()))).bind λj=>Sum.elim (λh=>Option.bind (bif (!h.1)then bif dO (List.length a.1.2.2.2.2.2.2.2.2.2.2.2.2.2.2.2.2.1:Int) (1000:Int)then bif dE (List.length a.1.2.2.2.2.2.2.2.2.2.2.2.2.2.2.2.2.1+List.length ([b.2.1]:List (ow))) 32 then some (.inl (bV a.1.2.2.2.2.2.2.2.2.2.2.2.2.2.2.2.2.1 ([b.2.1]:List (ow)),()))else none else some (.inl (a.1.2.2.2.2.2.2.2.2.2.2.2.2.2.2.2.2.1,()))else some (.inl (a.1.2.2.2.2.2.2.2.2.2.2.2.2.2.2.2.2.1,()))) λi=>Sum.elim (λc=>(Fq ((a.1.2.2.2.2.1,()),((c.1,()),((b.2.1.1,()),())))).bind λd=>bif d.2.1.1 then (MC ((a.1.1,(a.1.2.1,(a.1.2.2.1,(a.1.2.2.2.1,(a.1.2.2.2.2.1,(a.1.2.2.2.2.2.1,(a.1.2.2.2.2.2.2.1,(a.1.2.2.2.2.2.2.2.1,(a.1.2.2.2.2.2.2.2.2.1,(a.1.2.2.2.2.2.2.2.2.2.1,(a.1.2.2.2.2.2.2.2.2.2.2.1,(a.1.2.2.2.2.2.2.2.2.2.2.2.1,(a.1.2.2.2.2.2.2.2.2.2.2.2.2.1,(a.1.2.2.2.2.2.2.2.2.2.2.2.2.2.1,(a.1.2.2.2.2.2.2.2.2.2.2.2.2.2.2.1,(a.1.2.2.2.2.2.2.2.2.2.2.2.2.2.2.2.1,(c.1,(a.1.2.2.2.2.2.2.2.2.2.2.2.2.2.2.2.2.2.1,(a.1.2.2.2.2.2.2.2.2.2.2.2.2.2.2.2.2.2.2.1,(a.1.2.2.2.2.2.2.2.2.2.2.2.2.2.2.2.2.2.2.2.1,())))))))))))))))))))),(d.1,()))).bind λe=>some (e.1,()) else some ((a.1.1,(a.1.2.1,(a.1.2.2.1,(a.1.2.2.2.1,(a.1.2.2.2.2.1,(a.1.2.2.2.2.2.1,(a.1.2.2.2.2.2.2.1,(a.1.2.2.2.2.2.2.2.1,(a.1.2.2.2.2.2.2.2.2.1,(a.1.2.2.2.2.2.2.2.2.2.1,(a.1.2.2.2.2.2.2.2.2.2.2.1,(a.1.2.2.2.2.2.2.2.2.2.2.2.1,(a.1.2.2.2.2.2.2.2.2.2.2.2.2.1,(a.1.2.2.2.2.2.2.2.2.2.2.2.2.2.1,(a.1.2.2.2.2.2.2.2.2.2.2.2.2.2.2.1,(a.1.2.2.2.2.2.2.2.2.2.2.2.2.2.2.2.1,(c.1,(a.1.2.2.2.2.2.2.2.2.2.2.2.2.2.2.2.2.2.1,(a.1.2.2.2.2.2.2.2.2.2.2.2.2.2.2.2.2.2.2.1,(a.1.2.2.2.2.2.2.2.2.2.2.2.2.2.2.2.2.2.2.2.1,())))))))))))))))))))),())) some i) some j
def at1:zi:=⟨as9,at0,Ho⟩
def Xp:Gs:=[PL,PX]
def at3:=Kc
def Hp.b0(c:(Gt×Ek)):(a:Zj)->Option (Sum Zj (Sum Zj u3)):=λa=>bif dO a.1 (List.length c.2.1.2.2.2.1:Int)then bif gA a.2.2.1 c.2.1.2.2.1 then (bK c.2.1.2.2.2.1 a.1).bind λd=>(I7 ((a.2.1,(a.2.2.1,(a.2.2.2.1,(a.2.2.2.2.1,(a.2.2.2.2.2.1,(a.2.2.2.2.2.2.1,(a.2.2.2.2.2.2.2.1,(a.2.2.2.2.2.2.2.2.1,(a.2.2.2.2.2.2.2.2.2.1,(a.2.2.2.2.2.2.2.2.2.2.1,(a.2.2.2.2.2.2.2.2.2.2.2.1,(a.2.2.2.2.2.2.2.2.2.2.2.2.1,(a.2.2.2.2.2.2.2.2.2.2.2.2.2.1,(a.2.2.2.2.2.2.2.2.2.2.2.2.2.2.1,(a.2.2.2.2.2.2.2.2.2.2.2.2.2.2.2.1,(a.2.2.2.2.2.2.2.2.2.2.2.2.2.2.2.2.1,(a.2.2.2.2.2.2.2.2.2.2.2.2.2.2.2.2.2.1,(a.2.2.2.2.2.2.2.2.2.2.2.2.2.2.2.2.2.2.1,(a.2.2.2.2.2.2.2.2.2.2.2.2.2.2.2.2.2.2.2.1,(a.2.2.2.2.2.2.2.2.2.2.2.2.2.2.2.2.2.2.2.2.1,())))))))))))))))))))),(d,()))).bind λb=>some (.inl (cM .i64 a.1 (1:Int),(b.2.1.1,(b.2.1.2.1,(b.2.1.2.2.1,(b.2.1.2.2.2.1,(b.2.1.2.2.2.2.1,(b.2.1.2.2.2.2.2.1,(b.2.1.2.2.2.2.2.2.1,(b.2.1.2.2.2.2.2.2.2.1,(b.2.1.2.2.2.2.2.2.2.2.1,(b.2.1.2.2.2.2.2.2.2.2.2.1,(b.2.1.2.2.2.2.2.2.2.2.2.2.1,(b.2.1.2.2.2.2.2.2.2.2.2.2.2.1,(b.2.1.2.2.2.2.2.2.2.2.2.2.2.2.1,(b.2.1.2.2.2.2.2.2.2.2.2.2.2.2.2.1,(b.2.1.2.2.2.2.2.2.2.2.2.2.2.2.2.2.1,(b.2.1.2.2.2.2.2.2.2.2.2.2.2.2.2.2.2.1,(b.2.1.2.2.2.2.2.2.2.2.2.2.2.2.2.2.2.2.1,(b.2.1.2.2.2.2.2.2.2.2.2.2.2.2.2.2.2.2.2.1,(b.2.1.2.2.2.2.2.2.2.2.2.2.2.2.2.2.2.2.2.2.1,(b.2.1.2.2.2.2.2.2.2.2.2.2.2.2.2.2.2.2.2.2.2.1,()))))))))))))))))))))))else some (.inr (.inl (a.1,(a.2.1,(a.2.2.1,(a.2.2.2.1,(a.2.2.2.2.1,(a.2.2.2.2.2.1,(a.2.2.2.2.2.2.1,(a.2.2.2.2.2.2.2.1,(a.2.2.2.2.2.2.2.2.1,(a.2.2.2.2.2.2.2.2.2.1,(a.2.2.2.2.2.2.2.2.2.2.1,(a.2.2.2.2.2.2.2.2.2.2.2.1,(a.2.2.2.2.2.2.2.2.2.2.2.2.1,(a.2.2.2.2.2.2.2.2.2.2.2.2.2.1,(a.2.2.2.2.2.2.2.2.2.2.2.2.2.2.1,(a.2.2.2.2.2.2.2.2.2.2.2.2.2.2.2.1,(a.2.2.2.2.2.2.2.2.2.2.2.2.2.2.2.2.1,(a.2.2.2.2.2.2.2.2.2.2.2.2.2.2.2.2.2.1,(a.2.2.2.2.2.2.2.2.2.2.2.2.2.2.2.2.2.2.1,(a.2.2.2.2.2.2.2.2.2.2.2.2.2.2.2.2.2.2.2.1,(a.2.2.2.2.2.2.2.2.2.2.2.2.2.2.2.2.2.2.2.2.1,())))))))))))))))))))))))else some (.inr (.inl (a.1,(a.2.1,(a.2.2.1,(a.2.2.2.1,(a.2.2.2.2.1,(a.2.2.2.2.2.1,(a.2.2.2.2.2.2.1,(a.2.2.2.2.2.2.2.1,(a.2.2.2.2.2.2.2.2.1,(a.2.2.2.2.2.2.2.2.2.1,(a.2.2.2.2.2.2.2.2.2.2.1,(a.2.2.2.2.2.2.2.2.2.2.2.1,(a.2.2.2.2.2.2.2.2.2.2.2.2.1,(a.2.2.2.2.2.2.2.2.2.2.2.2.2.1,(a.2.2.2.2.2.2.2.2.2.2.2.2.2.2.1,(a.2.2.2.2.2.2.2.2.2.2.2.2.2.2.2.1,(a.2.2.2.2.2.2.2.2.2.2.2.2.2.2.2.2.1,(a.2.2.2.2.2.2.2.2.2.2.2.2.2.2.2.2.2.1,(a.2.2.2.2.2.2.2.2.2.2.2.2.2.2.2.2.2.2.1,(a.2.2.2.2.2.2.2.2.2.2.2.2.2.2.2.2.2.2.2.1,(a.2.2.2.2.2.2.2.2.2.2.2.2.2.2.2.2.2.2.2.2.1,())))))))))))))))))))))))
def Hp:(Gt×Ek)->Option u3:=λc=>(aR (Hp.b0 c) ((0:Int),(c.1.1,(c.1.2.1,(c.1.2.2.1,(c.1.2.2.2.1,(c.1.2.2.2.2.1,(c.1.2.2.2.2.2.1,(c.1.2.2.2.2.2.2.1,(c.1.2.2.2.2.2.2.2.1,(c.1.2.2.2.2.2.2.2.2.1,(c.1.2.2.2.2.2.2.2.2.2.1,(c.1.2.2.2.2.2.2.2.2.2.2.1,(c.1.2.2.2.2.2.2.2.2.2.2.2.1,(c.1.2.2.2.2.2.2.2.2.2.2.2.2.1,(c.1.2.2.2.2.2.2.2.2.2.2.2.2.2.1,(c.1.2.2.2.2.2.2.2.2.2.2.2.2.2.2.1,(c.1.2.2.2.2.2.2.2.2.2.2.2.2.2.2.2.1,(c.1.2.2.2.2.2.2.2.2.2.2.2.2.2.2.2.2.1,(c.1.2.2.2.2.2.2.2.2.2.2.2.2.2.2.2.2.2.1,(c.1.2.2.2.2.2.2.2.2.2.2.2.2.2.2.2.2.2.2.1,(c.1.2.2.2.2.2.2.2.2.2.2.2.2.2.2.2.2.2.2.2.1,())))))))))))))))))))))).bind λg=>Sum.elim (λa=>Option.bind (bif gA a.2.2.1 c.2.1.2.2.1 then (K0 ((a.2.2.2.2.2.1,()),((c.2.1.2.2.2.2.2.2.2.2.2.2.1,(c.2.1.2.2.2.2.2.2.2.2.2.2.2.1,(c.2.1.2.2.2.2.2.2.2.2.2.2.2.2.1,()))),()))).bind λi=>bif i.1.1 then (I6 ((a.2.1,(a.2.2.1,(a.2.2.2.1,(a.2.2.2.2.1,(a.2.2.2.2.2.1,(a.2.2.2.2.2.2.1,(a.2.2.2.2.2.2.2.1,(a.2.2.2.2.2.2.2.2.1,(a.2.2.2.2.2.2.2.2.2.1,(a.2.2.2.2.2.2.2.2.2.2.1,(a.2.2.2.2.2.2.2.2.2.2.2.1,(a.2.2.2.2.2.2.2.2.2.2.2.2.1,(a.2.2.2.2.2.2.2.2.2.2.2.2.2.1,(a.2.2.2.2.2.2.2.2.2.2.2.2.2.2.1,(a.2.2.2.2.2.2.2.2.2.2.2.2.2.2.2.1,(a.2.2.2.2.2.2.2.2.2.2.2.2.2.2.2.2.1,(a.2.2.2.2.2.2.2.2.2.2.2.2.2.2.2.2.2.1,(a.2.2.2.2.2.2.2.2.2.2.2.2.2.2.2.2.2.2.1,(a.2.2.2.2.2.2.2.2.2.2.2.2.2.2.2.2.2.2.2.1,(a.2.2.2.2.2.2.2.2.2.2.2.2.2.2.2.2.2.2.2.2.1,())))))))))))))))))))),((c.2.1.2.2.2.2.2.2.2.2.2.2.1,(c.2.1.2.2.2.2.2.2.2.2.2.2.2.1,(c.2.1.2.2.2.2.2.2.2.2.2.2.2.2.1,()))),()))).bind λd=>some (.inl (d.1.1,(d.1.2.1,(d.1.2.2.1,(d.1.2.2.2.1,(d.1.2.2.2.2.1,(d.1.2.2.2.2.2.1,(d.1.2.2.2.2.2.2.1,(d.1.2.2.2.2.2.2.2.1,(d.1.2.2.2.2.2.2.2.2.1,(d.1.2.2.2.2.2.2.2.2.2.1,(d.1.2.2.2.2.2.2.2.2.2.2.1,(d.1.2.2.2.2.2.2.2.2.2.2.2.1,(d.1.2.2.2.2.2.2.2.2.2.2.2.2.1,(d.1.2.2.2.2.2.2.2.2.2.2.2.2.2.1,(d.1.2.2.2.2.2.2.2.2.2.2.2.2.2.2.1,(d.1.2.2.2.2.2.2.2.2.2.2.2.2.2.2.2.1,(d.1.2.2.2.2.2.2.2.2.2.2.2.2.2.2.2.2.1,(d.1.2.2.2.2.2.2.2.2.2.2.2.2.2.2.2.2.2.1,(d.1.2.2.2.2.2.2.2.2.2.2.2.2.2.2.2.2.2.2.1,(d.1.2.2.2.2.2.2.2.2.2.2.2.2.2.2.2.2.2.2.2.1,())))))))))))))))))))))else some (.inl (a.2.1,(a.2.2.1,(a.2.2.2.1,(a.2.2.2.2.1,(a.2.2.2.2.2.1,(a.2.2.2.2.2.2.1,(a.2.2.2.2.2.2.2.1,(a.2.2.2.2.2.2.2.2.1,(a.2.2.2.2.2.2.2.2.2.1,(a.2.2.2.2.2.2.2.2.2.2.1,(a.2.2.2.2.2.2.2.2.2.2.2.1,(a.2.2.2.2.2.2.2.2.2.2.2.2.1,(a.2.2.2.2.2.2.2.2.2.2.2.2.2.1,(a.2.2.2.2.2.2.2.2.2.2.2.2.2.2.1,(a.2.2.2.2.2.2.2.2.2.2.2.2.2.2.2.1,(a.2.2.2.2.2.2.2.2.2.2.2.2.2.2.2.2.1,(a.2.2.2.2.2.2.2.2.2.2.2.2.2.2.2.2.2.1,(a.2.2.2.2.2.2.2.2.2.2.2.2.2.2.2.2.2.2.1,(a.2.2.2.2.2.2.2.2.2.2.2.2.2.2.2.2.2.2.2.1,(a.2.2.2.2.2.2.2.2.2.2.2.2.2.2.2.2.2.2.2.2.1,())))))))))))))))))))))else some (.inl (a.2.1,(a.2.2.1,(a.2.2.2.1,(a.2.2.2.2.1,(a.2.2.2.2.2.1,(a.2.2.2.2.2.2.1,(a.2.2.2.2.2.2.2.1,(a.2.2.2.2.2.2.2.2.1,(a.2.2.2.2.2.2.2.2.2.1,(a.2.2.2.2.2.2.2.2.2.2.1,(a.2.2.2.2.2.2.2.2.2.2.2.1,(a.2.2.2.2.2.2.2.2.2.2.2.2.1,(a.2.2.2.2.2.2.2.2.2.2.2.2.2.1,(a.2.2.2.2.2.2.2.2.2.2.2.2.2.2.1,(a.2.2.2.2.2.2.2.2.2.2.2.2.2.2.2.1,(a.2.2.2.2.2.2.2.2.2.2.2.2.2.2.2.2.1,(a.2.2.2.2.2.2.2.2.2.2.2.2.2.2.2.2.2.1,(a.2.2.2.2.2.2.2.2.2.2.2.2.2.2.2.2.2.2.1,(a.2.2.2.2.2.2.2.2.2.2.2.2.2.2.2.2.2.2.2.1,(a.2.2.2.2.2.2.2.2.2.2.2.2.2.2.2.2.2.2.2.2.1,())))))))))))))))))))))) λh=>Sum.elim (λb=>bif gA b.2.1 c.2.1.2.2.1 then (HP ((b.2.2.2.2.1,()),((c.2.1.2.2.2.2.2.2.2.2.2.2.2.2.2.1,(c.2.1.2.2.2.2.2.2.2.2.2.2.2.2.2.2.1,(c.2.1.2.2.2.2.2.2.2.2.2.2.2.2.2.2.2.1,()))),()))).bind λf=>bif f.1.1 then (MC ((b.1,(b.2.1,(b.2.2.1,(b.2.2.2.1,(b.2.2.2.2.1,(b.2.2.2.2.2.1,(b.2.2.2.2.2.2.1,(b.2.2.2.2.2.2.2.1,(b.2.2.2.2.2.2.2.2.1,(b.2.2.2.2.2.2.2.2.2.1,(b.2.2.2.2.2.2.2.2.2.2.1,(b.2.2.2.2.2.2.2.2.2.2.2.1,(b.2.2.2.2.2.2.2.2.2.2.2.2.1,(b.2.2.2.2.2.2.2.2.2.2.2.2.2.1,(b.2.2.2.2.2.2.2.2.2.2.2.2.2.2.1,(b.2.2.2.2.2.2.2.2.2.2.2.2.2.2.2.1,(b.2.2.2.2.2.2.2.2.2.2.2.2.2.2.2.2.1,(b.2.2.2.2.2.2.2.2.2.2.2.2.2.2.2.2.2.1,(b.2.2.2.2.2.2.2.2.2.2.2.2.2.2.2.2.2.2.1,(b.2.2.2.2.2.2.2.2.2.2.2.2.2.2.2.2.2.2.2.1,())))))))))))))))))))),((c.2.1.2.2.2.2.2.2.2.2.2.2.2.2.2.1,(c.2.1.2.2.2.2.2.2.2.2.2.2.2.2.2.2.1,(c.2.1.2.2.2.2.2.2.2.2.2.2.2.2.2.2.2.1,()))),()))).bind λe=>some (e.1,()) else some ((b.1,(b.2.1,(b.2.2.1,(b.2.2.2.1,(b.2.2.2.2.1,(b.2.2.2.2.2.1,(b.2.2.2.2.2.2.1,(b.2.2.2.2.2.2.2.1,(b.2.2.2.2.2.2.2.2.1,(b.2.2.2.2.2.2.2.2.2.1,(b.2.2.2.2.2.2.2.2.2.2.1,(b.2.2.2.2.2.2.2.2.2.2.2.1,(b.2.2.2.2.2.2.2.2.2.2.2.2.1,(b.2.2.2.2.2.2.2.2.2.2.2.2.2.1,(b.2.2.2.2.2.2.2.2.2.2.2.2.2.2.1,(b.2.2.2.2.2.2.2.2.2.2.2.2.2.2.2.1,(b.2.2.2.2.2.2.2.2.2.2.2.2.2.2.2.2.1,(b.2.2.2.2.2.2.2.2.2.2.2.2.2.2.2.2.2.1,(b.2.2.2.2.2.2.2.2.2.2.2.2.2.2.2.2.2.2.1,(b.2.2.2.2.2.2.2.2.2.2.2.2.2.2.2.2.2.2.2.1,())))))))))))))))))))),()) else some ((b.1,(b.2.1,(b.2.2.1,(b.2.2.2.1,(b.2.2.2.2.1,(b.2.2.2.2.2.1,(b.2.2.2.2.2.2.1,(b.2.2.2.2.2.2.2.1,(b.2.2.2.2.2.2.2.2.1,(b.2.2.2.2.2.2.2.2.2.1,(b.2.2.2.2.2.2.2.2.2.2.1,(b.2.2.2.2.2.2.2.2.2.2.2.1,(b.2.2.2.2.2.2.2.2.2.2.2.2.1,(b.2.2.2.2.2.2.2.2.2.2.2.2.2.1,(b.2.2.2.2.2.2.2.2.2.2.2.2.2.2.1,(b.2.2.2.2.2.2.2.2.2.2.2.2.2.2.2.1,(b.2.2.2.2.2.2.2.2.2.2.2.2.2.2.2.2.1,(b.2.2.2.2.2.2.2.2.2.2.2.2.2.2.2.2.2.1,(b.2.2.2.2.2.2.2.2.2.2.2.2.2.2.2.2.2.2.1,(b.2.2.2.2.2.2.2.2.2.2.2.2.2.2.2.2.2.2.2.1,())))))))))))))))))))),())) some h) some g
def at4:zi:=⟨Xp,at3,Hp⟩
def at5:=Xp
def at6:=Vf
def SV:(Gt×Ek)->Option (Sq):=λe=>Option.bind (bif gA e.2.1.1 (1:Int)then (bK e.2.1.2.2.2.1 (0:Int)).bind λg=>(OB (e.1,(g,()))).bind λf=>some (.inr (f.1,(f.2.1,(f.2.2.1,()))))else bif gA e.2.1.1 (2:Int)then (HQ (e.1,((e.2.1.2.2.2.2.1,(e.2.1.2.2.2.2.2.1,(e.2.1.2.2.2.2.2.2.1,()))),()))).bind λc=>some (.inl (c.1.1,(c.1.2.1,(c.1.2.2.1,(c.1.2.2.2.1,(c.1.2.2.2.2.1,(c.1.2.2.2.2.2.1,(c.1.2.2.2.2.2.2.1,(c.1.2.2.2.2.2.2.2.1,(c.1.2.2.2.2.2.2.2.2.1,(c.1.2.2.2.2.2.2.2.2.2.1,(c.1.2.2.2.2.2.2.2.2.2.2.1,(c.1.2.2.2.2.2.2.2.2.2.2.2.1,(c.1.2.2.2.2.2.2.2.2.2.2.2.2.1,(c.1.2.2.2.2.2.2.2.2.2.2.2.2.2.1,(c.1.2.2.2.2.2.2.2.2.2.2.2.2.2.2.1,(c.1.2.2.2.2.2.2.2.2.2.2.2.2.2.2.2.1,(c.1.2.2.2.2.2.2.2.2.2.2.2.2.2.2.2.2.1,(c.1.2.2.2.2.2.2.2.2.2.2.2.2.2.2.2.2.2.1,(c.1.2.2.2.2.2.2.2.2.2.2.2.2.2.2.2.2.2.2.1,(c.1.2.2.2.2.2.2.2.2.2.2.2.2.2.2.2.2.2.2.2.1,())))))))))))))))))))))else bif gA e.2.1.1 (3:Int)then (Ho (e.1,((e.2.1.2.2.2.2.2.2.2.1,(e.2.1.2.2.2.2.2.2.2.2.1,(e.2.1.2.2.2.2.2.2.2.2.2.1,()))),((e.2.1.2.2.2.2.2.2.2.2.2.2.1,(e.2.1.2.2.2.2.2.2.2.2.2.2.2.1,(e.2.1.2.2.2.2.2.2.2.2.2.2.2.2.1,()))),())))).bind λa=>some (.inl (a.1.1,(a.1.2.1,(a.1.2.2.1,(a.1.2.2.2.1,(a.1.2.2.2.2.1,(a.1.2.2.2.2.2.1,(a.1.2.2.2.2.2.2.1,(a.1.2.2.2.2.2.2.2.1,(a.1.2.2.2.2.2.2.2.2.1,(a.1.2.2.2.2.2.2.2.2.2.1,(a.1.2.2.2.2.2.2.2.2.2.2.1,(a.1.2.2.2.2.2.2.2.2.2.2.2.1,(a.1.2.2.2.2.2.2.2.2.2.2.2.2.1,(a.1.2.2.2.2.2.2.2.2.2.2.2.2.2.1,(a.1.2.2.2.2.2.2.2.2.2.2.2.2.2.2.1,(a.1.2.2.2.2.2.2.2.2.2.2.2.2.2.2.2.1,(a.1.2.2.2.2.2.2.2.2.2.2.2.2.2.2.2.2.1,(a.1.2.2.2.2.2.2.2.2.2.2.2.2.2.2.2.2.2.1,(a.1.2.2.2.2.2.2.2.2.2.2.2.2.2.2.2.2.2.2.1,(a.1.2.2.2.2.2.2.2.2.2.2.2.2.2.2.2.2.2.2.2.1,())))))))))))))))))))))else (Hp (e.1,(e.2.1,()))).bind λd=>some (.inl (d.1.1,(d.1.2.1,(d.1.2.2.1,(d.1.2.2.2.1,(d.1.2.2.2.2.1,(d.1.2.2.2.2.2.1,(d.1.2.2.2.2.2.2.1,(d.1.2.2.2.2.2.2.2.1,(d.1.2.2.2.2.2.2.2.2.1,(d.1.2.2.2.2.2.2.2.2.2.1,(d.1.2.2.2.2.2.2.2.2.2.2.1,(d.1.2.2.2.2.2.2.2.2.2.2.2.1,(d.1.2.2.2.2.2.2.2.2.2.2.2.2.1,(d.1.2.2.2.2.2.2.2.2.2.2.2.2.2.1,(d.1.2.2.2.2.2.2.2.2.2.2.2.2.2.2.1,(d.1.2.2.2.2.2.2.2.2.2.2.2.2.2.2.2.1,(d.1.2.2.2.2.2.2.2.2.2.2.2.2.2.2.2.2.1,(d.1.2.2.2.2.2.2.2.2.2.2.2.2.2.2.2.2.2.1,(d.1.2.2.2.2.2.2.2.2.2.2.2.2.2.2.2.2.2.2.1,(d.1.2.2.2.2.2.2.2.2.2.2.2.2.2.2.2.2.2.2.2.1,())))))))))))))))))))))) λh=>Sum.elim (λb=>some ((([]:List (By)),()),((([]:List (sb)),()),((b.1,(b.2.1,(b.2.2.1,(b.2.2.2.1,(b.2.2.2.2.1,(b.2.2.2.2.2.1,(b.2.2.2.2.2.2.1,(b.2.2.2.2.2.2.2.1,(b.2.2.2.2.2.2.2.2.1,(b.2.2.2.2.2.2.2.2.2.1,(b.2.2.2.2.2.2.2.2.2.2.1,(b.2.2.2.2.2.2.2.2.2.2.2.1,(b.2.2.2.2.2.2.2.2.2.2.2.2.1,(b.2.2.2.2.2.2.2.2.2.2.2.2.2.1,(b.2.2.2.2.2.2.2.2.2.2.2.2.2.2.1,(b.2.2.2.2.2.2.2.2.2.2.2.2.2.2.2.1,(b.2.2.2.2.2.2.2.2.2.2.2.2.2.2.2.2.1,(b.2.2.2.2.2.2.2.2.2.2.2.2.2.2.2.2.2.1,(b.2.2.2.2.2.2.2.2.2.2.2.2.2.2.2.2.2.2.1,(b.2.2.2.2.2.2.2.2.2.2.2.2.2.2.2.2.2.2.2.1,())))))))))))))))))))),())))) some h
def at7:zi:=⟨at5,at6,SV⟩
def at8:Gs:=[U6,WW]
def at9:=o7
def I8.b0(a:(IL×(sb×Unit))):(b:i9)->Option EO:=λb=>bif dO b.1 (List.length a.1.1:Int)then(bK a.1.1 b.1).bind λc=>bif(gA c.1 a.2.1.1)&&((gA c.2.1 a.2.1.2.1)&&((gA c.2.2.1 a.2.1.2.2.1)&&((gA c.2.2.2.1 a.2.1.2.2.2.1)&&(ko c.2.2.2.2.1 a.2.1.2.2.2.2.1))))then some (.inr (.inr ((true,()),())))else some (.inl (cM .i64 b.1 (1:Int),()))else some (.inr (.inl (b.1,())))
def I8:(IL×(sb×Unit))->Option la:=λa=>(aR (I8.b0 a) ((0:Int),())).bind λb=>Sum.elim (λc=>some ((false,()),())) some b
def au0:zi:=⟨at8,at9,I8⟩
def au1:Gs:=[Un,WZ,U6]
def K2:Gs:=[Un]
def u5.b0(b:(IK×(Oo×KT))):(a:UW)->Option (Sum UW (Sum UW C7)):=λa=>bif dO a.1 (List.length b.2.1.1:Int)then (bK b.2.1.1 a.1).bind λd=>(PM ((b.1.1,(b.1.2.1,(b.1.2.2.1,(b.1.2.2.2.1,(b.1.2.2.2.2.1,(b.1.2.2.2.2.2.1,(a.2.1,()))))))),((d.2.1,()),()))).bind λe=>bif km (0:Int) e.1.1 then bif dO (List.length a.2.1:Int) (400:Int) then (bK b.2.1.1 a.1).bind λc=>bif dE (List.length a.2.1+List.length ([c]:List (By))) 216 then some (.inl (cM .i64 a.1 (1:Int),(bV a.2.1 ([c]:List (By)),()))) else none else some (.inl (cM .i64 a.1 (1:Int),(a.2.1,()))) else some (.inl (cM .i64 a.1 (1:Int),(a.2.1,()))) else some (.inr (.inl (a.1,(a.2.1,()))))
def u5.b1(b:(IK×(Oo×KT))):(a:UZ)->Option (Sum UZ (Sum UZ C7)):=λa=>bif dO a.1 (List.length b.2.2.1.1:Int)then (bK b.2.2.1.1 a.1).bind λe=>(I8 ((a.2.1,()),(e,()))).bind λd=>bif (!d.1.1)then (bK b.2.2.1.1 a.1).bind λc=>bif dE (List.length a.2.1+List.length ([c]:List (sb))) 48 then some (.inl (cM .i64 a.1 (1:Int),(bV a.2.1 ([c]:List (sb)),())))else none else some (.inl (cM .i64 a.1 (1:Int),(a.2.1,())))else some (.inr (.inl (a.1,(a.2.1,()))))
def u5:(IK×(Oo×KT))->Option C7:=λa=>(aR (u5.b0 a) ((0:Int),(a.1.2.2.2.2.2.2.1,()))).bind λd=>Sum.elim (λe=>(aR (u5.b1 a) ((0:Int),(a.1.2.2.2.2.2.1,()))).bind λb=>Sum.elim (λc=>some ((a.1.1,(a.1.2.1,(a.1.2.2.1,(a.1.2.2.2.1,(a.1.2.2.2.2.1,(c.2.1,(e.2.1,()))))))),())) some b) some d
def au2:zi:=⟨au1,K2,u5⟩
def Xq:Gs:=[Un,PX]
def au3:=K2
def Qd:(IK×Ek)->Option C7:=λa=>(PM (a.1,((a.2.1.2.1,()),()))).bind λb=>(bK a.1.2.2.2.1 b.1.1).bind λ_=>(aC a.1.2.2.2.1 (Int.toNat b.1.1)).bind λf=>bif gA f.2.1 a.2.1.2.2.1 then (aC a.1.2.2.2.1 (Int.toNat b.1.1)).bind λd=>(SV (d,(a.2.1,()))).bind λc=>(some (List.set a.1.2.2.2.1 (Int.toNat b.1.1) c.2.2.1)).bind λe=>(u5 ((a.1.1,(a.1.2.1,(a.1.2.2.1,(e,(a.1.2.2.2.2.1,(a.1.2.2.2.2.2.1,(a.1.2.2.2.2.2.2.1,()))))))),(c.1,(c.2.1,())))).bind λg=>some (g.1,()) else some (a.1,())
def au4:zi:=⟨Xq,au3,Qd⟩
def Xr:Gs:=[Un,⟨.agg,UJ,[]⟩]
def MD:Gs:=[PT,Un]
def ME:(IK×(PS×Unit))->Option JZ:=λa=>(k0 ((a.2.1.2.1,()),(((0:Int),()),((gS .i64 (List.length a.1.2.2.2.2.2.2.1:Int) (1:Int),()),())))).bind λg=>bif (!g.1.1)then some ((false,()),(a.1,()))else (bK a.1.2.2.2.2.2.2.1 a.2.1.2.1).bind λ_=>(aC a.1.2.2.2.2.2.2.1 (Int.toNat a.2.1.2.1)).bind λd=>bif gA a.2.1.1 (8:Int)then Option.bind (bif dO (List.length a.1.2.2.2.2.2.2.1:Int) (400:Int)then (IZ (d,())).bind λe=>bif dE (List.length a.1.2.2.2.2.2.2.1+List.length ([e.1]:List (By))) 216 then some (.inl (bV a.1.2.2.2.2.2.2.1 ([e.1]:List (By)),()))else none else some (.inl (a.1.2.2.2.2.2.2.1,()))) λf=>Sum.elim (λh=>some ((true,()),((a.1.1,(a.1.2.1,(a.1.2.2.1,(a.1.2.2.2.1,(a.1.2.2.2.2.1,(a.1.2.2.2.2.2.1,(h.1,()))))))),()))) some f else bif mX a.2.1.2.1 (List.length a.1.2.2.2.2.2.2.1) then bif dE (List.length ([]:List (By))+List.length (List.take ((Int.toNat a.2.1.2.1)-0) (List.drop 0 a.1.2.2.2.2.2.2.1))) 216 then bif mX (cM .i64 a.2.1.2.1 (1:Int)) (List.length a.1.2.2.2.2.2.2.1) then bif dE (List.length (bV ([]:List (By)) (List.take ((Int.toNat a.2.1.2.1)-0) (List.drop 0 a.1.2.2.2.2.2.2.1)))+List.length (List.take ((List.length a.1.2.2.2.2.2.2.1)-(Int.toNat (cM .i64 a.2.1.2.1 (1:Int)))) (List.drop (Int.toNat (cM .i64 a.2.1.2.1 (1:Int))) a.1.2.2.2.2.2.2.1))) 216 then Option.bind (bif gA a.2.1.1 (6:Int) then (Qd ((a.1.1,(a.1.2.1,(a.1.2.2.1,(a.1.2.2.2.1,(a.1.2.2.2.2.1,(a.1.2.2.2.2.2.1,(bV (bV ([]:List (By)) (List.take ((Int.toNat a.2.1.2.1)-0) (List.drop 0 a.1.2.2.2.2.2.2.1))) (List.take ((List.length a.1.2.2.2.2.2.2.1)-(Int.toNat (cM .i64 a.2.1.2.1 (1:Int)))) (List.drop (Int.toNat (cM .i64 a.2.1.2.1 (1:Int))) a.1.2.2.2.2.2.2.1)),()))))))),(d,()))).bind λc=>some (.inl (c.1.1,(c.1.2.1,(c.1.2.2.1,(c.1.2.2.2.1,(c.1.2.2.2.2.1,(c.1.2.2.2.2.2.1,(c.1.2.2.2.2.2.2.1,())))))))) else some (.inl (a.1.1,(a.1.2.1,(a.1.2.2.1,(a.1.2.2.2.1,(a.1.2.2.2.2.1,(a.1.2.2.2.2.2.1,(bV (bV ([]:List (By)) (List.take ((Int.toNat a.2.1.2.1)-0) (List.drop 0 a.1.2.2.2.2.2.2.1))) (List.take ((List.length a.1.2.2.2.2.2.2.1)-(Int.toNat (cM .i64 a.2.1.2.1 (1:Int)))) (List.drop (Int.toNat (cM .i64 a.2.1.2.1 (1:Int))) a.1.2.2.2.2.2.2.1)),()))))))))) λi=>Sum.elim (λb=>some ((true,()),((b.1,(b.2.1,(b.2.2.1,(b.2.2.2.1,(b.2.2.2.2.1,(b.2.2.2.2.2.1,(b.2.2.2.2.2.2.1,()))))))),()))) some i else none else none else none else none
def au5:zi:=⟨Xr,MD,ME⟩
def au6:=SP
def au7:=o7
def Kd.b0(b:Ek):(a:i9)->Option EO:=λa=>bif dO a.1 (List.length b.1.2.2.2.1:Int)then(bK b.1.2.2.2.1 a.1).bind λe=>(Ox (e,())).bind λd=>bif (!d.1.1)then some (.inr (.inr ((false,()),())))else (bK b.1.2.2.2.1 a.1).bind λc=>bif !gA c.2.1 b.1.2.2.1 then some (.inr (.inr ((false,()),())))else some (.inl (cM .i64 a.1 (1:Int),()))else some (.inr (.inl (a.1,())))
def Kd:Ek->Option la:=λa=>Option.bind (bif gA a.1.1 (1:Int)then some (.inl ((1:Int),()))else bif gA a.1.1 (4:Int)then some (.inl ((400:Int),()))else some (.inl ((0:Int),()))) λc=>Sum.elim (λb=>(aR (Kd.b0 a) ((0:Int),())).bind λd=>Sum.elim (λe=>bif km (List.length a.1.2.2.2.1:Int) b.1 then bif !gA a.1.1 (1:Int) then some ((true,()),()) else some ((gA (List.length a.1.2.2.2.1:Int) (1:Int),()),()) else some ((false,()),())) some d) some c
def au8:zi:=⟨au6,au7,Kd⟩
def au9:=P4
def av0:=o7
def Hq.b0(b:Fj):(a:i9)->Option EO:=λa=>bif dO a.1 (List.length b.1.2.2.1:Int)then(bK b.1.2.2.1 a.1).bind λc=>(k0 (c,(((0:Int),()),((gS .i64 b.1.1 (1:Int),()),())))).bind λd=>bif (!d.1.1)then some (.inr (.inr ((false,()),())))else some (.inl (cM .i64 a.1 (1:Int),()))else some (.inr (.inl (a.1,())))
def Hq:Fj->Option la:=λa=>(Hk (a.1,())).bind λc=>bif c.1.1 then some ((true,()),())else (k0 ((a.1.1,()),(((1:Int),()),(((10000:Int),()),())))).bind λb=>bif (!b.1.1)then some ((false,()),())else (Nk ((a.1.2.1,()),())).bind λd=>bif (!d.1.1)then some ((false,()),())else bif !gA (List.length a.1.2.2.1:Int) (List.length a.1.2.1:Int)then some ((false,()),())else (aR (Hq.b0 a) ((0:Int),())).bind λe=>Sum.elim (λf=>some ((true,()),())) some e
def av1:zi:=⟨au9,av0,Hq⟩
def av2:=SD
def av3:=o7
def Qe:E1->Option la:=λa=>(J6 (a.1,())).bind λd=>bif d.1.1 then some ((true,()),())else (k0 ((a.1.1,()),(((1:Int),()),(((10000:Int),()),())))).bind λc=>bif c.1.1 then (k0 ((a.1.2.1,()),(((0:Int),()),(((100000:Int),()),())))).bind λe=>bif e.1.1 then (Nk ((a.1.2.2.1,()),())).bind λb=>some (b.1,())else some ((false,()),())else some ((false,()),())
def av4:zi:=⟨av2,av3,Qe⟩
def i72:=SP
def o72:=o7
def YY:Ek->Option la:=λa=>(Em ((a.1.2.1,()),())).bind λo=>bif (!o.1.1)then some ((false,()),())else (k0 ((a.1.2.2.1,()),(((0:Int),()),(((900:Int),()),())))).bind λt=>bif (!t.1.1)then some ((false,()),())else (k0 ((a.1.1,()),(((1:Int),()),(((4:Int),()),())))).bind λp=>bif (!p.1.1)then some ((false,()),())else (Kd (a.1,())).bind λs=>bif (!s.1.1)then some ((false,()),())else Option.bind (bif gA a.1.1 (2:Int)then (k0 ((a.1.2.2.2.2.1,()),(((1:Int),()),(((10000:Int),()),())))).bind λq=>bif q.1.1 then (k0 ((a.1.2.2.2.2.2.1,()),(((0:Int),()),(((100000:Int),()),())))).bind λv=>bif v.1.1 then (Em ((a.1.2.2.2.2.2.2.1,()),())).bind λn=>some (.inl (n.1.1,((gA a.1.2.2.2.2.2.2.2.1 (0:Int))&&((gA a.1.2.2.2.2.2.2.2.2.1 (0:Int))&&(ko a.1.2.2.2.2.2.2.2.2.2.1 ⟨#[]⟩)),())))else some (.inl (false,((gA a.1.2.2.2.2.2.2.2.1 (0:Int))&&((gA a.1.2.2.2.2.2.2.2.2.1 (0:Int))&&(ko a.1.2.2.2.2.2.2.2.2.2.1 ⟨#[]⟩)),())))else some (.inl (false,((gA a.1.2.2.2.2.2.2.2.1 (0:Int))&&((gA a.1.2.2.2.2.2.2.2.2.1 (0:Int))&&(ko a.1.2.2.2.2.2.2.2.2.2.1 ⟨#[]⟩)),())))else bif gA a.1.1 (3:Int)then (k0 ((a.1.2.2.2.2.2.2.2.1,()),(((1:Int),()),(((10000:Int),()),())))).bind λr=>bif r.1.1 then (k0 ((a.1.2.2.2.2.2.2.2.2.1,()),(((0:Int),()),((gS .i64 a.1.2.2.2.2.2.2.2.1 (1:Int),()),())))).bind λu=>bif u.1.1 then bif gA a.1.2.2.2.2.2.2.2.2.1 a.1.2.2.2.2.2.2.2.2.2.2.1 then (Em ((a.1.2.2.2.2.2.2.2.2.2.1,()),())).bind λl=>some (.inl ((gA a.1.2.2.2.2.1 (0:Int))&&((gA a.1.2.2.2.2.2.1 (0:Int))&&(ko a.1.2.2.2.2.2.2.1 ⟨#[]⟩)),(l.1.1,())))else some (.inl ((gA a.1.2.2.2.2.1 (0:Int))&&((gA a.1.2.2.2.2.2.1 (0:Int))&&(ko a.1.2.2.2.2.2.2.1 ⟨#[]⟩)),(false,())))else some (.inl ((gA a.1.2.2.2.2.1 (0:Int))&&((gA a.1.2.2.2.2.2.1 (0:Int))&&(ko a.1.2.2.2.2.2.2.1 ⟨#[]⟩)),(false,())))else some (.inl ((gA a.1.2.2.2.2.1 (0:Int))&&((gA a.1.2.2.2.2.2.1 (0:Int))&&(ko a.1.2.2.2.2.2.2.1 ⟨#[]⟩)),(false,())))else some (.inl ((gA a.1.2.2.2.2.1 (0:Int))&&((gA a.1.2.2.2.2.2.1 (0:Int))&&(ko a.1.2.2.2.2.2.2.1 ⟨#[]⟩)),((gA a.1.2.2.2.2.2.2.2.1 (0:Int))&&((gA a.1.2.2.2.2.2.2.2.2.1 (0:Int))&&(ko a.1.2.2.2.2.2.2.2.2.2.1 ⟨#[]⟩)),())))) λd=>Sum.elim (λb=>bif b.1 then bif b.2.1 then (J6 ((a.1.2.2.2.2.2.2.2.2.2.2.1,(a.1.2.2.2.2.2.2.2.2.2.2.2.1,(a.1.2.2.2.2.2.2.2.2.2.2.2.2.1,()))),())).bind λi=>bif i.1.1 then (Hk ((a.1.2.2.2.2.2.2.2.2.2.2.2.2.2.1,(a.1.2.2.2.2.2.2.2.2.2.2.2.2.2.2.1,(a.1.2.2.2.2.2.2.2.2.2.2.2.2.2.2.2.1,()))),())).bind λm=>bif m.1.1 then some ((true,()),()) else bif gA a.1.1 (4:Int) then (Hq ((a.1.2.2.2.2.2.2.2.2.2.2.2.2.2.1,(a.1.2.2.2.2.2.2.2.2.2.2.2.2.2.2.1,(a.1.2.2.2.2.2.2.2.2.2.2.2.2.2.2.2.1,()))),())).bind λk=>some (k.1,()) else some ((false,()),()) else bif gA a.1.1 (4:Int) then (Qe ((a.1.2.2.2.2.2.2.2.2.2.2.1,(a.1.2.2.2.2.2.2.2.2.2.2.2.1,(a.1.2.2.2.2.2.2.2.2.2.2.2.2.1,()))),())).bind λf=>bif f.1.1 then (Hk ((a.1.2.2.2.2.2.2.2.2.2.2.2.2.2.1,(a.1.2.2.2.2.2.2.2.2.2.2.2.2.2.2.1,(a.1.2.2.2.2.2.2.2.2.2.2.2.2.2.2.2.1,()))),())).bind λj=>bif j.1.1 then some ((true,()),()) else bif gA a.1.1 (4:Int) then (Hq ((a.1.2.2.2.2.2.2.2.2.2.2.2.2.2.1,(a.1.2.2.2.2.2.2.2.2.2.2.2.2.2.2.1,(a.1.2.2.2.2.2.2.2.2.2.2.2.2.2.2.2.1,()))),())).bind λc=>some (c.1,()) else some ((false,()),()) else some ((false,()),()) else bif gA a.1.1 (3:Int) then (Qe ((a.1.2.2.2.2.2.2.2.2.2.2.1,(a.1.2.2.2.2.2.2.2.2.2.2.2.1,(a.1.2.2.2.2.2.2.2.2.2.2.2.2.1,()))),())).bind λe=>bif e.1.1 then (Hk ((a.1.2.2.2.2.2.2.2.2.2.2.2.2.2.1,(a.1.2.2.2.2.2.2.2.2.2.2.2.2.2.2.1,(a.1.2.2.2.2.2.2.2.2.2.2.2.2.2.2.2.1,()))),())).bind λh=>bif h.1.1 then some ((true,()),()) else bif gA a.1.1 (4:Int) then (Hq ((a.1.2.2.2.2.2.2.2.2.2.2.2.2.2.1,(a.1.2.2.2.2.2.2.2.2.2.2.2.2.2.2.1,(a.1.2.2.2.2.2.2.2.2.2.2.2.2.2.2.2.1,()))),())).bind λg=>some (g.1,()) else some ((false,()),()) else some ((false,()),()) else some ((false,()),()) else some ((false,()),()) else some ((false,()),())) some d
def c72:zi:=⟨i72,o72,YY⟩
def av5:=Xn
def av6:=Xo
def Qf:(i9×(sH×Unit))->Option (sb×Unit):=λa=>some (((2:Int),(a.1.1,(a.2.1.1,(a.2.1.2.1,(a.2.1.2.2.1,()))))),())
def av7:zi:=⟨av5,av6,Qf⟩
def av8:Gs:=[PY,El,IS]
def Vg:Gs:=[PY]
def I9.b0(a:(IL×(i9×E1))):(b:(List (sb)×i9))->Option US:=λb=>bif dO b.2.1 (List.length a.2.2.1.2.2.1:Int)then (bK a.2.2.1.2.2.1 b.2.1).bind λc=>bif dE (List.length b.1+List.length ([((1:Int),(a.2.1.1,(a.2.2.1.1,(a.2.2.1.2.1,(c.1,())))))]:List (sb))) 48 then some (.inl (bV b.1 ([((1:Int),(a.2.1.1,(a.2.2.1.1,(a.2.2.1.2.1,(c.1,())))))]:List (sb)),(cM .i64 b.2.1 (1:Int),())))else none else some (.inr (.inl (b.1,(b.2.1,()))))
def I9:(IL×(i9×E1))->Option KT:=λa=>(aR (I9.b0 a) (a.1.1,((0:Int),()))).bind λb=>Sum.elim (λc=>some ((c.1,()),())) some b
def av9:zi:=⟨av8,Vg,I9⟩
def aw0:Gs:=[PY,El,Mt]
def aw1:=Vg
def Ja.b0(b:(IL×(i9×Fj))):(a:(List (sb)×i9))->Option US:=λa=>bif dO a.2.1 (List.length b.2.2.1.2.1:Int)then bif dO a.2.1 (List.length b.2.2.1.2.2.1:Int)then (bK b.2.2.1.2.2.1 a.2.1).bind λd=>(bK b.2.2.1.2.1 a.2.1).bind λc=>bif dE (List.length a.1+List.length ([((2:Int),(b.2.1.1,(b.2.2.1.1,(d.1,(c.1,())))))]:List (sb))) 48 then some (.inl (bV a.1 ([((2:Int),(b.2.1.1,(b.2.2.1.1,(d.1,(c.1,())))))]:List (sb)),(cM .i64 a.2.1 (1:Int),())))else none else some (.inr (.inl (a.1,(a.2.1,()))))else some (.inr (.inl (a.1,(a.2.1,()))))
def Ja:(IL×(i9×Fj))->Option KT:=λa=>(aR (Ja.b0 a) (a.1.1,((0:Int),()))).bind λb=>Sum.elim (λc=>some ((c.1,()),())) some b
def aw2:zi:=⟨aw0,aw1,Ja⟩
def aw3:=SP
def aw4:=Vg
def Ke.b0(b:Ek):(a:(List (sb)×i9))->Option US:=λa=>bif dO a.2.1 (List.length b.1.2.2.2.1:Int)then (bK b.1.2.2.2.1 a.2.1).bind λc=>(I9 ((a.1,()),((b.1.2.2.1,()),((c.2.2.2.2.1,(c.2.2.2.2.2.1,(c.2.2.2.2.2.2.1,()))),())))).bind λe=>(bK b.1.2.2.2.1 a.2.1).bind λd=>(Ja (e.1,((b.1.2.2.1,()),((d.2.2.2.2.2.2.2.1,(d.2.2.2.2.2.2.2.2.1,(d.2.2.2.2.2.2.2.2.2.1,()))),())))).bind λf=>some (.inl (f.1.1,(cM .i64 a.2.1 (1:Int),())))else some (.inr (.inl (a.1,(a.2.1,()))))
def Ke:Ek->Option KT:=λa=>Option.bind (bif !ko a.1.2.2.2.2.2.2.1 ⟨#[]⟩then(Qc ((a.1.2.2.1,()),((a.1.2.2.2.2.1,(a.1.2.2.2.2.2.1,(a.1.2.2.2.2.2.2.1,()))),()))).bind λd=>bif dE (List.length ([]:List (sb))+List.length ([d.1]:List (sb))) 48 then some (.inl (bV ([]:List (sb)) ([d.1]:List (sb)),()))else none else some (.inl (([]:List (sb)),()))) λh=>Sum.elim (λb=>Option.bind (bif !ko a.1.2.2.2.2.2.2.2.2.2.1 ⟨#[]⟩then (Qf ((a.1.2.2.1,()),((a.1.2.2.2.2.2.2.2.1,(a.1.2.2.2.2.2.2.2.2.1,(a.1.2.2.2.2.2.2.2.2.2.1,()))),()))).bind λc=>bif dE (List.length b.1+List.length ([c.1]:List (sb))) 48 then some (.inl (bV b.1 ([c.1]:List (sb)),())) else none else some (.inl (b.1,()))) λg=>Sum.elim (λj=>(I9 ((j.1,()),((a.1.2.2.1,()),((a.1.2.2.2.2.2.2.2.2.2.2.1,(a.1.2.2.2.2.2.2.2.2.2.2.2.1,(a.1.2.2.2.2.2.2.2.2.2.2.2.2.1,()))),())))).bind λi=>(Ja (i.1,((a.1.2.2.1,()),((a.1.2.2.2.2.2.2.2.2.2.2.2.2.2.1,(a.1.2.2.2.2.2.2.2.2.2.2.2.2.2.2.1,(a.1.2.2.2.2.2.2.2.2.2.2.2.2.2.2.2.1,()))),())))).bind λk=>(aR (Ke.b0 a) (k.1.1,((0:Int),()))).bind λe=>Sum.elim (λf=>some ((f.1,()),())) some e) some g) some h
def aw5:zi:=⟨aw3,aw4,Ke⟩
def aw6:Gs:=[U6,Uo,PX]
def aw7:=o7
def Kf.b0(b:KT)(c:(IL×(IN×Ek))):(a:i9)->Option EO:=λa=>bif dO a.1 (List.length b.1.1:Int)then(bK b.1.1 a.1).bind λ_=>(aC b.1.1 (Int.toNat a.1)).bind λe=>(FK (c.2.1,((e.2.2.2.2.1,()),()))).bind λf=>bif (!f.1.1)then (bK b.1.1 a.1).bind λ_=>(aC b.1.1 (Int.toNat a.1)).bind λd=>(I8 (c.1,(d,()))).bind λg=>bif (!g.1.1)then some (.inr (.inr ((false,()),())))else some (.inl (cM .i64 a.1 (1:Int),()))else some (.inl (cM .i64 a.1 (1:Int),()))else some (.inr (.inl (a.1,())))
def Kf:(IL×(IN×Ek))->Option la:=λa=>(Ke (a.2.2.1,())).bind λb=>(aR (Kf.b0 b a) ((0:Int),())).bind λc=>Sum.elim (λd=>some ((true,()),())) some c
def aw8:zi:=⟨aw6,aw7,Kf⟩
def aw9:Gs:=[Uo,Uo]
def ax0:=o7
def Kg.b0(b:(IN×Mq)):(a:i9)->Option EO:=λa=>bif dO a.1 (List.length b.1.1:Int)then(bK b.1.1 a.1).bind λd=>(bK b.2.1.1 a.1).bind λc=>bif !ko d.1 c.1 then some (.inr (.inr ((false,()),())))else some (.inl (cM .i64 a.1 (1:Int),()))else some (.inr (.inl (a.1,())))
def Kg:(IN×Mq)->Option la:=λa=>bif !gA (List.length a.1.1:Int) (List.length a.2.1.1:Int)then some ((false,()),())else (aR (Kg.b0 a) ((0:Int),())).bind λb=>Sum.elim (λc=>some ((true,()),())) some b
def ax1:zi:=⟨aw9,ax0,Kg⟩
def ax2:Gs:=[IS,IS]
def ax3:=o7
def Vh:(Wv×E1)->Option la:=λa=>bif gA a.1.1 a.2.1.1 then bif gA a.1.2.1 a.2.1.2.1 then(Kg ((a.1.2.2.1,()),((a.2.1.2.2.1,()),()))).bind λb=>some (b.1,())else some ((false,()),())else some ((false,()),())
def ax4:zi:=⟨ax2,ax3,Vh⟩
def ax5:Gs:=[Mt,Mt]
def ax6:=o7
def K3.b0(b:(Um×Fj)):(a:i9)->Option EO:=λa=>bif dO a.1 (List.length b.1.2.2.1:Int)then(bK b.1.2.2.1 a.1).bind λc=>(bK b.2.1.2.2.1 a.1).bind λd=>bif !gA c.1 d.1 then some (.inr (.inr ((false,()),())))else some (.inl (cM .i64 a.1 (1:Int),()))else some (.inr (.inl (a.1,())))
def K3:(Um×Fj)->Option la:=λa=>bif !gA a.1.1 a.2.1.1 then some ((false,()),())else (Kg ((a.1.2.1,()),((a.2.1.2.1,()),()))).bind λb=>bif (!b.1.1)then some ((false,()),())else bif !gA (List.length a.1.2.2.1:Int) (List.length a.2.1.2.2.1:Int)then some ((false,()),())else (aR (K3.b0 a) ((0:Int),())).bind λc=>Sum.elim (λd=>some ((true,()),())) some c
def ax7:zi:=⟨ax5,ax6,K3⟩
def ax8:Gs:=[Mu,Mu]
def ax9:=o7
def K4.b0(d:(Gv×Hh)):(a:i9)->Option EO:=λa=>bif dO a.1 (List.length d.1.1:Int)then(bK d.1.1 a.1).bind λc=>(bK d.2.1.1 a.1).bind λb=>bif !((gA c.1 b.1)&&((ko c.2.1 b.2.1)&&((ko c.2.2.1 b.2.2.1)&&((gA c.2.2.2.1 b.2.2.2.1)&&(gA c.2.2.2.2.1 b.2.2.2.2.1)))))then some (.inr (.inr ((false,()),())))else some (.inl (cM .i64 a.1 (1:Int),()))else some (.inr (.inl (a.1,())))
def K4:(Gv×Hh)->Option la:=λa=>bif !gA (List.length a.1.1:Int) (List.length a.2.1.1:Int)then some ((false,()),())else (aR (K4.b0 a) ((0:Int),())).bind λb=>Sum.elim (λc=>some ((true,()),())) some b
def ay0:zi:=⟨ax8,ax9,K4⟩
def ay1:Gs:=[Ou,Ou]
def ay2:=o7
def Qg:(uf×Eu)->Option la:=λa=>bif gA a.1.1 a.2.1.1 then bif gA a.1.2.1 a.2.1.2.1 then bif gA a.1.2.2.1 a.2.1.2.2.1 then bif ko a.1.2.2.2.1 a.2.1.2.2.2.1 then(Vh ((a.1.2.2.2.2.1,(a.1.2.2.2.2.2.1,(a.1.2.2.2.2.2.2.1,()))),((a.2.1.2.2.2.2.1,(a.2.1.2.2.2.2.2.1,(a.2.1.2.2.2.2.2.2.1,()))),()))).bind λd=>bif d.1.1 then (K3 ((a.1.2.2.2.2.2.2.2.1,(a.1.2.2.2.2.2.2.2.2.1,(a.1.2.2.2.2.2.2.2.2.2.1,()))),((a.2.1.2.2.2.2.2.2.2.1,(a.2.1.2.2.2.2.2.2.2.2.1,(a.2.1.2.2.2.2.2.2.2.2.2.1,()))),()))).bind λc=>bif c.1.1 then (K4 ((a.1.2.2.2.2.2.2.2.2.2.2.1,()),((a.2.1.2.2.2.2.2.2.2.2.2.2.1,()),()))).bind λe=>bif e.1.1 then bif wo a.1.2.2.2.2.2.2.2.2.2.2.2.1 a.2.1.2.2.2.2.2.2.2.2.2.2.2.1 then (Kb ((a.1.2.2.2.2.2.2.2.2.2.2.2.2.1,()),((a.2.1.2.2.2.2.2.2.2.2.2.2.2.2.1,()),()))).bind λb=>bif b.1.1 then some ((ko a.1.2.2.2.2.2.2.2.2.2.2.2.2.2.1 a.2.1.2.2.2.2.2.2.2.2.2.2.2.2.2.1,()),())else some ((false,()),())else some ((false,()),())else some ((false,()),())else some ((false,()),())else some ((false,()),())else some ((false,()),())else some ((false,()),())else some ((false,()),())else some ((false,()),())
def ay3:zi:=⟨ay1,ay2,Qg⟩
def ay4:=Xq
def ay5:=MD
def u7.b1(c:(IK×Ek)):(a:JY)->Option (Sum JY (Sum JY JZ)):=λa=>bif dO a.2.1 (List.length c.2.1.2.2.2.1:Int)then (bK c.2.1.2.2.2.1 a.2.1).bind λb=>bif dO b.1 (List.length a.1:Int)then (bK a.1 b.1).bind λ_=>(aC a.1 (Int.toNat b.1)).bind λe=>(Qg (e,(b,()))).bind λg=>bif (!g.1.1)then some (.inr (.inr ((false,()),(c.1,()))))else some (.inl (a.1,(cM .i64 a.2.1 (1:Int),())))else bif gA b.1 (List.length a.1:Int)then (FK ((c.1.2.2.1,()),((b.2.2.2.1,()),()))).bind λf=>bif f.1.1 then bif dO (List.length a.1:Int) (1000:Int)then bif dE (List.length ([]:List (uf))+List.length a.1) 208 then (HN (b,())).bind λd=>bif dE (List.length (bV ([]:List (uf)) a.1)+List.length ([d.1]:List (uf))) 208 then some (.inl (bV (bV ([]:List (uf)) a.1) ([d.1]:List (uf)),(cM .i64 a.2.1 (1:Int),()))) else none else none else some (.inr (.inr ((false,()),(c.1,())))) else some (.inr (.inr ((false,()),(c.1,())))) else some (.inr (.inr ((false,()),(c.1,())))) else some (.inr (.inl (a.1,(a.2.1,()))))
def u7.b0(a:(IK×Ek)):(c:i9)->Option (Sum i9 (Sum i9 JZ)):=λc=>bif dO c.1 (List.length a.2.1.2.2.2.1:Int)then (bK a.2.1.2.2.2.1 c.1).bind λb=>bif dO b.1 (List.length a.1.2.2.2.2.1:Int)then (bK a.1.2.2.2.2.1 b.1).bind λ_=>(aC a.1.2.2.2.2.1 (Int.toNat b.1)).bind λj=>(Qg (j,(b,()))).bind λi=>bif (!i.1.1)then some (.inr (.inr ((false,()),(a.1,()))))else some (.inl (cM .i64 c.1 (1:Int),()))else bif gA b.1 (List.length a.1.2.2.2.2.1:Int)then (FK ((a.1.2.2.1,()),((b.2.2.2.1,()),()))).bind λk=>bif k.1.1 then bif dO (List.length a.1.2.2.2.2.1:Int) (1000:Int)then bif dE (List.length ([]:List (uf))+List.length a.1.2.2.2.2.1) 208 then (HN (b,())).bind λd=>bif dE (List.length (bV ([]:List (uf)) a.1.2.2.2.2.1)+List.length ([d.1]:List (uf))) 208 then Option.map (λq=>.inr (.inr q)) ((aR (u7.b1 a) (bV (bV ([]:List (uf)) a.1.2.2.2.2.1) ([d.1]:List (uf)),(cM .i64 c.1 (1:Int),()))).bind λg=>Sum.elim (λf=>(IZ (a.2.1,())).bind λe=>(u5 ((a.1.1,(a.1.2.1,(a.1.2.2.1,(a.1.2.2.2.1,(f.1,(a.1.2.2.2.2.2.1,(a.1.2.2.2.2.2.2.1,()))))))),((([e.1]:List (By)),()),((([]:List (sb)),()),())))).bind λh=>some ((true,()),(h.1,()))) some g) else none else none else some (.inr (.inr ((false,()),(a.1,())))) else some (.inr (.inr ((false,()),(a.1,())))) else some (.inr (.inr ((false,()),(a.1,())))) else some (.inr (.inl (c.1,())))
def u7:(IK×Ek)->Option JZ:=λa=>(YY (a.2.1,())).bind λf=>bif (!f.1.1)then some ((false,()),(a.1,()))else (PM (a.1,((a.2.1.2.1,()),()))).bind λe=>bif dO e.1.1 (0:Int)then some ((false,()),(a.1,()))else (Kf ((a.1.2.2.2.2.2.1,()),((a.1.2.2.1,()),(a.2.1,())))).bind λg=>bif (!g.1.1)then some ((false,()),(a.1,()))else (aR (u7.b0 a) ((0:Int),())).bind λb=>Sum.elim (λh=>(IZ (a.2.1,())).bind λc=>(u5 (a.1,((([c.1]:List (By)),()),((([]:List (sb)),()),())))).bind λd=>some ((true,()),(d.1,()))) some b
def ay6:zi:=⟨ay4,ay5,u7⟩
def ay7:Gs:=[PL,El]
def ay8:Gs:=[U5,WZ,PY,PL]
def SX:(Gt×rS)->Option ((Gu×Sq)):=λa=>Option.bind ((J4 ((a.1.2.2.2.2.1,()),((a.1.2.2.2.2.2.2.1,()),()))).bind λh=>bif !ko h.1.1 a.1.1 then some (.inr ((([]:List (uf)),()),((([]:List (By)),()),((([]:List (sb)),()),(a.1,())))))else bif km a.1.2.2.2.2.2.2.1 a.1.2.2.2.2.2.2.2.2.2.2.2.2.2.2.1 then some (.inr ((([]:List (uf)),()),((([]:List (By)),()),((([]:List (sb)),()),(a.1,())))))else bif !gA a.1.2.2.2.2.2.2.2.2.2.1 (-1:Int)then (Fl ((a.1.2.2.2.2.2.1,()),((a.1.2.2.2.2.2.2.2.2.2.1,()),()))).bind λg=>bif dO g.1.1 (0:Int)then some (.inr ((([]:List (uf)),()),((([]:List (By)),()),((([]:List (sb)),()),(a.1,())))))else some (.inl ())else some (.inl ())) λj=>Sum.elim (λk=>(Oy (a.1,(a.2.1,()))).bind λb=>(Ox (b.1,())).bind λi=>bif (!i.1.1) then some ((([]:List (uf)),()),((([]:List (By)),()),((([]:List (sb)),()),(a.1,())))) else (K1 (b.1,())).bind λf=>bif (!f.1.1) then some ((([]:List (uf)),()),((([]:List (By)),()),((([]:List (sb)),()),(a.1,())))) else (Hn ((a.1.1,(a.1.2.1,(a.1.2.2.1,(a.1.2.2.2.1,(a.1.2.2.2.2.1,(a.1.2.2.2.2.2.1,(a.1.2.2.2.2.2.2.1,(a.1.2.2.2.2.2.2.2.1,(a.1.2.2.2.2.2.2.2.2.1,(a.1.2.2.2.2.2.2.2.2.2.1,(a.1.2.2.2.2.2.2.2.2.2.2.1,(a.1.2.2.2.2.2.2.2.2.2.2.2.1,(a.1.2.2.2.2.2.2.2.2.2.2.2.2.1,(a.1.2.2.2.2.2.2.2.2.2.2.2.2.2.1,(a.1.2.2.2.2.2.2.1,(a.1.2.2.2.2.2.2.2.2.2.2.2.2.2.2.2.1,(a.1.2.2.2.2.2.2.2.2.2.2.2.2.2.2.2.2.1,(a.1.2.2.2.2.2.2.2.2.2.2.2.2.2.2.2.2.2.1,(a.1.2.2.2.2.2.2.2.2.2.2.2.2.2.2.2.2.2.2.1,(a.1.2.2.2.2.2.2.2.2.2.2.2.2.2.2.2.2.2.2.2.1,())))))))))))))))))))),(((1:Int),(⟨#[]⟩,(a.1.2.1,(([b.1]:List (uf)),((0:Int),((0:Int),(⟨#[]⟩,((0:Int),((0:Int),(⟨#[]⟩,((0:Int),((-1:Int),([],((0:Int),([],([],())))))))))))))))),()))).bind λd=>(OB ((a.1.1,(a.1.2.1,(a.1.2.2.1,(a.1.2.2.2.1,(a.1.2.2.2.2.1,(a.1.2.2.2.2.2.1,(a.1.2.2.2.2.2.2.1,(a.1.2.2.2.2.2.2.2.1,(a.1.2.2.2.2.2.2.2.2.1,(a.1.2.2.2.2.2.2.2.2.2.1,(a.1.2.2.2.2.2.2.2.2.2.2.1,(a.1.2.2.2.2.2.2.2.2.2.2.2.1,(a.1.2.2.2.2.2.2.2.2.2.2.2.2.1,(a.1.2.2.2.2.2.2.2.2.2.2.2.2.2.1,(a.1.2.2.2.2.2.2.1,(a.1.2.2.2.2.2.2.2.2.2.2.2.2.2.2.2.1,(a.1.2.2.2.2.2.2.2.2.2.2.2.2.2.2.2.2.1,(a.1.2.2.2.2.2.2.2.2.2.2.2.2.2.2.2.2.2.1,(a.1.2.2.2.2.2.2.2.2.2.2.2.2.2.2.2.2.2.2.1,(a.1.2.2.2.2.2.2.2.2.2.2.2.2.2.2.2.2.2.2.2.1,())))))))))))))))))))),(b.1,()))).bind λc=>(HN (b.1,())).bind λe=>bif dE (List.length d.1.1+List.length c.1.1) 216 then some ((([e.1]:List (uf)),()),((bV d.1.1 c.1.1,()),(c.2.1,(c.2.2.1,())))) else none) some j
def ay9:zi:=⟨ay7,ay8,SX⟩
def Xs:Gs:=[Un,El]
def az0:=MD
def MF:(IK×rS)->Option JZ:=λa=>bif km (1000:Int) (List.length a.1.2.2.2.2.1:Int)then some ((false,()),(a.1,()))else (bK a.1.2.2.2.1 a.2.1.1).bind λ_=>(aC a.1.2.2.2.1 (Int.toNat a.2.1.1)).bind λd=>(SX (d,(((List.length a.1.2.2.2.2.1:Int),()),()))).bind λb=>(some (List.set a.1.2.2.2.1 (Int.toNat a.2.1.1) b.2.2.2.1)).bind λc=>bif gA (List.length b.1.1:Int) (0:Int) then some ((false,()),((a.1.1,(a.1.2.1,(a.1.2.2.1,(c,(a.1.2.2.2.2.1,(a.1.2.2.2.2.2.1,(a.1.2.2.2.2.2.2.1,()))))))),())) else bif dE (List.length a.1.2.2.2.2.1+List.length b.1.1) 208 then (u5 ((a.1.1,(a.1.2.1,(a.1.2.2.1,(c,(bV a.1.2.2.2.2.1 b.1.1,(a.1.2.2.2.2.2.1,(a.1.2.2.2.2.2.2.1,()))))))),(b.2.1,(b.2.2.1,())))).bind λe=>some ((true,()),(e.1,())) else none
def az1:zi:=⟨Xs,az0,MF⟩
def az2:=Kc
def az3:=Vf
def Qh:u3->Option (Sq):=λa=>(FL ((a.1.2.2.2.2.1,()),((a.1.1,()),()))).bind λd=>bif (!d.1.1)then some ((([]:List (By)),()),((([]:List (sb)),()),(a.1,())))else bif dO a.1.2.2.2.2.2.2.1 a.1.2.2.2.2.2.2.2.1 then some ((([]:List (By)),()),((([]:List (sb)),()),(a.1,())))else (Fk ((a.1.2.2.2.2.2.2.2.2.1,(a.1.2.2.2.2.2.2.2.2.2.1,(a.1.2.2.2.2.2.2.2.2.2.2.1,()))),())).bind λb=>(Hn ((a.1.1,(a.1.2.1,(a.1.2.2.1,(a.1.2.2.2.1,(a.1.2.2.2.2.1,(a.1.2.2.2.2.2.1,(a.1.2.2.2.2.2.2.1,(a.1.2.2.2.2.2.2.1,(a.1.2.2.2.2.2.2.2.2.1,(a.1.2.2.2.2.2.2.2.2.2.1,(a.1.2.2.2.2.2.2.2.2.2.2.1,(a.1.2.2.2.2.2.2.2.2.2.2.2.1,(a.1.2.2.2.2.2.2.2.2.2.2.2.2.1,(a.1.2.2.2.2.2.2.2.2.2.2.2.2.2.1,(a.1.2.2.2.2.2.2.2.2.2.2.2.2.2.2.1,(a.1.2.2.2.2.2.2.2.2.2.2.2.2.2.2.2.1,(a.1.2.2.2.2.2.2.2.2.2.2.2.2.2.2.2.2.1,(a.1.2.2.2.2.2.2.2.2.2.2.2.2.2.2.2.2.2.1,(a.1.2.2.2.2.2.2.2.2.2.2.2.2.2.2.2.2.2.2.1,(a.1.2.2.2.2.2.2.2.2.2.2.2.2.2.2.2.2.2.2.2.1,())))))))))))))))))))),(((3:Int),(⟨#[]⟩,(a.1.2.1,([],((0:Int),((0:Int),(⟨#[]⟩,(a.1.2.2.2.2.2.2.1,(a.1.2.2.2.2.2.2.2.2.1,(a.1.1,(b.1.1,(b.1.2.1,(b.1.2.2.1,((0:Int),([],([],())))))))))))))))),()))).bind λe=>(Qf ((a.1.2.1,()),((a.1.2.2.2.2.2.2.1,(a.1.2.2.2.2.2.2.2.2.1,(a.1.1,()))),()))).bind λc=>(Ho ((a.1.1,(a.1.2.1,(a.1.2.2.1,(a.1.2.2.2.1,(a.1.2.2.2.2.1,(a.1.2.2.2.2.2.1,(a.1.2.2.2.2.2.2.1,(a.1.2.2.2.2.2.2.1,(a.1.2.2.2.2.2.2.2.2.1,(a.1.2.2.2.2.2.2.2.2.2.1,(a.1.2.2.2.2.2.2.2.2.2.2.1,(a.1.2.2.2.2.2.2.2.2.2.2.2.1,(a.1.2.2.2.2.2.2.2.2.2.2.2.2.1,(a.1.2.2.2.2.2.2.2.2.2.2.2.2.2.1,(a.1.2.2.2.2.2.2.2.2.2.2.2.2.2.2.1,(a.1.2.2.2.2.2.2.2.2.2.2.2.2.2.2.2.1,(a.1.2.2.2.2.2.2.2.2.2.2.2.2.2.2.2.2.1,(a.1.2.2.2.2.2.2.2.2.2.2.2.2.2.2.2.2.2.1,(a.1.2.2.2.2.2.2.2.2.2.2.2.2.2.2.2.2.2.2.1,(a.1.2.2.2.2.2.2.2.2.2.2.2.2.2.2.2.2.2.2.2.1,())))))))))))))))))))),((a.1.2.2.2.2.2.2.1,(a.1.2.2.2.2.2.2.2.2.1,(a.1.1,()))),((a.1.2.2.2.2.2.2.2.2.1,(a.1.2.2.2.2.2.2.2.2.2.1,(a.1.2.2.2.2.2.2.2.2.2.2.1,()))),())))).bind λf=>some (e.1,((([c.1]:List (sb)),()),(f.1,())))
def az4:zi:=⟨az2,az3,Qh⟩
def az5:=Xs
def az6:=MD
def OC:(IK×rS)->Option JZ:=λa=>(bK a.1.2.2.2.1 a.2.1.1).bind λ_=>(aC a.1.2.2.2.1 (Int.toNat a.2.1.1)).bind λd=>(Qh (d,())).bind λb=>(some (List.set a.1.2.2.2.1 (Int.toNat a.2.1.1) b.2.2.1)).bind λc=>(u5 ((a.1.1,(a.1.2.1,(a.1.2.2.1,(c,(a.1.2.2.2.2.1,(a.1.2.2.2.2.2.1,(a.1.2.2.2.2.2.2.1,()))))))),(b.1,(b.2.1,())))).bind λe=>some ((dO (0:Int) (List.length b.2.1.1:Int),()),(e.1,()))
def az7:zi:=⟨az5,az6,OC⟩
def az8:Gs:=[PZ,El,PK]
def az9:Gs:=[U4,PT]
def Jb.b0(a:(Gt×(i9×Ed))):(b:i9)->Option (Sum i9 (Sum i9 ((By×la)))):=λb=>bif dO b.1 (List.length a.1.2.2.2.2.2.2.2.2.2.2.2.2.2.2.2.2.2.2.2.1:Int)then (bK a.1.2.2.2.2.2.2.2.2.2.2.2.2.2.2.2.2.2.2.2.1 b.1).bind λe=>bif gA e.1 a.2.1.1 then (bK a.1.2.2.2.2.2.2.2.2.2.2.2.2.2.2.2.2.2.2.2.1 b.1).bind λg=>(BE ((g.2.1,()),())).bind λf=>(bK a.1.2.2.2.2.2.2.2.2.2.2.2.2.2.2.2.2.2.2.2.1 b.1).bind λd=>(Fk ((d.2.2.1,(d.2.2.2.1,(d.2.2.2.2.1,()))),())).bind λc=>some (.inr (.inr (((4:Int),(a.2.2.1.1,(a.2.1.1,(f.1.1,((0:Int),((0:Int),(⟨#[]⟩,((0:Int),((0:Int),(⟨#[]⟩,(c.1.1,(c.1.2.1,(c.1.2.2.1,((0:Int),([],([],())))))))))))))))),((true,()),()))))else some (.inl (cM .i64 b.1 (1:Int),()))else some (.inr (.inl (b.1,())))
def Jb:(Gt×(i9×Ed))->Option ((By×la)):=λa=>bif gA a.2.1.1 a.1.2.1 then (BE ((a.1.2.2.2.2.2.1,()),())).bind λe=>(Fk ((a.1.2.2.2.2.2.2.2.2.1,(a.1.2.2.2.2.2.2.2.2.2.1,(a.1.2.2.2.2.2.2.2.2.2.2.1,()))),())).bind λb=>(HM ((a.1.2.2.2.2.2.2.2.2.2.2.2.1,(a.1.2.2.2.2.2.2.2.2.2.2.2.2.1,(a.1.2.2.2.2.2.2.2.2.2.2.2.2.2.1,()))),())).bind λc=>some (((4:Int),(a.2.2.1.1,(a.2.1.1,(e.1.1,((0:Int),((0:Int),(⟨#[]⟩,((0:Int),((0:Int),(⟨#[]⟩,(b.1.1,(b.1.2.1,(b.1.2.2.1,(c.1.1,(c.1.2.1,(c.1.2.2.1,())))))))))))))))),((true,()),()))else (aR (Jb.b0 a) ((0:Int),())).bind λd=>Sum.elim (λf=>some (((0:Int),(⟨#[]⟩,((0:Int),([],((0:Int),((0:Int),(⟨#[]⟩,((0:Int),((0:Int),(⟨#[]⟩,((0:Int),((0:Int),([],((0:Int),([],([],())))))))))))))))),((false,()),()))) some d
def aA0:zi:=⟨az8,az9,Jb⟩
def aA1:Gs:=[Un,El,El]
def aA2:=MD
def OD:(IK×(i9×rS))->Option JZ:=λa=>(k0 (a.2.2.1,(((0:Int),()),((gS .i64 (List.length a.1.2.2.2.1:Int) (1:Int),()),())))).bind λi=>bif (!i.1.1)then some ((false,()),(a.1,()))else (bK a.1.2.2.2.1 a.2.1.1).bind λ_=>(aC a.1.2.2.2.1 (Int.toNat a.2.1.1)).bind λb=>(bK a.1.2.2.2.1 a.2.2.1.1).bind λ_=>(aC a.1.2.2.2.1 (Int.toNat a.2.2.1.1)).bind λh=>(bK a.1.2.2.2.1 a.2.2.1.1).bind λ_=>(aC a.1.2.2.2.1 (Int.toNat a.2.2.1.1)).bind λm=>(aC a.1.2.2.2.1 (Int.toNat a.2.1.1)).bind λg=>(aC a.1.2.2.2.1 (Int.toNat a.2.1.1)).bind λj=>(aC a.1.2.2.2.1 (Int.toNat a.2.1.1)).bind λl=>(aC a.1.2.2.2.1 (Int.toNat a.2.1.1)).bind λk=>(Jb ((b.1,(b.2.1,(b.2.2.1,(b.2.2.2.1,(b.2.2.2.2.1,(b.2.2.2.2.2.1,(b.2.2.2.2.2.2.1,(b.2.2.2.2.2.2.2.1,(b.2.2.2.2.2.2.2.2.1,(b.2.2.2.2.2.2.2.2.2.1,(b.2.2.2.2.2.2.2.2.2.2.1,(b.2.2.2.2.2.2.2.2.2.2.2.1,(b.2.2.2.2.2.2.2.2.2.2.2.2.1,(b.2.2.2.2.2.2.2.2.2.2.2.2.2.1,(b.2.2.2.2.2.2.2.2.2.2.2.2.2.2.1,(g.2.2.2.2.2.2.2.2.2.2.2.2.2.2.2.1,(j.2.2.2.2.2.2.2.2.2.2.2.2.2.2.2.2.1,(l.2.2.2.2.2.2.2.2.2.2.2.2.2.2.2.2.2.1,(b.2.2.2.2.2.2.2.2.2.2.2.2.2.2.2.2.2.2.1,(k.2.2.2.2.2.2.2.2.2.2.2.2.2.2.2.2.2.2.2.1,())))))))))))))))))))),((h.2.1,()),((m.1,()),())))).bind λe=>Option.bind (bif e.2.1.1 then (u5 (a.1,((([e.1]:List (By)),()),((([]:List (sb)),()),())))).bind λc=>some (.inl (c.1.1,(c.1.2.1,(c.1.2.2.1,(c.1.2.2.2.1,(c.1.2.2.2.2.1,(c.1.2.2.2.2.2.1,(c.1.2.2.2.2.2.2.1,()))))))))else some (.inl (a.1.1,(a.1.2.1,(a.1.2.2.1,(a.1.2.2.2.1,(a.1.2.2.2.2.1,(a.1.2.2.2.2.2.1,(a.1.2.2.2.2.2.2.1,()))))))))) λf=>Sum.elim (λd=>some (e.2.1,((d.1,(d.2.1,(d.2.2.1,(d.2.2.2.1,(d.2.2.2.2.1,(d.2.2.2.2.2.1,(d.2.2.2.2.2.2.1,()))))))),()))) some f
def aA3:zi:=⟨aA1,aA2,OD⟩
def aA4:Gs:=[Un,El,KU]
def aA5:=MD
def SY:(IK×(i9×Mr))->Option JZ:=λb=>(bK b.1.2.2.2.1 b.2.1.1).bind λ_=>(aC b.1.2.2.2.1 (Int.toNat b.2.1.1)).bind λe=>(KV ((e.2.2.2.2.2.2.2.2.2.2.2.2.2.2.2.2.2.2.1,()),(b.2.2.1,()))).bind λc=>(bK b.1.2.2.2.1 b.2.1.1).bind λ_=>(aC b.1.2.2.2.1 (Int.toNat b.2.1.1)).bind λa=>(some (List.set b.1.2.2.2.1 (Int.toNat b.2.1.1) (a.1,(a.2.1,(a.2.2.1,(a.2.2.2.1,(a.2.2.2.2.1,(a.2.2.2.2.2.1,(a.2.2.2.2.2.2.1,(a.2.2.2.2.2.2.2.1,(a.2.2.2.2.2.2.2.2.1,(a.2.2.2.2.2.2.2.2.2.1,(a.2.2.2.2.2.2.2.2.2.2.1,(a.2.2.2.2.2.2.2.2.2.2.2.1,(a.2.2.2.2.2.2.2.2.2.2.2.2.1,(a.2.2.2.2.2.2.2.2.2.2.2.2.2.1,(a.2.2.2.2.2.2.2.2.2.2.2.2.2.2.1,(a.2.2.2.2.2.2.2.2.2.2.2.2.2.2.2.1,(a.2.2.2.2.2.2.2.2.2.2.2.2.2.2.2.2.1,(a.2.2.2.2.2.2.2.2.2.2.2.2.2.2.2.2.2.1,(c.1.1,a.2.2.2.2.2.2.2.2.2.2.2.2.2.2.2.2.2.2.2))))))))))))))))))))).bind λd=>some (c.2.1,((b.1.1,(b.1.2.1,(b.1.2.2.1,(d,(b.1.2.2.2.2.1,(b.1.2.2.2.2.2.1,(b.1.2.2.2.2.2.2.1,()))))))),()))
def aA6:zi:=⟨aA4,aA5,SY⟩
def aA7:=Kc
def aA8:=Kc
def Vi:u3->Option u3:=λa=>some ((a.1.1,(a.1.2.1,(a.1.2.2.1,(a.1.2.2.2.1,(a.1.2.2.2.2.1,(a.1.2.2.2.2.2.1,(a.1.2.2.2.2.2.2.1,(a.1.2.2.2.2.2.2.2.1,(a.1.2.2.2.2.2.2.2.2.1,(a.1.2.2.2.2.2.2.2.2.2.1,(a.1.2.2.2.2.2.2.2.2.2.2.1,(a.1.2.2.2.2.2.2.2.2.2.2.2.1,(a.1.2.2.2.2.2.2.2.2.2.2.2.2.1,(a.1.2.2.2.2.2.2.2.2.2.2.2.2.2.1,(a.1.2.2.2.2.2.2.2.2.2.2.2.2.2.2.1,(([]:List (sH)),(([]:List (ow)),(a.1.2.2.2.2.2.2.2.2.2.2.2.2.2.2.2.2.2.1,(([]:List (cp)),(a.1.2.2.2.2.2.2.2.2.2.2.2.2.2.2.2.2.2.2.2.1,())))))))))))))))))))),())
def aA9:zi:=⟨aA7,aA8,Vi⟩
def i63:=Xr
def o63:=MD
def YZ:(IK×(PS×Unit))->Option JZ:=λa=>Option.bind (bif gA a.2.1.1 (6:Int)then some (.inl (true,()))else bif gA a.2.1.1 (7:Int)then some (.inl (true,()))else some (.inl (gA a.2.1.1 (8:Int),()))) λm=>Sum.elim (λk=>bif k.1 then (ME (a.1,(a.2.1,()))).bind λe=>some (e.1,(e.2.1,())) else bif gA a.2.1.1 (9:Int) then (u7 (a.1,((a.2.1.2.2.2.2.2.2.2.2.1,(a.2.1.2.2.2.2.2.2.2.2.2.1,(a.2.1.2.2.2.2.2.2.2.2.2.2.1,(a.2.1.2.2.2.2.2.2.2.2.2.2.2.1,(a.2.1.2.2.2.2.2.2.2.2.2.2.2.2.1,(a.2.1.2.2.2.2.2.2.2.2.2.2.2.2.2.1,(a.2.1.2.2.2.2.2.2.2.2.2.2.2.2.2.2.1,(a.2.1.2.2.2.2.2.2.2.2.2.2.2.2.2.2.2.1,(a.2.1.2.2.2.2.2.2.2.2.2.2.2.2.2.2.2.2.1,(a.2.1.2.2.2.2.2.2.2.2.2.2.2.2.2.2.2.2.2.1,(a.2.1.2.2.2.2.2.2.2.2.2.2.2.2.2.2.2.2.2.2.1,(a.2.1.2.2.2.2.2.2.2.2.2.2.2.2.2.2.2.2.2.2.2.1,(a.2.1.2.2.2.2.2.2.2.2.2.2.2.2.2.2.2.2.2.2.2.2.1,(a.2.1.2.2.2.2.2.2.2.2.2.2.2.2.2.2.2.2.2.2.2.2.2.1,(a.2.1.2.2.2.2.2.2.2.2.2.2.2.2.2.2.2.2.2.2.2.2.2.2.1,(a.2.1.2.2.2.2.2.2.2.2.2.2.2.2.2.2.2.2.2.2.2.2.2.2.2.1,())))))))))))))))),()))).bind λc=>some (c.1,(c.2.1,())) else (k0 ((a.2.1.2.1,()),(((0:Int),()),((gS .i64 (List.length a.1.2.2.2.1:Int) (1:Int),()),())))).bind λl=>bif (!l.1.1) then some ((false,()),(a.1,())) else bif gA a.2.1.1 (1:Int) then (MF (a.1,((a.2.1.2.1,()),()))).bind λf=>some (f.1,(f.2.1,())) else bif gA a.2.1.1 (2:Int) then (OC (a.1,((a.2.1.2.1,()),()))).bind λb=>some (b.1,(b.2.1,())) else bif gA a.2.1.1 (3:Int) then (OD (a.1,((a.2.1.2.1,()),((a.2.1.2.2.1,()),())))).bind λg=>some (g.1,(g.2.1,())) else bif gA a.2.1.1 (4:Int) then (SY (a.1,((a.2.1.2.1,()),((a.2.1.2.2.2.1,(a.2.1.2.2.2.2.1,(a.2.1.2.2.2.2.2.1,(a.2.1.2.2.2.2.2.2.1,(a.2.1.2.2.2.2.2.2.2.1,()))))),())))).bind λd=>some (d.1,(d.2.1,())) else bif gA a.2.1.1 (5:Int) then (bK a.1.2.2.2.1 a.2.1.2.1).bind λ_=>(aC a.1.2.2.2.1 (Int.toNat a.2.1.2.1)).bind λh=>(Vi (h,())).bind λi=>(some (List.set a.1.2.2.2.1 (Int.toNat a.2.1.2.1) i.1)).bind λj=>some ((true,()),((a.1.1,(a.1.2.1,(a.1.2.2.1,(j,(a.1.2.2.2.2.1,(a.1.2.2.2.2.2.1,(a.1.2.2.2.2.2.2.1,()))))))),())) else some ((false,()),(a.1,()))) some m
def c63:zi:=⟨i63,o63,YZ⟩
def i26:=YV
def o26:Gs:=[WU,Ml]
def Vj.b0:(a:UQ)->Option (Sum UQ (Sum UQ (IK×wc))):=λa=>bif dO (0:Int) a.1 then (Ve ((a.2.1,(a.2.2.1,(a.2.2.2.1,()))),((a.2.2.2.2.1,(a.2.2.2.2.2.1,(a.2.2.2.2.2.2.1,(a.2.2.2.2.2.2.2.1,(a.2.2.2.2.2.2.2.2.1,(a.2.2.2.2.2.2.2.2.2.1,(a.2.2.2.2.2.2.2.2.2.2.1,()))))))),()))).bind λb=>(YZ ((a.2.2.2.2.1,(a.2.2.2.2.2.1,(a.2.2.2.2.2.2.1,(b.2.2.1.2.2.2.1,(b.2.2.1.2.2.2.2.1,(b.2.2.1.2.2.2.2.2.1,(b.2.2.1.2.2.2.2.2.2.1,()))))))),(b.1,()))).bind λc=>some (.inl (gS .i64 a.1 (1:Int),(b.2.1.1,(b.2.1.2.1,(b.2.1.2.2.1,(c.2.1.1,(c.2.1.2.1,(c.2.1.2.2.1,(c.2.1.2.2.2.1,(c.2.1.2.2.2.2.1,(c.2.1.2.2.2.2.2.1,(c.2.1.2.2.2.2.2.2.1,())))))))))))) else some (.inr (.inl (a.1,(a.2.1,(a.2.2.1,(a.2.2.2.1,(a.2.2.2.2.1,(a.2.2.2.2.2.1,(a.2.2.2.2.2.2.1,(a.2.2.2.2.2.2.2.1,(a.2.2.2.2.2.2.2.2.1,(a.2.2.2.2.2.2.2.2.2.1,(a.2.2.2.2.2.2.2.2.2.2.1,())))))))))))))
def Vj:(HJ×rS)->Option (IK×wc):=λh=>(U9 (h.1,())).bind λc=>Option.bind (bif dO (3:Int) (List.length c.1.2.1:Int)then (P0 (c.2.1,(((2:Int),()),()))).bind λd=>bif d.1.1 then (IJ (d.2.1,(((4:Int),()),()))).bind λe=>(bK ([(⟨#[97]⟩,()),(⟨#[98]⟩,()),(⟨#[99]⟩,()),(⟨#[100]⟩,())]:List (D9)) e.1.1).bind λ_=>(aC ([(⟨#[97]⟩,()),(⟨#[98]⟩,()),(⟨#[99]⟩,()),(⟨#[100]⟩,())]:List (D9)) (Int.toNat e.1.1)).bind λk=>some (.inl (([k]:List (D9)),(e.2.1.1,(e.2.1.2.1,(e.2.1.2.2.1,()))))) else some (.inl (([]:List (D9)),(d.2.1.1,(d.2.1.2.1,(d.2.1.2.2.1,()))))) else some (.inl (([]:List (D9)),(c.2.1.1,(c.2.1.2.1,(c.2.1.2.2.1,())))))) λj=>Sum.elim (λf=>(SA (c.1,((f.1,()),()))).bind λb=>(IJ ((f.2.1,(f.2.2.1,(f.2.2.2.1,()))),(h.2.1,()))).bind λg=>(aR Vj.b0 (g.1.1,(g.2.1.1,(g.2.1.2.1,(g.2.1.2.2.1,(b.1.1,(b.1.2.1,(b.1.2.2.1,(b.1.2.2.2.1,(b.1.2.2.2.2.1,(b.1.2.2.2.2.2.1,(b.1.2.2.2.2.2.2.1,())))))))))))).bind λi=>Sum.elim (λa=>some ((a.2.2.2.2.1,(a.2.2.2.2.2.1,(a.2.2.2.2.2.2.1,(a.2.2.2.2.2.2.2.1,(a.2.2.2.2.2.2.2.2.1,(a.2.2.2.2.2.2.2.2.2.1,(a.2.2.2.2.2.2.2.2.2.2.1,()))))))),((a.2.1,(a.2.2.1,(a.2.2.2.1,()))),()))) some i) some j
def c26:zi:=⟨i26,o26,Vj⟩
def aB0:=K2
def aB1:=K2
def Kh.b0:(a:Ej)->Option Ol:=λa=>bif dO a.1 (3000:Int)then bif dO (0:Int) (List.length a.2.2.2.2.2.2.2.1:Int)then (ME ((a.2.1,(a.2.2.1,(a.2.2.2.1,(a.2.2.2.2.1,(a.2.2.2.2.2.1,(a.2.2.2.2.2.2.1,(a.2.2.2.2.2.2.2.1,()))))))),(((6:Int),((0:Int),((0:Int),((0:Int),(⟨#[]⟩,(⟨#[]⟩,((0:Int),((0:Int),((0:Int),(⟨#[]⟩,((0:Int),([],((0:Int),((0:Int),(⟨#[]⟩,((0:Int),((0:Int),(⟨#[]⟩,((0:Int),((0:Int),([],((0:Int),([],([],())))))))))))))))))))))))),()))).bind λb=>some (.inl (cM .i64 a.1 (1:Int),(b.2.1.1,(b.2.1.2.1,(b.2.1.2.2.1,(b.2.1.2.2.2.1,(b.2.1.2.2.2.2.1,(b.2.1.2.2.2.2.2.1,(b.2.1.2.2.2.2.2.2.1,())))))))))else some (.inr (.inl (a.1,(a.2.1,(a.2.2.1,(a.2.2.2.1,(a.2.2.2.2.1,(a.2.2.2.2.2.1,(a.2.2.2.2.2.2.1,(a.2.2.2.2.2.2.2.1,()))))))))))else some (.inr (.inl (a.1,(a.2.1,(a.2.2.1,(a.2.2.2.1,(a.2.2.2.2.1,(a.2.2.2.2.2.1,(a.2.2.2.2.2.2.1,(a.2.2.2.2.2.2.2.1,()))))))))))
def Kh:C7->Option C7:=λa=>(aR Kh.b0 ((0:Int),(a.1.1,(a.1.2.1,(a.1.2.2.1,(a.1.2.2.2.1,(a.1.2.2.2.2.1,(a.1.2.2.2.2.2.1,(a.1.2.2.2.2.2.2.1,()))))))))).bind λc=>Sum.elim (λb=>some ((b.2.1,(b.2.2.1,(b.2.2.2.1,(b.2.2.2.2.1,(b.2.2.2.2.2.1,(b.2.2.2.2.2.2.1,(b.2.2.2.2.2.2.2.1,()))))))),())) some c
def aB2:zi:=⟨aB0,aB1,Kh⟩
def aB3:=K2
def aB4:=K2
def FM.b2(e:Ej)(f:Ej):(a:(Bool×YT))->Option (Sum (Bool×YT) (Sum (Bool×YT) (Sum Ej (Sum Ej Ol)))):=λa=>bif a.1 then (bK a.2.2.2.2.1 e.1).bind λ_=>(aC a.2.2.2.2.1 (Int.toNat e.1)).bind λh=>(bK a.2.2.2.2.1 f.1).bind λ_=>(aC a.2.2.2.2.1 (Int.toNat f.1)).bind λb=>(bK a.2.2.2.2.1 e.1).bind λ_=>(aC a.2.2.2.2.1 (Int.toNat e.1)).bind λl=>(aC a.2.2.2.2.1 (Int.toNat f.1)).bind λn=>(aC a.2.2.2.2.1 (Int.toNat f.1)).bind λm=>(aC a.2.2.2.2.1 (Int.toNat f.1)).bind λo=>(aC a.2.2.2.2.1 (Int.toNat f.1)).bind λi=>(Jb ((b.1,(b.2.1,(b.2.2.1,(b.2.2.2.1,(b.2.2.2.2.1,(b.2.2.2.2.2.1,(b.2.2.2.2.2.2.1,(b.2.2.2.2.2.2.2.1,(b.2.2.2.2.2.2.2.2.1,(b.2.2.2.2.2.2.2.2.2.1,(b.2.2.2.2.2.2.2.2.2.2.1,(b.2.2.2.2.2.2.2.2.2.2.2.1,(b.2.2.2.2.2.2.2.2.2.2.2.2.1,(b.2.2.2.2.2.2.2.2.2.2.2.2.2.1,(b.2.2.2.2.2.2.2.2.2.2.2.2.2.2.1,(n.2.2.2.2.2.2.2.2.2.2.2.2.2.2.2.1,(m.2.2.2.2.2.2.2.2.2.2.2.2.2.2.2.2.1,(o.2.2.2.2.2.2.2.2.2.2.2.2.2.2.2.2.2.1,(b.2.2.2.2.2.2.2.2.2.2.2.2.2.2.2.2.2.2.1,(i.2.2.2.2.2.2.2.2.2.2.2.2.2.2.2.2.2.2.2.1,())))))))))))))))))))),((h.2.1,()),((l.1,()),())))).bind λg=>Option.bind (bif g.2.1.1 then (Qd ((a.2.1,(a.2.2.1,(a.2.2.2.1,(a.2.2.2.2.1,(a.2.2.2.2.2.1,(a.2.2.2.2.2.2.1,(a.2.2.2.2.2.2.2.1,()))))))),(g.1,()))).bind λd=>some (.inl (d.1.1,(d.1.2.1,(d.1.2.2.1,(d.1.2.2.2.1,(d.1.2.2.2.2.1,(d.1.2.2.2.2.2.1,(d.1.2.2.2.2.2.2.1,()))))))))else some (.inl (a.2.1,(a.2.2.1,(a.2.2.2.1,(a.2.2.2.2.1,(a.2.2.2.2.2.1,(a.2.2.2.2.2.2.1,(a.2.2.2.2.2.2.2.1,()))))))))) λk=>Sum.elim (λc=>(bK c.2.2.2.1 e.1).bind λ_=>(aC c.2.2.2.1 (Int.toNat e.1)).bind λj=>some (.inl (!gA j.2.1 h.2.1,(c.1,(c.2.1,(c.2.2.1,(c.2.2.2.1,(c.2.2.2.2.1,(c.2.2.2.2.2.1,(c.2.2.2.2.2.2.1,())))))))))) some k else some (.inr (.inl (a.1,(a.2.1,(a.2.2.1,(a.2.2.2.1,(a.2.2.2.2.1,(a.2.2.2.2.2.1,(a.2.2.2.2.2.2.1,(a.2.2.2.2.2.2.2.1,()))))))))))
def FM.b1(c:Ej):(a:Ej)->Option (Sum Ej (Sum Ej Ol)):=λa=>bif dO a.1 (List.length a.2.2.2.2.1:Int)then (aR (FM.b2 c a) (!gA a.1 c.1,(a.2.1,(a.2.2.1,(a.2.2.2.1,(a.2.2.2.2.1,(a.2.2.2.2.2.1,(a.2.2.2.2.2.2.1,(a.2.2.2.2.2.2.2.1,()))))))))).bind λd=>Sum.elim (λb=>some (.inl (cM .i64 a.1 (1:Int),(b.2.1,(b.2.2.1,(b.2.2.2.1,(b.2.2.2.2.1,(b.2.2.2.2.2.1,(b.2.2.2.2.2.2.1,(b.2.2.2.2.2.2.2.1,())))))))))) some d else some (.inr (.inl (a.1,(a.2.1,(a.2.2.1,(a.2.2.2.1,(a.2.2.2.2.1,(a.2.2.2.2.2.1,(a.2.2.2.2.2.2.1,(a.2.2.2.2.2.2.2.1,()))))))))))
def FM.b0:(a:Ej)->Option Ol:=λa=>bif dO a.1 (List.length a.2.2.2.2.1:Int)then(aR (FM.b1 a) ((0:Int),(a.2.1,(a.2.2.1,(a.2.2.2.1,(a.2.2.2.2.1,(a.2.2.2.2.2.1,(a.2.2.2.2.2.2.1,(a.2.2.2.2.2.2.2.1,()))))))))).bind λc=>Sum.elim (λb=>some (.inl (cM .i64 a.1 (1:Int),(b.2.1,(b.2.2.1,(b.2.2.2.1,(b.2.2.2.2.1,(b.2.2.2.2.2.1,(b.2.2.2.2.2.2.1,(b.2.2.2.2.2.2.2.1,())))))))))) some c else some (.inr (.inl (a.1,(a.2.1,(a.2.2.1,(a.2.2.2.1,(a.2.2.2.2.1,(a.2.2.2.2.2.1,(a.2.2.2.2.2.2.1,(a.2.2.2.2.2.2.2.1,()))))))))))
def FM:C7->Option C7:=λb=>(aR FM.b0 ((0:Int),(b.1.1,(b.1.2.1,(b.1.2.2.1,(b.1.2.2.2.1,(b.1.2.2.2.2.1,(b.1.2.2.2.2.2.1,(b.1.2.2.2.2.2.2.1,()))))))))).bind λc=>Sum.elim (λa=>some ((a.2.1,(a.2.2.1,(a.2.2.2.1,(a.2.2.2.2.1,(a.2.2.2.2.2.1,(a.2.2.2.2.2.2.1,(a.2.2.2.2.2.2.2.1,()))))))),())) some c
def aB5:zi:=⟨aB3,aB4,FM⟩
def aB6:=K2
def aB7:=K2
def GA.b0(b:C7):(a:(List (D3)×JX))->Option (Sum (List (D3)×JX) (Sum (List (D3)×JX) C7)):=λa=>bif dO a.2.2.1 (List.length b.1.2.2.2.1:Int) then (bK b.1.2.2.2.1 a.2.2.1).bind λ_=>(aC b.1.2.2.2.1 (Int.toNat a.2.2.1)).bind λd=>bif dE (List.length a.1+List.length ([(d.2.2.2.2.2.2.1,())]:List (D3))) 8 then (bK b.1.2.2.2.1 a.2.2.1).bind λ_=>(aC b.1.2.2.2.1 (Int.toNat a.2.2.1)).bind λc=>bif dE (List.length a.2.1+List.length ([(c.2.1,())]:List (D3))) 8 then some (.inl (bV a.1 ([(d.2.2.2.2.2.2.1,())]:List (D3)),(bV a.2.1 ([(c.2.1,())]:List (D3)),(cM .i64 a.2.2.1 (1:Int),())))) else none else none else some (.inr (.inl (a.1,(a.2.1,(a.2.2.1,())))))
def GA.b1:(a:Ej)->Option Ol:=λa=>bif dO a.1 (List.length a.2.2.2.2.1:Int)then(MF ((a.2.1,(a.2.2.1,(a.2.2.2.1,(a.2.2.2.2.1,(a.2.2.2.2.2.1,(a.2.2.2.2.2.2.1,(a.2.2.2.2.2.2.2.1,()))))))),((a.1,()),()))).bind λb=>some (.inl (cM .i64 a.1 (1:Int),(b.2.1.1,(b.2.1.2.1,(b.2.1.2.2.1,(b.2.1.2.2.2.1,(b.2.1.2.2.2.2.1,(b.2.1.2.2.2.2.2.1,(b.2.1.2.2.2.2.2.2.1,())))))))))else some (.inr (.inl (a.1,(a.2.1,(a.2.2.1,(a.2.2.2.1,(a.2.2.2.2.1,(a.2.2.2.2.2.1,(a.2.2.2.2.2.2.1,(a.2.2.2.2.2.2.2.1,()))))))))))
def GA.b2(c:(List (D3)×JX)):(a:Ej)->Option Ol:=λa=>bif dO a.1 (List.length a.2.2.2.2.1:Int)then (bK a.2.2.2.2.1 a.1).bind λ_=>(aC a.2.2.2.2.1 (Int.toNat a.1)).bind λe=>(bK c.1 a.1).bind λ_=>(aC c.1 (Int.toNat a.1)).bind λg=>bif gA e.2.2.2.2.2.2.1 g.1 then (bK a.2.2.2.2.1 a.1).bind λ_=>(aC a.2.2.2.2.1 (Int.toNat a.1)).bind λf=>(bK c.2.1 a.1).bind λ_=>(aC c.2.1 (Int.toNat a.1)).bind λd=>bif gA f.2.1 d.1 then (OC ((a.2.1,(a.2.2.1,(a.2.2.2.1,(a.2.2.2.2.1,(a.2.2.2.2.2.1,(a.2.2.2.2.2.2.1,(a.2.2.2.2.2.2.2.1,()))))))),((a.1,()),()))).bind λb=>some (.inl (cM .i64 a.1 (1:Int),(b.2.1.1,(b.2.1.2.1,(b.2.1.2.2.1,(b.2.1.2.2.2.1,(b.2.1.2.2.2.2.1,(b.2.1.2.2.2.2.2.1,(b.2.1.2.2.2.2.2.2.1,())))))))))else some (.inl (cM .i64 a.1 (1:Int),(a.2.1,(a.2.2.1,(a.2.2.2.1,(a.2.2.2.2.1,(a.2.2.2.2.2.1,(a.2.2.2.2.2.2.1,(a.2.2.2.2.2.2.2.1,())))))))))else some (.inl (cM .i64 a.1 (1:Int),(a.2.1,(a.2.2.1,(a.2.2.2.1,(a.2.2.2.2.1,(a.2.2.2.2.2.1,(a.2.2.2.2.2.2.1,(a.2.2.2.2.2.2.2.1,())))))))))else some (.inr (.inl (a.1,(a.2.1,(a.2.2.1,(a.2.2.2.1,(a.2.2.2.2.1,(a.2.2.2.2.2.1,(a.2.2.2.2.2.2.1,(a.2.2.2.2.2.2.2.1,()))))))))))
def GA:C7->Option C7:=λi=>(Kh (i.1,())).bind λj=>(FM (j.1,())).bind λa=>(aR (GA.b0 a) (([]:List (D3)),(([]:List (D3)),((0:Int),())))).bind λl=>Sum.elim (λk=>(aR GA.b1 ((0:Int),(a.1.1,(a.1.2.1,(a.1.2.2.1,(a.1.2.2.2.1,(a.1.2.2.2.2.1,(a.1.2.2.2.2.2.1,(a.1.2.2.2.2.2.2.1,()))))))))).bind λg=>Sum.elim (λc=>(Kh ((c.2.1,(c.2.2.1,(c.2.2.2.1,(c.2.2.2.2.1,(c.2.2.2.2.2.1,(c.2.2.2.2.2.2.1,(c.2.2.2.2.2.2.2.1,()))))))),())).bind λd=>(aR (GA.b2 k) ((0:Int),(d.1.1,(d.1.2.1,(d.1.2.2.1,(d.1.2.2.2.1,(d.1.2.2.2.2.1,(d.1.2.2.2.2.2.1,(d.1.2.2.2.2.2.2.1,()))))))))).bind λe=>Sum.elim (λb=>(Kh ((b.2.1,(b.2.2.1,(b.2.2.2.1,(b.2.2.2.2.1,(b.2.2.2.2.2.1,(b.2.2.2.2.2.2.1,(b.2.2.2.2.2.2.2.1,()))))))),())).bind λf=>(FM (f.1,())).bind λh=>some (h.1,())) some e) some g) some l
def aB8:zi:=⟨aB6,aB7,GA⟩
def i48:Gs:=[Ml,PV]
def o48:=o26
def Vk.b0:(a:Ej)->Option (Sum Ej (Sum Ej (IK×wc))):=λa=>bif dO (0:Int) a.1 then (GA ((a.2.1,(a.2.2.1,(a.2.2.2.1,(a.2.2.2.2.1,(a.2.2.2.2.2.1,(a.2.2.2.2.2.2.1,(a.2.2.2.2.2.2.2.1,()))))))),())).bind λb=>some (.inl (gS .i64 a.1 (1:Int),(b.1.1,(b.1.2.1,(b.1.2.2.1,(b.1.2.2.2.1,(b.1.2.2.2.2.1,(b.1.2.2.2.2.2.1,(b.1.2.2.2.2.2.2.1,()))))))))) else some (.inr (.inl (a.1,(a.2.1,(a.2.2.1,(a.2.2.2.1,(a.2.2.2.2.1,(a.2.2.2.2.2.1,(a.2.2.2.2.2.2.1,(a.2.2.2.2.2.2.2.1,()))))))))))
def Vk:(HJ×Et)->Option (IK×wc):=λc=>(YU (c.2.1,(((20:Int),()),()))).bind λe=>(Vj (c.1,(e.1,()))).bind λa=>(J0 (a.2.1,((([((6:Int),()),((3:Int),()),((9:Int),()),((0:Int),())]:List (D3)),()),()))).bind λd=>(aR Vk.b0 (d.1.1,(a.1.1,(a.1.2.1,(a.1.2.2.1,(a.1.2.2.2.1,(a.1.2.2.2.2.1,(a.1.2.2.2.2.2.1,(a.1.2.2.2.2.2.2.1,()))))))))).bind λf=>Sum.elim (λb=>some ((b.2.1,(b.2.2.1,(b.2.2.2.1,(b.2.2.2.2.1,(b.2.2.2.2.2.1,(b.2.2.2.2.2.2.1,(b.2.2.2.2.2.2.2.1,()))))))),(d.2.1,()))) some f
def c48:zi:=⟨i48,o48,Vk⟩
def i19:=i7
def o19:=o61
def Y0:Et->Option C7:=λa=>(U7 (a.1,())).bind λc=>(Vk (c.1,(a.1,()))).bind λb=>some (b.1,())
def c19:zi:=⟨i19,o19,Y0⟩
def i80:=W2
def o80:=o7
def Jl:(i9×(i9×rS))->Option la:=λa=>bif km a.2.1.1 a.1.1 then some ((km a.1.1 a.2.2.1.1,()),())else some ((false,()),())
def c80:zi:=⟨i80,o80,Jl⟩
def i82:=HL
def o82:=o7
def Nl.b0(b:Ed):(a:i9)->Option EO:=λa=>bif dO a.1 (ByteArray.size b.1.1:Int)then(bK (ByteArray.data b.1.1).toList a.1).bind λg=>bif km (97:Int) (UInt8.toNat g:Int)then (bK (ByteArray.data b.1.1).toList a.1).bind λh=>bif km (UInt8.toNat h:Int) (122:Int)then some (.inl (cM .i64 a.1 (1:Int),()))else (bK (ByteArray.data b.1.1).toList a.1).bind λd=>bif km (48:Int) (UInt8.toNat d:Int)then (bK (ByteArray.data b.1.1).toList a.1).bind λf=>bif (!(km (UInt8.toNat f:Int) (57:Int)))then some (.inr (.inr ((false,()),())))else some (.inl (cM .i64 a.1 (1:Int),()))else some (.inr (.inr ((false,()),())))else (bK (ByteArray.data b.1.1).toList a.1).bind λe=>bif km (48:Int) (UInt8.toNat e:Int)then (bK (ByteArray.data b.1.1).toList a.1).bind λc=>bif (!(km (UInt8.toNat c:Int) (57:Int)))then some (.inr (.inr ((false,()),())))else some (.inl (cM .i64 a.1 (1:Int),()))else some (.inr (.inr ((false,()),())))else some (.inr (.inl (a.1,())))
def Nl:Ed->Option la:=λa=>(aR (Nl.b0 a) ((0:Int),())).bind λc=>Sum.elim (λd=>(Jl (((ByteArray.size a.1.1:Int),()),(((1:Int),()),(((8:Int),()),())))).bind λb=>some (b.1,())) some c
def c82:zi:=⟨i82,o82,Nl⟩
def aB9:=II
def aC0:=o7
def SZ:rS->Option la:=λa=>(Jl (a.1,(((0:Int),()),(((1000000:Int),()),())))).bind λb=>some (b.1,())
def aC1:zi:=⟨aB9,aC0,SZ⟩
end
end Go.Proofs.YthjkikiepdnimaaGreat
