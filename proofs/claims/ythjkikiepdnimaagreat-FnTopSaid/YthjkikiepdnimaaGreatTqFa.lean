/- What the functions that the laws reach compute, as functions over plain data; each one's equation with the program is checked by the kernel. Conditions: none. -/
import Derived.Test.YthjkikiepdnimaaGreatTqTm3
import Derived.Test.YthjkikiepdnimaaGreatProg
set_option linter.unusedVariables false
set_option linter.unusedSimpArgs false
set_option linter.constructorNameAsVariable false
namespace Go.Proofs.YthjkikiepdnimaaGreat
open Go Go.Tm
set_option maxRecDepth 100000
noncomputable section
def e3:af:=(.cons (.int .i64) .nil)
abbrev D3:Type:=(Int×Unit)
def e4:af:=(.cons .bool .nil)
abbrev D4:Type:=(Bool×Unit)
def e5:af:=(.cons (.int .u8) .nil)
abbrev D5:Type:=(Int×Unit)
def e9:af:=(.cons .str .nil)
abbrev D9:Type:=(ByteArray×Unit)
def w5:af:=(.cons (.int .i64) (.cons (.int .i64) .nil))
abbrev dT:Type:=(Int×(Int×Unit))
def cf:af:=(.cons .str (.cons (.int .i64) (.cons (.int .i64) (.cons (.int .i64) (.cons (.sl w5) .nil)))))
abbrev bm:Type:=(ByteArray×(Int×(Int×(Int×(List dT×Unit)))))
def e26:af:=(.cons (.int .i64) (.cons (.sl cf) .nil))
abbrev Fo:Type:=(Int×(List bm×Unit))
def Fp:af:=(.cons .str (.cons (.int .i64) .nil))
abbrev e6:Type:=(ByteArray×(Int×Unit))
def iv:af:=(.cons (.int .i64) (.cons .str (.cons .str (.cons (.int .i64) (.cons (.int .i64) .nil)))))
abbrev cp:Type:=(Int×(ByteArray×(ByteArray×(Int×(Int×Unit)))))
def lf:af:=(.cons (.int .i64) (.cons (.int .i64) (.cons (.int .i64) (.cons .str (.cons (.int .i64) (.cons (.int .i64) (.cons (.sl e9) (.cons (.int .i64) (.cons (.sl e9) (.cons (.sl e3) (.cons (.sl iv) (.cons .bool (.cons (.sl Fp) (.cons .str .nil))))))))))))))
abbrev vv:Type:=(Int×(Int×(Int×(ByteArray×(Int×(Int×(List D9×(Int×(List D9×(List D3×(List cp×(Bool×(List e6×(ByteArray×Unit))))))))))))))
def H5:af:=(.cons (.int .i64) (.cons (.int .i64) (.cons .str .nil)))
abbrev u6:Type:=(Int×(Int×(ByteArray×Unit)))
def GP:af:=(.cons (.int .i64) (.cons (.int .i64) (.cons .str .nil)))
abbrev sd:Type:=(Int×(Int×(ByteArray×Unit)))
def Mz:af:=(.cons (.int .i64) (.cons (.sl lf) (.cons (.int .i64) (.cons (.int .i64) (.cons (.sl e9) .nil)))))
abbrev Sd:Type:=(Int×(List vv×(Int×(Int×(List D9×Unit)))))
def Ln:af:=(.cons .str (.cons (.int .i64) (.cons (.int .i64) (.cons (.sl cf) (.cons (.sl Fp) (.cons (.sl lf) (.cons (.int .i64) (.cons (.int .i64) (.cons (.int .i64) (.cons (.int .i64) (.cons (.sl e9) (.cons (.int .i64) (.cons (.sl e9) (.cons (.sl e3) (.cons (.int .i64) (.cons (.sl H5) (.cons (.sl GP) (.cons (.sl e3) (.cons (.sl iv) (.cons (.sl Mz) .nil))))))))))))))))))))
abbrev Fq:Type:=(ByteArray×(Int×(Int×(List bm×(List e6×(List vv×(Int×(Int×(Int×(Int×(List D9×(Int×(List D9×(List D3×(Int×(List u6×(List sd×(List D3×(List cp×(List Sd×Unit))))))))))))))))))))
def J3:af:=(.cons (.int .i64) (.cons (.int .i64) (.cons (.int .i64) (.cons (.int .i64) (.cons .str .nil)))))
abbrev tb:Type:=(Int×(Int×(Int×(Int×(ByteArray×Unit)))))
def Oj:af:=(.cons (.int .i64) (.cons .str (.cons (.int .i64) (.cons (.sl lf) (.cons (.int .i64) (.cons (.int .i64) (.cons .str (.cons (.int .i64) (.cons (.int .i64) (.cons .str (.cons (.int .i64) (.cons (.int .i64) (.cons (.sl e9) (.cons (.int .i64) (.cons (.sl e9) (.cons (.sl e3) .nil))))))))))))))))
abbrev Eu:Type:=(Int×(ByteArray×(Int×(List vv×(Int×(Int×(ByteArray×(Int×(Int×(ByteArray×(Int×(Int×(List D9×(Int×(List D9×(List D3×Unit))))))))))))))))
def Se:af:=(.cons (.int .i64) (.cons (.sl cf) (.cons (.sl e9) (.cons (.sl Ln) (.cons (.sl lf) (.cons (.sl J3) (.cons (.sl Oj) .nil)))))))
abbrev H6:Type:=(Int×(List bm×(List D9×(List Fq×(List vv×(List tb×(List Eu×Unit)))))))
def e46:af:=(.cons (.int .i64) (.cons (.int .i64) (.cons (.sl e9) .nil)))
abbrev X1:Type:=(Int×(Int×(List D9×Unit)))
def e49:af:=(.cons (.int .i64) (.cons (.sl e9) (.cons (.sl e3) .nil)))
abbrev Vs:Type:=(Int×(List D9×(List D3×Unit)))
def e73:af:=(.cons .bool (.cons .bool (.cons .bool (.cons .bool .nil))))
def X2:af:=(.cons (.sl e5) (.cons (.int .i64) (.cons (.int .i64) .nil)))
abbrev J6:Type:=(List D5×(Int×(Int×Unit)))
def X3:af:=(.cons (.int .i64) (.cons (.int .i64) (.cons (.int .i64) (.cons (.int .i64) (.cons .str (.cons .str (.cons (.int .i64) (.cons (.int .i64) (.cons (.int .i64) (.cons .str (.cons (.int .i64) (.cons (.sl lf) (.cons (.int .i64) (.cons (.int .i64) (.cons .str (.cons (.int .i64) (.cons (.int .i64) (.cons .str (.cons (.int .i64) (.cons (.int .i64) (.cons (.sl e9) (.cons (.int .i64) (.cons (.sl e9) (.cons (.sl e3) .nil))))))))))))))))))))))))
abbrev Sp:Type:=(Int×(Int×(Int×(Int×(ByteArray×(ByteArray×(Int×(Int×(Int×(ByteArray×(Int×(List vv×(Int×(Int×(ByteArray×(Int×(Int×(ByteArray×(Int×(Int×(List D9×(Int×(List D9×(List D3×Unit))))))))))))))))))))))))
def m0:List Md:=[.sh,.sh,.sh,.sh,(.own [])]
def m1:List Md:=[.sh,.sh,.sh,.sh,.sh,.sh,(.own []),.sh,(.own []),(.own []),(.own []),.sh,(.own [])]
def m2:List Md:=[.sh,(.own m1),.sh,.sh,(.own [])]
def m3:List Md:=[.sh,.sh,.sh,(.own m0),(.own []),(.own m1),.sh,.sh,.sh,.sh,(.own []),.sh,(.own []),(.own []),.sh,(.own []),(.own []),(.own []),(.own []),(.own m2)]
def m4:List Md:=[.sh,.sh,.sh,.sh,.sh,.sh,.sh,.sh,.sh,.sh,.sh,.sh,.sh,.sh,.sh,(.own []),(.own []),(.own []),.sh,(.own m2)]
def m5:List Md:=[.sh,.sh,.sh,(.own m4),(.own []),(.own []),(.own [])]
def m6:List Md:=[.sh,(.own []),(.own [])]
def m7:List Md:=[.sh,.sh,.sh,(.own m1),.sh,.sh,.sh,.sh,.sh,.sh,.sh,.sh,(.own []),.sh,(.own []),(.own [])]
def m8:List Md:=[.sh,.sh,.sh,.sh,.sh,.sh,.sh,.sh,.sh,.sh,.sh,(.own m1),.sh,.sh,.sh,.sh,.sh,.sh,.sh,.sh,(.own []),.sh,(.own []),(.own [])]
abbrev gk:Type:=(Int×Unit)
abbrev Mx:Type:=(Int×(List (bm)×Unit))
abbrev sz:Type:=(gk×Unit)
abbrev Kz:Type:=(List e6×Unit)
abbrev Qy:Type:=(List vv×Unit)
abbrev X4:Type:=(Int×(ByteArray×(Int×(Int×(List (bm)×(List (e6)×(List (vv)×(Int×(Int×(Int×(Int×(List (D9)×(Int×(List (D9)×(List (D3)×(Int×(List (u6)×(List (sd)×(List (D3)×(List (cp)×(List (Sd)×Unit)))))))))))))))))))))
abbrev HE:Type:=(List bm×Unit)
abbrev Gp:Type:=(List cp×Unit)
abbrev mu:Type:=(H6×Unit)
abbrev J7:Type:=(List tb×Unit)
abbrev X5:Type:=(Int×(List (D5)×(Int×(Int×(Int×(List (bm)×(List (D9)×(List (Fq)×(List (vv)×(List (tb)×(List (Eu)×Unit)))))))))))
abbrev p5:Type:=(Fo×Unit)
abbrev Ol:Type:=(Int×(List (D9)×(List (D3)×Unit)))
abbrev IW:Type:=(Sum gk (Sum gk sz))
abbrev HF:Type:=(Bool×Unit)
abbrev i6:Type:=(HF×Unit)
abbrev tm:Type:=(Sum gk (Sum gk i6))
abbrev Om:Type:=(List dT×Unit)
abbrev zd:Type:=(Fq×Unit)
abbrev te:Type:=(Int×gk)
abbrev J8:Type:=(Sum te (Sum te sz))
abbrev C6:Type:=(HE×Unit)
abbrev Ei:Type:=(J6×Unit)
abbrev Fg:Type:=(Gp×Unit)
abbrev MA:Type:=(Sum gk (Sum gk tm))
abbrev Il:Type:=(List (D5)×gk)
abbrev aa5:Type:=(HE×(HE×((((ByteArray×(Int×(Int×(Int×(List dT×(ByteArray×(Int×(Int×(Int×Om)))))))))->Option HF)×Unit)×Unit)))
abbrev EP:Type:=(Eu×Unit)
abbrev ER:Type:=(Int×Mx)
abbrev Fh:Type:=(Kz×Unit)
abbrev Fi:Type:=(X1×Unit)
abbrev X6:Type:=(Int×(List (vv)×(Int×(List (bm)×(List (D3)×Unit)))))
abbrev Fs:Type:=(vv×Unit)
abbrev Ft:Type:=(Vs×Unit)
abbrev Im:Type:=(List D9×Unit)
abbrev MB:Type:=(Im×Unit)
abbrev Lo:Type:=(List (vv)×gk)
abbrev GQ:Type:=(bm×Unit)
abbrev Qz:Type:=(Int×(List (D9)×Unit))
abbrev QA:Type:=(Int×(List (D3)×Unit))
abbrev Vt:Type:=(List (D3)×(Int×(List (D5)×Unit)))
abbrev QB:Type:=(List Eu×Unit)
abbrev Sq:Type:=(List (D3)×gk)
abbrev GR:Type:=(Qy×Unit)
abbrev J9:Type:=(List D3×Unit)
abbrev Io:Type:=(J9×Unit)
abbrev IX:Type:=(cp×Unit)
abbrev GS:Type:=(Qy×sz)
abbrev Ip:Type:=(gk×sz)
abbrev MC:Type:=(ByteArray×Unit)
abbrev A2:Type:=(MC×Unit)
abbrev Iq:Type:=(Bool×gk)
abbrev X7:Type:=(Kz×(((e6->Option HF)×Unit)×Unit))
abbrev aa6:Type:=(Sum (List (dT)×Mx) (Sum (List (dT)×Mx) (Sum Mx (Sum Mx p5))))
abbrev QC:Type:=(List (bm)×gk)
abbrev X8:Type:=(List (cp)×(Int×(List (D5)×te)))
abbrev QD:Type:=(List (e6)×gk)
abbrev Lp:Type:=(HF×mu)
abbrev IY:Type:=(Kz×MB)
abbrev MD:Type:=(Om×Unit)
abbrev On:Type:=(List D5×Unit)
abbrev F5:Type:=(On×Unit)
abbrev X9:Type:=(Kz×((List u6×Unit)×Ip))
abbrev Ya:Type:=(Kz×((List sd×Unit)×sz))
abbrev aa7:Type:=((List Fq×Unit)×(((Fq->Option HF)×Unit)×Unit))
abbrev Vu:Type:=(QB×(J7×zd))
abbrev ME:Type:=(J7×Unit)
abbrev Yb:Type:=(Sum (List (tb)×gk) (Sum (List (tb)×gk) ME))
abbrev Oo:Type:=(J6×mu)
abbrev aa8:Type:=(Sum (Int×ER) (Sum (Int×ER) ((Fo×sz))))
abbrev Yc:Type:=(Int×(List (cp)×Unit))
abbrev Yd:Type:=(Sum Sq (Sum Sq Io))
abbrev Vv:Type:=(List (vv)×Unit)
abbrev Ye:Type:=(Int×(List (Eu)×Unit))
abbrev Yf:Type:=(Int×(List (Sd)×Unit))
abbrev Yg:Type:=(Int×(List (Fq)×Unit))
abbrev Yh:Type:=(Int×(List (tb)×Unit))
abbrev MF:Type:=(H6×Io)
abbrev Gs:=List bX
def QE:bX:=⟨.c,(.cons .bool .nil),[]⟩
def DO:bX:=⟨.c,(.cons (.int .i64) .nil),[]⟩
def Pw:bX:=⟨.c,(.cons .str .nil),[]⟩
def Oq:bX:=⟨.agg,e26,[]⟩
def Sf:bX:=⟨.c,(.cons (.sl Fp) .nil),[]⟩
def Ot:bX:=⟨.io,X2,[]⟩
def Sg:bX:=⟨.io,Ln,m4⟩
def Xz:bX:=⟨.c,(.cons (.sl e9) .nil),[]⟩
def Vg:bX:=⟨.c,(.cons (.sl lf) .nil),[]⟩
def gq9:bX:=⟨.agg,Se,[]⟩
def MH:bX:=⟨.io,Se,m5⟩
def IZ:bX:=⟨.agg,e46,[]⟩
def Lq:bX:=⟨.agg,iv,[]⟩
def Ou:bX:=⟨.agg,lf,[]⟩
def Lr:bX:=⟨.c,(.cons (.sl e3) .nil),[]⟩
def Ov:bX:=⟨.agg,e49,[]⟩
def Sr:bX:=⟨.c,(.cons (.sl cf) .nil),[]⟩
def Ow:bX:=⟨.c,(.cons (.sl iv) .nil),[]⟩
def Vw:bX:=⟨.c,(.cons (.sl e5) .nil),[]⟩
def Ss:bX:=⟨.agg,Oj,[]⟩
def Vx:bX:=⟨.agg,cf,[]⟩
def St:bX:=⟨.c,(.cons (.sl J3) .nil),[(.own [])]⟩
def Vy:bX:=⟨.agg,e26,[.sh,(.own m0)]⟩
def Vz:bX:=⟨.c,(.cons (.sl cf) .nil),[(.own m0)]⟩
def Su:bX:=⟨.agg,Ln,[]⟩
def Yi:bX:=⟨.agg,e26,[.sh,(.own [])]⟩
def Sv:bX:=⟨.agg,H5,[]⟩
def Yj:bX:=⟨.c,(.cons (.sl w5) .nil),[(.own [])]⟩
def aa9:bX:=⟨.c,(.cons (.sl Fp) .nil),[(.own [])]⟩
def VA:bX:=⟨.c,(.cons (.sl iv) .nil),[(.own [])]⟩
def aq2:bX:=⟨.c,(.cons (.sl e3) .nil),[(.own [])]⟩
def VB:bX:=⟨.c,(.cons (.sl w5) .nil),[]⟩
def Yk:bX:=⟨.wa,Se,m5⟩
def ab0:bX:=⟨.c,(.cons (.sl Oj) .nil),[(.own m7)]⟩
def VC:bX:=⟨.rp,Se,[]⟩
def ab1:bX:=⟨.agg,Se,m5⟩
def aq3:bX:=⟨.c,(.cons (.sl e5) .nil),[(.own [])]⟩
def Yl:bX:=⟨.agg,Oj,m7⟩
def Ym:bX:=⟨.c,(.cons (.sl lf) .nil),[(.own [])]⟩
def ab2:bX:=⟨.agg,J3,[]⟩
def Yn:bX:=⟨.c,(.cons (.sl J3) .nil),[]⟩
def Yo:bX:=⟨.rp,(.cons .str .nil),[]⟩
def ab3:bX:=⟨.agg,e46,[.sh,.sh,(.own [])]⟩
def aq4:bX:=⟨.c,(.cons (.sl lf) .nil),[(.own m1)]⟩
def aq5:bX:=⟨.c,(.cons (.sl cf) .nil),[(.own [])]⟩
def ab4:bX:=⟨.c,(.cons (.sl Oj) .nil),[]⟩
def aq6:bX:=⟨.c,(.cons (.fn [3] (.cons .str (.cons (.int .i64) .nil)) (.cons .bool .nil)) .nil),[]⟩
def TTL:List (Nat×TI):=[(3,⟨1,8,.int .i64,[(.int .i64 (0:Int))],[],[],none⟩),(4,⟨1,1,.bool,[(.bool false)],[],[],none⟩),(5,⟨1,1,.int .u8,[(.int .u8 (0:Int))],[],[],none⟩),(9,⟨1,16,.str,[(.str ⟨#[]⟩)],[],[],none⟩),(22,⟨1,24,.slice 5,[.cg],[],[],none⟩),(24,⟨1,24,.slice 120,[.cg],[],[],none⟩),(26,⟨2,32,.struct,[(.int .i64 (0:Int)),.cg],[(0,1),(1,1)],[false,false],none⟩),(27,⟨1,24,.slice 9,[.cg],[],[],none⟩),(28,⟨1,24,.slice 55,[.cg],[],[],none⟩),(29,⟨1,24,.slice 71,[.cg],[],[],none⟩),(30,⟨1,24,.slice 39,[.cg],[],[],none⟩),(31,⟨1,24,.slice 86,[.cg],[],[],none⟩),(33,⟨7,152,.struct,[(.int .i64 (0:Int)),.cg,.cg,.cg,.cg,.cg,.cg],[(0,2),(2,1),(3,1),(4,1),(5,1),(6,1)],[true,false,false,false,false,false],none⟩),(39,⟨5,48,.struct,[(.int .i64 (0:Int)),(.int .i64 (0:Int)),(.int .i64 (0:Int)),(.int .i64 (0:Int)),(.str ⟨#[]⟩)],[(0,1),(1,1),(2,1),(3,1),(4,1)],[false,false,false,false,false],(some [.int .i64,.int .i64,.int .i64,.int .i64,.str])⟩),(40,⟨1,24,.slice 97,[.cg],[],[],none⟩),(46,⟨3,40,.struct,[(.int .i64 (0:Int)),(.int .i64 (0:Int)),.cg],[(0,1),(1,1),(2,1)],[false,false,false],none⟩),(47,⟨1,24,.slice 3,[.cg],[],[],none⟩),(49,⟨3,56,.struct,[(.int .i64 (0:Int)),.cg,.cg],[(0,1),(1,1),(2,1)],[false,false,false],none⟩),(50,⟨1,24,.slice 82,[.cg],[],[],none⟩),(51,⟨1,24,.slice 84,[.cg],[],[],none⟩),(52,⟨1,24,.slice 110,[.cg],[],[],none⟩),(53,⟨1,24,.slice 59,[.cg],[],[],none⟩),(55,⟨20,344,.struct,[(.str ⟨#[]⟩),(.int .i64 (0:Int)),(.int .i64 (0:Int)),.cg,.cg,.cg,(.int .i64 (0:Int)),(.int .i64 (0:Int)),(.int .i64 (0:Int)),(.int .i64 (0:Int)),.cg,(.int .i64 (0:Int)),.cg,.cg,(.int .i64 (0:Int)),.cg,.cg,.cg,.cg,.cg],[(0,1),(1,1),(2,2),(4,1),(5,1),(6,1),(7,1),(8,3),(11,3),(14,1),(15,1),(16,1),(17,1),(18,1),(19,1)],[false,false,true,false,false,false,false,true,true,false,false,false,false,false,false],none⟩),(59,⟨5,72,.struct,[(.int .i64 (0:Int)),.cg,(.int .i64 (0:Int)),(.int .i64 (0:Int)),.cg],[(0,1),(1,1),(2,3)],[false,false,true],none⟩),(71,⟨14,208,.struct,[(.int .i64 (0:Int)),(.int .i64 (0:Int)),(.int .i64 (0:Int)),(.str ⟨#[]⟩),(.int .i64 (0:Int)),(.int .i64 (0:Int)),.cg,(.int .i64 (0:Int)),.cg,.cg,.cg,(.bool false),.cg,(.str ⟨#[]⟩)],[(0,1),(1,1),(2,1),(3,1),(4,3),(7,3),(10,1),(11,1),(12,1),(13,1)],[false,false,false,false,true,true,false,false,false,false],none⟩),(73,⟨4,4,.struct,[(.bool false),(.bool false),(.bool false),(.bool false)],[(0,1),(1,1),(2,1),(3,1)],[],none⟩),(75,⟨1,24,.slice 4,[.cg],[],[],none⟩),(82,⟨3,32,.struct,[(.int .i64 (0:Int)),(.int .i64 (0:Int)),(.str ⟨#[]⟩)],[(0,1),(1,1),(2,1)],[false,false,false],(some [.int .i64,.int .i64,.str])⟩),(84,⟨3,32,.struct,[(.int .i64 (0:Int)),(.int .i64 (0:Int)),(.str ⟨#[]⟩)],[(0,1),(1,1),(2,1)],[false,false,false],(some [.int .i64,.int .i64,.str])⟩),(86,⟨16,216,.struct,[(.int .i64 (0:Int)),(.str ⟨#[]⟩),(.int .i64 (0:Int)),.cg,(.int .i64 (0:Int)),(.int .i64 (0:Int)),(.str ⟨#[]⟩),(.int .i64 (0:Int)),(.int .i64 (0:Int)),(.str ⟨#[]⟩),(.int .i64 (0:Int)),(.int .i64 (0:Int)),.cg,(.int .i64 (0:Int)),.cg,.cg],[(0,1),(1,1),(2,1),(3,1),(4,3),(7,3),(10,3),(13,3)],[false,false,false,false,true,true,true,true],none⟩),(97,⟨2,24,.struct,[(.str ⟨#[]⟩),(.int .i64 (0:Int))],[(0,1),(1,1)],[false,false],(some [.str,.int .i64])⟩),(104,⟨3,40,.struct,[.cg,(.int .i64 (0:Int)),(.int .i64 (0:Int))],[(0,1),(1,1),(2,1)],[false,false,false],none⟩),(110,⟨5,56,.struct,[(.int .i64 (0:Int)),(.str ⟨#[]⟩),(.str ⟨#[]⟩),(.int .i64 (0:Int)),(.int .i64 (0:Int))],[(0,1),(1,1),(2,1),(3,1),(4,1)],[false,false,false,false,false],(some [.int .i64,.str,.str,.int .i64,.int .i64])⟩),(112,⟨24,296,.struct,[(.int .i64 (0:Int)),(.int .i64 (0:Int)),(.int .i64 (0:Int)),(.int .i64 (0:Int)),(.str ⟨#[]⟩),(.str ⟨#[]⟩),(.int .i64 (0:Int)),(.int .i64 (0:Int)),(.int .i64 (0:Int)),(.str ⟨#[]⟩),(.int .i64 (0:Int)),.cg,(.int .i64 (0:Int)),(.int .i64 (0:Int)),(.str ⟨#[]⟩),(.int .i64 (0:Int)),(.int .i64 (0:Int)),(.str ⟨#[]⟩),(.int .i64 (0:Int)),(.int .i64 (0:Int)),.cg,(.int .i64 (0:Int)),.cg,.cg],[(0,1),(1,1),(2,1),(3,5),(8,16)],[false,false,false,true,true],none⟩),(118,⟨1,24,.slice 145,[.cg],[],[],none⟩),(120,⟨5,64,.struct,[(.str ⟨#[]⟩),(.int .i64 (0:Int)),(.int .i64 (0:Int)),(.int .i64 (0:Int)),.cg],[(0,1),(1,1),(2,1),(3,1),(4,1)],[false,false,false,false,false],none⟩),(145,⟨2,16,.struct,[(.int .i64 (0:Int)),(.int .i64 (0:Int))],[(0,1),(1,1)],[false,false],(some [.int .i64,.int .i64])⟩),(179,⟨1,8,.int .u64,[(.int .u64 (0:Int))],[],[],none⟩)]
theorem ab5:TTL.map (λp=>fL Tryz.prog p.1)=TTL.map (λp=>some p.2):=by kernel_rfl
def TT:Nat->Option TI:=wj TTL
def EE:Nat->af:=λn=>(bif Nat.ble n 59 then(bif Nat.ble n 26 then(bif Nat.ble n 4 then(bif Nat.ble n 3 then(bif Nat.beq n 3 then e3 else .nil)else(bif Nat.beq n 4 then e4 else .nil))else(bif Nat.ble n 5 then(bif Nat.beq n 5 then e5 else .nil)else(bif Nat.ble n 9 then(bif Nat.beq n 9 then e9 else .nil)else(bif Nat.beq n 26 then e26 else .nil))))else(bif Nat.ble n 46 then(bif Nat.ble n 33 then(bif Nat.beq n 33 then Se else .nil)else(bif Nat.ble n 39 then(bif Nat.beq n 39 then J3 else .nil)else(bif Nat.beq n 46 then e46 else .nil)))else(bif Nat.ble n 49 then(bif Nat.beq n 49 then e49 else .nil)else(bif Nat.ble n 55 then(bif Nat.beq n 55 then Ln else .nil)else(bif Nat.beq n 59 then Mz else .nil)))))else(bif Nat.ble n 86 then(bif Nat.ble n 73 then(bif Nat.ble n 71 then(bif Nat.beq n 71 then lf else .nil)else(bif Nat.beq n 73 then e73 else .nil))else(bif Nat.ble n 82 then(bif Nat.beq n 82 then H5 else .nil)else(bif Nat.ble n 84 then(bif Nat.beq n 84 then GP else .nil)else(bif Nat.beq n 86 then Oj else .nil))))else(bif Nat.ble n 110 then(bif Nat.ble n 97 then(bif Nat.beq n 97 then Fp else .nil)else(bif Nat.ble n 104 then(bif Nat.beq n 104 then X2 else .nil)else(bif Nat.beq n 110 then iv else .nil)))else(bif Nat.ble n 112 then(bif Nat.beq n 112 then X3 else .nil)else(bif Nat.ble n 120 then(bif Nat.beq n 120 then cf else .nil)else(bif Nat.beq n 145 then w5 else .nil))))))
def lk{a:Type _}:List (Nat×a)->Nat->Option a|[],_=>none|(k,v)::r,n=>bif Nat.beq n k then some v else lk r n
def li(a:Nat):Nat->List Nat|0=>[]|n+1=>a::li (a+1) n
def at2(l:List (Nat×List (Nat×List Md)))(r i:Nat):List Md:=match lk l r with|none=>[]|some z=>match lk z i with|none=>[]|some m=>m
def cx(e:Nat)(b:List (Nat×zi))(a:List (Nat×List (Nat×List Md)))(d c:List (Nat×jP)):Ctx:=⟨e,TT,EE,lk b,at2 a,lk d,lk c⟩
def i7:Gs:=[Vw]
def o7:Gs:=[QE]
def F7:F5->Option i6:=λa=>some ((dO (1048576:Int) (List.length a.1.1:Int),()),())
def c7:zi:=⟨i7,o7,F7⟩
def i25:=i7
def o25:Gs:=[⟨.np,X2,[]⟩]
def Yp.b0(b:F5):(a:te)->Option (Sum te (Sum te Ei)):=λa=>bif dO a.2.1 (List.length b.1.1:Int)then bif dO a.2.1 (4000:Int)then (bK b.1.1 a.2.1).bind λc=>some (.inl (sS .i64 (cM .i64 (cM .i64 (zJ .i64 a.1 (137:Int)) (IntKind.wrap .i64 c.1)) (11:Int)) (1073741823:Int),(cM .i64 a.2.1 (1:Int),())))else some (.inr (.inl (a.1,(a.2.1,()))))else some (.inr (.inl (a.1,(a.2.1,()))))
def Yp:F5->Option Ei:=λa=>(aR (Yp.b0 a) (cM .i64 (366366:Int) (List.length a.1.1:Int),((0:Int),()))).bind λb=>Sum.elim (λv3=>some ((a.1.1,((0:Int),(v3.1,()))),())) some b
def c25:zi:=⟨i25,o25,Yp⟩
def i27:Gs:=[Vw,DO]
def Fu:Gs:=[DO]
def F27:(On×sz)->Option sz:=λa=>bif gA (12:Int) 0 then none else bif dO a.2.1.1 (cM .i64 (3:Int) (AV .i64 (List.length a.1.1:Int) (12:Int)))then some (a.2.1,())else some ((cM .i64 (3:Int) (AV .i64 (List.length a.1.1:Int) (12:Int)),()),())
def c27:zi:=⟨i27,Fu,F27⟩
def VD:Gs:=[Ot]
def Yq:Gs:=[DO,Ot]
def Ox:Ei->Option (gk×Ei):=λa=>bif dO (33:Int) 0 then none else bif dO (47:Int) 0 then none else Option.bind (bif dO a.1.2.1 (List.length a.1.1:Int)then (bK a.1.1 a.1.2.1).bind λc=>some (.inl (sS .i64 (cM .i64 (sS .i64 (qC .i64 (zL .i64 (cM .i64 (zJ .i64 a.1.2.2.1 (6364136223846793005:Int)) (1442695040888963407:Int)) (33:Int)) (zL .i64 (cM .i64 (zJ .i64 a.1.2.2.1 (6364136223846793005:Int)) (1442695040888963407:Int)) (47:Int))) (255:Int)) (IntKind.wrap .i64 c.1)) (255:Int),(cM .i64 a.1.2.1 (1:Int),())))else some (.inl (sS .i64 (qC .i64 (zL .i64 (cM .i64 (zJ .i64 a.1.2.2.1 (6364136223846793005:Int)) (1442695040888963407:Int)) (33:Int)) (zL .i64 (cM .i64 (zJ .i64 a.1.2.2.1 (6364136223846793005:Int)) (1442695040888963407:Int)) (47:Int))) (255:Int),(a.1.2.1,())))) λd=>Sum.elim (λb=>some ((b.1,()),((a.1.1,(b.2.1,(cM .i64 (zJ .i64 a.1.2.2.1 (6364136223846793005:Int)) (1442695040888963407:Int),()))),()))) some d
def aq8:zi:=⟨VD,Yq,Ox⟩
def i60:Gs:=[Ot,DO]
def o60:=Yq
def J4:(J6×sz)->Option (gk×Ei):=λa=>bif km a.2.1.1 (0:Int)then some (((0:Int),()),(a.1,()))else bif km a.2.1.1 (256:Int)then (Ox (a.1,())).bind λe=>bif gA a.2.1.1 0 then none else some ((ph e.1.1 a.2.1.1,()),(e.2.1,()))else (Ox (a.1,())).bind λd=>(Ox (d.2.1,())).bind λb=>(Ox (b.2.1,())).bind λc=>bif gA a.2.1.1 0 then none else some ((ph (cM .i64 (cM .i64 (zJ .i64 d.1.1 (65536:Int)) (zJ .i64 b.1.1 (256:Int))) c.1.1) a.2.1.1,()),(c.2.1,()))
def c60:zi:=⟨i60,o60,J4⟩
def aq9:Gs:=[Ot,Lr]
def ar0:=Yq
def MI:(J6×Io)->Option (gk×Ei):=λa=>(J4 (a.1,(((List.length a.2.1.1:Int),()),()))).bind λb=>(bK a.2.1.1 b.1.1).bind λc=>some (c,(b.2.1,()))
def ar1:zi:=⟨aq9,ar0,MI⟩
def i59:=i60
def o59:Gs:=[QE,Ot]
def Sw:(J6×sz)->Option (HF×Ei):=λa=>(J4 (a.1,(a.2.1,()))).bind λb=>some ((gA b.1.1 (0:Int),()),(b.2.1,()))
def c59:zi:=⟨i59,o59,Sw⟩
def i58:=VD
def o58:Gs:=[Vy,Ot]
def Yr.b0(d:(gk×Ei)):(a:(Int×(List (D5)×ER)))->Option (Sum (Int×(List (D5)×ER)) (Sum (Int×(List (D5)×ER)) (Fo×Ei))):=λa=>bif dO a.1 d.1.1 then (bK ([(⟨#[97]⟩,()),(⟨#[98]⟩,()),(⟨#[99]⟩,()),(⟨#[100]⟩,())]:List (D9)) a.1).bind λ_=>(aC ([(⟨#[97]⟩,()),(⟨#[98]⟩,()),(⟨#[99]⟩,()),(⟨#[100]⟩,())]:List (D9)) (Int.toNat a.1)).bind λc=>(MI ((a.2.1,(a.2.2.1,(a.2.2.2.1,()))),((([((3:Int),()),((20:Int),())]:List (D3)),()),()))).bind λb=>bif dE (List.length a.2.2.2.2.1+List.length ([(c.1,(b.1.1,((0:Int),((10:Int),([],())))))]:List (bm))) 64 then some (.inl (cM .i64 a.1 (1:Int),(b.2.1.1,(b.2.1.2.1,(b.2.1.2.2.1,(bV a.2.2.2.2.1 ([(c.1,(b.1.1,((0:Int),((10:Int),([],())))))]:List (bm)),())))))) else none else some (.inr (.inl (a.1,(a.2.1,(a.2.2.1,(a.2.2.2.1,(a.2.2.2.2.1,())))))))
def Yr:Ei->Option (Fo×Ei):=λf=>(MI (f.1,((([((4:Int),()),((4:Int),()),((4:Int),()),((3:Int),()),((2:Int),()),((1:Int),())]:List (D3)),()),()))).bind λd=>(aR (Yr.b0 d) ((0:Int),(d.2.1.1,(d.2.1.2.1,(d.2.1.2.2.1,([],())))))).bind λg=>Sum.elim (λb=>Option.bind ((Sw ((b.2.1,(b.2.2.1,(b.2.2.2.1,()))),(((3:Int),()),()))).bind λa=>bif a.1.1 then bif dE (List.length b.2.2.2.2.1+List.length ([(⟨#[101]⟩,((7:Int),((0:Int),((0:Int),([],())))))]:List (bm))) 64 then some (.inl (a.2.1.1,(a.2.1.2.1,(a.2.1.2.2.1,(bV b.2.2.2.2.1 ([(⟨#[101]⟩,((7:Int),((0:Int),((0:Int),([],())))))]:List (bm)),())))))else none else some (.inl (a.2.1.1,(a.2.1.2.1,(a.2.1.2.2.1,(b.2.2.2.2.1,())))))) λe=>Sum.elim (λc=>some (((0:Int),(c.2.2.2.1,())),((c.1,(c.2.1,(c.2.2.1,()))),()))) some e) some g
def c58:zi:=⟨i58,o58,Yr⟩
def ab6:Gs:=[DO,DO,DO]
def ar2:=o7
def k8:(gk×Ip)->Option i6:=λa=>bif km a.2.1.1 a.1.1 then some ((km a.1.1 a.2.2.1.1,()),())else some ((false,()),())
def ar3:zi:=⟨ab6,ar2,k8⟩
def Ir:Gs:=[Pw]
def ar4:=o7
def ES.b0(b:A2):(a:gk)->Option tm:=λa=>bif dO a.1 (ByteArray.size b.1.1:Int)then(bK (ByteArray.data b.1.1).toList a.1).bind λe=>(k8 ((IntKind.wrap .i64 (UInt8.toNat e:Int),()),(((97:Int),()),(((122:Int),()),())))).bind λc=>bif (!c.1.1)then (bK (ByteArray.data b.1.1).toList a.1).bind λf=>(k8 ((IntKind.wrap .i64 (UInt8.toNat f:Int),()),(((48:Int),()),(((57:Int),()),())))).bind λd=>bif (!d.1.1)then some (.inr (.inr ((false,()),())))else some (.inl (cM .i64 a.1 (1:Int),()))else some (.inl (cM .i64 a.1 (1:Int),()))else some (.inr (.inl (a.1,())))
def ES:A2->Option i6:=λa=>(aR (ES.b0 a) ((0:Int),())).bind λb=>Sum.elim (λd=>(k8 (((ByteArray.size a.1.1:Int),()),(((1:Int),()),(((8:Int),()),())))).bind λc=>some (c.1,())) some b
def ar5:zi:=⟨Ir,ar4,ES⟩
def VE:Gs:=[Vx]
def ar6:=o7
def Ls.b0(c:GQ):(a:gk)->Option tm:=λa=>bif dO a.1 (List.length c.1.2.2.2.2.1:Int)then(bK c.1.2.2.2.2.1 a.1).bind λb=>(k8 ((b.1,()),(((1:Int),()),(((1000000:Int),()),())))).bind λf=>bif (!f.1.1)then some (.inr (.inr ((false,()),())))else (k8 ((b.2.1,()),(((0:Int),()),(((1000:Int),()),())))).bind λd=>bif (!d.1.1)then some (.inr (.inr ((false,()),())))else bif dO (0:Int) a.1 then (bK c.1.2.2.2.2.1 (gS .i64 a.1 (1:Int))).bind λe=>bif km b.2.1 e.2.1 then some (.inr (.inr ((false,()),()))) else some (.inl (cM .i64 a.1 (1:Int),())) else some (.inl (cM .i64 a.1 (1:Int),())) else some (.inr (.inl (a.1,())))
def Ls:GQ->Option i6:=λa=>(ES ((a.1.1,()),())).bind λf=>bif (!f.1.1)then some ((false,()),())else (k8 ((a.1.2.1,()),(((0:Int),()),(((1000000:Int),()),())))).bind λe=>bif (!e.1.1)then some ((false,()),())else (k8 ((a.1.2.2.1,()),(((0:Int),()),(((10000:Int),()),())))).bind λc=>bif (!c.1.1)then some ((false,()),())else (k8 ((a.1.2.2.2.1,()),(((0:Int),()),(((1000000:Int),()),())))).bind λd=>bif (!d.1.1)then some ((false,()),())else bif dO (4:Int) (List.length a.1.2.2.2.2.1:Int)then some ((false,()),())else (aR (Ls.b0 a) ((0:Int),())).bind λb=>Sum.elim (λg=>some ((true,()),())) some b
def ar7:zi:=⟨VE,ar6,Ls⟩
def ar8:=VE
def ar9:=Fu
def Ka.b0(b:GQ):(a:te)->Option J8:=λa=>bif dO a.2.1 (List.length b.1.2.2.2.2.1:Int)then(bK b.1.2.2.2.2.1 a.2.1).bind λc=>some (.inl (cM .i64 a.1 c.1,(cM .i64 a.2.1 (1:Int),())))else some (.inr (.inl (a.1,(a.2.1,()))))
def Ka:GQ->Option sz:=λa=>(aR (Ka.b0 a) (cM .i64 a.1.2.1 a.1.2.2.2.1,((0:Int),()))).bind λb=>Sum.elim (λv3=>some ((v3.1,()),())) some b
def as0:zi:=⟨ar8,ar9,Ka⟩
def Oy:Gs:=[Sr]
def as1:=Fu
def Lt.b0(b:C6):(a:te)->Option J8:=λa=>bif dO a.2.1 (List.length b.1.1:Int)then(bK b.1.1 a.2.1).bind λc=>(Ka (c,())).bind λd=>some (.inl (cM .i64 a.1 d.1.1,(cM .i64 a.2.1 (1:Int),())))else some (.inr (.inl (a.1,(a.2.1,()))))
def Lt:C6->Option sz:=λa=>(aR (Lt.b0 a) ((0:Int),((0:Int),()))).bind λb=>Sum.elim (λv4=>some ((v4.1,()),())) some b
def as2:zi:=⟨Oy,as1,Lt⟩
def as3:=Oy
def as4:=o7
def Lu.b0(b:C6):(a:gk)->Option tm:=λa=>bif dO a.1 (List.length b.1.1:Int)then(bK b.1.1 a.1).bind λc=>(Ls (c,())).bind λd=>bif (!d.1.1)then some (.inr (.inr ((false,()),())))else bif dO (0:Int) a.1 then (bK b.1.1 (gS .i64 a.1 (1:Int))).bind λe=>(bK b.1.1 a.1).bind λf=>bif !ob e.1 f.1 then some (.inr (.inr ((false,()),()))) else some (.inl (cM .i64 a.1 (1:Int),())) else some (.inl (cM .i64 a.1 (1:Int),())) else some (.inr (.inl (a.1,())))
def Lu:C6->Option i6:=λa=>(aR (Lu.b0 a) ((0:Int),())).bind λb=>Sum.elim (λd=>bif km (List.length a.1.1:Int) (12:Int)then (Lt (a.1,())).bind λc=>some ((km c.1.1 (1000000:Int),()),())else some ((false,()),())) some b
def as5:zi:=⟨as3,as4,Lu⟩
def QF:Gs:=[Oq]
def o68:=o7
def Sh:p5->Option i6:=λa=>(k8 ((a.1.1,()),(((0:Int),()),(((900:Int),()),())))).bind λb=>bif b.1.1 then (Lu ((a.1.2.1,()),())).bind λc=>some (c.1,())else some ((false,()),())
def c68:zi:=⟨QF,o68,Sh⟩
def i70:Gs:=[Xz]
def o70:=o7
def Oz.b0(b:MB):(a:gk)->Option tm:=λa=>bif dO a.1 (List.length b.1.1:Int)then(bK b.1.1 a.1).bind λc=>(ES (c,())).bind λd=>bif (!d.1.1)then some (.inr (.inr ((false,()),())))else bif dO (0:Int) a.1 then (bK b.1.1 (gS .i64 a.1 (1:Int))).bind λe=>(bK b.1.1 a.1).bind λf=>bif !ob e.1 f.1 then some (.inr (.inr ((false,()),()))) else some (.inl (cM .i64 a.1 (1:Int),())) else some (.inl (cM .i64 a.1 (1:Int),())) else some (.inr (.inl (a.1,())))
def Oz:MB->Option i6:=λa=>(aR (Oz.b0 a) ((0:Int),())).bind λb=>Sum.elim (λc=>some ((km (List.length a.1.1:Int) (20:Int),()),())) some b
def c70:zi:=⟨i70,o70,Oz⟩
def ab7:=Oy
def OA:Gs:=[Vz]
def GU.b0(c:C6):(b:QC)->Option (Sum QC (Sum QC C6)):=λb=>bif dO b.2.1 (List.length c.1.1:Int)then (bK c.1.1 b.2.1).bind λa=>bif dE (List.length ([]:List (dT))+List.length a.2.2.2.2.1) 16 then bif dE (List.length b.1+List.length ([(a.1,(a.2.1,(a.2.2.1,(a.2.2.2.1,(bV ([]:List (dT)) a.2.2.2.2.1,())))))]:List (bm))) 64 then some (.inl (bV b.1 ([(a.1,(a.2.1,(a.2.2.1,(a.2.2.2.1,(bV ([]:List (dT)) a.2.2.2.2.1,())))))]:List (bm)),(cM .i64 b.2.1 (1:Int),()))) else none else none else some (.inr (.inl (b.1,(b.2.1,()))))
def GU:C6->Option C6:=λa=>(aR (GU.b0 a) (([]:List (bm)),((0:Int),()))).bind λb=>Sum.elim (λv3=>some ((v3.1,()),())) some b
def as6:zi:=⟨ab7,OA,GU⟩
def ab8:=QF
def QG:Gs:=[Vy]
def Fj:p5->Option p5:=λa=>(GU ((a.1.2.1,()),())).bind λb=>some ((a.1.1,(b.1.1,())),())
def as7:zi:=⟨ab8,QG,Fj⟩
def Ys:Gs:=[Xz,Pw]
def as8:=o7
def Gq.b0(b:(Im×A2)):(a:gk)->Option tm:=λa=>bif dO a.1 (List.length b.1.1:Int)then(bK b.1.1 a.1).bind λc=>bif ko c.1 b.2.1.1 then some (.inr (.inr ((true,()),())))else some (.inl (cM .i64 a.1 (1:Int),()))else some (.inr (.inl (a.1,())))
def Gq:(Im×A2)->Option i6:=λa=>(aR (Gq.b0 a) ((0:Int),())).bind λb=>Sum.elim (λv3=>some ((false,()),())) some b
def as9:zi:=⟨Ys,as8,Gq⟩
def i69:=QF
def o69:Gs:=[aa9]
def Vh.b0(b:p5):(a:QD)->Option (Sum QD (Sum QD Fh)):=λa=>bif dO a.2.1 (List.length b.1.2.1:Int)then (bK b.1.2.1 a.2.1).bind λe=>bif km (5:Int) e.2.2.2.1 then (bK b.1.2.1 a.2.1).bind λd=>(bK b.1.2.1 a.2.1).bind λc=>bif dE (List.length a.1+List.length ([(d.1,(c.2.2.2.1,()))]:List (e6))) 24 then some (.inl (bV a.1 ([(d.1,(c.2.2.2.1,()))]:List (e6)),(cM .i64 a.2.1 (1:Int),()))) else none else some (.inl (a.1,(cM .i64 a.2.1 (1:Int),()))) else some (.inr (.inl (a.1,(a.2.1,()))))
def Vh:p5->Option Fh:=λa=>(aR (Vh.b0 a) (([]:List (e6)),((0:Int),()))).bind λb=>Sum.elim (λc=>some ((c.1,()),())) some b
def c69:zi:=⟨i69,o69,Vh⟩
def at1:Gs:=[Pw,Oq]
def ab9:Gs:=[⟨.agg,Ln,m3⟩]
def VF:(MC×p5)->Option zd:=λa=>(ES (a.1,())).bind λe=>bif (!e.1.1)then some ((⟨#[]⟩,((0:Int),((0:Int),([],([],([],((0:Int),((0:Int),((0:Int),((0:Int),([],((0:Int),([],([],((0:Int),([],([],([],([],([],())))))))))))))))))))),())else (Sh (a.2.1,())).bind λd=>bif (!d.1.1)then some ((⟨#[]⟩,((0:Int),((0:Int),([],([],([],((0:Int),((0:Int),((0:Int),((0:Int),([],((0:Int),([],([],((0:Int),([],([],([],([],([],())))))))))))))))))))),())else (Fj (a.2.1,())).bind λb=>(Vh (a.2.1,())).bind λc=>some ((a.1.1,(a.2.1.1,(b.1.1,(b.1.2.1,(c.1.1,([],((1:Int),((0:Int),((0:Int),((-1:Int),([],((0:Int),([],([],((0:Int),([],([],([],([],([],())))))))))))))))))))),())
def at3:zi:=⟨at1,ab9,VF⟩
def i61:Gs:=[Oq,Xz]
def o61:Gs:=[ab1]
def VG.b0(a:(Fo×MB)):(v4:Yg)->Option (Sum Yg (Sum Yg mu)):=λv4=>bif dO v4.1 (List.length a.1.2.1:Int)then (bK a.1.2.1 v4.1).bind λe=>(Gq (a.2.1,((e.1,()),()))).bind λc=>bif (!c.1.1)then (bK a.1.2.1 v4.1).bind λd=>(VF ((d.1,()),(a.1,()))).bind λb=>bif dE (List.length v4.2.1+List.length ([b.1]:List (Fq))) 344 then some (.inl (cM .i64 v4.1 (1:Int),(bV v4.2.1 ([b.1]:List (Fq)),())))else none else some (.inl (cM .i64 v4.1 (1:Int),(v4.2.1,())))else some (.inr (.inl (v4.1,(v4.2.1,()))))
def VG:(Fo×MB)->Option mu:=λa=>(Sh (a.1,())).bind λd=>bif (!d.1.1)then some (((0:Int),([],([],([],([],([],([],()))))))),())else (Oz (a.2.1,())).bind λe=>bif (!e.1.1)then some (((0:Int),([],([],([],([],([],([],()))))))),())else (Fj (a.1,())).bind λb=>bif dE (List.length ([]:List (D9))+List.length a.2.1.1) 16 then (aR (VG.b0 a) ((0:Int),([],()))).bind λc=>Sum.elim (λf=>some ((b.1.1,(b.1.2.1,(bV ([]:List (D9)) a.2.1.1,(f.2.1,([],([],([],()))))))),())) some c else none
def c61:zi:=⟨i61,o61,VG⟩
def at4:Gs:=[Sf,DO]
def at5:=Ir
def Lv:(Kz×sz)->Option A2:=λa=>bif gA (List.length a.1.1:Int) (0:Int)then some ((⟨#[]⟩,()),())else bif dO a.2.1.1 (0:Int)then some ((⟨#[]⟩,()),())else bif gA (List.length a.1.1:Int) 0 then none else (bK a.1.1 (ph a.2.1.1 (List.length a.1.1:Int))).bind λb=>some ((b.1,()),())
def at6:zi:=⟨at4,at5,Lv⟩
def at7:Gs:=[Ot,Xz]
def ac0:Gs:=[Pw,Ot]
def VH:(J6×MB)->Option (MC×Ei):=λa=>(J4 (a.1,(((List.length a.2.1.1:Int),()),()))).bind λb=>(bK a.2.1.1 b.1.1).bind λc=>some (c,(b.2.1,()))
def at8:zi:=⟨at7,ac0,VH⟩
def at9:=VD
def au0:=ac0
def Sx:Ei->Option (MC×Ei):=λb=>(VH (b.1,((([(⟨#[97]⟩,()),(⟨#[98]⟩,()),(⟨#[99]⟩,()),(⟨#[100]⟩,()),(⟨#[101]⟩,()),(⟨#[97,49]⟩,())]:List (D9)),()),()))).bind λa=>some (a.1,(a.2.1,()))
def au1:zi:=⟨at9,au0,Sx⟩
def au2:=VD
def ac1:Gs:=[Lq,Ot]
def Sy:Ei->Option (cp×Ei):=λh=>(J4 (h.1,(((3:Int),()),()))).bind λd=>(Sx (d.2.1,())).bind λf=>(MI (f.2.1,((([((1:Int),()),((5:Int),()),((10:Int),()),((3:Int),()),((200:Int),())]:List (D3)),()),()))).bind λe=>(J4 (e.2.1,(((4:Int),()),()))).bind λa=>Option.bind (bif gA (cM .i64 (1:Int) d.1.1) (1:Int) then (Sx (a.2.1,())).bind λc=>some (.inl (c.2.1.1,(c.2.1.2.1,(c.2.1.2.2.1,(c.1.1,()))))) else some (.inl (a.2.1.1,(a.2.1.2.1,(a.2.1.2.2.1,(⟨#[]⟩,())))))) λg=>Sum.elim (λb=>some ((cM .i64 (1:Int) d.1.1,(f.1.1,(b.2.2.2.1,(e.1.1,(a.1.1,()))))),((b.1,(b.2.1,(b.2.2.1,()))),()))) some g
def au3:zi:=⟨au2,ac1,Sy⟩
def au4:Gs:=[Ot,Oq]
def au5:=ac1
def VI:(J6×p5)->Option (cp×Ei):=λe=>(Sy (e.1,())).bind λa=>Option.bind (bif dO (0:Int) (List.length e.2.1.2.1:Int)then (Sw (a.2.1,(((5:Int),()),()))).bind λc=>bif (!c.1.1)then (J4 (c.2.1,(((List.length e.2.1.2.1:Int),()),()))).bind λd=>(bK e.2.1.2.1 d.1.1).bind λf=>some (.inl (d.2.1.1,(d.2.1.2.1,(d.2.1.2.2.1,(f.1,(f.2.2.1,()))))))else some (.inl (c.2.1.1,(c.2.1.2.1,(c.2.1.2.2.1,(a.1.2.1,(a.1.2.2.2.2.1,()))))))else some (.inl (a.2.1.1,(a.2.1.2.1,(a.2.1.2.2.1,(a.1.2.1,(a.1.2.2.2.2.1,()))))))) λg=>Sum.elim (λb=>some ((a.1.1,(b.2.2.2.1,(a.1.2.2.1,(a.1.2.2.2.1,(b.2.2.2.2.1,()))))),((b.1,(b.2.1,(b.2.2.1,()))),()))) some g
def au6:zi:=⟨au4,au5,VI⟩
def VJ:Gs:=[IZ]
def au7:Gs:=[ab3]
def Gr:Fi->Option Fi:=λa=>bif dE (List.length ([]:List (D9))+List.length a.1.2.2.1) 16 then some ((a.1.1,(a.1.2.1,(bV ([]:List (D9)) a.1.2.2.1,()))),()) else none
def au8:zi:=⟨VJ,au7,Gr⟩
def Sz:Gs:=[Ov]
def au9:Gs:=[⟨.agg,e49,m6⟩]
def I0:Ft->Option Ft:=λa=>bif dE (List.length ([]:List (D9))+List.length a.1.2.1) 16 then bif dE (List.length ([]:List (D3))+List.length a.1.2.2.1) 8 then some ((a.1.1,(bV ([]:List (D9)) a.1.2.1,(bV ([]:List (D3)) a.1.2.2.1,()))),()) else none else none
def av0:zi:=⟨Sz,au9,I0⟩
def QH:Gs:=[Ou]
def ac2:Gs:=[⟨.agg,lf,m1⟩]
def I2:Fs->Option Fs:=λa=>(Gr ((a.1.2.2.2.2.1,(a.1.2.2.2.2.2.1,(a.1.2.2.2.2.2.2.1,()))),())).bind λb=>(I0 ((a.1.2.2.2.2.2.2.2.1,(a.1.2.2.2.2.2.2.2.2.1,(a.1.2.2.2.2.2.2.2.2.2.1,()))),())).bind λc=>bif dE (List.length ([]:List (cp))+List.length a.1.2.2.2.2.2.2.2.2.2.2.1) 56 then bif dE (List.length ([]:List (e6))+List.length a.1.2.2.2.2.2.2.2.2.2.2.2.2.1) 24 then some ((a.1.1,(a.1.2.1,(a.1.2.2.1,(a.1.2.2.2.1,(b.1.1,(b.1.2.1,(b.1.2.2.1,(c.1.1,(c.1.2.1,(c.1.2.2.1,(bV ([]:List (cp)) a.1.2.2.2.2.2.2.2.2.2.2.1,(a.1.2.2.2.2.2.2.2.2.2.2.2.1,(bV ([]:List (e6)) a.1.2.2.2.2.2.2.2.2.2.2.2.2.1,(a.1.2.2.2.2.2.2.2.2.2.2.2.2.2.1,())))))))))))))),()) else none else none
def av1:zi:=⟨QH,ac2,I2⟩
def SA:Gs:=[Vg]
def SB:Gs:=[aq4]
def Ev.b0(b:GR):(a:Lo)->Option (Sum Lo (Sum Lo GR)):=λa=>bif dO a.2.1 (List.length b.1.1:Int)then (bK b.1.1 a.2.1).bind λd=>(I2 (d,())).bind λc=>bif dE (List.length a.1+List.length ([c.1]:List (vv))) 208 then some (.inl (bV a.1 ([c.1]:List (vv)),(cM .i64 a.2.1 (1:Int),())))else none else some (.inr (.inl (a.1,(a.2.1,()))))
def Ev:GR->Option GR:=λa=>(aR (Ev.b0 a) (([]:List (vv)),((0:Int),()))).bind λb=>Sum.elim (λv4=>some ((v4.1,()),())) some b
def av2:zi:=⟨SA,SB,Ev⟩
def av3:Gs:=[⟨.agg,Mz,[]⟩]
def av4:Gs:=[⟨.agg,Mz,m2⟩]
def VK:(Sd×Unit)->Option (Sd×Unit):=λa=>(Ev ((a.1.2.1,()),())).bind λc=>(Gr ((a.1.2.2.1,(a.1.2.2.2.1,(a.1.2.2.2.2.1,()))),())).bind λb=>some ((a.1.1,(c.1.1,(b.1.1,(b.1.2.1,(b.1.2.2.1,()))))),())
def av5:zi:=⟨av3,av4,VK⟩
def Yt:Gs:=[Su]
def av6:=ab9
def Lw.b0(b:zd):(a:Yf)->Option (Sum Yf (Sum Yf zd)):=λa=>bif dO a.1 (List.length b.1.2.2.2.2.2.2.2.2.2.2.2.2.2.2.2.2.2.2.2.1:Int)then (bK b.1.2.2.2.2.2.2.2.2.2.2.2.2.2.2.2.2.2.2.2.1 a.1).bind λd=>(VK (d,())).bind λc=>bif dE (List.length a.2.1+List.length ([c.1]:List (Sd))) 72 then some (.inl (cM .i64 a.1 (1:Int),(bV a.2.1 ([c.1]:List (Sd)),())))else none else some (.inr (.inl (a.1,(a.2.1,()))))
def Lw:zd->Option zd:=λa=>(Fj ((a.1.2.2.1,(a.1.2.2.2.1,())),())).bind λd=>bif dE (List.length ([]:List (e6))+List.length a.1.2.2.2.2.1) 24 then (Ev ((a.1.2.2.2.2.2.1,()),())).bind λg=>(Gr ((a.1.2.2.2.2.2.2.2.2.1,(a.1.2.2.2.2.2.2.2.2.2.1,(a.1.2.2.2.2.2.2.2.2.2.2.1,()))),())).bind λb=>(I0 ((a.1.2.2.2.2.2.2.2.2.2.2.2.1,(a.1.2.2.2.2.2.2.2.2.2.2.2.2.1,(a.1.2.2.2.2.2.2.2.2.2.2.2.2.2.1,()))),())).bind λc=>bif dE (List.length ([]:List (u6))+List.length a.1.2.2.2.2.2.2.2.2.2.2.2.2.2.2.2.1) 32 then bif dE (List.length ([]:List (sd))+List.length a.1.2.2.2.2.2.2.2.2.2.2.2.2.2.2.2.2.1) 32 then bif dE (List.length ([]:List (D3))+List.length a.1.2.2.2.2.2.2.2.2.2.2.2.2.2.2.2.2.2.1) 8 then bif dE (List.length ([]:List (cp))+List.length a.1.2.2.2.2.2.2.2.2.2.2.2.2.2.2.2.2.2.2.1) 56 then (aR (Lw.b0 a) ((0:Int),(([]:List (Sd)),()))).bind λe=>Sum.elim (λf=>some ((a.1.1,(a.1.2.1,(d.1.1,(d.1.2.1,(bV ([]:List (e6)) a.1.2.2.2.2.1,(g.1.1,(a.1.2.2.2.2.2.2.1,(a.1.2.2.2.2.2.2.2.1,(b.1.1,(b.1.2.1,(b.1.2.2.1,(c.1.1,(c.1.2.1,(c.1.2.2.1,(a.1.2.2.2.2.2.2.2.2.2.2.2.2.2.2.1,(bV ([]:List (u6)) a.1.2.2.2.2.2.2.2.2.2.2.2.2.2.2.2.1,(bV ([]:List (sd)) a.1.2.2.2.2.2.2.2.2.2.2.2.2.2.2.2.2.1,(bV ([]:List (D3)) a.1.2.2.2.2.2.2.2.2.2.2.2.2.2.2.2.2.2.1,(bV ([]:List (cp)) a.1.2.2.2.2.2.2.2.2.2.2.2.2.2.2.2.2.2.2.1,(f.2.1,())))))))))))))))))))),())) some e else none else none else none else none else none
def av7:zi:=⟨Yt,av6,Lw⟩
def Yu:Gs:=[Lq,Lq]
def av8:=o7
def SC:(cp×IX)->Option i6:=λa=>bif !ko a.1.2.1 a.2.1.2.1 then some ((ob a.1.2.1 a.2.1.2.1,()),())else bif !gA a.1.2.2.2.2.1 a.2.1.2.2.2.2.1 then some ((dO a.1.2.2.2.2.1 a.2.1.2.2.2.2.1,()),())else bif !gA a.1.1 a.2.1.1 then some ((dO a.1.1 a.2.1.1,()),())else bif !ko a.1.2.2.1 a.2.1.2.2.1 then some ((ob a.1.2.2.1 a.2.1.2.2.1,()),())else some ((dO a.1.2.2.2.1 a.2.1.2.2.2.1,()),())
def av9:zi:=⟨Yu,av8,SC⟩
def ac3:Gs:=[Lq]
def aw0:=o7
def QI:IX->Option i6:=λa=>(ES ((a.1.2.1,()),())).bind λf=>bif (!f.1.1)then some ((false,()),())else (k8 ((a.1.2.2.2.1,()),(((1:Int),()),(((1000000:Int),()),())))).bind λd=>bif (!d.1.1)then some ((false,()),())else (k8 ((a.1.2.2.2.2.1,()),(((0:Int),()),(((10000:Int),()),())))).bind λb=>bif (!b.1.1)then some ((false,()),())else bif gA a.1.1 (1:Int)then (ES ((a.1.2.2.1,()),())).bind λc=>some (c.1,())else (k8 ((a.1.1,()),(((2:Int),()),(((3:Int),()),())))).bind λe=>bif e.1.1 then some ((ko a.1.2.2.1 ⟨#[]⟩,()),())else some ((false,()),())
def aw1:zi:=⟨ac3,aw0,QI⟩
def Yv:Gs:=[Ow]
def aw2:=o7
def I3.b0(b:Fg):(a:gk)->Option tm:=λa=>bif dO a.1 (List.length b.1.1:Int)then(bK b.1.1 a.1).bind λd=>(QI (d,())).bind λe=>bif (!e.1.1)then some (.inr (.inr ((false,()),())))else bif dO (0:Int) a.1 then (bK b.1.1 (gS .i64 a.1 (1:Int))).bind λf=>(bK b.1.1 a.1).bind λg=>(SC (f,(g,()))).bind λc=>bif (!c.1.1) then some (.inr (.inr ((false,()),()))) else some (.inl (cM .i64 a.1 (1:Int),())) else some (.inl (cM .i64 a.1 (1:Int),())) else some (.inr (.inl (a.1,())))
def I3:Fg->Option i6:=λa=>(aR (I3.b0 a) ((0:Int),())).bind λb=>Sum.elim (λc=>some ((km (List.length a.1.1:Int) (20:Int),()),())) some b
def aw3:zi:=⟨Yv,aw2,I3⟩
def aw4:Gs:=[Ow,Lq]
def aw5:Gs:=[VA,QE]
def MJ.b0(f:(Gp×IX)):(a:Yc)->Option (Sum Yc (Sum Yc ((Gp×i6)))):=λa=>bif dO (0:Int) a.1 then (bK a.2.1 (gS .i64 a.1 (1:Int))).bind λ_=>(aC a.2.1 (Int.toNat (gS .i64 a.1 (1:Int)))).bind λd=>(SC (f.2.1,(d,()))).bind λe=>bif e.1.1 then (bK a.2.1 (gS .i64 a.1 (1:Int))).bind λ_=>(aC a.2.1 (Int.toNat (gS .i64 a.1 (1:Int)))).bind λb=>(bK a.2.1 a.1).bind λ_=>(aC a.2.1 (Int.toNat a.1)).bind λg=>(some (List.set a.2.1 (Int.toNat a.1) (b.1,(b.2.1,(b.2.2.1,(b.2.2.2.1,(b.2.2.2.2.1,()))))))).bind λc=>some (.inl (gS .i64 a.1 (1:Int),(c,()))) else some (.inr (.inl (a.1,(a.2.1,())))) else some (.inr (.inl (a.1,(a.2.1,()))))
def MJ:(Gp×IX)->Option ((Gp×i6)):=λa=>bif dE (List.length ([]:List (cp))+List.length a.1.1) 56 then bif dE (List.length (bV ([]:List (cp)) a.1.1)+List.length ([a.2.1]:List (cp))) 56 then (aR (MJ.b0 a) (gS .i64 (List.length (bV (bV ([]:List (cp)) a.1.1) ([a.2.1]:List (cp))):Int) (1:Int),(bV (bV ([]:List (cp)) a.1.1) ([a.2.1]:List (cp)),()))).bind λf=>Sum.elim (λb=>(bK b.2.1 b.1).bind λ_=>(aC b.2.1 (Int.toNat b.1)).bind λg=>(some (List.set b.2.1 (Int.toNat b.1) (a.2.1.1,(a.2.1.2.1,(a.2.1.2.2.1,(a.2.1.2.2.2.1,(a.2.1.2.2.2.2.1,()))))))).bind λc=>(I3 (a.1,())).bind λe=>bif (!e.1.1) then bif dE (List.length ([]:List (cp))+List.length a.1.1) 56 then some ((bV ([]:List (cp)) a.1.1,()),((false,()),())) else none else (I3 ((c,()),())).bind λd=>bif (!d.1.1) then bif dE (List.length ([]:List (cp))+List.length a.1.1) 56 then some ((bV ([]:List (cp)) a.1.1,()),((false,()),())) else none else some ((c,()),((true,()),()))) some f else none else none
def aw6:zi:=⟨aw4,aw5,MJ⟩
def aw7:=i60
def aw8:Gs:=[VA,Ot]
def OB.b0:(a:X8)->Option (Sum X8 (Sum X8 (Gp×Ei))):=λa=>bif dO (0:Int) a.2.1 then (Sy ((a.2.2.1,(a.2.2.2.1,(a.2.2.2.2.1,()))),())).bind λb=>(MJ ((a.1,()),(b.1,()))).bind λc=>some (.inl (c.1.1,(gS .i64 a.2.1 (1:Int),(b.2.1.1,(b.2.1.2.1,(b.2.1.2.2.1,())))))) else some (.inr (.inl (a.1,(a.2.1,(a.2.2.1,(a.2.2.2.1,(a.2.2.2.2.1,())))))))
def OB:(J6×sz)->Option (Gp×Ei):=λc=>(J4 (c.1,(c.2.1,()))).bind λb=>(aR OB.b0 (([]:List (cp)),(b.1.1,(b.2.1.1,(b.2.1.2.1,(b.2.1.2.2.1,())))))).bind λd=>Sum.elim (λa=>some ((a.1,()),((a.2.2.1,(a.2.2.2.1,(a.2.2.2.2.1,()))),()))) some d
def aw9:zi:=⟨aw7,aw8,OB⟩
def ac4:Gs:=[Sf,Pw]
def ax0:=o7
def GV.b0(b:(Kz×A2)):(a:gk)->Option tm:=λa=>bif dO a.1 (List.length b.1.1:Int)then(bK b.1.1 a.1).bind λc=>bif ko c.1 b.2.1.1 then some (.inr (.inr ((true,()),())))else some (.inl (cM .i64 a.1 (1:Int),()))else some (.inr (.inl (a.1,())))
def GV:(Kz×A2)->Option i6:=λa=>(aR (GV.b0 a) ((0:Int),())).bind λb=>Sum.elim (λv3=>some ((false,()),())) some b
def ax1:zi:=⟨ac4,ax0,GV⟩
def ax2:=VJ
def ax3:=o7
def Lx:Fi->Option i6:=λa=>bif gA a.1.1 (0:Int)then bif gA a.1.2.1 (-1:Int)then some ((gA (List.length a.1.2.2.1:Int) (0:Int),()),())else some ((false,()),())else some ((false,()),())
def ax4:zi:=⟨ax2,ax3,Lx⟩
def ax5:=QH
def ax6:=o7
def VL:Fs->Option i6:=λa=>(Lx ((a.1.2.2.2.2.1,(a.1.2.2.2.2.2.1,(a.1.2.2.2.2.2.2.1,()))),())).bind λe=>bif e.1.1 then some ((true,()),())else (k8 ((a.1.2.2.2.2.1,()),(((1:Int),()),((gS .i64 a.1.2.2.1 (1:Int),()),())))).bind λd=>bif d.1.1 then (k8 ((a.1.2.2.2.2.2.1,()),(((0:Int),()),((gS .i64 a.1.1 (1:Int),()),())))).bind λb=>bif b.1.1 then (Oz ((a.1.2.2.2.2.2.2.1,()),())).bind λc=>some (c.1,())else some ((false,()),())else some ((false,()),())
def ax7:zi:=⟨ax5,ax6,VL⟩
def ax8:=Sz
def ax9:=o7
def Is:Ft->Option i6:=λa=>bif gA a.1.1 (0:Int)then bif gA (List.length a.1.2.1:Int) (0:Int)then some ((gA (List.length a.1.2.2.1:Int) (0:Int),()),())else some ((false,()),())else some ((false,()),())
def ay0:zi:=⟨ax8,ax9,Is⟩
def ay1:=QH
def ay2:=o7
def Ly.b0(a:Fs):(v4:gk)->Option tm:=λv4=>bif dO v4.1 (List.length a.1.2.2.2.2.2.2.2.2.2.1:Int)then(bK a.1.2.2.2.2.2.2.2.2.2.1 v4.1).bind λc=>(k8 (c,(((0:Int),()),((gS .i64 a.1.2.2.2.2.2.2.2.1 (1:Int),()),())))).bind λb=>bif (!b.1.1)then some (.inr (.inr ((false,()),())))else some (.inl (cM .i64 v4.1 (1:Int),()))else some (.inr (.inl (v4.1,())))
def Ly:Fs->Option i6:=λa=>(Is ((a.1.2.2.2.2.2.2.2.1,(a.1.2.2.2.2.2.2.2.2.1,(a.1.2.2.2.2.2.2.2.2.2.1,()))),())).bind λe=>bif e.1.1 then some ((true,()),())else (k8 ((a.1.2.2.2.2.2.2.2.1,()),(((1:Int),()),((gS .i64 a.1.2.2.1 (1:Int),()),())))).bind λd=>bif (!d.1.1)then some ((false,()),())else (Oz ((a.1.2.2.2.2.2.2.2.2.1,()),())).bind λc=>bif (!c.1.1)then some ((false,()),())else bif !gA (List.length a.1.2.2.2.2.2.2.2.2.2.1:Int) (List.length a.1.2.2.2.2.2.2.2.2.1:Int)then some ((false,()),())else (aR (Ly.b0 a) ((0:Int),())).bind λb=>Sum.elim (λf=>some ((true,()),())) some b
def ay3:zi:=⟨ay1,ay2,Ly⟩
def VM:Gs:=[Sf]
def ay4:=o7
def Kb.b0(b:Fh):(a:gk)->Option tm:=λa=>bif dO a.1 (List.length b.1.1:Int)then(bK b.1.1 a.1).bind λd=>(ES ((d.1,()),())).bind λf=>bif (!f.1.1)then some (.inr (.inr ((false,()),())))else (bK b.1.1 a.1).bind λh=>(k8 ((h.2.1,()),(((1:Int),()),(((1000000:Int),()),())))).bind λg=>bif (!g.1.1)then some (.inr (.inr ((false,()),())))else bif dO (0:Int) a.1 then (bK b.1.1 (gS .i64 a.1 (1:Int))).bind λc=>(bK b.1.1 a.1).bind λe=>bif !ob c.1 e.1 then some (.inr (.inr ((false,()),()))) else some (.inl (cM .i64 a.1 (1:Int),())) else some (.inl (cM .i64 a.1 (1:Int),())) else some (.inr (.inl (a.1,())))
def Kb:Fh->Option i6:=λa=>(aR (Kb.b0 a) ((0:Int),())).bind λc=>Sum.elim (λd=>(k8 (((List.length a.1.1:Int),()),(((1:Int),()),(((12:Int),()),())))).bind λb=>some (b.1,())) some c
def ay5:zi:=⟨VM,ay4,Kb⟩
def i71:=QH
def o71:=o7
def Px.b0(b:Fs):(a:gk)->Option tm:=λa=>bif dO a.1 (List.length b.1.2.2.2.2.2.2.2.2.2.2.1:Int)then(bK b.1.2.2.2.2.2.2.2.2.2.2.1 a.1).bind λd=>(QI (d,())).bind λc=>bif (!c.1.1)then some (.inr (.inr ((false,()),())))else some (.inl (cM .i64 a.1 (1:Int),()))else some (.inr (.inl (a.1,())))
def Px:Fs->Option i6:=λa=>(k8 ((a.1.1,()),(((0:Int),()),(((100000:Int),()),())))).bind λi=>bif (!i.1.1)then some ((false,()),())else (k8 ((a.1.2.1,()),(((0:Int),()),(((900:Int),()),())))).bind λg=>bif (!g.1.1)then some ((false,()),())else (k8 ((a.1.2.2.1,()),(((1:Int),()),(((10000:Int),()),())))).bind λe=>bif (!e.1.1)then some ((false,()),())else (ES ((a.1.2.2.2.1,()),())).bind λf=>bif (!f.1.1)then some ((false,()),())else (VL (a.1,())).bind λh=>bif (!h.1.1)then some ((false,()),())else (Ly (a.1,())).bind λd=>bif (!d.1.1)then some ((false,()),())else bif dO (4:Int) (List.length a.1.2.2.2.2.2.2.2.2.2.2.1:Int)then some ((false,()),())else (aR (Px.b0 a) ((0:Int),())).bind λb=>Sum.elim (λj=>bif (!a.1.2.2.2.2.2.2.2.2.2.2.2.1)then bif gA (List.length a.1.2.2.2.2.2.2.2.2.2.2.2.2.1:Int) (0:Int)then some ((ko a.1.2.2.2.2.2.2.2.2.2.2.2.2.2.1 ⟨#[]⟩,()),())else some ((false,()),())else (Kb ((a.1.2.2.2.2.2.2.2.2.2.2.2.2.1,()),())).bind λc=>bif c.1.1 then some ((gA (ByteArray.size a.1.2.2.2.2.2.2.2.2.2.2.2.2.2.1:Int) (32:Int),()),())else some ((false,()),())) some b
def c71:zi:=⟨i71,o71,Px⟩
def OC:Gs:=[Vg,DO]
def ay6:=Fu
def Gt.b0(b:GS):(a:gk)->Option IW:=λa=>bif dO a.1 (List.length b.1.1:Int)then(bK b.1.1 a.1).bind λc=>bif gA c.1 b.2.1.1 then some (.inr (.inr ((a.1,()),())))else some (.inl (cM .i64 a.1 (1:Int),()))else some (.inr (.inl (a.1,())))
def Gt:GS->Option sz:=λa=>(aR (Gt.b0 a) ((0:Int),())).bind λb=>Sum.elim (λv3=>some (((-1:Int),()),())) some b
def ay7:zi:=⟨OC,ay6,Gt⟩
def ay8:=SA
def ay9:=o7
def HG.b0(c:GR):(a:gk)->Option tm:=λa=>bif dO a.1 (List.length c.1.1:Int)then(bK c.1.1 a.1).bind λb=>Option.bind ((Px (b,())).bind λf=>bif (!f.1.1)then some (.inr (.inr (.inr ((false,()),()))))else (bK c.1.1 (0:Int)).bind λj=>bif !gA b.2.1 j.2.1 then some (.inr (.inr (.inr ((false,()),()))))else bif dO (0:Int) a.1 then (bK c.1.1 (gS .i64 a.1 (1:Int))).bind λg=>bif km b.1 g.1 then some (.inr (.inr (.inr ((false,()),())))) else some (.inl ()) else some (.inl ())) λh=>Sum.elim (λk=>(Lx ((b.2.2.2.2.1,(b.2.2.2.2.2.1,(b.2.2.2.2.2.2.1,()))),())).bind λi=>bif (!i.1.1) then bif mX a.1 (List.length c.1.1) then (Gt ((List.take ((Int.toNat a.1)-0) (List.drop 0 c.1.1),()),((b.2.2.2.2.2.1,()),()))).bind λd=>bif dO d.1.1 (0:Int) then some (.inr (.inr ((false,()),()))) else (bK c.1.1 d.1.1).bind λe=>bif !gA e.2.2.1 b.2.2.2.2.1 then some (.inr (.inr ((false,()),()))) else some (.inl (cM .i64 a.1 (1:Int),())) else none else some (.inl (cM .i64 a.1 (1:Int),()))) some h else some (.inr (.inl (a.1,())))
def HG:GR->Option i6:=λa=>(aR (HG.b0 a) ((0:Int),())).bind λb=>Sum.elim (λc=>some ((km (List.length a.1.1:Int) (400:Int),()),())) some b
def az0:zi:=⟨ay8,ay9,HG⟩
def az1:=OC
def az2:=o7
def SD:GS->Option i6:=λa=>(HG (a.1,())).bind λb=>bif b.1.1 then bif gA a.2.1.1 (-1:Int)then some ((true,()),())else (Gt (a.1,(a.2.1,()))).bind λc=>some ((km (0:Int) c.1.1,()),()) else some ((false,()),())
def az3:zi:=⟨az1,az2,SD⟩
def az4:=OC
def VN:Gs:=[aq2]
def Gu.b0(c:GS):(a:QA)->Option (Sum QA (Sum QA Io)):=λa=>bif km (0:Int) a.1 then (Gt (c.1,((a.1,()),()))).bind λb=>bif dO b.1.1 (0:Int) then some (.inr (.inr ((([]:List (D3)),()),()))) else bif dE (List.length ([b.1]:List (D3))+List.length a.2.1) 8 then (bK c.1.1 b.1.1).bind λd=>some (.inl (d.2.2.2.2.2.1,(bV ([b.1]:List (D3)) a.2.1,()))) else none else some (.inr (.inl (a.1,(a.2.1,()))))
def Gu:GS->Option Io:=λa=>(aR (Gu.b0 a) (a.2.1.1,(([]:List (D3)),()))).bind λb=>Sum.elim (λv4=>some ((v4.2.1,()),())) some b
def az5:zi:=⟨az4,VN,Gu⟩
def az6:=OC
def az7:=o7
def MK.b0(b:Io)(c:GS):(a:gk)->Option tm:=λa=>bif dO a.1 (List.length b.1.1:Int)then(bK b.1.1 a.1).bind λ_=>(aC b.1.1 (Int.toNat a.1)).bind λe=>(bK c.1.1 e.1).bind λd=>bif d.2.2.2.2.2.2.2.2.2.2.2.1 then some (.inr (.inr ((true,()),())))else some (.inl (cM .i64 a.1 (1:Int),()))else some (.inr (.inl (a.1,())))
def MK:GS->Option i6:=λa=>(Gu (a.1,(a.2.1,()))).bind λc=>(aR (MK.b0 c a) ((0:Int),())).bind λb=>Sum.elim (λd=>some ((false,()),())) some b
def az8:zi:=⟨az6,az7,MK⟩
def Yw:Gs:=[Sr,Pw]
def az9:=Fu
def It.b0(b:(HE×A2)):(a:gk)->Option IW:=λa=>bif dO a.1 (List.length b.1.1:Int)then(bK b.1.1 a.1).bind λc=>bif ko c.1 b.2.1.1 then some (.inr (.inr ((a.1,()),())))else some (.inl (cM .i64 a.1 (1:Int),()))else some (.inr (.inl (a.1,())))
def It:(HE×A2)->Option sz:=λa=>(aR (It.b0 a) ((0:Int),())).bind λb=>Sum.elim (λv3=>some (((-1:Int),()),())) some b
def aA0:zi:=⟨Yw,az9,It⟩
def aA1:=Oy
def Yx:Gs:=[aq5]
def aA2:zi:=⟨aA1,Yx,GU⟩
def aA3:=Yw
def aA4:=Yx
def ET.b0(b:(HE×A2)):(v3:Mx)->Option (Sum Mx (Sum Mx C6)):=λv3=>bif dO (0:Int) v3.1 then (bK v3.2.1 (gS .i64 v3.1 (1:Int))).bind λ_=>(aC v3.2.1 (Int.toNat (gS .i64 v3.1 (1:Int)))).bind λc=>bif !(ob c.1 b.2.1.1||ko c.1 b.2.1.1) then (bK v3.2.1 (gS .i64 v3.1 (1:Int))).bind λ_=>(aC v3.2.1 (Int.toNat (gS .i64 v3.1 (1:Int)))).bind λa=>(bK v3.2.1 v3.1).bind λ_=>(aC v3.2.1 (Int.toNat v3.1)).bind λe=>(some (List.set v3.2.1 (Int.toNat v3.1) (a.1,(a.2.1,(a.2.2.1,(a.2.2.2.1,(a.2.2.2.2.1,()))))))).bind λd=>some (.inl (gS .i64 v3.1 (1:Int),(d,()))) else some (.inr (.inl (v3.1,(v3.2.1,())))) else some (.inr (.inl (v3.1,(v3.2.1,()))))
def ET:(HE×A2)->Option C6:=λb=>(GU (b.1,())).bind λc=>(It (b.1,(b.2.1,()))).bind λf=>bif km (0:Int) f.1.1 then some (c.1,()) else bif dE (List.length c.1.1+List.length ([(⟨#[]⟩,((0:Int),((0:Int),((0:Int),([],())))))]:List (bm))) 64 then (aR (ET.b0 b) (gS .i64 (List.length (bV c.1.1 ([(⟨#[]⟩,((0:Int),((0:Int),((0:Int),([],())))))]:List (bm))):Int) (1:Int),(bV c.1.1 ([(⟨#[]⟩,((0:Int),((0:Int),((0:Int),([],())))))]:List (bm)),()))).bind λe=>Sum.elim (λa=>(bK a.2.1 a.1).bind λ_=>(aC a.2.1 (Int.toNat a.1)).bind λg=>(some (List.set a.2.1 (Int.toNat a.1) (b.2.1.1,((0:Int),((0:Int),((0:Int),([],()))))))).bind λd=>some ((d,()),())) some e else none
def aA5:zi:=⟨aA3,aA4,ET⟩
def aA6:Gs:=[VB,DO,DO]
def Yy:Gs:=[Yj]
def Lz.b0(b:(Om×Ip)):(a:(List (dT)×Iq))->Option (Sum (List (dT)×Iq) (Sum (List (dT)×Iq) MD)):=λa=>bif dO a.2.2.1 (List.length b.1.1:Int) then (bK b.1.1 a.2.2.1).bind λc=>Option.bind (bif (!a.2.1) then bif gA c.2.1 b.2.2.1.1 then some (.inl (true,(cM .i64 c.1 b.2.1.1,()))) else some (.inl (a.2.1,(c.1,()))) else some (.inl (a.2.1,(c.1,())))) λe=>Sum.elim (λv3=>Option.bind (bif (!v3.1) then bif dO b.2.2.1.1 c.2.1 then bif dE (List.length a.1+List.length ([(b.2.1.1,(b.2.2.1.1,()))]:List (dT))) 16 then some (.inl (bV a.1 ([(b.2.1.1,(b.2.2.1.1,()))]:List (dT)),(true,()))) else none else some (.inl (a.1,(v3.1,()))) else some (.inl (a.1,(v3.1,())))) λf=>Sum.elim (λd=>bif dE (List.length d.1+List.length ([(v3.2.1,(c.2.1,()))]:List (dT))) 16 then some (.inl (bV d.1 ([(v3.2.1,(c.2.1,()))]:List (dT)),(d.2.1,(cM .i64 a.2.2.1 (1:Int),())))) else none) some f) some e else some (.inr (.inl (a.1,(a.2.1,(a.2.2.1,())))))
def Lz:(Om×Ip)->Option MD:=λa=>(aR (Lz.b0 a) (([]:List (dT)),(false,((0:Int),())))).bind λd=>Sum.elim (λb=>Option.bind (bif (!b.2.1)then bif dE (List.length b.1+List.length ([(a.2.1.1,(a.2.2.1.1,()))]:List (dT))) 16 then some (.inl (bV b.1 ([(a.2.1.1,(a.2.2.1.1,()))]:List (dT)),()))else none else some (.inl (b.1,()))) λc=>Sum.elim (λe=>some ((e.1,()),())) some c) some d
def aA7:zi:=⟨aA6,Yy,Lz⟩
def aA8:=QF
def QJ:Gs:=[Yi]
def aA9:zi:=⟨aA8,QJ,Fj⟩
def aB0:Gs:=[Oq,Lq,DO]
def aB1:=QJ
def LA:(Fo×(cp×sz))->Option p5:=λa=>(Fj (a.1,())).bind λc=>(bK c.1.2.1 a.2.2.1.1).bind λ_=>(aC c.1.2.1 (Int.toNat a.2.2.1.1)).bind λy=>(aC c.1.2.1 (Int.toNat a.2.2.1.1)).bind λj=>(some (List.set c.1.2.1 (Int.toNat a.2.2.1.1) (j.1,(j.2.1,(cM .i64 y.2.2.1 (1:Int),j.2.2.2))))).bind λz4=>Option.bind (bif gA a.2.1.1 (1:Int)then (aC z4 (Int.toNat a.2.2.1.1)).bind λz=>(aC z4 (Int.toNat a.2.2.1.1)).bind λm=>(some (List.set z4 (Int.toNat a.2.2.1.1) (m.1,(gS .i64 z.2.1 a.2.1.2.2.2.1,m.2.2)))).bind λA=>(ET ((A,()),((a.2.1.2.2.1,()),()))).bind λb=>(It (b.1,((a.2.1.2.2.1,()),()))).bind λd=>(bK b.1.1 d.1.1).bind λ_=>(aC b.1.1 (Int.toNat d.1.1)).bind λr=>(bK b.1.1 d.1.1).bind λ_=>(aC b.1.1 (Int.toNat d.1.1)).bind λk=>(some (List.set b.1.1 (Int.toNat d.1.1) (k.1,(cM .i64 r.2.1 a.2.1.2.2.2.1,k.2.2)))).bind λt=>some (.inl (t,()))else bif gA a.2.1.1 (2:Int)then (aC z4 (Int.toNat a.2.2.1.1)).bind λo=>(aC z4 (Int.toNat a.2.2.1.1)).bind λl=>(some (List.set z4 (Int.toNat a.2.2.1.1) (l.1,(gS .i64 o.2.1 a.2.1.2.2.2.1,l.2.2)))).bind λh=>(aC h (Int.toNat a.2.2.1.1)).bind λn=>(aC h (Int.toNat a.2.2.1.1)).bind λg=>(some (List.set h (Int.toNat a.2.2.1.1) (g.1,(g.2.1,(g.2.2.1,(cM .i64 n.2.2.2.1 a.2.1.2.2.2.1,g.2.2.2.2)))))).bind λu=>some (.inl (u,()))else (aC z4 (Int.toNat a.2.2.1.1)).bind λx=>(aC z4 (Int.toNat a.2.2.1.1)).bind λe=>(some (List.set z4 (Int.toNat a.2.2.1.1) (e.1,(e.2.1,(e.2.2.1,(gS .i64 x.2.2.2.1 a.2.1.2.2.2.1,e.2.2.2.2)))))).bind λi=>(aC i (Int.toNat a.2.2.1.1)).bind λs=>(Lz ((s.2.2.2.2.1,()),((a.2.1.2.2.2.1,()),((cM .i64 a.1.1 (2:Int),()),())))).bind λp=>(aC i (Int.toNat a.2.2.1.1)).bind λf=>(some (List.set i (Int.toNat a.2.2.1.1) (f.1,(f.2.1,(f.2.2.1,(f.2.2.2.1,(p.1.1,()))))))).bind λw=>some (.inl (w,()))) λq=>Sum.elim (λv=>some ((c.1.1,(v.1,())),())) some q
def aB2:zi:=⟨aB0,aB1,LA⟩
def ac5:Gs:=[Oq,Lq]
def ac6:Gs:=[Oq,DO]
def A3:(Fo×IX)->Option ((Fo×sz)):=λa=>(Fj (a.1,())).bind λb=>(Sh (a.1,())).bind λj=>bif (!j.1.1)then some (b.1,(((1:Int),()),()))else (QI (a.2.1,())).bind λf=>bif (!f.1.1)then some (b.1,(((1:Int),()),()))else (It ((a.1.2.1,()),((a.2.1.2.1,()),()))).bind λc=>bif dO c.1.1 (0:Int)then some (b.1,(((2:Int),()),()))else (bK a.1.2.1 c.1.1).bind λd=>Option.bind (bif gA a.2.1.1 (3:Int)then some (.inl (d.2.2.2.1,()))else some (.inl (d.2.1,()))) λh=>Sum.elim (λg=>bif !gA d.2.2.1 a.2.1.2.2.2.2.1 then some (b.1,(((3:Int),()),())) else bif dO g.1 a.2.1.2.2.2.1 then some (b.1,(((4:Int),()),())) else (LA (a.1,(a.2.1,(c.1,())))).bind λe=>(Sh (e.1,())).bind λi=>bif (!i.1.1) then some (b.1,(((5:Int),()),())) else some (e.1,(((0:Int),()),()))) some h
def aB3:zi:=⟨ac5,ac6,A3⟩
def Yz:Gs:=[Oq,Ow]
def aB4:=ac6
def Fv.b0(c:(Fo×Fg)):(a:(Int×ER))->Option aa8:=λa=>bif dO a.2.1 (List.length c.2.1.1:Int)then(bK c.2.1.1 a.2.1).bind λd=>(A3 ((a.2.2.1,(a.2.2.2.1,())),(d,()))).bind λb=>bif gA b.2.1.1 (0:Int)then some (.inl (cM .i64 a.1 (1:Int),(cM .i64 a.2.1 (1:Int),(b.1.1,(b.1.2.1,())))))else some (.inl (a.1,(cM .i64 a.2.1 (1:Int),(a.2.2.1,(a.2.2.2.1,())))))else some (.inr (.inl (a.1,(a.2.1,(a.2.2.1,(a.2.2.2.1,()))))))
def Fv:(Fo×Fg)->Option ((Fo×sz)):=λb=>(Fj (b.1,())).bind λc=>(aR (Fv.b0 b) ((0:Int),((0:Int),(c.1.1,(c.1.2.1,()))))).bind λd=>Sum.elim (λa=>some ((a.2.2.1,(a.2.2.2.1,())),((a.1,()),()))) some d
def aB5:zi:=⟨Yz,aB4,Fv⟩
def aB6:Gs:=[Oq,Vg,DO]
def aB7:=QF
def ML.b0(a:Io)(c:(Fo×GS)):(v3:ER)->Option (Sum ER (Sum ER p5)):=λv3=>bif dO v3.1 (List.length a.1.1:Int)then (bK a.1.1 v3.1).bind λ_=>(aC a.1.1 (Int.toNat v3.1)).bind λd=>(bK c.2.1.1 d.1).bind λe=>(Fv ((v3.2.1,(v3.2.2.1,())),((e.2.2.2.2.2.2.2.2.2.2.1,()),()))).bind λb=>some (.inl (cM .i64 v3.1 (1:Int),(b.1.1,(b.1.2.1,()))))else some (.inr (.inl (v3.1,(v3.2.1,(v3.2.2.1,())))))
def ML:(Fo×GS)->Option p5:=λa=>(Fj (a.1,())).bind λc=>(Gu (a.2.1,(a.2.2.1,()))).bind λe=>(aR (ML.b0 e a) ((0:Int),(c.1.1,(c.1.2.1,())))).bind λd=>Sum.elim (λb=>some ((b.2.1,(b.2.2.1,())),())) some d
def aB8:zi:=⟨aB6,aB7,ML⟩
def aB9:=QF
def aC0:=QJ
def p6.b1(v3:Mx)(j:p5):(v4:(List (dT)×Mx))->Option aa6:=λv4=>(aC v4.2.2.1 (Int.toNat v3.1)).bind λi=>bif dO v4.2.1 (List.length i.2.2.2.2.1:Int)then (aC v4.2.2.1 (Int.toNat v3.1)).bind λg=>(bK g.2.2.2.2.1 v4.2.1).bind λh=>bif km h.2.1 (cM .i64 j.1.1 (1:Int))then (aC v4.2.2.1 (Int.toNat v3.1)).bind λf=>(aC v4.2.2.1 (Int.toNat v3.1)).bind λk=>(bK k.2.2.2.2.1 v4.2.1).bind λe=>(aC v4.2.2.1 (Int.toNat v3.1)).bind λa=>(some (List.set v4.2.2.1 (Int.toNat v3.1) (a.1,(cM .i64 f.2.1 e.1,a.2.2)))).bind λd=>some (.inl (v4.1,(cM .i64 v4.2.1 (1:Int),(d,()))))else (aC v4.2.2.1 (Int.toNat v3.1)).bind λc=>(bK c.2.2.2.2.1 v4.2.1).bind λb=>bif dE (List.length v4.1+List.length ([b]:List (dT))) 16 then some (.inl (bV v4.1 ([b]:List (dT)),(cM .i64 v4.2.1 (1:Int),(v4.2.2.1,()))))else none else some (.inr (.inl (v4.1,(v4.2.1,(v4.2.2.1,())))))
def p6.b0(e:p5):(v3:Mx)->Option (Sum Mx (Sum Mx p5)):=λv3=>bif dO v3.1 (List.length v3.2.1:Int)then (bK v3.2.1 v3.1).bind λ_=>(aR (p6.b1 v3 e) (([]:List (dT)),((0:Int),(v3.2.1,())))).bind λc=>Sum.elim (λb=>(aC b.2.2.1 (Int.toNat v3.1)).bind λa=>(some (List.set b.2.2.1 (Int.toNat v3.1) (a.1,(a.2.1,(a.2.2.1,(a.2.2.2.1,(b.1,()))))))).bind λd=>some (.inl (cM .i64 v3.1 (1:Int),(d,())))) some c else some (.inr (.inl (v3.1,(v3.2.1,()))))
def p6:p5->Option p5:=λa=>(Fj (a.1,())).bind λc=>(Sh (a.1,())).bind λg=>bif (!g.1.1)then some (c.1,())else (aR (p6.b0 a) ((0:Int),(c.1.2.1,()))).bind λf=>Sum.elim (λb=>(Sh ((cM .i64 a.1.1 (1:Int),(b.2.1,())),())).bind λd=>bif (!d.1.1)then (Fj (a.1,())).bind λe=>some (e.1,())else some ((cM .i64 a.1.1 (1:Int),(b.2.1,())),())) some f
def aC1:zi:=⟨aB9,aC0,p6⟩
def i31:=QF
def o31:=o69
def Z1:p5->Option Fh:=λa=>(Sh (a.1,())).bind λb=>bif (!b.1.1)then some ((([]:List (e6)),()),())else (Vh (a.1,())).bind λc=>some (c.1,())
def c31:zi:=⟨i31,o31,Z1⟩
def aC2:=i27
def YA:Gs:=[aq3]
def HH.b0:(a:Il)->Option (Sum Il (Sum Il F5)):=λa=>bif dO (127:Int) a.2.1 then bif dE (List.length a.1+List.length ([(IntKind.wrap .u8 (BS .i64 (sS .i64 a.2.1 (127:Int)) (128:Int)),())]:List (D5))) 1 then bif dO (7:Int) 0 then none else some (.inl (bV a.1 ([(IntKind.wrap .u8 (BS .i64 (sS .i64 a.2.1 (127:Int)) (128:Int)),())]:List (D5)),(zL .i64 a.2.1 (7:Int),()))) else none else some (.inr (.inl (a.1,(a.2.1,()))))
def HH:(On×sz)->Option F5:=λb=>bif dE (List.length ([]:List (D5))+List.length b.1.1) 1 then Option.bind (bif dO (1000000000:Int) b.2.1.1 then some (.inl ((1000000000:Int),())) else some (.inl (b.2.1.1,()))) λf=>Sum.elim (λc=>Option.bind (bif dO c.1 (-1000000000:Int) then some (.inl ((-1000000000:Int),())) else some (.inl (c.1,()))) λd=>Sum.elim (λv3=>Option.bind (bif dO v3.1 (0:Int) then some (.inl (gS .i64 (zJ .i64 (-2:Int) v3.1) (1:Int),())) else some (.inl (zJ .i64 (2:Int) v3.1,()))) λh=>Sum.elim (λg=>(aR HH.b0 (bV ([]:List (D5)) b.1.1,(g.1,()))).bind λe=>Sum.elim (λa=>bif dE (List.length a.1+List.length ([(IntKind.wrap .u8 a.2.1,())]:List (D5))) 1 then some ((bV a.1 ([(IntKind.wrap .u8 a.2.1,())]:List (D5)),()),()) else none) some e) some h) some d) some f else none
def aC3:zi:=⟨aC2,YA,HH⟩
def aC4:Gs:=[Vw,Pw]
def aC5:=YA
def VO:(On×A2)->Option F5:=λa=>(HH (a.1,(((ByteArray.size a.2.1.1:Int),()),()))).bind λb=>bif dE (List.length b.1.1+List.length (eo a.2.1.1)) 1 then some ((bV b.1.1 (eo a.2.1.1),()),())else none
def aC6:zi:=⟨aC4,aC5,VO⟩
def aC7:=VE
def aC8:=Ir
def OD.b0(b:GQ):(a:Il)->Option (Sum Il (Sum Il A2)):=λa=>bif dO a.2.1 (List.length b.1.2.2.2.2.1:Int)then (bK b.1.2.2.2.2.1 a.2.1).bind λd=>(HH ((a.1,()),((d.1,()),()))).bind λe=>(bK b.1.2.2.2.2.1 a.2.1).bind λf=>(HH (e.1,((f.2.1,()),()))).bind λc=>some (.inl (c.1.1,(cM .i64 a.2.1 (1:Int),())))else some (.inr (.inl (a.1,(a.2.1,()))))
def OD:GQ->Option A2:=λa=>(VO ((([]:List (D5)),()),((a.1.1,()),()))).bind λh=>(HH (h.1,((a.1.2.1,()),()))).bind λf=>(HH (f.1,((a.1.2.2.1,()),()))).bind λd=>(HH (d.1,((a.1.2.2.2.1,()),()))).bind λe=>(HH (e.1,(((List.length a.1.2.2.2.2.1:Int),()),()))).bind λg=>(aR (OD.b0 a) (g.1.1,((0:Int),()))).bind λb=>Sum.elim (λc=>some ((bQ c.1,()),())) some b
def aC9:zi:=⟨aC7,aC8,OD⟩
def aD0:=i7
def aD1:=YA
def Kc.b0:(a:(List (D5)×Unit))->Option (Sum (List (D5)×Unit) (Sum (List (D5)×Unit) F5)):=λa=>bif gA (64:Int) 0 then none else bif !gA (ph (List.length a.1:Int) (64:Int)) (56:Int) then bif dE (List.length a.1+List.length ([((0:Int),())]:List (D5))) 1 then some (.inl (bV a.1 ([((0:Int),())]:List (D5)),())) else none else some (.inr (.inl (a.1,())))
def Kc.b1(a:F5):(v4:Il)->Option (Sum Il (Sum Il F5)):=λv4=>bif km (0:Int) v4.2.1 then bif dO (IntKind.wrap .u64 v4.2.1) 0 then none else bif dE (List.length v4.1+List.length ([(IntKind.wrap .u8 (zL .i64 (zJ .i64 (List.length a.1.1:Int) (8:Int)) (IntKind.wrap .u64 v4.2.1)),())]:List (D5))) 1 then some (.inl (bV v4.1 ([(IntKind.wrap .u8 (zL .i64 (zJ .i64 (List.length a.1.1:Int) (8:Int)) (IntKind.wrap .u64 v4.2.1)),())]:List (D5)),(gS .i64 v4.2.1 (8:Int),()))) else none else some (.inr (.inl (v4.1,(v4.2.1,()))))
def Kc:F5->Option F5:=λa=>bif dE (List.length ([]:List (D5))+List.length a.1.1) 1 then bif dE (List.length (bV ([]:List (D5)) a.1.1)+List.length ([((128:Int),())]:List (D5))) 1 then (aR Kc.b0 (bV (bV ([]:List (D5)) a.1.1) ([((128:Int),())]:List (D5)),())).bind λc=>Sum.elim (λb=>(aR (Kc.b1 a) (b.1,((56:Int),()))).bind λe=>Sum.elim (λd=>some ((d.1,()),())) some e) some c else none else none
def aD2:zi:=⟨aD0,aD1,Kc⟩
def aD3:Gs:=[]
def aD4:=VN
def ac7:Unit->Option Io:=λa=>some ((([((1116352408:Int),()),((1899447441:Int),()),((3049323471:Int),()),((3921009573:Int),()),((961987163:Int),()),((1508970993:Int),()),((2453635748:Int),()),((2870763221:Int),()),((3624381080:Int),()),((310598401:Int),()),((607225278:Int),()),((1426881987:Int),()),((1925078388:Int),()),((2162078206:Int),()),((2614888103:Int),()),((3248222580:Int),()),((3835390401:Int),()),((4022224774:Int),()),((264347078:Int),()),((604807628:Int),()),((770255983:Int),()),((1249150122:Int),()),((1555081692:Int),()),((1996064986:Int),()),((2554220882:Int),()),((2821834349:Int),()),((2952996808:Int),()),((3210313671:Int),()),((3336571891:Int),()),((3584528711:Int),()),((113926993:Int),()),((338241895:Int),()),((666307205:Int),()),((773529912:Int),()),((1294757372:Int),()),((1396182291:Int),()),((1695183700:Int),()),((1986661051:Int),()),((2177026350:Int),()),((2456956037:Int),()),((2730485921:Int),()),((2820302411:Int),()),((3259730800:Int),()),((3345764771:Int),()),((3516065817:Int),()),((3600352804:Int),()),((4094571909:Int),()),((275423344:Int),()),((430227734:Int),()),((506948616:Int),()),((659060556:Int),()),((883997877:Int),()),((958139571:Int),()),((1322822218:Int),()),((1537002063:Int),()),((1747873779:Int),()),((1955562222:Int),()),((2024104815:Int),()),((2227730452:Int),()),((2361852424:Int),()),((2428436474:Int),()),((2756734187:Int),()),((3204031479:Int),()),((3329325298:Int),())]:List (D3)),()),())
def aD5:zi:=⟨aD3,aD4,ac7⟩
def ac8:Gs:=[DO,DO]
def aD6:=Fu
def HI:Ip->Option sz:=λa=>bif dO (IntKind.wrap .u64 a.2.1.1) 0 then none else bif dO (IntKind.wrap .u64 (gS .i64 (32:Int) a.2.1.1)) 0 then none else some ((sS .i64 (BS .i64 (zL .i64 a.1.1 (IntKind.wrap .u64 a.2.1.1)) (zK .i64 a.1.1 (IntKind.wrap .u64 (gS .i64 (32:Int) a.2.1.1)))) (4294967295:Int),()),())
def aD7:zi:=⟨ac8,aD6,HI⟩
def aD8:=i7
def aD9:=VN
def Kd.b0(b:F5):(a:Sq)->Option Yd:=λa=>bif dO a.2.1 (16:Int)then(bK b.1.1 (zJ .i64 (4:Int) a.2.1)).bind λc=>bif dO (24:Int) 0 then none else (bK b.1.1 (cM .i64 (zJ .i64 (4:Int) a.2.1) (1:Int))).bind λe=>bif dO (16:Int) 0 then none else (bK b.1.1 (cM .i64 (zJ .i64 (4:Int) a.2.1) (2:Int))).bind λd=>bif dO (8:Int) 0 then none else (bK b.1.1 (cM .i64 (zJ .i64 (4:Int) a.2.1) (3:Int))).bind λf=>bif dE (List.length a.1+List.length ([(BS .i64 (BS .i64 (BS .i64 (zK .i64 (IntKind.wrap .i64 c.1) (24:Int)) (zK .i64 (IntKind.wrap .i64 e.1) (16:Int))) (zK .i64 (IntKind.wrap .i64 d.1) (8:Int))) (IntKind.wrap .i64 f.1),())]:List (D3))) 8 then some (.inl (bV a.1 ([(BS .i64 (BS .i64 (BS .i64 (zK .i64 (IntKind.wrap .i64 c.1) (24:Int)) (zK .i64 (IntKind.wrap .i64 e.1) (16:Int))) (zK .i64 (IntKind.wrap .i64 d.1) (8:Int))) (IntKind.wrap .i64 f.1),())]:List (D3)),(cM .i64 a.2.1 (1:Int),()))) else none else some (.inr (.inl (a.1,(a.2.1,()))))
def Kd.b1:(a:Sq)->Option Yd:=λa=>bif dO a.2.1 (64:Int)then(bK a.1 (gS .i64 a.2.1 (15:Int))).bind λ_=>(aC a.1 (Int.toNat (gS .i64 a.2.1 (15:Int)))).bind λc=>(bK a.1 (gS .i64 a.2.1 (2:Int))).bind λ_=>(aC a.1 (Int.toNat (gS .i64 a.2.1 (2:Int)))).bind λb=>(HI (c,(((7:Int),()),()))).bind λd=>(HI (c,(((18:Int),()),()))).bind λh=>bif dO (3:Int) 0 then none else (HI (b,(((17:Int),()),()))).bind λg=>(HI (b,(((19:Int),()),()))).bind λe=>bif dO (10:Int) 0 then none else (bK a.1 (gS .i64 a.2.1 (16:Int))).bind λ_=>(aC a.1 (Int.toNat (gS .i64 a.2.1 (16:Int)))).bind λi=>(bK a.1 (gS .i64 a.2.1 (7:Int))).bind λ_=>(aC a.1 (Int.toNat (gS .i64 a.2.1 (7:Int)))).bind λf=>bif dE (List.length a.1+List.length ([(sS .i64 (cM .i64 (cM .i64 (cM .i64 i.1 (qC .i64 (qC .i64 d.1.1 h.1.1) (zL .i64 c.1 (3:Int)))) f.1) (qC .i64 (qC .i64 g.1.1 e.1.1) (zL .i64 b.1 (10:Int)))) (4294967295:Int),())]:List (D3))) 8 then some (.inl (bV a.1 ([(sS .i64 (cM .i64 (cM .i64 (cM .i64 i.1 (qC .i64 (qC .i64 d.1.1 h.1.1) (zL .i64 c.1 (3:Int)))) f.1) (qC .i64 (qC .i64 g.1.1 e.1.1) (zL .i64 b.1 (10:Int)))) (4294967295:Int),())]:List (D3)),(cM .i64 a.2.1 (1:Int),()))) else none else some (.inr (.inl (a.1,(a.2.1,()))))
def Kd:F5->Option Io:=λe=>(aR (Kd.b0 e) (([]:List (D3)),((0:Int),()))).bind λd=>Sum.elim (λc=>(aR Kd.b1 (c.1,((16:Int),()))).bind λb=>Sum.elim (λa=>some ((a.1,()),())) some b) some d
def aE0:zi:=⟨aD8,aD9,Kd⟩
def aE1:Gs:=[Lr,Vw,Lr]
def aE2:=VN
def Ke.b0(y:(J9×(On×Io)))(j:Io):(a:Sq)->Option Yd:=λa=>bif dO a.2.1 (64:Int)then(bK a.1 (4:Int)).bind λ_=>(aC a.1 (Int.toNat (4:Int))).bind λb=>(HI (b,(((6:Int),()),()))).bind λi=>(HI (b,(((11:Int),()),()))).bind λl=>(HI (b,(((25:Int),()),()))).bind λf=>(bK a.1 (5:Int)).bind λ_=>(aC a.1 (Int.toNat (5:Int))).bind λk=>(bK a.1 (6:Int)).bind λ_=>(aC a.1 (Int.toNat (6:Int))).bind λh=>(bK a.1 (7:Int)).bind λ_=>(aC a.1 (Int.toNat (7:Int))).bind λg=>(bK y.2.2.1.1 a.2.1).bind λd=>(bK j.1.1 a.2.1).bind λ_=>(aC j.1.1 (Int.toNat a.2.1)).bind λe=>(bK a.1 (0:Int)).bind λ_=>(aC a.1 (Int.toNat (0:Int))).bind λc=>(HI (c,(((2:Int),()),()))).bind λs=>(HI (c,(((13:Int),()),()))).bind λu=>(HI (c,(((22:Int),()),()))).bind λv=>(bK a.1 (1:Int)).bind λ_=>(aC a.1 (Int.toNat (1:Int))).bind λm=>(bK a.1 (2:Int)).bind λ_=>(aC a.1 (Int.toNat (2:Int))).bind λx=>(bK a.1 (1:Int)).bind λ_=>(aC a.1 (Int.toNat (1:Int))).bind λn=>(bK a.1 (2:Int)).bind λ_=>(aC a.1 (Int.toNat (2:Int))).bind λw=>(bK a.1 (1:Int)).bind λ_=>(aC a.1 (Int.toNat (1:Int))).bind λq=>(bK a.1 (2:Int)).bind λ_=>(aC a.1 (Int.toNat (2:Int))).bind λp=>(bK a.1 (3:Int)).bind λ_=>(aC a.1 (Int.toNat (3:Int))).bind λr=>(bK a.1 (5:Int)).bind λ_=>(aC a.1 (Int.toNat (5:Int))).bind λo=>(bK a.1 (6:Int)).bind λ_=>(aC a.1 (Int.toNat (6:Int))).bind λt=>some (.inl (([(sS .i64 (cM .i64 (cM .i64 (cM .i64 (cM .i64 (cM .i64 g.1 (qC .i64 (qC .i64 i.1.1 l.1.1) f.1.1)) (qC .i64 (sS .i64 b.1 k.1) (sS .i64 (qC .i64 (4294967295:Int) b.1) h.1))) d.1) e.1) (cM .i64 (qC .i64 (qC .i64 s.1.1 u.1.1) v.1.1) (qC .i64 (qC .i64 (sS .i64 c.1 m.1) (sS .i64 c.1 x.1)) (sS .i64 n.1 w.1)))) (4294967295:Int),()),c,q,p,(sS .i64 (cM .i64 r.1 (cM .i64 (cM .i64 (cM .i64 (cM .i64 g.1 (qC .i64 (qC .i64 i.1.1 l.1.1) f.1.1)) (qC .i64 (sS .i64 b.1 k.1) (sS .i64 (qC .i64 (4294967295:Int) b.1) h.1))) d.1) e.1)) (4294967295:Int),()),b,o,t]:List (D3)),(cM .i64 a.2.1 (1:Int),()))) else some (.inr (.inl (a.1,(a.2.1,()))))
def Ke.b1(e:(J9×(On×Io))):(a:QA)->Option (Sum QA (Sum QA Io)):=λa=>bif dO a.1 (8:Int)then (bK a.2.1 a.1).bind λ_=>(aC a.2.1 (Int.toNat a.1)).bind λc=>(bK e.1.1 a.1).bind λb=>(bK a.2.1 a.1).bind λ_=>(aC a.2.1 (Int.toNat a.1)).bind λf=>(some (List.set a.2.1 (Int.toNat a.1) (sS .i64 (cM .i64 c.1 b.1) (4294967295:Int),()))).bind λd=>some (.inl (cM .i64 a.1 (1:Int),(d,())))else some (.inr (.inl (a.1,(a.2.1,()))))
def Ke:(J9×(On×Io))->Option Io:=λa=>(Kd (a.2.1,())).bind λf=>bif dE (List.length ([]:List (D3))+List.length a.1.1) 8 then (aR (Ke.b0 a f) (bV ([]:List (D3)) a.1.1,((0:Int),()))).bind λd=>Sum.elim (λc=>(aR (Ke.b1 a) ((0:Int),(c.1,()))).bind λb=>Sum.elim (λe=>some ((e.2.1,()),())) some b) some d else none
def aE3:zi:=⟨aE1,aE2,Ke⟩
def aE4:=i7
def aE5:=Ir
def Iu.b0(b:Io):(v3:Vt)->Option (Sum Vt (Sum Vt A2)):=λv3=>bif dO v3.2.1 (List.length v3.2.2.1:Int)then bif wq v3.2.1 (cM .i64 v3.2.1 (64:Int)) (List.length v3.2.2.1)then (Ke ((v3.1,()),((List.take ((Int.toNat (cM .i64 v3.2.1 (64:Int)))-(Int.toNat v3.2.1)) (List.drop (Int.toNat v3.2.1) v3.2.2.1),()),(b.1,())))).bind λa=>some (.inl (a.1.1,(cM .i64 v3.2.1 (64:Int),(v3.2.2.1,())))) else none else some (.inr (.inl (v3.1,(v3.2.1,(v3.2.2.1,())))))
def Iu.b1(b:Vt):(a:Il)->Option (Sum Il (Sum Il A2)):=λa=>bif dO a.2.1 (8:Int)then (bK b.1 a.2.1).bind λ_=>(aC b.1 (Int.toNat a.2.1)).bind λe=>bif dO (24:Int) 0 then none else (bK b.1 a.2.1).bind λ_=>(aC b.1 (Int.toNat a.2.1)).bind λf=>bif dO (16:Int) 0 then none else (bK b.1 a.2.1).bind λ_=>(aC b.1 (Int.toNat a.2.1)).bind λd=>bif dO (8:Int) 0 then none else (bK b.1 a.2.1).bind λ_=>(aC b.1 (Int.toNat a.2.1)).bind λc=>bif dE (List.length a.1+List.length ([(IntKind.wrap .u8 (zL .i64 e.1 (24:Int)),()),(IntKind.wrap .u8 (zL .i64 f.1 (16:Int)),()),(IntKind.wrap .u8 (zL .i64 d.1 (8:Int)),()),(IntKind.wrap .u8 c.1,())]:List (D5))) 1 then some (.inl (bV a.1 ([(IntKind.wrap .u8 (zL .i64 e.1 (24:Int)),()),(IntKind.wrap .u8 (zL .i64 f.1 (16:Int)),()),(IntKind.wrap .u8 (zL .i64 d.1 (8:Int)),()),(IntKind.wrap .u8 c.1,())]:List (D5)),(cM .i64 a.2.1 (1:Int),())))else none else some (.inr (.inl (a.1,(a.2.1,()))))
def Iu:F5->Option A2:=λe=>(Kc (e.1,())).bind λc=>(ac7 ()).bind λg=>(aR (Iu.b0 g) (([((1779033703:Int),()),((3144134277:Int),()),((1013904242:Int),()),((2773480762:Int),()),((1359893119:Int),()),((2600822924:Int),()),((528734635:Int),()),((1541459225:Int),())]:List (D3)),((0:Int),(c.1.1,())))).bind λf=>Sum.elim (λd=>(aR (Iu.b1 d) (([]:List (D5)),((0:Int),()))).bind λa=>Sum.elim (λb=>some ((bQ b.1,()),())) some a) some f
def aE6:zi:=⟨aE4,aE5,Iu⟩
def aE7:=Ir
def aE8:=Ir
def VP:A2->Option A2:=λa=>bif dE (List.length ([((0:Int),())]:List (D5))+List.length (eo a.1.1)) 1 then (Iu ((bV ([((0:Int),())]:List (D5)) (eo a.1.1),()),())).bind λb=>some (b.1,())else none
def aE9:zi:=⟨aE7,aE8,VP⟩
def aF0:=Fu
def aF1:=Fu
def OE.b0(b:sz):(a:gk)->Option IW:=λa=>bif dO (zJ .i64 (2:Int) a.1) b.1.1 then some (.inl (zJ .i64 (2:Int) a.1,())) else some (.inr (.inl (a.1,())))
def OE:sz->Option sz:=λa=>(aR (OE.b0 a) ((1:Int),())).bind λc=>Sum.elim (λb=>some ((b.1,()),())) some c
def aF2:zi:=⟨aF0,aF1,OE⟩
def ac9:Gs:=[Pw,Pw]
def aF3:=Ir
def VQ:(MC×A2)->Option A2:=λa=>bif dE (List.length ([((1:Int),())]:List (D5))+List.length (eo a.1.1)) 1 then bif dE (List.length (bV ([((1:Int),())]:List (D5)) (eo a.1.1))+List.length (eo a.2.1.1)) 1 then (Iu ((bV (bV ([((1:Int),())]:List (D5)) (eo a.1.1)) (eo a.2.1.1),()),())).bind λb=>some (b.1,())else none else none
def aF4:zi:=⟨ac9,aF3,VQ⟩
def ad0:=i70
def ad1:=Ir
def SE:(MB->Option A2)->MB->Option A2:=λr a=>bif gA (List.length a.1.1:Int) (0:Int)then (Iu ((([]:List (D5)),()),())).bind λh=>some (h.1,())else bif gA (List.length a.1.1:Int) (1:Int)then (bK a.1.1 (0:Int)).bind λd=>(VP (d,())).bind λe=>some (e.1,())else (OE (((List.length a.1.1:Int),()),())).bind λb=>bif mX b.1.1 (List.length a.1.1)then (r ((List.take ((Int.toNat b.1.1)-0) (List.drop 0 a.1.1),()),())).bind λf=>bif mX b.1.1 (List.length a.1.1)then (r ((List.take ((List.length a.1.1)-(Int.toNat b.1.1)) (List.drop (Int.toNat b.1.1) a.1.1),()),())).bind λc=>(VQ (f.1,(c.1,()))).bind λg=>some (g.1,()) else none else none
def MM:Nat->MB->Option A2|0=>λ_=>none|k+1=>SE (MM k)
def YB:MB->Option A2:=sY MM
def aF5:zi:=⟨ad0,ad1,YB⟩
def aF6(k:Nat):zi:=⟨ad0,ad1,MM k⟩
def aF7:=i70
def aF8:=Ir
def VR:MB->Option A2:=λa=>bif dO (64:Int) (List.length a.1.1:Int)then some ((⟨#[]⟩,()),())else (YB (a.1,())).bind λb=>some (b.1,())
def aF9:zi:=⟨aF7,aF8,VR⟩
def aG0:=QF
def aG1:=Ir
def MN.b0(c:p5):(a:(List (D9)×gk))->Option (Sum (List (D9)×gk) (Sum (List (D9)×gk) A2)):=λa=>bif dO a.2.1 (List.length c.1.2.1:Int) then (bK c.1.2.1 a.2.1).bind λd=>(OD (d,())).bind λb=>bif dE (List.length a.1+List.length ([b.1]:List (D9))) 16 then some (.inl (bV a.1 ([b.1]:List (D9)),(cM .i64 a.2.1 (1:Int),()))) else none else some (.inr (.inl (a.1,(a.2.1,()))))
def MN:p5->Option A2:=λa=>(Sh (a.1,())).bind λe=>bif (!e.1.1)then some ((⟨#[]⟩,()),())else (aR (MN.b0 a) (([]:List (D9)),((0:Int),()))).bind λc=>Sum.elim (λb=>(VR ((b.1,()),())).bind λd=>some (d.1,())) some c
def aG2:zi:=⟨aG0,aG1,MN⟩
def aG3:Gs:=[Oq,Vg,DO,Ow]
def aG4:Gs:=[VA,QE,aa9,Pw]
def LB.b0(a:(Fo×(Qy×(gk×Fg)))):(v4:(List (cp)×ER))->Option (Sum (List (cp)×ER) (Sum (List (cp)×ER) ((Gp×(HF×(Kz×A2)))))):=λv4=>bif dO v4.2.1 (List.length a.2.2.2.1.1:Int)then bif dO (List.length v4.1:Int) (4:Int)then (bK a.2.2.2.1.1 v4.2.1).bind λd=>(A3 ((v4.2.2.1,(v4.2.2.2.1,())),(d,()))).bind λb=>bif gA b.2.1.1 (0:Int)then (bK a.2.2.2.1.1 v4.2.1).bind λc=>bif dE (List.length v4.1+List.length ([c]:List (cp))) 56 then some (.inl (bV v4.1 ([c]:List (cp)),(cM .i64 v4.2.1 (1:Int),(b.1.1,(b.1.2.1,())))))else none else some (.inl (v4.1,(cM .i64 v4.2.1 (1:Int),(v4.2.2.1,(v4.2.2.2.1,())))))else some (.inr (.inl (v4.1,(v4.2.1,(v4.2.2.1,(v4.2.2.2.1,()))))))else some (.inr (.inl (v4.1,(v4.2.1,(v4.2.2.1,(v4.2.2.2.1,()))))))
def LB:(Fo×(Qy×(gk×Fg)))->Option ((Gp×(HF×(Kz×A2)))):=λa=>(SD (a.2.1,(a.2.2.1,()))).bind λj=>bif (!j.1.1)then some ((([]:List (cp)),()),((false,()),((([]:List (e6)),()),((⟨#[]⟩,()),()))))else (MK (a.2.1,(a.2.2.1,()))).bind λi=>bif i.1.1 then some ((([]:List (cp)),()),((false,()),((([]:List (e6)),()),((⟨#[]⟩,()),()))))else (ML (a.1,(a.2.1,(a.2.2.1,())))).bind λd=>(aR (LB.b0 a) (([]:List (cp)),((0:Int),(d.1.1,(d.1.2.1,()))))).bind λh=>Sum.elim (λb=>(Gu (a.2.1,(a.2.2.1,()))).bind λe=>bif !gA (List.length e.1.1:Int) (1:Int)then some ((b.1,()),((false,()),((([]:List (e6)),()),((⟨#[]⟩,()),()))))else (p6 ((b.2.2.1,(b.2.2.2.1,())),())).bind λc=>(Z1 (c.1,())).bind λg=>(MN (c.1,())).bind λf=>some ((b.1,()),((true,()),(g.1,(f.1,()))))) some h
def aG5:zi:=⟨aG3,aG4,LB⟩
def aG6:Gs:=[Su,DO]
def aG7:=ac2
def QK:(Fq×sz)->Option Fs:=λa=>(Gr ((a.1.2.2.2.2.2.2.2.2.1,(a.1.2.2.2.2.2.2.2.2.2.1,(a.1.2.2.2.2.2.2.2.2.2.2.1,()))),())).bind λd=>Option.bind (bif !gA a.1.2.2.2.2.2.2.2.2.1 (gS .i64 a.1.2.2.2.2.2.2.1 (1:Int))then (I0 ((a.1.2.2.2.2.2.2.2.2.2.2.2.1,(a.1.2.2.2.2.2.2.2.2.2.2.2.2.1,(a.1.2.2.2.2.2.2.2.2.2.2.2.2.2.1,()))),())).bind λc=>some (.inl (c.1.1,(c.1.2.1,(c.1.2.2.1,()))))else some (.inl ((0:Int),([],([],()))))) λe=>Sum.elim (λv3=>(LB ((a.1.2.2.1,(a.1.2.2.2.1,())),((a.1.2.2.2.2.2.1,()),((a.1.2.2.2.2.2.2.2.2.2.1,()),((a.1.2.2.2.2.2.2.2.2.2.2.2.2.2.2.2.2.2.2.1,()),()))))).bind λb=>some ((a.2.1.1,(a.1.2.1,(a.1.2.2.2.2.2.2.1,(a.1.1,(d.1.1,(d.1.2.1,(d.1.2.2.1,(v3.1,(v3.2.1,(v3.2.2.1,(b.1.1,(b.2.1.1,(b.2.2.1.1,(b.2.2.2.1.1,())))))))))))))),())) some e
def aG8:zi:=⟨aG6,aG7,QK⟩
def ad2:Gs:=[Ot,Yk]
def aG9:Gs:=[Yl,Ot,Yk]
def OF.b0(c:zd)(d:D9):(a:(List (D5)×(Int×te)))->Option (Sum (List (D5)×(Int×te)) (Sum (List (D5)×(Int×te)) (Sum (List (D5)×(Int×(Int×(Int×(Int×(Int×(ByteArray×(Int×(Int×(List (D9)×(Int×(Int×(ByteArray×Vv))))))))))))) ((Eu×Oo))))):=λa=>bif dO a.2.2.2.1 (9990:Int)then (Lv ((c.1.2.2.2.2.1,()),((a.2.2.2.1,()),()))).bind λf=>bif !ko f.1.1 d.1 then (GV ((c.1.2.2.2.2.1,()),(d,()))).bind λe=>bif e.1.1 then (Sw ((a.1,(a.2.1,(a.2.2.1,()))),(((2:Int),()),()))).bind λb=>bif b.1.1 then some (.inl (b.2.1.1,(b.2.1.2.1,(b.2.1.2.2.1,(cM .i64 a.2.2.2.1 (1:Int),())))))else some (.inr (.inl (b.2.1.1,(b.2.1.2.1,(b.2.1.2.2.1,(a.2.2.2.1,()))))))else some (.inr (.inl (a.1,(a.2.1,(a.2.2.1,(a.2.2.2.1,()))))))else some (.inr (.inl (a.1,(a.2.1,(a.2.2.1,(a.2.2.2.1,()))))))else some (.inr (.inl (a.1,(a.2.1,(a.2.2.1,(a.2.2.2.1,()))))))
def OF:Oo->Option ((Eu×Oo)):=λd=>(J4 (d.1,(((List.length d.2.1.2.2.2.1:Int),()),()))).bind λh=>(bK d.2.1.2.2.2.1 h.1.1).bind λ_=>(aC d.2.1.2.2.2.1 (Int.toNat h.1.1)).bind λa=>(J4 (h.2.1,(((List.length d.2.1.2.2.1:Int),()),()))).bind λu=>(bK d.2.1.2.2.1 u.1.1).bind λm=>(J4 (u.2.1,(((2:Int),()),()))).bind λs=>Option.bind (bif dO (gS .i64 a.2.2.2.2.2.2.1 s.1.1) (1:Int)then some (.inl ((1:Int),()))else some (.inl (gS .i64 a.2.2.2.2.2.2.1 s.1.1,()))) λH=>Sum.elim (λG=>Option.bind ((J4 (s.2.1,(((4:Int),()),()))).bind λj=>Option.bind (bif gA j.1.1 (0:Int) then some (.inl (true,())) else some (.inl (gA j.1.1 (1:Int),()))) λD=>Sum.elim (λI=>bif I.1 then (J4 (j.2.1,((cM .i64 (List.length d.2.1.2.2.2.2.1:Int) (1:Int),()),()))).bind λl=>bif dO (0:Int) (List.length a.2.2.2.2.2.1:Int) then (J4 (l.2.1,(((List.length a.2.2.2.2.2.1:Int),()),()))).bind λo=>bif gA (2:Int) 0 then none else (bK a.2.2.2.2.2.1 (gS .i64 (gS .i64 (List.length a.2.2.2.2.2.1:Int) (1:Int)) (AV .i64 o.1.1 (2:Int)))).bind λt=>some (.inl (o.2.1.1,(o.2.1.2.1,(o.2.1.2.2.1,((2:Int),(t.2.2.1,(t.1,(m.1,((0:Int),((-1:Int),([],((0:Int),((0:Int),(⟨#[]⟩,([],()))))))))))))))) else some (.inl (l.2.1.1,(l.2.1.2.1,(l.2.1.2.2.1,((2:Int),(G.1,(l.1.1,(m.1,((0:Int),((-1:Int),([],((0:Int),((0:Int),(⟨#[]⟩,([],()))))))))))))))) else bif gA j.1.1 (2:Int) then (Gr ((a.2.2.2.2.2.2.2.2.1,(a.2.2.2.2.2.2.2.2.2.1,(a.2.2.2.2.2.2.2.2.2.2.1,()))),())).bind λr=>Option.bind ((Sw (j.2.1,(((2:Int),()),()))).bind λg=>bif g.1.1 then some (.inl (g.2.1.1,(g.2.1.2.1,(g.2.1.2.2.1,((0:Int),((-1:Int),([],()))))))) else some (.inl (g.2.1.1,(g.2.1.2.1,(g.2.1.2.2.1,(r.1.1,(r.1.2.1,(r.1.2.2.1,())))))))) λA=>Sum.elim (λf=>some (.inl (f.1,(f.2.1,(f.2.2.1,((3:Int),((0:Int),((0:Int),(⟨#[]⟩,(f.2.2.2.1,(f.2.2.2.2.1,(f.2.2.2.2.2.1,(a.2.2.2.2.2.2.1,(f.2.2.2.1,(m.1,([],())))))))))))))))) some A else (aC d.2.1.2.2.2.1 (Int.toNat h.1.1)).bind λw=>(aC d.2.1.2.2.2.1 (Int.toNat h.1.1)).bind λE=>(aC d.2.1.2.2.2.1 (Int.toNat h.1.1)).bind λz=>(aC d.2.1.2.2.2.1 (Int.toNat h.1.1)).bind λy=>(Lw ((a.1,(a.2.1,(a.2.2.1,(a.2.2.2.1,(a.2.2.2.2.1,(a.2.2.2.2.2.1,(a.2.2.2.2.2.2.1,(a.2.2.2.2.2.2.2.1,(a.2.2.2.2.2.2.2.2.1,(a.2.2.2.2.2.2.2.2.2.1,(a.2.2.2.2.2.2.2.2.2.2.1,(a.2.2.2.2.2.2.2.2.2.2.2.1,(a.2.2.2.2.2.2.2.2.2.2.2.2.1,(a.2.2.2.2.2.2.2.2.2.2.2.2.2.1,(a.2.2.2.2.2.2.2.2.2.2.2.2.2.2.1,(w.2.2.2.2.2.2.2.2.2.2.2.2.2.2.2.1,(E.2.2.2.2.2.2.2.2.2.2.2.2.2.2.2.2.1,(z.2.2.2.2.2.2.2.2.2.2.2.2.2.2.2.2.2.1,(a.2.2.2.2.2.2.2.2.2.2.2.2.2.2.2.2.2.2.1,(y.2.2.2.2.2.2.2.2.2.2.2.2.2.2.2.2.2.2.2.1,())))))))))))))))))))),())).bind λb=>Option.bind ((Sw (j.2.1,(((2:Int),()),()))).bind λe=>bif e.1.1 then some (.inl (e.2.1.1,(e.2.1.2.1,(e.2.1.2.2.1,((0:Int),((-1:Int),([],()))))))) else some (.inl (e.2.1.1,(e.2.1.2.1,(e.2.1.2.2.1,(b.1.2.2.2.2.2.2.2.2.1,(b.1.2.2.2.2.2.2.2.2.2.1,(b.1.2.2.2.2.2.2.2.2.2.2.1,())))))))) λx=>Sum.elim (λi=>Option.bind ((Sw ((i.1,(i.2.1,(i.2.2.1,()))),(((2:Int),()),()))).bind λk=>bif k.1.1 then (OB (k.2.1,(((3:Int),()),()))).bind λn=>some (.inl (n.2.1.1,(n.2.1.2.1,(n.2.1.2.2.1,(n.1.1,()))))) else some (.inl (k.2.1.1,(k.2.1.2.1,(k.2.1.2.2.1,(b.1.2.2.2.2.2.2.2.2.2.2.2.2.2.2.2.2.2.2.1,())))))) λF=>Sum.elim (λq=>(aR (OF.b0 b m) (q.1,(q.2.1,(q.2.2.1,(b.1.2.2.2.2.2.2.1,()))))).bind λv=>Sum.elim (λp=>(QK ((m.1,(b.1.2.1,(b.1.2.2.1,(b.1.2.2.2.1,(b.1.2.2.2.2.1,(b.1.2.2.2.2.2.1,(p.2.2.2.1,(b.1.2.2.2.2.2.2.2.1,(i.2.2.2.1,(i.2.2.2.2.1,(i.2.2.2.2.2.1,(b.1.2.2.2.2.2.2.2.2.2.2.2.1,(b.1.2.2.2.2.2.2.2.2.2.2.2.2.1,(b.1.2.2.2.2.2.2.2.2.2.2.2.2.2.1,(b.1.2.2.2.2.2.2.2.2.2.2.2.2.2.2.1,(b.1.2.2.2.2.2.2.2.2.2.2.2.2.2.2.2.1,(b.1.2.2.2.2.2.2.2.2.2.2.2.2.2.2.2.2.1,(b.1.2.2.2.2.2.2.2.2.2.2.2.2.2.2.2.2.2.1,(q.2.2.2.1,(b.1.2.2.2.2.2.2.2.2.2.2.2.2.2.2.2.2.2.2.2.1,())))))))))))))))))))),(((List.length d.2.1.2.2.2.2.1:Int),()),()))).bind λC=>some (.inl (p.1,(p.2.1,(p.2.2.1,((1:Int),((0:Int),((0:Int),(⟨#[]⟩,((0:Int),((-1:Int),([],((0:Int),((0:Int),(⟨#[]⟩,(([C.1]:List (vv)),())))))))))))))))) some v) some F) some x) some D) λB=>Sum.elim (λc=>some ((c.2.2.2.1,(a.1,(a.2.1,(c.2.2.2.2.2.2.2.2.2.2.2.2.2.1,(c.2.2.2.2.1,(c.2.2.2.2.2.1,(c.2.2.2.2.2.2.1,(c.2.2.2.2.2.2.2.2.2.2.1,(c.2.2.2.2.2.2.2.2.2.2.2.1,(c.2.2.2.2.2.2.2.2.2.2.2.2.1,(c.2.2.2.2.2.2.2.1,(c.2.2.2.2.2.2.2.2.1,(c.2.2.2.2.2.2.2.2.2.1,((0:Int),([],([],())))))))))))))))),((c.1,(c.2.1,(c.2.2.1,()))),(d.2.1,())))) some B) some H
def aH0:zi:=⟨ad2,aG9,OF⟩
def i62:=ad2
def o62:Gs:=[⟨.agg,X3,m8⟩,Ot,Yk]
def YC.b0(c:Oo):(a:te)->Option (Sum te (Sum te (Sum (List (D5)×(Int×(Int×(Int×(Int×(Int×(Int×(ByteArray×(ByteArray×(Int×(Int×(List (Fq)×(List (vv)×(List (tb)×(List (Eu)×(Int×(ByteArray×(Int×(List (vv)×(Int×(Int×(ByteArray×(Int×(Int×(ByteArray×(Int×(Int×(List (D9)×Ol)))))))))))))))))))))))))))) ((Sp×Oo))))):=λa=>bif dO a.1 (List.length c.2.1.2.2.2.1:Int)then (bK c.2.1.2.2.2.1 a.1).bind λ_=>(aC c.2.1.2.2.2.1 (Int.toNat a.1)).bind λb=>(Lv ((b.2.2.2.2.1,()),((b.2.2.2.2.2.2.1,()),()))).bind λd=>bif ko d.1.1 b.1 then bif dO b.2.2.2.2.2.2.2.2.2.2.2.2.2.2.1 b.2.2.2.2.2.2.1 then some (.inl (cM .i64 a.1 (1:Int),(a.1,())))else some (.inl (cM .i64 a.1 (1:Int),(a.2.1,())))else some (.inl (cM .i64 a.1 (1:Int),(a.2.1,())))else some (.inr (.inl (a.1,(a.2.1,()))))
def YC:Oo->Option ((Sp×Oo)):=λa=>Option.bind (bif dO (0:Int) (List.length a.2.1.2.2.2.2.2.2.1:Int)then (Sw (a.1,(((3:Int),()),()))).bind λg=>bif (!g.1.1)then (MI (g.2.1,((([((6:Int),()),((6:Int),()),((6:Int),()),((6:Int),()),((6:Int),()),((6:Int),()),((7:Int),()),((8:Int),())]:List (D3)),()),()))).bind λl=>(J4 (l.2.1,(((List.length a.2.1.2.2.2.2.2.2.1:Int),()),()))).bind λk=>some (.inr ((l.1.1,(k.1.1,((0:Int),((0:Int),(⟨#[]⟩,(⟨#[]⟩,((0:Int),((0:Int),((0:Int),(⟨#[]⟩,((0:Int),([],((0:Int),((0:Int),(⟨#[]⟩,((0:Int),((0:Int),(⟨#[]⟩,((0:Int),((0:Int),([],((0:Int),([],([],())))))))))))))))))))))))),(k.2.1,(a.2.1,()))))else some (.inl (g.2.1.1,(g.2.1.2.1,(g.2.1.2.2.1,()))))else some (.inl (a.1.1,(a.1.2.1,(a.1.2.2.1,()))))) λu=>Sum.elim (λv4=>(J4 ((v4.1,(v4.2.1,(v4.2.2.1,()))),(((List.length a.2.1.2.2.2.1:Int),()),()))).bind λe=>Option.bind ((J4 (e.2.1,(((12:Int),()),()))).bind λd=>Option.bind (bif gA d.1.1 (0:Int) then some (.inl (true,())) else bif gA d.1.1 (1:Int) then some (.inl (true,())) else bif gA d.1.1 (2:Int) then some (.inl (true,())) else some (.inl (gA d.1.1 (3:Int),()))) λt=>Sum.elim (λv=>bif v.1 then (aR (YC.b0 a) ((0:Int),(e.1.1,()))).bind λm=>Sum.elim (λp=>some (.inl (d.2.1.1,(d.2.1.2.1,(d.2.1.2.2.1,((1:Int),(p.2.1,((0:Int),((0:Int),(⟨#[]⟩,(⟨#[]⟩,((0:Int),((0:Int),(a.2.1.2.2.2.1,(a.2.1.2.2.2.2.1,(a.2.1.2.2.2.2.2.1,(a.2.1.2.2.2.2.2.2.1,((0:Int),(⟨#[]⟩,((0:Int),([],((0:Int),((0:Int),(⟨#[]⟩,((0:Int),((0:Int),(⟨#[]⟩,((0:Int),((0:Int),([],((0:Int),([],([],()))))))))))))))))))))))))))))))))) some m else Option.bind (bif gA d.1.1 (4:Int) then some (.inl (true,())) else some (.inl (gA d.1.1 (5:Int),()))) λs=>Sum.elim (λr=>bif r.1 then some (.inl (d.2.1.1,(d.2.1.2.1,(d.2.1.2.2.1,((2:Int),(e.1.1,((0:Int),((0:Int),(⟨#[]⟩,(⟨#[]⟩,((0:Int),((0:Int),(a.2.1.2.2.2.1,(a.2.1.2.2.2.2.1,(a.2.1.2.2.2.2.2.1,(a.2.1.2.2.2.2.2.2.1,((0:Int),(⟨#[]⟩,((0:Int),([],((0:Int),((0:Int),(⟨#[]⟩,((0:Int),((0:Int),(⟨#[]⟩,((0:Int),((0:Int),([],((0:Int),([],([],())))))))))))))))))))))))))))))))) else bif gA d.1.1 (6:Int) then (J4 (d.2.1,(((List.length a.2.1.2.2.2.1:Int),()),()))).bind λi=>some (.inl (i.2.1.1,(i.2.1.2.1,(i.2.1.2.2.1,((3:Int),(e.1.1,(i.1.1,((0:Int),(⟨#[]⟩,(⟨#[]⟩,((0:Int),((0:Int),(a.2.1.2.2.2.1,(a.2.1.2.2.2.2.1,(a.2.1.2.2.2.2.2.1,(a.2.1.2.2.2.2.2.2.1,((0:Int),(⟨#[]⟩,((0:Int),([],((0:Int),((0:Int),(⟨#[]⟩,((0:Int),((0:Int),(⟨#[]⟩,((0:Int),((0:Int),([],((0:Int),([],([],())))))))))))))))))))))))))))))))) else Option.bind (bif gA d.1.1 (7:Int) then some (.inl (true,())) else some (.inl (gA d.1.1 (8:Int),()))) λq=>Sum.elim (λo=>bif o.1 then (bK a.2.1.2.2.2.1 e.1.1).bind λ_=>(aC a.2.1.2.2.2.1 (Int.toNat e.1.1)).bind λj=>(VI (d.2.1,((j.2.2.1,(j.2.2.2.1,())),()))).bind λf=>(MI (f.2.1,((([((1:Int),()),((2:Int),()),((3:Int),())]:List (D3)),()),()))).bind λh=>some (.inl (h.2.1.1,(h.2.1.2.1,(h.2.1.2.2.1,((4:Int),(e.1.1,((0:Int),(f.1.1,(f.1.2.1,(f.1.2.2.1,(h.1.1,(f.1.2.2.2.2.1,(a.2.1.2.2.2.1,(a.2.1.2.2.2.2.1,(a.2.1.2.2.2.2.2.1,(a.2.1.2.2.2.2.2.2.1,((0:Int),(⟨#[]⟩,((0:Int),([],((0:Int),((0:Int),(⟨#[]⟩,((0:Int),((0:Int),(⟨#[]⟩,((0:Int),((0:Int),([],((0:Int),([],([],())))))))))))))))))))))))))))))))) else bif gA d.1.1 (9:Int) then some (.inl (d.2.1.1,(d.2.1.2.1,(d.2.1.2.2.1,((5:Int),(e.1.1,((0:Int),((0:Int),(⟨#[]⟩,(⟨#[]⟩,((0:Int),((0:Int),(a.2.1.2.2.2.1,(a.2.1.2.2.2.2.1,(a.2.1.2.2.2.2.2.1,(a.2.1.2.2.2.2.2.2.1,((0:Int),(⟨#[]⟩,((0:Int),([],((0:Int),((0:Int),(⟨#[]⟩,((0:Int),((0:Int),(⟨#[]⟩,((0:Int),((0:Int),([],((0:Int),([],([],())))))))))))))))))))))))))))))))) else bif gA (List.length a.2.1.2.2.1:Int) (0:Int) then some (.inr (((2:Int),(e.1.1,((0:Int),((0:Int),(⟨#[]⟩,(⟨#[]⟩,((0:Int),((0:Int),((0:Int),(⟨#[]⟩,((0:Int),([],((0:Int),((0:Int),(⟨#[]⟩,((0:Int),((0:Int),(⟨#[]⟩,((0:Int),((0:Int),([],((0:Int),([],([],())))))))))))))))))))))))),(d.2.1,(a.2.1,())))) else (OF (d.2.1,(a.2.1,()))).bind λc=>some (.inl (c.2.1.1,(c.2.1.2.1,(c.2.1.2.2.1,((9:Int),(e.1.1,((0:Int),((0:Int),(⟨#[]⟩,(⟨#[]⟩,((0:Int),((0:Int),(c.2.2.1.2.2.2.1,(c.2.2.1.2.2.2.2.1,(c.2.2.1.2.2.2.2.2.1,(c.2.2.1.2.2.2.2.2.2.1,(c.1.1,(c.1.2.1,(c.1.2.2.1,(c.1.2.2.2.1,(c.1.2.2.2.2.1,(c.1.2.2.2.2.2.1,(c.1.2.2.2.2.2.2.1,(c.1.2.2.2.2.2.2.2.1,(c.1.2.2.2.2.2.2.2.2.1,(c.1.2.2.2.2.2.2.2.2.2.1,(c.1.2.2.2.2.2.2.2.2.2.2.1,(c.1.2.2.2.2.2.2.2.2.2.2.2.1,(c.1.2.2.2.2.2.2.2.2.2.2.2.2.1,(c.1.2.2.2.2.2.2.2.2.2.2.2.2.2.1,(c.1.2.2.2.2.2.2.2.2.2.2.2.2.2.2.1,(c.1.2.2.2.2.2.2.2.2.2.2.2.2.2.2.2.1,()))))))))))))))))))))))))))))))))) some q) some s) some t) λn=>Sum.elim (λb=>some ((b.2.2.2.1,(b.2.2.2.2.1,(b.2.2.2.2.2.1,(b.2.2.2.2.2.2.1,(b.2.2.2.2.2.2.2.1,(b.2.2.2.2.2.2.2.2.1,(b.2.2.2.2.2.2.2.2.2.1,(b.2.2.2.2.2.2.2.2.2.2.1,(b.2.2.2.2.2.2.2.2.2.2.2.2.2.2.2.1,(b.2.2.2.2.2.2.2.2.2.2.2.2.2.2.2.2.1,(b.2.2.2.2.2.2.2.2.2.2.2.2.2.2.2.2.2.1,(b.2.2.2.2.2.2.2.2.2.2.2.2.2.2.2.2.2.2.1,(b.2.2.2.2.2.2.2.2.2.2.2.2.2.2.2.2.2.2.2.1,(b.2.2.2.2.2.2.2.2.2.2.2.2.2.2.2.2.2.2.2.2.1,(b.2.2.2.2.2.2.2.2.2.2.2.2.2.2.2.2.2.2.2.2.2.1,(b.2.2.2.2.2.2.2.2.2.2.2.2.2.2.2.2.2.2.2.2.2.2.1,(b.2.2.2.2.2.2.2.2.2.2.2.2.2.2.2.2.2.2.2.2.2.2.2.1,(b.2.2.2.2.2.2.2.2.2.2.2.2.2.2.2.2.2.2.2.2.2.2.2.2.1,(b.2.2.2.2.2.2.2.2.2.2.2.2.2.2.2.2.2.2.2.2.2.2.2.2.2.1,(b.2.2.2.2.2.2.2.2.2.2.2.2.2.2.2.2.2.2.2.2.2.2.2.2.2.2.1,(b.2.2.2.2.2.2.2.2.2.2.2.2.2.2.2.2.2.2.2.2.2.2.2.2.2.2.2.1,(b.2.2.2.2.2.2.2.2.2.2.2.2.2.2.2.2.2.2.2.2.2.2.2.2.2.2.2.2.1,(b.2.2.2.2.2.2.2.2.2.2.2.2.2.2.2.2.2.2.2.2.2.2.2.2.2.2.2.2.2.1,(b.2.2.2.2.2.2.2.2.2.2.2.2.2.2.2.2.2.2.2.2.2.2.2.2.2.2.2.2.2.2.1,())))))))))))))))))))))))),((b.1,(b.2.1,(b.2.2.1,()))),((a.2.1.1,(a.2.1.2.1,(a.2.1.2.2.1,(b.2.2.2.2.2.2.2.2.2.2.2.1,(b.2.2.2.2.2.2.2.2.2.2.2.2.1,(b.2.2.2.2.2.2.2.2.2.2.2.2.2.1,(b.2.2.2.2.2.2.2.2.2.2.2.2.2.2.1,()))))))),())))) some n) some u
def c62:zi:=⟨i62,o62,YC⟩
def SF:Gs:=[Ss]
def aH1:Gs:=[Yl]
def Kf:EP->Option EP:=λa=>(Ev ((a.1.2.2.2.1,()),())).bind λd=>(Gr ((a.1.2.2.2.2.2.2.2.2.2.2.1,(a.1.2.2.2.2.2.2.2.2.2.2.2.1,(a.1.2.2.2.2.2.2.2.2.2.2.2.2.1,()))),())).bind λc=>(I0 ((a.1.2.2.2.2.2.2.2.2.2.2.2.2.2.1,(a.1.2.2.2.2.2.2.2.2.2.2.2.2.2.2.1,(a.1.2.2.2.2.2.2.2.2.2.2.2.2.2.2.2.1,()))),())).bind λb=>some ((a.1.1,(a.1.2.1,(a.1.2.2.1,(d.1.1,(a.1.2.2.2.2.1,(a.1.2.2.2.2.2.1,(a.1.2.2.2.2.2.2.1,(a.1.2.2.2.2.2.2.2.1,(a.1.2.2.2.2.2.2.2.2.1,(a.1.2.2.2.2.2.2.2.2.2.1,(c.1.1,(c.1.2.1,(c.1.2.2.1,(b.1.1,(b.1.2.1,(b.1.2.2.1,())))))))))))))))),())
def aH2:zi:=⟨SF,aH1,Kf⟩
def i73:Gs:=[gq9,Pw]
def o73:=Fu
def QL.b0(b:(H6×A2)):(a:gk)->Option IW:=λa=>bif dO a.1 (List.length b.1.2.2.2.1:Int)then(bK b.1.2.2.2.1 a.1).bind λc=>bif ko c.1 b.2.1.1 then some (.inr (.inr ((a.1,()),())))else some (.inl (cM .i64 a.1 (1:Int),()))else some (.inr (.inl (a.1,())))
def QL:(H6×A2)->Option sz:=λa=>(aR (QL.b0 a) ((0:Int),())).bind λb=>Sum.elim (λv3=>some (((-1:Int),()),())) some b
def c73:zi:=⟨i73,o73,QL⟩
def OG:Gs:=[Sf,Xz]
def aH3:=o7
def Kg.b0(b:IY):(a:gk)->Option tm:=λa=>bif dO a.1 (List.length b.2.1.1:Int)then(bK b.2.1.1 a.1).bind λc=>(GV (b.1,(c,()))).bind λd=>bif (!d.1.1)then some (.inr (.inr ((false,()),())))else some (.inl (cM .i64 a.1 (1:Int),()))else some (.inr (.inl (a.1,())))
def Kg:IY->Option i6:=λa=>(aR (Kg.b0 a) ((0:Int),())).bind λb=>Sum.elim (λv4=>(Oz (a.2.1,())).bind λc=>some (c.1,())) some b
def aH4:zi:=⟨OG,aH3,Kg⟩
def i66:=OG
def o66:=Fu
def Vi.b0(b:IY):(a:te)->Option J8:=λa=>bif dO a.2.1 (List.length b.1.1:Int)then(bK b.1.1 a.2.1).bind λc=>(Gq (b.2.1,((c.1,()),()))).bind λd=>bif d.1.1 then (bK b.1.1 a.2.1).bind λe=>some (.inl (cM .i64 a.1 e.2.1,(cM .i64 a.2.1 (1:Int),())))else some (.inl (a.1,(cM .i64 a.2.1 (1:Int),())))else some (.inr (.inl (a.1,(a.2.1,()))))
def Vi:IY->Option sz:=λa=>(aR (Vi.b0 a) ((0:Int),((0:Int),()))).bind λb=>Sum.elim (λc=>some ((c.1,()),())) some b
def c66:zi:=⟨i66,o66,Vi⟩
def i67:=VM
def o67:=Fu
def Vj.b0(b:Fh):(a:te)->Option J8:=λa=>bif dO a.2.1 (List.length b.1.1:Int)then(bK b.1.1 a.2.1).bind λc=>some (.inl (cM .i64 a.1 c.2.1,(cM .i64 a.2.1 (1:Int),())))else some (.inr (.inl (a.1,(a.2.1,()))))
def Vj:Fh->Option sz:=λa=>(aR (Vj.b0 a) ((0:Int),((0:Int),()))).bind λb=>Sum.elim (λv3=>some ((v3.1,()),())) some b
def c67:zi:=⟨i67,o67,Vj⟩
def aH5:=OG
def aH6:=o7
def VS:IY->Option i6:=λa=>(Vi (a.1,(a.2.1,()))).bind λb=>(Vj (a.1,())).bind λc=>some ((dO (zJ .i64 (2:Int) c.1.1) (zJ .i64 (3:Int) b.1.1),()),())
def aH7:zi:=⟨aH5,aH6,VS⟩
def ad3:Gs:=[Sf,IZ]
def aH8:=o7
def LC:(Kz×Fi)->Option i6:=λa=>(Lx (a.2.1,())).bind λf=>bif f.1.1 then some ((true,()),())else (k8 ((a.2.1.1,()),(((1:Int),()),(((10000:Int),()),())))).bind λd=>bif d.1.1 then (k8 ((a.2.1.2.1,()),(((0:Int),()),(((100000:Int),()),())))).bind λb=>bif b.1.1 then (Kg (a.1,((a.2.1.2.2.1,()),()))).bind λc=>bif c.1.1 then (VS (a.1,((a.2.1.2.2.1,()),()))).bind λe=>some (e.1,())else some ((false,()),())else some ((false,()),())else some ((false,()),())
def aH9:zi:=⟨ad3,aH8,LC⟩
def ad4:Gs:=[Sf,Ov]
def aI0:=o7
def Iv.b0(b:(Kz×Ft)):(a:gk)->Option tm:=λa=>bif dO a.1 (List.length b.2.1.2.2.1:Int)then(bK b.2.1.2.2.1 a.1).bind λc=>(k8 (c,(((0:Int),()),((gS .i64 b.2.1.1 (1:Int),()),())))).bind λd=>bif (!d.1.1)then some (.inr (.inr ((false,()),())))else some (.inl (cM .i64 a.1 (1:Int),()))else some (.inr (.inl (a.1,())))
def Iv:(Kz×Ft)->Option i6:=λa=>(Is (a.2.1,())).bind λf=>bif f.1.1 then some ((true,()),())else (k8 ((a.2.1.1,()),(((1:Int),()),(((10000:Int),()),())))).bind λe=>bif (!e.1.1)then some ((false,()),())else (Kg (a.1,((a.2.1.2.1,()),()))).bind λc=>bif (!c.1.1)then some ((false,()),())else (VS (a.1,((a.2.1.2.1,()),()))).bind λd=>bif (!d.1.1)then some ((false,()),())else bif !gA (List.length a.2.1.2.2.1:Int) (List.length a.2.1.2.1:Int)then some ((false,()),())else (aR (Iv.b0 a) ((0:Int),())).bind λb=>Sum.elim (λg=>some ((true,()),())) some b
def aI1:zi:=⟨ad4,aI0,Iv⟩
def aI2:=Sz
def aI3:=Fu
def HJ.b0(b:Ft):(a:te)->Option J8:=λa=>bif dO a.2.1 (List.length b.1.2.2.1:Int)then(bK b.1.2.2.1 a.2.1).bind λc=>bif dO a.1 c.1 then(bK b.1.2.2.1 a.2.1).bind λd=>some (.inl (d.1,(cM .i64 a.2.1 (1:Int),())))else some (.inl (a.1,(cM .i64 a.2.1 (1:Int),())))else some (.inr (.inl (a.1,(a.2.1,()))))
def HJ:Ft->Option sz:=λa=>(aR (HJ.b0 a) ((0:Int),((0:Int),()))).bind λb=>Sum.elim (λv4=>some ((v4.1,()),())) some b
def aI4:zi:=⟨aI2,aI3,HJ⟩
def aI5:=QH
def aI6:=o7
def MO:Fs->Option i6:=λa=>Option.bind (bif gA a.1.2.2.2.2.1 (gS .i64 a.1.2.2.1 (1:Int))then(Is ((a.1.2.2.2.2.2.2.2.1,(a.1.2.2.2.2.2.2.2.2.1,(a.1.2.2.2.2.2.2.2.2.2.1,()))),())).bind λd=>bif d.1.1 then some (.inr ((true,()),()))else some (.inl ())else some (.inl ())) λb=>Sum.elim (λe=>bif gA a.1.2.2.2.2.2.2.2.1 (gS .i64 a.1.2.2.1 (1:Int)) then bif dO (0:Int) a.1.2.2.2.2.2.2.2.1 then (HJ ((a.1.2.2.2.2.2.2.2.1,(a.1.2.2.2.2.2.2.2.2.1,(a.1.2.2.2.2.2.2.2.2.2.1,()))),())).bind λc=>some ((km c.1.1 a.1.2.2.2.2.1,()),()) else some ((false,()),()) else some ((false,()),())) some b
def aI7:zi:=⟨aI5,aI6,MO⟩
def ad5:Gs:=[Sf,Sf]
def aI8:=o7
def LD.b0(b:(Kz×Fh)):(a:gk)->Option tm:=λa=>bif dO a.1 (List.length b.1.1:Int)then(bK b.1.1 a.1).bind λc=>(bK b.2.1.1 a.1).bind λd=>bif !((ko c.1 d.1)&&(gA c.2.1 d.2.1))then some (.inr (.inr ((false,()),())))else some (.inl (cM .i64 a.1 (1:Int),()))else some (.inr (.inl (a.1,())))
def LD:(Kz×Fh)->Option i6:=λa=>bif !gA (List.length a.1.1:Int) (List.length a.2.1.1:Int)then some ((false,()),())else (aR (LD.b0 a) ((0:Int),())).bind λb=>Sum.elim (λv4=>some ((true,()),())) some b
def aI9:zi:=⟨ad5,aI8,LD⟩
def aJ0:Gs:=[Oq,Vg,Ou]
def aJ1:=o7
def QM:(Fo×(Qy×Fs))->Option i6:=λa=>(SD (a.2.1,((a.2.2.1.2.2.2.2.2.1,()),()))).bind λj=>bif (!j.1.1)then some ((false,()),())else (MK (a.2.1,((a.2.2.1.2.2.2.2.2.1,()),()))).bind λh=>bif h.1.1 then bif gA (List.length a.2.2.1.2.2.2.2.2.2.2.2.2.2.1:Int) (0:Int)then bif (!a.2.2.1.2.2.2.2.2.2.2.2.2.2.2.1)then bif gA (List.length a.2.2.1.2.2.2.2.2.2.2.2.2.2.2.2.1:Int) (0:Int)then some ((ko a.2.2.1.2.2.2.2.2.2.2.2.2.2.2.2.2.1 ⟨#[]⟩,()),())else some ((false,()),())else some ((false,()),())else some ((false,()),())else (ML (a.1,(a.2.1,((a.2.2.1.2.2.2.2.2.1,()),())))).bind λe=>(Fv (e.1,((a.2.2.1.2.2.2.2.2.2.2.2.2.2.1,()),()))).bind λc=>(Gu (a.2.1,((a.2.2.1.2.2.2.2.2.1,()),()))).bind λd=>bif !gA c.2.1.1 (List.length a.2.2.1.2.2.2.2.2.2.2.2.2.2.1:Int)then some ((false,()),())else bif !wo a.2.2.1.2.2.2.2.2.2.2.2.2.2.2.1 (gA (List.length d.1.1:Int) (1:Int))then some ((false,()),())else bif (!(gA (List.length d.1.1:Int) (1:Int)))then bif gA (List.length a.2.2.1.2.2.2.2.2.2.2.2.2.2.2.2.1:Int) (0:Int)then some ((ko a.2.2.1.2.2.2.2.2.2.2.2.2.2.2.2.2.1 ⟨#[]⟩,()),())else some ((false,()),())else (p6 (c.1,())).bind λb=>(Z1 (b.1,())).bind λi=>(LD ((a.2.2.1.2.2.2.2.2.2.2.2.2.2.2.2.1,()),(i.1,()))).bind λg=>bif g.1.1 then (MN (b.1,())).bind λf=>some ((ko a.2.2.1.2.2.2.2.2.2.2.2.2.2.2.2.2.1 f.1.1,()),())else some ((false,()),())
def aJ2:zi:=⟨aJ0,aJ1,QM⟩
def aJ3:=SA
def ad6:Gs:=[Ym]
def aJ4:zi:=⟨aJ3,ad6,Ev⟩
def aJ5:Gs:=[Vg,Ou]
def aJ6:Gs:=[Ym,QE]
def Gv.b0(g:(Qy×Fs)):(a:(Int×Vv))->Option (Sum (Int×Vv) (Sum (Int×Vv) ((Qy×i6)))):=λa=>bif dO (0:Int) a.1 then (bK a.2.1 (gS .i64 a.1 (1:Int))).bind λ_=>(aC a.2.1 (Int.toNat (gS .i64 a.1 (1:Int)))).bind λf=>bif dO g.2.1.1 f.1 then (bK a.2.1 (gS .i64 a.1 (1:Int))).bind λ_=>(aC a.2.1 (Int.toNat (gS .i64 a.1 (1:Int)))).bind λc=>(bK a.2.1 a.1).bind λ_=>(aC a.2.1 (Int.toNat a.1)).bind λb=>(bK a.2.1 (gS .i64 a.1 (1:Int))).bind λ_=>(aC a.2.1 (Int.toNat (gS .i64 a.1 (1:Int)))).bind λi=>(some (List.set a.2.1 (Int.toNat (gS .i64 a.1 (1:Int))) (b.1,(b.2.1,(b.2.2.1,(b.2.2.2.1,(b.2.2.2.2.1,(b.2.2.2.2.2.1,(b.2.2.2.2.2.2.1,(b.2.2.2.2.2.2.2.1,(b.2.2.2.2.2.2.2.2.1,(b.2.2.2.2.2.2.2.2.2.1,(b.2.2.2.2.2.2.2.2.2.2.1,(b.2.2.2.2.2.2.2.2.2.2.2.1,(b.2.2.2.2.2.2.2.2.2.2.2.2.1,(b.2.2.2.2.2.2.2.2.2.2.2.2.2.1,())))))))))))))))).bind λd=>(bK d a.1).bind λ_=>(aC d (Int.toNat a.1)).bind λh=>(some (List.set d (Int.toNat a.1) (c.1,(c.2.1,(c.2.2.1,(c.2.2.2.1,(c.2.2.2.2.1,(c.2.2.2.2.2.1,(c.2.2.2.2.2.2.1,(c.2.2.2.2.2.2.2.1,(c.2.2.2.2.2.2.2.2.1,(c.2.2.2.2.2.2.2.2.2.1,(c.2.2.2.2.2.2.2.2.2.2.1,(c.2.2.2.2.2.2.2.2.2.2.2.1,(c.2.2.2.2.2.2.2.2.2.2.2.2.1,(c.2.2.2.2.2.2.2.2.2.2.2.2.2.1,())))))))))))))))).bind λe=>some (.inl (gS .i64 a.1 (1:Int),(e,()))) else some (.inr (.inl (a.1,(a.2.1,())))) else some (.inr (.inl (a.1,(a.2.1,()))))
def Gv:(Qy×Fs)->Option ((Qy×i6)):=λa=>(Gt (a.1,((a.2.1.1,()),()))).bind λi=>bif km (0:Int) i.1.1 then (Ev (a.1,())).bind λh=>some (h.1,((false,()),())) else (Ev (a.1,())).bind λb=>(I2 (a.2.1,())).bind λc=>bif dE (List.length b.1.1+List.length ([c.1]:List (vv))) 208 then (aR (Gv.b0 a) (gS .i64 (List.length (bV b.1.1 ([c.1]:List (vv))):Int) (1:Int),(bV b.1.1 ([c.1]:List (vv)),()))).bind λe=>Sum.elim (λd=>(HG ((d.2.1,()),())).bind λf=>bif (!f.1.1) then (Ev (a.1,())).bind λg=>some (g.1,((false,()),())) else some ((d.2.1,()),((true,()),()))) some e else none
def aJ7:zi:=⟨aJ5,aJ6,Gv⟩
def aJ8:Gs:=[Vg,IZ]
def aJ9:=Fu
def VT:(Qy×Fi)->Option sz:=λa=>(Gt (a.1,((a.2.1.2.1,()),()))).bind λc=>bif dO c.1.1 (0:Int)then some (((-1:Int),()),())else (bK a.1.1 c.1.1).bind λe=>bif !gA e.2.2.1 a.2.1.1 then some (((-1:Int),()),())else (bK a.1.1 c.1.1).bind λf=>(Gt (a.1,((f.2.2.2.2.2.1,()),()))).bind λb=>bif dO b.1.1 (0:Int)then some (((-1:Int),()),())else (bK a.1.1 b.1.1).bind λg=>bif !gA g.2.2.1 (gS .i64 a.2.1.1 (1:Int))then some (((-1:Int),()),())else (bK a.1.1 b.1.1).bind λd=>some ((d.1,()),())
def aK0:zi:=⟨aJ8,aJ9,VT⟩
def aK1:=OC
def aK2:=SB
def Kh.b0(b:Io)(d:GS):(a:Lo)->Option (Sum Lo (Sum Lo GR)):=λa=>bif dO a.2.1 (List.length b.1.1:Int)then (bK b.1.1 a.2.1).bind λ_=>(aC b.1.1 (Int.toNat a.2.1)).bind λf=>(bK d.1.1 f.1).bind λe=>(I2 (e,())).bind λc=>bif dE (List.length a.1+List.length ([c.1]:List (vv))) 208 then some (.inl (bV a.1 ([c.1]:List (vv)),(cM .i64 a.2.1 (1:Int),())))else none else some (.inr (.inl (a.1,(a.2.1,()))))
def Kh:GS->Option GR:=λa=>(Gu (a.1,(a.2.1,()))).bind λc=>(aR (Kh.b0 c a) (([]:List (vv)),((0:Int),()))).bind λb=>Sum.elim (λd=>some ((d.1,()),())) some b
def aK3:zi:=⟨aK1,aK2,Kh⟩
def aK4:Gs:=[Lr,DO]
def aK5:=o7
def Ki.b0(b:(J9×sz)):(a:gk)->Option tm:=λa=>bif dO a.1 (List.length b.1.1:Int)then(bK b.1.1 a.1).bind λc=>bif gA c.1 b.2.1.1 then some (.inr (.inr ((true,()),())))else some (.inl (cM .i64 a.1 (1:Int),()))else some (.inr (.inl (a.1,())))
def Ki:(J9×sz)->Option i6:=λa=>(aR (Ki.b0 a) ((0:Int),())).bind λb=>Sum.elim (λv3=>some ((false,()),())) some b
def aK6:zi:=⟨aK4,aK5,Ki⟩
def aK7:Gs:=[Ow,Oq]
def aK8:Gs:=[VA]
def Kj.b0(b:(Gp×p5)):(a:(List (cp)×gk))->Option (Sum (List (cp)×gk) (Sum (List (cp)×gk) Fg)):=λa=>bif dO a.2.1 (List.length b.1.1:Int) then (bK b.1.1 a.2.1).bind λe=>(It ((b.2.1.2.1,()),((e.2.1,()),()))).bind λd=>bif km (0:Int) d.1.1 then (bK b.1.1 a.2.1).bind λf=>(bK b.2.1.2.1 d.1.1).bind λg=>bif km g.2.2.1 f.2.2.2.2.1 then (bK b.1.1 a.2.1).bind λc=>bif dE (List.length a.1+List.length ([c]:List (cp))) 56 then some (.inl (bV a.1 ([c]:List (cp)),(cM .i64 a.2.1 (1:Int),()))) else none else some (.inl (a.1,(cM .i64 a.2.1 (1:Int),()))) else some (.inl (a.1,(cM .i64 a.2.1 (1:Int),()))) else some (.inr (.inl (a.1,(a.2.1,()))))
def Kj:(Gp×p5)->Option Fg:=λa=>(aR (Kj.b0 a) (([]:List (cp)),((0:Int),()))).bind λb=>Sum.elim (λc=>some ((c.1,()),())) some b
def aK9:zi:=⟨aK7,aK8,Kj⟩
def aL0:Gs:=[Sg,DO,IZ]
def LF:Gs:=[Sg]
def Kk.b0(a:(Fq×(gk×Fi))):(v3:X6)->Option (Sum X6 (Sum X6 zd)):=λv3=>bif dO v3.1 (List.length v3.2.1:Int)then (bK v3.2.1 v3.1).bind λm=>(Fv ((v3.2.2.1,(v3.2.2.2.1,())),((m.2.2.2.2.2.2.2.2.2.2.1,()),()))).bind λd=>Option.bind ((bK v3.2.1 v3.1).bind λl=>(Ki ((v3.2.2.2.2.1,()),((l.1,()),()))).bind λn=>bif (!n.1.1)then (bK v3.2.1 v3.1).bind λg=>bif dE (List.length v3.2.2.2.2.1+List.length ([(g.1,())]:List (D3))) 8 then some (.inl (bV v3.2.2.2.2.1 ([(g.1,())]:List (D3)),()))else none else some (.inl (v3.2.2.2.2.1,()))) λj=>Sum.elim (λh=>(bK v3.2.1 v3.1).bind λi=>bif i.2.2.2.2.2.2.2.2.2.2.2.1 then (Kh ((a.1.2.2.2.2.2.1,()),((a.2.2.1.2.1,()),()))).bind λf=>(Gr (a.2.2.1,())).bind λb=>bif dE (List.length a.1.2.2.2.2.2.2.2.2.2.2.2.2.2.2.2.2.2.2.2.1+List.length ([(a.1.2.1,(f.1.1,(b.1.1,(b.1.2.1,(b.1.2.2.1,())))))]:List (Sd))) 72 then (p6 (d.1,())).bind λc=>(Kj ((a.1.2.2.2.2.2.2.2.2.2.2.2.2.2.2.2.2.2.2.1,()),(c.1,()))).bind λk=>(bK v3.2.1 v3.1).bind λe=>bif dE (List.length ([]:List (e6))+List.length e.2.2.2.2.2.2.2.2.2.2.2.2.1) 24 then some (.inr (.inr ((a.1.1,(c.1.1,(c.1.1,(c.1.2.1,(bV ([]:List (e6)) e.2.2.2.2.2.2.2.2.2.2.2.2.1,(([]:List (vv)),((1:Int),((0:Int),((0:Int),((-1:Int),([],((0:Int),([],([],((0:Int),(([]:List (u6)),(([]:List (sd)),(h.1,(k.1.1,(bV a.1.2.2.2.2.2.2.2.2.2.2.2.2.2.2.2.2.2.2.2.1 ([(a.1.2.1,(f.1.1,(b.1.1,(b.1.2.1,(b.1.2.2.1,())))))]:List (Sd)),())))))))))))))))))))),()))) else none else none else some (.inl (cM .i64 v3.1 (1:Int),(v3.2.1,(d.1.1,(d.1.2.1,(h.1,()))))))) some j else some (.inr (.inl (v3.1,(v3.2.1,(v3.2.2.1,(v3.2.2.2.1,(v3.2.2.2.2.1,())))))))
def Kk:(Fq×(gk×Fi))->Option zd:=λa=>(Kh ((a.1.2.2.2.2.2.1,()),(a.2.1,()))).bind λf=>(Fj ((a.1.2.2.1,(a.1.2.2.2.1,())),())).bind λc=>(aR (Kk.b0 a) ((0:Int),(f.1.1,(c.1.1,(c.1.2.1,(a.1.2.2.2.2.2.2.2.2.2.2.2.2.2.2.2.2.2.1,())))))).bind λd=>Sum.elim (λb=>(Kj ((a.1.2.2.2.2.2.2.2.2.2.2.2.2.2.2.2.2.2.2.1,()),((b.2.2.1,(b.2.2.2.1,())),()))).bind λe=>some ((a.1.1,(a.1.2.1,(a.1.2.2.1,(a.1.2.2.2.1,(a.1.2.2.2.2.1,(a.1.2.2.2.2.2.1,(a.1.2.2.2.2.2.2.1,(a.1.2.2.2.2.2.2.2.1,(a.1.2.2.2.2.2.2.2.2.1,(a.1.2.2.2.2.2.2.2.2.2.1,(a.1.2.2.2.2.2.2.2.2.2.2.1,(a.1.2.2.2.2.2.2.2.2.2.2.2.1,(a.1.2.2.2.2.2.2.2.2.2.2.2.2.1,(a.1.2.2.2.2.2.2.2.2.2.2.2.2.2.1,(a.1.2.2.2.2.2.2.2.2.2.2.2.2.2.2.1,(a.1.2.2.2.2.2.2.2.2.2.2.2.2.2.2.2.1,(a.1.2.2.2.2.2.2.2.2.2.2.2.2.2.2.2.2.1,(b.2.2.2.2.1,(e.1.1,(a.1.2.2.2.2.2.2.2.2.2.2.2.2.2.2.2.2.2.2.2.1,())))))))))))))))))))),())) some d
def aL1:zi:=⟨aL0,LF,Kk⟩
def aL2:Gs:=[Sg,IZ]
def aL3:=LF
def Kl:(Fq×Fi)->Option zd:=λa=>Option.bind (bif dO a.1.2.2.2.2.2.2.2.2.1 a.2.1.1 then(Gr (a.2.1,())).bind λc=>some (.inl (c.1.1,(c.1.2.1,(c.1.2.2.1,()))))else some (.inl (a.1.2.2.2.2.2.2.2.2.1,(a.1.2.2.2.2.2.2.2.2.2.1,(a.1.2.2.2.2.2.2.2.2.2.2.1,()))))) λf=>Sum.elim (λb=>Option.bind (bif dO a.1.2.2.2.2.2.2.1 (cM .i64 a.2.1.1 (1:Int)) then some (.inl (cM .i64 a.2.1.1 (1:Int),())) else some (.inl (a.1.2.2.2.2.2.2.1,()))) λe=>Sum.elim (λv4=>(VT ((a.1.2.2.2.2.2.1,()),(a.2.1,()))).bind λd=>bif km (0:Int) d.1.1 then (Kk ((a.1.1,(a.1.2.1,(a.1.2.2.1,(a.1.2.2.2.1,(a.1.2.2.2.2.1,(a.1.2.2.2.2.2.1,(v4.1,(a.1.2.2.2.2.2.2.2.1,(b.1,(b.2.1,(b.2.2.1,(a.1.2.2.2.2.2.2.2.2.2.2.2.1,(a.1.2.2.2.2.2.2.2.2.2.2.2.2.1,(a.1.2.2.2.2.2.2.2.2.2.2.2.2.2.1,(a.1.2.2.2.2.2.2.2.2.2.2.2.2.2.2.1,(a.1.2.2.2.2.2.2.2.2.2.2.2.2.2.2.2.1,(a.1.2.2.2.2.2.2.2.2.2.2.2.2.2.2.2.2.1,(a.1.2.2.2.2.2.2.2.2.2.2.2.2.2.2.2.2.2.1,(a.1.2.2.2.2.2.2.2.2.2.2.2.2.2.2.2.2.2.2.1,(a.1.2.2.2.2.2.2.2.2.2.2.2.2.2.2.2.2.2.2.2.1,())))))))))))))))))))),(d.1,(a.2.1,())))).bind λg=>some (g.1,()) else some ((a.1.1,(a.1.2.1,(a.1.2.2.1,(a.1.2.2.2.1,(a.1.2.2.2.2.1,(a.1.2.2.2.2.2.1,(v4.1,(a.1.2.2.2.2.2.2.2.1,(b.1,(b.2.1,(b.2.2.1,(a.1.2.2.2.2.2.2.2.2.2.2.2.1,(a.1.2.2.2.2.2.2.2.2.2.2.2.2.1,(a.1.2.2.2.2.2.2.2.2.2.2.2.2.2.1,(a.1.2.2.2.2.2.2.2.2.2.2.2.2.2.2.1,(a.1.2.2.2.2.2.2.2.2.2.2.2.2.2.2.2.1,(a.1.2.2.2.2.2.2.2.2.2.2.2.2.2.2.2.2.1,(a.1.2.2.2.2.2.2.2.2.2.2.2.2.2.2.2.2.2.1,(a.1.2.2.2.2.2.2.2.2.2.2.2.2.2.2.2.2.2.2.1,(a.1.2.2.2.2.2.2.2.2.2.2.2.2.2.2.2.2.2.2.2.1,())))))))))))))))))))),())) some e) some f
def aL4:zi:=⟨aL2,aL3,Kl⟩
def aL5:Gs:=[Sg,Ov]
def aL6:=LF
def OH:(Fq×Ft)->Option zd:=λa=>Option.bind (bif dO a.1.2.2.2.2.2.2.2.2.2.2.2.1 a.2.1.1 then(I0 (a.2.1,())).bind λc=>some (.inl (c.1.1,(c.1.2.1,(c.1.2.2.1,()))))else some (.inl (a.1.2.2.2.2.2.2.2.2.2.2.2.1,(a.1.2.2.2.2.2.2.2.2.2.2.2.2.1,(a.1.2.2.2.2.2.2.2.2.2.2.2.2.2.1,()))))) λd=>Sum.elim (λb=>bif dO a.1.2.2.2.2.2.2.1 (cM .i64 a.2.1.1 (1:Int)) then some ((a.1.1,(a.1.2.1,(a.1.2.2.1,(a.1.2.2.2.1,(a.1.2.2.2.2.1,(a.1.2.2.2.2.2.1,(cM .i64 a.2.1.1 (1:Int),(a.1.2.2.2.2.2.2.2.1,(a.1.2.2.2.2.2.2.2.2.1,(a.1.2.2.2.2.2.2.2.2.2.1,(a.1.2.2.2.2.2.2.2.2.2.2.1,(b.1,(b.2.1,(b.2.2.1,(a.1.2.2.2.2.2.2.2.2.2.2.2.2.2.2.1,(a.1.2.2.2.2.2.2.2.2.2.2.2.2.2.2.2.1,(a.1.2.2.2.2.2.2.2.2.2.2.2.2.2.2.2.2.1,(a.1.2.2.2.2.2.2.2.2.2.2.2.2.2.2.2.2.2.1,(a.1.2.2.2.2.2.2.2.2.2.2.2.2.2.2.2.2.2.2.1,(a.1.2.2.2.2.2.2.2.2.2.2.2.2.2.2.2.2.2.2.2.1,())))))))))))))))))))),()) else some ((a.1.1,(a.1.2.1,(a.1.2.2.1,(a.1.2.2.2.1,(a.1.2.2.2.2.1,(a.1.2.2.2.2.2.1,(a.1.2.2.2.2.2.2.1,(a.1.2.2.2.2.2.2.2.1,(a.1.2.2.2.2.2.2.2.2.1,(a.1.2.2.2.2.2.2.2.2.2.1,(a.1.2.2.2.2.2.2.2.2.2.2.1,(b.1,(b.2.1,(b.2.2.1,(a.1.2.2.2.2.2.2.2.2.2.2.2.2.2.2.1,(a.1.2.2.2.2.2.2.2.2.2.2.2.2.2.2.2.1,(a.1.2.2.2.2.2.2.2.2.2.2.2.2.2.2.2.2.1,(a.1.2.2.2.2.2.2.2.2.2.2.2.2.2.2.2.2.2.1,(a.1.2.2.2.2.2.2.2.2.2.2.2.2.2.2.2.2.2.2.1,(a.1.2.2.2.2.2.2.2.2.2.2.2.2.2.2.2.2.2.2.2.1,())))))))))))))))))))),())) some d
def aL7:zi:=⟨aL5,aL6,OH⟩
def ad7:Gs:=[Sg,Ou]
def aL8:Gs:=[QE,Sg]
def Km:(Fq×Fs)->Option (HF×zd):=λb=>(Px (b.2.1,())).bind λo=>bif (!o.1.1)then some ((false,()),(b.1,()))else bif !gA b.2.1.2.1 b.1.2.1 then some ((false,()),(b.1,()))else (Lv ((b.1.2.2.2.2.1,()),((b.2.1.2.2.1,()),()))).bind λm=>bif !ko b.2.1.2.2.2.1 m.1.1 then some ((false,()),(b.1,()))else (LC ((b.1.2.2.2.2.1,()),((b.2.1.2.2.2.2.1,(b.2.1.2.2.2.2.2.1,(b.2.1.2.2.2.2.2.2.1,()))),()))).bind λk=>bif (!k.1.1)then some ((false,()),(b.1,()))else (Iv ((b.1.2.2.2.2.1,()),((b.2.1.2.2.2.2.2.2.2.1,(b.2.1.2.2.2.2.2.2.2.2.1,(b.2.1.2.2.2.2.2.2.2.2.2.1,()))),()))).bind λl=>bif (!l.1.1)then some ((false,()),(b.1,()))else (MO (b.2.1,())).bind λn=>bif (!n.1.1)then some ((false,()),(b.1,()))else (QM ((b.1.2.2.1,(b.1.2.2.2.1,())),((b.1.2.2.2.2.2.1,()),(b.2.1,())))).bind λj=>bif (!j.1.1)then some ((false,()),(b.1,()))else (Gv ((b.1.2.2.2.2.2.1,()),(b.2.1,()))).bind λg=>bif (!g.2.1.1)then some ((false,()),(b.1,()))else (Kl ((b.1.1,(b.1.2.1,(b.1.2.2.1,(b.1.2.2.2.1,(b.1.2.2.2.2.1,(g.1.1,(b.1.2.2.2.2.2.2.1,(b.1.2.2.2.2.2.2.2.1,(b.1.2.2.2.2.2.2.2.2.1,(b.1.2.2.2.2.2.2.2.2.2.1,(b.1.2.2.2.2.2.2.2.2.2.2.1,(b.1.2.2.2.2.2.2.2.2.2.2.2.1,(b.1.2.2.2.2.2.2.2.2.2.2.2.2.1,(b.1.2.2.2.2.2.2.2.2.2.2.2.2.2.1,(b.1.2.2.2.2.2.2.2.2.2.2.2.2.2.2.1,(b.1.2.2.2.2.2.2.2.2.2.2.2.2.2.2.2.1,(b.1.2.2.2.2.2.2.2.2.2.2.2.2.2.2.2.2.1,(b.1.2.2.2.2.2.2.2.2.2.2.2.2.2.2.2.2.2.1,(b.1.2.2.2.2.2.2.2.2.2.2.2.2.2.2.2.2.2.2.1,(b.1.2.2.2.2.2.2.2.2.2.2.2.2.2.2.2.2.2.2.2.1,())))))))))))))))))))),((b.2.1.2.2.2.2.1,(b.2.1.2.2.2.2.2.1,(b.2.1.2.2.2.2.2.2.1,()))),()))).bind λc=>Option.bind (bif gA c.1.2.1 b.1.2.1 then (OH (c.1,((b.2.1.2.2.2.2.2.2.2.1,(b.2.1.2.2.2.2.2.2.2.2.1,(b.2.1.2.2.2.2.2.2.2.2.2.1,()))),()))).bind λf=>some (.inl (f.1.1,(f.1.2.1,(f.1.2.2.1,(f.1.2.2.2.1,(f.1.2.2.2.2.1,(f.1.2.2.2.2.2.1,(f.1.2.2.2.2.2.2.1,(f.1.2.2.2.2.2.2.2.1,(f.1.2.2.2.2.2.2.2.2.1,(f.1.2.2.2.2.2.2.2.2.2.1,(f.1.2.2.2.2.2.2.2.2.2.2.1,(f.1.2.2.2.2.2.2.2.2.2.2.2.1,(f.1.2.2.2.2.2.2.2.2.2.2.2.2.1,(f.1.2.2.2.2.2.2.2.2.2.2.2.2.2.1,(f.1.2.2.2.2.2.2.2.2.2.2.2.2.2.2.1,(f.1.2.2.2.2.2.2.2.2.2.2.2.2.2.2.2.1,(f.1.2.2.2.2.2.2.2.2.2.2.2.2.2.2.2.2.1,(f.1.2.2.2.2.2.2.2.2.2.2.2.2.2.2.2.2.2.1,(f.1.2.2.2.2.2.2.2.2.2.2.2.2.2.2.2.2.2.2.1,(f.1.2.2.2.2.2.2.2.2.2.2.2.2.2.2.2.2.2.2.2.1,())))))))))))))))))))))else some (.inl (c.1.1,(c.1.2.1,(c.1.2.2.1,(c.1.2.2.2.1,(c.1.2.2.2.2.1,(c.1.2.2.2.2.2.1,(c.1.2.2.2.2.2.2.1,(c.1.2.2.2.2.2.2.2.1,(c.1.2.2.2.2.2.2.2.2.1,(c.1.2.2.2.2.2.2.2.2.2.1,(c.1.2.2.2.2.2.2.2.2.2.2.1,(c.1.2.2.2.2.2.2.2.2.2.2.2.1,(c.1.2.2.2.2.2.2.2.2.2.2.2.2.1,(c.1.2.2.2.2.2.2.2.2.2.2.2.2.2.1,(c.1.2.2.2.2.2.2.2.2.2.2.2.2.2.2.1,(c.1.2.2.2.2.2.2.2.2.2.2.2.2.2.2.2.1,(c.1.2.2.2.2.2.2.2.2.2.2.2.2.2.2.2.2.1,(c.1.2.2.2.2.2.2.2.2.2.2.2.2.2.2.2.2.2.1,(c.1.2.2.2.2.2.2.2.2.2.2.2.2.2.2.2.2.2.2.1,(c.1.2.2.2.2.2.2.2.2.2.2.2.2.2.2.2.2.2.2.2.1,())))))))))))))))))))))) λh=>Sum.elim (λa=>Option.bind (bif gA a.2.1 b.1.2.1 then bif gA a.2.2.2.2.2.2.2.2.2.1 b.2.1.1 then (Kl ((a.1,(a.2.1,(a.2.2.1,(a.2.2.2.1,(a.2.2.2.2.1,(a.2.2.2.2.2.1,(a.2.2.2.2.2.2.1,(a.2.2.2.2.2.2.2.1,(a.2.2.2.2.2.2.2.2.1,(a.2.2.2.2.2.2.2.2.2.1,(a.2.2.2.2.2.2.2.2.2.2.1,(a.2.2.2.2.2.2.2.2.2.2.2.1,(a.2.2.2.2.2.2.2.2.2.2.2.2.1,(a.2.2.2.2.2.2.2.2.2.2.2.2.2.1,(a.2.2.2.2.2.2.2.2.2.2.2.2.2.2.1,(a.2.2.2.2.2.2.2.2.2.2.2.2.2.2.2.1,(a.2.2.2.2.2.2.2.2.2.2.2.2.2.2.2.2.1,(a.2.2.2.2.2.2.2.2.2.2.2.2.2.2.2.2.2.1,(a.2.2.2.2.2.2.2.2.2.2.2.2.2.2.2.2.2.2.1,(a.2.2.2.2.2.2.2.2.2.2.2.2.2.2.2.2.2.2.2.1,())))))))))))))))))))),((a.2.2.2.2.2.2.2.2.1,(a.2.2.2.2.2.2.2.2.2.1,(a.2.2.2.2.2.2.2.2.2.2.1,()))),()))).bind λd=>some (.inl (d.1.1,(d.1.2.1,(d.1.2.2.1,(d.1.2.2.2.1,(d.1.2.2.2.2.1,(d.1.2.2.2.2.2.1,(d.1.2.2.2.2.2.2.1,(d.1.2.2.2.2.2.2.2.1,(d.1.2.2.2.2.2.2.2.2.1,(d.1.2.2.2.2.2.2.2.2.2.1,(d.1.2.2.2.2.2.2.2.2.2.2.1,(d.1.2.2.2.2.2.2.2.2.2.2.2.1,(d.1.2.2.2.2.2.2.2.2.2.2.2.2.1,(d.1.2.2.2.2.2.2.2.2.2.2.2.2.2.1,(d.1.2.2.2.2.2.2.2.2.2.2.2.2.2.2.1,(d.1.2.2.2.2.2.2.2.2.2.2.2.2.2.2.2.1,(d.1.2.2.2.2.2.2.2.2.2.2.2.2.2.2.2.2.1,(d.1.2.2.2.2.2.2.2.2.2.2.2.2.2.2.2.2.2.1,(d.1.2.2.2.2.2.2.2.2.2.2.2.2.2.2.2.2.2.2.1,(d.1.2.2.2.2.2.2.2.2.2.2.2.2.2.2.2.2.2.2.2.1,()))))))))))))))))))))) else some (.inl (a.1,(a.2.1,(a.2.2.1,(a.2.2.2.1,(a.2.2.2.2.1,(a.2.2.2.2.2.1,(a.2.2.2.2.2.2.1,(a.2.2.2.2.2.2.2.1,(a.2.2.2.2.2.2.2.2.1,(a.2.2.2.2.2.2.2.2.2.1,(a.2.2.2.2.2.2.2.2.2.2.1,(a.2.2.2.2.2.2.2.2.2.2.2.1,(a.2.2.2.2.2.2.2.2.2.2.2.2.1,(a.2.2.2.2.2.2.2.2.2.2.2.2.2.1,(a.2.2.2.2.2.2.2.2.2.2.2.2.2.2.1,(a.2.2.2.2.2.2.2.2.2.2.2.2.2.2.2.1,(a.2.2.2.2.2.2.2.2.2.2.2.2.2.2.2.2.1,(a.2.2.2.2.2.2.2.2.2.2.2.2.2.2.2.2.2.1,(a.2.2.2.2.2.2.2.2.2.2.2.2.2.2.2.2.2.2.1,(a.2.2.2.2.2.2.2.2.2.2.2.2.2.2.2.2.2.2.2.1,()))))))))))))))))))))) else some (.inl (a.1,(a.2.1,(a.2.2.1,(a.2.2.2.1,(a.2.2.2.2.1,(a.2.2.2.2.2.1,(a.2.2.2.2.2.2.1,(a.2.2.2.2.2.2.2.1,(a.2.2.2.2.2.2.2.2.1,(a.2.2.2.2.2.2.2.2.2.1,(a.2.2.2.2.2.2.2.2.2.2.1,(a.2.2.2.2.2.2.2.2.2.2.2.1,(a.2.2.2.2.2.2.2.2.2.2.2.2.1,(a.2.2.2.2.2.2.2.2.2.2.2.2.2.1,(a.2.2.2.2.2.2.2.2.2.2.2.2.2.2.1,(a.2.2.2.2.2.2.2.2.2.2.2.2.2.2.2.1,(a.2.2.2.2.2.2.2.2.2.2.2.2.2.2.2.2.1,(a.2.2.2.2.2.2.2.2.2.2.2.2.2.2.2.2.2.1,(a.2.2.2.2.2.2.2.2.2.2.2.2.2.2.2.2.2.2.1,(a.2.2.2.2.2.2.2.2.2.2.2.2.2.2.2.2.2.2.2.1,())))))))))))))))))))))) λi=>Sum.elim (λe=>some ((true,()),((e.1,(e.2.1,(e.2.2.1,(e.2.2.2.1,(e.2.2.2.2.1,(e.2.2.2.2.2.1,(e.2.2.2.2.2.2.1,(e.2.2.2.2.2.2.2.1,(e.2.2.2.2.2.2.2.2.1,(e.2.2.2.2.2.2.2.2.2.1,(e.2.2.2.2.2.2.2.2.2.2.1,(e.2.2.2.2.2.2.2.2.2.2.2.1,(e.2.2.2.2.2.2.2.2.2.2.2.2.1,(e.2.2.2.2.2.2.2.2.2.2.2.2.2.1,(e.2.2.2.2.2.2.2.2.2.2.2.2.2.2.1,(e.2.2.2.2.2.2.2.2.2.2.2.2.2.2.2.1,(e.2.2.2.2.2.2.2.2.2.2.2.2.2.2.2.2.1,(e.2.2.2.2.2.2.2.2.2.2.2.2.2.2.2.2.2.1,(e.2.2.2.2.2.2.2.2.2.2.2.2.2.2.2.2.2.2.1,(e.2.2.2.2.2.2.2.2.2.2.2.2.2.2.2.2.2.2.2.1,())))))))))))))))))))),()))) some i) some h
def aL9:zi:=⟨ad7,aL8,Km⟩
def aM0:Gs:=[Su,Ss]
def aM1:Gs:=[ab0]
def Iw.b0(c:(Fq×EP)):(b:(List (Eu)×gk))->Option (Sum (List (Eu)×gk) (Sum (List (Eu)×gk) (QB×Unit))):=λb=>bif dO b.2.1 (List.length c.1.2.2.2.2.1:Int)then (bK c.1.2.2.2.2.1 b.2.1).bind λe=>bif !ko e.1 c.1.1 then (Kf (c.2.1,())).bind λa=>(bK c.1.2.2.2.2.1 b.2.1).bind λd=>bif dE (List.length b.1+List.length ([(a.1.1,(d.1,(a.1.2.2.1,(a.1.2.2.2.1,(a.1.2.2.2.2.1,(a.1.2.2.2.2.2.1,(a.1.2.2.2.2.2.2.1,(a.1.2.2.2.2.2.2.2.1,(a.1.2.2.2.2.2.2.2.2.1,(a.1.2.2.2.2.2.2.2.2.2.1,(a.1.2.2.2.2.2.2.2.2.2.2.1,(a.1.2.2.2.2.2.2.2.2.2.2.2.1,(a.1.2.2.2.2.2.2.2.2.2.2.2.2.1,(a.1.2.2.2.2.2.2.2.2.2.2.2.2.2.1,(a.1.2.2.2.2.2.2.2.2.2.2.2.2.2.2.1,(a.1.2.2.2.2.2.2.2.2.2.2.2.2.2.2.2.1,()))))))))))))))))]:List (Eu))) 216 then some (.inl (bV b.1 ([(a.1.1,(d.1,(a.1.2.2.1,(a.1.2.2.2.1,(a.1.2.2.2.2.1,(a.1.2.2.2.2.2.1,(a.1.2.2.2.2.2.2.1,(a.1.2.2.2.2.2.2.2.1,(a.1.2.2.2.2.2.2.2.2.1,(a.1.2.2.2.2.2.2.2.2.2.1,(a.1.2.2.2.2.2.2.2.2.2.2.1,(a.1.2.2.2.2.2.2.2.2.2.2.2.1,(a.1.2.2.2.2.2.2.2.2.2.2.2.2.1,(a.1.2.2.2.2.2.2.2.2.2.2.2.2.2.1,(a.1.2.2.2.2.2.2.2.2.2.2.2.2.2.2.1,(a.1.2.2.2.2.2.2.2.2.2.2.2.2.2.2.2.1,()))))))))))))))))]:List (Eu)),(cM .i64 b.2.1 (1:Int),())))else none else some (.inl (b.1,(cM .i64 b.2.1 (1:Int),())))else some (.inr (.inl (b.1,(b.2.1,()))))
def Iw:(Fq×EP)->Option (QB×Unit):=λa=>(aR (Iw.b0 a) (([]:List (Eu)),((0:Int),()))).bind λb=>Sum.elim (λc=>some ((c.1,()),())) some b
def aM2:zi:=⟨aM0,aM1,Iw⟩
def aM3:Gs:=[Sf,⟨.c,(.cons (.sl H5) .nil),[]⟩,DO,DO]
def aM4:Gs:=[ab3,QE]
def Gw.b1(b:X9)(d:Qz):(a:Iq)->Option (Sum Iq (Sum Iq (Sum Qz (Sum Qz ((X1×i6)))))):=λa=>bif dO a.2.1 (List.length b.2.1.1:Int)then bif a.1 then some (.inl (true,(cM .i64 a.2.1 (1:Int),())))else (bK b.2.1.1 a.2.1).bind λc=>(bK b.1.1 d.1).bind λe=>some (.inl ((gA c.1 b.2.2.1.1)&&((gA c.2.1 b.2.2.2.1.1)&&(ko c.2.2.1 e.1)),(cM .i64 a.2.1 (1:Int),())))else some (.inr (.inl (a.1,(a.2.1,()))))
def Gw.b0(b:X9):(a:Qz)->Option (Sum Qz (Sum Qz ((X1×i6)))):=λa=>bif dO a.1 (List.length b.1.1:Int)then (aR (Gw.b1 b a) (false,((0:Int),()))).bind λe=>Sum.elim (λd=>bif d.1 then (bK b.1.1 a.1).bind λc=>bif dE (List.length a.2.1+List.length ([(c.1,())]:List (D9))) 16 then some (.inl (cM .i64 a.1 (1:Int),(bV a.2.1 ([(c.1,())]:List (D9)),())))else none else some (.inl (cM .i64 a.1 (1:Int),(a.2.1,())))) some e else some (.inr (.inl (a.1,(a.2.1,()))))
def Gw:X9->Option ((X1×i6)):=λa=>(aR (Gw.b0 a) ((0:Int),([],()))).bind λe=>Sum.elim (λb=>(LC (a.1,((a.2.2.1.1,(a.2.2.2.1.1,(b.2.1,()))),()))).bind λc=>bif (!c.1.1)then some (((0:Int),((0:Int),([],()))),((false,()),()))else (Lx ((a.2.2.1.1,(a.2.2.2.1.1,(b.2.1,()))),())).bind λd=>bif d.1.1 then some (((0:Int),((0:Int),([],()))),((false,()),()))else some ((a.2.2.1.1,(a.2.2.2.1.1,(b.2.1,()))),((true,()),()))) some e
def aM5:zi:=⟨aM3,aM4,Gw⟩
def aM6:Gs:=[Sg,Sv]
def aM7:=LF
def I4.b0(b:(Fq×(u6×Unit))):(a:Iq)->Option (Sum Iq (Sum Iq zd)):=λa=>bif dO a.2.1 (List.length b.1.2.2.2.2.2.2.2.2.2.2.2.2.2.2.2.1:Int)then bif a.1 then some (.inl (true,(cM .i64 a.2.1 (1:Int),())))else (bK b.1.2.2.2.2.2.2.2.2.2.2.2.2.2.2.2.1 a.2.1).bind λ_=>(aC b.1.2.2.2.2.2.2.2.2.2.2.2.2.2.2.2.1 (Int.toNat a.2.1)).bind λc=>some (.inl ((gA c.1 b.2.1.1)&&((gA c.2.1 b.2.1.2.1)&&(ko c.2.2.1 b.2.1.2.2.1)),(cM .i64 a.2.1 (1:Int),())))else some (.inr (.inl (a.1,(a.2.1,()))))
def I4:(Fq×(u6×Unit))->Option zd:=λa=>(GV ((a.1.2.2.2.2.1,()),((a.2.1.2.2.1,()),()))).bind λg=>bif (!g.1.1)then some (a.1,())else (aR (I4.b0 a) (false,((0:Int),()))).bind λd=>Sum.elim (λv4=>Option.bind (bif (!v4.1)then bif dO (List.length a.1.2.2.2.2.2.2.2.2.2.2.2.2.2.2.2.1:Int) (1000:Int)then bif dE (List.length a.1.2.2.2.2.2.2.2.2.2.2.2.2.2.2.2.1+List.length ([a.2.1]:List (u6))) 32 then some (.inl (bV a.1.2.2.2.2.2.2.2.2.2.2.2.2.2.2.2.1 ([a.2.1]:List (u6)),()))else none else some (.inl (a.1.2.2.2.2.2.2.2.2.2.2.2.2.2.2.2.1,()))else some (.inl (a.1.2.2.2.2.2.2.2.2.2.2.2.2.2.2.2.1,()))) λe=>Sum.elim (λb=>(Gw ((a.1.2.2.2.2.1,()),((b.1,()),((a.2.1.1,()),((a.2.1.2.1,()),()))))).bind λc=>bif c.2.1.1 then (Kl ((a.1.1,(a.1.2.1,(a.1.2.2.1,(a.1.2.2.2.1,(a.1.2.2.2.2.1,(a.1.2.2.2.2.2.1,(a.1.2.2.2.2.2.2.1,(a.1.2.2.2.2.2.2.2.1,(a.1.2.2.2.2.2.2.2.2.1,(a.1.2.2.2.2.2.2.2.2.2.1,(a.1.2.2.2.2.2.2.2.2.2.2.1,(a.1.2.2.2.2.2.2.2.2.2.2.2.1,(a.1.2.2.2.2.2.2.2.2.2.2.2.2.1,(a.1.2.2.2.2.2.2.2.2.2.2.2.2.2.1,(a.1.2.2.2.2.2.2.2.2.2.2.2.2.2.2.1,(b.1,(a.1.2.2.2.2.2.2.2.2.2.2.2.2.2.2.2.2.1,(a.1.2.2.2.2.2.2.2.2.2.2.2.2.2.2.2.2.2.1,(a.1.2.2.2.2.2.2.2.2.2.2.2.2.2.2.2.2.2.2.1,(a.1.2.2.2.2.2.2.2.2.2.2.2.2.2.2.2.2.2.2.2.1,())))))))))))))))))))),(c.1,()))).bind λf=>some (f.1,()) else some ((a.1.1,(a.1.2.1,(a.1.2.2.1,(a.1.2.2.2.1,(a.1.2.2.2.2.1,(a.1.2.2.2.2.2.1,(a.1.2.2.2.2.2.2.1,(a.1.2.2.2.2.2.2.2.1,(a.1.2.2.2.2.2.2.2.2.1,(a.1.2.2.2.2.2.2.2.2.2.1,(a.1.2.2.2.2.2.2.2.2.2.2.1,(a.1.2.2.2.2.2.2.2.2.2.2.2.1,(a.1.2.2.2.2.2.2.2.2.2.2.2.2.1,(a.1.2.2.2.2.2.2.2.2.2.2.2.2.2.1,(a.1.2.2.2.2.2.2.2.2.2.2.2.2.2.2.1,(b.1,(a.1.2.2.2.2.2.2.2.2.2.2.2.2.2.2.2.2.1,(a.1.2.2.2.2.2.2.2.2.2.2.2.2.2.2.2.2.2.1,(a.1.2.2.2.2.2.2.2.2.2.2.2.2.2.2.2.2.2.2.1,(a.1.2.2.2.2.2.2.2.2.2.2.2.2.2.2.2.2.2.2.2.1,())))))))))))))))))))),())) some e) some d
def aM8:zi:=⟨aM6,aM7,I4⟩
def ad8:Gs:=[DO,Sv]
def ad9:Gs:=[ab2]
def SG:(gk×(u6×Unit))->Option (tb×Unit):=λa=>some (((1:Int),(a.1.1,(a.2.1.1,(a.2.1.2.1,(a.2.1.2.2.1,()))))),())
def aM9:zi:=⟨ad8,ad9,SG⟩
def aN0:=ad7
def YD:Gs:=[ab0,St,Sg]
def QN:(Fq×Fs)->Option (Vu):=λb=>(Km (b.1,(b.2.1,()))).bind λa=>bif (!a.1.1)then some ((([]:List (Eu)),()),((([]:List (tb)),()),(a.2.1,())))else bif !gA a.2.1.2.1 b.1.2.1 then some ((([]:List (Eu)),()),((([]:List (tb)),()),(a.2.1,())))else bif !gA b.2.1.2.2.1 a.2.1.2.2.2.2.2.2.1 then some ((([]:List (Eu)),()),((([]:List (tb)),()),(a.2.1,())))else bif km b.2.1.2.2.1 a.2.1.2.2.2.2.2.2.2.1 then some ((([]:List (Eu)),()),((([]:List (tb)),()),(a.2.1,())))else (GV ((a.2.1.2.2.2.2.1,()),((a.2.1.1,()),()))).bind λe=>bif (!e.1.1)then some ((([]:List (Eu)),()),((([]:List (tb)),()),(a.2.1,())))else (Iw ((a.2.1.1,(a.2.1.2.1,(a.2.1.2.2.1,(a.2.1.2.2.2.1,(a.2.1.2.2.2.2.1,(a.2.1.2.2.2.2.2.1,(a.2.1.2.2.2.2.2.2.1,(b.2.1.2.2.1,(a.2.1.2.2.2.2.2.2.2.2.1,(a.2.1.2.2.2.2.2.2.2.2.2.1,(a.2.1.2.2.2.2.2.2.2.2.2.2.1,(a.2.1.2.2.2.2.2.2.2.2.2.2.2.1,(a.2.1.2.2.2.2.2.2.2.2.2.2.2.2.1,(a.2.1.2.2.2.2.2.2.2.2.2.2.2.2.2.1,(a.2.1.2.2.2.2.2.2.2.2.2.2.2.2.2.2.1,(a.2.1.2.2.2.2.2.2.2.2.2.2.2.2.2.2.2.1,(a.2.1.2.2.2.2.2.2.2.2.2.2.2.2.2.2.2.2.1,(a.2.1.2.2.2.2.2.2.2.2.2.2.2.2.2.2.2.2.2.1,(a.2.1.2.2.2.2.2.2.2.2.2.2.2.2.2.2.2.2.2.2.1,(a.2.1.2.2.2.2.2.2.2.2.2.2.2.2.2.2.2.2.2.2.2.1,())))))))))))))))))))),(((2:Int),(⟨#[]⟩,(a.2.1.2.1,([],(b.2.1.2.2.1,(b.2.1.1,(a.2.1.1,((0:Int),((0:Int),(⟨#[]⟩,((0:Int),((-1:Int),([],((0:Int),([],([],())))))))))))))))),()))).bind λc=>(I4 ((a.2.1.1,(a.2.1.2.1,(a.2.1.2.2.1,(a.2.1.2.2.2.1,(a.2.1.2.2.2.2.1,(a.2.1.2.2.2.2.2.1,(a.2.1.2.2.2.2.2.2.1,(b.2.1.2.2.1,(a.2.1.2.2.2.2.2.2.2.2.1,(a.2.1.2.2.2.2.2.2.2.2.2.1,(a.2.1.2.2.2.2.2.2.2.2.2.2.1,(a.2.1.2.2.2.2.2.2.2.2.2.2.2.1,(a.2.1.2.2.2.2.2.2.2.2.2.2.2.2.1,(a.2.1.2.2.2.2.2.2.2.2.2.2.2.2.2.1,(a.2.1.2.2.2.2.2.2.2.2.2.2.2.2.2.2.1,(a.2.1.2.2.2.2.2.2.2.2.2.2.2.2.2.2.2.1,(a.2.1.2.2.2.2.2.2.2.2.2.2.2.2.2.2.2.2.1,(a.2.1.2.2.2.2.2.2.2.2.2.2.2.2.2.2.2.2.2.1,(a.2.1.2.2.2.2.2.2.2.2.2.2.2.2.2.2.2.2.2.2.1,(a.2.1.2.2.2.2.2.2.2.2.2.2.2.2.2.2.2.2.2.2.2.1,())))))))))))))))))))),((b.2.1.2.2.1,(b.2.1.1,(a.2.1.1,()))),()))).bind λd=>(SG ((b.1.2.1,()),((b.2.1.2.2.1,(b.2.1.1,(a.2.1.1,()))),()))).bind λf=>some (c.1,((([f.1]:List (tb)),()),(d.1,())))
def aN1:zi:=⟨aN0,YD,QN⟩
def aN2:Gs:=[Sf,⟨.c,(.cons (.sl GP) .nil),[]⟩,DO]
def aN3:Gs:=[⟨.agg,e49,m6⟩,QE]
def Gx.b1(b:Ya)(c:Ol):(a:te)->Option (Sum te (Sum te (Sum Ol (Sum Ol ((Vs×i6)))))):=λa=>bif dO a.2.1 (List.length b.2.1.1:Int)then (bK b.2.1.1 a.2.1).bind λg=>bif gA g.1 b.2.2.1.1 then (bK b.2.1.1 a.2.1).bind λf=>(bK b.1.1 c.1).bind λh=>bif ko f.2.2.1 h.1 then (bK b.2.1.1 a.2.1).bind λd=>bif dO a.1 d.2.1 then (bK b.2.1.1 a.2.1).bind λe=>some (.inl (e.2.1,(cM .i64 a.2.1 (1:Int),())))else some (.inl (a.1,(cM .i64 a.2.1 (1:Int),())))else some (.inl (a.1,(cM .i64 a.2.1 (1:Int),())))else some (.inl (a.1,(cM .i64 a.2.1 (1:Int),())))else some (.inr (.inl (a.1,(a.2.1,()))))
def Gx.b0(c:Ya):(a:Ol)->Option (Sum Ol (Sum Ol ((Vs×i6)))):=λa=>bif dO a.1 (List.length c.1.1:Int)then (aR (Gx.b1 c a) ((-1:Int),((0:Int),()))).bind λe=>Sum.elim (λb=>bif km (0:Int) b.1 then (bK c.1.1 a.1).bind λd=>bif dE (List.length a.2.1+List.length ([(d.1,())]:List (D9))) 16 then bif dE (List.length a.2.2.1+List.length ([(b.1,())]:List (D3))) 8 then some (.inl (cM .i64 a.1 (1:Int),(bV a.2.1 ([(d.1,())]:List (D9)),(bV a.2.2.1 ([(b.1,())]:List (D3)),())))) else none else none else some (.inl (cM .i64 a.1 (1:Int),(a.2.1,(a.2.2.1,()))))) some e else some (.inr (.inl (a.1,(a.2.1,(a.2.2.1,())))))
def Gx:Ya->Option ((Vs×i6)):=λb=>(aR (Gx.b0 b) ((0:Int),([],([],())))).bind λe=>Sum.elim (λa=>(Iv (b.1,((b.2.2.1.1,(a.2.1,(a.2.2.1,()))),()))).bind λd=>bif (!d.1.1)then some (((0:Int),([],([],()))),((false,()),()))else (Is ((b.2.2.1.1,(a.2.1,(a.2.2.1,()))),())).bind λc=>bif c.1.1 then some (((0:Int),([],([],()))),((false,()),()))else some ((b.2.2.1.1,(a.2.1,(a.2.2.1,()))),((true,()),()))) some e
def aN4:zi:=⟨aN2,aN3,Gx⟩
def aN5:Gs:=[Sg,Sv,IZ]
def aN6:=LF
def Ix.b0(b:zd)(a:(Fq×(u6×Fi))):(v4:Iq)->Option (Sum Iq (Sum Iq zd)):=λv4=>bif dO v4.2.1 (List.length b.1.2.2.2.2.2.2.2.2.2.2.2.2.2.2.2.2.1:Int)then bif v4.1 then some (.inl (true,(cM .i64 v4.2.1 (1:Int),())))else (bK b.1.2.2.2.2.2.2.2.2.2.2.2.2.2.2.2.2.1 v4.2.1).bind λ_=>(aC b.1.2.2.2.2.2.2.2.2.2.2.2.2.2.2.2.2.1 (Int.toNat v4.2.1)).bind λc=>some (.inl ((gA c.1 a.2.1.1)&&((gA c.2.1 a.2.1.2.1)&&(ko c.2.2.1 a.2.1.2.2.1)),(cM .i64 v4.2.1 (1:Int),())))else some (.inr (.inl (v4.1,(v4.2.1,()))))
def Ix:(Fq×(u6×Fi))->Option zd:=λb=>(GV ((b.1.2.2.2.2.1,()),((b.2.1.2.2.1,()),()))).bind λj=>bif (!j.1.1)then some (b.1,())else (LC ((b.1.2.2.2.2.1,()),(b.2.2.1,()))).bind λi=>bif (!i.1.1)then some (b.1,())else (Kl (b.1,(b.2.2.1,()))).bind λa=>bif !gA a.1.2.1 b.1.2.1 then some (a.1,())else (aR (Ix.b0 a b) (false,((0:Int),()))).bind λh=>Sum.elim (λg=>Option.bind (bif (!g.1)then bif dO (List.length a.1.2.2.2.2.2.2.2.2.2.2.2.2.2.2.2.2.1:Int) (1000:Int)then bif dE (List.length a.1.2.2.2.2.2.2.2.2.2.2.2.2.2.2.2.2.1+List.length ([b.2.1]:List (sd))) 32 then some (.inl (bV a.1.2.2.2.2.2.2.2.2.2.2.2.2.2.2.2.2.1 ([b.2.1]:List (sd)),()))else none else some (.inl (a.1.2.2.2.2.2.2.2.2.2.2.2.2.2.2.2.2.1,()))else some (.inl (a.1.2.2.2.2.2.2.2.2.2.2.2.2.2.2.2.2.1,()))) λf=>Sum.elim (λc=>(Gx ((a.1.2.2.2.2.1,()),((c.1,()),((b.2.1.1,()),())))).bind λd=>bif d.2.1.1 then (OH ((a.1.1,(a.1.2.1,(a.1.2.2.1,(a.1.2.2.2.1,(a.1.2.2.2.2.1,(a.1.2.2.2.2.2.1,(a.1.2.2.2.2.2.2.1,(a.1.2.2.2.2.2.2.2.1,(a.1.2.2.2.2.2.2.2.2.1,(a.1.2.2.2.2.2.2.2.2.2.1,(a.1.2.2.2.2.2.2.2.2.2.2.1,(a.1.2.2.2.2.2.2.2.2.2.2.2.1,(a.1.2.2.2.2.2.2.2.2.2.2.2.2.1,(a.1.2.2.2.2.2.2.2.2.2.2.2.2.2.1,(a.1.2.2.2.2.2.2.2.2.2.2.2.2.2.2.1,(a.1.2.2.2.2.2.2.2.2.2.2.2.2.2.2.2.1,(c.1,(a.1.2.2.2.2.2.2.2.2.2.2.2.2.2.2.2.2.2.1,(a.1.2.2.2.2.2.2.2.2.2.2.2.2.2.2.2.2.2.2.1,(a.1.2.2.2.2.2.2.2.2.2.2.2.2.2.2.2.2.2.2.2.1,())))))))))))))))))))),(d.1,()))).bind λe=>some (e.1,()) else some ((a.1.1,(a.1.2.1,(a.1.2.2.1,(a.1.2.2.2.1,(a.1.2.2.2.2.1,(a.1.2.2.2.2.2.1,(a.1.2.2.2.2.2.2.1,(a.1.2.2.2.2.2.2.2.1,(a.1.2.2.2.2.2.2.2.2.1,(a.1.2.2.2.2.2.2.2.2.2.1,(a.1.2.2.2.2.2.2.2.2.2.2.1,(a.1.2.2.2.2.2.2.2.2.2.2.2.1,(a.1.2.2.2.2.2.2.2.2.2.2.2.2.1,(a.1.2.2.2.2.2.2.2.2.2.2.2.2.2.1,(a.1.2.2.2.2.2.2.2.2.2.2.2.2.2.2.1,(a.1.2.2.2.2.2.2.2.2.2.2.2.2.2.2.2.1,(c.1,(a.1.2.2.2.2.2.2.2.2.2.2.2.2.2.2.2.2.2.1,(a.1.2.2.2.2.2.2.2.2.2.2.2.2.2.2.2.2.2.2.1,(a.1.2.2.2.2.2.2.2.2.2.2.2.2.2.2.2.2.2.2.2.1,())))))))))))))))))))),())) some f) some h
def aN7:zi:=⟨aN5,aN6,Ix⟩
def ae0:Gs:=[Sg,Ss]
def aN8:=LF
def Iy.b0(c:(Fq×EP)):(a:X4)->Option (Sum X4 (Sum X4 zd)):=λa=>bif dO a.1 (List.length c.2.1.2.2.2.1:Int)then bif gA a.2.2.1 c.2.1.2.2.1 then (bK c.2.1.2.2.2.1 a.1).bind λd=>(Km ((a.2.1,(a.2.2.1,(a.2.2.2.1,(a.2.2.2.2.1,(a.2.2.2.2.2.1,(a.2.2.2.2.2.2.1,(a.2.2.2.2.2.2.2.1,(a.2.2.2.2.2.2.2.2.1,(a.2.2.2.2.2.2.2.2.2.1,(a.2.2.2.2.2.2.2.2.2.2.1,(a.2.2.2.2.2.2.2.2.2.2.2.1,(a.2.2.2.2.2.2.2.2.2.2.2.2.1,(a.2.2.2.2.2.2.2.2.2.2.2.2.2.1,(a.2.2.2.2.2.2.2.2.2.2.2.2.2.2.1,(a.2.2.2.2.2.2.2.2.2.2.2.2.2.2.2.1,(a.2.2.2.2.2.2.2.2.2.2.2.2.2.2.2.2.1,(a.2.2.2.2.2.2.2.2.2.2.2.2.2.2.2.2.2.1,(a.2.2.2.2.2.2.2.2.2.2.2.2.2.2.2.2.2.2.1,(a.2.2.2.2.2.2.2.2.2.2.2.2.2.2.2.2.2.2.2.1,(a.2.2.2.2.2.2.2.2.2.2.2.2.2.2.2.2.2.2.2.2.1,())))))))))))))))))))),(d,()))).bind λb=>some (.inl (cM .i64 a.1 (1:Int),(b.2.1.1,(b.2.1.2.1,(b.2.1.2.2.1,(b.2.1.2.2.2.1,(b.2.1.2.2.2.2.1,(b.2.1.2.2.2.2.2.1,(b.2.1.2.2.2.2.2.2.1,(b.2.1.2.2.2.2.2.2.2.1,(b.2.1.2.2.2.2.2.2.2.2.1,(b.2.1.2.2.2.2.2.2.2.2.2.1,(b.2.1.2.2.2.2.2.2.2.2.2.2.1,(b.2.1.2.2.2.2.2.2.2.2.2.2.2.1,(b.2.1.2.2.2.2.2.2.2.2.2.2.2.2.1,(b.2.1.2.2.2.2.2.2.2.2.2.2.2.2.2.1,(b.2.1.2.2.2.2.2.2.2.2.2.2.2.2.2.2.1,(b.2.1.2.2.2.2.2.2.2.2.2.2.2.2.2.2.2.1,(b.2.1.2.2.2.2.2.2.2.2.2.2.2.2.2.2.2.2.1,(b.2.1.2.2.2.2.2.2.2.2.2.2.2.2.2.2.2.2.2.1,(b.2.1.2.2.2.2.2.2.2.2.2.2.2.2.2.2.2.2.2.2.1,(b.2.1.2.2.2.2.2.2.2.2.2.2.2.2.2.2.2.2.2.2.2.1,()))))))))))))))))))))))else some (.inr (.inl (a.1,(a.2.1,(a.2.2.1,(a.2.2.2.1,(a.2.2.2.2.1,(a.2.2.2.2.2.1,(a.2.2.2.2.2.2.1,(a.2.2.2.2.2.2.2.1,(a.2.2.2.2.2.2.2.2.1,(a.2.2.2.2.2.2.2.2.2.1,(a.2.2.2.2.2.2.2.2.2.2.1,(a.2.2.2.2.2.2.2.2.2.2.2.1,(a.2.2.2.2.2.2.2.2.2.2.2.2.1,(a.2.2.2.2.2.2.2.2.2.2.2.2.2.1,(a.2.2.2.2.2.2.2.2.2.2.2.2.2.2.1,(a.2.2.2.2.2.2.2.2.2.2.2.2.2.2.2.1,(a.2.2.2.2.2.2.2.2.2.2.2.2.2.2.2.2.1,(a.2.2.2.2.2.2.2.2.2.2.2.2.2.2.2.2.2.1,(a.2.2.2.2.2.2.2.2.2.2.2.2.2.2.2.2.2.2.1,(a.2.2.2.2.2.2.2.2.2.2.2.2.2.2.2.2.2.2.2.1,(a.2.2.2.2.2.2.2.2.2.2.2.2.2.2.2.2.2.2.2.2.1,())))))))))))))))))))))))else some (.inr (.inl (a.1,(a.2.1,(a.2.2.1,(a.2.2.2.1,(a.2.2.2.2.1,(a.2.2.2.2.2.1,(a.2.2.2.2.2.2.1,(a.2.2.2.2.2.2.2.1,(a.2.2.2.2.2.2.2.2.1,(a.2.2.2.2.2.2.2.2.2.1,(a.2.2.2.2.2.2.2.2.2.2.1,(a.2.2.2.2.2.2.2.2.2.2.2.1,(a.2.2.2.2.2.2.2.2.2.2.2.2.1,(a.2.2.2.2.2.2.2.2.2.2.2.2.2.1,(a.2.2.2.2.2.2.2.2.2.2.2.2.2.2.1,(a.2.2.2.2.2.2.2.2.2.2.2.2.2.2.2.1,(a.2.2.2.2.2.2.2.2.2.2.2.2.2.2.2.2.1,(a.2.2.2.2.2.2.2.2.2.2.2.2.2.2.2.2.2.1,(a.2.2.2.2.2.2.2.2.2.2.2.2.2.2.2.2.2.2.1,(a.2.2.2.2.2.2.2.2.2.2.2.2.2.2.2.2.2.2.2.1,(a.2.2.2.2.2.2.2.2.2.2.2.2.2.2.2.2.2.2.2.2.1,())))))))))))))))))))))))
def Iy:(Fq×EP)->Option zd:=λb=>(aR (Iy.b0 b) ((0:Int),(b.1.1,(b.1.2.1,(b.1.2.2.1,(b.1.2.2.2.1,(b.1.2.2.2.2.1,(b.1.2.2.2.2.2.1,(b.1.2.2.2.2.2.2.1,(b.1.2.2.2.2.2.2.2.1,(b.1.2.2.2.2.2.2.2.2.1,(b.1.2.2.2.2.2.2.2.2.2.1,(b.1.2.2.2.2.2.2.2.2.2.2.1,(b.1.2.2.2.2.2.2.2.2.2.2.2.1,(b.1.2.2.2.2.2.2.2.2.2.2.2.2.1,(b.1.2.2.2.2.2.2.2.2.2.2.2.2.2.1,(b.1.2.2.2.2.2.2.2.2.2.2.2.2.2.2.1,(b.1.2.2.2.2.2.2.2.2.2.2.2.2.2.2.2.1,(b.1.2.2.2.2.2.2.2.2.2.2.2.2.2.2.2.2.1,(b.1.2.2.2.2.2.2.2.2.2.2.2.2.2.2.2.2.2.1,(b.1.2.2.2.2.2.2.2.2.2.2.2.2.2.2.2.2.2.2.1,(b.1.2.2.2.2.2.2.2.2.2.2.2.2.2.2.2.2.2.2.2.1,())))))))))))))))))))))).bind λg=>Sum.elim (λv4=>Option.bind (bif gA v4.2.2.1 b.2.1.2.2.1 then (LC ((v4.2.2.2.2.2.1,()),((b.2.1.2.2.2.2.2.2.2.2.2.2.1,(b.2.1.2.2.2.2.2.2.2.2.2.2.2.1,(b.2.1.2.2.2.2.2.2.2.2.2.2.2.2.1,()))),()))).bind λh=>bif h.1.1 then (Kl ((v4.2.1,(v4.2.2.1,(v4.2.2.2.1,(v4.2.2.2.2.1,(v4.2.2.2.2.2.1,(v4.2.2.2.2.2.2.1,(v4.2.2.2.2.2.2.2.1,(v4.2.2.2.2.2.2.2.2.1,(v4.2.2.2.2.2.2.2.2.2.1,(v4.2.2.2.2.2.2.2.2.2.2.1,(v4.2.2.2.2.2.2.2.2.2.2.2.1,(v4.2.2.2.2.2.2.2.2.2.2.2.2.1,(v4.2.2.2.2.2.2.2.2.2.2.2.2.2.1,(v4.2.2.2.2.2.2.2.2.2.2.2.2.2.2.1,(v4.2.2.2.2.2.2.2.2.2.2.2.2.2.2.2.1,(v4.2.2.2.2.2.2.2.2.2.2.2.2.2.2.2.2.1,(v4.2.2.2.2.2.2.2.2.2.2.2.2.2.2.2.2.2.1,(v4.2.2.2.2.2.2.2.2.2.2.2.2.2.2.2.2.2.2.1,(v4.2.2.2.2.2.2.2.2.2.2.2.2.2.2.2.2.2.2.2.1,(v4.2.2.2.2.2.2.2.2.2.2.2.2.2.2.2.2.2.2.2.2.1,())))))))))))))))))))),((b.2.1.2.2.2.2.2.2.2.2.2.2.1,(b.2.1.2.2.2.2.2.2.2.2.2.2.2.1,(b.2.1.2.2.2.2.2.2.2.2.2.2.2.2.1,()))),()))).bind λc=>some (.inl (c.1.1,(c.1.2.1,(c.1.2.2.1,(c.1.2.2.2.1,(c.1.2.2.2.2.1,(c.1.2.2.2.2.2.1,(c.1.2.2.2.2.2.2.1,(c.1.2.2.2.2.2.2.2.1,(c.1.2.2.2.2.2.2.2.2.1,(c.1.2.2.2.2.2.2.2.2.2.1,(c.1.2.2.2.2.2.2.2.2.2.2.1,(c.1.2.2.2.2.2.2.2.2.2.2.2.1,(c.1.2.2.2.2.2.2.2.2.2.2.2.2.1,(c.1.2.2.2.2.2.2.2.2.2.2.2.2.2.1,(c.1.2.2.2.2.2.2.2.2.2.2.2.2.2.2.1,(c.1.2.2.2.2.2.2.2.2.2.2.2.2.2.2.2.1,(c.1.2.2.2.2.2.2.2.2.2.2.2.2.2.2.2.2.1,(c.1.2.2.2.2.2.2.2.2.2.2.2.2.2.2.2.2.2.1,(c.1.2.2.2.2.2.2.2.2.2.2.2.2.2.2.2.2.2.2.1,(c.1.2.2.2.2.2.2.2.2.2.2.2.2.2.2.2.2.2.2.2.1,())))))))))))))))))))))else some (.inl (v4.2.1,(v4.2.2.1,(v4.2.2.2.1,(v4.2.2.2.2.1,(v4.2.2.2.2.2.1,(v4.2.2.2.2.2.2.1,(v4.2.2.2.2.2.2.2.1,(v4.2.2.2.2.2.2.2.2.1,(v4.2.2.2.2.2.2.2.2.2.1,(v4.2.2.2.2.2.2.2.2.2.2.1,(v4.2.2.2.2.2.2.2.2.2.2.2.1,(v4.2.2.2.2.2.2.2.2.2.2.2.2.1,(v4.2.2.2.2.2.2.2.2.2.2.2.2.2.1,(v4.2.2.2.2.2.2.2.2.2.2.2.2.2.2.1,(v4.2.2.2.2.2.2.2.2.2.2.2.2.2.2.2.1,(v4.2.2.2.2.2.2.2.2.2.2.2.2.2.2.2.2.1,(v4.2.2.2.2.2.2.2.2.2.2.2.2.2.2.2.2.2.1,(v4.2.2.2.2.2.2.2.2.2.2.2.2.2.2.2.2.2.2.1,(v4.2.2.2.2.2.2.2.2.2.2.2.2.2.2.2.2.2.2.2.1,(v4.2.2.2.2.2.2.2.2.2.2.2.2.2.2.2.2.2.2.2.2.1,())))))))))))))))))))))else some (.inl (v4.2.1,(v4.2.2.1,(v4.2.2.2.1,(v4.2.2.2.2.1,(v4.2.2.2.2.2.1,(v4.2.2.2.2.2.2.1,(v4.2.2.2.2.2.2.2.1,(v4.2.2.2.2.2.2.2.2.1,(v4.2.2.2.2.2.2.2.2.2.1,(v4.2.2.2.2.2.2.2.2.2.2.1,(v4.2.2.2.2.2.2.2.2.2.2.2.1,(v4.2.2.2.2.2.2.2.2.2.2.2.2.1,(v4.2.2.2.2.2.2.2.2.2.2.2.2.2.1,(v4.2.2.2.2.2.2.2.2.2.2.2.2.2.2.1,(v4.2.2.2.2.2.2.2.2.2.2.2.2.2.2.2.1,(v4.2.2.2.2.2.2.2.2.2.2.2.2.2.2.2.2.1,(v4.2.2.2.2.2.2.2.2.2.2.2.2.2.2.2.2.2.1,(v4.2.2.2.2.2.2.2.2.2.2.2.2.2.2.2.2.2.2.1,(v4.2.2.2.2.2.2.2.2.2.2.2.2.2.2.2.2.2.2.2.1,(v4.2.2.2.2.2.2.2.2.2.2.2.2.2.2.2.2.2.2.2.2.1,())))))))))))))))))))))) λf=>Sum.elim (λa=>bif gA a.2.1 b.2.1.2.2.1 then (Iv ((a.2.2.2.2.1,()),((b.2.1.2.2.2.2.2.2.2.2.2.2.2.2.2.1,(b.2.1.2.2.2.2.2.2.2.2.2.2.2.2.2.2.1,(b.2.1.2.2.2.2.2.2.2.2.2.2.2.2.2.2.2.1,()))),()))).bind λd=>bif d.1.1 then (OH ((a.1,(a.2.1,(a.2.2.1,(a.2.2.2.1,(a.2.2.2.2.1,(a.2.2.2.2.2.1,(a.2.2.2.2.2.2.1,(a.2.2.2.2.2.2.2.1,(a.2.2.2.2.2.2.2.2.1,(a.2.2.2.2.2.2.2.2.2.1,(a.2.2.2.2.2.2.2.2.2.2.1,(a.2.2.2.2.2.2.2.2.2.2.2.1,(a.2.2.2.2.2.2.2.2.2.2.2.2.1,(a.2.2.2.2.2.2.2.2.2.2.2.2.2.1,(a.2.2.2.2.2.2.2.2.2.2.2.2.2.2.1,(a.2.2.2.2.2.2.2.2.2.2.2.2.2.2.2.1,(a.2.2.2.2.2.2.2.2.2.2.2.2.2.2.2.2.1,(a.2.2.2.2.2.2.2.2.2.2.2.2.2.2.2.2.2.1,(a.2.2.2.2.2.2.2.2.2.2.2.2.2.2.2.2.2.2.1,(a.2.2.2.2.2.2.2.2.2.2.2.2.2.2.2.2.2.2.2.1,())))))))))))))))))))),((b.2.1.2.2.2.2.2.2.2.2.2.2.2.2.2.1,(b.2.1.2.2.2.2.2.2.2.2.2.2.2.2.2.2.1,(b.2.1.2.2.2.2.2.2.2.2.2.2.2.2.2.2.2.1,()))),()))).bind λe=>some (e.1,()) else some ((a.1,(a.2.1,(a.2.2.1,(a.2.2.2.1,(a.2.2.2.2.1,(a.2.2.2.2.2.1,(a.2.2.2.2.2.2.1,(a.2.2.2.2.2.2.2.1,(a.2.2.2.2.2.2.2.2.1,(a.2.2.2.2.2.2.2.2.2.1,(a.2.2.2.2.2.2.2.2.2.2.1,(a.2.2.2.2.2.2.2.2.2.2.2.1,(a.2.2.2.2.2.2.2.2.2.2.2.2.1,(a.2.2.2.2.2.2.2.2.2.2.2.2.2.1,(a.2.2.2.2.2.2.2.2.2.2.2.2.2.2.1,(a.2.2.2.2.2.2.2.2.2.2.2.2.2.2.2.1,(a.2.2.2.2.2.2.2.2.2.2.2.2.2.2.2.2.1,(a.2.2.2.2.2.2.2.2.2.2.2.2.2.2.2.2.2.1,(a.2.2.2.2.2.2.2.2.2.2.2.2.2.2.2.2.2.2.1,(a.2.2.2.2.2.2.2.2.2.2.2.2.2.2.2.2.2.2.2.1,())))))))))))))))))))),()) else some ((a.1,(a.2.1,(a.2.2.1,(a.2.2.2.1,(a.2.2.2.2.1,(a.2.2.2.2.2.1,(a.2.2.2.2.2.2.1,(a.2.2.2.2.2.2.2.1,(a.2.2.2.2.2.2.2.2.1,(a.2.2.2.2.2.2.2.2.2.1,(a.2.2.2.2.2.2.2.2.2.2.1,(a.2.2.2.2.2.2.2.2.2.2.2.1,(a.2.2.2.2.2.2.2.2.2.2.2.2.1,(a.2.2.2.2.2.2.2.2.2.2.2.2.2.1,(a.2.2.2.2.2.2.2.2.2.2.2.2.2.2.1,(a.2.2.2.2.2.2.2.2.2.2.2.2.2.2.2.1,(a.2.2.2.2.2.2.2.2.2.2.2.2.2.2.2.2.1,(a.2.2.2.2.2.2.2.2.2.2.2.2.2.2.2.2.2.1,(a.2.2.2.2.2.2.2.2.2.2.2.2.2.2.2.2.2.2.1,(a.2.2.2.2.2.2.2.2.2.2.2.2.2.2.2.2.2.2.2.1,())))))))))))))))))))),())) some f) some g
def aN9:zi:=⟨ae0,aN8,Iy⟩
def aO0:=ae0
def aO1:=YD
def VU:(Fq×EP)->Option (Vu):=λe=>Option.bind (bif gA e.2.1.1 (1:Int)then (bK e.2.1.2.2.2.1 (0:Int)).bind λg=>(QN (e.1,(g,()))).bind λf=>some (.inr (f.1,(f.2.1,(f.2.2.1,()))))else bif gA e.2.1.1 (2:Int)then (I4 (e.1,((e.2.1.2.2.2.2.1,(e.2.1.2.2.2.2.2.1,(e.2.1.2.2.2.2.2.2.1,()))),()))).bind λa=>some (.inl (a.1.1,(a.1.2.1,(a.1.2.2.1,(a.1.2.2.2.1,(a.1.2.2.2.2.1,(a.1.2.2.2.2.2.1,(a.1.2.2.2.2.2.2.1,(a.1.2.2.2.2.2.2.2.1,(a.1.2.2.2.2.2.2.2.2.1,(a.1.2.2.2.2.2.2.2.2.2.1,(a.1.2.2.2.2.2.2.2.2.2.2.1,(a.1.2.2.2.2.2.2.2.2.2.2.2.1,(a.1.2.2.2.2.2.2.2.2.2.2.2.2.1,(a.1.2.2.2.2.2.2.2.2.2.2.2.2.2.1,(a.1.2.2.2.2.2.2.2.2.2.2.2.2.2.2.1,(a.1.2.2.2.2.2.2.2.2.2.2.2.2.2.2.2.1,(a.1.2.2.2.2.2.2.2.2.2.2.2.2.2.2.2.2.1,(a.1.2.2.2.2.2.2.2.2.2.2.2.2.2.2.2.2.2.1,(a.1.2.2.2.2.2.2.2.2.2.2.2.2.2.2.2.2.2.2.1,(a.1.2.2.2.2.2.2.2.2.2.2.2.2.2.2.2.2.2.2.2.1,())))))))))))))))))))))else bif gA e.2.1.1 (3:Int)then (Ix (e.1,((e.2.1.2.2.2.2.2.2.2.1,(e.2.1.2.2.2.2.2.2.2.2.1,(e.2.1.2.2.2.2.2.2.2.2.2.1,()))),((e.2.1.2.2.2.2.2.2.2.2.2.2.1,(e.2.1.2.2.2.2.2.2.2.2.2.2.2.1,(e.2.1.2.2.2.2.2.2.2.2.2.2.2.2.1,()))),())))).bind λc=>some (.inl (c.1.1,(c.1.2.1,(c.1.2.2.1,(c.1.2.2.2.1,(c.1.2.2.2.2.1,(c.1.2.2.2.2.2.1,(c.1.2.2.2.2.2.2.1,(c.1.2.2.2.2.2.2.2.1,(c.1.2.2.2.2.2.2.2.2.1,(c.1.2.2.2.2.2.2.2.2.2.1,(c.1.2.2.2.2.2.2.2.2.2.2.1,(c.1.2.2.2.2.2.2.2.2.2.2.2.1,(c.1.2.2.2.2.2.2.2.2.2.2.2.2.1,(c.1.2.2.2.2.2.2.2.2.2.2.2.2.2.1,(c.1.2.2.2.2.2.2.2.2.2.2.2.2.2.2.1,(c.1.2.2.2.2.2.2.2.2.2.2.2.2.2.2.2.1,(c.1.2.2.2.2.2.2.2.2.2.2.2.2.2.2.2.2.1,(c.1.2.2.2.2.2.2.2.2.2.2.2.2.2.2.2.2.2.1,(c.1.2.2.2.2.2.2.2.2.2.2.2.2.2.2.2.2.2.2.1,(c.1.2.2.2.2.2.2.2.2.2.2.2.2.2.2.2.2.2.2.2.1,())))))))))))))))))))))else (Iy (e.1,(e.2.1,()))).bind λd=>some (.inl (d.1.1,(d.1.2.1,(d.1.2.2.1,(d.1.2.2.2.1,(d.1.2.2.2.2.1,(d.1.2.2.2.2.2.1,(d.1.2.2.2.2.2.2.1,(d.1.2.2.2.2.2.2.2.1,(d.1.2.2.2.2.2.2.2.2.1,(d.1.2.2.2.2.2.2.2.2.2.1,(d.1.2.2.2.2.2.2.2.2.2.2.1,(d.1.2.2.2.2.2.2.2.2.2.2.2.1,(d.1.2.2.2.2.2.2.2.2.2.2.2.2.1,(d.1.2.2.2.2.2.2.2.2.2.2.2.2.2.1,(d.1.2.2.2.2.2.2.2.2.2.2.2.2.2.2.1,(d.1.2.2.2.2.2.2.2.2.2.2.2.2.2.2.2.1,(d.1.2.2.2.2.2.2.2.2.2.2.2.2.2.2.2.2.1,(d.1.2.2.2.2.2.2.2.2.2.2.2.2.2.2.2.2.2.1,(d.1.2.2.2.2.2.2.2.2.2.2.2.2.2.2.2.2.2.2.1,(d.1.2.2.2.2.2.2.2.2.2.2.2.2.2.2.2.2.2.2.2.1,())))))))))))))))))))))) λh=>Sum.elim (λb=>some ((([]:List (Eu)),()),((([]:List (tb)),()),((b.1,(b.2.1,(b.2.2.1,(b.2.2.2.1,(b.2.2.2.2.1,(b.2.2.2.2.2.1,(b.2.2.2.2.2.2.1,(b.2.2.2.2.2.2.2.1,(b.2.2.2.2.2.2.2.2.1,(b.2.2.2.2.2.2.2.2.2.1,(b.2.2.2.2.2.2.2.2.2.2.1,(b.2.2.2.2.2.2.2.2.2.2.2.1,(b.2.2.2.2.2.2.2.2.2.2.2.2.1,(b.2.2.2.2.2.2.2.2.2.2.2.2.2.1,(b.2.2.2.2.2.2.2.2.2.2.2.2.2.2.1,(b.2.2.2.2.2.2.2.2.2.2.2.2.2.2.2.1,(b.2.2.2.2.2.2.2.2.2.2.2.2.2.2.2.2.1,(b.2.2.2.2.2.2.2.2.2.2.2.2.2.2.2.2.2.1,(b.2.2.2.2.2.2.2.2.2.2.2.2.2.2.2.2.2.2.1,(b.2.2.2.2.2.2.2.2.2.2.2.2.2.2.2.2.2.2.2.1,())))))))))))))))))))),())))) some h
def aO2:zi:=⟨aO0,aO1,VU⟩
def aO3:Gs:=[Yn,ab2]
def aO4:=o7
def Kn.b0(a:(J7×(tb×Unit))):(c:gk)->Option tm:=λc=>bif dO c.1 (List.length a.1.1:Int)then(bK a.1.1 c.1).bind λb=>bif(gA b.1 a.2.1.1)&&((gA b.2.1 a.2.1.2.1)&&((gA b.2.2.1 a.2.1.2.2.1)&&((gA b.2.2.2.1 a.2.1.2.2.2.1)&&(ko b.2.2.2.2.1 a.2.1.2.2.2.2.1))))then some (.inr (.inr ((true,()),())))else some (.inl (cM .i64 c.1 (1:Int),()))else some (.inr (.inl (c.1,())))
def Kn:(J7×(tb×Unit))->Option i6:=λa=>(aR (Kn.b0 a) ((0:Int),())).bind λb=>Sum.elim (λv3=>some ((false,()),())) some b
def aO5:zi:=⟨aO3,aO4,Kn⟩
def aO6:Gs:=[MH,ab4,Yn]
def ae1:Gs:=[MH]
def zl.b0(b:(H6×(QB×ME))):(a:Ye)->Option (Sum Ye (Sum Ye mu)):=λa=>bif dO a.1 (List.length b.2.1.1:Int)then (bK b.2.1.1 a.1).bind λd=>(QL ((b.1.1,(b.1.2.1,(b.1.2.2.1,(b.1.2.2.2.1,(b.1.2.2.2.2.1,(b.1.2.2.2.2.2.1,(a.2.1,()))))))),((d.2.1,()),()))).bind λe=>bif km (0:Int) e.1.1 then bif dO (List.length a.2.1:Int) (400:Int) then (bK b.2.1.1 a.1).bind λc=>bif dE (List.length a.2.1+List.length ([c]:List (Eu))) 216 then some (.inl (cM .i64 a.1 (1:Int),(bV a.2.1 ([c]:List (Eu)),()))) else none else some (.inl (cM .i64 a.1 (1:Int),(a.2.1,()))) else some (.inl (cM .i64 a.1 (1:Int),(a.2.1,()))) else some (.inr (.inl (a.1,(a.2.1,()))))
def zl.b1(b:(H6×(QB×ME))):(a:Yh)->Option (Sum Yh (Sum Yh mu)):=λa=>bif dO a.1 (List.length b.2.2.1.1:Int)then (bK b.2.2.1.1 a.1).bind λd=>(Kn ((a.2.1,()),(d,()))).bind λe=>bif (!e.1.1)then (bK b.2.2.1.1 a.1).bind λc=>bif dE (List.length a.2.1+List.length ([c]:List (tb))) 48 then some (.inl (cM .i64 a.1 (1:Int),(bV a.2.1 ([c]:List (tb)),())))else none else some (.inl (cM .i64 a.1 (1:Int),(a.2.1,())))else some (.inr (.inl (a.1,(a.2.1,()))))
def zl:(H6×(QB×ME))->Option mu:=λa=>(aR (zl.b0 a) ((0:Int),(a.1.2.2.2.2.2.2.1,()))).bind λe=>Sum.elim (λd=>(aR (zl.b1 a) ((0:Int),(a.1.2.2.2.2.2.1,()))).bind λc=>Sum.elim (λb=>some ((a.1.1,(a.1.2.1,(a.1.2.2.1,(a.1.2.2.2.1,(a.1.2.2.2.2.1,(b.2.1,(d.2.1,()))))))),())) some c) some e
def aO7:zi:=⟨aO6,ae1,zl⟩
def ae2:Gs:=[MH,Ss]
def aO8:=ae1
def VV:(H6×EP)->Option mu:=λa=>(QL (a.1,((a.2.1.2.1,()),()))).bind λb=>(bK a.1.2.2.2.1 b.1.1).bind λ_=>(aC a.1.2.2.2.1 (Int.toNat b.1.1)).bind λf=>bif gA f.2.1 a.2.1.2.2.1 then (aC a.1.2.2.2.1 (Int.toNat b.1.1)).bind λg=>(VU (g,(a.2.1,()))).bind λc=>(some (List.set a.1.2.2.2.1 (Int.toNat b.1.1) c.2.2.1)).bind λd=>(zl ((a.1.1,(a.1.2.1,(a.1.2.2.1,(d,(a.1.2.2.2.2.1,(a.1.2.2.2.2.2.1,(a.1.2.2.2.2.2.2.1,()))))))),(c.1,(c.2.1,())))).bind λe=>some (e.1,()) else some (a.1,())
def aO9:zi:=⟨ae2,aO8,VV⟩
def ae3:Gs:=[MH,⟨.agg,X3,[]⟩]
def OI:Gs:=[QE,MH]
def VX:(H6×(Sp×Unit))->Option Lp:=λa=>(k8 ((a.2.1.2.1,()),(((0:Int),()),((gS .i64 (List.length a.1.2.2.2.2.2.2.1:Int) (1:Int),()),())))).bind λh=>bif (!h.1.1)then some ((false,()),(a.1,()))else (bK a.1.2.2.2.2.2.2.1 a.2.1.2.1).bind λ_=>(aC a.1.2.2.2.2.2.2.1 (Int.toNat a.2.1.2.1)).bind λd=>bif gA a.2.1.1 (8:Int)then Option.bind (bif dO (List.length a.1.2.2.2.2.2.2.1:Int) (400:Int)then (Kf (d,())).bind λe=>bif dE (List.length a.1.2.2.2.2.2.2.1+List.length ([e.1]:List (Eu))) 216 then some (.inl (bV a.1.2.2.2.2.2.2.1 ([e.1]:List (Eu)),()))else none else some (.inl (a.1.2.2.2.2.2.2.1,()))) λf=>Sum.elim (λv4=>some ((true,()),((a.1.1,(a.1.2.1,(a.1.2.2.1,(a.1.2.2.2.1,(a.1.2.2.2.2.1,(a.1.2.2.2.2.2.1,(v4.1,()))))))),()))) some f else bif mX a.2.1.2.1 (List.length a.1.2.2.2.2.2.2.1) then bif dE (List.length ([]:List (Eu))+List.length (List.take ((Int.toNat a.2.1.2.1)-0) (List.drop 0 a.1.2.2.2.2.2.2.1))) 216 then bif mX (cM .i64 a.2.1.2.1 (1:Int)) (List.length a.1.2.2.2.2.2.2.1) then bif dE (List.length (bV ([]:List (Eu)) (List.take ((Int.toNat a.2.1.2.1)-0) (List.drop 0 a.1.2.2.2.2.2.2.1)))+List.length (List.take ((List.length a.1.2.2.2.2.2.2.1)-(Int.toNat (cM .i64 a.2.1.2.1 (1:Int)))) (List.drop (Int.toNat (cM .i64 a.2.1.2.1 (1:Int))) a.1.2.2.2.2.2.2.1))) 216 then Option.bind (bif gA a.2.1.1 (6:Int) then (VV ((a.1.1,(a.1.2.1,(a.1.2.2.1,(a.1.2.2.2.1,(a.1.2.2.2.2.1,(a.1.2.2.2.2.2.1,(bV (bV ([]:List (Eu)) (List.take ((Int.toNat a.2.1.2.1)-0) (List.drop 0 a.1.2.2.2.2.2.2.1))) (List.take ((List.length a.1.2.2.2.2.2.2.1)-(Int.toNat (cM .i64 a.2.1.2.1 (1:Int)))) (List.drop (Int.toNat (cM .i64 a.2.1.2.1 (1:Int))) a.1.2.2.2.2.2.2.1)),()))))))),(d,()))).bind λb=>some (.inl (b.1.1,(b.1.2.1,(b.1.2.2.1,(b.1.2.2.2.1,(b.1.2.2.2.2.1,(b.1.2.2.2.2.2.1,(b.1.2.2.2.2.2.2.1,())))))))) else some (.inl (a.1.1,(a.1.2.1,(a.1.2.2.1,(a.1.2.2.2.1,(a.1.2.2.2.2.1,(a.1.2.2.2.2.2.1,(bV (bV ([]:List (Eu)) (List.take ((Int.toNat a.2.1.2.1)-0) (List.drop 0 a.1.2.2.2.2.2.2.1))) (List.take ((List.length a.1.2.2.2.2.2.2.1)-(Int.toNat (cM .i64 a.2.1.2.1 (1:Int)))) (List.drop (Int.toNat (cM .i64 a.2.1.2.1 (1:Int))) a.1.2.2.2.2.2.2.1)),()))))))))) λg=>Sum.elim (λc=>some ((true,()),((c.1,(c.2.1,(c.2.2.1,(c.2.2.2.1,(c.2.2.2.2.1,(c.2.2.2.2.2.1,(c.2.2.2.2.2.2.1,()))))))),()))) some g else none else none else none else none
def aP0:zi:=⟨ae3,OI,VX⟩
def aP1:=SF
def aP2:=o7
def LG.b0(a:EP):(v3:gk)->Option tm:=λv3=>bif dO v3.1 (List.length a.1.2.2.2.1:Int)then(bK a.1.2.2.2.1 v3.1).bind λc=>(Px (c,())).bind λd=>bif (!d.1.1)then some (.inr (.inr ((false,()),())))else (bK a.1.2.2.2.1 v3.1).bind λb=>bif !gA b.2.1 a.1.2.2.1 then some (.inr (.inr ((false,()),())))else some (.inl (cM .i64 v3.1 (1:Int),()))else some (.inr (.inl (v3.1,())))
def LG:EP->Option i6:=λa=>Option.bind (bif gA a.1.1 (1:Int)then some (.inl ((1:Int),()))else bif gA a.1.1 (4:Int)then some (.inl ((400:Int),()))else some (.inl ((0:Int),()))) λd=>Sum.elim (λb=>(aR (LG.b0 a) ((0:Int),())).bind λc=>Sum.elim (λe=>bif km (List.length a.1.2.2.2.1:Int) b.1 then bif !gA a.1.1 (1:Int) then some ((true,()),()) else some ((gA (List.length a.1.2.2.2.1:Int) (1:Int),()),()) else some ((false,()),())) some c) some d
def aP3:zi:=⟨aP1,aP2,LG⟩
def aP4:=Sz
def aP5:=o7
def Iz.b0(a:Ft):(v4:gk)->Option tm:=λv4=>bif dO v4.1 (List.length a.1.2.2.1:Int)then(bK a.1.2.2.1 v4.1).bind λc=>(k8 (c,(((0:Int),()),((gS .i64 a.1.1 (1:Int),()),())))).bind λb=>bif (!b.1.1)then some (.inr (.inr ((false,()),())))else some (.inl (cM .i64 v4.1 (1:Int),()))else some (.inr (.inl (v4.1,())))
def Iz:Ft->Option i6:=λa=>(Is (a.1,())).bind λe=>bif e.1.1 then some ((true,()),())else (k8 ((a.1.1,()),(((1:Int),()),(((10000:Int),()),())))).bind λd=>bif (!d.1.1)then some ((false,()),())else (Oz ((a.1.2.1,()),())).bind λc=>bif (!c.1.1)then some ((false,()),())else bif !gA (List.length a.1.2.2.1:Int) (List.length a.1.2.1:Int)then some ((false,()),())else (aR (Iz.b0 a) ((0:Int),())).bind λb=>Sum.elim (λf=>some ((true,()),())) some b
def aP6:zi:=⟨aP4,aP5,Iz⟩
def aP7:=VJ
def aP8:=o7
def SH:Fi->Option i6:=λa=>(Lx (a.1,())).bind λe=>bif e.1.1 then some ((true,()),())else (k8 ((a.1.1,()),(((1:Int),()),(((10000:Int),()),())))).bind λd=>bif d.1.1 then (k8 ((a.1.2.1,()),(((0:Int),()),(((100000:Int),()),())))).bind λb=>bif b.1.1 then (Oz ((a.1.2.2.1,()),())).bind λc=>some (c.1,())else some ((false,()),())else some ((false,()),())
def aP9:zi:=⟨aP7,aP8,SH⟩
def i72:=SF
def o72:=o7
def F72:EP->Option i6:=λa=>(ES ((a.1.2.1,()),())).bind λr=>bif (!r.1.1)then some ((false,()),())else (k8 ((a.1.2.2.1,()),(((0:Int),()),(((900:Int),()),())))).bind λu=>bif (!u.1.1)then some ((false,()),())else (k8 ((a.1.1,()),(((1:Int),()),(((4:Int),()),())))).bind λo=>bif (!o.1.1)then some ((false,()),())else (LG (a.1,())).bind λq=>bif (!q.1.1)then some ((false,()),())else Option.bind (bif gA a.1.1 (2:Int)then (k8 ((a.1.2.2.2.2.1,()),(((1:Int),()),(((10000:Int),()),())))).bind λv=>bif v.1.1 then (k8 ((a.1.2.2.2.2.2.1,()),(((0:Int),()),(((100000:Int),()),())))).bind λn=>bif n.1.1 then (ES ((a.1.2.2.2.2.2.2.1,()),())).bind λs=>some (.inl (s.1.1,((gA a.1.2.2.2.2.2.2.2.1 (0:Int))&&((gA a.1.2.2.2.2.2.2.2.2.1 (0:Int))&&(ko a.1.2.2.2.2.2.2.2.2.2.1 ⟨#[]⟩)),())))else some (.inl (false,((gA a.1.2.2.2.2.2.2.2.1 (0:Int))&&((gA a.1.2.2.2.2.2.2.2.2.1 (0:Int))&&(ko a.1.2.2.2.2.2.2.2.2.2.1 ⟨#[]⟩)),())))else some (.inl (false,((gA a.1.2.2.2.2.2.2.2.1 (0:Int))&&((gA a.1.2.2.2.2.2.2.2.2.1 (0:Int))&&(ko a.1.2.2.2.2.2.2.2.2.2.1 ⟨#[]⟩)),())))else bif gA a.1.1 (3:Int)then (k8 ((a.1.2.2.2.2.2.2.2.1,()),(((1:Int),()),(((10000:Int),()),())))).bind λp=>bif p.1.1 then (k8 ((a.1.2.2.2.2.2.2.2.2.1,()),(((0:Int),()),((gS .i64 a.1.2.2.2.2.2.2.2.1 (1:Int),()),())))).bind λt=>bif t.1.1 then bif gA a.1.2.2.2.2.2.2.2.2.1 a.1.2.2.2.2.2.2.2.2.2.2.1 then (ES ((a.1.2.2.2.2.2.2.2.2.2.1,()),())).bind λg=>some (.inl ((gA a.1.2.2.2.2.1 (0:Int))&&((gA a.1.2.2.2.2.2.1 (0:Int))&&(ko a.1.2.2.2.2.2.2.1 ⟨#[]⟩)),(g.1.1,())))else some (.inl ((gA a.1.2.2.2.2.1 (0:Int))&&((gA a.1.2.2.2.2.2.1 (0:Int))&&(ko a.1.2.2.2.2.2.2.1 ⟨#[]⟩)),(false,())))else some (.inl ((gA a.1.2.2.2.2.1 (0:Int))&&((gA a.1.2.2.2.2.2.1 (0:Int))&&(ko a.1.2.2.2.2.2.2.1 ⟨#[]⟩)),(false,())))else some (.inl ((gA a.1.2.2.2.2.1 (0:Int))&&((gA a.1.2.2.2.2.2.1 (0:Int))&&(ko a.1.2.2.2.2.2.2.1 ⟨#[]⟩)),(false,())))else some (.inl ((gA a.1.2.2.2.2.1 (0:Int))&&((gA a.1.2.2.2.2.2.1 (0:Int))&&(ko a.1.2.2.2.2.2.2.1 ⟨#[]⟩)),((gA a.1.2.2.2.2.2.2.2.1 (0:Int))&&((gA a.1.2.2.2.2.2.2.2.2.1 (0:Int))&&(ko a.1.2.2.2.2.2.2.2.2.2.1 ⟨#[]⟩)),())))) λd=>Sum.elim (λb=>bif b.1 then bif b.2.1 then (Lx ((a.1.2.2.2.2.2.2.2.2.2.2.1,(a.1.2.2.2.2.2.2.2.2.2.2.2.1,(a.1.2.2.2.2.2.2.2.2.2.2.2.2.1,()))),())).bind λi=>bif i.1.1 then (Is ((a.1.2.2.2.2.2.2.2.2.2.2.2.2.2.1,(a.1.2.2.2.2.2.2.2.2.2.2.2.2.2.2.1,(a.1.2.2.2.2.2.2.2.2.2.2.2.2.2.2.2.1,()))),())).bind λj=>bif j.1.1 then some ((true,()),()) else bif gA a.1.1 (4:Int) then (Iz ((a.1.2.2.2.2.2.2.2.2.2.2.2.2.2.1,(a.1.2.2.2.2.2.2.2.2.2.2.2.2.2.2.1,(a.1.2.2.2.2.2.2.2.2.2.2.2.2.2.2.2.1,()))),())).bind λl=>some (l.1,()) else some ((false,()),()) else bif gA a.1.1 (4:Int) then (SH ((a.1.2.2.2.2.2.2.2.2.2.2.1,(a.1.2.2.2.2.2.2.2.2.2.2.2.1,(a.1.2.2.2.2.2.2.2.2.2.2.2.2.1,()))),())).bind λf=>bif f.1.1 then (Is ((a.1.2.2.2.2.2.2.2.2.2.2.2.2.2.1,(a.1.2.2.2.2.2.2.2.2.2.2.2.2.2.2.1,(a.1.2.2.2.2.2.2.2.2.2.2.2.2.2.2.2.1,()))),())).bind λe=>bif e.1.1 then some ((true,()),()) else bif gA a.1.1 (4:Int) then (Iz ((a.1.2.2.2.2.2.2.2.2.2.2.2.2.2.1,(a.1.2.2.2.2.2.2.2.2.2.2.2.2.2.2.1,(a.1.2.2.2.2.2.2.2.2.2.2.2.2.2.2.2.1,()))),())).bind λh=>some (h.1,()) else some ((false,()),()) else some ((false,()),()) else bif gA a.1.1 (3:Int) then (SH ((a.1.2.2.2.2.2.2.2.2.2.2.1,(a.1.2.2.2.2.2.2.2.2.2.2.2.1,(a.1.2.2.2.2.2.2.2.2.2.2.2.2.1,()))),())).bind λm=>bif m.1.1 then (Is ((a.1.2.2.2.2.2.2.2.2.2.2.2.2.2.1,(a.1.2.2.2.2.2.2.2.2.2.2.2.2.2.2.1,(a.1.2.2.2.2.2.2.2.2.2.2.2.2.2.2.2.1,()))),())).bind λk=>bif k.1.1 then some ((true,()),()) else bif gA a.1.1 (4:Int) then (Iz ((a.1.2.2.2.2.2.2.2.2.2.2.2.2.2.1,(a.1.2.2.2.2.2.2.2.2.2.2.2.2.2.2.1,(a.1.2.2.2.2.2.2.2.2.2.2.2.2.2.2.2.1,()))),())).bind λc=>some (c.1,()) else some ((false,()),()) else some ((false,()),()) else some ((false,()),()) else some ((false,()),()) else some ((false,()),())) some d
def c72:zi:=⟨i72,o72,F72⟩
def aQ0:=ad8
def aQ1:=ad9
def SJ:(gk×(u6×Unit))->Option (tb×Unit):=λa=>some (((2:Int),(a.1.1,(a.2.1.1,(a.2.1.2.1,(a.2.1.2.2.1,()))))),())
def aQ2:zi:=⟨aQ0,aQ1,SJ⟩
def aQ3:Gs:=[St,DO,IZ]
def YE:Gs:=[St]
def Ko.b0(a:(J7×(gk×Fi))):(b:(List (tb)×gk))->Option Yb:=λb=>bif dO b.2.1 (List.length a.2.2.1.2.2.1:Int)then (bK a.2.2.1.2.2.1 b.2.1).bind λc=>bif dE (List.length b.1+List.length ([((1:Int),(a.2.1.1,(a.2.2.1.1,(a.2.2.1.2.1,(c.1,())))))]:List (tb))) 48 then some (.inl (bV b.1 ([((1:Int),(a.2.1.1,(a.2.2.1.1,(a.2.2.1.2.1,(c.1,())))))]:List (tb)),(cM .i64 b.2.1 (1:Int),())))else none else some (.inr (.inl (b.1,(b.2.1,()))))
def Ko:(J7×(gk×Fi))->Option ME:=λa=>(aR (Ko.b0 a) (a.1.1,((0:Int),()))).bind λb=>Sum.elim (λv3=>some ((v3.1,()),())) some b
def aQ4:zi:=⟨aQ3,YE,Ko⟩
def aQ5:Gs:=[St,DO,Ov]
def aQ6:=YE
def Kp.b0(b:(J7×(gk×Ft))):(a:(List (tb)×gk))->Option Yb:=λa=>bif dO a.2.1 (List.length b.2.2.1.2.1:Int)then bif dO a.2.1 (List.length b.2.2.1.2.2.1:Int)then (bK b.2.2.1.2.2.1 a.2.1).bind λc=>(bK b.2.2.1.2.1 a.2.1).bind λd=>bif dE (List.length a.1+List.length ([((2:Int),(b.2.1.1,(b.2.2.1.1,(c.1,(d.1,())))))]:List (tb))) 48 then some (.inl (bV a.1 ([((2:Int),(b.2.1.1,(b.2.2.1.1,(c.1,(d.1,())))))]:List (tb)),(cM .i64 a.2.1 (1:Int),())))else none else some (.inr (.inl (a.1,(a.2.1,()))))else some (.inr (.inl (a.1,(a.2.1,()))))
def Kp:(J7×(gk×Ft))->Option ME:=λa=>(aR (Kp.b0 a) (a.1.1,((0:Int),()))).bind λb=>Sum.elim (λv4=>some ((v4.1,()),())) some b
def aQ7:zi:=⟨aQ5,aQ6,Kp⟩
def aQ8:=SF
def aQ9:=YE
def LH.b0(b:EP):(a:(List (tb)×gk))->Option Yb:=λa=>bif dO a.2.1 (List.length b.1.2.2.2.1:Int)then (bK b.1.2.2.2.1 a.2.1).bind λd=>(Ko ((a.1,()),((b.1.2.2.1,()),((d.2.2.2.2.1,(d.2.2.2.2.2.1,(d.2.2.2.2.2.2.1,()))),())))).bind λe=>(bK b.1.2.2.2.1 a.2.1).bind λc=>(Kp (e.1,((b.1.2.2.1,()),((c.2.2.2.2.2.2.2.1,(c.2.2.2.2.2.2.2.2.1,(c.2.2.2.2.2.2.2.2.2.1,()))),())))).bind λf=>some (.inl (f.1.1,(cM .i64 a.2.1 (1:Int),())))else some (.inr (.inl (a.1,(a.2.1,()))))
def LH:EP->Option ME:=λa=>Option.bind (bif !ko a.1.2.2.2.2.2.2.1 ⟨#[]⟩then(SG ((a.1.2.2.1,()),((a.1.2.2.2.2.1,(a.1.2.2.2.2.2.1,(a.1.2.2.2.2.2.2.1,()))),()))).bind λd=>bif dE (List.length ([]:List (tb))+List.length ([d.1]:List (tb))) 48 then some (.inl (bV ([]:List (tb)) ([d.1]:List (tb)),()))else none else some (.inl (([]:List (tb)),()))) λg=>Sum.elim (λb=>Option.bind (bif !ko a.1.2.2.2.2.2.2.2.2.2.1 ⟨#[]⟩then (SJ ((a.1.2.2.1,()),((a.1.2.2.2.2.2.2.2.1,(a.1.2.2.2.2.2.2.2.2.1,(a.1.2.2.2.2.2.2.2.2.2.1,()))),()))).bind λc=>bif dE (List.length b.1+List.length ([c.1]:List (tb))) 48 then some (.inl (bV b.1 ([c.1]:List (tb)),())) else none else some (.inl (b.1,()))) λj=>Sum.elim (λh=>(Ko ((h.1,()),((a.1.2.2.1,()),((a.1.2.2.2.2.2.2.2.2.2.2.1,(a.1.2.2.2.2.2.2.2.2.2.2.2.1,(a.1.2.2.2.2.2.2.2.2.2.2.2.2.1,()))),())))).bind λk=>(Kp (k.1,((a.1.2.2.1,()),((a.1.2.2.2.2.2.2.2.2.2.2.2.2.2.1,(a.1.2.2.2.2.2.2.2.2.2.2.2.2.2.2.1,(a.1.2.2.2.2.2.2.2.2.2.2.2.2.2.2.2.1,()))),())))).bind λi=>(aR (LH.b0 a) (i.1.1,((0:Int),()))).bind λe=>Sum.elim (λf=>some ((f.1,()),())) some e) some j) some g
def aR0:zi:=⟨aQ8,aQ9,LH⟩
def aR1:Gs:=[Yn,Xz,Ss]
def aR2:=o7
def LI.b0(b:ME)(c:(J7×(Im×EP))):(a:gk)->Option tm:=λa=>bif dO a.1 (List.length b.1.1:Int)then(bK b.1.1 a.1).bind λ_=>(aC b.1.1 (Int.toNat a.1)).bind λf=>(Gq (c.2.1,((f.2.2.2.2.1,()),()))).bind λe=>bif (!e.1.1)then (bK b.1.1 a.1).bind λ_=>(aC b.1.1 (Int.toNat a.1)).bind λg=>(Kn (c.1,(g,()))).bind λd=>bif (!d.1.1)then some (.inr (.inr ((false,()),())))else some (.inl (cM .i64 a.1 (1:Int),()))else some (.inl (cM .i64 a.1 (1:Int),()))else some (.inr (.inl (a.1,())))
def LI:(J7×(Im×EP))->Option i6:=λa=>(LH (a.2.2.1,())).bind λb=>(aR (LI.b0 b a) ((0:Int),())).bind λc=>Sum.elim (λd=>some ((true,()),())) some c
def aR3:zi:=⟨aR1,aR2,LI⟩
def ae5:Gs:=[Xz,Xz]
def aR4:=o7
def LJ.b0(b:(Im×MB)):(a:gk)->Option tm:=λa=>bif dO a.1 (List.length b.1.1:Int)then(bK b.1.1 a.1).bind λc=>(bK b.2.1.1 a.1).bind λd=>bif !ko c.1 d.1 then some (.inr (.inr ((false,()),())))else some (.inl (cM .i64 a.1 (1:Int),()))else some (.inr (.inl (a.1,())))
def LJ:(Im×MB)->Option i6:=λa=>bif !gA (List.length a.1.1:Int) (List.length a.2.1.1:Int)then some ((false,()),())else (aR (LJ.b0 a) ((0:Int),())).bind λb=>Sum.elim (λv4=>some ((true,()),())) some b
def aR5:zi:=⟨ae5,aR4,LJ⟩
def ae6:Gs:=[IZ,IZ]
def aR6:=o7
def YF:(X1×Fi)->Option i6:=λa=>bif gA a.1.1 a.2.1.1 then bif gA a.1.2.1 a.2.1.2.1 then(LJ ((a.1.2.2.1,()),((a.2.1.2.2.1,()),()))).bind λb=>some (b.1,())else some ((false,()),())else some ((false,()),())
def aR7:zi:=⟨ae6,aR6,YF⟩
def ae7:Gs:=[Ov,Ov]
def aR8:=o7
def MP.b0(b:(Vs×Ft)):(a:gk)->Option tm:=λa=>bif dO a.1 (List.length b.1.2.2.1:Int)then(bK b.1.2.2.1 a.1).bind λd=>(bK b.2.1.2.2.1 a.1).bind λc=>bif !gA d.1 c.1 then some (.inr (.inr ((false,()),())))else some (.inl (cM .i64 a.1 (1:Int),()))else some (.inr (.inl (a.1,())))
def MP:(Vs×Ft)->Option i6:=λa=>bif !gA a.1.1 a.2.1.1 then some ((false,()),())else (LJ ((a.1.2.1,()),((a.2.1.2.1,()),()))).bind λc=>bif (!c.1.1)then some ((false,()),())else bif !gA (List.length a.1.2.2.1:Int) (List.length a.2.1.2.2.1:Int)then some ((false,()),())else (aR (MP.b0 a) ((0:Int),())).bind λb=>Sum.elim (λd=>some ((true,()),())) some b
def aR9:zi:=⟨ae7,aR8,MP⟩
def ae8:Gs:=[Ow,Ow]
def aS0:=o7
def MQ.b0(d:(Gp×Fg)):(a:gk)->Option tm:=λa=>bif dO a.1 (List.length d.1.1:Int)then(bK d.1.1 a.1).bind λb=>(bK d.2.1.1 a.1).bind λc=>bif !((gA b.1 c.1)&&((ko b.2.1 c.2.1)&&((ko b.2.2.1 c.2.2.1)&&((gA b.2.2.2.1 c.2.2.2.1)&&(gA b.2.2.2.2.1 c.2.2.2.2.1)))))then some (.inr (.inr ((false,()),())))else some (.inl (cM .i64 a.1 (1:Int),()))else some (.inr (.inl (a.1,())))
def MQ:(Gp×Fg)->Option i6:=λa=>bif !gA (List.length a.1.1:Int) (List.length a.2.1.1:Int)then some ((false,()),())else (aR (MQ.b0 a) ((0:Int),())).bind λb=>Sum.elim (λv4=>some ((true,()),())) some b
def aS1:zi:=⟨ae8,aS0,MQ⟩
def ae9:Gs:=[Ou,Ou]
def aS2:=o7
def QO:(vv×Fs)->Option i6:=λa=>bif gA a.1.1 a.2.1.1 then bif gA a.1.2.1 a.2.1.2.1 then bif gA a.1.2.2.1 a.2.1.2.2.1 then bif ko a.1.2.2.2.1 a.2.1.2.2.2.1 then(YF ((a.1.2.2.2.2.1,(a.1.2.2.2.2.2.1,(a.1.2.2.2.2.2.2.1,()))),((a.2.1.2.2.2.2.1,(a.2.1.2.2.2.2.2.1,(a.2.1.2.2.2.2.2.2.1,()))),()))).bind λe=>bif e.1.1 then (MP ((a.1.2.2.2.2.2.2.2.1,(a.1.2.2.2.2.2.2.2.2.1,(a.1.2.2.2.2.2.2.2.2.2.1,()))),((a.2.1.2.2.2.2.2.2.2.1,(a.2.1.2.2.2.2.2.2.2.2.1,(a.2.1.2.2.2.2.2.2.2.2.2.1,()))),()))).bind λd=>bif d.1.1 then (MQ ((a.1.2.2.2.2.2.2.2.2.2.2.1,()),((a.2.1.2.2.2.2.2.2.2.2.2.2.1,()),()))).bind λb=>bif b.1.1 then bif wo a.1.2.2.2.2.2.2.2.2.2.2.2.1 a.2.1.2.2.2.2.2.2.2.2.2.2.2.1 then (LD ((a.1.2.2.2.2.2.2.2.2.2.2.2.2.1,()),((a.2.1.2.2.2.2.2.2.2.2.2.2.2.2.1,()),()))).bind λc=>bif c.1.1 then some ((ko a.1.2.2.2.2.2.2.2.2.2.2.2.2.2.1 a.2.1.2.2.2.2.2.2.2.2.2.2.2.2.2.1,()),())else some ((false,()),())else some ((false,()),())else some ((false,()),())else some ((false,()),())else some ((false,()),())else some ((false,()),())else some ((false,()),())else some ((false,()),())else some ((false,()),())
def aS3:zi:=⟨ae9,aS2,QO⟩
def aS4:=ae2
def aS5:=OI
def zs.b1(c:(H6×EP)):(a:Lo)->Option (Sum Lo (Sum Lo Lp)):=λa=>bif dO a.2.1 (List.length c.2.1.2.2.2.1:Int)then (bK c.2.1.2.2.2.1 a.2.1).bind λb=>bif dO b.1 (List.length a.1:Int)then (bK a.1 b.1).bind λ_=>(aC a.1 (Int.toNat b.1)).bind λf=>(QO (f,(b,()))).bind λg=>bif (!g.1.1)then some (.inr (.inr ((false,()),(c.1,()))))else some (.inl (a.1,(cM .i64 a.2.1 (1:Int),())))else bif gA b.1 (List.length a.1:Int)then (Gq ((c.1.2.2.1,()),((b.2.2.2.1,()),()))).bind λe=>bif e.1.1 then bif dO (List.length a.1:Int) (1000:Int)then bif dE (List.length ([]:List (vv))+List.length a.1) 208 then (I2 (b,())).bind λd=>bif dE (List.length (bV ([]:List (vv)) a.1)+List.length ([d.1]:List (vv))) 208 then some (.inl (bV (bV ([]:List (vv)) a.1) ([d.1]:List (vv)),(cM .i64 a.2.1 (1:Int),()))) else none else none else some (.inr (.inr ((false,()),(c.1,())))) else some (.inr (.inr ((false,()),(c.1,())))) else some (.inr (.inr ((false,()),(c.1,())))) else some (.inr (.inl (a.1,(a.2.1,()))))
def zs.b0(a:(H6×EP)):(v4:gk)->Option (Sum gk (Sum gk Lp)):=λv4=>bif dO v4.1 (List.length a.2.1.2.2.2.1:Int)then (bK a.2.1.2.2.2.1 v4.1).bind λb=>bif dO b.1 (List.length a.1.2.2.2.2.1:Int)then (bK a.1.2.2.2.2.1 b.1).bind λ_=>(aC a.1.2.2.2.2.1 (Int.toNat b.1)).bind λh=>(QO (h,(b,()))).bind λj=>bif (!j.1.1)then some (.inr (.inr ((false,()),(a.1,()))))else some (.inl (cM .i64 v4.1 (1:Int),()))else bif gA b.1 (List.length a.1.2.2.2.2.1:Int)then (Gq ((a.1.2.2.1,()),((b.2.2.2.1,()),()))).bind λi=>bif i.1.1 then bif dO (List.length a.1.2.2.2.2.1:Int) (1000:Int)then bif dE (List.length ([]:List (vv))+List.length a.1.2.2.2.2.1) 208 then (I2 (b,())).bind λc=>bif dE (List.length (bV ([]:List (vv)) a.1.2.2.2.2.1)+List.length ([c.1]:List (vv))) 208 then Option.map (λq=>.inr (.inr q)) ((aR (zs.b1 a) (bV (bV ([]:List (vv)) a.1.2.2.2.2.1) ([c.1]:List (vv)),(cM .i64 v4.1 (1:Int),()))).bind λg=>Sum.elim (λf=>(Kf (a.2.1,())).bind λd=>(zl ((a.1.1,(a.1.2.1,(a.1.2.2.1,(a.1.2.2.2.1,(f.1,(a.1.2.2.2.2.2.1,(a.1.2.2.2.2.2.2.1,()))))))),((([d.1]:List (Eu)),()),((([]:List (tb)),()),())))).bind λe=>some ((true,()),(e.1,()))) some g) else none else none else some (.inr (.inr ((false,()),(a.1,())))) else some (.inr (.inr ((false,()),(a.1,())))) else some (.inr (.inr ((false,()),(a.1,())))) else some (.inr (.inl (v4.1,())))
def zs:(H6×EP)->Option Lp:=λa=>(F72 (a.2.1,())).bind λg=>bif (!g.1.1)then some ((false,()),(a.1,()))else (QL (a.1,((a.2.1.2.1,()),()))).bind λf=>bif dO f.1.1 (0:Int)then some ((false,()),(a.1,()))else (LI ((a.1.2.2.2.2.2.1,()),((a.1.2.2.1,()),(a.2.1,())))).bind λe=>bif (!e.1.1)then some ((false,()),(a.1,()))else (aR (zs.b0 a) ((0:Int),())).bind λb=>Sum.elim (λh=>(Kf (a.2.1,())).bind λd=>(zl (a.1,((([d.1]:List (Eu)),()),((([]:List (tb)),()),())))).bind λc=>some ((true,()),(c.1,()))) some b
def aS6:zi:=⟨aS4,aS5,zs⟩
def aS7:Gs:=[Sg,DO]
def aS8:Gs:=[Ym,ab4,St,Sg]
def VY:(Fq×sz)->Option ((Qy×Vu)):=λa=>Option.bind ((Lv ((a.1.2.2.2.2.1,()),((a.1.2.2.2.2.2.2.1,()),()))).bind λj=>bif !ko j.1.1 a.1.1 then some (.inr ((([]:List (vv)),()),((([]:List (Eu)),()),((([]:List (tb)),()),(a.1,())))))else bif km a.1.2.2.2.2.2.2.1 a.1.2.2.2.2.2.2.2.2.2.2.2.2.2.2.1 then some (.inr ((([]:List (vv)),()),((([]:List (Eu)),()),((([]:List (tb)),()),(a.1,())))))else bif !gA a.1.2.2.2.2.2.2.2.2.2.1 (-1:Int)then (Gt ((a.1.2.2.2.2.2.1,()),((a.1.2.2.2.2.2.2.2.2.2.1,()),()))).bind λh=>bif dO h.1.1 (0:Int)then some (.inr ((([]:List (vv)),()),((([]:List (Eu)),()),((([]:List (tb)),()),(a.1,())))))else some (.inl ())else some (.inl ())) λf=>Sum.elim (λv3=>(QK (a.1,(a.2.1,()))).bind λb=>(Px (b.1,())).bind λg=>bif (!g.1.1) then some ((([]:List (vv)),()),((([]:List (Eu)),()),((([]:List (tb)),()),(a.1,())))) else (MO (b.1,())).bind λi=>bif (!i.1.1) then some ((([]:List (vv)),()),((([]:List (Eu)),()),((([]:List (tb)),()),(a.1,())))) else (Iw ((a.1.1,(a.1.2.1,(a.1.2.2.1,(a.1.2.2.2.1,(a.1.2.2.2.2.1,(a.1.2.2.2.2.2.1,(a.1.2.2.2.2.2.2.1,(a.1.2.2.2.2.2.2.2.1,(a.1.2.2.2.2.2.2.2.2.1,(a.1.2.2.2.2.2.2.2.2.2.1,(a.1.2.2.2.2.2.2.2.2.2.2.1,(a.1.2.2.2.2.2.2.2.2.2.2.2.1,(a.1.2.2.2.2.2.2.2.2.2.2.2.2.1,(a.1.2.2.2.2.2.2.2.2.2.2.2.2.2.1,(a.1.2.2.2.2.2.2.1,(a.1.2.2.2.2.2.2.2.2.2.2.2.2.2.2.2.1,(a.1.2.2.2.2.2.2.2.2.2.2.2.2.2.2.2.2.1,(a.1.2.2.2.2.2.2.2.2.2.2.2.2.2.2.2.2.2.1,(a.1.2.2.2.2.2.2.2.2.2.2.2.2.2.2.2.2.2.2.1,(a.1.2.2.2.2.2.2.2.2.2.2.2.2.2.2.2.2.2.2.2.1,())))))))))))))))))))),(((1:Int),(⟨#[]⟩,(a.1.2.1,(([b.1]:List (vv)),((0:Int),((0:Int),(⟨#[]⟩,((0:Int),((0:Int),(⟨#[]⟩,((0:Int),((-1:Int),([],((0:Int),([],([],())))))))))))))))),()))).bind λd=>(QN ((a.1.1,(a.1.2.1,(a.1.2.2.1,(a.1.2.2.2.1,(a.1.2.2.2.2.1,(a.1.2.2.2.2.2.1,(a.1.2.2.2.2.2.2.1,(a.1.2.2.2.2.2.2.2.1,(a.1.2.2.2.2.2.2.2.2.1,(a.1.2.2.2.2.2.2.2.2.2.1,(a.1.2.2.2.2.2.2.2.2.2.2.1,(a.1.2.2.2.2.2.2.2.2.2.2.2.1,(a.1.2.2.2.2.2.2.2.2.2.2.2.2.1,(a.1.2.2.2.2.2.2.2.2.2.2.2.2.2.1,(a.1.2.2.2.2.2.2.1,(a.1.2.2.2.2.2.2.2.2.2.2.2.2.2.2.2.1,(a.1.2.2.2.2.2.2.2.2.2.2.2.2.2.2.2.2.1,(a.1.2.2.2.2.2.2.2.2.2.2.2.2.2.2.2.2.2.1,(a.1.2.2.2.2.2.2.2.2.2.2.2.2.2.2.2.2.2.2.1,(a.1.2.2.2.2.2.2.2.2.2.2.2.2.2.2.2.2.2.2.2.1,())))))))))))))))))))),(b.1,()))).bind λc=>(I2 (b.1,())).bind λe=>bif dE (List.length d.1.1+List.length c.1.1) 216 then some ((([e.1]:List (vv)),()),((bV d.1.1 c.1.1,()),(c.2.1,(c.2.2.1,())))) else none) some f
def aS9:zi:=⟨aS7,aS8,VY⟩
def af0:Gs:=[MH,DO]
def aT0:=OI
def QP:(H6×sz)->Option Lp:=λa=>bif km (1000:Int) (List.length a.1.2.2.2.2.1:Int)then some ((false,()),(a.1,()))else (bK a.1.2.2.2.1 a.2.1.1).bind λ_=>(aC a.1.2.2.2.1 (Int.toNat a.2.1.1)).bind λd=>(VY (d,(((List.length a.1.2.2.2.2.1:Int),()),()))).bind λb=>(some (List.set a.1.2.2.2.1 (Int.toNat a.2.1.1) b.2.2.2.1)).bind λz3=>bif gA (List.length b.1.1:Int) (0:Int) then some ((false,()),((a.1.1,(a.1.2.1,(a.1.2.2.1,(z3,(a.1.2.2.2.2.1,(a.1.2.2.2.2.2.1,(a.1.2.2.2.2.2.2.1,()))))))),())) else bif dE (List.length a.1.2.2.2.2.1+List.length b.1.1) 208 then (zl ((a.1.1,(a.1.2.1,(a.1.2.2.1,(z3,(bV a.1.2.2.2.2.1 b.1.1,(a.1.2.2.2.2.2.1,(a.1.2.2.2.2.2.2.1,()))))))),(b.2.1,(b.2.2.1,())))).bind λc=>some ((true,()),(c.1,())) else none
def aT1:zi:=⟨af0,aT0,QP⟩
def aT2:=LF
def aT3:=YD
def SK:zd->Option (Vu):=λa=>(GV ((a.1.2.2.2.2.1,()),((a.1.1,()),()))).bind λf=>bif (!f.1.1)then some ((([]:List (Eu)),()),((([]:List (tb)),()),(a.1,())))else bif dO a.1.2.2.2.2.2.2.1 a.1.2.2.2.2.2.2.2.1 then some ((([]:List (Eu)),()),((([]:List (tb)),()),(a.1,())))else (Gr ((a.1.2.2.2.2.2.2.2.2.1,(a.1.2.2.2.2.2.2.2.2.2.1,(a.1.2.2.2.2.2.2.2.2.2.2.1,()))),())).bind λb=>(Iw ((a.1.1,(a.1.2.1,(a.1.2.2.1,(a.1.2.2.2.1,(a.1.2.2.2.2.1,(a.1.2.2.2.2.2.1,(a.1.2.2.2.2.2.2.1,(a.1.2.2.2.2.2.2.1,(a.1.2.2.2.2.2.2.2.2.1,(a.1.2.2.2.2.2.2.2.2.2.1,(a.1.2.2.2.2.2.2.2.2.2.2.1,(a.1.2.2.2.2.2.2.2.2.2.2.2.1,(a.1.2.2.2.2.2.2.2.2.2.2.2.2.1,(a.1.2.2.2.2.2.2.2.2.2.2.2.2.2.1,(a.1.2.2.2.2.2.2.2.2.2.2.2.2.2.2.1,(a.1.2.2.2.2.2.2.2.2.2.2.2.2.2.2.2.1,(a.1.2.2.2.2.2.2.2.2.2.2.2.2.2.2.2.2.1,(a.1.2.2.2.2.2.2.2.2.2.2.2.2.2.2.2.2.2.1,(a.1.2.2.2.2.2.2.2.2.2.2.2.2.2.2.2.2.2.2.1,(a.1.2.2.2.2.2.2.2.2.2.2.2.2.2.2.2.2.2.2.2.1,())))))))))))))))))))),(((3:Int),(⟨#[]⟩,(a.1.2.1,([],((0:Int),((0:Int),(⟨#[]⟩,(a.1.2.2.2.2.2.2.1,(a.1.2.2.2.2.2.2.2.2.1,(a.1.1,(b.1.1,(b.1.2.1,(b.1.2.2.1,((0:Int),([],([],())))))))))))))))),()))).bind λc=>(SJ ((a.1.2.1,()),((a.1.2.2.2.2.2.2.1,(a.1.2.2.2.2.2.2.2.2.1,(a.1.1,()))),()))).bind λd=>(Ix ((a.1.1,(a.1.2.1,(a.1.2.2.1,(a.1.2.2.2.1,(a.1.2.2.2.2.1,(a.1.2.2.2.2.2.1,(a.1.2.2.2.2.2.2.1,(a.1.2.2.2.2.2.2.1,(a.1.2.2.2.2.2.2.2.2.1,(a.1.2.2.2.2.2.2.2.2.2.1,(a.1.2.2.2.2.2.2.2.2.2.2.1,(a.1.2.2.2.2.2.2.2.2.2.2.2.1,(a.1.2.2.2.2.2.2.2.2.2.2.2.2.1,(a.1.2.2.2.2.2.2.2.2.2.2.2.2.2.1,(a.1.2.2.2.2.2.2.2.2.2.2.2.2.2.2.1,(a.1.2.2.2.2.2.2.2.2.2.2.2.2.2.2.2.1,(a.1.2.2.2.2.2.2.2.2.2.2.2.2.2.2.2.2.1,(a.1.2.2.2.2.2.2.2.2.2.2.2.2.2.2.2.2.2.1,(a.1.2.2.2.2.2.2.2.2.2.2.2.2.2.2.2.2.2.2.1,(a.1.2.2.2.2.2.2.2.2.2.2.2.2.2.2.2.2.2.2.2.1,())))))))))))))))))))),((a.1.2.2.2.2.2.2.1,(a.1.2.2.2.2.2.2.2.2.1,(a.1.1,()))),((a.1.2.2.2.2.2.2.2.2.1,(a.1.2.2.2.2.2.2.2.2.2.1,(a.1.2.2.2.2.2.2.2.2.2.2.1,()))),())))).bind λe=>some (c.1,((([d.1]:List (tb)),()),(e.1,())))
def aT4:zi:=⟨aT2,aT3,SK⟩
def aT5:=af0
def aT6:=OI
def SL:(H6×sz)->Option Lp:=λa=>(bK a.1.2.2.2.1 a.2.1.1).bind λ_=>(aC a.1.2.2.2.1 (Int.toNat a.2.1.1)).bind λd=>(SK (d,())).bind λb=>(some (List.set a.1.2.2.2.1 (Int.toNat a.2.1.1) b.2.2.1)).bind λz3=>(zl ((a.1.1,(a.1.2.1,(a.1.2.2.1,(z3,(a.1.2.2.2.2.1,(a.1.2.2.2.2.2.1,(a.1.2.2.2.2.2.2.1,()))))))),(b.1,(b.2.1,())))).bind λc=>some ((dO (0:Int) (List.length b.2.1.1:Int),()),(c.1,()))
def aT7:zi:=⟨aT5,aT6,SL⟩
def aT8:Gs:=[Su,DO,Pw]
def aT9:Gs:=[Yl,QE]
def LK.b0(a:(Fq×(gk×A2))):(v4:gk)->Option (Sum gk (Sum gk ((Eu×i6)))):=λv4=>bif dO v4.1 (List.length a.1.2.2.2.2.2.2.2.2.2.2.2.2.2.2.2.2.2.2.2.1:Int)then (bK a.1.2.2.2.2.2.2.2.2.2.2.2.2.2.2.2.2.2.2.2.1 v4.1).bind λf=>bif gA f.1 a.2.1.1 then (bK a.1.2.2.2.2.2.2.2.2.2.2.2.2.2.2.2.2.2.2.2.1 v4.1).bind λd=>(Ev ((d.2.1,()),())).bind λe=>(bK a.1.2.2.2.2.2.2.2.2.2.2.2.2.2.2.2.2.2.2.2.1 v4.1).bind λb=>(Gr ((b.2.2.1,(b.2.2.2.1,(b.2.2.2.2.1,()))),())).bind λc=>some (.inr (.inr (((4:Int),(a.2.2.1.1,(a.2.1.1,(e.1.1,((0:Int),((0:Int),(⟨#[]⟩,((0:Int),((0:Int),(⟨#[]⟩,(c.1.1,(c.1.2.1,(c.1.2.2.1,((0:Int),([],([],())))))))))))))))),((true,()),()))))else some (.inl (cM .i64 v4.1 (1:Int),()))else some (.inr (.inl (v4.1,())))
def LK:(Fq×(gk×A2))->Option ((Eu×i6)):=λa=>bif gA a.2.1.1 a.1.2.1 then (Ev ((a.1.2.2.2.2.2.1,()),())).bind λe=>(Gr ((a.1.2.2.2.2.2.2.2.2.1,(a.1.2.2.2.2.2.2.2.2.2.1,(a.1.2.2.2.2.2.2.2.2.2.2.1,()))),())).bind λc=>(I0 ((a.1.2.2.2.2.2.2.2.2.2.2.2.1,(a.1.2.2.2.2.2.2.2.2.2.2.2.2.1,(a.1.2.2.2.2.2.2.2.2.2.2.2.2.2.1,()))),())).bind λb=>some (((4:Int),(a.2.2.1.1,(a.2.1.1,(e.1.1,((0:Int),((0:Int),(⟨#[]⟩,((0:Int),((0:Int),(⟨#[]⟩,(c.1.1,(c.1.2.1,(c.1.2.2.1,(b.1.1,(b.1.2.1,(b.1.2.2.1,())))))))))))))))),((true,()),()))else (aR (LK.b0 a) ((0:Int),())).bind λd=>Sum.elim (λf=>some (((0:Int),(⟨#[]⟩,((0:Int),([],((0:Int),((0:Int),(⟨#[]⟩,((0:Int),((0:Int),(⟨#[]⟩,((0:Int),((0:Int),([],((0:Int),([],([],())))))))))))))))),((false,()),()))) some d
def aU0:zi:=⟨aT8,aT9,LK⟩
def aU1:Gs:=[MH,DO,DO]
def aU2:=OI
def QQ:(H6×Ip)->Option Lp:=λa=>(k8 (a.2.2.1,(((0:Int),()),((gS .i64 (List.length a.1.2.2.2.1:Int) (1:Int),()),())))).bind λk=>bif (!k.1.1)then some ((false,()),(a.1,()))else (bK a.1.2.2.2.1 a.2.1.1).bind λ_=>(aC a.1.2.2.2.1 (Int.toNat a.2.1.1)).bind λb=>(bK a.1.2.2.2.1 a.2.2.1.1).bind λ_=>(aC a.1.2.2.2.1 (Int.toNat a.2.2.1.1)).bind λl=>(bK a.1.2.2.2.1 a.2.2.1.1).bind λ_=>(aC a.1.2.2.2.1 (Int.toNat a.2.2.1.1)).bind λj=>(aC a.1.2.2.2.1 (Int.toNat a.2.1.1)).bind λm=>(aC a.1.2.2.2.1 (Int.toNat a.2.1.1)).bind λh=>(aC a.1.2.2.2.1 (Int.toNat a.2.1.1)).bind λi=>(aC a.1.2.2.2.1 (Int.toNat a.2.1.1)).bind λg=>(LK ((b.1,(b.2.1,(b.2.2.1,(b.2.2.2.1,(b.2.2.2.2.1,(b.2.2.2.2.2.1,(b.2.2.2.2.2.2.1,(b.2.2.2.2.2.2.2.1,(b.2.2.2.2.2.2.2.2.1,(b.2.2.2.2.2.2.2.2.2.1,(b.2.2.2.2.2.2.2.2.2.2.1,(b.2.2.2.2.2.2.2.2.2.2.2.1,(b.2.2.2.2.2.2.2.2.2.2.2.2.1,(b.2.2.2.2.2.2.2.2.2.2.2.2.2.1,(b.2.2.2.2.2.2.2.2.2.2.2.2.2.2.1,(m.2.2.2.2.2.2.2.2.2.2.2.2.2.2.2.1,(h.2.2.2.2.2.2.2.2.2.2.2.2.2.2.2.2.1,(i.2.2.2.2.2.2.2.2.2.2.2.2.2.2.2.2.2.1,(b.2.2.2.2.2.2.2.2.2.2.2.2.2.2.2.2.2.2.1,(g.2.2.2.2.2.2.2.2.2.2.2.2.2.2.2.2.2.2.2.1,())))))))))))))))))))),((l.2.1,()),((j.1,()),())))).bind λe=>Option.bind (bif e.2.1.1 then (zl (a.1,((([e.1]:List (Eu)),()),((([]:List (tb)),()),())))).bind λc=>some (.inl (c.1.1,(c.1.2.1,(c.1.2.2.1,(c.1.2.2.2.1,(c.1.2.2.2.2.1,(c.1.2.2.2.2.2.1,(c.1.2.2.2.2.2.2.1,()))))))))else some (.inl (a.1.1,(a.1.2.1,(a.1.2.2.1,(a.1.2.2.2.1,(a.1.2.2.2.2.1,(a.1.2.2.2.2.2.1,(a.1.2.2.2.2.2.2.1,()))))))))) λf=>Sum.elim (λd=>some (e.2.1,((d.1,(d.2.1,(d.2.2.1,(d.2.2.2.1,(d.2.2.2.2.1,(d.2.2.2.2.2.1,(d.2.2.2.2.2.2.1,()))))))),()))) some f
def aU3:zi:=⟨aU1,aU2,QQ⟩
def aU4:Gs:=[MH,DO,Lq]
def aU5:=OI
def VZ:(H6×(gk×IX))->Option Lp:=λb=>(bK b.1.2.2.2.1 b.2.1.1).bind λ_=>(aC b.1.2.2.2.1 (Int.toNat b.2.1.1)).bind λd=>(MJ ((d.2.2.2.2.2.2.2.2.2.2.2.2.2.2.2.2.2.2.1,()),(b.2.2.1,()))).bind λc=>(bK b.1.2.2.2.1 b.2.1.1).bind λ_=>(aC b.1.2.2.2.1 (Int.toNat b.2.1.1)).bind λa=>(some (List.set b.1.2.2.2.1 (Int.toNat b.2.1.1) (a.1,(a.2.1,(a.2.2.1,(a.2.2.2.1,(a.2.2.2.2.1,(a.2.2.2.2.2.1,(a.2.2.2.2.2.2.1,(a.2.2.2.2.2.2.2.1,(a.2.2.2.2.2.2.2.2.1,(a.2.2.2.2.2.2.2.2.2.1,(a.2.2.2.2.2.2.2.2.2.2.1,(a.2.2.2.2.2.2.2.2.2.2.2.1,(a.2.2.2.2.2.2.2.2.2.2.2.2.1,(a.2.2.2.2.2.2.2.2.2.2.2.2.2.1,(a.2.2.2.2.2.2.2.2.2.2.2.2.2.2.1,(a.2.2.2.2.2.2.2.2.2.2.2.2.2.2.2.1,(a.2.2.2.2.2.2.2.2.2.2.2.2.2.2.2.2.1,(a.2.2.2.2.2.2.2.2.2.2.2.2.2.2.2.2.2.1,(c.1.1,a.2.2.2.2.2.2.2.2.2.2.2.2.2.2.2.2.2.2.2))))))))))))))))))))).bind λz4=>some (c.2.1,((b.1.1,(b.1.2.1,(b.1.2.2.1,(z4,(b.1.2.2.2.2.1,(b.1.2.2.2.2.2.1,(b.1.2.2.2.2.2.2.1,()))))))),()))
def aU6:zi:=⟨aU4,aU5,VZ⟩
def aU7:=LF
def aU8:=LF
def YG:zd->Option zd:=λa=>some ((a.1.1,(a.1.2.1,(a.1.2.2.1,(a.1.2.2.2.1,(a.1.2.2.2.2.1,(a.1.2.2.2.2.2.1,(a.1.2.2.2.2.2.2.1,(a.1.2.2.2.2.2.2.2.1,(a.1.2.2.2.2.2.2.2.2.1,(a.1.2.2.2.2.2.2.2.2.2.1,(a.1.2.2.2.2.2.2.2.2.2.2.1,(a.1.2.2.2.2.2.2.2.2.2.2.2.1,(a.1.2.2.2.2.2.2.2.2.2.2.2.2.1,(a.1.2.2.2.2.2.2.2.2.2.2.2.2.2.1,(a.1.2.2.2.2.2.2.2.2.2.2.2.2.2.2.1,(([]:List (u6)),(([]:List (sd)),(a.1.2.2.2.2.2.2.2.2.2.2.2.2.2.2.2.2.2.1,(([]:List (cp)),(a.1.2.2.2.2.2.2.2.2.2.2.2.2.2.2.2.2.2.2.2.1,())))))))))))))))))))),())
def aU9:zi:=⟨aU7,aU8,YG⟩
def i63:=ae3
def o63:=OI
def F63:(H6×(Sp×Unit))->Option Lp:=λa=>Option.bind (bif gA a.2.1.1 (6:Int)then some (.inl (true,()))else bif gA a.2.1.1 (7:Int)then some (.inl (true,()))else some (.inl (gA a.2.1.1 (8:Int),()))) λl=>Sum.elim (λk=>bif k.1 then (VX (a.1,(a.2.1,()))).bind λc=>some (c.1,(c.2.1,())) else bif gA a.2.1.1 (9:Int) then (zs (a.1,((a.2.1.2.2.2.2.2.2.2.2.1,(a.2.1.2.2.2.2.2.2.2.2.2.1,(a.2.1.2.2.2.2.2.2.2.2.2.2.1,(a.2.1.2.2.2.2.2.2.2.2.2.2.2.1,(a.2.1.2.2.2.2.2.2.2.2.2.2.2.2.1,(a.2.1.2.2.2.2.2.2.2.2.2.2.2.2.2.1,(a.2.1.2.2.2.2.2.2.2.2.2.2.2.2.2.2.1,(a.2.1.2.2.2.2.2.2.2.2.2.2.2.2.2.2.2.1,(a.2.1.2.2.2.2.2.2.2.2.2.2.2.2.2.2.2.2.1,(a.2.1.2.2.2.2.2.2.2.2.2.2.2.2.2.2.2.2.2.1,(a.2.1.2.2.2.2.2.2.2.2.2.2.2.2.2.2.2.2.2.2.1,(a.2.1.2.2.2.2.2.2.2.2.2.2.2.2.2.2.2.2.2.2.2.1,(a.2.1.2.2.2.2.2.2.2.2.2.2.2.2.2.2.2.2.2.2.2.2.1,(a.2.1.2.2.2.2.2.2.2.2.2.2.2.2.2.2.2.2.2.2.2.2.2.1,(a.2.1.2.2.2.2.2.2.2.2.2.2.2.2.2.2.2.2.2.2.2.2.2.2.1,(a.2.1.2.2.2.2.2.2.2.2.2.2.2.2.2.2.2.2.2.2.2.2.2.2.2.1,())))))))))))))))),()))).bind λe=>some (e.1,(e.2.1,())) else (k8 ((a.2.1.2.1,()),(((0:Int),()),((gS .i64 (List.length a.1.2.2.2.1:Int) (1:Int),()),())))).bind λm=>bif (!m.1.1) then some ((false,()),(a.1,())) else bif gA a.2.1.1 (1:Int) then (QP (a.1,((a.2.1.2.1,()),()))).bind λb=>some (b.1,(b.2.1,())) else bif gA a.2.1.1 (2:Int) then (SL (a.1,((a.2.1.2.1,()),()))).bind λg=>some (g.1,(g.2.1,())) else bif gA a.2.1.1 (3:Int) then (QQ (a.1,((a.2.1.2.1,()),((a.2.1.2.2.1,()),())))).bind λf=>some (f.1,(f.2.1,())) else bif gA a.2.1.1 (4:Int) then (VZ (a.1,((a.2.1.2.1,()),((a.2.1.2.2.2.1,(a.2.1.2.2.2.2.1,(a.2.1.2.2.2.2.2.1,(a.2.1.2.2.2.2.2.2.1,(a.2.1.2.2.2.2.2.2.2.1,()))))),())))).bind λd=>some (d.1,(d.2.1,())) else bif gA a.2.1.1 (5:Int) then (bK a.1.2.2.2.1 a.2.1.2.1).bind λ_=>(aC a.1.2.2.2.1 (Int.toNat a.2.1.2.1)).bind λh=>(YG (h,())).bind λj=>(some (List.set a.1.2.2.2.1 (Int.toNat a.2.1.2.1) j.1)).bind λi=>some ((true,()),((a.1.1,(a.1.2.1,(a.1.2.2.1,(i,(a.1.2.2.2.2.1,(a.1.2.2.2.2.2.1,(a.1.2.2.2.2.2.2.1,()))))))),())) else some ((false,()),(a.1,()))) some l
def c63:zi:=⟨i63,o63,F63⟩
def i26:=i60
def o26:Gs:=[ab1,Ot]
def XA.b0:(a:X5)->Option (Sum X5 (Sum X5 (H6×Ei))):=λa=>bif dO (0:Int) a.1 then (YC ((a.2.1,(a.2.2.1,(a.2.2.2.1,()))),((a.2.2.2.2.1,(a.2.2.2.2.2.1,(a.2.2.2.2.2.2.1,(a.2.2.2.2.2.2.2.1,(a.2.2.2.2.2.2.2.2.1,(a.2.2.2.2.2.2.2.2.2.1,(a.2.2.2.2.2.2.2.2.2.2.1,()))))))),()))).bind λb=>(F63 ((a.2.2.2.2.1,(a.2.2.2.2.2.1,(a.2.2.2.2.2.2.1,(b.2.2.1.2.2.2.1,(b.2.2.1.2.2.2.2.1,(b.2.2.1.2.2.2.2.2.1,(b.2.2.1.2.2.2.2.2.2.1,()))))))),(b.1,()))).bind λc=>some (.inl (gS .i64 a.1 (1:Int),(b.2.1.1,(b.2.1.2.1,(b.2.1.2.2.1,(c.2.1.1,(c.2.1.2.1,(c.2.1.2.2.1,(c.2.1.2.2.2.1,(c.2.1.2.2.2.2.1,(c.2.1.2.2.2.2.2.1,(c.2.1.2.2.2.2.2.2.1,())))))))))))) else some (.inr (.inl (a.1,(a.2.1,(a.2.2.1,(a.2.2.2.1,(a.2.2.2.2.1,(a.2.2.2.2.2.1,(a.2.2.2.2.2.2.1,(a.2.2.2.2.2.2.2.1,(a.2.2.2.2.2.2.2.2.1,(a.2.2.2.2.2.2.2.2.2.1,(a.2.2.2.2.2.2.2.2.2.2.1,())))))))))))))
def XA:(J6×sz)->Option (H6×Ei):=λh=>(Yr (h.1,())).bind λc=>Option.bind (bif dO (3:Int) (List.length c.1.2.1:Int)then (Sw (c.2.1,(((2:Int),()),()))).bind λe=>bif e.1.1 then (J4 (e.2.1,(((4:Int),()),()))).bind λd=>(bK ([(⟨#[97]⟩,()),(⟨#[98]⟩,()),(⟨#[99]⟩,()),(⟨#[100]⟩,())]:List (D9)) d.1.1).bind λ_=>(aC ([(⟨#[97]⟩,()),(⟨#[98]⟩,()),(⟨#[99]⟩,()),(⟨#[100]⟩,())]:List (D9)) (Int.toNat d.1.1)).bind λk=>some (.inl (([k]:List (D9)),(d.2.1.1,(d.2.1.2.1,(d.2.1.2.2.1,()))))) else some (.inl (([]:List (D9)),(e.2.1.1,(e.2.1.2.1,(e.2.1.2.2.1,()))))) else some (.inl (([]:List (D9)),(c.2.1.1,(c.2.1.2.1,(c.2.1.2.2.1,())))))) λj=>Sum.elim (λf=>(VG (c.1,((f.1,()),()))).bind λb=>(J4 ((f.2.1,(f.2.2.1,(f.2.2.2.1,()))),(h.2.1,()))).bind λg=>(aR XA.b0 (g.1.1,(g.2.1.1,(g.2.1.2.1,(g.2.1.2.2.1,(b.1.1,(b.1.2.1,(b.1.2.2.1,(b.1.2.2.2.1,(b.1.2.2.2.2.1,(b.1.2.2.2.2.2.1,(b.1.2.2.2.2.2.2.1,())))))))))))).bind λi=>Sum.elim (λa=>some ((a.2.2.2.2.1,(a.2.2.2.2.2.1,(a.2.2.2.2.2.2.1,(a.2.2.2.2.2.2.2.1,(a.2.2.2.2.2.2.2.2.1,(a.2.2.2.2.2.2.2.2.2.1,(a.2.2.2.2.2.2.2.2.2.2.1,()))))))),((a.2.1,(a.2.2.1,(a.2.2.2.1,()))),()))) some i) some j
def c26:zi:=⟨i26,o26,XA⟩
def i8:=i7
def o8:=o61
def F8:F5->Option mu:=λa=>(Yp (a.1,())).bind λd=>(F27 (a.1,(((140:Int),()),()))).bind λc=>(XA (d.1,((cM .i64 (20:Int) c.1.1,()),()))).bind λb=>some (b.1,())
def c8:zi:=⟨i8,o8,F8⟩
def i80:=ab6
def o80:=o7
def Gc:(gk×Ip)->Option i6:=λa=>bif km a.2.1.1 a.1.1 then some ((km a.1.1 a.2.2.1.1,()),())else some ((false,()),())
def c80:zi:=⟨i80,o80,Gc⟩
def i82:=Ir
def o82:=o7
def My.b0(b:A2):(a:gk)->Option tm:=λa=>bif dO a.1 (ByteArray.size b.1.1:Int)then(bK (ByteArray.data b.1.1).toList a.1).bind λf=>bif km (97:Int) (UInt8.toNat f:Int)then (bK (ByteArray.data b.1.1).toList a.1).bind λd=>bif km (UInt8.toNat d:Int) (122:Int)then some (.inl (cM .i64 a.1 (1:Int),()))else (bK (ByteArray.data b.1.1).toList a.1).bind λg=>bif km (48:Int) (UInt8.toNat g:Int)then (bK (ByteArray.data b.1.1).toList a.1).bind λh=>bif (!(km (UInt8.toNat h:Int) (57:Int)))then some (.inr (.inr ((false,()),())))else some (.inl (cM .i64 a.1 (1:Int),()))else some (.inr (.inr ((false,()),())))else (bK (ByteArray.data b.1.1).toList a.1).bind λe=>bif km (48:Int) (UInt8.toNat e:Int)then (bK (ByteArray.data b.1.1).toList a.1).bind λc=>bif (!(km (UInt8.toNat c:Int) (57:Int)))then some (.inr (.inr ((false,()),())))else some (.inl (cM .i64 a.1 (1:Int),()))else some (.inr (.inr ((false,()),())))else some (.inr (.inl (a.1,())))
def My:A2->Option i6:=λa=>(aR (My.b0 a) ((0:Int),())).bind λc=>Sum.elim (λd=>(Gc (((ByteArray.size a.1.1:Int),()),(((1:Int),()),(((8:Int),()),())))).bind λb=>some (b.1,())) some c
def c82:zi:=⟨i82,o82,My⟩
def aV0:=Fu
def aV1:=o7
def V0:sz->Option i6:=λa=>(Gc (a.1,(((0:Int),()),(((1000000:Int),()),())))).bind λb=>some (b.1,())
def aV2:zi:=⟨aV0,aV1,V0⟩
def aV3:=VE
def aV4:=o7
def LL.b0(c:GQ):(a:gk)->Option tm:=λa=>bif dO a.1 (List.length c.1.2.2.2.2.1:Int)then(bK c.1.2.2.2.2.1 a.1).bind λb=>(Gc ((b.1,()),(((1:Int),()),(((1000000:Int),()),())))).bind λd=>bif (!d.1.1)then some (.inr (.inr ((false,()),())))else (Gc ((b.2.1,()),(((0:Int),()),(((1000:Int),()),())))).bind λe=>bif (!e.1.1)then some (.inr (.inr ((false,()),())))else bif dO (0:Int) a.1 then (bK c.1.2.2.2.2.1 (gS .i64 a.1 (1:Int))).bind λf=>bif km b.2.1 f.2.1 then some (.inr (.inr ((false,()),()))) else some (.inl (cM .i64 a.1 (1:Int),())) else some (.inl (cM .i64 a.1 (1:Int),())) else some (.inr (.inl (a.1,())))
def LL:GQ->Option i6:=λa=>(aR (LL.b0 a) ((0:Int),())).bind λd=>Sum.elim (λg=>(My ((a.1.1,()),())).bind λf=>bif f.1.1 then (V0 ((a.1.2.1,()),())).bind λe=>bif e.1.1 then (V0 ((a.1.2.2.2.1,()),())).bind λb=>bif b.1.1 then (Gc ((a.1.2.2.1,()),(((0:Int),()),(((10000:Int),()),())))).bind λc=>bif c.1.1 then some ((km (List.length a.1.2.2.2.2.1:Int) (4:Int),()),())else some ((false,()),())else some ((false,()),())else some ((false,()),())else some ((false,()),())) some d
def aV5:zi:=⟨aV3,aV4,LL⟩
def aV6:=Oy
def aV7:=Fu
def GX.b1(a:bm):(v3:te)->Option (Sum te (Sum te J8)):=λv3=>bif dO v3.2.1 (List.length a.2.2.2.2.1:Int)then (bK a.2.2.2.2.1 v3.2.1).bind λb=>some (.inl (cM .i64 v3.1 b.1,(cM .i64 v3.2.1 (1:Int),())))else some (.inr (.inl (v3.1,(v3.2.1,()))))
def GX.b0(c:C6):(a:te)->Option J8:=λa=>bif dO a.2.1 (List.length c.1.1:Int)then(bK c.1.1 a.2.1).bind λb=>(aR (GX.b1 b) (cM .i64 a.1 (cM .i64 b.2.1 b.2.2.2.1),((0:Int),()))).bind λe=>Sum.elim (λd=>some (.inl (d.1,(cM .i64 a.2.1 (1:Int),())))) some e else some (.inr (.inl (a.1,(a.2.1,()))))
def GX:C6->Option sz:=λa=>(aR (GX.b0 a) ((0:Int),((0:Int),()))).bind λb=>Sum.elim (λc=>some ((c.1,()),())) some b
def aV8:zi:=⟨aV6,aV7,GX⟩
def i81:=Oy
def o81:=o7
def V1.b0(c:C6):(a:gk)->Option tm:=λa=>bif dO a.1 (List.length c.1.1:Int)then(bK c.1.1 a.1).bind λb=>(LL (b,())).bind λe=>bif (!e.1.1)then some (.inr (.inr ((false,()),())))else bif dO (0:Int) a.1 then (bK c.1.1 (gS .i64 a.1 (1:Int))).bind λd=>bif ob b.1 d.1||ko b.1 d.1 then some (.inr (.inr ((false,()),()))) else some (.inl (cM .i64 a.1 (1:Int),())) else some (.inl (cM .i64 a.1 (1:Int),())) else some (.inr (.inl (a.1,())))
def V1:C6->Option i6:=λa=>(aR (V1.b0 a) ((0:Int),())).bind λb=>Sum.elim (λd=>bif km (List.length a.1.1:Int) (12:Int)then (GX (a.1,())).bind λc=>some ((km c.1.1 (1000000:Int),()),())else some ((false,()),())) some b
def c81:zi:=⟨i81,o81,V1⟩
def i36:=QF
def o36:=o7
def V2:p5->Option i6:=λa=>(Gc ((a.1.1,()),(((0:Int),()),(((900:Int),()),())))).bind λb=>bif b.1.1 then (V1 ((a.1.2.1,()),())).bind λc=>some (c.1,())else some ((false,()),())
def c36:zi:=⟨i36,o36,V2⟩
def i29:=QF
def o29:=o69
def V3.b0(c:p5):(a:QD)->Option (Sum QD (Sum QD Fh)):=λa=>bif dO a.2.1 (List.length c.1.2.1:Int)then (bK c.1.2.1 a.2.1).bind λb=>bif km (5:Int) b.2.2.2.1 then bif dE (List.length a.1+List.length ([(b.1,(b.2.2.2.1,()))]:List (e6))) 24 then some (.inl (bV a.1 ([(b.1,(b.2.2.2.1,()))]:List (e6)),(cM .i64 a.2.1 (1:Int),()))) else none else some (.inl (a.1,(cM .i64 a.2.1 (1:Int),()))) else some (.inr (.inl (a.1,(a.2.1,()))))
def V3:p5->Option Fh:=λa=>(V2 (a.1,())).bind λc=>bif (!c.1.1)then some (([],()),())else (aR (V3.b0 a) ([],((0:Int),()))).bind λb=>Sum.elim (λv4=>some ((v4.1,()),())) some b
def c29:zi:=⟨i29,o29,V3⟩
def i89:=Ys
def o89:=Fu
def V4.b0(b:(Im×A2)):(a:gk)->Option IW:=λa=>bif dO a.1 (List.length b.1.1:Int)then(bK b.1.1 a.1).bind λc=>bif ko b.2.1.1 c.1 then some (.inr (.inr ((a.1,()),())))else some (.inl (cM .i64 a.1 (1:Int),()))else some (.inr (.inl (a.1,())))
def V4:(Im×A2)->Option sz:=λa=>(aR (V4.b0 a) ((0:Int),())).bind λb=>Sum.elim (λv3=>some (((-1:Int),()),())) some b
def c89:zi:=⟨i89,o89,V4⟩
def i40:=Ys
def o40:=o7
def F40:(Im×A2)->Option i6:=λa=>(V4 (a.1,(a.2.1,()))).bind λb=>some ((km (0:Int) b.1.1,()),())
def c40:zi:=⟨i40,o40,F40⟩
def i64:=OG
def o64:=Fu
def Vk.b0(b:IY):(a:te)->Option J8:=λa=>bif dO a.2.1 (List.length b.1.1:Int)then(bK b.1.1 a.2.1).bind λc=>(F40 (b.2.1,((c.1,()),()))).bind λd=>bif d.1.1 then some (.inl (cM .i64 a.1 c.2.1,(cM .i64 a.2.1 (1:Int),())))else some (.inl (a.1,(cM .i64 a.2.1 (1:Int),())))else some (.inr (.inl (a.1,(a.2.1,()))))
def Vk:IY->Option sz:=λa=>(aR (Vk.b0 a) ((0:Int),((0:Int),()))).bind λb=>Sum.elim (λv4=>some ((v4.1,()),())) some b
def c64:zi:=⟨i64,o64,Vk⟩
def i65:=VM
def o65:=Fu
def Vl.b0(b:Fh):(a:te)->Option J8:=λa=>bif dO a.2.1 (List.length b.1.1:Int)then(bK b.1.1 a.2.1).bind λc=>some (.inl (cM .i64 a.1 c.2.1,(cM .i64 a.2.1 (1:Int),())))else some (.inr (.inl (a.1,(a.2.1,()))))
def Vl:Fh->Option sz:=λa=>(aR (Vl.b0 a) ((0:Int),((0:Int),()))).bind λb=>Sum.elim (λv3=>some ((v3.1,()),())) some b
def c65:zi:=⟨i65,o65,Vl⟩
def i28:Gs:=[VC,Sf]
def o28:=o7
def Z2:(H6×Fh)->Option i6:=λa=>(Vk (a.2.1,((a.1.2.2.1,()),()))).bind λb=>(Vl (a.2.1,())).bind λc=>some ((dO (zJ .i64 (3:Int) b.1.1) c.1.1,()),())
def c28:zi:=⟨i28,o28,Z2⟩
def i9:Gs:=[gq9]
def o9:=o7
def F9.b2(b:Sd)(e:mu):(a:gk)->Option (Sum gk (Sum gk MA)):=λa=>bif dO a.1 (List.length b.2.1:Int)then (bK b.2.1 a.1).bind λc=>bif c.2.2.2.2.2.2.2.2.2.2.2.1 then (Z2 (e.1,((c.2.2.2.2.2.2.2.2.2.2.2.2.1,()),()))).bind λd=>bif (!d.1.1)then some (.inr (.inr (.inr (.inr (.inr (.inr ((false,()),())))))))else some (.inl (cM .i64 a.1 (1:Int),()))else some (.inl (cM .i64 a.1 (1:Int),()))else some (.inr (.inl (a.1,())))
def F9.b1(b:Fq)(e:mu):(a:gk)->Option MA:=λa=>bif dO a.1 (List.length b.2.2.2.2.2.2.2.2.2.2.2.2.2.2.2.2.2.2.2.1:Int)then(bK b.2.2.2.2.2.2.2.2.2.2.2.2.2.2.2.2.2.2.2.1 a.1).bind λd=>(aR (F9.b2 d e) ((0:Int),())).bind λc=>Sum.elim (λf=>some (.inl (cM .i64 a.1 (1:Int),()))) some c else some (.inr (.inl (a.1,())))
def F9.b0(a:mu):(v3:gk)->Option tm:=λv3=>bif dO v3.1 (List.length a.1.2.2.2.1:Int)then(bK a.1.2.2.2.1 v3.1).bind λb=>(Z2 (a.1,((b.2.2.2.2.1,()),()))).bind λd=>bif (!d.1.1)then some (.inr (.inr ((false,()),())))else (aR (F9.b1 b a) ((0:Int),())).bind λc=>Sum.elim (λe=>some (.inl (cM .i64 v3.1 (1:Int),()))) some c else some (.inr (.inl (v3.1,())))
def F9:mu->Option i6:=λa=>(V3 ((a.1.1,(a.1.2.1,())),())).bind λd=>(Z2 (a.1,(d.1,()))).bind λc=>bif (!c.1.1)then some ((false,()),())else (aR (F9.b0 a) ((0:Int),())).bind λb=>Sum.elim (λe=>some ((true,()),())) some b
def c9:zi:=⟨i9,o9,F9⟩
def i30:=OG
def o30:=o7
def Z3:IY->Option i6:=λa=>(Vi (a.1,(a.2.1,()))).bind λb=>(Vj (a.1,())).bind λc=>some ((dO (zJ .i64 (3:Int) b.1.1) c.1.1,()),())
def c30:zi:=⟨i30,o30,Z3⟩
def i10:=i9
def o10:=o7
def LM.b2(d:Fq)(c:gk)(g:mu):(a:gk)->Option (Sum gk (Sum gk MA)):=λa=>(bK d.2.2.2.2.2.2.2.2.2.2.2.2.2.2.2.2.2.2.2.1 c.1).bind λf=>bif dO a.1 (List.length f.2.1:Int)then (bK d.2.2.2.2.2.2.2.2.2.2.2.2.2.2.2.2.2.2.2.1 c.1).bind λh=>(bK h.2.1 a.1).bind λb=>bif b.2.2.2.2.2.2.2.2.2.2.2.1 then (Z3 ((b.2.2.2.2.2.2.2.2.2.2.2.2.1,()),((g.1.2.2.1,()),()))).bind λe=>bif (!e.1.1)then some (.inr (.inr (.inr (.inr (.inr (.inr ((false,()),())))))))else some (.inl (cM .i64 a.1 (1:Int),()))else some (.inl (cM .i64 a.1 (1:Int),()))else some (.inr (.inl (a.1,())))
def LM.b1(b:Fq)(d:mu):(a:gk)->Option MA:=λa=>bif dO a.1 (List.length b.2.2.2.2.2.2.2.2.2.2.2.2.2.2.2.2.2.2.2.1:Int)then(aR (LM.b2 b a d) ((0:Int),())).bind λc=>Sum.elim (λe=>some (.inl (cM .i64 a.1 (1:Int),()))) some c else some (.inr (.inl (a.1,())))
def LM.b0(a:mu):(v3:gk)->Option tm:=λv3=>bif dO v3.1 (List.length a.1.2.2.2.1:Int)then(bK a.1.2.2.2.1 v3.1).bind λb=>(Z3 ((b.2.2.2.2.1,()),((a.1.2.2.1,()),()))).bind λd=>bif (!d.1.1)then some (.inr (.inr ((false,()),())))else (aR (LM.b1 b a) ((0:Int),())).bind λc=>Sum.elim (λe=>some (.inl (cM .i64 v3.1 (1:Int),()))) some c else some (.inr (.inl (v3.1,())))
def LM:mu->Option i6:=λa=>(Z1 ((a.1.1,(a.1.2.1,())),())).bind λd=>(Z3 (d.1,((a.1.2.2.1,()),()))).bind λc=>bif (!c.1.1)then some ((false,()),())else (aR (LM.b0 a) ((0:Int),())).bind λb=>Sum.elim (λe=>some ((true,()),())) some b
def c10:zi:=⟨i10,o10,LM⟩
end
end Go.Proofs.YthjkikiepdnimaaGreat
