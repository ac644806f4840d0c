/- What the functions that the laws reach compute, as functions over plain data; each one's equation with the program is checked by the kernel, part 2. Conditions: none. -/
import Derived.Test.YthjkikiepdnimaaGreatSzFa
set_option linter.unusedVariables false
set_option linter.unusedSimpArgs false
set_option linter.constructorNameAsVariable false
namespace Go.Proofs.YthjkikiepdnimaaGreat
open Go Go.Tm
set_option maxRecDepth 100000
noncomputable section
def aG9:=S9
def aH0:=o7
def Kx.b0(c:K9):(a:ix)->Option Ev:=λa=>bif dO a.1 (List.length c.1.2.2.2.2.1:Int)then(bK c.1.2.2.2.2.1 a.1).bind λb=>(JA ((b.1,()),(((1:Int),()),(((1000000:Int),()),())))).bind λe=>bif (!e.1.1)then some (.inr (.inr ((false,()),())))else (JA ((b.2.1,()),(((0:Int),()),(((1000:Int),()),())))).bind λd=>bif (!d.1.1)then some (.inr (.inr ((false,()),())))else bif dO (0:Int) a.1 then (bK c.1.2.2.2.2.1 (gS .i64 a.1 (1:Int))).bind λf=>bif km b.2.1 f.2.1 then some (.inr (.inr ((false,()),()))) else some (.inl (cM .i64 a.1 (1:Int),())) else some (.inl (cM .i64 a.1 (1:Int),())) else some (.inr (.inl (a.1,())))
def Kx:K9->Option lf:=λa=>(aR (Kx.b0 a) ((0:Int),())).bind λd=>Sum.elim (λg=>(NA ((a.1.1,()),())).bind λe=>bif e.1.1 then (Tu ((a.1.2.1,()),())).bind λf=>bif f.1.1 then (Tu ((a.1.2.2.2.1,()),())).bind λc=>bif c.1.1 then (JA ((a.1.2.2.1,()),(((0:Int),()),(((10000:Int),()),())))).bind λb=>bif b.1.1 then some ((km (List.length a.1.2.2.2.2.1:Int) (4:Int),()),())else some ((false,()),())else some ((false,()),())else some ((false,()),())else some ((false,()),())) some d
def aH1:zi:=⟨aG9,aH0,Kx⟩
def aH2:=OM
def aH3:=IZ
def FY.b1(b:bF):(a:tm)->Option (Sum tm (Sum tm Kc)):=λa=>bif dO a.2.1 (List.length b.2.2.2.2.1:Int)then (bK b.2.2.2.2.1 a.2.1).bind λc=>some (.inl (cM .i64 a.1 c.1,(cM .i64 a.2.1 (1:Int),())))else some (.inr (.inl (a.1,(a.2.1,()))))
def FY.b0(c:FQ):(a:tm)->Option Kc:=λa=>bif dO a.2.1 (List.length c.1.1:Int)then(bK c.1.1 a.2.1).bind λb=>(aR (FY.b1 b) (cM .i64 a.1 (cM .i64 b.2.1 b.2.2.2.1),((0:Int),()))).bind λd=>Sum.elim (λe=>some (.inl (e.1,(cM .i64 a.2.1 (1:Int),())))) some d else some (.inr (.inl (a.1,(a.2.1,()))))
def FY:FQ->Option sF:=λb=>(aR (FY.b0 b) ((0:Int),((0:Int),()))).bind λa=>Sum.elim (λc=>some ((c.1,()),())) some a
def aH4:zi:=⟨aH2,aH3,FY⟩
def i81:=OM
def o81:=o7
def Tv.b0(c:FQ):(a:ix)->Option Ev:=λa=>bif dO a.1 (List.length c.1.1:Int)then(bK c.1.1 a.1).bind λb=>(Kx (b,())).bind λe=>bif (!e.1.1)then some (.inr (.inr ((false,()),())))else bif dO (0:Int) a.1 then (bK c.1.1 (gS .i64 a.1 (1:Int))).bind λd=>bif ob b.1 d.1||ko b.1 d.1 then some (.inr (.inr ((false,()),()))) else some (.inl (cM .i64 a.1 (1:Int),())) else some (.inl (cM .i64 a.1 (1:Int),())) else some (.inr (.inl (a.1,())))
def Tv:FQ->Option lf:=λa=>(aR (Tv.b0 a) ((0:Int),())).bind λb=>Sum.elim (λd=>bif km (List.length a.1.1:Int) (12:Int)then (FY (a.1,())).bind λc=>some ((km c.1.1 (1000000:Int),()),())else some ((false,()),())) some b
def c81:zi:=⟨i81,o81,Tv⟩
def i36:=Qo
def o36:=o7
def ZO:tS->Option lf:=λa=>(JA ((a.1.1,()),(((0:Int),()),(((900:Int),()),())))).bind λb=>bif b.1.1 then (Tv ((a.1.2.1,()),())).bind λc=>some (c.1,())else some ((false,()),())
def c36:zi:=⟨i36,o36,ZO⟩
def i29:=Qo
def o29:=ZK
def SM.b0(c:tS):(a:OK)->Option (Sum OK (Sum OK B9)):=λa=>bif dO a.2.1 (List.length c.1.2.1:Int)then (bK c.1.2.1 a.2.1).bind λb=>bif km (5:Int) b.2.2.2.1 then bif dE (List.length a.1+List.length ([(b.1,(b.2.2.2.1,()))]:List (ds))) 24 then some (.inl (bV a.1 ([(b.1,(b.2.2.2.1,()))]:List (ds)),(cM .i64 a.2.1 (1:Int),()))) else none else some (.inl (a.1,(cM .i64 a.2.1 (1:Int),()))) else some (.inr (.inl (a.1,(a.2.1,()))))
def SM:tS->Option B9:=λa=>(ZO (a.1,())).bind λd=>bif (!d.1.1)then some (([],()),())else (aR (SM.b0 a) ([],((0:Int),()))).bind λc=>Sum.elim (λb=>some ((b.1,()),())) some c
def c29:zi:=⟨i29,o29,SM⟩
def i89:=VF
def o89:=IZ
def Tw.b0(b:(I7×Em)):(a:ix)->Option K7:=λa=>bif dO a.1 (List.length b.1.1:Int)then(bK b.1.1 a.1).bind λc=>bif ko b.2.1.1 c.1 then some (.inr (.inr ((a.1,()),())))else some (.inl (cM .i64 a.1 (1:Int),()))else some (.inr (.inl (a.1,())))
def Tw:(I7×Em)->Option sF:=λa=>(aR (Tw.b0 a) ((0:Int),())).bind λb=>Sum.elim (λc=>some (((-1:Int),()),())) some b
def c89:zi:=⟨i89,o89,Tw⟩
def i40:=VF
def o40:=o7
def ZP:(I7×Em)->Option lf:=λa=>(Tw (a.1,(a.2.1,()))).bind λb=>some ((km (0:Int) b.1.1,()),())
def c40:zi:=⟨i40,o40,ZP⟩
def i64:=MS
def o64:=IZ
def SN.b0(b:HX):(a:tm)->Option Kc:=λa=>bif dO a.2.1 (List.length b.1.1:Int)then(bK b.1.1 a.2.1).bind λc=>(ZP (b.2.1,((c.1,()),()))).bind λd=>bif d.1.1 then some (.inl (cM .i64 a.1 c.2.1,(cM .i64 a.2.1 (1:Int),())))else some (.inl (a.1,(cM .i64 a.2.1 (1:Int),())))else some (.inr (.inl (a.1,(a.2.1,()))))
def SN:HX->Option sF:=λc=>(aR (SN.b0 c) ((0:Int),((0:Int),()))).bind λb=>Sum.elim (λa=>some ((a.1,()),())) some b
def c64:zi:=⟨i64,o64,SN⟩
def i65:=Qu
def o65:=IZ
def SO.b0(b:B9):(a:tm)->Option Kc:=λa=>bif dO a.2.1 (List.length b.1.1:Int)then(bK b.1.1 a.2.1).bind λc=>some (.inl (cM .i64 a.1 c.2.1,(cM .i64 a.2.1 (1:Int),())))else some (.inr (.inl (a.1,(a.2.1,()))))
def SO:B9->Option sF:=λa=>(aR (SO.b0 a) ((0:Int),((0:Int),()))).bind λc=>Sum.elim (λb=>some ((b.1,()),())) some c
def c65:zi:=⟨i65,o65,SO⟩
def i28:Gs:=[⟨.rp,Ve,[]⟩,P9]
def o28:=o7
def Xe:(IY×B9)->Option lf:=λa=>(SN (a.2.1,((a.1.2.2.1,()),()))).bind λb=>(SO (a.2.1,())).bind λc=>some ((dO (zJ .i64 (3:Int) b.1.1) c.1.1,()),())
def c28:zi:=⟨i28,o28,Xe⟩
def i9:Gs:=[XE]
def o9:=o7
def F9.b2(b:Ka)(e:sG):(a:ix)->Option (Sum ix (Sum ix Qi)):=λa=>bif dO a.1 (List.length b.2.1:Int)then (bK b.2.1 a.1).bind λc=>bif c.2.2.2.2.2.2.2.2.2.2.2.1 then (Xe (e.1,((c.2.2.2.2.2.2.2.2.2.2.2.2.1,()),()))).bind λd=>bif (!d.1.1)then some (.inr (.inr (.inr (.inr (.inr (.inr ((false,()),())))))))else some (.inl (cM .i64 a.1 (1:Int),()))else some (.inl (cM .i64 a.1 (1:Int),()))else some (.inr (.inl (a.1,())))
def F9.b1(b:Fh)(e:sG):(a:ix)->Option Qi:=λa=>bif dO a.1 (List.length b.2.2.2.2.2.2.2.2.2.2.2.2.2.2.2.2.2.2.2.1:Int)then(bK b.2.2.2.2.2.2.2.2.2.2.2.2.2.2.2.2.2.2.2.1 a.1).bind λd=>(aR (F9.b2 d e) ((0:Int),())).bind λc=>Sum.elim (λf=>some (.inl (cM .i64 a.1 (1:Int),()))) some c else some (.inr (.inl (a.1,())))
def F9.b0(b:sG):(a:ix)->Option Ev:=λa=>bif dO a.1 (List.length b.1.2.2.2.1:Int)then(bK b.1.2.2.2.1 a.1).bind λc=>(Xe (b.1,((c.2.2.2.2.1,()),()))).bind λe=>bif (!e.1.1)then some (.inr (.inr ((false,()),())))else (aR (F9.b1 c b) ((0:Int),())).bind λd=>Sum.elim (λf=>some (.inl (cM .i64 a.1 (1:Int),()))) some d else some (.inr (.inl (a.1,())))
def F9:sG->Option lf:=λa=>(SM ((a.1.1,(a.1.2.1,())),())).bind λc=>(Xe (a.1,(c.1,()))).bind λd=>bif (!d.1.1)then some ((false,()),())else (aR (F9.b0 a) ((0:Int),())).bind λb=>Sum.elim (λe=>some ((true,()),())) some b
def c9:zi:=⟨i9,o9,F9⟩
def i30:=MS
def o30:=o7
def Xf:HX->Option lf:=λa=>(SK (a.1,(a.2.1,()))).bind λb=>(SL (a.1,())).bind λc=>some ((dO (zJ .i64 (3:Int) b.1.1) c.1.1,()),())
def c30:zi:=⟨i30,o30,Xf⟩
def i10:=i9
def o10:=o7
def I2.b2(c:Fh)(d:ix)(g:sG):(a:ix)->Option (Sum ix (Sum ix Qi)):=λa=>(bK c.2.2.2.2.2.2.2.2.2.2.2.2.2.2.2.2.2.2.2.1 d.1).bind λf=>bif dO a.1 (List.length f.2.1:Int)then (bK c.2.2.2.2.2.2.2.2.2.2.2.2.2.2.2.2.2.2.2.1 d.1).bind λh=>(bK h.2.1 a.1).bind λb=>bif b.2.2.2.2.2.2.2.2.2.2.2.1 then (Xf ((b.2.2.2.2.2.2.2.2.2.2.2.2.1,()),((g.1.2.2.1,()),()))).bind λe=>bif (!e.1.1)then some (.inr (.inr (.inr (.inr (.inr (.inr ((false,()),())))))))else some (.inl (cM .i64 a.1 (1:Int),()))else some (.inl (cM .i64 a.1 (1:Int),()))else some (.inr (.inl (a.1,())))
def I2.b1(b:Fh)(d:sG):(a:ix)->Option Qi:=λa=>bif dO a.1 (List.length b.2.2.2.2.2.2.2.2.2.2.2.2.2.2.2.2.2.2.2.1:Int)then(aR (I2.b2 b a d) ((0:Int),())).bind λc=>Sum.elim (λe=>some (.inl (cM .i64 a.1 (1:Int),()))) some c else some (.inr (.inl (a.1,())))
def I2.b0(b:sG):(a:ix)->Option Ev:=λa=>bif dO a.1 (List.length b.1.2.2.2.1:Int)then(bK b.1.2.2.2.1 a.1).bind λc=>(Xf ((c.2.2.2.2.1,()),((b.1.2.2.1,()),()))).bind λe=>bif (!e.1.1)then some (.inr (.inr ((false,()),())))else (aR (I2.b1 c b) ((0:Int),())).bind λd=>Sum.elim (λf=>some (.inl (cM .i64 a.1 (1:Int),()))) some d else some (.inr (.inl (a.1,())))
def I2:sG->Option lf:=λa=>(Xd ((a.1.1,(a.1.2.1,())),())).bind λc=>(Xf (c.1,((a.1.2.2.1,()),()))).bind λd=>bif (!d.1.1)then some ((false,()),())else (aR (I2.b0 a) ((0:Int),())).bind λb=>Sum.elim (λe=>some ((true,()),())) some b
def c10:zi:=⟨i10,o10,I2⟩
def i22:=Qo
def o22:Gs:=[XG]
def ZQ:tS->Option (SV×Unit):=λa=>(ZO (a.1,())).bind λb=>bif (!b.1.1)then some (((0:Int),([],())),())else (SM (a.1,())).bind λc=>some ((a.1.1,(c.1.1,())),())
def c22:zi:=⟨i22,o22,ZQ⟩
def aH5:Gs:=[⟨.c,(.cons (.sl Hr) .nil),[]⟩,⟨.c,(.cons (.fn [6] (.cons (.int .i64) (.cons (.sl j7) (.cons (.int .i64) (.cons (.int .i64) (.cons (.sl e9) .nil))))) (.cons .bool .nil)) .nil),[]⟩]
def aH6:=IZ
def Lo.b0(b:Xw):(a:ix)->Option K7:=λa=>bif dO a.1 (List.length b.1.1:Int)then(bK b.1.1 a.1).bind λd=>(b.2.1.1 d).bind λc=>bif c.1 then some (.inr (.inr ((a.1,()),())))else some (.inl (cM .i64 a.1 (1:Int),()))else some (.inr (.inl (a.1,())))
def Lo:Xw->Option sF:=λb=>(aR (Lo.b0 b) ((0:Int),())).bind λa=>Sum.elim (λc=>some (((-1:Int),()),())) some a
def aH7:zi:=⟨aH5,aH6,Lo⟩
def aH8:Gs:=[Vw,⟨.rp,(.cons (.int .i64) .nil),[]⟩]
def aH9:=o7
def VS:(Ka×sF)->Option lf:=λa=>some ((gA a.1.1 a.2.1.1,()),())
def aI0:zi:=⟨aH8,aH9,VS⟩
def i49:Gs:=[⟨.rp,HT,[]⟩,ED]
def o49:=IZ
def ZR:(Fh×sF)->Option sF:=λb=>(Lo ((b.1.2.2.2.2.2.2.2.2.2.2.2.2.2.2.2.2.2.2.2.1,()),(((λa=>(VS ((a.1,(a.2.1,(a.2.2.1,(a.2.2.2.1,(a.2.2.2.2.1,()))))),((b.2.1.1,()),()))).bind λd=>some (d.1.1,())),()),()))).bind λc=>some (c.1,())
def c49:zi:=⟨i49,o49,ZR⟩
def aI1:=XL
def aI2:Gs:=[⟨.c,(.cons (.sl e9) .nil),[(.own [])]⟩]
def QG:K8->Option K8:=λa=>bif a.1.1.isEmpty then mU (some (([],()),())) (bif dE (List.length ([]:List (D9))+List.length a.1.1) 16 then some ((bV ([]:List (D9)) a.1.1,()),()) else none) else bif dE (List.length ([]:List (D9))+List.length a.1.1) 16 then some ((bV ([]:List (D9)) a.1.1,()),()) else none
def aI3:zi:=⟨aI1,aI2,QG⟩
def aI4:=Qr
def aI5:=XR
def QH:Ex->Option Ex:=λa=>(QG ((a.1.2.2.1,()),())).bind λb=>some ((a.1.1,(a.1.2.1,(b.1.1,()))),())
def aI6:zi:=⟨aI4,aI5,QH⟩
def aI7:Gs:=[Qm]
def aI8:=Qx
def Tx:Fb->Option Fb:=λa=>bif a.1.1.isEmpty then mU (some (([],()),())) (bif dE (List.length ([]:List (D3))+List.length a.1.1) 8 then some ((bV ([]:List (D3)) a.1.1,()),()) else none) else bif dE (List.length ([]:List (D3))+List.length a.1.1) 8 then some ((bV ([]:List (D3)) a.1.1,()),()) else none
def aI9:zi:=⟨aI7,aI8,Tx⟩
def aJ0:=ON
def aJ1:=XS
def Tz:EH->Option EH:=λa=>(QG ((a.1.2.1,()),())).bind λb=>(Tx ((a.1.2.2.1,()),())).bind λc=>some ((a.1.1,(b.1.1,(c.1.1,()))),())
def aJ2:zi:=⟨aJ0,aJ1,Tz⟩
def aJ3:=VH
def aJ4:=X7
def TA:FT->Option FT:=λa=>bif a.1.1.isEmpty then mU (some (([],()),())) (bif dE (List.length ([]:List (cl))+List.length a.1.1) 56 then some ((bV ([]:List (cl)) a.1.1,()),()) else none) else bif dE (List.length ([]:List (cl))+List.length a.1.1) 56 then some ((bV ([]:List (cl)) a.1.1,()),()) else none
def aJ5:zi:=⟨aJ3,aJ4,TA⟩
def i57:=Qu
def o57:=ZK
def VT:B9->Option B9:=λa=>bif a.1.1.isEmpty then mU (some (([],()),())) (bif dE (List.length ([]:List (ds))+List.length a.1.1) 24 then some ((bV ([]:List (ds)) a.1.1,()),()) else none) else bif dE (List.length ([]:List (ds))+List.length a.1.1) 24 then some ((bV ([]:List (ds)) a.1.1,()),()) else none
def c57:zi:=⟨i57,o57,VT⟩
def aJ6:=Lc
def aJ7:=VG
def TB:D8->Option D8:=λa=>(QH ((a.1.2.2.2.2.1,(a.1.2.2.2.2.2.1,(a.1.2.2.2.2.2.2.1,()))),())).bind λb=>(Tz ((a.1.2.2.2.2.2.2.2.1,(a.1.2.2.2.2.2.2.2.2.1,(a.1.2.2.2.2.2.2.2.2.2.1,()))),())).bind λc=>(TA ((a.1.2.2.2.2.2.2.2.2.2.2.1,()),())).bind λe=>(VT ((a.1.2.2.2.2.2.2.2.2.2.2.2.2.1,()),())).bind λd=>some ((a.1.1,(a.1.2.1,(a.1.2.2.1,(a.1.2.2.2.1,(b.1.1,(b.1.2.1,(b.1.2.2.1,(c.1.1,(c.1.2.1,(c.1.2.2.1,(e.1.1,(a.1.2.2.2.2.2.2.2.2.2.2.2.1,(d.1.1,(a.1.2.2.2.2.2.2.2.2.2.2.2.2.2.1,())))))))))))))),())
def aJ8:zi:=⟨aJ6,aJ7,TB⟩
def aJ9:=Qs
def aK0:=OO
def Ky.b0(c:Ht):(a:K6)->Option Vp:=λa=>bif dO a.2.1 (List.length c.1.1:Int)then(bK c.1.1 a.2.1).bind λd=>(TB (d,())).bind λb=>bif dE (List.length a.1+List.length ([b.1]:List (tR))) 208 then some (.inl (bV a.1 ([b.1]:List (tR)),(cM .i64 a.2.1 (1:Int),())))else none else some (.inr (.inl (a.1,(a.2.1,()))))
def Ky:Ht->Option Ht:=λc=>(aR (Ky.b0 c) ([],((0:Int),()))).bind λb=>Sum.elim (λa=>some ((a.1,()),())) some b
def aK1:zi:=⟨aJ9,aK0,Ky⟩
def i50:=XT
def o50:=XU
def ZS:(Ka×Unit)->Option (Ka×Unit):=λa=>(Ky ((a.1.2.1,()),())).bind λc=>(QH ((a.1.2.2.1,(a.1.2.2.2.1,(a.1.2.2.2.2.1,()))),())).bind λb=>some ((a.1.1,(c.1.1,(b.1.1,(b.1.2.1,(b.1.2.2.1,()))))),())
def c50:zi:=⟨i50,o50,ZS⟩
def i23:=X2
def o23:Gs:=[XD,P7]
def Xg:(Fh×sF)->Option ((Ka×lf)):=λa=>(ZR (a.1,(a.2.1,()))).bind λb=>bif dO b.1.1 (0:Int)then some (((0:Int),([],((0:Int),((0:Int),([],()))))),((false,()),()))else (bK a.1.2.2.2.2.2.2.2.2.2.2.2.2.2.2.2.2.2.2.2.1 b.1.1).bind λd=>(ZS (d,())).bind λc=>some (c.1,((true,()),()))
def c23:zi:=⟨i23,o23,Xg⟩
def i53:Gs:=[⟨.agg,Xv,[]⟩]
def o53:=o22
def OW:(SV×Unit)->Option (SV×Unit):=λa=>(VT ((a.1.2.1,()),())).bind λb=>some ((a.1.1,(b.1.1,())),())
def c53:zi:=⟨i53,o53,OW⟩
def i51:=Qu
def o51:=o7
def SP.b0(c:B9):(a:ix)->Option Ev:=λa=>bif dO a.1 (List.length c.1.1:Int)then(bK c.1.1 a.1).bind λb=>(NA ((b.1,()),())).bind λf=>bif (!f.1.1)then some (.inr (.inr ((false,()),())))else (JA ((b.2.1,()),(((1:Int),()),(((1000000:Int),()),())))).bind λe=>bif (!e.1.1)then some (.inr (.inr ((false,()),())))else bif dO (0:Int) a.1 then (bK c.1.1 (gS .i64 a.1 (1:Int))).bind λd=>bif ob b.1 d.1||ko b.1 d.1 then some (.inr (.inr ((false,()),()))) else some (.inl (cM .i64 a.1 (1:Int),())) else some (.inl (cM .i64 a.1 (1:Int),())) else some (.inr (.inl (a.1,())))
def SP:B9->Option lf:=λa=>(aR (SP.b0 a) ((0:Int),())).bind λc=>Sum.elim (λd=>(JA (((List.length a.1.1:Int),()),(((1:Int),()),(((12:Int),()),())))).bind λb=>some (b.1,())) some c
def c51:zi:=⟨i51,o51,SP⟩
def i92:=Qr
def o92:=o7
def Yf:Ex->Option lf:=λa=>bif gA a.1.1 (0:Int)then bif gA a.1.2.1 (-1:Int)then some ((gA (List.length a.1.2.2.1:Int) (0:Int),()),())else some ((false,()),())else some ((false,()),())
def c92:zi:=⟨i92,o92,Yf⟩
def i37:=XL
def o37:=o7
def SQ.b0(c:K8):(a:ix)->Option Ev:=λa=>bif dO a.1 (List.length c.1.1:Int)then(bK c.1.1 a.1).bind λb=>(NA (b,())).bind λe=>bif (!e.1.1)then some (.inr (.inr ((false,()),())))else bif dO (0:Int) a.1 then (bK c.1.1 (gS .i64 a.1 (1:Int))).bind λd=>bif ob b.1 d.1||ko b.1 d.1 then some (.inr (.inr ((false,()),()))) else some (.inl (cM .i64 a.1 (1:Int),())) else some (.inl (cM .i64 a.1 (1:Int),())) else some (.inr (.inl (a.1,())))
def SQ:K8->Option lf:=λa=>(aR (SQ.b0 a) ((0:Int),())).bind λb=>Sum.elim (λc=>some ((km (List.length a.1.1:Int) (20:Int),()),())) some b
def c37:zi:=⟨i37,o37,SQ⟩
def i83:Gs:=[I8,ED,ED]
def o83:=o7
def Yg:(Xc×(ix×sF))->Option lf:=λa=>(Yf (a.1,())).bind λb=>bif b.1.1 then some ((true,()),())else (JA ((a.1.1,()),(((1:Int),()),(a.2.1,())))).bind λc=>bif c.1.1 then (JA ((a.1.2.1,()),(((0:Int),()),(a.2.2.1,())))).bind λe=>bif e.1.1 then (SQ ((a.1.2.2.1,()),())).bind λd=>some (d.1,())else some ((false,()),())else some ((false,()),())
def c83:zi:=⟨i83,o83,Yg⟩
def i93:=ON
def o93:=o7
def ZT:EH->Option lf:=λa=>bif gA a.1.1 (0:Int)then bif gA (List.length a.1.2.1:Int) (0:Int)then some ((gA (List.length a.1.2.2.1:Int) (0:Int),()),())else some ((false,()),())else some ((false,()),())
def c93:zi:=⟨i93,o93,ZT⟩
def i84:Gs:=[MK,ED]
def o84:=o7
def TC.b0(b:(UO×sF)):(a:ix)->Option Ev:=λa=>bif dO a.1 (List.length b.1.2.2.1:Int)then(bK b.1.2.2.1 a.1).bind λd=>(JA (d,(((0:Int),()),((gS .i64 b.1.1 (1:Int),()),())))).bind λc=>bif (!c.1.1)then some (.inr (.inr ((false,()),())))else some (.inl (cM .i64 a.1 (1:Int),()))else some (.inr (.inl (a.1,())))
def TC:(UO×sF)->Option lf:=λa=>(ZT (a.1,())).bind λb=>bif b.1.1 then some ((true,()),())else (aR (TC.b0 a) ((0:Int),())).bind λc=>Sum.elim (λf=>(JA ((a.1.1,()),(((1:Int),()),(a.2.1,())))).bind λd=>bif d.1.1 then (SQ ((a.1.2.1,()),())).bind λe=>bif e.1.1 then some ((gA (List.length a.1.2.2.1:Int) (List.length a.1.2.1:Int),()),())else some ((false,()),())else some ((false,()),())) some c
def c84:zi:=⟨i84,o84,TC⟩
def aK2:=XV
def aK3:=o7
def QI:MI->Option lf:=λa=>(JA ((a.1.1,()),(((1:Int),()),(((3:Int),()),())))).bind λb=>bif (!b.1.1)then some ((false,()),())else (NA ((a.1.2.1,()),())).bind λc=>bif (!c.1.1)then some ((false,()),())else (JA ((a.1.2.2.2.1,()),(((1:Int),()),(((1000000:Int),()),())))).bind λf=>bif (!f.1.1)then some ((false,()),())else (JA ((a.1.2.2.2.2.1,()),(((0:Int),()),(((10000:Int),()),())))).bind λe=>bif (!e.1.1)then some ((false,()),())else bif gA a.1.1 (1:Int)then (NA ((a.1.2.2.1,()),())).bind λd=>some (d.1,())else some ((ko a.1.2.2.1 ⟨#[]⟩,()),())
def aK4:zi:=⟨aK2,aK3,QI⟩
def i85:=VH
def o85:=o7
def TD.b0(b:FT):(a:ix)->Option Ev:=λa=>bif dO a.1 (List.length b.1.1:Int)then(bK b.1.1 a.1).bind λd=>(QI (d,())).bind λc=>bif (!c.1.1)then some (.inr (.inr ((false,()),())))else some (.inl (cM .i64 a.1 (1:Int),()))else some (.inr (.inl (a.1,())))
def TD:FT->Option lf:=λb=>(aR (TD.b0 b) ((0:Int),())).bind λa=>Sum.elim (λc=>some ((true,()),())) some a
def c85:zi:=⟨i85,o85,TD⟩
def i38:=Lc
def o38:=o7
def ZU:D8->Option lf:=λa=>(JA ((a.1.1,()),(((0:Int),()),(((100000:Int),()),())))).bind λb=>bif (!b.1.1)then some ((false,()),())else (JA ((a.1.2.1,()),(((0:Int),()),(((900:Int),()),())))).bind λc=>bif (!c.1.1)then some ((false,()),())else (JA ((a.1.2.2.1,()),(((1:Int),()),(((10000:Int),()),())))).bind λg=>bif (!g.1.1)then some ((false,()),())else (NA ((a.1.2.2.2.1,()),())).bind λf=>bif (!f.1.1)then some ((false,()),())else (Yg ((a.1.2.2.2.2.1,(a.1.2.2.2.2.2.1,(a.1.2.2.2.2.2.2.1,()))),((gS .i64 a.1.2.2.1 (1:Int),()),((gS .i64 a.1.1 (1:Int),()),())))).bind λe=>bif (!e.1.1)then some ((false,()),())else (TC ((a.1.2.2.2.2.2.2.2.1,(a.1.2.2.2.2.2.2.2.2.1,(a.1.2.2.2.2.2.2.2.2.2.1,()))),((gS .i64 a.1.2.2.1 (1:Int),()),()))).bind λi=>bif (!i.1.1)then some ((false,()),())else bif dO (4:Int) (List.length a.1.2.2.2.2.2.2.2.2.2.2.1:Int)then some ((false,()),())else (TD ((a.1.2.2.2.2.2.2.2.2.2.2.1,()),())).bind λd=>bif (!d.1.1)then some ((false,()),())else bif (!a.1.2.2.2.2.2.2.2.2.2.2.2.1)then bif gA (List.length a.1.2.2.2.2.2.2.2.2.2.2.2.2.1:Int) (0:Int)then some ((ko a.1.2.2.2.2.2.2.2.2.2.2.2.2.2.1 ⟨#[]⟩,()),())else some ((false,()),())else (SP ((a.1.2.2.2.2.2.2.2.2.2.2.2.2.1,()),())).bind λh=>bif h.1.1 then some ((gA (ByteArray.size a.1.2.2.2.2.2.2.2.2.2.2.2.2.2.1:Int) (32:Int),()),())else some ((false,()),())
def c38:zi:=⟨i38,o38,ZU⟩
def aK5:=MS
def aK6:=o7
def VU:HX->Option lf:=λa=>(SN (a.1,(a.2.1,()))).bind λb=>(SO (a.1,())).bind λc=>some ((dO (zJ .i64 (2:Int) c.1.1) (zJ .i64 (3:Int) b.1.1),()),())
def aK7:zi:=⟨aK5,aK6,VU⟩
def Yh:Gs:=[P9,aa7]
def aK8:=IZ
def Kz.b0(b:Vi):(a:ix)->Option K7:=λa=>bif dO a.1 (List.length b.1.1:Int)then(bK b.1.1 a.1).bind λd=>(b.2.1.1 d).bind λc=>bif c.1 then some (.inr (.inr ((a.1,()),())))else some (.inl (cM .i64 a.1 (1:Int),()))else some (.inr (.inl (a.1,())))
def Kz:Vi->Option sF:=λb=>(aR (Kz.b0 b) ((0:Int),())).bind λa=>Sum.elim (λc=>some (((-1:Int),()),())) some a
def aK9:zi:=⟨Yh,aK8,Kz⟩
def aL0:=Yh
def aL1:=o7
def VV:Vi->Option lf:=λa=>(Kz (a.1,(a.2.1,()))).bind λb=>some ((km (0:Int) b.1.1,()),())
def aL2:zi:=⟨aL0,aL1,VV⟩
def aL3:Gs:=[⟨.agg,va,[]⟩,⟨.rp,(.cons .str .nil),[]⟩]
def aL4:=o7
def Yi:(ds×Em)->Option lf:=λa=>some ((ko a.1.1 a.2.1.1,()),())
def aL5:zi:=⟨aL3,aL4,Yi⟩
def aL6:=XW
def aL7:=o7
def TE:(Kb×Em)->Option lf:=λa=>(VV (a.1,(((λb=>(Yi ((b.1,(b.2.1,())),((a.2.1.1,()),()))).bind λd=>some (d.1.1,())),()),()))).bind λc=>some (c.1,())
def aL8:zi:=⟨aL6,aL7,TE⟩
def aL9:=MS
def aM0:=o7
def KA.b0(b:HX):(a:ix)->Option Ev:=λa=>bif dO a.1 (List.length b.2.1.1:Int)then(bK b.2.1.1 a.1).bind λd=>(TE (b.1,(d,()))).bind λc=>bif (!c.1.1)then some (.inr (.inr ((false,()),())))else some (.inl (cM .i64 a.1 (1:Int),()))else some (.inr (.inl (a.1,())))
def KA:HX->Option lf:=λb=>(aR (KA.b0 b) ((0:Int),())).bind λa=>Sum.elim (λc=>some ((true,()),())) some a
def aM1:zi:=⟨aL9,aM0,KA⟩
def i54:=X4
def o54:=o7
def Yj:(Kb×Ex)->Option lf:=λa=>(Yf (a.2.1,())).bind λb=>bif b.1.1 then some ((true,()),())else (Yg (a.2.1,(((10000:Int),()),(((100000:Int),()),())))).bind λc=>bif c.1.1 then (VU (a.1,((a.2.1.2.2.1,()),()))).bind λe=>bif e.1.1 then (KA (a.1,((a.2.1.2.2.1,()),()))).bind λd=>some (d.1,())else some ((false,()),())else some ((false,()),())
def c54:zi:=⟨i54,o54,Yj⟩
def i52:Gs:=[⟨.rp,Xv,[]⟩,S5]
def o52:=o7
def TF.b0(c:(SV×Ht)):(a:ix)->Option Ev:=λa=>bif dO a.1 (List.length c.2.1.1:Int)then(bK c.2.1.1 a.1).bind λb=>bif !gA b.2.1 c.1.1 then some (.inr (.inr ((false,()),())))else (ZU (b,())).bind λe=>bif (!e.1.1)then some (.inr (.inr ((false,()),())))else bif dO (0:Int) a.1 then (bK c.2.1.1 (gS .i64 a.1 (1:Int))).bind λd=>bif !gA b.2.2.2.2.2.1 d.1 then some (.inr (.inr ((false,()),()))) else (bK c.2.1.1 (gS .i64 a.1 (1:Int))).bind λf=>bif !gA b.2.2.2.2.1 f.2.2.1 then some (.inr (.inr ((false,()),()))) else (Yj ((c.1.2.1,()),((b.2.2.2.2.1,(b.2.2.2.2.2.1,(b.2.2.2.2.2.2.1,()))),()))).bind λg=>bif (!g.1.1) then some (.inr (.inr ((false,()),()))) else some (.inl (cM .i64 a.1 (1:Int),())) else some (.inl (cM .i64 a.1 (1:Int),())) else some (.inr (.inl (a.1,())))
def TF:(SV×Ht)->Option lf:=λb=>(aR (TF.b0 b) ((0:Int),())).bind λa=>Sum.elim (λc=>some ((true,()),())) some a
def c52:zi:=⟨i52,o52,TF⟩
def i55:Gs:=[S5,⟨.c,(.cons (.fn [15] (.cons (.int .i64) (.cons (.int .i64) (.cons (.int .i64) (.cons .str (.cons (.int .i64) (.cons (.int .i64) (.cons (.sl e9) (.cons (.int .i64) (.cons (.sl e9) (.cons (.sl e3) (.cons (.sl i3) (.cons .bool (.cons (.sl va) (.cons .str .nil)))))))))))))) (.cons .bool .nil)) .nil),[]⟩]
def o55:=IZ
def SR.b0(b:(GI×(((tR->Option I6)×Unit)×Unit))):(a:ix)->Option K7:=λa=>bif dO a.1 (List.length b.1.1:Int)then(bK b.1.1 a.1).bind λd=>(b.2.1.1 d).bind λc=>bif c.1 then some (.inr (.inr ((a.1,()),())))else some (.inl (cM .i64 a.1 (1:Int),()))else some (.inr (.inl (a.1,())))
def SR:(GI×(((tR->Option I6)×Unit)×Unit))->Option sF:=λb=>(aR (SR.b0 b) ((0:Int),())).bind λa=>Sum.elim (λc=>some (((-1:Int),()),())) some a
def c55:zi:=⟨i55,o55,SR⟩
def i56:=Lc
def o56:=o7
def F56:D8->Option lf:=λa=>some ((a.1.2.2.2.2.2.2.2.2.2.2.2.1,()),())
def c56:zi:=⟨i56,o56,F56⟩
def i24:Gs:=[⟨.agg,Xv,[]⟩,Vw]
def o24:Gs:=[XG,P7]
def VX:(SV×(Ka×Unit))->Option ((SV×lf)):=λa=>bif dO (gS .i64 (List.length a.2.1.2.1:Int) (1:Int)) (1:Int)then (OW (a.1,())).bind λn=>some (n.1,((false,()),()))else bif !gA a.2.1.1 a.1.1 then (OW (a.1,())).bind λr=>some (r.1,((false,()),()))else (SP ((a.1.2.1,()),())).bind λp=>bif (!p.1.1)then (OW (a.1,())).bind λo=>some (o.1,((false,()),()))else (TF (a.1,((a.2.1.2.1,()),()))).bind λt=>bif (!t.1.1)then (OW (a.1,())).bind λq=>some (q.1,((false,()),()))else (bK a.2.1.2.1 (gS .i64 (List.length a.2.1.2.1:Int) (1:Int))).bind λc=>(bK a.2.1.2.1 (gS .i64 (gS .i64 (List.length a.2.1.2.1:Int) (1:Int)) (1:Int))).bind λs=>bif !gA s.2.2.1 (gS .i64 c.2.2.1 (1:Int))then (OW (a.1,())).bind λm=>some (m.1,((false,()),()))else bif !gA a.2.1.2.2.1 c.2.2.1 then (OW (a.1,())).bind λk=>some (k.1,((false,()),()))else bif !gA a.2.1.2.2.2.1 c.1 then (OW (a.1,())).bind λh=>some (h.1,((false,()),()))else (Yj ((a.1.2.1,()),((a.2.1.2.2.1,(a.2.1.2.2.2.1,(a.2.1.2.2.2.2.1,()))),()))).bind λf=>bif (!f.1.1)then (OW (a.1,())).bind λe=>some (e.1,((false,()),()))else bif mX (gS .i64 (List.length a.2.1.2.1:Int) (1:Int)) (List.length a.2.1.2.1)then (SR ((List.take ((Int.toNat (gS .i64 (List.length a.2.1.2.1:Int) (1:Int)))-0) (List.drop 0 a.2.1.2.1),()),(((λb=>(F56 ((b.1,(b.2.1,(b.2.2.1,(b.2.2.2.1,(b.2.2.2.2.1,(b.2.2.2.2.2.1,(b.2.2.2.2.2.2.1,(b.2.2.2.2.2.2.2.1,(b.2.2.2.2.2.2.2.2.1,(b.2.2.2.2.2.2.2.2.2.1,(b.2.2.2.2.2.2.2.2.2.2.1,(b.2.2.2.2.2.2.2.2.2.2.2.1,(b.2.2.2.2.2.2.2.2.2.2.2.2.1,(b.2.2.2.2.2.2.2.2.2.2.2.2.2.1,())))))))))))))),())).bind λj=>some (j.1.1,())),()),()))).bind λd=>bif dO d.1.1 (0:Int)then (OW (a.1,())).bind λi=>some (i.1,((false,()),()))else (bK a.2.1.2.1 d.1.1).bind λg=>(VT ((g.2.2.2.2.2.2.2.2.2.2.2.2.1,()),())).bind λl=>some ((cM .i64 a.1.1 (1:Int),(l.1.1,())),((true,()),()))else none
def c24:zi:=⟨i24,o24,VX⟩
def i21:=X5
def o21:=o7
def TG.b0(b:(Kb×B9)):(a:ix)->Option Ev:=λa=>bif dO a.1 (List.length b.1.1:Int)then(bK b.1.1 a.1).bind λc=>(bK b.2.1.1 a.1).bind λd=>bif !((ko c.1 d.1)&&(gA c.2.1 d.2.1))then some (.inr (.inr ((false,()),())))else some (.inl (cM .i64 a.1 (1:Int),()))else some (.inr (.inl (a.1,())))
def TG:(Kb×B9)->Option lf:=λa=>bif !gA (List.length a.1.1:Int) (List.length a.2.1.1:Int)then some ((false,()),())else (aR (TG.b0 a) ((0:Int),())).bind λb=>Sum.elim (λc=>some ((true,()),())) some b
def c21:zi:=⟨i21,o21,TG⟩
def i6:=i7
def o6:=o7
def F6.b1(e:ix)(d:sG)(f:(SV×Unit)):(c:ix)->Option Qi:=λc=>bif dO c.1 e.1 then(bK d.1.2.2.2.1 e.1).bind λ_=>(aC d.1.2.2.2.1 (Int.toNat e.1)).bind λb=>(aC d.1.2.2.2.1 (Int.toNat e.1)).bind λo=>(aC d.1.2.2.2.1 (Int.toNat e.1)).bind λl=>(aC d.1.2.2.2.1 (Int.toNat e.1)).bind λs=>(aC d.1.2.2.2.1 (Int.toNat e.1)).bind λn=>(Xg ((b.1,(b.2.1,(b.2.2.1,(b.2.2.2.1,(b.2.2.2.2.1,(b.2.2.2.2.2.1,(b.2.2.2.2.2.2.1,(b.2.2.2.2.2.2.2.1,(b.2.2.2.2.2.2.2.2.1,(b.2.2.2.2.2.2.2.2.2.1,(b.2.2.2.2.2.2.2.2.2.2.1,(b.2.2.2.2.2.2.2.2.2.2.2.1,(b.2.2.2.2.2.2.2.2.2.2.2.2.1,(b.2.2.2.2.2.2.2.2.2.2.2.2.2.1,(b.2.2.2.2.2.2.2.2.2.2.2.2.2.2.1,(o.2.2.2.2.2.2.2.2.2.2.2.2.2.2.2.1,(l.2.2.2.2.2.2.2.2.2.2.2.2.2.2.2.2.1,(s.2.2.2.2.2.2.2.2.2.2.2.2.2.2.2.2.2.1,(b.2.2.2.2.2.2.2.2.2.2.2.2.2.2.2.2.2.2.1,(n.2.2.2.2.2.2.2.2.2.2.2.2.2.2.2.2.2.2.2.1,())))))))))))))))))))),((f.1.1,()),()))).bind λh=>(bK d.1.2.2.2.1 c.1).bind λ_=>(aC d.1.2.2.2.1 (Int.toNat c.1)).bind λa=>(aC d.1.2.2.2.1 (Int.toNat c.1)).bind λr=>(aC d.1.2.2.2.1 (Int.toNat c.1)).bind λk=>(aC d.1.2.2.2.1 (Int.toNat c.1)).bind λq=>(aC d.1.2.2.2.1 (Int.toNat c.1)).bind λm=>(Xg ((a.1,(a.2.1,(a.2.2.1,(a.2.2.2.1,(a.2.2.2.2.1,(a.2.2.2.2.2.1,(a.2.2.2.2.2.2.1,(a.2.2.2.2.2.2.2.1,(a.2.2.2.2.2.2.2.2.1,(a.2.2.2.2.2.2.2.2.2.1,(a.2.2.2.2.2.2.2.2.2.2.1,(a.2.2.2.2.2.2.2.2.2.2.2.1,(a.2.2.2.2.2.2.2.2.2.2.2.2.1,(a.2.2.2.2.2.2.2.2.2.2.2.2.2.1,(a.2.2.2.2.2.2.2.2.2.2.2.2.2.2.1,(r.2.2.2.2.2.2.2.2.2.2.2.2.2.2.2.1,(k.2.2.2.2.2.2.2.2.2.2.2.2.2.2.2.2.1,(q.2.2.2.2.2.2.2.2.2.2.2.2.2.2.2.2.2.1,(a.2.2.2.2.2.2.2.2.2.2.2.2.2.2.2.2.2.2.1,(m.2.2.2.2.2.2.2.2.2.2.2.2.2.2.2.2.2.2.2.1,())))))))))))))))))))),((f.1.1,()),()))).bind λg=>(VX (f.1,(h.1,()))).bind λi=>(VX (f.1,(g.1,()))).bind λj=>bif !wo h.2.1.1 i.2.1.1 then some (.inr (.inr (.inr (.inr ((false,()),())))))else bif !wo g.2.1.1 j.2.1.1 then some (.inr (.inr (.inr (.inr ((false,()),())))))else bif h.2.1.1 then bif g.2.1.1 then (TG ((i.1.2.1,()),((j.1.2.1,()),()))).bind λp=>bif (!p.1.1)then some (.inr (.inr (.inr (.inr ((false,()),())))))else some (.inl (cM .i64 c.1 (1:Int),()))else some (.inl (cM .i64 c.1 (1:Int),()))else some (.inl (cM .i64 c.1 (1:Int),()))else some (.inr (.inl (c.1,())))
def F6.b0(b:sG)(c:(SV×Unit)):(a:ix)->Option Ev:=λa=>bif dO a.1 (List.length b.1.2.2.2.1:Int)then(aR (F6.b1 a b c) ((0:Int),())).bind λd=>Sum.elim (λe=>some (.inl (cM .i64 a.1 (1:Int),()))) some d else some (.inr (.inl (a.1,())))
def F6:EG->Option lf:=λb=>(F7 (b.1,())).bind λe=>bif e.1.1 then some ((true,()),())else (ZN (b.1,())).bind λa=>(F9 (a.1,())).bind λi=>(I2 (a.1,())).bind λh=>bif !wo i.1.1 h.1.1 then (F9 (a.1,())).bind λg=>bif (!g.1.1)then (I2 (a.1,())).bind λk=>some (((!k.1.1),()),())else some ((false,()),())else (I2 (a.1,())).bind λf=>bif (!f.1.1)then (F9 (a.1,())).bind λj=>bif (!j.1.1)then (I2 (a.1,())).bind λl=>some (((!l.1.1),()),())else some ((false,()),())else (ZQ ((a.1.1,(a.1.2.1,())),())).bind λc=>(aR (F6.b0 a c) ((0:Int),())).bind λd=>Sum.elim (λm=>some ((true,()),())) some d
def c6:zi:=⟨i6,o6,F6⟩
end
end Go.Proofs.YthjkikiepdnimaaGreat
