/- What the functions that the laws reach compute, as functions over plain data; each one's equation with the program is checked by the kernel, part 2. Conditions: none. -/
import Derived.Test.YthjkikiepdnimaaGreatFzFa
set_option linter.unusedVariables false
set_option linter.unusedSimpArgs false
set_option linter.constructorNameAsVariable false
namespace Go.Proofs.YthjkikiepdnimaaGreat
open Go Go.Tm
set_option maxRecDepth 100000
noncomputable section
def aC2:=Sw
def aC3:=o7
def Ki.b0(b:KS):(a:i9)->Option EO:=λa=>bif dO a.1 (List.length b.1.2.2.2.2.1:Int)then(bK b.1.2.2.2.2.1 a.1).bind λc=>(Jl ((c.1,()),(((1:Int),()),(((1000000:Int),()),())))).bind λf=>bif (!f.1.1)then some (.inr (.inr ((false,()),())))else (Jl ((c.2.1,()),(((0:Int),()),(((1000:Int),()),())))).bind λe=>bif (!e.1.1)then some (.inr (.inr ((false,()),())))else bif dO (0:Int) a.1 then (bK b.1.2.2.2.2.1 (gS .i64 a.1 (1:Int))).bind λd=>bif km c.2.1 d.2.1 then some (.inr (.inr ((false,()),()))) else some (.inl (cM .i64 a.1 (1:Int),())) else some (.inl (cM .i64 a.1 (1:Int),())) else some (.inr (.inl (a.1,())))
def Ki:KS->Option la:=λa=>(aR (Ki.b0 a) ((0:Int),())).bind λf=>Sum.elim (λg=>(Nl ((a.1.1,()),())).bind λe=>bif e.1.1 then (SZ ((a.1.2.1,()),())).bind λd=>bif d.1.1 then (SZ ((a.1.2.2.2.1,()),())).bind λc=>bif c.1.1 then (Jl ((a.1.2.2.1,()),(((0:Int),()),(((10000:Int),()),())))).bind λb=>bif b.1.1 then some ((km (List.length a.1.2.2.2.2.1:Int) (4:Int),()),())else some ((false,()),())else some ((false,()),())else some ((false,()),())else some ((false,()),())) some f
def aC4:zi:=⟨aC2,aC3,Ki⟩
def aC5:=Ov
def aC6:=II
def FN.b1(b:bF):(a:s7)->Option (Sum s7 (Sum s7 JW)):=λa=>bif dO a.2.1 (List.length b.2.2.2.2.1:Int)then (bK b.2.2.2.2.1 a.2.1).bind λc=>some (.inl (cM .i64 a.1 c.1,(cM .i64 a.2.1 (1:Int),())))else some (.inr (.inl (a.1,(a.2.1,()))))
def FN.b0(c:FI):(a:s7)->Option JW:=λa=>bif dO a.2.1 (List.length c.1.1:Int)then(bK c.1.1 a.2.1).bind λb=>(aR (FN.b1 b) (cM .i64 a.1 (cM .i64 b.2.1 b.2.2.2.1),((0:Int),()))).bind λd=>Sum.elim (λe=>some (.inl (e.1,(cM .i64 a.2.1 (1:Int),())))) some d else some (.inr (.inl (a.1,(a.2.1,()))))
def FN:FI->Option rS:=λa=>(aR (FN.b0 a) ((0:Int),((0:Int),()))).bind λc=>Sum.elim (λb=>some ((b.1,()),())) some c
def aC7:zi:=⟨aC5,aC6,FN⟩
def i81:=Ov
def o81:=o7
def S4.b0(b:FI):(a:i9)->Option EO:=λa=>bif dO a.1 (List.length b.1.1:Int)then(bK b.1.1 a.1).bind λc=>(Ki (c,())).bind λe=>bif (!e.1.1)then some (.inr (.inr ((false,()),())))else bif dO (0:Int) a.1 then (bK b.1.1 (gS .i64 a.1 (1:Int))).bind λd=>bif ob c.1 d.1||ko c.1 d.1 then some (.inr (.inr ((false,()),()))) else some (.inl (cM .i64 a.1 (1:Int),())) else some (.inl (cM .i64 a.1 (1:Int),())) else some (.inr (.inl (a.1,())))
def S4:FI->Option la:=λa=>(aR (S4.b0 a) ((0:Int),())).bind λb=>Sum.elim (λd=>bif km (List.length a.1.1:Int) (12:Int)then (FN (a.1,())).bind λc=>some ((km c.1.1 (1000000:Int),()),())else some ((false,()),())) some b
def c81:zi:=⟨i81,o81,S4⟩
def i36:=P1
def o36:=o7
def Y1:th->Option la:=λa=>(Jl ((a.1.1,()),(((0:Int),()),(((900:Int),()),())))).bind λc=>bif c.1.1 then (S4 ((a.1.2.1,()),())).bind λb=>some (b.1,())else some ((false,()),())
def c36:zi:=⟨i36,o36,Y1⟩
def i29:=P1
def o29:=YX
def S5.b0(c:th):(a:Oq)->Option (Sum Oq (Sum Oq C8)):=λa=>bif dO a.2.1 (List.length c.1.2.1:Int)then (bK c.1.2.1 a.2.1).bind λb=>bif km (5:Int) b.2.2.2.1 then bif dE (List.length a.1+List.length ([(b.1,(b.2.2.2.1,()))]:List (df))) 24 then some (.inl (bV a.1 ([(b.1,(b.2.2.2.1,()))]:List (df)),(cM .i64 a.2.1 (1:Int),()))) else none else some (.inl (a.1,(cM .i64 a.2.1 (1:Int),()))) else some (.inr (.inl (a.1,(a.2.1,()))))
def S5:th->Option C8:=λa=>(Y1 (a.1,())).bind λc=>bif (!c.1.1)then some (([],()),())else (aR (S5.b0 a) ([],((0:Int),()))).bind λb=>Sum.elim (λd=>some ((d.1,()),())) some b
def c29:zi:=⟨i29,o29,S5⟩
def i22:=P1
def o22:Gs:=[U2]
def Xt:th->Option (Sn×Unit):=λa=>(Y1 (a.1,())).bind λc=>bif (!c.1.1)then some (((0:Int),([],())),())else (S5 (a.1,())).bind λb=>some ((a.1.1,(b.1.1,())),())
def c22:zi:=⟨i22,o22,Xt⟩
def aC8:Gs:=[⟨.c,(.cons (.sl G2) .nil),[]⟩,⟨.c,(.cons (.fn [6] (.cons (.int .i64) (.cons (.sl j3) (.cons (.int .i64) (.cons (.int .i64) (.cons (.sl e9) .nil))))) (.cons .bool .nil)) .nil),[]⟩]
def aC9:=II
def K5.b0(b:WQ):(a:i9)->Option KR:=λa=>bif dO a.1 (List.length b.1.1:Int)then(bK b.1.1 a.1).bind λc=>(b.2.1.1 c).bind λd=>bif d.1 then some (.inr (.inr ((a.1,()),())))else some (.inl (cM .i64 a.1 (1:Int),()))else some (.inr (.inl (a.1,())))
def K5:WQ->Option rS:=λa=>(aR (K5.b0 a) ((0:Int),())).bind λb=>Sum.elim (λc=>some (((-1:Int),()),())) some b
def aD0:zi:=⟨aC8,aC9,K5⟩
def aD1:Gs:=[U3,⟨.rp,(.cons (.int .i64) .nil),[]⟩]
def aD2:=o7
def Vl:(Mo×rS)->Option la:=λa=>some ((gA a.1.1 a.2.1.1,()),())
def aD3:zi:=⟨aD1,aD2,Vl⟩
def i49:Gs:=[⟨.rp,HH,[]⟩,El]
def o49:=II
def Y2:(Gt×rS)->Option rS:=λb=>(K5 ((b.1.2.2.2.2.2.2.2.2.2.2.2.2.2.2.2.2.2.2.2.1,()),(((λa=>(Vl ((a.1,(a.2.1,(a.2.2.1,(a.2.2.2.1,(a.2.2.2.2.1,()))))),((b.2.1.1,()),()))).bind λc=>some (c.1.1,())),()),()))).bind λd=>some (d.1,())
def c49:zi:=⟨i49,o49,Y2⟩
def i57:=P7
def o57:=YX
def Ww:C8->Option C8:=λa=>bif a.1.1.isEmpty then mU (some (([],()),())) (bif dE (List.length ([]:List (df))+List.length a.1.1) 24 then some ((bV ([]:List (df)) a.1.1,()),()) else none) else bif dE (List.length ([]:List (df))+List.length a.1.1) 24 then some ((bV ([]:List (df)) a.1.1,()),()) else none
def c57:zi:=⟨i57,o57,Ww⟩
def i53:Gs:=[⟨.agg,WO,[]⟩]
def o53:=o22
def OE:(Sn×Unit)->Option (Sn×Unit):=λa=>(Ww ((a.1.2.1,()),())).bind λb=>some ((a.1.1,(b.1.1,())),())
def c53:zi:=⟨i53,o53,OE⟩
def i51:=P7
def o51:=o7
def Sh.b0(c:C8):(a:i9)->Option EO:=λa=>bif dO a.1 (List.length c.1.1:Int)then(bK c.1.1 a.1).bind λb=>(Nl ((b.1,()),())).bind λf=>bif (!f.1.1)then some (.inr (.inr ((false,()),())))else (Jl ((b.2.1,()),(((1:Int),()),(((1000000:Int),()),())))).bind λe=>bif (!e.1.1)then some (.inr (.inr ((false,()),())))else bif dO (0:Int) a.1 then (bK c.1.1 (gS .i64 a.1 (1:Int))).bind λd=>bif ob b.1 d.1||ko b.1 d.1 then some (.inr (.inr ((false,()),()))) else some (.inl (cM .i64 a.1 (1:Int),())) else some (.inl (cM .i64 a.1 (1:Int),())) else some (.inr (.inl (a.1,())))
def Sh:C8->Option la:=λa=>(aR (Sh.b0 a) ((0:Int),())).bind λb=>Sum.elim (λd=>(Jl (((List.length a.1.1:Int),()),(((1:Int),()),(((12:Int),()),())))).bind λc=>some (c.1,())) some b
def c51:zi:=⟨i51,o51,Sh⟩
def i92:=SD
def o92:=o7
def Xu:E1->Option la:=λa=>bif gA a.1.1 (0:Int)then bif gA a.1.2.1 (-1:Int)then some ((gA (List.length a.1.2.2.1:Int) (0:Int),()),())else some ((false,()),())else some ((false,()),())
def c92:zi:=⟨i92,o92,Xu⟩
def i37:=YW
def o37:=o7
def Si.b0(b:Mq):(a:i9)->Option EO:=λa=>bif dO a.1 (List.length b.1.1:Int)then(bK b.1.1 a.1).bind λc=>(Nl (c,())).bind λe=>bif (!e.1.1)then some (.inr (.inr ((false,()),())))else bif dO (0:Int) a.1 then (bK b.1.1 (gS .i64 a.1 (1:Int))).bind λd=>bif ob c.1 d.1||ko c.1 d.1 then some (.inr (.inr ((false,()),()))) else some (.inl (cM .i64 a.1 (1:Int),())) else some (.inl (cM .i64 a.1 (1:Int),())) else some (.inr (.inl (a.1,())))
def Si:Mq->Option la:=λa=>(aR (Si.b0 a) ((0:Int),())).bind λb=>Sum.elim (λc=>some ((km (List.length a.1.1:Int) (20:Int),()),())) some b
def c37:zi:=⟨i37,o37,Si⟩
def i83:Gs:=[IS,El,El]
def o83:=o7
def Xv:(Wv×(i9×rS))->Option la:=λa=>(Xu (a.1,())).bind λd=>bif d.1.1 then some ((true,()),())else (Jl ((a.1.1,()),(((1:Int),()),(a.2.1,())))).bind λc=>bif c.1.1 then (Jl ((a.1.2.1,()),(((0:Int),()),(a.2.2.1,())))).bind λe=>bif e.1.1 then (Si ((a.1.2.2.1,()),())).bind λb=>some (b.1,())else some ((false,()),())else some ((false,()),())
def c83:zi:=⟨i83,o83,Xv⟩
def i93:=P4
def o93:=o7
def Y3:Fj->Option la:=λa=>bif gA a.1.1 (0:Int)then bif gA (List.length a.1.2.1:Int) (0:Int)then some ((gA (List.length a.1.2.2.1:Int) (0:Int),()),())else some ((false,()),())else some ((false,()),())
def c93:zi:=⟨i93,o93,Y3⟩
def i84:Gs:=[Mt,El]
def o84:=o7
def S6.b0(b:(Um×rS)):(a:i9)->Option EO:=λa=>bif dO a.1 (List.length b.1.2.2.1:Int)then(bK b.1.2.2.1 a.1).bind λc=>(Jl (c,(((0:Int),()),((gS .i64 b.1.1 (1:Int),()),())))).bind λd=>bif (!d.1.1)then some (.inr (.inr ((false,()),())))else some (.inl (cM .i64 a.1 (1:Int),()))else some (.inr (.inl (a.1,())))
def S6:(Um×rS)->Option la:=λa=>(Y3 (a.1,())).bind λd=>bif d.1.1 then some ((true,()),())else (aR (S6.b0 a) ((0:Int),())).bind λb=>Sum.elim (λf=>(Jl ((a.1.1,()),(((1:Int),()),(a.2.1,())))).bind λc=>bif c.1.1 then (Si ((a.1.2.1,()),())).bind λe=>bif e.1.1 then some ((gA (List.length a.1.2.2.1:Int) (List.length a.1.2.1:Int),()),())else some ((false,()),())else some ((false,()),())) some b
def c84:zi:=⟨i84,o84,S6⟩
def aD4:=W9
def aD5:=o7
def Qi:Mr->Option la:=λa=>(Jl ((a.1.1,()),(((1:Int),()),(((3:Int),()),())))).bind λd=>bif (!d.1.1)then some ((false,()),())else (Nl ((a.1.2.1,()),())).bind λc=>bif (!c.1.1)then some ((false,()),())else (Jl ((a.1.2.2.2.1,()),(((1:Int),()),(((1000000:Int),()),())))).bind λe=>bif (!e.1.1)then some ((false,()),())else (Jl ((a.1.2.2.2.2.1,()),(((0:Int),()),(((10000:Int),()),())))).bind λb=>bif (!b.1.1)then some ((false,()),())else bif gA a.1.1 (1:Int)then (Nl ((a.1.2.2.1,()),())).bind λf=>some (f.1,())else some ((ko a.1.2.2.1 ⟨#[]⟩,()),())
def aD6:zi:=⟨aD4,aD5,Qi⟩
def i85:=Xa
def o85:=o7
def S7.b0(b:Hh):(a:i9)->Option EO:=λa=>bif dO a.1 (List.length b.1.1:Int)then(bK b.1.1 a.1).bind λc=>(Qi (c,())).bind λd=>bif (!d.1.1)then some (.inr (.inr ((false,()),())))else some (.inl (cM .i64 a.1 (1:Int),()))else some (.inr (.inl (a.1,())))
def S7:Hh->Option la:=λa=>(aR (S7.b0 a) ((0:Int),())).bind λb=>Sum.elim (λc=>some ((true,()),())) some b
def c85:zi:=⟨i85,o85,S7⟩
def i38:=Mx
def o38:=o7
def Y4:Eu->Option la:=λa=>(Jl ((a.1.1,()),(((0:Int),()),(((100000:Int),()),())))).bind λe=>bif (!e.1.1)then some ((false,()),())else (Jl ((a.1.2.1,()),(((0:Int),()),(((900:Int),()),())))).bind λd=>bif (!d.1.1)then some ((false,()),())else (Jl ((a.1.2.2.1,()),(((1:Int),()),(((10000:Int),()),())))).bind λf=>bif (!f.1.1)then some ((false,()),())else (Nl ((a.1.2.2.2.1,()),())).bind λc=>bif (!c.1.1)then some ((false,()),())else (Xv ((a.1.2.2.2.2.1,(a.1.2.2.2.2.2.1,(a.1.2.2.2.2.2.2.1,()))),((gS .i64 a.1.2.2.1 (1:Int),()),((gS .i64 a.1.1 (1:Int),()),())))).bind λg=>bif (!g.1.1)then some ((false,()),())else (S6 ((a.1.2.2.2.2.2.2.2.1,(a.1.2.2.2.2.2.2.2.2.1,(a.1.2.2.2.2.2.2.2.2.2.1,()))),((gS .i64 a.1.2.2.1 (1:Int),()),()))).bind λh=>bif (!h.1.1)then some ((false,()),())else bif dO (4:Int) (List.length a.1.2.2.2.2.2.2.2.2.2.2.1:Int)then some ((false,()),())else (S7 ((a.1.2.2.2.2.2.2.2.2.2.2.1,()),())).bind λb=>bif (!b.1.1)then some ((false,()),())else bif (!a.1.2.2.2.2.2.2.2.2.2.2.2.1)then bif gA (List.length a.1.2.2.2.2.2.2.2.2.2.2.2.2.1:Int) (0:Int)then some ((ko a.1.2.2.2.2.2.2.2.2.2.2.2.2.2.1 ⟨#[]⟩,()),())else some ((false,()),())else (Sh ((a.1.2.2.2.2.2.2.2.2.2.2.2.2.1,()),())).bind λi=>bif i.1.1 then some ((gA (ByteArray.size a.1.2.2.2.2.2.2.2.2.2.2.2.2.2.1:Int) (32:Int),()),())else some ((false,()),())
def c38:zi:=⟨i38,o38,Y4⟩
def i89:=Va
def o89:=II
def S8.b0(b:(IN×Ed)):(a:i9)->Option KR:=λa=>bif dO a.1 (List.length b.1.1:Int)then(bK b.1.1 a.1).bind λc=>bif ko b.2.1.1 c.1 then some (.inr (.inr ((a.1,()),())))else some (.inl (cM .i64 a.1 (1:Int),()))else some (.inr (.inl (a.1,())))
def S8:(IN×Ed)->Option rS:=λa=>(aR (S8.b0 a) ((0:Int),())).bind λb=>Sum.elim (λc=>some (((-1:Int),()),())) some b
def c89:zi:=⟨i89,o89,S8⟩
def i40:=Va
def o40:=o7
def Y5:(IN×Ed)->Option la:=λa=>(S8 (a.1,(a.2.1,()))).bind λb=>some ((km (0:Int) b.1.1,()),())
def c40:zi:=⟨i40,o40,Y5⟩
def i64:=Oz
def o64:=II
def S9.b0(b:IQ):(a:s7)->Option JW:=λa=>bif dO a.2.1 (List.length b.1.1:Int)then(bK b.1.1 a.2.1).bind λc=>(Y5 (b.2.1,((c.1,()),()))).bind λd=>bif d.1.1 then some (.inl (cM .i64 a.1 c.2.1,(cM .i64 a.2.1 (1:Int),())))else some (.inl (a.1,(cM .i64 a.2.1 (1:Int),())))else some (.inr (.inl (a.1,(a.2.1,()))))
def S9:IQ->Option rS:=λa=>(aR (S9.b0 a) ((0:Int),((0:Int),()))).bind λb=>Sum.elim (λc=>some ((c.1,()),())) some b
def c64:zi:=⟨i64,o64,S9⟩
def i65:=P7
def o65:=II
def Ta.b0(b:C8):(a:s7)->Option JW:=λa=>bif dO a.2.1 (List.length b.1.1:Int)then(bK b.1.1 a.2.1).bind λc=>some (.inl (cM .i64 a.1 c.2.1,(cM .i64 a.2.1 (1:Int),())))else some (.inr (.inl (a.1,(a.2.1,()))))
def Ta:C8->Option rS:=λa=>(aR (Ta.b0 a) ((0:Int),((0:Int),()))).bind λb=>Sum.elim (λc=>some ((c.1,()),())) some b
def c65:zi:=⟨i65,o65,Ta⟩
def aD7:=Oz
def aD8:=o7
def Vm:IQ->Option la:=λa=>(S9 (a.1,(a.2.1,()))).bind λc=>(Ta (a.1,())).bind λb=>some ((dO (zJ .i64 (2:Int) b.1.1) (zJ .i64 (3:Int) c.1.1),()),())
def aD9:zi:=⟨aD7,aD8,Vm⟩
def Xw:Gs:=[PU,Zq]
def aE0:=II
def Kj.b0(b:UL):(a:i9)->Option KR:=λa=>bif dO a.1 (List.length b.1.1:Int)then(bK b.1.1 a.1).bind λc=>(b.2.1.1 c).bind λd=>bif d.1 then some (.inr (.inr ((a.1,()),())))else some (.inl (cM .i64 a.1 (1:Int),()))else some (.inr (.inl (a.1,())))
def Kj:UL->Option rS:=λa=>(aR (Kj.b0 a) ((0:Int),())).bind λb=>Sum.elim (λc=>some (((-1:Int),()),())) some b
def aE1:zi:=⟨Xw,aE0,Kj⟩
def aE2:=Xw
def aE3:=o7
def Vn:UL->Option la:=λa=>(Kj (a.1,(a.2.1,()))).bind λb=>some ((km (0:Int) b.1.1,()),())
def aE4:zi:=⟨aE2,aE3,Vn⟩
def aE5:Gs:=[⟨.agg,s6,[]⟩,⟨.rp,(.cons .str .nil),[]⟩]
def aE6:=o7
def Xx:(df×Ed)->Option la:=λa=>some ((ko a.1.1 a.2.1.1,()),())
def aE7:zi:=⟨aE5,aE6,Xx⟩
def aE8:=Xb
def aE9:=o7
def Tb:(JV×Ed)->Option la:=λa=>(Vn (a.1,(((λb=>(Xx ((b.1,(b.2.1,())),((a.2.1.1,()),()))).bind λc=>some (c.1.1,())),()),()))).bind λd=>some (d.1,())
def aF0:zi:=⟨aE8,aE9,Tb⟩
def aF1:=Oz
def aF2:=o7
def Kk.b0(b:IQ):(a:i9)->Option EO:=λa=>bif dO a.1 (List.length b.2.1.1:Int)then(bK b.2.1.1 a.1).bind λc=>(Tb (b.1,(c,()))).bind λd=>bif (!d.1.1)then some (.inr (.inr ((false,()),())))else some (.inl (cM .i64 a.1 (1:Int),()))else some (.inr (.inl (a.1,())))
def Kk:IQ->Option la:=λa=>(aR (Kk.b0 a) ((0:Int),())).bind λb=>Sum.elim (λc=>some ((true,()),())) some b
def aF3:zi:=⟨aF1,aF2,Kk⟩
def i54:=Xj
def o54:=o7
def Xy:(JV×E1)->Option la:=λa=>(Xu (a.2.1,())).bind λd=>bif d.1.1 then some ((true,()),())else (Xv (a.2.1,(((10000:Int),()),(((100000:Int),()),())))).bind λc=>bif c.1.1 then (Vm (a.1,((a.2.1.2.2.1,()),()))).bind λe=>bif e.1.1 then (Kk (a.1,((a.2.1.2.2.1,()),()))).bind λb=>some (b.1,())else some ((false,()),())else some ((false,()),())
def c54:zi:=⟨i54,o54,Xy⟩
def i52:Gs:=[⟨.rp,WO,[]⟩,Ss]
def o52:=o7
def Tc.b0(c:(Sn×IP)):(a:i9)->Option EO:=λa=>bif dO a.1 (List.length c.2.1.1:Int)then(bK c.2.1.1 a.1).bind λb=>bif !gA b.2.1 c.1.1 then some (.inr (.inr ((false,()),())))else (Y4 (b,())).bind λe=>bif (!e.1.1)then some (.inr (.inr ((false,()),())))else bif dO (0:Int) a.1 then (bK c.2.1.1 (gS .i64 a.1 (1:Int))).bind λg=>bif !gA b.2.2.2.2.2.1 g.1 then some (.inr (.inr ((false,()),()))) else (bK c.2.1.1 (gS .i64 a.1 (1:Int))).bind λd=>bif !gA b.2.2.2.2.1 d.2.2.1 then some (.inr (.inr ((false,()),()))) else (Xy ((c.1.2.1,()),((b.2.2.2.2.1,(b.2.2.2.2.2.1,(b.2.2.2.2.2.2.1,()))),()))).bind λf=>bif (!f.1.1) then some (.inr (.inr ((false,()),()))) else some (.inl (cM .i64 a.1 (1:Int),())) else some (.inl (cM .i64 a.1 (1:Int),())) else some (.inr (.inl (a.1,())))
def Tc:(Sn×IP)->Option la:=λa=>(aR (Tc.b0 a) ((0:Int),())).bind λb=>Sum.elim (λc=>some ((true,()),())) some b
def c52:zi:=⟨i52,o52,Tc⟩
def i55:Gs:=[Ss,⟨.c,(.cons (.fn [15] (.cons (.int .i64) (.cons (.int .i64) (.cons (.int .i64) (.cons .str (.cons (.int .i64) (.cons (.int .i64) (.cons (.sl e9) (.cons (.int .i64) (.cons (.sl e9) (.cons (.sl e3) (.cons (.sl il) (.cons .bool (.cons (.sl s6) (.cons .str .nil)))))))))))))) (.cons .bool .nil)) .nil),[]⟩]
def o55:=II
def Sj.b0(b:(Gu×(((uf->Option IM)×Unit)×Unit))):(a:i9)->Option KR:=λa=>bif dO a.1 (List.length b.1.1:Int)then(bK b.1.1 a.1).bind λc=>(b.2.1.1 c).bind λd=>bif d.1 then some (.inr (.inr ((a.1,()),())))else some (.inl (cM .i64 a.1 (1:Int),()))else some (.inr (.inl (a.1,())))
def Sj:(Gu×(((uf->Option IM)×Unit)×Unit))->Option rS:=λa=>(aR (Sj.b0 a) ((0:Int),())).bind λb=>Sum.elim (λc=>some (((-1:Int),()),())) some b
def c55:zi:=⟨i55,o55,Sj⟩
def i56:=Mx
def o56:=o7
def F56:Eu->Option la:=λa=>some ((a.1.2.2.2.2.2.2.2.2.2.2.2.1,()),())
def c56:zi:=⟨i56,o56,F56⟩
def i24:Gs:=[⟨.agg,WO,[]⟩,U3]
def o24:Gs:=[U2,PT]
def Xz:(Sn×(Mo×Unit))->Option ((Sn×la)):=λa=>bif dO (gS .i64 (List.length a.2.1.2.1:Int) (1:Int)) (1:Int)then (OE (a.1,())).bind λm=>some (m.1,((false,()),()))else bif !gA a.2.1.1 a.1.1 then (OE (a.1,())).bind λr=>some (r.1,((false,()),()))else (Sh ((a.1.2.1,()),())).bind λn=>bif (!n.1.1)then (OE (a.1,())).bind λq=>some (q.1,((false,()),()))else (Tc (a.1,((a.2.1.2.1,()),()))).bind λp=>bif (!p.1.1)then (OE (a.1,())).bind λt=>some (t.1,((false,()),()))else (bK a.2.1.2.1 (gS .i64 (List.length a.2.1.2.1:Int) (1:Int))).bind λc=>(bK a.2.1.2.1 (gS .i64 (gS .i64 (List.length a.2.1.2.1:Int) (1:Int)) (1:Int))).bind λo=>bif !gA o.2.2.1 (gS .i64 c.2.2.1 (1:Int))then (OE (a.1,())).bind λs=>some (s.1,((false,()),()))else bif !gA a.2.1.2.2.1 c.2.2.1 then (OE (a.1,())).bind λl=>some (l.1,((false,()),()))else bif !gA a.2.1.2.2.2.1 c.1 then (OE (a.1,())).bind λe=>some (e.1,((false,()),()))else (Xy ((a.1.2.1,()),((a.2.1.2.2.1,(a.2.1.2.2.2.1,(a.2.1.2.2.2.2.1,()))),()))).bind λf=>bif (!f.1.1)then (OE (a.1,())).bind λi=>some (i.1,((false,()),()))else bif mX (gS .i64 (List.length a.2.1.2.1:Int) (1:Int)) (List.length a.2.1.2.1)then (Sj ((List.take ((Int.toNat (gS .i64 (List.length a.2.1.2.1:Int) (1:Int)))-0) (List.drop 0 a.2.1.2.1),()),(((λb=>(F56 ((b.1,(b.2.1,(b.2.2.1,(b.2.2.2.1,(b.2.2.2.2.1,(b.2.2.2.2.2.1,(b.2.2.2.2.2.2.1,(b.2.2.2.2.2.2.2.1,(b.2.2.2.2.2.2.2.2.1,(b.2.2.2.2.2.2.2.2.2.1,(b.2.2.2.2.2.2.2.2.2.2.1,(b.2.2.2.2.2.2.2.2.2.2.2.1,(b.2.2.2.2.2.2.2.2.2.2.2.2.1,(b.2.2.2.2.2.2.2.2.2.2.2.2.2.1,())))))))))))))),())).bind λk=>some (k.1.1,())),()),()))).bind λd=>bif dO d.1.1 (0:Int)then (OE (a.1,())).bind λj=>some (j.1,((false,()),()))else (bK a.2.1.2.1 d.1.1).bind λh=>(Ww ((h.2.2.2.2.2.2.2.2.2.2.2.2.1,()),())).bind λg=>some ((cM .i64 a.1.1 (1:Int),(g.1.1,())),((true,()),()))else none
def c24:zi:=⟨i24,o24,Xz⟩
def i20:Gs:=[Ot,PZ]
def o20:Gs:=[U2,El]
def Sl.b0(c:(IH×u3)):(a:UO)->Option (Sum UO (Sum UO ((Sn×rS)))):=λa=>(Y2 (c.2.1,((a.2.2.1,()),()))).bind λd=>bif dO d.1.1 (0:Int)then some (.inr (.inr ((a.2.2.1,(a.2.2.2.1,())),((a.2.1,()),()))))else (bK c.2.1.2.2.2.2.2.2.2.2.2.2.2.2.2.2.2.2.2.2.2.1 d.1.1).bind λe=>(Xz ((a.2.2.1,(a.2.2.2.1,())),(e,()))).bind λb=>bif (!b.2.1.1)then some (.inr (.inr ((a.2.2.1,(a.2.2.2.1,())),((a.2.1,()),()))))else some (.inl (a.1,(cM .i64 a.2.1 (1:Int),(b.1.1,(b.1.2.1,())))))
def Sl:(IH×u3)->Option ((Sn×rS)):=λa=>(Xt (a.1,())).bind λb=>(aR (Sl.b0 a) ((0:Int),((0:Int),(b.1.1,(b.1.2.1,()))))).bind λc=>Sum.elim (λd=>some (((0:Int),([],())),((d.1,()),()))) some c
def c20:zi:=⟨i20,o20,Sl⟩
def i21:=Xk
def o21:=o7
def Td.b0(b:(JV×C8)):(a:i9)->Option EO:=λa=>bif dO a.1 (List.length b.1.1:Int)then(bK b.1.1 a.1).bind λd=>(bK b.2.1.1 a.1).bind λc=>bif !((ko d.1 c.1)&&(gA d.2.1 c.2.1))then some (.inr (.inr ((false,()),())))else some (.inl (cM .i64 a.1 (1:Int),()))else some (.inr (.inl (a.1,())))
def Td:(JV×C8)->Option la:=λa=>bif !gA (List.length a.1.1:Int) (List.length a.2.1.1:Int)then some ((false,()),())else (aR (Td.b0 a) ((0:Int),())).bind λb=>Sum.elim (λc=>some ((true,()),())) some b
def c21:zi:=⟨i21,o21,Td⟩
def i5:=i7
def o5:=o7
def F5.b0(b:C7):(a:i9)->Option EO:=λa=>bif dO a.1 (List.length b.1.2.2.2.1:Int)then(bK b.1.2.2.2.1 a.1).bind λ_=>(aC b.1.2.2.2.1 (Int.toNat a.1)).bind λc=>(aC b.1.2.2.2.1 (Int.toNat a.1)).bind λi=>(aC b.1.2.2.2.1 (Int.toNat a.1)).bind λj=>(aC b.1.2.2.2.1 (Int.toNat a.1)).bind λl=>(aC b.1.2.2.2.1 (Int.toNat a.1)).bind λk=>(Sl ((b.1.1,(b.1.2.1,())),((c.1,(c.2.1,(c.2.2.1,(c.2.2.2.1,(c.2.2.2.2.1,(c.2.2.2.2.2.1,(c.2.2.2.2.2.2.1,(c.2.2.2.2.2.2.2.1,(c.2.2.2.2.2.2.2.2.1,(c.2.2.2.2.2.2.2.2.2.1,(c.2.2.2.2.2.2.2.2.2.2.1,(c.2.2.2.2.2.2.2.2.2.2.2.1,(c.2.2.2.2.2.2.2.2.2.2.2.2.1,(c.2.2.2.2.2.2.2.2.2.2.2.2.2.1,(c.2.2.2.2.2.2.2.2.2.2.2.2.2.2.1,(i.2.2.2.2.2.2.2.2.2.2.2.2.2.2.2.1,(j.2.2.2.2.2.2.2.2.2.2.2.2.2.2.2.2.1,(l.2.2.2.2.2.2.2.2.2.2.2.2.2.2.2.2.2.1,(c.2.2.2.2.2.2.2.2.2.2.2.2.2.2.2.2.2.2.1,(k.2.2.2.2.2.2.2.2.2.2.2.2.2.2.2.2.2.2.2.1,())))))))))))))))))))),()))).bind λd=>(bK b.1.2.2.2.1 a.1).bind λ_=>(aC b.1.2.2.2.1 (Int.toNat a.1)).bind λf=>bif !gA d.1.1 f.2.1 then some (.inr (.inr ((false,()),())))else (bK b.1.2.2.2.1 a.1).bind λ_=>(aC b.1.2.2.2.1 (Int.toNat a.1)).bind λh=>(Td ((d.1.2.1,()),((h.2.2.2.2.1,()),()))).bind λg=>bif (!g.1.1)then some (.inr (.inr ((false,()),())))else (bK b.1.2.2.2.1 a.1).bind λ_=>(aC b.1.2.2.2.1 (Int.toNat a.1)).bind λm=>(aC b.1.2.2.2.1 (Int.toNat a.1)).bind λe=>bif !gA d.2.1.1 (List.length e.2.2.2.2.2.2.2.2.2.2.2.2.2.2.2.2.2.2.2.1:Int)then some (.inr (.inr ((false,()),())))else some (.inl (cM .i64 a.1 (1:Int),()))else some (.inr (.inl (a.1,())))
def F5:Et->Option la:=λb=>(F7 (b.1,())).bind λe=>bif e.1.1 then some ((true,()),())else (Y0 (b.1,())).bind λa=>(aR (F5.b0 a) ((0:Int),())).bind λd=>Sum.elim (λf=>(Xt ((a.1.1,(a.1.2.1,())),())).bind λc=>some ((gA c.1.1 a.1.1,()),())) some d
def c5:zi:=⟨i5,o5,F5⟩
end
end Go.Proofs.YthjkikiepdnimaaGreat
