/- What the functions that the laws reach compute, as functions over plain data; each one's equation with the program is checked by the kernel, part 2. Conditions: none. -/
import Derived.Test.YthjkikiepdnimaaGreatTqFa
set_option linter.unusedVariables false
set_option linter.unusedSimpArgs false
set_option linter.constructorNameAsVariable false
namespace Go.Proofs.YthjkikiepdnimaaGreat
open Go Go.Tm
set_option maxRecDepth 100000
noncomputable section
def i11:=i9
def o11:=o7
def Oe.b1(d:gk)(c:mu)(a:tb):(v3:gk)->Option MA:=λv3=>bif dO v3.1 (List.length (List.take ((Int.toNat d.1)-0) (List.drop 0 c.1.2.2.2.2.2.1)):Int)then(bK (List.take ((Int.toNat d.1)-0) (List.drop 0 c.1.2.2.2.2.2.1)) v3.1).bind λb=>bif gA a.1 (1:Int) then bif gA b.1 (1:Int) then bif ko a.2.2.2.2.1 b.2.2.2.2.1 then bif gA a.2.1 b.2.1 then bif gA a.2.2.1 b.2.2.1 then bif !gA a.2.2.2.1 b.2.2.2.1 then some (.inr (.inr (.inr (.inr ((false,()),()))))) else some (.inl (cM .i64 v3.1 (1:Int),())) else some (.inl (cM .i64 v3.1 (1:Int),())) else some (.inl (cM .i64 v3.1 (1:Int),())) else some (.inl (cM .i64 v3.1 (1:Int),())) else some (.inl (cM .i64 v3.1 (1:Int),())) else some (.inl (cM .i64 v3.1 (1:Int),())) else some (.inr (.inl (v3.1,())))
def Oe.b0(b:mu):(a:gk)->Option tm:=λa=>bif dO a.1 (List.length b.1.2.2.2.2.2.1:Int)then(bK b.1.2.2.2.2.2.1 a.1).bind λc=>bif mX a.1 (List.length b.1.2.2.2.2.2.1)then(aR (Oe.b1 a b c) ((0:Int),())).bind λd=>Sum.elim (λe=>some (.inl (cM .i64 a.1 (1:Int),()))) some d else none else some (.inr (.inl (a.1,())))
def Oe:mu->Option i6:=λa=>(aR (Oe.b0 a) ((0:Int),())).bind λb=>Sum.elim (λc=>some ((true,()),())) some b
def c11:zi:=⟨i11,o11,Oe⟩
def i37:=i70
def o37:=o7
def SM.b0(c:MB):(a:gk)->Option tm:=λa=>bif dO a.1 (List.length c.1.1:Int)then(bK c.1.1 a.1).bind λb=>(My (b,())).bind λe=>bif (!e.1.1)then some (.inr (.inr ((false,()),())))else bif dO (0:Int) a.1 then (bK c.1.1 (gS .i64 a.1 (1:Int))).bind λd=>bif ob b.1 d.1||ko b.1 d.1 then some (.inr (.inr ((false,()),()))) else some (.inl (cM .i64 a.1 (1:Int),())) else some (.inl (cM .i64 a.1 (1:Int),())) else some (.inr (.inl (a.1,())))
def SM:MB->Option i6:=λa=>(aR (SM.b0 a) ((0:Int),())).bind λb=>Sum.elim (λc=>some ((km (List.length a.1.1:Int) (20:Int),()),())) some b
def c37:zi:=⟨i37,o37,SM⟩
def i92:=VJ
def o92:=o7
def XB:Fi->Option i6:=λa=>bif gA a.1.1 (0:Int)then bif gA a.1.2.1 (-1:Int)then some ((gA (List.length a.1.2.2.1:Int) (0:Int),()),())else some ((false,()),())else some ((false,()),())
def c92:zi:=⟨i92,o92,XB⟩
def i83:Gs:=[IZ,DO,DO]
def o83:=o7
def Z4:(X1×Ip)->Option i6:=λa=>(XB (a.1,())).bind λe=>bif e.1.1 then some ((true,()),())else (Gc ((a.1.1,()),(((1:Int),()),(a.2.1,())))).bind λd=>bif d.1.1 then (Gc ((a.1.2.1,()),(((0:Int),()),(a.2.2.1,())))).bind λb=>bif b.1.1 then (SM ((a.1.2.2.1,()),())).bind λc=>some (c.1,())else some ((false,()),())else some ((false,()),())
def c83:zi:=⟨i83,o83,Z4⟩
def i93:=Sz
def o93:=o7
def XC:Ft->Option i6:=λa=>bif gA a.1.1 (0:Int)then bif gA (List.length a.1.2.1:Int) (0:Int)then some ((gA (List.length a.1.2.2.1:Int) (0:Int),()),())else some ((false,()),())else some ((false,()),())
def c93:zi:=⟨i93,o93,XC⟩
def i84:Gs:=[Ov,DO]
def o84:=o7
def SN.b0(b:(Vs×sz)):(a:gk)->Option tm:=λa=>bif dO a.1 (List.length b.1.2.2.1:Int)then(bK b.1.2.2.1 a.1).bind λd=>(Gc (d,(((0:Int),()),((gS .i64 b.1.1 (1:Int),()),())))).bind λc=>bif (!c.1.1)then some (.inr (.inr ((false,()),())))else some (.inl (cM .i64 a.1 (1:Int),()))else some (.inr (.inl (a.1,())))
def SN:(Vs×sz)->Option i6:=λa=>(XC (a.1,())).bind λe=>bif e.1.1 then some ((true,()),())else (aR (SN.b0 a) ((0:Int),())).bind λc=>Sum.elim (λf=>(Gc ((a.1.1,()),(((1:Int),()),(a.2.1,())))).bind λd=>bif d.1.1 then (SM ((a.1.2.1,()),())).bind λb=>bif b.1.1 then some ((gA (List.length a.1.2.2.1:Int) (List.length a.1.2.1:Int),()),())else some ((false,()),())else some ((false,()),())) some c
def c84:zi:=⟨i84,o84,SN⟩
def aV9:=ac3
def aW0:=o7
def OJ:IX->Option i6:=λa=>(Gc ((a.1.1,()),(((1:Int),()),(((3:Int),()),())))).bind λf=>bif (!f.1.1)then some ((false,()),())else (My ((a.1.2.1,()),())).bind λd=>bif (!d.1.1)then some ((false,()),())else (Gc ((a.1.2.2.2.1,()),(((1:Int),()),(((1000000:Int),()),())))).bind λb=>bif (!b.1.1)then some ((false,()),())else (Gc ((a.1.2.2.2.2.1,()),(((0:Int),()),(((10000:Int),()),())))).bind λc=>bif (!c.1.1)then some ((false,()),())else bif gA a.1.1 (1:Int)then (My ((a.1.2.2.1,()),())).bind λe=>some (e.1,())else some ((ko a.1.2.2.1 ⟨#[]⟩,()),())
def aW1:zi:=⟨aV9,aW0,OJ⟩
def i85:=Yv
def o85:=o7
def V5.b0(b:Fg):(a:gk)->Option tm:=λa=>bif dO a.1 (List.length b.1.1:Int)then(bK b.1.1 a.1).bind λc=>(OJ (c,())).bind λd=>bif (!d.1.1)then some (.inr (.inr ((false,()),())))else some (.inl (cM .i64 a.1 (1:Int),()))else some (.inr (.inl (a.1,())))
def V5:Fg->Option i6:=λa=>(aR (V5.b0 a) ((0:Int),())).bind λb=>Sum.elim (λv4=>some ((true,()),())) some b
def c85:zi:=⟨i85,o85,V5⟩
def i51:=VM
def o51:=o7
def Vm.b0(c:Fh):(a:gk)->Option tm:=λa=>bif dO a.1 (List.length c.1.1:Int)then(bK c.1.1 a.1).bind λb=>(My ((b.1,()),())).bind λe=>bif (!e.1.1)then some (.inr (.inr ((false,()),())))else (Gc ((b.2.1,()),(((1:Int),()),(((1000000:Int),()),())))).bind λf=>bif (!f.1.1)then some (.inr (.inr ((false,()),())))else bif dO (0:Int) a.1 then (bK c.1.1 (gS .i64 a.1 (1:Int))).bind λd=>bif ob b.1 d.1||ko b.1 d.1 then some (.inr (.inr ((false,()),()))) else some (.inl (cM .i64 a.1 (1:Int),())) else some (.inl (cM .i64 a.1 (1:Int),())) else some (.inr (.inl (a.1,())))
def Vm:Fh->Option i6:=λa=>(aR (Vm.b0 a) ((0:Int),())).bind λb=>Sum.elim (λd=>(Gc (((List.length a.1.1:Int),()),(((1:Int),()),(((12:Int),()),())))).bind λc=>some (c.1,())) some b
def c51:zi:=⟨i51,o51,Vm⟩
def i38:=QH
def o38:=o7
def Z5:Fs->Option i6:=λa=>(Gc ((a.1.1,()),(((0:Int),()),(((100000:Int),()),())))).bind λi=>bif (!i.1.1)then some ((false,()),())else (Gc ((a.1.2.1,()),(((0:Int),()),(((900:Int),()),())))).bind λf=>bif (!f.1.1)then some ((false,()),())else (Gc ((a.1.2.2.1,()),(((1:Int),()),(((10000:Int),()),())))).bind λc=>bif (!c.1.1)then some ((false,()),())else (My ((a.1.2.2.2.1,()),())).bind λd=>bif (!d.1.1)then some ((false,()),())else (Z4 ((a.1.2.2.2.2.1,(a.1.2.2.2.2.2.1,(a.1.2.2.2.2.2.2.1,()))),((gS .i64 a.1.2.2.1 (1:Int),()),((gS .i64 a.1.1 (1:Int),()),())))).bind λg=>bif (!g.1.1)then some ((false,()),())else (SN ((a.1.2.2.2.2.2.2.2.1,(a.1.2.2.2.2.2.2.2.2.1,(a.1.2.2.2.2.2.2.2.2.2.1,()))),((gS .i64 a.1.2.2.1 (1:Int),()),()))).bind λb=>bif (!b.1.1)then some ((false,()),())else bif dO (4:Int) (List.length a.1.2.2.2.2.2.2.2.2.2.2.1:Int)then some ((false,()),())else (V5 ((a.1.2.2.2.2.2.2.2.2.2.2.1,()),())).bind λh=>bif (!h.1.1)then some ((false,()),())else bif (!a.1.2.2.2.2.2.2.2.2.2.2.2.1)then bif gA (List.length a.1.2.2.2.2.2.2.2.2.2.2.2.2.1:Int) (0:Int)then some ((ko a.1.2.2.2.2.2.2.2.2.2.2.2.2.2.1 ⟨#[]⟩,()),())else some ((false,()),())else (Vm ((a.1.2.2.2.2.2.2.2.2.2.2.2.2.1,()),())).bind λe=>bif e.1.1 then some ((gA (ByteArray.size a.1.2.2.2.2.2.2.2.2.2.2.2.2.2.1:Int) (32:Int),()),())else some ((false,()),())
def c38:zi:=⟨i38,o38,Z5⟩
def aW2:=Ir
def aW3:=o7
def SO:A2->Option i6:=λa=>some ((!ko a.1.1 a.1.1,()),())
def aW4:zi:=⟨aW2,aW3,SO⟩
def aW5:=ac9
def aW6:=Fu
def SP:(MC×A2)->Option sz:=λa=>(SO (a.1,())).bind λc=>(SO (a.2.1,())).bind λb=>bif c.1.1 then bif b.1.1 then some (((0:Int),()),())else some (((-1:Int),()),())else bif b.1.1 then some (((1:Int),()),())else bif ob a.1.1 a.2.1.1 then some (((-1:Int),()),())else bif !(ob a.1.1 a.2.1.1||ko a.1.1 a.2.1.1)then some (((1:Int),()),())else some (((0:Int),()),())
def aW7:zi:=⟨aW5,aW6,SP⟩
def aW8:=Fu
def aW9:=o7
def SQ:sz->Option i6:=λa=>some ((!gA a.1.1 a.1.1,()),())
def aX0:zi:=⟨aW8,aW9,SQ⟩
def aX1:=ac8
def aX2:=Fu
def QR:Ip->Option sz:=λa=>(SQ (a.1,())).bind λc=>(SQ (a.2.1,())).bind λb=>bif c.1.1 then bif b.1.1 then some (((0:Int),()),())else some (((-1:Int),()),())else bif b.1.1 then some (((1:Int),()),())else bif dO a.1.1 a.2.1.1 then some (((-1:Int),()),())else bif dO a.2.1.1 a.1.1 then some (((1:Int),()),())else some (((0:Int),()),())
def aX3:zi:=⟨aX1,aX2,QR⟩
def af2:Gs:=[Lr]
def aX4:=Fu
def LN.b0(b:Io):(a:gk)->Option IW:=λa=>bif dO a.1 (List.length b.1.1:Int)then(bK b.1.1 a.1).bind λc=>bif !gA c.1 (0:Int)then some (.inr (.inr (c,())))else some (.inl (cM .i64 a.1 (1:Int),()))else some (.inr (.inl (a.1,())))
def LN:Io->Option sz:=λa=>(aR (LN.b0 a) ((0:Int),())).bind λb=>Sum.elim (λv3=>some (((0:Int),()),())) some b
def aX5:zi:=⟨af2,aX4,LN⟩
def aX6:=Yu
def aX7:=Fu
def V6:(cp×IX)->Option sz:=λa=>(SP ((a.1.2.1,()),((a.2.1.2.1,()),()))).bind λg=>(QR ((a.1.2.2.2.2.1,()),((a.2.1.2.2.2.2.1,()),()))).bind λe=>(QR ((a.1.1,()),((a.2.1.1,()),()))).bind λc=>(SP ((a.1.2.2.1,()),((a.2.1.2.2.1,()),()))).bind λd=>(QR ((a.1.2.2.2.1,()),((a.2.1.2.2.2.1,()),()))).bind λf=>(LN ((([g.1,e.1,c.1,d.1,f.1]:List (D3)),()),())).bind λb=>some (b.1,())
def aX8:zi:=⟨aX6,aX7,V6⟩
def aX9:=Yu
def aY0:=o7
def V7:(cp×IX)->Option i6:=λa=>(V6 (a.1,(a.2.1,()))).bind λb=>some ((dO b.1.1 (0:Int),()),())
def aY1:zi:=⟨aX9,aY0,V7⟩
def i86:=Yv
def o86:=o7
def SR.b0(b:Fg):(a:gk)->Option tm:=λa=>bif dO a.1 (List.length b.1.1:Int)then(bK b.1.1 a.1).bind λc=>(OJ (c,())).bind λd=>bif (!d.1.1)then some (.inr (.inr ((false,()),())))else bif dO (0:Int) a.1 then (bK b.1.1 (gS .i64 a.1 (1:Int))).bind λf=>(V7 (f,(c,()))).bind λe=>bif (!e.1.1) then some (.inr (.inr ((false,()),()))) else some (.inl (cM .i64 a.1 (1:Int),())) else some (.inl (cM .i64 a.1 (1:Int),())) else some (.inr (.inl (a.1,())))
def SR:Fg->Option i6:=λa=>(aR (SR.b0 a) ((0:Int),())).bind λb=>Sum.elim (λc=>some ((km (List.length a.1.1:Int) (20:Int),()),())) some b
def c86:zi:=⟨i86,o86,SR⟩
def aY2:=OG
def aY3:=o7
def V8:IY->Option i6:=λa=>(Vk (a.1,(a.2.1,()))).bind λb=>(Vl (a.1,())).bind λc=>some ((dO (zJ .i64 (2:Int) c.1.1) (zJ .i64 (3:Int) b.1.1),()),())
def aY4:zi:=⟨aY2,aY3,V8⟩
def af3:Gs:=[Sf,aq6]
def aY5:=Fu
def LO.b0(b:X7):(a:gk)->Option IW:=λa=>bif dO a.1 (List.length b.1.1:Int)then(bK b.1.1 a.1).bind λc=>(b.2.1.1 c).bind λd=>bif d.1 then some (.inr (.inr ((a.1,()),())))else some (.inl (cM .i64 a.1 (1:Int),()))else some (.inr (.inl (a.1,())))
def LO:X7->Option sz:=λa=>(aR (LO.b0 a) ((0:Int),())).bind λb=>Sum.elim (λv4=>some (((-1:Int),()),())) some b
def aY6:zi:=⟨af3,aY5,LO⟩
def aY7:=af3
def aY8:=o7
def YH:X7->Option i6:=λa=>(LO (a.1,(a.2.1,()))).bind λb=>some ((km (0:Int) b.1.1,()),())
def aY9:zi:=⟨aY7,aY8,YH⟩
def aZ0:Gs:=[⟨.agg,Fp,[]⟩,Yo]
def aZ1:=o7
def af4:(e6×A2)->Option i6:=λa=>some ((ko a.1.1 a.2.1.1,()),())
def aZ2:zi:=⟨aZ0,aZ1,af4⟩
def aZ3:=ac4
def aZ4:=o7
def V9:(Kz×A2)->Option i6:=λa=>(YH (a.1,(((λb=>(af4 ((b.1,(b.2.1,())),((a.2.1.1,()),()))).bind λd=>some (d.1.1,())),()),()))).bind λc=>some (c.1,())
def aZ5:zi:=⟨aZ3,aZ4,V9⟩
def aZ6:=OG
def aZ7:=o7
def Kq.b0(b:IY):(a:gk)->Option tm:=λa=>bif dO a.1 (List.length b.2.1.1:Int)then(bK b.2.1.1 a.1).bind λc=>(V9 (b.1,(c,()))).bind λd=>bif (!d.1.1)then some (.inr (.inr ((false,()),())))else some (.inl (cM .i64 a.1 (1:Int),()))else some (.inr (.inl (a.1,())))
def Kq:IY->Option i6:=λa=>(aR (Kq.b0 a) ((0:Int),())).bind λb=>Sum.elim (λv4=>some ((true,()),())) some b
def aZ8:zi:=⟨aZ6,aZ7,Kq⟩
def i54:=ad3
def o54:=o7
def F54:(Kz×Fi)->Option i6:=λa=>(XB (a.2.1,())).bind λe=>bif e.1.1 then some ((true,()),())else (Z4 (a.2.1,(((10000:Int),()),(((100000:Int),()),())))).bind λd=>bif d.1.1 then (V8 (a.1,((a.2.1.2.2.1,()),()))).bind λb=>bif b.1.1 then (Kq (a.1,((a.2.1.2.2.1,()),()))).bind λc=>some (c.1,())else some ((false,()),())else some ((false,()),())
def c54:zi:=⟨i54,o54,F54⟩
def i87:=ad4
def o87:=o7
def F87:(Kz×Ft)->Option i6:=λa=>(XC (a.2.1,())).bind λe=>bif e.1.1 then some ((true,()),())else (SN (a.2.1,(((10000:Int),()),()))).bind λd=>bif d.1.1 then (V8 (a.1,((a.2.1.2.1,()),()))).bind λb=>bif b.1.1 then (Kq (a.1,((a.2.1.2.1,()),()))).bind λc=>some (c.1,())else some ((false,()),())else some ((false,()),())
def c87:zi:=⟨i87,o87,F87⟩
def i55:Gs:=[Vg,⟨.c,(.cons (.fn [15] (.cons (.int .i64) (.cons (.int .i64) (.cons (.int .i64) (.cons .str (.cons (.int .i64) (.cons (.int .i64) (.cons (.sl e9) (.cons (.int .i64) (.cons (.sl e9) (.cons (.sl e3) (.cons (.sl iv) (.cons .bool (.cons (.sl Fp) (.cons .str .nil)))))))))))))) (.cons .bool .nil)) .nil),[]⟩]
def o55:=Fu
def Wa.b0(b:(Qy×(((vv->Option HF)×Unit)×Unit))):(a:gk)->Option IW:=λa=>bif dO a.1 (List.length b.1.1:Int)then(bK b.1.1 a.1).bind λc=>(b.2.1.1 c).bind λd=>bif d.1 then some (.inr (.inr ((a.1,()),())))else some (.inl (cM .i64 a.1 (1:Int),()))else some (.inr (.inl (a.1,())))
def Wa:(Qy×(((vv->Option HF)×Unit)×Unit))->Option sz:=λa=>(aR (Wa.b0 a) ((0:Int),())).bind λb=>Sum.elim (λv4=>some (((-1:Int),()),())) some b
def c55:zi:=⟨i55,o55,Wa⟩
def aZ9:Gs:=[Ou,⟨.rp,(.cons (.int .i64) .nil),[]⟩]
def ba0:=o7
def af5:(vv×sz)->Option i6:=λa=>some ((gA a.1.1 a.2.1.1,()),())
def ba1:zi:=⟨aZ9,ba0,af5⟩
def ba2:=OC
def ba3:=Fu
def Wb:GS->Option sz:=λb=>(Wa (b.1,(((λa=>(af5 ((a.1,(a.2.1,(a.2.2.1,(a.2.2.2.1,(a.2.2.2.2.1,(a.2.2.2.2.2.1,(a.2.2.2.2.2.2.1,(a.2.2.2.2.2.2.2.1,(a.2.2.2.2.2.2.2.2.1,(a.2.2.2.2.2.2.2.2.2.1,(a.2.2.2.2.2.2.2.2.2.2.1,(a.2.2.2.2.2.2.2.2.2.2.2.1,(a.2.2.2.2.2.2.2.2.2.2.2.2.1,(a.2.2.2.2.2.2.2.2.2.2.2.2.2.1,())))))))))))))),((b.2.1.1,()),()))).bind λd=>some (d.1.1,())),()),()))).bind λc=>some (c.1,())
def ba4:zi:=⟨ba2,ba3,Wb⟩
def i88:=SA
def o88:=o7
def Wc.b0(c:GR):(a:gk)->Option tm:=λa=>bif dO a.1 (List.length c.1.1:Int)then(bK c.1.1 a.1).bind λb=>Option.bind ((Z5 (b,())).bind λf=>bif (!f.1.1)then some (.inr (.inr (.inr ((false,()),()))))else (bK c.1.1 (0:Int)).bind λj=>bif !gA b.2.1 j.2.1 then some (.inr (.inr (.inr ((false,()),()))))else bif dO (0:Int) a.1 then (bK c.1.1 (gS .i64 a.1 (1:Int))).bind λg=>bif km b.1 g.1 then some (.inr (.inr (.inr ((false,()),())))) else some (.inl ()) else some (.inl ())) λh=>Sum.elim (λk=>(XB ((b.2.2.2.2.1,(b.2.2.2.2.2.1,(b.2.2.2.2.2.2.1,()))),())).bind λi=>bif i.1.1 then some (.inl (cM .i64 a.1 (1:Int),())) else (Wb (c.1,((b.2.2.2.2.2.1,()),()))).bind λd=>bif dO d.1.1 (0:Int) then some (.inr (.inr ((false,()),()))) else (bK c.1.1 d.1.1).bind λe=>bif !gA e.2.2.1 b.2.2.2.2.1 then some (.inr (.inr ((false,()),()))) else some (.inl (cM .i64 a.1 (1:Int),()))) some h else some (.inr (.inl (a.1,())))
def Wc:GR->Option i6:=λa=>(aR (Wc.b0 a) ((0:Int),())).bind λb=>Sum.elim (λc=>some ((km (List.length a.1.1:Int) (400:Int),()),())) some b
def c88:zi:=⟨i88,o88,Wc⟩
def i39:=Yt
def o39:=o7
def F39:zd->Option i6:=λa=>Option.bind ((My ((a.1.1,()),())).bind λn=>bif (!n.1.1)then some (.inr ((false,()),()))else (V2 ((a.1.2.2.1,(a.1.2.2.2.1,())),())).bind λl=>bif (!l.1.1)then some (.inr ((false,()),()))else bif !gA a.1.2.2.1 a.1.2.1 then some (.inr ((false,()),()))else bif dO (0:Int) (List.length a.1.2.2.2.2.1:Int)then (Vm ((a.1.2.2.2.2.1,()),())).bind λg=>bif (!g.1.1)then some (.inr ((false,()),()))else (SR ((a.1.2.2.2.2.2.2.2.2.2.2.2.2.2.2.2.2.2.2.1,()),())).bind λi=>bif (!i.1.1)then some (.inr ((false,()),()))else some (.inl ())else (SR ((a.1.2.2.2.2.2.2.2.2.2.2.2.2.2.2.2.2.2.2.1,()),())).bind λm=>bif (!m.1.1)then some (.inr ((false,()),()))else some (.inl ())) λh=>Sum.elim (λo=>(Gc ((a.1.2.2.2.2.2.2.1,()),(((1:Int),()),(((10000:Int),()),())))).bind λj=>bif (!j.1.1) then some ((false,()),()) else (Gc ((a.1.2.2.2.2.2.2.2.1,()),(((0:Int),()),(((10000:Int),()),())))).bind λk=>bif (!k.1.1) then some ((false,()),()) else (Gc ((a.1.2.2.2.2.2.2.2.2.2.2.2.2.2.2.1,()),(((0:Int),()),(((10000:Int),()),())))).bind λb=>bif (!b.1.1) then some ((false,()),()) else (F54 ((a.1.2.2.2.2.1,()),((a.1.2.2.2.2.2.2.2.2.1,(a.1.2.2.2.2.2.2.2.2.2.1,(a.1.2.2.2.2.2.2.2.2.2.2.1,()))),()))).bind λf=>bif (!f.1.1) then some ((false,()),()) else (F87 ((a.1.2.2.2.2.1,()),((a.1.2.2.2.2.2.2.2.2.2.2.2.1,(a.1.2.2.2.2.2.2.2.2.2.2.2.2.1,(a.1.2.2.2.2.2.2.2.2.2.2.2.2.2.1,()))),()))).bind λd=>bif (!d.1.1) then some ((false,()),()) else bif km a.1.2.2.2.2.2.2.1 a.1.2.2.2.2.2.2.2.2.1 then some ((false,()),()) else bif km a.1.2.2.2.2.2.2.1 a.1.2.2.2.2.2.2.2.2.2.2.2.1 then some ((false,()),()) else bif dO (1000:Int) (List.length a.1.2.2.2.2.2.2.2.2.2.2.2.2.2.2.2.1:Int) then some ((false,()),()) else bif dO (1000:Int) (List.length a.1.2.2.2.2.2.2.2.2.2.2.2.2.2.2.2.2.1:Int) then some ((false,()),()) else bif dO (200:Int) (List.length a.1.2.2.2.2.2.2.2.2.2.2.2.2.2.2.2.2.2.1:Int) then some ((false,()),()) else bif dO (200:Int) (List.length a.1.2.2.2.2.2.2.2.2.2.2.2.2.2.2.2.2.2.2.2.1:Int) then some ((false,()),()) else (Wc ((a.1.2.2.2.2.2.1,()),())).bind λc=>bif c.1.1 then bif gA (List.length a.1.2.2.2.2.2.1:Int) (0:Int) then some ((true,()),()) else (bK a.1.2.2.2.2.2.1 (0:Int)).bind λe=>some ((gA e.2.1 a.1.2.1,()),()) else some ((false,()),())) some h
def c39:zi:=⟨i39,o39,F39⟩
def ba5:=ae5
def ba6:=o7
def LP.b0(b:(Im×MB)):(a:gk)->Option tm:=λa=>bif dO a.1 (List.length b.1.1:Int)then(bK b.1.1 a.1).bind λc=>(bK b.2.1.1 a.1).bind λd=>bif !ko c.1 d.1 then some (.inr (.inr ((false,()),())))else some (.inl (cM .i64 a.1 (1:Int),()))else some (.inr (.inl (a.1,())))
def LP:(Im×MB)->Option i6:=λa=>bif !gA (List.length a.1.1:Int) (List.length a.2.1.1:Int)then some ((false,()),())else (aR (LP.b0 a) ((0:Int),())).bind λb=>Sum.elim (λv4=>some ((true,()),())) some b
def ba7:zi:=⟨ba5,ba6,LP⟩
def ba8:=ae6
def ba9:=o7
def YI:(X1×Fi)->Option i6:=λa=>bif gA a.1.1 a.2.1.1 then bif gA a.1.2.1 a.2.1.2.1 then(LP ((a.1.2.2.1,()),((a.2.1.2.2.1,()),()))).bind λb=>some (b.1,())else some ((false,()),())else some ((false,()),())
def bb0:zi:=⟨ba8,ba9,YI⟩
def i44:Gs:=[Lr,Lr]
def o44:=o7
def Py.b0(b:(J9×Io)):(a:gk)->Option tm:=λa=>bif dO a.1 (List.length b.1.1:Int)then(bK b.1.1 a.1).bind λc=>(bK b.2.1.1 a.1).bind λd=>bif !gA c.1 d.1 then some (.inr (.inr ((false,()),())))else some (.inl (cM .i64 a.1 (1:Int),()))else some (.inr (.inl (a.1,())))
def Py:(J9×Io)->Option i6:=λa=>bif !gA (List.length a.1.1:Int) (List.length a.2.1.1:Int)then some ((false,()),())else (aR (Py.b0 a) ((0:Int),())).bind λb=>Sum.elim (λv4=>some ((true,()),())) some b
def c44:zi:=⟨i44,o44,Py⟩
def bb1:=ae7
def bb2:=o7
def YJ:(Vs×Ft)->Option i6:=λa=>bif gA a.1.1 a.2.1.1 then(LP ((a.1.2.1,()),((a.2.1.2.1,()),()))).bind λb=>bif b.1.1 then (Py ((a.1.2.2.1,()),((a.2.1.2.2.1,()),()))).bind λc=>some (c.1,())else some ((false,()),())else some ((false,()),())
def bb3:zi:=⟨bb1,bb2,YJ⟩
def bb4:=ae8
def bb5:=o7
def MS.b0(d:(Gp×Fg)):(a:gk)->Option tm:=λa=>bif dO a.1 (List.length d.1.1:Int)then(bK d.1.1 a.1).bind λb=>(bK d.2.1.1 a.1).bind λc=>bif !((gA b.1 c.1)&&((ko b.2.1 c.2.1)&&((ko b.2.2.1 c.2.2.1)&&((gA b.2.2.2.1 c.2.2.2.1)&&(gA b.2.2.2.2.1 c.2.2.2.2.1)))))then some (.inr (.inr ((false,()),())))else some (.inl (cM .i64 a.1 (1:Int),()))else some (.inr (.inl (a.1,())))
def MS:(Gp×Fg)->Option i6:=λa=>bif !gA (List.length a.1.1:Int) (List.length a.2.1.1:Int)then some ((false,()),())else (aR (MS.b0 a) ((0:Int),())).bind λb=>Sum.elim (λv4=>some ((true,()),())) some b
def bb6:zi:=⟨bb4,bb5,MS⟩
def bb7:=ad5
def bb8:=o7
def MT.b0(b:(Kz×Fh)):(a:gk)->Option tm:=λa=>bif dO a.1 (List.length b.1.1:Int)then(bK b.1.1 a.1).bind λc=>(bK b.2.1.1 a.1).bind λd=>bif !((ko c.1 d.1)&&(gA c.2.1 d.2.1))then some (.inr (.inr ((false,()),())))else some (.inl (cM .i64 a.1 (1:Int),()))else some (.inr (.inl (a.1,())))
def MT:(Kz×Fh)->Option i6:=λa=>bif !gA (List.length a.1.1:Int) (List.length a.2.1.1:Int)then some ((false,()),())else (aR (MT.b0 a) ((0:Int),())).bind λb=>Sum.elim (λv4=>some ((true,()),())) some b
def bb9:zi:=⟨bb7,bb8,MT⟩
def i90:=ae9
def o90:=o7
def F90:(vv×Fs)->Option i6:=λa=>bif !gA a.1.1 a.2.1.1 then some ((false,()),())else bif !gA a.1.2.1 a.2.1.2.1 then some ((false,()),())else bif !gA a.1.2.2.1 a.2.1.2.2.1 then some ((false,()),())else bif !ko a.1.2.2.2.1 a.2.1.2.2.2.1 then some ((false,()),())else bif !wo a.1.2.2.2.2.2.2.2.2.2.2.2.1 a.2.1.2.2.2.2.2.2.2.2.2.2.2.1 then some ((false,()),())else bif !ko a.1.2.2.2.2.2.2.2.2.2.2.2.2.2.1 a.2.1.2.2.2.2.2.2.2.2.2.2.2.2.2.1 then some ((false,()),())else (YI ((a.1.2.2.2.2.1,(a.1.2.2.2.2.2.1,(a.1.2.2.2.2.2.2.1,()))),((a.2.1.2.2.2.2.1,(a.2.1.2.2.2.2.2.1,(a.2.1.2.2.2.2.2.2.1,()))),()))).bind λe=>bif e.1.1 then (YJ ((a.1.2.2.2.2.2.2.2.1,(a.1.2.2.2.2.2.2.2.2.1,(a.1.2.2.2.2.2.2.2.2.2.1,()))),((a.2.1.2.2.2.2.2.2.2.1,(a.2.1.2.2.2.2.2.2.2.2.1,(a.2.1.2.2.2.2.2.2.2.2.2.1,()))),()))).bind λd=>bif d.1.1 then (MS ((a.1.2.2.2.2.2.2.2.2.2.2.1,()),((a.2.1.2.2.2.2.2.2.2.2.2.2.1,()),()))).bind λb=>bif b.1.1 then (MT ((a.1.2.2.2.2.2.2.2.2.2.2.2.2.1,()),((a.2.1.2.2.2.2.2.2.2.2.2.2.2.2.1,()),()))).bind λc=>some (c.1,())else some ((false,()),())else some ((false,()),())else some ((false,()),())
def c90:zi:=⟨i90,o90,F90⟩
def i41:Gs:=[VC,Vg]
def o41:=o7
def SS.b0(b:(H6×GR)):(a:gk)->Option tm:=λa=>bif dO a.1 (List.length b.2.1.1:Int)then(bK b.2.1.1 a.1).bind λc=>bif km (List.length b.1.2.2.2.2.1:Int) c.1 then some (.inr (.inr ((false,()),()))) else (bK b.1.2.2.2.2.1 c.1).bind λe=>(F90 (c,(e,()))).bind λd=>bif (!d.1.1) then some (.inr (.inr ((false,()),()))) else some (.inl (cM .i64 a.1 (1:Int),())) else some (.inr (.inl (a.1,())))
def SS:(H6×GR)->Option i6:=λa=>(aR (SS.b0 a) ((0:Int),())).bind λb=>Sum.elim (λc=>some ((true,()),())) some b
def c41:zi:=⟨i41,o41,SS⟩
def i91:=OC
def o91:=o7
def Wd.b0(b:GS):(a:gk)->Option tm:=λa=>bif dO a.1 (List.length b.1.1:Int)then(bK b.1.1 a.1).bind λc=>bif !gA c.2.1 b.2.1.1 then some (.inr (.inr ((false,()),())))else (Z5 (c,())).bind λd=>bif (!d.1.1)then some (.inr (.inr ((false,()),())))else some (.inl (cM .i64 a.1 (1:Int),()))else some (.inr (.inl (a.1,())))
def Wd:GS->Option i6:=λa=>(aR (Wd.b0 a) ((0:Int),())).bind λb=>Sum.elim (λv4=>some ((km (List.length a.1.1:Int) (400:Int),()),())) some b
def c91:zi:=⟨i91,o91,Wd⟩
def i94:Gs:=[Sv]
def o94:=o7
def F94:(u6×Unit)->Option i6:=λa=>(Gc ((a.1.1,()),(((1:Int),()),(((10000:Int),()),())))).bind λd=>bif d.1.1 then (Gc ((a.1.2.1,()),(((0:Int),()),(((100000:Int),()),())))).bind λc=>bif c.1.1 then (My ((a.1.2.2.1,()),())).bind λb=>some (b.1,())else some ((false,()),())else some ((false,()),())
def c94:zi:=⟨i94,o94,F94⟩
def i95:Gs:=[Sv,IZ]
def o95:=o7
def F95:(u6×Fi)->Option i6:=λa=>(Gc ((a.1.1,()),(((1:Int),()),(((10000:Int),()),())))).bind λd=>bif d.1.1 then (Gc ((a.1.2.1,()),(((0:Int),()),((gS .i64 a.1.1 (1:Int),()),())))).bind λc=>bif c.1.1 then bif gA a.1.2.1 a.2.1.1 then (My ((a.1.2.2.1,()),())).bind λb=>some (b.1,())else some ((false,()),())else some ((false,()),())else some ((false,()),())
def c95:zi:=⟨i95,o95,F95⟩
def i42:=SF
def o42:=o7
def F42:EP->Option i6:=λa=>(My ((a.1.2.1,()),())).bind λl=>bif (!l.1.1)then some ((false,()),())else (Gc ((a.1.2.2.1,()),(((0:Int),()),(((900:Int),()),())))).bind λj=>bif (!j.1.1)then some ((false,()),())else (Z4 ((a.1.2.2.2.2.2.2.2.2.2.2.1,(a.1.2.2.2.2.2.2.2.2.2.2.2.1,(a.1.2.2.2.2.2.2.2.2.2.2.2.2.1,()))),(((10000:Int),()),(((100000:Int),()),())))).bind λf=>bif (!f.1.1)then some ((false,()),())else (SN ((a.1.2.2.2.2.2.2.2.2.2.2.2.2.2.1,(a.1.2.2.2.2.2.2.2.2.2.2.2.2.2.2.1,(a.1.2.2.2.2.2.2.2.2.2.2.2.2.2.2.2.1,()))),(((10000:Int),()),()))).bind λh=>bif (!h.1.1)then some ((false,()),())else (Wd ((a.1.2.2.2.1,()),((a.1.2.2.1,()),()))).bind λk=>bif (!k.1.1)then some ((false,()),())else bif gA a.1.1 (1:Int)then bif gA (List.length a.1.2.2.2.1:Int) (1:Int)then bif (gA a.1.2.2.2.2.1 (0:Int))&&((gA a.1.2.2.2.2.2.1 (0:Int))&&(ko a.1.2.2.2.2.2.2.1 ⟨#[]⟩))then bif (gA a.1.2.2.2.2.2.2.2.1 (0:Int))&&((gA a.1.2.2.2.2.2.2.2.2.1 (0:Int))&&(ko a.1.2.2.2.2.2.2.2.2.2.1 ⟨#[]⟩))then (XB ((a.1.2.2.2.2.2.2.2.2.2.2.1,(a.1.2.2.2.2.2.2.2.2.2.2.2.1,(a.1.2.2.2.2.2.2.2.2.2.2.2.2.1,()))),())).bind λe=>bif e.1.1 then (XC ((a.1.2.2.2.2.2.2.2.2.2.2.2.2.2.1,(a.1.2.2.2.2.2.2.2.2.2.2.2.2.2.2.1,(a.1.2.2.2.2.2.2.2.2.2.2.2.2.2.2.2.1,()))),())).bind λm=>some (m.1,())else some ((false,()),())else some ((false,()),())else some ((false,()),())else some ((false,()),())else bif gA a.1.1 (2:Int)then bif gA (List.length a.1.2.2.2.1:Int) (0:Int)then (F94 ((a.1.2.2.2.2.1,(a.1.2.2.2.2.2.1,(a.1.2.2.2.2.2.2.1,()))),())).bind λi=>bif i.1.1 then bif (gA a.1.2.2.2.2.2.2.2.1 (0:Int))&&((gA a.1.2.2.2.2.2.2.2.2.1 (0:Int))&&(ko a.1.2.2.2.2.2.2.2.2.2.1 ⟨#[]⟩))then (XB ((a.1.2.2.2.2.2.2.2.2.2.2.1,(a.1.2.2.2.2.2.2.2.2.2.2.2.1,(a.1.2.2.2.2.2.2.2.2.2.2.2.2.1,()))),())).bind λg=>bif g.1.1 then (XC ((a.1.2.2.2.2.2.2.2.2.2.2.2.2.2.1,(a.1.2.2.2.2.2.2.2.2.2.2.2.2.2.2.1,(a.1.2.2.2.2.2.2.2.2.2.2.2.2.2.2.2.1,()))),())).bind λc=>some (c.1,())else some ((false,()),())else some ((false,()),())else some ((false,()),())else some ((false,()),())else bif gA a.1.1 (3:Int)then bif gA (List.length a.1.2.2.2.1:Int) (0:Int)then bif (gA a.1.2.2.2.2.1 (0:Int))&&((gA a.1.2.2.2.2.2.1 (0:Int))&&(ko a.1.2.2.2.2.2.2.1 ⟨#[]⟩))then (F95 ((a.1.2.2.2.2.2.2.2.1,(a.1.2.2.2.2.2.2.2.2.1,(a.1.2.2.2.2.2.2.2.2.2.1,()))),((a.1.2.2.2.2.2.2.2.2.2.2.1,(a.1.2.2.2.2.2.2.2.2.2.2.2.1,(a.1.2.2.2.2.2.2.2.2.2.2.2.2.1,()))),()))).bind λb=>bif b.1.1 then (XC ((a.1.2.2.2.2.2.2.2.2.2.2.2.2.2.1,(a.1.2.2.2.2.2.2.2.2.2.2.2.2.2.2.1,(a.1.2.2.2.2.2.2.2.2.2.2.2.2.2.2.2.1,()))),())).bind λd=>some (d.1,())else some ((false,()),())else some ((false,()),())else some ((false,()),())else bif gA a.1.1 (4:Int)then bif (gA a.1.2.2.2.2.1 (0:Int))&&((gA a.1.2.2.2.2.2.1 (0:Int))&&(ko a.1.2.2.2.2.2.2.1 ⟨#[]⟩))then some (((gA a.1.2.2.2.2.2.2.2.1 (0:Int))&&((gA a.1.2.2.2.2.2.2.2.2.1 (0:Int))&&(ko a.1.2.2.2.2.2.2.2.2.2.1 ⟨#[]⟩)),()),())else some ((false,()),())else some ((false,()),())
def c42:zi:=⟨i42,o42,F42⟩
def i96:Gs:=[⟨.c,(.cons (.sl Ln) .nil),[]⟩,⟨.c,(.cons (.fn [21] (.cons .str (.cons (.int .i64) (.cons (.int .i64) (.cons (.sl cf) (.cons (.sl Fp) (.cons (.sl lf) (.cons (.int .i64) (.cons (.int .i64) (.cons (.int .i64) (.cons (.int .i64) (.cons (.sl e9) (.cons (.int .i64) (.cons (.sl e9) (.cons (.sl e3) (.cons (.int .i64) (.cons (.sl H5) (.cons (.sl GP) (.cons (.sl e3) (.cons (.sl iv) (.cons (.sl Mz) .nil)))))))))))))))))))) (.cons .bool .nil)) .nil),[]⟩]
def o96:=Fu
def We.b0(b:aa7):(a:gk)->Option IW:=λa=>bif dO a.1 (List.length b.1.1:Int)then(bK b.1.1 a.1).bind λc=>(b.2.1.1 c).bind λd=>bif d.1 then some (.inr (.inr ((a.1,()),())))else some (.inl (cM .i64 a.1 (1:Int),()))else some (.inr (.inl (a.1,())))
def We:aa7->Option sz:=λa=>(aR (We.b0 a) ((0:Int),())).bind λb=>Sum.elim (λv4=>some (((-1:Int),()),())) some b
def c96:zi:=⟨i96,o96,We⟩
def i97:Gs:=[Su,Yo]
def o97:=o7
def F97:(Fq×A2)->Option i6:=λa=>some ((ko a.1.1 a.2.1.1,()),())
def c97:zi:=⟨i97,o97,F97⟩
def i43:Gs:=[VC,Pw]
def o43:=Fu
def F43:(H6×A2)->Option sz:=λb=>(We ((b.1.2.2.2.1,()),(((λa=>(F97 ((a.1,(a.2.1,(a.2.2.1,(a.2.2.2.1,(a.2.2.2.2.1,(a.2.2.2.2.2.1,(a.2.2.2.2.2.2.1,(a.2.2.2.2.2.2.2.1,(a.2.2.2.2.2.2.2.2.1,(a.2.2.2.2.2.2.2.2.2.1,(a.2.2.2.2.2.2.2.2.2.2.1,(a.2.2.2.2.2.2.2.2.2.2.2.1,(a.2.2.2.2.2.2.2.2.2.2.2.2.1,(a.2.2.2.2.2.2.2.2.2.2.2.2.2.1,(a.2.2.2.2.2.2.2.2.2.2.2.2.2.2.1,(a.2.2.2.2.2.2.2.2.2.2.2.2.2.2.2.1,(a.2.2.2.2.2.2.2.2.2.2.2.2.2.2.2.2.1,(a.2.2.2.2.2.2.2.2.2.2.2.2.2.2.2.2.2.1,(a.2.2.2.2.2.2.2.2.2.2.2.2.2.2.2.2.2.2.1,(a.2.2.2.2.2.2.2.2.2.2.2.2.2.2.2.2.2.2.2.1,())))))))))))))))))))),((b.2.1.1,()),()))).bind λd=>some (d.1.1,())),()),()))).bind λc=>some (c.1,())
def c43:zi:=⟨i43,o43,F43⟩
def i14:=i9
def o14:=o7
def KA.b0(a:mu):(v3:gk)->Option tm:=λv3=>bif dO v3.1 (List.length a.1.2.2.2.2.1:Int)then(bK a.1.2.2.2.2.1 v3.1).bind λb=>bif !gA b.1 v3.1 then some (.inr (.inr ((false,()),())))else (Z5 (b,())).bind λc=>bif (!c.1.1)then some (.inr (.inr ((false,()),())))else some (.inl (cM .i64 v3.1 (1:Int),()))else some (.inr (.inl (v3.1,())))
def KA.b1(b:mu):(a:gk)->Option tm:=λa=>bif dO a.1 (List.length b.1.2.2.2.1:Int)then(bK b.1.2.2.2.1 a.1).bind λc=>(F39 (c,())).bind λe=>bif (!e.1.1)then some (.inr (.inr ((false,()),())))else (F40 ((b.1.2.2.1,()),((c.1,()),()))).bind λh=>bif h.1.1 then some (.inr (.inr ((false,()),())))else bif dO (0:Int) a.1 then (bK b.1.2.2.2.1 (gS .i64 a.1 (1:Int))).bind λd=>bif ob c.1 d.1||ko c.1 d.1 then some (.inr (.inr ((false,()),()))) else (SS (b.1,((c.2.2.2.2.2.1,()),()))).bind λg=>bif (!g.1.1) then some (.inr (.inr ((false,()),()))) else some (.inl (cM .i64 a.1 (1:Int),())) else (SS (b.1,((c.2.2.2.2.2.1,()),()))).bind λf=>bif (!f.1.1) then some (.inr (.inr ((false,()),()))) else some (.inl (cM .i64 a.1 (1:Int),())) else some (.inr (.inl (a.1,())))
def KA.b2(b:mu):(a:gk)->Option tm:=λa=>bif dO a.1 (List.length b.1.2.2.2.2.2.2.1:Int)then(bK b.1.2.2.2.2.2.2.1 a.1).bind λc=>(F42 (c,())).bind λf=>bif (!f.1.1)then some (.inr (.inr ((false,()),())))else (F43 (b.1,((c.2.1,()),()))).bind λe=>bif dO e.1.1 (0:Int)then some (.inr (.inr ((false,()),())))else (SS (b.1,((c.2.2.2.1,()),()))).bind λd=>bif (!d.1.1)then some (.inr (.inr ((false,()),())))else some (.inl (cM .i64 a.1 (1:Int),()))else some (.inr (.inl (a.1,())))
def KA:mu->Option i6:=λa=>(V2 ((a.1.1,(a.1.2.1,())),())).bind λf=>bif (!f.1.1)then some ((false,()),())else (SM ((a.1.2.2.1,()),())).bind λe=>bif (!e.1.1)then some ((false,()),())else bif dO (12:Int) (List.length a.1.2.2.2.1:Int)then some ((false,()),())else bif dO (1000:Int) (List.length a.1.2.2.2.2.1:Int)then some ((false,()),())else bif dO (400:Int) (List.length a.1.2.2.2.2.2.2.1:Int)then some ((false,()),())else (aR (KA.b0 a) ((0:Int),())).bind λd=>Sum.elim (λi=>(aR (KA.b1 a) ((0:Int),())).bind λb=>Sum.elim (λh=>(aR (KA.b2 a) ((0:Int),())).bind λc=>Sum.elim (λg=>some ((true,()),())) some c) some b) some d
def c14:zi:=⟨i14,o14,KA⟩
def i15:=i9
def o15:=o7
def Of.b1(c:gk)(d:mu)(a:Fq):(v3:gk)->Option MA:=λv3=>bif dO v3.1 (List.length (List.take ((Int.toNat c.1)-0) (List.drop 0 d.1.2.2.2.1)):Int)then(bK (List.take ((Int.toNat c.1)-0) (List.drop 0 d.1.2.2.2.1)) v3.1).bind λb=>bif mX (AU (List.length a.2.2.2.2.2.2.2.2.2.2.2.2.2.2.2.2.2.1:Int) (List.length b.2.2.2.2.2.2.2.2.2.2.2.2.2.2.2.2.2.1:Int)) (List.length a.2.2.2.2.2.2.2.2.2.2.2.2.2.2.2.2.2.1) then bif mX (AU (List.length a.2.2.2.2.2.2.2.2.2.2.2.2.2.2.2.2.2.1:Int) (List.length b.2.2.2.2.2.2.2.2.2.2.2.2.2.2.2.2.2.1:Int)) (List.length b.2.2.2.2.2.2.2.2.2.2.2.2.2.2.2.2.2.1) then (Py ((List.take ((Int.toNat (AU (List.length a.2.2.2.2.2.2.2.2.2.2.2.2.2.2.2.2.2.1:Int) (List.length b.2.2.2.2.2.2.2.2.2.2.2.2.2.2.2.2.2.1:Int)))-0) (List.drop 0 a.2.2.2.2.2.2.2.2.2.2.2.2.2.2.2.2.2.1),()),((List.take ((Int.toNat (AU (List.length a.2.2.2.2.2.2.2.2.2.2.2.2.2.2.2.2.2.1:Int) (List.length b.2.2.2.2.2.2.2.2.2.2.2.2.2.2.2.2.2.1:Int)))-0) (List.drop 0 b.2.2.2.2.2.2.2.2.2.2.2.2.2.2.2.2.2.1),()),()))).bind λe=>bif (!e.1.1) then some (.inr (.inr (.inr (.inr ((false,()),()))))) else some (.inl (cM .i64 v3.1 (1:Int),())) else none else none else some (.inr (.inl (v3.1,())))
def Of.b0(b:mu):(a:gk)->Option tm:=λa=>bif dO a.1 (List.length b.1.2.2.2.1:Int)then(bK b.1.2.2.2.1 a.1).bind λc=>bif mX a.1 (List.length b.1.2.2.2.1)then(aR (Of.b1 a b c) ((0:Int),())).bind λd=>Sum.elim (λe=>some (.inl (cM .i64 a.1 (1:Int),()))) some d else none else some (.inr (.inl (a.1,())))
def Of:mu->Option i6:=λa=>(aR (Of.b0 a) ((0:Int),())).bind λb=>Sum.elim (λc=>some ((true,()),())) some b
def c15:zi:=⟨i15,o15,Of⟩
def i46:Gs:=[VC,Lr]
def o46:=af2
def Vn.b0(b:MF):(a:te)->Option (Sum te (Sum te Io)):=λa=>bif dO a.2.1 (List.length b.2.1.1:Int)then (bK b.2.1.1 a.2.1).bind λc=>(Gc (c,(((0:Int),()),((gS .i64 (List.length b.1.2.2.2.2.1:Int) (1:Int),()),())))).bind λd=>bif d.1.1 then (bK b.1.2.2.2.2.1 c.1).bind λe=>bif e.2.2.2.2.2.2.2.2.2.2.2.1 then some (.inl (cM .i64 a.2.1 (1:Int),(cM .i64 a.2.1 (1:Int),())))else some (.inl (a.1,(cM .i64 a.2.1 (1:Int),())))else some (.inl (a.1,(cM .i64 a.2.1 (1:Int),())))else some (.inr (.inl (a.1,(a.2.1,()))))
def Vn:MF->Option Io:=λa=>(aR (Vn.b0 a) ((0:Int),((0:Int),()))).bind λc=>Sum.elim (λb=>bif mX b.1 (List.length a.2.1.1)then some ((List.take ((Int.toNat b.1)-0) (List.drop 0 a.2.1.1),()),())else none) some c
def c46:zi:=⟨i46,o46,Vn⟩
def bc2:Gs:=[VB]
def bc3:=Yy
def Wf:MD->Option MD:=λa=>bif a.1.1.isEmpty then mU (some (([],()),())) (bif dE (List.length ([]:List (dT))+List.length a.1.1) 16 then some ((bV ([]:List (dT)) a.1.1,()),()) else none) else bif dE (List.length ([]:List (dT))+List.length a.1.1) 16 then some ((bV ([]:List (dT)) a.1.1,()),()) else none
def bc4:zi:=⟨bc2,bc3,Wf⟩
def bc5:=Oy
def bc6:=OA
def LQ.b0(c:C6):(b:QC)->Option (Sum QC (Sum QC C6)):=λb=>bif dO b.2.1 (List.length c.1.1:Int)then (bK c.1.1 b.2.1).bind λa=>(Wf ((a.2.2.2.2.1,()),())).bind λd=>bif dE (List.length b.1+List.length ([(a.1,(a.2.1,(a.2.2.1,(a.2.2.2.1,(d.1.1,())))))]:List (bm))) 64 then some (.inl (bV b.1 ([(a.1,(a.2.1,(a.2.2.1,(a.2.2.2.1,(d.1.1,())))))]:List (bm)),(cM .i64 b.2.1 (1:Int),())))else none else some (.inr (.inl (b.1,(b.2.1,()))))
def LQ:C6->Option C6:=λa=>(aR (LQ.b0 a) ([],((0:Int),()))).bind λb=>Sum.elim (λv4=>some ((v4.1,()),())) some b
def bc7:zi:=⟨bc5,bc6,LQ⟩
def i98:=QF
def o98:=QG
def LR:p5->Option p5:=λa=>(LQ ((a.1.2.1,()),())).bind λb=>some ((a.1.1,(b.1.1,())),())
def c98:zi:=⟨i98,o98,LR⟩
def bc8:Gs:=[Sr,⟨.c,(.cons (.fn [6] (.cons .str (.cons (.int .i64) (.cons (.int .i64) (.cons (.int .i64) (.cons (.sl w5) .nil))))) (.cons .bool .nil)) .nil),[]⟩]
def bc9:=Fu
def LS.b0(b:(HE×(((bm->Option HF)×Unit)×Unit))):(a:gk)->Option IW:=λa=>bif dO a.1 (List.length b.1.1:Int)then(bK b.1.1 a.1).bind λc=>(b.2.1.1 c).bind λd=>bif d.1 then some (.inr (.inr ((a.1,()),())))else some (.inl (cM .i64 a.1 (1:Int),()))else some (.inr (.inl (a.1,())))
def LS:(HE×(((bm->Option HF)×Unit)×Unit))->Option sz:=λa=>(aR (LS.b0 a) ((0:Int),())).bind λb=>Sum.elim (λv4=>some (((-1:Int),()),())) some b
def bd0:zi:=⟨bc8,bc9,LS⟩
def bd1:Gs:=[Vx,Yo]
def bd2:=o7
def af6:(bm×A2)->Option i6:=λa=>some ((ko a.1.1 a.2.1.1,()),())
def bd3:zi:=⟨bd1,bd2,af6⟩
def bd4:=Yw
def bd5:=Fu
def SU:(HE×A2)->Option sz:=λb=>(LS (b.1,(((λa=>(af6 ((a.1,(a.2.1,(a.2.2.1,(a.2.2.2.1,(a.2.2.2.2.1,()))))),((b.2.1.1,()),()))).bind λd=>some (d.1.1,())),()),()))).bind λc=>some (c.1,())
def bd6:zi:=⟨bd4,bd5,SU⟩
def bd7:Gs:=[⟨.rp,cf,[]⟩,DO]
def bd8:=Fu
def Wg:(bm×sz)->Option sz:=λa=>bif gA a.2.1.1 (3:Int)then some ((a.1.2.2.2.1,()),())else some ((a.1.2.1,()),())
def bd9:zi:=⟨bd7,bd8,Wg⟩
def be0:Gs:=[Vz,DO,Vz]
def be1:=OA
def YK:(HE×(gk×C6))->Option C6:=Ao cf 64
def be2:zi:=⟨be0,be1,YK⟩
def be3:Gs:=[Vz,Pw,DO]
def be4:=OA
def IA.b0(b:(HE×(MC×sz))):(a:gk)->Option (Sum gk (Sum gk C6)):=λa=>bif dO a.1 (List.length b.1.1:Int)then (bK b.1.1 a.1).bind λ_=>(aC b.1.1 (Int.toNat a.1)).bind λc=>bif ob c.1 b.2.1.1 then some (.inl (cM .i64 a.1 (1:Int),()))else some (.inr (.inl (a.1,())))else some (.inr (.inl (a.1,())))
def IA:(HE×(MC×sz))->Option C6:=λa=>(SU (a.1,(a.2.1,()))).bind λb=>bif km (0:Int) b.1.1 then (bK a.1.1 b.1.1).bind λ_=>(aC a.1.1 (Int.toNat b.1.1)).bind λe=>(bK a.1.1 b.1.1).bind λ_=>(aC a.1.1 (Int.toNat b.1.1)).bind λc=>(some (List.set a.1.1 (Int.toNat b.1.1) (c.1,(cM .i64 e.2.1 a.2.2.1.1,c.2.2)))).bind λz4=>some ((z4,()),()) else (aR (IA.b0 a) ((0:Int),())).bind λd=>Sum.elim (λf=>(YK (a.1,((f.1,()),((([(a.2.1.1,(a.2.2.1.1,((0:Int),((0:Int),([],())))))]:List (bm)),()),())))).bind λg=>some (g.1,())) some d
def be5:zi:=⟨be3,be4,IA⟩
def be6:Gs:=[Yj,DO,Yj]
def be7:=Yy
def YL:(Om×(gk×MD))->Option MD:=Ao w5 16
def be8:zi:=⟨be6,be7,YL⟩
def be9:Gs:=[⟨.io,cf,m0⟩,DO,DO]
def bf0:Gs:=[⟨.io,cf,m0⟩]
def Fw.b0(a:(bm×Ip)):(b:gk)->Option (Sum gk (Sum gk GQ)):=λb=>bif dO b.1 (List.length a.1.2.2.2.2.1:Int)then (bK a.1.2.2.2.2.1 b.1).bind λ_=>(aC a.1.2.2.2.2.1 (Int.toNat b.1)).bind λd=>bif gA d.2.1 a.2.2.1.1 then (bK a.1.2.2.2.2.1 b.1).bind λ_=>(aC a.1.2.2.2.2.1 (Int.toNat b.1)).bind λf=>(bK a.1.2.2.2.2.1 b.1).bind λ_=>(aC a.1.2.2.2.2.1 (Int.toNat b.1)).bind λe=>(some (List.set a.1.2.2.2.2.1 (Int.toNat b.1) (cM .i64 f.1 a.2.1.1,e.2))).bind λc=>some (.inr (.inr ((a.1.1,(a.1.2.1,(a.1.2.2.1,(a.1.2.2.2.1,(c,()))))),())))else some (.inl (cM .i64 b.1 (1:Int),()))else some (.inr (.inl (b.1,())))
def Fw.b1(b:(bm×Ip)):(a:gk)->Option (Sum gk (Sum gk GQ)):=λa=>bif dO a.1 (List.length b.1.2.2.2.2.1:Int)then (bK b.1.2.2.2.2.1 a.1).bind λ_=>(aC b.1.2.2.2.2.1 (Int.toNat a.1)).bind λc=>bif dO c.2.1 b.2.2.1.1 then some (.inl (cM .i64 a.1 (1:Int),()))else some (.inr (.inl (a.1,())))else some (.inr (.inl (a.1,())))
def Fw:(bm×Ip)->Option GQ:=λa=>(aR (Fw.b0 a) ((0:Int),())).bind λe=>Sum.elim (λf=>(aR (Fw.b1 a) ((0:Int),())).bind λb=>Sum.elim (λd=>(YL ((a.1.2.2.2.2.1,()),((d.1,()),((([(a.2.1.1,(a.2.2.1.1,()))]:List (dT)),()),())))).bind λc=>some ((a.1.1,(a.1.2.1,(a.1.2.2.1,(a.1.2.2.2.1,(c.1.1,()))))),())) some b) some e
def bf1:zi:=⟨be9,bf0,Fw⟩
def bf2:Gs:=[Vy,DO,Lq]
def bf3:=QG
def QS:(Fo×(gk×IX))->Option p5:=λa=>(bK a.1.2.1 a.2.1.1).bind λ_=>(aC a.1.2.1 (Int.toNat a.2.1.1)).bind λs=>(aC a.1.2.1 (Int.toNat a.2.1.1)).bind λe=>(some (List.set a.1.2.1 (Int.toNat a.2.1.1) (e.1,(e.2.1,(cM .i64 s.2.2.1 (1:Int),e.2.2.2))))).bind λz3=>Option.bind (bif gA a.2.2.1.1 (1:Int)then (aC z3 (Int.toNat a.2.1.1)).bind λr=>(aC z3 (Int.toNat a.2.1.1)).bind λh=>(some (List.set z3 (Int.toNat a.2.1.1) (h.1,(gS .i64 r.2.1 a.2.2.1.2.2.2.1,h.2.2)))).bind λu=>(IA ((u,()),((a.2.2.1.2.2.1,()),((a.2.2.1.2.2.2.1,()),())))).bind λt=>some (.inl (t.1.1,()))else bif gA a.2.2.1.1 (2:Int)then (aC z3 (Int.toNat a.2.1.1)).bind λq=>(aC z3 (Int.toNat a.2.1.1)).bind λg=>(some (List.set z3 (Int.toNat a.2.1.1) (g.1,(gS .i64 q.2.1 a.2.2.1.2.2.2.1,g.2.2)))).bind λd=>(aC d (Int.toNat a.2.1.1)).bind λj=>(aC d (Int.toNat a.2.1.1)).bind λb=>(some (List.set d (Int.toNat a.2.1.1) (b.1,(b.2.1,(b.2.2.1,(cM .i64 j.2.2.2.1 a.2.2.1.2.2.2.1,b.2.2.2.2)))))).bind λo=>some (.inl (o,()))else bif gA a.2.2.1.1 (3:Int)then (aC z3 (Int.toNat a.2.1.1)).bind λl=>(aC z3 (Int.toNat a.2.1.1)).bind λc=>(some (List.set z3 (Int.toNat a.2.1.1) (c.1,(c.2.1,(c.2.2.1,(gS .i64 l.2.2.2.1 a.2.2.1.2.2.2.1,c.2.2.2.2)))))).bind λf=>(aC f (Int.toNat a.2.1.1)).bind λp=>(Fw (p,((a.2.2.1.2.2.2.1,()),((cM .i64 a.1.1 (2:Int),()),())))).bind λm=>(some (List.set f (Int.toNat a.2.1.1) m.1)).bind λi=>some (.inl (i,())) else some (.inl (z3,()))) λk=>Sum.elim (λn=>some ((a.1.1,(n.1,())),())) some k
def bf4:zi:=⟨bf2,bf3,QS⟩
def bf5:=ac5
def af7:Gs:=[Vy,DO]
def IB:(Fo×IX)->Option ((Fo×sz)):=λa=>(SU ((a.1.2.1,()),((a.2.1.2.1,()),()))).bind λb=>(V2 (a.1,())).bind λn=>bif (!n.1.1)then (LR (a.1,())).bind λk=>some (k.1,(((1:Int),()),()))else (OJ (a.2.1,())).bind λl=>bif (!l.1.1)then (LR (a.1,())).bind λo=>some (o.1,(((1:Int),()),()))else bif dO b.1.1 (0:Int)then (LR (a.1,())).bind λi=>some (i.1,(((2:Int),()),()))else (bK a.1.2.1 b.1.1).bind λj=>bif !gA a.2.1.2.2.2.2.1 j.2.2.1 then (LR (a.1,())).bind λm=>some (m.1,(((3:Int),()),()))else (bK a.1.2.1 b.1.1).bind λp=>(Wg (p,((a.2.1.1,()),()))).bind λd=>bif dO d.1.1 a.2.1.2.2.2.1 then (LR (a.1,())).bind λh=>some (h.1,(((4:Int),()),()))else (LR (a.1,())).bind λg=>(QS (g.1,(b.1,(a.2.1,())))).bind λc=>(V2 (c.1,())).bind λe=>bif (!e.1.1)then (LR (a.1,())).bind λf=>some (f.1,(((5:Int),()),()))else some (c.1,(((0:Int),()),()))
def bf6:zi:=⟨bf5,af7,IB⟩
def i99:=Yz
def o99:=af7
def QT.b0(c:(Fo×Fg)):(a:(Int×ER))->Option aa8:=λa=>bif dO a.2.1 (List.length c.2.1.1:Int)then(bK c.2.1.1 a.2.1).bind λd=>(IB ((a.2.2.1,(a.2.2.2.1,())),(d,()))).bind λb=>bif gA b.2.1.1 (0:Int)then some (.inl (cM .i64 a.1 (1:Int),(cM .i64 a.2.1 (1:Int),(b.1.1,(b.1.2.1,())))))else some (.inl (a.1,(cM .i64 a.2.1 (1:Int),(b.1.1,(b.1.2.1,())))))else some (.inr (.inl (a.1,(a.2.1,(a.2.2.1,(a.2.2.2.1,()))))))
def QT:(Fo×Fg)->Option ((Fo×sz)):=λb=>(LR (b.1,())).bind λc=>(aR (QT.b0 b) ((0:Int),((0:Int),(c.1.1,(c.1.2.1,()))))).bind λd=>Sum.elim (λa=>some ((a.2.2.1,(a.2.2.2.1,())),((a.1,()),()))) some d
def c99:zi:=⟨i99,o99,QT⟩
def bf7:=QF
def af8:=QJ
def bf8:zi:=⟨bf7,af8,LR⟩
def bf9:=QF
def bg0:=QJ
def Ej.b1(d:bm)(g:p5)(v4:Mx):(a:(List (dT)×Mx))->Option aa6:=λa=>bif dO a.2.1 (List.length d.2.2.2.2.1:Int)then (bK d.2.2.2.2.1 a.2.1).bind λb=>bif km b.2.1 (cM .i64 g.1.1 (1:Int))then (aC a.2.2.1 (Int.toNat v4.1)).bind λf=>(aC a.2.2.1 (Int.toNat v4.1)).bind λc=>(some (List.set a.2.2.1 (Int.toNat v4.1) (c.1,(cM .i64 f.2.1 b.1,c.2.2)))).bind λe=>some (.inl (a.1,(cM .i64 a.2.1 (1:Int),(e,()))))else bif dE (List.length a.1+List.length ([b]:List (dT))) 16 then some (.inl (bV a.1 ([b]:List (dT)),(cM .i64 a.2.1 (1:Int),(a.2.2.1,()))))else none else some (.inr (.inl (a.1,(a.2.1,(a.2.2.1,())))))
def Ej.b0(c:p5):(v4:Mx)->Option (Sum Mx (Sum Mx p5)):=λv4=>bif dO v4.1 (List.length c.1.2.1:Int)then (bK v4.2.1 v4.1).bind λ_=>(aC v4.2.1 (Int.toNat v4.1)).bind λf=>(aR (Ej.b1 f c v4) ([],((0:Int),(v4.2.1,())))).bind λe=>Sum.elim (λb=>(aC b.2.2.1 (Int.toNat v4.1)).bind λa=>(some (List.set b.2.2.1 (Int.toNat v4.1) (a.1,(a.2.1,(a.2.2.1,(a.2.2.2.1,(b.1,()))))))).bind λd=>some (.inl (cM .i64 v4.1 (1:Int),(d,())))) some e else some (.inr (.inl (v4.1,(v4.2.1,()))))
def Ej:p5->Option p5:=λb=>(V2 (b.1,())).bind λh=>bif (!h.1.1)then (LR (b.1,())).bind λg=>some (g.1,())else (LR (b.1,())).bind λa=>(aR (Ej.b0 a) ((0:Int),(a.1.2.1,()))).bind λf=>Sum.elim (λc=>(V2 ((cM .i64 a.1.1 (1:Int),(c.2.1,())),())).bind λe=>bif (!e.1.1)then (LR (b.1,())).bind λd=>some (d.1,())else some ((cM .i64 a.1.1 (1:Int),(c.2.1,())),())) some f
def bg1:zi:=⟨bf9,bg0,Ej⟩
def bg2:=Yz
def af9:Gs:=[Yi,DO]
def bg3:zi:=⟨bg2,af9,QT⟩
def i45:Gs:=[gq9,Lr]
def o45:Gs:=[Yi,QE]
def Si.b0(b:MF):(a:ER)->Option (Sum ER (Sum ER ((Fo×i6)))):=λa=>bif dO a.1 (List.length b.2.1.1:Int)then (bK b.2.1.1 a.1).bind λf=>(Gc (f,(((0:Int),()),((gS .i64 (List.length b.1.2.2.2.2.1:Int) (1:Int),()),())))).bind λg=>bif (!g.1.1)then (LR ((b.1.1,(b.1.2.1,())),())).bind λh=>some (.inr (.inr (h.1,((false,()),()))))else (bK b.1.2.2.2.2.1 f.1).bind λd=>(QT ((a.2.1,(a.2.2.1,())),((d.2.2.2.2.2.2.2.2.2.2.1,()),()))).bind λc=>bif d.2.2.2.2.2.2.2.2.2.2.2.1 then (Ej (c.1,())).bind λe=>some (.inl (cM .i64 a.1 (1:Int),(e.1.1,(e.1.2.1,()))))else some (.inl (cM .i64 a.1 (1:Int),(c.1.1,(c.1.2.1,()))))else some (.inr (.inl (a.1,(a.2.1,(a.2.2.1,())))))
def Si:MF->Option ((Fo×i6)):=λa=>(LR ((a.1.1,(a.1.2.1,())),())).bind λb=>(aR (Si.b0 a) ((0:Int),(b.1.1,(b.1.2.1,())))).bind λd=>Sum.elim (λc=>some ((c.2.1,(c.2.2.1,())),((true,()),()))) some d
def c45:zi:=⟨i45,o45,Si⟩
def bg5:Gs:=[Sr,Sr,⟨.c,(.cons (.fn [6,6] (.cons .str (.cons (.int .i64) (.cons (.int .i64) (.cons (.int .i64) (.cons (.sl w5) (.cons .str (.cons (.int .i64) (.cons (.int .i64) (.cons (.int .i64) (.cons (.sl w5) .nil)))))))))) (.cons .bool .nil)) .nil),[]⟩]
def bg6:=o7
def LU.b0(d:aa5):(a:gk)->Option tm:=λa=>bif dO a.1 (List.length d.1.1:Int)then(bK d.1.1 a.1).bind λb=>(bK d.2.1.1 a.1).bind λc=>(d.2.2.1.1 (b.1,(b.2.1,(b.2.2.1,(b.2.2.2.1,(b.2.2.2.2.1,(c.1,(c.2.1,(c.2.2.1,(c.2.2.2.1,(c.2.2.2.2.1,()))))))))))).bind λe=>bif(!e.1)then some (.inr (.inr ((false,()),())))else some (.inl (cM .i64 a.1 (1:Int),()))else some (.inr (.inl (a.1,())))
def LU:aa5->Option i6:=λa=>bif !gA (List.length a.1.1:Int) (List.length a.2.1.1:Int)then some ((false,()),())else (aR (LU.b0 a) ((0:Int),())).bind λb=>Sum.elim (λc=>some ((true,()),())) some b
def bg7:zi:=⟨bg5,bg6,LU⟩
def bg8:Gs:=[VB,VB]
def bg9:=o7
def LV.b0(b:(Om×MD)):(a:gk)->Option tm:=λa=>bif dO a.1 (List.length b.1.1:Int)then(bK b.1.1 a.1).bind λc=>(bK b.2.1.1 a.1).bind λd=>bif !((gA c.1 d.1)&&(gA c.2.1 d.2.1))then some (.inr (.inr ((false,()),())))else some (.inl (cM .i64 a.1 (1:Int),()))else some (.inr (.inl (a.1,())))
def LV:(Om×MD)->Option i6:=λa=>bif !gA (List.length a.1.1:Int) (List.length a.2.1.1:Int)then some ((false,()),())else (aR (LV.b0 a) ((0:Int),())).bind λb=>Sum.elim (λv4=>some ((true,()),())) some b
def bh0:zi:=⟨bg8,bg9,LV⟩
def ag0:Gs:=[Vx,Vx]
def bh1:=o7
def Wh:(bm×GQ)->Option i6:=λa=>bif ko a.1.1 a.2.1.1 then bif gA a.1.2.1 a.2.1.2.1 then bif gA a.1.2.2.1 a.2.1.2.2.1 then bif gA a.1.2.2.2.1 a.2.1.2.2.2.1 then(LV ((a.1.2.2.2.2.1,()),((a.2.1.2.2.2.2.1,()),()))).bind λb=>some (b.1,())else some ((false,()),())else some ((false,()),())else some ((false,()),())else some ((false,()),())
def bh2:zi:=⟨ag0,bh1,Wh⟩
def i47:Gs:=[Oq,Oq]
def o47:=o7
def F47:(Fo×p5)->Option i6:=λb=>bif gA b.1.1 b.2.1.1 then(LU ((b.1.2.1,()),((b.2.1.2.1,()),(((λa=>(Wh ((a.1,(a.2.1,(a.2.2.1,(a.2.2.2.1,(a.2.2.2.2.1,()))))),((a.2.2.2.2.2.1,(a.2.2.2.2.2.2.1,(a.2.2.2.2.2.2.2.1,(a.2.2.2.2.2.2.2.2.1,(a.2.2.2.2.2.2.2.2.2.1,()))))),()))).bind λd=>some (d.1.1,())),()),())))).bind λc=>some (c.1,())else some ((false,()),())
def c47:zi:=⟨i47,o47,F47⟩
def i16:=i9
def o16:=o7
def SV.b0(b:mu):(a:gk)->Option tm:=λa=>bif dO a.1 (List.length b.1.2.2.2.1:Int)then(bK b.1.2.2.2.1 a.1).bind λc=>(Vn (b.1,((c.2.2.2.2.2.2.2.2.2.2.2.2.2.2.2.2.2.1,()),()))).bind λe=>(Si (b.1,(e.1,()))).bind λd=>bif (!d.2.1.1)then some (.inr (.inr ((false,()),())))else (F47 (d.1,((c.2.2.1,(c.2.2.2.1,())),()))).bind λf=>bif (!f.1.1)then some (.inr (.inr ((false,()),())))else some (.inl (cM .i64 a.1 (1:Int),()))else some (.inr (.inl (a.1,())))
def SV:mu->Option i6:=λb=>(aR (SV.b0 b) ((0:Int),())).bind λa=>Sum.elim (λc=>some ((true,()),())) some a
def c16:zi:=⟨i16,o16,SV⟩
def i32:Gs:=[⟨.c,(.cons (.sl e4) .nil),[]⟩,QE]
def o32:=Fu
def Vo.b0(b:((List D4×Unit)×i6)):(a:gk)->Option IW:=λa=>bif dO a.1 (List.length b.1.1:Int)then(bK b.1.1 a.1).bind λc=>bif wo b.2.1.1 c.1 then some (.inr (.inr ((a.1,()),())))else some (.inl (cM .i64 a.1 (1:Int),()))else some (.inr (.inl (a.1,())))
def Vo:((List D4×Unit)×i6)->Option sz:=λa=>(aR (Vo.b0 a) ((0:Int),())).bind λb=>Sum.elim (λv3=>some (((-1:Int),()),())) some b
def c32:zi:=⟨i32,o32,Vo⟩
def i12:=i9
def o12:=Fu
def Z6:mu->Option sz:=λa=>(KA (a.1,())).bind λg=>(Oe (a.1,())).bind λf=>(Of (a.1,())).bind λd=>(SV (a.1,())).bind λe=>(some (g.1.1,(f.1.1,(d.1.1,(e.1.1,()))))).bind λb=>(Vo ((([(b.1,()),(b.2.1,()),(b.2.2.1,()),(b.2.2.2.1,())]:List (D4)),()),((false,()),()))).bind λc=>some ((cM .i64 (1:Int) c.1.1,()),())
def c12:zi:=⟨i12,o12,Z6⟩
def i74:Gs:=[gq9,Vg]
def o74:=o7
def SX.b0(b:(H6×GR)):(a:gk)->Option tm:=λa=>bif dO a.1 (List.length b.2.1.1:Int)then(bK b.2.1.1 a.1).bind λd=>(k8 ((d.1,()),(((0:Int),()),((gS .i64 (List.length b.1.2.2.2.2.1:Int) (1:Int),()),())))).bind λe=>bif (!e.1.1)then some (.inr (.inr ((false,()),())))else (bK b.2.1.1 a.1).bind λg=>(bK b.1.2.2.2.2.1 g.1).bind λh=>(bK b.2.1.1 a.1).bind λc=>(QO (h,(c,()))).bind λf=>bif (!f.1.1)then some (.inr (.inr ((false,()),())))else some (.inl (cM .i64 a.1 (1:Int),()))else some (.inr (.inl (a.1,())))
def SX:(H6×GR)->Option i6:=λa=>(aR (SX.b0 a) ((0:Int),())).bind λb=>Sum.elim (λc=>some ((true,()),())) some b
def c74:zi:=⟨i74,o74,SX⟩
def bh3:=Yt
def bh4:=o7
def Wi:zd->Option i6:=λa=>Option.bind ((ES ((a.1.1,()),())).bind λk=>bif (!k.1.1)then some (.inr ((false,()),()))else (Sh ((a.1.2.2.1,(a.1.2.2.2.1,())),())).bind λm=>bif (!m.1.1)then some (.inr ((false,()),()))else bif !gA a.1.2.2.1 a.1.2.1 then some (.inr ((false,()),()))else (I3 ((a.1.2.2.2.2.2.2.2.2.2.2.2.2.2.2.2.2.2.2.1,()),())).bind λj=>bif (!j.1.1)then some (.inr ((false,()),()))else bif dO (0:Int) (List.length a.1.2.2.2.2.1:Int)then (Kb ((a.1.2.2.2.2.1,()),())).bind λl=>bif (!l.1.1)then some (.inr ((false,()),()))else (HG ((a.1.2.2.2.2.2.1,()),())).bind λn=>bif (!n.1.1)then some (.inr ((false,()),()))else bif dO (0:Int) (List.length a.1.2.2.2.2.2.1:Int)then (bK a.1.2.2.2.2.2.1 (0:Int)).bind λi=>bif !gA i.2.1 a.1.2.1 then some (.inr ((false,()),()))else some (.inl ())else some (.inl ())else (HG ((a.1.2.2.2.2.2.1,()),())).bind λo=>bif (!o.1.1)then some (.inr ((false,()),()))else bif dO (0:Int) (List.length a.1.2.2.2.2.2.1:Int)then (bK a.1.2.2.2.2.2.1 (0:Int)).bind λh=>bif !gA h.2.1 a.1.2.1 then some (.inr ((false,()),()))else some (.inl ())else some (.inl ())) λe=>Sum.elim (λp=>(k8 ((a.1.2.2.2.2.2.2.1,()),(((1:Int),()),(((10000:Int),()),())))).bind λc=>bif c.1.1 then bif dO a.1.2.2.2.2.2.2.2.2.1 a.1.2.2.2.2.2.2.1 then bif dO a.1.2.2.2.2.2.2.2.2.2.2.2.1 a.1.2.2.2.2.2.2.1 then (k8 ((a.1.2.2.2.2.2.2.2.1,()),(((0:Int),()),(((10000:Int),()),())))).bind λg=>bif g.1.1 then (k8 ((a.1.2.2.2.2.2.2.2.2.2.2.2.2.2.2.1,()),(((0:Int),()),(((10000:Int),()),())))).bind λd=>bif d.1.1 then (LC ((a.1.2.2.2.2.1,()),((a.1.2.2.2.2.2.2.2.2.1,(a.1.2.2.2.2.2.2.2.2.2.1,(a.1.2.2.2.2.2.2.2.2.2.2.1,()))),()))).bind λb=>bif b.1.1 then (Iv ((a.1.2.2.2.2.1,()),((a.1.2.2.2.2.2.2.2.2.2.2.2.1,(a.1.2.2.2.2.2.2.2.2.2.2.2.2.1,(a.1.2.2.2.2.2.2.2.2.2.2.2.2.2.1,()))),()))).bind λf=>bif f.1.1 then bif km (List.length a.1.2.2.2.2.2.2.2.2.2.2.2.2.2.2.2.1:Int) (1000:Int) then bif km (List.length a.1.2.2.2.2.2.2.2.2.2.2.2.2.2.2.2.2.1:Int) (1000:Int) then bif km (List.length a.1.2.2.2.2.2.2.2.2.2.2.2.2.2.2.2.2.2.1:Int) (200:Int) then some ((km (List.length a.1.2.2.2.2.2.2.2.2.2.2.2.2.2.2.2.2.2.2.2.1:Int) (200:Int),()),()) else some ((false,()),()) else some ((false,()),()) else some ((false,()),()) else some ((false,()),()) else some ((false,()),()) else some ((false,()),()) else some ((false,()),()) else some ((false,()),()) else some ((false,()),()) else some ((false,()),())) some e
def bh5:zi:=⟨bh3,bh4,Wi⟩
def i75:=i9
def o75:=o7
def Wj.b0(b:mu):(a:gk)->Option tm:=λa=>bif dO a.1 (List.length b.1.2.2.2.1:Int)then(bK b.1.2.2.2.1 a.1).bind λc=>(Wi (c,())).bind λe=>bif (!e.1.1)then some (.inr (.inr ((false,()),())))else (Gq ((b.1.2.2.1,()),((c.1,()),()))).bind λf=>bif f.1.1 then some (.inr (.inr ((false,()),())))else bif dO (0:Int) a.1 then (bK b.1.2.2.2.1 (gS .i64 a.1 (1:Int))).bind λh=>bif !ob h.1 c.1 then some (.inr (.inr ((false,()),()))) else (SX (b.1,((c.2.2.2.2.2.1,()),()))).bind λd=>bif (!d.1.1) then some (.inr (.inr ((false,()),()))) else some (.inl (cM .i64 a.1 (1:Int),())) else (SX (b.1,((c.2.2.2.2.2.1,()),()))).bind λg=>bif (!g.1.1) then some (.inr (.inr ((false,()),()))) else some (.inl (cM .i64 a.1 (1:Int),())) else some (.inr (.inl (a.1,())))
def Wj:mu->Option i6:=λa=>(aR (Wj.b0 a) ((0:Int),())).bind λb=>Sum.elim (λc=>some ((km (List.length a.1.2.2.2.1:Int) (12:Int),()),())) some b
def c75:zi:=⟨i75,o75,Wj⟩
def i33:=i9
def o33:=o7
def OK.b0(a:mu):(v3:gk)->Option tm:=λv3=>bif dO v3.1 (List.length a.1.2.2.2.2.1:Int)then(bK a.1.2.2.2.2.1 v3.1).bind λb=>bif !gA b.1 v3.1 then some (.inr (.inr ((false,()),())))else (bK a.1.2.2.2.2.1 v3.1).bind λd=>(Px (d,())).bind λc=>bif (!c.1.1)then some (.inr (.inr ((false,()),())))else some (.inl (cM .i64 v3.1 (1:Int),()))else some (.inr (.inl (v3.1,())))
def OK.b1(b:mu):(a:gk)->Option tm:=λa=>bif dO a.1 (List.length b.1.2.2.2.2.2.2.1:Int)then(bK b.1.2.2.2.2.2.2.1 a.1).bind λh=>(F72 (h,())).bind λc=>bif (!c.1.1)then some (.inr (.inr ((false,()),())))else (bK b.1.2.2.2.2.2.2.1 a.1).bind λd=>(QL (b.1,((d.2.1,()),()))).bind λe=>bif dO e.1.1 (0:Int)then some (.inr (.inr ((false,()),())))else (bK b.1.2.2.2.2.2.2.1 a.1).bind λg=>(SX (b.1,((g.2.2.2.1,()),()))).bind λf=>bif (!f.1.1)then some (.inr (.inr ((false,()),())))else some (.inl (cM .i64 a.1 (1:Int),()))else some (.inr (.inl (a.1,())))
def OK:mu->Option i6:=λa=>(Sh ((a.1.1,(a.1.2.1,())),())).bind λf=>bif (!f.1.1)then some ((false,()),())else (Oz ((a.1.2.2.1,()),())).bind λe=>bif (!e.1.1)then some ((false,()),())else bif dO (1000:Int) (List.length a.1.2.2.2.2.1:Int)then some ((false,()),())else bif dO (400:Int) (List.length a.1.2.2.2.2.2.2.1:Int)then some ((false,()),())else (aR (OK.b0 a) ((0:Int),())).bind λd=>Sum.elim (λh=>(aR (OK.b1 a) ((0:Int),())).bind λc=>Sum.elim (λg=>(Wj (a.1,())).bind λb=>some (b.1,())) some c) some d
def c33:zi:=⟨i33,o33,OK⟩
def i18:=i9
def o18:=o7
def Og.b1(d:gk)(e:mu):(a:gk)->Option MA:=λa=>bif dO a.1 d.1 then(bK e.1.2.2.2.2.2.1 d.1).bind λc=>(bK e.1.2.2.2.2.2.1 a.1).bind λb=>bif gA c.1 (1:Int)then bif gA b.1 (1:Int)then bif gA c.2.1 b.2.1 then bif gA c.2.2.1 b.2.2.1 then bif ko c.2.2.2.2.1 b.2.2.2.2.1 then bif !gA c.2.2.2.1 b.2.2.2.1 then some (.inr (.inr (.inr (.inr ((false,()),())))))else some (.inl (cM .i64 a.1 (1:Int),()))else some (.inl (cM .i64 a.1 (1:Int),()))else some (.inl (cM .i64 a.1 (1:Int),()))else some (.inl (cM .i64 a.1 (1:Int),()))else some (.inl (cM .i64 a.1 (1:Int),()))else some (.inl (cM .i64 a.1 (1:Int),()))else some (.inr (.inl (a.1,())))
def Og.b0(b:mu):(a:gk)->Option tm:=λa=>bif dO a.1 (List.length b.1.2.2.2.2.2.1:Int)then(aR (Og.b1 a b) ((0:Int),())).bind λc=>Sum.elim (λd=>some (.inl (cM .i64 a.1 (1:Int),()))) some c else some (.inr (.inl (a.1,())))
def Og:mu->Option i6:=λa=>(aR (Og.b0 a) ((0:Int),())).bind λb=>Sum.elim (λc=>some ((true,()),())) some b
def c18:zi:=⟨i18,o18,Og⟩
def i76:=i44
def o76:=o7
def Wk.b0(b:(J9×Io)):(a:gk)->Option tm:=λa=>bif dO a.1 (List.length b.1.1:Int)then bif dO a.1 (List.length b.2.1.1:Int)then(bK b.1.1 a.1).bind λc=>(bK b.2.1.1 a.1).bind λd=>bif !gA c.1 d.1 then some (.inr (.inr ((false,()),())))else some (.inl (cM .i64 a.1 (1:Int),()))else some (.inr (.inl (a.1,())))else some (.inr (.inl (a.1,())))
def Wk:(J9×Io)->Option i6:=λa=>(aR (Wk.b0 a) ((0:Int),())).bind λb=>Sum.elim (λv4=>some ((true,()),())) some b
def c76:zi:=⟨i76,o76,Wk⟩
def i34:=i9
def o34:=o7
def Oh.b1(b:gk)(c:mu):(a:gk)->Option MA:=λa=>bif dO a.1 b.1 then(bK c.1.2.2.2.1 b.1).bind λf=>(bK c.1.2.2.2.1 a.1).bind λe=>(Wk ((f.2.2.2.2.2.2.2.2.2.2.2.2.2.2.2.2.2.1,()),((e.2.2.2.2.2.2.2.2.2.2.2.2.2.2.2.2.2.1,()),()))).bind λd=>bif (!d.1.1)then some (.inr (.inr (.inr (.inr ((false,()),())))))else some (.inl (cM .i64 a.1 (1:Int),()))else some (.inr (.inl (a.1,())))
def Oh.b0(b:mu):(a:gk)->Option tm:=λa=>bif dO a.1 (List.length b.1.2.2.2.1:Int)then(aR (Oh.b1 a b) ((0:Int),())).bind λc=>Sum.elim (λd=>some (.inl (cM .i64 a.1 (1:Int),()))) some c else some (.inr (.inl (a.1,())))
def Oh:mu->Option i6:=λa=>(aR (Oh.b0 a) ((0:Int),())).bind λb=>Sum.elim (λc=>some ((true,()),())) some b
def c34:zi:=⟨i34,o34,Oh⟩
def i78:=i45
def o78:=Fu
def Sj.b0(b:MF):(a:te)->Option J8:=λa=>bif dO a.2.1 (List.length b.2.1.1:Int)then(bK b.2.1.1 a.2.1).bind λc=>(k8 (c,(((0:Int),()),((gS .i64 (List.length b.1.2.2.2.2.1:Int) (1:Int),()),())))).bind λd=>bif d.1.1 then (bK b.2.1.1 a.2.1).bind λe=>(bK b.1.2.2.2.2.1 e.1).bind λf=>bif f.2.2.2.2.2.2.2.2.2.2.2.1 then some (.inl (cM .i64 a.2.1 (1:Int),(cM .i64 a.2.1 (1:Int),())))else some (.inl (a.1,(cM .i64 a.2.1 (1:Int),())))else some (.inl (a.1,(cM .i64 a.2.1 (1:Int),())))else some (.inr (.inl (a.1,(a.2.1,()))))
def Sj:MF->Option sz:=λb=>(aR (Sj.b0 b) ((0:Int),((0:Int),()))).bind λa=>Sum.elim (λc=>some ((c.1,()),())) some a
def c78:zi:=⟨i78,o78,Sj⟩
def i77:=i45
def o77:Gs:=[Oq,QE]
def OL.b0(b:MF):(a:ER)->Option (Sum ER (Sum ER ((Fo×i6)))):=λa=>bif dO a.1 (List.length b.2.1.1:Int)then (bK b.2.1.1 a.1).bind λi=>(k8 (i,(((0:Int),()),((gS .i64 (List.length b.1.2.2.2.2.1:Int) (1:Int),()),())))).bind λg=>bif (!g.1.1)then (Fj ((b.1.1,(b.1.2.1,())),())).bind λh=>some (.inr (.inr (h.1,((false,()),()))))else (bK b.2.1.1 a.1).bind λf=>(bK b.1.2.2.2.2.1 f.1).bind λd=>(Fv ((a.2.1,(a.2.2.1,())),((d.2.2.2.2.2.2.2.2.2.2.1,()),()))).bind λc=>bif d.2.2.2.2.2.2.2.2.2.2.2.1 then (p6 (c.1,())).bind λe=>some (.inl (cM .i64 a.1 (1:Int),(e.1.1,(e.1.2.1,()))))else some (.inl (cM .i64 a.1 (1:Int),(c.1.1,(c.1.2.1,()))))else some (.inr (.inl (a.1,(a.2.1,(a.2.2.1,())))))
def OL:MF->Option ((Fo×i6)):=λa=>(Fj ((a.1.1,(a.1.2.1,())),())).bind λc=>(aR (OL.b0 a) ((0:Int),(c.1.1,(c.1.2.1,())))).bind λd=>Sum.elim (λb=>some ((b.2.1,(b.2.2.1,())),((true,()),()))) some d
def c77:zi:=⟨i77,o77,OL⟩
def bh6:=ag0
def bh7:=o7
def LW.b0(b:(bm×GQ)):(a:gk)->Option tm:=λa=>bif dO a.1 (List.length b.1.2.2.2.2.1:Int)then(bK b.1.2.2.2.2.1 a.1).bind λc=>(bK b.2.1.2.2.2.2.1 a.1).bind λd=>bif !((gA c.1 d.1)&&(gA c.2.1 d.2.1))then some (.inr (.inr ((false,()),())))else some (.inl (cM .i64 a.1 (1:Int),()))else some (.inr (.inl (a.1,())))
def LW:(bm×GQ)->Option i6:=λa=>bif !ko a.1.1 a.2.1.1 then some ((false,()),())else bif !gA a.1.2.1 a.2.1.2.1 then some ((false,()),())else bif !gA a.1.2.2.1 a.2.1.2.2.1 then some ((false,()),())else bif !gA a.1.2.2.2.1 a.2.1.2.2.2.1 then some ((false,()),())else bif !gA (List.length a.1.2.2.2.2.1:Int) (List.length a.2.1.2.2.2.2.1:Int)then some ((false,()),())else (aR (LW.b0 a) ((0:Int),())).bind λb=>Sum.elim (λv4=>some ((true,()),())) some b
def bh8:zi:=⟨bh6,bh7,LW⟩
def i79:=i47
def o79:=o7
def Wl.b0(b:(Fo×p5)):(a:gk)->Option tm:=λa=>bif dO a.1 (List.length b.1.2.1:Int)then(bK b.1.2.1 a.1).bind λc=>(bK b.2.1.2.1 a.1).bind λe=>(LW (c,(e,()))).bind λd=>bif (!d.1.1)then some (.inr (.inr ((false,()),())))else some (.inl (cM .i64 a.1 (1:Int),()))else some (.inr (.inl (a.1,())))
def Wl:(Fo×p5)->Option i6:=λa=>bif !gA a.1.1 a.2.1.1 then some ((false,()),())else bif !gA (List.length a.1.2.1:Int) (List.length a.2.1.2.1:Int)then some ((false,()),())else (aR (Wl.b0 a) ((0:Int),())).bind λb=>Sum.elim (λc=>some ((true,()),())) some b
def c79:zi:=⟨i79,o79,Wl⟩
def i35:=i9
def o35:=o7
def SY.b0(c:mu):(a:gk)->Option tm:=λa=>bif dO a.1 (List.length c.1.2.2.2.1:Int)then(bK c.1.2.2.2.1 a.1).bind λb=>(Sj (c.1,((b.2.2.2.2.2.2.2.2.2.2.2.2.2.2.2.2.2.1,()),()))).bind λd=>bif mX d.1.1 (List.length b.2.2.2.2.2.2.2.2.2.2.2.2.2.2.2.2.2.1)then (OL (c.1,((List.take ((Int.toNat d.1.1)-0) (List.drop 0 b.2.2.2.2.2.2.2.2.2.2.2.2.2.2.2.2.2.1),()),()))).bind λe=>bif (!e.2.1.1)then some (.inr (.inr ((false,()),())))else (Wl (e.1,((b.2.2.1,(b.2.2.2.1,())),()))).bind λf=>bif (!f.1.1)then some (.inr (.inr ((false,()),())))else some (.inl (cM .i64 a.1 (1:Int),()))else none else some (.inr (.inl (a.1,())))
def SY:mu->Option i6:=λb=>(aR (SY.b0 b) ((0:Int),())).bind λa=>Sum.elim (λc=>some ((true,()),())) some a
def c35:zi:=⟨i35,o35,SY⟩
def i13:=i9
def o13:=Fu
def Z7:mu->Option sz:=λa=>(OK (a.1,())).bind λe=>bif (!e.1.1)then some (((1:Int),()),())else (Og (a.1,())).bind λd=>bif (!d.1.1)then some (((2:Int),()),())else (Oh (a.1,())).bind λb=>bif (!b.1.1)then some (((3:Int),()),())else (SY (a.1,())).bind λc=>bif (!c.1.1)then some (((4:Int),()),())else some (((0:Int),()),())
def c13:zi:=⟨i13,o13,Z7⟩
def i3:=i7
def o3:=o7
def F3:F5->Option i6:=λb=>(F7 (b.1,())).bind λk=>bif k.1.1 then some ((true,()),())else (F8 (b.1,())).bind λa=>(F9 (a.1,())).bind λe=>bif (!e.1.1)then (LM (a.1,())).bind λg=>bif (!g.1.1)then (Oe (a.1,())).bind λi=>some (i.1,())else some ((false,()),())else (Z6 (a.1,())).bind λd=>bif gA d.1.1 (0:Int)then (Z7 (a.1,())).bind λj=>bif gA j.1.1 (0:Int)then (KA (a.1,())).bind λh=>bif h.1.1 then (Of (a.1,())).bind λf=>bif f.1.1 then (SV (a.1,())).bind λc=>some (c.1,())else some ((false,()),())else some ((false,()),())else some ((false,()),())else some ((false,()),())
def c3:zi:=⟨i3,o3,F3⟩
end
end Go.Proofs.YthjkikiepdnimaaGreat
