/- Plain laws, part 1: what the program's functions and the reference's compute, told as plain words. Conditions: none. -/
import Derived.Test.YthjkikiepdnimaaGreatTqH
import Derived.Test.YthjkikiepdnimaaGreatTqTm3
set_option linter.unusedVariables false
set_option linter.unusedSimpArgs false
set_option linter.constructorNameAsVariable false
namespace Go.Proofs.YthjkikiepdnimaaGreat
open Go Go.Tm
set_option maxRecDepth 100000
theorem mh(n a b:Int):k8 ((n,()),((a,()),((b,()),())))=some (B1 (Di n a b)):=Cb
theorem u7(n a b:Int):Gc ((n,()),((a,()),((b,()),())))=some (B1 (Di n a b)):=Cb
def Gy(b:UInt8):Bool:=Di (UInt8.toNat b:Int) 97 122||Di (UInt8.toNat b:Int) 48 57
def fb(s:ByteArray):Bool:=s.data.toList.all Gy&&Di (s.size:Int) 1 8
theorem A4(s:ByteArray)(b:Al s.size):ES ((s,()),())=some (B1 (fb s)):=by
 have c:=BI (S:=Int×Unit) s.data.toList Gy (f:=ES.b0 ((s,()),())) (λk=>(k,())) (Sum.inl ((s.data.toList.length:Int),())) (Sum.inr (B1 false)) (λi a=>?_) ?_
 · unfold ES fb;refine bw c ?_;cases s.data.toList.all Gy;· rfl
   · exact (congrArg (λo=>Option.bind o _) (mh _ _ _)).trans rfl
 · unfold ES.b0 Gy;refine uL (Int.ofNat_lt.2 a) (bw (cB a) (bw (mh _ _ _) ?_));rw[<-wG a b,AM];cases Di (UInt8.toNat s.data.toList[i]:Int) 97 122;· refine bw (cB a) (bw (mh _ _ _) ?_);rw[AM];grind
   · rfl
 simp_all[ES.b0,uM,bK,k8,cM]
theorem Ek(s:ByteArray)(b:Al s.size):My ((s,()),())=some (B1 (fb s)):=by
 have c:=BI (S:=Int×Unit) s.data.toList Gy (f:=My.b0 ((s,()),())) (λk=>(k,())) (Sum.inl ((s.data.toList.length:Int),())) (Sum.inr (B1 false)) (λi a=>?_) ?_
 · unfold My fb;refine bw c ?_;cases s.data.toList.all Gy;· rfl
   · exact (congrArg (λo=>Option.bind o _) (u7 _ _ _)).trans rfl
 · unfold My.b0 Gy Di;refine uL (Int.ofNat_lt.2 a) (bw (cB a) ?_);rw[<-wG a b];simp only[cB a,Option.bind_some];grind
 simp_all[My.b0,uM,bK,km,cM]
def S5(xs:List D9)(i:Nat)(y:D9):Bool:=fb y.1&&lO (λz y=>ob z.1 y.1) xs i y
def nx(xs:List D9):Bool:=iK (S5 xs) 0 xs&&km (xs.length:Int) 20
theorem EU(xs:List D9)(c:(Ty.sl e9).Ok xs):Oz ((xs,()),())=some (B1 (nx xs)):=by
 have b:Al xs.length:=c.1;have d:=yW (S:=Int×Unit) xs (S5 xs) (f:=Oz.b0 ((xs,()),())) (λk=>(k,())) (Sum.inl ((xs.length:Int),())) (Sum.inr (B1 false)) (λi a=>?_) ?_;·unfold Oz nx;grind
 ·unfold Oz.b0 S5;refine uL (Int.ofNat_lt.2 a) (bw (cB a) (bw (A4 _ (Ae c.2 (List.getElem_mem a)).1) (DT ?_)));rw[<-wG a b];exact BD a b (λz=>bw (cB a) DU)
 ·unfold Oz.b0;exact uM (Int.le_refl _) rfl
theorem LY(xs:List D9)(c:(Ty.sl e9).Ok xs):SM ((xs,()),())=some (B1 (nx xs)):=by
 have b:Al xs.length:=c.1;have d:=yW (S:=Int×Unit) xs (S5 xs) (f:=SM.b0 ((xs,()),())) (λk=>(k,())) (Sum.inl ((xs.length:Int),())) (Sum.inr (B1 false)) (λi a=>?_) ?_;·unfold SM nx;grind
 ·unfold SM.b0 S5;refine uL (Int.ofNat_lt.2 a) (bw (cB a) (bw (Ek _ (Ae c.2 (List.getElem_mem a)).1) (DT ?_)));rw[<-wG a b];exact BD a b (λz=>Cf)
 ·unfold SM.b0;exact uM (Int.le_refl _) rfl
def LZ(xs:List e6)(i:Nat)(y:e6):Bool:=fb y.1&&(Di y.2.1 1 1000000&&lO (λz y=>ob z.1 y.1) xs i y)
def u9(xs:List e6):Bool:=iK (LZ xs) 0 xs&&Di (xs.length:Int) 1 12
theorem XE(xs:List e6)(c:(Ty.sl Fp).Ok xs):Kb ((xs,()),())=some (B1 (u9 xs)):=by
 have b:Al xs.length:=c.1;have d:=yW (S:=Int×Unit) xs (LZ xs) (f:=Kb.b0 ((xs,()),())) (λk=>(k,())) (Sum.inl ((xs.length:Int),())) (Sum.inr (B1 false)) (λi a=>?_) ?_
 · unfold Kb u9;refine bw d ?_;cases iK (LZ xs) 0 xs;· rfl
   · exact (congrArg (λo=>Option.bind o _) (mh _ _ _)).trans rfl
 · unfold Kb.b0 LZ;refine uL (Int.ofNat_lt.2 a) (bw (cB a) (bw (A4 _ (Ae c.2 (List.getElem_mem a)).1) (DT (bw (cB a) (bw (mh _ _ _) (DT ?_))))));rw[<-wG a b];exact BD a b (λz=>bw (cB a) DU)
 · unfold Kb.b0;exact uM (Int.le_refl _) rfl
theorem XF(xs:List e6)(c:(Ty.sl Fp).Ok xs):Vm ((xs,()),())=some (B1 (u9 xs)):=by
 have b:Al xs.length:=c.1;have d:=yW (S:=Int×Unit) xs (LZ xs) (f:=Vm.b0 ((xs,()),())) (λk=>(k,())) (Sum.inl ((xs.length:Int),())) (Sum.inr (B1 false)) (λi a=>?_) ?_
 · unfold Vm u9;refine bw d ?_;cases iK (LZ xs) 0 xs;· rfl
   · exact (congrArg (λo=>Option.bind o _) (u7 _ _ _)).trans rfl
 · unfold Vm.b0 LZ;refine uL (Int.ofNat_lt.2 a) (bw (cB a) (bw (Ek _ (Ae c.2 (List.getElem_mem a)).1) (DT (bw (u7 _ _ _) (DT ?_)))));rw[<-wG a b];exact BD a b (λz=>Cf)
 · unfold Vm.b0;exact uM (Int.le_refl _) rfl
def F6(l:List e6)(s:ByteArray):Bool:=l.any (λv=>ko v.1 s)
def ke(l:List D9)(s:ByteArray):Bool:=l.any (λv=>ko v.1 s)
theorem HK(l:List e6)(s:ByteArray)(b:Al l.length):GV ((l,()),((s,()),()))=some (B1 (F6 l s)):=by
 have c:=Cj (S:=Int×Unit) l (λv=>ko v.1 s) (f:=GV.b0 ((l,()),((s,()),()))) (λk=>(k,())) (Sum.inl ((l.length:Int),())) (Sum.inr (B1 true)) (λi a=>?_) ?_;·unfold GV F6;grind
 ·unfold GV.b0;refine uL (Int.ofNat_lt.2 a) (bw (cB a) ?_);rw[<-wG a b]
 simp_all[GV.b0,e6,uM,bK,ko,cM]
theorem I5(l:List D9)(s:ByteArray)(b:Al l.length):Gq ((l,()),((s,()),()))=some (B1 (ke l s)):=by
 have c:=Cj (S:=Int×Unit) l (λv=>ko v.1 s) (f:=Gq.b0 ((l,()),((s,()),()))) (λk=>(k,())) (Sum.inl ((l.length:Int),())) (Sum.inr (B1 true)) (λi a=>?_) ?_;·unfold Gq ke;grind
 ·unfold Gq.b0;refine uL (Int.ofNat_lt.2 a) (bw (cB a) ?_);rw[<-wG a b]
 simp_all[Gq.b0,D9,uM,bK,ko,cM]
theorem MV(l:List e6)(g:e6->Option (Bool×Unit))(p:e6->Bool)(h:∀x,g x=some (p x,()))(d:Al l.length):LO ((l,()),((g,()),()))=some (I1 (nY l p)):=by
 have e:=Ck (S:=Int×Unit) l p (f:=LO.b0 ((l,()),((g,()),()))) (λk=>(k,())) (Sum.inl ((l.length:Int),())) (λi=>Sum.inr (I1 i)) (λi a=>?_) ?_;·unfold LO;refine bw e ?_;rcases mA l p with⟨c,_,b⟩|⟨j,m,_,_,c,_,b⟩<;>rw[c,b]<;>rfl
 ·unfold LO.b0;refine uL (Int.ofNat_lt.2 a) (bw (cB a) (bw (h _) ?_));rw[<-wG a d]
 simp_all[LO.b0,e6,uM,bK,cM]
theorem YY(l:List e6)(s:ByteArray)(a:Al l.length):V9 ((l,()),((s,()),()))=some (B1 (F6 l s)):=by unfold V9 YH;refine bw (bw (MV l _ (λv=>ko v.1 s) (λx=>rfl) a) rfl) ?_;rw[AG];rfl
theorem YZ(l:List D9)(s:ByteArray)(d:Al l.length):V4 ((l,()),((s,()),()))=some (I1 (nY l (λv=>ko s v.1))):=by
 have e:=Ck (S:=Int×Unit) l (λv=>ko s v.1) (f:=V4.b0 ((l,()),((s,()),()))) (λk=>(k,())) (Sum.inl ((l.length:Int),())) (λi=>Sum.inr (I1 i)) (λi a=>?_) ?_;·unfold V4;refine bw e ?_;rcases mA l (λv=>ko s v.1) with⟨c,_,b⟩|⟨j,g,_,_,c,_,b⟩<;>rw[c,b]<;>rfl
 ·unfold V4.b0;refine uL (Int.ofNat_lt.2 a) (bw (cB a) ?_);rw[<-wG a d]
 simp_all[V4.b0,D9,uM,bK,ko,cM]
theorem XG(l:List D9)(s:ByteArray)(a:Al l.length):F40 ((l,()),((s,()),()))=some (B1 (ke l s)):=by unfold F40 ke;refine bw (YZ l s a) ?_;rw[AG];simp only[BG]
def Fx(l:List e6)(a:List D9):Bool:=a.all (λn=>F6 l n.1)
theorem XH(l:List e6)(a:List D9)(d:Al l.length)(c:(Ty.sl e9).Ok a):Kg ((l,()),((a,()),()))=some (B1 (Fx l a&&nx a)):=by
 have e:=BI (S:=Int×Unit) a (λn=>F6 l n.1) (f:=Kg.b0 ((l,()),((a,()),()))) (λk=>(k,())) (Sum.inl ((a.length:Int),())) (Sum.inr (B1 false)) (λi b=>?_) ?_
 · unfold Kg Fx;refine bw e ?_;cases a.all (λn=>F6 l n.1);· rfl
   · exact (congrArg (λo=>Option.bind o _) (EU _ c)).trans rfl
 · unfold Kg.b0;refine uL (Int.ofNat_lt.2 b) (bw (cB b) (bw (HK _ _ d) ?_));rw[<-wG b c.1];grind
 · unfold Kg.b0;exact uM (Int.le_refl _) rfl
theorem XI(l:List e6)(a:List D9)(d:Al l.length)(c:Al a.length):Kq ((l,()),((a,()),()))=some (B1 (Fx l a)):=by
 have e:=BI (S:=Int×Unit) a (λn=>F6 l n.1) (f:=Kq.b0 ((l,()),((a,()),()))) (λk=>(k,())) (Sum.inl ((a.length:Int),())) (Sum.inr (B1 false)) (λi b=>?_) ?_;·unfold Kq Fx;grind
 ·unfold Kq.b0;refine uL (Int.ofNat_lt.2 b) (bw (cB b) (bw (YY _ _ d) ?_));rw[<-wG b c];grind
 ·unfold Kq.b0;exact uM (Int.le_refl _) rfl
def Gz(xs:List e6)(a:List D9):Int:=xs.foldl (λn v=>bif ke a v.1 then cM .i64 n v.2.1 else n) 0
def I6(xs:List e6):Int:=xs.foldl (λn v=>cM .i64 n v.2.1) 0
def pv(l:List e6)(a:List D9):Bool:=dO (zJ .i64 2 (I6 l)) (zJ .i64 3 (Gz l a))
theorem MW(xs:List e6)(b:List D9)(g:Al xs.length)(d:Al b.length):Vi ((xs,()),((b,()),()))=some (I1 (Gz xs b)):=by
 have e:=AJ (S:=Int×(Int×Unit)) xs (λn v=>bif ke b v.1 then cM .i64 n v.2.1 else n) (f:=Vi.b0 ((xs,()),((b,()),()))) (λa i=>(a,(i,()))) (λa=>Sum.inl (a,((xs.length:Int),()))) 0 (λi c a=>?_) (λa=>?_);·unfold Vi;exact bw e rfl
 · unfold Vi.b0;refine uL (Int.ofNat_lt.2 c) (bw (cB c) (bw (I5 _ _ d) ?_));rw[<-wG c g];dsimp only;cases ke b xs[i].1;· rfl
   · exact bw (cB c) rfl
 · unfold Vi.b0;exact uM (Int.le_refl _) rfl
theorem MX(xs:List e6)(b:List D9)(g:Al xs.length)(d:Al b.length):Vk ((xs,()),((b,()),()))=some (I1 (Gz xs b)):=by
 have e:=AJ (S:=Int×(Int×Unit)) xs (λn v=>bif ke b v.1 then cM .i64 n v.2.1 else n) (f:=Vk.b0 ((xs,()),((b,()),()))) (λa i=>(a,(i,()))) (λa=>Sum.inl (a,((xs.length:Int),()))) 0 (λi c a=>?_) (λa=>?_);·unfold Vk;exact bw e rfl
 ·unfold Vk.b0;refine uL (Int.ofNat_lt.2 c) (bw (cB c) (bw (XG _ _ d) ?_));rw[<-wG c g];grind
 ·unfold Vk.b0;exact uM (Int.le_refl _) rfl
theorem Pz(xs:List e6)(d:Al xs.length):Vj ((xs,()),())=some (I1 (I6 xs)):=by
 have c:=AJ (S:=Int×(Int×Unit)) xs (λn v=>cM .i64 n v.2.1) (f:=Vj.b0 ((xs,()),())) (λa i=>(a,(i,()))) (λa=>Sum.inl (a,((xs.length:Int),()))) 0 (λi b a=>?_) (λa=>?_);·unfold Vj;exact bw c rfl
 ·unfold Vj.b0;refine uL (Int.ofNat_lt.2 b) (bw (cB b) ?_);rw[<-wG b d]
 simp_all[Vj.b0,e6,uM,bK,cM]
theorem PA(xs:List e6)(d:Al xs.length):Vl ((xs,()),())=some (I1 (I6 xs)):=by
 have c:=AJ (S:=Int×(Int×Unit)) xs (λn v=>cM .i64 n v.2.1) (f:=Vl.b0 ((xs,()),())) (λa i=>(a,(i,()))) (λa=>Sum.inl (a,((xs.length:Int),()))) 0 (λi b a=>?_) (λa=>?_);·unfold Vl;exact bw c rfl
 ·unfold Vl.b0;refine uL (Int.ofNat_lt.2 b) (bw (cB b) ?_);rw[<-wG b d]
 simp_all[Vl.b0,e6,uM,bK,cM]
theorem MY(l:List e6)(a:List D9)(b:Al l.length)(c:Al a.length):VS ((l,()),((a,()),()))=some (B1 (pv l a)):=bw (MW l a b c) (bw (Pz l b) rfl)
theorem MZ(l:List e6)(a:List D9)(b:Al l.length)(c:Al a.length):V8 ((l,()),((a,()),()))=some (B1 (pv l a)):=bw (MX l a b c) (bw (PA l b) rfl)
def GY(xs:List dT)(i:Nat)(y:dT):Bool:=Di y.1 1 1000000&&(Di y.2.1 0 1000&&lO (λz y=>dO z.2.1 y.2.1) xs i y)
def tv(xs:List dT):Bool:=iK (GY xs) 0 xs
def rv(a:bm):Bool:=fb a.1&&(Di a.2.1 0 1000000&&(Di a.2.2.1 0 10000&&(Di a.2.2.2.1 0 1000000&&(km (List.length a.2.2.2.2.1:Int) 4&&tv a.2.2.2.2.1))))
abbrev Wv(a:bm):Prop:=cf.Ok a
theorem Wv.ls{a:bm}(h:Wv a):(Ty.sl w5).Ok a.2.2.2.2.1:=h.2.2.2.2.1
theorem Y0(a:bm)(h:Wv a):Ls (a,())=some (B1 (rv a)):=by
 have c:Al (List.length a.2.2.2.2.1):=h.ls.1;have d:=yW (S:=Int×Unit) a.2.2.2.2.1 (GY a.2.2.2.2.1) (f:=Ls.b0 (a,())) (λk=>(k,())) (Sum.inl ((List.length a.2.2.2.2.1:Int),())) (Sum.inr (B1 false)) (λi b=>?_) ?_;·unfold Ls rv tv;rw[Aj];refine bw (A4 _ h.1) (Dx (bw (mh _ _ _) (Dx (bw (mh _ _ _) (Dx (bw (mh _ _ _) (Dx (DS (bw d ?_)))))))));grind
 ·unfold Ls.b0 GY;refine uL (Int.ofNat_lt.2 b) (bw (cB b) (bw (mh _ _ _) (DT (bw (mh _ _ _) (DT ?_)))));rw[<-wG b c];exact BD b c (λz=>CG)
 ·unfold Ls.b0;exact uM (Int.le_refl _) rfl
theorem M0(n:Int):V0 ((n,()),())=some (B1 (Di n 0 1000000)):=bw (u7 _ _ _) rfl
theorem Y1(a:bm)(h:Wv a):LL (a,())=some (B1 (rv a)):=by
 have d:Al (List.length a.2.2.2.2.1):=h.ls.1;have e:=yW (S:=Int×Unit) a.2.2.2.2.1 (GY a.2.2.2.2.1) (f:=LL.b0 (a,())) (λk=>(k,())) (Sum.inl ((List.length a.2.2.2.2.1:Int),())) (Sum.inr (B1 false)) (λi b=>?_) ?_
 · unfold LL rv tv;refine bw e ?_;cases iK (GY a.2.2.2.2.1) 0 a.2.2.2.2.1;· grind
   · refine (bw (Ek _ h.1) (Dy (bw (M0 _) (Dy (bw (M0 _) (Dy (bw (u7 _ _ _) (Ch (c:=km (List.length a.2.2.2.2.1:Int) 4))))))))).trans ?_;grind
 · unfold LL.b0 GY;refine uL (Int.ofNat_lt.2 b) (bw (cB b) (bw (u7 _ _ _) (DT (bw (u7 _ _ _) (DT ?_)))));rw[<-wG b d];exact BD b d (λz=>CG)
 · unfold LL.b0;exact uM (Int.le_refl _) rfl
def El(n:Int)(xs:List dT):Int:=xs.foldl (λs y=>cM .i64 s y.1) n
theorem I7(n m:Int):∀xs:List dT,El (cM .i64 n m) xs=cM .i64 n (El m xs)|[]=>rfl|x::r=>by show El (cM .i64 (cM .i64 n m) x.1) r=cM .i64 n (El (cM .i64 m x.1) r);rw[Ak,I7]
def IC(a:bm):Int:=El (cM .i64 a.2.1 a.2.2.2.1) a.2.2.2.2.1
def EV(xs:List bm):Int:=xs.foldl (λs y=>cM .i64 s (IC y)) 0
theorem bt2(a:bm)(h:Wv a):Ka (a,())=some (I1 (IC a)):=by
 have c:Al (List.length a.2.2.2.2.1):=h.ls.1;have d:=AJ (S:=Int×(Int×Unit)) a.2.2.2.2.1 (λs y=>cM .i64 s y.1) (f:=Ka.b0 (a,())) (λa i=>(a,(i,()))) (λs=>Sum.inl (s,((List.length a.2.2.2.2.1:Int),()))) (cM .i64 a.2.1 a.2.2.2.1) (λi b s=>?_) (λs=>?_);·unfold Ka;exact bw d rfl
 ·unfold Ka.b0;refine uL (Int.ofNat_lt.2 b) (bw (cB b) ?_);rw[<-wG b c]
 simp_all[Ka.b0,bm,dT,uM,bK,cM]
theorem S6(xs:List bm)(c:(Ty.sl cf).Ok xs):Lt ((xs,()),())=some (I1 (EV xs)):=by
 have d:=AJ (S:=Int×(Int×Unit)) xs (λs y=>cM .i64 s (IC y)) (f:=Lt.b0 ((xs,()),())) (λa i=>(a,(i,()))) (λs=>Sum.inl (s,((xs.length:Int),()))) 0 (λi b s=>?_) (λs=>?_);·unfold Lt;exact bw d rfl
 ·unfold Lt.b0;refine uL (Int.ofNat_lt.2 b) (bw (cB b) (bw (bt2 _ (Ae c.2 (List.getElem_mem b))) ?_));rw[<-wG b c.1]
 simp_all[Lt.b0,bm,uM,bK,Ka,cM]
theorem S7(xs:List bm)(c:(Ty.sl cf).Ok xs):GX ((xs,()),())=some (I1 (EV xs)):=by
 have d:∀(a:bm)(n:Int),Al (List.length a.2.2.2.2.1)->aR (GX.b1 a) (n,((0:Int),()))=some (.inl (El n a.2.2.2.2.1,((List.length a.2.2.2.2.1:Int),()))):=by
  intro a n e;refine AJ (S:=Int×(Int×Unit)) a.2.2.2.2.1 (λs y=>cM .i64 s y.1) (λa i=>(a,(i,()))) (λs=>Sum.inl (s,((List.length a.2.2.2.2.1:Int),()))) n (λi b s=>?_) (λs=>?_);·unfold GX.b1;refine uL (Int.ofNat_lt.2 b) (bw (cB b) ?_);rw[<-wG b e]
  simp_all[GX.b1,dT,uM,bK,cM]
 have g:=AJ (S:=Int×(Int×Unit)) xs (λs y=>cM .i64 s (IC y)) (f:=GX.b0 ((xs,()),())) (λa i=>(a,(i,()))) (λs=>Sum.inl (s,((xs.length:Int),()))) 0 (λi b s=>?_) (λs=>?_);·unfold GX;exact bw g rfl
 ·unfold GX.b0;refine uL (Int.ofNat_lt.2 b) (bw (cB b) (bw (d _ _ (Wv.ls (Ae c.2 (List.getElem_mem b))).1) ?_));rw[<-wG b c.1];exact congrArg (λz=>some (Sum.inl (z,(cM .i64 (i:Int) 1,())))) (I7 s _ _)
 ·unfold GX.b0;exact uM (Int.le_refl _) rfl
def D0(xs:List bm)(i:Nat)(y:bm):Bool:=rv y&&lO (λz y=>ob z.1 y.1) xs i y
def sM(xs:List bm):Bool:=iK (D0 xs) 0 xs&&(km (xs.length:Int) 12&&km (EV xs) 1000000)
abbrev ek:Type:=Int×(List bm×Unit)
def bk(x:ek):Bool:=Di x.1 0 900&&sM x.2.1
theorem Ww(xs:List bm)(c:(Ty.sl cf).Ok xs):Lu ((xs,()),())=some (B1 (sM xs)):=by
 have d:Al xs.length:=c.1;have e:=yW (S:=Int×Unit) xs (D0 xs) (f:=Lu.b0 ((xs,()),())) (λk=>(k,())) (Sum.inl ((xs.length:Int),())) (Sum.inr (B1 false)) (λi a=>?_) ?_
 · unfold Lu sM;refine bw e ?_;cases iK (D0 xs) 0 xs;· rfl
   · exact (Dy (b:=km (xs.length:Int) 12) (bw (S6 xs c) rfl)).trans rfl
 · unfold Lu.b0 D0;refine uL (Int.ofNat_lt.2 a) (bw (cB a) (bw (Y0 _ (Ae c.2 (List.getElem_mem a))) (DT ?_)));rw[<-wG a d];exact BD a d (λz=>bw (cB a) DU)
 · unfold Lu.b0;exact uM (Int.le_refl _) rfl
theorem mw(x:ek)(a:(Ty.sl cf).Ok x.2.1):Sh (x,())=some (B1 (bk x)):=bw (mh _ _ _) (Dy (bw (Ww _ a) rfl))
theorem Wx(xs:List bm)(c:(Ty.sl cf).Ok xs):V1 ((xs,()),())=some (B1 (sM xs)):=by
 have d:Al xs.length:=c.1;have e:=yW (S:=Int×Unit) xs (D0 xs) (f:=V1.b0 ((xs,()),())) (λk=>(k,())) (Sum.inl ((xs.length:Int),())) (Sum.inr (B1 false)) (λi a=>?_) ?_
 · unfold V1 sM;refine bw e ?_;cases iK (D0 xs) 0 xs;· rfl
   · exact (Dy (b:=km (xs.length:Int) 12) (bw (S7 xs c) rfl)).trans rfl
 · unfold V1.b0 D0;refine uL (Int.ofNat_lt.2 a) (bw (cB a) (bw (Y1 _ (Ae c.2 (List.getElem_mem a))) (DT ?_)));rw[<-wG a d];exact BD a d (λz=>Cf)
 · unfold V1.b0;exact uM (Int.le_refl _) rfl
theorem A5(x:ek)(a:(Ty.sl cf).Ok x.2.1):V2 (x,())=some (B1 (bk x)):=bw (u7 _ _ _) (Dy (bw (Wx _ a) rfl))
def zA(s:List e6)(y:bm):List e6:=bif km 5 y.2.2.2.1 then s++([(y.1,(y.2.2.2.1,()))]:List e6)else s
def va(xs:List bm):List e6:=xs.foldl zA []
theorem H7(s:List e6)(y:bm){i:Nat}(h:s.length<=i):(zA s y).length<=i+1:=by unfold zA;grind
theorem GZ(xs:List bm):va xs=(xs.filter (λy=>km 5 y.2.2.2.1)).map (λy=>(y.1,(y.2.2.2.1,()))):=by
 have :∀(xs:List bm)(s:List e6),xs.foldl zA s=s++(xs.filter (λy=>km 5 y.2.2.2.1)).map (λy=>(y.1,(y.2.2.2.1,()))):=by intro xs;induction xs with|nil=>grind|cons x r a=>intro s;rw[List.foldl_cons,a,List.filter_cons];unfold zA;grind
 have h:=this xs [];rw [List.nil_append]at h;exact h
theorem Ex(xs:List bm):(va xs).length<=xs.length:=by rw[GZ,List.length_map];grind
theorem S8{xs:List bm}{y:e6}(h:y∈va xs):∃a∈xs,y=(a.1,(a.2.2.2.1,())):=by rw[GZ,List.mem_map]at h;grind
theorem PB(xs:List bm)(c:(Ty.sl cf).Ok xs):(Ty.sl Fp).Ok (va xs):=Dk (Nat.le_trans (Ex xs) c.1) (λy d=>by obtain⟨a,f,e⟩:=S8 d;have b:Wv a:=Ae c.2 f;rw[e];exact⟨b.1,b.2.2.2.1,trivial⟩)
def o0(x:ek):List e6:=bif bk x then va x.2.1 else[]
theorem S9(x:ek)(d:W1 x.2.1.length):Vh (x,())=some ((va x.2.1,()),()):=by
 have e:=xL (S:=List e6×(Int×Unit)) (f:=Vh.b0 (x,())) x.2.1 zA (λi s=>s.length<=i) (λa i=>(a,(i,()))) (λa=>Sum.inl (a,((x.2.1.length:Int),()))) [] (Nat.le_refl _) (λi b a c=>⟨?_,H7 _ _ c⟩) (λa _=>?_);·unfold Vh;exact bw e.1 rfl
 ·unfold Vh.b0 zA;refine uL (Int.ofNat_lt.2 b) (bw (cB b) ?_);rw[<-wG b d.l];dsimp only;cases km 5 x.2.1[i].2.2.2.1 with|false=>rfl|true=>exact bw (cB b) (bw (cB b) (Cm (n:=a.length+1) (by omega) (by decide) (by decide) rfl))
 ·unfold Vh.b0;exact uM (Int.le_refl _) rfl
theorem Ta(x:ek)(a:(Ty.sl cf).Ok x.2.1):(Ty.sl Fp).Ok (o0 x):=by unfold o0;cases bk x with|true=>exact PB _ a|false=>exact CK
theorem Wy(x:ek)(c:W1 x.2.1.length)(h:(Ty.sl cf).Ok x.2.1):V3 (x,())=some ((o0 x,()),()):=by
 unfold V3 o0;refine bw (A5 _ h) ((Dz (K:=_) (g:=some ((va x.2.1,()),())) ?_).trans (by grind));have d:=xL (S:=List e6×(Int×Unit)) (f:=V3.b0 (x,())) x.2.1 zA (λi s=>s.length<=i) (λa i=>(a,(i,()))) (λa=>Sum.inl (a,((x.2.1.length:Int),()))) [] (Nat.le_refl _) (λi b a e=>⟨?_,H7 _ _ e⟩) (λa _=>?_);·exact bw d.1 rfl
 ·unfold V3.b0 zA;refine uL (Int.ofNat_lt.2 b) (bw (cB b) ?_);rw[<-wG b c.l];dsimp only;cases km 5 x.2.1[i].2.2.2.1 with|false=>rfl|true=>exact Cm (n:=a.length+1) (by omega) (by decide) (by decide) rfl
 ·unfold V3.b0;exact uM (Int.le_refl _) rfl
theorem L1(x:ek)(a:W1 x.2.1.length)(b:(Ty.sl cf).Ok x.2.1):Z1 (x,())=some ((o0 x,()),()):=by unfold Z1 o0;exact bw (mw _ b) ((Dz (g:=some ((va x.2.1,()),())) (bw (S9 x a) rfl)).trans (by grind))
abbrev k0:Type:=Int×(Int×(List D9×Unit))
abbrev vc:Type:=Int×(List D9×(List D3×Unit))
def ks(q:k0):Bool:=gA q.1 0&&(gA q.2.1 (-1)&&gA (List.length q.2.2.1:Int) 0)
def sU(t:vc):Bool:=gA t.1 0&&(gA (List.length t.2.1:Int) 0&&gA (List.length t.2.2.1:Int) 0)
abbrev Vp(q:k0):Prop:=(Ty.sl e9).Ok q.2.2.1
abbrev Vq(t:vc):Prop:=(Ty.sl e9).Ok t.2.1/\Al (List.length t.2.2.1)
def H8(q:k0)(round a:Int):Bool:=ks q||(Di q.1 1 round&&(Di q.2.1 0 a&&nx q.2.2.1))
def Ks(t:vc)(round:Int):Bool:=sU t||(Di t.1 1 round&&(nx t.2.1&&(gA (List.length t.2.2.1:Int) (List.length t.2.1:Int)&&t.2.2.1.all (λh=>Di h.1 0 (gS .i64 t.1 1)))))
def C5(l:List e6)(q:k0):Bool:=ks q||(Di q.1 1 10000&&(Di q.2.1 0 100000&&(nx q.2.2.1&&(Fx l q.2.2.1&&pv l q.2.2.1))))
def Gd(l:List e6)(t:vc):Bool:=sU t||(Di t.1 1 10000&&(nx t.2.1&&(gA (List.length t.2.2.1:Int) (List.length t.2.1:Int)&&(t.2.2.1.all (λh=>Di h.1 0 (gS .i64 t.1 1))&&(Fx l t.2.1&&pv l t.2.1)))))
theorem HL(q:k0):Lx (q,())=some (B1 (ks q)):=by unfold Lx ks;grind
theorem I8(q:k0):XB (q,())=some (B1 (ks q)):=by unfold XB ks;grind
theorem Fy(t:vc):Is (t,())=some (B1 (sU t)):=by unfold Is sU;grind
theorem I9(t:vc):XC (t,())=some (B1 (sU t)):=by unfold XC sU;grind
theorem ON(l:List e6)(q:k0)(b:Al l.length)(a:Vp q):LC ((l,()),(q,()))=some (B1 (C5 l q)):=by unfold LC C5;refine bw (HL q) (DR (bw (mh _ _ _) (Dy (bw (mh _ _ _) (Dy ?_)))));refine bw (XH l _ b a) ((Dy (bw (MY l _ b a.1) rfl)).trans ?_);grind
theorem Tb(q:k0)(r b:Int)(a:Vp q):Z4 (q,((r,()),((b,()),())))=some (B1 (H8 q r b)):=by unfold Z4 H8;exact bw (I8 q) (DR (bw (u7 _ _ _) (Dy (bw (u7 _ _ _) (Dy (bw (LY _ a) rfl))))))
theorem bt4(l:List e6)(q:k0)(b:Al l.length)(a:Vp q):F54 ((l,()),(q,()))=some (B1 (C5 l q)):=by unfold F54;refine (bw (I8 q) (DR (bw (Tb q _ _ a) (Dy (bw (MZ l _ b a.1) (Dy (bw (XI l _ b a.1) rfl))))))).trans ?_;unfold C5 H8;cases ks q<;>cases Di q.1 1 10000<;>cases Di q.2.1 0 100000<;>cases nx q.2.2.1<;>cases Fx l q.2.2.1<;>cases pv l q.2.2.1<;>rfl
theorem Tc(t:vc)(r:Int)(h:Vq t):SN (t,((r,()),()))=some (B1 (Ks t r)):=by
 have b:Al (List.length t.2.2.1):=h.2;have c:=BI (S:=Int×Unit) t.2.2.1 (λy=>Di y.1 0 (gS .i64 t.1 1)) (f:=SN.b0 (t,((r,()),()))) (λk=>(k,())) (Sum.inl ((t.2.2.1.length:Int),())) (Sum.inr (B1 false)) (λi a=>?_) ?_
 · unfold SN Ks;refine bw (I9 t) (DR (bw c ?_));cases t.2.2.1.all (λy=>Di y.1 0 (gS .i64 t.1 1));· grind
   · refine (bw (u7 _ _ _) (Dy (bw (LY _ h.1) Ch))).trans ?_;grind
 · unfold SN.b0;refine uL (Int.ofNat_lt.2 a) (bw (cB a) (bw (u7 _ _ _) ?_));rw[<-wG a b];grind
 · unfold SN.b0;exact uM (Int.le_refl _) rfl
theorem Q0(l:List e6)(t:vc)(d:Al l.length)(h:Vq t):Iv ((l,()),(t,()))=some (B1 (Gd l t)):=by
 have e:Al (List.length t.2.2.1):=h.2;have g:=BI (S:=Int×Unit) t.2.2.1 (λy=>Di y.1 0 (gS .i64 t.1 1)) (f:=Iv.b0 ((l,()),(t,()))) (λk=>(k,())) (Sum.inl ((t.2.2.1.length:Int),())) (Sum.inr (B1 false)) (λi a=>?_) ?_
 · unfold Iv;refine (bw (Fy t) (DR (bw (mh _ _ _) (Dx (bw (XH l _ d h.1) (Dx (bw (MY l _ d h.1.1) (Dx (Dx (b:=gA (List.length t.2.2.1:Int) (List.length t.2.1:Int)) (c:=t.2.2.1.all (λy=>Di y.1 0 (gS .i64 t.1 1))) (bw g ?_)))))))))).trans ?_;· grind
   · unfold Gd;grind
 · unfold Iv.b0;refine uL (Int.ofNat_lt.2 a) (bw (cB a) (bw (mh _ _ _) ?_));rw[<-wG a e];grind
 · unfold Iv.b0;exact uM (Int.le_refl _) rfl
theorem bt5(l:List e6)(t:vc)(a:Al l.length)(h:Vq t):F87 ((l,()),(t,()))=some (B1 (Gd l t)):=by unfold F87;refine (bw (I9 t) (DR (bw (Tc t _ h) (Dy (bw (MZ l _ a h.1.1) (Dy (bw (XI l _ a h.1.1) rfl))))))).trans ?_;unfold Gd Ks;cases sU t<;>cases Di t.1 1 10000<;>cases nx t.2.1<;>cases gA (List.length t.2.2.1:Int) (List.length t.2.1:Int)<;>cases t.2.2.1.all (λy=>Di y.1 0 (gS .i64 t.1 1))<;>cases Fx l t.2.1<;>cases pv l t.2.1<;>rfl
def M1(t:cp):Bool:=fb t.2.1&&(Di t.2.2.2.1 1 1000000&&(Di t.2.2.2.2.1 0 10000&&(bif gA t.1 1 then fb t.2.2.1 else(Di t.1 2 3&&ko t.2.2.1 ⟨#[]⟩))))
abbrev XOk(t:cp):Prop:=Al t.2.1.size/\Al t.2.2.1.size
theorem IG{l:List cp}(h:(Ty.sl iv).Ok l){t:cp}(a:t∈l):XOk t:=⟨(Ae h.2 a).2.1,(Ae h.2 a).2.2.1⟩
theorem Wz(t:cp)(h:XOk t):QI (t,())=some (B1 (M1 t)):=by
 unfold QI M1;refine bw (A4 _ h.1) (Dx (bw (mh _ _ _) (Dx (bw (mh _ _ _) (Dx ?_)))));cases gA t.1 1;·exact bw (mh _ _ _) Ch
 ·exact bw (A4 _ h.2) rfl
theorem Y2(t:cp)(h:XOk t):OJ (t,())=some (B1 (M1 t)):=by
 unfold OJ M1;refine (bw (u7 _ _ _) (Dx (bw (Ek _ h.1) (Dx (bw (u7 _ _ _) (Dx (bw (u7 _ _ _) (Dx (c:=bif gA t.1 1 then fb t.2.2.1 else ko t.2.2.1 ⟨#[]⟩) ?_)))))))).trans ?_
 · cases gA t.1 1;· rfl
   · exact bw (Ek _ h.2) rfl
 · have e:Di t.1 1 3=(gA t.1 1||Di t.1 2 3):=by simp only[Di,km,gA];grind
   grind
theorem ak0(l:List cp)(h:(Ty.sl iv).Ok l):V5 ((l,()),())=some (B1 (l.all M1)):=by
 have b:Al l.length:=h.1;have c:=BI (S:=Int×Unit) l M1 (f:=V5.b0 ((l,()),())) (λk=>(k,())) (Sum.inl ((l.length:Int),())) (Sum.inr (B1 false)) (λi a=>?_) ?_;·unfold V5;grind
 ·unfold V5.b0;refine uL (Int.ofNat_lt.2 a) (bw (cB a) (bw (Y2 _ (IG h (List.getElem_mem a))) ?_));rw[<-wG a b];grind
 simp_all[V5.b0,cp,uM,bK,OJ,cM]
abbrev an:Type:=vv
def i0(b:an):k0:=(b.2.2.2.2.1,(b.2.2.2.2.2.1,(b.2.2.2.2.2.2.1,())))
def re(b:an):vc:=(b.2.2.2.2.2.2.2.1,(b.2.2.2.2.2.2.2.2.1,(b.2.2.2.2.2.2.2.2.2.1,())))
abbrev po(b:an):List cp:=b.2.2.2.2.2.2.2.2.2.2.1
abbrev hu(b:an):Bool:=b.2.2.2.2.2.2.2.2.2.2.2.1
abbrev p7(b:an):List e6:=b.2.2.2.2.2.2.2.2.2.2.2.2.1
abbrev Ja(b:an):ByteArray:=b.2.2.2.2.2.2.2.2.2.2.2.2.2.1
abbrev Fk(b:an):Prop:=lf.Ok b
theorem Fk.by_{b:an}(h:Fk b):Al b.2.2.2.1.size:=h.2.2.2.1
theorem Fk.qc{b:an}(h:Fk b):Vp (i0 b):=h.2.2.2.2.2.2.1
theorem Fk.tc{b:an}(h:Fk b):Vq (re b):=⟨h.2.2.2.2.2.2.2.2.1,h.2.2.2.2.2.2.2.2.2.1.1⟩
theorem Fk.Fm{b:an}(h:Fk b):(Ty.sl iv).Ok (po b):=h.2.2.2.2.2.2.2.2.2.2.1
theorem Fk.OO{b:an}(h:Fk b):(Ty.sl Fp).Ok (p7 b):=h.2.2.2.2.2.2.2.2.2.2.2.2.1
def Jb(b:an):Bool:=bif hu b then(u9 (p7 b)&&gA ((Ja b).size:Int) 32)else (gA (List.length (p7 b):Int) 0&&ko (Ja b) ⟨#[]⟩)
def gq(b:an):Bool:=Di b.1 0 100000&&(Di b.2.1 0 900&&(Di b.2.2.1 1 10000&&(fb b.2.2.2.1&&(H8 (i0 b) (gS .i64 b.2.2.1 1) (gS .i64 b.1 1)&&(Ks (re b) (gS .i64 b.2.2.1 1)&&(!dO 4 (List.length (po b):Int)&&((po b).all M1&&Jb b)))))))
theorem ak1(b:an)(h:Fk b):VL (b,())=some (B1 (H8 (i0 b) (gS .i64 b.2.2.1 1) (gS .i64 b.1 1))):=by unfold VL H8;exact bw (HL (i0 b)) (DR (bw (mh _ _ _) (Dy (bw (mh _ _ _) (Dy (bw (EU _ h.qc) rfl))))))
theorem ak2(b:an)(h:Fk b):Ly (b,())=some (B1 (Ks (re b) (gS .i64 b.2.2.1 1))):=by
 have c:Al (List.length (re b).2.2.1):=h.tc.2;have d:=BI (S:=Int×Unit) (re b).2.2.1 (λy=>Di y.1 0 (gS .i64 (re b).1 1)) (f:=Ly.b0 (b,())) (λk=>(k,())) (Sum.inl (((re b).2.2.1.length:Int),())) (Sum.inr (B1 false)) (λi a=>?_) ?_;·unfold Ly Ks;refine bw (Fy (re b)) (DR (bw (mh _ _ _) (Dx (bw (EU _ h.tc.1) (Dx ?_)))));refine (Dx (b:=gA (List.length (re b).2.2.1:Int) (List.length (re b).2.1:Int)) (bw d ?_));grind
 ·unfold Ly.b0;refine uL (Int.ofNat_lt.2 a) (bw (cB a) (bw (mh _ _ _) ?_));rw[<-wG a c];exact DU
 ·unfold Ly.b0;exact uM (Int.le_refl _) rfl
theorem Jc(b:an)(h:Fk b):Px (b,())=some (B1 (gq b)):=by
 have c:Al (po b).length:=h.Fm.1;have d:=BI (S:=Int×Unit) (po b) M1 (f:=Px.b0 (b,())) (λk=>(k,())) (Sum.inl (((po b).length:Int),())) (Sum.inr (B1 false)) (λi a=>?_) ?_
 · unfold Px gq;refine bw (mh _ _ _) (Dx (bw (mh _ _ _) (Dx (bw (mh _ _ _) (Dx (bw (A4 _ h.by_) (Dx (bw (ak1 b h) (Dx (bw (ak2 b h) (Dx (DS (bw d ?_)))))))))))));cases (po b).all M1;· rfl
   · unfold Jb;rw[Bool.true_and];dsimp only[cond_true,Sum.elim_inl,hu];cases b.2.2.2.2.2.2.2.2.2.2.2.1;· grind
     · exact bw (XE _ h.OO) Ch
 · unfold Px.b0;refine uL (Int.ofNat_lt.2 a) (bw (cB a) (bw (Wz _ (IG h.Fm (List.getElem_mem a))) ?_));rw[<-wG a c];grind
 · unfold Px.b0;exact uM (Int.le_refl _) rfl
theorem Td(b:an)(h:Fk b):Z5 (b,())=some (B1 (gq b)):=by
 unfold Z5 gq;refine bw (u7 _ _ _) (Dx (bw (u7 _ _ _) (Dx (bw (u7 _ _ _) (Dx (bw (Ek _ h.by_) (Dx (bw (Tb (i0 b) _ _ h.qc) (Dx (bw (Tc (re b) _ h.tc) (Dx (DS (bw (ak0 _ h.Fm) (Dx ?_))))))))))))));unfold Jb;dsimp only[hu];cases b.2.2.2.2.2.2.2.2.2.2.2.1;·grind
 ·exact bw (XF _ h.OO) Ch
theorem Fz(q:k0)(h:W1 (List.length q.2.2.1)):Gr (q,())=some (q,()):=by unfold Gr;exact vP h (by decide) (by decide) rfl
theorem KB(t:vc)(h:W1 (List.length t.2.1))(a:W1 (List.length t.2.2.1)):I0 (t,())=some (t,()):=by unfold I0;exact vP h (by decide) (by decide) (vP a (by decide) (by decide) rfl)
theorem ak3(l:List dT)(h:W1 l.length):Wf ((l,()),())=some ((l,()),()):=by unfold Wf;exact BL l h (by decide) (by decide)
def e8(x:an):Prop:=W1 (List.length (i0 x).2.2.1)/\W1 (List.length (re x).2.1)/\W1 (List.length (re x).2.2.1)/\W1 (List.length (po x))/\W1 (List.length (p7 x))
theorem HM(x:an)(h:e8 x):I2 (x,())=some (x,()):=by unfold I2;exact bw (Fz (i0 x) h.1) (bw (KB (re x) h.2.1 h.2.2.1) (vP h.2.2.2.1 (by decide) (by decide) (vP h.2.2.2.2 (by decide) (by decide) rfl)))
theorem An(xs:List an)(c:W1 xs.length)(d:∀x∈xs,e8 x):Ev ((xs,()),())=some ((xs,()),()):=by
 have e:=BJ (S:=List an×(Int×Unit)) xs (f:=Ev.b0 ((xs,()),())) (λa k=>(a,(k,()))) (Sum.inl (xs,((xs.length:Int),()))) (λi b=>?_) ?_;·unfold Ev;grind
 ·unfold Ev.b0;refine uL (Int.ofNat_lt.2 b) (bw (cB b) (bw (HM _ (d _ (List.getElem_mem b))) (BK b c (by decide) (by decide) ?_)));rw[<-wG b c.l];rfl
 ·unfold Ev.b0;exact uM (Int.le_refl _) rfl
abbrev HC:Type:=Sd
abbrev D1(p:HC):List an:=p.2.1
def pQ(p:HC):k0:=(p.2.2.1,(p.2.2.2.1,(p.2.2.2.2.1,())))
def HN(x:HC):Prop:=W1 (List.length (D1 x))/\(∀y∈D1 x,e8 y)/\W1 (List.length (pQ x).2.2.1)
theorem Te(x:HC)(h:HN x):VK (x,())=some (x,()):=by unfold VK;exact bw (An _ h.1 h.2.1) (bw (Fz (pQ x) h.2.2) rfl)
theorem M3(l:List an)(g:an->Option (Bool×Unit))(p:an->Bool)(h:∀x,g x=some (p x,()))(d:Al l.length):Wa ((l,()),((g,()),()))=some (I1 (nY l p)):=by
 have e:=Ck (S:=Int×Unit) l p (f:=Wa.b0 ((l,()),((g,()),()))) (λk=>(k,())) (Sum.inl ((l.length:Int),())) (λi=>Sum.inr (I1 i)) (λi a=>?_) ?_;·unfold Wa;refine bw e ?_;rcases mA l p with⟨c,_,b⟩|⟨j,m,_,_,c,_,b⟩<;>rw[c,b]<;>rfl
 ·unfold Wa.b0;refine uL (Int.ofNat_lt.2 a) (bw (cB a) (bw (h _) ?_));rw[<-wG a d]
 simp_all[Wa.b0,vv,an,uM,bK,cM]
abbrev ao:Type:=Fq
abbrev bb(n:ao):List HC:=n.2.2.2.2.2.2.2.2.2.2.2.2.2.2.2.2.2.2.2.1
def ct(l:List bm):Prop:=W1 l.length/\∀a∈l,W1 (List.length a.2.2.2.2.1)
theorem G0(xs:List bm)(h:ct xs):GU ((xs,()),())=some ((xs,()),()):=by
 have c:=h.1;have d:=BJ (S:=List bm×(Int×Unit)) xs (f:=GU.b0 ((xs,()),())) (λa k=>(a,(k,()))) (Sum.inl (xs,((xs.length:Int),()))) (λi b=>?_) ?_;·unfold GU;grind
 ·unfold GU.b0;refine uL (Int.ofNat_lt.2 b) (bw (cB b) (vP (h.2 _ (List.getElem_mem b)) (by decide) (by decide) (BK b c (by decide) (by decide) ?_)));rw[<-wG b c.l];rfl
 ·unfold GU.b0;exact uM (Int.le_refl _) rfl
theorem kb(x:ek)(h:ct x.2.1):Fj (x,())=some (x,()):=bw (G0 _ h) rfl
theorem Tf(xs:List bm)(h:ct xs):LQ ((xs,()),())=some ((xs,()),()):=by
 have c:=h.1;have d:=BJ (S:=List bm×(Int×Unit)) xs (f:=LQ.b0 ((xs,()),())) (λa k=>(a,(k,()))) (Sum.inl (xs,((xs.length:Int),()))) (λi b=>?_) ?_;·unfold LQ;grind
 ·unfold LQ.b0;refine uL (Int.ofNat_lt.2 b) (bw (cB b) (bw (ak3 _ (h.2 _ (List.getElem_mem b))) (BK b c (by decide) (by decide) ?_)));rw[<-wG b c.l];rfl
 ·unfold LQ.b0;exact uM (Int.le_refl _) rfl
theorem FP(x:ek)(h:ct x.2.1):LR (x,())=some (x,()):=bw (Tf _ h) rfl
def Y3:ao:=(⟨#[]⟩,(0,(0,([],([],([],(0,(0,(0,(0,([],(0,([],([],(0,([],([],([],([],([],()))))))))))))))))))))
def m9(name:ByteArray)(x:ek):ao:=bif fb name&&bk x then(name,(x.1,(x.1,(x.2.1,(va x.2.1,([],(1,(0,(0,(-1,([],(0,([],([],(0,([],([],([],([],([],()))))))))))))))))))))else Y3
theorem Q1(name:ByteArray)(x:ek)(a:Al name.size)(b:(Ty.sl cf).Ok x.2.1)(h:ct x.2.1):VF ((name,()),(x,()))=some (m9 name x,()):=by unfold VF m9;refine (bw (A4 _ a) (DT (bw (mw x b) (Dz (bw (kb x h) (bw (S9 x h.1) rfl)))))).trans ?_;cases fb name&&bk x<;>rfl
abbrev ee:Type:=H6
def Y4:ee:=(0,([],([],([],([],([],([],())))))))
def L2(x:ek)(bF:List D9):List ao:=x.2.1.foldl (λs a=>bif !ke bF a.1 then s++([m9 a.1 x]:List ao)else s) []
def FQ(x:ek)(bF:List D9):ee:=bif bk x&&nx bF then(x.1,(x.2.1,(bF,(L2 x bF,([],([],([],())))))))else Y4
theorem Q2(x:ek)(bF:List D9):L2 x bF=(x.2.1.filter (λa=>!ke bF a.1)).map (λa=>m9 a.1 x):=by
 have :∀(xs:List bm)(s:List ao),xs.foldl (λs a=>bif !ke bF a.1 then s++([m9 a.1 x]:List ao)else s) s=s++(xs.filter (λa=>!ke bF a.1)).map (λa=>m9 a.1 x):=by intro xs;induction xs with|nil=>grind|cons a r b=>grind
 have h:=this x.2.1 [];rw[List.nil_append]at h;exact h
theorem PC{A:Type}{s t:List A}{i:Nat}(h:s.length<=i)(b:Bool)(a:t.length=1):(bif b then s++t else s).length<=i+1:=by grind
theorem OP(x:ek)(bF:List D9)(d:(Ty.sl e9).Ok bF)(e:W1 bF.length)(c:(Ty.sl cf).Ok x.2.1)(h:ct x.2.1):VG (x,((bF,()),()))=some (FQ x bF,()):=by
 have k:=xL (S:=Int×(List ao×Unit)) (f:=VG.b0 (x,((bF,()),()))) x.2.1 (λs a=>bif !ke bF a.1 then s++([m9 a.1 x]:List ao) else s) (λi s=>s.length<=i) (λa i=>(i,(a,()))) (λa=>Sum.inl ((x.2.1.length:Int),(a,()))) [] (Nat.le_refl _) (λi b a m=>⟨?_,PC m _ rfl⟩) (λa _=>?_);·unfold VG FQ;refine (bw (mw x c) (DT (bw (EU _ d) (Dz (g:=some ((x.1,(x.2.1,(bF,(L2 x bF,([],([],([],()))))))),())) (bw (kb x h) (vP e (by decide) (by decide) (bw k.1 rfl))))))).trans ?_;cases bk x&&nx bF<;>rfl
 ·unfold VG.b0;refine uL (Int.ofNat_lt.2 b) (bw (cB b) (bw (I5 _ _ d.1) ?_));rw[<-wG b h.1.l];dsimp only;cases ke bF x.2.1[i].1 with|true=>rfl|false=>have j:Wv x.2.1[i]:=Ae c.2 (List.getElem_mem b);have o:=h.1;exact bw (cB b) (bw (Q1 _ x j.1 c h) (Cm (n:=a.length+1) (by omega) (by decide) (by decide) rfl))
 ·unfold VG.b0;exact uM (Int.le_refl _) rfl
def sF{A:Type}(eq:A->A->Bool)(xs ys:List A):Bool:=gA (xs.length:Int) (ys.length:Int)&&iK (λi x=>match ys[i]? with|some y=>eq x y|none=>true) 0 xs
theorem sX{A:Type}{xs ys:List A}{eq:A->A->Bool}{f:Int×Unit->Option (Sum (Int×Unit) (Sum (Int×Unit) ((Bool×Unit)×Unit)))}(c:Al xs.length)(b:∀i (h:i<xs.length) (g:i<ys.length),f ((i:Int),())=bif eq xs[i] ys[i] then some (.inl (cM .i64 (i:Int) 1,()))else some (.inr (.inr (B1 false))))(d:f ((xs.length:Int),())=some (.inr (.inl ((xs.length:Int),())))):(bif !gA (xs.length:Int) (ys.length:Int)then some (B1 false)else (aR f ((0:Int),())).bind λr=>Sum.elim (λ_=>some (B1 true)) some r)=some (B1 (sF eq xs ys)):=by unfold sF;cases l:gA (xs.length:Int) (ys.length:Int) with|false=>rfl|true=>
 have e:xs.length=ys.length:=by grind[gA]
 have j:=yW (S:=Int×Unit) xs (λi x=>match ys[i]? with|some y=>eq x y|none=>true) (f:=f) (λk=>(k,())) (Sum.inl ((xs.length:Int),())) (Sum.inr (B1 false)) (λi a=>?_) d;·grind
 ·rw[b i a (by omega),List.getElem?_eq_getElem (show i<ys.length by omega),wG a c]
theorem FT{A:Type}{eq:A->A->Bool}(f:∀a b,eq a b=true↔a=b){xs ys:List A}:sF eq xs ys=true↔xs=ys:=by
 unfold sF;simp only[Bool.and_eq_true];constructor
 · rintro⟨d,m⟩;have c:xs.length=ys.length:=by grind[gA]
   refine List.ext_getElem c (λi d g=>?_);grind[xJ]
 · rintro rfl;refine⟨nV _,?_⟩;have :∀(p:Nat->A->Bool)(k:Nat)(l:List A),(∀i (h:i<l.length),p (k+i) l[i]=true)->iK p k l=true:=by intro p k l;induction l generalizing k with|nil=>intro _;rfl|cons x r e=>intro h;simp only[iK,Bool.and_eq_true];refine⟨h 0 (Nat.zero_lt_succ _),e (k+1) (λi j=>?_)⟩;have :=h (i+1) (by grind);grind
   grind
def Kt(x y:cp):Bool:=(gA x.1 y.1)&&((ko x.2.1 y.2.1)&&((ko x.2.2.1 y.2.2.1)&&((gA x.2.2.2.1 y.2.2.2.1)&&(gA x.2.2.2.2.1 y.2.2.2.2.1))))
def Ge(x y:e6):Bool:=(ko x.1 y.1)&&(gA x.2.1 y.2.1)
def G1(a b:k0):Bool:=gA a.1 b.1&&(gA a.2.1 b.2.1&&sF (λx y=>ko x.1 y.1) a.2.2.1 b.2.2.1)
def FU(a b:vc):Bool:=gA a.1 b.1&&(sF (λx y=>ko x.1 y.1) a.2.1 b.2.1&&sF (λx y=>gA x.1 y.1) a.2.2.1 b.2.2.1)
def p8(a b:an):Bool:=gA a.1 b.1&&(gA a.2.1 b.2.1&&(gA a.2.2.1 b.2.2.1&&(ko a.2.2.2.1 b.2.2.2.1&&(G1 (i0 a) (i0 b)&&(FU (re a) (re b)&&(sF Kt (po a) (po b)&&(wo (hu a) (hu b)&&(sF Ge (p7 a) (p7 b)&&ko (Ja a) (Ja b)))))))))
theorem PD(xs ys:List D9)(b:Al xs.length):LJ ((xs,()),((ys,()),()))=some (B1 (sF (λx y=>ko x.1 y.1) xs ys)):=by
 unfold LJ;refine sX b (λi h a=>?_) ?_;·unfold LJ.b0;exact uL (Int.ofNat_lt.2 h) (bw (cB h) (bw (cB a) DU))
 simp_all[LJ.b0,D9,uM,bK,ko,cM]
theorem Tg(xs ys:List cp)(b:Al xs.length):MQ ((xs,()),((ys,()),()))=some (B1 (sF Kt xs ys)):=by
 unfold MQ;refine sX b (λi h a=>?_) ?_;·unfold MQ.b0 Kt;exact uL (Int.ofNat_lt.2 h) (bw (cB h) (bw (cB a) DU))
 ·unfold MQ.b0;exact uM (Int.le_refl _) rfl
theorem PE(xs ys:List e6)(b:Al xs.length):LD ((xs,()),((ys,()),()))=some (B1 (sF Ge xs ys)):=by
 unfold LD;refine sX b (λi h a=>?_) ?_;·unfold LD.b0 Ge;exact uL (Int.ofNat_lt.2 h) (bw (cB h) (bw (cB a) DU))
 ·unfold LD.b0;exact uM (Int.le_refl _) rfl
theorem XJ(xs ys:List D9)(b:Al xs.length):LP ((xs,()),((ys,()),()))=some (B1 (sF (λx y=>ko x.1 y.1) xs ys)):=by
 unfold LP;refine sX b (λi h a=>?_) ?_;·unfold LP.b0;exact uL (Int.ofNat_lt.2 h) (bw (cB h) (bw (cB a) DU))
 simp_all[LP.b0,D9,uM,bK,ko,cM]
theorem ak4(xs ys:List D3)(b:Al xs.length):Py ((xs,()),((ys,()),()))=some (B1 (sF (λx y=>gA x.1 y.1) xs ys)):=by
 unfold Py;refine sX b (λi h a=>?_) ?_;·unfold Py.b0;exact uL (Int.ofNat_lt.2 h) (bw (cB h) (bw (cB a) DU))
 simp_all[Py.b0,D3,uM,bK,gA,cM]
theorem Y5(xs ys:List cp)(b:Al xs.length):MS ((xs,()),((ys,()),()))=some (B1 (sF Kt xs ys)):=by
 unfold MS;refine sX b (λi h a=>?_) ?_;·unfold MS.b0 Kt;exact uL (Int.ofNat_lt.2 h) (bw (cB h) (bw (cB a) DU))
 ·unfold MS.b0;exact uM (Int.le_refl _) rfl
theorem ak5(xs ys:List e6)(b:Al xs.length):MT ((xs,()),((ys,()),()))=some (B1 (sF Ge xs ys)):=by
 unfold MT;refine sX b (λi h a=>?_) ?_;·unfold MT.b0 Ge;exact uL (Int.ofNat_lt.2 h) (bw (cB h) (bw (cB a) DU))
 ·unfold MT.b0;exact uM (Int.le_refl _) rfl
theorem Th(a b:k0)(h:Vp a):YF (a,(b,()))=some (B1 (G1 a b)):=Dy (Dy (bw (PD _ _ h.1) rfl))
theorem Ti(a b:vc)(h:Vq a):MP (a,(b,()))=some (B1 (FU a b)):=by
 unfold MP FU;refine Dx (bw (PD _ _ h.1.1) (Dx ?_));refine sX h.2 (λi h c=>?_) ?_;·unfold MP.b0;exact uL (Int.ofNat_lt.2 h) (bw (cB h) (bw (cB c) DU))
 ·unfold MP.b0;exact uM (Int.le_refl _) rfl
theorem KC(a b:an)(h:Fk a):QO (a,(b,()))=some (B1 (p8 a b)):=by unfold QO p8;exact Dy (Dy (Dy (Dy (bw (Th (i0 a) (i0 b) h.qc) (Dy (bw (Ti (re a) (re b) h.tc) (Dy (bw (Tg _ _ h.Fm.1) (Dy (Dy (bw (PE _ _ h.OO.1) Ch)))))))))))
theorem Tj(a b:k0)(h:Vp a):YI (a,(b,()))=some (B1 (G1 a b)):=Dy (Dy (bw (XJ _ _ h.1) rfl))
theorem Tk(a b:vc)(h:Vq a):YJ (a,(b,()))=some (B1 (FU a b)):=Dy (bw (XJ _ _ h.1.1) (Dy (bw (ak4 _ _ h.2) rfl)))
theorem Q3(a b:an)(h:Fk a):F90 (a,(b,()))=some (B1 (p8 a b)):=by unfold F90;refine (Dx (Dx (Dx (Dx (Dx (b:=wo (hu a) (hu b)) (Dx (b:=ko (Ja a) (Ja b)) (bw (Tj (i0 a) (i0 b) h.qc) (Dy (bw (Tk (re a) (re b) h.tc) (Dy (bw (Y5 _ _ h.Fm.1) (Dy (bw (ak5 _ _ h.OO.1) rfl))))))))))))).trans ?_;unfold p8;grind
def sH(a b:cp):Bool:=bif !ko a.2.1 b.2.1 then ob a.2.1 b.2.1 else bif !gA a.2.2.2.2.1 b.2.2.2.2.1 then dO a.2.2.2.2.1 b.2.2.2.2.1 else bif !gA a.1 b.1 then dO a.1 b.1 else bif !ko a.2.2.1 b.2.2.1 then ob a.2.2.1 b.2.2.1 else dO a.2.2.2.1 b.2.2.2.1
def Ey(lt eq:Bool):Int:=bif eq then 0 else bif lt then-1 else 1
theorem GA{a b:ByteArray}(h:ko a b=true):ob a b=false:=by unfold ko at h;grind[ob,nX]
theorem Jd{a b:Int}(h:gA a b=true):dO a b=false:=by grind[gA,dO,dD]
def KD(a b:cp):Int:=bif !ko a.2.1 b.2.1 then Ey (ob a.2.1 b.2.1) false else bif !gA a.2.2.2.2.1 b.2.2.2.2.1 then Ey (dO a.2.2.2.2.1 b.2.2.2.2.1) false else bif !gA a.1 b.1 then Ey (dO a.1 b.1) false else bif !ko a.2.2.1 b.2.2.1 then Ey (ob a.2.2.1 b.2.2.1) false else Ey (dO a.2.2.2.1 b.2.2.2.1) (gA a.2.2.2.1 b.2.2.2.1)
theorem Tl(a b:cp):dO (KD a b) 0=sH a b:=by grind[dO,KD,sH,ko,Ey,ob,gA,Jd]
theorem M4(a b:cp):SC (a,(b,()))=some (B1 (sH a b)):=by unfold SC sH;grind
theorem Tn(a b:ByteArray):SP ((a,()),((b,()),()))=some (I1 (Ey (ob a b) (ko a b))):=by
 have d:∀c:ByteArray,SO ((c,()),())=some (B1 false):=λc=>by simp_all[SO,B1,ko,xD]
 unfold SP Ey;refine bw (d a) (bw (d b) ?_);dsimp only;cases h:ko a b with|true=>rw[GA h];rfl|false=>grind
theorem OQ(a b:Int):QR ((a,()),((b,()),()))=some (I1 (Ey (dO a b) (gA a b))):=by
 have d:∀c:Int,SQ ((c,()),())=some (B1 false):=λc=>by simp_all[SQ,B1,gA,nV]
 unfold QR Ey;refine bw (d a) (bw (d b) ?_);dsimp only;cases h:gA a b with|true=>simp_all[dO,I1,Jd,gA,dD]|false=>cases e:dO a b with|true=>rfl|false=>
 have :dO b a=true:=by grind[dO,gA]
 grind
theorem ak6(l:List D3)(b:Al l.length):LN ((l,()),())=some (match l.find? (λx=>!gA x.1 0)with|some x=>(x,())|none=>I1 0):=by
 have c:=AH (S:=Int×Unit) l (λx=>!gA x.1 0) (f:=LN.b0 ((l,()),())) (λk=>(k,())) (Sum.inl ((l.length:Int),())) (λx=>Sum.inr (x,())) (λi a=>?_) ?_;·unfold LN;grind
 ·unfold LN.b0;refine uL (Int.ofNat_lt.2 a) (bw (cB a) ?_);rw[<-wG a b]
 simp_all[LN.b0,D3,uM,bK,gA,cM]
theorem G2{v:Int}{lt eq:Bool}{r:List (Int×Unit)}(h:eq=true->lt=false):(match ((Ey lt eq,())::r).find? (λx=>!gA x.1 0)with|some x=>((x,()):(Int×Unit)×Unit)|none=>I1 0)=bif !eq then I1 (Ey lt false)else (match r.find? (λx=>!gA x.1 0)with|some x=>(x,())|none=>I1 0):=by cases eq with|true=>simp_all[gA,Ey,I1]|false=>cases lt<;>(simp_all[gA,Ey,I1])
theorem WA(a b:cp):V6 (a,(b,()))=some (I1 (KD a b)):=by unfold V6;refine bw (Tn _ _) (bw (OQ _ _) (bw (OQ _ _) (bw (Tn _ _) (bw (OQ _ _) (bw (ak6 _ (show (5:Nat)<=9223372036854775807 by decide)) ?_)))));refine congrArg some ?_;refine Eq.trans (b:=(match ([(Ey (ob a.2.1 b.2.1) (ko a.2.1 b.2.1),()),(Ey (dO a.2.2.2.2.1 b.2.2.2.2.1) (gA a.2.2.2.2.1 b.2.2.2.2.1),()),(Ey (dO a.1 b.1) (gA a.1 b.1),()),(Ey (ob a.2.2.1 b.2.2.1) (ko a.2.2.1 b.2.2.1),()),(Ey (dO a.2.2.2.1 b.2.2.2.1) (gA a.2.2.2.1 b.2.2.2.1),())]:List (Int×Unit)).find? (λx=>!gA x.1 0)with|some x=>((x,()):(Int×Unit)×Unit)|none=>I1 0)) rfl ?_;rw[G2 (v:=0) GA,G2 (v:=0) Jd,G2 (v:=0) Jd,G2 (v:=0) GA,G2 (v:=0) Jd];unfold KD;cases ko a.2.1 b.2.1<;>cases gA a.2.2.2.2.1 b.2.2.2.2.1<;>cases gA a.1 b.1<;>cases ko a.2.2.1 b.2.2.1<;>cases gA a.2.2.2.1 b.2.2.2.1<;>rfl
theorem To(a b:cp):V7 (a,(b,()))=some (B1 (sH a b)):=by unfold V7;refine bw (WA a b) ?_;rw[<-Tl]
def G3(xs:List cp)(i:Nat)(y:cp):Bool:=M1 y&&lO sH xs i y
def rS(xs:List cp):Bool:=iK (G3 xs) 0 xs&&km (xs.length:Int) 20
theorem OR(xs:List cp)(c:(Ty.sl iv).Ok xs):I3 ((xs,()),())=some (B1 (rS xs)):=by
 have b:Al xs.length:=c.1;have d:=yW (S:=Int×Unit) xs (G3 xs) (f:=I3.b0 ((xs,()),())) (λk=>(k,())) (Sum.inl ((xs.length:Int),())) (Sum.inr (B1 false)) (λi a=>?_) ?_;·unfold I3 rS;grind
 ·unfold I3.b0 G3;refine uL (Int.ofNat_lt.2 a) (bw (cB a) (bw (Wz _ (IG c (List.getElem_mem a))) (DT ?_)));rw[<-wG a b];exact BD a b (λz=>bw (cB a) (bw (M4 _ _) DU))
 ·unfold I3.b0;exact uM (Int.le_refl _) rfl
theorem Y6(xs:List cp)(c:(Ty.sl iv).Ok xs):SR ((xs,()),())=some (B1 (rS xs)):=by
 have b:Al xs.length:=c.1;have d:=yW (S:=Int×Unit) xs (G3 xs) (f:=SR.b0 ((xs,()),())) (λk=>(k,())) (Sum.inl ((xs.length:Int),())) (Sum.inr (B1 false)) (λi a=>?_) ?_;·unfold SR rS;grind
 ·unfold SR.b0 G3;refine uL (Int.ofNat_lt.2 a) (bw (cB a) (bw (Y2 _ (IG c (List.getElem_mem a))) (DT ?_)));rw[<-wG a b];exact BD a b (λz=>bw (To _ _) DU)
 ·unfold SR.b0;exact uM (Int.le_refl _) rfl
def L3(l:List an):Int:=match l with|b::_=>b.2.1|[]=>0
theorem M5{l:List an}{i:Nat}(h:i<l.length):∃b,bK l 0=some b/\b.2.1=L3 l:=by cases l with|nil=>grind|cons b r=>exact⟨b,rfl,rfl⟩
def w0(a:List an)(b:an):Bool:=match a.find? (λz=>gA z.1 (i0 b).2.1)with|some z=>gA z.2.2.1 (i0 b).1|none=>false
def E9(l:List an)(i:Nat)(b:an):Bool:=gq b&&(gA b.2.1 (L3 l)&&lO (λz y=>dO z.1 y.1) l i b)
def A6(l:List an):Bool:=iK (λi b=>E9 l i b&&(ks (i0 b)||w0 (l.take i) b)) 0 l&&km (l.length:Int) 400
theorem KE{b:an}(h:gq b=true)(c:ks (i0 b)=false):0<=(i0 b).2.1/\(i0 b).2.1<b.1:=by
 unfold gq H8 at h;simp only[Bool.and_eq_true]at h;have d:Di b.1 0 100000=true:=h.1;have a:=h.2.2.2.2.1;rw[c,Bool.false_or]at a;simp only[Bool.and_eq_true]at a;have f:0<=b.1/\b.1<=100000:=by simpa[Di,km]using d
 have e:0<=(i0 b).2.1/\(i0 b).2.1<=gS .i64 b.1 1:=by simpa[Di,km]using a.2.1
 rw[iz (by omega) (by omega)]at e;omega
theorem Je(l:List an):iK (λi b=>E9 l i b&&(ks (i0 b)||w0 (l.take i) b)) 0 l=iK (λi b=>E9 l i b&&(ks (i0 b)||w0 l b)) 0 l:=by rw[xK,xK];cases a:iK (λi b=>E9 l i b) 0 l with|false=>rfl|true=>
 rw[Bool.true_and,Bool.true_and];have a:=λi c=>by have :=xJ a i c;rw[Nat.zero_add]at this;unfold E9 at this;simp only[Bool.and_eq_true]at this;exact this
 refine tT (λi b n=>?_);obtain⟨c,rfl⟩:=List.getElem?_eq_some_iff.1 n;rw[Nat.zero_add];cases h:ks (i0 l[i]) with|true=>rfl|false=>
 rw[Bool.false_or,Bool.false_or];have r:=KE (a i c).1 h;have d:(l.drop i).find? (λz=>gA z.1 (i0 l[i]).2.1)=none:=by rw[List.find?_eq_none];intro z g;obtain⟨k,o,rfl⟩:=List.getElem_of_mem g;rw[List.length_drop]at o;have :=Am (f:=λb:an=>b.1) (l:=l) (λj m=>(a j m).2.2) k i (by omega);rw[List.getElem_drop];have this:l[i].1<=l[i+k].1:=this;simp only[gA,decide_eq_true_eq];omega
 unfold w0;have :l.find? (λz=>gA z.1 (i0 l[i]).2.1)=(l.take i).find? (λz=>gA z.1 (i0 l[i]).2.1):=by generalize (i0 l[i]).2.1=q at d⊢;have e:=List.find?_append (p:=λz:an=>gA z.1 q) (xs:=l.take i) (ys:=l.drop i);rw[List.take_append_drop,d]at e;grind
 grind
def n8(l:List an)(a:Int):Int:=nY l (λb=>gA b.1 a)
theorem w4(l:List an)(a:Int)(g:Al l.length):Gt ((l,()),((a,()),()))=some (I1 (n8 l a)):=by
 have h:=Ck (S:=Int×Unit) l (λb=>gA b.1 a) (f:=Gt.b0 ((l,()),((a,()),()))) (λk=>(k,())) (Sum.inl ((l.length:Int),())) (λi=>Sum.inr (I1 i)) (λi c=>?_) ?_;·unfold Gt n8;refine bw h ?_;rcases mA l (λb=>gA b.1 a) with⟨e,_,d⟩|⟨j,m,_,_,e,_,d⟩<;>rw[e,d]<;>rfl
 ·unfold Gt.b0;refine uL (Int.ofNat_lt.2 c) (bw (cB c) ?_);rw[<-wG c g]
 ·unfold Gt.b0;exact uM (Int.le_refl _) rfl
theorem L4(l:List an)(h:(Ty.sl lf).Ok l):HG ((l,()),())=some (B1 (A6 l)):=by
 have e:Al l.length:=h.1;have q:=yW (S:=Int×Unit) l (λi b=>E9 l i b&&(ks (i0 b)||w0 (l.take i) b)) (f:=HG.b0 ((l,()),())) (λk=>(k,())) (Sum.inl ((l.length:Int),())) (Sum.inr (B1 false)) (λi a=>?_) ?_;·unfold HG A6;grind
 · unfold HG.b0 E9;have o:Fk l[i]:=Ae h.2 (List.getElem_mem a);obtain⟨r,g,m⟩:=M5 a;refine uL (Int.ofNat_lt.2 a) (bw (cB a) (Ci (bw (Jc _ o) (DT (bw g ?_))) (bw (HL (i0 l[i])) ?_)));· rw[<-m];refine DT (BD a e (λz=>CG))
   · rw[<-wG a e];dsimp only;cases ks (i0 l[i]) with|true=>rfl|false=>
  refine CJ (by omega) ?_;rw[BM];refine bw (w4 _ _ (by grind)) ?_;unfold n8 w0;rcases mA (l.take i) (λz=>gA z.1 (i0 l[i]).2.1) with⟨_,d,c⟩|⟨j,p,_,_,_,d,c⟩;· rw[d,show nY (l.take i) (λb=>gA b.1 l[i].2.2.2.2.2.1)=-1 from c];rfl
  · rw[d,show nY (l.take i) (λb=>gA b.1 l[i].2.2.2.2.2.1)=(j:Int) from c];have n:j<l.length:=by grind
    rw[List.getElem_take];exact xM (Int.natCast_nonneg j) (bw (cB n) DU)
 · unfold HG.b0;exact uM (Int.le_refl _) rfl
theorem WB(l:List an)(a:Int)(c:Al l.length):Wb ((l,()),((a,()),()))=some (I1 (n8 l a)):=by unfold Wb n8;exact bw (M3 l _ (λb=>gA b.1 a) (λx=>rfl) c) rfl
theorem Y7(l:List an)(h:(Ty.sl lf).Ok l):Wc ((l,()),())=some (B1 (A6 l)):=by
 have e:Al l.length:=h.1;have o:=yW (S:=Int×Unit) l (λi b=>E9 l i b&&(ks (i0 b)||w0 l b)) (f:=Wc.b0 ((l,()),())) (λk=>(k,())) (Sum.inl ((l.length:Int),())) (Sum.inr (B1 false)) (λi a=>?_) ?_;·unfold Wc A6;refine bw o ?_;rw[Je];grind
 · unfold Wc.b0 E9;have p:Fk l[i]:=Ae h.2 (List.getElem_mem a);obtain⟨q,g,m⟩:=M5 a;refine uL (Int.ofNat_lt.2 a) (bw (cB a) (Ci (bw (Td _ p) (DT (bw g ?_))) (bw (I8 (i0 l[i])) ?_)));· rw[<-m];refine DT (BD a e (λz=>CG))
   · rw[<-wG a e];dsimp only;cases ks (i0 l[i]) with|true=>rfl|false=>
  refine bw (WB _ _ e) ?_;unfold n8 w0;rcases mA l (λz=>gA z.1 (i0 l[i]).2.1) with⟨_,d,c⟩|⟨j,n,_,_,_,d,c⟩;· rw[d,show nY l (λb=>gA b.1 l[i].2.2.2.2.2.1)=-1 from c];rfl
  · rw[d,show nY l (λb=>gA b.1 l[i].2.2.2.2.2.1)=(j:Int) from c];exact xM (Int.natCast_nonneg j) (bw (cB n) DU)
 · unfold Wc.b0;exact uM (Int.le_refl _) rfl
abbrev ft(n:ao):ek:=(n.2.2.1,(n.2.2.2.1,()))
abbrev ar(n:ao):List e6:=n.2.2.2.2.1
abbrev ag(n:ao):List an:=n.2.2.2.2.2.1
abbrev ad(n:ao):Int:=n.2.2.2.2.2.2.1
abbrev fl(n:ao):Int:=n.2.2.2.2.2.2.2.1
def bx(n:ao):k0:=(n.2.2.2.2.2.2.2.2.1,(n.2.2.2.2.2.2.2.2.2.1,(n.2.2.2.2.2.2.2.2.2.2.1,())))
def Fa(n:ao):vc:=(n.2.2.2.2.2.2.2.2.2.2.2.1,(n.2.2.2.2.2.2.2.2.2.2.2.2.1,(n.2.2.2.2.2.2.2.2.2.2.2.2.2.1,())))
abbrev L5(n:ao):Int:=n.2.2.2.2.2.2.2.2.2.2.2.2.2.2.1
abbrev ec(n:ao):List u6:=n.2.2.2.2.2.2.2.2.2.2.2.2.2.2.2.1
abbrev ei(n:ao):List sd:=n.2.2.2.2.2.2.2.2.2.2.2.2.2.2.2.2.1
abbrev j9(n:ao):List D3:=n.2.2.2.2.2.2.2.2.2.2.2.2.2.2.2.2.2.1
abbrev nr(n:ao):List cp:=n.2.2.2.2.2.2.2.2.2.2.2.2.2.2.2.2.2.2.1
abbrev Ez(n:ao):Prop:=Ln.Ok n
theorem Ez.base{n:ao}(h:Ez n):(Ty.sl cf).Ok (ft n).2.1:=h.2.2.2.1
theorem Ez.set{n:ao}(h:Ez n):(Ty.sl Fp).Ok (ar n):=h.2.2.2.2.1
theorem Ez.kA{n:ao}(h:Ez n):(Ty.sl lf).Ok (ag n):=h.2.2.2.2.2.1
theorem Ez.Y8{n:ao}(h:Ez n):Vp (bx n):=h.2.2.2.2.2.2.2.2.2.2.1
theorem Ez.tcs{n:ao}(h:Ez n):Vq (Fa n):=⟨h.2.2.2.2.2.2.2.2.2.2.2.2.1,h.2.2.2.2.2.2.2.2.2.2.2.2.2.1.1⟩
theorem Ez.kB{n:ao}(h:Ez n):(Ty.sl iv).Ok (nr n):=h.2.2.2.2.2.2.2.2.2.2.2.2.2.2.2.2.2.2.1
def KF(l:List an)(a:Int):Bool:=match l with|b::_=>gA b.2.1 a|[]=>true
def Gf(n:ao):Bool:=fb n.1&&(bk (ft n)&&(gA (ft n).1 n.2.1&&(rS (nr n)&&((!dO 0 (List.length (ar n):Int)||u9 (ar n))&&(A6 (ag n)&&(KF (ag n) n.2.1&&(Di (ad n) 1 10000&&(dO (bx n).1 (ad n)&&(dO (Fa n).1 (ad n)&&(Di (fl n) 0 10000&&(Di (L5 n) 0 10000&&(C5 (ar n) (bx n)&&(Gd (ar n) (Fa n)&&(km (List.length (ec n):Int) 1000&&(km (List.length (ei n):Int) 1000&&(km (List.length (j9 n):Int) 200&&km (List.length (bb n):Int) 200))))))))))))))))
theorem WC{l:List an}{a:Int}{R:Type}{g x:Option R}:(bif dO 0 (l.length:Int)then(bK l 0).bind (λb=>bif !gA b.2.1 a then x else g)else g)=bif KF l a then g else x:=by cases l with|nil=>rfl|cons b r=>exact (uL (by simp) (bw rfl DU))
theorem Y9(n:ao)(h:Ez n):Wi (n,())=some (B1 (Gf n)):=by
 unfold Wi Gf;have a:∀R (g x:Option R),((HG ((ag n,()),())).bind λy=>bif !y.1.1 then x else (bif dO 0 (List.length (ag n):Int)then (bK (ag n) 0).bind (λb=>bif !gA b.2.1 n.2.1 then x else g)else g))=bif (A6 (ag n)&&KF (ag n) n.2.1) then g else x:=λR g x=>bw (L4 _ h.kA) (DT WC);refine (BH (b:=fb n.1&&(bk (ft n)&&(gA (ft n).1 n.2.1&&(rS (nr n)&&((!dO 0 (List.length (ar n):Int)||u9 (ar n))&&(A6 (ag n)&&KF (ag n) n.2.1)))))) (bw (A4 _ h.1) (DT (bw (mw (ft n) h.base) (DT (DT (bw (OR _ h.kB) (DT ?_))))))) (bw (mh _ _ _) (Dy (Dy (b:=dO (bx n).1 (ad n)) (Dy (b:=dO (Fa n).1 (ad n)) (bw (mh _ _ _) (Dy (bw (mh _ _ _) (Dy (bw (ON _ (bx n) h.set.1 h.Y8) (Dy (bw (Q0 _ (Fa n) h.set.1 h.tcs) (Dy (Dy (b:=km (List.length (ec n):Int) 1000) (Dy (b:=km (List.length (ei n):Int) 1000) (Ch (b:=km (List.length (j9 n):Int) 200) (c:=km (List.length (bb n):Int) 200))))))))))))))))).trans ?_;·refine Eq.trans ?_ (Dj (c:=dO 0 (List.length (ar n):Int)) (s:=u9 (ar n)) (a _ _ _));cases dO 0 (List.length (ar n):Int) with|false=>rfl|true=>exact (congrArg (λo=>Option.bind o _) (XE _ h.set)).trans rfl
 grind
theorem Za(n:ao)(h:Ez n):F39 (n,())=some (B1 (Gf n)):=by
 unfold F39;refine (BH (b:=fb n.1&&(bk (ft n)&&(gA (ft n).1 n.2.1&&((!dO 0 (List.length (ar n):Int)||u9 (ar n))&&rS (nr n))))) (bw (Ek _ h.1) (DT (bw (A5 (ft n) h.base) (DT (DT ?_))))) (bw (u7 _ _ _) (Dx (bw (u7 _ _ _) (Dx (bw (u7 _ _ _) (Dx (bw (bt4 _ (bx n) h.set.1 h.Y8) (Dx (bw (bt5 _ (Fa n) h.set.1 h.tcs) (Dx (DS (b:=km (ad n) (bx n).1) (DS (b:=km (ad n) (Fa n).1) (DS (b:=dO 1000 (List.length (ec n):Int)) (DS (b:=dO 1000 (List.length (ei n):Int)) (DS (b:=dO 200 (List.length (j9 n):Int)) (DS (b:=dO 200 (List.length (bb n):Int)) (bw (Y7 _ h.kA) (Dy (c:=KF (ag n) n.2.1) ?_))))))))))))))))))).trans ?_;·refine Eq.trans ?_ (Dj (c:=dO 0 (List.length (ar n):Int)) (s:=u9 (ar n)) (K:=(SR ((nr n,()),())).bind λy=>bif !y.1.1 then some (.inr (B1 false)) else some (.inl ())) (bw (Y6 _ h.kB) DU));cases dO 0 (List.length (ar n):Int) with|false=>rfl|true=>exact (congrArg (λo=>Option.bind o _) (XF _ h.set)).trans rfl
 ·cases d:ag n with|nil=>have :n.2.2.2.2.2.1=([]:List an):=d;dsimp only;rw[this];rfl|cons b r=>
  have :n.2.2.2.2.2.1=b::r:=d;dsimp only;rw[this];have e:gA ((List.length (b::r):Nat):Int) 0=false:=by simp[gA];omega
  rw[e];rfl
 · unfold Gf;have e:∀a b:Int,(!km a b)=dO b a:=λa b=>by rw[Aj,Bool.not_not]
   grind
abbrev ie:Type:=Eu
abbrev n6(m:ie):List an:=m.2.2.2.1
def mQ(m:ie):k0:=(m.2.2.2.2.2.2.2.2.2.2.1,(m.2.2.2.2.2.2.2.2.2.2.2.1,(m.2.2.2.2.2.2.2.2.2.2.2.2.1,())))
def mT(m:ie):vc:=(m.2.2.2.2.2.2.2.2.2.2.2.2.2.1,(m.2.2.2.2.2.2.2.2.2.2.2.2.2.2.1,(m.2.2.2.2.2.2.2.2.2.2.2.2.2.2.2.1,())))
def mV0(m:ie):Bool:=(gA m.2.2.2.2.1 (0:Int))&&((gA m.2.2.2.2.2.1 (0:Int))&&(ko m.2.2.2.2.2.2.1 ⟨#[]⟩))
def XK(m:ie):Bool:=(gA m.2.2.2.2.2.2.2.1 (0:Int))&&((gA m.2.2.2.2.2.2.2.2.1 (0:Int))&&(ko m.2.2.2.2.2.2.2.2.2.1 ⟨#[]⟩))
def WD(m:ie):Bool:=Di m.2.2.2.2.1 1 10000&&(Di m.2.2.2.2.2.1 0 100000&&fb m.2.2.2.2.2.2.1)
def Zb(m:ie):Bool:=Di m.2.2.2.2.2.2.2.1 1 10000&&(Di m.2.2.2.2.2.2.2.2.1 0 (gS .i64 m.2.2.2.2.2.2.2.1 1)&&(gA m.2.2.2.2.2.2.2.2.1 m.2.2.2.2.2.2.2.2.2.2.1&&fb m.2.2.2.2.2.2.2.2.2.1))
abbrev H9(m:ie):Prop:=Oj.Ok m
theorem H9.bs{m:ie}(h:H9 m):(Ty.sl lf).Ok (n6 m):=h.2.2.2.1
theorem H9.q{m:ie}(h:H9 m):Vp (mQ m):=h.2.2.2.2.2.2.2.2.2.2.2.2.1
theorem H9.t{m:ie}(h:H9 m):Vq (mT m):=⟨h.2.2.2.2.2.2.2.2.2.2.2.2.2.2.1,h.2.2.2.2.2.2.2.2.2.2.2.2.2.2.2.1.1⟩
def D2(l:List an)(a:Int):Bool:=l.all (λb=>gq b&&gA b.2.1 a)
def xC(k:Int)(n:Int)(v0 a d c r b:Bool):Bool:=bif gA k 1 then(gA n 1&&(v0&&(a&&(r&&b))))else bif gA k 2 then(gA n 0&&(d&&(a&&(r&&b))))else bif gA k 3 then(gA n 0&&(v0&&(c&&b)))else bif gA k 4 then(v0&&a)else false
def C7(m:ie):Bool:=fb m.2.1&&(Di m.2.2.1 0 900&&(H8 (mQ m) 10000 100000&&(Ks (mT m) 10000&&((D2 (n6 m) m.2.2.1&&km ((n6 m).length:Int) 400)&&xC m.1 ((n6 m).length:Int) (mV0 m) (XK m) (WD m) (Zb m) (ks (mQ m)) (sU (mT m))))))
theorem Tp(k:Int)(n:Nat)(g e f v0 b d c r q a t:Bool):(g&&(e&&(Di k 1 4&&((f&&(km (n:Int) (bif gA k 1 then 1 else bif gA k 4 then 400 else 0)&&(!gA k 1||gA (n:Int) 1)))&&((bif gA k 2 then d else v0)&&((bif gA k 2 then b else bif gA k 3 then c else b)&&((r||((gA k 4||gA k 3)&&(r||q)))&&(a||(gA k 4&&(a||t))))))))))=(g&&(e&&((r||q)&&((a||t)&&((f&&km (n:Int) 400)&&xC k (n:Int) v0 b d c r a))))):=by grind[Di,km,gA,xC,nV]
theorem Tq(q:k0)(h:Vp q):SH (q,())=some (B1 (H8 q 10000 100000)):=by unfold SH H8;exact bw (HL q) (DR (bw (mh _ _ _) (Dy (bw (mh _ _ _) (Dy (bw (EU _ h) rfl))))))
theorem Zc(t:vc)(h:Vq t):Iz (t,())=some (B1 (Ks t 10000)):=by
 have b:=BI (S:=Int×Unit) t.2.2.1 (λx=>Di x.1 0 (gS .i64 t.1 1)) (f:=Iz.b0 (t,())) (λk=>(k,())) (Sum.inl ((t.2.2.1.length:Int),())) (Sum.inr (B1 false)) (λi a=>?_) ?_;·unfold Iz Ks;refine bw (Fy t) (DR (bw (mh _ _ _) (Dx (bw (EU _ h.1) (Dx (Dx ?_))))));grind
 ·unfold Iz.b0;refine uL (Int.ofNat_lt.2 a) (bw (cB a) (bw (mh _ _ _) ?_));rw[<-wG a h.2];grind
 ·unfold Iz.b0;exact uM (Int.le_refl _) rfl
theorem Zd(m:ie)(h:H9 m):LG (m,())=some (B1 (D2 (n6 m) m.2.2.1&&(km ((n6 m).length:Int) (bif gA m.1 1 then 1 else bif gA m.1 4 then 400 else 0)&&(!gA m.1 1||gA ((n6 m).length:Int) 1)))):=by
 have d:Al (n6 m).length:=h.bs.1;have e:=BI (S:=Int×Unit) (n6 m) (λb=>gq b&&gA b.2.1 m.2.2.1) (f:=LG.b0 (m,())) (λk=>(k,())) (Sum.inl (((n6 m).length:Int),())) (Sum.inr (B1 false)) (λi a=>?_) ?_
 · unfold LG;have g:(bif gA m.1 (1:Int) then some (.inl ((1:Int),())) else bif gA m.1 (4:Int) then some (.inl ((400:Int),())) else some (.inl ((0:Int),())):Option (Sum (Int×Unit) ((Bool×Unit)×Unit)))=some (.inl ((bif gA m.1 1 then 1 else bif gA m.1 4 then 400 else 0),())):=by grind
   refine bw g (bw e ?_);unfold D2;grind
 · unfold LG.b0;have c:Fk (n6 m)[i]:=Ae h.bs.2 (List.getElem_mem a);refine uL (Int.ofNat_lt.2 a) (bw (cB a) (bw (Jc _ c) (DT (bw (cB a) ?_))));rw[<-wG a d];grind
 · unfold LG.b0;exact uM (Int.le_refl _) rfl
theorem vY{b c:Bool}{A R:Type}{g:A}{K:Option (Sum (Bool×A) R)}(h:K=some (.inl (c,g))):(bif b then K else some (.inl (false,g)))=some (.inl (b&&c,g)):=by grind
theorem gY{b c v:Bool}{R:Type}{K:Option (Sum (Bool×(Bool×Unit)) R)}(h:K=some (.inl (v,(c,())))):(bif b then K else some (.inl (v,(false,()))))=some (.inl (v,(b&&c,()))):=by grind
theorem ak8{r a b c n:Bool}{N d e:Option ((Bool×Unit)×Unit)}(g:N=some (B1 n))(h:d=some (B1 (c&&n)))(f:e=some (B1 (c&&n))):(bif r then N else bif a then d else bif b then e else some (B1 false))=some (B1 ((r||((a||b)&&c))&&n)):=by grind
theorem XL(m:ie)(h:H9 m):F72 (m,())=some (B1 (C7 m)):=by
 refine Eq.trans (b:=some (B1 (fb m.2.1&&(Di m.2.2.1 0 900&&(Di m.1 1 4&&((D2 (n6 m) m.2.2.1&&(km ((n6 m).length:Int) (bif gA m.1 1 then 1 else bif gA m.1 4 then 400 else 0)&&(!gA m.1 1||gA ((n6 m).length:Int) 1)))&&((bif gA m.1 2 then WD m else mV0 m)&&((bif gA m.1 2 then XK m else bif gA m.1 3 then Zb m else XK m)&&((ks (mQ m)||((gA m.1 4||gA m.1 3)&&H8 (mQ m) 10000 100000))&&(sU (mT m)||(gA m.1 4&&Ks (mT m) 10000))))))))))) ?_ ?_
 · unfold F72;have a:((Is (mT m,())).bind λc=>bif c.1.1 then some ((true,()),()) else bif gA m.1 (4:Int) then (Iz (mT m,())).bind (λd=>some (d.1,())) else some ((false,()),()))=some (B1 (sU (mT m)||(gA m.1 4&&Ks (mT m) 10000))):=bw (Fy _) (DR (Dy (bw (Zc _ h.t) rfl)));refine bw (A4 _ h.2.1) (Dx (bw (mh _ _ _) (Dx (bw (mh _ _ _) (Dx (bw (Zd m h) (Dx ?_)))))));refine bw (y:=.inl ((bif gA m.1 2 then WD m else mV0 m),((bif gA m.1 2 then XK m else bif gA m.1 3 then Zb m else XK m),()))) ?_ ?_;· cases gA m.1 2 with|true=>exact bw (mh _ _ _) (vY (bw (mh _ _ _) (vY (bw (A4 _ h.2.2.2.2.2.2.1) rfl))))|false=>cases gA m.1 3 with|true=>exact bw (mh _ _ _) (gY (bw (mh _ _ _) (gY (gY (bw (A4 _ h.2.2.2.2.2.2.2.2.2.1) rfl)))))|false=>rfl
   · refine Dy (Dy (bw (HL (mQ m)) ?_));exact ak8 a (bw (Tq (mQ m) h.q) (Dy a)) (bw (Tq (mQ m) h.q) (Dy a))
 · refine congrArg (λz=>some (B1 z)) ?_;exact Tp m.1 (n6 m).length (fb m.2.1) (Di m.2.2.1 0 900) (D2 (n6 m) m.2.2.1) (mV0 m) (XK m) (WD m) (Zb m) (ks (mQ m)) _ (sU (mT m)) _
theorem Ze(l:List an)(a:Int)(h:(Ty.sl lf).Ok l):Wd ((l,()),((a,()),()))=some (B1 (D2 l a&&km (l.length:Int) 400)):=by
 have d:Al l.length:=h.1;have g:=BI (S:=Int×Unit) l (λb=>gA b.2.1 a&&gq b) (f:=Wd.b0 ((l,()),((a,()),()))) (λk=>(k,())) (Sum.inl ((l.length:Int),())) (Sum.inr (B1 false)) (λi c=>?_) ?_
 · unfold Wd;refine bw g ?_;have e:l.all (λb=>gA b.2.1 a&&gq b)=D2 l a:=by unfold D2;grind
   grind
 · unfold Wd.b0;have j:Fk l[i]:=Ae h.2 (List.getElem_mem c);refine uL (Int.ofNat_lt.2 c) (bw (cB c) (DT (bw (Td _ j) ?_)));rw[<-wG c d];grind
 · unfold Wd.b0;exact uM (Int.le_refl _) rfl
theorem Zf(v:u6)(h:Al v.2.2.1.size):F94 (v,())=some (B1 (Di v.1 1 10000&&(Di v.2.1 0 100000&&fb v.2.2.1))):=bw (u7 _ _ _) (Dy (bw (u7 _ _ _) (Dy (bw (Ek _ h) rfl))))
theorem Zg(g:sd)(q:k0)(h:Al g.2.2.1.size):F95 (g,(q,()))=some (B1 (Di g.1 1 10000&&(Di g.2.1 0 (gS .i64 g.1 1)&&(gA g.2.1 q.1&&fb g.2.2.1)))):=bw (u7 _ _ _) (Dy (bw (u7 _ _ _) (Dy (Dy (bw (Ek _ h) rfl)))))
theorem PF{b x y:Bool}{K L:Option ((Bool×Unit)×Unit)}(c:K=some (B1 x))(a:L=some (B1 y)):(bif b then K else L)=some (B1 (bif b then x else y)):=by grind
theorem ak9(m:ie)(h:H9 m):F42 (m,())=some (B1 (C7 m)):=by unfold F42 C7 xC;refine bw (Ek _ h.2.1) (Dx (bw (u7 _ _ _) (Dx (bw (Tb (mQ m) _ _ h.q) (Dx (bw (Tc (mT m) _ h.t) (Dx (bw (Ze (n6 m) _ h.bs) (Dx ?_)))))))));refine PF (Dy (Dy (Dy (bw (I8 (mQ m)) (Dy (bw (I9 (mT m)) rfl)))))) (PF (Dy (bw (Zf (m.2.2.2.2.1,(m.2.2.2.2.2.1,(m.2.2.2.2.2.2.1,()))) h.2.2.2.2.2.2.1) (Dy (Dy (bw (I8 (mQ m)) (Dy (bw (I9 (mT m)) rfl))))))) (PF (Dy (Dy (bw (Zg (m.2.2.2.2.2.2.2.1,(m.2.2.2.2.2.2.2.2.1,(m.2.2.2.2.2.2.2.2.2.1,()))) (mQ m) h.2.2.2.2.2.2.2.2.2.1) (Dy (bw (I9 (mT m)) rfl))))) (PF ?_ rfl)));exact Ch
theorem ns{A:Type}{p:Nat->A->Bool}:∀{k:Nat}{l:List A},(∀i(h:i<l.length),p (k+i) l[i]=true)->iK p k l=true|_,[],_=>rfl|k,x::r,h=>by simp only[iK,Bool.and_eq_true];refine⟨h 0 (Nat.zero_lt_succ _),ns (λi a=>?_)⟩;have :=h (i+1) (by grind);grind
theorem Tr{A:Type}{eq:A->A->Bool}{xs ys:List A}:sF eq xs ys=true↔xs.length=ys.length/\∀i(h:i<xs.length)(a:i<ys.length),eq xs[i] ys[i]=true:=by grind[sF,gA,iK,xJ,nV,ns]
theorem A7{A:Type}{eq:A->A->Bool}(c:∀a b,eq a b=eq b a)(xs ys:List A):sF eq xs ys=sF eq ys xs:=by grind[sF,Tr]
theorem tw(a b:Int):gA a b=gA b a:=by grind[gA]
theorem Q4(x y:cp):Kt x y=Kt y x:=by grind[Kt,gA,ko,tw,BG]
theorem OS(x y:e6):Ge x y=Ge y x:=by grind[Ge,ko,gA,BG,tw]
theorem Jf(x y:D9):ko x.1 y.1=ko y.1 x.1:=BG _ _
theorem OT(x y:D3):gA x.1 y.1=gA y.1 x.1:=tw _ _
theorem L6(a b:an):p8 a b=p8 b a:=by
 unfold p8 G1 FU;rw[tw a.1,tw a.2.1,tw a.2.2.1,BG a.2.2.2.1,tw (i0 a).1,tw (i0 a).2.1,A7 (eq:=λx y=>ko x.1 y.1) Jf (i0 a).2.2.1,tw (re a).1,A7 (eq:=λx y=>ko x.1 y.1) Jf (re a).2.1,A7 (eq:=λx y=>gA x.1 y.1) OT (re a).2.2.1,A7 Q4 (po a),A7 OS (p7 a),BG (Ja a)];have e:wo (hu a) (hu b)=wo (hu b) (hu a):=by cases hu a<;>cases hu b<;>rfl
 rw[e]
def w6(bl:List an)(b:an):Bool:=match bK bl b.1 with|some z=>p8 z b|none=>false
theorem IH{A:Type}{xs:List A}{k:Int}(a:0<=k)(h:k<(xs.length:Int)):bK xs k=some (xs[k.toNat]'(by omega)):=by grind[bK,cB]
theorem M6{A:Type}{xs:List A}{k:Int}(h:k<0\/(xs.length:Int)<=k):bK xs k=none:=by grind[bK]
theorem Ts(w:ee)(l:List an)(d:(Ty.sl lf).Ok l)(c:(Ty.sl lf).Ok w.2.2.2.2.1):SX (w,((l,()),()))=some (B1 (l.all (w6 w.2.2.2.2.1))):=by
 have j:=BI (S:=Int×Unit) l (w6 w.2.2.2.2.1) (f:=SX.b0 (w,((l,()),()))) (λk=>(k,())) (Sum.inl ((l.length:Int),())) (Sum.inr (B1 false)) (λi a=>?_) ?_;·unfold SX;grind
 · unfold SX.b0 w6;refine uL (Int.ofNat_lt.2 a) (bw (cB a) (bw (mh _ _ _) ?_));rw[<-wG a d.1];have h:Al w.2.2.2.2.1.length:=c.1;have g:gS .i64 (w.2.2.2.2.1.length:Int) 1=(w.2.2.2.2.1.length:Int)-1:=iz (by omega) (by omega);rw[g];by_cases b:0<=l[i].1/\l[i].1<(w.2.2.2.2.1.length:Int)
   · have e:Di l[i].1 0 ((w.2.2.2.2.1.length:Int)-1)=true:=by simp[Di,km];omega
     rw[e,IH b.1 b.2];refine bw (cB a) (bw (IH b.1 b.2) (bw (cB a) (bw (KC _ _ (Ae c.2 (List.getElem_mem _))) DU)))
   · have e:Di l[i].1 0 ((w.2.2.2.2.1.length:Int)-1)=false:=by simp[Di,km];omega
     rw[e,M6 (xs:=w.2.2.2.2.1) (k:=l[i].1) (by omega)];rfl
 · unfold SX.b0;exact uM (Int.le_refl _) rfl
theorem Tt(w:ee)(l:List an)(c:(Ty.sl lf).Ok l)(m:(Ty.sl lf).Ok w.2.2.2.2.1)(g:∀b∈l,0<=b.1):SS (w,((l,()),()))=some (B1 (l.all (w6 w.2.2.2.2.1))):=by
 have j:=BI (S:=Int×Unit) l (w6 w.2.2.2.2.1) (f:=SS.b0 (w,((l,()),()))) (λk=>(k,())) (Sum.inl ((l.length:Int),())) (Sum.inr (B1 false)) (λi a=>?_) ?_;·unfold SS;grind
 · unfold SS.b0 w6;refine uL (Int.ofNat_lt.2 a) (bw (cB a) ?_);rw[<-wG a c.1];have h:=g _ (List.getElem_mem a);by_cases d:l[i].1<(w.2.2.2.2.1.length:Int)
   · have e:km (w.2.2.2.2.1.length:Int) l[i].1=false:=by simp[km];omega
     rw[e,IH h d];dsimp only;rw[L6];exact bw (Q3 _ _ (Ae c.2 (List.getElem_mem _))) DU
   · have e:km (w.2.2.2.2.1.length:Int) l[i].1=true:=by simp[km];omega
     rw[e,M6 (xs:=w.2.2.2.2.1) (k:=l[i].1) (by omega)];rfl
 · unfold SS.b0;exact uM (Int.le_refl _) rfl
theorem G4(w:ee)(s:ByteArray)(d:Al w.2.2.2.1.length):QL (w,((s,()),()))=some (I1 (nY w.2.2.2.1 (λn=>ko n.1 s))):=by
 have e:=Ck (S:=Int×Unit) w.2.2.2.1 (λn=>ko n.1 s) (f:=QL.b0 (w,((s,()),()))) (λk=>(k,())) (Sum.inl ((w.2.2.2.1.length:Int),())) (λi=>Sum.inr (I1 i)) (λi a=>?_) ?_;·unfold QL;refine bw e ?_;rcases mA w.2.2.2.1 (λn=>ko n.1 s) with⟨c,_,b⟩|⟨j,g,_,_,c,_,b⟩<;>rw[c,b]<;>rfl
 ·unfold QL.b0;refine uL (Int.ofNat_lt.2 a) (bw (cB a) ?_);rw[<-wG a d]
 ·unfold QL.b0;exact uM (Int.le_refl _) rfl
theorem OU(l:List ao)(g:ao->Option (Bool×Unit))(p:ao->Bool)(h:∀x,g x=some (p x,()))(d:Al l.length):We ((l,()),((g,()),()))=some (I1 (nY l p)):=by
 have e:=Ck (S:=Int×Unit) l p (f:=We.b0 ((l,()),((g,()),()))) (λk=>(k,())) (Sum.inl ((l.length:Int),())) (λi=>Sum.inr (I1 i)) (λi a=>?_) ?_;·unfold We;refine bw e ?_;rcases mA l p with⟨c,_,b⟩|⟨j,m,_,_,c,_,b⟩<;>rw[c,b]<;>rfl
 ·unfold We.b0;refine uL (Int.ofNat_lt.2 a) (bw (cB a) (bw (h _) ?_));rw[<-wG a d]
 simp_all[We.b0,Fq,ao,uM,bK,cM]
theorem Tu(w:ee)(s:ByteArray)(a:Al w.2.2.2.1.length):F43 (w,((s,()),()))=some (I1 (nY w.2.2.2.1 (λn=>ko n.1 s))):=by unfold F43;exact bw (OU _ _ (λn=>ko n.1 s) (λx=>rfl) a) rfl
abbrev KG(w:ee):Prop:=Se.Ok w
def EW(w:ee)(i:Nat)(n:ao):Bool:=Gf n&&(!ke w.2.2.1 n.1&&(lO (λz y=>ob z.1 y.1) w.2.2.2.1 i n&&(ag n).all (w6 w.2.2.2.2.1)))
def Ia(w:ee)(m:ie):Bool:=C7 m&&(w.2.2.2.1.any (λn=>ko n.1 m.2.1)&&(n6 m).all (w6 w.2.2.2.2.1))
def Ib(i:Nat)(b:an):Bool:=gA b.1 (i:Int)&&gq b
def Em(w:ee):Bool:=bk (w.1,(w.2.1,()))&&(nx w.2.2.1&&(km (w.2.2.2.1.length:Int) 12&&(km (w.2.2.2.2.1.length:Int) 1000&&(km (w.2.2.2.2.2.2.1.length:Int) 400&&(iK Ib 0 w.2.2.2.2.1&&(iK (EW w) 0 w.2.2.2.1&&w.2.2.2.2.2.2.1.all (Ia w)))))))
theorem KG.XM{w:ee}(h:KG w):(Ty.sl cf).Ok w.2.1:=h.2.1
theorem KG.bF{w:ee}(h:KG w):(Ty.sl e9).Ok w.2.2.1:=h.2.2.1
theorem KG.nodes{w:ee}(h:KG w):(Ty.sl Ln).Ok w.2.2.2.1:=h.2.2.2.1
theorem KG.En{w:ee}(h:KG w):(Ty.sl lf).Ok w.2.2.2.2.1:=h.2.2.2.2.1
theorem KG.As{w:ee}(h:KG w):(Ty.sl Oj).Ok w.2.2.2.2.2.2.1:=h.2.2.2.2.2.2.1
theorem Tv{b c:Bool}{R:Type}{K C g x:R}(d:K=bif b then C else x)(a:C=bif c then g else x):K=bif(b&&c)then g else x:=by grind
theorem PG{A R:Type}{xs:List A}{p:A->Bool}{C g x:R}{c:Bool}(h:C=bif c then g else x):(bif dO (nY xs p) 0 then x else C)=bif (xs.any p&&c)then g else x:=by grind[nY,dO,mA,dD]
theorem Zh(a b:Int):dO a b=!km b a:=by rw[Aj,Bool.not_not]
theorem gtN{a b:Int}{c:Bool}{K:Option ((Bool×Unit)×Unit)}(h:K=some (B1 c)):(bif dO a b then some (B1 false)else K)=some (B1 (km b a&&c)):=by rw[h,Zh];grind
theorem II{b:Bool}{k:Int}{c:Bool}{L:Option (Sum (Int×Unit) ((Bool×Unit)×Unit))}{K:Int×Unit->Option ((Bool×Unit)×Unit)}(h:L=some (bif b then Sum.inl (k,())else Sum.inr (B1 false))) (a:K (k,())=some (B1 c)):L.bind (λr=>Sum.elim K some r)=some (B1 (b&&c)):=by grind
theorem Q5(w:ee)(h:KG w):Wj (w,())=some (B1 (iK (EW w) 0 w.2.2.2.1&&km (w.2.2.2.1.length:Int) 12)):=by
 have c:Al w.2.2.2.1.length:=h.nodes.1;have d:=yW (S:=Int×Unit) w.2.2.2.1 (EW w) (f:=Wj.b0 (w,())) (λk=>(k,())) (Sum.inl ((w.2.2.2.1.length:Int),())) (Sum.inr (B1 false)) (λi a=>?_) ?_;·unfold Wj;grind
 ·unfold Wj.b0 EW;have b:Ez w.2.2.2.1[i]:=Ae h.nodes.2 (List.getElem_mem a);refine uL (Int.ofNat_lt.2 a) (bw (cB a) (bw (Y9 _ b) (DT (bw (I5 _ _ h.bF.1) (DV ?_)))));rw[<-wG a c];refine Tv (BD a c (λz=>DU)) ?_;exact bw (Ts w _ b.kA h.En) DU
 ·unfold Wj.b0;exact uM (Int.le_refl _) rfl
theorem PH(w:ee)(h:KG w):OK (w,())=some (B1 (Em w)):=by
 have d:=yW (S:=Int×Unit) w.2.2.2.2.1 Ib (f:=OK.b0 (w,())) (λk=>(k,())) (Sum.inl ((w.2.2.2.2.1.length:Int),())) (Sum.inr (B1 false)) (λi a=>?_) ?_
 · have e:=BI (S:=Int×Unit) w.2.2.2.2.2.2.1 (Ia w) (f:=OK.b1 (w,())) (λk=>(k,())) (Sum.inl ((w.2.2.2.2.2.2.1.length:Int),())) (Sum.inr (B1 false)) (λi a=>?_) ?_
   · refine Eq.trans (b:=some (B1 (bk (w.1,(w.2.1,()))&&(nx w.2.2.1&&(km (w.2.2.2.2.1.length:Int) 1000&&(km (w.2.2.2.2.2.2.1.length:Int) 400&&(iK Ib 0 w.2.2.2.2.1&&(w.2.2.2.2.2.2.1.all (Ia w)&&(iK (EW w) 0 w.2.2.2.1&&km (w.2.2.2.1.length:Int) 12))))))))) ?_ ?_;· unfold OK;exact bw (mw (w.1,(w.2.1,())) h.XM) (Dx (bw (EU _ h.bF) (Dx (gtN (gtN (II d (II e (bw (Q5 w h) rfl))))))))
     · unfold Em;grind
   · unfold OK.b1 Ia;have c:H9 w.2.2.2.2.2.2.1[i]:=Ae h.As.2 (List.getElem_mem a);refine uL (Int.ofNat_lt.2 a) (bw (cB a) (bw (XL _ c) (DT (bw (cB a) (bw (G4 w _ h.nodes.1) (PG (bw (cB a) (bw (Ts w _ c.bs h.En) ?_))))))));rw[<-wG a h.As.1];grind
   · unfold OK.b1;exact uM (Int.le_refl _) rfl
 · unfold OK.b0 Ib;refine uL (Int.ofNat_lt.2 a) (bw (cB a) (DT (bw (cB a) (bw (Jc _ (Ae h.En.2 (List.getElem_mem a))) ?_))));rw[<-wG a h.En.1];grind
 · unfold OK.b0;exact uM (Int.le_refl _) rfl
theorem Tw{b:an}(h:gq b=true):0<=b.1:=by
 unfold gq at h;simp only[Bool.and_eq_true]at h;have a:Di b.1 0 100000=true:=h.1;have c:0<=b.1/\b.1<=100000:=by simpa[Di,km]using a
 omega
theorem Tx{n:ao}(h:Gf n=true):∀b∈ag n,0<=b.1:=by unfold Gf A6 at h;simp only[Bool.and_eq_true]at h;have d:=h.2.2.2.2.2.1.1;intro b a;obtain⟨i,c,rfl⟩:=List.getElem_of_mem a;have :=xJ d i c;rw[Nat.zero_add]at this;unfold E9 at this;simp only[Bool.and_eq_true]at this;exact Tw this.1.1
theorem WE{m:ie}(h:C7 m=true):∀b∈n6 m,0<=b.1:=by unfold C7 D2 at h;simp only[Bool.and_eq_true]at h;have c:=h.2.2.2.2.1.1;intro b a;have :=List.all_eq_true.1 c b a;simp only[Bool.and_eq_true]at this;exact Tw this.1
theorem XN{b c:Bool}{R:Type}{K g x:R}(h:b=true->K=bif c then g else x):(bif !b then x else K)=bif(b&&c)then g else x:=by grind
theorem L7(w:ee)(h:KG w):KA (w,())=some (B1 (Em w)):=by
 have e:=yW (S:=Int×Unit) w.2.2.2.2.1 Ib (f:=KA.b0 (w,())) (λk=>(k,())) (Sum.inl ((w.2.2.2.2.1.length:Int),())) (Sum.inr (B1 false)) (λi a=>?_) ?_
 · have g:=yW (S:=Int×Unit) w.2.2.2.1 (EW w) (f:=KA.b1 (w,())) (λk=>(k,())) (Sum.inl ((w.2.2.2.1.length:Int),())) (Sum.inr (B1 false)) (λi a=>?_) ?_
   · have j:=BI (S:=Int×Unit) w.2.2.2.2.2.2.1 (Ia w) (f:=KA.b2 (w,())) (λk=>(k,())) (Sum.inl ((w.2.2.2.2.2.2.1.length:Int),())) (Sum.inr (B1 false)) (λi a=>?_) ?_;· unfold KA Em;refine bw (A5 (w.1,(w.2.1,())) h.XM) (Dx (bw (LY _ h.bF) (Dx (gtN (gtN (gtN (II e (II g ?_))))))));grind
     · unfold KA.b2 Ia;have d:H9 w.2.2.2.2.2.2.1[i]:=Ae h.As.2 (List.getElem_mem a);refine uL (Int.ofNat_lt.2 a) (bw (cB a) (bw (ak9 _ d) (XN (λb=>bw (Tu w _ h.nodes.1) (PG (bw (Tt w _ d.bs h.En (WE b)) ?_))))));rw[<-wG a h.As.1];grind
     · unfold KA.b2;exact uM (Int.le_refl _) rfl
   · unfold KA.b1 EW;have c:Ez w.2.2.2.1[i]:=Ae h.nodes.2 (List.getElem_mem a);refine uL (Int.ofNat_lt.2 a) (bw (cB a) (bw (Za _ c) (XN (λb=>bw (XG _ _ h.bF.1) (DV ?_)))));rw[<-wG a h.nodes.1];refine Tv (BD a h.nodes.1 (λz=>Cf)) ?_;exact bw (Tt w _ c.kA h.En (Tx b)) DU
   · unfold KA.b1;exact uM (Int.le_refl _) rfl
 · unfold KA.b0 Ib;refine uL (Int.ofNat_lt.2 a) (bw (cB a) (DT (bw (Td _ (Ae h.En.2 (List.getElem_mem a))) ?_)));rw[<-wG a h.En.1];grind
 · unfold KA.b0;exact uM (Int.le_refl _) rfl
def KH(n:ao):Prop:=ct (ft n).2.1/\W1 (ar n).length/\W1 (ag n).length/\(∀b∈ag n,e8 b)/\W1 (List.length (bx n).2.2.1)/\W1 (List.length (Fa n).2.1)/\W1 (List.length (Fa n).2.2.1)/\W1 (List.length (ec n))/\W1 (List.length (ei n))/\W1 (List.length (j9 n))/\W1 (List.length (nr n))/\W1 (List.length (bb n))/\∀p∈bb n,HN p
theorem WG(n:ao)(h:KH n):Lw (n,())=some (n,()):=by
 obtain⟨o,p,j,q,u,t,r,m,l,e,d,c,g⟩:=h;have s:=BJ (S:=Int×(List HC×Unit)) (bb n) (f:=Lw.b0 (n,())) (λa k=>(k,(a,()))) (Sum.inl (((bb n).length:Int),(bb n,()))) (λi b=>?_) ?_;·unfold Lw;exact bw (kb (ft n) o) (vP p (by decide) (by decide) (bw (An _ j q) (bw (Fz (bx n) u) (bw (KB (Fa n) t r) (vP m (by decide) (by decide) (vP l (by decide) (by decide) (vP e (by decide) (by decide) (vP d (by decide) (by decide) (bw s rfl)))))))))
 ·unfold Lw.b0;refine uL (Int.ofNat_lt.2 b) (bw (cB b) (bw (Te _ (g _ (List.getElem_mem b))) (BK b c (by decide) (by decide) ?_)));rw[<-wG b c.l];rfl
 ·unfold Lw.b0;exact uM (Int.le_refl _) rfl
theorem XO:∀{x y z:List UInt8},Op.bytesLess x y=true->Op.bytesLess y z=true->Op.bytesLess x z=true
 |x,[],_,h,_=>by cases x<;>simp[Op.bytesLess]at h|_,b::y,[],_,h=>by simp[Op.bytesLess]at h|[],_::_,_::_,_,_=>rfl|a::x,b::y,c::z,e,d=>by
  simp only[Op.bytesLess,Bool.or_eq_true,Bool.and_eq_true,decide_eq_true_eq,beq_iff_eq]at e d⊢;rcases e with e|⟨rfl,e⟩;·grind
  · rcases d with d|⟨rfl,d⟩;· grind
    · exact .inr ⟨rfl,XO e d⟩
structure Ku{A:Type}(lt eq:A->A->Bool):Prop where
 gj:∀a,eq a a=true
 symm:∀a b,eq a b=true->eq b a=true
 WH:∀a b c,eq a b=true->eq b c=true->eq a c=true
 Zi:∀a b c,lt a b=true->eq b c=true->lt a c=true
 Zj:∀a b c,eq a b=true->lt b c=true->lt a c=true
 tr:∀a b c,lt a b=true->lt b c=true->lt a c=true
 Sl:∀a b,lt a b=true->eq a b=false
 Zk:∀a b,lt a b=false->eq a b=false->lt b a=true
theorem IJ:Ku dO gA where
 gj a:=nV a
 symm a b h:=by grind[gA]
 WH a b c h k:=by grind[gA]
 Zi a b c h k:=by grind[dO,gA]
 Zj a b c h k:=by grind[dO,gA]
 tr a b c h k:=by grind[dO]
 Sl a b h:=by grind[gA,dO]
 Zk a b h k:=by grind[dO,gA]
theorem A8{a b:ByteArray}:ko a b=true↔a.toList=b.toList:=by grind[ko]
theorem EX:Ku ob ko where
 gj a:=xD a
 symm a b h:=A8.2 (A8.1 h).symm
 WH a b c h k:=A8.2 ((A8.1 h).trans (A8.1 k))
 Zi a b c h k:=by grind[ob,ko,A8]
 Zj a b c h k:=by grind[ob,ko,A8]
 tr a b c h k:=XO h k
 Sl a b h:=by grind[ko,ob,GA]
 Zk a b h k:=by grind[ob,ko,yX]
theorem Ku.M7{A B:Type}{lt eq:B->B->Bool}(h:Ku lt eq)(f:A->B):Ku (λa b=>lt (f a) (f b)) (λa b=>eq (f a) (f b)):=⟨λa=>h.gj _,λa b=>h.symm _ _,λa b c=>h.WH _ _ _,λa b c=>h.Zi _ _ _,λa b c=>h.Zj _ _ _,λa b c=>h.tr _ _ _,λa b=>h.Sl _ _,λa b=>h.Zk _ _⟩
theorem lx{e x y:Bool}:(bif !e then x else y)=true↔(e=false/\x=true)\/(e=true/\y=true):=by grind
theorem lx0{e x y:Bool}:(bif !e then x else y)=false↔(e=false/\x=false)\/(e=true/\y=false):=by grind
theorem Ku.lex{A:Type}{g f i j:A->A->Bool}(h:Ku g f)(k:Ku i j):Ku (λa b=>bif !f a b then g a b else i a b) (λa b=>f a b&&j a b)where
 gj a:=by rw[h.gj,k.gj];rfl
 symm a b q:=by simp only[Bool.and_eq_true]at q⊢;exact⟨h.symm _ _ q.1,k.symm _ _ q.2⟩
 WH a b c q r:=by simp only[Bool.and_eq_true]at q r⊢;exact⟨h.WH _ _ _ q.1 r.1,k.WH _ _ _ q.2 r.2⟩
 Zi a b c q r:=by
  simp only[Bool.and_eq_true]at r;rcases lx.1 q with⟨u,v⟩|⟨u,v⟩;·have :=h.Zi _ _ _ v r.1;exact lx.2 (.inl ⟨h.Sl _ _ this,this⟩)
  ·exact lx.2 (.inr ⟨h.WH _ _ _ u r.1,k.Zi _ _ _ v r.2⟩)
 Zj a b c q r:=by
  simp only[Bool.and_eq_true]at q;rcases lx.1 r with ⟨u,v⟩|⟨u,v⟩;·have :=h.Zj _ _ _ q.1 v;exact lx.2 (.inl ⟨h.Sl _ _ this,this⟩)
  ·exact lx.2 (.inr ⟨h.WH _ _ _ q.1 u,k.Zj _ _ _ q.2 v⟩)
 tr a b c q r:=by
  rcases lx.1 q with ⟨u,v⟩|⟨u,v⟩
  · rcases lx.1 r with ⟨e,d⟩|⟨e,d⟩;· have :=h.tr _ _ _ v d;exact lx.2 (.inl ⟨h.Sl _ _ this,this⟩)
    · have :=h.Zi _ _ _ v e;exact lx.2 (.inl ⟨h.Sl _ _ this,this⟩)
  · rcases lx.1 r with ⟨e,d⟩|⟨e,d⟩;· have :=h.Zj _ _ _ u d;exact lx.2 (.inl ⟨h.Sl _ _ this,this⟩)
    · exact lx.2 (.inr ⟨h.WH _ _ _ u e,k.tr _ _ _ v d⟩)
 Sl a b q:=by
  rcases lx.1 q with ⟨u,v⟩|⟨u,v⟩;· grind
  · rw[k.Sl _ _ v,Bool.and_false]
 Zk a b q r:=by
  rcases lx0.1 q with ⟨u,v⟩|⟨u,v⟩;· have :=h.Zk _ _ v u;exact lx.2 (.inl ⟨h.Sl _ _ this,this⟩)
  · rw[u,Bool.true_and]at r;exact lx.2 (.inr ⟨h.symm _ _ u,k.Zk _ _ v r⟩)
def Tz(a b:cp):Bool:=ko a.2.1 b.2.1&&(gA a.2.2.2.2.1 b.2.2.2.2.1&&(gA a.1 b.1&&(ko a.2.2.1 b.2.2.1&&gA a.2.2.2.1 b.2.2.2.1)))
theorem al2:Ku sH Tz:=(EX.M7 (λa:cp=>a.2.1)).lex ((IJ.M7 (λa:cp=>a.2.2.2.2.1)).lex ((IJ.M7 (λa:cp=>a.1)).lex ((EX.M7 (λa:cp=>a.2.2.1)).lex (IJ.M7 (λa:cp=>a.2.2.2.1)))))
theorem TA{A:Type}{p:Nat->A->Bool}{l:List A}:iK p 0 l=true↔∀i x,l[i]?=some x->p i x=true:=by grind[iK,xJ,ns]
def TB(l:List cp):Prop:=∀(i j:Nat)(x y:cp),l[i]?=some x->l[j]?=some y->i<j->sH x y=true
theorem Q8{l:List cp}(h:iK (G3 l) 0 l=true):TB l:=by
 have g:=TA.1 h;have f:∀i x y,l[i]?=some x->l[i+1]?=some y->sH x y=true:=λi x y b a=>by have :=g (i+1) y a;unfold G3 lO at this;grind
 have e:∀d i x y,l[i]?=some x->l[i+1+d]?=some y->sH x y=true:=by intro d;induction d with|zero=>omega|succ d k=>
  intro i x y b a;have c:i+1+d<l.length:=by grind
  exact (al2).tr _ _ _ (k i x _ b (List.getElem?_eq_getElem c)) (f (i+1+d) _ y (List.getElem?_eq_getElem c) a)
 intro i j x y b a m;exact e (j-(i+1)) i x y b (by rwa[show i+1+(j-(i+1))=j by omega])
theorem OV{A:Type}(p:A->Bool):∀l:List A,∃K,K<=l.length/\(∀i(h:i<l.length),i<K->p l[i]=true)/\(∀h:K<l.length,p l[K]=false)|[]=>⟨0,Nat.le_refl _,λi h=>absurd h (Nat.not_lt_zero _),λh=>absurd h (Nat.not_lt_zero _)⟩|y::r=>by cases b:p y with|false=>exact⟨0,Nat.zero_le _,λi _ h=>absurd h (Nat.not_lt_zero _),λ_=>b⟩|true=>obtain⟨K,e,d,a⟩:=OV p r;refine⟨K+1,by grind,λi h c=>?_,λh=>a (by grind)⟩;grind
theorem KI{S E A:Type}(xs:List A)(q:A->Bool){f:S->Option (Sum S E)}(mk:Int->S)(R:Int->E)(a:∀i (h:i<xs.length),f (mk (i:Int))=bif q xs[i]then some (.inl (mk ((i+1:Nat):Int)))else some (.inr (R (i:Int))))(b:f (mk (xs.length:Int))=some (.inr (R (xs.length:Int)))){p:Nat}(d:p<=xs.length)(g:∀i (h:i<xs.length),i<p->q xs[i]=true)(e:∀h:p<xs.length,q xs[p]=false):aR f (mk 0)=some (R (p:Int)):=cK (λi=>mk (i:Int)) p (λi c=>by grind) (by grind)
def TC{A:Type}(lt:A->A->Bool)(l:List A):Prop:=∀i j(a:i<l.length)(b:j<l.length),i<j->lt l[i] l[j]=true
theorem TD{A:Type}{lt:A->A->Bool}(o:∀a b c,lt a b=true->lt b c=true->lt a c=true){l:List A}(h:∀i(e:i<l.length),lO lt l i l[i]=true):TC lt l:=by
 have f:∀d i(e:i<l.length)(g:i+1+d<l.length),lt l[i] l[i+1+d]=true:=by intro d;induction d with|zero=>grind[lO,mz]|succ d m=>grind[lO,mz]
 intro i j e g k;have n:=f (j-(i+1)) i e (by omega);grind
def tA(l:List bm)(s:ByteArray):Int:=nY l (λa=>ko a.1 s)
theorem w7(l:List bm)(s:ByteArray)(e:Al l.length):It ((l,()),((s,()),()))=some (I1 (tA l s)):=by
 have g:=Ck (S:=Int×Unit) l (λa=>ko a.1 s) (f:=It.b0 ((l,()),((s,()),()))) (λk=>(k,())) (Sum.inl ((l.length:Int),())) (λi=>Sum.inr (I1 i)) (λi b=>?_) ?_;·unfold It tA;refine bw g ?_;rcases mA l (λa=>ko a.1 s) with⟨d,_,c⟩|⟨j,h,_,_,d,_,c⟩<;>rw[d,c]<;>rfl
 ·unfold It.b0;refine uL (Int.ofNat_lt.2 b) (bw (cB b) ?_);rw[<-wG b e]
 ·unfold It.b0;exact uM (Int.le_refl _) rfl
theorem L8(l:List bm)(g:bm->Option (Bool×Unit))(p:bm->Bool)(h:∀x,g x=some (p x,()))(d:Al l.length):LS ((l,()),((g,()),()))=some (I1 (nY l p)):=by
 have e:=Ck (S:=Int×Unit) l p (f:=LS.b0 ((l,()),((g,()),()))) (λk=>(k,())) (Sum.inl ((l.length:Int),())) (λi=>Sum.inr (I1 i)) (λi a=>?_) ?_;·unfold LS;refine bw e ?_;rcases mA l p with⟨c,_,b⟩|⟨j,m,_,_,c,_,b⟩<;>rw[c,b]<;>rfl
 ·unfold LS.b0;refine uL (Int.ofNat_lt.2 a) (bw (cB a) (bw (h _) ?_));rw[<-wG a d]
 simp_all[LS.b0,bm,uM,bK,cM]
theorem Jh(l:List bm)(s:ByteArray)(b:Al l.length):SU ((l,()),((s,()),()))=some (I1 (tA l s)):=by unfold SU;exact bw (L8 l _ (λa=>ko a.1 s) (λx=>rfl) b) rfl
def l8(n a:Int):List dT->List dT|[]=>[(n,(a,()))]|x::r=>bif gA x.2.1 a then(cM .i64 x.1 n,(x.2.1,()))::r else bif dO a x.2.1 then(n,(a,()))::x::r else x::l8 n a r
def s6(n a:Int)(s:List dT×Bool)(x:dT):List dT×Bool:=bif s.2 then(s.1++[x],true)else bif gA x.2.1 a then(s.1++[(cM .i64 x.1 n,(x.2.1,()))],true)else bif dO a x.2.1 then(s.1++[(n,(a,()))]++[x],true)else(s.1++[x],false)
def G5(n a:Int)(s:List dT×Bool):List dT:=bif s.2 then s.1 else s.1++[(n,(a,()))]
theorem HO(n b:Int):∀(xs a:List dT),G5 n b (xs.foldl (s6 n b) (a,true))=a++xs|[],a=>by simp[G5]|x::r,a=>by have :=HO n b r (a++[x]);simpa[s6]using this
theorem Ji(n b:Int):∀(xs a:List dT),G5 n b (xs.foldl (s6 n b) (a,false))=a++l8 n b xs|[],a=>rfl|x::r,a=>by simp only[List.foldl_cons,l8];unfold s6;cases d:gA x.2.1 b with|true=>exact (HO n b r _).trans (by simp)|false=>cases c:dO b x.2.1 with|true=>exact (HO n b r _).trans (by simp)|false=>exact (Ji n b r _).trans (by simp)
theorem PI(xs:List dT)(n c:Int)(q:xs.length<=4):Lz ((xs,()),((n,()),((c,()),())))=some ((l8 n c xs,()),()):=by
 have j:Al xs.length:=by omega
 have h:=(xL (S:=List dT×(Bool×(Int×Unit))) xs (s6 n c) (λi s=>s.1.length<=2*i) (f:=Lz.b0 ((xs,()),((n,()),((c,()),())))) (λs k=>(s.1,(s.2,(k,())))) (λs=>Sum.inl (s.1,(s.2,((xs.length:Int),())))) ([],false) (Nat.le_refl _) (λi d s l=>?_) (λs _=>?_));·unfold Lz;refine bw h.1 ?_;have e:=h.2;have g:=Ji n c xs [];rw [List.nil_append]at g;rw [<-g];unfold G5;revert e;cases (xs.foldl (s6 n c) ([],false)) with|mk a b=>intro e;cases b with|true=>rfl|false=>have :dE (a.length+1) 16=true:=qp (by grind) (by decide) (by decide);simp_all [dT,dE,bV]
 · obtain⟨a,b⟩:=s;simp only at l;refine⟨?_,?_⟩;· unfold Lz.b0;refine uL (Int.ofNat_lt.2 d) (bw (cB d) ?_);have m:dE (a.length+1) 16=true:=qp (by omega) (by decide) (by decide);have p:dE (a.length+1+1) 16=true:=qp (by omega) (by decide) (by decide);unfold s6;rw [<-wG d j];cases b with|true=>simp_all [dT,gA,cM,dO,dE,bV]|false=>cases r:gA xs[i].2.1 c with|true=>simp_all [dT,cM,dO,dE,bV]|false=>cases o:dO c xs[i].2.1 with|true=>simp_all [dT,cM,dE,bV]|false=>simp_all [dT,cM,dE,bV]
   · unfold s6;grind
 · unfold Lz.b0;exact uM (Int.le_refl _) rfl
def n9{A:Type}(l:List A)(k:Nat)(y:A):List A:=l.take k++y::l.drop k
theorem Jj{A:Type}{l:List A}{k:Nat}{y:A}(h:k<=l.length):(n9 l k y).length=l.length+1:=by grind[n9]
theorem Jk{A:Type}{l:List A}{k:Nat}{y z:A}(h:k<=l.length):List.set (n9 l k y) k z=n9 l k z:=by simp_all[n9]
theorem IK{A:Type}{l:List A}{k:Nat}{y:A}(h:k<=l.length):(n9 l k y)[k]?=some y:=by grind[n9]
theorem L9{A:Type}{l:List A}{k i:Nat}{y:A}(h:k<=l.length)(a:i<k):(n9 l k y)[i]?=l[i]?:=by grind[n9]
theorem Q9{A:Type}{l:List A}{k:Nat}(h:k<l.length):n9 l (k+1) l[k]=n9 l k l[k]:=by grind[n9,List.take_succ_eq_append_getElem,List.drop_eq_getElem_cons,List.append_assoc]
theorem TE{A:Type}{l:List A}{y:A}:n9 l l.length y=l++[y]:=by grind[n9]
theorem D6{A:Type}{l:List A}{k:Nat}{x:A}(h:l[k]?=some x):bK l (k:Int)=some x:=by grind[bK,cB]
theorem D7{A:Type}{l:List A}{k:Nat}{x:A}(h:l[k]?=some x):aC l (Int.toNat (k:Int))=some x:=h
theorem cl{A:Type}{b:Bool}{t e r:A}(h:b=true)(a:t=r):(bif b then t else e)=r:=by grind
theorem DQ{A B F:Type}{a d:A}{b c:B}(f:a=d)(e:b=c):(some (Sum.inl (a,(b,()))):Option (Sum (A×(B×Unit)) F))=some (Sum.inl (d,(c,()))):=by grind
theorem PJ(es:af)(a:Nat)(xs:List es.D)(y:es.D)(p:Nat)(b:p<=xs.length)(c:dE (xs.length+1) a=true):Ao es a ((xs,()),(((p:Int),()),(([y],()),())))=some ((n9 xs p y,()),()):=by grind[af.D,Ao,n9,km,dE,bV]
theorem Jl{a b:Int}(h:dO a b=true):gA a b=false/\dO b a=false:=by grind[gA,dO]
theorem KJ(n a:Int):∀(xs:List dT)(p:Nat)(f:p<xs.length),(∀i(h:i<xs.length),i<p->dO xs[i].2.1 a=true)->gA xs[p].2.1 a=true->l8 n a xs=xs.set p (cM .i64 xs[p].1 n,xs[p].2)|x::r,0,_,_,h=>by simp only[l8,List.getElem_cons_zero]at h⊢;grind|x::r,p+1,f,c,h=>by have b:=Jl (c 0 (by simp) (by omega));simp only[List.getElem_cons_zero]at b;have g:=KJ n a r p (by grind) (λi e d=>c (i+1) (Nat.succ_lt_succ e) (Nat.succ_lt_succ d)) (by grind);simp only[l8,b.1,b.2,cond_false,List.set_cons_succ,List.getElem_cons_succ,g]
theorem KK(n a:Int):∀(xs:List dT)(p:Nat)(_:p<=xs.length),(∀i(h:i<xs.length),i<p->dO xs[i].2.1 a=true)->(∀h:p<xs.length,dO a xs[p].2.1=true)->l8 n a xs=n9 xs p (n,(a,()))
 |[],0,_,_,_=>rfl|x::r,0,_,_,h=>by
  have b:=h (by simp);simp only[List.getElem_cons_zero]at b;have :gA x.2.1 a=false:=by grind[gA,dO,Jl]
  simp_all[dT,l8,n9,gA,cM,dO]|x::r,p+1,j,c,h=>by have b:=Jl (c 0 (by simp) (by omega));simp only[List.getElem_cons_zero]at b;have g:=KK n a r p (by grind) (λi e d=>c (i+1) (Nat.succ_lt_succ e) (Nat.succ_lt_succ d)) (λf=>h (Nat.succ_lt_succ f));simp only[l8,b.1,b.2,cond_false,g];rfl
theorem TF(d:ByteArray)(j l g:Int)(xs:List dT)(n b:Int)(H:xs.length<=4)(D:TC (λz y=>dO z.2.1 y.2.1) xs):Fw ((d,(j,(l,(g,(xs,()))))),((n,()),((b,()),())))=some ((d,(j,(l,(g,(l8 n b xs,()))))),()):=by
 have q:Al xs.length:=by omega
 obtain⟨p,t,m,v⟩:=OV (λx=>dO x.2.1 b) xs;have r:∀i (a:i<xs.length),gA xs[i].2.1 b=false->Fw.b0 ((d,(j,(l,(g,(xs,()))))),((n,()),((b,()),()))) ((i:Int),())=some (.inl (((i+1:Nat):Int),())):=λi a o=>by unfold Fw.b0;exact uL (Int.ofNat_lt.2 a) (bw (cB a) (bw (jl a) (uN o (BF (wG a q)))))
 unfold Fw;by_cases C:∃h:p<xs.length,gA xs[p].2.1 b=true;·obtain⟨c,o⟩:=C;have u:=cK (f:=Fw.b0 ((d,(j,(l,(g,(xs,()))))),((n,()),((b,()),())))) (λi=>((i:Int),())) p (e:=Sum.inr ((d,(j,(l,(g,(xs.set p (cM .i64 xs[p].1 n,xs[p].2),()))))),())) (λi a=>r i (by omega) (Jl (m i (by omega) a)).1) (by unfold Fw.b0;exact uL (Int.ofNat_lt.2 c) (bw (cB c) (bw (jl c) (cl o (bw (cB c) (bw (jl c) (bw (cB c) (bw (jl c) rfl))))))));rw[KJ n b xs p c m o];grind
 · have s:∀i (a:i<xs.length),p<=i->dO b xs[i].2.1=true:=λi a E=>by
    have c:p<xs.length:=by omega
    have G:gA xs[p].2.1 b=false:=by grind
    have I:=v c;have w:p=i\/dO xs[p].2.1 xs[i].2.1=true:=by
     rcases Nat.lt_or_ge p i with h|h;· exact .inr (D p i c a h)
     omega
    rcases w with rfl|w;· simp only[dO,gA,decide_eq_true_eq,decide_eq_false_iff_not]at*;omega
    · simp only[dO,gA,decide_eq_true_eq,decide_eq_false_iff_not]at*;omega
   have A:∀i (a:i<xs.length),gA xs[i].2.1 b=false:=λi a=>by
    rcases Nat.lt_or_ge i p with h|h;· exact (Jl (m i a h)).1
    · have :=s i a h;simp only[dO,gA,decide_eq_true_eq,decide_eq_false_iff_not]at*;omega
   have u:=cK (f:=Fw.b0 ((d,(j,(l,(g,(xs,()))))),((n,()),((b,()),())))) (λi=>((i:Int),())) xs.length (e:=Sum.inl ((xs.length:Int),())) (λi a=>r i a (A i a)) (by unfold Fw.b0;exact uM (Int.le_refl _) rfl);have B:=KI (S:=Int×Unit) xs (λx=>dO x.2.1 b) (f:=Fw.b1 ((d,(j,(l,(g,(xs,()))))),((n,()),((b,()),())))) (λk=>(k,())) (λk=>Sum.inl (k,())) (λi a=>by unfold Fw.b1;refine uL (Int.ofNat_lt.2 a) (bw (cB a) (bw (jl a) ?_));rw[<-wG a q]) (by unfold Fw.b1;exact uM (Int.le_refl _) rfl) t m v;have F:dE (xs.length+1) 16=true:=qp (by omega) (by decide) (by decide);rw[KK n b xs p t m (λh=>s p h (Nat.le_refl _))];refine bw u (bw B (bw (y:=((n9 xs p (n,(b,())),()),())) ?_ rfl));unfold YL;grind[PJ,w5,Ty.D,af.D]
def pb(s:ByteArray)(n:Int):bm:=(s,(n,(0,(0,([],())))))
theorem Ra(l:List bm)(s:ByteArray)(h:ct l)(b:l.any (λa=>ko a.1 s)=true):ET ((l,()),((s,()),()))=some ((l,()),()):=by unfold ET;exact bw (G0 l h) (bw (w7 l s h.1.l) (cl (AG.trans b) rfl))
theorem Rb(l:List bm)(s:ByteArray)(h:ct l)(x:l.any (λa=>ko a.1 s)=false)(p:Nat)(o:p<=l.length)(C:∀i(m:i<l.length),i<p->ob l[i].1 s=true)(v:∀i(m:i<l.length),p<=i->(!(ob l[i].1 s||ko l[i].1 s))=true):ET ((l,()),((s,()),()))=some ((n9 l p (pb s 0),()),()):=by
 have q:Al (l.length+1):=by have :=h.1;omega
 let b:Nat->Int×(List bm×Unit):=λk=>((k:Int),(n9 l k ((l[k]?).getD (pb ⟨#[]⟩ 0)),()));have r:∀k (c:k<l.length),p<=k->ET.b0 ((l,()),((s,()),())) (b (k+1))=some (.inl (b k)):=λk c t=>by
  have e:gS .i64 ((k+1:Nat):Int) 1=(k:Int):=DA (n:=k+1) (by omega) (by omega);have g:(n9 l (k+1) ((l[k+1]?).getD (pb ⟨#[]⟩ 0)))[k]?=some l[k]:=by rw[L9 (by omega) (by omega),List.getElem?_eq_getElem c]
  have gi:bK (n9 l (k+1) ((l[k+1]?).getD (pb ⟨#[]⟩ 0))) (gS .i64 ((k+1:Nat):Int) 1)=some l[k]:=by rw[e];exact D6 g
  have j:aC (n9 l (k+1) ((l[k+1]?).getD (pb ⟨#[]⟩ 0))) (Int.toNat (gS .i64 ((k+1:Nat):Int) 1))=some l[k]:=by rw[e];exact D7 g
  have d:=IK (l:=l) (k:=k+1) (y:=(l[k+1]?).getD (pb ⟨#[]⟩ 0)) (by omega);unfold ET.b0;refine uL (by grind) (bw gi (bw j (cl (v k c t) (bw gi (bw j (bw (D6 d) (bw (D7 d) (bw rfl (DQ e ?_)))))))));show List.set (n9 l (k+1) ((l[k+1]?).getD (pb ⟨#[]⟩ 0))) (k+1) l[k]=n9 l k ((l[k]?).getD (pb ⟨#[]⟩ 0));rw[Jk (by omega),Q9 c,List.getElem?_eq_getElem c];rfl
 have z:ET.b0 ((l,()),((s,()),())) (b p)=some (.inr (.inl (b p))):=by cases p with|zero=>unfold ET.b0;exact uM (Int.le_refl _) rfl|succ k=>
  have c:k<l.length:=by omega
  have e:gS .i64 ((k+1:Nat):Int) 1=(k:Int):=DA (n:=k+1) (by omega) (by omega);have g:(n9 l (k+1) ((l[k+1]?).getD (pb ⟨#[]⟩ 0)))[k]?=some l[k]:=by rw[L9 (by omega) (by omega),List.getElem?_eq_getElem c]
  have gi:bK (n9 l (k+1) ((l[k+1]?).getD (pb ⟨#[]⟩ 0))) (gS .i64 ((k+1:Nat):Int) 1)=some l[k]:=by rw[e];exact D6 g
  have j:aC (n9 l (k+1) ((l[k+1]?).getD (pb ⟨#[]⟩ 0))) (Int.toNat (gS .i64 ((k+1:Nat):Int) 1))=some l[k]:=by rw[e];exact D7 g
  unfold ET.b0;grind
 have A:=cK (f:=ET.b0 ((l,()),((s,()),()))) (λi=>b (l.length-i)) (l.length-p) (e:=Sum.inl (b p)) (λi m=>by have :=r (l.length-i-1) (by omega) (by omega);rw[show l.length-i-1+1=l.length-i by omega]at this;omega) (by rw[show l.length-(l.length-p)=p by omega];omega);have B:(gS .i64 (List.length (bV l [pb ⟨#[]⟩ 0]):Int) 1,(bV l [pb ⟨#[]⟩ 0],()))=b (l.length-0):=by have e:gS .i64 ((l.length+1:Nat):Int) 1=(l.length:Int):=DA (n:=l.length+1) (by omega) q;have w:bV l [pb ⟨#[]⟩ 0]=l++[pb ⟨#[]⟩ 0]:=rfl;rw [w,List.length_append,List.length_singleton,e];show _=((l.length:Int),(n9 l l.length ((l[l.length]?).getD (pb ⟨#[]⟩ 0)),()));simp_all [bm,pb,n9,TE]
 have u:aR (ET.b0 ((l,()),((s,()),()))) (gS .i64 (List.length (bV l [pb ⟨#[]⟩ 0]):Int) 1,(bV l [pb ⟨#[]⟩ 0],()))=some (Sum.inl (b p)):=by grind
 have d:=IK (l:=l) (k:=p) (y:=(l[p]?).getD (pb ⟨#[]⟩ 0)) o;unfold ET;refine bw (G0 l h) (bw (w7 l s h.1.l) (uN (AG.trans x) (Cm (by show l.length+1<=1048577;have :=h.1;omega) (by decide) (by decide) (bw u (bw (D6 d) (bw (D7 d) (bw rfl ?_)))))));show some ((List.set (n9 l p ((l[p]?).getD (pb ⟨#[]⟩ 0))) p (pb s 0),()),())=_;rw [Jk o]
def Rc(a:bm)(n:Int):bm:=(a.1,(cM .i64 a.2.1 n,a.2.2))
theorem M8(l:List bm)(s:ByteArray)(n:Int)(b:Al l.length)(j:Nat)(a:j<l.length)(c:tA l s=(j:Int)):IA ((l,()),((s,()),((n,()),())))=some ((l.set j (Rc l[j] n),()),()):=by unfold IA;exact bw ((Jh l s b).trans (by rw[c])) (cl (by simp[km]) (bw (cB a) (bw (jl a) (bw (cB a) (bw (jl a) rfl)))))
theorem M9(l:List bm)(s:ByteArray)(n:Int)(h:ct l)(o:l.any (λa=>ko a.1 s)=false)(p:Nat)(d:p<=l.length)(m:∀i(b:i<l.length),i<p->ob l[i].1 s=true)(g:∀b:p<l.length,ob l[p].1 s=false):IA ((l,()),((s,()),((n,()),())))=some ((n9 l p (pb s n),()),()):=by have c:Al l.length:=h.1.l;have e:dE (l.length+1) 64=true:=qp (by have :=h.1;omega) (by decide) (by decide);have j:=KI (S:=Int×Unit) l (λx=>ob x.1 s) (f:=IA.b0 ((l,()),((s,()),((n,()),())))) (λk=>(k,())) (λk=>Sum.inl (k,())) (λi b=>by unfold IA.b0;refine uL (Int.ofNat_lt.2 b) (bw (cB b) (bw (jl b) ?_));rw[<-wG b c]) (by unfold IA.b0;exact uM (Int.le_refl _) rfl) d m g;unfold IA;refine bw (Jh l s c) (uN (AG.trans o) (bw j (bw (y:=((n9 l p (pb s n),()),())) ?_ rfl)));unfold YK;exact PJ cf 64 l (pb s n) p d e
theorem TG(l:List bm)(s:ByteArray)(p:Nat)(b:p<=l.length)(d:∀i(f:i<l.length),i<p->ob l[i].1 s=true)(n:Int):tA (n9 l p (pb s n)) s=(p:Int):=by
 have :(n9 l p (pb s n)).findIdx? (λa=>ko a.1 s)=some p:=by
  rw[List.findIdx?_eq_some_iff_getElem];have e:=Jj (l:=l) (k:=p) (y:=pb s n) b;refine⟨by omega,?_,λj c=>?_⟩;·have h:=IK (l:=l) (k:=p) (y:=pb s n) b;rw[List.getElem?_eq_getElem (by omega)]at h;rw[Option.some.inj h];exact xD s
  ·have h:=L9 (l:=l) (k:=p) (y:=pb s n) b c;rw[List.getElem?_eq_getElem (by omega),List.getElem?_eq_getElem (by omega)]at h;rw[Option.some.inj h,(EX).Sl _ _ (d j (by omega) c)];decide
 unfold tA nY;grind
theorem TH(l:List bm)(s:ByteArray)(n:Int)(h:ct l)(w:TC (λz y=>ob z.1 y.1) l)(C:-9223372036854775808<=n/\n<=9223372036854775807):∃Y:List bm,∃k:Nat,∃r:k<Y.length,ET ((l,()),((s,()),()))=some ((Y,()),())/\Al Y.length/\tA Y s=(k:Int)/\IA ((l,()),((s,()),((n,()),())))=some ((Y.set k (Rc Y[k] n),()),())/\∀a∈Y,a∈l\/a=pb s 0:=by
 rcases mA l (λa=>ko a.1 s) with⟨d,_,_⟩|⟨j,q,_,_,d,_,b⟩
 · obtain⟨p,c,g,o⟩:=OV (λa=>ob a.1 s) l;have t:∀i (b:i<l.length),ko l[i].1 s=false:=λi b=>by grind
   have A:∀i (b:i<l.length),p<=i->ob l[i].1 s=false:=λi b u=>by
    have f:p<l.length:=by omega
    have v:=(EX).Zk _ _ (o f) (t p f);have D:ob s l[i].1=true:=by
     rcases Nat.lt_or_ge p i with m|m;· exact (EX).tr _ _ _ v (w p i f b m)
     grind
    have B:=yX l[i].1 s;grind
   have r:p<(n9 l p (pb s 0)).length:=by rw[Jj c];omega
   have x:(n9 l p (pb s 0))[p]=pb s 0:=by simp_all[bm,n9,pb,IK]
   refine⟨n9 l p (pb s 0),p,r,Rb l s h d p c g (λi b u=>by grind),by rw[Jj c];have :=h.1;omega,TG l s p c g 0,?_,λa e=>?_⟩;· rw[M9 l s n h d p c g o,x,Jk c];have :cM .i64 0 n=n:=(ed (by omega) (by omega)).trans (by omega);unfold Rc pb;grind
   · unfold n9 at e;grind
 · exact⟨l,j,q,Ra l s h d,h.1.l,b,M8 l s n h.1.l j q b,λa e=>.inl e⟩
theorem PK{l:List bm}(h:TC (λz y=>ob z.1 y.1) l){j:Nat}(f:j<l.length){a:bm}(g:a.1=l[j].1):TC (λz y=>ob z.1 y.1) (l.set j a):=by
 have c:∀i (b:i<(l.set j a).length),(l.set j a)[i].1=(l[i]'(by grind)).1:=λi b=>by grind
 intro i k b e d;show ob (l.set j a)[i].1 (l.set j a)[k].1=true;rw[c i b,c k e];exact h i k _ _ d
theorem GB{es:af}{l:List es.D}(h:(Ty.sl es).Ok l){j:Nat}{a:es.D}(d:es.Ok a):(Ty.sl es).Ok (l.set j a):=Dk (by rw[List.length_set];exact h.1) (λy b=>by
 rcases List.mem_or_eq_of_mem_set b with c|rfl;·exact Ae h.2 c
 omega)
theorem KL{l:List bm}(h:ct l){j:Nat}{a:bm}(d:W1 (List.length a.2.2.2.2.1)):ct (l.set j a):=⟨by rw[List.length_set];exact h.1,λy b=>by
 rcases List.mem_or_eq_of_mem_set b with c|rfl;·exact h.2 y c
 omega⟩
theorem GC(n b:Int)(c:(Lit.int .i64 n).wf=true)(e:(Lit.int .i64 b).wf=true):∀xs:List dT,(∀y∈xs,w5.Ok y)->∀y∈l8 n b xs,w5.Ok y|[],_,y,a=>by simp only[l8,List.mem_singleton]at a;subst a;exact⟨c,e,trivial⟩|x::r,h,y,a=>by have g:=h x (List.mem_cons_self ..);simp only[l8]at a;cases d:gA x.2.1 b with
 |true=>
 rw[d]at a;rcases List.mem_cons.1 a with rfl|a;·exact⟨Dm .i64 _,g.2.1,trivial⟩
 grind|false=>cases f:dO b x.2.1 with
 |true=>
 rw[d,f]at a;rcases List.mem_cons.1 a with rfl|a;·exact⟨c,e,trivial⟩
 grind|false=>
 rw[d,f]at a;rcases List.mem_cons.1 a with rfl|a;·exact g
 ·exact GC n b c e r (λz i=>h z (List.mem_cons_of_mem _ i)) y a
theorem FB(n a:Int):∀xs:List dT,(l8 n a xs).length<=xs.length+1|[]=>Nat.le_refl _|x::r=>by have :=FB n a r;simp only[l8];grind
theorem n5{x:ek}(h:bk x=true):x.2.1.length<=12/\(∀a∈x.2.1,List.length a.2.2.2.2.1<=4/\TC (λz y=>dO z.2.1 y.2.1) a.2.2.2.2.1)/\TC (λz y=>ob z.1 y.1) x.2.1:=by
 unfold bk sM at h;simp only[Bool.and_eq_true]at h;obtain⟨_,m,g,_⟩:=h;have e:∀i (d:i<x.2.1.length),rv x.2.1[i]=true/\lO (λz y=>ob z.1 y.1) x.2.1 i x.2.1[i]=true:=λi d=>by have :=xJ m i d;simp_all[rv,bm,lO,ob,dT,D0]
 refine⟨by simp only[km,decide_eq_true_eq]at g;omega,λa n=>?_,TD (lt:=λ(z y:bm)=>ob z.1 y.1) (λa b c=>(EX).tr a.1 b.1 c.1) (λi d=>(e i d).2)⟩;obtain⟨i,d,rfl⟩:=List.getElem_of_mem n;have :=(e i d).1;unfold rv at this;simp only[Bool.and_eq_true]at this;obtain⟨_,_,_,_,l,f⟩:=this;refine⟨by simp only[km,decide_eq_true_eq]at l;omega,TD (lt:=λ(z y:dT)=>dO z.2.1 y.2.1) (λa b c=>(IJ).tr a.2.1 b.2.1 c.2.1) (λk j=>?_)⟩;unfold tv at f;have :=xJ f k j;simp_all[Di,dT,bm,lO,dO,GY]
theorem At{x:ek}(h:bk x=true):ct x.2.1:=⟨by have :=(n5 h).1;omega,λa b=>by have :=((n5 h).2.1 a b).1;omega⟩
theorem WJ(L:ek)(t:cp)(j:Nat)(q:j<L.2.1.length)(F:(Ty.sl cf).Ok L.2.1)(Q:bk L=true)(H:iv.Ok t)(C:M1 t=true):∃R:ek,LA (L,(t,(((j:Int),()),())))=some (R,())/\QS (L,(((j:Int),()),(t,())))=some (R,())/\(Ty.sl cf).Ok R.2.1:=by
 obtain⟨i,xs,⟨⟩⟩:=L;simp only at q F;obtain⟨U,M,K⟩:=n5 Q;have s:=At Q;simp only at U M K s;have ε:Al xs.length:=by omega
 have d:=Ae F.2 (List.getElem_mem q);have v:=M _ (List.getElem_mem q);have D:=s.2 _ (List.getElem_mem q);have θ:(xs[j]:bm)=xs[j]:=rfl;generalize I:xs[j]=a at d v D;obtain⟨l,n,o,m,f,⟨⟩⟩:=a;let b:bm:=(l,(n,(cM .i64 o 1,(m,(f,())))));have A:(Ty.sl cf).Ok (xs.set j b):=GB F ⟨d.1,d.2.1,Dm .i64 _,d.2.2.2.1,d.2.2.2.2.1,trivial⟩;have T:TC (λz y=>ob z.1 y.1) (xs.set j b):=PK K q (by rw[I]);have X:ct (xs.set j b):=KL s D;have E:j<(xs.set j b).length:=by grind
 have gi:bK xs (j:Int)=some (l,(n,(o,(m,(f,()))))):=by rw[cB q,I]
 have g:aC xs (Int.toNat (j:Int))=some (l,(n,(o,(m,(f,()))))):=by rw[jl q,I]
 have e:aC (List.set xs (Int.toNat (j:Int)) b) (Int.toNat (j:Int))=some b:=BB q;cases r:gA t.1 1 with|true=>
 let c:bm:=(l,(gS .i64 n t.2.2.2.1,(cM .i64 o 1,(m,(f,())))));have u:(Ty.sl cf).Ok ((xs.set j b).set j c):=GB A ⟨d.1,Dm .i64 _,Dm .i64 _,d.2.2.2.1,d.2.2.2.2.1,trivial⟩;have S:TC (λz y=>ob z.1 y.1) ((xs.set j b).set j c):=PK T E (by grind);have V:ct ((xs.set j b).set j c):=KL X D;obtain ⟨Y,k,w,δ,N,β,α,W⟩:=TH ((xs.set j b).set j c) t.2.2.1 t.2.2.2.1 V S (DW H.2.2.2.1);have J:(Ty.sl cf).Ok Y:=Dk N (λy G=>by
 rcases W y G with h|rfl;·exact Ae u.2 h
 ·exact ⟨H.2.2.1,rfl,rfl,rfl,CK,trivial⟩);have P:=Ae J.2 (List.getElem_mem w);refine ⟨(i,(Y.set k (Rc Y[k] t.2.2.2.1),())),?_,?_,GB J ⟨P.1,Dm .i64 _,P.2.2⟩⟩;·unfold LA;exact bw (kb (i,(xs,())) s) (bw gi (bw g (bw g (bw rfl (bw (y:=Sum.inl (Y.set k (Rc Y[k] t.2.2.2.1),())) (cl r (bw e (bw e (bw rfl (bw δ (bw ((w7 Y _ N).trans (by rw[β])) (bw (cB w) (bw (jl w) (bw (cB w) (bw (jl w) (bw rfl rfl))))))))))) rfl)))))
 · unfold QS
   exact bw gi (bw g (bw g (bw rfl (bw (y:=Sum.inl (Y.set k (Rc Y[k] t.2.2.2.1),())) (cl r (bw e (bw e (bw rfl (bw α rfl))))) rfl))))|false=>cases x:gA t.1 2 with|true=>
 let c:bm:=(l,(gS .i64 n t.2.2.2.1,(cM .i64 o 1,(m,(f,())))));let a3:bm:=(l,(gS .i64 n t.2.2.2.1,(cM .i64 o 1,(cM .i64 m t.2.2.2.1,(f,())))));have p:aC (List.set (List.set xs (Int.toNat (j:Int)) b) (Int.toNat (j:Int)) c) (Int.toNat (j:Int))=some c:=BB E;have u:(Ty.sl cf).Ok ((xs.set j b).set j c):=GB A ⟨d.1,Dm .i64 _,Dm .i64 _,d.2.2.2.1,d.2.2.2.2.1,trivial⟩;have B:(Ty.sl cf).Ok (((xs.set j b).set j c).set j a3):=GB u ⟨d.1,Dm .i64 _,Dm .i64 _,Dm .i64 _,d.2.2.2.2.1,trivial⟩;refine ⟨(i,(((xs.set j b).set j c).set j a3,())),?_,?_,B⟩;· unfold LA;exact bw (kb (i,(xs,())) s) (bw gi (bw g (bw g (bw rfl (bw (y:=Sum.inl (((xs.set j b).set j c).set j a3,())) (uN r (cl x (bw e (bw e (bw rfl (bw p (bw p (bw rfl rfl)))))))) rfl)))))
 · unfold QS;exact bw gi (bw g (bw g (bw rfl (bw (y:=Sum.inl (((xs.set j b).set j c).set j a3,())) (uN r (cl x (bw e (bw e (bw rfl (bw p (bw p (bw rfl rfl)))))))) rfl))))|false=>
 have γ:gA t.1 3=true:=by unfold M1 at C;rw[r] at C;simp only[Bool.and_eq_true,cond_false,Di,km,decide_eq_true_eq] at C;grind[gA]
 let O:=l8 t.2.2.2.1 (cM .i64 i 2) f;let c:bm:=(l,(n,(cM .i64 o 1,(gS .i64 m t.2.2.2.1,(f,())))));let a3:bm:=(l,(n,(cM .i64 o 1,(gS .i64 m t.2.2.2.1,(O,())))));have p:aC (List.set (List.set xs (Int.toNat (j:Int)) b) (Int.toNat (j:Int)) c) (Int.toNat (j:Int))=some c:=BB E;have Z:(Ty.sl w5).Ok O:=Dk (by have :=FB t.2.2.2.1 (cM .i64 i 2) f;have :=v.1;simp only at this;show List.length (l8 _ _ _)<=_;omega) (GC _ _ H.2.2.2.1 (Dm .i64 _) f (λy G=>Ae d.2.2.2.2.1.2 G));have u:(Ty.sl cf).Ok ((xs.set j b).set j c):=GB A ⟨d.1,d.2.1,Dm .i64 _,Dm .i64 _,d.2.2.2.2.1,trivial⟩;have B:(Ty.sl cf).Ok (((xs.set j b).set j c).set j a3):=GB u ⟨d.1,d.2.1,Dm .i64 _,Dm .i64 _,Z,trivial⟩;refine ⟨(i,(((xs.set j b).set j c).set j a3,())),?_,?_,B⟩;· unfold LA;exact bw (kb (i,(xs,())) s) (bw gi (bw g (bw g (bw rfl (bw (y:=Sum.inl (((xs.set j b).set j c).set j a3,())) (uN r (uN x (bw e (bw e (bw rfl (bw p (bw (PI f t.2.2.2.1 (cM .i64 i 2) v.1) (bw p (bw rfl rfl))))))))) rfl)))))
 · unfold QS;exact bw gi (bw g (bw g (bw rfl (bw (y:=Sum.inl (((xs.set j b).set j c).set j a3,())) (uN r (uN x (cl γ (bw e (bw e (bw rfl (bw p (bw (TF l n (cM .i64 o 1) (gS .i64 m t.2.2.2.1) f t.2.2.2.1 (cM .i64 i 2) v.1 v.2) (bw rfl rfl))))))))) rfl))))
def Rd(t:cp)(a:bm):Int:=bif gA t.1 3 then a.2.2.2.1 else a.2.1
theorem OW(t:cp)(a:bm):Wg (a,((t.1,()),()))=some (I1 (Rd t a)):=by unfold Wg Rd;grind
theorem FC(t:cp)(a:bm){R:Type}:(bif gA t.1 3 then some (Sum.inl (a.2.2.2.1,()))else some (Sum.inl (a.2.1,())))=some (Sum.inl (Rd t a,()):Sum (Int×Unit) R):=by unfold Rd;grind
theorem Ma(a b:Int):gA a b=gA b a:=by grind[gA]
theorem Na(L:ek)(t:cp)(d:(Ty.sl cf).Ok L.2.1)(e:ct L.2.1)(r:iv.Ok t):∃(R:ek)(c:Int),A3 (L,(t,()))=some (R,((c,()),()))/\IB (L,(t,()))=some (R,((c,()),()))/\(Ty.sl cf).Ok R.2.1/\ct R.2.1/\(gA c 0=false->R=L)/\(R=L\/bk R=true):=by
 have B:=e.1.l;have s:=kb L e;have q:=FP L e;have g:=w7 L.2.1 t.2.1 B;have o:=Jh L.2.1 t.2.1 B;have sl:=mw L d;have n:=A5 L d;have k:=Wz t ⟨r.2.1,r.2.2.1⟩;have i:=Y2 t ⟨r.2.1,r.2.2.1⟩
 cases A:bk L with|false=>
  rw[A]at sl n;refine ⟨L,1,?_,?_,d,e,λ_=>rfl,.inl rfl⟩;·unfold A3;grind
  ·unfold IB;grind|true=>
 rw[A]at sl n
 cases y:M1 t with|false=>
  rw[y]at k i;refine ⟨L,1,?_,?_,d,e,λ_=>rfl,.inl rfl⟩;·unfold A3;grind
  ·unfold IB;grind|true=>
 rw[y]at k i;rcases mA L.2.1 (λa=>ko a.1 t.2.1)with ⟨_,_,m⟩|⟨j,b,_,_,_,_,m⟩
 · have m:tA L.2.1 t.2.1=-1:=m;rw[m]at g o;refine ⟨L,2,?_,?_,d,e,λ_=>rfl,.inl rfl⟩;· unfold A3;exact bw s (bw sl (uN rfl (bw k (uN rfl (bw g (cl rfl rfl))))))
   · unfold IB;exact bw o (bw n (uN rfl (bw i (uN rfl (cl rfl (bw q rfl))))))
 · have m:tA L.2.1 t.2.1=(j:Int):=m;rw[m]at g o
   have f:dO (j:Int) 0=false:=dD (Int.natCast_nonneg j);cases x:gA (L.2.1[j]).2.2.1 t.2.2.2.2.1 with|false=>
 refine ⟨L,3,?_,?_,d,e,λ_=>rfl,.inl rfl⟩;· unfold A3;exact bw s (bw sl (uN rfl (bw k (uN rfl (bw g (uN f (bw (cB b) (bw (FC t _) (cl (by grind) rfl)))))))))
 · unfold IB;exact bw o (bw n (uN rfl (bw i (uN rfl (uN f (bw (cB b) (cl (by rw[Ma,x];rfl) (bw q rfl))))))))|true=>cases p:dO (Rd t L.2.1[j]) t.2.2.2.1 with
 |true=>
 refine ⟨L,4,?_,?_,d,e,λ_=>rfl,.inl rfl⟩;· unfold A3;exact bw s (bw sl (uN rfl (bw k (uN rfl (bw g (uN f (bw (cB b) (bw (FC t _) (uN (by grind) (cl p rfl))))))))))
 · unfold IB;exact bw o (bw n (uN rfl (bw i (uN rfl (uN f (bw (cB b) (uN (by rw[Ma,x];rfl) (bw (cB b) (bw (OW t _) (cl p (bw q rfl)))))))))))
 |false=>obtain ⟨R,D,C,z⟩:=WJ L t j b d A r y;have v:=mw R z;have u:=A5 R z;cases w:bk R with|false=>
 rw[w]at v u;refine ⟨L,5,?_,?_,d,e,λ_=>rfl,.inl rfl⟩;· unfold A3;exact bw s (bw sl (uN rfl (bw k (uN rfl (bw g (uN f (bw (cB b) (bw (FC t _) (uN (by grind) (uN p (bw D (bw v (cl rfl rfl)))))))))))))
 · unfold IB;exact bw o (bw n (uN rfl (bw i (uN rfl (uN f (bw (cB b) (uN (by rw[Ma,x];rfl) (bw (cB b) (bw (OW t _) (uN p (bw q (bw C (bw u (cl rfl (bw q rfl)))))))))))))))|true=>
 rw[w]at v u;refine ⟨R,0,?_,?_,z,At w,λh=>by simp[gA]at h,.inr w⟩;· unfold A3;exact bw s (bw sl (uN rfl (bw k (uN rfl (bw g (uN f (bw (cB b) (bw (FC t _) (uN (by grind) (uN p (bw D (bw v (uN rfl rfl)))))))))))))
 · unfold IB;exact bw o (bw n (uN rfl (bw i (uN rfl (uN f (bw (cB b) (uN (by rw[Ma,x];rfl) (bw (cB b) (bw (OW t _) (uN p (bw q (bw C (bw u (uN rfl rfl))))))))))))))
theorem OX(L:ek)(t:cp)(a:(Ty.sl cf).Ok L.2.1)(b:ct L.2.1)(d:iv.Ok t):∃(R:ek)(c:Int),A3 (L,(t,()))=some (R,((c,()),()))/\IB (L,(t,()))=some (R,((c,()),()))/\(Ty.sl cf).Ok R.2.1/\ct R.2.1/\(gA c 0=false->R=L):=by obtain⟨R,c,h,f,e,i,g,_⟩:=Na L t a b d;grind
noncomputable def k9(L:ek)(t:cp):ek×Int:=match A3 (L,(t,()))with|some (R,((c,()),()))=>(R,c)|none=>(L,0)
theorem KM(L:ek)(t:cp)(a:(Ty.sl cf).Ok L.2.1)(b:ct L.2.1)(d:iv.Ok t):A3 (L,(t,()))=some ((k9 L t).1,(((k9 L t).2,()),()))/\IB (L,(t,()))=some ((k9 L t).1,(((k9 L t).2,()),()))/\(Ty.sl cf).Ok (k9 L t).1.2.1/\ct (k9 L t).1.2.1/\(gA (k9 L t).2 0=false->(k9 L t).1=L):=by
 obtain⟨R,c,e,g,f,i,h⟩:=OX L t a b d;have :k9 L t=(R,c):=by unfold k9;rw[e]
 grind
noncomputable def tB(s:Int×ek)(t:cp):Int×ek:=(bif gA (k9 s.2 t).2 0 then cM .i64 s.1 1 else s.1,(k9 s.2 t).1)
noncomputable def C8(L:ek)(a:List cp):Int×ek:=a.foldl tB (0,L)
theorem Jm(L:ek)(a:List cp)(m:(Ty.sl cf).Ok L.2.1)(d:ct L.2.1)(g:(Ty.sl iv).Ok a):Fv (L,((a,()),()))=some ((C8 L a).2,(((C8 L a).1,()),()))/\QT (L,((a,()),()))=some ((C8 L a).2,(((C8 L a).1,()),()))/\(Ty.sl cf).Ok (C8 L a).2.2.1/\ct (C8 L a).2.2.1:=by
 have l:Al a.length:=g.1;have h:=xL (S:=Int×(Int×(Int×(List bm×Unit)))) a tB (λ_ s=>(Ty.sl cf).Ok s.2.2.1/\ct s.2.2.1) (f:=Fv.b0 (L,((a,()),()))) (λs k=>(s.1,(k,(s.2.1,(s.2.2.1,()))))) (λs=>Sum.inl (s.1,((a.length:Int),(s.2.1,(s.2.2.1,()))))) (0,L) ⟨m,d⟩ (λi b s c=>by obtain⟨o,n,e,j,q⟩:=KM s.2 a[i] c.1 c.2 (Ae g.2 (List.getElem_mem b));refine⟨?_,e,j⟩;unfold Fv.b0 tB;refine uL (Int.ofNat_lt.2 b) (bw (cB b) (bw o ?_));rw[<-wG b l];grind) (λs _=>by unfold Fv.b0;exact uM (Int.le_refl _) rfl);have p:=xL (S:=Int×(Int×(Int×(List bm×Unit)))) a tB (λ_ s=>(Ty.sl cf).Ok s.2.2.1/\ct s.2.2.1) (f:=QT.b0 (L,((a,()),()))) (λs k=>(s.1,(k,(s.2.1,(s.2.2.1,()))))) (λs=>Sum.inl (s.1,((a.length:Int),(s.2.1,(s.2.2.1,()))))) (0,L) ⟨m,d⟩ (λi b s c=>by obtain⟨o,n,e,j,q⟩:=KM s.2 a[i] c.1 c.2 (Ae g.2 (List.getElem_mem b));refine⟨?_,e,j⟩;unfold QT.b0 tB;refine uL (Int.ofNat_lt.2 b) (bw (cB b) (bw n ?_));rw[<-wG b l];grind) (λs _=>by unfold QT.b0;exact uM (Int.le_refl _) rfl);refine⟨?_,?_,h.2.1,h.2.2⟩;·unfold Fv;exact bw (kb L d) (bw h.1 rfl)
 ·unfold QT;exact bw (FP L d) (bw p.1 rfl)
def i5(e:Int)(s:List dT×Int)(x:dT):List dT×Int:=bif km x.2.1 e then(s.1,cM .i64 s.2 x.1)else(s.1++[x],s.2)
def kj(e:Int)(a:bm):List dT×Int:=a.2.2.2.2.1.foldl (i5 e) ([],a.2.1)
def ds(e:Int)(a:bm):bm:=(a.1,((kj e a).2,(a.2.2.1,(a.2.2.2.1,((kj e a).1,())))))
theorem GF(e:Int):∀(xs:List dT)(s:List dT×Int),(Lit.int .i64 s.2).wf=true->(∀y∈s.1,w5.Ok y)->(∀y∈xs,w5.Ok y)->(Lit.int .i64 (xs.foldl (i5 e) s).2).wf=true/\(∀y∈(xs.foldl (i5 e) s).1,w5.Ok y)/\(xs.foldl (i5 e) s).1.length<=s.1.length+xs.length
 |[],s,b,a,_=>⟨b,a,Nat.le_refl _⟩|x::r,s,b,a,c=>by
  have i:=c x (List.mem_cons_self ..);have d:=λy f=>c y (List.mem_cons_of_mem _ f)
  simp only[List.foldl_cons,List.length_cons];cases h:km x.2.1 e with|true=>
  have :i5 e s x=(s.1,cM .i64 s.2 x.1):=by unfold i5;grind
  rw[this];have g:=GF e r (s.1,cM .i64 s.2 x.1) (Dm .i64 _) a d;grind|false=>
 have :i5 e s x=(s.1++[x],s.2):=by unfold i5;grind
 rw[this];have g:=GF e r (s.1++[x],s.2) b (λy f=>by grind) d;grind
theorem KN(e:Int)(a:bm)(h:cf.Ok a):cf.Ok (ds e a):=by
 have c:=GF e a.2.2.2.2.1 ([],a.2.1) h.2.1 (λy b=>by cases b) (λy b=>Ae h.2.2.2.2.1.2 b);have d:(a.2.2.2.2.1.foldl (i5 e) ([],a.2.1)).1.length<=List.length a.2.2.2.2.1:=by grind
 exact⟨h.1,c.1,h.2.2.1,h.2.2.2.1,Dk (Nat.le_trans d h.2.2.2.2.1.1) c.2.1,trivial⟩
theorem Jn(e:Int)(a:bm):List.length (ds e a).2.2.2.2.1<=List.length a.2.2.2.2.1:=by
 have d:∀(xs:List dT)(s:List dT×Int),(xs.foldl (i5 e) s).1.length<=s.1.length+xs.length:=by intro xs;induction xs with|nil=>grind|cons x r c=>
  intro s;have :=c (i5 e s x);have f:(i5 e s x).1.length<=s.1.length+1:=by unfold i5;grind
  grind
 have b:(a.2.2.2.2.1.foldl (i5 e) ([],a.2.1)).1.length<=List.length a.2.2.2.2.1:=by grind
 exact b
def vl(g:bm->bm)(xs:List bm)(k:Nat):List bm:=(xs.take k).map g++xs.drop k
theorem Jo(g:bm->bm)(xs:List bm)(k:Nat)(h:k<=xs.length):(vl g xs k).length=xs.length:=by simp_all[bm,vl]
theorem Jp(g:bm->bm){xs:List bm}{k:Nat}(h:k<xs.length):(vl g xs k)[k]?=some xs[k]:=by unfold vl;grind
theorem TJ(g:bm->bm){xs:List bm}{k:Nat}(h:k<xs.length):(vl g xs k).set k (g xs[k])=vl g xs (k+1):=by unfold vl;rw[List.set_append_right _ _ (by grind),List.length_map,List.length_take,show k-min k xs.length=0 by omega,List.drop_eq_getElem_cons h,List.set_cons_zero,List.take_succ_eq_append_getElem h,List.map_append,List.append_assoc];rfl
theorem DP{A B C F:Type}{a e:A}{b d:B}{c f:C}(h:a=e)(i:b=d)(g:c=f):(some (Sum.inl (a,(b,(c,())))):Option (Sum (A×(B×(C×Unit))) F))=some (Sum.inl (e,(d,(f,())))):=by grind
theorem TK(L:ek)(a:List bm)(j:Nat)(e:j<a.length)(o:List.length (a[j]).2.2.2.2.1<=4):aR (p6.b1 ((j:Int),(a,())) (L,())) ([],((0:Int),(a,())))=some (Sum.inl ((kj (cM .i64 L.1 1) a[j]).1,((List.length (a[j]).2.2.2.2.1:Int),(a.set j ((a[j]).1,((kj (cM .i64 L.1 1) a[j]).2,(a[j]).2.2)),())))):=by
 have c:Al (List.length (a[j]).2.2.2.2.1):=by omega
 have m:a.set j ((a[j]).1,((a[j]).2.1,(a[j]).2.2))=a:=List.set_getElem_self e;have g:∀s:Int,aC (a.set j ((a[j]).1,(s,(a[j]).2.2))) (Int.toNat (j:Int))=some ((a[j]).1,(s,(a[j]).2.2)):=λs=>BB e;have n:=(xL (S:=List dT×(Int×(List bm×Unit))) (a[j]).2.2.2.2.1 (i5 (cM .i64 L.1 1)) (λk s=>s.1.length<=k) (f:=p6.b1 ((j:Int),(a,())) (L,())) (λs k=>(s.1,(k,(a.set j ((a[j]).1,(s.2,(a[j]).2.2)),())))) (λs=>Sum.inl (s.1,((List.length (a[j]).2.2.2.2.1:Int),(a.set j ((a[j]).1,(s.2,(a[j]).2.2)),())))) ([],(a[j]).2.1) (Nat.le_refl _) (λi b s d=>by have d:s.1.length<=i:=d;have l:dE (s.1.length+1) 16=true:=qp (by omega) (by decide) (by decide);unfold i5;cases h:km ((a[j]).2.2.2.2.1[i]).2.1 (cM .i64 L.1 1) with|true=>refine⟨?_,by grind⟩;unfold p6.b1;refine bw (g s.2) (uL (Int.ofNat_lt.2 b) (bw (g s.2) (bw (cB b) (cl h (bw (g s.2) (bw (g s.2) (bw (cB b) (bw (g s.2) (bw rfl (DP rfl (wG b c) ?_))))))))));simp_all|false=>refine⟨?_,by grind⟩;unfold p6.b1;exact bw (g s.2) (uL (Int.ofNat_lt.2 b) (bw (g s.2) (bw (cB b) (uN h (bw (g s.2) (bw (cB b) (cl l (DP rfl (wG b c) rfl))))))))) (λs _=>by unfold p6.b1;exact bw (g s.2) (uM (Int.le_refl _) rfl))).1;simp_all[dT,bm,Fo,aR,p6.b1,kj,cM]
theorem Zl(L:ek)(a:List bm)(j:Nat)(e:j<a.length)(o:List.length (a[j]).2.2.2.2.1<=4):aR (Ej.b1 a[j] (L,()) ((j:Int),(a,()))) ([],((0:Int),(a,())))=some (Sum.inl ((kj (cM .i64 L.1 1) a[j]).1,((List.length (a[j]).2.2.2.2.1:Int),(a.set j ((a[j]).1,((kj (cM .i64 L.1 1) a[j]).2,(a[j]).2.2)),())))):=by
 have c:Al (List.length (a[j]).2.2.2.2.1):=by omega
 have m:a.set j ((a[j]).1,((a[j]).2.1,(a[j]).2.2))=a:=List.set_getElem_self e;have g:∀s:Int,aC (a.set j ((a[j]).1,(s,(a[j]).2.2))) (Int.toNat (j:Int))=some ((a[j]).1,(s,(a[j]).2.2)):=λs=>BB e;have n:=(xL (S:=List dT×(Int×(List bm×Unit))) (a[j]).2.2.2.2.1 (i5 (cM .i64 L.1 1)) (λk s=>s.1.length<=k) (f:=Ej.b1 a[j] (L,()) ((j:Int),(a,()))) (λs k=>(s.1,(k,(a.set j ((a[j]).1,(s.2,(a[j]).2.2)),())))) (λs=>Sum.inl (s.1,((List.length (a[j]).2.2.2.2.1:Int),(a.set j ((a[j]).1,(s.2,(a[j]).2.2)),())))) ([],(a[j]).2.1) (Nat.le_refl _) (λi b s d=>by have d:s.1.length<=i:=d;have l:dE (s.1.length+1) 16=true:=qp (by omega) (by decide) (by decide);unfold i5;cases h:km ((a[j]).2.2.2.2.1[i]).2.1 (cM .i64 L.1 1) with|true=>refine⟨?_,by grind⟩;unfold Ej.b1;refine uL (Int.ofNat_lt.2 b) (bw (cB b) (cl h (bw (g s.2) (bw (g s.2) (bw rfl (DP rfl (wG b c) ?_))))));simp_all|false=>refine⟨?_,by grind⟩;unfold Ej.b1;exact uL (Int.ofNat_lt.2 b) (bw (cB b) (uN h (cl l (DP rfl (wG b c) rfl))))) (λs _=>by unfold Ej.b1;exact uM (Int.le_refl _) rfl)).1;simp_all[dT,bm,Fo,aR,Ej.b1,kj,cM]
theorem OY(e:Int){xs:List bm}{j:Nat}(b:j<xs.length)(a:j<(vl (ds e) xs j).length):(((vl (ds e) xs j).set j (((vl (ds e) xs j)[j]).1,((kj e (vl (ds e) xs j)[j]).2,((vl (ds e) xs j)[j]).2.2))).set j (ds e (vl (ds e) xs j)[j]))=vl (ds e) xs (j+1):=by have h:=Jp (ds e) b;rw[List.getElem?_eq_getElem a]at h;rw[Option.some.inj h,List.set_set];grind[TJ,ds]
theorem Jq(L:ek)(g:(Ty.sl cf).Ok L.2.1)(d:ct L.2.1):∃R:ek,p6 (L,())=some (R,())/\Ej (L,())=some (R,())/\(Ty.sl cf).Ok R.2.1/\ct R.2.1/\(R=L\/R=(cM .i64 L.1 1,(L.2.1.map (ds (cM .i64 L.1 1)),()))/\bk L=true/\bk R=true):=by
 have r:=kb L d;have p:=FP L d;have sl:=mw L g;have m:=A5 L g
 cases o:bk L with|false=>
  rw[o]at sl m;refine⟨L,?_,?_,g,d,.inl rfl⟩;·unfold p6;grind
  ·unfold Ej;grind|true=>
 rw[o]at sl m;obtain⟨A,C,_⟩:=n5 o;have t:Al L.2.1.length:=d.1.l;let e:=cM .i64 L.1 1;let R:ek:=(e,(L.2.1.map (ds e),()));have n:(Ty.sl cf).Ok R.2.1:=Dk (by show (L.2.1.map (ds e)).length<=_;grind) (λy q=>by obtain⟨a,s,rfl⟩:=List.mem_map.1 q;exact KN e a (Ae g.2 s));have z:ct R.2.1:=⟨by grind,λy q=>by obtain⟨a,s,rfl⟩:=List.mem_map.1 q;exact Nat.le_trans (Jn e a) (d.2 a s)⟩;have B:vl (ds e) L.2.1 L.2.1.length=L.2.1.map (ds e):=by simp_all[bm,vl,ds]
 have w:∀k (c:k<L.2.1.length) (b:k<(vl (ds e) L.2.1 k).length),List.length ((vl (ds e) L.2.1 k)[k]).2.2.2.2.1<=4:=λk c b=>by have h:=Jp (ds e) c;grind
 have x:=cK (f:=p6.b0 (L,())) (λk=>((k:Int),(vl (ds e) L.2.1 k,()))) L.2.1.length (e:=Sum.inl ((L.2.1.length:Int),(L.2.1.map (ds e),()))) (λk c=>by
 have b:k<(vl (ds e) L.2.1 k).length:=by rw[Jo _ _ _ (by omega)];exact c
 unfold p6.b0;exact uL (Int.ofNat_lt.2 b) (bw (cB b) (bw (TK L _ k b (w k c b)) (bw (BB b) (bw rfl (DQ (wG c t) (OY e c b))))))) (by unfold p6.b0;refine uM (by grind) ?_;grind);have v:=cK (f:=Ej.b0 (L,())) (λk=>((k:Int),(vl (ds e) L.2.1 k,()))) L.2.1.length (e:=Sum.inl ((L.2.1.length:Int),(L.2.1.map (ds e),()))) (λk c=>by
 have b:k<(vl (ds e) L.2.1 k).length:=by rw[Jo _ _ _ (by omega)];exact c
 unfold Ej.b0;exact uL (Int.ofNat_lt.2 c) (bw (cB b) (bw (jl b) (bw (Zl L _ k b (w k c b)) (bw (BB b) (bw rfl (DQ (wG c t) (OY e c b)))))))) (by
 unfold Ej.b0;refine uM (Int.le_refl _) ?_
 grind);have j:=mw R n;have i:=A5 R n;cases u:bk R with|false=>
 rw[u]at j i;refine⟨L,?_,?_,g,d,.inl rfl⟩;·unfold p6;exact bw r (bw sl (uN rfl (bw x (bw j (cl rfl (bw r rfl))))))
 ·unfold Ej;exact bw m (uN rfl (bw p (bw v (bw i (cl rfl (bw p rfl))))))|true=>
 rw[u]at j i;refine⟨R,?_,?_,n,z,.inr ⟨rfl,rfl,by omega⟩⟩;·unfold p6;exact bw r (bw sl (uN rfl (bw x (bw j (uN rfl rfl)))))
 ·unfold Ej;exact bw m (uN rfl (bw p (bw v (bw i (uN rfl rfl)))))
theorem Re(L:ek)(a:(Ty.sl cf).Ok L.2.1)(b:ct L.2.1):∃R:ek,p6 (L,())=some (R,())/\Ej (L,())=some (R,())/\(Ty.sl cf).Ok R.2.1/\ct R.2.1:=by obtain⟨R,e,d,c,f,_⟩:=Jq L a b;grind
def EY{A S E:Type}(a:S->A->Sum S E)(b:S->E):List A->S->E|[],s=>b s|x::r,s=>match a s x with|.inl c=>EY a b r c|.inr e=>e
theorem Nb{S E A b:Type}(xs:List A)(g:b->A->Sum b E)(I:b->Prop){f:S->Option (Sum S E)}(mk:b->Int->S)(k:b->E)(j:b)(t:I j)(n:∀i (h:i<xs.length)s,I s->(∃d,g s xs[i]=.inl d/\I d/\f (mk s (i:Int))=some (.inl (mk d ((i+1:Nat):Int))))\/∃e,g s xs[i]=.inr e/\f (mk s (i:Int))=some (.inr e))(w:∀s,I s->f (mk s (xs.length:Int))=some (.inr (k s))):aR f (mk j 0)=some (EY g k xs j):=by
 have p:∀(c a:List A)(s:b),a++c=xs->I s->aR f (mk s (a.length:Int))=some (EY g k c s):=by intro c;induction c with|nil=>grind[aR,EY,cS]|cons x c v=>
  intro a s y r;have o:a.length<xs.length:=by grind
  have q:xs[a.length]=x:=by grind
  rcases n a.length o s r with⟨d,l,u,m⟩|⟨e,l,m⟩;·rw[q]at l;rw[de m];simp only[EY,l];have :=v (a++[x]) d (by grind) u;grind
  grind[aR,EY,cS]
 simpa using p xs [] j rfl t
noncomputable def j0(L:ek):ek:=match p6 (L,())with|some (R,())=>R|none=>L
theorem Jr(L:ek)(a:(Ty.sl cf).Ok L.2.1)(b:ct L.2.1):p6 (L,())=some (j0 L,())/\Ej (L,())=some (j0 L,())/\(Ty.sl cf).Ok (j0 L).2.1/\ct (j0 L).2.1:=by
 obtain⟨R,c,e,d,f⟩:=Re L a b;have :j0 L=R:=by unfold j0;rw[c]
 grind
def Rf(ys:List dT)(i:Nat)(x:dT):Bool:=match ys[i]? with|some y=>gA x.1 y.1&&gA x.2.1 y.2.1|none=>false
def KO(xs ys:List dT):Bool:=gA (xs.length:Int) (ys.length:Int)&&iK (Rf ys) 0 xs
def OZ(x y:bm):Bool:=ko x.1 y.1&&(gA x.2.1 y.2.1&&(gA x.2.2.1 y.2.2.1&&(gA x.2.2.2.1 y.2.2.2.1&&KO x.2.2.2.2.1 y.2.2.2.2.1)))
def O0(ys:List bm)(i:Nat)(x:bm):Bool:=match ys[i]? with|some y=>OZ x y|none=>false
def Js(a b:ek):Bool:=gA a.1 b.1&&(gA (a.2.1.length:Int) (b.2.1.length:Int)&&iK (O0 b.2.1) 0 a.2.1)
theorem Mb{n m:Nat}(h:gA (n:Int) (m:Int)=true):n=m:=by grind[gA]
theorem Zm(x y:bm)(c:Al (List.length x.2.2.2.2.1)):LW (x,(y,()))=some (B1 (OZ x y)):=by unfold LW OZ KO;refine Dx (Dx (Dx (Dx ?_)));cases d:gA (List.length x.2.2.2.2.1:Int) (List.length y.2.2.2.2.1:Int)with|false=>grind|true=>have b:=Mb d;have e:=yW (S:=Int×Unit) x.2.2.2.2.1 (Rf y.2.2.2.2.1) (f:=LW.b0 (x,(y,()))) (λk=>(k,())) (Sum.inl ((List.length x.2.2.2.2.1:Int),())) (Sum.inr (B1 false)) (λi a=>by unfold LW.b0 Rf;refine uL (Int.ofNat_lt.2 a) (bw (cB a) (bw (cB (b▸a)) ?_));rw[<-wG a c,List.getElem?_eq_getElem (b▸a)];grind) (by unfold LW.b0;exact uM (Int.le_refl _) rfl);grind
theorem Zn(xs ys:List dT)(c:Al xs.length):LV ((xs,()),((ys,()),()))=some (B1 (KO xs ys)):=by unfold LV KO;cases d:gA (xs.length:Int) (ys.length:Int)with|false=>grind|true=>have b:=Mb d;have e:=yW (S:=Int×Unit) xs (Rf ys) (f:=LV.b0 ((xs,()),((ys,()),()))) (λk=>(k,())) (Sum.inl ((xs.length:Int),())) (Sum.inr (B1 false)) (λi a=>by unfold LV.b0 Rf;refine uL (Int.ofNat_lt.2 a) (bw (cB a) (bw (cB (b▸a)) ?_));rw[<-wG a c,List.getElem?_eq_getElem (b▸a)];grind) (by simp_all[LV.b0,dT,uM,bK,gA,cM]);grind
theorem Zo(x y:bm)(a:Al (List.length x.2.2.2.2.1)):Wh (x,(y,()))=some (B1 (OZ x y)):=by unfold Wh OZ;exact Dy (Dy (Dy (Dy (bw (Zn _ _ a) rfl))))
theorem Zp(a b:ek)(h:ct a.2.1):Wl (a,(b,()))=some (B1 (Js a b)):=by have e:Al a.2.1.length:=h.1.l;unfold Wl Js;refine Dx ?_;cases g:gA (a.2.1.length:Int) (b.2.1.length:Int)with|false=>grind|true=>have d:=Mb g;have j:=yW (S:=Int×Unit) a.2.1 (O0 b.2.1) (f:=Wl.b0 (a,(b,()))) (λk=>(k,())) (Sum.inl ((a.2.1.length:Int),())) (Sum.inr (B1 false)) (λi c=>by unfold Wl.b0 O0;refine uL (Int.ofNat_lt.2 c) (bw (cB c) (bw (cB (d▸c)) (bw (Zm _ _ (h.2 _ (List.getElem_mem c)).l) ?_)));rw[<-wG c e,List.getElem?_eq_getElem (d▸c)];grind) (by unfold Wl.b0;exact uM (Int.le_refl _) rfl);grind
theorem TL(xs ys:List bm)(g:_)(h:ct xs)(d:∀x y:bm,Al (List.length x.2.2.2.2.1)->g (x.1,(x.2.1,(x.2.2.1,(x.2.2.2.1,(x.2.2.2.2.1,(y.1,(y.2.1,(y.2.2.1,(y.2.2.2.1,(y.2.2.2.2.1,()))))))))))=some (OZ x y,())):LU ((xs,()),((ys,()),((g,()),())))=some (B1 (gA (xs.length:Int) (ys.length:Int)&&iK (O0 ys) 0 xs)):=by have c:Al xs.length:=h.1.l;unfold LU;cases e:gA (xs.length:Int) (ys.length:Int)with|false=>grind|true=>have b:=Mb e;have j:=yW (S:=Int×Unit) xs (O0 ys) (f:=LU.b0 ((xs,()),((ys,()),((g,()),())))) (λk=>(k,())) (Sum.inl ((xs.length:Int),())) (Sum.inr (B1 false)) (λi a=>by unfold LU.b0 O0;refine uL (Int.ofNat_lt.2 a) (bw (cB a) (bw (cB (b▸a)) (bw (d _ _ (h.2 _ (List.getElem_mem a)).l) ?_)));rw[<-wG a c,List.getElem?_eq_getElem (b▸a)];grind) (by simp_all[LU.b0,bm,dT,uM,bK,cM]);grind
theorem Zq(a b:ek)(h:ct a.2.1):F47 (a,(b,()))=some (B1 (Js a b)):=by unfold F47 Js;exact Dy (bw (TL a.2.1 b.2.1 _ h (λx y c=>bw (Zo x y c) rfl)) rfl)
theorem Zr(l:List bm)(s:ByteArray)(p:ct l)(B:List.length l<=1000)(d:bm->Prop)(q:∀a∈l,d a)(w:d (⟨#[]⟩,(0,(0,(0,([],()))))))(t:d (pb s 0)):Y (ET ((l,()),((s,()),()))) (λy=>List.length y.1.1<=List.length l+1/\(∀a∈y.1.1,d a)/\y.1.1.any (λa=>ko a.1 s)=true):=by
 unfold ET;refine Y.eq (G0 l p) (Y.eq (w7 l s p.1.l) (Y.DY (λh=>Y.mk ⟨Nat.le_succ _,q,?_⟩) (λh=>Y.dE (by grind) (by decide) (by decide) ?_)))
 · have h:km 0 (tA l s)=true:=h;have h:=Cq.1 h;rcases mA l (λa=>ko a.1 s)with⟨_,_,F⟩|⟨j,C,_,_,i,_,_⟩;· simp_all[tA,bm,ko,dT]
   omega
 · refine Y.DZ (P:=λv=>0<=v.1/\v.1<(List.length v.2.1:Int)/\List.length v.2.1=List.length l+1/\∀a∈v.2.1,d a) (R:=λ_=>False) (Y.loop (I:=λv=>0<=v.1/\v.1<(List.length v.2.1:Int)/\List.length v.2.1=List.length l+1/\∀a∈v.2.1,d a) (λv=>v.1.toNat) (λv m=>?_) _ ?_) (λv m=>?_) (λ_ h=>h.elim);· obtain⟨k,o,u⟩:=v;obtain⟨c,b,f,g⟩:=m;dsimp only at c b f g;unfold ET.b0;refine Y.DY (λn=>?_) (λ_=>Y.rl ⟨c,b,f,g⟩);have n:0<k:=Cp.1 n;have e:gS .i64 k 1=k-1:=iz (by omega) (by omega);refine Y.Eb (by grind) (by grind) λz _=>Y.DY (λ_=>?_) (λ_=>Y.rl ⟨c,b,f,g⟩);refine Y.Eb (by grind) (by grind) λA D=>Y.Eb (by omega) (by omega) λE _=>Y.so (Y.l ?_);grind
   · have e:gS .i64 (List.length (bV l [((⟨#[]⟩,(0,(0,(0,([],()))))):bm)]):Int) 1=(List.length l:Int):=by unfold bV;rw [List.length_append,iz]<;>simp only [List.length_cons,List.length_nil]<;>omega
     have r:List.length (bV l [((⟨#[]⟩,(0,(0,(0,([],()))))):bm)])=List.length l+1:=by simp_all [bm,bV,dT]
     refine⟨?_,?_,r,λa i=>?_⟩;· grind
     · grind
     · rcases List.mem_append.1 i with h|h;· grind
       grind
   · obtain⟨k,o,u⟩:=v;obtain⟨c,b,f,g⟩:=m;dsimp only at c b f g;refine Y.Eb c b λx _=>Y.so (Y.mk ⟨?_,?_,?_⟩);· grind
     · intro a i;rcases List.mem_or_eq_of_mem_set i with G|rfl;· grind
       · exact t
     · rw [List.any_eq_true];exact⟨_,List.mem_set (show k.toNat<o.length by omega) _,by simp [ko]⟩
theorem WK(L:ek)(t:cp)(j:Nat)(ρ:j<L.2.1.length)(V:(Ty.sl cf).Ok L.2.1)(N:bk L=true)(S:iv.Ok t)(κ:M1 t=true):∃R:ek,LA (L,(t,(((j:Int),()),())))=some (R,())/\(Ty.sl cf).Ok R.2.1/\R.1=L.1:=by
 obtain⟨θ,T,_⟩:=n5 N;let n:bm->Prop:=λa=>cf.Ok a/\List.length a.2.2.2.2.1<=4;have W:=At N;have M:∀a∈L.2.1,n a:=λa i=>⟨Ae V.2 i,(T a i).1⟩;have o:∀{l:List bm}{k:Nat}{b:bm},(∀a∈l,n a)->n b->∀a∈l.set k b,n a:=λh τ a i=>by grind
 have w:∀x y:Int,(Lit.int .i64 (cM .i64 x y)).wf=true:=λx y=>Dm .i64 _;have D:∀x y:Int,(Lit.int .i64 (gS .i64 x y)).wf=true:=λx y=>Dm .i64 _;have γ:Y (LA (L,(t,(((j:Int),()),())))) (λy=>(List.length y.1.2.1<=1000/\∀a∈y.1.2.1,cf.Ok a)/\y.1.1=L.1):=by
  unfold LA;refine Y.eq (kb L W) (Y.Eb (Int.natCast_nonneg _) (by grind) λE Q=>Y.nT (by grind) λm B=>Y.so ?_);have z:=M _ B;have a4:∀a∈L.2.1.set (Int.toNat (j:Int)) (m.1,(m.2.1,(cM .i64 E.2.2.1 (1:Int),m.2.2.2))),n a:=o M ⟨⟨z.1.1,z.1.2.1,w _ _,z.1.2.2.2⟩,z.2⟩;have δ:List.length (L.2.1.set (Int.toNat (j:Int)) (m.1,(m.2.1,(cM .i64 E.2.2.1 (1:Int),m.2.2.2))))=L.2.1.length:=List.length_set;dsimp only;generalize L.2.1.set (Int.toNat (j:Int)) (m.1,(m.2.1,(cM .i64 E.2.2.1 (1:Int),m.2.2.2)))=z4 at a4 δ;have e:(Int.toNat (j:Int))<z4.length:=by omega
  refine Y.DZ (P:=λv=>List.length v.1<=1000/\∀a∈v.1,cf.Ok a) (R:=λ_=>False) (Y.DY (λ_=>?_) (λ_=>Y.DY (λ_=>?_) (λ_=>?_))) (λv ε=>Y.mk ⟨ε,rfl⟩) (λ_ h=>h.elim)
  · refine Y.nT e λf _=>Y.nT e λc r=>Y.so ?_;have d:=a4 _ r;have g:∀a∈z4.set (Int.toNat (j:Int)) (c.1,(gS .i64 f.2.1 t.2.2.2.1,c.2.2)),n a:=o a4 ⟨⟨d.1.1,D _ _,d.1.2.2⟩,d.2⟩;have s:List.length (z4.set (Int.toNat (j:Int)) (c.1,(gS .i64 f.2.1 t.2.2.2.1,c.2.2)))=L.2.1.length:=by grind
    generalize z4.set (Int.toNat (j:Int)) (c.1,(gS .i64 f.2.1 t.2.2.2.1,c.2.2))=p at g s;refine Y.bind (Zr p t.2.2.1 ⟨by omega,λa i=>by grind⟩ (by omega) n g ⟨⟨Nat.zero_le _,rfl,rfl,rfl,CK,trivial⟩,Nat.zero_le _⟩ ⟨⟨S.2.2.1,rfl,rfl,rfl,CK,trivial⟩,Nat.zero_le _⟩) λα G=>?_;obtain ⟨⟨u,_⟩,_⟩:=α;obtain ⟨Z,C,X⟩:=G;dsimp only at Z C X;refine Y.eq (w7 u t.2.2.1 (by omega)) ?_;rcases mA u (λa=>ko a.1 t.2.2.1) with ⟨A,_,_⟩|⟨k,σ,_,_,_,_,J⟩;· grind
    · have J:tA u t.2.2.1=(k:Int):=J;have K:(k:Int)<(List.length u:Int):=by omega
      dsimp only[I1];rw[J];refine Y.Eb (Int.natCast_nonneg _) K λμ _=>Y.Eb (Int.natCast_nonneg _) K λπ U=>Y.so (Y.l ⟨?_,λa i=>(o C ?_ a i).1⟩);· grind
      · have q:=C _ U;exact ⟨⟨q.1.1,w _ _,q.1.2.2⟩,q.2⟩
  · refine Y.nT e λf _=>Y.nT e λc r=>Y.so ?_;have d:=a4 _ r;have g:∀a∈z4.set (Int.toNat (j:Int)) (c.1,(gS .i64 f.2.1 t.2.2.2.1,c.2.2)),n a:=o a4 ⟨⟨d.1.1,D _ _,d.1.2.2⟩,d.2⟩;have s:List.length (z4.set (Int.toNat (j:Int)) (c.1,(gS .i64 f.2.1 t.2.2.2.1,c.2.2)))=L.2.1.length:=by grind
    generalize z4.set (Int.toNat (j:Int)) (c.1,(gS .i64 f.2.1 t.2.2.2.1,c.2.2))=p at g s;have e:(Int.toNat (j:Int))<p.length:=by omega
    refine Y.nT e λO _=>Y.nT e λβ F=>Y.so (Y.l ⟨?_,λa i=>(o g ?_ a i).1⟩);· grind
    · have q:=g _ F;exact ⟨⟨q.1.1,q.1.2.1,q.1.2.2.1,w _ _,q.1.2.2.2.2⟩,q.2⟩
  · refine Y.nT e λf _=>Y.nT e λc r=>Y.so ?_;have d:=a4 _ r;have g:∀a∈z4.set (Int.toNat (j:Int)) (c.1,(c.2.1,(c.2.2.1,(gS .i64 f.2.2.2.1 t.2.2.2.1,c.2.2.2.2)))),n a:=o a4 ⟨⟨d.1.1,d.1.2.1,d.1.2.2.1,D _ _,d.1.2.2.2.2⟩,d.2⟩;have s:List.length (z4.set (Int.toNat (j:Int)) (c.1,(c.2.1,(c.2.2.1,(gS .i64 f.2.2.2.1 t.2.2.2.1,c.2.2.2.2)))))=L.2.1.length:=by grind
    generalize z4.set (Int.toNat (j:Int)) (c.1,(c.2.1,(c.2.2.1,(gS .i64 f.2.2.2.1 t.2.2.2.1,c.2.2.2.2))))=p at g s;have e:(Int.toNat (j:Int))<p.length:=by omega
    refine Y.nT e λO G=>?_;have I:=g _ G;refine Y.eq (PI O.2.2.2.2.1 t.2.2.2.1 _ I.2) (Y.nT e λβ F=>Y.so (Y.l ⟨?_,?_⟩));· grind
    · intro a i;rcases List.mem_or_eq_of_mem_set i with A|rfl;· exact (g a A).1
      · have q:=g _ F;refine ⟨q.1.1,q.1.2.1,q.1.2.2.1,q.1.2.2.2.1,Dk ?_ (GC _ _ S.2.2.2.1 (w _ _) _ (λy H=>Ae I.1.2.2.2.2.1.2 H)),trivial⟩;exact Nat.le_trans (FB _ _ _) (Nat.le_trans (Nat.succ_le_succ I.2) (by decide))
 obtain ⟨y,H,⟨A,Q⟩,B⟩:=γ;exact ⟨y.1,H,Dk (Nat.le_trans A (by decide)) Q,B⟩
theorem Jt(L:ek)(t:cp)(b:(Ty.sl cf).Ok L.2.1)(d:ct L.2.1)(s:iv.Ok t):∃(R:ek)(c:Int),A3 (L,(t,()))=some (R,((c,()),()))/\(Ty.sl cf).Ok R.2.1/\ct R.2.1/\(gA c 0=false->R=L)/\(R=L\/bk R=true)/\R.1=L.1:=by have w:=d.1.l;have k:=kb L d;have e:=w7 L.2.1 t.2.1 w;have sl:=mw L b;have f:=Wz t ⟨s.2.1,s.2.2.1⟩;cases q:bk L with|false=>rw[q]at sl;refine ⟨L,1,?_,b,d,λ_=>rfl,.inl rfl,rfl⟩;·unfold A3;grind|true=>rw[q]at sl;cases p:M1 t with|false=>rw[p]at f;refine ⟨L,1,?_,b,d,λ_=>rfl,.inl rfl,rfl⟩;·unfold A3;grind|true=>
 rw[p]at f;rcases mA L.2.1 (λa=>ko a.1 t.2.1)with ⟨_,_,g⟩|⟨j,i,_,_,_,_,g⟩;·have g:tA L.2.1 t.2.1=-1:=g;rw[g]at e;refine ⟨L,2,?_,b,d,λ_=>rfl,.inl rfl,rfl⟩;·unfold A3;exact bw k (bw sl (uN rfl (bw f (uN rfl (bw e (cl rfl rfl))))))
 ·have g:tA L.2.1 t.2.1=(j:Int):=g;rw[g]at e;have m:dO (j:Int) 0=false:=dD (Int.natCast_nonneg j);cases y:gA (L.2.1[j]).2.2.1 t.2.2.2.2.1 with|false=>refine ⟨L,3,?_,b,d,λ_=>rfl,.inl rfl,rfl⟩;·unfold A3;exact bw k (bw sl (uN rfl (bw f (uN rfl (bw e (uN m (bw (cB i) (bw (FC t _) (cl (by grind) rfl)))))))))|true=>cases r:dO (Rd t L.2.1[j]) t.2.2.2.1 with|true=>refine ⟨L,4,?_,b,d,λ_=>rfl,.inl rfl,rfl⟩;·unfold A3;exact bw k (bw sl (uN rfl (bw f (uN rfl (bw e (uN m (bw (cB i) (bw (FC t _) (uN (by grind) (cl r rfl))))))))))|false=>obtain ⟨R,v,u,x⟩:=WK L t j i b q s p;have n:=mw R u;cases o:bk R with|false=>rw[o]at n;refine ⟨L,5,?_,b,d,λ_=>rfl,.inl rfl,rfl⟩;·unfold A3;exact bw k (bw sl (uN rfl (bw f (uN rfl (bw e (uN m (bw (cB i) (bw (FC t _) (uN (by grind) (uN r (bw v (bw n (cl rfl rfl)))))))))))))|true=>rw[o]at n;refine ⟨R,0,?_,u,At o,λh=>by simp[gA]at h,.inr o,x⟩;·unfold A3;exact bw k (bw sl (uN rfl (bw f (uN rfl (bw e (uN m (bw (cB i) (bw (FC t _) (uN (by grind) (uN r (bw v (bw n (uN rfl rfl)))))))))))))
theorem FV(L:ek)(t:cp)(a:(Ty.sl cf).Ok L.2.1)(b:ct L.2.1)(d:iv.Ok t):A3 (L,(t,()))=some ((k9 L t).1,(((k9 L t).2,()),()))/\(Ty.sl cf).Ok (k9 L t).1.2.1/\ct (k9 L t).1.2.1/\(gA (k9 L t).2 0=false->(k9 L t).1=L)/\((k9 L t).1=L\/bk (k9 L t).1=true)/\(k9 L t).1.1=L.1:=by
 obtain⟨R,c,e,f,j,i,h,g⟩:=Jt L t a b d;have :k9 L t=(R,c):=by unfold k9;rw[e]
 grind
theorem EA(L:ek)(a:List cp)(j:(Ty.sl cf).Ok L.2.1)(d:ct L.2.1)(e:(Ty.sl iv).Ok a):Fv (L,((a,()),()))=some ((C8 L a).2,(((C8 L a).1,()),()))/\(Ty.sl cf).Ok (C8 L a).2.2.1/\ct (C8 L a).2.2.1:=by have h:Al a.length:=e.1;have c:=xL (S:=Int×(Int×(Int×(List bm×Unit)))) a tB (λ_ s=>(Ty.sl cf).Ok s.2.2.1/\ct s.2.2.1) (f:=Fv.b0 (L,((a,()),()))) (λs k=>(s.1,(k,(s.2.1,(s.2.2.1,()))))) (λs=>Sum.inl (s.1,((a.length:Int),(s.2.1,(s.2.2.1,()))))) (0,L) ⟨j,d⟩ (λi b s g=>by obtain⟨m,l,n,o,_⟩:=FV s.2 a[i] g.1 g.2 (Ae e.2 (List.getElem_mem b));refine⟨?_,l,n⟩;unfold Fv.b0 tB;refine uL (Int.ofNat_lt.2 b) (bw (cB b) (bw m ?_));rw[<-wG b h];grind) (λs _=>by unfold Fv.b0;exact uM (Int.le_refl _) rfl);refine⟨?_,c.2.1,c.2.2⟩;·unfold Fv;exact bw (kb L d) (bw c.1 rfl)
theorem HP(L:ek)(g:(Ty.sl cf).Ok L.2.1)(d:ct L.2.1):∃R:ek,p6 (L,())=some (R,())/\(Ty.sl cf).Ok R.2.1/\ct R.2.1/\(R=L\/R=(cM .i64 L.1 1,(L.2.1.map (ds (cM .i64 L.1 1)),()))/\bk L=true/\bk R=true)/\(bk L=true->bk (cM .i64 L.1 1,(L.2.1.map (ds (cM .i64 L.1 1)),()))=true->R=(cM .i64 L.1 1,(L.2.1.map (ds (cM .i64 L.1 1)),()))):=by have n:=kb L d;have sl:=mw L g;cases j:bk L with|false=>rw[j]at sl;refine⟨L,?_,g,d,.inl rfl,λh=>by cases h⟩;·unfold p6;grind|true=>
 rw[j]at sl;obtain⟨v,x,_⟩:=n5 j;have s:Al L.2.1.length:=d.1.l;let e:=cM .i64 L.1 1;let R:ek:=(e,(L.2.1.map (ds e),()));have p:(Ty.sl cf).Ok R.2.1:=Dk (by show (L.2.1.map (ds e)).length<=_;grind) (λy m=>by obtain⟨a,o,rfl⟩:=List.mem_map.1 m;exact KN e a (Ae g.2 o));have t:ct R.2.1:=⟨by grind,λy m=>by obtain⟨a,o,rfl⟩:=List.mem_map.1 m;exact Nat.le_trans (Jn e a) (d.2 a o)⟩;have w:vl (ds e) L.2.1 L.2.1.length=L.2.1.map (ds e):=by simp_all[bm,vl,ds]
 have u:∀k (c:k<L.2.1.length) (b:k<(vl (ds e) L.2.1 k).length),List.length ((vl (ds e) L.2.1 k)[k]).2.2.2.2.1<=4:=λk c b=>by have h:=Jp (ds e) c;grind
 have r:=cK (f:=p6.b0 (L,())) (λk=>((k:Int),(vl (ds e) L.2.1 k,()))) L.2.1.length (e:=Sum.inl ((L.2.1.length:Int),(L.2.1.map (ds e),()))) (λk c=>by
 have b:k<(vl (ds e) L.2.1 k).length:=by rw[Jo _ _ _ (by omega)];exact c
 unfold p6.b0;exact uL (Int.ofNat_lt.2 b) (bw (cB b) (bw (TK L _ k b (u k c b)) (bw (BB b) (bw rfl (DQ (wG c s) (OY e c b))))))) (by unfold p6.b0;refine uM (by grind) ?_;grind);have i:=mw R p;cases q:bk R with|false=>rw[q]at i;refine⟨L,?_,g,d,.inl rfl,λ_ h=>by cases h⟩;·unfold p6;exact bw n (bw sl (uN rfl (bw r (bw i (cl rfl (bw n rfl))))))|true=>rw[q]at i;refine⟨R,?_,p,t,.inr ⟨rfl,rfl,by omega⟩,λ_ _=>rfl⟩;·unfold p6;exact bw n (bw sl (uN rfl (bw r (bw i (uN rfl rfl)))))
theorem G6(L:ek)(a:(Ty.sl cf).Ok L.2.1)(b:ct L.2.1):p6 (L,())=some (j0 L,())/\(Ty.sl cf).Ok (j0 L).2.1/\ct (j0 L).2.1:=by
 obtain⟨R,c,d,e,_⟩:=HP L a b;have :j0 L=R:=by unfold j0;rw[c]
 grind
theorem Nc(L:ek)(a:(Ty.sl cf).Ok L.2.1)(b:ct L.2.1):j0 L=L\/j0 L=(cM .i64 L.1 1,(L.2.1.map (ds (cM .i64 L.1 1)),()))/\bk L=true/\bk (j0 L)=true:=by obtain⟨R,e,c,f,d,_⟩:=HP L a b;simp_all[ek,j0,Fo,p6,bm,cM,ds,bk]
theorem O1(L:ek)(t:cp)(a:(Ty.sl cf).Ok L.2.1)(b:ct L.2.1)(c:iv.Ok t)(h:bk L=true):bk (k9 L t).1=true:=by obtain⟨_,_,_,_,d,_⟩:=FV L t a b c;grind
theorem Nd:∀(c:List cp)(s:Int×ek),(Ty.sl cf).Ok s.2.2.1->ct s.2.2.1->(∀t∈c,iv.Ok t)->bk s.2=true->bk (c.foldl tB s).2=true|[],s,_,_,_,h=>h|t::r,s,d,b,a,h=>by obtain⟨_,f,e,_⟩:=FV s.2 t d b (a t (by simp));exact Nd r (tB s t) f e (λx g=>a x (by grind)) (O1 s.2 t d b (a t (by simp)) h)
theorem PL:∀(b:List cp)(s:Int×ek),(Ty.sl cf).Ok s.2.2.1->ct s.2.2.1->(∀t∈b,iv.Ok t)->(b.foldl tB s).2.1=s.2.1|[],s,_,_,_=>rfl|t::r,s,f,c,a=>by obtain⟨_,g,e,_,_,d⟩:=FV s.2 t f c (a t (by simp));exact (PL r (tB s t) g e (λx h=>a x (by grind))).trans d
structure j8(l:List an):Prop where
 nn:∀b∈l,0<=b.1/\b.1<=100000
 kp:∀b∈l,gq b=true
 Zs:∀i j(hi:i<l.length)(hj:j<l.length),i<j->l[i].1<l[j].1
 PM:∀b∈l,((i0 b).2.1=-1/\ks (i0 b)=true)\/(0<=(i0 b).2.1/\(i0 b).2.1<b.1/\ks (i0 b)=false/\∃p∈l,p.1=(i0 b).2.1/\p.2.2.1=(i0 b).1)Rg:l.length<=400
 ep:∀b∈l,b.2.1=L3 l
theorem TM{b:an}(h:gq b=true):0<=b.1/\b.1<=100000:=by unfold gq at h;simp only[Bool.and_eq_true]at h;simpa[Di,km]using h.1
theorem Zt{A:Type}{f:A->Int}{l:List A}(h:∀i(a:i<l.length),lO (λz y=>dO (f z) (f y)) l i l[i]=true) (i j:Nat) (a:i<l.length) (d:j<l.length) (b:i<j):f l[i]<f l[j]:=by have e:=Am h (j-1-i) i (by omega);have c:=h ((j-1)+1) (by omega);grind[lO,dO,mz]
theorem Nf{q:k0}(h:ks q=true):q.2.1=-1:=by unfold ks at h;simp_all[D9,gA]
theorem KP{l:List an}(h:A6 l=true):j8 l:=by
 unfold A6 at h;rw[Je]at h;simp only[Bool.and_eq_true]at h;have k:∀i(a:i<l.length),(E9 l i l[i]=true/\(ks (i0 l[i])||w0 l l[i])=true):=λi a=>by have :=xJ h.1 i a;grind
 have e:∀i (a:i<l.length),gq l[i]=true/\gA (l[i]).2.1 (L3 l)=true/\lO (λz y=>dO z.1 y.1) l i l[i]=true:=λi a=>by have :=(k i a).1;unfold E9 at this;grind
 refine⟨λb c=>?_,λb c=>?_,Zt (f:=λb:an=>b.1) λi a=>(e i a).2.2,λb c=>?_,by have :=h.2;simp only[km,decide_eq_true_eq]at this;omega,λb c=>?_⟩;·obtain⟨i,a,rfl⟩:=List.getElem_of_mem c;exact TM (e i a).1
 ·obtain⟨i,a,rfl⟩:=List.getElem_of_mem c;grind
 ·obtain⟨i,a,rfl⟩:=List.getElem_of_mem c;cases g:ks (i0 l[i]) with|true=>exact .inl ⟨Nf g,rfl⟩|false=>have m:=KE (e i a).1 g;have d:=(k i a).2;rw[g,Bool.false_or]at d;unfold w0 at d;refine .inr ⟨m.1,m.2,rfl,?_⟩;cases j:l.find? (λz=>gA z.1 (i0 l[i]).2.1) with|none=>grind|some p=>rw[j]at d;have n:=List.find?_some j;simp only[gA,decide_eq_true_eq]at d n;grind
 ·obtain ⟨i,a,rfl⟩:=List.getElem_of_mem c;simpa[gA]using (e i a).2.1
theorem j8.GG{l:List an}(h:j8 l){i j:Nat}(b:i<l.length)(c:j<l.length)(e:l[i].1=l[j].1):i=j:=by
 rcases Nat.lt_trichotomy i j with a|a|a;·have :=h.Zs i j b c a;omega
 ·exact a
 ·have :=h.Zs j i c b a;omega
theorem j8.TN{l:List an}(h:j8 l){a b:an}(g:a∈l)(f:b∈l)(e:a.1=b.1):a=b:=by obtain⟨i,c,rfl⟩:=List.getElem_of_mem g;obtain⟨j,d,rfl⟩:=List.getElem_of_mem f;have :=h.GG c d e;grind
theorem Ng{l:List an}(h:j8 l){j:Nat}(c:j<l.length):n8 l l[j].1=(j:Int):=by
 unfold n8;rcases mA l (λb=>gA b.1 l[j].1)with⟨d,_,_⟩|⟨k,e,a,_,_,_,f⟩;·rw[List.any_eq_false]at d;exact absurd (by simp[gA]) (d l[j] (List.getElem_mem c))
 ·simp only[gA,decide_eq_true_eq]at a;have :=h.GG e c a;omega
theorem EZ{l:List an}(h:j8 l){b:an}(a:b∈l):bK l (n8 l b.1)=some b/\dO (n8 l b.1) 0=false:=by obtain⟨j,c,rfl⟩:=List.getElem_of_mem a;rw[Ng h c];simp_all[an,bK,dO,cB,dD]
theorem nv{l:List an}(h:j8 l)(a:Int):(l.find? (λb=>gA b.1 a)=none/\n8 l a=-1/\∀b∈l,b.1≠a)\/∃b∈l,b.1=a/\l.find? (λb=>gA b.1 a)=some b/\0<=n8 l a/\bK l (n8 l a)=some b:=by
 unfold n8;rcases mA l (λb=>gA b.1 a)with⟨i,d,c⟩|⟨k,g,f,_,_,d,c⟩;·refine .inl ⟨d,c,λb j e=>?_⟩;rw[List.any_eq_false]at i;exact absurd (by simp[gA,e]) (i b j)
 ·simp only[gA,decide_eq_true_eq]at f;exact .inr ⟨l[k],List.getElem_mem g,f,d,by omega,by rw[c];exact cB g⟩
def WL(l:List an):Nat->Int->List an|0,_=>[]|f+1,a=>match l.find? (λb=>gA b.1 a)with|none=>[]|some b=>WL l f (i0 b).2.1++[b]
def dc(l:List an)(a:Int):List an:=WL l (a.toNat+1) a
theorem A9{l:List an}{a:Int}(h:l.find? (λb=>gA b.1 a)=none):∀f,WL l f a=[]|0=>rfl|f+1=>by unfold WL;rw[h]
theorem TO{l:List an}(h:j8 l):∀(f g:Nat)(a:Int),a.toNat<f->a.toNat<g->WL l f a=WL l g a:=by intro f;induction f with|zero=>omega|succ f p=>intro g a m o;cases g with|zero=>omega|succ g=>
 rcases nv h a with⟨c,_,_⟩|⟨b,e,q,c,_,_⟩;·rw[A9 c,A9 c]
 · unfold WL;rw[c];dsimp only;have n:=h.nn b e;rcases h.PM b e with⟨j,_⟩|⟨j,k,_⟩
   · have d:l.find? (λz=>gA z.1 (i0 b).2.1)=none:=by rw[List.find?_eq_none];intro z i;have :=h.nn z i;simp only[gA,decide_eq_true_eq];omega
     rw[A9 d,A9 d]
   grind
theorem l5{l:List an}(h:j8 l){b:an}(a:b∈l):dc l b.1=dc l (i0 b).2.1++[b]:=by
 have n:=h.nn b a;rcases nv h b.1 with⟨_,_,d⟩|⟨c,j,k,d,_,_⟩;·grind
 · have :c=b:=h.TN j a k;subst this;have e:dc l c.1=WL l c.1.toNat (i0 c).2.1++[c]:=by simp only[dc,WL,d]
   rw[e];congr 1;rcases h.PM c a with⟨i,_⟩|⟨i,m,_⟩
   · have f:l.find? (λz=>gA z.1 (i0 c).2.1)=none:=by rw[List.find?_eq_none];intro z g;have :=h.nn z g;simp only[gA,decide_eq_true_eq];omega
     unfold dc;rw[A9 f,A9 f]
   · exact TO h _ _ _ (by omega) (by omega)
theorem p9{l:List an}{a:Int}(h:∀b∈l,b.1≠a):dc l a=[]:=A9 (by rw[List.find?_eq_none];intro z c;have :=h z c;simpa[gA]using this) _
theorem KQ{l:List an}(h:j8 l){a:Int}(d:a<0):dc l a=[]:=p9 (λb c=>by have :=h.nn b c;omega)
theorem AT{l:List an}(h:j8 l){M:Int->Prop}(j:∀a,(∀b∈l,b.1≠a)->M a)(g:∀b∈l,M (i0 b).2.1->M b.1):∀a,M a:=by
 have f:∀(n:Nat)(a:Int),a.toNat<n->M a:=by intro n;induction n with|zero=>omega|succ n r=>
  intro a p;rcases nv h a with⟨_,_,o⟩|⟨b,d,k,_,_,_⟩;·grind
  · rw[<-k];refine g b d ?_;have m:=h.nn b d;rcases h.PM b d with⟨e,_⟩|⟨e,q,_⟩;· rw[e];exact j _ (λc i=>by have :=h.nn c i;omega)
    grind
 exact λa=>f (a.toNat+1) a (by omega)
theorem mo{l:List an}(h:j8 l):∀(d:Int)(b:an),b∈dc l d->b∈l:=by
 refine AT h (λd e b a=>?_) (λb a g c f=>?_);·rw[p9 e]at a;cases a
 ·rw[l5 h a]at f;grind
theorem Rh{l:List an}(h:j8 l):∀(a:Int),(dc l a).length<=(a+1).toNat:=by
 refine AT h (λa d=>?_) (λb c f=>?_);·rw[p9 d];grind
 ·rw[l5 h c];have d:=h.nn b c;simp only[List.length_append,List.length_cons,List.length_nil];rcases h.PM b c with⟨e,_⟩|⟨e,g,_⟩<;>omega
theorem E0{l:List an}(h:j8 l)(a:Int):(dc l a).length<=100001:=by
 rcases nv h a with⟨_,_,c⟩|⟨b,d,e,_,_,_⟩;·rw[p9 c];grind
 ·have :=Rh h a;have :=h.nn b d;omega
def se(l:List an)(a:List an):List D3:=a.map (λb=>(n8 l b.1,()))
def fv(a:List an):List D3:=a.map (λb=>(b.1,()))
theorem WM{a:Int}(h:a<0):km 0 a=false:=by grind[km]
theorem HQ{a:Int}(h:0<=a):km 0 a=true:=by grind[km]
theorem Zu{l:List an}(h:j8 l){b:an}(a:b∈l):(i0 b).2.1<0\/∃p∈l,p.1=(i0 b).2.1:=by
 rcases h.PM b a with⟨c,_⟩|⟨_,_,_,p,d,e,_⟩;·omega
 grind
theorem G7(l:List an)(a:Int)(o:(Ty.sl lf).Ok l)(h:j8 l):Gu ((l,()),((a,()),()))=some ((se l (dc l a),()),()):=by
 have m:Al l.length:=o.1;have p:∀f:Int,(f<0\/∃b∈l,b.1=f)->∀d:List D3,(dc l f).length+d.length<=100001->∃e,aR (Gu.b0 ((l,()),((a,()),()))) (f,(d,()))=some (.inl (e,(se l (dc l f)++d,()))):=by
  refine AT h (λf i j d k=>?_) (λb c u _ d k=>?_);·have n:f<0:=j.resolve_right (λ⟨b,c,g⟩=>i b c g);refine⟨f,?_⟩;rw[p9 i];refine cS ?_;unfold Gu.b0;exact uN (WM n) rfl
  · have i:=h.nn b c;rw[l5 h c]at k⊢;simp only[List.length_append,List.length_cons,List.length_nil]at k;obtain⟨e,g⟩:=u (Zu h c) ((n8 l b.1,())::d) (by grind);refine⟨e,?_⟩;have q:Gu.b0 ((l,()),((a,()),())) (b.1,(d,()))=some (.inl ((i0 b).2.1,((n8 l b.1,())::d,()))):=by unfold Gu.b0;refine cl (HQ i.1) (bw (w4 l b.1 m) (uN (EZ h c).2 (Cm ?_ (by decide) (by decide) (bw (EZ h c).1 rfl))));grind
    rw[de q,g];unfold se;simp
 unfold Gu;by_cases j:a<0\/∃b∈l,b.1=a;· obtain⟨e,g⟩:=p a j [] (by have :=E0 h a;omega);grind
 · have s:∀b∈l,b.1≠a:=λb c e=>j (.inr ⟨b,c,e⟩);have t:0<=a:=by omega
   rw [p9 s];rcases nv h a with ⟨_,r,_⟩|⟨b,c,g,_⟩;· refine bw (cS (e:=.inr (([],()),())) ?_) rfl;unfold Gu.b0;exact cl (HQ t) (bw (w4 l a m) (cl (by show dO (n8 l a) 0=true;rw [r];rfl) rfl))
   grind
def dt(l:List an)(q:k0):Int:=match l.find? (λb=>gA b.1 q.2.1)with|none=>-1|some b=>bif !gA b.2.2.1 q.1 then-1 else match l.find? (λz=>gA z.1 (i0 b).2.1)with|none=>-1|some p=>bif !gA p.2.2.1 (gS .i64 q.1 1)then-1 else p.1
theorem Nh{l:List an}{q:k0}(h:gA (dt l q) (-1)=false):∃p∈l,p.1=dt l q:=by unfold dt at h⊢;cases d:l.find? (λb=>gA b.1 q.2.1)with|none=>rw[d]at h;simp[gA]at h|some b=>rw[d]at h;dsimp only at h⊢;cases c:gA b.2.2.1 q.1 with|false=>rw[c]at h;simp[gA]at h|true=>rw[c]at h;cases a:l.find? (λz=>gA z.1 (i0 b).2.1)with|none=>rw[a]at h;simp[gA]at h|some p=>rw[a]at h;dsimp only at h⊢;cases e:gA p.2.2.1 (gS .i64 q.1 1)with|false=>rw[e]at h;simp[gA]at h|true=>grind
theorem O2(l:List an)(q:k0)(i:Al l.length)(h:j8 l):VT ((l,()),(q,()))=some (I1 (dt l q)):=by
 unfold VT dt;refine bw (w4 l q.2.1 i) ?_;rcases nv h q.2.1 with⟨a,c,_⟩|⟨b,n,r,a,c,e⟩;·rw[a,c];rfl
 ·rw[a];refine uN (dD c) (bw e ?_);dsimp only;cases m:gA b.2.2.1 q.1 with|false=>grind|true=>
 refine uN rfl (bw e (bw (w4 l _ i) ?_));rcases nv h (i0 b).2.1 with⟨d,g,_⟩|⟨p,k,o,d,g,f⟩;·rw[d];exact cl (by simp_all[dO,I1,n8,D9,D3,cp,e6,i0]) rfl
 ·rw[d];refine uN (dD g) (bw f ?_);dsimp only;cases j:gA p.2.2.1 (gS .i64 q.1 1) with|false=>grind|true=>exact uN rfl (bw f rfl)
theorem Ni(l:List an)(a:Int)(i:(Ty.sl lf).Ok l)(h:j8 l)(j:∀b∈l,e8 b):Kh ((l,()),((a,()),()))=some ((dc l a,()),()):=by
 have p:=E0 h a;have o:(se l (dc l a)).length=(dc l a).length:=by unfold se;simp
 have m:=cK (f:=Kh.b0 ((se l (dc l a),()),()) ((l,()),((a,()),()))) (λk=>((dc l a).take k,((k:Int),()))) (dc l a).length (e:=Sum.inl (dc l a,(((dc l a).length:Int),()))) (λk c=>by
 have d:=mo h a _ (List.getElem_mem c);have g:(se l (dc l a))[k]?=some (n8 l (dc l a)[k].1,()):=by unfold se;grind
 unfold Kh.b0;refine uL (show (k:Int)<((se l (dc l a)).length:Int)by omega) (bw (D6 g) (bw (D7 g) (bw (EZ h d).1 (bw (HM _ (j _ d)) (Cm ?_ (by decide) (by decide) ?_)))));·grind
 ·refine DQ ?_ (wG (n:=(dc l a).length) c (by omega));simp_all[vv,bV,dc,an]) (by unfold Kh.b0;refine uM (show ((se l (dc l a)).length:Int)<=((dc l a).length:Int) by omega) ?_;grind);unfold Kh;exact bw (G7 l a i h) (bw m rfl)
def Mc(d:List D3)(n:Int):Bool:=d.any (λx=>gA x.1 n)
def w8(d:List D3)(n:Int):List D3:=bif Mc d n then d else d++[(n,())]
def kn(d:List D3)(a:List D3):List D3:=a.foldl (λd x=>w8 d x.1) d
theorem Nj(d:List D3)(n:Int):(w8 d n).length<=d.length+1:=by unfold w8;grind
theorem TP(d:List D3)(n:Int)(b:Al d.length):Ki ((d,()),((n,()),()))=some (B1 (Mc d n)):=by have c:=Cj (S:=Int×Unit) d (λx=>gA x.1 n) (f:=Ki.b0 ((d,()),((n,()),()))) (λk=>(k,())) (Sum.inl ((d.length:Int),())) (Sum.inr (B1 true)) (λi a=>by unfold Ki.b0;refine uL (Int.ofNat_lt.2 a) (bw (cB a) ?_);rw[<-wG a b]) (by simp_all[Ki.b0,D3,uM,bK,gA,cM]);unfold Ki;refine bw c ?_;unfold Mc;grind
noncomputable def md(L:ek)(a:List an):ek:=a.foldl (λs b=>(C8 s (po b)).2) L
theorem G8:∀(d:List an)(L:ek),(Ty.sl cf).Ok L.2.1->ct L.2.1->(∀b∈d,(Ty.sl iv).Ok (po b))->(Ty.sl cf).Ok (md L d).2.1/\ct (md L d).2.1|[],L,e,a,_=>⟨e,a⟩|b::r,L,e,a,f=>by obtain⟨_,h,g⟩:=EA L (po b) e a (f b (by simp));exact G8 r _ h g (λc i=>f c (by grind))
def Gg(g:ek)(t:cp):Bool:=match g.2.1.find? (λa=>ko a.1 t.2.1)with|some a=>km a.2.2.1 t.2.2.2.2.1|none=>false
def Bk(kB:List cp)(g:ek):List cp:=kB.filter (Gg g)
theorem Rj(l:List bm)(s:ByteArray):(l.find? (λa=>ko a.1 s)=none/\tA l s=-1)\/∃a∈l,l.find? (λa=>ko a.1 s)=some a/\0<=tA l s/\bK l (tA l s)=some a:=by
 unfold tA;rcases mA l (λa=>ko a.1 s)with⟨f,c,b⟩|⟨k,e,d,_,_,c,b⟩;·grind
 simp_all[bm,ko,dT,nY,bK,cB]
theorem D8{A:Type}(p:A->Bool)(l:List A){i:Nat}(a:i<l.length):(l.take (i+1)).filter p=(l.take i).filter p++(bif p l[i]then[l[i]]else[]):=by rw[List.take_succ_eq_append_getElem a,List.filter_append];grind
theorem Zv{A:Type}(p:A->Bool)(l:List A)(i:Nat):((l.take i).filter p).length<=l.length:=by grind
theorem TQ(kB:List cp)(g:ek)(i:W1 kB.length)(n:Al g.2.1.length):Kj ((kB,()),(g,()))=some ((Bk kB g,()),()):=by have d:Al kB.length:=i.l;unfold W1 at i;have p:=cK (f:=Kj.b0 ((kB,()),(g,()))) (λk=>((kB.take k).filter (Gg g),((k:Int),()))) kB.length (e:=Sum.inl (Bk kB g,((kB.length:Int),()))) (λk b=>by
 unfold Kj.b0;refine uL (Int.ofNat_lt.2 b) (bw (cB b) (bw (w7 g.2.1 _ n) ?_));have o:=Zv (Gg g) kB k;rcases Rj g.2.1 (kB[k]).2.1 with⟨h,j⟩|⟨a,q,h,j,m⟩
 · have c:Gg g kB[k]=false:=by unfold Gg;rw[h]
   refine uN (by simp_all[km,I1,tA,bm,cp]) (DQ ?_ (wG b d));rw[D8 _ _ b,c];simp
 · refine cl (HQ j) (bw (cB b) (bw m ?_));have c:Gg g kB[k]=km a.2.2.1 (kB[k]).2.2.2.2.1:=by unfold Gg;rw[h]
   cases l:km a.2.2.1 (kB[k]).2.2.2.2.1 with|true=>refine bw (cB b) (Cm (by grind) (by decide) (by decide) (DQ ?_ (wG b d)));rw[D8 _ _ b,c,l];rfl|false=>refine DQ ?_ (wG b d);rw[D8 _ _ b,c,l];simp) (by unfold Kj.b0;refine uM (Int.le_refl _) ?_;rw[List.take_length];rfl);unfold Kj;grind
theorem Rk(g:ek)(b:(Ty.sl cf).Ok g.2.1)(c:ct g.2.1)(t:cp):Gg (j0 g) t=Gg g t:=by
 rcases Nc g b c with h|⟨h,_,_⟩;·rw[h]
 ·rw[h];unfold Gg;show (match (g.2.1.map (ds _)).find? (λa=>ko a.1 t.2.1) with|some a=>_|none=>_)=_;rw[List.find?_map];show (match (g.2.1.find? (λa=>ko a.1 t.2.1)).map (ds _) with|some a=>_|none=>_)=_;cases g.2.1.find? (λa=>ko a.1 t.2.1)<;>rfl
theorem Rl(kB:List cp)(g:ek)(a:(Ty.sl cf).Ok g.2.1)(b:ct g.2.1):Bk kB (j0 g)=Bk kB g:=by unfold Bk;congr 1;funext t;grind[Rk]
end Go.Proofs.YthjkikiepdnimaaGreat
