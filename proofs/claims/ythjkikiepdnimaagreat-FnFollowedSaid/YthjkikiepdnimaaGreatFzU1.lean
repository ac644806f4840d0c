/- Plain laws, part 1: what the program's functions and the reference's compute, told as plain words. Conditions: none. -/
import Derived.Test.YthjkikiepdnimaaGreatFzH
import Derived.Test.YthjkikiepdnimaaGreatFzTm3
set_option linter.unusedVariables false
set_option linter.unusedSimpArgs false
set_option linter.constructorNameAsVariable false
namespace Go.Proofs.YthjkikiepdnimaaGreat
open Go Go.Tm
set_option maxRecDepth 100000
theorem lb(n b a:Int):k0 ((n,()),((b,()),((a,()),())))=some (B1 (Di n b a)):=Cb
theorem Eo(n b a:Int):Jl ((n,()),((b,()),((a,()),())))=some (B1 (Di n b a)):=Cb
def Fs(b:UInt8):Bool:=Di (UInt8.toNat b:Int) 97 122||Di (UInt8.toNat b:Int) 48 57
def e6(s:ByteArray):Bool:=s.data.toList.all Fs&&Di (s.size:Int) 1 8
theorem A2(s:ByteArray)(b:Al s.size):Em ((s,()),())=some (B1 (e6 s)):=by
 have c:=BI (S:=Int×Unit) s.data.toList Fs (f:=Em.b0 ((s,()),())) (λk=>(k,())) (Sum.inl ((s.data.toList.length:Int),())) (Sum.inr (B1 false)) (λi a=>?_) ?_
 · unfold Em e6;refine bw c ?_;cases s.data.toList.all Fs;· rfl
   · exact (congrArg (λo=>Option.bind o _) (lb _ _ _)).trans rfl
 · unfold Em.b0 Fs;refine uL (Int.ofNat_lt.2 a) (bw (cB a) (bw (lb _ _ _) ?_));rw[<-wG a b,AM];cases Di (UInt8.toNat s.data.toList[i]:Int) 97 122;· refine bw (cB a) (bw (lb _ _ _) ?_);rw[AM];grind
   · rfl
 simp_all[Em.b0,uM,bK,k0,cM]
theorem GB(s:ByteArray)(b:Al s.size):Nl ((s,()),())=some (B1 (e6 s)):=by
 have c:=BI (S:=Int×Unit) s.data.toList Fs (f:=Nl.b0 ((s,()),())) (λk=>(k,())) (Sum.inl ((s.data.toList.length:Int),())) (Sum.inr (B1 false)) (λi a=>?_) ?_
 · unfold Nl e6;refine bw c ?_;cases s.data.toList.all Fs;· rfl
   · exact (congrArg (λo=>Option.bind o _) (Eo _ _ _)).trans rfl
 · unfold Nl.b0 Fs Di;refine uL (Int.ofNat_lt.2 a) (bw (cB a) ?_);rw[<-wG a b];simp only[cB a,Option.bind_some];grind
 simp_all[Nl.b0,uM,bK,km,cM]
def Qm(xs:List D9)(i:Nat)(y:D9):Bool:=e6 y.1&&lO (λz y=>ob z.1 y.1) xs i y
def l9(xs:List D9):Bool:=iK (Qm xs) 0 xs&&km (xs.length:Int) 20
theorem EP(xs:List D9)(b:(Ty.sl e9).Ok xs):Nk ((xs,()),())=some (B1 (l9 xs)):=by
 have c:Al xs.length:=b.1;have d:=yW (S:=Int×Unit) xs (Qm xs) (f:=Nk.b0 ((xs,()),())) (λk=>(k,())) (Sum.inl ((xs.length:Int),())) (Sum.inr (B1 false)) (λi a=>?_) ?_;·unfold Nk l9;grind
 ·unfold Nk.b0 Qm;refine uL (Int.ofNat_lt.2 a) (bw (cB a) (bw (A2 _ (Ae b.2 (List.getElem_mem a)).1) (DT ?_)));rw[<-wG a c];exact BD a c (λz=>bw (cB a) DU)
 ·unfold Nk.b0;exact uM (Int.le_refl _) rfl
theorem Nm(xs:List D9)(b:(Ty.sl e9).Ok xs):Si ((xs,()),())=some (B1 (l9 xs)):=by
 have c:Al xs.length:=b.1;have d:=yW (S:=Int×Unit) xs (Qm xs) (f:=Si.b0 ((xs,()),())) (λk=>(k,())) (Sum.inl ((xs.length:Int),())) (Sum.inr (B1 false)) (λi a=>?_) ?_;·unfold Si l9;grind
 ·unfold Si.b0 Qm;refine uL (Int.ofNat_lt.2 a) (bw (cB a) (bw (GB _ (Ae b.2 (List.getElem_mem a)).1) (DT ?_)));rw[<-wG a c];exact BD a c (λz=>Cf)
 ·unfold Si.b0;exact uM (Int.le_refl _) rfl
def Km(xs:List df)(i:Nat)(y:df):Bool:=e6 y.1&&(Di y.2.1 1 1000000&&lO (λz y=>ob z.1 y.1) xs i y)
def o9(xs:List df):Bool:=iK (Km xs) 0 xs&&Di (xs.length:Int) 1 12
theorem X9(xs:List df)(b:(Ty.sl s6).Ok xs):J8 ((xs,()),())=some (B1 (o9 xs)):=by
 have c:Al xs.length:=b.1;have d:=yW (S:=Int×Unit) xs (Km xs) (f:=J8.b0 ((xs,()),())) (λk=>(k,())) (Sum.inl ((xs.length:Int),())) (Sum.inr (B1 false)) (λi a=>?_) ?_
 · unfold J8 o9;refine bw d ?_;cases iK (Km xs) 0 xs;· rfl
   · exact (congrArg (λo=>Option.bind o _) (lb _ _ _)).trans rfl
 · unfold J8.b0 Km;refine uL (Int.ofNat_lt.2 a) (bw (cB a) (bw (A2 _ (Ae b.2 (List.getElem_mem a)).1) (DT (bw (cB a) (bw (lb _ _ _) (DT ?_))))));rw[<-wG a c];exact BD a c (λz=>bw (cB a) DU)
 · unfold J8.b0;exact uM (Int.le_refl _) rfl
theorem Up(xs:List df)(b:(Ty.sl s6).Ok xs):Sh ((xs,()),())=some (B1 (o9 xs)):=by
 have c:Al xs.length:=b.1;have d:=yW (S:=Int×Unit) xs (Km xs) (f:=Sh.b0 ((xs,()),())) (λk=>(k,())) (Sum.inl ((xs.length:Int),())) (Sum.inr (B1 false)) (λi a=>?_) ?_
 · unfold Sh o9;refine bw d ?_;cases iK (Km xs) 0 xs;· rfl
   · exact (congrArg (λo=>Option.bind o _) (Eo _ _ _)).trans rfl
 · unfold Sh.b0 Km;refine uL (Int.ofNat_lt.2 a) (bw (cB a) (bw (GB _ (Ae b.2 (List.getElem_mem a)).1) (DT (bw (Eo _ _ _) (DT ?_)))));rw[<-wG a c];exact BD a c (λz=>Cf)
 · unfold Sh.b0;exact uM (Int.le_refl _) rfl
def E4(l:List df)(s:ByteArray):Bool:=l.any (λv=>ko v.1 s)
def iv(l:List D9)(s:ByteArray):Bool:=l.any (λv=>ko v.1 s)
theorem GC(l:List df)(s:ByteArray)(b:Al l.length):FL ((l,()),((s,()),()))=some (B1 (E4 l s)):=by
 have c:=Cj (S:=Int×Unit) l (λv=>ko v.1 s) (f:=FL.b0 ((l,()),((s,()),()))) (λk=>(k,())) (Sum.inl ((l.length:Int),())) (Sum.inr (B1 true)) (λi a=>?_) ?_;·unfold FL E4;grind
 ·unfold FL.b0;refine uL (Int.ofNat_lt.2 a) (bw (cB a) ?_);rw[<-wG a b]
 simp_all[FL.b0,df,uM,bK,ko,cM]
theorem Jm(l:List D9)(s:ByteArray)(b:Al l.length):FK ((l,()),((s,()),()))=some (B1 (iv l s)):=by
 have c:=Cj (S:=Int×Unit) l (λv=>ko v.1 s) (f:=FK.b0 ((l,()),((s,()),()))) (λk=>(k,())) (Sum.inl ((l.length:Int),())) (Sum.inr (B1 true)) (λi a=>?_) ?_;·unfold FK iv;grind
 ·unfold FK.b0;refine uL (Int.ofNat_lt.2 a) (bw (cB a) ?_);rw[<-wG a b]
 simp_all[FK.b0,D9,uM,bK,ko,cM]
theorem K6(l:List df)(g:df->Option (Bool×Unit))(p:df->Bool)(d:∀x,g x=some (p x,()))(e:Al l.length):Kj ((l,()),((g,()),()))=some (I1 (nY l p)):=by
 have h:=Ck (S:=Int×Unit) l p (f:=Kj.b0 ((l,()),((g,()),()))) (λk=>(k,())) (Sum.inl ((l.length:Int),())) (λi=>Sum.inr (I1 i)) (λi a=>?_) ?_;·unfold Kj;refine bw h ?_;rcases mA l p with⟨b,_,c⟩|⟨j,m,_,_,b,_,c⟩<;>rw[b,c]<;>rfl
 ·unfold Kj.b0;refine uL (Int.ofNat_lt.2 a) (bw (cB a) (bw (d _) ?_));rw[<-wG a e]
 simp_all[Kj.b0,df,uM,bK,cM]
theorem Vy(l:List df)(s:ByteArray)(a:Al l.length):Tb ((l,()),((s,()),()))=some (B1 (E4 l s)):=by unfold Tb Vn;refine bw (bw (K6 l _ (λv=>ko v.1 s) (λx=>rfl) a) rfl) ?_;rw[AG];rfl
theorem Vz(l:List D9)(s:ByteArray)(d:Al l.length):S8 ((l,()),((s,()),()))=some (I1 (nY l (λv=>ko s v.1))):=by
 have e:=Ck (S:=Int×Unit) l (λv=>ko s v.1) (f:=S8.b0 ((l,()),((s,()),()))) (λk=>(k,())) (Sum.inl ((l.length:Int),())) (λi=>Sum.inr (I1 i)) (λi a=>?_) ?_;·unfold S8;refine bw e ?_;rcases mA l (λv=>ko s v.1) with⟨b,_,c⟩|⟨j,g,_,_,b,_,c⟩<;>rw[b,c]<;>rfl
 ·unfold S8.b0;refine uL (Int.ofNat_lt.2 a) (bw (cB a) ?_);rw[<-wG a d]
 simp_all[S8.b0,D9,uM,bK,ko,cM]
theorem Ya(l:List D9)(s:ByteArray)(a:Al l.length):Y5 ((l,()),((s,()),()))=some (B1 (iv l s)):=by unfold Y5 iv;refine bw (Vz l s a) ?_;rw[AG];simp only[BG]
def Ft(l:List df)(a:List D9):Bool:=a.all (λn=>E4 l n.1)
theorem Uq(l:List df)(a:List D9)(d:Al l.length)(c:(Ty.sl e9).Ok a):I0 ((l,()),((a,()),()))=some (B1 (Ft l a&&l9 a)):=by
 have e:=BI (S:=Int×Unit) a (λn=>E4 l n.1) (f:=I0.b0 ((l,()),((a,()),()))) (λk=>(k,())) (Sum.inl ((a.length:Int),())) (Sum.inr (B1 false)) (λi b=>?_) ?_
 · unfold I0 Ft;refine bw e ?_;cases a.all (λn=>E4 l n.1);· rfl
   · exact (congrArg (λo=>Option.bind o _) (EP _ c)).trans rfl
 · unfold I0.b0;refine uL (Int.ofNat_lt.2 b) (bw (cB b) (bw (GC _ _ d) ?_));rw[<-wG b c.1];grind
 · unfold I0.b0;exact uM (Int.le_refl _) rfl
theorem Yb(l:List df)(a:List D9)(c:Al l.length)(d:Al a.length):Kk ((l,()),((a,()),()))=some (B1 (Ft l a)):=by
 have e:=BI (S:=Int×Unit) a (λn=>E4 l n.1) (f:=Kk.b0 ((l,()),((a,()),()))) (λk=>(k,())) (Sum.inl ((a.length:Int),())) (Sum.inr (B1 false)) (λi b=>?_) ?_;·unfold Kk Ft;grind
 ·unfold Kk.b0;refine uL (Int.ofNat_lt.2 b) (bw (cB b) (bw (Vy _ _ c) ?_));rw[<-wG b d];grind
 ·unfold Kk.b0;exact uM (Int.le_refl _) rfl
def Fu(xs:List df)(a:List D9):Int:=xs.foldl (λn v=>bif iv a v.1 then cM .i64 n v.2.1 else n) 0
def HR(xs:List df):Int:=xs.foldl (λn v=>cM .i64 n v.2.1) 0
def md(l:List df)(a:List D9):Bool:=dO (zJ .i64 2 (HR l)) (zJ .i64 3 (Fu l a))
theorem Qn(xs:List df)(b:List D9)(d:Al xs.length)(e:Al b.length):SQ ((xs,()),((b,()),()))=some (I1 (Fu xs b)):=by
 have g:=AJ (S:=Int×(Int×Unit)) xs (λn v=>bif iv b v.1 then cM .i64 n v.2.1 else n) (f:=SQ.b0 ((xs,()),((b,()),()))) (λa i=>(a,(i,()))) (λa=>Sum.inl (a,((xs.length:Int),()))) 0 (λi c a=>?_) (λa=>?_);·unfold SQ;exact bw g rfl
 · unfold SQ.b0;refine uL (Int.ofNat_lt.2 c) (bw (cB c) (bw (Jm _ _ e) ?_));rw[<-wG c d];dsimp only;cases iv b xs[i].1;· rfl
   · exact bw (cB c) rfl
 · unfold SQ.b0;exact uM (Int.le_refl _) rfl
theorem Qo(xs:List df)(b:List D9)(d:Al xs.length)(e:Al b.length):S9 ((xs,()),((b,()),()))=some (I1 (Fu xs b)):=by
 have g:=AJ (S:=Int×(Int×Unit)) xs (λn v=>bif iv b v.1 then cM .i64 n v.2.1 else n) (f:=S9.b0 ((xs,()),((b,()),()))) (λa i=>(a,(i,()))) (λa=>Sum.inl (a,((xs.length:Int),()))) 0 (λi c a=>?_) (λa=>?_);·unfold S9;exact bw g rfl
 ·unfold S9.b0;refine uL (Int.ofNat_lt.2 c) (bw (cB c) (bw (Ya _ _ e) ?_));rw[<-wG c d];grind
 ·unfold S9.b0;exact uM (Int.le_refl _) rfl
theorem To(xs:List df)(d:Al xs.length):SR ((xs,()),())=some (I1 (HR xs)):=by
 have c:=AJ (S:=Int×(Int×Unit)) xs (λn v=>cM .i64 n v.2.1) (f:=SR.b0 ((xs,()),())) (λa i=>(a,(i,()))) (λa=>Sum.inl (a,((xs.length:Int),()))) 0 (λi b a=>?_) (λa=>?_);·unfold SR;exact bw c rfl
 ·unfold SR.b0;refine uL (Int.ofNat_lt.2 b) (bw (cB b) ?_);rw[<-wG b d]
 simp_all[SR.b0,df,uM,bK,cM]
theorem Tp(xs:List df)(d:Al xs.length):Ta ((xs,()),())=some (I1 (HR xs)):=by
 have c:=AJ (S:=Int×(Int×Unit)) xs (λn v=>cM .i64 n v.2.1) (f:=Ta.b0 ((xs,()),())) (λa i=>(a,(i,()))) (λa=>Sum.inl (a,((xs.length:Int),()))) 0 (λi b a=>?_) (λa=>?_);·unfold Ta;exact bw c rfl
 ·unfold Ta.b0;refine uL (Int.ofNat_lt.2 b) (bw (cB b) ?_);rw[<-wG b d]
 simp_all[Ta.b0,df,uM,bK,cM]
theorem K7(l:List df)(a:List D9)(b:Al l.length)(c:Al a.length):SS ((l,()),((a,()),()))=some (B1 (md l a)):=bw (Qn l a b c) (bw (To l b) rfl)
theorem Qp(l:List df)(a:List D9)(b:Al l.length)(c:Al a.length):Vm ((l,()),((a,()),()))=some (B1 (md l a)):=bw (Qo l a b c) (bw (Tp l b) rfl)
def FO(xs:List ek)(i:Nat)(y:ek):Bool:=Di y.1 1 1000000&&(Di y.2.1 0 1000&&lO (λz y=>dO z.2.1 y.2.1) xs i y)
def p6(xs:List ek):Bool:=iK (FO xs) 0 xs
def oi(a:bF):Bool:=e6 a.1&&(Di a.2.1 0 1000000&&(Di a.2.2.1 0 10000&&(Di a.2.2.2.1 0 1000000&&(km (List.length a.2.2.2.2.1:Int) 4&&p6 a.2.2.2.2.1))))
abbrev Tq(a:bF):Prop:=c6.Ok a
theorem Tq.ls{a:bF}(h:Tq a):(Ty.sl Ei).Ok a.2.2.2.2.1:=h.2.2.2.2.1
theorem VA(a:bF)(h:Tq a):J1 (a,())=some (B1 (oi a)):=by
 have c:Al (List.length a.2.2.2.2.1):=h.ls.1;have d:=yW (S:=Int×Unit) a.2.2.2.2.1 (FO a.2.2.2.2.1) (f:=J1.b0 (a,())) (λk=>(k,())) (Sum.inl ((List.length a.2.2.2.2.1:Int),())) (Sum.inr (B1 false)) (λi b=>?_) ?_;·unfold J1 oi p6;rw[Aj];refine bw (A2 _ h.1) (Dx (bw (lb _ _ _) (Dx (bw (lb _ _ _) (Dx (bw (lb _ _ _) (Dx (DS (bw d ?_)))))))));grind
 ·unfold J1.b0 FO;refine uL (Int.ofNat_lt.2 b) (bw (cB b) (bw (lb _ _ _) (DT (bw (lb _ _ _) (DT ?_)))));rw[<-wG b c];exact BD b c (λz=>CG)
 ·unfold J1.b0;exact uM (Int.le_refl _) rfl
theorem K8(n:Int):SZ ((n,()),())=some (B1 (Di n 0 1000000)):=bw (Eo _ _ _) rfl
theorem VB(a:bF)(h:Tq a):Ki (a,())=some (B1 (oi a)):=by
 have d:Al (List.length a.2.2.2.2.1):=h.ls.1;have e:=yW (S:=Int×Unit) a.2.2.2.2.1 (FO a.2.2.2.2.1) (f:=Ki.b0 (a,())) (λk=>(k,())) (Sum.inl ((List.length a.2.2.2.2.1:Int),())) (Sum.inr (B1 false)) (λi b=>?_) ?_
 · unfold Ki oi p6;refine bw e ?_;cases iK (FO a.2.2.2.2.1) 0 a.2.2.2.2.1;· grind
   · refine (bw (GB _ h.1) (Dy (bw (K8 _) (Dy (bw (K8 _) (Dy (bw (Eo _ _ _) (Ch (c:=km (List.length a.2.2.2.2.1:Int) 4))))))))).trans ?_;grind
 · unfold Ki.b0 FO;refine uL (Int.ofNat_lt.2 b) (bw (cB b) (bw (Eo _ _ _) (DT (bw (Eo _ _ _) (DT ?_)))));rw[<-wG b d];exact BD b d (λz=>CG)
 · unfold Ki.b0;exact uM (Int.le_refl _) rfl
def A3(n:Int)(xs:List ek):Int:=xs.foldl (λs y=>cM .i64 s y.1) n
theorem HS(n m:Int):∀xs:List ek,A3 (cM .i64 n m) xs=cM .i64 n (A3 m xs)|[]=>rfl|x::r=>by show A3 (cM .i64 (cM .i64 n m) x.1) r=cM .i64 n (A3 (cM .i64 m x.1) r);rw[Ak,HS]
def Hr(a:bF):Int:=A3 (cM .i64 a.2.1 a.2.2.2.1) a.2.2.2.2.1
def C9(xs:List bF):Int:=xs.foldl (λs y=>cM .i64 s (Hr y)) 0
theorem aN3(a:bF)(h:Tq a):IT (a,())=some (I1 (Hr a)):=by
 have d:Al (List.length a.2.2.2.2.1):=h.ls.1;have c:=AJ (S:=Int×(Int×Unit)) a.2.2.2.2.1 (λs y=>cM .i64 s y.1) (f:=IT.b0 (a,())) (λa i=>(a,(i,()))) (λs=>Sum.inl (s,((List.length a.2.2.2.2.1:Int),()))) (cM .i64 a.2.1 a.2.2.2.1) (λi b s=>?_) (λs=>?_);·unfold IT;exact bw c rfl
 ·unfold IT.b0;refine uL (Int.ofNat_lt.2 b) (bw (cB b) ?_);rw[<-wG b d]
 simp_all[IT.b0,bF,ek,uM,bK,cM]
theorem Qq(xs:List bF)(c:(Ty.sl c6).Ok xs):J2 ((xs,()),())=some (I1 (C9 xs)):=by
 have d:=AJ (S:=Int×(Int×Unit)) xs (λs y=>cM .i64 s (Hr y)) (f:=J2.b0 ((xs,()),())) (λa i=>(a,(i,()))) (λs=>Sum.inl (s,((xs.length:Int),()))) 0 (λi b s=>?_) (λs=>?_);·unfold J2;exact bw d rfl
 ·unfold J2.b0;refine uL (Int.ofNat_lt.2 b) (bw (cB b) (bw (aN3 _ (Ae c.2 (List.getElem_mem b))) ?_));rw[<-wG b c.1]
 simp_all[J2.b0,bF,uM,bK,IT,cM]
theorem Qr(xs:List bF)(c:(Ty.sl c6).Ok xs):FN ((xs,()),())=some (I1 (C9 xs)):=by
 have d:∀(a:bF)(n:Int),Al (List.length a.2.2.2.2.1)->aR (FN.b1 a) (n,((0:Int),()))=some (.inl (A3 n a.2.2.2.2.1,((List.length a.2.2.2.2.1:Int),()))):=by
  intro a n e;refine AJ (S:=Int×(Int×Unit)) a.2.2.2.2.1 (λs y=>cM .i64 s y.1) (λa i=>(a,(i,()))) (λs=>Sum.inl (s,((List.length a.2.2.2.2.1:Int),()))) n (λi b s=>?_) (λs=>?_);·unfold FN.b1;refine uL (Int.ofNat_lt.2 b) (bw (cB b) ?_);rw[<-wG b e]
  simp_all[FN.b1,ek,uM,bK,cM]
 have g:=AJ (S:=Int×(Int×Unit)) xs (λs y=>cM .i64 s (Hr y)) (f:=FN.b0 ((xs,()),())) (λa i=>(a,(i,()))) (λs=>Sum.inl (s,((xs.length:Int),()))) 0 (λi b s=>?_) (λs=>?_);·unfold FN;exact bw g rfl
 ·unfold FN.b0;refine uL (Int.ofNat_lt.2 b) (bw (cB b) (bw (d _ _ (Tq.ls (Ae c.2 (List.getElem_mem b))).1) ?_));rw[<-wG b c.1];exact congrArg (λz=>some (Sum.inl (z,(cM .i64 (i:Int) 1,())))) (HS s _ _)
 ·unfold FN.b0;exact uM (Int.le_refl _) rfl
def zA(xs:List bF)(i:Nat)(y:bF):Bool:=oi y&&lO (λz y=>ob z.1 y.1) xs i y
def pb(xs:List bF):Bool:=iK (zA xs) 0 xs&&(km (xs.length:Int) 12&&km (C9 xs) 1000000)
abbrev fk:Type:=Int×(List bF×Unit)
def bk(x:fk):Bool:=Di x.1 0 900&&pb x.2.1
theorem Tr(xs:List bF)(c:(Ty.sl c6).Ok xs):J3 ((xs,()),())=some (B1 (pb xs)):=by
 have d:Al xs.length:=c.1;have e:=yW (S:=Int×Unit) xs (zA xs) (f:=J3.b0 ((xs,()),())) (λk=>(k,())) (Sum.inl ((xs.length:Int),())) (Sum.inr (B1 false)) (λi a=>?_) ?_
 · unfold J3 pb;refine bw e ?_;cases iK (zA xs) 0 xs;· rfl
   · exact (Dy (b:=km (xs.length:Int) 12) (bw (Qq xs c) rfl)).trans rfl
 · unfold J3.b0 zA;refine uL (Int.ofNat_lt.2 a) (bw (cB a) (bw (VA _ (Ae c.2 (List.getElem_mem a))) (DT ?_)));rw[<-wG a d];exact BD a d (λz=>bw (cB a) DU)
 · unfold J3.b0;exact uM (Int.le_refl _) rfl
theorem s8(x:fk)(a:(Ty.sl c6).Ok x.2.1):Sf (x,())=some (B1 (bk x)):=bw (lb _ _ _) (Dy (bw (Tr _ a) rfl))
theorem Ts(xs:List bF)(c:(Ty.sl c6).Ok xs):S4 ((xs,()),())=some (B1 (pb xs)):=by
 have d:Al xs.length:=c.1;have e:=yW (S:=Int×Unit) xs (zA xs) (f:=S4.b0 ((xs,()),())) (λk=>(k,())) (Sum.inl ((xs.length:Int),())) (Sum.inr (B1 false)) (λi a=>?_) ?_
 · unfold S4 pb;refine bw e ?_;cases iK (zA xs) 0 xs;· rfl
   · exact (Dy (b:=km (xs.length:Int) 12) (bw (Qr xs c) rfl)).trans rfl
 · unfold S4.b0 zA;refine uL (Int.ofNat_lt.2 a) (bw (cB a) (bw (VB _ (Ae c.2 (List.getElem_mem a))) (DT ?_)));rw[<-wG a d];exact BD a d (λz=>Cf)
 · unfold S4.b0;exact uM (Int.le_refl _) rfl
theorem K9(x:fk)(a:(Ty.sl c6).Ok x.2.1):Y1 (x,())=some (B1 (bk x)):=bw (Eo _ _ _) (Dy (bw (Ts _ a) rfl))
def u9(s:List df)(y:bF):List df:=bif km 5 y.2.2.2.1 then s++([(y.1,(y.2.2.2.1,()))]:List df)else s
def ma(xs:List bF):List df:=xs.foldl u9 []
theorem G3(s:List df)(y:bF){i:Nat}(h:s.length<=i):(u9 s y).length<=i+1:=by unfold u9;grind
theorem FP(xs:List bF):ma xs=(xs.filter (λy=>km 5 y.2.2.2.1)).map (λy=>(y.1,(y.2.2.2.1,()))):=by
 have :∀(xs:List bF)(s:List df),xs.foldl u9 s=s++(xs.filter (λy=>km 5 y.2.2.2.1)).map (λy=>(y.1,(y.2.2.2.1,()))):=by intro xs;induction xs with|nil=>grind|cons x r a=>intro s;rw[List.foldl_cons,a,List.filter_cons];unfold u9;grind
 have h:=this xs [];rw [List.nil_append]at h;exact h
theorem Ev(xs:List bF):(ma xs).length<=xs.length:=by rw[FP,List.length_map];grind
theorem Qs{xs:List bF}{y:df}(h:y∈ma xs):∃a∈xs,y=(a.1,(a.2.2.2.1,())):=by rw[FP,List.mem_map]at h;grind
theorem Hv(xs:List bF)(c:(Ty.sl c6).Ok xs):(Ty.sl s6).Ok (ma xs):=Dk (Nat.le_trans (Ev xs) c.1) (λy d=>by obtain⟨a,f,e⟩:=Qs d;have b:Tq a:=Ae c.2 f;rw[e];exact⟨b.1,b.2.2.2.1,trivial⟩)
def ti(x:fk):List df:=bif bk x then ma x.2.1 else[]
theorem Qt(x:fk)(d:W1 x.2.1.length):Sg (x,())=some ((ma x.2.1,()),()):=by
 have c:=xL (S:=List df×(Int×Unit)) (f:=Sg.b0 (x,())) x.2.1 u9 (λi s=>s.length<=i) (λa i=>(a,(i,()))) (λa=>Sum.inl (a,((x.2.1.length:Int),()))) [] (Nat.le_refl _) (λi b a e=>⟨?_,G3 _ _ e⟩) (λa _=>?_);·unfold Sg;exact bw c.1 rfl
 ·unfold Sg.b0 u9;refine uL (Int.ofNat_lt.2 b) (bw (cB b) ?_);rw[<-wG b d.l];dsimp only;cases km 5 x.2.1[i].2.2.2.1 with|false=>rfl|true=>exact bw (cB b) (bw (cB b) (Cm (n:=a.length+1) (by omega) (by decide) (by decide) rfl))
 ·unfold Sg.b0;exact uM (Int.le_refl _) rfl
theorem Qu(x:fk)(a:(Ty.sl c6).Ok x.2.1):(Ty.sl s6).Ok (ti x):=by unfold ti;cases bk x with|true=>exact Hv _ a|false=>exact CK
theorem Tt(x:fk)(d:W1 x.2.1.length)(c:(Ty.sl c6).Ok x.2.1):S5 (x,())=some ((ti x,()),()):=by
 unfold S5 ti;refine bw (K9 _ c) ((Dz (K:=_) (g:=some ((ma x.2.1,()),())) ?_).trans (by grind));have e:=xL (S:=List df×(Int×Unit)) (f:=S5.b0 (x,())) x.2.1 u9 (λi s=>s.length<=i) (λa i=>(a,(i,()))) (λa=>Sum.inl (a,((x.2.1.length:Int),()))) [] (Nat.le_refl _) (λi b a h=>⟨?_,G3 _ _ h⟩) (λa _=>?_);·exact bw e.1 rfl
 ·unfold S5.b0 u9;refine uL (Int.ofNat_lt.2 b) (bw (cB b) ?_);rw[<-wG b d.l];dsimp only;cases km 5 x.2.1[i].2.2.2.1 with|false=>rfl|true=>exact Cm (n:=a.length+1) (by omega) (by decide) (by decide) rfl
 ·unfold S5.b0;exact uM (Int.le_refl _) rfl
theorem Nn(x:fk)(a:W1 x.2.1.length)(b:(Ty.sl c6).Ok x.2.1):Xe (x,())=some ((ti x,()),()):=by unfold Xe ti;exact bw (s8 _ b) ((Dz (g:=some ((ma x.2.1,()),())) (bw (Qt x a) rfl)).trans (by grind))
abbrev j4:Type:=Int×(Int×(List D9×Unit))
abbrev se:Type:=Int×(List D9×(List D3×Unit))
def j7(q:j4):Bool:=gA q.1 0&&(gA q.2.1 (-1)&&gA (List.length q.2.2.1:Int) 0)
def p7(t:se):Bool:=gA t.1 0&&(gA (List.length t.2.1:Int) 0&&gA (List.length t.2.2.1:Int) 0)
abbrev Tu(q:j4):Prop:=(Ty.sl e9).Ok q.2.2.1
abbrev Ur(t:se):Prop:=(Ty.sl e9).Ok t.2.1/\Al (List.length t.2.2.1)
def G4(q:j4)(round a:Int):Bool:=j7 q||(Di q.1 1 round&&(Di q.2.1 0 a&&l9 q.2.2.1))
def Jn(t:se)(round:Int):Bool:=p7 t||(Di t.1 1 round&&(l9 t.2.1&&(gA (List.length t.2.2.1:Int) (List.length t.2.1:Int)&&t.2.2.1.all (λh=>Di h.1 0 (gS .i64 t.1 1)))))
def tm(l:List df)(q:j4):Bool:=j7 q||(Di q.1 1 10000&&(Di q.2.1 0 100000&&(l9 q.2.2.1&&(Ft l q.2.2.1&&md l q.2.2.1))))
def FE(l:List df)(t:se):Bool:=p7 t||(Di t.1 1 10000&&(l9 t.2.1&&(gA (List.length t.2.2.1:Int) (List.length t.2.1:Int)&&(t.2.2.1.all (λh=>Di h.1 0 (gS .i64 t.1 1))&&(Ft l t.2.1&&md l t.2.1)))))
theorem GF(q:j4):J6 (q,())=some (B1 (j7 q)):=by unfold J6 j7;grind
theorem Qv(q:j4):Xu (q,())=some (B1 (j7 q)):=by unfold Xu j7;grind
theorem Ew(t:se):Hk (t,())=some (B1 (p7 t)):=by unfold Hk p7;grind
theorem VD(t:se):Y3 (t,())=some (B1 (p7 t)):=by unfold Y3 p7;grind
theorem OL(l:List df)(q:j4)(b:Al l.length)(a:Tu q):K0 ((l,()),(q,()))=some (B1 (tm l q)):=by unfold K0 tm;refine bw (GF q) (DR (bw (lb _ _ _) (Dy (bw (lb _ _ _) (Dy ?_)))));refine bw (Uq l _ b a) ((Dy (bw (K7 l _ b a.1) rfl)).trans ?_);grind
theorem Us(q:j4)(r b:Int)(a:Tu q):Xv (q,((r,()),((b,()),())))=some (B1 (G4 q r b)):=by unfold Xv G4;exact bw (Qv q) (DR (bw (Eo _ _ _) (Dy (bw (Eo _ _ _) (Dy (bw (Nm _ a) rfl))))))
theorem Yc(l:List df)(q:j4)(b:Al l.length)(a:Tu q):Xy ((l,()),(q,()))=some (B1 (tm l q)):=by unfold Xy;refine (bw (Qv q) (DR (bw (Us q _ _ a) (Dy (bw (Qp l _ b a.1) (Dy (bw (Yb l _ b a.1) rfl))))))).trans ?_;unfold tm G4;cases j7 q<;>cases Di q.1 1 10000<;>cases Di q.2.1 0 100000<;>cases l9 q.2.2.1<;>cases Ft l q.2.2.1<;>cases md l q.2.2.1<;>rfl
theorem Yd(t:se)(r:Int)(h:Ur t):S6 (t,((r,()),()))=some (B1 (Jn t r)):=by
 have c:Al (List.length t.2.2.1):=h.2;have b:=BI (S:=Int×Unit) t.2.2.1 (λy=>Di y.1 0 (gS .i64 t.1 1)) (f:=S6.b0 (t,((r,()),()))) (λk=>(k,())) (Sum.inl ((t.2.2.1.length:Int),())) (Sum.inr (B1 false)) (λi a=>?_) ?_
 · unfold S6 Jn;refine bw (VD t) (DR (bw b ?_));cases t.2.2.1.all (λy=>Di y.1 0 (gS .i64 t.1 1));· grind
   · refine (bw (Eo _ _ _) (Dy (bw (Nm _ h.1) Ch))).trans ?_;grind
 · unfold S6.b0;refine uL (Int.ofNat_lt.2 a) (bw (cB a) (bw (Eo _ _ _) ?_));rw[<-wG a c];grind
 · unfold S6.b0;exact uM (Int.le_refl _) rfl
theorem Qw(l:List df)(t:se)(d:Al l.length)(h:Ur t):HP ((l,()),(t,()))=some (B1 (FE l t)):=by
 have e:Al (List.length t.2.2.1):=h.2;have g:=BI (S:=Int×Unit) t.2.2.1 (λy=>Di y.1 0 (gS .i64 t.1 1)) (f:=HP.b0 ((l,()),(t,()))) (λk=>(k,())) (Sum.inl ((t.2.2.1.length:Int),())) (Sum.inr (B1 false)) (λi a=>?_) ?_
 · unfold HP;refine (bw (Ew t) (DR (bw (lb _ _ _) (Dx (bw (Uq l _ d h.1) (Dx (bw (K7 l _ d h.1.1) (Dx (Dx (b:=gA (List.length t.2.2.1:Int) (List.length t.2.1:Int)) (c:=t.2.2.1.all (λy=>Di y.1 0 (gS .i64 t.1 1))) (bw g ?_)))))))))).trans ?_;· grind
   · unfold FE;grind
 · unfold HP.b0;refine uL (Int.ofNat_lt.2 a) (bw (cB a) (bw (lb _ _ _) ?_));rw[<-wG a e];grind
 · unfold HP.b0;exact uM (Int.le_refl _) rfl
def No(t:cp):Bool:=e6 t.2.1&&(Di t.2.2.2.1 1 1000000&&(Di t.2.2.2.2.1 0 10000&&(bif gA t.1 1 then e6 t.2.2.1 else(Di t.1 2 3&&ko t.2.2.1 ⟨#[]⟩))))
abbrev XOk(t:cp):Prop:=Al t.2.1.size/\Al t.2.2.1.size
theorem Kn{l:List cp}(h:(Ty.sl il).Ok l){t:cp}(a:t∈l):XOk t:=⟨(Ae h.2 a).2.1,(Ae h.2 a).2.2.1⟩
theorem VE(t:cp)(h:XOk t):Ow (t,())=some (B1 (No t)):=by
 unfold Ow No;refine bw (A2 _ h.1) (Dx (bw (lb _ _ _) (Dx (bw (lb _ _ _) (Dx ?_)))));cases gA t.1 1;·exact bw (lb _ _ _) Ch
 ·exact bw (A2 _ h.2) rfl
theorem aN5(t:cp)(h:XOk t):Qi (t,())=some (B1 (No t)):=by
 unfold Qi No;refine (bw (Eo _ _ _) (Dx (bw (GB _ h.1) (Dx (bw (Eo _ _ _) (Dx (bw (Eo _ _ _) (Dx (c:=bif gA t.1 1 then e6 t.2.2.1 else ko t.2.2.1 ⟨#[]⟩) ?_)))))))).trans ?_
 · cases gA t.1 1;· rfl
   · exact bw (GB _ h.2) rfl
 · have e:Di t.1 1 3=(gA t.1 1||Di t.1 2 3):=by simp only[Di,km,gA];grind
   grind
theorem Ye(l:List cp)(h:(Ty.sl il).Ok l):S7 ((l,()),())=some (B1 (l.all No)):=by
 have b:Al l.length:=h.1;have c:=BI (S:=Int×Unit) l No (f:=S7.b0 ((l,()),())) (λk=>(k,())) (Sum.inl ((l.length:Int),())) (Sum.inr (B1 false)) (λi a=>?_) ?_;·unfold S7;grind
 ·unfold S7.b0;refine uL (Int.ofNat_lt.2 a) (bw (cB a) (bw (aN5 _ (Kn h (List.getElem_mem a))) ?_));rw[<-wG a b];grind
 simp_all[S7.b0,cp,uM,bK,Qi,cM]
abbrev ao:Type:=uf
def gx(b:ao):j4:=(b.2.2.2.2.1,(b.2.2.2.2.2.1,(b.2.2.2.2.2.2.1,())))
def oj(b:ao):se:=(b.2.2.2.2.2.2.2.1,(b.2.2.2.2.2.2.2.2.1,(b.2.2.2.2.2.2.2.2.2.1,())))
abbrev nx(b:ao):List cp:=b.2.2.2.2.2.2.2.2.2.2.1
abbrev fa(b:ao):Bool:=b.2.2.2.2.2.2.2.2.2.2.2.1
abbrev kB(b:ao):List df:=b.2.2.2.2.2.2.2.2.2.2.2.2.1
abbrev La(b:ao):ByteArray:=b.2.2.2.2.2.2.2.2.2.2.2.2.2.1
abbrev De(b:ao):Prop:=j3.Ok b
theorem De.by_{b:ao}(h:De b):Al b.2.2.2.1.size:=h.2.2.2.1
theorem De.qc{b:ao}(h:De b):Tu (gx b):=h.2.2.2.2.2.2.1
theorem De.tc{b:ao}(h:De b):Ur (oj b):=⟨h.2.2.2.2.2.2.2.2.1,h.2.2.2.2.2.2.2.2.2.1.1⟩
theorem De.Ex{b:ao}(h:De b):(Ty.sl il).Ok (nx b):=h.2.2.2.2.2.2.2.2.2.2.1
theorem De.Lb{b:ao}(h:De b):(Ty.sl s6).Ok (kB b):=h.2.2.2.2.2.2.2.2.2.2.2.2.1
def HT(b:ao):Bool:=bif fa b then(o9 (kB b)&&gA ((La b).size:Int) 32)else (gA (List.length (kB b):Int) 0&&ko (La b) ⟨#[]⟩)
def gl(b:ao):Bool:=Di b.1 0 100000&&(Di b.2.1 0 900&&(Di b.2.2.1 1 10000&&(e6 b.2.2.2.1&&(G4 (gx b) (gS .i64 b.2.2.1 1) (gS .i64 b.1 1)&&(Jn (oj b) (gS .i64 b.2.2.1 1)&&(!dO 4 (List.length (nx b):Int)&&((nx b).all No&&HT b)))))))
theorem Yf(b:ao)(h:De b):SH (b,())=some (B1 (G4 (gx b) (gS .i64 b.2.2.1 1) (gS .i64 b.1 1))):=by unfold SH G4;exact bw (GF (gx b)) (DR (bw (lb _ _ _) (Dy (bw (lb _ _ _) (Dy (bw (EP _ h.qc) rfl))))))
theorem Yg(b:ao)(h:De b):J7 (b,())=some (B1 (Jn (oj b) (gS .i64 b.2.2.1 1))):=by
 have d:Al (List.length (oj b).2.2.1):=h.tc.2;have c:=BI (S:=Int×Unit) (oj b).2.2.1 (λy=>Di y.1 0 (gS .i64 (oj b).1 1)) (f:=J7.b0 (b,())) (λk=>(k,())) (Sum.inl (((oj b).2.2.1.length:Int),())) (Sum.inr (B1 false)) (λi a=>?_) ?_;·unfold J7 Jn;refine bw (Ew (oj b)) (DR (bw (lb _ _ _) (Dx (bw (EP _ h.tc.1) (Dx ?_)))));refine (Dx (b:=gA (List.length (oj b).2.2.1:Int) (List.length (oj b).2.1:Int)) (bw c ?_));grind
 ·unfold J7.b0;refine uL (Int.ofNat_lt.2 a) (bw (cB a) (bw (lb _ _ _) ?_));rw[<-wG a d];exact DU
 ·unfold J7.b0;exact uM (Int.le_refl _) rfl
theorem Jo(b:ao)(h:De b):Ox (b,())=some (B1 (gl b)):=by
 have d:Al (nx b).length:=h.Ex.1;have c:=BI (S:=Int×Unit) (nx b) No (f:=Ox.b0 (b,())) (λk=>(k,())) (Sum.inl (((nx b).length:Int),())) (Sum.inr (B1 false)) (λi a=>?_) ?_
 · unfold Ox gl;refine bw (lb _ _ _) (Dx (bw (lb _ _ _) (Dx (bw (lb _ _ _) (Dx (bw (A2 _ h.by_) (Dx (bw (Yf b h) (Dx (bw (Yg b h) (Dx (DS (bw c ?_)))))))))))));cases (nx b).all No;· rfl
   · unfold HT;rw[Bool.true_and];dsimp only[cond_true,Sum.elim_inl,fa];cases b.2.2.2.2.2.2.2.2.2.2.2.1;· grind
     · exact bw (X9 _ h.Lb) Ch
 · unfold Ox.b0;refine uL (Int.ofNat_lt.2 a) (bw (cB a) (bw (VE _ (Kn h.Ex (List.getElem_mem a))) ?_));rw[<-wG a d];grind
 · unfold Ox.b0;exact uM (Int.le_refl _) rfl
theorem Yh(b:ao)(h:De b):Y4 (b,())=some (B1 (gl b)):=by
 unfold Y4 gl;refine bw (Eo _ _ _) (Dx (bw (Eo _ _ _) (Dx (bw (Eo _ _ _) (Dx (bw (GB _ h.by_) (Dx (bw (Us (gx b) _ _ h.qc) (Dx (bw (Yd (oj b) _ h.tc) (Dx (DS (bw (Ye _ h.Ex) (Dx ?_))))))))))))));unfold HT;dsimp only[fa];cases b.2.2.2.2.2.2.2.2.2.2.2.1;·grind
 ·exact bw (Up _ h.Lb) Ch
theorem Ey(q:j4)(h:W1 (List.length q.2.2.1)):Fk (q,())=some (q,()):=by unfold Fk;exact vP h (by decide) (by decide) rfl
theorem Jp(t:se)(h:W1 (List.length t.2.1))(a:W1 (List.length t.2.2.1)):HM (t,())=some (t,()):=by unfold HM;exact vP h (by decide) (by decide) (vP a (by decide) (by decide) rfl)
theorem Ut(l:List df)(h:W1 l.length):Ww ((l,()),())=some ((l,()),()):=by unfold Ww;exact BL l h (by decide) (by decide)
def ei(x:ao):Prop:=W1 (List.length (gx x).2.2.1)/\W1 (List.length (oj x).2.1)/\W1 (List.length (oj x).2.2.1)/\W1 (List.length (nx x))/\W1 (List.length (kB x))
theorem GG(x:ao)(h:ei x):HN (x,())=some (x,()):=by unfold HN;exact bw (Ey (gx x) h.1) (bw (Jp (oj x) h.2.1 h.2.2.1) (vP h.2.2.2.1 (by decide) (by decide) (vP h.2.2.2.2 (by decide) (by decide) rfl)))
theorem va(xs:List ao)(c:W1 xs.length)(d:∀x∈xs,ei x):BE ((xs,()),())=some ((xs,()),()):=by
 have e:=BJ (S:=List ao×(Int×Unit)) xs (f:=BE.b0 ((xs,()),())) (λa k=>(a,(k,()))) (Sum.inl (xs,((xs.length:Int),()))) (λi b=>?_) ?_;·unfold BE;grind
 ·unfold BE.b0;refine uL (Int.ofNat_lt.2 b) (bw (cB b) (bw (GG _ (d _ (List.getElem_mem b))) (BK b c (by decide) (by decide) ?_)));rw[<-wG b c.l];rfl
 ·unfold BE.b0;exact uM (Int.le_refl _) rfl
abbrev A4:Type:=Mo
abbrev kj(p:A4):List ao:=p.2.1
def pQ(p:A4):j4:=(p.2.2.1,(p.2.2.2.1,(p.2.2.2.2.1,())))
def GH(x:A4):Prop:=W1 (List.length (kj x))/\(∀y∈kj x,ei y)/\W1 (List.length (pQ x).2.2.1)
theorem Qx(x:A4)(h:GH x):SG (x,())=some (x,()):=by unfold SG;exact bw (va _ h.1 h.2.1) (bw (Ey (pQ x) h.2.2) rfl)
def HU(c:Int)(a:List df)(l:List ao)(i:Nat)(b:ao):Bool:=gl b&&(gA b.2.1 c&&lO (λz y=>gA (gx y).2.1 z.1&&(gA (gx y).1 z.2.2.1&&tm a (gx y))) l i b)
def Lc(b:Int)(a:List df)(l:List ao):Bool:=iK (HU b a l) 0 l
abbrev Ko:Type:=Int×(List df×Unit)
theorem VF(c:Ko)(l:List ao)(g:(Ty.sl s6).Ok c.2.1)(h:(Ty.sl j3).Ok l):Tc (c,((l,()),()))=some (B1 (Lc c.1 c.2.1 l)):=by
 have d:Al l.length:=h.1;have m:=yW (S:=Int×Unit) l (HU c.1 c.2.1 l) (f:=Tc.b0 (c,((l,()),()))) (λk=>(k,())) (Sum.inl ((l.length:Int),())) (Sum.inr (B1 false)) (λi a=>?_) ?_;·unfold Tc Lc;grind
 ·unfold Tc.b0 HU;have b:De l[i]:=Ae h.2 (List.getElem_mem a);refine uL (Int.ofNat_lt.2 a) (bw (cB a) ?_);rw[Bool.and_left_comm];refine DT (bw (Yh _ b) (DT ?_));rw[<-wG a d];cases i with|zero=>rfl|succ j=>have e:=xI (xs:=l) (j:=j) d (by omega);rw[mz (by omega)];exact uL (by omega) (bw e (DT (bw e (DT (bw (Yc _ (gx l[j+1]) g.1 b.qc) DU)))))
 ·unfold Tc.b0;exact uM (Int.le_refl _) rfl
def Qy(c:Ko)(p:A4):Bool:=match(kj p)[(kj p).length-1]?,(kj p)[(kj p).length-2]? with|some b,some a=>gA b.2.2.1 (cM .i64 a.2.2.1 1)&&(tm c.2.1 (pQ p)&&(gA (pQ p).1 b.2.2.1&&gA (pQ p).2.1 b.1))|_,_=>false
def sM(c:Ko)(p:A4):Bool:=o9 c.2.1&&(gA p.1 c.1&&(!dO ((kj p).length:Int) 2&&(Lc c.1 c.2.1 (kj p)&&Qy c p)))
def g8(c:Ko)(p:A4):Ko×((Bool×Unit)×Unit):=bif sM c p then(match((kj p).take ((kj p).length-1)).find? (λb=>fa b)with|some b=>((cM .i64 c.1 1,(kB b,())),((true,()),()))|none=>(c,((false,()),())))else (c,((false,()),()))
theorem Ld(l:List ao)(g:ao->Option (Bool×Unit))(p:ao->Bool)(d:∀x,g x=some (p x,()))(e:Al l.length):Sj ((l,()),((g,()),()))=some (I1 (nY l p)):=by
 have h:=Ck (S:=Int×Unit) l p (f:=Sj.b0 ((l,()),((g,()),()))) (λk=>(k,())) (Sum.inl ((l.length:Int),())) (λi=>Sum.inr (I1 i)) (λi a=>?_) ?_;·unfold Sj;refine bw h ?_;rcases mA l p with⟨b,_,c⟩|⟨j,m,_,_,b,_,c⟩<;>rw[b,c]<;>rfl
 ·unfold Sj.b0;refine uL (Int.ofNat_lt.2 a) (bw (cB a) (bw (d _) ?_));rw[<-wG a e]
 simp_all[Sj.b0,uf,ao,uM,bK,cM]
theorem Qz(c:Ko)(p:A4)(g:(Ty.sl s6).Ok c.2.1)(l:W1 c.2.1.length)(e:G2.Ok p)(s:∀b∈kj p,W1 (List.length (kB b))):Xz (c,(p,()))=some (g8 c p):=by
 have w:Al (kj p).length:=e.2.1.1;have k:OE (c,())=some (c,()):=by unfold OE;exact bw (Ut _ l) rfl
 have o:((OE (c,())).bind λy=>some (y.1,((false,()),())))=some (c,((false,()),())):=bw k rfl;have q:Xz (c,(p,()))=bif sM c p then some (match ((kj p).take ((kj p).length-1)).find? (λb=>fa b) with|some b=>((cM .i64 c.1 1,(kB b,())),((true,()),()))|none=>(c,((false,()),()))) else some (c,((false,()),())):=by
  unfold Xz;rw[o];by_cases u:2<=(kj p).length
  · have v:bK (kj p) (gS .i64 ((kj p).length:Int) 1)=some (kj p)[(kj p).length-1]:=by rw[iz (by omega) (by omega),show ((kj p).length:Int)-1=(((kj p).length-1:Nat):Int) by omega];exact cB (by omega)
    have d:bK (kj p) (gS .i64 (gS .i64 ((kj p).length:Int) 1) 1)=some (kj p)[(kj p).length-2]:=by rw[iz (a:=(List.length (kj p):Int)) (by omega) (by omega),iz (by omega) (by omega),show ((kj p).length:Int)-1-1=(((kj p).length-2:Nat):Int) by omega];exact cB (by omega)
    refine uM (a:=gS .i64 ((kj p).length:Int) 1) (by rw[iz (by omega) (by omega)];omega) ?_;refine (DT (bw (Up _ g) (DT (bw (VF c _ g e.2.1) (DT (bw v (bw d (DT (DT (b:=gA (pQ p).1 _) (DT (b:=gA (pQ p).2.1 _) (bw (Yc _ (pQ p) g.1 e.2.2.2.2.1) (Dz ?_)))))))))))).trans (b:=bif (gA p.1 c.1&&(o9 c.2.1&&(Lc c.1 c.2.1 (kj p)&&(gA (kj p)[(kj p).length-2].2.2.1 (gS .i64 (kj p)[(kj p).length-1].2.2.1 1)&&(gA (pQ p).1 (kj p)[(kj p).length-1].2.2.1&&(gA (pQ p).2.1 (kj p)[(kj p).length-1].1&&tm c.2.1 (pQ p))))))) then some (match ((kj p).take ((kj p).length-1)).find? (λb=>fa b) with|some b=>((cM .i64 c.1 1,(kB b,())),((true,()),()))|none=>(c,((false,()),()))) else some (c,((false,()),()))) ?_
    · have t:=DA (n:=(kj p).length) (by omega) w;have i:(bif mX (((kj p).length-1:Nat):Int) (kj p).length then (Sj ((List.take (Int.toNat (((kj p).length-1:Nat):Int)-0) (List.drop 0 (kj p)),()),(((λb=>some (fa b,())),()),()))).bind (λy=>bif dO y.1.1 0 then some (c,((false,()),())) else (bK (kj p) y.1.1).bind λx=>(Ww ((kB x,()),())).bind λz=>some ((cM .i64 c.1 1,(z.1.1,())),((true,()),()))) else none)=some (match ((kj p).take ((kj p).length-1)).find? (λb=>fa b) with|some b=>((cM .i64 c.1 1,(kB b,())),((true,()),()))|none=>(c,((false,()),()))):=by
       refine CJ (by omega) ?_;rw[BM];refine bw (Ld _ _ (λb=>fa b) (λ_=>rfl) (by grind)) ?_;rcases mA ((kj p).take ((kj p).length-1)) (λb=>fa b) with⟨_,d,f⟩|⟨j,B,A,u,_,d,f⟩;· rw[d,f];rfl
       · rw[d,f];have h:j<(kj p).length:=by grind
         rw[List.getElem_take];exact xM (Int.natCast_nonneg j) (bw (cB h) (bw (Ut _ (s _ (List.getElem_mem h))) rfl))
      rw[<-t]at i;exact i
    · have m:De (kj p)[(kj p).length-1]:=Ae e.2.1.2 (List.getElem_mem _);have r:De (kj p)[(kj p).length-2]:=Ae e.2.1.2 (List.getElem_mem _);unfold sM Qy;rw[List.getElem?_eq_getElem (show (kj p).length-1<(kj p).length by omega),List.getElem?_eq_getElem (show (kj p).length-2<(kj p).length by omega),<-CL (DW m.2.2.1) (DW r.2.2.1),show dO ((kj p).length:Int) 2=false from dD (by omega)];grind
  · refine uL (a:=gS .i64 ((kj p).length:Int) 1) (by rw[iz (by omega) (by omega)];omega) ?_;unfold sM;rw[show dO ((kj p).length:Int) 2=true from gQ (by omega)];grind
 rw[q];unfold g8;grind
def sT(x:fk):Ko:=bif bk x then(x.1,(ma x.2.1,()))else(0,([],()))
theorem Le(x:fk)(b:W1 x.2.1.length)(a:(Ty.sl c6).Ok x.2.1):Xt (x,())=some (sT x,()):=by unfold Xt sT;refine bw (K9 _ a) ((Dz (bw (Tt x b a) rfl)).trans ?_);unfold ti;grind
abbrev a0:Type:=Gt
abbrev bm(n:a0):List A4:=n.2.2.2.2.2.2.2.2.2.2.2.2.2.2.2.2.2.2.2.1
theorem Jq(n:a0)(a:Int)(h:W1 (bm n).length):Y2 (n,((a,()),()))=some (I1 (nY (bm n) (λp=>gA p.1 a))):=by
 have l:=Ck (S:=Int×Unit) (bm n) (λp=>gA p.1 a) (f:=K5.b0 ((bm n,()),(((λb=>(Vl ((b.1,(b.2.1,(b.2.2.1,(b.2.2.2.1,(b.2.2.2.2.1,()))))),((a,()),()))).bind λg=>some (g.1.1,())),()),()))) (λk=>(k,())) (Sum.inl (((bm n).length:Int),())) (λi=>Sum.inr (I1 i)) (λi c=>?_) ?_;·unfold Y2 K5;refine bw (bw l (r:=some (I1 (nY (bm n) (λp=>gA p.1 a)))) ?_) rfl;rcases mA (bm n) (λp=>gA p.1 a) with⟨d,_,e⟩|⟨j,m,_,_,d,_,e⟩<;>rw[d,e]<;>rfl
 ·unfold K5.b0;refine uL (Int.ofNat_lt.2 c) (bw (cB c) ?_);rw[<-wG c h.l];rfl
 ·unfold K5.b0;exact uM (Int.le_refl _) rfl
def n5(a:List A4):Nat->Ko->Int->Ko×((Int×Unit)×Unit)|0,c,k=>(c,((k,()),()))|f+1,c,k=>match a.find? (λp=>gA p.1 c.1)with|none=>(c,((k,()),()))|some p=>bif(g8 c p).2.1.1 then n5 a f (g8 c p).1 (cM .i64 k 1)else (c,((k,()),()))
def Kp(c:Ko):Nat:=(901-c.1).toNat
theorem OM{c:Ko}{p:A4}(h:(g8 c p).2.1.1=true):0<=c.1/\c.1<=900/\(g8 c p).1.1=c.1+1:=by unfold g8 at h⊢;cases a:sM c p with|false=>grind|true=>
 rw[a]at h;dsimp only[cond_true]at h⊢;unfold sM at a;simp only[Bool.and_eq_true]at a;obtain⟨_,_,l,g,_⟩:=a;have j:2<=(kj p).length:=by
  have :dO ((kj p).length:Int) 2=false:=by grind
  simp[dO]at this;omega
 have d:HU c.1 c.2.1 (kj p) 0 (kj p)[0]=true:=by have :=xJ g 0 (by omega);omega
 unfold HU gl at d;simp only[Bool.and_eq_true]at d;have i:(kj p)[0].2.1=c.1:=by have :=d.2.1;simpa[gA]using this
 have f:Di (kj p)[0].2.1 0 900=true:=d.1.2.1;rw[i]at f;have e:0<=c.1/\c.1<=900:=by simpa[Di,km]using f
 refine⟨e.1,e.2,?_⟩;cases k:((kj p).take ((kj p).length-1)).find? (λb=>fa b)with|none=>grind|some b=>exact ed (by omega) (by omega)
theorem Lf{c:Ko}{p:A4}(h:(g8 c p).2.1.1=true):Kp (g8 c p).1<Kp c:=by obtain⟨b,a,d⟩:=OM h;unfold Kp;omega
def eD(l:List bF):Prop:=W1 l.length/\∀a∈l,W1 (List.length a.2.2.2.2.1)
theorem FQ(xs:List bF)(h:eD xs):FJ ((xs,()),())=some ((xs,()),()):=by
 have c:=h.1;have d:=BJ (S:=List bF×(Int×Unit)) xs (f:=FJ.b0 ((xs,()),())) (λa k=>(a,(k,()))) (Sum.inl (xs,((xs.length:Int),()))) (λi b=>?_) ?_;·unfold FJ;grind
 ·unfold FJ.b0;refine uL (Int.ofNat_lt.2 b) (bw (cB b) (vP (h.2 _ (List.getElem_mem b)) (by decide) (by decide) (BK b c (by decide) (by decide) ?_)));rw[<-wG b c.l];rfl
 ·unfold FJ.b0;exact uM (Int.le_refl _) rfl
theorem n6(x:fk)(h:eD x.2.1):E2 (x,())=some (x,()):=bw (FQ _ h) rfl
def VI:a0:=(⟨#[]⟩,(0,(0,([],([],([],(0,(0,(0,(0,([],(0,([],([],(0,([],([],([],([],([],()))))))))))))))))))))
def kr(name:ByteArray)(x:fk):a0:=bif e6 name&&bk x then(name,(x.1,(x.1,(x.2.1,(ma x.2.1,([],(1,(0,(0,(-1,([],(0,([],([],(0,([],([],([],([],([],()))))))))))))))))))))else VI
theorem ON(name:ByteArray)(x:fk)(a:Al name.size)(b:(Ty.sl c6).Ok x.2.1)(h:eD x.2.1):Sz ((name,()),(x,()))=some (kr name x,()):=by unfold Sz kr;refine (bw (A2 _ a) (DT (bw (s8 x b) (Dz (bw (n6 x h) (bw (Qt x h.1) rfl)))))).trans ?_;cases e6 name&&bk x<;>rfl
abbrev en:Type:=IK
def VJ:en:=(0,([],([],([],([],([],([],())))))))
def Kq(x:fk)(an:List D9):List a0:=x.2.1.foldl (λs a=>bif !iv an a.1 then s++([kr a.1 x]:List a0)else s) []
def ER(x:fk)(an:List D9):en:=bif bk x&&l9 an then(x.1,(x.2.1,(an,(Kq x an,([],([],([],())))))))else VJ
theorem OO(x:fk)(an:List D9):Kq x an=(x.2.1.filter (λa=>!iv an a.1)).map (λa=>kr a.1 x):=by
 have :∀(xs:List bF)(s:List a0),xs.foldl (λs a=>bif !iv an a.1 then s++([kr a.1 x]:List a0)else s) s=s++(xs.filter (λa=>!iv an a.1)).map (λa=>kr a.1 x):=by intro xs;induction xs with|nil=>grind|cons a r b=>grind
 have h:=this x.2.1 [];rw[List.nil_append]at h;exact h
theorem Np{A:Type}{s t:List A}{i:Nat}(h:s.length<=i)(b:Bool)(a:t.length=1):(bif b then s++t else s).length<=i+1:=by grind
theorem MK(x:fk)(an:List D9)(d:(Ty.sl e9).Ok an)(j:W1 an.length)(c:(Ty.sl c6).Ok x.2.1)(h:eD x.2.1):SA (x,((an,()),()))=some (ER x an,()):=by
 have k:=xL (S:=Int×(List a0×Unit)) (f:=SA.b0 (x,((an,()),()))) x.2.1 (λs a=>bif !iv an a.1 then s++([kr a.1 x]:List a0) else s) (λi s=>s.length<=i) (λa i=>(i,(a,()))) (λa=>Sum.inl ((x.2.1.length:Int),(a,()))) [] (Nat.le_refl _) (λi b a m=>⟨?_,Np m _ rfl⟩) (λa _=>?_);·unfold SA ER;refine (bw (s8 x c) (DT (bw (EP _ d) (Dz (g:=some ((x.1,(x.2.1,(an,(Kq x an,([],([],([],()))))))),())) (bw (n6 x h) (vP j (by decide) (by decide) (bw k.1 rfl))))))).trans ?_;cases bk x&&l9 an<;>rfl
 ·unfold SA.b0;refine uL (Int.ofNat_lt.2 b) (bw (cB b) (bw (Jm _ _ d.1) ?_));rw[<-wG b h.1.l];dsimp only;cases iv an x.2.1[i].1 with|true=>rfl|false=>have e:Tq x.2.1[i]:=Ae c.2 (List.getElem_mem b);have o:=h.1;exact bw (cB b) (bw (ON _ x e.1 c h) (Cm (n:=a.length+1) (by omega) (by decide) (by decide) rfl))
 ·unfold SA.b0;exact uM (Int.le_refl _) rfl
def s9{A:Type}(eq:A->A->Bool)(xs ys:List A):Bool:=gA (xs.length:Int) (ys.length:Int)&&iK (λi x=>match ys[i]? with|some y=>eq x y|none=>true) 0 xs
theorem ES{A:Type}{xs ys:List A}{eq:A->A->Bool}{f:Int×Unit->Option (Sum (Int×Unit) (Sum (Int×Unit) ((Bool×Unit)×Unit)))}(b:Al xs.length)(c:∀i (h:i<xs.length) (l:i<ys.length),f ((i:Int),())=bif eq xs[i] ys[i] then some (.inl (cM .i64 (i:Int) 1,()))else some (.inr (.inr (B1 false))))(d:f ((xs.length:Int),())=some (.inr (.inl ((xs.length:Int),())))):(bif !gA (xs.length:Int) (ys.length:Int)then some (B1 false)else (aR f ((0:Int),())).bind λr=>Sum.elim (λ_=>some (B1 true)) some r)=some (B1 (s9 eq xs ys)):=by unfold s9;cases g:gA (xs.length:Int) (ys.length:Int) with|false=>rfl|true=>
 have e:xs.length=ys.length:=by grind[gA]
 have j:=yW (S:=Int×Unit) xs (λi x=>match ys[i]? with|some y=>eq x y|none=>true) (f:=f) (λk=>(k,())) (Sum.inl ((xs.length:Int),())) (Sum.inr (B1 false)) (λi a=>?_) d;·grind
 ·rw[c i a (by omega),List.getElem?_eq_getElem (show i<ys.length by omega),wG a b]
theorem ET{A:Type}{eq:A->A->Bool}(m:∀a b,eq a b=true↔a=b){xs ys:List A}:s9 eq xs ys=true↔xs=ys:=by
 unfold s9;simp only[Bool.and_eq_true];constructor
 · rintro⟨d,j⟩;have c:xs.length=ys.length:=by grind[gA]
   refine List.ext_getElem c (λi d g=>?_);grind[xJ]
 · rintro rfl;refine⟨nV _,?_⟩;have :∀(p:Nat->A->Bool)(k:Nat)(l:List A),(∀i (h:i<l.length),p (k+i) l[i]=true)->iK p k l=true:=by intro p k l;induction l generalizing k with|nil=>intro _;rfl|cons x r e=>intro h;simp only[iK,Bool.and_eq_true];refine⟨h 0 (Nat.zero_lt_succ _),e (k+1) (λi f=>?_)⟩;have :=h (i+1) (by grind);grind
   grind
def Lg(x y:cp):Bool:=(gA x.1 y.1)&&((ko x.2.1 y.2.1)&&((ko x.2.2.1 y.2.2.1)&&((gA x.2.2.2.1 y.2.2.2.1)&&(gA x.2.2.2.2.1 y.2.2.2.2.1))))
def G5(x y:df):Bool:=(ko x.1 y.1)&&(gA x.2.1 y.2.1)
def Hw(a b:j4):Bool:=gA a.1 b.1&&(gA a.2.1 b.2.1&&s9 (λx y=>ko x.1 y.1) a.2.2.1 b.2.2.1)
def FT(a b:se):Bool:=gA a.1 b.1&&(s9 (λx y=>ko x.1 y.1) a.2.1 b.2.1&&s9 (λx y=>gA x.1 y.1) a.2.2.1 b.2.2.1)
def p8(a b:ao):Bool:=gA a.1 b.1&&(gA a.2.1 b.2.1&&(gA a.2.2.1 b.2.2.1&&(ko a.2.2.2.1 b.2.2.2.1&&(Hw (gx a) (gx b)&&(FT (oj a) (oj b)&&(s9 Lg (nx a) (nx b)&&(wo (fa a) (fa b)&&(s9 G5 (kB a) (kB b)&&ko (La a) (La b)))))))))
theorem Nq(xs ys:List D9)(b:Al xs.length):Kg ((xs,()),((ys,()),()))=some (B1 (s9 (λx y=>ko x.1 y.1) xs ys)):=by
 unfold Kg;refine ES b (λi h a=>?_) ?_;·unfold Kg.b0;exact uL (Int.ofNat_lt.2 h) (bw (cB h) (bw (cB a) DU))
 simp_all[Kg.b0,D9,uM,bK,ko,cM]
theorem QB(xs ys:List cp)(b:Al xs.length):K4 ((xs,()),((ys,()),()))=some (B1 (s9 Lg xs ys)):=by
 unfold K4;refine ES b (λi h a=>?_) ?_;·unfold K4.b0 Lg;exact uL (Int.ofNat_lt.2 h) (bw (cB h) (bw (cB a) DU))
 ·unfold K4.b0;exact uM (Int.le_refl _) rfl
theorem Nr(xs ys:List df)(b:Al xs.length):Kb ((xs,()),((ys,()),()))=some (B1 (s9 G5 xs ys)):=by
 unfold Kb;refine ES b (λi h a=>?_) ?_;·unfold Kb.b0 G5;exact uL (Int.ofNat_lt.2 h) (bw (cB h) (bw (cB a) DU))
 ·unfold Kb.b0;exact uM (Int.le_refl _) rfl
theorem QC(a b:j4)(h:Tu a):Vh (a,(b,()))=some (B1 (Hw a b)):=Dy (Dy (bw (Nq _ _ h.1) rfl))
theorem QD(a b:se)(h:Ur a):K3 (a,(b,()))=some (B1 (FT a b)):=by
 unfold K3 FT;refine Dx (bw (Nq _ _ h.1.1) (Dx ?_));refine ES h.2 (λi h c=>?_) ?_;·unfold K3.b0;exact uL (Int.ofNat_lt.2 h) (bw (cB h) (bw (cB c) DU))
 ·unfold K3.b0;exact uM (Int.le_refl _) rfl
theorem OP(a b:ao)(h:De a):Qg (a,(b,()))=some (B1 (p8 a b)):=by unfold Qg p8;exact Dy (Dy (Dy (Dy (bw (QC (gx a) (gx b) h.qc) (Dy (bw (QD (oj a) (oj b) h.tc) (Dy (bw (QB _ _ h.Ex.1) (Dy (Dy (bw (Nr _ _ h.Lb.1) Ch)))))))))))
def p9(a b:cp):Bool:=bif !ko a.2.1 b.2.1 then ob a.2.1 b.2.1 else bif !gA a.2.2.2.2.1 b.2.2.2.2.1 then dO a.2.2.2.2.1 b.2.2.2.2.1 else bif !gA a.1 b.1 then dO a.1 b.1 else bif !ko a.2.2.1 b.2.2.1 then ob a.2.2.1 b.2.2.1 else dO a.2.2.2.1 b.2.2.2.1
theorem Kr{a b:ByteArray}(h:ko a b=true):ob a b=false:=by unfold ko at h;grind[ob,nX]
theorem Lh(a b:cp):P6 (a,(b,()))=some (B1 (p9 a b)):=by unfold P6 p9;grind
def HV(xs:List cp)(i:Nat)(y:cp):Bool:=No y&&lO p9 xs i y
def sd(xs:List cp):Bool:=iK (HV xs) 0 xs&&km (xs.length:Int) 20
theorem QE(xs:List cp)(b:(Ty.sl il).Ok xs):IU ((xs,()),())=some (B1 (sd xs)):=by
 have c:Al xs.length:=b.1;have d:=yW (S:=Int×Unit) xs (HV xs) (f:=IU.b0 ((xs,()),())) (λk=>(k,())) (Sum.inl ((xs.length:Int),())) (Sum.inr (B1 false)) (λi a=>?_) ?_;·unfold IU sd;grind
 ·unfold IU.b0 HV;refine uL (Int.ofNat_lt.2 a) (bw (cB a) (bw (VE _ (Kn b (List.getElem_mem a))) (DT ?_)));rw[<-wG a c];exact BD a c (λz=>bw (cB a) (bw (Lh _ _) DU))
 ·unfold IU.b0;exact uM (Int.le_refl _) rfl
def Ks(l:List ao):Int:=match l with|b::_=>b.2.1|[]=>0
theorem QF{l:List ao}{i:Nat}(h:i<l.length):∃b,bK l 0=some b/\b.2.1=Ks l:=by cases l with|nil=>grind|cons b r=>exact⟨b,rfl,rfl⟩
def z0(a:List ao)(b:ao):Bool:=match a.find? (λz=>gA z.1 (gx b).2.1)with|some z=>gA z.2.2.1 (gx b).1|none=>false
def FU(l:List ao)(i:Nat)(b:ao):Bool:=gl b&&(gA b.2.1 (Ks l)&&lO (λz y=>dO z.1 y.1) l i b)
def E6(l:List ao):Bool:=iK (λi b=>FU l i b&&(j7 (gx b)||z0 (l.take i) b)) 0 l&&km (l.length:Int) 400
theorem Jr{b:ao}(h:gl b=true)(e:j7 (gx b)=false):0<=(gx b).2.1/\(gx b).2.1<b.1:=by
 unfold gl G4 at h;simp only[Bool.and_eq_true]at h;have c:Di b.1 0 100000=true:=h.1;have a:=h.2.2.2.2.1;rw[e,Bool.false_or]at a;simp only[Bool.and_eq_true]at a;have f:0<=b.1/\b.1<=100000:=by simpa[Di,km]using c
 have d:0<=(gx b).2.1/\(gx b).2.1<=gS .i64 b.1 1:=by simpa[Di,km]using a.2.1
 rw[iz (by omega) (by omega)]at d;omega
theorem MM(l:List ao):iK (λi b=>FU l i b&&(j7 (gx b)||z0 (l.take i) b)) 0 l=iK (λi b=>FU l i b&&(j7 (gx b)||z0 l b)) 0 l:=by rw[xK,xK];cases a:iK (λi b=>FU l i b) 0 l with|false=>rfl|true=>
 rw[Bool.true_and,Bool.true_and];have a:=λi c=>by have :=xJ a i c;rw[Nat.zero_add]at this;unfold FU at this;simp only[Bool.and_eq_true]at this;exact this
 refine tT (λi b g=>?_);obtain⟨c,rfl⟩:=List.getElem?_eq_some_iff.1 g;rw[Nat.zero_add];cases n:j7 (gx l[i]) with|true=>rfl|false=>
 rw[Bool.false_or,Bool.false_or];have r:=Jr (a i c).1 n;have d:(l.drop i).find? (λz=>gA z.1 (gx l[i]).2.1)=none:=by rw[List.find?_eq_none];intro z q;obtain⟨k,o,rfl⟩:=List.getElem_of_mem q;rw[List.length_drop]at o;have :=Am (f:=λb:ao=>b.1) (l:=l) (λj m=>(a j m).2.2) k i (by omega);rw[List.getElem_drop];have this:l[i].1<=l[i+k].1:=this;simp only[gA,decide_eq_true_eq];omega
 unfold z0;have :l.find? (λz=>gA z.1 (gx l[i]).2.1)=(l.take i).find? (λz=>gA z.1 (gx l[i]).2.1):=by generalize (gx l[i]).2.1=h at d⊢;have e:=List.find?_append (p:=λz:ao=>gA z.1 h) (xs:=l.take i) (ys:=l.drop i);rw[List.take_append_drop,d]at e;grind
 grind
def mh(l:List ao)(a:Int):Int:=nY l (λb=>gA b.1 a)
theorem sU(l:List ao)(a:Int)(g:Al l.length):Fl ((l,()),((a,()),()))=some (I1 (mh l a)):=by
 have h:=Ck (S:=Int×Unit) l (λb=>gA b.1 a) (f:=Fl.b0 ((l,()),((a,()),()))) (λk=>(k,())) (Sum.inl ((l.length:Int),())) (λi=>Sum.inr (I1 i)) (λi c=>?_) ?_;·unfold Fl mh;refine bw h ?_;rcases mA l (λb=>gA b.1 a) with⟨d,_,e⟩|⟨j,m,_,_,d,_,e⟩<;>rw[d,e]<;>rfl
 ·unfold Fl.b0;refine uL (Int.ofNat_lt.2 c) (bw (cB c) ?_);rw[<-wG c g]
 ·unfold Fl.b0;exact uM (Int.le_refl _) rfl
theorem MN(l:List ao)(h:(Ty.sl j3).Ok l):IV ((l,()),())=some (B1 (E6 l)):=by
 have e:Al l.length:=h.1;have r:=yW (S:=Int×Unit) l (λi b=>FU l i b&&(j7 (gx b)||z0 (l.take i) b)) (f:=IV.b0 ((l,()),())) (λk=>(k,())) (Sum.inl ((l.length:Int),())) (Sum.inr (B1 false)) (λi a=>?_) ?_;·unfold IV E6;grind
 · unfold IV.b0 FU;have o:De l[i]:=Ae h.2 (List.getElem_mem a);obtain⟨p,g,m⟩:=QF a;refine uL (Int.ofNat_lt.2 a) (bw (cB a) (Ci (bw (Jo _ o) (DT (bw g ?_))) (bw (GF (gx l[i])) ?_)));· rw[<-m];refine DT (BD a e (λz=>CG))
   · rw[<-wG a e];dsimp only;cases j7 (gx l[i]) with|true=>rfl|false=>
  refine CJ (by omega) ?_;rw[BM];refine bw (sU _ _ (by grind)) ?_;unfold mh z0;rcases mA (l.take i) (λz=>gA z.1 (gx l[i]).2.1) with⟨_,d,c⟩|⟨j,q,_,_,_,d,c⟩;· rw[d,show nY (l.take i) (λb=>gA b.1 l[i].2.2.2.2.2.1)=-1 from c];rfl
  · rw[d,show nY (l.take i) (λb=>gA b.1 l[i].2.2.2.2.2.1)=(j:Int) from c];have n:j<l.length:=by grind
    rw[List.getElem_take];exact xM (Int.natCast_nonneg j) (bw (cB n) DU)
 · unfold IV.b0;exact uM (Int.le_refl _) rfl
abbrev gd(n:a0):fk:=(n.2.2.1,(n.2.2.2.1,()))
abbrev bb(n:a0):List df:=n.2.2.2.2.1
abbrev ar(n:a0):List ao:=n.2.2.2.2.2.1
abbrev ad(n:a0):Int:=n.2.2.2.2.2.2.1
abbrev fb(n:a0):Int:=n.2.2.2.2.2.2.2.1
def bx(n:a0):j4:=(n.2.2.2.2.2.2.2.2.1,(n.2.2.2.2.2.2.2.2.2.1,(n.2.2.2.2.2.2.2.2.2.2.1,())))
def E7(n:a0):se:=(n.2.2.2.2.2.2.2.2.2.2.2.1,(n.2.2.2.2.2.2.2.2.2.2.2.2.1,(n.2.2.2.2.2.2.2.2.2.2.2.2.2.1,())))
abbrev Li(n:a0):Int:=n.2.2.2.2.2.2.2.2.2.2.2.2.2.2.1
abbrev dT(n:a0):List sH:=n.2.2.2.2.2.2.2.2.2.2.2.2.2.2.2.1
abbrev ej(n:a0):List ow:=n.2.2.2.2.2.2.2.2.2.2.2.2.2.2.2.2.1
abbrev mu(n:a0):List D3:=n.2.2.2.2.2.2.2.2.2.2.2.2.2.2.2.2.2.1
abbrev lh(n:a0):List cp:=n.2.2.2.2.2.2.2.2.2.2.2.2.2.2.2.2.2.2.1
abbrev Es(n:a0):Prop:=HH.Ok n
theorem Es.base{n:a0}(h:Es n):(Ty.sl c6).Ok (gd n).2.1:=h.2.2.2.1
theorem Es.set{n:a0}(h:Es n):(Ty.sl s6).Ok (bb n):=h.2.2.2.2.1
theorem Es.ki{n:a0}(h:Es n):(Ty.sl j3).Ok (ar n):=h.2.2.2.2.2.1
theorem Es.aN6{n:a0}(h:Es n):Tu (bx n):=h.2.2.2.2.2.2.2.2.2.2.1
theorem Es.j8{n:a0}(h:Es n):(Ty.sl il).Ok (lh n):=h.2.2.2.2.2.2.2.2.2.2.2.2.2.2.2.2.2.2.1
abbrev fr:Type:=By
abbrev lf(m:fr):List ao:=m.2.2.2.1
def mQ(m:fr):j4:=(m.2.2.2.2.2.2.2.2.2.2.1,(m.2.2.2.2.2.2.2.2.2.2.2.1,(m.2.2.2.2.2.2.2.2.2.2.2.2.1,())))
def mT(m:fr):se:=(m.2.2.2.2.2.2.2.2.2.2.2.2.2.1,(m.2.2.2.2.2.2.2.2.2.2.2.2.2.2.1,(m.2.2.2.2.2.2.2.2.2.2.2.2.2.2.2.1,())))
def Yk(m:fr):Bool:=(gA m.2.2.2.2.1 (0:Int))&&((gA m.2.2.2.2.2.1 (0:Int))&&(ko m.2.2.2.2.2.2.1 ⟨#[]⟩))
def Uv(m:fr):Bool:=(gA m.2.2.2.2.2.2.2.1 (0:Int))&&((gA m.2.2.2.2.2.2.2.2.1 (0:Int))&&(ko m.2.2.2.2.2.2.2.2.2.1 ⟨#[]⟩))
def Tv(m:fr):Bool:=Di m.2.2.2.2.1 1 10000&&(Di m.2.2.2.2.2.1 0 100000&&e6 m.2.2.2.2.2.2.1)
def VL(m:fr):Bool:=Di m.2.2.2.2.2.2.2.1 1 10000&&(Di m.2.2.2.2.2.2.2.2.1 0 (gS .i64 m.2.2.2.2.2.2.2.1 1)&&(gA m.2.2.2.2.2.2.2.2.1 m.2.2.2.2.2.2.2.2.2.2.1&&e6 m.2.2.2.2.2.2.2.2.2.1))
abbrev HW(m:fr):Prop:=HI.Ok m
theorem HW.bs{m:fr}(h:HW m):(Ty.sl j3).Ok (lf m):=h.2.2.2.1
theorem HW.q{m:fr}(h:HW m):Tu (mQ m):=h.2.2.2.2.2.2.2.2.2.2.2.2.1
theorem HW.t{m:fr}(h:HW m):Ur (mT m):=⟨h.2.2.2.2.2.2.2.2.2.2.2.2.2.2.1,h.2.2.2.2.2.2.2.2.2.2.2.2.2.2.2.1.1⟩
def E8(l:List ao)(a:Int):Bool:=l.all (λb=>gl b&&gA b.2.1 a)
def xC(k:Int)(n:Int)(a b d e r c:Bool):Bool:=bif gA k 1 then(gA n 1&&(a&&(b&&(r&&c))))else bif gA k 2 then(gA n 0&&(d&&(b&&(r&&c))))else bif gA k 3 then(gA n 0&&(a&&(e&&c)))else bif gA k 4 then(a&&b)else false
def Ep(m:fr):Bool:=e6 m.2.1&&(Di m.2.2.1 0 900&&(G4 (mQ m) 10000 100000&&(Jn (mT m) 10000&&((E8 (lf m) m.2.2.1&&km ((lf m).length:Int) 400)&&xC m.1 ((lf m).length:Int) (Yk m) (Uv m) (Tv m) (VL m) (j7 (mQ m)) (p7 (mT m))))))
theorem QG(k:Int)(n:Nat)(d c e g b f h r q a t:Bool):(d&&(c&&(Di k 1 4&&((e&&(km (n:Int) (bif gA k 1 then 1 else bif gA k 4 then 400 else 0)&&(!gA k 1||gA (n:Int) 1)))&&((bif gA k 2 then f else g)&&((bif gA k 2 then b else bif gA k 3 then h else b)&&((r||((gA k 4||gA k 3)&&(r||q)))&&(a||(gA k 4&&(a||t))))))))))=(d&&(c&&((r||q)&&((a||t)&&((e&&km (n:Int) 400)&&xC k (n:Int) g b f h r a))))):=by grind[Di,km,gA,xC,nV]
theorem QH(q:j4)(h:Tu q):Qe (q,())=some (B1 (G4 q 10000 100000)):=by unfold Qe G4;exact bw (GF q) (DR (bw (lb _ _ _) (Dy (bw (lb _ _ _) (Dy (bw (EP _ h) rfl))))))
theorem VM(t:se)(h:Ur t):Hq (t,())=some (B1 (Jn t 10000)):=by
 have b:=BI (S:=Int×Unit) t.2.2.1 (λx=>Di x.1 0 (gS .i64 t.1 1)) (f:=Hq.b0 (t,())) (λk=>(k,())) (Sum.inl ((t.2.2.1.length:Int),())) (Sum.inr (B1 false)) (λi a=>?_) ?_;·unfold Hq Jn;refine bw (Ew t) (DR (bw (lb _ _ _) (Dx (bw (EP _ h.1) (Dx (Dx ?_))))));grind
 ·unfold Hq.b0;refine uL (Int.ofNat_lt.2 a) (bw (cB a) (bw (lb _ _ _) ?_));rw[<-wG a h.2];grind
 ·unfold Hq.b0;exact uM (Int.le_refl _) rfl
theorem VN(m:fr)(h:HW m):Kd (m,())=some (B1 (E8 (lf m) m.2.2.1&&(km ((lf m).length:Int) (bif gA m.1 1 then 1 else bif gA m.1 4 then 400 else 0)&&(!gA m.1 1||gA ((lf m).length:Int) 1)))):=by
 have e:Al (lf m).length:=h.bs.1;have g:=BI (S:=Int×Unit) (lf m) (λb=>gl b&&gA b.2.1 m.2.2.1) (f:=Kd.b0 (m,())) (λk=>(k,())) (Sum.inl (((lf m).length:Int),())) (Sum.inr (B1 false)) (λi a=>?_) ?_
 · unfold Kd;have d:(bif gA m.1 (1:Int) then some (.inl ((1:Int),())) else bif gA m.1 (4:Int) then some (.inl ((400:Int),())) else some (.inl ((0:Int),())):Option (Sum (Int×Unit) ((Bool×Unit)×Unit)))=some (.inl ((bif gA m.1 1 then 1 else bif gA m.1 4 then 400 else 0),())):=by grind
   refine bw d (bw g ?_);unfold E8;grind
 · unfold Kd.b0;have c:De (lf m)[i]:=Ae h.bs.2 (List.getElem_mem a);refine uL (Int.ofNat_lt.2 a) (bw (cB a) (bw (Jo _ c) (DT (bw (cB a) ?_))));rw[<-wG a e];grind
 · unfold Kd.b0;exact uM (Int.le_refl _) rfl
theorem vY{b c:Bool}{A R:Type}{g:A}{K:Option (Sum (Bool×A) R)}(h:K=some (.inl (c,g))):(bif b then K else some (.inl (false,g)))=some (.inl (b&&c,g)):=by grind
theorem gY{b c v:Bool}{R:Type}{K:Option (Sum (Bool×(Bool×Unit)) R)}(h:K=some (.inl (v,(c,())))):(bif b then K else some (.inl (v,(false,()))))=some (.inl (v,(b&&c,()))):=by grind
theorem Yl{r a b c n:Bool}{N d e:Option ((Bool×Unit)×Unit)}(g:N=some (B1 n))(f:d=some (B1 (c&&n)))(h:e=some (B1 (c&&n))):(bif r then N else bif a then d else bif b then e else some (B1 false))=some (B1 ((r||((a||b)&&c))&&n)):=by grind
theorem Ym(m:fr)(h:HW m):YY (m,())=some (B1 (Ep m)):=by
 refine Eq.trans (b:=some (B1 (e6 m.2.1&&(Di m.2.2.1 0 900&&(Di m.1 1 4&&((E8 (lf m) m.2.2.1&&(km ((lf m).length:Int) (bif gA m.1 1 then 1 else bif gA m.1 4 then 400 else 0)&&(!gA m.1 1||gA ((lf m).length:Int) 1)))&&((bif gA m.1 2 then Tv m else Yk m)&&((bif gA m.1 2 then Uv m else bif gA m.1 3 then VL m else Uv m)&&((j7 (mQ m)||((gA m.1 4||gA m.1 3)&&G4 (mQ m) 10000 100000))&&(p7 (mT m)||(gA m.1 4&&Jn (mT m) 10000))))))))))) ?_ ?_
 · unfold YY;have a:((Hk (mT m,())).bind λd=>bif d.1.1 then some ((true,()),()) else bif gA m.1 (4:Int) then (Hq (mT m,())).bind (λc=>some (c.1,())) else some ((false,()),()))=some (B1 (p7 (mT m)||(gA m.1 4&&Jn (mT m) 10000))):=bw (Ew _) (DR (Dy (bw (VM _ h.t) rfl)));refine bw (A2 _ h.2.1) (Dx (bw (lb _ _ _) (Dx (bw (lb _ _ _) (Dx (bw (VN m h) (Dx ?_)))))));refine bw (y:=.inl ((bif gA m.1 2 then Tv m else Yk m),((bif gA m.1 2 then Uv m else bif gA m.1 3 then VL m else Uv m),()))) ?_ ?_;· cases gA m.1 2 with|true=>exact bw (lb _ _ _) (vY (bw (lb _ _ _) (vY (bw (A2 _ h.2.2.2.2.2.2.1) rfl))))|false=>cases gA m.1 3 with|true=>exact bw (lb _ _ _) (gY (bw (lb _ _ _) (gY (gY (bw (A2 _ h.2.2.2.2.2.2.2.2.2.1) rfl)))))|false=>rfl
   · refine Dy (Dy (bw (GF (mQ m)) ?_));exact Yl a (bw (QH (mQ m) h.q) (Dy a)) (bw (QH (mQ m) h.q) (Dy a))
 · refine congrArg (λz=>some (B1 z)) ?_;exact QG m.1 (lf m).length (e6 m.2.1) (Di m.2.2.1 0 900) (E8 (lf m) m.2.2.1) (Yk m) (Uv m) (Tv m) (VL m) (j7 (mQ m)) _ (p7 (mT m)) _
theorem vc{A:Type}{p:Nat->A->Bool}:∀{k:Nat}{l:List A},(∀i(h:i<l.length),p (k+i) l[i]=true)->iK p k l=true|_,[],_=>rfl|k,x::r,h=>by simp only[iK,Bool.and_eq_true];refine⟨h 0 (Nat.zero_lt_succ _),vc (λi a=>?_)⟩;have :=h (i+1) (by grind);grind
theorem qf(a b:Int):gA a b=gA b a:=by grind[gA]
def G6(bl:List ao)(b:ao):Bool:=match bK bl b.1 with|some z=>p8 z b|none=>false
theorem Tx{A:Type}{xs:List A}{k:Int}(a:0<=k)(h:k<(xs.length:Int)):bK xs k=some (xs[k.toNat]'(by omega)):=by grind[bK,cB]
theorem HY(w:en)(s:ByteArray)(d:Al w.2.2.2.1.length):PM (w,((s,()),()))=some (I1 (nY w.2.2.2.1 (λn=>ko n.1 s))):=by
 have e:=Ck (S:=Int×Unit) w.2.2.2.1 (λn=>ko n.1 s) (f:=PM.b0 (w,((s,()),()))) (λk=>(k,())) (Sum.inl ((w.2.2.2.1.length:Int),())) (λi=>Sum.inr (I1 i)) (λi a=>?_) ?_;·unfold PM;refine bw e ?_;rcases mA w.2.2.2.1 (λn=>ko n.1 s) with⟨b,_,c⟩|⟨j,g,_,_,b,_,c⟩<;>rw[b,c]<;>rfl
 ·unfold PM.b0;refine uL (Int.ofNat_lt.2 a) (bw (cB a) ?_);rw[<-wG a d]
 ·unfold PM.b0;exact uM (Int.le_refl _) rfl
abbrev Sm(w:en):Prop:=Wu.Ok w
theorem Sm.an{w:en}(h:Sm w):(Ty.sl e9).Ok w.2.2.1:=h.2.2.1
theorem Sm.cv{w:en}(h:Sm w):(Ty.sl HH).Ok w.2.2.2.1:=h.2.2.2.1
theorem Sm.z9{w:en}(h:Sm w):(Ty.sl HI).Ok w.2.2.2.2.2.2.1:=h.2.2.2.2.2.2.1
def Js(n:a0):Prop:=eD (gd n).2.1/\W1 (bb n).length/\W1 (ar n).length/\(∀b∈ar n,ei b)/\W1 (List.length (bx n).2.2.1)/\W1 (List.length (E7 n).2.1)/\W1 (List.length (E7 n).2.2.1)/\W1 (List.length (dT n))/\W1 (List.length (ej n))/\W1 (List.length (mu n))/\W1 (List.length (lh n))/\W1 (List.length (bm n))/\∀p∈bm n,GH p
theorem Tz(n:a0)(h:Js n):J5 (n,())=some (n,()):=by
 obtain⟨m,s,p,r,q,t,o,l,j,d,g,c,e⟩:=h;have u:=BJ (S:=Int×(List A4×Unit)) (bm n) (f:=J5.b0 (n,())) (λa k=>(k,(a,()))) (Sum.inl (((bm n).length:Int),(bm n,()))) (λi b=>?_) ?_;·unfold J5;exact bw (n6 (gd n) m) (vP s (by decide) (by decide) (bw (va _ p r) (bw (Ey (bx n) q) (bw (Jp (E7 n) t o) (vP l (by decide) (by decide) (vP j (by decide) (by decide) (vP d (by decide) (by decide) (vP g (by decide) (by decide) (bw u rfl)))))))))
 ·unfold J5.b0;refine uL (Int.ofNat_lt.2 b) (bw (cB b) (bw (Qx _ (e _ (List.getElem_mem b))) (BK b c (by decide) (by decide) ?_)));rw[<-wG b c.l];rfl
 ·unfold J5.b0;exact uM (Int.le_refl _) rfl
theorem Uw:∀{x y z:List UInt8},Op.bytesLess x y=true->Op.bytesLess y z=true->Op.bytesLess x z=true
 |x,[],_,h,_=>by cases x<;>simp[Op.bytesLess]at h|_,b::y,[],_,h=>by simp[Op.bytesLess]at h|[],_::_,_::_,_,_=>rfl|a::x,b::y,c::z,e,d=>by
  simp only[Op.bytesLess,Bool.or_eq_true,Bool.and_eq_true,decide_eq_true_eq,beq_iff_eq]at e d⊢;rcases e with e|⟨rfl,e⟩;·grind
  · rcases d with d|⟨rfl,d⟩;· grind
    · exact .inr ⟨rfl,Uw e d⟩
structure Jd{A:Type}(lt eq:A->A->Bool):Prop where
 gj:∀a,eq a a=true
 symm:∀a b,eq a b=true->eq b a=true
 TA:∀a b c,eq a b=true->eq b c=true->eq a c=true
 VQ:∀a b c,lt a b=true->eq b c=true->lt a c=true
 VR:∀a b c,eq a b=true->lt b c=true->lt a c=true
 tr:∀a b c,lt a b=true->lt b c=true->lt a c=true
 QK:∀a b,lt a b=true->eq a b=false
 WA:∀a b,lt a b=false->eq a b=false->lt b a=true
theorem Hx:Jd dO gA where
 gj a:=nV a
 symm a b h:=by grind[gA]
 TA a b c h k:=by grind[gA]
 VQ a b c h k:=by grind[dO,gA]
 VR a b c h k:=by grind[dO,gA]
 tr a b c h k:=by grind[dO]
 QK a b h:=by grind[gA,dO]
 WA a b h k:=by grind[dO,gA]
theorem wS{a b:ByteArray}:ko a b=true↔a.toList=b.toList:=by grind[ko]
theorem Hy:Jd ob ko where
 gj a:=xD a
 symm a b h:=wS.2 (wS.1 h).symm
 TA a b c h k:=wS.2 ((wS.1 h).trans (wS.1 k))
 VQ a b c h k:=by grind[ob,ko,wS]
 VR a b c h k:=by grind[ob,ko,wS]
 tr a b c h k:=Uw h k
 QK a b h:=by grind[ko,ob,Kr]
 WA a b h k:=by grind[ob,ko,yX]
theorem Jd.Lj{A B:Type}{lt eq:B->B->Bool}(h:Jd lt eq)(f:A->B):Jd (λa b=>lt (f a) (f b)) (λa b=>eq (f a) (f b)):=⟨λa=>h.gj _,λa b=>h.symm _ _,λa b c=>h.TA _ _ _,λa b c=>h.VQ _ _ _,λa b c=>h.VR _ _ _,λa b c=>h.tr _ _ _,λa b=>h.QK _ _,λa b=>h.WA _ _⟩
theorem lx{e x y:Bool}:(bif !e then x else y)=true↔(e=false/\x=true)\/(e=true/\y=true):=by grind
theorem lx0{e x y:Bool}:(bif !e then x else y)=false↔(e=false/\x=false)\/(e=true/\y=false):=by grind
theorem Jd.Zb{A:Type}{j f i g:A->A->Bool}(h:Jd j f)(k:Jd i g):Jd (λa b=>bif !f a b then j a b else i a b) (λa b=>f a b&&g a b)where
 gj a:=by rw[h.gj,k.gj];rfl
 symm a b q:=by simp only[Bool.and_eq_true]at q⊢;exact⟨h.symm _ _ q.1,k.symm _ _ q.2⟩
 TA a b c q r:=by simp only[Bool.and_eq_true]at q r⊢;exact⟨h.TA _ _ _ q.1 r.1,k.TA _ _ _ q.2 r.2⟩
 VQ a b c q r:=by
  simp only[Bool.and_eq_true]at r;rcases lx.1 q with⟨u,v⟩|⟨u,v⟩;·have :=h.VQ _ _ _ v r.1;exact lx.2 (.inl ⟨h.QK _ _ this,this⟩)
  ·exact lx.2 (.inr ⟨h.TA _ _ _ u r.1,k.VQ _ _ _ v r.2⟩)
 VR a b c q r:=by
  simp only[Bool.and_eq_true]at q;rcases lx.1 r with ⟨u,v⟩|⟨u,v⟩;·have :=h.VR _ _ _ q.1 v;exact lx.2 (.inl ⟨h.QK _ _ this,this⟩)
  ·exact lx.2 (.inr ⟨h.TA _ _ _ q.1 u,k.VR _ _ _ q.2 v⟩)
 tr a b c q r:=by
  rcases lx.1 q with ⟨u,v⟩|⟨u,v⟩
  · rcases lx.1 r with ⟨e,d⟩|⟨e,d⟩;· have :=h.tr _ _ _ v d;exact lx.2 (.inl ⟨h.QK _ _ this,this⟩)
    · have :=h.VQ _ _ _ v e;exact lx.2 (.inl ⟨h.QK _ _ this,this⟩)
  · rcases lx.1 r with ⟨e,d⟩|⟨e,d⟩;· have :=h.VR _ _ _ u d;exact lx.2 (.inl ⟨h.QK _ _ this,this⟩)
    · exact lx.2 (.inr ⟨h.TA _ _ _ u e,k.tr _ _ _ v d⟩)
 QK a b q:=by
  rcases lx.1 q with ⟨u,v⟩|⟨u,v⟩;· grind
  · rw[k.QK _ _ v,Bool.and_false]
 WA a b q r:=by
  rcases lx0.1 q with ⟨u,v⟩|⟨u,v⟩;· have :=h.WA _ _ v u;exact lx.2 (.inl ⟨h.QK _ _ this,this⟩)
  · rw[u,Bool.true_and]at r;exact lx.2 (.inr ⟨h.symm _ _ u,k.WA _ _ v r⟩)
def QL(a b:cp):Bool:=ko a.2.1 b.2.1&&(gA a.2.2.2.2.1 b.2.2.2.2.1&&(gA a.1 b.1&&(ko a.2.2.1 b.2.2.1&&gA a.2.2.2.1 b.2.2.2.1)))
theorem Yr:Jd p9 QL:=(Hy.Lj (λa:cp=>a.2.1)).Zb ((Hx.Lj (λa:cp=>a.2.2.2.2.1)).Zb ((Hx.Lj (λa:cp=>a.1)).Zb ((Hy.Lj (λa:cp=>a.2.2.1)).Zb (Hx.Lj (λa:cp=>a.2.2.2.1)))))
theorem QM{A:Type}{p:Nat->A->Bool}{l:List A}:iK p 0 l=true↔∀i x,l[i]?=some x->p i x=true:=by grind[iK,xJ,vc]
def QN(l:List cp):Prop:=∀(i j:Nat)(x y:cp),l[i]?=some x->l[j]?=some y->i<j->p9 x y=true
theorem OT{l:List cp}(h:iK (HV l) 0 l=true):QN l:=by
 have g:=QM.1 h;have e:∀i x y,l[i]?=some x->l[i+1]?=some y->p9 x y=true:=λi x y a b=>by have :=g (i+1) y b;unfold HV lO at this;grind
 have f:∀d i x y,l[i]?=some x->l[i+1+d]?=some y->p9 x y=true:=by intro d;induction d with|zero=>omega|succ d k=>
  intro i x y a b;have c:i+1+d<l.length:=by grind
  exact (Yr).tr _ _ _ (k i x _ a (List.getElem?_eq_getElem c)) (e (i+1+d) _ y (List.getElem?_eq_getElem c) b)
 intro i j x y a b m;exact f (j-(i+1)) i x y a (by rwa[show i+1+(j-(i+1))=j by omega])
def VT{A:Type}(lt:A->A->Bool)(l:List A):Prop:=∀i j(a:i<l.length)(b:j<l.length),i<j->lt l[i] l[j]=true
theorem QO{A:Type}{lt:A->A->Bool}(m:∀a b c,lt a b=true->lt b c=true->lt a c=true){l:List A}(h:∀i(e:i<l.length),lO lt l i l[i]=true):VT lt l:=by
 have f:∀d i(e:i<l.length)(g:i+1+d<l.length),lt l[i] l[i+1+d]=true:=by intro d;induction d with|zero=>grind[lO,mz]|succ d o=>grind[lO,mz]
 intro i j e g k;have n:=f (j-(i+1)) i e (by omega);grind
def Ee(l:List bF)(s:ByteArray):Int:=nY l (λa=>ko a.1 s)
theorem BY(l:List bF)(s:ByteArray)(e:Al l.length):Hl ((l,()),((s,()),()))=some (I1 (Ee l s)):=by
 have g:=Ck (S:=Int×Unit) l (λa=>ko a.1 s) (f:=Hl.b0 ((l,()),((s,()),()))) (λk=>(k,())) (Sum.inl ((l.length:Int),())) (λi=>Sum.inr (I1 i)) (λi b=>?_) ?_;·unfold Hl Ee;refine bw g ?_;rcases mA l (λa=>ko a.1 s) with⟨c,_,d⟩|⟨j,h,_,_,c,_,d⟩<;>rw[c,d]<;>rfl
 ·unfold Hl.b0;refine uL (Int.ofNat_lt.2 b) (bw (cB b) ?_);rw[<-wG b e]
 ·unfold Hl.b0;exact uM (Int.le_refl _) rfl
def vl(n a:Int):List ek->List ek|[]=>[(n,(a,()))]|x::r=>bif gA x.2.1 a then(cM .i64 x.1 n,(x.2.1,()))::r else bif dO a x.2.1 then(n,(a,()))::x::r else x::vl n a r
def po(n a:Int)(s:List ek×Bool)(x:ek):List ek×Bool:=bif s.2 then(s.1++[x],true)else bif gA x.2.1 a then(s.1++[(cM .i64 x.1 n,(x.2.1,()))],true)else bif dO a x.2.1 then(s.1++[(n,(a,()))]++[x],true)else(s.1++[x],false)
def FV(n a:Int)(s:List ek×Bool):List ek:=bif s.2 then s.1 else s.1++[(n,(a,()))]
theorem GI(n b:Int):∀(xs a:List ek),FV n b (xs.foldl (po n b) (a,true))=a++xs|[],a=>by simp[FV]|x::r,a=>by have :=GI n b r (a++[x]);simpa[po]using this
theorem H0(n b:Int):∀(xs a:List ek),FV n b (xs.foldl (po n b) (a,false))=a++vl n b xs|[],a=>rfl|x::r,a=>by simp only[List.foldl_cons,vl];unfold po;cases d:gA x.2.1 b with|true=>exact (GI n b r _).trans (by simp)|false=>cases c:dO b x.2.1 with|true=>exact (GI n b r _).trans (by simp)|false=>exact (H0 n b r _).trans (by simp)
theorem TB(xs:List ek)(n c:Int)(o:xs.length<=4):J9 ((xs,()),((n,()),((c,()),())))=some ((vl n c xs,()),()):=by
 have j:Al xs.length:=by omega
 have h:=(xL (S:=List ek×(Bool×(Int×Unit))) xs (po n c) (λi s=>s.1.length<=2*i) (f:=J9.b0 ((xs,()),((n,()),((c,()),())))) (λs k=>(s.1,(s.2,(k,())))) (λs=>Sum.inl (s.1,(s.2,((xs.length:Int),())))) ([],false) (Nat.le_refl _) (λi d s l=>?_) (λs _=>?_));·unfold J9;refine bw h.1 ?_;have e:=h.2;have g:=H0 n c xs [];rw [List.nil_append]at g;rw [<-g];unfold FV;revert e;cases (xs.foldl (po n c) ([],false)) with|mk a b=>intro e;cases b with|true=>rfl|false=>have :dE (a.length+1) 16=true:=qp (by grind) (by decide) (by decide);simp_all [ek,dE,bV]
 · obtain⟨a,b⟩:=s;simp only at l;refine⟨?_,?_⟩;· unfold J9.b0;refine uL (Int.ofNat_lt.2 d) (bw (cB d) ?_);have p:dE (a.length+1) 16=true:=qp (by omega) (by decide) (by decide);have q:dE (a.length+1+1) 16=true:=qp (by omega) (by decide) (by decide);unfold po;rw [<-wG d j];cases b with|true=>simp_all [ek,gA,cM,dO,dE,bV]|false=>cases m:gA xs[i].2.1 c with|true=>simp_all [ek,cM,dO,dE,bV]|false=>cases r:dO c xs[i].2.1 with|true=>simp_all [ek,cM,dE,bV]|false=>simp_all [ek,cM,dE,bV]
   · unfold po;grind
 · unfold J9.b0;exact uM (Int.le_refl _) rfl
def qu{A:Type}(l:List A)(k:Nat)(y:A):List A:=l.take k++y::l.drop k
theorem An{A:Type}{l:List A}{k:Nat}{x:A}(h:l[k]?=some x):bK l (k:Int)=some x:=by grind[bK,cB]
theorem As{A:Type}{l:List A}{k:Nat}{x:A}(h:l[k]?=some x):aC l (Int.toNat (k:Int))=some x:=h
theorem dd{A:Type}{b:Bool}{t e r:A}(h:b=true)(a:t=r):(bif b then t else e)=r:=by grind
theorem DQ{A B F:Type}{a c:A}{b d:B}(e:a=c)(f:b=d):(some (Sum.inl (a,(b,()))):Option (Sum (A×(B×Unit)) F))=some (Sum.inl (c,(d,()))):=by grind
def w0(s:ByteArray)(n:Int):bF:=(s,(n,(0,(0,([],())))))
theorem H2(n b:Int)(e:(Lit.int .i64 n).wf=true)(d:(Lit.int .i64 b).wf=true):∀xs:List ek,(∀y∈xs,Ei.Ok y)->∀y∈vl n b xs,Ei.Ok y|[],_,y,a=>by simp only[vl,List.mem_singleton]at a;subst a;exact⟨e,d,trivial⟩|x::r,h,y,a=>by have f:=h x (List.mem_cons_self ..);simp only[vl]at a;cases c:gA x.2.1 b with
 |true=>
 rw[c]at a;rcases List.mem_cons.1 a with rfl|a;·exact⟨Dm .i64 _,f.2.1,trivial⟩
 grind|false=>cases g:dO b x.2.1 with
 |true=>
 rw[c,g]at a;rcases List.mem_cons.1 a with rfl|a;·exact⟨e,d,trivial⟩
 grind|false=>
 rw[c,g]at a;rcases List.mem_cons.1 a with rfl|a;·exact f
 ·exact H2 n b e d r (λz i=>h z (List.mem_cons_of_mem _ i)) y a
theorem G7(n a:Int):∀xs:List ek,(vl n a xs).length<=xs.length+1|[]=>Nat.le_refl _|x::r=>by have :=G7 n a r;simp only[vl];grind
theorem mw{x:fk}(h:bk x=true):x.2.1.length<=12/\(∀a∈x.2.1,List.length a.2.2.2.2.1<=4/\VT (λz y=>dO z.2.1 y.2.1) a.2.2.2.2.1)/\VT (λz y=>ob z.1 y.1) x.2.1:=by
 unfold bk pb at h;simp only[Bool.and_eq_true]at h;obtain⟨_,g,l,_⟩:=h;have e:∀i (d:i<x.2.1.length),oi x.2.1[i]=true/\lO (λz y=>ob z.1 y.1) x.2.1 i x.2.1[i]=true:=λi d=>by have :=xJ g i d;simp_all[oi,bF,lO,ob,ek,zA]
 refine⟨by simp only[km,decide_eq_true_eq]at l;omega,λa n=>?_,QO (lt:=λ(z y:bF)=>ob z.1 y.1) (λa b c=>(Hy).tr a.1 b.1 c.1) (λi d=>(e i d).2)⟩;obtain⟨i,d,rfl⟩:=List.getElem_of_mem n;have :=(e i d).1;unfold oi at this;simp only[Bool.and_eq_true]at this;obtain⟨_,_,_,_,j,f⟩:=this;refine⟨by simp only[km,decide_eq_true_eq]at j;omega,QO (lt:=λ(z y:ek)=>dO z.2.1 y.2.1) (λa b c=>(Hx).tr a.2.1 b.2.1 c.2.1) (λk m=>?_)⟩;unfold p6 at f;have :=xJ f k m;simp_all[Di,ek,bF,lO,dO,FO]
theorem FW{x:fk}(h:bk x=true):eD x.2.1:=⟨by have :=(mw h).1;omega,λa b=>by have :=((mw h).2.1 a b).1;omega⟩
def VU(t:cp)(a:bF):Int:=bif gA t.1 3 then a.2.2.2.1 else a.2.1
theorem Kt(t:cp)(a:bF){R:Type}:(bif gA t.1 3 then some (Sum.inl (a.2.2.2.1,()))else some (Sum.inl (a.2.1,())))=some (Sum.inl (VU t a,()):Sum (Int×Unit) R):=by unfold VU;grind
noncomputable def q9(L:fk)(t:cp):fk×Int:=match Gw (L,(t,()))with|some (R,((c,()),()))=>(R,c)|none=>(L,0)
noncomputable def DO(s:Int×fk)(t:cp):Int×fk:=(bif gA (q9 s.2 t).2 0 then cM .i64 s.1 1 else s.1,(q9 s.2 t).1)
noncomputable def H3(L:fk)(a:List cp):Int×fk:=a.foldl DO (0,L)
def ie(e:Int)(s:List ek×Int)(x:ek):List ek×Int:=bif km x.2.1 e then(s.1,cM .i64 s.2 x.1)else(s.1++[x],s.2)
def j5(e:Int)(a:bF):List ek×Int:=a.2.2.2.2.1.foldl (ie e) ([],a.2.1)
def fi(e:Int)(a:bF):bF:=(a.1,((j5 e a).2,(a.2.2.1,(a.2.2.2.1,((j5 e a).1,())))))
theorem Fv(e:Int):∀(xs:List ek)(s:List ek×Int),(Lit.int .i64 s.2).wf=true->(∀y∈s.1,Ei.Ok y)->(∀y∈xs,Ei.Ok y)->(Lit.int .i64 (xs.foldl (ie e) s).2).wf=true/\(∀y∈(xs.foldl (ie e) s).1,Ei.Ok y)/\(xs.foldl (ie e) s).1.length<=s.1.length+xs.length
 |[],s,a,b,_=>⟨a,b,Nat.le_refl _⟩|x::r,s,a,b,d=>by
  have h:=d x (List.mem_cons_self ..);have f:=λy c=>d y (List.mem_cons_of_mem _ c)
  simp only[List.foldl_cons,List.length_cons];cases i:km x.2.1 e with|true=>
  have :ie e s x=(s.1,cM .i64 s.2 x.1):=by unfold ie;grind
  rw[this];have g:=Fv e r (s.1,cM .i64 s.2 x.1) (Dm .i64 _) b f;grind|false=>
 have :ie e s x=(s.1++[x],s.2):=by unfold ie;grind
 rw[this];have g:=Fv e r (s.1++[x],s.2) a (λy c=>by grind) f;grind
theorem OV(e:Int)(a:bF)(h:c6.Ok a):c6.Ok (fi e a):=by
 have c:=Fv e a.2.2.2.2.1 ([],a.2.1) h.2.1 (λy b=>by cases b) (λy b=>Ae h.2.2.2.2.1.2 b);have d:(a.2.2.2.2.1.foldl (ie e) ([],a.2.1)).1.length<=List.length a.2.2.2.2.1:=by grind
 exact⟨h.1,c.1,h.2.2.1,h.2.2.2.1,Dk (Nat.le_trans d h.2.2.2.2.1.1) c.2.1,trivial⟩
theorem MQ(e:Int)(a:bF):List.length (fi e a).2.2.2.2.1<=List.length a.2.2.2.2.1:=by
 have d:∀(xs:List ek)(s:List ek×Int),(xs.foldl (ie e) s).1.length<=s.1.length+xs.length:=by intro xs;induction xs with|nil=>grind|cons x r b=>
  intro s;have :=b (ie e s x);have f:(ie e s x).1.length<=s.1.length+1:=by unfold ie;grind
  grind
 have c:(a.2.2.2.2.1.foldl (ie e) ([],a.2.1)).1.length<=List.length a.2.2.2.2.1:=by grind
 exact c
def B0(g:bF->bF)(xs:List bF)(k:Nat):List bF:=(xs.take k).map g++xs.drop k
theorem QQ(g:bF->bF)(xs:List bF)(k:Nat)(h:k<=xs.length):(B0 g xs k).length=xs.length:=by simp_all[bF,B0]
theorem Lm(g:bF->bF){xs:List bF}{k:Nat}(h:k<xs.length):(B0 g xs k)[k]?=some xs[k]:=by unfold B0;grind
theorem QR(g:bF->bF){xs:List bF}{k:Nat}(h:k<xs.length):(B0 g xs k).set k (g xs[k])=B0 g xs (k+1):=by unfold B0;rw[List.set_append_right _ _ (by grind),List.length_map,List.length_take,show k-min k xs.length=0 by omega,List.drop_eq_getElem_cons h,List.set_cons_zero,List.take_succ_eq_append_getElem h,List.map_append,List.append_assoc];rfl
theorem DP{A B C F:Type}{a e:A}{b f:B}{c d:C}(g:a=e)(i:b=f)(h:c=d):(some (Sum.inl (a,(b,(c,())))):Option (Sum (A×(B×(C×Unit))) F))=some (Sum.inl (e,(f,(d,())))):=by grind
theorem VV(L:fk)(a:List bF)(j:Nat)(e:j<a.length)(n:List.length (a[j]).2.2.2.2.1<=4):aR (u4.b1 ((j:Int),(a,())) (L,())) ([],((0:Int),(a,())))=some (Sum.inl ((j5 (cM .i64 L.1 1) a[j]).1,((List.length (a[j]).2.2.2.2.1:Int),(a.set j ((a[j]).1,((j5 (cM .i64 L.1 1) a[j]).2,(a[j]).2.2)),())))):=by
 have c:Al (List.length (a[j]).2.2.2.2.1):=by omega
 have m:a.set j ((a[j]).1,((a[j]).2.1,(a[j]).2.2))=a:=List.set_getElem_self e;have g:∀s:Int,aC (a.set j ((a[j]).1,(s,(a[j]).2.2))) (Int.toNat (j:Int))=some ((a[j]).1,(s,(a[j]).2.2)):=λs=>BB e;have o:=(xL (S:=List ek×(Int×(List bF×Unit))) (a[j]).2.2.2.2.1 (ie (cM .i64 L.1 1)) (λk s=>s.1.length<=k) (f:=u4.b1 ((j:Int),(a,())) (L,())) (λs k=>(s.1,(k,(a.set j ((a[j]).1,(s.2,(a[j]).2.2)),())))) (λs=>Sum.inl (s.1,((List.length (a[j]).2.2.2.2.1:Int),(a.set j ((a[j]).1,(s.2,(a[j]).2.2)),())))) ([],(a[j]).2.1) (Nat.le_refl _) (λi b s h=>by have h:s.1.length<=i:=h;have l:dE (s.1.length+1) 16=true:=qp (by omega) (by decide) (by decide);unfold ie;cases d:km ((a[j]).2.2.2.2.1[i]).2.1 (cM .i64 L.1 1) with|true=>refine⟨?_,by grind⟩;unfold u4.b1;refine bw (g s.2) (uL (Int.ofNat_lt.2 b) (bw (g s.2) (bw (cB b) (dd d (bw (g s.2) (bw (g s.2) (bw (cB b) (bw (g s.2) (bw rfl (DP rfl (wG b c) ?_))))))))));simp_all|false=>refine⟨?_,by grind⟩;unfold u4.b1;exact bw (g s.2) (uL (Int.ofNat_lt.2 b) (bw (g s.2) (bw (cB b) (uN d (bw (g s.2) (bw (cB b) (dd l (DP rfl (wG b c) rfl))))))))) (λs _=>by unfold u4.b1;exact bw (g s.2) (uM (Int.le_refl _) rfl))).1;simp_all[ek,bF,IH,aR,u4.b1,j5,cM]
theorem VX(e:Int){xs:List bF}{j:Nat}(b:j<xs.length)(a:j<(B0 (fi e) xs j).length):(((B0 (fi e) xs j).set j (((B0 (fi e) xs j)[j]).1,((j5 e (B0 (fi e) xs j)[j]).2,((B0 (fi e) xs j)[j]).2.2))).set j (fi e (B0 (fi e) xs j)[j]))=B0 (fi e) xs (j+1):=by have h:=Lm (fi e) b;rw[List.getElem?_eq_getElem a]at h;rw[Option.some.inj h,List.set_set];grind[QR,fi]
def GJ{A S E:Type}(a:S->A->Sum S E)(b:S->E):List A->S->E|[],s=>b s|x::r,s=>match a s x with|.inl c=>GJ a b r c|.inr e=>e
noncomputable def ks(L:fk):fk:=match u4 (L,())with|some (R,())=>R|none=>L
theorem VY(l:List bF)(s:ByteArray)(p:eD l)(D:List.length l<=1000)(b:bF->Prop)(q:∀a∈l,b a)(C:b (⟨#[]⟩,(0,(0,(0,([],()))))))(r:b (w0 s 0)):Y (En ((l,()),((s,()),()))) (λy=>List.length y.1.1<=List.length l+1/\(∀a∈y.1.1,b a)/\y.1.1.any (λa=>ko a.1 s)=true):=by
 unfold En;refine Y.eq (FQ l p) (Y.eq (BY l s p.1.l) (Y.DY (λh=>Y.mk ⟨Nat.le_succ _,q,?_⟩) (λh=>Y.dE (by grind) (by decide) (by decide) ?_)))
 · have h:km 0 (Ee l s)=true:=h;have h:=Cq.1 h;rcases mA l (λa=>ko a.1 s)with⟨_,_,F⟩|⟨j,A,_,_,i,_,_⟩;· simp_all[Ee,bF,ko,ek]
   omega
 · refine Y.DZ (P:=λv=>0<=v.1/\v.1<(List.length v.2.1:Int)/\List.length v.2.1=List.length l+1/\∀a∈v.2.1,b a) (R:=λ_=>False) (Y.loop (I:=λv=>0<=v.1/\v.1<(List.length v.2.1:Int)/\List.length v.2.1=List.length l+1/\∀a∈v.2.1,b a) (λv=>v.1.toNat) (λv m=>?_) _ ?_) (λv m=>?_) (λ_ h=>h.elim);· obtain⟨k,o,u⟩:=v;obtain⟨c,d,g,f⟩:=m;dsimp only at c d g f;unfold En.b0;refine Y.DY (λn=>?_) (λ_=>Y.rl ⟨c,d,g,f⟩);have n:0<k:=Cp.1 n;have e:gS .i64 k 1=k-1:=iz (by omega) (by omega);refine Y.Eb (by grind) (by grind) λG _=>Y.DY (λ_=>?_) (λ_=>Y.rl ⟨c,d,g,f⟩);refine Y.Eb (by grind) (by grind) λw B=>Y.Eb (by omega) (by omega) λz _=>Y.so (Y.l ?_);grind
   · have e:gS .i64 (List.length (bV l [((⟨#[]⟩,(0,(0,(0,([],()))))):bF)]):Int) 1=(List.length l:Int):=by unfold bV;rw [List.length_append,iz]<;>simp only [List.length_cons,List.length_nil]<;>omega
     have t:List.length (bV l [((⟨#[]⟩,(0,(0,(0,([],()))))):bF)])=List.length l+1:=by simp_all [bF,bV,ek]
     refine⟨?_,?_,t,λa i=>?_⟩;· grind
     · grind
     · rcases List.mem_append.1 i with h|h;· grind
       grind
   · obtain⟨k,o,u⟩:=v;obtain⟨c,d,g,f⟩:=m;dsimp only at c d g f;refine Y.Eb c d λx _=>Y.so (Y.mk ⟨?_,?_,?_⟩);· grind
     · intro a i;rcases List.mem_or_eq_of_mem_set i with E|rfl;· grind
       · exact r
     · rw [List.any_eq_true];exact⟨_,List.mem_set (show k.toNat<o.length by omega) _,by simp [ko]⟩
theorem TC(L:fk)(t:cp)(j:Nat)(τ:j<L.2.1.length)(X:(Ty.sl c6).Ok L.2.1)(Q:bk L=true)(U:il.Ok t)(ρ:No t=true):∃R:fk,Qa (L,(t,(((j:Int),()),())))=some (R,())/\(Ty.sl c6).Ok R.2.1/\R.1=L.1:=by
 obtain⟨μ,W,_⟩:=mw Q;let o:bF->Prop:=λa=>c6.Ok a/\List.length a.2.2.2.2.1<=4;have Z:=FW Q;have S:∀a∈L.2.1,o a:=λa m=>⟨Ae X.2 m,(W a m).1⟩;have r:∀{l:List bF}{k:Nat}{b:bF},(∀a∈l,o a)->o b->∀a∈l.set k b,o a:=λh ψ a m=>by grind
 have z:∀x y:Int,(Lit.int .i64 (cM .i64 x y)).wf=true:=λx y=>Dm .i64 _;have I:∀x y:Int,(Lit.int .i64 (gS .i64 x y)).wf=true:=λx y=>Dm .i64 _;have α:Y (Qa (L,(t,(((j:Int),()),())))) (λy=>(List.length y.1.2.1<=1000/\∀a∈y.1.2.1,c6.Ok a)/\y.1.1=L.1):=by
  unfold Qa;refine Y.eq (n6 L Z) (Y.Eb (Int.natCast_nonneg _) (by grind) λH O=>Y.nT (by grind) λn D=>Y.so ?_);have A:=S _ D;have p:∀a∈L.2.1.set (Int.toNat (j:Int)) (n.1,(n.2.1,(cM .i64 H.2.2.1 (1:Int),n.2.2.2))),o a:=r S ⟨⟨A.1.1,A.1.2.1,z _ _,A.1.2.2.2⟩,A.2⟩;have θ:List.length (L.2.1.set (Int.toNat (j:Int)) (n.1,(n.2.1,(cM .i64 H.2.2.1 (1:Int),n.2.2.2))))=L.2.1.length:=List.length_set;dsimp only;generalize L.2.1.set (Int.toNat (j:Int)) (n.1,(n.2.1,(cM .i64 H.2.2.1 (1:Int),n.2.2.2)))=i at p θ;have e:(Int.toNat (j:Int))<i.length:=by omega
  refine Y.DZ (P:=λv=>List.length v.1<=1000/\∀a∈v.1,c6.Ok a) (R:=λ_=>False) (Y.DY (λ_=>?_) (λ_=>Y.DY (λ_=>?_) (λ_=>?_))) (λv δ=>Y.mk ⟨δ,rfl⟩) (λ_ h=>h.elim)
  · refine Y.nT e λf _=>Y.nT e λc s=>Y.so ?_;have d:=p _ s;have g:∀a∈i.set (Int.toNat (j:Int)) (c.1,(gS .i64 f.2.1 t.2.2.2.1,c.2.2)),o a:=r p ⟨⟨d.1.1,I _ _,d.1.2.2⟩,d.2⟩;have w:List.length (i.set (Int.toNat (j:Int)) (c.1,(gS .i64 f.2.1 t.2.2.2.1,c.2.2)))=L.2.1.length:=by grind
    generalize i.set (Int.toNat (j:Int)) (c.1,(gS .i64 f.2.1 t.2.2.2.1,c.2.2))=u at g w;refine Y.bind (VY u t.2.2.1 ⟨by omega,λa m=>by grind⟩ (by omega) o g ⟨⟨Nat.zero_le _,rfl,rfl,rfl,CK,trivial⟩,Nat.zero_le _⟩ ⟨⟨U.2.2.1,rfl,rfl,rfl,CK,trivial⟩,Nat.zero_le _⟩) λε F=>?_;obtain ⟨⟨B,_⟩,_⟩:=ε;obtain ⟨κ,M,β⟩:=F;dsimp only at κ M β;refine Y.eq (BY B t.2.2.1 (by omega)) ?_;rcases mA B (λa=>ko a.1 t.2.2.1) with ⟨C,_,_⟩|⟨k,φ,_,_,_,_,K⟩;· grind
    · have K:Ee B t.2.2.1=(k:Int):=K;have N:(k:Int)<(List.length B:Int):=by omega
      dsimp only[I1];rw[K];refine Y.Eb (Int.natCast_nonneg _) N λπ _=>Y.Eb (Int.natCast_nonneg _) N λσ V=>Y.so (Y.l ⟨?_,λa m=>(r M ?_ a m).1⟩);· grind
      · have q:=M _ V;exact ⟨⟨q.1.1,z _ _,q.1.2.2⟩,q.2⟩
  · refine Y.nT e λf _=>Y.nT e λc s=>Y.so ?_;have d:=p _ s;have g:∀a∈i.set (Int.toNat (j:Int)) (c.1,(gS .i64 f.2.1 t.2.2.2.1,c.2.2)),o a:=r p ⟨⟨d.1.1,I _ _,d.1.2.2⟩,d.2⟩;have w:List.length (i.set (Int.toNat (j:Int)) (c.1,(gS .i64 f.2.1 t.2.2.2.1,c.2.2)))=L.2.1.length:=by grind
    generalize i.set (Int.toNat (j:Int)) (c.1,(gS .i64 f.2.1 t.2.2.2.1,c.2.2))=u at g w;have e:(Int.toNat (j:Int))<u.length:=by omega
    refine Y.nT e λT _=>Y.nT e λγ J=>Y.so (Y.l ⟨?_,λa m=>(r g ?_ a m).1⟩);· grind
    · have q:=g _ J;exact ⟨⟨q.1.1,q.1.2.1,q.1.2.2.1,z _ _,q.1.2.2.2.2⟩,q.2⟩
  · refine Y.nT e λf _=>Y.nT e λc s=>Y.so ?_;have d:=p _ s;have g:∀a∈i.set (Int.toNat (j:Int)) (c.1,(c.2.1,(c.2.2.1,(gS .i64 f.2.2.2.1 t.2.2.2.1,c.2.2.2.2)))),o a:=r p ⟨⟨d.1.1,d.1.2.1,d.1.2.2.1,I _ _,d.1.2.2.2.2⟩,d.2⟩;have w:List.length (i.set (Int.toNat (j:Int)) (c.1,(c.2.1,(c.2.2.1,(gS .i64 f.2.2.2.1 t.2.2.2.1,c.2.2.2.2)))))=L.2.1.length:=by grind
    generalize i.set (Int.toNat (j:Int)) (c.1,(c.2.1,(c.2.2.1,(gS .i64 f.2.2.2.1 t.2.2.2.1,c.2.2.2.2))))=u at g w;have e:(Int.toNat (j:Int))<u.length:=by omega
    refine Y.nT e λT F=>?_;have E:=g _ F;refine Y.eq (TB T.2.2.2.2.1 t.2.2.2.1 _ E.2) (Y.nT e λγ J=>Y.so (Y.l ⟨?_,?_⟩));· grind
    · intro a m;rcases List.mem_or_eq_of_mem_set m with C|rfl;· exact (g a C).1
      · have q:=g _ J;refine ⟨q.1.1,q.1.2.1,q.1.2.2.1,q.1.2.2.2.1,Dk ?_ (H2 _ _ U.2.2.2.1 (z _ _) _ (λy G=>Ae E.1.2.2.2.2.1.2 G)),trivial⟩;exact Nat.le_trans (G7 _ _ _) (Nat.le_trans (Nat.succ_le_succ E.2) (by decide))
 obtain ⟨y,G,⟨C,O⟩,D⟩:=α;exact ⟨y.1,G,Dk (Nat.le_trans C (by decide)) O,D⟩
theorem H4(L:fk)(t:cp)(b:(Ty.sl c6).Ok L.2.1)(d:eD L.2.1)(r:il.Ok t):∃(R:fk)(c:Int),Gw (L,(t,()))=some (R,((c,()),()))/\(Ty.sl c6).Ok R.2.1/\eD R.2.1/\(gA c 0=false->R=L)/\(R=L\/bk R=true)/\R.1=L.1:=by have w:=d.1.l;have k:=n6 L d;have e:=BY L.2.1 t.2.1 w;have sl:=s8 L b;have f:=VE t ⟨r.2.1,r.2.2.1⟩;cases q:bk L with|false=>rw[q]at sl;refine ⟨L,1,?_,b,d,λ_=>rfl,.inl rfl,rfl⟩;·unfold Gw;grind|true=>rw[q]at sl;cases p:No t with|false=>rw[p]at f;refine ⟨L,1,?_,b,d,λ_=>rfl,.inl rfl,rfl⟩;·unfold Gw;grind|true=>
 rw[p]at f;rcases mA L.2.1 (λa=>ko a.1 t.2.1)with ⟨_,_,g⟩|⟨j,i,_,_,_,_,g⟩;·have g:Ee L.2.1 t.2.1=-1:=g;rw[g]at e;refine ⟨L,2,?_,b,d,λ_=>rfl,.inl rfl,rfl⟩;·unfold Gw;exact bw k (bw sl (uN rfl (bw f (uN rfl (bw e (dd rfl rfl))))))
 ·have g:Ee L.2.1 t.2.1=(j:Int):=g;rw[g]at e;have m:dO (j:Int) 0=false:=dD (Int.natCast_nonneg j);cases y:gA (L.2.1[j]).2.2.1 t.2.2.2.2.1 with|false=>refine ⟨L,3,?_,b,d,λ_=>rfl,.inl rfl,rfl⟩;·unfold Gw;exact bw k (bw sl (uN rfl (bw f (uN rfl (bw e (uN m (bw (cB i) (bw (Kt t _) (dd (by grind) rfl)))))))))|true=>cases s:dO (VU t L.2.1[j]) t.2.2.2.1 with|true=>refine ⟨L,4,?_,b,d,λ_=>rfl,.inl rfl,rfl⟩;·unfold Gw;exact bw k (bw sl (uN rfl (bw f (uN rfl (bw e (uN m (bw (cB i) (bw (Kt t _) (uN (by grind) (dd s rfl))))))))))|false=>obtain ⟨R,u,v,x⟩:=TC L t j i b q r p;have n:=s8 R v;cases o:bk R with|false=>rw[o]at n;refine ⟨L,5,?_,b,d,λ_=>rfl,.inl rfl,rfl⟩;·unfold Gw;exact bw k (bw sl (uN rfl (bw f (uN rfl (bw e (uN m (bw (cB i) (bw (Kt t _) (uN (by grind) (uN s (bw u (bw n (dd rfl rfl)))))))))))))|true=>rw[o]at n;refine ⟨R,0,?_,v,FW o,λh=>by simp[gA]at h,.inr o,x⟩;·unfold Gw;exact bw k (bw sl (uN rfl (bw f (uN rfl (bw e (uN m (bw (cB i) (bw (Kt t _) (uN (by grind) (uN s (bw u (bw n (uN rfl rfl)))))))))))))
theorem EU(L:fk)(t:cp)(a:(Ty.sl c6).Ok L.2.1)(b:eD L.2.1)(e:il.Ok t):Gw (L,(t,()))=some ((q9 L t).1,(((q9 L t).2,()),()))/\(Ty.sl c6).Ok (q9 L t).1.2.1/\eD (q9 L t).1.2.1/\(gA (q9 L t).2 0=false->(q9 L t).1=L)/\((q9 L t).1=L\/bk (q9 L t).1=true)/\(q9 L t).1.1=L.1:=by
 obtain⟨R,c,d,g,i,h,j,f⟩:=H4 L t a b e;have :q9 L t=(R,c):=by unfold q9;rw[d]
 grind
theorem B2(L:fk)(a:List cp)(j:(Ty.sl c6).Ok L.2.1)(d:eD L.2.1)(e:(Ty.sl il).Ok a):HO (L,((a,()),()))=some ((H3 L a).2,(((H3 L a).1,()),()))/\(Ty.sl c6).Ok (H3 L a).2.2.1/\eD (H3 L a).2.2.1:=by have h:Al a.length:=e.1;have c:=xL (S:=Int×(Int×(Int×(List bF×Unit)))) a DO (λ_ s=>(Ty.sl c6).Ok s.2.2.1/\eD s.2.2.1) (f:=HO.b0 (L,((a,()),()))) (λs k=>(s.1,(k,(s.2.1,(s.2.2.1,()))))) (λs=>Sum.inl (s.1,((a.length:Int),(s.2.1,(s.2.2.1,()))))) (0,L) ⟨j,d⟩ (λi b s g=>by obtain⟨l,m,n,o,_⟩:=EU s.2 a[i] g.1 g.2 (Ae e.2 (List.getElem_mem b));refine⟨?_,m,n⟩;unfold HO.b0 DO;refine uL (Int.ofNat_lt.2 b) (bw (cB b) (bw l ?_));rw[<-wG b h];grind) (λs _=>by unfold HO.b0;exact uM (Int.le_refl _) rfl);refine⟨?_,c.2.1,c.2.2⟩;·unfold HO;exact bw (n6 L d) (bw c.1 rfl)
theorem GK(L:fk)(g:(Ty.sl c6).Ok L.2.1)(d:eD L.2.1):∃R:fk,u4 (L,())=some (R,())/\(Ty.sl c6).Ok R.2.1/\eD R.2.1/\(R=L\/R=(cM .i64 L.1 1,(L.2.1.map (fi (cM .i64 L.1 1)),()))/\bk L=true/\bk R=true)/\(bk L=true->bk (cM .i64 L.1 1,(L.2.1.map (fi (cM .i64 L.1 1)),()))=true->R=(cM .i64 L.1 1,(L.2.1.map (fi (cM .i64 L.1 1)),()))):=by have n:=n6 L d;have sl:=s8 L g;cases j:bk L with|false=>rw[j]at sl;refine⟨L,?_,g,d,.inl rfl,λh=>by cases h⟩;·unfold u4;grind|true=>
 rw[j]at sl;obtain⟨v,x,_⟩:=mw j;have t:Al L.2.1.length:=d.1.l;let e:=cM .i64 L.1 1;let R:fk:=(e,(L.2.1.map (fi e),()));have p:(Ty.sl c6).Ok R.2.1:=Dk (by show (L.2.1.map (fi e)).length<=_;grind) (λy m=>by obtain⟨a,o,rfl⟩:=List.mem_map.1 m;exact OV e a (Ae g.2 o));have s:eD R.2.1:=⟨by grind,λy m=>by obtain⟨a,o,rfl⟩:=List.mem_map.1 m;exact Nat.le_trans (MQ e a) (d.2 a o)⟩;have w:B0 (fi e) L.2.1 L.2.1.length=L.2.1.map (fi e):=by simp_all[bF,B0,fi]
 have u:∀k (c:k<L.2.1.length) (b:k<(B0 (fi e) L.2.1 k).length),List.length ((B0 (fi e) L.2.1 k)[k]).2.2.2.2.1<=4:=λk c b=>by have h:=Lm (fi e) c;grind
 have q:=cK (f:=u4.b0 (L,())) (λk=>((k:Int),(B0 (fi e) L.2.1 k,()))) L.2.1.length (e:=Sum.inl ((L.2.1.length:Int),(L.2.1.map (fi e),()))) (λk c=>by
 have b:k<(B0 (fi e) L.2.1 k).length:=by rw[QQ _ _ _ (by omega)];exact c
 unfold u4.b0;exact uL (Int.ofNat_lt.2 b) (bw (cB b) (bw (VV L _ k b (u k c b)) (bw (BB b) (bw rfl (DQ (wG c t) (VX e c b))))))) (by unfold u4.b0;refine uM (by grind) ?_;grind);have i:=s8 R p;cases r:bk R with|false=>rw[r]at i;refine⟨L,?_,g,d,.inl rfl,λ_ h=>by cases h⟩;·unfold u4;exact bw n (bw sl (uN rfl (bw q (bw i (dd rfl (bw n rfl))))))|true=>rw[r]at i;refine⟨R,?_,p,s,.inr ⟨rfl,rfl,by omega⟩,λ_ _=>rfl⟩;·unfold u4;exact bw n (bw sl (uN rfl (bw q (bw i (uN rfl rfl)))))
theorem FX(L:fk)(a:(Ty.sl c6).Ok L.2.1)(b:eD L.2.1):u4 (L,())=some (ks L,())/\(Ty.sl c6).Ok (ks L).2.1/\eD (ks L).2.1:=by
 obtain⟨R,c,d,e,_⟩:=GK L a b;have :ks L=R:=by unfold ks;rw[c]
 grind
theorem Ln(L:fk)(a:(Ty.sl c6).Ok L.2.1)(b:eD L.2.1):ks L=L\/ks L=(cM .i64 L.1 1,(L.2.1.map (fi (cM .i64 L.1 1)),()))/\bk L=true/\bk (ks L)=true:=by obtain⟨R,c,d,f,e,_⟩:=GK L a b;simp_all[fk,ks,IH,u4,bF,cM,fi,bk]
theorem MS(L:fk)(t:cp)(a:(Ty.sl c6).Ok L.2.1)(b:eD L.2.1)(c:il.Ok t)(h:bk L=true):bk (q9 L t).1=true:=by obtain⟨_,_,_,_,d,_⟩:=EU L t a b c;grind
theorem Lo:∀(c:List cp)(s:Int×fk),(Ty.sl c6).Ok s.2.2.1->eD s.2.2.1->(∀t∈c,il.Ok t)->bk s.2=true->bk (c.foldl DO s).2=true|[],s,_,_,_,h=>h|t::r,s,b,d,a,h=>by obtain⟨_,f,e,_⟩:=EU s.2 t b d (a t (by simp));exact Lo r (DO s t) f e (λx g=>a x (by grind)) (MS s.2 t b d (a t (by simp)) h)
theorem Nv:∀(a:List cp)(s:Int×fk),(Ty.sl c6).Ok s.2.2.1->eD s.2.2.1->(∀t∈a,il.Ok t)->(a.foldl DO s).2.1=s.2.1|[],s,_,_,_=>rfl|t::r,s,c,f,b=>by obtain⟨_,e,d,_,_,g⟩:=EU s.2 t c f (b t (by simp));exact (Nv r (DO s t) e d (λx h=>b x (by grind))).trans g
structure ic(l:List ao):Prop where
 nn:∀b∈l,0<=b.1/\b.1<=100000
 kp:∀b∈l,gl b=true
 VZ:∀i j(hi:i<l.length)(hj:j<l.length),i<j->l[i].1<l[j].1
 Mm:∀b∈l,((gx b).2.1=-1/\j7 (gx b)=true)\/(0<=(gx b).2.1/\(gx b).2.1<b.1/\j7 (gx b)=false/\∃p∈l,p.1=(gx b).2.1/\p.2.2.1=(gx b).1)KP:l.length<=400
 ep:∀b∈l,b.2.1=Ks l
theorem QS{b:ao}(h:gl b=true):0<=b.1/\b.1<=100000:=by unfold gl at h;simp only[Bool.and_eq_true]at h;simpa[Di,km]using h.1
theorem V0{A:Type}{f:A->Int}{l:List A}(h:∀i(a:i<l.length),lO (λz y=>dO (f z) (f y)) l i l[i]=true) (i j:Nat) (a:i<l.length) (e:j<l.length) (b:i<j):f l[i]<f l[j]:=by have c:=Am h (j-1-i) i (by omega);have d:=h ((j-1)+1) (by omega);grind[lO,dO,mz]
theorem Lp{q:j4}(h:j7 q=true):q.2.1=-1:=by unfold j7 at h;simp_all[D9,gA]
theorem Jt{l:List ao}(h:E6 l=true):ic l:=by
 unfold E6 at h;rw[MM]at h;simp only[Bool.and_eq_true]at h;have m:∀i(a:i<l.length),(FU l i l[i]=true/\(j7 (gx l[i])||z0 l l[i])=true):=λi a=>by have :=xJ h.1 i a;grind
 have d:∀i (a:i<l.length),gl l[i]=true/\gA (l[i]).2.1 (Ks l)=true/\lO (λz y=>dO z.1 y.1) l i l[i]=true:=λi a=>by have :=(m i a).1;unfold FU at this;grind
 refine⟨λb c=>?_,λb c=>?_,V0 (f:=λb:ao=>b.1) λi a=>(d i a).2.2,λb c=>?_,by have :=h.2;simp only[km,decide_eq_true_eq]at this;omega,λb c=>?_⟩;·obtain⟨i,a,rfl⟩:=List.getElem_of_mem c;exact QS (d i a).1
 ·obtain⟨i,a,rfl⟩:=List.getElem_of_mem c;grind
 ·obtain⟨i,a,rfl⟩:=List.getElem_of_mem c;cases g:j7 (gx l[i]) with|true=>exact .inl ⟨Lp g,rfl⟩|false=>have k:=Jr (d i a).1 g;have e:=(m i a).2;rw[g,Bool.false_or]at e;unfold z0 at e;refine .inr ⟨k.1,k.2,rfl,?_⟩;cases j:l.find? (λz=>gA z.1 (gx l[i]).2.1) with|none=>grind|some p=>rw[j]at e;have n:=List.find?_some j;simp only[gA,decide_eq_true_eq]at e n;grind
 ·obtain ⟨i,a,rfl⟩:=List.getElem_of_mem c;simpa[gA]using (d i a).2.1
theorem ic.E5{l:List ao}(h:ic l){i j:Nat}(b:i<l.length)(c:j<l.length)(e:l[i].1=l[j].1):i=j:=by
 rcases Nat.lt_trichotomy i j with a|a|a;·have :=h.VZ i j b c a;omega
 ·exact a
 ·have :=h.VZ j i c b a;omega
theorem ic.QT{l:List ao}(h:ic l){a b:ao}(g:a∈l)(c:b∈l)(e:a.1=b.1):a=b:=by obtain⟨i,d,rfl⟩:=List.getElem_of_mem g;obtain⟨j,f,rfl⟩:=List.getElem_of_mem c;have :=h.E5 d f e;grind
theorem Lq{l:List ao}(h:ic l){j:Nat}(c:j<l.length):mh l l[j].1=(j:Int):=by
 unfold mh;rcases mA l (λb=>gA b.1 l[j].1)with⟨a,_,_⟩|⟨k,e,d,_,_,_,f⟩;·rw[List.any_eq_false]at a;exact absurd (by simp[gA]) (a l[j] (List.getElem_mem c))
 ·simp only[gA,decide_eq_true_eq]at d;have :=h.E5 e c d;omega
theorem D0{l:List ao}(h:ic l){b:ao}(c:b∈l):bK l (mh l b.1)=some b/\dO (mh l b.1) 0=false:=by obtain⟨j,a,rfl⟩:=List.getElem_of_mem c;rw[Lq h a];simp_all[ao,bK,dO,cB,dD]
theorem kA{l:List ao}(h:ic l)(a:Int):(l.find? (λb=>gA b.1 a)=none/\mh l a=-1/\∀b∈l,b.1≠a)\/∃b∈l,b.1=a/\l.find? (λb=>gA b.1 a)=some b/\0<=mh l a/\bK l (mh l a)=some b:=by
 unfold mh;rcases mA l (λb=>gA b.1 a)with⟨f,d,c⟩|⟨k,g,i,_,_,d,c⟩;·refine .inl ⟨d,c,λb j e=>?_⟩;rw[List.any_eq_false]at f;exact absurd (by simp[gA,e]) (f b j)
 ·simp only[gA,decide_eq_true_eq]at i;exact .inr ⟨l[k],List.getElem_mem g,i,d,by omega,by rw[c];exact cB g⟩
def TD(l:List ao):Nat->Int->List ao|0,_=>[]|f+1,a=>match l.find? (λb=>gA b.1 a)with|none=>[]|some b=>TD l f (gx b).2.1++[b]
def ct(l:List ao)(a:Int):List ao:=TD l (a.toNat+1) a
theorem w4{l:List ao}{a:Int}(h:l.find? (λb=>gA b.1 a)=none):∀f,TD l f a=[]|0=>rfl|f+1=>by unfold TD;rw[h]
theorem QU{l:List ao}(h:ic l):∀(f g:Nat)(a:Int),a.toNat<f->a.toNat<g->TD l f a=TD l g a:=by intro f;induction f with|zero=>omega|succ f q=>intro g a k m;cases g with|zero=>omega|succ g=>
 rcases kA h a with⟨c,_,_⟩|⟨b,d,p,c,_,_⟩;·rw[w4 c,w4 c]
 · unfold TD;rw[c];dsimp only;have o:=h.nn b d;rcases h.Mm b d with⟨i,_⟩|⟨i,n,_⟩
   · have e:l.find? (λz=>gA z.1 (gx b).2.1)=none:=by rw[List.find?_eq_none];intro z j;have :=h.nn z j;simp only[gA,decide_eq_true_eq];omega
     rw[w4 e,w4 e]
   grind
theorem kb{l:List ao}(h:ic l){b:ao}(a:b∈l):ct l b.1=ct l (gx b).2.1++[b]:=by
 have n:=h.nn b a;rcases kA h b.1 with⟨_,_,d⟩|⟨c,g,j,d,_,_⟩;·grind
 · have :c=b:=h.QT g a j;subst this;have e:ct l c.1=TD l c.1.toNat (gx c).2.1++[c]:=by simp only[ct,TD,d]
   rw[e];congr 1;rcases h.Mm c a with⟨i,_⟩|⟨i,m,_⟩
   · have f:l.find? (λz=>gA z.1 (gx c).2.1)=none:=by rw[List.find?_eq_none];intro z k;have :=h.nn z k;simp only[gA,decide_eq_true_eq];omega
     unfold ct;rw[w4 f,w4 f]
   · exact QU h _ _ _ (by omega) (by omega)
theorem m9{l:List ao}{a:Int}(h:∀b∈l,b.1≠a):ct l a=[]:=w4 (by rw[List.find?_eq_none];intro z c;have :=h z c;simpa[gA]using this) _
theorem Ju{l:List ao}(h:ic l){a:Int}(d:a<0):ct l a=[]:=m9 (λb c=>by have :=h.nn b c;omega)
theorem vx{l:List ao}(h:ic l){M:Int->Prop}(j:∀a,(∀b∈l,b.1≠a)->M a)(g:∀b∈l,M (gx b).2.1->M b.1):∀a,M a:=by
 have f:∀(n:Nat)(a:Int),a.toNat<n->M a:=by intro n;induction n with|zero=>omega|succ n r=>
  intro a o;rcases kA h a with⟨_,_,q⟩|⟨b,d,k,_,_,_⟩;·grind
  · rw[<-k];refine g b d ?_;have m:=h.nn b d;rcases h.Mm b d with⟨e,_⟩|⟨e,p,_⟩;· rw[e];exact j _ (λc i=>by have :=h.nn c i;omega)
    grind
 exact λa=>f (a.toNat+1) a (by omega)
theorem kk{l:List ao}(h:ic l):∀(d:Int)(b:ao),b∈ct l d->b∈l:=by
 refine vx h (λd e b a=>?_) (λb a g c f=>?_);·rw[m9 e]at a;cases a
 ·rw[kb h a]at f;grind
theorem OW{l:List ao}(h:ic l):∀(c:Int),(ct l c).length<=(c+1).toNat:=by
 refine vx h (λc d=>?_) (λb a g=>?_);·rw[m9 d];grind
 ·rw[kb h a];have d:=h.nn b a;simp only[List.length_append,List.length_cons,List.length_nil];rcases h.Mm b a with⟨e,_⟩|⟨e,f,_⟩<;>omega
theorem D1{l:List ao}(h:ic l)(a:Int):(ct l a).length<=100001:=by
 rcases kA h a with⟨_,_,d⟩|⟨b,c,e,_,_,_⟩;·rw[m9 d];grind
 ·have :=OW h a;have :=h.nn b c;omega
def ov(l:List ao)(a:List ao):List D3:=a.map (λb=>(mh l b.1,()))
def hM(a:List ao):List D3:=a.map (λb=>(b.1,()))
theorem TE{a:Int}(h:a<0):km 0 a=false:=by grind[km]
theorem GL{a:Int}(h:0<=a):km 0 a=true:=by grind[km]
theorem V1{l:List ao}(h:ic l){b:ao}(a:b∈l):(gx b).2.1<0\/∃p∈l,p.1=(gx b).2.1:=by
 rcases h.Mm b a with⟨c,_⟩|⟨_,_,_,p,e,d,_⟩;·omega
 grind
theorem FY(l:List ao)(a:Int)(o:(Ty.sl j3).Ok l)(h:ic l):Fm ((l,()),((a,()),()))=some ((ov l (ct l a),()),()):=by
 have m:Al l.length:=o.1;have q:∀d:Int,(d<0\/∃b∈l,b.1=d)->∀f:List D3,(ct l d).length+f.length<=100001->∃e,aR (Fm.b0 ((l,()),((a,()),()))) (d,(f,()))=some (.inl (e,(ov l (ct l d)++f,()))):=by
  refine vx h (λd i j f k=>?_) (λb c u _ f k=>?_);·have n:d<0:=j.resolve_right (λ⟨b,c,g⟩=>i b c g);refine⟨d,?_⟩;rw[m9 i];refine cS ?_;unfold Fm.b0;exact uN (TE n) rfl
  · have i:=h.nn b c;rw[kb h c]at k⊢;simp only[List.length_append,List.length_cons,List.length_nil]at k;obtain⟨e,g⟩:=u (V1 h c) ((mh l b.1,())::f) (by grind);refine⟨e,?_⟩;have p:Fm.b0 ((l,()),((a,()),())) (b.1,(f,()))=some (.inl ((gx b).2.1,((mh l b.1,())::f,()))):=by unfold Fm.b0;refine dd (GL i.1) (bw (sU l b.1 m) (uN (D0 h c).2 (Cm ?_ (by decide) (by decide) (bw (D0 h c).1 rfl))));grind
    rw[de p,g];unfold ov;simp
 unfold Fm;by_cases j:a<0\/∃b∈l,b.1=a;· obtain⟨e,g⟩:=q a j [] (by have :=D1 h a;omega);grind
 · have r:∀b∈l,b.1≠a:=λb c e=>j (.inr ⟨b,c,e⟩);have t:0<=a:=by omega
   rw [m9 r];rcases kA h a with ⟨_,s,_⟩|⟨b,c,g,_⟩;· refine bw (cS (e:=.inr (([],()),())) ?_) rfl;unfold Fm.b0;exact dd (GL t) (bw (sU l a m) (dd (by show dO (mh l a) 0=true;rw [s];rfl) rfl))
   grind
def c8(l:List ao)(q:j4):Int:=match l.find? (λb=>gA b.1 q.2.1)with|none=>-1|some b=>bif !gA b.2.2.1 q.1 then-1 else match l.find? (λz=>gA z.1 (gx b).2.1)with|none=>-1|some p=>bif !gA p.2.2.1 (gS .i64 q.1 1)then-1 else p.1
theorem Lr{l:List ao}{q:j4}(h:gA (c8 l q) (-1)=false):∃p∈l,p.1=c8 l q:=by unfold c8 at h⊢;cases a:l.find? (λb=>gA b.1 q.2.1)with|none=>rw[a]at h;simp[gA]at h|some b=>rw[a]at h;dsimp only at h⊢;cases d:gA b.2.2.1 q.1 with|false=>rw[d]at h;simp[gA]at h|true=>rw[d]at h;cases c:l.find? (λz=>gA z.1 (gx b).2.1)with|none=>rw[c]at h;simp[gA]at h|some p=>rw[c]at h;dsimp only at h⊢;cases e:gA p.2.2.1 (gS .i64 q.1 1)with|false=>rw[e]at h;simp[gA]at h|true=>grind
theorem MT(l:List ao)(q:j4)(f:Al l.length)(h:ic l):SU ((l,()),(q,()))=some (I1 (c8 l q)):=by
 unfold SU c8;refine bw (sU l q.2.1 f) ?_;rcases kA h q.2.1 with⟨a,c,_⟩|⟨b,k,n,a,c,g⟩;·rw[a,c];rfl
 ·rw[a];refine uN (dD c) (bw g ?_);dsimp only;cases o:gA b.2.2.1 q.1 with|false=>grind|true=>
 refine uN rfl (bw g (bw (sU l _ f) ?_));rcases kA h (gx b).2.1 with⟨d,i,_⟩|⟨p,r,m,d,i,e⟩;·rw[d];exact dd (by simp_all[dO,I1,mh,D9,D3,cp,df,gx]) rfl
 ·rw[d];refine uN (dD i) (bw e ?_);dsimp only;cases j:gA p.2.2.1 (gS .i64 q.1 1) with|false=>grind|true=>exact uN rfl (bw e rfl)
theorem Ls(l:List ao)(a:Int)(i:(Ty.sl j3).Ok l)(h:ic l)(m:∀b∈l,ei b):I2 ((l,()),((a,()),()))=some ((ct l a,()),()):=by
 have p:=D1 h a;have o:(ov l (ct l a)).length=(ct l a).length:=by unfold ov;simp
 have j:=cK (f:=I2.b0 ((ov l (ct l a),()),()) ((l,()),((a,()),()))) (λk=>((ct l a).take k,((k:Int),()))) (ct l a).length (e:=Sum.inl (ct l a,(((ct l a).length:Int),()))) (λk d=>by
 have g:=kk h a _ (List.getElem_mem d);have c:(ov l (ct l a))[k]?=some (mh l (ct l a)[k].1,()):=by unfold ov;grind
 unfold I2.b0;refine uL (show (k:Int)<((ov l (ct l a)).length:Int)by omega) (bw (An c) (bw (As c) (bw (D0 h g).1 (bw (GG _ (m _ g)) (Cm ?_ (by decide) (by decide) ?_)))));·grind
 ·refine DQ ?_ (wG (n:=(ct l a).length) d (by omega));simp_all[uf,bV,ct,ao]) (by unfold I2.b0;refine uM (show ((ov l (ct l a)).length:Int)<=((ct l a).length:Int) by omega) ?_;grind);unfold I2;exact bw (FY l a i h) (bw j rfl)
def Ku(d:List D3)(n:Int):Bool:=d.any (λx=>gA x.1 n)
def sm(d:List D3)(n:Int):List D3:=bif Ku d n then d else d++[(n,())]
def i0(d:List D3)(a:List D3):List D3:=a.foldl (λd x=>sm d x.1) d
theorem Lt(d:List D3)(n:Int):(sm d n).length<=d.length+1:=by unfold sm;grind
theorem QV(d:List D3)(n:Int)(c:Al d.length):I3 ((d,()),((n,()),()))=some (B1 (Ku d n)):=by have b:=Cj (S:=Int×Unit) d (λx=>gA x.1 n) (f:=I3.b0 ((d,()),((n,()),()))) (λk=>(k,())) (Sum.inl ((d.length:Int),())) (Sum.inr (B1 true)) (λi a=>by unfold I3.b0;refine uL (Int.ofNat_lt.2 a) (bw (cB a) ?_);rw[<-wG a c]) (by simp_all[I3.b0,D3,uM,bK,gA,cM]);unfold I3;refine bw b ?_;unfold Ku;grind
noncomputable def nr(L:fk)(a:List ao):fk:=a.foldl (λs b=>(H3 s (nx b)).2) L
theorem FZ:∀(d:List ao)(L:fk),(Ty.sl c6).Ok L.2.1->eD L.2.1->(∀b∈d,(Ty.sl il).Ok (nx b))->(Ty.sl c6).Ok (nr L d).2.1/\eD (nr L d).2.1|[],L,a,e,_=>⟨a,e⟩|b::r,L,a,e,f=>by obtain⟨_,h,g⟩:=B2 L (nx b) a e (f b (by simp));exact FZ r _ h g (λc i=>f c (by grind))
def E9(g:fk)(t:cp):Bool:=match g.2.1.find? (λa=>ko a.1 t.2.1)with|some a=>km a.2.2.1 t.2.2.2.2.1|none=>false
def w5(j8:List cp)(g:fk):List cp:=j8.filter (E9 g)
theorem OY(l:List bF)(s:ByteArray):(l.find? (λa=>ko a.1 s)=none/\Ee l s=-1)\/∃a∈l,l.find? (λa=>ko a.1 s)=some a/\0<=Ee l s/\bK l (Ee l s)=some a:=by
 unfold Ee;rcases mA l (λa=>ko a.1 s)with⟨d,c,b⟩|⟨k,e,f,_,_,c,b⟩;·grind
 simp_all[bF,ko,ek,nY,bK,cB]
theorem At{A:Type}(p:A->Bool)(l:List A){i:Nat}(a:i<l.length):(l.take (i+1)).filter p=(l.take i).filter p++(bif p l[i]then[l[i]]else[]):=by rw[List.take_succ_eq_append_getElem a,List.filter_append];grind
theorem V2{A:Type}(p:A->Bool)(l:List A)(i:Nat):((l.take i).filter p).length<=l.length:=by grind
theorem QW(j8:List cp)(g:fk)(i:W1 j8.length)(m:Al g.2.1.length):I4 ((j8,()),(g,()))=some ((w5 j8 g,()),()):=by have h:Al j8.length:=i.l;unfold W1 at i;have p:=cK (f:=I4.b0 ((j8,()),(g,()))) (λk=>((j8.take k).filter (E9 g),((k:Int),()))) j8.length (e:=Sum.inl (w5 j8 g,((j8.length:Int),()))) (λk b=>by
 unfold I4.b0;refine uL (Int.ofNat_lt.2 b) (bw (cB b) (bw (BY g.2.1 _ m) ?_));have o:=V2 (E9 g) j8 k;rcases OY g.2.1 (j8[k]).2.1 with⟨d,l⟩|⟨a,q,d,l,n⟩
 · have c:E9 g j8[k]=false:=by unfold E9;rw[d]
   refine uN (by simp_all[km,I1,Ee,bF,cp]) (DQ ?_ (wG b h));rw[At _ _ b,c];simp
 · refine dd (GL l) (bw (cB b) (bw n ?_));have c:E9 g j8[k]=km a.2.2.1 (j8[k]).2.2.2.2.1:=by unfold E9;rw[d]
   cases j:km a.2.2.1 (j8[k]).2.2.2.2.1 with|true=>refine bw (cB b) (Cm (by grind) (by decide) (by decide) (DQ ?_ (wG b h)));rw[At _ _ b,c,j];rfl|false=>refine DQ ?_ (wG b h);rw[At _ _ b,c,j];simp) (by unfold I4.b0;refine uM (Int.le_refl _) ?_;rw[List.take_length];rfl);unfold I4;grind
theorem OZ(g:fk)(b:(Ty.sl c6).Ok g.2.1)(c:eD g.2.1)(t:cp):E9 (ks g) t=E9 g t:=by
 rcases Ln g b c with h|⟨h,_,_⟩;·rw[h]
 ·rw[h];unfold E9;show (match (g.2.1.map (fi _)).find? (λa=>ko a.1 t.2.1) with|some a=>_|none=>_)=_;rw[List.find?_map];show (match (g.2.1.find? (λa=>ko a.1 t.2.1)).map (fi _) with|some a=>_|none=>_)=_;cases g.2.1.find? (λa=>ko a.1 t.2.1)<;>rfl
theorem O0(j8:List cp)(g:fk)(a:(Ty.sl c6).Ok g.2.1)(b:eD g.2.1):w5 j8 (ks g)=w5 j8 g:=by unfold w5;congr 1;funext t;grind[OZ]
noncomputable def O1:List ao->fk->List D3->fk×(List D3×Option ao)|[],g,d=>(g,(d,none))|b::r,g,d=>bif fa b then((H3 g (nx b)).2,(sm d b.1,some b))else O1 r (H3 g (nx b)).2 (sm d b.1)
def ia:List ao->List ao|[]=>[]|b::r=>bif fa b then[b]else b::ia r
theorem Hz:∀(a:List ao)(g:fk)(d:List D3),O1 a g d=(nr g (ia a),(i0 d (hM (ia a)),a.find? (λb=>fa b)))|[],g,d=>rfl|b::r,g,d=>by unfold O1 ia;cases h:fa b with|true=>simp only[cond_true,List.find?_cons_of_pos h];rfl|false=>simp only[cond_false,List.find?_cons_of_neg (show¬fa b=true by grind)];rw[Hz r];rfl
theorem D2:∀(a:List ao),(a.find? (λb=>fa b)=none/\nY a (λb=>fa b)=-1/\ia a=a)\/∃p b r,a=p++b::r/\fa b=true/\a.find? (λb=>fa b)=some b/\nY a (λb=>fa b)=(p.length:Int)/\ia a=p++[b]|[]=>.inl ⟨rfl,rfl,rfl⟩|b::r=>by cases h:fa b with|true=>exact .inr ⟨[],b,r,rfl,h,by grind,by unfold nY;grind,by unfold ia;grind⟩|false=>
 have i:(b::r).find? (λb=>fa b)=r.find? (λb=>fa b):=List.find?_cons_of_neg (by simp[h]);have j:(b::r).findIdx? (λb=>fa b)=(r.findIdx? (λb=>fa b)).map (·+1):=by grind
 have l:ia (b::r)=b::ia r:=by rw[ia,h];rfl
 rcases D2 r with ⟨e,d,f⟩|⟨p,c,s,e,d,f,g,k⟩;·refine .inl ⟨by grind,?_,by grind⟩;unfold nY at d⊢;grind
 ·refine .inr ⟨b::p,c,s,by grind,d,by grind,?_,by grind⟩;unfold nY at g⊢;grind
theorem w6{a:List ao}{b:ao}(h:b∈ia a):b∈a:=by
 rcases D2 a with⟨_,_,e⟩|⟨p,c,s,d,_,_,_,f⟩;·grind
 grind
def Nw(n:a0)(d:List D3)(q:List cp):a0:=(n.1,(n.2.1,(n.2.2.1,(n.2.2.2.1,(n.2.2.2.2.1,(n.2.2.2.2.2.1,(n.2.2.2.2.2.2.1,(n.2.2.2.2.2.2.2.1,(n.2.2.2.2.2.2.2.2.1,(n.2.2.2.2.2.2.2.2.2.1,(n.2.2.2.2.2.2.2.2.2.2.1,(n.2.2.2.2.2.2.2.2.2.2.2.1,(n.2.2.2.2.2.2.2.2.2.2.2.2.1,(n.2.2.2.2.2.2.2.2.2.2.2.2.2.1,(n.2.2.2.2.2.2.2.2.2.2.2.2.2.2.1,(n.2.2.2.2.2.2.2.2.2.2.2.2.2.2.2.1,(n.2.2.2.2.2.2.2.2.2.2.2.2.2.2.2.2.1,(d,(q,(bm n,()))))))))))))))))))))
def QX(n:a0)(g:fk)(a:List df)(d:List D3)(q:List cp)(b:List A4):a0:=(n.1,(g.1,(g.1,(g.2.1,(a,([],(1,(0,(0,(-1,([],(0,([],([],(0,([],([],(d,(q,(b,()))))))))))))))))))))
def A5(n:a0)(q:j4):A4:=(n.2.1,(ct (ar n) q.2.1,(q.1,(q.2.1,(q.2.2.1,())))))
noncomputable def Je(n:a0)(q:j4)(g:fk)(d:List D3)(b:ao):a0:=QX n (ks g) (kB b) d (w5 (lh n) g) (bm n++[A5 n q])
noncomputable def vm(n:a0)(a:Int)(q:j4):a0:=match O1 (ct (ar n) a) (gd n) (mu n) with|(g,(d,none))=>Nw n d (w5 (lh n) g)|(g,(d,some b))=>Je n q g d b
theorem O2{S E A b:Type}(xs:List A)(g:b->A->Sum b E)(I:Nat->b->Prop){f:S->Option (Sum S E)}(mk:b->Int->S)(k:b->E)(j:b)(t:I 0 j)(n:∀i (h:i<xs.length)s,I i s->(∃d,g s xs[i]=.inl d/\I (i+1) d/\f (mk s (i:Int))=some (.inl (mk d ((i+1:Nat):Int))))\/∃e,g s xs[i]=.inr e/\f (mk s (i:Int))=some (.inr e))(v:∀s,I xs.length s->f (mk s (xs.length:Int))=some (.inr (k s))):aR f (mk j 0)=some (GJ g k xs j):=by
 have p:∀(c a:List A)(s:b),a++c=xs->I a.length s->aR f (mk s (a.length:Int))=some (GJ g k c s):=by intro c;induction c with|nil=>grind[aR,GJ,cS]|cons x c r=>
  intro a s y u;have o:a.length<xs.length:=by grind
  have q:xs[a.length]=x:=by grind
  rcases n a.length o s u with⟨d,l,w,m⟩|⟨e,l,m⟩;·rw[q]at l;rw[de m];simp only[GJ,l];have :=r (a++[x]) d (by grind) (by grind);grind
  grind[aR,GJ,cS]
 simpa using p xs [] j rfl t
structure Jf(n:a0):Prop where
 ok:Es n
 l:Js n
 t:ic (ar n)d:(mu n).length<=800000
 p:(bm n).length<=800000
theorem Jf.bl{n:a0}(h:Jf n):∀b∈ar n,ei b:=h.l.2.2.2.1
theorem Jf.G8{n:a0}(h:Jf n):eD (gd n).2.1:=h.l.1
abbrev Ze:Type:=Int×(List ao×(Int×(List bF×(List D3×Unit))))
noncomputable def H5(n:a0)(q:j4)(s:fk×List D3)(b:ao):Sum (fk×List D3) (Sum Ze (a0×Unit)):=bif fa b then .inr (.inr (Je n q (H3 s.1 (nx b)).2 (sm s.2 b.1) b,())) else .inl ((H3 s.1 (nx b)).2,sm s.2 b.1)
theorem Jv(n:a0)(q:j4)(a:fk×List D3->Sum Ze (a0×Unit)):∀(f:List ao)(g:fk)(d:List D3),GJ (H5 n q) a f (g,d)=(match O1 f g d with|(e,(c,none))=>a (e,c)|(e,(c,some b))=>.inr (Je n q e c b,()))|[],g,d=>rfl|b::r,g,d=>by unfold GJ O1 H5;cases h:fa b with|true=>rfl|false=>exact Jv n q a r _ _
theorem QY(n:a0)(a:Int)(q:j4)(h:Jf n)(B:W1 (List.length q.2.2.1)):I5 (n,((a,()),(q,())))=some (vm n a q,()):=by have d:=h.ok.ki;have J:=D1 h.t a;have G:=Ls (ar n) a d h.t h.bl;have y:=Ls (ar n) q.2.1 d h.t h.bl;let v:fk×List D3->Sum Ze (a0×Unit):=λs=>Sum.inl (((ct (ar n) a).length:Int),(ct (ar n) a,(s.1.1,(s.1.2.1,(s.2,())))));let I:fk×List D3->Prop:=λs=>(Ty.sl c6).Ok s.1.2.1/\eD s.1.2.1;have x:=O2 (S:=Ze) (ct (ar n) a) (H5 n q) (λi s=>(Ty.sl c6).Ok s.1.2.1/\eD s.1.2.1/\s.2.length<=800000+i) (f:=I5.b0 (n,((a,()),(q,())))) (λs k=>(k,(ct (ar n) a,(s.1.1,(s.1.2.1,(s.2,())))))) v (gd n,mu n) ⟨h.ok.base,h.G8,h.d⟩ (λi c s r=>by
 have t:=kk h.t a _ (List.getElem_mem c);have E:De (ct (ar n) a)[i]:=Ae d.2 t;have w:=h.bl _ t;obtain⟨o,e,g⟩:=B2 s.1 (nx (ct (ar n) a)[i]) r.1 r.2.1 E.Ex;have u:Al s.2.length:=by omega
 have j:∀(R:Type),((bK (ct (ar n) a) (i:Int)).bind λD=>(I3 ((s.2,()),((D.1,()),()))).bind λz=>bif (!z.1.1) then (bK (ct (ar n) a) (i:Int)).bind λm=>bif dE (List.length s.2+List.length ([(m.1,())]:List D3)) 8 then some (.inl (bV s.2 ([(m.1,())]:List D3),())) else none else some (.inl (s.2,())))=some (Sum.inl (sm s.2 (ct (ar n) a)[i].1,()):Sum (List D3×Unit) R):=by intro R;refine bw (cB c) (bw (QV s.2 _ u) ?_);unfold sm;cases Ku s.2 (ct (ar n) a)[i].1 with|true=>rfl|false=>exact bw (cB c) (Cm (by grind) (by decide) (by decide) rfl)
 cases p:fa (ct (ar n) a)[i]with|false=>refine .inl ⟨((H3 s.1 (nx (ct (ar n) a)[i])).2,sm s.2 (ct (ar n) a)[i].1),by unfold H5;grind,⟨e,g,Nat.le_trans (Lt _ _) (by omega)⟩,?_⟩;unfold I5.b0;refine uL (Int.ofNat_lt.2 c) (bw (cB c) (bw o ?_));refine bw (j _) (bw (cB c) (uN p ?_));rw[<-wG (n:=(ct (ar n) a).length) c (by omega)]|true=>refine .inr ⟨.inr (Je n q (H3 s.1 (nx (ct (ar n) a)[i])).2 (sm s.2 (ct (ar n) a)[i].1) (ct (ar n) a)[i],()),by unfold H5;grind,?_⟩;obtain ⟨A,K,F⟩:=FX _ e g;unfold I5.b0;refine uL (Int.ofNat_lt.2 c) (bw (cB c) (bw o ?_));refine bw (j _) (bw (cB c) (dd p (bw y (bw (Ey q B) (Cm (by show (bm n).length+1<=1048577;have :=h.p;omega) (by decide) (by decide) (bw A (bw (QW (lh n) _ h.l.2.2.2.2.2.2.2.2.2.2.1 F.1.l) (bw (cB c) (vP w.2.2.2.2 (by decide) (by decide) ?_)))))))));rw[O0 _ _ e g];rfl) (λs _=>by unfold I5.b0;exact uM (Int.le_refl _) rfl);unfold I5;refine bw G (bw (n6 (gd n) h.G8) (bw x ?_));rw[Jv];unfold vm;have C:=FZ (ia (ct (ar n) a)) (gd n) h.ok.base h.G8 (λb H=>(show De b from Ae d.2 (kk h.t a b (w6 H))).Ex);rw[Hz];cases (ct (ar n) a).find? (λb=>fa b) with|none=>exact bw (QW (lh n) _ h.l.2.2.2.2.2.2.2.2.2.2.1 C.2.1.l) rfl|some b=>rfl
noncomputable def ke(n:a0)(q:j4):a0:=bif gA (c8 (ar n) q) (-1) then n else vm n (c8 (ar n) q) q
structure FF(q:j4):Prop where
 i1:(Lit.int .i64 q.1).wf=true
 i2:(Lit.int .i64 q.2.1).wf=true
 ok:Tu q
 w:W1 (List.length q.2.2.1)
structure Nx(t:se):Prop where
 i1:(Lit.int .i64 t.1).wf=true
 ok:(Ty.sl e9).Ok t.2.1
 hi:(Ty.sl e3).Ok t.2.2.1
 w:W1 (List.length t.2.1)wh:W1 (List.length t.2.2.1)
theorem Nx.Zf{t:se}(h:Nx t):Ur t:=⟨h.ok,h.hi.1⟩
theorem FF.GM:FF ((0,(-1,([],()))):j4):=⟨rfl,rfl,CK,Nat.zero_le _⟩
theorem Es.C6{n:a0}(h:Es n)(l:Js n):FF (bx n):=⟨h.2.2.2.2.2.2.2.2.1,h.2.2.2.2.2.2.2.2.2.1,h.aN6,l.2.2.2.2.1⟩
theorem Es.PN{n:a0}(h:Es n)(l:Js n):Nx (E7 n):=⟨h.2.2.2.2.2.2.2.2.2.2.2.1,h.2.2.2.2.2.2.2.2.2.2.2.2.1,h.2.2.2.2.2.2.2.2.2.2.2.2.2.1,l.2.2.2.2.2.1,l.2.2.2.2.2.2.1⟩
def Ux(n:a0)(r:Int)(q:j4):a0:=(n.1,(n.2.1,(n.2.2.1,(n.2.2.2.1,(n.2.2.2.2.1,(n.2.2.2.2.2.1,(r,(n.2.2.2.2.2.2.2.1,(q.1,(q.2.1,(q.2.2.1,(n.2.2.2.2.2.2.2.2.2.2.2.1,(n.2.2.2.2.2.2.2.2.2.2.2.2.1,(n.2.2.2.2.2.2.2.2.2.2.2.2.2.1,(n.2.2.2.2.2.2.2.2.2.2.2.2.2.2.1,(n.2.2.2.2.2.2.2.2.2.2.2.2.2.2.2.1,(n.2.2.2.2.2.2.2.2.2.2.2.2.2.2.2.2.1,(n.2.2.2.2.2.2.2.2.2.2.2.2.2.2.2.2.2.1,(n.2.2.2.2.2.2.2.2.2.2.2.2.2.2.2.2.2.2.1,(n.2.2.2.2.2.2.2.2.2.2.2.2.2.2.2.2.2.2.2.1,()))))))))))))))))))))
theorem QZ{n:a0}{r:Int}{q:j4}(h:Es n)(b:(Lit.int .i64 r).wf=true)(a:FF q):Es (Ux n r q):=⟨h.1,h.2.1,h.2.2.1,h.2.2.2.1,h.2.2.2.2.1,h.2.2.2.2.2.1,b,h.2.2.2.2.2.2.2.1,a.i1,a.i2,a.ok,h.2.2.2.2.2.2.2.2.2.2.2.1,h.2.2.2.2.2.2.2.2.2.2.2.2.1,h.2.2.2.2.2.2.2.2.2.2.2.2.2.1,h.2.2.2.2.2.2.2.2.2.2.2.2.2.2.1,h.2.2.2.2.2.2.2.2.2.2.2.2.2.2.2.1,h.2.2.2.2.2.2.2.2.2.2.2.2.2.2.2.2.1,h.2.2.2.2.2.2.2.2.2.2.2.2.2.2.2.2.2.1,h.2.2.2.2.2.2.2.2.2.2.2.2.2.2.2.2.2.2.1,h.2.2.2.2.2.2.2.2.2.2.2.2.2.2.2.2.2.2.2.1,trivial⟩
def Uy(n:a0)(r:Int)(t:se):a0:=(n.1,(n.2.1,(n.2.2.1,(n.2.2.2.1,(n.2.2.2.2.1,(n.2.2.2.2.2.1,(r,(n.2.2.2.2.2.2.2.1,(n.2.2.2.2.2.2.2.2.1,(n.2.2.2.2.2.2.2.2.2.1,(n.2.2.2.2.2.2.2.2.2.2.1,(t.1,(t.2.1,(t.2.2.1,(n.2.2.2.2.2.2.2.2.2.2.2.2.2.2.1,(n.2.2.2.2.2.2.2.2.2.2.2.2.2.2.2.1,(n.2.2.2.2.2.2.2.2.2.2.2.2.2.2.2.2.1,(n.2.2.2.2.2.2.2.2.2.2.2.2.2.2.2.2.2.1,(n.2.2.2.2.2.2.2.2.2.2.2.2.2.2.2.2.2.2.1,(n.2.2.2.2.2.2.2.2.2.2.2.2.2.2.2.2.2.2.2.1,()))))))))))))))))))))
theorem Q0{n:a0}{r:Int}{t:se}(h:Es n)(b:(Lit.int .i64 r).wf=true)(a:Nx t):Es (Uy n r t):=⟨h.1,h.2.1,h.2.2.1,h.2.2.2.1,h.2.2.2.2.1,h.2.2.2.2.2.1,b,h.2.2.2.2.2.2.2.1,h.2.2.2.2.2.2.2.2.1,h.2.2.2.2.2.2.2.2.2.1,h.2.2.2.2.2.2.2.2.2.2.1,a.i1,a.ok,a.hi,h.2.2.2.2.2.2.2.2.2.2.2.2.2.2.1,h.2.2.2.2.2.2.2.2.2.2.2.2.2.2.2.1,h.2.2.2.2.2.2.2.2.2.2.2.2.2.2.2.2.1,h.2.2.2.2.2.2.2.2.2.2.2.2.2.2.2.2.2.1,h.2.2.2.2.2.2.2.2.2.2.2.2.2.2.2.2.2.2.1,h.2.2.2.2.2.2.2.2.2.2.2.2.2.2.2.2.2.2.2.1,trivial⟩
def Ef(n:a0)(g:List ow):a0:=(n.1,(n.2.1,(n.2.2.1,(n.2.2.2.1,(n.2.2.2.2.1,(n.2.2.2.2.2.1,(n.2.2.2.2.2.2.1,(n.2.2.2.2.2.2.2.1,(n.2.2.2.2.2.2.2.2.1,(n.2.2.2.2.2.2.2.2.2.1,(n.2.2.2.2.2.2.2.2.2.2.1,(n.2.2.2.2.2.2.2.2.2.2.2.1,(n.2.2.2.2.2.2.2.2.2.2.2.2.1,(n.2.2.2.2.2.2.2.2.2.2.2.2.2.1,(n.2.2.2.2.2.2.2.2.2.2.2.2.2.2.1,(n.2.2.2.2.2.2.2.2.2.2.2.2.2.2.2.1,(g,(n.2.2.2.2.2.2.2.2.2.2.2.2.2.2.2.2.2.1,(n.2.2.2.2.2.2.2.2.2.2.2.2.2.2.2.2.2.2.1,(n.2.2.2.2.2.2.2.2.2.2.2.2.2.2.2.2.2.2.2.1,()))))))))))))))))))))
theorem Q1{n:a0}{g:List ow}(h:Es n)(a:(Ty.sl Gr).Ok g):Es (Ef n g):=⟨h.1,h.2.1,h.2.2.1,h.2.2.2.1,h.2.2.2.2.1,h.2.2.2.2.2.1,h.2.2.2.2.2.2.1,h.2.2.2.2.2.2.2.1,h.2.2.2.2.2.2.2.2.1,h.2.2.2.2.2.2.2.2.2.1,h.2.2.2.2.2.2.2.2.2.2.1,h.2.2.2.2.2.2.2.2.2.2.2.1,h.2.2.2.2.2.2.2.2.2.2.2.2.1,h.2.2.2.2.2.2.2.2.2.2.2.2.2.1,h.2.2.2.2.2.2.2.2.2.2.2.2.2.2.1,h.2.2.2.2.2.2.2.2.2.2.2.2.2.2.2.1,a,h.2.2.2.2.2.2.2.2.2.2.2.2.2.2.2.2.2.1,h.2.2.2.2.2.2.2.2.2.2.2.2.2.2.2.2.2.2.1,h.2.2.2.2.2.2.2.2.2.2.2.2.2.2.2.2.2.2.2.1,trivial⟩
def o0(n:a0)(v:Int):a0:=(n.1,(n.2.1,(n.2.2.1,(n.2.2.2.1,(n.2.2.2.2.1,(n.2.2.2.2.2.1,(n.2.2.2.2.2.2.1,(v,(n.2.2.2.2.2.2.2.2.1,(n.2.2.2.2.2.2.2.2.2.1,(n.2.2.2.2.2.2.2.2.2.2.1,(n.2.2.2.2.2.2.2.2.2.2.2.1,(n.2.2.2.2.2.2.2.2.2.2.2.2.1,(n.2.2.2.2.2.2.2.2.2.2.2.2.2.1,(n.2.2.2.2.2.2.2.2.2.2.2.2.2.2.1,(n.2.2.2.2.2.2.2.2.2.2.2.2.2.2.2.1,(n.2.2.2.2.2.2.2.2.2.2.2.2.2.2.2.2.1,(n.2.2.2.2.2.2.2.2.2.2.2.2.2.2.2.2.2.1,(n.2.2.2.2.2.2.2.2.2.2.2.2.2.2.2.2.2.2.1,(n.2.2.2.2.2.2.2.2.2.2.2.2.2.2.2.2.2.2.2.1,()))))))))))))))))))))
theorem Q2{n:a0}{v:Int}(h:Es n)(a:(Lit.int .i64 v).wf=true):Es (o0 n v):=⟨h.1,h.2.1,h.2.2.1,h.2.2.2.1,h.2.2.2.2.1,h.2.2.2.2.2.1,h.2.2.2.2.2.2.1,a,h.2.2.2.2.2.2.2.2.1,h.2.2.2.2.2.2.2.2.2.1,h.2.2.2.2.2.2.2.2.2.2.1,h.2.2.2.2.2.2.2.2.2.2.2.1,h.2.2.2.2.2.2.2.2.2.2.2.2.1,h.2.2.2.2.2.2.2.2.2.2.2.2.2.1,h.2.2.2.2.2.2.2.2.2.2.2.2.2.2.1,h.2.2.2.2.2.2.2.2.2.2.2.2.2.2.2.1,h.2.2.2.2.2.2.2.2.2.2.2.2.2.2.2.2.1,h.2.2.2.2.2.2.2.2.2.2.2.2.2.2.2.2.2.1,h.2.2.2.2.2.2.2.2.2.2.2.2.2.2.2.2.2.2.1,h.2.2.2.2.2.2.2.2.2.2.2.2.2.2.2.2.2.2.2.1,trivial⟩
def B3(n:a0)(v:List sH):a0:=(n.1,(n.2.1,(n.2.2.1,(n.2.2.2.1,(n.2.2.2.2.1,(n.2.2.2.2.2.1,(n.2.2.2.2.2.2.1,(n.2.2.2.2.2.2.2.1,(n.2.2.2.2.2.2.2.2.1,(n.2.2.2.2.2.2.2.2.2.1,(n.2.2.2.2.2.2.2.2.2.2.1,(n.2.2.2.2.2.2.2.2.2.2.2.1,(n.2.2.2.2.2.2.2.2.2.2.2.2.1,(n.2.2.2.2.2.2.2.2.2.2.2.2.2.1,(n.2.2.2.2.2.2.2.2.2.2.2.2.2.2.1,(v,(n.2.2.2.2.2.2.2.2.2.2.2.2.2.2.2.2.1,(n.2.2.2.2.2.2.2.2.2.2.2.2.2.2.2.2.2.1,(n.2.2.2.2.2.2.2.2.2.2.2.2.2.2.2.2.2.2.1,(n.2.2.2.2.2.2.2.2.2.2.2.2.2.2.2.2.2.2.2.1,()))))))))))))))))))))
theorem Q3{n:a0}{v:List sH}(h:Es n)(a:(Ty.sl Hf).Ok v):Es (B3 n v):=⟨h.1,h.2.1,h.2.2.1,h.2.2.2.1,h.2.2.2.2.1,h.2.2.2.2.2.1,h.2.2.2.2.2.2.1,h.2.2.2.2.2.2.2.1,h.2.2.2.2.2.2.2.2.1,h.2.2.2.2.2.2.2.2.2.1,h.2.2.2.2.2.2.2.2.2.2.1,h.2.2.2.2.2.2.2.2.2.2.2.1,h.2.2.2.2.2.2.2.2.2.2.2.2.1,h.2.2.2.2.2.2.2.2.2.2.2.2.2.1,h.2.2.2.2.2.2.2.2.2.2.2.2.2.2.1,a,h.2.2.2.2.2.2.2.2.2.2.2.2.2.2.2.2.1,h.2.2.2.2.2.2.2.2.2.2.2.2.2.2.2.2.2.1,h.2.2.2.2.2.2.2.2.2.2.2.2.2.2.2.2.2.2.1,h.2.2.2.2.2.2.2.2.2.2.2.2.2.2.2.2.2.2.2.1,trivial⟩
def kf(n:a0)(t:List ao):a0:=(n.1,(n.2.1,(n.2.2.1,(n.2.2.2.1,(n.2.2.2.2.1,(t,(n.2.2.2.2.2.2.1,(n.2.2.2.2.2.2.2.1,(n.2.2.2.2.2.2.2.2.1,(n.2.2.2.2.2.2.2.2.2.1,(n.2.2.2.2.2.2.2.2.2.2.1,(n.2.2.2.2.2.2.2.2.2.2.2.1,(n.2.2.2.2.2.2.2.2.2.2.2.2.1,(n.2.2.2.2.2.2.2.2.2.2.2.2.2.1,(n.2.2.2.2.2.2.2.2.2.2.2.2.2.2.1,(n.2.2.2.2.2.2.2.2.2.2.2.2.2.2.2.1,(n.2.2.2.2.2.2.2.2.2.2.2.2.2.2.2.2.1,(n.2.2.2.2.2.2.2.2.2.2.2.2.2.2.2.2.2.1,(n.2.2.2.2.2.2.2.2.2.2.2.2.2.2.2.2.2.2.1,(n.2.2.2.2.2.2.2.2.2.2.2.2.2.2.2.2.2.2.2.1,()))))))))))))))))))))
theorem MU{n:a0}{t:List ao}(h:Es n)(a:(Ty.sl j3).Ok t):Es (kf n t):=⟨h.1,h.2.1,h.2.2.1,h.2.2.2.1,h.2.2.2.2.1,a,h.2.2.2.2.2.2.1,h.2.2.2.2.2.2.2.1,h.2.2.2.2.2.2.2.2.1,h.2.2.2.2.2.2.2.2.2.1,h.2.2.2.2.2.2.2.2.2.2.1,h.2.2.2.2.2.2.2.2.2.2.2.1,h.2.2.2.2.2.2.2.2.2.2.2.2.1,h.2.2.2.2.2.2.2.2.2.2.2.2.2.1,h.2.2.2.2.2.2.2.2.2.2.2.2.2.2.1,h.2.2.2.2.2.2.2.2.2.2.2.2.2.2.2.1,h.2.2.2.2.2.2.2.2.2.2.2.2.2.2.2.2.1,h.2.2.2.2.2.2.2.2.2.2.2.2.2.2.2.2.2.1,h.2.2.2.2.2.2.2.2.2.2.2.2.2.2.2.2.2.2.1,h.2.2.2.2.2.2.2.2.2.2.2.2.2.2.2.2.2.2.2.1,trivial⟩
def ns(n:a0)(v:Int):a0:=(n.1,(n.2.1,(n.2.2.1,(n.2.2.2.1,(n.2.2.2.2.1,(n.2.2.2.2.2.1,(n.2.2.2.2.2.2.1,(n.2.2.2.2.2.2.2.1,(n.2.2.2.2.2.2.2.2.1,(n.2.2.2.2.2.2.2.2.2.1,(n.2.2.2.2.2.2.2.2.2.2.1,(n.2.2.2.2.2.2.2.2.2.2.2.1,(n.2.2.2.2.2.2.2.2.2.2.2.2.1,(n.2.2.2.2.2.2.2.2.2.2.2.2.2.1,(v,(n.2.2.2.2.2.2.2.2.2.2.2.2.2.2.2.1,(n.2.2.2.2.2.2.2.2.2.2.2.2.2.2.2.2.1,(n.2.2.2.2.2.2.2.2.2.2.2.2.2.2.2.2.2.1,(n.2.2.2.2.2.2.2.2.2.2.2.2.2.2.2.2.2.2.1,(n.2.2.2.2.2.2.2.2.2.2.2.2.2.2.2.2.2.2.2.1,()))))))))))))))))))))
theorem O3{n:a0}{v:Int}(h:Es n)(a:(Lit.int .i64 v).wf=true):Es (ns n v):=⟨h.1,h.2.1,h.2.2.1,h.2.2.2.1,h.2.2.2.2.1,h.2.2.2.2.2.1,h.2.2.2.2.2.2.1,h.2.2.2.2.2.2.2.1,h.2.2.2.2.2.2.2.2.1,h.2.2.2.2.2.2.2.2.2.1,h.2.2.2.2.2.2.2.2.2.2.1,h.2.2.2.2.2.2.2.2.2.2.2.1,h.2.2.2.2.2.2.2.2.2.2.2.2.1,h.2.2.2.2.2.2.2.2.2.2.2.2.2.1,a,h.2.2.2.2.2.2.2.2.2.2.2.2.2.2.2.1,h.2.2.2.2.2.2.2.2.2.2.2.2.2.2.2.2.1,h.2.2.2.2.2.2.2.2.2.2.2.2.2.2.2.2.2.1,h.2.2.2.2.2.2.2.2.2.2.2.2.2.2.2.2.2.2.1,h.2.2.2.2.2.2.2.2.2.2.2.2.2.2.2.2.2.2.2.1,trivial⟩
def w7(n:a0)(q:j4):j4:=bif dO (bx n).1 q.1 then q else bx n
def Jg(r x:Int):Int:=bif dO r (cM .i64 x 1)then cM .i64 x 1 else r
def O4(n:a0)(t:se):se:=bif dO (E7 n).1 t.1 then t else E7 n
theorem Q4{r x:Int}(h:(Lit.int .i64 r).wf=true):(Lit.int .i64 (Jg r x)).wf=true:=by grind[Jg,dO,cM,Dm]
theorem Q5{n:a0}{q:j4}(h:FF (bx n))(a:FF q):FF (w7 n q):=by unfold w7;grind
theorem V4{n:a0}{t:se}(h:Nx (E7 n))(a:Nx t):Nx (O4 n t):=by unfold O4;grind
def lv(n:a0)(q:j4):a0:=Ux n (Jg (ad n) q.1) (w7 n q)
noncomputable def dc(n:a0)(q:j4):a0:=ke (lv n q) q
def Kv(n:a0)(t:se):a0:=Uy n (Jg (ad n) t.1) (O4 n t)
theorem Jf.round{n:a0}(h:Jf n):(Lit.int .i64 (ad n)).wf=true:=h.ok.2.2.2.2.2.2.1
theorem H6{n:a0}{q:j4}(h:Jf n)(b:FF q):Jf (lv n q):=by have a:=Q5 (h.ok.C6 h.l) b;refine⟨QZ h.ok (Q4 h.round) a,?_,h.t,h.d,h.p⟩;have l:=h.l;exact⟨l.1,l.2.1,l.2.2.1,l.2.2.2.1,a.w,l.2.2.2.2.2.1,l.2.2.2.2.2.2.1,l.2.2.2.2.2.2.2.1,l.2.2.2.2.2.2.2.2.1,l.2.2.2.2.2.2.2.2.2.1,l.2.2.2.2.2.2.2.2.2.2.1,l.2.2.2.2.2.2.2.2.2.2.2.1,l.2.2.2.2.2.2.2.2.2.2.2.2⟩
theorem Jh{l:List ao}(h:ic l)(q:j4):km 0 (c8 l q)=!gA (c8 l q) (-1):=by cases b:gA (c8 l q) (-1)with|true=>grind[c8,gA,km]|false=>obtain⟨p,c,a⟩:=Lr b;have :=(h.nn p c).1;rw[<-a];exact GL this
theorem D4(n:a0)(q:j4)(h:Jf n)(a:FF q):I6 (n,(q,()))=some (dc n q,()):=by
 have d:=H6 h a;have e:∀(R:Type),(bif dO (bx n).1 q.1 then (Fk (q,())).bind λb=>some (.inl (b.1.1,(b.1.2.1,(b.1.2.2.1,()))))else some (.inl (bx n)))=some (Sum.inl (w7 n q):Sum j4 R):=by intro R;unfold w7;cases dO (bx n).1 q.1 with|true=>exact bw (Ey q a.w) rfl|false=>rfl
 have f:∀(R:Type),(bif dO (ad n) (cM .i64 q.1 1) then some (.inl (cM .i64 q.1 1,())) else some (.inl (ad n,())))=some (Sum.inl (Jg (ad n) q.1,()):Sum (Int×Unit) R):=by intro R;unfold Jg;grind
 unfold I6;refine bw (e _) (bw (f _) (bw (MT (ar n) q h.ok.ki.1 h.t) ?_));have c:=Jh h.t q;unfold dc ke;show (bif km 0 (c8 (ar n) q) then _ else _)=some ((bif gA (c8 (ar n) q) (-1) then lv n q else vm (lv n q) (c8 (ar n) q) q),());rw[c];cases gA (c8 (ar n) q) (-1) with|true=>rfl|false=>exact bw (QY (lv n q) (c8 (ar n) q) q d a.w) rfl
theorem EV(n:a0)(t:se)(b:Nx t):MC (n,(t,()))=some (Kv n t,()):=by
 have c:∀(R:Type),(bif dO (E7 n).1 t.1 then (HM (t,())).bind λa=>some (.inl (a.1.1,(a.1.2.1,(a.1.2.2.1,()))))else some (.inl (E7 n)))=some (Sum.inl (O4 n t):Sum se R):=by intro R;unfold O4;cases dO (E7 n).1 t.1 with|true=>exact bw (Jp t b.w b.wh) rfl|false=>rfl
 unfold MC;refine bw (c _) ?_;unfold Kv Jg;show (bif dO (ad n) (cM .i64 t.1 1) then _ else _)=_;cases dO (ad n) (cM .i64 t.1 1)<;>rfl
def GN(m:fr):Prop:=W1 (lf m).length/\(∀b∈lf m,ei b)/\W1 (List.length (mQ m).2.2.1)/\W1 (List.length (mT m).2.1)/\W1 (List.length (mT m).2.2.1)
theorem H7(m:fr)(h:GN m):IZ (m,())=some (m,()):=by unfold IZ;exact bw (va (lf m) h.1 h.2.1) (bw (Ey (mQ m) h.2.2.1) (bw (Jp (mT m) h.2.2.2.1 h.2.2.2.2) rfl))
def B4(m:fr)(b:ByteArray)(a:Int):fr:=(m.1,(b,(a,m.2.2.2)))
def mb(a:List df)(name:ByteArray)(m:fr)(b:Int):List fr:=(a.filter (λv=>!ko v.1 name)).map (λv=>B4 m v.1 b)
theorem Ny{A B:Type}(p:A->Bool)(f:A->B)(l:List A){i:Nat}(a:i<l.length):((l.take (i+1)).filter p).map f=((l.take i).filter p).map f++(bif p l[i]then[f l[i]]else[]):=by grind[At]
theorem V5{A B:Type}(p:A->Bool)(f:A->B)(l:List A)(i:Nat):(((l.take i).filter p).map f).length<=l.length:=by grind
theorem Kw(n:a0)(m:fr)(c:W1 (bb n).length)(g:GN m):Hn (n,(m,()))=some ((mb (bb n) n.1 m m.2.2.1,()),()):=by have b:Al (bb n).length:=c.l;unfold W1 at c;have i:=cK (f:=Hn.b0 (n,(m,()))) (λk=>((((bb n).take k).filter (λv=>!ko v.1 n.1)).map (λv=>B4 m v.1 m.2.2.1),((k:Int),()))) (bb n).length (e:=Sum.inl (mb (bb n) n.1 m m.2.2.1,(((bb n).length:Int),()))) (λk a=>by have h:=V5 (λv:df=>!ko v.1 n.1) (λv=>B4 m v.1 m.2.2.1) (bb n) k;unfold Hn.b0;refine uL (Int.ofNat_lt.2 a) (bw (cB a) ?_);cases d:(!ko (bb n)[k].1 n.1) with|true=>refine dd rfl (bw (H7 m g) (bw (cB a) (Cm (by grind) (by decide) (by decide) (DQ ?_ (wG a b)))));rw[Ny _ _ _ a,d];rfl|false=>refine uN rfl (DQ ?_ (wG a b));rw[Ny _ _ _ a,d];simp) (by unfold Hn.b0;refine uM (Int.le_refl _) ?_;rw[List.take_length];rfl);unfold Hn;grind
def Kx(a b:ow):Bool:=gA a.1 b.1&&(gA a.2.1 b.2.1&&ko a.2.2.1 b.2.2.1)
def O5(l:List ow)(g:ow):Bool:=l.any (λx=>Kx x g)
def sn(l:List ow)(g:ow):List ow:=bif !O5 l g&&dO (l.length:Int) 1000 then l++[g]else l
def F0(round:Int)(name:ByteArray)(s:Int)(x:ow):Int:=bif gA x.1 round&&(ko x.2.2.1 name&&dO s x.2.1)then x.2.1 else s
def AI(a:List ow)(round:Int)(name:ByteArray):Int:=a.foldl (F0 round name) (-1)
def gq(a:List ow)(round:Int)(s:List D9×List D3)(v:df):List D9×List D3:=bif km 0 (AI a round v.1)then(s.1++[(v.1,())],s.2++[(AI a round v.1,())])else s
def Uz(b:List df)(a:List ow)(round:Int):List D9×List D3:=b.foldl (gq a round) ([],[])
def Ez(b:List df)(a:List ow)(round:Int):se:=(round,((Uz b a round).1,((Uz b a round).2,())))
def sv(a:List df)(b:List ow)(round:Int):se×((Bool×Unit)×Unit):=bif FE a (Ez a b round)&&!p7 (Ez a b round)then (Ez a b round,((true,()),()))else ((0,([],([],()))),((false,()),()))
theorem Lu(a:List ow)(round:Int):∀(b:List df)(s:List D9×List D3),(b.foldl (gq a round) s).1.length<=s.1.length+b.length/\(b.foldl (gq a round) s).2.length<=s.2.length+b.length
 |[],s=>⟨Nat.le_refl _,Nat.le_refl _⟩|v::r,s=>by
  have h:=Lu a round r (gq a round s v);have c:(gq a round s v).1.length<=s.1.length+1/\(gq a round s v).2.length<=s.2.length+1:=by unfold gq;grind
  grind
theorem Nz(b:List ow)(round:Int)(f:∀x∈b,Gr.Ok x):∀(c:List df)(s:List D9×List D3),(∀v∈c,s6.Ok v)->(∀x∈s.1,e9.Ok x)->(∀x∈s.2,e3.Ok x)->(∀x∈(c.foldl (gq b round) s).1,e9.Ok x)/\(∀x∈(c.foldl (gq b round) s).2,e3.Ok x)
 |[],s,_,d,e=>⟨d,e⟩|v::r,s,g,d,e=>by
  have m:(Lit.int .i64 (AI b round v.1)).wf=true:=by
   unfold AI;have h:∀(l:List ow)(s:Int),(∀x∈l,Gr.Ok x)->(Lit.int .i64 s).wf=true->(Lit.int .i64 (l.foldl (F0 round v.1) s)).wf=true:=by intro l;induction l with|nil=>grind|cons x r j=>
    intro s a i;refine j _ (λy k=>a y (by grind)) ?_;unfold F0;cases (gA x.1 round&&(ko x.2.2.1 v.1&&dO s x.2.1));·exact i
    ·exact (a x (by simp)).2.1
   exact h b (-1) f rfl
  refine Nz b round f r _ (λx a=>g x (by grind)) ?_ ?_
  · unfold gq;cases km 0 (AI b round v.1);· exact d
    · intro x a;rcases List.mem_append.1 a with a|a;· grind
      · rw[List.mem_singleton.1 a];exact⟨(g v (by simp)).1,trivial⟩
  · unfold gq;cases km 0 (AI b round v.1);· exact e
    · intro x a;rcases List.mem_append.1 a with a|a;· grind
      simp_all[af.Ok,e3,AI,D3,Ty.Ok,Ty.D,af.D]
theorem H8(b:List df)(e:List ow)(round:Int)(d:W1 b.length)(g:(Ty.sl s6).Ok b)(h:(Ty.sl Gr).Ok e)(i:(Lit.int .i64 round).wf=true):Nx (Ez b e round):=by have c:=Lu e round b ([],[]);have f:=Nz e round (λx a=>Ae h.2 a) b ([],[]) (λx a=>Ae g.2 a) (λx a=>by cases a) (λx a=>by cases a);simp only[List.length_nil,Nat.zero_add]at c;unfold W1 at d;exact⟨i,Dk (Nat.le_trans c.1 (Nat.le_trans d (by decide))) f.1,Dk (Nat.le_trans c.2 (Nat.le_trans d (by decide))) f.2,Nat.le_trans c.1 d,Nat.le_trans c.2 d⟩
theorem MV(b:List df)(a:List ow)(round:Int)(d:Int×(List D9×(List D3×Unit))){i:Nat}(h:i<b.length)(g:d.1=(i:Int))(e:Al a.length):aR (Fq.b1 ((b,()),((a,()),((round,()),()))) d) ((-1:Int),((0:Int),()))=some (.inl (AI a round b[i].1,((a.length:Int),()))):=by
 refine AJ (S:=Int×(Int×Unit)) a (F0 round b[i].1) (f:=Fq.b1 ((b,()),((a,()),((round,()),()))) d) (λs k=>(s,(k,()))) (λs=>Sum.inl (s,((a.length:Int),()))) (-1) (λk c s=>?_) (λs=>?_)
 · have j:bK b d.1=some b[i]:=by rw[g];exact cB h
   unfold Fq.b1 F0;refine uL (Int.ofNat_lt.2 c) (bw (cB c) ?_);rw[<-wG c e];cases gA a[k].1 round with|false=>rfl|true=>refine dd rfl (bw (cB c) (bw j ?_));cases ko a[k].2.2.1 b[i].1 with|false=>rfl|true=>refine dd rfl (bw (cB c) ?_);cases dO s a[k].2.1 with|false=>rfl|true=>exact dd rfl (bw (cB c) rfl)
 · unfold Fq.b1;exact uM (Int.le_refl _) rfl
theorem MW(a:List df)(b:List ow)(round:Int)(e:W1 a.length)(j:(Ty.sl s6).Ok a)(g:(Ty.sl Gr).Ok b)(n:(Lit.int .i64 round).wf=true):Fq ((a,()),((b,()),((round,()),())))=some (sv a b round):=by
 have d:Al a.length:=e.l;have m:=H8 a b round e j g n;unfold W1 at e;have l:=xL (S:=Int×(List D9×(List D3×Unit))) a (gq b round) (λi s=>s.1.length<=i/\s.2.length<=i) (f:=Fq.b0 ((a,()),((b,()),((round,()),())))) (λs k=>(k,(s.1,(s.2,())))) (λs=>Sum.inl ((a.length:Int),(s.1,(s.2,())))) ([],[]) ⟨Nat.le_refl _,Nat.le_refl _⟩ (λi c s p=>by
 refine⟨?_,?_⟩;·unfold Fq.b0 gq;refine uL (Int.ofNat_lt.2 c) (bw (MV a b round _ c rfl g.1) ?_);cases h:km 0 (AI b round a[i].1) with|false=>exact uN h (by rw[<-wG c d];rfl)|true=>exact dd h (bw (cB c) (Cm (by grind) (by decide) (by decide) (Cm (by grind) (by decide) (by decide) (by rw[<-wG c d];rfl))))
 ·unfold gq;grind) (λs _=>by unfold Fq.b0;exact uM (Int.le_refl _) rfl);unfold Fq sv;refine bw l.1 (bw (Qw a (Ez a b round) d m.Zf) ?_);cases o:FE a (Ez a b round) with|false=>rfl|true=>refine uN rfl (bw (Ew (Ez a b round)) ?_);cases p7 (Ez a b round)<;>rfl
noncomputable def tv(n:a0)(g:ow):a0:=let a:=Ef n (sn (ej n) g)
 let t:=sv (bb n) (sn (ej n) g) g.1
 bif t.2.1.1 then Kv a t.1 else a
noncomputable def ik(n:a0)(g:ow)(q:j4):a0:=bif E4 (bb n) g.2.2.1&&tm (bb n) q then (bif gA (dc n q).2.1 n.2.1 then tv (dc n q) g else dc n q) else n
theorem Q6(l:List ow)(g:ow):(sn l g).length<=l.length+1:=by unfold sn;grind
theorem NA{l:List ow}{g:ow}(b:(Ty.sl Gr).Ok l)(f:W1 l.length)(d:Gr.Ok g):(Ty.sl Gr).Ok (sn l g):=by have e:=Q6 l g;unfold W1 at f;refine Dk (Nat.le_trans e (by omega)) (λy a=>?_);unfold sn at a;cases c:(!O5 l g&&dO (l.length:Int) 1000)with|false=>rw[c]at a;exact Ae b.2 a|true=>
 rw[c]at a;rcases List.mem_append.1 a with a|a;·exact Ae b.2 a
 ·rw[List.mem_singleton.1 a];exact d
structure GIn(n:a0):Prop where
 s:W1 (bb n).length
 so:(Ty.sl s6).Ok (bb n)g:(ej n).length<=1048575
 go:(Ty.sl Gr).Ok (ej n)
theorem EW{a:List df}{b:List ow}{round:Int}(h:(sv a b round).2.1.1=true):p7 (sv a b round).1=false/\FE a (sv a b round).1=true/\(sv a b round).1=Ez a b round:=by unfold sv at h⊢;grind
theorem O6(l:List ow)(g:ow)(c:a0×Unit)(a:a0×(ow×(j4×Unit)))(h:ej c.1=l)(e:a.2.1=g)(i:Al l.length):aR (Ho.b0 c a) (false,((0:Int),()))=some (.inl (O5 l g,((l.length:Int),()))):=by
 subst h e;have j:=AJ (S:=Bool×(Int×Unit)) (ej c.1) (λs x=>s||Kx x a.2.1) (f:=Ho.b0 c a) (λs k=>(s,(k,()))) (λs=>Sum.inl (s,(((ej c.1).length:Int),()))) false (λk d s=>by unfold Ho.b0;refine uL (Int.ofNat_lt.2 d) ?_;rw[<-wG d i];cases s with|true=>rfl|false=>exact uN rfl (bw (cB d) (bw (qn d) rfl))) (λs=>by unfold Ho.b0;exact uM (Int.le_refl _) rfl);refine j.trans ?_;have :∀(l:List ow) (b:Bool),l.foldl (λs x=>s||Kx x a.2.1) b=(b||l.any (λx=>Kx x a.2.1)):=by intro l;induction l with|nil=>grind|cons x r m=>grind
 rw[this];rfl
theorem H9(n:a0)(g:ow)(q:j4)(h:Jf n)(d:FF q)(b:Gr.Ok g)(a:GIn (dc n q)):Ho (n,(g,(q,())))=some (ik n g q,()):=by unfold Ho ik;refine bw (GC (bb n) g.2.2.1 h.ok.set.1) ?_;cases E4 (bb n) g.2.2.1 with|false=>rfl|true=>refine uN rfl (bw (OL (bb n) q h.ok.set.1 d.ok) ?_);cases tm (bb n) q with|false=>rfl|true=>refine uN rfl (bw (D4 n q h d) ?_);cases k:gA (dc n q).2.1 n.2.1 with|false=>rfl|true=>
 have i:Al (ej (dc n q)).length:=a.go.1;refine uN rfl (bw (O6 (ej (dc n q)) g _ _ rfl rfl i) ?_);have j:∀(R:Type),(bif (!O5 (ej (dc n q)) g) then bif dO (List.length (ej (dc n q)):Int) (1000:Int) then bif dE (List.length (ej (dc n q))+List.length ([g]:List ow)) 32 then some (.inl (bV (ej (dc n q)) ([g]:List ow),())) else none else some (.inl (ej (dc n q),())) else some (.inl (ej (dc n q),())))=some (Sum.inl (sn (ej (dc n q)) g,()):Sum (List ow×Unit) R):=by intro R;unfold sn;cases O5 (ej (dc n q)) g with|true=>rfl|false=>refine dd rfl ?_;cases dO (List.length (ej (dc n q)):Int) (1000:Int) with|false=>rfl|true=>exact dd rfl (Cm (by show (ej (dc n q)).length+1<=1048577;have :=a.g;omega) (by decide) (by decide) rfl)
 have c:=NA a.go (Nat.le_trans a.g (by decide)) b;refine bw (j _) (bw (MW (bb (dc n q)) (sn (ej (dc n q)) g) g.1 a.s a.so c b.1) ?_);unfold tv;have l:=H8 (bb (dc n q)) (sn (ej (dc n q)) g) g.1 a.s a.so c b.1;cases f:(sv (bb (dc n q)) (sn (ej (dc n q)) g) g.1).2.1.1 with|false=>exact uN rfl (by simp only[cond_true,f,cond_false,Bool.and_true];rfl)|true=>obtain⟨_,_,e⟩:=EW f;refine dd rfl (bw (EV (Ef (dc n q) (sn (ej (dc n q)) g)) _ (by grind)) (by grind))
def EA(n:a0):ow:=(ad n,((bx n).1,(n.1,())))
def EX(n:a0)(a:Int):fr:=(3,(⟨#[]⟩,(a,([],(0,(0,(⟨#[]⟩,(ad n,((bx n).1,(n.1,((bx n).1,((bx n).2.1,((bx n).2.2.1,(0,([],([],()))))))))))))))))
def Q7(n:a0):sb:=(2,(n.2.1,(ad n,((bx n).1,(n.1,())))))
noncomputable def ev(n:a0):a0×(List fr×List sb):=bif E4 (bb n) n.1&&!dO (ad n) (fb n) then(ik (o0 n (ad n)) (EA n) (bx n),(mb (bb n) n.1 (EX n 0) n.2.1,[Q7 n])) else (n,([],[]))
theorem Lv{n:a0}(h:Jf n){v:Int}(a:(Lit.int .i64 v).wf=true):Jf (o0 n v):=⟨Q2 h.ok a,h.l,h.t,h.d,h.p⟩
theorem Yw{n:a0}(l:Js n)(c:Int):GN (EX n c):=⟨Nat.zero_le _,(λb a=>by cases a),l.2.2.2.2.1,Nat.zero_le _,Nat.zero_le _⟩
theorem HA{n:a0}(h:Es n):Gr.Ok (EA n):=⟨h.2.2.2.2.2.2.1,h.2.2.2.2.2.2.2.2.1,h.1,trivial⟩
theorem Q8(n:a0)(h:Jf n)(b:GIn (dc (o0 n (ad n)) (bx n))):Qh (n,())=some (((ev n).2.1,()),(((ev n).2.2,()),((ev n).1,()))):=by have a:=h.ok.C6 h.l;unfold Qh ev;refine bw (GC (bb n) n.1 h.ok.set.1) ?_;cases E4 (bb n) n.1 with|false=>rfl|true=>refine uN rfl ?_;show (bif dO (ad n) (fb n) then _ else _)=_;cases dO (ad n) (fb n) with|true=>rfl|false=>refine uN rfl (bw (Ey (bx n) a.w) (bw (Kw (o0 n (ad n)) (EX n n.2.1) h.l.2.1 (Yw h.l _)) (bw (show Qf ((n.2.1,()),(EA n,()))=some (Q7 n,()) from rfl) (bw (H9 (o0 n (ad n)) (EA n) (bx n) (Lv h h.round) a (HA h.ok) b) rfl))))
theorem O7{l:List ao}(h:ic l):∀(d:Int)(j:Nat)(a:j<l.length),l[j].1=d->(ct l d).Sublist (l.take (j+1)):=by
 refine vx h (λd o j a e=>absurd e (o _ (List.getElem_mem a))) (λb c q j a e=>?_);rw[kb h c,List.take_succ_eq_append_getElem a];have m:l[j]=b:=h.QT (List.getElem_mem a) c e;rw[m];refine List.Sublist.append ?_ (List.Sublist.refl _);rcases h.Mm b c with⟨t,_⟩|⟨_,v,_,p,r,n,_⟩;·rw[Ju h (by omega)];grind
 · obtain⟨i,g,rfl⟩:=List.getElem_of_mem r;have s:i<j:=by
    rcases Nat.lt_or_ge i j with f|f;· exact f
    · exfalso;have u:l[j].1<=l[i].1:=by
       rcases Nat.eq_or_lt_of_le f with k|k;· grind
       · exact Int.le_of_lt (h.VZ j i a g k)
      omega
   exact (q i g n).trans (List.take_sublist_take_left (by omega))
theorem Ia{l:List ao}(h:ic l)(a:Int):(ct l a).Sublist l:=by
 rcases kA h a with⟨_,_,e⟩|⟨b,c,d,_,_,_⟩;·rw[m9 e];grind
 ·obtain⟨j,f,rfl⟩:=List.getElem_of_mem c;exact(O7 h a j f d).trans (List.take_sublist _ _)
theorem V6{L:fk}(h:bk L=true):(Lit.int .i64 L.1).wf=true:=by unfold bk at h;simp only[Bool.and_eq_true]at h;have :=h.1;simp only[Di,km,Bool.and_eq_true,decide_eq_true_eq]at this;exact DX (by omega) (by omega)
theorem GO:∀(e:List ao)(L:fk),(Ty.sl c6).Ok L.2.1->eD L.2.1->(∀b∈e,(Ty.sl il).Ok (nx b))->bk L=true->bk (nr L e)=true|[],L,_,_,_,h=>h|b::r,L,d,f,a,h=>by obtain⟨_,i,g⟩:=B2 L (nx b) d f (a b (by simp));exact GO r _ i g (λc k=>a c (by grind)) (Lo (nx b) (0,L) d f (λt j=>Ae (a b (by simp)).2 j) h)
theorem Lx:∀(a d:List D3),(∀x∈d,e3.Ok x)->(∀x∈a,e3.Ok x)->∀x∈i0 d a,e3.Ok x|[],d,h,_=>h|y::r,d,h,c=>by refine Lx r (sm d y.1) (λx b=>?_) (λx b=>c x (by grind));unfold sm at b;grind
theorem NB(x y:Int):cM .i64 x y=cM .i64 y x:=by grind[cM]
theorem O9(n:Int)(xs:List ek)(x:ek):A3 n (xs++[x])=cM .i64 (A3 n xs) x.1:=by simp_all[A3,ek,cM]
theorem Ra(e a:Int):∀(xs:List ek)(s:List ek×Int),A3 (cM .i64 (xs.foldl (ie e) s).2 a) (xs.foldl (ie e) s).1=A3 (A3 (cM .i64 s.2 a) s.1) xs|[],s=>rfl|x::r,s=>by simp only[List.foldl_cons];rw[Ra e a r (ie e s x)];show _=A3 (cM .i64 (A3 (cM .i64 s.2 a) s.1) x.1) r;unfold ie;cases km x.2.1 e with|true=>simp only[cond_true];rw[show cM .i64 (cM .i64 s.2 x.1) a=cM .i64 x.1 (cM .i64 s.2 a) by rw[NB s.2 x.1,Ak],HS,NB]|false=>simp_all[A3,cM,ek,O9]
theorem Rb(e:Int)(a:bF):Hr (fi e a)=Hr a:=Ra e a.2.2.2.1 a.2.2.2.2.1 ([],a.2.1)
theorem Pa(e:Int)(xs:List bF):C9 (xs.map (fi e))=C9 xs:=by
 unfold C9;rw[List.foldl_map];have :(λ(s:Int)(y:bF)=>cM .i64 s (Hr (fi e y)))=λs y=>cM .i64 s (Hr y):=by funext s y;rw[Rb]
 grind
theorem F1{xs:List ek}(h:p6 xs=true):∀y∈xs,1<=y.1/\y.1<=1000000/\0<=y.2.1/\y.2.1<=1000:=by intro y b;obtain⟨i,a,rfl⟩:=List.getElem_of_mem b;unfold p6 at h;have :=xJ h i a;rw[Nat.zero_add]at this;unfold FO at this;simp only[Bool.and_eq_true,Di,km,decide_eq_true_eq]at this;omega
theorem Ib:∀(xs:List ek)(n:Int)(k:Nat),(∀y∈xs,1<=y.1/\y.1<=1000000)->0<=n->n<=1000000*k->xs.length+k<=1000->n<=A3 n xs/\A3 n xs<=1000000*((xs.length+k:Nat):Int)|[],n,k,_,d,a,_=>⟨Int.le_refl _,by simpa[A3]using a⟩|x::r,n,k,h,d,a,c=>by have f:=h x (List.mem_cons_self ..);simp only[List.length_cons]at c⊢;have e:cM .i64 n x.1=n+x.1:=ed (by omega) (by omega);have g:=Ib r (n+x.1) (k+1) (λy b=>h y (List.mem_cons_of_mem _ b)) (by omega) (by omega) (by omega);show n<=A3 (cM .i64 n x.1) r/\A3 (cM .i64 n x.1) r<=_;grind
theorem Rc{a:bF}(h:oi a=true):0<=a.2.1/\a.2.1<=1000000/\0<=a.2.2.2.1/\a.2.2.2.1<=1000000/\List.length a.2.2.2.2.1<=4/\p6 a.2.2.2.2.1=true/\a.2.1<=Hr a/\Hr a<=6000000:=by
 unfold oi at h;simp only[Bool.and_eq_true]at h;obtain⟨_,f,_,i,l,b⟩:=h;have c:0<=a.2.1/\a.2.1<=1000000:=by simpa[Di,km]using f
 have d:0<=a.2.2.2.1/\a.2.2.2.1<=1000000:=by simpa[Di,km]using i
 have j:List.length a.2.2.2.2.1<=4:=by simp only[km,decide_eq_true_eq]at l;omega
 have e:cM .i64 a.2.1 a.2.2.2.1=a.2.1+a.2.2.2.1:=ed (by omega) (by omega);have k:=Ib a.2.2.2.2.1 (a.2.1+a.2.2.2.1) 2 (λy g=>by have :=F1 b y g;omega) (by omega) (by omega) (by omega);refine⟨c.1,c.2,d.1,d.2,j,b,?_,?_⟩;·unfold Hr;grind
 ·unfold Hr;grind
theorem Jw{A:Type}{lt:A->A->Bool}{xs:List A}(h:xs.Pairwise (λz y=>lt z y=true))(i:Nat)(a:i<xs.length):lO lt xs i xs[i]=true:=by cases i with|zero=>rfl|succ j=>show(match xs[j]? with|some z=>lt z xs[j+1]|none=>true)=true;rw[List.getElem?_eq_getElem (show j<xs.length by omega)];exact(List.pairwise_iff_getElem.1 h) j (j+1) (by omega) a (by omega)
theorem Rd{A:Type}{lt:A->A->Bool}{xs:List A}(h:VT lt xs):xs.Pairwise (λz y=>lt z y=true):=List.pairwise_iff_getElem.2 λi j b c a=>h i j b c a
end Go.Proofs.YthjkikiepdnimaaGreat
