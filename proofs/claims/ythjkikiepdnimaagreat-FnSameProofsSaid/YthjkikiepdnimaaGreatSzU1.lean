/- Plain laws, part 1: what the program's functions and the reference's compute, told as plain words. Conditions: none. -/
import Derived.Test.YthjkikiepdnimaaGreatSzH
import Derived.Test.YthjkikiepdnimaaGreatSzTm3
set_option linter.unusedVariables false
set_option linter.unusedSimpArgs false
set_option linter.constructorNameAsVariable false
namespace Go.Proofs.YthjkikiepdnimaaGreat
open Go Go.Tm
set_option maxRecDepth 100000
theorem l6(n b a:Int):lh ((n,()),((b,()),((a,()),())))=some (B1 (Di n b a)):=Cb
theorem EA(n b a:Int):JA ((n,()),((b,()),((a,()),())))=some (B1 (Di n b a)):=Cb
def FC(b:UInt8):Bool:=Di (UInt8.toNat b:Int) 97 122||Di (UInt8.toNat b:Int) 48 57
def fk(s:ByteArray):Bool:=s.data.toList.all FC&&Di (s.size:Int) 1 8
theorem BE(s:ByteArray)(b:Al s.size):Ey ((s,()),())=some (B1 (fk s)):=by
 have c:=BI (S:=Int×Unit) s.data.toList FC (f:=Ey.b0 ((s,()),())) (λk=>(k,())) (Sum.inl ((s.data.toList.length:Int),())) (Sum.inr (B1 false)) (λi a=>?_) ?_
 · unfold Ey fk;refine bw c ?_;cases s.data.toList.all FC;· rfl
   · exact (congrArg (λo=>Option.bind o _) (l6 _ _ _)).trans rfl
 · unfold Ey.b0 FC;refine uL (Int.ofNat_lt.2 a) (bw (cB a) (bw (l6 _ _ _) ?_));rw[<-wG a b,AM];cases Di (UInt8.toNat s.data.toList[i]:Int) 97 122;· refine bw (cB a) (bw (l6 _ _ _) ?_);rw[AM];grind
   · rfl
 simp_all[Ey.b0,uM,bK,lh,cM]
theorem GP(s:ByteArray)(b:Al s.size):NA ((s,()),())=some (B1 (fk s)):=by
 have c:=BI (S:=Int×Unit) s.data.toList FC (f:=NA.b0 ((s,()),())) (λk=>(k,())) (Sum.inl ((s.data.toList.length:Int),())) (Sum.inr (B1 false)) (λi a=>?_) ?_
 · unfold NA fk;refine bw c ?_;cases s.data.toList.all FC;· rfl
   · exact (congrArg (λo=>Option.bind o _) (EA _ _ _)).trans rfl
 · unfold NA.b0 FC Di;refine uL (Int.ofNat_lt.2 a) (bw (cB a) ?_);rw[<-wG a b];simp only[cB a,Option.bind_some];grind
 simp_all[NA.b0,uM,bK,km,cM]
def QM(xs:List D9)(i:Nat)(y:D9):Bool:=fk y.1&&lO (λz y=>ob z.1 y.1) xs i y
def mm(xs:List D9):Bool:=iK (QM xs) 0 xs&&km (xs.length:Int) 20
theorem E0(xs:List D9)(c:(Ty.sl e9).Ok xs):Nz ((xs,()),())=some (B1 (mm xs)):=by
 have b:Al xs.length:=c.1;have d:=yW (S:=Int×Unit) xs (QM xs) (f:=Nz.b0 ((xs,()),())) (λk=>(k,())) (Sum.inl ((xs.length:Int),())) (Sum.inr (B1 false)) (λi a=>?_) ?_;·unfold Nz mm;grind
 ·unfold Nz.b0 QM;refine uL (Int.ofNat_lt.2 a) (bw (cB a) (bw (BE _ (Ae c.2 (List.getElem_mem a)).1) (DT ?_)));rw[<-wG a b];exact BD a b (λz=>bw (cB a) DU)
 ·unfold Nz.b0;exact uM (Int.le_refl _) rfl
theorem NB(xs:List D9)(c:(Ty.sl e9).Ok xs):SQ ((xs,()),())=some (B1 (mm xs)):=by
 have b:Al xs.length:=c.1;have d:=yW (S:=Int×Unit) xs (QM xs) (f:=SQ.b0 ((xs,()),())) (λk=>(k,())) (Sum.inl ((xs.length:Int),())) (Sum.inr (B1 false)) (λi a=>?_) ?_;·unfold SQ mm;grind
 ·unfold SQ.b0 QM;refine uL (Int.ofNat_lt.2 a) (bw (cB a) (bw (GP _ (Ae c.2 (List.getElem_mem a)).1) (DT ?_)));rw[<-wG a b];exact BD a b (λz=>Cf)
 ·unfold SQ.b0;exact uM (Int.le_refl _) rfl
def KC(xs:List ds)(i:Nat)(y:ds):Bool:=fk y.1&&(Di y.2.1 1 1000000&&lO (λz y=>ob z.1 y.1) xs i y)
def pv(xs:List ds):Bool:=iK (KC xs) 0 xs&&Di (xs.length:Int) 1 12
theorem YV(xs:List ds)(c:(Ty.sl va).Ok xs):Kn ((xs,()),())=some (B1 (pv xs)):=by
 have b:Al xs.length:=c.1;have d:=yW (S:=Int×Unit) xs (KC xs) (f:=Kn.b0 ((xs,()),())) (λk=>(k,())) (Sum.inl ((xs.length:Int),())) (Sum.inr (B1 false)) (λi a=>?_) ?_
 · unfold Kn pv;refine bw d ?_;cases iK (KC xs) 0 xs;· rfl
   · exact (congrArg (λo=>Option.bind o _) (l6 _ _ _)).trans rfl
 · unfold Kn.b0 KC;refine uL (Int.ofNat_lt.2 a) (bw (cB a) (bw (BE _ (Ae c.2 (List.getElem_mem a)).1) (DT (bw (cB a) (bw (l6 _ _ _) (DT ?_))))));rw[<-wG a b];exact BD a b (λz=>bw (cB a) DU)
 · unfold Kn.b0;exact uM (Int.le_refl _) rfl
theorem UR(xs:List ds)(c:(Ty.sl va).Ok xs):SP ((xs,()),())=some (B1 (pv xs)):=by
 have b:Al xs.length:=c.1;have d:=yW (S:=Int×Unit) xs (KC xs) (f:=SP.b0 ((xs,()),())) (λk=>(k,())) (Sum.inl ((xs.length:Int),())) (Sum.inr (B1 false)) (λi a=>?_) ?_
 · unfold SP pv;refine bw d ?_;cases iK (KC xs) 0 xs;· rfl
   · exact (congrArg (λo=>Option.bind o _) (EA _ _ _)).trans rfl
 · unfold SP.b0 KC;refine uL (Int.ofNat_lt.2 a) (bw (cB a) (bw (GP _ (Ae c.2 (List.getElem_mem a)).1) (DT (bw (EA _ _ _) (DT ?_)))));rw[<-wG a b];exact BD a b (λz=>Cf)
 · unfold SP.b0;exact uM (Int.le_refl _) rfl
def Ff(l:List ds)(s:ByteArray):Bool:=l.any (λv=>ko v.1 s)
def j0(l:List D9)(s:ByteArray):Bool:=l.any (λv=>ko v.1 s)
theorem GQ(l:List ds)(s:ByteArray)(b:Al l.length):FW ((l,()),((s,()),()))=some (B1 (Ff l s)):=by
 have c:=Cj (S:=Int×Unit) l (λv=>ko v.1 s) (f:=FW.b0 ((l,()),((s,()),()))) (λk=>(k,())) (Sum.inl ((l.length:Int),())) (Sum.inr (B1 true)) (λi a=>?_) ?_;·unfold FW Ff;grind
 ·unfold FW.b0;refine uL (Int.ofNat_lt.2 a) (bw (cB a) ?_);rw[<-wG a b]
 simp_all[FW.b0,ds,uM,bK,ko,cM]
theorem JB(l:List D9)(s:ByteArray)(b:Al l.length):FV ((l,()),((s,()),()))=some (B1 (j0 l s)):=by
 have c:=Cj (S:=Int×Unit) l (λv=>ko v.1 s) (f:=FV.b0 ((l,()),((s,()),()))) (λk=>(k,())) (Sum.inl ((l.length:Int),())) (Sum.inr (B1 true)) (λi a=>?_) ?_;·unfold FV j0;grind
 ·unfold FV.b0;refine uL (Int.ofNat_lt.2 a) (bw (cB a) ?_);rw[<-wG a b]
 simp_all[FV.b0,D9,uM,bK,ko,cM]
theorem Lp(l:List ds)(g:ds->Option (Bool×Unit))(p:ds->Bool)(e:∀x,g x=some (p x,()))(d:Al l.length):Kz ((l,()),((g,()),()))=some (I1 (nY l p)):=by
 have h:=Ck (S:=Int×Unit) l p (f:=Kz.b0 ((l,()),((g,()),()))) (λk=>(k,())) (Sum.inl ((l.length:Int),())) (λi=>Sum.inr (I1 i)) (λi a=>?_) ?_;·unfold Kz;refine bw h ?_;rcases mA l p with⟨b,_,c⟩|⟨j,m,_,_,b,_,c⟩<;>rw[b,c]<;>rfl
 ·unfold Kz.b0;refine uL (Int.ofNat_lt.2 a) (bw (cB a) (bw (e _) ?_));rw[<-wG a d]
 simp_all[Kz.b0,ds,uM,bK,cM]
theorem V8(l:List ds)(s:ByteArray)(a:Al l.length):TE ((l,()),((s,()),()))=some (B1 (Ff l s)):=by unfold TE VV;refine bw (bw (Lp l _ (λv=>ko v.1 s) (λx=>rfl) a) rfl) ?_;rw[AG];rfl
theorem V9(l:List D9)(s:ByteArray)(d:Al l.length):Tw ((l,()),((s,()),()))=some (I1 (nY l (λv=>ko s v.1))):=by
 have e:=Ck (S:=Int×Unit) l (λv=>ko s v.1) (f:=Tw.b0 ((l,()),((s,()),()))) (λk=>(k,())) (Sum.inl ((l.length:Int),())) (λi=>Sum.inr (I1 i)) (λi a=>?_) ?_;·unfold Tw;refine bw e ?_;rcases mA l (λv=>ko s v.1) with⟨b,_,c⟩|⟨j,g,_,_,b,_,c⟩<;>rw[b,c]<;>rfl
 ·unfold Tw.b0;refine uL (Int.ofNat_lt.2 a) (bw (cB a) ?_);rw[<-wG a d]
 simp_all[Tw.b0,D9,uM,bK,ko,cM]
theorem YW(l:List D9)(s:ByteArray)(a:Al l.length):ZP ((l,()),((s,()),()))=some (B1 (j0 l s)):=by unfold ZP j0;refine bw (V9 l s a) ?_;rw[AG];simp only[BG]
def FD(l:List ds)(a:List D9):Bool:=a.all (λn=>Ff l n.1)
theorem US(l:List ds)(a:List D9)(d:Al l.length)(c:(Ty.sl e9).Ok a):Jg ((l,()),((a,()),()))=some (B1 (FD l a&&mm a)):=by
 have e:=BI (S:=Int×Unit) a (λn=>Ff l n.1) (f:=Jg.b0 ((l,()),((a,()),()))) (λk=>(k,())) (Sum.inl ((a.length:Int),())) (Sum.inr (B1 false)) (λi b=>?_) ?_
 · unfold Jg FD;refine bw e ?_;cases a.all (λn=>Ff l n.1);· rfl
   · exact (congrArg (λo=>Option.bind o _) (E0 _ c)).trans rfl
 · unfold Jg.b0;refine uL (Int.ofNat_lt.2 b) (bw (cB b) (bw (GQ _ _ d) ?_));rw[<-wG b c.1];grind
 · unfold Jg.b0;exact uM (Int.le_refl _) rfl
theorem YX(l:List ds)(a:List D9)(c:Al l.length)(d:Al a.length):KA ((l,()),((a,()),()))=some (B1 (FD l a)):=by
 have e:=BI (S:=Int×Unit) a (λn=>Ff l n.1) (f:=KA.b0 ((l,()),((a,()),()))) (λk=>(k,())) (Sum.inl ((a.length:Int),())) (Sum.inr (B1 false)) (λi b=>?_) ?_;·unfold KA FD;grind
 ·unfold KA.b0;refine uL (Int.ofNat_lt.2 b) (bw (cB b) (bw (V8 _ _ c) ?_));rw[<-wG b d];grind
 ·unfold KA.b0;exact uM (Int.le_refl _) rfl
def FE(xs:List ds)(a:List D9):Int:=xs.foldl (λn v=>bif j0 a v.1 then cM .i64 n v.2.1 else n) 0
def H5(xs:List ds):Int:=xs.foldl (λn v=>cM .i64 n v.2.1) 0
def mw(l:List ds)(a:List D9):Bool:=dO (zJ .i64 2 (H5 l)) (zJ .i64 3 (FE l a))
theorem Lq(xs:List ds)(b:List D9)(e:Al xs.length)(d:Al b.length):SK ((xs,()),((b,()),()))=some (I1 (FE xs b)):=by
 have g:=AJ (S:=Int×(Int×Unit)) xs (λn v=>bif j0 b v.1 then cM .i64 n v.2.1 else n) (f:=SK.b0 ((xs,()),((b,()),()))) (λa i=>(a,(i,()))) (λa=>Sum.inl (a,((xs.length:Int),()))) 0 (λi c a=>?_) (λa=>?_);·unfold SK;exact bw g rfl
 · unfold SK.b0;refine uL (Int.ofNat_lt.2 c) (bw (cB c) (bw (JB _ _ d) ?_));rw[<-wG c e];dsimp only;cases j0 b xs[i].1;· rfl
   · exact bw (cB c) rfl
 · unfold SK.b0;exact uM (Int.le_refl _) rfl
theorem Lr(xs:List ds)(b:List D9)(e:Al xs.length)(d:Al b.length):SN ((xs,()),((b,()),()))=some (I1 (FE xs b)):=by
 have g:=AJ (S:=Int×(Int×Unit)) xs (λn v=>bif j0 b v.1 then cM .i64 n v.2.1 else n) (f:=SN.b0 ((xs,()),((b,()),()))) (λa i=>(a,(i,()))) (λa=>Sum.inl (a,((xs.length:Int),()))) 0 (λi c a=>?_) (λa=>?_);·unfold SN;exact bw g rfl
 ·unfold SN.b0;refine uL (Int.ofNat_lt.2 c) (bw (cB c) (bw (YW _ _ d) ?_));rw[<-wG c e];grind
 ·unfold SN.b0;exact uM (Int.le_refl _) rfl
theorem NC(xs:List ds)(c:Al xs.length):SL ((xs,()),())=some (I1 (H5 xs)):=by
 have d:=AJ (S:=Int×(Int×Unit)) xs (λn v=>cM .i64 n v.2.1) (f:=SL.b0 ((xs,()),())) (λa i=>(a,(i,()))) (λa=>Sum.inl (a,((xs.length:Int),()))) 0 (λi b a=>?_) (λa=>?_);·unfold SL;exact bw d rfl
 ·unfold SL.b0;refine uL (Int.ofNat_lt.2 b) (bw (cB b) ?_);rw[<-wG b c]
 simp_all[SL.b0,ds,uM,bK,cM]
theorem ND(xs:List ds)(c:Al xs.length):SO ((xs,()),())=some (I1 (H5 xs)):=by
 have d:=AJ (S:=Int×(Int×Unit)) xs (λn v=>cM .i64 n v.2.1) (f:=SO.b0 ((xs,()),())) (λa i=>(a,(i,()))) (λa=>Sum.inl (a,((xs.length:Int),()))) 0 (λi b a=>?_) (λa=>?_);·unfold SO;exact bw d rfl
 ·unfold SO.b0;refine uL (Int.ofNat_lt.2 b) (bw (cB b) ?_);rw[<-wG b c]
 simp_all[SO.b0,ds,uM,bK,cM]
theorem Ls(l:List ds)(a:List D9)(b:Al l.length)(c:Al a.length):Tp ((l,()),((a,()),()))=some (B1 (mw l a)):=bw (Lq l a b c) (bw (NC l b) rfl)
theorem QN(l:List ds)(a:List D9)(b:Al l.length)(c:Al a.length):VU ((l,()),((a,()),()))=some (B1 (mw l a)):=bw (Lr l a b c) (bw (ND l b) rfl)
def FZ(xs:List e6)(i:Nat)(y:e6):Bool:=Di y.1 1 1000000&&(Di y.2.1 0 1000&&lO (λz y=>dO z.2.1 y.2.1) xs i y)
def re(xs:List e6):Bool:=iK (FZ xs) 0 xs
def o0(a:bF):Bool:=fk a.1&&(Di a.2.1 0 1000000&&(Di a.2.2.1 0 10000&&(Di a.2.2.2.1 0 1000000&&(km (List.length a.2.2.2.2.1:Int) 4&&re a.2.2.2.2.1))))
abbrev TR(a:bF):Prop:=cz.Ok a
theorem TR.ls{a:bF}(h:TR a):(Ty.sl Et).Ok a.2.2.2.2.1:=h.2.2.2.2.1
theorem Wa(a:bF)(h:TR a):Kg (a,())=some (B1 (o0 a)):=by
 have c:Al (List.length a.2.2.2.2.1):=h.ls.1;have d:=yW (S:=Int×Unit) a.2.2.2.2.1 (FZ a.2.2.2.2.1) (f:=Kg.b0 (a,())) (λk=>(k,())) (Sum.inl ((List.length a.2.2.2.2.1:Int),())) (Sum.inr (B1 false)) (λi b=>?_) ?_;·unfold Kg o0 re;rw[Aj];refine bw (BE _ h.1) (Dx (bw (l6 _ _ _) (Dx (bw (l6 _ _ _) (Dx (bw (l6 _ _ _) (Dx (DS (bw d ?_)))))))));grind
 ·unfold Kg.b0 FZ;refine uL (Int.ofNat_lt.2 b) (bw (cB b) (bw (l6 _ _ _) (DT (bw (l6 _ _ _) (DT ?_)))));rw[<-wG b c];exact BD b c (λz=>CG)
 ·unfold Kg.b0;exact uM (Int.le_refl _) rfl
theorem Lt(n:Int):Tu ((n,()),())=some (B1 (Di n 0 1000000)):=bw (EA _ _ _) rfl
theorem Wb(a:bF)(h:TR a):Kx (a,())=some (B1 (o0 a)):=by
 have d:Al (List.length a.2.2.2.2.1):=h.ls.1;have e:=yW (S:=Int×Unit) a.2.2.2.2.1 (FZ a.2.2.2.2.1) (f:=Kx.b0 (a,())) (λk=>(k,())) (Sum.inl ((List.length a.2.2.2.2.1:Int),())) (Sum.inr (B1 false)) (λi b=>?_) ?_
 · unfold Kx o0 re;refine bw e ?_;cases iK (FZ a.2.2.2.2.1) 0 a.2.2.2.2.1;· grind
   · refine (bw (GP _ h.1) (Dy (bw (Lt _) (Dy (bw (Lt _) (Dy (bw (EA _ _ _) (Ch (c:=km (List.length a.2.2.2.2.1:Int) 4))))))))).trans ?_;grind
 · unfold Kx.b0 FZ;refine uL (Int.ofNat_lt.2 b) (bw (cB b) (bw (EA _ _ _) (DT (bw (EA _ _ _) (DT ?_)))));rw[<-wG b d];exact BD b d (λz=>CG)
 · unfold Kx.b0;exact uM (Int.le_refl _) rfl
def BY(n:Int)(xs:List e6):Int:=xs.foldl (λs y=>cM .i64 s y.1) n
theorem H6(n m:Int):∀xs:List e6,BY (cM .i64 n m) xs=cM .i64 n (BY m xs)|[]=>rfl|x::r=>by show BY (cM .i64 (cM .i64 n m) x.1) r=cM .i64 n (BY (cM .i64 m x.1) r);rw[Ak,H6]
def HD(a:bF):Int:=BY (cM .i64 a.2.1 a.2.2.2.1) a.2.2.2.2.1
def Ec(xs:List bF):Int:=xs.foldl (λs y=>cM .i64 s (HD y)) 0
theorem aU8(a:bF)(h:TR a):I9 (a,())=some (I1 (HD a)):=by
 have c:Al (List.length a.2.2.2.2.1):=h.ls.1;have d:=AJ (S:=Int×(Int×Unit)) a.2.2.2.2.1 (λs y=>cM .i64 s y.1) (f:=I9.b0 (a,())) (λa i=>(a,(i,()))) (λs=>Sum.inl (s,((List.length a.2.2.2.2.1:Int),()))) (cM .i64 a.2.1 a.2.2.2.1) (λi b s=>?_) (λs=>?_);·unfold I9;exact bw d rfl
 ·unfold I9.b0;refine uL (Int.ofNat_lt.2 b) (bw (cB b) ?_);rw[<-wG b c]
 simp_all[I9.b0,bF,e6,uM,bK,cM]
theorem QO(xs:List bF)(c:(Ty.sl cz).Ok xs):Kh ((xs,()),())=some (I1 (Ec xs)):=by
 have d:=AJ (S:=Int×(Int×Unit)) xs (λs y=>cM .i64 s (HD y)) (f:=Kh.b0 ((xs,()),())) (λa i=>(a,(i,()))) (λs=>Sum.inl (s,((xs.length:Int),()))) 0 (λi b s=>?_) (λs=>?_);·unfold Kh;exact bw d rfl
 ·unfold Kh.b0;refine uL (Int.ofNat_lt.2 b) (bw (cB b) (bw (aU8 _ (Ae c.2 (List.getElem_mem b))) ?_));rw[<-wG b c.1]
 simp_all[Kh.b0,bF,uM,bK,I9,cM]
theorem QP(xs:List bF)(c:(Ty.sl cz).Ok xs):FY ((xs,()),())=some (I1 (Ec xs)):=by
 have d:∀(a:bF)(n:Int),Al (List.length a.2.2.2.2.1)->aR (FY.b1 a) (n,((0:Int),()))=some (.inl (BY n a.2.2.2.2.1,((List.length a.2.2.2.2.1:Int),()))):=by
  intro a n e;refine AJ (S:=Int×(Int×Unit)) a.2.2.2.2.1 (λs y=>cM .i64 s y.1) (λa i=>(a,(i,()))) (λs=>Sum.inl (s,((List.length a.2.2.2.2.1:Int),()))) n (λi b s=>?_) (λs=>?_);·unfold FY.b1;refine uL (Int.ofNat_lt.2 b) (bw (cB b) ?_);rw[<-wG b e]
  simp_all[FY.b1,e6,uM,bK,cM]
 have g:=AJ (S:=Int×(Int×Unit)) xs (λs y=>cM .i64 s (HD y)) (f:=FY.b0 ((xs,()),())) (λa i=>(a,(i,()))) (λs=>Sum.inl (s,((xs.length:Int),()))) 0 (λi b s=>?_) (λs=>?_);·unfold FY;exact bw g rfl
 ·unfold FY.b0;refine uL (Int.ofNat_lt.2 b) (bw (cB b) (bw (d _ _ (TR.ls (Ae c.2 (List.getElem_mem b))).1) ?_));rw[<-wG b c.1];exact congrArg (λz=>some (Sum.inl (z,(cM .i64 (i:Int) 1,())))) (H6 s _ _)
 ·unfold FY.b0;exact uM (Int.le_refl _) rfl
def AS(xs:List bF)(i:Nat)(y:bF):Bool:=o0 y&&lO (λz y=>ob z.1 y.1) xs i y
def py(xs:List bF):Bool:=iK (AS xs) 0 xs&&(km (xs.length:Int) 12&&km (Ec xs) 1000000)
abbrev fp:Type:=Int×(List bF×Unit)
def bm(x:fp):Bool:=Di x.1 0 900&&py x.2.1
theorem TS(xs:List bF)(c:(Ty.sl cz).Ok xs):Ki ((xs,()),())=some (B1 (py xs)):=by
 have d:Al xs.length:=c.1;have e:=yW (S:=Int×Unit) xs (AS xs) (f:=Ki.b0 ((xs,()),())) (λk=>(k,())) (Sum.inl ((xs.length:Int),())) (Sum.inr (B1 false)) (λi a=>?_) ?_
 · unfold Ki py;refine bw e ?_;cases iK (AS xs) 0 xs;· rfl
   · exact (Dy (b:=km (xs.length:Int) 12) (bw (QO xs c) rfl)).trans rfl
 · unfold Ki.b0 AS;refine uL (Int.ofNat_lt.2 a) (bw (cB a) (bw (Wa _ (Ae c.2 (List.getElem_mem a))) (DT ?_)));rw[<-wG a d];exact BD a d (λz=>bw (cB a) DU)
 · unfold Ki.b0;exact uM (Int.le_refl _) rfl
theorem tv(x:fp)(a:(Ty.sl cz).Ok x.2.1):SH (x,())=some (B1 (bm x)):=bw (l6 _ _ _) (Dy (bw (TS _ a) rfl))
theorem TU(xs:List bF)(c:(Ty.sl cz).Ok xs):Tv ((xs,()),())=some (B1 (py xs)):=by
 have d:Al xs.length:=c.1;have e:=yW (S:=Int×Unit) xs (AS xs) (f:=Tv.b0 ((xs,()),())) (λk=>(k,())) (Sum.inl ((xs.length:Int),())) (Sum.inr (B1 false)) (λi a=>?_) ?_
 · unfold Tv py;refine bw e ?_;cases iK (AS xs) 0 xs;· rfl
   · exact (Dy (b:=km (xs.length:Int) 12) (bw (QP xs c) rfl)).trans rfl
 · unfold Tv.b0 AS;refine uL (Int.ofNat_lt.2 a) (bw (cB a) (bw (Wb _ (Ae c.2 (List.getElem_mem a))) (DT ?_)));rw[<-wG a d];exact BD a d (λz=>Cf)
 · unfold Tv.b0;exact uM (Int.le_refl _) rfl
theorem Lu(x:fp)(a:(Ty.sl cz).Ok x.2.1):ZO (x,())=some (B1 (bm x)):=bw (EA _ _ _) (Dy (bw (TU _ a) rfl))
def vx(s:List ds)(y:bF):List ds:=bif km 5 y.2.2.2.1 then s++([(y.1,(y.2.2.2.1,()))]:List ds)else s
def k8(xs:List bF):List ds:=xs.foldl vx []
theorem Hd(s:List ds)(y:bF){i:Nat}(h:s.length<=i):(vx s y).length<=i+1:=by unfold vx;grind
theorem F0(xs:List bF):k8 xs=(xs.filter (λy=>km 5 y.2.2.2.1)).map (λy=>(y.1,(y.2.2.2.1,()))):=by
 have :∀(xs:List bF)(s:List ds),xs.foldl vx s=s++(xs.filter (λy=>km 5 y.2.2.2.1)).map (λy=>(y.1,(y.2.2.2.1,()))):=by intro xs;induction xs with|nil=>grind|cons x r a=>intro s;rw[List.foldl_cons,a,List.filter_cons];unfold vx;grind
 have h:=this xs [];rw [List.nil_append]at h;exact h
theorem w9(xs:List bF):(k8 xs).length<=xs.length:=by rw[F0,List.length_map];grind
theorem QQ{xs:List bF}{y:ds}(h:y∈k8 xs):∃a∈xs,y=(a.1,(a.2.2.2.1,())):=by rw[F0,List.mem_map]at h;grind
theorem HH(xs:List bF)(c:(Ty.sl cz).Ok xs):(Ty.sl va).Ok (k8 xs):=Dk (Nat.le_trans (w9 xs) c.1) (λy f=>by obtain⟨a,d,e⟩:=QQ f;have b:TR a:=Ae c.2 d;rw[e];exact⟨b.1,b.2.2.2.1,trivial⟩)
def mo(x:fp):List ds:=bif bm x then k8 x.2.1 else[]
theorem QR(x:fp)(d:W1 x.2.1.length):SJ (x,())=some ((k8 x.2.1,()),()):=by
 have e:=xL (S:=List ds×(Int×Unit)) (f:=SJ.b0 (x,())) x.2.1 vx (λi s=>s.length<=i) (λa i=>(a,(i,()))) (λa=>Sum.inl (a,((x.2.1.length:Int),()))) [] (Nat.le_refl _) (λi b a c=>⟨?_,Hd _ _ c⟩) (λa _=>?_);·unfold SJ;exact bw e.1 rfl
 ·unfold SJ.b0 vx;refine uL (Int.ofNat_lt.2 b) (bw (cB b) ?_);rw[<-wG b d.l];dsimp only;cases km 5 x.2.1[i].2.2.2.1 with|false=>rfl|true=>exact bw (cB b) (bw (cB b) (Cm (n:=a.length+1) (by omega) (by decide) (by decide) rfl))
 ·unfold SJ.b0;exact uM (Int.le_refl _) rfl
theorem QS(x:fp)(a:(Ty.sl cz).Ok x.2.1):(Ty.sl va).Ok (mo x):=by unfold mo;cases bm x with|true=>exact HH _ a|false=>exact CK
theorem NF(x:fp)(c:W1 x.2.1.length)(e:(Ty.sl cz).Ok x.2.1):SM (x,())=some ((mo x,()),()):=by
 unfold SM mo;refine bw (Lu _ e) ((Dz (K:=_) (g:=some ((k8 x.2.1,()),())) ?_).trans (by grind));have h:=xL (S:=List ds×(Int×Unit)) (f:=SM.b0 (x,())) x.2.1 vx (λi s=>s.length<=i) (λa i=>(a,(i,()))) (λa=>Sum.inl (a,((x.2.1.length:Int),()))) [] (Nat.le_refl _) (λi b a d=>⟨?_,Hd _ _ d⟩) (λa _=>?_);·exact bw h.1 rfl
 ·unfold SM.b0 vx;refine uL (Int.ofNat_lt.2 b) (bw (cB b) ?_);rw[<-wG b c.l];dsimp only;cases km 5 x.2.1[i].2.2.2.1 with|false=>rfl|true=>exact Cm (n:=a.length+1) (by omega) (by decide) (by decide) rfl
 ·unfold SM.b0;exact uM (Int.le_refl _) rfl
theorem KD(x:fp)(b:W1 x.2.1.length)(a:(Ty.sl cz).Ok x.2.1):Xd (x,())=some ((mo x,()),()):=by unfold Xd mo;exact bw (tv _ a) ((Dz (g:=some ((k8 x.2.1,()),())) (bw (QR x b) rfl)).trans (by grind))
abbrev j8:Type:=Int×(Int×(List D9×Unit))
abbrev sM:Type:=Int×(List D9×(List D3×Unit))
def kf(q:j8):Bool:=gA q.1 0&&(gA q.2.1 (-1)&&gA (List.length q.2.2.1:Int) 0)
def rf(t:sM):Bool:=gA t.1 0&&(gA (List.length t.2.1:Int) 0&&gA (List.length t.2.2.1:Int) 0)
abbrev TV(q:j8):Prop:=(Ty.sl e9).Ok q.2.2.1
abbrev UT(t:sM):Prop:=(Ty.sl e9).Ok t.2.1/\Al (List.length t.2.2.1)
def He(q:j8)(round a:Int):Bool:=kf q||(Di q.1 1 round&&(Di q.2.1 0 a&&mm q.2.2.1))
def JC(t:sM)(round:Int):Bool:=rf t||(Di t.1 1 round&&(mm t.2.1&&(gA (List.length t.2.2.1:Int) (List.length t.2.1:Int)&&t.2.2.1.all (λh=>Di h.1 0 (gS .i64 t.1 1)))))
def uf(l:List ds)(q:j8):Bool:=kf q||(Di q.1 1 10000&&(Di q.2.1 0 100000&&(mm q.2.2.1&&(FD l q.2.2.1&&mw l q.2.2.1))))
def FO(l:List ds)(t:sM):Bool:=rf t||(Di t.1 1 10000&&(mm t.2.1&&(gA (List.length t.2.2.1:Int) (List.length t.2.1:Int)&&(t.2.2.1.all (λh=>Di h.1 0 (gS .i64 t.1 1))&&(FD l t.2.1&&mw l t.2.1)))))
theorem GR(q:j8):Kl (q,())=some (B1 (kf q)):=by unfold Kl kf;grind
theorem QT(q:j8):Yf (q,())=some (B1 (kf q)):=by unfold Yf kf;grind
theorem EI(t:sM):Hw (t,())=some (B1 (rf t)):=by unfold Hw rf;grind
theorem Wd(t:sM):ZT (t,())=some (B1 (rf t)):=by unfold ZT rf;grind
theorem O3(l:List ds)(q:j8)(b:Al l.length)(a:TV q):Li ((l,()),(q,()))=some (B1 (uf l q)):=by unfold Li uf;refine bw (GR q) (DR (bw (l6 _ _ _) (Dy (bw (l6 _ _ _) (Dy ?_)))));refine bw (US l _ b a) ((Dy (bw (Ls l _ b a.1) rfl)).trans ?_);grind
theorem UU(q:j8)(r b:Int)(a:TV q):Yg (q,((r,()),((b,()),())))=some (B1 (He q r b)):=by unfold Yg He;exact bw (QT q) (DR (bw (EA _ _ _) (Dy (bw (EA _ _ _) (Dy (bw (NB _ a) rfl))))))
theorem YY(l:List ds)(q:j8)(b:Al l.length)(a:TV q):Yj ((l,()),(q,()))=some (B1 (uf l q)):=by unfold Yj;refine (bw (QT q) (DR (bw (UU q _ _ a) (Dy (bw (QN l _ b a.1) (Dy (bw (YX l _ b a.1) rfl))))))).trans ?_;unfold uf He;cases kf q<;>cases Di q.1 1 10000<;>cases Di q.2.1 0 100000<;>cases mm q.2.2.1<;>cases FD l q.2.2.1<;>cases mw l q.2.2.1<;>rfl
theorem YZ(t:sM)(r:Int)(h:UT t):TC (t,((r,()),()))=some (B1 (JC t r)):=by
 have b:Al (List.length t.2.2.1):=h.2;have c:=BI (S:=Int×Unit) t.2.2.1 (λy=>Di y.1 0 (gS .i64 t.1 1)) (f:=TC.b0 (t,((r,()),()))) (λk=>(k,())) (Sum.inl ((t.2.2.1.length:Int),())) (Sum.inr (B1 false)) (λi a=>?_) ?_
 · unfold TC JC;refine bw (Wd t) (DR (bw c ?_));cases t.2.2.1.all (λy=>Di y.1 0 (gS .i64 t.1 1));· grind
   · refine (bw (EA _ _ _) (Dy (bw (NB _ h.1) Ch))).trans ?_;grind
 · unfold TC.b0;refine uL (Int.ofNat_lt.2 a) (bw (cB a) (bw (EA _ _ _) ?_));rw[<-wG a b];grind
 · unfold TC.b0;exact uM (Int.le_refl _) rfl
theorem QU(l:List ds)(t:sM)(d:Al l.length)(h:UT t):H3 ((l,()),(t,()))=some (B1 (FO l t)):=by
 have e:Al (List.length t.2.2.1):=h.2;have g:=BI (S:=Int×Unit) t.2.2.1 (λy=>Di y.1 0 (gS .i64 t.1 1)) (f:=H3.b0 ((l,()),(t,()))) (λk=>(k,())) (Sum.inl ((t.2.2.1.length:Int),())) (Sum.inr (B1 false)) (λi a=>?_) ?_
 · unfold H3;refine (bw (EI t) (DR (bw (l6 _ _ _) (Dx (bw (US l _ d h.1) (Dx (bw (Ls l _ d h.1.1) (Dx (Dx (b:=gA (List.length t.2.2.1:Int) (List.length t.2.1:Int)) (c:=t.2.2.1.all (λy=>Di y.1 0 (gS .i64 t.1 1))) (bw g ?_)))))))))).trans ?_;· grind
   · unfold FO;grind
 · unfold H3.b0;refine uL (Int.ofNat_lt.2 a) (bw (cB a) (bw (l6 _ _ _) ?_));rw[<-wG a e];grind
 · unfold H3.b0;exact uM (Int.le_refl _) rfl
def NG(t:cl):Bool:=fk t.2.1&&(Di t.2.2.2.1 1 1000000&&(Di t.2.2.2.2.1 0 10000&&(bif gA t.1 1 then fk t.2.2.1 else(Di t.1 2 3&&ko t.2.2.1 ⟨#[]⟩))))
abbrev XOk(t:cl):Prop:=Al t.2.1.size/\Al t.2.2.1.size
theorem KE{l:List cl}(h:(Ty.sl i3).Ok l){t:cl}(a:t∈l):XOk t:=⟨(Ae h.2 a).2.1,(Ae h.2 a).2.2.1⟩
theorem We(t:cl)(h:XOk t):OP (t,())=some (B1 (NG t)):=by
 unfold OP NG;refine bw (BE _ h.1) (Dx (bw (l6 _ _ _) (Dx (bw (l6 _ _ _) (Dx ?_)))));cases gA t.1 1;·exact bw (l6 _ _ _) Ch
 ·exact bw (BE _ h.2) rfl
theorem aV0(t:cl)(h:XOk t):QI (t,())=some (B1 (NG t)):=by
 unfold QI NG;refine (bw (EA _ _ _) (Dx (bw (GP _ h.1) (Dx (bw (EA _ _ _) (Dx (bw (EA _ _ _) (Dx (c:=bif gA t.1 1 then fk t.2.2.1 else ko t.2.2.1 ⟨#[]⟩) ?_)))))))).trans ?_
 · cases gA t.1 1;· rfl
   · exact bw (GP _ h.2) rfl
 · have e:Di t.1 1 3=(gA t.1 1||Di t.1 2 3):=by simp only[Di,km,gA];grind
   grind
theorem Y0(l:List cl)(h:(Ty.sl i3).Ok l):TD ((l,()),())=some (B1 (l.all NG)):=by
 have b:Al l.length:=h.1;have c:=BI (S:=Int×Unit) l NG (f:=TD.b0 ((l,()),())) (λk=>(k,())) (Sum.inl ((l.length:Int),())) (Sum.inr (B1 false)) (λi a=>?_) ?_;·unfold TD;grind
 ·unfold TD.b0;refine uL (Int.ofNat_lt.2 a) (bw (cB a) (bw (aV0 _ (KE h (List.getElem_mem a))) ?_));rw[<-wG a b];grind
 simp_all[TD.b0,cl,uM,bK,QI,cM]
abbrev ao:Type:=tR
def ia(b:ao):j8:=(b.2.2.2.2.1,(b.2.2.2.2.2.1,(b.2.2.2.2.2.2.1,())))
def o8(b:ao):sM:=(b.2.2.2.2.2.2.2.1,(b.2.2.2.2.2.2.2.2.1,(b.2.2.2.2.2.2.2.2.2.1,())))
abbrev n9(b:ao):List cl:=b.2.2.2.2.2.2.2.2.2.2.1
abbrev fi(b:ao):Bool:=b.2.2.2.2.2.2.2.2.2.2.2.1
abbrev j9(b:ao):List ds:=b.2.2.2.2.2.2.2.2.2.2.2.2.1
abbrev Lv(b:ao):ByteArray:=b.2.2.2.2.2.2.2.2.2.2.2.2.2.1
abbrev En(b:ao):Prop:=j7.Ok b
theorem En.by_{b:ao}(h:En b):Al b.2.2.2.1.size:=h.2.2.2.1
theorem En.qc{b:ao}(h:En b):TV (ia b):=h.2.2.2.2.2.2.1
theorem En.tc{b:ao}(h:En b):UT (o8 b):=⟨h.2.2.2.2.2.2.2.2.1,h.2.2.2.2.2.2.2.2.2.1.1⟩
theorem En.EJ{b:ao}(h:En b):(Ty.sl i3).Ok (n9 b):=h.2.2.2.2.2.2.2.2.2.2.1
theorem En.next{b:ao}(h:En b):(Ty.sl va).Ok (j9 b):=h.2.2.2.2.2.2.2.2.2.2.2.2.1
def H7(b:ao):Bool:=bif fi b then(pv (j9 b)&&gA ((Lv b).size:Int) 32)else (gA (List.length (j9 b):Int) 0&&ko (Lv b) ⟨#[]⟩)
def hu(b:ao):Bool:=Di b.1 0 100000&&(Di b.2.1 0 900&&(Di b.2.2.1 1 10000&&(fk b.2.2.2.1&&(He (ia b) (gS .i64 b.2.2.1 1) (gS .i64 b.1 1)&&(JC (o8 b) (gS .i64 b.2.2.1 1)&&(!dO 4 (List.length (n9 b):Int)&&((n9 b).all NG&&H7 b)))))))
theorem Y1(b:ao)(h:En b):Th (b,())=some (B1 (He (ia b) (gS .i64 b.2.2.1 1) (gS .i64 b.1 1))):=by unfold Th He;exact bw (GR (ia b)) (DR (bw (l6 _ _ _) (Dy (bw (l6 _ _ _) (Dy (bw (E0 _ h.qc) rfl))))))
theorem Y2(b:ao)(h:En b):Km (b,())=some (B1 (JC (o8 b) (gS .i64 b.2.2.1 1))):=by
 have c:Al (List.length (o8 b).2.2.1):=h.tc.2;have d:=BI (S:=Int×Unit) (o8 b).2.2.1 (λy=>Di y.1 0 (gS .i64 (o8 b).1 1)) (f:=Km.b0 (b,())) (λk=>(k,())) (Sum.inl (((o8 b).2.2.1.length:Int),())) (Sum.inr (B1 false)) (λi a=>?_) ?_;·unfold Km JC;refine bw (EI (o8 b)) (DR (bw (l6 _ _ _) (Dx (bw (E0 _ h.tc.1) (Dx ?_)))));refine (Dx (b:=gA (List.length (o8 b).2.2.1:Int) (List.length (o8 b).2.1:Int)) (bw d ?_));grind
 ·unfold Km.b0;refine uL (Int.ofNat_lt.2 a) (bw (cB a) (bw (l6 _ _ _) ?_));rw[<-wG a c];exact DU
 ·unfold Km.b0;exact uM (Int.le_refl _) rfl
theorem JD(b:ao)(h:En b):OQ (b,())=some (B1 (hu b)):=by
 have c:Al (n9 b).length:=h.EJ.1;have d:=BI (S:=Int×Unit) (n9 b) NG (f:=OQ.b0 (b,())) (λk=>(k,())) (Sum.inl (((n9 b).length:Int),())) (Sum.inr (B1 false)) (λi a=>?_) ?_
 · unfold OQ hu;refine bw (l6 _ _ _) (Dx (bw (l6 _ _ _) (Dx (bw (l6 _ _ _) (Dx (bw (BE _ h.by_) (Dx (bw (Y1 b h) (Dx (bw (Y2 b h) (Dx (DS (bw d ?_)))))))))))));cases (n9 b).all NG;· rfl
   · unfold H7;rw[Bool.true_and];dsimp only[cond_true,Sum.elim_inl,fi];cases b.2.2.2.2.2.2.2.2.2.2.2.1;· grind
     · exact bw (YV _ h.next) Ch
 · unfold OQ.b0;refine uL (Int.ofNat_lt.2 a) (bw (cB a) (bw (We _ (KE h.EJ (List.getElem_mem a))) ?_));rw[<-wG a c];grind
 · unfold OQ.b0;exact uM (Int.le_refl _) rfl
theorem Y3(b:ao)(h:En b):ZU (b,())=some (B1 (hu b)):=by
 unfold ZU hu;refine bw (EA _ _ _) (Dx (bw (EA _ _ _) (Dx (bw (EA _ _ _) (Dx (bw (GP _ h.by_) (Dx (bw (UU (ia b) _ _ h.qc) (Dx (bw (YZ (o8 b) _ h.tc) (Dx (DS (bw (Y0 _ h.EJ) (Dx ?_))))))))))))));unfold H7;dsimp only[fi];cases b.2.2.2.2.2.2.2.2.2.2.2.1;·grind
 ·exact bw (UR _ h.next) Ch
theorem EK(q:j8)(h:W1 (List.length q.2.2.1)):Fw (q,())=some (q,()):=by unfold Fw;exact vP h (by decide) (by decide) rfl
theorem JE(t:sM)(h:W1 (List.length t.2.1))(a:W1 (List.length t.2.2.1)):HZ (t,())=some (t,()):=by unfold HZ;exact vP h (by decide) (by decide) (vP a (by decide) (by decide) rfl)
theorem UW(l:List D9)(h:W1 l.length):QG ((l,()),())=some ((l,()),()):=by unfold QG;exact BL l h (by decide) (by decide)
theorem Y4(l:List D3)(h:W1 l.length):Tx ((l,()),())=some ((l,()),()):=by unfold Tx;exact BL l h (by decide) (by decide)
theorem Y5(l:List cl)(h:W1 l.length):TA ((l,()),())=some ((l,()),()):=by unfold TA;exact BL l h (by decide) (by decide)
theorem QV(l:List ds)(h:W1 l.length):VT ((l,()),())=some ((l,()),()):=by unfold VT;exact BL l h (by decide) (by decide)
theorem UX(q:j8)(h:W1 (List.length q.2.2.1)):QH (q,())=some (q,()):=by unfold QH;exact bw (UW _ h) rfl
theorem Y6(t:sM)(h:W1 (List.length t.2.1))(a:W1 (List.length t.2.2.1)):Tz (t,())=some (t,()):=by unfold Tz;exact bw (UW _ h) (bw (Y4 _ a) rfl)
def dT(x:ao):Prop:=W1 (List.length (ia x).2.2.1)/\W1 (List.length (o8 x).2.1)/\W1 (List.length (o8 x).2.2.1)/\W1 (List.length (n9 x))/\W1 (List.length (j9 x))
theorem GS(x:ao)(h:dT x):H0 (x,())=some (x,()):=by unfold H0;exact bw (EK (ia x) h.1) (bw (JE (o8 x) h.2.1 h.2.2.1) (vP h.2.2.2.1 (by decide) (by decide) (vP h.2.2.2.2 (by decide) (by decide) rfl)))
theorem Wf(x:ao)(h:dT x):TB (x,())=some (x,()):=by unfold TB;exact bw (UX (ia x) h.1) (bw (Y6 (o8 x) h.2.1 h.2.2.1) (bw (Y5 _ h.2.2.2.1) (bw (QV _ h.2.2.2.2) rfl)))
theorem wb(xs:List ao)(c:W1 xs.length)(d:∀x∈xs,dT x):CV ((xs,()),())=some ((xs,()),()):=by
 have e:=BJ (S:=List ao×(Int×Unit)) xs (f:=CV.b0 ((xs,()),())) (λa k=>(a,(k,()))) (Sum.inl (xs,((xs.length:Int),()))) (λi b=>?_) ?_;·unfold CV;grind
 ·unfold CV.b0;refine uL (Int.ofNat_lt.2 b) (bw (cB b) (bw (GS _ (d _ (List.getElem_mem b))) (BK b c (by decide) (by decide) ?_)));rw[<-wG b c.l];rfl
 ·unfold CV.b0;exact uM (Int.le_refl _) rfl
theorem TW(xs:List ao)(c:W1 xs.length)(d:∀x∈xs,dT x):Ky ((xs,()),())=some ((xs,()),()):=by
 have e:=BJ (S:=List ao×(Int×Unit)) xs (f:=Ky.b0 ((xs,()),())) (λa k=>(a,(k,()))) (Sum.inl (xs,((xs.length:Int),()))) (λi b=>?_) ?_;·unfold Ky;grind
 ·unfold Ky.b0;refine uL (Int.ofNat_lt.2 b) (bw (cB b) (bw (Wf _ (d _ (List.getElem_mem b))) (BK b c (by decide) (by decide) ?_)));rw[<-wG b c.l];rfl
 ·unfold Ky.b0;exact uM (Int.le_refl _) rfl
abbrev tB:Type:=Ka
abbrev i5(p:tB):List ao:=p.2.1
def pQ(p:tB):j8:=(p.2.2.1,(p.2.2.2.1,(p.2.2.2.2.1,())))
def B0(x:tB):Prop:=W1 (List.length (i5 x))/\(∀y∈i5 x,dT y)/\W1 (List.length (pQ x).2.2.1)
theorem QW(x:tB)(h:B0 x):Tg (x,())=some (x,()):=by unfold Tg;exact bw (wb _ h.1 h.2.1) (bw (EK (pQ x) h.2.2) rfl)
theorem QX(x:tB)(h:B0 x):ZS (x,())=some (x,()):=by unfold ZS;exact bw (TW _ h.1 h.2.1) (bw (UX (pQ x) h.2.2) rfl)
def H8(c:Int)(a:List ds)(l:List ao)(i:Nat)(b:ao):Bool:=hu b&&(gA b.2.1 c&&lO (λz y=>gA (ia y).2.1 z.1&&(gA (ia y).1 z.2.2.1&&uf a (ia y))) l i b)
def Lw(b:Int)(a:List ds)(l:List ao):Bool:=iK (H8 b a l) 0 l
abbrev I3:Type:=Int×(List ds×Unit)
theorem Wg(c:I3)(l:List ao)(g:(Ty.sl va).Ok c.2.1)(h:(Ty.sl j7).Ok l):TF (c,((l,()),()))=some (B1 (Lw c.1 c.2.1 l)):=by
 have e:Al l.length:=h.1;have m:=yW (S:=Int×Unit) l (H8 c.1 c.2.1 l) (f:=TF.b0 (c,((l,()),()))) (λk=>(k,())) (Sum.inl ((l.length:Int),())) (Sum.inr (B1 false)) (λi a=>?_) ?_;·unfold TF Lw;grind
 ·unfold TF.b0 H8;have d:En l[i]:=Ae h.2 (List.getElem_mem a);refine uL (Int.ofNat_lt.2 a) (bw (cB a) ?_);rw[Bool.and_left_comm];refine DT (bw (Y3 _ d) (DT ?_));rw[<-wG a e];cases i with|zero=>rfl|succ j=>have b:=xI (xs:=l) (j:=j) e (by omega);rw[mz (by omega)];exact uL (by omega) (bw b (DT (bw b (DT (bw (YY _ (ia l[j+1]) g.1 d.qc) DU)))))
 ·unfold TF.b0;exact uM (Int.le_refl _) rfl
def QY(c:I3)(p:tB):Bool:=match(i5 p)[(i5 p).length-1]?,(i5 p)[(i5 p).length-2]? with|some b,some a=>gA b.2.2.1 (cM .i64 a.2.2.1 1)&&(uf c.2.1 (pQ p)&&(gA (pQ p).1 b.2.2.1&&gA (pQ p).2.1 b.1))|_,_=>false
def rm(c:I3)(p:tB):Bool:=pv c.2.1&&(gA p.1 c.1&&(!dO ((i5 p).length:Int) 2&&(Lw c.1 c.2.1 (i5 p)&&QY c p)))
def kr(c:I3)(p:tB):I3×((Bool×Unit)×Unit):=bif rm c p then(match((i5 p).take ((i5 p).length-1)).find? (λb=>fi b)with|some b=>((cM .i64 c.1 1,(j9 b,())),((true,()),()))|none=>(c,((false,()),())))else (c,((false,()),()))
theorem Lx(l:List ao)(g:ao->Option (Bool×Unit))(p:ao->Bool)(e:∀x,g x=some (p x,()))(d:Al l.length):SR ((l,()),((g,()),()))=some (I1 (nY l p)):=by
 have h:=Ck (S:=Int×Unit) l p (f:=SR.b0 ((l,()),((g,()),()))) (λk=>(k,())) (Sum.inl ((l.length:Int),())) (λi=>Sum.inr (I1 i)) (λi a=>?_) ?_;·unfold SR;refine bw h ?_;rcases mA l p with⟨b,_,c⟩|⟨j,m,_,_,b,_,c⟩<;>rw[b,c]<;>rfl
 ·unfold SR.b0;refine uL (Int.ofNat_lt.2 a) (bw (cB a) (bw (e _) ?_));rw[<-wG a d]
 simp_all[SR.b0,tR,ao,uM,bK,cM]
theorem Ly(c:I3)(p:tB)(g:(Ty.sl va).Ok c.2.1)(o:W1 c.2.1.length)(d:Hr.Ok p)(u:∀b∈i5 p,W1 (List.length (j9 b))):VX (c,(p,()))=some (kr c p):=by
 have v:Al (i5 p).length:=d.2.1.1;have k:OW (c,())=some (c,()):=by unfold OW;exact bw (QV _ o) rfl
 have q:((OW (c,())).bind λy=>some (y.1,((false,()),())))=some (c,((false,()),())):=bw k rfl;have l:VX (c,(p,()))=bif rm c p then some (match ((i5 p).take ((i5 p).length-1)).find? (λb=>fi b) with|some b=>((cM .i64 c.1 1,(j9 b,())),((true,()),()))|none=>(c,((false,()),()))) else some (c,((false,()),())):=by
  unfold VX;rw[q];by_cases w:2<=(i5 p).length
  · have t:bK (i5 p) (gS .i64 ((i5 p).length:Int) 1)=some (i5 p)[(i5 p).length-1]:=by rw[iz (by omega) (by omega),show ((i5 p).length:Int)-1=(((i5 p).length-1:Nat):Int) by omega];exact cB (by omega)
    have e:bK (i5 p) (gS .i64 (gS .i64 ((i5 p).length:Int) 1) 1)=some (i5 p)[(i5 p).length-2]:=by rw[iz (a:=(List.length (i5 p):Int)) (by omega) (by omega),iz (by omega) (by omega),show ((i5 p).length:Int)-1-1=(((i5 p).length-2:Nat):Int) by omega];exact cB (by omega)
    refine uM (a:=gS .i64 ((i5 p).length:Int) 1) (by rw[iz (by omega) (by omega)];omega) ?_;refine (DT (bw (UR _ g) (DT (bw (Wg c _ g d.2.1) (DT (bw t (bw e (DT (DT (b:=gA (pQ p).1 _) (DT (b:=gA (pQ p).2.1 _) (bw (YY _ (pQ p) g.1 d.2.2.2.2.1) (Dz ?_)))))))))))).trans (b:=bif (gA p.1 c.1&&(pv c.2.1&&(Lw c.1 c.2.1 (i5 p)&&(gA (i5 p)[(i5 p).length-2].2.2.1 (gS .i64 (i5 p)[(i5 p).length-1].2.2.1 1)&&(gA (pQ p).1 (i5 p)[(i5 p).length-1].2.2.1&&(gA (pQ p).2.1 (i5 p)[(i5 p).length-1].1&&uf c.2.1 (pQ p))))))) then some (match ((i5 p).take ((i5 p).length-1)).find? (λb=>fi b) with|some b=>((cM .i64 c.1 1,(j9 b,())),((true,()),()))|none=>(c,((false,()),()))) else some (c,((false,()),()))) ?_
    · have s:=DA (n:=(i5 p).length) (by omega) v;have i:(bif mX (((i5 p).length-1:Nat):Int) (i5 p).length then (SR ((List.take (Int.toNat (((i5 p).length-1:Nat):Int)-0) (List.drop 0 (i5 p)),()),(((λb=>some (fi b,())),()),()))).bind (λy=>bif dO y.1.1 0 then some (c,((false,()),())) else (bK (i5 p) y.1.1).bind λx=>(VT ((j9 x,()),())).bind λz=>some ((cM .i64 c.1 1,(z.1.1,())),((true,()),()))) else none)=some (match ((i5 p).take ((i5 p).length-1)).find? (λb=>fi b) with|some b=>((cM .i64 c.1 1,(j9 b,())),((true,()),()))|none=>(c,((false,()),()))):=by
       refine CJ (by omega) ?_;rw[BM];refine bw (Lx _ _ (λb=>fi b) (λ_=>rfl) (by grind)) ?_;rcases mA ((i5 p).take ((i5 p).length-1)) (λb=>fi b) with⟨_,e,f⟩|⟨j,B,A,w,_,e,f⟩;· rw[e,f];rfl
       · rw[e,f];have h:j<(i5 p).length:=by grind
         rw[List.getElem_take];exact xM (Int.natCast_nonneg j) (bw (cB h) (bw (QV _ (u _ (List.getElem_mem h))) rfl))
      rw[<-s]at i;exact i
    · have m:En (i5 p)[(i5 p).length-1]:=Ae d.2.1.2 (List.getElem_mem _);have r:En (i5 p)[(i5 p).length-2]:=Ae d.2.1.2 (List.getElem_mem _);unfold rm QY;rw[List.getElem?_eq_getElem (show (i5 p).length-1<(i5 p).length by omega),List.getElem?_eq_getElem (show (i5 p).length-2<(i5 p).length by omega),<-CL (DW m.2.2.1) (DW r.2.2.1),show dO ((i5 p).length:Int) 2=false from dD (by omega)];grind
  · refine uL (a:=gS .i64 ((i5 p).length:Int) 1) (by rw[iz (by omega) (by omega)];omega) ?_;unfold rm;rw[show dO ((i5 p).length:Int) 2=true from gQ (by omega)];grind
 rw[l];unfold kr;grind
def AT(x:fp):I3:=bif bm x then(x.1,(k8 x.2.1,()))else(0,([],()))
theorem QZ(x:fp)(b:W1 x.2.1.length)(a:(Ty.sl cz).Ok x.2.1):ZQ (x,())=some (AT x,()):=by unfold ZQ AT;refine bw (Lu _ a) ((Dz (bw (NF x b a) rfl)).trans ?_);unfold mo;grind
abbrev a0:Type:=Fh
abbrev bk(n:a0):List tB:=n.2.2.2.2.2.2.2.2.2.2.2.2.2.2.2.2.2.2.2.1
def MY(a:List tB)(b:Int):tB×((Bool×Unit)×Unit):=match a.find? (λp=>gA p.1 b)with|some p=>(p,((true,()),()))|none=>(((0:Int),([],((0:Int),((0:Int),([],()))))),((false,()),()))
theorem JF(n:a0)(a:Int)(h:W1 (bk n).length):ZR (n,((a,()),()))=some (I1 (nY (bk n) (λp=>gA p.1 a))):=by
 have l:=Ck (S:=Int×Unit) (bk n) (λp=>gA p.1 a) (f:=Lo.b0 ((bk n,()),(((λb=>(VS ((b.1,(b.2.1,(b.2.2.1,(b.2.2.2.1,(b.2.2.2.2.1,()))))),((a,()),()))).bind λg=>some (g.1.1,())),()),()))) (λk=>(k,())) (Sum.inl (((bk n).length:Int),())) (λi=>Sum.inr (I1 i)) (λi c=>?_) ?_;·unfold ZR Lo;refine bw (bw l (r:=some (I1 (nY (bk n) (λp=>gA p.1 a)))) ?_) rfl;rcases mA (bk n) (λp=>gA p.1 a) with⟨d,_,e⟩|⟨j,m,_,_,d,_,e⟩<;>rw[d,e]<;>rfl
 ·unfold Lo.b0;refine uL (Int.ofNat_lt.2 c) (bw (cB c) ?_);rw[<-wG c h.l];rfl
 ·unfold Lo.b0;exact uM (Int.le_refl _) rfl
def te(a:List tB):Nat->I3->Int->I3×((Int×Unit)×Unit)|0,c,k=>(c,((k,()),()))|f+1,c,k=>match a.find? (λp=>gA p.1 c.1)with|none=>(c,((k,()),()))|some p=>bif(kr c p).2.1.1 then te a f (kr c p).1 (cM .i64 k 1)else (c,((k,()),()))
theorem M0(c:I3)(j:(.cons (.int .i64) (.cons (.sl va) .nil):af).Ok c) (i:(.cons (.int .i64) (.cons (.sl va) .nil):af).w c<=1048576) (p:tB) (f:Hr.Ok p) (e:Hr.w p<=1048576):(.cons (.int .i64) (.cons (.sl va) .nil):af).Ok (kr c p).1/\(.cons (.int .i64) (.cons (.sl va) .nil):af).w (kr c p).1<=1048576:=by unfold kr;cases rm c p with|false=>grind|true=>cases h:((i5 p).take ((i5 p).length-1)).find? (λb=>fi b)with|none=>grind|some b=>have a:b∈i5 p:=List.mem_of_mem_take (List.mem_of_find?_eq_some h);have d:En b:=Ae f.2.1.2 a;have g:j7.w b<=1048576:=Dl (DC (Du e)) a;have k:(Ty.sl va).w (j9 b)<=1048576:=DC (Du (Du (Du (Du (Du (Du (Du (Du (Du (Du (Du (Du g))))))))))));refine⟨⟨Dm .i64 _,d.next,trivial⟩,?_⟩;simp_all[af.w,va,I3,ao,ds,cM,j9,Ty.w]
theorem M1(a:List tB)(e:∀p∈a,Hr.Ok p/\Hr.w p<=1048576):∀(f:Nat)(c:I3)(k:Int),(.cons (.int .i64) (.cons (.sl va) .nil):af).Ok c->(.cons (.int .i64) (.cons (.sl va) .nil):af).w c<=1048576->(Lit.int .i64 k).wf=true->(.cons (.int .i64) (.cons (.sl va) .nil):af).Ok (te a f c k).1/\(.cons (.int .i64) (.cons (.sl va) .nil):af).w (te a f c k).1<=1048576/\(Lit.int .i64 (te a f c k).2.1.1).wf=true|0,c,k,b,d,i=>⟨b,d,i⟩|f+1,c,k,b,d,i=>by unfold te;cases j:a.find? (λp=>gA p.1 c.1)with|none=>grind|some p=>have g:=e p (List.mem_of_find?_eq_some j);have h:=M0 c b d p g.1 g.2;dsimp only;cases (kr c p).2.1.1 with|false=>grind|true=>exact M1 a e f _ _ h.1 h.2 (Dm .i64 _)
def fb(l:List bF):Prop:=W1 l.length/\∀a∈l,W1 (List.length a.2.2.2.2.1)
theorem F1(xs:List bF)(h:fb xs):FU ((xs,()),())=some ((xs,()),()):=by
 have c:=h.1;have d:=BJ (S:=List bF×(Int×Unit)) xs (f:=FU.b0 ((xs,()),())) (λa k=>(a,(k,()))) (Sum.inl (xs,((xs.length:Int),()))) (λi b=>?_) ?_;·unfold FU;grind
 ·unfold FU.b0;refine uL (Int.ofNat_lt.2 b) (bw (cB b) (vP (h.2 _ (List.getElem_mem b)) (by decide) (by decide) (BK b c (by decide) (by decide) ?_)));rw[<-wG b c.l];rfl
 ·unfold FU.b0;exact uM (Int.le_refl _) rfl
theorem oi(x:fp)(h:fb x.2.1):Fc (x,())=some (x,()):=bw (F1 _ h) rfl
def Wj:a0:=(⟨#[]⟩,(0,(0,([],([],([],(0,(0,(0,(0,([],(0,([],([],(0,([],([],([],([],([],()))))))))))))))))))))
def la(name:ByteArray)(x:fp):a0:=bif fk name&&bm x then(name,(x.1,(x.1,(x.2.1,(k8 x.2.1,([],(1,(0,(0,(-1,([],(0,([],([],(0,([],([],([],([],([],()))))))))))))))))))))else Wj
theorem O5(name:ByteArray)(x:fp)(a:Al name.size)(b:(Ty.sl cz).Ok x.2.1)(h:fb x.2.1):Tc ((name,()),(x,()))=some (la name x,()):=by unfold Tc la;refine (bw (BE _ a) (DT (bw (tv x b) (Dz (bw (oi x h) (bw (QR x h.1) rfl)))))).trans ?_;cases fk name&&bm x<;>rfl
abbrev ek:Type:=IY
def Wk:ek:=(0,([],([],([],([],([],([],())))))))
def KF(x:fp)(an:List D9):List a0:=x.2.1.foldl (λs a=>bif !j0 an a.1 then s++([la a.1 x]:List a0)else s) []
def E1(x:fp)(an:List D9):ek:=bif bm x&&mm an then(x.1,(x.2.1,(an,(KF x an,([],([],([],())))))))else Wk
theorem O6(x:fp)(an:List D9):KF x an=(x.2.1.filter (λa=>!j0 an a.1)).map (λa=>la a.1 x):=by
 have :∀(xs:List bF)(s:List a0),xs.foldl (λs a=>bif !j0 an a.1 then s++([la a.1 x]:List a0)else s) s=s++(xs.filter (λa=>!j0 an a.1)).map (λa=>la a.1 x):=by intro xs;induction xs with|nil=>grind|cons a r b=>grind
 have h:=this x.2.1 [];rw[List.nil_append]at h;exact h
theorem NH{A:Type}{s t:List A}{i:Nat}(h:s.length<=i)(b:Bool)(a:t.length=1):(bif b then s++t else s).length<=i+1:=by grind
theorem M3(x:fp)(an:List D9)(d:(Ty.sl e9).Ok an)(e:W1 an.length)(c:(Ty.sl cz).Ok x.2.1)(h:fb x.2.1):Td (x,((an,()),()))=some (E1 x an,()):=by
 have m:=xL (S:=Int×(List a0×Unit)) (f:=Td.b0 (x,((an,()),()))) x.2.1 (λs a=>bif !j0 an a.1 then s++([la a.1 x]:List a0) else s) (λi s=>s.length<=i) (λa i=>(i,(a,()))) (λa=>Sum.inl ((x.2.1.length:Int),(a,()))) [] (Nat.le_refl _) (λi b a k=>⟨?_,NH k _ rfl⟩) (λa _=>?_);·unfold Td E1;refine (bw (tv x c) (DT (bw (E0 _ d) (Dz (g:=some ((x.1,(x.2.1,(an,(KF x an,([],([],([],()))))))),())) (bw (oi x h) (vP e (by decide) (by decide) (bw m.1 rfl))))))).trans ?_;cases bm x&&mm an<;>rfl
 ·unfold Td.b0;refine uL (Int.ofNat_lt.2 b) (bw (cB b) (bw (JB _ _ d.1) ?_));rw[<-wG b h.1.l];dsimp only;cases j0 an x.2.1[i].1 with|true=>rfl|false=>have j:TR x.2.1[i]:=Ae c.2 (List.getElem_mem b);have o:=h.1;exact bw (cB b) (bw (O5 _ x j.1 c h) (Cm (n:=a.length+1) (by omega) (by decide) (by decide) rfl))
 ·unfold Td.b0;exact uM (Int.le_refl _) rfl
def tw{A:Type}(eq:A->A->Bool)(xs ys:List A):Bool:=gA (xs.length:Int) (ys.length:Int)&&iK (λi x=>match ys[i]? with|some y=>eq x y|none=>true) 0 xs
theorem E2{A:Type}{xs ys:List A}{eq:A->A->Bool}{f:Int×Unit->Option (Sum (Int×Unit) (Sum (Int×Unit) ((Bool×Unit)×Unit)))}(c:Al xs.length)(d:∀i (h:i<xs.length) (g:i<ys.length),f ((i:Int),())=bif eq xs[i] ys[i] then some (.inl (cM .i64 (i:Int) 1,()))else some (.inr (.inr (B1 false))))(b:f ((xs.length:Int),())=some (.inr (.inl ((xs.length:Int),())))):(bif !gA (xs.length:Int) (ys.length:Int)then some (B1 false)else (aR f ((0:Int),())).bind λr=>Sum.elim (λ_=>some (B1 true)) some r)=some (B1 (tw eq xs ys)):=by unfold tw;cases j:gA (xs.length:Int) (ys.length:Int) with|false=>rfl|true=>
 have e:xs.length=ys.length:=by grind[gA]
 have l:=yW (S:=Int×Unit) xs (λi x=>match ys[i]? with|some y=>eq x y|none=>true) (f:=f) (λk=>(k,())) (Sum.inl ((xs.length:Int),())) (Sum.inr (B1 false)) (λi a=>?_) b;·grind
 ·rw[d i a (by omega),List.getElem?_eq_getElem (show i<ys.length by omega),wG a c]
theorem E3{A:Type}{eq:A->A->Bool}(f:∀a b,eq a b=true↔a=b){xs ys:List A}:tw eq xs ys=true↔xs=ys:=by
 unfold tw;simp only[Bool.and_eq_true];constructor
 · rintro⟨d,g⟩;have c:xs.length=ys.length:=by grind[gA]
   refine List.ext_getElem c (λi d m=>?_);grind[xJ]
 · rintro rfl;refine⟨nV _,?_⟩;have :∀(p:Nat->A->Bool)(k:Nat)(l:List A),(∀i (h:i<l.length),p (k+i) l[i]=true)->iK p k l=true:=by intro p k l;induction l generalizing k with|nil=>intro _;rfl|cons x r e=>intro h;simp only[iK,Bool.and_eq_true];refine⟨h 0 (Nat.zero_lt_succ _),e (k+1) (λi j=>?_)⟩;have :=h (i+1) (by grind);grind
   grind
def Lz(x y:cl):Bool:=(gA x.1 y.1)&&((ko x.2.1 y.2.1)&&((ko x.2.2.1 y.2.2.1)&&((gA x.2.2.2.1 y.2.2.2.1)&&(gA x.2.2.2.2.1 y.2.2.2.2.1))))
def Hf(x y:ds):Bool:=(ko x.1 y.1)&&(gA x.2.1 y.2.1)
def HI(a b:j8):Bool:=gA a.1 b.1&&(gA a.2.1 b.2.1&&tw (λx y=>ko x.1 y.1) a.2.2.1 b.2.2.1)
def F2(a b:sM):Bool:=gA a.1 b.1&&(tw (λx y=>ko x.1 y.1) a.2.1 b.2.1&&tw (λx y=>gA x.1 y.1) a.2.2.1 b.2.2.1)
def rv(a b:ao):Bool:=gA a.1 b.1&&(gA a.2.1 b.2.1&&(gA a.2.2.1 b.2.2.1&&(ko a.2.2.2.1 b.2.2.2.1&&(HI (ia a) (ia b)&&(F2 (o8 a) (o8 b)&&(tw Lz (n9 a) (n9 b)&&(wo (fi a) (fi b)&&(tw Hf (j9 a) (j9 b)&&ko (Lv a) (Lv b)))))))))
theorem NI(xs ys:List D9)(a:Al xs.length):Kv ((xs,()),((ys,()),()))=some (B1 (tw (λx y=>ko x.1 y.1) xs ys)):=by
 unfold Kv;refine E2 a (λi h b=>?_) ?_;·unfold Kv.b0;exact uL (Int.ofNat_lt.2 h) (bw (cB h) (bw (cB b) DU))
 simp_all[Kv.b0,D9,uM,bK,ko,cM]
theorem Q1(xs ys:List cl)(a:Al xs.length):Ln ((xs,()),((ys,()),()))=some (B1 (tw Lz xs ys)):=by
 unfold Ln;refine E2 a (λi h b=>?_) ?_;·unfold Ln.b0 Lz;exact uL (Int.ofNat_lt.2 h) (bw (cB h) (bw (cB b) DU))
 ·unfold Ln.b0;exact uM (Int.le_refl _) rfl
theorem NJ(xs ys:List ds)(a:Al xs.length):Kq ((xs,()),((ys,()),()))=some (B1 (tw Hf xs ys)):=by
 unfold Kq;refine E2 a (λi h b=>?_) ?_;·unfold Kq.b0 Hf;exact uL (Int.ofNat_lt.2 h) (bw (cB h) (bw (cB b) DU))
 ·unfold Kq.b0;exact uM (Int.le_refl _) rfl
theorem Q2(a b:j8)(h:TV a):VO (a,(b,()))=some (B1 (HI a b)):=Dy (Dy (bw (NI _ _ h.1) rfl))
theorem Q3(a b:sM)(h:UT a):Lm (a,(b,()))=some (B1 (F2 a b)):=by
 unfold Lm F2;refine Dx (bw (NI _ _ h.1.1) (Dx ?_));refine E2 h.2 (λi h c=>?_) ?_;·unfold Lm.b0;exact uL (Int.ofNat_lt.2 h) (bw (cB h) (bw (cB c) DU))
 ·unfold Lm.b0;exact uM (Int.le_refl _) rfl
theorem O7(a b:ao)(h:En a):QE (a,(b,()))=some (B1 (rv a b)):=by unfold QE rv;exact Dy (Dy (Dy (Dy (bw (Q2 (ia a) (ia b) h.qc) (Dy (bw (Q3 (o8 a) (o8 b) h.tc) (Dy (bw (Q1 _ _ h.EJ.1) (Dy (Dy (bw (NJ _ _ h.next.1) Ch)))))))))))
def rS(a b:cl):Bool:=bif !ko a.2.1 b.2.1 then ob a.2.1 b.2.1 else bif !gA a.2.2.2.2.1 b.2.2.2.2.1 then dO a.2.2.2.2.1 b.2.2.2.2.1 else bif !gA a.1 b.1 then dO a.1 b.1 else bif !ko a.2.2.1 b.2.2.1 then ob a.2.2.1 b.2.2.1 else dO a.2.2.2.1 b.2.2.2.1
theorem KG{a b:ByteArray}(h:ko a b=true):ob a b=false:=by unfold ko at h;grind[ob,nX]
theorem LA(a b:cl):Qt (a,(b,()))=some (B1 (rS a b)):=by unfold Qt rS;grind
def H9(xs:List cl)(i:Nat)(y:cl):Bool:=NG y&&lO rS xs i y
def sT(xs:List cl):Bool:=iK (H9 xs) 0 xs&&km (xs.length:Int) 20
theorem Q4(xs:List cl)(c:(Ty.sl i3).Ok xs):Ja ((xs,()),())=some (B1 (sT xs)):=by
 have b:Al xs.length:=c.1;have d:=yW (S:=Int×Unit) xs (H9 xs) (f:=Ja.b0 ((xs,()),())) (λk=>(k,())) (Sum.inl ((xs.length:Int),())) (Sum.inr (B1 false)) (λi a=>?_) ?_;·unfold Ja sT;grind
 ·unfold Ja.b0 H9;refine uL (Int.ofNat_lt.2 a) (bw (cB a) (bw (We _ (KE c (List.getElem_mem a))) (DT ?_)));rw[<-wG a b];exact BD a b (λz=>bw (cB a) (bw (LA _ _) DU))
 ·unfold Ja.b0;exact uM (Int.le_refl _) rfl
def KH(l:List ao):Int:=match l with|b::_=>b.2.1|[]=>0
theorem Q5{l:List ao}{i:Nat}(h:i<l.length):∃b,bK l 0=some b/\b.2.1=KH l:=by cases l with|nil=>grind|cons b r=>exact⟨b,rfl,rfl⟩
def A0(a:List ao)(b:ao):Bool:=match a.find? (λz=>gA z.1 (ia b).2.1)with|some z=>gA z.2.2.1 (ia b).1|none=>false
def F3(l:List ao)(i:Nat)(b:ao):Bool:=hu b&&(gA b.2.1 (KH l)&&lO (λz y=>dO z.1 y.1) l i b)
def Fi(l:List ao):Bool:=iK (λi b=>F3 l i b&&(kf (ia b)||A0 (l.take i) b)) 0 l&&km (l.length:Int) 400
theorem JG{b:ao}(h:hu b=true)(d:kf (ia b)=false):0<=(ia b).2.1/\(ia b).2.1<b.1:=by
 unfold hu He at h;simp only[Bool.and_eq_true]at h;have c:Di b.1 0 100000=true:=h.1;have a:=h.2.2.2.2.1;rw[d,Bool.false_or]at a;simp only[Bool.and_eq_true]at a;have f:0<=b.1/\b.1<=100000:=by simpa[Di,km]using c
 have e:0<=(ia b).2.1/\(ia b).2.1<=gS .i64 b.1 1:=by simpa[Di,km]using a.2.1
 rw[iz (by omega) (by omega)]at e;omega
theorem M5(l:List ao):iK (λi b=>F3 l i b&&(kf (ia b)||A0 (l.take i) b)) 0 l=iK (λi b=>F3 l i b&&(kf (ia b)||A0 l b)) 0 l:=by rw[xK,xK];cases a:iK (λi b=>F3 l i b) 0 l with|false=>rfl|true=>
 rw[Bool.true_and,Bool.true_and];have a:=λi c=>by have :=xJ a i c;rw[Nat.zero_add]at this;unfold F3 at this;simp only[Bool.and_eq_true]at this;exact this
 refine tT (λi b h=>?_);obtain⟨c,rfl⟩:=List.getElem?_eq_some_iff.1 h;rw[Nat.zero_add];cases n:kf (ia l[i]) with|true=>rfl|false=>
 rw[Bool.false_or,Bool.false_or];have r:=JG (a i c).1 n;have d:(l.drop i).find? (λz=>gA z.1 (ia l[i]).2.1)=none:=by rw[List.find?_eq_none];intro z q;obtain⟨k,o,rfl⟩:=List.getElem_of_mem q;rw[List.length_drop]at o;have :=Am (f:=λb:ao=>b.1) (l:=l) (λj m=>(a j m).2.2) k i (by omega);rw[List.getElem_drop];have this:l[i].1<=l[i+k].1:=this;simp only[gA,decide_eq_true_eq];omega
 unfold A0;have :l.find? (λz=>gA z.1 (ia l[i]).2.1)=(l.take i).find? (λz=>gA z.1 (ia l[i]).2.1):=by generalize (ia l[i]).2.1=g at d⊢;have e:=List.find?_append (p:=λz:ao=>gA z.1 g) (xs:=l.take i) (ys:=l.drop i);rw[List.take_append_drop,d]at e;grind
 grind
def m9(l:List ao)(a:Int):Int:=nY l (λb=>gA b.1 a)
theorem th(l:List ao)(a:Int)(g:Al l.length):Fx ((l,()),((a,()),()))=some (I1 (m9 l a)):=by
 have h:=Ck (S:=Int×Unit) l (λb=>gA b.1 a) (f:=Fx.b0 ((l,()),((a,()),()))) (λk=>(k,())) (Sum.inl ((l.length:Int),())) (λi=>Sum.inr (I1 i)) (λi c=>?_) ?_;·unfold Fx m9;refine bw h ?_;rcases mA l (λb=>gA b.1 a) with⟨d,_,e⟩|⟨j,m,_,_,d,_,e⟩<;>rw[d,e]<;>rfl
 ·unfold Fx.b0;refine uL (Int.ofNat_lt.2 c) (bw (cB c) ?_);rw[<-wG c g]
 ·unfold Fx.b0;exact uM (Int.le_refl _) rfl
theorem M6(l:List ao)(h:(Ty.sl j7).Ok l):Jb ((l,()),())=some (B1 (Fi l)):=by
 have e:Al l.length:=h.1;have r:=yW (S:=Int×Unit) l (λi b=>F3 l i b&&(kf (ia b)||A0 (l.take i) b)) (f:=Jb.b0 ((l,()),())) (λk=>(k,())) (Sum.inl ((l.length:Int),())) (Sum.inr (B1 false)) (λi a=>?_) ?_;·unfold Jb Fi;grind
 · unfold Jb.b0 F3;have o:En l[i]:=Ae h.2 (List.getElem_mem a);obtain⟨q,g,m⟩:=Q5 a;refine uL (Int.ofNat_lt.2 a) (bw (cB a) (Ci (bw (JD _ o) (DT (bw g ?_))) (bw (GR (ia l[i])) ?_)));· rw[<-m];refine DT (BD a e (λz=>CG))
   · rw[<-wG a e];dsimp only;cases kf (ia l[i]) with|true=>rfl|false=>
  refine CJ (by omega) ?_;rw[BM];refine bw (th _ _ (by grind)) ?_;unfold m9 A0;rcases mA (l.take i) (λz=>gA z.1 (ia l[i]).2.1) with⟨_,c,d⟩|⟨j,p,_,_,_,c,d⟩;· rw[c,show nY (l.take i) (λb=>gA b.1 l[i].2.2.2.2.2.1)=-1 from d];rfl
  · rw[c,show nY (l.take i) (λb=>gA b.1 l[i].2.2.2.2.2.1)=(j:Int) from d];have n:j<l.length:=by grind
    rw[List.getElem_take];exact xM (Int.natCast_nonneg j) (bw (cB n) DU)
 · unfold Jb.b0;exact uM (Int.le_refl _) rfl
abbrev gq(n:a0):fp:=(n.2.2.1,(n.2.2.2.1,()))
abbrev bb(n:a0):List ds:=n.2.2.2.2.1
abbrev ar(n:a0):List ao:=n.2.2.2.2.2.1
abbrev ad(n:a0):Int:=n.2.2.2.2.2.2.1
abbrev fr(n:a0):Int:=n.2.2.2.2.2.2.2.1
def bx(n:a0):j8:=(n.2.2.2.2.2.2.2.2.1,(n.2.2.2.2.2.2.2.2.2.1,(n.2.2.2.2.2.2.2.2.2.2.1,())))
def Fj(n:a0):sM:=(n.2.2.2.2.2.2.2.2.2.2.2.1,(n.2.2.2.2.2.2.2.2.2.2.2.2.1,(n.2.2.2.2.2.2.2.2.2.2.2.2.2.1,())))
abbrev LB(n:a0):Int:=n.2.2.2.2.2.2.2.2.2.2.2.2.2.2.1
abbrev ei(n:a0):List tb:=n.2.2.2.2.2.2.2.2.2.2.2.2.2.2.2.1
abbrev eD(n:a0):List pf:=n.2.2.2.2.2.2.2.2.2.2.2.2.2.2.2.2.1
abbrev nx(n:a0):List D3:=n.2.2.2.2.2.2.2.2.2.2.2.2.2.2.2.2.2.1
abbrev l9(n:a0):List cl:=n.2.2.2.2.2.2.2.2.2.2.2.2.2.2.2.2.2.2.1
abbrev EF(n:a0):Prop:=HT.Ok n
theorem EF.base{n:a0}(h:EF n):(Ty.sl cz).Ok (gq n).2.1:=h.2.2.2.1
theorem EF.set{n:a0}(h:EF n):(Ty.sl va).Ok (bb n):=h.2.2.2.2.1
theorem EF.kB{n:a0}(h:EF n):(Ty.sl j7).Ok (ar n):=h.2.2.2.2.2.1
theorem EF.aV1{n:a0}(h:EF n):TV (bx n):=h.2.2.2.2.2.2.2.2.2.2.1
theorem EF.ki{n:a0}(h:EF n):(Ty.sl i3).Ok (l9 n):=h.2.2.2.2.2.2.2.2.2.2.2.2.2.2.2.2.2.2.1
abbrev gd:Type:=B8
abbrev l8(m:gd):List ao:=m.2.2.2.1
def mQ(m:gd):j8:=(m.2.2.2.2.2.2.2.2.2.2.1,(m.2.2.2.2.2.2.2.2.2.2.2.1,(m.2.2.2.2.2.2.2.2.2.2.2.2.1,())))
def mT(m:gd):sM:=(m.2.2.2.2.2.2.2.2.2.2.2.2.2.1,(m.2.2.2.2.2.2.2.2.2.2.2.2.2.2.1,(m.2.2.2.2.2.2.2.2.2.2.2.2.2.2.2.1,())))
def Y9(m:gd):Bool:=(gA m.2.2.2.2.1 (0:Int))&&((gA m.2.2.2.2.2.1 (0:Int))&&(ko m.2.2.2.2.2.2.1 ⟨#[]⟩))
def U0(m:gd):Bool:=(gA m.2.2.2.2.2.2.2.1 (0:Int))&&((gA m.2.2.2.2.2.2.2.2.1 (0:Int))&&(ko m.2.2.2.2.2.2.2.2.2.1 ⟨#[]⟩))
def TX(m:gd):Bool:=Di m.2.2.2.2.1 1 10000&&(Di m.2.2.2.2.2.1 0 100000&&fk m.2.2.2.2.2.2.1)
def Wm(m:gd):Bool:=Di m.2.2.2.2.2.2.2.1 1 10000&&(Di m.2.2.2.2.2.2.2.2.1 0 (gS .i64 m.2.2.2.2.2.2.2.1 1)&&(gA m.2.2.2.2.2.2.2.2.1 m.2.2.2.2.2.2.2.2.2.2.1&&fk m.2.2.2.2.2.2.2.2.2.1))
abbrev Ia(m:gd):Prop:=HU.Ok m
theorem Ia.bs{m:gd}(h:Ia m):(Ty.sl j7).Ok (l8 m):=h.2.2.2.1
theorem Ia.q{m:gd}(h:Ia m):TV (mQ m):=h.2.2.2.2.2.2.2.2.2.2.2.2.1
theorem Ia.t{m:gd}(h:Ia m):UT (mT m):=⟨h.2.2.2.2.2.2.2.2.2.2.2.2.2.2.1,h.2.2.2.2.2.2.2.2.2.2.2.2.2.2.2.1.1⟩
def Fk(l:List ao)(a:Int):Bool:=l.all (λb=>hu b&&gA b.2.1 a)
def xC(k:Int)(n:Int)(a c e d r b:Bool):Bool:=bif gA k 1 then(gA n 1&&(a&&(c&&(r&&b))))else bif gA k 2 then(gA n 0&&(e&&(c&&(r&&b))))else bif gA k 3 then(gA n 0&&(a&&(d&&b)))else bif gA k 4 then(a&&c)else false
def EB(m:gd):Bool:=fk m.2.1&&(Di m.2.2.1 0 900&&(He (mQ m) 10000 100000&&(JC (mT m) 10000&&((Fk (l8 m) m.2.2.1&&km ((l8 m).length:Int) 400)&&xC m.1 ((l8 m).length:Int) (Y9 m) (U0 m) (TX m) (Wm m) (kf (mQ m)) (rf (mT m))))))
theorem Q6(k:Int)(n:Nat)(f h g e b d c r q a t:Bool):(f&&(h&&(Di k 1 4&&((g&&(km (n:Int) (bif gA k 1 then 1 else bif gA k 4 then 400 else 0)&&(!gA k 1||gA (n:Int) 1)))&&((bif gA k 2 then d else e)&&((bif gA k 2 then b else bif gA k 3 then c else b)&&((r||((gA k 4||gA k 3)&&(r||q)))&&(a||(gA k 4&&(a||t))))))))))=(f&&(h&&((r||q)&&((a||t)&&((g&&km (n:Int) 400)&&xC k (n:Int) e b d c r a))))):=by grind[Di,km,gA,xC,nV]
theorem Q7(q:j8)(h:TV q):QC (q,())=some (B1 (He q 10000 100000)):=by unfold QC He;exact bw (GR q) (DR (bw (l6 _ _ _) (Dy (bw (l6 _ _ _) (Dy (bw (E0 _ h) rfl))))))
theorem Wn(t:sM)(h:UT t):HC (t,())=some (B1 (JC t 10000)):=by
 have b:=BI (S:=Int×Unit) t.2.2.1 (λx=>Di x.1 0 (gS .i64 t.1 1)) (f:=HC.b0 (t,())) (λk=>(k,())) (Sum.inl ((t.2.2.1.length:Int),())) (Sum.inr (B1 false)) (λi a=>?_) ?_;·unfold HC JC;refine bw (EI t) (DR (bw (l6 _ _ _) (Dx (bw (E0 _ h.1) (Dx (Dx ?_))))));grind
 ·unfold HC.b0;refine uL (Int.ofNat_lt.2 a) (bw (cB a) (bw (l6 _ _ _) ?_));rw[<-wG a h.2];grind
 ·unfold HC.b0;exact uM (Int.le_refl _) rfl
theorem Wo(m:gd)(h:Ia m):Ks (m,())=some (B1 (Fk (l8 m) m.2.2.1&&(km ((l8 m).length:Int) (bif gA m.1 1 then 1 else bif gA m.1 4 then 400 else 0)&&(!gA m.1 1||gA ((l8 m).length:Int) 1)))):=by
 have d:Al (l8 m).length:=h.bs.1;have g:=BI (S:=Int×Unit) (l8 m) (λb=>hu b&&gA b.2.1 m.2.2.1) (f:=Ks.b0 (m,())) (λk=>(k,())) (Sum.inl (((l8 m).length:Int),())) (Sum.inr (B1 false)) (λi a=>?_) ?_
 · unfold Ks;have e:(bif gA m.1 (1:Int) then some (.inl ((1:Int),())) else bif gA m.1 (4:Int) then some (.inl ((400:Int),())) else some (.inl ((0:Int),())):Option (Sum (Int×Unit) ((Bool×Unit)×Unit)))=some (.inl ((bif gA m.1 1 then 1 else bif gA m.1 4 then 400 else 0),())):=by grind
   refine bw e (bw g ?_);unfold Fk;grind
 · unfold Ks.b0;have c:En (l8 m)[i]:=Ae h.bs.2 (List.getElem_mem a);refine uL (Int.ofNat_lt.2 a) (bw (cB a) (bw (JD _ c) (DT (bw (cB a) ?_))));rw[<-wG a d];grind
 · unfold Ks.b0;exact uM (Int.le_refl _) rfl
theorem vY{b c:Bool}{A R:Type}{g:A}{K:Option (Sum (Bool×A) R)}(h:K=some (.inl (c,g))):(bif b then K else some (.inl (false,g)))=some (.inl (b&&c,g)):=by grind
theorem gY{b c v:Bool}{R:Type}{K:Option (Sum (Bool×(Bool×Unit)) R)}(h:K=some (.inl (v,(c,())))):(bif b then K else some (.inl (v,(false,()))))=some (.inl (v,(b&&c,()))):=by grind
theorem Za{r a b c n:Bool}{N d e:Option ((Bool×Unit)×Unit)}(h:N=some (B1 n))(f:d=some (B1 (c&&n)))(g:e=some (B1 (c&&n))):(bif r then N else bif a then d else bif b then e else some (B1 false))=some (B1 ((r||((a||b)&&c))&&n)):=by grind
theorem Zb(m:gd)(h:Ia m):ZL (m,())=some (B1 (EB m)):=by
 refine Eq.trans (b:=some (B1 (fk m.2.1&&(Di m.2.2.1 0 900&&(Di m.1 1 4&&((Fk (l8 m) m.2.2.1&&(km ((l8 m).length:Int) (bif gA m.1 1 then 1 else bif gA m.1 4 then 400 else 0)&&(!gA m.1 1||gA ((l8 m).length:Int) 1)))&&((bif gA m.1 2 then TX m else Y9 m)&&((bif gA m.1 2 then U0 m else bif gA m.1 3 then Wm m else U0 m)&&((kf (mQ m)||((gA m.1 4||gA m.1 3)&&He (mQ m) 10000 100000))&&(rf (mT m)||(gA m.1 4&&JC (mT m) 10000))))))))))) ?_ ?_
 · unfold ZL;have a:((Hw (mT m,())).bind λc=>bif c.1.1 then some ((true,()),()) else bif gA m.1 (4:Int) then (HC (mT m,())).bind (λd=>some (d.1,())) else some ((false,()),()))=some (B1 (rf (mT m)||(gA m.1 4&&JC (mT m) 10000))):=bw (EI _) (DR (Dy (bw (Wn _ h.t) rfl)));refine bw (BE _ h.2.1) (Dx (bw (l6 _ _ _) (Dx (bw (l6 _ _ _) (Dx (bw (Wo m h) (Dx ?_)))))));refine bw (y:=.inl ((bif gA m.1 2 then TX m else Y9 m),((bif gA m.1 2 then U0 m else bif gA m.1 3 then Wm m else U0 m),()))) ?_ ?_;· cases gA m.1 2 with|true=>exact bw (l6 _ _ _) (vY (bw (l6 _ _ _) (vY (bw (BE _ h.2.2.2.2.2.2.1) rfl))))|false=>cases gA m.1 3 with|true=>exact bw (l6 _ _ _) (gY (bw (l6 _ _ _) (gY (gY (bw (BE _ h.2.2.2.2.2.2.2.2.2.1) rfl)))))|false=>rfl
   · refine Dy (Dy (bw (GR (mQ m)) ?_));exact Za a (bw (Q7 (mQ m) h.q) (Dy a)) (bw (Q7 (mQ m) h.q) (Dy a))
 · refine congrArg (λz=>some (B1 z)) ?_;exact Q6 m.1 (l8 m).length (fk m.2.1) (Di m.2.2.1 0 900) (Fk (l8 m) m.2.2.1) (Y9 m) (U0 m) (TX m) (Wm m) (kf (mQ m)) _ (rf (mT m)) _
theorem wc{A:Type}{p:Nat->A->Bool}:∀{k:Nat}{l:List A},(∀i(h:i<l.length),p (k+i) l[i]=true)->iK p k l=true|_,[],_=>rfl|k,x::r,h=>by simp only[iK,Bool.and_eq_true];refine⟨h 0 (Nat.zero_lt_succ _),wc (λi a=>?_)⟩;have :=h (i+1) (by grind);grind
theorem Q8{A:Type}{eq:A->A->Bool}{xs ys:List A}:tw eq xs ys=true↔xs.length=ys.length/\∀i(h:i<xs.length)(a:i<ys.length),eq xs[i] ys[i]=true:=by grind[tw,gA,iK,xJ,nV,wc]
theorem xd{A:Type}{eq:A->A->Bool}(c:∀a b,eq a b=eq b a)(xs ys:List A):tw eq xs ys=tw eq ys xs:=by grind[tw,Q8]
def Hg(bl:List ao)(b:ao):Bool:=match bK bl b.1 with|some z=>rv z b|none=>false
theorem TZ{A:Type}{xs:List A}{k:Int}(a:0<=k)(h:k<(xs.length:Int)):bK xs k=some (xs[k.toNat]'(by omega)):=by grind[bK,cB]
theorem Ic(w:ek)(s:ByteArray)(d:Al w.2.2.2.1.length):Qc (w,((s,()),()))=some (I1 (nY w.2.2.2.1 (λn=>ko n.1 s))):=by
 have e:=Ck (S:=Int×Unit) w.2.2.2.1 (λn=>ko n.1 s) (f:=Qc.b0 (w,((s,()),()))) (λk=>(k,())) (Sum.inl ((w.2.2.2.1.length:Int),())) (λi=>Sum.inr (I1 i)) (λi a=>?_) ?_;·unfold Qc;refine bw e ?_;rcases mA w.2.2.2.1 (λn=>ko n.1 s) with⟨b,_,c⟩|⟨j,g,_,_,b,_,c⟩<;>rw[b,c]<;>rfl
 ·unfold Qc.b0;refine uL (Int.ofNat_lt.2 a) (bw (cB a) ?_);rw[<-wG a d]
 ·unfold Qc.b0;exact uM (Int.le_refl _) rfl
abbrev SS(w:ek):Prop:=Ve.Ok w
theorem SS.an{w:ek}(h:SS w):(Ty.sl e9).Ok w.2.2.1:=h.2.2.1
theorem SS.nodes{w:ek}(h:SS w):(Ty.sl HT).Ok w.2.2.2.1:=h.2.2.2.1
theorem SS.A1{w:ek}(h:SS w):(Ty.sl HU).Ok w.2.2.2.2.2.2.1:=h.2.2.2.2.2.2.1
def JH(n:a0):Prop:=fb (gq n).2.1/\W1 (bb n).length/\W1 (ar n).length/\(∀b∈ar n,dT b)/\W1 (List.length (bx n).2.2.1)/\W1 (List.length (Fj n).2.1)/\W1 (List.length (Fj n).2.2.1)/\W1 (List.length (ei n))/\W1 (List.length (eD n))/\W1 (List.length (nx n))/\W1 (List.length (l9 n))/\W1 (List.length (bk n))/\∀p∈bk n,B0 p
theorem T0(n:a0)(h:JH n):Kk (n,())=some (n,()):=by
 obtain⟨j,o,u,s,l,q,r,p,m,g,d,c,e⟩:=h;have t:=BJ (S:=Int×(List tB×Unit)) (bk n) (f:=Kk.b0 (n,())) (λa k=>(k,(a,()))) (Sum.inl (((bk n).length:Int),(bk n,()))) (λi b=>?_) ?_;·unfold Kk;exact bw (oi (gq n) j) (vP o (by decide) (by decide) (bw (wb _ u s) (bw (EK (bx n) l) (bw (JE (Fj n) q r) (vP p (by decide) (by decide) (vP m (by decide) (by decide) (vP g (by decide) (by decide) (vP d (by decide) (by decide) (bw t rfl)))))))))
 ·unfold Kk.b0;refine uL (Int.ofNat_lt.2 b) (bw (cB b) (bw (QW _ (e _ (List.getElem_mem b))) (BK b c (by decide) (by decide) ?_)));rw[<-wG b c.l];rfl
 ·unfold Kk.b0;exact uM (Int.le_refl _) rfl
theorem U1:∀{x y z:List UInt8},Op.bytesLess x y=true->Op.bytesLess y z=true->Op.bytesLess x z=true
 |x,[],_,h,_=>by cases x<;>simp[Op.bytesLess]at h|_,b::y,[],_,h=>by simp[Op.bytesLess]at h|[],_::_,_::_,_,_=>rfl|a::x,b::y,c::z,d,e=>by
  simp only[Op.bytesLess,Bool.or_eq_true,Bool.and_eq_true,decide_eq_true_eq,beq_iff_eq]at d e⊢;rcases d with d|⟨rfl,d⟩;·grind
  · rcases e with e|⟨rfl,e⟩;· grind
    · exact .inr ⟨rfl,U1 d e⟩
structure Js{A:Type}(lt eq:A->A->Bool):Prop where
 gj:∀a,eq a a=true
 symm:∀a b,eq a b=true->eq b a=true
 T1:∀a b c,eq a b=true->eq b c=true->eq a c=true
 Wr:∀a b c,lt a b=true->eq b c=true->lt a c=true
 Ws:∀a b c,eq a b=true->lt b c=true->lt a c=true
 tr:∀a b c,lt a b=true->lt b c=true->lt a c=true
 Ra:∀a b,lt a b=true->eq a b=false
 Xk:∀a b,lt a b=false->eq a b=false->lt b a=true
theorem HJ:Js dO gA where
 gj a:=nV a
 symm a b h:=by grind[gA]
 T1 a b c h k:=by grind[gA]
 Wr a b c h k:=by grind[dO,gA]
 Ws a b c h k:=by grind[dO,gA]
 tr a b c h k:=by grind[dO]
 Ra a b h:=by grind[gA,dO]
 Xk a b h k:=by grind[dO,gA]
theorem xr{a b:ByteArray}:ko a b=true↔a.toList=b.toList:=by grind[ko]
theorem HK:Js ob ko where
 gj a:=xD a
 symm a b h:=xr.2 (xr.1 h).symm
 T1 a b c h k:=xr.2 ((xr.1 h).trans (xr.1 k))
 Wr a b c h k:=by grind[ob,ko,xr]
 Ws a b c h k:=by grind[ob,ko,xr]
 tr a b c h k:=U1 h k
 Ra a b h:=by grind[ko,ob,KG]
 Xk a b h k:=by grind[ob,ko,yX]
theorem Js.LC{A B:Type}{lt eq:B->B->Bool}(h:Js lt eq)(f:A->B):Js (λa b=>lt (f a) (f b)) (λa b=>eq (f a) (f b)):=⟨λa=>h.gj _,λa b=>h.symm _ _,λa b c=>h.T1 _ _ _,λa b c=>h.Wr _ _ _,λa b c=>h.Ws _ _ _,λa b c=>h.tr _ _ _,λa b=>h.Ra _ _,λa b=>h.Xk _ _⟩
theorem lx{e x y:Bool}:(bif !e then x else y)=true↔(e=false/\x=true)\/(e=true/\y=true):=by grind
theorem lx0{e x y:Bool}:(bif !e then x else y)=false↔(e=false/\x=false)\/(e=true/\y=false):=by grind
theorem Js.Z0{A:Type}{i f g j:A->A->Bool}(h:Js i f)(k:Js g j):Js (λa b=>bif !f a b then i a b else g a b) (λa b=>f a b&&j a b)where
 gj a:=by rw[h.gj,k.gj];rfl
 symm a b q:=by simp only[Bool.and_eq_true]at q⊢;exact⟨h.symm _ _ q.1,k.symm _ _ q.2⟩
 T1 a b c q r:=by simp only[Bool.and_eq_true]at q r⊢;exact⟨h.T1 _ _ _ q.1 r.1,k.T1 _ _ _ q.2 r.2⟩
 Wr a b c q r:=by
  simp only[Bool.and_eq_true]at r;rcases lx.1 q with⟨u,v⟩|⟨u,v⟩;·have :=h.Wr _ _ _ v r.1;exact lx.2 (.inl ⟨h.Ra _ _ this,this⟩)
  ·exact lx.2 (.inr ⟨h.T1 _ _ _ u r.1,k.Wr _ _ _ v r.2⟩)
 Ws a b c q r:=by
  simp only[Bool.and_eq_true]at q;rcases lx.1 r with ⟨u,v⟩|⟨u,v⟩;·have :=h.Ws _ _ _ q.1 v;exact lx.2 (.inl ⟨h.Ra _ _ this,this⟩)
  ·exact lx.2 (.inr ⟨h.T1 _ _ _ q.1 u,k.Ws _ _ _ q.2 v⟩)
 tr a b c q r:=by
  rcases lx.1 q with ⟨u,v⟩|⟨u,v⟩
  · rcases lx.1 r with ⟨e,d⟩|⟨e,d⟩;· have :=h.tr _ _ _ v d;exact lx.2 (.inl ⟨h.Ra _ _ this,this⟩)
    · have :=h.Wr _ _ _ v e;exact lx.2 (.inl ⟨h.Ra _ _ this,this⟩)
  · rcases lx.1 r with ⟨e,d⟩|⟨e,d⟩;· have :=h.Ws _ _ _ u d;exact lx.2 (.inl ⟨h.Ra _ _ this,this⟩)
    · exact lx.2 (.inr ⟨h.T1 _ _ _ u e,k.tr _ _ _ v d⟩)
 Ra a b q:=by
  rcases lx.1 q with ⟨u,v⟩|⟨u,v⟩;· grind
  · rw[k.Ra _ _ v,Bool.and_false]
 Xk a b q r:=by
  rcases lx0.1 q with ⟨u,v⟩|⟨u,v⟩;· have :=h.Xk _ _ v u;exact lx.2 (.inl ⟨h.Ra _ _ this,this⟩)
  · rw[u,Bool.true_and]at r;exact lx.2 (.inr ⟨h.symm _ _ u,k.Xk _ _ v r⟩)
def Rb(a b:cl):Bool:=ko a.2.1 b.2.1&&(gA a.2.2.2.2.1 b.2.2.2.2.1&&(gA a.1 b.1&&(ko a.2.2.1 b.2.2.1&&gA a.2.2.2.1 b.2.2.2.1)))
theorem Zg:Js rS Rb:=(HK.LC (λa:cl=>a.2.1)).Z0 ((HJ.LC (λa:cl=>a.2.2.2.2.1)).Z0 ((HJ.LC (λa:cl=>a.1)).Z0 ((HK.LC (λa:cl=>a.2.2.1)).Z0 (HJ.LC (λa:cl=>a.2.2.2.1)))))
theorem Rc{A:Type}{p:Nat->A->Bool}{l:List A}:iK p 0 l=true↔∀i x,l[i]?=some x->p i x=true:=by grind[iK,xJ,wc]
def Rd(l:List cl):Prop:=∀(i j:Nat)(x y:cl),l[i]?=some x->l[j]?=some y->i<j->rS x y=true
theorem Pb{l:List cl}(h:iK (H9 l) 0 l=true):Rd l:=by
 have g:=Rc.1 h;have f:∀i x y,l[i]?=some x->l[i+1]?=some y->rS x y=true:=λi x y b a=>by have :=g (i+1) y a;unfold H9 lO at this;grind
 have e:∀d i x y,l[i]?=some x->l[i+1+d]?=some y->rS x y=true:=by intro d;induction d with|zero=>omega|succ d k=>
  intro i x y b a;have c:i+1+d<l.length:=by grind
  exact (Zg).tr _ _ _ (k i x _ b (List.getElem?_eq_getElem c)) (f (i+1+d) _ y (List.getElem?_eq_getElem c) a)
 intro i j x y b a m;exact e (j-(i+1)) i x y b (by rwa[show i+1+(j-(i+1))=j by omega])
def Wu{A:Type}(lt:A->A->Bool)(l:List A):Prop:=∀i j(a:i<l.length)(b:j<l.length),i<j->lt l[i] l[j]=true
theorem Re{A:Type}{lt:A->A->Bool}(n:∀a b c,lt a b=true->lt b c=true->lt a c=true){l:List A}(h:∀i(e:i<l.length),lO lt l i l[i]=true):Wu lt l:=by
 have f:∀d i(e:i<l.length)(g:i+1+d<l.length),lt l[i] l[i+1+d]=true:=by intro d;induction d with|zero=>grind[lO,mz]|succ d o=>grind[lO,mz]
 intro i j e g k;have m:=f (j-(i+1)) i e (by omega);grind
def Eo(l:List bF)(s:ByteArray):Int:=nY l (λa=>ko a.1 s)
theorem C0(l:List bF)(s:ByteArray)(e:Al l.length):Hx ((l,()),((s,()),()))=some (I1 (Eo l s)):=by
 have g:=Ck (S:=Int×Unit) l (λa=>ko a.1 s) (f:=Hx.b0 ((l,()),((s,()),()))) (λk=>(k,())) (Sum.inl ((l.length:Int),())) (λi=>Sum.inr (I1 i)) (λi b=>?_) ?_;·unfold Hx Eo;refine bw g ?_;rcases mA l (λa=>ko a.1 s) with⟨c,_,d⟩|⟨j,h,_,_,c,_,d⟩<;>rw[c,d]<;>rfl
 ·unfold Hx.b0;refine uL (Int.ofNat_lt.2 b) (bw (cB b) ?_);rw[<-wG b e]
 ·unfold Hx.b0;exact uM (Int.le_refl _) rfl
def wt(n a:Int):List e6->List e6|[]=>[(n,(a,()))]|x::r=>bif gA x.2.1 a then(cM .i64 x.1 n,(x.2.1,()))::r else bif dO a x.2.1 then(n,(a,()))::x::r else x::wt n a r
def p6(n a:Int)(s:List e6×Bool)(x:e6):List e6×Bool:=bif s.2 then(s.1++[x],true)else bif gA x.2.1 a then(s.1++[(cM .i64 x.1 n,(x.2.1,()))],true)else bif dO a x.2.1 then(s.1++[(n,(a,()))]++[x],true)else(s.1++[x],false)
def F4(n a:Int)(s:List e6×Bool):List e6:=bif s.2 then s.1 else s.1++[(n,(a,()))]
theorem GU(n b:Int):∀(xs a:List e6),F4 n b (xs.foldl (p6 n b) (a,true))=a++xs|[],a=>by simp[F4]|x::r,a=>by have :=GU n b r (a++[x]);simpa[p6]using this
theorem Ig(n b:Int):∀(xs a:List e6),F4 n b (xs.foldl (p6 n b) (a,false))=a++wt n b xs|[],a=>rfl|x::r,a=>by simp only[List.foldl_cons,wt];unfold p6;cases c:gA x.2.1 b with|true=>exact (GU n b r _).trans (by simp)|false=>cases d:dO b x.2.1 with|true=>exact (GU n b r _).trans (by simp)|false=>exact (Ig n b r _).trans (by simp)
theorem T2(xs:List e6)(n c:Int)(p:xs.length<=4):Ko ((xs,()),((n,()),((c,()),())))=some ((wt n c xs,()),()):=by
 have j:Al xs.length:=by omega
 have h:=(xL (S:=List e6×(Bool×(Int×Unit))) xs (p6 n c) (λi s=>s.1.length<=2*i) (f:=Ko.b0 ((xs,()),((n,()),((c,()),())))) (λs k=>(s.1,(s.2,(k,())))) (λs=>Sum.inl (s.1,(s.2,((xs.length:Int),())))) ([],false) (Nat.le_refl _) (λi d s l=>?_) (λs _=>?_));·unfold Ko;refine bw h.1 ?_;have e:=h.2;have g:=Ig n c xs [];rw [List.nil_append]at g;rw [<-g];unfold F4;revert e;cases (xs.foldl (p6 n c) ([],false)) with|mk a b=>intro e;cases b with|true=>rfl|false=>have :dE (a.length+1) 16=true:=qp (by grind) (by decide) (by decide);simp_all [e6,dE,bV]
 · obtain⟨a,b⟩:=s;simp only at l;refine⟨?_,?_⟩;· unfold Ko.b0;refine uL (Int.ofNat_lt.2 d) (bw (cB d) ?_);have o:dE (a.length+1) 16=true:=qp (by omega) (by decide) (by decide);have r:dE (a.length+1+1) 16=true:=qp (by omega) (by decide) (by decide);unfold p6;rw [<-wG d j];cases b with|true=>simp_all [e6,gA,cM,dO,dE,bV]|false=>cases m:gA xs[i].2.1 c with|true=>simp_all [e6,cM,dO,dE,bV]|false=>cases q:dO c xs[i].2.1 with|true=>simp_all [e6,cM,dE,bV]|false=>simp_all [e6,cM,dE,bV]
   · unfold p6;grind
 · unfold Ko.b0;exact uM (Int.le_refl _) rfl
theorem A2{A:Type}{l:List A}{k:Nat}{x:A}(h:l[k]?=some x):bK l (k:Int)=some x:=by grind[bK,cB]
theorem A3{A:Type}{l:List A}{k:Nat}{x:A}(h:l[k]?=some x):aC l (Int.toNat (k:Int))=some x:=h
theorem dd{A:Type}{b:Bool}{t e r:A}(h:b=true)(a:t=r):(bif b then t else e)=r:=by grind
theorem DQ{A B F:Type}{a d:A}{b c:B}(e:a=d)(f:b=c):(some (Sum.inl (a,(b,()))):Option (Sum (A×(B×Unit)) F))=some (Sum.inl (d,(c,()))):=by grind
def xx(s:ByteArray)(n:Int):bF:=(s,(n,(0,(0,([],())))))
theorem Ih(n b:Int)(d:(Lit.int .i64 n).wf=true)(e:(Lit.int .i64 b).wf=true):∀xs:List e6,(∀y∈xs,Et.Ok y)->∀y∈wt n b xs,Et.Ok y|[],_,y,a=>by simp only[wt,List.mem_singleton]at a;subst a;exact⟨d,e,trivial⟩|x::r,h,y,a=>by have g:=h x (List.mem_cons_self ..);simp only[wt]at a;cases c:gA x.2.1 b with
 |true=>
 rw[c]at a;rcases List.mem_cons.1 a with rfl|a;·exact⟨Dm .i64 _,g.2.1,trivial⟩
 grind|false=>cases f:dO b x.2.1 with
 |true=>
 rw[c,f]at a;rcases List.mem_cons.1 a with rfl|a;·exact⟨d,e,trivial⟩
 grind|false=>
 rw[c,f]at a;rcases List.mem_cons.1 a with rfl|a;·exact g
 ·exact Ih n b d e r (λz i=>h z (List.mem_cons_of_mem _ i)) y a
theorem Hh(n a:Int):∀xs:List e6,(wt n a xs).length<=xs.length+1|[]=>Nat.le_refl _|x::r=>by have :=Hh n a r;simp only[wt];grind
theorem n5{x:fp}(h:bm x=true):x.2.1.length<=12/\(∀a∈x.2.1,List.length a.2.2.2.2.1<=4/\Wu (λz y=>dO z.2.1 y.2.1) a.2.2.2.2.1)/\Wu (λz y=>ob z.1 y.1) x.2.1:=by
 unfold bm py at h;simp only[Bool.and_eq_true]at h;obtain⟨_,g,l,_⟩:=h;have e:∀i (d:i<x.2.1.length),o0 x.2.1[i]=true/\lO (λz y=>ob z.1 y.1) x.2.1 i x.2.1[i]=true:=λi d=>by have :=xJ g i d;simp_all[o0,bF,lO,ob,e6,AS]
 refine⟨by simp only[km,decide_eq_true_eq]at l;omega,λa n=>?_,Re (lt:=λ(z y:bF)=>ob z.1 y.1) (λa b c=>(HK).tr a.1 b.1 c.1) (λi d=>(e i d).2)⟩;obtain⟨i,d,rfl⟩:=List.getElem_of_mem n;have :=(e i d).1;unfold o0 at this;simp only[Bool.and_eq_true]at this;obtain⟨_,_,_,_,j,f⟩:=this;refine⟨by simp only[km,decide_eq_true_eq]at j;omega,Re (lt:=λ(z y:e6)=>dO z.2.1 y.2.1) (λa b c=>(HJ).tr a.2.1 b.2.1 c.2.1) (λk m=>?_)⟩;unfold re at f;have :=xJ f k m;simp_all[Di,e6,bF,lO,dO,FZ]
theorem F5{x:fp}(h:bm x=true):fb x.2.1:=⟨by have :=(n5 h).1;omega,λa b=>by have :=((n5 h).2.1 a b).1;omega⟩
def Wv(t:cl)(a:bF):Int:=bif gA t.1 3 then a.2.2.2.1 else a.2.1
theorem KI(t:cl)(a:bF){R:Type}:(bif gA t.1 3 then some (Sum.inl (a.2.2.2.1,()))else some (Sum.inl (a.2.1,())))=some (Sum.inl (Wv t a,()):Sum (Int×Unit) R):=by unfold Wv;grind
noncomputable def se(L:fp)(t:cl):fp×Int:=match GK (L,(t,()))with|some (R,((c,()),()))=>(R,c)|none=>(L,0)
noncomputable def Ed(s:Int×fp)(t:cl):Int×fp:=(bif gA (se s.2 t).2 0 then cM .i64 s.1 1 else s.1,(se s.2 t).1)
noncomputable def Ii(L:fp)(a:List cl):Int×fp:=a.foldl Ed (0,L)
def iv(e:Int)(s:List e6×Int)(x:e6):List e6×Int:=bif km x.2.1 e then(s.1,cM .i64 s.2 x.1)else(s.1++[x],s.2)
def kb(e:Int)(a:bF):List e6×Int:=a.2.2.2.2.1.foldl (iv e) ([],a.2.1)
def ft(e:Int)(a:bF):bF:=(a.1,((kb e a).2,(a.2.2.1,(a.2.2.2.1,((kb e a).1,())))))
theorem FF(e:Int):∀(xs:List e6)(s:List e6×Int),(Lit.int .i64 s.2).wf=true->(∀y∈s.1,Et.Ok y)->(∀y∈xs,Et.Ok y)->(Lit.int .i64 (xs.foldl (iv e) s).2).wf=true/\(∀y∈(xs.foldl (iv e) s).1,Et.Ok y)/\(xs.foldl (iv e) s).1.length<=s.1.length+xs.length
 |[],s,a,b,_=>⟨a,b,Nat.le_refl _⟩|x::r,s,a,b,f=>by
  have i:=f x (List.mem_cons_self ..);have d:=λy c=>f y (List.mem_cons_of_mem _ c)
  simp only[List.foldl_cons,List.length_cons];cases h:km x.2.1 e with|true=>
  have :iv e s x=(s.1,cM .i64 s.2 x.1):=by unfold iv;grind
  rw[this];have g:=FF e r (s.1,cM .i64 s.2 x.1) (Dm .i64 _) b d;grind|false=>
 have :iv e s x=(s.1++[x],s.2):=by unfold iv;grind
 rw[this];have g:=FF e r (s.1++[x],s.2) a (λy c=>by grind) d;grind
theorem Pd(e:Int)(a:bF)(h:cz.Ok a):cz.Ok (ft e a):=by
 have c:=FF e a.2.2.2.2.1 ([],a.2.1) h.2.1 (λy b=>by cases b) (λy b=>Ae h.2.2.2.2.1.2 b);have d:(a.2.2.2.2.1.foldl (iv e) ([],a.2.1)).1.length<=List.length a.2.2.2.2.1:=by grind
 exact⟨h.1,c.1,h.2.2.1,h.2.2.2.1,Dk (Nat.le_trans d h.2.2.2.2.1.1) c.2.1,trivial⟩
theorem M9(e:Int)(a:bF):List.length (ft e a).2.2.2.2.1<=List.length a.2.2.2.2.1:=by
 have d:∀(xs:List e6)(s:List e6×Int),(xs.foldl (iv e) s).1.length<=s.1.length+xs.length:=by intro xs;induction xs with|nil=>grind|cons x r c=>
  intro s;have :=c (iv e s x);have f:(iv e s x).1.length<=s.1.length+1:=by unfold iv;grind
  grind
 have b:(a.2.2.2.2.1.foldl (iv e) ([],a.2.1)).1.length<=List.length a.2.2.2.2.1:=by grind
 exact b
def C3(g:bF->bF)(xs:List bF)(k:Nat):List bF:=(xs.take k).map g++xs.drop k
theorem Rg(g:bF->bF)(xs:List bF)(k:Nat)(h:k<=xs.length):(C3 g xs k).length=xs.length:=by simp_all[bF,C3]
theorem LF(g:bF->bF){xs:List bF}{k:Nat}(h:k<xs.length):(C3 g xs k)[k]?=some xs[k]:=by unfold C3;grind
theorem Rh(g:bF->bF){xs:List bF}{k:Nat}(h:k<xs.length):(C3 g xs k).set k (g xs[k])=C3 g xs (k+1):=by unfold C3;rw[List.set_append_right _ _ (by grind),List.length_map,List.length_take,show k-min k xs.length=0 by omega,List.drop_eq_getElem_cons h,List.set_cons_zero,List.take_succ_eq_append_getElem h,List.map_append,List.append_assoc];rfl
theorem DP{A B C F:Type}{a f:A}{b d:B}{c e:C}(g:a=f)(h:b=d)(i:c=e):(some (Sum.inl (a,(b,(c,())))):Option (Sum (A×(B×(C×Unit))) F))=some (Sum.inl (f,(d,(e,())))):=by grind
theorem Ww(L:fp)(a:List bF)(j:Nat)(h:j<a.length)(n:List.length (a[j]).2.2.2.2.1<=4):aR (vm.b1 ((j:Int),(a,())) (L,())) ([],((0:Int),(a,())))=some (Sum.inl ((kb (cM .i64 L.1 1) a[j]).1,((List.length (a[j]).2.2.2.2.1:Int),(a.set j ((a[j]).1,((kb (cM .i64 L.1 1) a[j]).2,(a[j]).2.2)),())))):=by
 have c:Al (List.length (a[j]).2.2.2.2.1):=by omega
 have m:a.set j ((a[j]).1,((a[j]).2.1,(a[j]).2.2))=a:=List.set_getElem_self h;have g:∀s:Int,aC (a.set j ((a[j]).1,(s,(a[j]).2.2))) (Int.toNat (j:Int))=some ((a[j]).1,(s,(a[j]).2.2)):=λs=>BB h;have o:=(xL (S:=List e6×(Int×(List bF×Unit))) (a[j]).2.2.2.2.1 (iv (cM .i64 L.1 1)) (λk s=>s.1.length<=k) (f:=vm.b1 ((j:Int),(a,())) (L,())) (λs k=>(s.1,(k,(a.set j ((a[j]).1,(s.2,(a[j]).2.2)),())))) (λs=>Sum.inl (s.1,((List.length (a[j]).2.2.2.2.1:Int),(a.set j ((a[j]).1,(s.2,(a[j]).2.2)),())))) ([],(a[j]).2.1) (Nat.le_refl _) (λi b s e=>by have e:s.1.length<=i:=e;have l:dE (s.1.length+1) 16=true:=qp (by omega) (by decide) (by decide);unfold iv;cases d:km ((a[j]).2.2.2.2.1[i]).2.1 (cM .i64 L.1 1) with|true=>refine⟨?_,by grind⟩;unfold vm.b1;refine bw (g s.2) (uL (Int.ofNat_lt.2 b) (bw (g s.2) (bw (cB b) (dd d (bw (g s.2) (bw (g s.2) (bw (cB b) (bw (g s.2) (bw rfl (DP rfl (wG b c) ?_))))))))));simp_all|false=>refine⟨?_,by grind⟩;unfold vm.b1;exact bw (g s.2) (uL (Int.ofNat_lt.2 b) (bw (g s.2) (bw (cB b) (uN d (bw (g s.2) (bw (cB b) (dd l (DP rfl (wG b c) rfl))))))))) (λs _=>by unfold vm.b1;exact bw (g s.2) (uM (Int.le_refl _) rfl))).1;simp_all[e6,bF,Jz,aR,vm.b1,kb,cM]
theorem Wx(e:Int){xs:List bF}{j:Nat}(b:j<xs.length)(a:j<(C3 (ft e) xs j).length):(((C3 (ft e) xs j).set j (((C3 (ft e) xs j)[j]).1,((kb e (C3 (ft e) xs j)[j]).2,((C3 (ft e) xs j)[j]).2.2))).set j (ft e (C3 (ft e) xs j)[j]))=C3 (ft e) xs (j+1):=by have h:=LF (ft e) b;rw[List.getElem?_eq_getElem a]at h;rw[Option.some.inj h,List.set_set];grind[Rh,ft]
def GV{A S E:Type}(a:S->A->Sum S E)(b:S->E):List A->S->E|[],s=>b s|x::r,s=>match a s x with|.inl c=>GV a b r c|.inr e=>e
noncomputable def k0(L:fp):fp:=match vm (L,())with|some (R,())=>R|none=>L
theorem Wy(l:List bF)(s:ByteArray)(p:fb l)(z:List.length l<=1000)(b:bF->Prop)(q:∀a∈l,b a)(C:b (⟨#[]⟩,(0,(0,(0,([],()))))))(t:b (xx s 0)):Y (Ez ((l,()),((s,()),()))) (λy=>List.length y.1.1<=List.length l+1/\(∀a∈y.1.1,b a)/\y.1.1.any (λa=>ko a.1 s)=true):=by
 unfold Ez;refine Y.eq (F1 l p) (Y.eq (C0 l s p.1.l) (Y.DY (λh=>Y.mk ⟨Nat.le_succ _,q,?_⟩) (λh=>Y.dE (by grind) (by decide) (by decide) ?_)))
 · have h:km 0 (Eo l s)=true:=h;have h:=Cq.1 h;rcases mA l (λa=>ko a.1 s)with⟨_,_,A⟩|⟨j,E,_,_,i,_,_⟩;· simp_all[Eo,bF,ko,e6]
   omega
 · refine Y.DZ (P:=λv=>0<=v.1/\v.1<(List.length v.2.1:Int)/\List.length v.2.1=List.length l+1/\∀a∈v.2.1,b a) (R:=λ_=>False) (Y.loop (I:=λv=>0<=v.1/\v.1<(List.length v.2.1:Int)/\List.length v.2.1=List.length l+1/\∀a∈v.2.1,b a) (λv=>v.1.toNat) (λv m=>?_) _ ?_) (λv m=>?_) (λ_ h=>h.elim);· obtain⟨k,o,u⟩:=v;obtain⟨c,d,g,f⟩:=m;dsimp only at c d g f;unfold Ez.b0;refine Y.DY (λn=>?_) (λ_=>Y.rl ⟨c,d,g,f⟩);have n:0<k:=Cp.1 n;have e:gS .i64 k 1=k-1:=iz (by omega) (by omega);refine Y.Eb (by grind) (by grind) λw _=>Y.DY (λ_=>?_) (λ_=>Y.rl ⟨c,d,g,f⟩);refine Y.Eb (by grind) (by grind) λG B=>Y.Eb (by omega) (by omega) λD _=>Y.so (Y.l ?_);grind
   · have e:gS .i64 (List.length (bV l [((⟨#[]⟩,(0,(0,(0,([],()))))):bF)]):Int) 1=(List.length l:Int):=by unfold bV;rw [List.length_append,iz]<;>simp only [List.length_cons,List.length_nil]<;>omega
     have r:List.length (bV l [((⟨#[]⟩,(0,(0,(0,([],()))))):bF)])=List.length l+1:=by simp_all [bF,bV,e6]
     refine⟨?_,?_,r,λa i=>?_⟩;· grind
     · grind
     · rcases List.mem_append.1 i with h|h;· grind
       grind
   · obtain⟨k,o,u⟩:=v;obtain⟨c,d,g,f⟩:=m;dsimp only at c d g f;refine Y.Eb c d λx _=>Y.so (Y.mk ⟨?_,?_,?_⟩);· grind
     · intro a i;rcases List.mem_or_eq_of_mem_set i with F|rfl;· grind
       · exact t
     · rw [List.any_eq_true];exact⟨_,List.mem_set (show k.toNat<o.length by omega) _,by simp [ko]⟩
theorem T3(L:fp)(t:cl)(j:Nat)(φ:j<L.2.1.length)(V:(Ty.sl cz).Ok L.2.1)(O:bm L=true)(S:i3.Ok t)(π:NG t=true):∃R:fp,Qy (L,(t,(((j:Int),()),())))=some (R,())/\(Ty.sl cz).Ok R.2.1/\R.1=L.1:=by
 obtain⟨μ,Z,_⟩:=n5 O;let n:bF->Prop:=λa=>cz.Ok a/\List.length a.2.2.2.2.1<=4;have W:=F5 O;have Q:∀a∈L.2.1,n a:=λa i=>⟨Ae V.2 i,(Z a i).1⟩;have r:∀{l:List bF}{k:Nat}{b:bF},(∀a∈l,n a)->n b->∀a∈l.set k b,n a:=λh τ a i=>by grind
 have B:∀x y:Int,(Lit.int .i64 (cM .i64 x y)).wf=true:=λx y=>Dm .i64 _;have J:∀x y:Int,(Lit.int .i64 (gS .i64 x y)).wf=true:=λx y=>Dm .i64 _;have δ:Y (Qy (L,(t,(((j:Int),()),())))) (λy=>(List.length y.1.2.1<=1000/\∀a∈y.1.2.1,cz.Ok a)/\y.1.1=L.1):=by
  unfold Qy;refine Y.eq (oi L W) (Y.Eb (Int.natCast_nonneg _) (by grind) λG U=>Y.nT (by grind) λo F=>Y.so ?_);have C:=Q _ F;have p:∀a∈L.2.1.set (Int.toNat (j:Int)) (o.1,(o.2.1,(cM .i64 G.2.2.1 (1:Int),o.2.2.2))),n a:=r Q ⟨⟨C.1.1,C.1.2.1,B _ _,C.1.2.2.2⟩,C.2⟩;have γ:List.length (L.2.1.set (Int.toNat (j:Int)) (o.1,(o.2.1,(cM .i64 G.2.2.1 (1:Int),o.2.2.2))))=L.2.1.length:=List.length_set;dsimp only;generalize L.2.1.set (Int.toNat (j:Int)) (o.1,(o.2.1,(cM .i64 G.2.2.1 (1:Int),o.2.2.2)))=m at p γ;have e:(Int.toNat (j:Int))<m.length:=by omega
  refine Y.DZ (P:=λv=>List.length v.1<=1000/\∀a∈v.1,cz.Ok a) (R:=λ_=>False) (Y.DY (λ_=>?_) (λ_=>Y.DY (λ_=>?_) (λ_=>?_))) (λv ε=>Y.mk ⟨ε,rfl⟩) (λ_ h=>h.elim)
  · refine Y.nT e λg _=>Y.nT e λc w=>Y.so ?_;have d:=p _ w;have f:∀a∈m.set (Int.toNat (j:Int)) (c.1,(gS .i64 g.2.1 t.2.2.2.1,c.2.2)),n a:=r p ⟨⟨d.1.1,J _ _,d.1.2.2⟩,d.2⟩;have s:List.length (m.set (Int.toNat (j:Int)) (c.1,(gS .i64 g.2.1 t.2.2.2.1,c.2.2)))=L.2.1.length:=by grind
    generalize m.set (Int.toNat (j:Int)) (c.1,(gS .i64 g.2.1 t.2.2.2.1,c.2.2))=u at f s;refine Y.bind (Wy u t.2.2.1 ⟨by omega,λa i=>by grind⟩ (by omega) n f ⟨⟨Nat.zero_le _,rfl,rfl,rfl,CK,trivial⟩,Nat.zero_le _⟩ ⟨⟨S.2.2.1,rfl,rfl,rfl,CK,trivial⟩,Nat.zero_le _⟩) λκ I=>?_;obtain ⟨⟨A,_⟩,_⟩:=κ;obtain ⟨θ,M,α⟩:=I;dsimp only at θ M α;refine Y.eq (C0 A t.2.2.1 (by omega)) ?_;rcases mA A (λa=>ko a.1 t.2.2.1) with ⟨z,_,_⟩|⟨k,ψ,_,_,_,_,E⟩;· grind
    · have E:Eo A t.2.2.1=(k:Int):=E;have N:(k:Int)<(List.length A:Int):=by omega
      dsimp only[I1];rw[E];refine Y.Eb (Int.natCast_nonneg _) N λρ _=>Y.Eb (Int.natCast_nonneg _) N λσ X=>Y.so (Y.l ⟨?_,λa i=>(r M ?_ a i).1⟩);· grind
      · have q:=M _ X;exact ⟨⟨q.1.1,B _ _,q.1.2.2⟩,q.2⟩
  · refine Y.nT e λg _=>Y.nT e λc w=>Y.so ?_;have d:=p _ w;have f:∀a∈m.set (Int.toNat (j:Int)) (c.1,(gS .i64 g.2.1 t.2.2.2.1,c.2.2)),n a:=r p ⟨⟨d.1.1,J _ _,d.1.2.2⟩,d.2⟩;have s:List.length (m.set (Int.toNat (j:Int)) (c.1,(gS .i64 g.2.1 t.2.2.2.1,c.2.2)))=L.2.1.length:=by grind
    generalize m.set (Int.toNat (j:Int)) (c.1,(gS .i64 g.2.1 t.2.2.2.1,c.2.2))=u at f s;have e:(Int.toNat (j:Int))<u.length:=by omega
    refine Y.nT e λT _=>Y.nT e λβ D=>Y.so (Y.l ⟨?_,λa i=>(r f ?_ a i).1⟩);· grind
    · have q:=f _ D;exact ⟨⟨q.1.1,q.1.2.1,q.1.2.2.1,B _ _,q.1.2.2.2.2⟩,q.2⟩
  · refine Y.nT e λg _=>Y.nT e λc w=>Y.so ?_;have d:=p _ w;have f:∀a∈m.set (Int.toNat (j:Int)) (c.1,(c.2.1,(c.2.2.1,(gS .i64 g.2.2.2.1 t.2.2.2.1,c.2.2.2.2)))),n a:=r p ⟨⟨d.1.1,d.1.2.1,d.1.2.2.1,J _ _,d.1.2.2.2.2⟩,d.2⟩;have s:List.length (m.set (Int.toNat (j:Int)) (c.1,(c.2.1,(c.2.2.1,(gS .i64 g.2.2.2.1 t.2.2.2.1,c.2.2.2.2)))))=L.2.1.length:=by grind
    generalize m.set (Int.toNat (j:Int)) (c.1,(c.2.1,(c.2.2.1,(gS .i64 g.2.2.2.1 t.2.2.2.1,c.2.2.2.2))))=u at f s;have e:(Int.toNat (j:Int))<u.length:=by omega
    refine Y.nT e λT I=>?_;have K:=f _ I;refine Y.eq (T2 T.2.2.2.2.1 t.2.2.2.1 _ K.2) (Y.nT e λβ D=>Y.so (Y.l ⟨?_,?_⟩));· grind
    · intro a i;rcases List.mem_or_eq_of_mem_set i with z|rfl;· exact (f a z).1
      · have q:=f _ D;refine ⟨q.1.1,q.1.2.1,q.1.2.2.1,q.1.2.2.2.1,Dk ?_ (Ih _ _ S.2.2.2.1 (B _ _) _ (λy H=>Ae K.1.2.2.2.2.1.2 H)),trivial⟩;exact Nat.le_trans (Hh _ _ _) (Nat.le_trans (Nat.succ_le_succ K.2) (by decide))
 obtain ⟨y,H,⟨z,U⟩,F⟩:=δ;exact ⟨y.1,H,Dk (Nat.le_trans z (by decide)) U,F⟩
theorem Ij(L:fp)(t:cl)(b:(Ty.sl cz).Ok L.2.1)(d:fb L.2.1)(r:i3.Ok t):∃(R:fp)(c:Int),GK (L,(t,()))=some (R,((c,()),()))/\(Ty.sl cz).Ok R.2.1/\fb R.2.1/\(gA c 0=false->R=L)/\(R=L\/bm R=true)/\R.1=L.1:=by have w:=d.1.l;have i:=oi L d;have g:=C0 L.2.1 t.2.1 w;have sl:=tv L b;have f:=We t ⟨r.2.1,r.2.2.1⟩;cases s:bm L with|false=>rw[s]at sl;refine ⟨L,1,?_,b,d,λ_=>rfl,.inl rfl,rfl⟩;·unfold GK;grind|true=>rw[s]at sl;cases p:NG t with|false=>rw[p]at f;refine ⟨L,1,?_,b,d,λ_=>rfl,.inl rfl,rfl⟩;·unfold GK;grind|true=>
 rw[p]at f;rcases mA L.2.1 (λa=>ko a.1 t.2.1)with ⟨_,_,e⟩|⟨j,k,_,_,_,_,e⟩;·have e:Eo L.2.1 t.2.1=-1:=e;rw[e]at g;refine ⟨L,2,?_,b,d,λ_=>rfl,.inl rfl,rfl⟩;·unfold GK;exact bw i (bw sl (uN rfl (bw f (uN rfl (bw g (dd rfl rfl))))))
 ·have e:Eo L.2.1 t.2.1=(j:Int):=e;rw[e]at g;have m:dO (j:Int) 0=false:=dD (Int.natCast_nonneg j);cases y:gA (L.2.1[j]).2.2.1 t.2.2.2.2.1 with|false=>refine ⟨L,3,?_,b,d,λ_=>rfl,.inl rfl,rfl⟩;·unfold GK;exact bw i (bw sl (uN rfl (bw f (uN rfl (bw g (uN m (bw (cB k) (bw (KI t _) (dd (by grind) rfl)))))))))|true=>cases q:dO (Wv t L.2.1[j]) t.2.2.2.1 with|true=>refine ⟨L,4,?_,b,d,λ_=>rfl,.inl rfl,rfl⟩;·unfold GK;exact bw i (bw sl (uN rfl (bw f (uN rfl (bw g (uN m (bw (cB k) (bw (KI t _) (uN (by grind) (dd q rfl))))))))))|false=>obtain ⟨R,u,v,x⟩:=T3 L t j k b s r p;have n:=tv R v;cases o:bm R with|false=>rw[o]at n;refine ⟨L,5,?_,b,d,λ_=>rfl,.inl rfl,rfl⟩;·unfold GK;exact bw i (bw sl (uN rfl (bw f (uN rfl (bw g (uN m (bw (cB k) (bw (KI t _) (uN (by grind) (uN q (bw u (bw n (dd rfl rfl)))))))))))))|true=>rw[o]at n;refine ⟨R,0,?_,v,F5 o,λh=>by simp[gA]at h,.inr o,x⟩;·unfold GK;exact bw i (bw sl (uN rfl (bw f (uN rfl (bw g (uN m (bw (cB k) (bw (KI t _) (uN (by grind) (uN q (bw u (bw n (uN rfl rfl)))))))))))))
theorem E4(L:fp)(t:cl)(b:(Ty.sl cz).Ok L.2.1)(a:fb L.2.1)(e:i3.Ok t):GK (L,(t,()))=some ((se L t).1,(((se L t).2,()),()))/\(Ty.sl cz).Ok (se L t).1.2.1/\fb (se L t).1.2.1/\(gA (se L t).2 0=false->(se L t).1=L)/\((se L t).1=L\/bm (se L t).1=true)/\(se L t).1.1=L.1:=by
 obtain⟨R,c,d,j,h,f,i,g⟩:=Ij L t b a e;have :se L t=(R,c):=by unfold se;rw[d]
 grind
theorem C4(L:fp)(a:List cl)(j:(Ty.sl cz).Ok L.2.1)(d:fb L.2.1)(g:(Ty.sl i3).Ok a):H2 (L,((a,()),()))=some ((Ii L a).2,(((Ii L a).1,()),()))/\(Ty.sl cz).Ok (Ii L a).2.2.1/\fb (Ii L a).2.2.1:=by have h:Al a.length:=g.1;have c:=xL (S:=Int×(Int×(Int×(List bF×Unit)))) a Ed (λ_ s=>(Ty.sl cz).Ok s.2.2.1/\fb s.2.2.1) (f:=H2.b0 (L,((a,()),()))) (λs k=>(s.1,(k,(s.2.1,(s.2.2.1,()))))) (λs=>Sum.inl (s.1,((a.length:Int),(s.2.1,(s.2.2.1,()))))) (0,L) ⟨j,d⟩ (λi b s e=>by obtain⟨l,n,m,o,_⟩:=E4 s.2 a[i] e.1 e.2 (Ae g.2 (List.getElem_mem b));refine⟨?_,n,m⟩;unfold H2.b0 Ed;refine uL (Int.ofNat_lt.2 b) (bw (cB b) (bw l ?_));rw[<-wG b h];grind) (λs _=>by unfold H2.b0;exact uM (Int.le_refl _) rfl);refine⟨?_,c.2.1,c.2.2⟩;·unfold H2;exact bw (oi L d) (bw c.1 rfl)
theorem GX(L:fp)(i:(Ty.sl cz).Ok L.2.1)(d:fb L.2.1):∃R:fp,vm (L,())=some (R,())/\(Ty.sl cz).Ok R.2.1/\fb R.2.1/\(R=L\/R=(cM .i64 L.1 1,(L.2.1.map (ft (cM .i64 L.1 1)),()))/\bm L=true/\bm R=true)/\(bm L=true->bm (cM .i64 L.1 1,(L.2.1.map (ft (cM .i64 L.1 1)),()))=true->R=(cM .i64 L.1 1,(L.2.1.map (ft (cM .i64 L.1 1)),()))):=by have m:=oi L d;have sl:=tv L i;cases o:bm L with|false=>rw[o]at sl;refine⟨L,?_,i,d,.inl rfl,λh=>by cases h⟩;·unfold vm;grind|true=>
 rw[o]at sl;obtain⟨v,x,_⟩:=n5 o;have s:Al L.2.1.length:=d.1.l;let e:=cM .i64 L.1 1;let R:fp:=(e,(L.2.1.map (ft e),()));have p:(Ty.sl cz).Ok R.2.1:=Dk (by show (L.2.1.map (ft e)).length<=_;grind) (λy n=>by obtain⟨a,j,rfl⟩:=List.mem_map.1 n;exact Pd e a (Ae i.2 j));have t:fb R.2.1:=⟨by grind,λy n=>by obtain⟨a,j,rfl⟩:=List.mem_map.1 n;exact Nat.le_trans (M9 e a) (d.2 a j)⟩;have w:C3 (ft e) L.2.1 L.2.1.length=L.2.1.map (ft e):=by simp_all[bF,C3,ft]
 have u:∀k (c:k<L.2.1.length) (b:k<(C3 (ft e) L.2.1 k).length),List.length ((C3 (ft e) L.2.1 k)[k]).2.2.2.2.1<=4:=λk c b=>by have h:=LF (ft e) c;grind
 have r:=cK (f:=vm.b0 (L,())) (λk=>((k:Int),(C3 (ft e) L.2.1 k,()))) L.2.1.length (e:=Sum.inl ((L.2.1.length:Int),(L.2.1.map (ft e),()))) (λk c=>by
 have b:k<(C3 (ft e) L.2.1 k).length:=by rw[Rg _ _ _ (by omega)];exact c
 unfold vm.b0;exact uL (Int.ofNat_lt.2 b) (bw (cB b) (bw (Ww L _ k b (u k c b)) (bw (BB b) (bw rfl (DQ (wG c s) (Wx e c b))))))) (by unfold vm.b0;refine uM (by grind) ?_;grind);have g:=tv R p;cases q:bm R with|false=>rw[q]at g;refine⟨L,?_,i,d,.inl rfl,λ_ h=>by cases h⟩;·unfold vm;exact bw m (bw sl (uN rfl (bw r (bw g (dd rfl (bw m rfl))))))|true=>rw[q]at g;refine⟨R,?_,p,t,.inr ⟨rfl,rfl,by omega⟩,λ_ _=>rfl⟩;·unfold vm;exact bw m (bw sl (uN rfl (bw r (bw g (uN rfl rfl)))))
theorem F8(L:fp)(b:(Ty.sl cz).Ok L.2.1)(a:fb L.2.1):vm (L,())=some (k0 L,())/\(Ty.sl cz).Ok (k0 L).2.1/\fb (k0 L).2.1:=by
 obtain⟨R,c,e,d,_⟩:=GX L b a;have :k0 L=R:=by unfold k0;rw[c]
 grind
theorem LG(L:fp)(b:(Ty.sl cz).Ok L.2.1)(a:fb L.2.1):k0 L=L\/k0 L=(cM .i64 L.1 1,(L.2.1.map (ft (cM .i64 L.1 1)),()))/\bm L=true/\bm (k0 L)=true:=by obtain⟨R,c,f,e,d,_⟩:=GX L b a;simp_all[fp,k0,Jz,vm,bF,cM,ft,bm]
theorem Na(L:fp)(t:cl)(b:(Ty.sl cz).Ok L.2.1)(a:fb L.2.1)(c:i3.Ok t)(h:bm L=true):bm (se L t).1=true:=by obtain⟨_,_,_,_,d,_⟩:=E4 L t b a c;grind
theorem LH:∀(d:List cl)(s:Int×fp),(Ty.sl cz).Ok s.2.2.1->fb s.2.2.1->(∀t∈d,i3.Ok t)->bm s.2=true->bm (d.foldl Ed s).2=true|[],s,_,_,_,h=>h|t::r,s,b,c,a,h=>by obtain⟨_,f,e,_⟩:=E4 s.2 t b c (a t (by simp));exact LH r (Ed s t) f e (λx g=>a x (by grind)) (Na s.2 t b c (a t (by simp)) h)
theorem NN:∀(a:List cl)(s:Int×fp),(Ty.sl cz).Ok s.2.2.1->fb s.2.2.1->(∀t∈a,i3.Ok t)->(a.foldl Ed s).2.1=s.2.1|[],s,_,_,_=>rfl|t::r,s,c,e,b=>by obtain⟨_,f,d,_,_,g⟩:=E4 s.2 t c e (b t (by simp));exact (NN r (Ed s t) f d (λx h=>b x (by grind))).trans g
structure il(l:List ao):Prop where
 nn:∀b∈l,0<=b.1/\b.1<=100000
 kp:∀b∈l,hu b=true
 Wz:∀i j(hi:i<l.length)(hj:j<l.length),i<j->l[i].1<l[j].1
 ME:∀b∈l,((ia b).2.1=-1/\kf (ia b)=true)\/(0<=(ia b).2.1/\(ia b).2.1<b.1/\kf (ia b)=false/\∃p∈l,p.1=(ia b).2.1/\p.2.2.1=(ia b).1)K4:l.length<=400
 ep:∀b∈l,b.2.1=KH l
theorem Ri{b:ao}(h:hu b=true):0<=b.1/\b.1<=100000:=by unfold hu at h;simp only[Bool.and_eq_true]at h;simpa[Di,km]using h.1
theorem WA{A:Type}{f:A->Int}{l:List A}(h:∀i(a:i<l.length),lO (λz y=>dO (f z) (f y)) l i l[i]=true) (i j:Nat) (a:i<l.length) (e:j<l.length) (b:i<j):f l[i]<f l[j]:=by have c:=Am h (j-1-i) i (by omega);have d:=h ((j-1)+1) (by omega);grind[lO,dO,mz]
theorem LI{q:j8}(h:kf q=true):q.2.1=-1:=by unfold kf at h;simp_all[D9,gA]
theorem JI{l:List ao}(h:Fi l=true):il l:=by
 unfold Fi at h;rw[M5]at h;simp only[Bool.and_eq_true]at h;have k:∀i(a:i<l.length),(F3 l i l[i]=true/\(kf (ia l[i])||A0 l l[i])=true):=λi a=>by have :=xJ h.1 i a;grind
 have d:∀i (a:i<l.length),hu l[i]=true/\gA (l[i]).2.1 (KH l)=true/\lO (λz y=>dO z.1 y.1) l i l[i]=true:=λi a=>by have :=(k i a).1;unfold F3 at this;grind
 refine⟨λb c=>?_,λb c=>?_,WA (f:=λb:ao=>b.1) λi a=>(d i a).2.2,λb c=>?_,by have :=h.2;simp only[km,decide_eq_true_eq]at this;omega,λb c=>?_⟩;·obtain⟨i,a,rfl⟩:=List.getElem_of_mem c;exact Ri (d i a).1
 ·obtain⟨i,a,rfl⟩:=List.getElem_of_mem c;grind
 ·obtain⟨i,a,rfl⟩:=List.getElem_of_mem c;cases g:kf (ia l[i]) with|true=>exact .inl ⟨LI g,rfl⟩|false=>have j:=JG (d i a).1 g;have e:=(k i a).2;rw[g,Bool.false_or]at e;unfold A0 at e;refine .inr ⟨j.1,j.2,rfl,?_⟩;cases m:l.find? (λz=>gA z.1 (ia l[i]).2.1) with|none=>grind|some p=>rw[m]at e;have n:=List.find?_some m;simp only[gA,decide_eq_true_eq]at e n;grind
 ·obtain ⟨i,a,rfl⟩:=List.getElem_of_mem c;simpa[gA]using (d i a).2.1
theorem il.Fg{l:List ao}(h:il l){i j:Nat}(b:i<l.length)(c:j<l.length)(e:l[i].1=l[j].1):i=j:=by
 rcases Nat.lt_trichotomy i j with a|a|a;·have :=h.Wz i j b c a;omega
 ·exact a
 ·have :=h.Wz j i c b a;omega
theorem il.Rj{l:List ao}(h:il l){a b:ao}(f:a∈l)(c:b∈l)(e:a.1=b.1):a=b:=by obtain⟨i,g,rfl⟩:=List.getElem_of_mem f;obtain⟨j,d,rfl⟩:=List.getElem_of_mem c;have :=h.Fg g d e;grind
theorem LJ{l:List ao}(h:il l){j:Nat}(d:j<l.length):m9 l l[j].1=(j:Int):=by
 unfold m9;rcases mA l (λb=>gA b.1 l[j].1)with⟨a,_,_⟩|⟨k,e,c,_,_,_,f⟩;·rw[List.any_eq_false]at a;exact absurd (by simp[gA]) (a l[j] (List.getElem_mem d))
 ·simp only[gA,decide_eq_true_eq]at c;have :=h.Fg e d c;omega
theorem Ee{l:List ao}(h:il l){b:ao}(c:b∈l):bK l (m9 l b.1)=some b/\dO (m9 l b.1) 0=false:=by obtain⟨j,a,rfl⟩:=List.getElem_of_mem c;rw[LJ h a];simp_all[ao,bK,dO,cB,dD]
theorem lb{l:List ao}(h:il l)(a:Int):(l.find? (λb=>gA b.1 a)=none/\m9 l a=-1/\∀b∈l,b.1≠a)\/∃b∈l,b.1=a/\l.find? (λb=>gA b.1 a)=some b/\0<=m9 l a/\bK l (m9 l a)=some b:=by
 unfold m9;rcases mA l (λb=>gA b.1 a)with⟨f,c,d⟩|⟨k,i,g,_,_,c,d⟩;·refine .inl ⟨c,d,λb j e=>?_⟩;rw[List.any_eq_false]at f;exact absurd (by simp[gA,e]) (f b j)
 ·simp only[gA,decide_eq_true_eq]at g;exact .inr ⟨l[k],List.getElem_mem i,g,c,by omega,by rw[d];exact cB i⟩
def T4(l:List ao):Nat->Int->List ao|0,_=>[]|f+1,a=>match l.find? (λb=>gA b.1 a)with|none=>[]|some b=>T4 l f (ia b).2.1++[b]
def ct(l:List ao)(a:Int):List ao:=T4 l (a.toNat+1) a
theorem yo{l:List ao}{a:Int}(h:l.find? (λb=>gA b.1 a)=none):∀f,T4 l f a=[]|0=>rfl|f+1=>by unfold T4;rw[h]
theorem Rk{l:List ao}(h:il l):∀(f g:Nat)(a:Int),a.toNat<f->a.toNat<g->T4 l f a=T4 l g a:=by intro f;induction f with|zero=>omega|succ f o=>intro g a p m;cases g with|zero=>omega|succ g=>
 rcases lb h a with⟨c,_,_⟩|⟨b,d,k,c,_,_⟩;·rw[yo c,yo c]
 · unfold T4;rw[c];dsimp only;have n:=h.nn b d;rcases h.ME b d with⟨i,_⟩|⟨i,q,_⟩
   · have e:l.find? (λz=>gA z.1 (ia b).2.1)=none:=by rw[List.find?_eq_none];intro z j;have :=h.nn z j;simp only[gA,decide_eq_true_eq];omega
     rw[yo e,yo e]
   grind
theorem kk{l:List ao}(h:il l){b:ao}(a:b∈l):ct l b.1=ct l (ia b).2.1++[b]:=by
 have m:=h.nn b a;rcases lb h b.1 with⟨_,_,d⟩|⟨c,g,i,d,_,_⟩;·grind
 · have :c=b:=h.Rj g a i;subst this;have e:ct l c.1=T4 l c.1.toNat (ia c).2.1++[c]:=by simp only[ct,T4,d]
   rw[e];congr 1;rcases h.ME c a with⟨j,_⟩|⟨j,n,_⟩
   · have f:l.find? (λz=>gA z.1 (ia c).2.1)=none:=by rw[List.find?_eq_none];intro z k;have :=h.nn z k;simp only[gA,decide_eq_true_eq];omega
     unfold ct;rw[yo f,yo f]
   · exact Rk h _ _ _ (by omega) (by omega)
theorem n6{l:List ao}{a:Int}(h:∀b∈l,b.1≠a):ct l a=[]:=yo (by rw[List.find?_eq_none];intro z c;have :=h z c;simpa[gA]using this) _
theorem JJ{l:List ao}(h:il l){a:Int}(d:a<0):ct l a=[]:=n6 (λb c=>by have :=h.nn b c;omega)
theorem w5{l:List ao}(h:il l){M:Int->Prop}(j:∀a,(∀b∈l,b.1≠a)->M a)(g:∀b∈l,M (ia b).2.1->M b.1):∀a,M a:=by
 have f:∀(n:Nat)(a:Int),a.toNat<n->M a:=by intro n;induction n with|zero=>omega|succ n q=>
  intro a p;rcases lb h a with⟨_,_,o⟩|⟨b,d,k,_,_,_⟩;·grind
  · rw[<-k];refine g b d ?_;have m:=h.nn b d;rcases h.ME b d with⟨e,_⟩|⟨e,r,_⟩;· rw[e];exact j _ (λc i=>by have :=h.nn c i;omega)
    grind
 exact λa=>f (a.toNat+1) a (by omega)
theorem k9{l:List ao}(h:il l):∀(d:Int)(b:ao),b∈ct l d->b∈l:=by
 refine w5 h (λd f b a=>?_) (λb a g c e=>?_);·rw[n6 f]at a;cases a
 ·rw[kk h a]at e;grind
theorem Pe{l:List ao}(h:il l):∀(a:Int),(ct l a).length<=(a+1).toNat:=by
 refine w5 h (λa d=>?_) (λb c f=>?_);·rw[n6 d];grind
 ·rw[kk h c];have d:=h.nn b c;simp only[List.length_append,List.length_cons,List.length_nil];rcases h.ME b c with⟨e,_⟩|⟨e,g,_⟩<;>omega
theorem Ef{l:List ao}(h:il l)(a:Int):(ct l a).length<=100001:=by
 rcases lb h a with⟨_,_,d⟩|⟨b,c,e,_,_,_⟩;·rw[n6 d];grind
 ·have :=Pe h a;have :=h.nn b c;omega
def pb(l:List ao)(a:List ao):List D3:=a.map (λb=>(m9 l b.1,()))
def ic(a:List ao):List D3:=a.map (λb=>(b.1,()))
theorem T5{a:Int}(h:a<0):km 0 a=false:=by grind[km]
theorem GY{a:Int}(h:0<=a):km 0 a=true:=by grind[km]
theorem WB{l:List ao}(h:il l){b:ao}(a:b∈l):(ia b).2.1<0\/∃p∈l,p.1=(ia b).2.1:=by
 rcases h.ME b a with⟨e,_⟩|⟨_,_,_,p,c,d,_⟩;·omega
 grind
theorem Ga(l:List ao)(a:Int)(o:(Ty.sl j7).Ok l)(h:il l):Fy ((l,()),((a,()),()))=some ((pb l (ct l a),()),()):=by
 have m:Al l.length:=o.1;have q:∀d:Int,(d<0\/∃b∈l,b.1=d)->∀f:List D3,(ct l d).length+f.length<=100001->∃e,aR (Fy.b0 ((l,()),((a,()),()))) (d,(f,()))=some (.inl (e,(pb l (ct l d)++f,()))):=by
  refine w5 h (λd j i f k=>?_) (λb c t _ f k=>?_);·have n:d<0:=i.resolve_right (λ⟨b,c,g⟩=>j b c g);refine⟨d,?_⟩;rw[n6 j];refine cS ?_;unfold Fy.b0;exact uN (T5 n) rfl
  · have j:=h.nn b c;rw[kk h c]at k⊢;simp only[List.length_append,List.length_cons,List.length_nil]at k;obtain⟨e,g⟩:=t (WB h c) ((m9 l b.1,())::f) (by grind);refine⟨e,?_⟩;have p:Fy.b0 ((l,()),((a,()),())) (b.1,(f,()))=some (.inl ((ia b).2.1,((m9 l b.1,())::f,()))):=by unfold Fy.b0;refine dd (GY j.1) (bw (th l b.1 m) (uN (Ee h c).2 (Cm ?_ (by decide) (by decide) (bw (Ee h c).1 rfl))));grind
    rw[de p,g];unfold pb;simp
 unfold Fy;by_cases i:a<0\/∃b∈l,b.1=a;· obtain⟨e,g⟩:=q a i [] (by have :=Ef h a;omega);grind
 · have r:∀b∈l,b.1≠a:=λb c e=>i (.inr ⟨b,c,e⟩);have s:0<=a:=by omega
   rw [n6 r];rcases lb h a with ⟨_,u,_⟩|⟨b,c,g,_⟩;· refine bw (cS (e:=.inr (([],()),())) ?_) rfl;unfold Fy.b0;exact dd (GY s) (bw (th l a m) (dd (by show dO (m9 l a) 0=true;rw [u];rfl) rfl))
   grind
def dc(l:List ao)(q:j8):Int:=match l.find? (λb=>gA b.1 q.2.1)with|none=>-1|some b=>bif !gA b.2.2.1 q.1 then-1 else match l.find? (λz=>gA z.1 (ia b).2.1)with|none=>-1|some p=>bif !gA p.2.2.1 (gS .i64 q.1 1)then-1 else p.1
theorem LK{l:List ao}{q:j8}(h:gA (dc l q) (-1)=false):∃p∈l,p.1=dc l q:=by unfold dc at h⊢;cases a:l.find? (λb=>gA b.1 q.2.1)with|none=>rw[a]at h;simp[gA]at h|some b=>rw[a]at h;dsimp only at h⊢;cases c:gA b.2.2.1 q.1 with|false=>rw[c]at h;simp[gA]at h|true=>rw[c]at h;cases d:l.find? (λz=>gA z.1 (ia b).2.1)with|none=>rw[d]at h;simp[gA]at h|some p=>rw[d]at h;dsimp only at h⊢;cases e:gA p.2.2.1 (gS .i64 q.1 1)with|false=>rw[e]at h;simp[gA]at h|true=>grind
theorem Nb(l:List ao)(q:j8)(f:Al l.length)(h:il l):Tq ((l,()),(q,()))=some (I1 (dc l q)):=by
 unfold Tq dc;refine bw (th l q.2.1 f) ?_;rcases lb h q.2.1 with⟨a,d,_⟩|⟨b,m,n,a,d,i⟩;·rw[a,d];rfl
 ·rw[a];refine uN (dD d) (bw i ?_);dsimp only;cases o:gA b.2.2.1 q.1 with|false=>grind|true=>
 refine uN rfl (bw i (bw (th l _ f) ?_));rcases lb h (ia b).2.1 with⟨c,e,_⟩|⟨p,k,r,c,e,g⟩;·rw[c];exact dd (by simp_all[dO,I1,m9,D9,D3,cl,ds,ia]) rfl
 ·rw[c];refine uN (dD e) (bw g ?_);dsimp only;cases j:gA p.2.2.1 (gS .i64 q.1 1) with|false=>grind|true=>exact uN rfl (bw g rfl)
theorem LL(l:List ao)(a:Int)(i:(Ty.sl j7).Ok l)(h:il l)(m:∀b∈l,dT b):Jh ((l,()),((a,()),()))=some ((ct l a,()),()):=by
 have p:=Ef h a;have o:(pb l (ct l a)).length=(ct l a).length:=by unfold pb;simp
 have j:=cK (f:=Jh.b0 ((pb l (ct l a),()),()) ((l,()),((a,()),()))) (λk=>((ct l a).take k,((k:Int),()))) (ct l a).length (e:=Sum.inl (ct l a,(((ct l a).length:Int),()))) (λk c=>by
 have d:=k9 h a _ (List.getElem_mem c);have g:(pb l (ct l a))[k]?=some (m9 l (ct l a)[k].1,()):=by unfold pb;grind
 unfold Jh.b0;refine uL (show (k:Int)<((pb l (ct l a)).length:Int)by omega) (bw (A2 g) (bw (A3 g) (bw (Ee h d).1 (bw (GS _ (m _ d)) (Cm ?_ (by decide) (by decide) ?_)))));·grind
 ·refine DQ ?_ (wG (n:=(ct l a).length) c (by omega));simp_all[tR,bV,ct,ao]) (by unfold Jh.b0;refine uM (show ((pb l (ct l a)).length:Int)<=((ct l a).length:Int) by omega) ?_;grind);unfold Jh;exact bw (Ga l a i h) (bw j rfl)
def KJ(d:List D3)(n:Int):Bool:=d.any (λx=>gA x.1 n)
def sU(d:List D3)(n:Int):List D3:=bif KJ d n then d else d++[(n,())]
def i4(d:List D3)(a:List D3):List D3:=a.foldl (λd x=>sU d x.1) d
theorem LM(d:List D3)(n:Int):(sU d n).length<=d.length+1:=by unfold sU;grind
theorem Rl(d:List D3)(n:Int)(b:Al d.length):Ji ((d,()),((n,()),()))=some (B1 (KJ d n)):=by have c:=Cj (S:=Int×Unit) d (λx=>gA x.1 n) (f:=Ji.b0 ((d,()),((n,()),()))) (λk=>(k,())) (Sum.inl ((d.length:Int),())) (Sum.inr (B1 true)) (λi a=>by unfold Ji.b0;refine uL (Int.ofNat_lt.2 a) (bw (cB a) ?_);rw[<-wG a b]) (by simp_all[Ji.b0,D3,uM,bK,gA,cM]);unfold Ji;refine bw c ?_;unfold KJ;grind
noncomputable def nr(L:fp)(a:List ao):fp:=a.foldl (λs b=>(Ii s (n9 b)).2) L
theorem Gb:∀(e:List ao)(L:fp),(Ty.sl cz).Ok L.2.1->fb L.2.1->(∀b∈e,(Ty.sl i3).Ok (n9 b))->(Ty.sl cz).Ok (nr L e).2.1/\fb (nr L e).2.1|[],L,a,d,_=>⟨a,d⟩|b::r,L,a,d,f=>by obtain⟨_,h,g⟩:=C4 L (n9 b) a d (f b (by simp));exact Gb r _ h g (λc i=>f c (by grind))
def Fl(g:fp)(t:cl):Bool:=match g.2.1.find? (λa=>ko a.1 t.2.1)with|some a=>km a.2.2.1 t.2.2.2.2.1|none=>false
def yr(ki:List cl)(g:fp):List cl:=ki.filter (Fl g)
theorem Pg(l:List bF)(s:ByteArray):(l.find? (λa=>ko a.1 s)=none/\Eo l s=-1)\/∃a∈l,l.find? (λa=>ko a.1 s)=some a/\0<=Eo l s/\bK l (Eo l s)=some a:=by
 unfold Eo;rcases mA l (λa=>ko a.1 s)with⟨d,b,c⟩|⟨k,f,e,_,_,b,c⟩;·grind
 simp_all[bF,ko,e6,nY,bK,cB]
theorem A4{A:Type}(p:A->Bool)(l:List A){i:Nat}(a:i<l.length):(l.take (i+1)).filter p=(l.take i).filter p++(bif p l[i]then[l[i]]else[]):=by rw[List.take_succ_eq_append_getElem a,List.filter_append];grind
theorem WC{A:Type}(p:A->Bool)(l:List A)(i:Nat):((l.take i).filter p).length<=l.length:=by grind
theorem Rm(ki:List cl)(g:fp)(i:W1 ki.length)(m:Al g.2.1.length):Jj ((ki,()),(g,()))=some ((yr ki g,()),()):=by have h:Al ki.length:=i.l;unfold W1 at i;have p:=cK (f:=Jj.b0 ((ki,()),(g,()))) (λk=>((ki.take k).filter (Fl g),((k:Int),()))) ki.length (e:=Sum.inl (yr ki g,((ki.length:Int),()))) (λk b=>by
 unfold Jj.b0;refine uL (Int.ofNat_lt.2 b) (bw (cB b) (bw (C0 g.2.1 _ m) ?_));have o:=WC (Fl g) ki k;rcases Pg g.2.1 (ki[k]).2.1 with⟨d,l⟩|⟨a,q,d,l,n⟩
 · have c:Fl g ki[k]=false:=by unfold Fl;rw[d]
   refine uN (by simp_all[km,I1,Eo,bF,cl]) (DQ ?_ (wG b h));rw[A4 _ _ b,c];simp
 · refine dd (GY l) (bw (cB b) (bw n ?_));have c:Fl g ki[k]=km a.2.2.1 (ki[k]).2.2.2.2.1:=by unfold Fl;rw[d]
   cases j:km a.2.2.1 (ki[k]).2.2.2.2.1 with|true=>refine bw (cB b) (Cm (by grind) (by decide) (by decide) (DQ ?_ (wG b h)));rw[A4 _ _ b,c,j];rfl|false=>refine DQ ?_ (wG b h);rw[A4 _ _ b,c,j];simp) (by unfold Jj.b0;refine uM (Int.le_refl _) ?_;rw[List.take_length];rfl);unfold Jj;grind
theorem Ph(g:fp)(c:(Ty.sl cz).Ok g.2.1)(b:fb g.2.1)(t:cl):Fl (k0 g) t=Fl g t:=by
 rcases LG g c b with h|⟨h,_,_⟩;·rw[h]
 ·rw[h];unfold Fl;show (match (g.2.1.map (ft _)).find? (λa=>ko a.1 t.2.1) with|some a=>_|none=>_)=_;rw[List.find?_map];show (match (g.2.1.find? (λa=>ko a.1 t.2.1)).map (ft _) with|some a=>_|none=>_)=_;cases g.2.1.find? (λa=>ko a.1 t.2.1)<;>rfl
theorem Pj(ki:List cl)(g:fp)(b:(Ty.sl cz).Ok g.2.1)(a:fb g.2.1):yr ki (k0 g)=yr ki g:=by unfold yr;congr 1;funext t;grind[Ph]
noncomputable def Pk:List ao->fp->List D3->fp×(List D3×Option ao)|[],g,d=>(g,(d,none))|b::r,g,d=>bif fi b then((Ii g (n9 b)).2,(sU d b.1,some b))else Pk r (Ii g (n9 b)).2 (sU d b.1)
def ik:List ao->List ao|[]=>[]|b::r=>bif fi b then[b]else b::ik r
theorem HL:∀(a:List ao)(g:fp)(d:List D3),Pk a g d=(nr g (ik a),(i4 d (ic (ik a)),a.find? (λb=>fi b)))|[],g,d=>rfl|b::r,g,d=>by unfold Pk ik;cases h:fi b with|true=>simp only[cond_true,List.find?_cons_of_pos h];rfl|false=>simp only[cond_false,List.find?_cons_of_neg (show¬fi b=true by grind)];rw[HL r];rfl
theorem Eg:∀(a:List ao),(a.find? (λb=>fi b)=none/\nY a (λb=>fi b)=-1/\ik a=a)\/∃p b r,a=p++b::r/\fi b=true/\a.find? (λb=>fi b)=some b/\nY a (λb=>fi b)=(p.length:Int)/\ik a=p++[b]|[]=>.inl ⟨rfl,rfl,rfl⟩|b::r=>by cases h:fi b with|true=>exact .inr ⟨[],b,r,rfl,h,by grind,by unfold nY;grind,by unfold ik;grind⟩|false=>
 have k:(b::r).find? (λb=>fi b)=r.find? (λb=>fi b):=List.find?_cons_of_neg (by simp[h]);have l:(b::r).findIdx? (λb=>fi b)=(r.findIdx? (λb=>fi b)).map (·+1):=by grind
 have i:ik (b::r)=b::ik r:=by rw[ik,h];rfl
 rcases Eg r with ⟨e,d,g⟩|⟨p,c,s,e,d,g,f,j⟩;·refine .inl ⟨by grind,?_,by grind⟩;unfold nY at d⊢;grind
 ·refine .inr ⟨b::p,c,s,by grind,d,by grind,?_,by grind⟩;unfold nY at f⊢;grind
theorem y0{a:List ao}{b:ao}(h:b∈ik a):b∈a:=by
 rcases Eg a with⟨_,_,f⟩|⟨p,c,s,d,_,_,_,e⟩;·grind
 grind
def NO(n:a0)(d:List D3)(q:List cl):a0:=(n.1,(n.2.1,(n.2.2.1,(n.2.2.2.1,(n.2.2.2.2.1,(n.2.2.2.2.2.1,(n.2.2.2.2.2.2.1,(n.2.2.2.2.2.2.2.1,(n.2.2.2.2.2.2.2.2.1,(n.2.2.2.2.2.2.2.2.2.1,(n.2.2.2.2.2.2.2.2.2.2.1,(n.2.2.2.2.2.2.2.2.2.2.2.1,(n.2.2.2.2.2.2.2.2.2.2.2.2.1,(n.2.2.2.2.2.2.2.2.2.2.2.2.2.1,(n.2.2.2.2.2.2.2.2.2.2.2.2.2.2.1,(n.2.2.2.2.2.2.2.2.2.2.2.2.2.2.2.1,(n.2.2.2.2.2.2.2.2.2.2.2.2.2.2.2.2.1,(d,(q,(bk n,()))))))))))))))))))))
def Rn(n:a0)(g:fp)(a:List ds)(d:List D3)(q:List cl)(b:List tB):a0:=(n.1,(g.1,(g.1,(g.2.1,(a,([],(1,(0,(0,(-1,([],(0,([],([],(0,([],([],(d,(q,(b,()))))))))))))))))))))
def B2(n:a0)(q:j8):tB:=(n.2.1,(ct (ar n) q.2.1,(q.1,(q.2.1,(q.2.2.1,())))))
noncomputable def Jt(n:a0)(q:j8)(g:fp)(d:List D3)(b:ao):a0:=Rn n (k0 g) (j9 b) d (yr (l9 n) g) (bk n++[B2 n q])
noncomputable def wS(n:a0)(a:Int)(q:j8):a0:=match Pk (ct (ar n) a) (gq n) (nx n) with|(g,(d,none))=>NO n d (yr (l9 n) g)|(g,(d,some b))=>Jt n q g d b
theorem Pl{S E A b:Type}(xs:List A)(g:b->A->Sum b E)(I:Nat->b->Prop){f:S->Option (Sum S E)}(mk:b->Int->S)(k:b->E)(j:b)(r:I 0 j)(n:∀i (h:i<xs.length)s,I i s->(∃d,g s xs[i]=.inl d/\I (i+1) d/\f (mk s (i:Int))=some (.inl (mk d ((i+1:Nat):Int))))\/∃e,g s xs[i]=.inr e/\f (mk s (i:Int))=some (.inr e))(v:∀s,I xs.length s->f (mk s (xs.length:Int))=some (.inr (k s))):aR f (mk j 0)=some (GV g k xs j):=by
 have p:∀(c a:List A)(s:b),a++c=xs->I a.length s->aR f (mk s (a.length:Int))=some (GV g k c s):=by intro c;induction c with|nil=>grind[aR,GV,cS]|cons x c u=>
  intro a s w q;have o:a.length<xs.length:=by grind
  have t:xs[a.length]=x:=by grind
  rcases n a.length o s q with⟨d,l,y,m⟩|⟨e,l,m⟩;·rw[t]at l;rw[de m];simp only[GV,l];have :=u (a++[x]) d (by grind) (by grind);grind
  grind[aR,GV,cS]
 simpa using p xs [] j rfl r
structure I4(n:a0):Prop where
 ok:EF n
 l:JH n
 t:il (ar n)d:(nx n).length<=800000
 p:(bk n).length<=800000
theorem I4.bl{n:a0}(h:I4 n):∀b∈ar n,dT b:=h.l.2.2.2.1
theorem I4.GZ{n:a0}(h:I4 n):fb (gq n).2.1:=h.l.1
abbrev Z3:Type:=Int×(List ao×(Int×(List bF×(List D3×Unit))))
noncomputable def Ik(n:a0)(q:j8)(s:fp×List D3)(b:ao):Sum (fp×List D3) (Sum Z3 (a0×Unit)):=bif fi b then .inr (.inr (Jt n q (Ii s.1 (n9 b)).2 (sU s.2 b.1) b,())) else .inl ((Ii s.1 (n9 b)).2,sU s.2 b.1)
theorem JK(n:a0)(q:j8)(a:fp×List D3->Sum Z3 (a0×Unit)):∀(f:List ao)(g:fp)(d:List D3),GV (Ik n q) a f (g,d)=(match Pk f g d with|(c,(e,none))=>a (c,e)|(c,(e,some b))=>.inr (Jt n q c e b,()))|[],g,d=>rfl|b::r,g,d=>by unfold GV Pk Ik;cases h:fi b with|true=>rfl|false=>exact JK n q a r _ _
theorem Ro(n:a0)(a:Int)(q:j8)(h:I4 n)(D:W1 (List.length q.2.2.1)):Jk (n,((a,()),(q,())))=some (wS n a q,()):=by have d:=h.ok.kB;have K:=Ef h.t a;have y:=LL (ar n) a d h.t h.bl;have H:=LL (ar n) q.2.1 d h.t h.bl;let w:fp×List D3->Sum Z3 (a0×Unit):=λs=>Sum.inl (((ct (ar n) a).length:Int),(ct (ar n) a,(s.1.1,(s.1.2.1,(s.2,())))));let I:fp×List D3->Prop:=λs=>(Ty.sl cz).Ok s.1.2.1/\fb s.1.2.1;have E:=Pl (S:=Z3) (ct (ar n) a) (Ik n q) (λi s=>(Ty.sl cz).Ok s.1.2.1/\fb s.1.2.1/\s.2.length<=800000+i) (f:=Jk.b0 (n,((a,()),(q,())))) (λs k=>(k,(ct (ar n) a,(s.1.1,(s.1.2.1,(s.2,())))))) w (gq n,nx n) ⟨h.ok.base,h.GZ,h.d⟩ (λi c s o=>by
 have r:=k9 h.t a _ (List.getElem_mem c);have A:En (ct (ar n) a)[i]:=Ae d.2 r;have v:=h.bl _ r;obtain⟨p,g,e⟩:=C4 s.1 (n9 (ct (ar n) a)[i]) o.1 o.2.1 A.EJ;have u:Al s.2.length:=by omega
 have j:∀(R:Type),((bK (ct (ar n) a) (i:Int)).bind λB=>(Ji ((s.2,()),((B.1,()),()))).bind λG=>bif (!G.1.1) then (bK (ct (ar n) a) (i:Int)).bind λt=>bif dE (List.length s.2+List.length ([(t.1,())]:List D3)) 8 then some (.inl (bV s.2 ([(t.1,())]:List D3),())) else none else some (.inl (s.2,())))=some (Sum.inl (sU s.2 (ct (ar n) a)[i].1,()):Sum (List D3×Unit) R):=by intro R;refine bw (cB c) (bw (Rl s.2 _ u) ?_);unfold sU;cases KJ s.2 (ct (ar n) a)[i].1 with|true=>rfl|false=>exact bw (cB c) (Cm (by grind) (by decide) (by decide) rfl)
 cases m:fi (ct (ar n) a)[i]with|false=>refine .inl ⟨((Ii s.1 (n9 (ct (ar n) a)[i])).2,sU s.2 (ct (ar n) a)[i].1),by unfold Ik;grind,⟨g,e,Nat.le_trans (LM _ _) (by omega)⟩,?_⟩;unfold Jk.b0;refine uL (Int.ofNat_lt.2 c) (bw (cB c) (bw p ?_));refine bw (j _) (bw (cB c) (uN m ?_));rw[<-wG (n:=(ct (ar n) a).length) c (by omega)]|true=>refine .inr ⟨.inr (Jt n q (Ii s.1 (n9 (ct (ar n) a)[i])).2 (sU s.2 (ct (ar n) a)[i].1) (ct (ar n) a)[i],()),by unfold Ik;grind,?_⟩;obtain ⟨F,J,z⟩:=F8 _ g e;unfold Jk.b0;refine uL (Int.ofNat_lt.2 c) (bw (cB c) (bw p ?_));refine bw (j _) (bw (cB c) (dd m (bw H (bw (EK q D) (Cm (by show (bk n).length+1<=1048577;have :=h.p;omega) (by decide) (by decide) (bw F (bw (Rm (l9 n) _ h.l.2.2.2.2.2.2.2.2.2.2.1 z.1.l) (bw (cB c) (vP v.2.2.2.2 (by decide) (by decide) ?_)))))))));rw[Pj _ _ g e];rfl) (λs _=>by unfold Jk.b0;exact uM (Int.le_refl _) rfl);unfold Jk;refine bw y (bw (oi (gq n) h.GZ) (bw E ?_));rw[JK];unfold wS;have C:=Gb (ik (ct (ar n) a)) (gq n) h.ok.base h.GZ (λb x=>(show En b from Ae d.2 (k9 h.t a b (y0 x))).EJ);rw[HL];cases (ct (ar n) a).find? (λb=>fi b) with|none=>exact bw (Rm (l9 n) _ h.l.2.2.2.2.2.2.2.2.2.2.1 C.2.1.l) rfl|some b=>rfl
noncomputable def ks(n:a0)(q:j8):a0:=bif gA (dc (ar n) q) (-1) then n else wS n (dc (ar n) q) q
structure FP(q:j8):Prop where
 i1:(Lit.int .i64 q.1).wf=true
 i2:(Lit.int .i64 q.2.1).wf=true
 ok:TV q
 w:W1 (List.length q.2.2.1)
structure NP(t:sM):Prop where
 i1:(Lit.int .i64 t.1).wf=true
 ok:(Ty.sl e9).Ok t.2.1
 hi:(Ty.sl e3).Ok t.2.2.1
 w:W1 (List.length t.2.1)wh:W1 (List.length t.2.2.1)
theorem NP.Z4{t:sM}(h:NP t):UT t:=⟨h.ok,h.hi.1⟩
theorem FP.G0:FP ((0,(-1,([],()))):j8):=⟨rfl,rfl,CK,Nat.zero_le _⟩
theorem EF.D7{n:a0}(h:EF n)(l:JH n):FP (bx n):=⟨h.2.2.2.2.2.2.2.2.1,h.2.2.2.2.2.2.2.2.2.1,h.aV1,l.2.2.2.2.1⟩
theorem EF.Qd{n:a0}(h:EF n)(l:JH n):NP (Fj n):=⟨h.2.2.2.2.2.2.2.2.2.2.2.1,h.2.2.2.2.2.2.2.2.2.2.2.2.1,h.2.2.2.2.2.2.2.2.2.2.2.2.2.1,l.2.2.2.2.2.1,l.2.2.2.2.2.2.1⟩
def U2(n:a0)(r:Int)(q:j8):a0:=(n.1,(n.2.1,(n.2.2.1,(n.2.2.2.1,(n.2.2.2.2.1,(n.2.2.2.2.2.1,(r,(n.2.2.2.2.2.2.2.1,(q.1,(q.2.1,(q.2.2.1,(n.2.2.2.2.2.2.2.2.2.2.2.1,(n.2.2.2.2.2.2.2.2.2.2.2.2.1,(n.2.2.2.2.2.2.2.2.2.2.2.2.2.1,(n.2.2.2.2.2.2.2.2.2.2.2.2.2.2.1,(n.2.2.2.2.2.2.2.2.2.2.2.2.2.2.2.1,(n.2.2.2.2.2.2.2.2.2.2.2.2.2.2.2.2.1,(n.2.2.2.2.2.2.2.2.2.2.2.2.2.2.2.2.2.1,(n.2.2.2.2.2.2.2.2.2.2.2.2.2.2.2.2.2.2.1,(n.2.2.2.2.2.2.2.2.2.2.2.2.2.2.2.2.2.2.2.1,()))))))))))))))))))))
theorem Rp{n:a0}{r:Int}{q:j8}(h:EF n)(b:(Lit.int .i64 r).wf=true)(a:FP q):EF (U2 n r q):=⟨h.1,h.2.1,h.2.2.1,h.2.2.2.1,h.2.2.2.2.1,h.2.2.2.2.2.1,b,h.2.2.2.2.2.2.2.1,a.i1,a.i2,a.ok,h.2.2.2.2.2.2.2.2.2.2.2.1,h.2.2.2.2.2.2.2.2.2.2.2.2.1,h.2.2.2.2.2.2.2.2.2.2.2.2.2.1,h.2.2.2.2.2.2.2.2.2.2.2.2.2.2.1,h.2.2.2.2.2.2.2.2.2.2.2.2.2.2.2.1,h.2.2.2.2.2.2.2.2.2.2.2.2.2.2.2.2.1,h.2.2.2.2.2.2.2.2.2.2.2.2.2.2.2.2.2.1,h.2.2.2.2.2.2.2.2.2.2.2.2.2.2.2.2.2.2.1,h.2.2.2.2.2.2.2.2.2.2.2.2.2.2.2.2.2.2.2.1,trivial⟩
def U3(n:a0)(r:Int)(t:sM):a0:=(n.1,(n.2.1,(n.2.2.1,(n.2.2.2.1,(n.2.2.2.2.1,(n.2.2.2.2.2.1,(r,(n.2.2.2.2.2.2.2.1,(n.2.2.2.2.2.2.2.2.1,(n.2.2.2.2.2.2.2.2.2.1,(n.2.2.2.2.2.2.2.2.2.2.1,(t.1,(t.2.1,(t.2.2.1,(n.2.2.2.2.2.2.2.2.2.2.2.2.2.2.1,(n.2.2.2.2.2.2.2.2.2.2.2.2.2.2.2.1,(n.2.2.2.2.2.2.2.2.2.2.2.2.2.2.2.2.1,(n.2.2.2.2.2.2.2.2.2.2.2.2.2.2.2.2.2.1,(n.2.2.2.2.2.2.2.2.2.2.2.2.2.2.2.2.2.2.1,(n.2.2.2.2.2.2.2.2.2.2.2.2.2.2.2.2.2.2.2.1,()))))))))))))))))))))
theorem Rq{n:a0}{r:Int}{t:sM}(h:EF n)(b:(Lit.int .i64 r).wf=true)(a:NP t):EF (U3 n r t):=⟨h.1,h.2.1,h.2.2.1,h.2.2.2.1,h.2.2.2.2.1,h.2.2.2.2.2.1,b,h.2.2.2.2.2.2.2.1,h.2.2.2.2.2.2.2.2.1,h.2.2.2.2.2.2.2.2.2.1,h.2.2.2.2.2.2.2.2.2.2.1,a.i1,a.ok,a.hi,h.2.2.2.2.2.2.2.2.2.2.2.2.2.2.1,h.2.2.2.2.2.2.2.2.2.2.2.2.2.2.2.1,h.2.2.2.2.2.2.2.2.2.2.2.2.2.2.2.2.1,h.2.2.2.2.2.2.2.2.2.2.2.2.2.2.2.2.2.1,h.2.2.2.2.2.2.2.2.2.2.2.2.2.2.2.2.2.2.1,h.2.2.2.2.2.2.2.2.2.2.2.2.2.2.2.2.2.2.2.1,trivial⟩
def Ep(n:a0)(g:List pf):a0:=(n.1,(n.2.1,(n.2.2.1,(n.2.2.2.1,(n.2.2.2.2.1,(n.2.2.2.2.2.1,(n.2.2.2.2.2.2.1,(n.2.2.2.2.2.2.2.1,(n.2.2.2.2.2.2.2.2.1,(n.2.2.2.2.2.2.2.2.2.1,(n.2.2.2.2.2.2.2.2.2.2.1,(n.2.2.2.2.2.2.2.2.2.2.2.1,(n.2.2.2.2.2.2.2.2.2.2.2.2.1,(n.2.2.2.2.2.2.2.2.2.2.2.2.2.1,(n.2.2.2.2.2.2.2.2.2.2.2.2.2.2.1,(n.2.2.2.2.2.2.2.2.2.2.2.2.2.2.2.1,(g,(n.2.2.2.2.2.2.2.2.2.2.2.2.2.2.2.2.2.1,(n.2.2.2.2.2.2.2.2.2.2.2.2.2.2.2.2.2.2.1,(n.2.2.2.2.2.2.2.2.2.2.2.2.2.2.2.2.2.2.2.1,()))))))))))))))))))))
theorem Rr{n:a0}{g:List pf}(h:EF n)(a:(Ty.sl GG).Ok g):EF (Ep n g):=⟨h.1,h.2.1,h.2.2.1,h.2.2.2.1,h.2.2.2.2.1,h.2.2.2.2.2.1,h.2.2.2.2.2.2.1,h.2.2.2.2.2.2.2.1,h.2.2.2.2.2.2.2.2.1,h.2.2.2.2.2.2.2.2.2.1,h.2.2.2.2.2.2.2.2.2.2.1,h.2.2.2.2.2.2.2.2.2.2.2.1,h.2.2.2.2.2.2.2.2.2.2.2.2.1,h.2.2.2.2.2.2.2.2.2.2.2.2.2.1,h.2.2.2.2.2.2.2.2.2.2.2.2.2.2.1,h.2.2.2.2.2.2.2.2.2.2.2.2.2.2.2.1,a,h.2.2.2.2.2.2.2.2.2.2.2.2.2.2.2.2.2.1,h.2.2.2.2.2.2.2.2.2.2.2.2.2.2.2.2.2.2.1,h.2.2.2.2.2.2.2.2.2.2.2.2.2.2.2.2.2.2.2.1,trivial⟩
def pn(n:a0)(v:Int):a0:=(n.1,(n.2.1,(n.2.2.1,(n.2.2.2.1,(n.2.2.2.2.1,(n.2.2.2.2.2.1,(n.2.2.2.2.2.2.1,(v,(n.2.2.2.2.2.2.2.2.1,(n.2.2.2.2.2.2.2.2.2.1,(n.2.2.2.2.2.2.2.2.2.2.1,(n.2.2.2.2.2.2.2.2.2.2.2.1,(n.2.2.2.2.2.2.2.2.2.2.2.2.1,(n.2.2.2.2.2.2.2.2.2.2.2.2.2.1,(n.2.2.2.2.2.2.2.2.2.2.2.2.2.2.1,(n.2.2.2.2.2.2.2.2.2.2.2.2.2.2.2.1,(n.2.2.2.2.2.2.2.2.2.2.2.2.2.2.2.2.1,(n.2.2.2.2.2.2.2.2.2.2.2.2.2.2.2.2.2.1,(n.2.2.2.2.2.2.2.2.2.2.2.2.2.2.2.2.2.2.1,(n.2.2.2.2.2.2.2.2.2.2.2.2.2.2.2.2.2.2.2.1,()))))))))))))))))))))
theorem Rs{n:a0}{v:Int}(h:EF n)(a:(Lit.int .i64 v).wf=true):EF (pn n v):=⟨h.1,h.2.1,h.2.2.1,h.2.2.2.1,h.2.2.2.2.1,h.2.2.2.2.2.1,h.2.2.2.2.2.2.1,a,h.2.2.2.2.2.2.2.2.1,h.2.2.2.2.2.2.2.2.2.1,h.2.2.2.2.2.2.2.2.2.2.1,h.2.2.2.2.2.2.2.2.2.2.2.1,h.2.2.2.2.2.2.2.2.2.2.2.2.1,h.2.2.2.2.2.2.2.2.2.2.2.2.2.1,h.2.2.2.2.2.2.2.2.2.2.2.2.2.2.1,h.2.2.2.2.2.2.2.2.2.2.2.2.2.2.2.1,h.2.2.2.2.2.2.2.2.2.2.2.2.2.2.2.2.1,h.2.2.2.2.2.2.2.2.2.2.2.2.2.2.2.2.2.1,h.2.2.2.2.2.2.2.2.2.2.2.2.2.2.2.2.2.2.1,h.2.2.2.2.2.2.2.2.2.2.2.2.2.2.2.2.2.2.2.1,trivial⟩
def C5(n:a0)(v:List tb):a0:=(n.1,(n.2.1,(n.2.2.1,(n.2.2.2.1,(n.2.2.2.2.1,(n.2.2.2.2.2.1,(n.2.2.2.2.2.2.1,(n.2.2.2.2.2.2.2.1,(n.2.2.2.2.2.2.2.2.1,(n.2.2.2.2.2.2.2.2.2.1,(n.2.2.2.2.2.2.2.2.2.2.1,(n.2.2.2.2.2.2.2.2.2.2.2.1,(n.2.2.2.2.2.2.2.2.2.2.2.2.1,(n.2.2.2.2.2.2.2.2.2.2.2.2.2.1,(n.2.2.2.2.2.2.2.2.2.2.2.2.2.2.1,(v,(n.2.2.2.2.2.2.2.2.2.2.2.2.2.2.2.2.1,(n.2.2.2.2.2.2.2.2.2.2.2.2.2.2.2.2.2.1,(n.2.2.2.2.2.2.2.2.2.2.2.2.2.2.2.2.2.2.1,(n.2.2.2.2.2.2.2.2.2.2.2.2.2.2.2.2.2.2.2.1,()))))))))))))))))))))
theorem Rt{n:a0}{v:List tb}(h:EF n)(a:(Ty.sl Hq).Ok v):EF (C5 n v):=⟨h.1,h.2.1,h.2.2.1,h.2.2.2.1,h.2.2.2.2.1,h.2.2.2.2.2.1,h.2.2.2.2.2.2.1,h.2.2.2.2.2.2.2.1,h.2.2.2.2.2.2.2.2.1,h.2.2.2.2.2.2.2.2.2.1,h.2.2.2.2.2.2.2.2.2.2.1,h.2.2.2.2.2.2.2.2.2.2.2.1,h.2.2.2.2.2.2.2.2.2.2.2.2.1,h.2.2.2.2.2.2.2.2.2.2.2.2.2.1,h.2.2.2.2.2.2.2.2.2.2.2.2.2.2.1,a,h.2.2.2.2.2.2.2.2.2.2.2.2.2.2.2.2.1,h.2.2.2.2.2.2.2.2.2.2.2.2.2.2.2.2.2.1,h.2.2.2.2.2.2.2.2.2.2.2.2.2.2.2.2.2.2.1,h.2.2.2.2.2.2.2.2.2.2.2.2.2.2.2.2.2.2.2.1,trivial⟩
def kA(n:a0)(t:List ao):a0:=(n.1,(n.2.1,(n.2.2.1,(n.2.2.2.1,(n.2.2.2.2.1,(t,(n.2.2.2.2.2.2.1,(n.2.2.2.2.2.2.2.1,(n.2.2.2.2.2.2.2.2.1,(n.2.2.2.2.2.2.2.2.2.1,(n.2.2.2.2.2.2.2.2.2.2.1,(n.2.2.2.2.2.2.2.2.2.2.2.1,(n.2.2.2.2.2.2.2.2.2.2.2.2.1,(n.2.2.2.2.2.2.2.2.2.2.2.2.2.1,(n.2.2.2.2.2.2.2.2.2.2.2.2.2.2.1,(n.2.2.2.2.2.2.2.2.2.2.2.2.2.2.2.1,(n.2.2.2.2.2.2.2.2.2.2.2.2.2.2.2.2.1,(n.2.2.2.2.2.2.2.2.2.2.2.2.2.2.2.2.2.1,(n.2.2.2.2.2.2.2.2.2.2.2.2.2.2.2.2.2.2.1,(n.2.2.2.2.2.2.2.2.2.2.2.2.2.2.2.2.2.2.2.1,()))))))))))))))))))))
theorem Nc{n:a0}{t:List ao}(h:EF n)(a:(Ty.sl j7).Ok t):EF (kA n t):=⟨h.1,h.2.1,h.2.2.1,h.2.2.2.1,h.2.2.2.2.1,a,h.2.2.2.2.2.2.1,h.2.2.2.2.2.2.2.1,h.2.2.2.2.2.2.2.2.1,h.2.2.2.2.2.2.2.2.2.1,h.2.2.2.2.2.2.2.2.2.2.1,h.2.2.2.2.2.2.2.2.2.2.2.1,h.2.2.2.2.2.2.2.2.2.2.2.2.1,h.2.2.2.2.2.2.2.2.2.2.2.2.2.1,h.2.2.2.2.2.2.2.2.2.2.2.2.2.2.1,h.2.2.2.2.2.2.2.2.2.2.2.2.2.2.2.1,h.2.2.2.2.2.2.2.2.2.2.2.2.2.2.2.2.1,h.2.2.2.2.2.2.2.2.2.2.2.2.2.2.2.2.2.1,h.2.2.2.2.2.2.2.2.2.2.2.2.2.2.2.2.2.2.1,h.2.2.2.2.2.2.2.2.2.2.2.2.2.2.2.2.2.2.2.1,trivial⟩
def n7(n:a0)(v:Int):a0:=(n.1,(n.2.1,(n.2.2.1,(n.2.2.2.1,(n.2.2.2.2.1,(n.2.2.2.2.2.1,(n.2.2.2.2.2.2.1,(n.2.2.2.2.2.2.2.1,(n.2.2.2.2.2.2.2.2.1,(n.2.2.2.2.2.2.2.2.2.1,(n.2.2.2.2.2.2.2.2.2.2.1,(n.2.2.2.2.2.2.2.2.2.2.2.1,(n.2.2.2.2.2.2.2.2.2.2.2.2.1,(n.2.2.2.2.2.2.2.2.2.2.2.2.2.1,(v,(n.2.2.2.2.2.2.2.2.2.2.2.2.2.2.2.1,(n.2.2.2.2.2.2.2.2.2.2.2.2.2.2.2.2.1,(n.2.2.2.2.2.2.2.2.2.2.2.2.2.2.2.2.2.1,(n.2.2.2.2.2.2.2.2.2.2.2.2.2.2.2.2.2.2.1,(n.2.2.2.2.2.2.2.2.2.2.2.2.2.2.2.2.2.2.2.1,()))))))))))))))))))))
theorem Pm{n:a0}{v:Int}(h:EF n)(a:(Lit.int .i64 v).wf=true):EF (n7 n v):=⟨h.1,h.2.1,h.2.2.1,h.2.2.2.1,h.2.2.2.2.1,h.2.2.2.2.2.1,h.2.2.2.2.2.2.1,h.2.2.2.2.2.2.2.1,h.2.2.2.2.2.2.2.2.1,h.2.2.2.2.2.2.2.2.2.1,h.2.2.2.2.2.2.2.2.2.2.1,h.2.2.2.2.2.2.2.2.2.2.2.1,h.2.2.2.2.2.2.2.2.2.2.2.2.1,h.2.2.2.2.2.2.2.2.2.2.2.2.2.1,a,h.2.2.2.2.2.2.2.2.2.2.2.2.2.2.2.1,h.2.2.2.2.2.2.2.2.2.2.2.2.2.2.2.2.1,h.2.2.2.2.2.2.2.2.2.2.2.2.2.2.2.2.2.1,h.2.2.2.2.2.2.2.2.2.2.2.2.2.2.2.2.2.2.1,h.2.2.2.2.2.2.2.2.2.2.2.2.2.2.2.2.2.2.2.1,trivial⟩
def zd(n:a0)(q:j8):j8:=bif dO (bx n).1 q.1 then q else bx n
def Ju(r x:Int):Int:=bif dO r (cM .i64 x 1)then cM .i64 x 1 else r
def Pn(n:a0)(t:sM):sM:=bif dO (Fj n).1 t.1 then t else Fj n
theorem Ru{r x:Int}(h:(Lit.int .i64 r).wf=true):(Lit.int .i64 (Ju r x)).wf=true:=by grind[Ju,dO,cM,Dm]
theorem Rv{n:a0}{q:j8}(h:FP (bx n))(a:FP q):FP (zd n q):=by unfold zd;grind
theorem WE{n:a0}{t:sM}(h:NP (Fj n))(a:NP t):NP (Pn n t):=by unfold Pn;grind
def ma(n:a0)(q:j8):a0:=U2 n (Ju (ad n) q.1) (zd n q)
noncomputable def df(n:a0)(q:j8):a0:=ks (ma n q) q
def KK(n:a0)(t:sM):a0:=U3 n (Ju (ad n) t.1) (Pn n t)
theorem I4.round{n:a0}(h:I4 n):(Lit.int .i64 (ad n)).wf=true:=h.ok.2.2.2.2.2.2.1
theorem Il{n:a0}{q:j8}(h:I4 n)(b:FP q):I4 (ma n q):=by have a:=Rv (h.ok.D7 h.l) b;refine⟨Rp h.ok (Ru h.round) a,?_,h.t,h.d,h.p⟩;have l:=h.l;exact⟨l.1,l.2.1,l.2.2.1,l.2.2.2.1,a.w,l.2.2.2.2.2.1,l.2.2.2.2.2.2.1,l.2.2.2.2.2.2.2.1,l.2.2.2.2.2.2.2.2.1,l.2.2.2.2.2.2.2.2.2.1,l.2.2.2.2.2.2.2.2.2.2.1,l.2.2.2.2.2.2.2.2.2.2.2.1,l.2.2.2.2.2.2.2.2.2.2.2.2⟩
theorem Jv{l:List ao}(h:il l)(q:j8):km 0 (dc l q)=!gA (dc l q) (-1):=by cases b:gA (dc l q) (-1)with|true=>grind[dc,gA,km]|false=>obtain⟨p,a,c⟩:=LK b;have :=(h.nn p a).1;rw[<-c];exact GY this
theorem Eh(n:a0)(q:j8)(h:I4 n)(b:FP q):Jl (n,(q,()))=some (df n q,()):=by
 have e:=Il h b;have d:∀(R:Type),(bif dO (bx n).1 q.1 then (Fw (q,())).bind λa=>some (.inl (a.1.1,(a.1.2.1,(a.1.2.2.1,()))))else some (.inl (bx n)))=some (Sum.inl (zd n q):Sum j8 R):=by intro R;unfold zd;cases dO (bx n).1 q.1 with|true=>exact bw (EK q b.w) rfl|false=>rfl
 have f:∀(R:Type),(bif dO (ad n) (cM .i64 q.1 1) then some (.inl (cM .i64 q.1 1,())) else some (.inl (ad n,())))=some (Sum.inl (Ju (ad n) q.1,()):Sum (Int×Unit) R):=by intro R;unfold Ju;grind
 unfold Jl;refine bw (d _) (bw (f _) (bw (Nb (ar n) q h.ok.kB.1 h.t) ?_));have c:=Jv h.t q;unfold df ks;show (bif km 0 (dc (ar n) q) then _ else _)=some ((bif gA (dc (ar n) q) (-1) then ma n q else wS (ma n q) (dc (ar n) q) q),());rw[c];cases gA (dc (ar n) q) (-1) with|true=>rfl|false=>exact bw (Ro (ma n q) (dc (ar n) q) q e b.w) rfl
theorem E5(n:a0)(t:sM)(b:NP t):MT (n,(t,()))=some (KK n t,()):=by
 have c:∀(R:Type),(bif dO (Fj n).1 t.1 then (HZ (t,())).bind λa=>some (.inl (a.1.1,(a.1.2.1,(a.1.2.2.1,()))))else some (.inl (Fj n)))=some (Sum.inl (Pn n t):Sum sM R):=by intro R;unfold Pn;cases dO (Fj n).1 t.1 with|true=>exact bw (JE t b.w b.wh) rfl|false=>rfl
 unfold MT;refine bw (c _) ?_;unfold KK Ju;show (bif dO (ad n) (cM .i64 t.1 1) then _ else _)=_;cases dO (ad n) (cM .i64 t.1 1)<;>rfl
def G1(m:gd):Prop:=W1 (l8 m).length/\(∀b∈l8 m,dT b)/\W1 (List.length (mQ m).2.2.1)/\W1 (List.length (mT m).2.1)/\W1 (List.length (mT m).2.2.1)
theorem Im(m:gd)(h:G1 m):Jf (m,())=some (m,()):=by unfold Jf;exact bw (wb (l8 m) h.1 h.2.1) (bw (EK (mQ m) h.2.2.1) (bw (JE (mT m) h.2.2.2.1 h.2.2.2.2) rfl))
def C6(m:gd)(b:ByteArray)(a:Int):gd:=(m.1,(b,(a,m.2.2.2)))
def mu(a:List ds)(name:ByteArray)(m:gd)(b:Int):List gd:=(a.filter (λv=>!ko v.1 name)).map (λv=>C6 m v.1 b)
theorem NQ{A B:Type}(p:A->Bool)(f:A->B)(l:List A){i:Nat}(a:i<l.length):((l.take (i+1)).filter p).map f=((l.take i).filter p).map f++(bif p l[i]then[f l[i]]else[]):=by grind[A4]
theorem WG{A B:Type}(p:A->Bool)(f:A->B)(l:List A)(i:Nat):(((l.take i).filter p).map f).length<=l.length:=by grind
theorem KL(n:a0)(m:gd)(d:W1 (bb n).length)(g:G1 m):Hz (n,(m,()))=some ((mu (bb n) n.1 m m.2.2.1,()),()):=by have c:Al (bb n).length:=d.l;unfold W1 at d;have i:=cK (f:=Hz.b0 (n,(m,()))) (λk=>((((bb n).take k).filter (λv=>!ko v.1 n.1)).map (λv=>C6 m v.1 m.2.2.1),((k:Int),()))) (bb n).length (e:=Sum.inl (mu (bb n) n.1 m m.2.2.1,(((bb n).length:Int),()))) (λk a=>by have h:=WG (λv:ds=>!ko v.1 n.1) (λv=>C6 m v.1 m.2.2.1) (bb n) k;unfold Hz.b0;refine uL (Int.ofNat_lt.2 a) (bw (cB a) ?_);cases b:(!ko (bb n)[k].1 n.1) with|true=>refine dd rfl (bw (Im m g) (bw (cB a) (Cm (by grind) (by decide) (by decide) (DQ ?_ (wG a c)))));rw[NQ _ _ _ a,b];rfl|false=>refine uN rfl (DQ ?_ (wG a c));rw[NQ _ _ _ a,b];simp) (by unfold Hz.b0;refine uM (Int.le_refl _) ?_;rw[List.take_length];rfl);unfold Hz;grind
def KM(a b:pf):Bool:=gA a.1 b.1&&(gA a.2.1 b.2.1&&ko a.2.2.1 b.2.2.1)
def Po(l:List pf)(g:pf):Bool:=l.any (λx=>KM x g)
def sX(l:List pf)(g:pf):List pf:=bif !Po l g&&dO (l.length:Int) 1000 then l++[g]else l
def Gc(round:Int)(name:ByteArray)(s:Int)(x:pf):Int:=bif gA x.1 round&&(ko x.2.2.1 name&&dO s x.2.1)then x.2.1 else s
def A5(a:List pf)(round:Int)(name:ByteArray):Int:=a.foldl (Gc round name) (-1)
def hM(a:List pf)(round:Int)(s:List D9×List D3)(v:ds):List D9×List D3:=bif km 0 (A5 a round v.1)then(s.1++[(v.1,())],s.2++[(A5 a round v.1,())])else s
def U4(b:List ds)(a:List pf)(round:Int):List D9×List D3:=b.foldl (hM a round) ([],[])
def EL(b:List ds)(a:List pf)(round:Int):sM:=(round,((U4 b a round).1,((U4 b a round).2,())))
def s6(a:List ds)(b:List pf)(round:Int):sM×((Bool×Unit)×Unit):=bif FO a (EL a b round)&&!rf (EL a b round)then (EL a b round,((true,()),()))else ((0,([],([],()))),((false,()),()))
theorem LN(a:List pf)(round:Int):∀(b:List ds)(s:List D9×List D3),(b.foldl (hM a round) s).1.length<=s.1.length+b.length/\(b.foldl (hM a round) s).2.length<=s.2.length+b.length
 |[],s=>⟨Nat.le_refl _,Nat.le_refl _⟩|v::r,s=>by
  have h:=LN a round r (hM a round s v);have c:(hM a round s v).1.length<=s.1.length+1/\(hM a round s v).2.length<=s.2.length+1:=by unfold hM;grind
  grind
theorem NS(b:List pf)(round:Int)(f:∀x∈b,GG.Ok x):∀(c:List ds)(s:List D9×List D3),(∀v∈c,va.Ok v)->(∀x∈s.1,e9.Ok x)->(∀x∈s.2,e3.Ok x)->(∀x∈(c.foldl (hM b round) s).1,e9.Ok x)/\(∀x∈(c.foldl (hM b round) s).2,e3.Ok x)
 |[],s,_,d,e=>⟨d,e⟩|v::r,s,g,d,e=>by
  have k:(Lit.int .i64 (A5 b round v.1)).wf=true:=by
   unfold A5;have h:∀(l:List pf)(s:Int),(∀x∈l,GG.Ok x)->(Lit.int .i64 s).wf=true->(Lit.int .i64 (l.foldl (Gc round v.1) s)).wf=true:=by intro l;induction l with|nil=>grind|cons x r j=>
    intro s a i;refine j _ (λy m=>a y (by grind)) ?_;unfold Gc;cases (gA x.1 round&&(ko x.2.2.1 v.1&&dO s x.2.1));·exact i
    ·exact (a x (by simp)).2.1
   exact h b (-1) f rfl
  refine NS b round f r _ (λx a=>g x (by grind)) ?_ ?_
  · unfold hM;cases km 0 (A5 b round v.1);· exact d
    · intro x a;rcases List.mem_append.1 a with a|a;· grind
      · rw[List.mem_singleton.1 a];exact⟨(g v (by simp)).1,trivial⟩
  · unfold hM;cases km 0 (A5 b round v.1);· exact e
    · intro x a;rcases List.mem_append.1 a with a|a;· grind
      simp_all[af.Ok,e3,A5,D3,Ty.Ok,Ty.D,af.D]
theorem Io(b:List ds)(e:List pf)(round:Int)(d:W1 b.length)(g:(Ty.sl va).Ok b)(i:(Ty.sl GG).Ok e)(h:(Lit.int .i64 round).wf=true):NP (EL b e round):=by have c:=LN e round b ([],[]);have f:=NS e round (λx a=>Ae i.2 a) b ([],[]) (λx a=>Ae g.2 a) (λx a=>by cases a) (λx a=>by cases a);simp only[List.length_nil,Nat.zero_add]at c;unfold W1 at d;exact⟨h,Dk (Nat.le_trans c.1 (Nat.le_trans d (by decide))) f.1,Dk (Nat.le_trans c.2 (Nat.le_trans d (by decide))) f.2,Nat.le_trans c.1 d,Nat.le_trans c.2 d⟩
theorem Nd(b:List ds)(a:List pf)(round:Int)(d:Int×(List D9×(List D3×Unit))){i:Nat}(j:i<b.length)(e:d.1=(i:Int))(g:Al a.length):aR (FB.b1 ((b,()),((a,()),((round,()),()))) d) ((-1:Int),((0:Int),()))=some (.inl (A5 a round b[i].1,((a.length:Int),()))):=by
 refine AJ (S:=Int×(Int×Unit)) a (Gc round b[i].1) (f:=FB.b1 ((b,()),((a,()),((round,()),()))) d) (λs k=>(s,(k,()))) (λs=>Sum.inl (s,((a.length:Int),()))) (-1) (λk c s=>?_) (λs=>?_)
 · have h:bK b d.1=some b[i]:=by rw[e];exact cB j
   unfold FB.b1 Gc;refine uL (Int.ofNat_lt.2 c) (bw (cB c) ?_);rw[<-wG c g];cases gA a[k].1 round with|false=>rfl|true=>refine dd rfl (bw (cB c) (bw h ?_));cases ko a[k].2.2.1 b[i].1 with|false=>rfl|true=>refine dd rfl (bw (cB c) ?_);cases dO s a[k].2.1 with|false=>rfl|true=>exact dd rfl (bw (cB c) rfl)
 · unfold FB.b1;exact uM (Int.le_refl _) rfl
theorem Nf(a:List ds)(b:List pf)(round:Int)(e:W1 a.length)(j:(Ty.sl va).Ok a)(h:(Ty.sl GG).Ok b)(n:(Lit.int .i64 round).wf=true):FB ((a,()),((b,()),((round,()),())))=some (s6 a b round):=by
 have d:Al a.length:=e.l;have m:=Io a b round e j h n;unfold W1 at e;have l:=xL (S:=Int×(List D9×(List D3×Unit))) a (hM b round) (λi s=>s.1.length<=i/\s.2.length<=i) (f:=FB.b0 ((a,()),((b,()),((round,()),())))) (λs k=>(k,(s.1,(s.2,())))) (λs=>Sum.inl ((a.length:Int),(s.1,(s.2,())))) ([],[]) ⟨Nat.le_refl _,Nat.le_refl _⟩ (λi c s p=>by
 refine⟨?_,?_⟩;·unfold FB.b0 hM;refine uL (Int.ofNat_lt.2 c) (bw (Nd a b round _ c rfl h.1) ?_);cases g:km 0 (A5 b round a[i].1) with|false=>exact uN g (by rw[<-wG c d];rfl)|true=>exact dd g (bw (cB c) (Cm (by grind) (by decide) (by decide) (Cm (by grind) (by decide) (by decide) (by rw[<-wG c d];rfl))))
 ·unfold hM;grind) (λs _=>by unfold FB.b0;exact uM (Int.le_refl _) rfl);unfold FB s6;refine bw l.1 (bw (QU a (EL a b round) d m.Z4) ?_);cases o:FO a (EL a b round) with|false=>rfl|true=>refine uN rfl (bw (EI (EL a b round)) ?_);cases rf (EL a b round)<;>rfl
noncomputable def u3(n:a0)(g:pf):a0:=let a:=Ep n (sX (eD n) g)
 let t:=s6 (bb n) (sX (eD n) g) g.1
 bif t.2.1.1 then KK a t.1 else a
noncomputable def i0(n:a0)(g:pf)(q:j8):a0:=bif Ff (bb n) g.2.2.1&&uf (bb n) q then (bif gA (df n q).2.1 n.2.1 then u3 (df n q) g else df n q) else n
theorem Rw(l:List pf)(g:pf):(sX l g).length<=l.length+1:=by unfold sX;grind
theorem NT{l:List pf}{g:pf}(c:(Ty.sl GG).Ok l)(e:W1 l.length)(f:GG.Ok g):(Ty.sl GG).Ok (sX l g):=by have d:=Rw l g;unfold W1 at e;refine Dk (Nat.le_trans d (by omega)) (λy a=>?_);unfold sX at a;cases b:(!Po l g&&dO (l.length:Int) 1000)with|false=>rw[b]at a;exact Ae c.2 a|true=>
 rw[b]at a;rcases List.mem_append.1 a with a|a;·exact Ae c.2 a
 ·rw[List.mem_singleton.1 a];exact f
structure GIn(n:a0):Prop where
 s:W1 (bb n).length
 so:(Ty.sl va).Ok (bb n)g:(eD n).length<=1048575
 go:(Ty.sl GG).Ok (eD n)
theorem E6{a:List ds}{b:List pf}{round:Int}(h:(s6 a b round).2.1.1=true):rf (s6 a b round).1=false/\FO a (s6 a b round).1=true/\(s6 a b round).1=EL a b round:=by unfold s6 at h⊢;grind
theorem Pp(l:List pf)(g:pf)(c:a0×Unit)(a:a0×(pf×(j8×Unit)))(h:eD c.1=l)(i:a.2.1=g)(e:Al l.length):aR (HA.b0 c a) (false,((0:Int),()))=some (.inl (Po l g,((l.length:Int),()))):=by
 subst h i;have j:=AJ (S:=Bool×(Int×Unit)) (eD c.1) (λs x=>s||KM x a.2.1) (f:=HA.b0 c a) (λs k=>(s,(k,()))) (λs=>Sum.inl (s,(((eD c.1).length:Int),()))) false (λk d s=>by unfold HA.b0;refine uL (Int.ofNat_lt.2 d) ?_;rw[<-wG d e];cases s with|true=>rfl|false=>exact uN rfl (bw (cB d) (bw (qn d) rfl))) (λs=>by unfold HA.b0;exact uM (Int.le_refl _) rfl);refine j.trans ?_;have :∀(l:List pf) (b:Bool),l.foldl (λs x=>s||KM x a.2.1) b=(b||l.any (λx=>KM x a.2.1)):=by intro l;induction l with|nil=>grind|cons x r m=>grind
 rw[this];rfl
theorem Ip(n:a0)(g:pf)(q:j8)(h:I4 n)(f:FP q)(b:GG.Ok g)(a:GIn (df n q)):HA (n,(g,(q,())))=some (i0 n g q,()):=by unfold HA i0;refine bw (GQ (bb n) g.2.2.1 h.ok.set.1) ?_;cases Ff (bb n) g.2.2.1 with|false=>rfl|true=>refine uN rfl (bw (O3 (bb n) q h.ok.set.1 f.ok) ?_);cases uf (bb n) q with|false=>rfl|true=>refine uN rfl (bw (Eh n q h f) ?_);cases l:gA (df n q).2.1 n.2.1 with|false=>rfl|true=>
 have i:Al (eD (df n q)).length:=a.go.1;refine uN rfl (bw (Pp (eD (df n q)) g _ _ rfl rfl i) ?_);have j:∀(R:Type),(bif (!Po (eD (df n q)) g) then bif dO (List.length (eD (df n q)):Int) (1000:Int) then bif dE (List.length (eD (df n q))+List.length ([g]:List pf)) 32 then some (.inl (bV (eD (df n q)) ([g]:List pf),())) else none else some (.inl (eD (df n q),())) else some (.inl (eD (df n q),())))=some (Sum.inl (sX (eD (df n q)) g,()):Sum (List pf×Unit) R):=by intro R;unfold sX;cases Po (eD (df n q)) g with|true=>rfl|false=>refine dd rfl ?_;cases dO (List.length (eD (df n q)):Int) (1000:Int) with|false=>rfl|true=>exact dd rfl (Cm (by show (eD (df n q)).length+1<=1048577;have :=a.g;omega) (by decide) (by decide) rfl)
 have c:=NT a.go (Nat.le_trans a.g (by decide)) b;refine bw (j _) (bw (Nf (bb (df n q)) (sX (eD (df n q)) g) g.1 a.s a.so c b.1) ?_);unfold u3;have k:=Io (bb (df n q)) (sX (eD (df n q)) g) g.1 a.s a.so c b.1;cases d:(s6 (bb (df n q)) (sX (eD (df n q)) g) g.1).2.1.1 with|false=>exact uN rfl (by simp only[cond_true,d,cond_false,Bool.and_true];rfl)|true=>obtain⟨_,_,e⟩:=E6 d;refine dd rfl (bw (E5 (Ep (df n q) (sX (eD (df n q)) g)) _ (by grind)) (by grind))
def EM(n:a0):pf:=(ad n,((bx n).1,(n.1,())))
def E7(n:a0)(a:Int):gd:=(3,(⟨#[]⟩,(a,([],(0,(0,(⟨#[]⟩,(ad n,((bx n).1,(n.1,((bx n).1,((bx n).2.1,((bx n).2.2.1,(0,([],([],()))))))))))))))))
def Rx(n:a0):sH:=(2,(n.2.1,(ad n,((bx n).1,(n.1,())))))
noncomputable def fa(n:a0):a0×(List gd×List sH):=bif Ff (bb n) n.1&&!dO (ad n) (fr n) then(i0 (pn n (ad n)) (EM n) (bx n),(mu (bb n) n.1 (E7 n 0) n.2.1,[Rx n])) else (n,([],[]))
theorem LO{n:a0}(h:I4 n){v:Int}(a:(Lit.int .i64 v).wf=true):I4 (pn n v):=⟨Rs h.ok a,h.l,h.t,h.d,h.p⟩
theorem Zl{n:a0}(l:JH n)(a:Int):G1 (E7 n a):=⟨Nat.zero_le _,(λb c=>by cases c),l.2.2.2.2.1,Nat.zero_le _,Nat.zero_le _⟩
theorem HM{n:a0}(h:EF n):GG.Ok (EM n):=⟨h.2.2.2.2.2.2.1,h.2.2.2.2.2.2.2.2.1,h.1,trivial⟩
theorem Ry(n:a0)(h:I4 n)(b:GIn (df (pn n (ad n)) (bx n))):QF (n,())=some (((fa n).2.1,()),(((fa n).2.2,()),((fa n).1,()))):=by have a:=h.ok.D7 h.l;unfold QF fa;refine bw (GQ (bb n) n.1 h.ok.set.1) ?_;cases Ff (bb n) n.1 with|false=>rfl|true=>refine uN rfl ?_;show (bif dO (ad n) (fr n) then _ else _)=_;cases dO (ad n) (fr n) with|true=>rfl|false=>refine uN rfl (bw (EK (bx n) a.w) (bw (KL (pn n (ad n)) (E7 n n.2.1) h.l.2.1 (Zl h.l _)) (bw (show QD ((n.2.1,()),(EM n,()))=some (Rx n,()) from rfl) (bw (Ip (pn n (ad n)) (EM n) (bx n) (LO h h.round) a (HM h.ok) b) rfl))))
theorem Pq{l:List ao}(h:il l):∀(c:Int)(j:Nat)(a:j<l.length),l[j].1=c->(ct l c).Sublist (l.take (j+1)):=by
 refine w5 h (λc q j a e=>absurd e (q _ (List.getElem_mem a))) (λb d r j a e=>?_);rw[kk h d,List.take_succ_eq_append_getElem a];have n:l[j]=b:=h.Rj (List.getElem_mem a) d e;rw[n];refine List.Sublist.append ?_ (List.Sublist.refl _);rcases h.ME b d with⟨t,_⟩|⟨_,u,_,p,o,m,_⟩;·rw[JJ h (by omega)];grind
 · obtain⟨i,k,rfl⟩:=List.getElem_of_mem o;have s:i<j:=by
    rcases Nat.lt_or_ge i j with f|f;· exact f
    · exfalso;have v:l[j].1<=l[i].1:=by
       rcases Nat.eq_or_lt_of_le f with g|g;· grind
       · exact Int.le_of_lt (h.Wz j i a k g)
      omega
   exact (r i k m).trans (List.take_sublist_take_left (by omega))
theorem Iq{l:List ao}(h:il l)(a:Int):(ct l a).Sublist l:=by
 rcases lb h a with⟨_,_,e⟩|⟨b,c,d,_,_,_⟩;·rw[n6 e];grind
 ·obtain⟨j,f,rfl⟩:=List.getElem_of_mem c;exact(Pq h a j f d).trans (List.take_sublist _ _)
theorem WH{L:fp}(h:bm L=true):(Lit.int .i64 L.1).wf=true:=by unfold bm at h;simp only[Bool.and_eq_true]at h;have :=h.1;simp only[Di,km,Bool.and_eq_true,decide_eq_true_eq]at this;exact DX (by omega) (by omega)
theorem G2:∀(f:List ao)(L:fp),(Ty.sl cz).Ok L.2.1->fb L.2.1->(∀b∈f,(Ty.sl i3).Ok (n9 b))->bm L=true->bm (nr L f)=true|[],L,_,_,_,h=>h|b::r,L,d,e,a,h=>by obtain⟨_,j,i⟩:=C4 L (n9 b) d e (a b (by simp));exact G2 r _ j i (λc k=>a c (by grind)) (LH (n9 b) (0,L) d e (λt g=>Ae (a b (by simp)).2 g) h)
theorem LQ:∀(a d:List D3),(∀x∈d,e3.Ok x)->(∀x∈a,e3.Ok x)->∀x∈i4 d a,e3.Ok x|[],d,h,_=>h|y::r,d,h,c=>by refine LQ r (sU d y.1) (λx b=>?_) (λx b=>c x (by grind));unfold sU at b;grind
theorem NU(x y:Int):cM .i64 x y=cM .i64 y x:=by grind[cM]
theorem Pt(n:Int)(xs:List e6)(x:e6):BY n (xs++[x])=cM .i64 (BY n xs) x.1:=by simp_all[BY,e6,cM]
theorem RA(e a:Int):∀(xs:List e6)(s:List e6×Int),BY (cM .i64 (xs.foldl (iv e) s).2 a) (xs.foldl (iv e) s).1=BY (BY (cM .i64 s.2 a) s.1) xs|[],s=>rfl|x::r,s=>by simp only[List.foldl_cons];rw[RA e a r (iv e s x)];show _=BY (cM .i64 (BY (cM .i64 s.2 a) s.1) x.1) r;unfold iv;cases km x.2.1 e with|true=>simp only[cond_true];rw[show cM .i64 (cM .i64 s.2 x.1) a=cM .i64 x.1 (cM .i64 s.2 a) by rw[NU s.2 x.1,Ak],H6,NU]|false=>simp_all[BY,cM,e6,Pt]
theorem RB(e:Int)(a:bF):HD (ft e a)=HD a:=RA e a.2.2.2.1 a.2.2.2.2.1 ([],a.2.1)
theorem Pu(e:Int)(xs:List bF):Ec (xs.map (ft e))=Ec xs:=by
 unfold Ec;rw[List.foldl_map];have :(λ(s:Int)(y:bF)=>cM .i64 s (HD (ft e y)))=λs y=>cM .i64 s (HD y):=by funext s y;rw[RB]
 grind
end Go.Proofs.YthjkikiepdnimaaGreat
