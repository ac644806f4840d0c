/- Plain laws, part 2: what the program's functions and the reference's compute, told as plain words. Conditions: none. -/
import Derived.Test.YthjkikiepdnimaaGreatFzU1
set_option linter.unusedVariables false
set_option linter.unusedSimpArgs false
set_option linter.constructorNameAsVariable false
namespace Go.Proofs.YthjkikiepdnimaaGreat
open Go Go.Tm
set_option maxRecDepth 100000
theorem NC(e:Int):∀(xs:List ek)(s:List ek×Int),(xs.foldl (ie e) s).1=s.1++xs.filter (λx=>!km x.2.1 e)|[],s=>by simp|x::r,s=>by simp only[List.foldl_cons];rw[NC e r (ie e s x)];unfold ie;grind
theorem MX{xs ys:List ek}(b:ys.Sublist xs)(h:p6 xs=true)(d:VT (λ(z y:ek)=>dO z.2.1 y.2.1) xs):p6 ys=true:=by have c:=(Rd d).sublist b;unfold p6;refine vc λi a=>?_;have e:=F1 h ys[i] (b.subset (List.getElem_mem a));rw[Nat.zero_add];unfold FO;rw[Jw (lt:=λz y=>dO z.2.1 y.2.1) c i a];simp only[Di,km,Bool.and_true,Bool.and_eq_true,decide_eq_true_eq];omega
theorem ND(e:Int):∀(xs:List ek)(s:List ek×Int)(k:Nat),(∀y∈xs,1<=y.1/\y.1<=1000000)->0<=s.2->s.2<=1000000*(k:Int)->xs.length+k<=1000->0<=(xs.foldl (ie e) s).2/\(xs.foldl (ie e) s).2<=1000000*((xs.length+k:Nat):Int)
 |[],s,k,_,b,c,_=>⟨b,by grind⟩|x::r,s,k,h,b,c,f=>by
  have g:=h x (List.mem_cons_self ..);simp only[List.length_cons]at f⊢;simp only[List.foldl_cons];have j:cM .i64 s.2 x.1=s.2+x.1:=ed (by omega) (by omega);have a:0<=(ie e s x).2/\(ie e s x).2<=1000000*((k+1:Nat):Int):=by unfold ie;grind
  have i:=ND e r (ie e s x) (k+1) (λy d=>h y (List.mem_cons_of_mem _ d)) a.1 a.2 (by omega);omega
theorem Ic:∀(xs:List bF)(s:Int)(k:Nat),(∀a∈xs,0<=Hr a/\Hr a<=6000000)->0<=s->s<=6000000*(k:Int)->xs.length+k<=1000->s<=xs.foldl (λs y=>cM .i64 s (Hr y)) s/\∀a∈xs,Hr a<=xs.foldl (λs y=>cM .i64 s (Hr y)) s|[],s,_,_,_,_,_=>⟨Int.le_refl _,λa e=>by cases e⟩|x::r,s,k,h,i,f,c=>by have g:=h x (List.mem_cons_self ..);simp only[List.length_cons]at c;simp only[List.foldl_cons];have d:cM .i64 s (Hr x)=s+Hr x:=ed (by omega) (by omega);rw[d];have j:=Ic r (s+Hr x) (k+1) (λy b=>h y (List.mem_cons_of_mem _ b)) (by omega) (by omega) (by omega);grind
theorem Pb(L:fk)(h:bk L=true)(P:L.1<900):bk (cM .i64 L.1 1,(L.2.1.map (fi (cM .i64 L.1 1)),()))=true:=by
 obtain⟨A,r,p⟩:=mw h;unfold bk pb at h;simp only[Bool.and_eq_true]at h;obtain⟨l,t,H,j⟩:=h;have m:∀a∈L.2.1,oi a=true:=λa b=>by obtain⟨i,e,rfl⟩:=List.getElem_of_mem b;have :=xJ t i e;simp_all[oi,bF,lO,ob,ek,zA]
 have v:=λa b=>Rc (m a b);have s:=Ic L.2.1 0 0 (λa b=>by grind) (Int.le_refl _) (by omega) (by omega);have l:0<=L.1/\L.1<=900:=by simpa[Di,km]using l
 have w:cM .i64 L.1 1=L.1+1:=ed (by omega) (by omega);have B:C9 L.2.1<=1000000:=by simpa[km]using j
 generalize N:cM .i64 L.1 1=E at w;have I:∀a∈L.2.1,oi (fi E a)=true:=λa b=>by
  have q:=m a b;have n:=v a b;have c:=ND E a.2.2.2.2.1 ([],a.2.1) 1 (λy d=>by have :=F1 n.2.2.2.2.2.1 y d;omega) n.1 (by omega) (by omega);have K:(j5 E a).1=a.2.2.2.2.1.filter (λx=>!km x.2.1 E):=by unfold j5;rw[NC];rfl
  have f:(j5 E a).1.Sublist a.2.2.2.2.1:=by simp_all
  have g:=MX f n.2.2.2.2.2.1 (r a b).2;have D:=f.length_le;have G:=Rb E a;have C:(j5 E a).2<=Hr (fi E a):=by have O:cM .i64 (j5 E a).2 a.2.2.2.1=(j5 E a).2+a.2.2.2.1:=ed (by have :=c.1;unfold j5;omega) (by have :=c.2;unfold j5;omega);have k:=Ib (j5 E a).1 ((j5 E a).2+a.2.2.2.1) 10 (λy d=>by have :=F1 g y d;omega) (by have :=c.1;unfold j5;omega) (by have :=c.2;unfold j5;omega) (by omega);show _<=A3 (cM .i64 (j5 E a).2 a.2.2.2.1) (j5 E a).1;grind
  have F:(j5 E a).2<=1000000:=by have :=s.2 a b;have M:Hr a<=C9 L.2.1:=this;omega
  unfold oi at q⊢;simp only[Bool.and_eq_true]at q⊢;refine⟨q.1,?_,q.2.2.1,q.2.2.2.1,?_,g⟩;·show Di (j5 E a).2 0 1000000=true;have J:0<=(j5 E a).2:=c.1;simp[Di,km];omega
  ·show km (List.length (j5 E a).1:Int) 4=true;have :=n.2.2.2.2.1;simp[km];omega
 unfold bk pb;simp only[Bool.and_eq_true];refine⟨?_,?_,?_,?_⟩;·simp[Di,km];omega
 · refine vc λi e=>?_;rw[List.length_map]at e;rw[Nat.zero_add];unfold zA;have u:=Rd p;have o:(L.2.1.map (fi E)).Pairwise (λz y=>ob z.1 y.1=true):=by rw[List.pairwise_map];exact u
   rw[Jw (lt:=λ(z y:bF)=>ob z.1 y.1) o i (by omega),Bool.and_true,List.getElem_map];grind
 · grind
 · rw[Pa];exact j
theorem Ie(L:fk)(b:(Ty.sl c6).Ok L.2.1)(c:eD L.2.1)(h:bk L=true)(d:L.1<900):(ks L).1=L.1+1/\bk (ks L)=true:=by
 obtain⟨R,g,k,j,m,f⟩:=GK L b c;have e:ks L=R:=by unfold ks;rw[g]
 have a:=Pb L h d;have i:=f h a;have l:0<=L.1:=by unfold bk at h;simp only[Bool.and_eq_true,Di,km,decide_eq_true_eq]at h;omega
 rw[e,i];exact⟨ed (by omega) (by omega),a⟩
theorem Ig:∀(f:List ao)(L:fk),(Ty.sl c6).Ok L.2.1->eD L.2.1->(∀b∈f,(Ty.sl il).Ok (nx b))->(nr L f).1=L.1|[],L,_,_,_=>rfl|b::r,L,d,g,a=>by obtain⟨_,i,h⟩:=B2 L (nx b) d g (a b (by simp));have e:=Nv (nx b) (0,L) d g (λt j=>Ae (a b (by simp)).2 j);exact (Ig r _ i h (λc k=>a c (by grind))).trans e
abbrev MY:Type:=List D5×(Int×(Int×Unit))
def tR(c:MY):Prop:=List.length c.1<=1048576/\0<=c.2.1/\c.2.1<=(List.length c.1:Int)
theorem Yx(b:List D5)(c:List.length b<=1048576):Y (U7 ((b,()),())) (λy=>tR y.1/\y.1.1=b):=by unfold U7;refine Y.DZ (P:=λ_=>True) (R:=λ_=>False) (Y.loop (I:=λs=>0<=s.2.1/\s.2.1<=(List.length b:Int)) (λs=>((List.length b:Int)-s.2.1).toNat) (λs d=>?_) _ ⟨Int.le_refl _,Int.natCast_nonneg _⟩) (λv _=>Y.mk ⟨⟨c,Int.le_refl _,Int.natCast_nonneg _⟩,rfl⟩) (λ_ h=>h.elim);unfold U7.b0;refine Y.DY (λa=>Y.DY (λf=>?_) (λ_=>Y.rl trivial)) (λ_=>Y.rl trivial);have a:=Cp.1 a;refine Y.bind (Y.gi (Q:=λ_=>True) d.1 a λ_ _=>trivial) (λx _=>Y.l ?_);have e:(cM .i64 s.2.1 (1:Int))=s.2.1+1:=ed (by omega) (by omega);grind
theorem Ky(c:MY)(a:tR c):Y (Mw (c,())) (λy=>0<=y.1.1/\y.1.1<=255/\tR y.2.1/\y.2.1.1=c.1):=by unfold Mw;refine Y.ff rfl (Y.ff rfl ?_);refine Y.DZ (P:=λv=>0<=v.1/\v.1<=255/\0<=v.2.1/\v.2.1<=(List.length c.1:Int)) (R:=λ_=>False) (Y.DY (λb=>?_) (λb=>Y.l ⟨(BN _).1,(BN _).2,a.2.1,a.2.2⟩)) (λv d=>Y.mk ⟨d.1,d.2.1,⟨a.1,d.2.2.1,d.2.2.2⟩,rfl⟩) (λ_ h=>h.elim);have b:=Cp.1 b;refine Y.bind (Y.gi (Q:=λ_=>True) a.2.1 b λ_ _=>trivial) (λx _=>Y.l ⟨(BN _).1,(BN _).2,?_⟩);have e:(cM .i64 c.2.1 (1:Int))=c.2.1+1:=ed (by have :=a.2.1;omega) (by have :=a.2.2;have :=a.1;omega);have f:=a.2.1;grind
theorem j6(c:MY)(n:Int)(o:tR c):Y (IJ (c,((n,()),()))) (λy=>0<=y.1.1/\(0<n->y.1.1<n)/\(n<=0->y.1.1=0)/\tR y.2.1/\y.2.1.1=c.1):=by
 unfold IJ;refine Y.DY (λi=>?_) (λi=>?_);·simp_all[km,Cq,Y.mk,HJ,tR,D5]
 · have i:0<n:=CM.1 i;refine Y.DY (λ_=>Y.bind (Ky c o) λy p=>?_) (λ_=>Y.bind (Ky c o) λg l=>Y.bind (Ky _ l.2.2.1) λh k=>Y.bind (Ky _ k.2.2.1) λj m=>?_);· refine Y.ff (CN.2 (show n≠0 by omega)) (Y.mk ?_);have q:=Co p.1 i;grind
   · refine Y.ff (CN.2 (show n≠0 by omega)) (Y.mk ?_);have a:=l.1;have b:=l.2.1;have r:=k.1;have d:=k.2.1;have e:=m.1;have f:=m.2.1;have u:zJ .i64 g.1.1 (65536:Int)=g.1.1*65536:=Ar (by omega) (by omega);have t:zJ .i64 h.1.1 (256:Int)=h.1.1*256:=Ar (by omega) (by omega);have v:cM .i64 (g.1.1*65536) (h.1.1*256)=g.1.1*65536+h.1.1*256:=ed (by omega) (by omega);have s:cM .i64 (g.1.1*65536+h.1.1*256) j.1.1=g.1.1*65536+h.1.1*256+j.1.1:=ed (by omega) (by omega);have q:=Co (x:=g.1.1*65536+h.1.1*256+j.1.1) (by omega) i;grind
theorem Jx(c:MY)(l:List D3)(e:tR c)(f:l≠[]):Y (J0 (c,((l,()),()))) (λy=>y.1∈l/\tR y.2.1/\y.2.1.1=c.1):=by
 unfold J0;have d:(0:Int)<(List.length l:Int):=by have :=List.length_pos_iff.2 f;omega
 refine Y.bind (j6 c _ e) λy a=>Y.bind (Y.gi (Q:=λx=>x∈l) a.1 (a.2.1 d) λx b=>b) λx b=>Y.mk ⟨b,a.2.2.2.1,a.2.2.2.2⟩
theorem Yy(c:MY)(l:List D9)(e:tR c)(f:l≠[]):Y (SB (c,((l,()),()))) (λy=>y.1∈l/\tR y.2.1/\y.2.1.1=c.1):=by
 unfold SB;have d:(0:Int)<(List.length l:Int):=by have :=List.length_pos_iff.2 f;omega
 refine Y.bind (j6 c _ e) λy a=>Y.bind (Y.gi (Q:=λx=>x∈l) a.1 (a.2.1 d) λx b=>b) λx b=>Y.mk ⟨b,a.2.2.2.1,a.2.2.2.2⟩
theorem EB(c:MY)(n:Int)(b:tR c):Y (P0 (c,((n,()),()))) (λy=>tR y.2.1/\y.2.1.1=c.1):=by unfold P0;exact Y.bind (j6 c _ b) λy a=>Y.mk ⟨a.2.2.2.1,a.2.2.2.2⟩
theorem Re(c:MY)(b:tR c):Y (P2 (c,())) (λy=>y.1.1.size<=8/\tR y.2.1/\y.2.1.1=c.1):=by unfold P2;refine Y.bind (Yy c _ b (by simp)) λy a=>Y.mk ⟨?_,a.2⟩;have h:=a.1;simp only[List.mem_cons,List.not_mem_nil,or_false]at h;rcases h with h|h|h|h|h|h<;>rw[h]<;>decide
def txS(t:cp):Prop:=t.1<=3/\1<=t.1/\t.2.1.size<=8/\t.2.2.1.size<=8/\0<=t.2.2.2.1/\t.2.2.2.1<=200/\0<=t.2.2.2.2.1/\t.2.2.2.2.1<=3
theorem UA(c:MY)(n:tR c):Y (P3 (c,())) (λy=>txS y.1/\tR y.2.1/\y.2.1.1=c.1):=by
 unfold P3;refine Y.bind (j6 c _ n) λi a=>Y.bind (Re _ a.2.2.2.1) λq f=>Y.bind (Jx _ _ f.2.1 (by simp)) λj k=>Y.bind (j6 _ _ k.2.1) λm b=>?_;have e:m.2.1.1=c.1:=b.2.2.2.2.trans (k.2.2.trans (f.2.2.trans a.2.2.2.2));have l:0<=j.1.1/\j.1.1<=200:=by grind
 refine Y.DZ (P:=λv=>tR (v.1,(v.2.1,(v.2.2.1,())))/\v.1=c.1/\v.2.2.2.1.size<=8) (R:=λ_=>False) (Y.DY (λ_=>Y.bind (Re _ b.2.2.2.1) λr g=>Y.l ⟨g.2.1,g.2.2.trans e,g.1⟩) (λ_=>Y.l ⟨b.2.2.2.1,e,Nat.zero_le 8⟩)) (λv d=>Y.mk ⟨?_,d.1,d.2.1⟩) (λ_ h=>h.elim);have s:=a.1;have o:=a.2.1 (by decide);have p:cM .i64 (1:Int) i.1.1=1+i.1.1:=ed (by omega) (by omega);exact⟨by grind,by grind,f.1,d.2.2,l.1,l.2,b.1,by grind⟩
theorem Yz(c:MY)(l:IH)(k:tR c)(j:∀a∈l.2.1,a.1.size<=8)(p:List.length l.2.1<=1000000):Y (SC (c,(l,()))) (λy=>y.1.1<=3/\1<=y.1.1/\y.1.2.1.size<=8/\y.1.2.2.1.size<=8/\0<=y.1.2.2.2.1/\y.1.2.2.2.1<=200/\((0<=y.1.2.2.2.2.1/\y.1.2.2.2.2.1<=3)\/∃a∈l.2.1,y.1.2.2.2.2.1=a.2.2.1)/\tR y.2.1/\y.2.1.1=c.1):=by unfold SC;refine Y.bind (UA c k) λo b=>?_;refine Y.DZ (P:=λv=>tR (v.1,(v.2.1,(v.2.2.1,())))/\v.1=c.1/\v.2.2.2.1.size<=8/\((0<=v.2.2.2.2.1/\v.2.2.2.2.1<=3)\/∃a∈l.2.1,v.2.2.2.2.1=a.2.2.1)) (R:=λ_=>False) (Y.DY (λm=>Y.bind (EB _ _ b.2.1) λq f=>Y.DY (λ_=>Y.bind (j6 _ _ f.1) λr e=>Y.bind (Y.gi (Q:=λx=>x∈l.2.1) e.1 (e.2.1 (Cp.1 m)) λx i=>i) λn g=>Y.l ⟨e.2.2.2.1,e.2.2.2.2.trans (f.2.trans b.2.2),j _ g,.inr ⟨n,g,rfl⟩⟩) (λ_=>Y.l ⟨f.1,f.2.trans b.2.2,b.1.2.2.1,.inl b.1.2.2.2.2.2.2⟩)) (λ_=>Y.l ⟨b.2.1,b.2.2,b.1.2.2.1,.inl b.1.2.2.2.2.2.2⟩)) (λv d=>Y.mk ⟨b.1.1,b.1.2.1,d.2.2.1,b.1.2.2.2.1,b.1.2.2.2.2.1,b.1.2.2.2.2.2.1,d.2.2.2,d.1,d.2.1⟩) (λ_ h=>h.elim)
theorem A6(x:D3)(n:Int):Y (Gy (x,((n,()),()))) (λ_=>True):=by unfold Gy;exact Y.ff (zH _) (Y.ff (zH _) (Y.mk trivial))
theorem TF(b:List D5)(p:List.length b=64):Y (IX ((b,()),())) (λy=>List.length y.1.1=64):=by
 unfold IX;refine Y.DZ (P:=λv=>List.length v.1=16) (R:=λ_=>False) (Y.loop (I:=λs=>0<=s.2.1/\s.2.1<=16/\(List.length s.1:Int)=s.2.1) (λs=>(16-s.2.1).toNat) (λs g=>?_) _ ⟨Int.le_refl _,by grind,rfl⟩) (λv d=>?_) (λ_ h=>h.elim)
 · obtain ⟨w,i,u⟩:=s;obtain ⟨f,e,j⟩:=g;dsimp only at f e j;unfold IX.b0;refine Y.DY (λa=>?_) (λc=>Y.rl ?_)
   · have a:i<16:=Cp.1 a;have o:zJ .i64 (4:Int) i=4*i:=Ar (by omega) (by omega);have m:cM .i64 (zJ .i64 (4:Int) i) 1=4*i+1:=by grind[cM,zJ,ed]
     have k:cM .i64 (zJ .i64 (4:Int) i) 2=4*i+2:=by grind[cM,zJ,ed]
     have n:cM .i64 (zJ .i64 (4:Int) i) 3=4*i+3:=by grind[cM,zJ,ed]
     have l:cM .i64 i 1=i+1:=ed (by omega) (by omega);refine Y.gT (by grind) (by grind) λ_ _=>Y.ff rfl (Y.gT (by grind) (by grind) λ_ _=>Y.ff rfl (Y.gT (by grind) (by grind) λ_ _=>Y.ff rfl (Y.gT (by grind) (by grind) λ_ _=>Y.dE (by grind) (by decide) (by decide) (Y.l ?_))));show (0<=cM .i64 i 1/\cM .i64 i 1<=16/\(List.length (w++[_]):Int)=cM .i64 i 1)/\(16-cM .i64 i 1).toNat<(16-i).toNat;grind
   · have c:16<=i:=Au.1 c;grind
 · have d:List.length v.1=16:=d;refine Y.DZ (P:=λv=>List.length v.1=64) (R:=λ_=>False) (Y.loop (I:=λs=>16<=s.2.1/\s.2.1<=64/\(List.length s.1:Int)=s.2.1) (λs=>(64-s.2.1).toNat) (λs g=>?_) _ ⟨Int.le_refl _,by grind,by grind⟩) (λv d=>Y.mk d) (λ_ h=>h.elim);obtain ⟨w,i,u⟩:=s;obtain ⟨f,e,j⟩:=g;dsimp only at f e j;unfold IX.b1;refine Y.DY (λa=>?_) (λc=>Y.rl ?_);· have a:i<64:=Cp.1 a;have m:gS .i64 i 15=i-15:=iz (by omega) (by omega);have k:gS .i64 i 2=i-2:=iz (by omega) (by omega);have n:gS .i64 i 16=i-16:=iz (by omega) (by omega);have q:gS .i64 i 7=i-7:=iz (by omega) (by omega);have l:cM .i64 i 1=i+1:=ed (by omega) (by omega);refine Y.Eb (by grind) (by grind) λ_ _=>Y.Eb (by grind) (by grind) λ_ _=>Y.bind (A6 _ _) λ_ _=>Y.bind (A6 _ _) λ_ _=>Y.ff rfl (Y.bind (A6 _ _) λ_ _=>Y.bind (A6 _ _) λ_ _=>Y.ff rfl (Y.Eb (by grind) (by grind) λ_ _=>Y.Eb (by grind) (by grind) λ_ _=>Y.dE (by grind) (by decide) (by decide) (Y.l ?_)));show (16<=cM .i64 i 1/\cM .i64 i 1<=64/\(List.length (w++[_]):Int)=cM .i64 i 1)/\(64-cM .i64 i 1).toNat<(64-i).toNat;grind
   · have c:64<=i:=Au.1 c;grind
theorem TG(h:List D3)(b:List D5)(k:List D3)(m:List.length h=8)(j:List.length b=64)(q:List.length k=64):Y (IY ((h,()),((b,()),((k,()),())))) (λy=>List.length y.1.1=8):=by
 unfold IY;refine Y.bind (TF b j) λl g=>Y.dE (by grind) (by decide) (by decide) ?_;refine Y.DZ (P:=λv=>List.length v.1=8) (R:=λ_=>False) (Y.loop (I:=λs=>0<=s.2.1/\List.length s.1=8) (λs=>(64-s.2.1).toNat) (λs e=>?_) _ ⟨Int.le_refl _,m⟩) (λv c=>?_) (λ_ h=>h.elim)
 · obtain ⟨v,i,u⟩:=s;obtain ⟨f,d⟩:=e;dsimp only at f d;unfold IY.b0;refine Y.DY (λa=>?_) (λn=>Y.rl d);have a:i<64:=Cp.1 a;have o:cM .i64 i 1=i+1:=ed (by omega) (by omega);have p:(l.1.1).length=64:=g;refine Y.Eb (by decide) (by grind) λ_ _=>Y.bind (A6 _ _) λ_ _=>Y.bind (A6 _ _) λ_ _=>Y.bind (A6 _ _) λ_ _=>?_;refine Y.Eb (by decide) (by grind) λ_ _=>Y.Eb (by decide) (by grind) λ_ _=>Y.Eb (by decide) (by grind) λ_ _=>?_;refine Y.gT (by omega) (by grind) λ_ _=>Y.Eb (by omega) (by grind) λ_ _=>?_;refine Y.Eb (by decide) (by grind) λ_ _=>Y.bind (A6 _ _) λ_ _=>Y.bind (A6 _ _) λ_ _=>Y.bind (A6 _ _) λ_ _=>?_;refine Y.Eb (by decide) (by grind) λ_ _=>Y.Eb (by decide) (by grind) λ_ _=>Y.Eb (by decide) (by grind) λ_ _=>Y.Eb (by decide) (by grind) λ_ _=>Y.Eb (by decide) (by grind) λ_ _=>Y.Eb (by decide) (by grind) λ_ _=>Y.Eb (by decide) (by grind) λ_ _=>Y.Eb (by decide) (by grind) λ_ _=>Y.Eb (by decide) (by grind) λ_ _=>Y.l ⟨⟨?_,rfl⟩,?_⟩;· grind
   grind
 · have c:List.length v.1=8:=c;refine Y.DZ (P:=λv=>List.length v.2.1=8) (R:=λ_=>False) (Y.loop (I:=λs=>0<=s.1/\List.length s.2.1=8) (λs=>(8-s.1).toNat) (λs e=>?_) _ ⟨Int.le_refl _,c⟩) (λv c=>Y.mk c) (λ_ h=>h.elim);obtain ⟨i,v,u⟩:=s;obtain ⟨f,d⟩:=e;dsimp only at f d;unfold IY.b1;refine Y.DY (λa=>?_) (λn=>Y.rl d);have a:i<8:=Cp.1 a;have o:cM .i64 i 1=i+1:=ed (by omega) (by omega);refine Y.Eb (by omega) (by grind) λ_ _=>Y.gT (by omega) (by grind) λ_ _=>Y.Eb (by omega) (by grind) λ_ _=>Y.l ⟨⟨?_,?_⟩,?_⟩;· grind
   · grind
   grind
theorem Rf(b:List D5)(p:List.length b<=1000000000):Y (IW ((b,()),())) (λy=>List.length y.1.1%64=0/\List.length y.1.1<=1000000100):=by
 unfold IW;refine Y.dE (by grind) (by decide) (by decide) (Y.dE (by show List.length ([]++b)+1<=_;grind) (by decide) (by decide) ?_);refine Y.DZ (P:=λv=>List.length v.1%64=56/\List.length v.1<=List.length b+65) (R:=λ_=>False) (Y.loop (I:=λs=>List.length s.1+(120-List.length s.1%64)%64<=List.length b+65) (λs=>(120-List.length s.1%64)%64) (λs a=>?_) _ ?_) (λv d=>?_) (λ_ h=>h.elim)
 · obtain⟨o,u⟩:=s;dsimp only at a;unfold IW.b0;have r:ph (List.length o:Int) (64:Int)=((List.length o%64:Nat):Int):=rfl;refine Y.ff rfl (Y.DY (λf=>?_) (λi=>Y.rl ?_));· have f:((List.length o%64:Nat):Int)≠56:=CN.1 (by grind);refine Y.dE (by grind) (by decide) (by decide) (Y.l ?_);show (List.length (o++[_])+(120-List.length (o++[_])%64)%64<=List.length b+65)/\(120-List.length (o++[_])%64)%64<(120-List.length o%64)%64;grind
   · have i:((List.length o%64:Nat):Int)=56:=Cr.1 (by grind);grind
 · show List.length (([]++b)++[_])+(120-List.length (([]++b)++[_])%64)%64<=List.length b+65;grind
 · obtain⟨o,u⟩:=v;obtain⟨g,l⟩:=d;dsimp only at g l;refine Y.DZ (P:=λv=>List.length v.1=List.length o+8) (R:=λ_=>False) (Y.loop (I:=λs=>-8<=s.2.1/\8*(List.length s.1:Int)+s.2.1=8*(List.length o:Int)+56/\(List.length s.1)<=List.length o+8) (λs=>(s.2.1+8).toNat) (λs a=>?_) _ ⟨by grind,rfl,by grind⟩) (λv d=>Y.mk ?_) (λ_ h=>h.elim)
   · obtain ⟨q,k,u⟩:=s;obtain ⟨j,n,m⟩:=a;dsimp only at j n m;unfold IW.b1;refine Y.DY (λc=>?_) (λe=>Y.rl ?_);· have c:0<=k:=Cq.1 c;have t:gS .i64 k 8=k-8:=iz (by omega) (by omega);refine Y.ff (zH _) (Y.dE (by grind) (by decide) (by decide) (Y.l ?_));show (-8<=gS .i64 k 8/\8*(List.length (q++[_]):Int)+gS .i64 k 8=8*(List.length o:Int)+56/\List.length (q++[_])<=List.length o+8)/\(gS .i64 k 8+8).toNat<(k+8).toNat;grind
     · have e:k<0:=CM.1 e;grind
   grind
theorem F2(b:List D5)(x:List.length b<=1000000000):Y (Hm ((b,()),())) (λy=>y.1.1.size=32):=by
 unfold Hm;refine Y.bind (Rf b x) λj f=>Y.bind (Y.of (Q:=λy=>List.length y.1.1=64) rfl rfl) λt k=>?_;have f:List.length j.1.1%64=0/\List.length j.1.1<=1000000100:=f;have k:List.length t.1.1=64:=k;generalize j.1.1=p at f;refine Y.DZ (P:=λv=>List.length v.1=8) (R:=λ_=>False) (Y.loop (I:=λs=>List.length s.1=8/\0<=s.2.1/\s.2.1%64=0/\s.2.1<=(List.length p:Int)/\s.2.2.1=p) (λs=>((List.length p:Int)-s.2.1).toNat) (λs l=>?_) _ ⟨rfl,Int.le_refl _,rfl,Int.natCast_nonneg _,rfl⟩) (λv d=>?_) (λ_ h=>h.elim);·obtain ⟨h,g,q,u⟩:=s;obtain ⟨c,n,m,w,rfl⟩:=l;dsimp only at c n m w f;unfold Hm.b0;refine Y.DY (λa=>?_) (λ_=>Y.rl c);have a:g<(List.length q:Int):=Cp.1 a;have e:cM .i64 g 64=g+64:=ed (by omega) (by omega);refine Y.tt (by unfold wq;grind) (Y.bind (TG h _ t.1.1 c (by grind) k) λA z=>Y.l ?_);grind
 · have d:List.length v.1=8:=d;refine Y.DZ (P:=λv=>List.length v.1=32) (R:=λ_=>False) (Y.loop (I:=λs=>0<=s.2.1/\s.2.1<=8/\(List.length s.1:Int)=4*s.2.1) (λs=>(8-s.2.1).toNat) (λs l=>?_) _ ⟨Int.le_refl _,by grind,rfl⟩) (λv d=>Y.mk ((xZ _).trans d)) (λ_ h=>h.elim);obtain ⟨o,i,u⟩:=s;obtain ⟨c,n,m⟩:=l;dsimp only at c n m;unfold Hm.b1;refine Y.DY (λa=>?_) (λr=>Y.rl ?_);· have a:i<8:=Cp.1 a;have e:cM .i64 i 1=i+1:=ed (by omega) (by omega);refine Y.Eb (by omega) (by grind) λ_ _=>Y.ff rfl (Y.Eb (by omega) (by grind) λ_ _=>Y.ff rfl (Y.Eb (by omega) (by grind) λ_ _=>Y.ff rfl (Y.Eb (by omega) (by grind) λ_ _=>Y.dE (by grind) (by decide) (by decide) (Y.l ?_))));show (0<=cM .i64 i 1/\cM .i64 i 1<=8/\(List.length (o++[_,_,_,_]):Int)=4*cM .i64 i 1)/\(8-cM .i64 i 1).toNat<(8-i).toNat;grind
   · have r:8<=i:=Au.1 r;grind
theorem F3(s:ByteArray)(a:s.size<=100000000):Y (SM ((s,()),())) (λy=>y.1.1.size=32):=by unfold SM;have e:List.length (eo s)=s.size:=ze s;refine Y.dE (by grind) (by decide) (by decide) (Y.bind (F2 _ ?_) λy h=>Y.mk h);exact Cs (n:=1) (m:=s.size) (Nat.le_refl _) (Nat.le_of_eq e) (by omega)
theorem F4(a b:ByteArray)(g:a.size<=100000000)(f:b.size<=100000000):Y (SN ((a,()),((b,()),()))) (λy=>y.1.1.size=32):=by unfold SN;have e:List.length (eo a)=a.size:=ze a;have c:List.length (eo b)=b.size:=ze b;have d:(bV ([((1:Int),())]:List D5) (eo a)).length<=1+a.size:=Cs (n:=1) (m:=a.size) (Nat.le_refl _) (Nat.le_of_eq e) (Nat.le_refl _);refine Y.dE (by grind) (by decide) (by decide) (Y.dE (Nat.le_trans (Nat.add_le_add d (Nat.le_of_eq c)) (by omega)) (by decide) (by decide) (Y.bind (F2 _ ?_) λy h=>Y.mk h));exact Cs (n:=1+a.size) (m:=b.size) d (Nat.le_of_eq c) (by omega)
theorem V7(n:Int)(i:2<=n)(g:n<=1000000):Y (MA ((n,()),())) (λy=>1<=y.1.1/\y.1.1<n):=by unfold MA;refine Y.DZ (P:=λv=>1<=v.1/\v.1<n) (R:=λ_=>False) (Y.loop (I:=λs=>1<=s.1/\s.1<n) (λs=>(n-s.1).toNat) (λs d=>?_) _ ⟨Int.le_refl _,by omega⟩) (λv c=>Y.mk c) (λ_ h=>h.elim);obtain ⟨v,u⟩:=s;obtain ⟨a,b⟩:=d;dsimp only at a b;unfold MA.b0;have e:zJ .i64 (2:Int) v=2*v:=Ar (by omega) (by omega);refine Y.DY (λf=>Y.l ?_) (λ_=>Y.rl ⟨a,b⟩);grind[zJ,dO,Cp]
theorem Kz:∀(k:Nat)(l:List D9),List.length l<=k->List.length l<=1000->(∀s∈l,s.1.size<=100000000)->Y (KY (k+1) ((l,()),())) (λy=>y.1.1.size=32)
 |k,l,c,n,j=>by
  show Y (Qb (KY k) ((l,()),())) _;unfold Qb;refine Y.DY (λ_=>Y.bind (F2 _ (Nat.zero_le _)) λy h=>Y.mk h) (λf=>Y.DY (λa=>?_) (λa=>?_));·have a:(List.length l:Int)=1:=Cr.1 a;exact Y.bind (Y.gi (Q:=λx=>x∈l) (Int.le_refl _) (by grind) λ_ h=>h) λx g=>Y.bind (F3 x.1 (j x g)) λy h=>Y.mk h
  ·have f:(List.length l:Int)≠0:=CN.1 f;have a:(List.length l:Int)≠1:=CN.1 a;match k,c with
 |0,c=>omega|k+1,c=>
 refine Y.bind (V7 (List.length l:Int) (by omega) (by omega)) λb d=>?_;have d:1<=b.1.1/\b.1.1<(List.length l:Int):=d;have e:mX b.1.1 (List.length l)=true:=by unfold mX;grind
 refine Y.tt e (Y.bind (Kz k _ ?_ ?_ ?_) λi o=>Y.tt e (Y.bind (Kz k _ ?_ ?_ ?_) λm p=>Y.bind (F4 i.1.1 m.1.1 ?_ ?_) λy h=>Y.mk h));·grind
 ·grind
 ·grind
 ·grind
 ·grind
 ·grind
 ·omega
 omega
theorem F6{A:Type}{c:Bool}{t e:Option A}{y:A}(h:(bif c then t else e)=some y):(c=true/\t=some y)\/(c=false/\e=some y):=by grind
theorem D6{A B:Type}{o:Option A}{K:A->Option B}{y:B}(h:o.bind K=some y):∃a,o=some a/\K a=some y:=Option.bind_eq_some_iff.1 h
theorem KA:∀(k:Nat)(l:List D9)(y:(ByteArray×Unit)×Unit),List.length l<=1000->(∀s∈l,s.1.size<=100000000)->KY k ((l,()),())=some y->y.1.1.size=32
 |0,l,y,_,_,h=>by cases h|k+1,l,y,p,f,h=>by
  change Qb (KY k) ((l,()),())=some y at h;unfold Qb at h;rcases F6 h with⟨_,h⟩|⟨t,h⟩;·obtain⟨a,d,h⟩:=D6 h;have :=Y.get (F2 _ (Nat.zero_le _)) d;grind
  · rcases F6 h with⟨e,h⟩|⟨e,h⟩;· obtain⟨x,j,h⟩:=D6 h;obtain⟨a,d,h⟩:=D6 h;have e:(List.length l:Int)=1:=Cr.1 e;have n:x∈l:=Y.get (Y.gi (xs:=l) (i:=0) (Q:=λx=>x∈l) (Int.le_refl _) (by omega) λ_ h=>h) j;have :=Y.get (F3 x.1 (f x n)) d;grind
    · obtain⟨q,o,h⟩:=D6 h;rcases F6 h with⟨_,h⟩|⟨_,h⟩
      · obtain⟨a,d,h⟩:=D6 h;rcases F6 h with⟨_,h⟩|⟨_,h⟩;· obtain⟨b,g,h⟩:=D6 h;obtain⟨c,m,h⟩:=D6 h;have u:=KA k _ a (by grind) (λs h=>f s (List.mem_of_mem_drop (List.mem_of_mem_take h))) d;have r:=KA k _ b (by grind) (λs h=>f s (List.mem_of_mem_drop (List.mem_of_mem_take h))) g;have :=Y.get (F4 a.1.1 b.1.1 (by omega) (by omega)) m;grind
        grind
      grind
theorem Rg(l:List D9)(a:List.length l<=1000)(b:∀s∈l,s.1.size<=100000000):Y (SO ((l,()),())) (λy=>y.1.1.size<=32):=by unfold SO;refine Y.DY (λ_=>Y.mk (Nat.zero_le _)) (λ_=>?_);obtain⟨y,c,_⟩:=Kz (List.length l) l (Nat.le_refl _) a b;obtain⟨z,e⟩:=yh (R:=KY) ⟨_,y,c⟩;obtain⟨k,d⟩:=oA e;have :=KA k l z a b d;simp_all[Y.bind,Vd,D9,Y.of,Y.mk]
theorem aO3(n:Int)(h:0<=n):zL .i64 n 7=n/128:=by unfold zL;show n.fdiv 128=n/128;grind
theorem w9(b:List D5)(n:Int)(l:List.length b<=1000000000):Y (Gx ((b,()),((n,()),()))) (λy=>List.length y.1.1<=List.length b+6):=by
 unfold Gx;refine Y.dE (by grind) (by decide) (by decide) ?_;refine Y.DZ (P:=λv=>v.1<=1000000000) (R:=λ_=>False) (Y.DY (λ_=>Y.l (Int.le_refl _)) (λh=>Y.l (Au.1 h))) (λq g=>?_) (λ_ h=>h.elim);refine Y.DZ (P:=λv=>v.1<=1000000000/\-1000000000<=v.1) (R:=λ_=>False) (Y.DY (λ_=>Y.l ⟨by decide,Int.le_refl _⟩) (λh=>Y.l ⟨g,Au.1 h⟩)) (λr t=>?_) (λ_ h=>h.elim);refine Y.DZ (P:=λv=>0<=v.1/\v.1<=2000000000) (R:=λ_=>False) (Y.DY (λh=>Y.l ?_) (λh=>Y.l ?_)) (λp i=>?_) (λ_ h=>h.elim);·grind[dO,Cp,gS,zJ,Ar,iz]
 ·grind[dO,Au,zJ,Ar]
 · refine Y.DZ (P:=λv=>List.length v.1<=List.length b+5) (R:=λ_=>False) (Y.loop (I:=λs=>0<=s.2.1/\((List.length s.1<=List.length b/\s.2.1<=17179869184)\/(List.length s.1<=List.length b+1/\s.2.1<=134217728)\/(List.length s.1<=List.length b+2/\s.2.1<=1048576)\/(List.length s.1<=List.length b+3/\s.2.1<=8192)\/(List.length s.1<=List.length b+4/\s.2.1<=64))) (λs=>s.2.1.toNat) (λs j=>?_) _ ?_) (λv e=>?_) (λ_ h=>h.elim);· obtain⟨o,m,u⟩:=s;obtain⟨f,k⟩:=j;dsimp only at f k;unfold Gx.b0;refine Y.DY (λd=>?_) (λ_=>Y.rl (by grind));have d:127<m:=Cp.1 d;refine Y.dE (by grind) (by decide) (by decide) (Y.ff rfl (Y.l ?_));show (0<=zL .i64 m 7/\((List.length (o++[_])<=List.length b/\zL .i64 m 7<=17179869184)\/(List.length (o++[_])<=List.length b+1/\zL .i64 m 7<=134217728)\/(List.length (o++[_])<=List.length b+2/\zL .i64 m 7<=1048576)\/(List.length (o++[_])<=List.length b+3/\zL .i64 m 7<=8192)\/(List.length (o++[_])<=List.length b+4/\zL .i64 m 7<=64)))/\(zL .i64 m 7).toNat<m.toNat;rw[aO3 m f,List.length_append];grind
   · obtain⟨a,c⟩:=i;refine⟨a,.inl ⟨?_,by grind⟩⟩;simp_all[D5,bV]
   · have e:List.length v.1<=List.length b+5:=e;refine Y.dE (by grind) (by decide) (by decide) (Y.mk ?_);simp_all[D5,bV]
theorem Pc(b:List D5)(s:ByteArray)(f:List.length b<=100000000)(d:s.size<=100000000):Y (SL ((b,()),((s,()),()))) (λy=>List.length y.1.1<=List.length b+6+s.size):=by unfold SL;refine Y.bind (w9 b _ (by omega)) λc a=>?_;have a:List.length c.1.1<=List.length b+6:=a;have e:List.length (eo s)=s.size:=ze s;refine Y.dE (by grind) (by decide) (by decide) (Y.mk ?_);exact Cs (n:=List.length b+6) (m:=s.size) a (Nat.le_of_eq e) (Nat.le_refl _)
theorem TH(a:bF)(F:a.1.size<=1000000)(G:List.length a.2.2.2.2.1<=1048576):Y (Mz (a,())) (λy=>y.1.1.size<=100000000):=by
 unfold Mz;refine Y.bind (Pc [] a.1 (Nat.zero_le _) (by omega)) λc t=>?_;have t:List.length c.1.1<=0+6+a.1.size:=t;refine Y.bind (w9 c.1.1 _ (by omega)) λj m=>?_;have m:List.length j.1.1<=List.length c.1.1+6:=m;refine Y.bind (w9 j.1.1 _ (by omega)) λd l=>?_;have l:List.length d.1.1<=List.length j.1.1+6:=l;refine Y.bind (w9 d.1.1 _ (by omega)) λg p=>?_;have p:List.length g.1.1<=List.length d.1.1+6:=p;refine Y.bind (w9 g.1.1 _ (by omega)) λA n=>?_;have n:List.length A.1.1<=List.length g.1.1+6:=n;refine Y.DZ (P:=λv=>List.length v.1<=20000000) (R:=λ_=>False) (Y.loop (I:=λs=>0<=s.2.1/\s.2.1<=(List.length a.2.2.2.2.1:Int)/\(List.length s.1:Int)<=2000000+12*s.2.1) (λs=>((List.length a.2.2.2.2.1:Int)-s.2.1).toNat) (λs w=>?_) _ ⟨Int.le_refl _,Int.natCast_nonneg _,by grind⟩) (λv f=>Y.mk ?_) (λ_ h=>h.elim);·obtain ⟨o,i,u⟩:=s;obtain ⟨k,B,z⟩:=w;dsimp only at k B z;unfold Mz.b0;refine Y.DY (λb=>?_) (λ_=>Y.rl (by grind));have b:i<(List.length a.2.2.2.2.1:Int):=Cp.1 b;have e:cM .i64 i 1=i+1:=ed (by omega) (by omega);refine Y.gT k b λx _=>Y.bind (w9 o _ (by omega)) λr q=>Y.gT k b λD _=>?_;have q:List.length r.1.1<=List.length o+6:=q;refine Y.bind (w9 r.1.1 _ (by omega)) λE C=>Y.l ?_;grind
 ·have f:List.length v.1<=20000000:=f;exact Nat.le_trans (Nat.le_of_eq (xZ v.1)) (Nat.le_trans f (by decide))
theorem Fx{s:ByteArray}(h:e6 s=true):s.size<=8:=by unfold e6 at h;simp only[Bool.and_eq_true]at h;have :=h.2;simp only[Di,km,Bool.and_eq_true,decide_eq_true_eq]at this;omega
theorem F8{x:fk}(h:bk x=true):∀a∈x.2.1,a.1.size<=8:=by unfold bk pb at h;simp only[Bool.and_eq_true]at h;intro a c;obtain⟨i,b,rfl⟩:=List.getElem_of_mem c;have :=xJ h.2.1 i b;rw[Nat.zero_add]at this;unfold zA oi at this;simp only[Bool.and_eq_true]at this;exact Fx this.1.1
theorem G9(L:fk)(l:(Ty.sl c6).Ok L.2.1):Y (KZ (L,())) (λy=>y.1.1.size<=32):=by unfold KZ;refine Y.eq (s8 L l) ?_;cases c:bk L with|false=>exact Y.mk (Nat.zero_le _)|true=>obtain⟨r,k,_⟩:=mw c;have m:=F8 c;refine Y.ff rfl (Y.DZ (P:=λv=>List.length v.1<=12/\∀s∈v.1,s.1.size<=100000000) (R:=λ_=>False) (Y.loop (I:=λv=>0<=v.2.1/\(List.length v.1:Int)<=v.2.1/\v.2.1<=(List.length L.2.1:Int)/\∀s∈v.1,s.1.size<=100000000) (λv=>((List.length L.2.1:Int)-v.2.1).toNat) (λv b=>?_) _ ⟨Int.le_refl _,Int.le_refl _,Int.natCast_nonneg _,λs n=>by cases n⟩) (λv b=>Y.bind (Rg v.1 (by omega) b.2) λ_ h=>Y.mk h) (λ_ h=>h.elim));obtain ⟨o,i,u⟩:=v;obtain ⟨j,q,p,d⟩:=b;dsimp only at j q p d;unfold KZ.b0;refine Y.DY (λa=>?_) (λ_=>Y.rl ⟨by grind,d⟩);have a:i<(List.length L.2.1:Int):=Cp.1 a;have e:cM .i64 i 1=i+1:=ed (by omega) (by omega);refine Y.gT j a λx f=>Y.bind (TH x (Nat.le_trans (m x f) (by decide)) (Nat.le_trans (k x f).1 (by decide))) λg t=>Y.dE (by grind) (by decide) (by decide) (Y.l ?_);show (0<=cM .i64 i 1/\(List.length (o++[g.1]):Int)<=cM .i64 i 1/\cM .i64 i 1<=(List.length L.2.1:Int)/\∀s∈o++[g.1],s.1.size<=100000000)/\((List.length L.2.1:Int)-cM .i64 i 1).toNat<((List.length L.2.1:Int)-i).toNat;grind
theorem Jy{l:List ao}(h:ic l)(a:Int):(List.length (ov l (ct l a))<=100001)/\∀x∈ov l (ct l a),0<=x.1/\x.1<(List.length l:Int):=by refine⟨by unfold ov;rw[List.length_map];grind[D1],λx c=>?_⟩;unfold ov at c;obtain⟨b,d,rfl⟩:=List.mem_map.1 c;obtain⟨j,e,rfl⟩:=List.getElem_of_mem (kk h a b d);have :=Lq h e;omega
theorem NF(l:List ao)(b:Int)(a:(Ty.sl j3).Ok l):Y (P9 ((l,()),((b,()),()))) (λ_=>True):=by unfold P9;exact Y.eq (MN l a) (Y.DY (λ_=>Y.DY (λ_=>Y.mk trivial) (λ_=>Y.eq (sU l b a.1) (Y.mk trivial))) (λ_=>Y.mk trivial))
theorem NG(l:List ao)(a:Int)(j:(Ty.sl j3).Ok l)(h:ic l):Y (KW ((l,()),((a,()),()))) (λ_=>True):=by unfold KW;obtain⟨k,c⟩:=Jy h a;refine Y.eq (FY l a j h) ?_;generalize ov l (ct l a)=g at k c;refine Y.DZ (P:=λ_=>True) (R:=λ_=>True) (Y.loop (I:=λv=>0<=v.1) (λv=>((List.length g:Int)-v.1).toNat) (λv d=>?_) _ (Int.le_refl _)) (λv _=>Y.mk trivial) (λ_ _=>Y.mk trivial);obtain⟨i,u⟩:=v;have d:0<=i:=d;unfold KW.b0;refine Y.DY (λb=>?_) (λ_=>Y.rl trivial);have b:i<(List.length g:Int):=Cp.1 b;have e:cM .i64 i 1=i+1:=ed (by omega) (by omega);refine Y.Eb d b λx f=>Y.gT (c x f).1 (c x f).2 λ_ _=>Y.DY (λ_=>Y.rr trivial) (λ_=>Y.l ?_);grind
theorem TJ{l:List ao}(a:(Ty.sl j3).Ok l){b:ao}(c:b∈l):(Ty.sl il).Ok (nx b):=(Ae a.2 c).2.2.2.2.2.2.2.2.2.2.1
theorem YA(L:fk)(l:List ao)(a:Int)(s:(Ty.sl c6).Ok L.2.1)(o:eD L.2.1)(k:(Ty.sl j3).Ok l)(h:ic l):Y (KX (L,((l,()),((a,()),())))) (λy=>(Ty.sl c6).Ok y.1.2.1/\eD y.1.2.1):=by
 unfold KX;obtain⟨r,f⟩:=Jy h a;refine Y.eq (n6 L o) (Y.eq (FY l a k h) ?_);generalize ov l (ct l a)=m at r f;refine Y.DZ (P:=λv=>(Ty.sl c6).Ok v.2.2.1/\eD v.2.2.1) (R:=λ_=>False) (Y.loop (I:=λv=>0<=v.1/\(Ty.sl c6).Ok v.2.2.1/\eD v.2.2.1) (λv=>((List.length m:Int)-v.1).toNat) (λv g=>?_) _ ⟨Int.le_refl _,s,o⟩) (λv g=>Y.mk g) (λ_ h=>h.elim);obtain ⟨i,B,t,u⟩:=v;obtain ⟨p,j,d⟩:=g;dsimp only at p j d;unfold KX.b0;refine Y.DY (λc=>?_) (λ_=>Y.rl ⟨j,d⟩);have c:i<(List.length m:Int):=Cp.1 c;have e:cM .i64 i 1=i+1:=ed (by omega) (by omega);refine Y.Eb p c λx n=>Y.gT (f x n).1 (f x n).2 λb z=>?_;obtain ⟨w,A,q⟩:=B2 (B,(t,())) (nx b) j d (TJ k z);refine Y.eq w (Y.l ⟨⟨?_,A,q⟩,?_⟩);·grind
 grind
theorem TK(l:List ao)(b:ao)(r:(Ty.sl j3).Ok l)(h:ic l)(j:∀c∈l,ei c)(J:j3.Ok b)(A:ei b):Y (Fo ((l,()),(b,()))) (λy=>y.2.1.1=true->ic y.1.1/\(Ty.sl j3).Ok y.1.1/\∀c∈y.1.1,c∈l\/c=b):=by
 unfold Fo;have x:=h.KP;have i:W1 l.length:=by omega
 refine Y.eq (sU l b.1 r.1) (Y.DY (λ_=>Y.eq (va l i j) (Y.mk λh=>by cases h)) (λ_=>Y.eq (va l i j) (Y.eq (GG b A) (Y.dE (by grind) (by decide) (by decide) ?_))));have z:∀{v:List ao}{k:Nat}{c:ao},(∀c∈v,c∈l\/c=b)->(c∈l\/c=b)->∀d∈v.set k c,d∈l\/d=b:=λh g d L=>by grind
 have s:List.length (bV l [b])=l.length+1:=by unfold bV;grind
 refine Y.DZ (P:=λv=>List.length v.2.1=l.length+1/\∀c∈v.2.1,c∈l\/c=b) (R:=λ_=>False) (Y.loop (I:=λv=>0<=v.1/\v.1<(List.length v.2.1:Int)/\List.length v.2.1=l.length+1/\∀c∈v.2.1,c∈l\/c=b) (λv=>v.1.toNat) (λv m=>?_) _ ?_) (λv m=>?_) (λ_ h=>h.elim)
 · obtain⟨k,o,u⟩:=v;obtain⟨p,w,f,a⟩:=m;dsimp only at p w f a;unfold Fo.b0;refine Y.DY (λq=>?_) (λ_=>Y.rl ⟨f,a⟩);have q:0<k:=Cp.1 q;have e:gS .i64 k 1=k-1:=iz (by omega) (by omega);refine Y.Eb (by grind) (by grind) λE _=>Y.DY (λ_=>?_) (λ_=>Y.rl ⟨f,a⟩);refine Y.Eb (by grind) (by grind) λF H=>Y.Eb p w λn B=>Y.Eb (by grind) (by grind) λG _=>Y.so ?_;have K:∀d∈o.set (Int.toNat (gS .i64 k 1)) n,d∈l\/d=b:=z a (a n B);have M:(o.set (Int.toNat (gS .i64 k 1)) n).length=l.length+1:=by grind
   refine Y.Eb p (by grind) λD _=>Y.so (Y.l ⟨⟨?_,?_,?_,?_⟩,?_⟩);· grind
   · grind
   · grind
   · grind
   grind
 · have e:gS .i64 (List.length (bV l [b]):Int) 1=(l.length:Int):=by rw [s,iz]<;>omega
   refine⟨?_,?_,s,λc g=>?_⟩;· grind
   · grind
   · rcases List.mem_append.1 g with h|h;· grind
     grind
 · obtain⟨k,o,u⟩:=v;obtain⟨f,a⟩:=m;dsimp only at f a;have t:(Ty.sl j3).Ok o:=Dk (Nat.le_trans (Nat.le_of_eq f) (Nat.le_trans (Nat.succ_le_succ x) (by decide))) (λc g=>by
 rcases a c g with h|h;· exact Ae r.2 h
 grind);refine Y.eq (MN o t) ?_;cases C:E6 o with|false=>exact Y.tt rfl (Y.eq (va l i j) (Y.mk λh=>by cases h))|true=>exact Y.ff rfl (Y.mk λ_=>⟨Jt C,t,a⟩)
theorem Rj(L:fk)(l:List ao)(b:ao)(o:(Ty.sl c6).Ok L.2.1)(n:eD L.2.1)(a:(Ty.sl j3).Ok l)(h:ic l)(c:j3.Ok b):Y (OA (L,((l,()),(b,())))) (λ_=>True):=by unfold OA;refine Y.bind (NF l _ a) λp _=>Y.DY (λ_=>Y.mk trivial) (λ_=>Y.bind (NG l _ a h) λq _=>Y.DY (λ_=>Y.DY (λ_=>Y.DY (λ_=>Y.DY (λ_=>Y.mk trivial) (λ_=>Y.mk trivial)) (λ_=>Y.mk trivial)) (λ_=>Y.mk trivial)) (λ_=>?_));refine Y.bind (YA L l _ o n a h) λk d=>?_;obtain⟨m,i,f⟩:=B2 k.1 (nx b) d.1 d.2 c.2.2.2.2.2.2.2.2.2.2.1;refine Y.eq m (Y.eq (FY l _ a h) (Y.DY (λ_=>Y.mk trivial) (λ_=>Y.DY (λ_=>Y.mk trivial) (λ_=>Y.DY (λ_=>Y.DY (λ_=>Y.mk trivial) (λ_=>Y.mk trivial)) (λ_=>?_)))));obtain⟨j,e,g⟩:=FX _ i f;refine Y.eq j (Y.eq (Nn _ g.1 e) (Y.eq (Nr _ _ c.2.2.2.2.2.2.2.2.2.2.2.2.1.1) (Y.DY (λ_=>Y.bind (G9 _ e) λ_ _=>Y.mk trivial) (λ_=>Y.mk trivial))))
theorem GP:∀(N:Nat)(xs:List Int),xs.Nodup->(∀x∈xs,0<=x/\x<(N:Int))->xs.length<=N
 |0,xs,_,h=>by cases xs with|nil=>grind|cons x r=>have :=h x (List.mem_cons_self ..);omega
 |N+1,xs,a,h=>by have c:=GP N (xs.erase (N:Int)) (a.erase _) (λx b=>by grind);grind
structure PO(d:List D3):Prop where
 nd:(d.map (λx=>x.1)).Nodup
 rg:∀x∈d,0<=x.1/\x.1<=100000
theorem PO.KP{d:List D3}(h:PO d):d.length<=100001:=by have :=GP 100001 (d.map (λx=>x.1)) h.nd (λx a=>by obtain⟨y,b,rfl⟩:=List.mem_map.1 a;have :=h.rg y b;omega);grind
theorem PO.V8{d:List D3}(h:PO d){c:Int}(m:0<=c/\c<=100000):PO (sm d c):=by unfold sm;cases i:Ku d c with|true=>exact h|false=>
 refine⟨?_,λx j=>?_⟩;·show ((d++[(c,())]).map (λx=>x.1)).Nodup;rw[List.map_append,List.nodup_append];refine⟨h.nd,by simp,λa k b f=>?_⟩;obtain⟨y,l,rfl⟩:=List.mem_map.1 k;simp only[List.map_cons,List.map_nil,List.mem_singleton]at f;subst f;intro e;unfold Ku at i;rw[List.any_eq_false]at i;grind[gA]
 · rcases List.mem_append.1 j with g|g;· exact h.rg x g
   grind
theorem PO.YB:∀(a d:List D3),PO d->(∀x∈a,0<=x.1/\x.1<=100000)->PO (i0 d a)|[],d,h,_=>h|x::r,d,h,b=>PO.YB r (sm d x.1) (h.V8 (b x (List.mem_cons_self ..))) (λy c=>b y (List.mem_cons_of_mem _ c))
structure NV(E P:Nat)(n:a0):Prop where
 h:Jf n
 FG:bk (gd n)=true
 ep:n.2.1=n.2.2.1
 le:n.2.1<=(E:Int)vo:(dT n).length<=1000
 go:(ej n).length<=1000
 dn:PO (mu n)pa:(bm n).length<=P
theorem NV.up{E P b a:Nat}{n:a0}(h:NV E P n)(d:E<=b)(c:P<=a):NV b a n:=⟨h.h,h.FG,h.ep,by have :=h.le;omega,h.vo,h.go,h.dn,Nat.le_trans h.pa c⟩
structure Ih(n m:a0):Prop where
 nm:m.1=n.1
 ca:(m.2.1=n.2.1/\fb m=fb n/\bb m=bb n)\/n.2.1<m.2.1
theorem Ih.gj(n:a0):Ih n n:=⟨rfl,by grind⟩
theorem MZ(E P:Nat)(n:a0)(q:j4)(c:NV E P n)(r:FF q)(ε:E<900)(δ:P<800000):NV (E+1) (P+1) (ke n q)/\Ih n (ke n q):=by have h:=c.h;have J:=c.FG;unfold ke;cases X:gA (c8 (ar n) q) (-1) with|true=>exact⟨c.up (Nat.le_succ _) (Nat.le_succ _),Ih.gj n⟩|false=>
 show NV (E+1) (P+1) (vm n (c8 (ar n) q) q)/\Ih n (vm n (c8 (ar n) q) q);generalize c8 (ar n) q=a;have m:=h.ok.ki;have v:∀b∈ia (ct (ar n) a),(Ty.sl il).Ok (nx b):=λb k=>(show De b from Ae m.2 (kk h.t a b (w6 k))).Ex;have s:=FZ (ia (ct (ar n) a)) (gd n) h.ok.base h.G8 v;have M:=GO (ia (ct (ar n) a)) (gd n) h.ok.base h.G8 v J;have z:=Ig (ia (ct (ar n) a)) (gd n) h.ok.base h.G8 v;have O:(Ty.sl e3).Ok (mu n):=h.ok.2.2.2.2.2.2.2.2.2.2.2.2.2.2.2.2.2.1;have L:∀x∈hM (ia (ct (ar n) a)),e3.Ok x:=λx f=>by obtain⟨b,k,rfl⟩:=List.mem_map.1 f;exact⟨(show De b from Ae m.2 (kk h.t a b (w6 k))).1,trivial⟩
 have w:PO (i0 (mu n) (hM (ia (ct (ar n) a)))):=PO.YB _ _ c.dn (λx f=>by obtain⟨b,k,rfl⟩:=List.mem_map.1 f;exact h.t.nn b (kk h.t a b (w6 k)));have j:=w.KP;have D:(Ty.sl e3).Ok (i0 (mu n) (hM (ia (ct (ar n) a)))):=Dk (Nat.le_trans j (by decide)) (Lx _ _ (λx f=>Ae O.2 f) L);have t:(w5 (lh n) (nr (gd n) (ia (ct (ar n) a)))).Sublist (lh n):=List.filter_sublist;have A:(Ty.sl il).Ok (w5 (lh n) (nr (gd n) (ia (ct (ar n) a)))):=Dk (Nat.le_trans t.length_le h.ok.j8.1) (λy e=>Ae h.ok.j8.2 (t.subset e));have l:=h.l;unfold vm;rw[Hz];generalize β:nr (gd n) (ia (ct (ar n) a))=g at*;generalize Z:i0 (mu n) (hM (ia (ct (ar n) a)))=d at*;generalize I:w5 (lh n) g=V at*;have B:V.length<=(lh n).length:=t.length_le
 cases T:(ct (ar n) a).find? (λb=>fa b) with|none=>
 show NV (E+1) (P+1) (Nw n d (w5 (lh n) g))/\Ih n (Nw n d (w5 (lh n) g));rw[I];refine⟨⟨⟨⟨h.ok.1,h.ok.2.1,h.ok.2.2.1,h.ok.2.2.2.1,h.ok.2.2.2.2.1,h.ok.2.2.2.2.2.1,h.ok.2.2.2.2.2.2.1,h.ok.2.2.2.2.2.2.2.1,h.ok.2.2.2.2.2.2.2.2.1,h.ok.2.2.2.2.2.2.2.2.2.1,h.ok.2.2.2.2.2.2.2.2.2.2.1,h.ok.2.2.2.2.2.2.2.2.2.2.2.1,h.ok.2.2.2.2.2.2.2.2.2.2.2.2.1,h.ok.2.2.2.2.2.2.2.2.2.2.2.2.2.1,h.ok.2.2.2.2.2.2.2.2.2.2.2.2.2.2.1,h.ok.2.2.2.2.2.2.2.2.2.2.2.2.2.2.2.1,h.ok.2.2.2.2.2.2.2.2.2.2.2.2.2.2.2.2.1,D,A,h.ok.2.2.2.2.2.2.2.2.2.2.2.2.2.2.2.2.2.2.2⟩,?_,h.t,Nat.le_trans j (by decide),h.p⟩,J,c.ep,?_,c.vo,c.go,w,Nat.le_trans c.pa (Nat.le_succ _)⟩,⟨rfl,.inl ⟨rfl,rfl,rfl⟩⟩⟩;·exact ⟨l.1,l.2.1,l.2.2.1,l.2.2.2.1,l.2.2.2.2.1,l.2.2.2.2.2.1,l.2.2.2.2.2.2.1,l.2.2.2.2.2.2.2.1,l.2.2.2.2.2.2.2.2.1,Nat.le_trans j (by decide),Nat.le_trans B l.2.2.2.2.2.2.2.2.2.2.1,l.2.2.2.2.2.2.2.2.2.2.2.1,l.2.2.2.2.2.2.2.2.2.2.2.2⟩
 ·have :=c.le;show n.2.1<=((E+1 :Nat):Int);omega|some b=>
 have C:b∈ar n:=kk h.t a b (List.mem_of_find?_eq_some T);have R:De b:=Ae m.2 C;obtain ⟨_,U,S⟩:=FX g s.1 s.2;have Y:=c.le;have α:=c.ep;have z:g.1=n.2.2.1:=z;obtain ⟨γ,G⟩:=Ie g s.1 s.2 M (by omega);have F:=V6 G;have u:=Ia h.t q.2.1;have H:=u.length_le;have Q:(ar n).length<=400:=h.t.KP;have W:G2.Ok (A5 n q):=⟨h.ok.2.1,Dk (Nat.le_trans H m.1) (λy e=>Ae m.2 (u.subset e)),r.i1,r.i2,r.ok,trivial⟩;have K:=h.ok.2.2.2.2.2.2.2.2.2.2.2.2.2.2.2.2.2.2.2.1;have i:=c.pa;have o:(bm n++[A5 n q]).length<=P+1:=by grind
 have N:(Ty.sl G2).Ok (bm n++[A5 n q]):=Dk (Nat.le_trans o (Nat.le_trans (show P+1<=800000 by omega) (by decide))) (λy e=>by
 rcases List.mem_append.1 e with e|e;·exact Ae K.2 e
 ·rw[List.mem_singleton.1 e];omega);show NV (E+1) (P+1) (QX n (ks g) (kB b) d (w5 (lh n) g) (bm n++[A5 n q]))/\Ih n (QX n (ks g) (kB b) d (w5 (lh n) g) (bm n++[A5 n q]));rw[I];refine ⟨⟨⟨⟨h.ok.1,F,F,U,R.Lb,CK,rfl,rfl,rfl,rfl,CK,rfl,CK,CK,rfl,CK,CK,D,A,N,trivial⟩,?_,Jt rfl,Nat.le_trans j (by decide),Nat.le_trans o (show P+1<=800000 by omega)⟩,G,rfl,?_,Nat.zero_le _,Nat.zero_le _,w,o⟩,⟨rfl,.inr ?_⟩⟩
 · refine ⟨S,(h.bl b C).2.2.2.2,Nat.zero_le _,(λx f=>by cases f),Nat.zero_le _,Nat.zero_le _,Nat.zero_le _,Nat.zero_le _,Nat.zero_le _,Nat.le_trans j (by decide),Nat.le_trans B l.2.2.2.2.2.2.2.2.2.2.1,Nat.le_trans o (Nat.le_trans (show P+1<=800000 by omega) (by decide)),λp i=>?_⟩;rcases List.mem_append.1 i with i|i;· exact l.2.2.2.2.2.2.2.2.2.2.2.2 p i
   · rw[List.mem_singleton.1 i];exact ⟨Nat.le_trans H (Nat.le_trans Q (by decide)),λy e=>h.bl y (u.subset e),r.w⟩
 · show (ks g).1<=((E+1 :Nat):Int);omega
 · show n.2.1<(ks g).1;omega
theorem Ih.trans{a b c:a0}(h:Ih a b)(k:Ih b c):Ih a c:=by
 refine⟨k.nm.trans h.nm,?_⟩;rcases h.ca with⟨e,j,g⟩|e
 · rcases k.ca with⟨d,i,f⟩|d;· grind
   omega
 · rcases k.ca with⟨d,_,_⟩|d;· omega
   omega
theorem GQ(E P:Nat)(n:a0)(q:j4)(a:NV E P n)(c:FF q)(h:E<900)(d:P<800000):NV (E+1) (P+1) (dc n q)/\Ih n (dc n q):=by have e:NV E P (lv n q):=⟨H6 a.h c,a.FG,a.ep,a.le,a.vo,a.go,a.dn,a.pa⟩;obtain⟨g,f⟩:=MZ E P (lv n q) q e c h d;exact⟨g,Ih.trans (b:=lv n q) ⟨rfl,.inl ⟨rfl,rfl,rfl⟩⟩ f⟩
theorem Rk(E P:Nat)(n:a0)(t:se)(a:NV E P n)(c:Nx t):NV E P (Kv n t)/\Ih n (Kv n t):=by have h:=a.h;have l:=h.l;have b:=V4 (h.ok.PN h.l) c;refine⟨⟨⟨Q0 h.ok (Q4 h.round) b,?_,h.t,h.d,h.p⟩,a.FG,a.ep,a.le,a.vo,a.go,a.dn,a.pa⟩,⟨rfl,.inl ⟨rfl,rfl,rfl⟩⟩⟩;exact ⟨l.1,l.2.1,l.2.2.1,l.2.2.2.1,l.2.2.2.2.1,b.w,b.wh,l.2.2.2.2.2.2.2.1,l.2.2.2.2.2.2.2.2.1,l.2.2.2.2.2.2.2.2.2.1,l.2.2.2.2.2.2.2.2.2.2.1,l.2.2.2.2.2.2.2.2.2.2.2.1,l.2.2.2.2.2.2.2.2.2.2.2.2⟩
theorem Ii{E P:Nat}{n:a0}(a:NV E P n){t:List ao}(b:ic t)(e:(Ty.sl j3).Ok t)(f:∀c∈t,ei c):NV E P (kf n t):=by have h:=a.h;have l:=h.l;have d:=b.KP;refine⟨⟨MU h.ok e,?_,b,h.d,h.p⟩,a.FG,a.ep,a.le,a.vo,a.go,a.dn,a.pa⟩;exact⟨l.1,l.2.1,Nat.le_trans d (by decide),f,l.2.2.2.2.1,l.2.2.2.2.2.1,l.2.2.2.2.2.2.1,l.2.2.2.2.2.2.2.1,l.2.2.2.2.2.2.2.2.1,l.2.2.2.2.2.2.2.2.2.1,l.2.2.2.2.2.2.2.2.2.2.1,l.2.2.2.2.2.2.2.2.2.2.2.1,l.2.2.2.2.2.2.2.2.2.2.2.2⟩
theorem De.C6{b:ao}(h:j3.Ok b)(l:ei b):FF (gx b):=⟨h.2.2.2.2.1,h.2.2.2.2.2.1,h.2.2.2.2.2.2.1,l.1⟩
theorem De.PN{b:ao}(h:j3.Ok b)(l:ei b):Nx (oj b):=⟨h.2.2.2.2.2.2.2.1,h.2.2.2.2.2.2.2.2.1,h.2.2.2.2.2.2.2.2.2.1,l.2.1,l.2.2.1⟩
theorem NV.yN{E P a:Nat}{n:a0}(h:NV E P n)(b:n.2.1<=(a:Int)):NV a P n:=⟨h.h,h.FG,h.ep,b,h.vo,h.go,h.dn,h.pa⟩
theorem Rl{E P:Nat}{n:a0}(a:NV E P n){b:List sH}(d:(Ty.sl Hf).Ok b)(c:b.length<=1000):NV E P (B3 n b):=by have h:=a.h;have l:=h.l;refine⟨⟨Q3 h.ok d,?_,h.t,h.d,h.p⟩,a.FG,a.ep,a.le,c,a.go,a.dn,a.pa⟩;exact⟨l.1,l.2.1,l.2.2.1,l.2.2.2.1,l.2.2.2.2.1,l.2.2.2.2.2.1,l.2.2.2.2.2.2.1,Nat.le_trans c (by decide),l.2.2.2.2.2.2.2.2.1,l.2.2.2.2.2.2.2.2.2.1,l.2.2.2.2.2.2.2.2.2.2.1,l.2.2.2.2.2.2.2.2.2.2.2.1,l.2.2.2.2.2.2.2.2.2.2.2.2⟩
def n7(l:List df)(r:Int):ByteArray:=bif gA (l.length:Int) 0 then⟨#[]⟩else bif dO r 0 then⟨#[]⟩else match l[(ph r (l.length:Int)).toNat]? with|some v=>v.1|none=>⟨#[]⟩
theorem re(l:List df)(r:Int):J4 ((l,()),((r,()),()))=some ((n7 l r,()),()):=by unfold J4 n7;cases b:gA (l.length:Int) 0 with|true=>grind|false=>refine uN rfl ?_;cases c:dO r 0 with|true=>grind|false=>refine uN rfl ?_;have d:(List.length l:Int)≠0:=CN.1 b;have a:0<=r:=Au.1 c;have e:=Co (x:=r) (n:=(List.length l:Int)) a (by omega);simp_all[uN,df,bK,ph,bw,cB]
def Jz(t:se):Int:=List.foldl (λ(n:Int)(x:D3)=>bif dO n x.1 then x.1 else n) 0 t.2.2.1
theorem Rm(t:se)(b:Al (List.length t.2.2.1)):Gz (t,())=some (I1 (Jz t)):=by have c:=AJ (S:=Int×(Int×Unit)) t.2.2.1 (λ(n:Int)(x:D3)=>bif dO n x.1 then x.1 else n) (f:=Gz.b0 (t,())) (λs k=>(s,(k,()))) (λs=>Sum.inl (s,((List.length t.2.2.1:Int),()))) 0 (λk a s=>by unfold Gz.b0;refine uL (Int.ofNat_lt.2 a) (bw (cB a) ?_);rw[<-wG a b];cases h:dO s (t.2.2.1)[k].1 with|true=>exact dd rfl (bw (cB a) rfl)|false=>grind) (λs=>by unfold Gz.b0;exact uM (Int.le_refl _) rfl);unfold Gz;exact bw c rfl
def k8(b:ao):Bool:=(gA (gx b).1 (gS .i64 b.2.2.1 1)&&p7 (oj b))||(gA (oj b).1 (gS .i64 b.2.2.1 1)&&(dO 0 (oj b).1&&km (Jz (oj b)) (gx b).1))
theorem Fy(b:ao)(e:ei b):K1 (b,())=some (B1 (k8 b)):=by have f:Al (List.length (oj b).2.2.1):=e.2.2.1.l;have c:(bif gA (oj b).1 (gS .i64 b.2.2.1 1)then bif dO 0 (oj b).1 then (Gz (oj b,())).bind (λy=>some (B1 (km y.1.1 (gx b).1)))else some (B1 false)else some (B1 false))=some (B1 (gA (oj b).1 (gS .i64 b.2.2.1 1)&&(dO 0 (oj b).1&&km (Jz (oj b)) (gx b).1))):=Dy (Dy (bw (Rm _ f) rfl));unfold K1 k8;cases a:gA (gx b).1 (gS .i64 b.2.2.1 1) with|false=>exact Eq.trans (bw (uN a rfl) c) rfl|true=>cases d:p7 (oj b) with|false=>exact Eq.trans (bw (dd a (bw (Ew (oj b)) (uN d rfl))) c) rfl|true=>exact bw (dd a (bw (Ew (oj b)) (dd d rfl))) rfl
noncomputable def Ij(L:fk)(l:List ao)(b:ao):Bool:=((OA (L,((l,()),(b,())))).map (λy=>y.1.1)).getD false
theorem NH(L:fk)(l:List ao)(b:ao)(f:(Ty.sl c6).Ok L.2.1)(d:eD L.2.1)(a:(Ty.sl j3).Ok l)(h:ic l)(c:j3.Ok b):OA (L,((l,()),(b,())))=some (B1 (Ij L l b)):=by obtain⟨y,e,_⟩:=Rj L l b f d a h c;unfold Ij;grind
def qm(l:List ao)(b:ao):List ao:=l.filter (λc=>dO c.1 b.1)++b::l.filter (λc=>!dO c.1 b.1)
def JA(l:List ao)(b:ao):Bool:=dO (mh l b.1) 0&&E6 (qm l b)
theorem xd{l:List ao}{b c:ao}:c∈qm l b↔c∈l\/c=b:=by unfold qm;grind
theorem Ly(l:List ao)(b:ao):(qm l b).length=l.length+1:=by
 unfold qm;have :∀l:List ao,(l.filter (λc=>dO c.1 b.1)).length+(l.filter (λc=>!dO c.1 b.1)).length=l.length:=by intro l;induction l with|nil=>rfl|cons c r a=>grind
 grind
theorem Ik{p s:List ao}{b:ao}(e:∀c∈p,c.1<b.1)(d:∀c∈s,b.1<c.1):qm (p++s) b=p++b::s:=by
 unfold qm;have g:(p++s).filter (λc=>dO c.1 b.1)=p:=by rw[List.filter_append,List.filter_eq_self.2 (λc a=>Cp.2 (e c a)),List.filter_eq_nil_iff.2 (λc a=>by rw[Au.2 (Int.le_of_lt (d c a))];simp),List.append_nil]
 have f:(p++s).filter (λc=>!dO c.1 b.1)=s:=by rw[List.filter_append,List.filter_eq_nil_iff.2 (λc a=>by grind),List.nil_append,List.filter_eq_self.2 (λc a=>by grind)]
 grind
theorem NI(l:List ao)(b:ao)(o:(Ty.sl j3).Ok l)(h:ic l)(M:∀c∈l,ei c)(ε:j3.Ok b)(J:ei b):Fo ((l,()),(b,()))=some ((bif JA l b then qm l b else l,()),((JA l b,()),())):=by
 have w:=h.KP;have F:W1 l.length:=by omega
 have K:=va l F M;unfold Fo JA;refine bw (sU l b.1 o.1) ?_;rcases kA h b.1 with⟨_,q,D⟩|⟨c,f,δ,_,t,_⟩
 · have A:dO (mh l b.1) 0=true:=by rw[q];rfl
   refine uN (by show km 0 (mh l b.1)=false;rw[q];rfl) (bw K (bw (GG b J) (Cm (by grind) (by decide) (by decide) ?_)));have I:∀(p s:List ao),l=p++s->(∀c∈s,b.1<c.1)->∃k,aR (Fo.b0 ((l,()),(b,()))) ((p.length:Int),(p++b::s,()))=some (Sum.inl (k,(qm l b,()))):=by intro p;induction R:p.length generalizing p with|zero=>intro s e m;have :p=[]:=List.length_eq_zero_iff.1 R;subst this;refine⟨0,cS ?_⟩;unfold Fo.b0;refine uN rfl ?_;rw[e,Ik (p:=[]) (λc f=>by cases f) m];rfl|succ n β=>
    intro s e m;rcases List.eq_nil_or_concat p with rfl|⟨a,z,rfl⟩;· grind
    · have j:a.length=n:=by grind
      have S:z∈l:=by grind
      have Y:z.1≠b.1:=D z S;have v:gS .i64 ((n+1:Nat):Int) 1=(n:Int):=by
       have :n+1<=l.length:=by grind
       grind[gS,iz]
      have d:∀(x:ao) (r:List ao),bK (a++x::r) (n:Int)=some x/\aC (a++x::r) (Int.toNat (n:Int))=some x:=λx r=>by simp_all[ao,bK,aC,An,As]
      have g:∀(x y:ao) (r:List ao),bK (a++x::y::r) ((n+1:Nat):Int)=some y/\aC (a++x::y::r) (Int.toNat ((n+1:Nat):Int))=some y:=λx y r=>by
       have :(a++x::y::r)[n+1]?=some y:=by rw[<-j];simp
       exact⟨An this,As (by omega)⟩
      have α:a++[z]++b::s=a++z::b::s:=by simp
      have C:a.concat z++b::s=a++z::b::s:=by simp
      rw[C];by_cases H:b.1<z.1
      · have G:Fo.b0 ((l,()),(b,())) (((n+1:Nat):Int),(a++z::b::s,()))=some (.inl ((n:Int),(a++b::z::s,()))):=by
         unfold Fo.b0;refine dd (show dO 0 ((n+1:Nat):Int)=true from Cp.2 (by omega)) ?_;dsimp only;rw[v];refine bw (d z _).1 (bw (d z _).2 (dd (show dO b.1 z.1=true from Cp.2 H) ?_));refine bw (d z _).1 (bw (d z _).2 (bw (g z b _).1 (bw (g z b _).2 (bw (d z _).1 (bw (d z _).2 (bw rfl ?_))))));have P:List.set (a++z::b::s) (Int.toNat (n:Int)) b=a++b::b::s:=by rw[Int.toNat_natCast,<-j];simp
         rw[P];refine bw (g b b _).1 (bw (g b b _).2 (bw rfl ?_));have L:List.set (a++b::b::s) (Int.toNat ((n+1:Nat):Int)) z=a++b::z::s:=by rw[Int.toNat_natCast,<-j];simp
         rw[L]
        rw[de G];grind
      · refine⟨((n+1:Nat):Int),cS ?_⟩;unfold Fo.b0;refine dd (show dO 0 ((n+1:Nat):Int)=true from Cp.2 (by omega)) ?_;dsimp only;rw[v];refine bw (d z _).1 (bw (d z _).2 (uN (show dO b.1 z.1=false from Au.2 (by omega)) ?_));have W:qm l b=a++z::b::s:=by
         rw[e,show a.concat z++s=(a++[z])++s by simp,Ik (λc f=>?_) m];· simp
         · have Z:c∈a.concat z:=by grind
           obtain⟨i,θ,rfl⟩:=List.getElem_of_mem f;have X:i<n+1:=by grind
           have O:l=(a++[z])++s:=by grind
           have U:(a++[z]).length=n+1:=by grind
           have E:i<l.length:=by grind
           have B:n<l.length:=by grind
           have gi:l[i]=(a++[z])[i]:=by grind
           have γ:l[n]=z:=by
            have :l[n]?=some z:=by rw[O,<-j];simp
            grind
           rcases Nat.lt_or_ge i n with u|u;· have :=h.VZ i n E B u;grind
           grind
        grind
   obtain⟨k,N⟩:=I l [] (by simp) (λc f=>by cases f);have T:gS .i64 ((List.length (bV l [b]):Nat):Int) 1=(l.length:Int):=by show gS .i64 ((List.length (l++[b]):Nat):Int) 1=_;rw [List.length_append,iz]<;>simp<;>omega
   refine bw (y:=.inl (k,(qm l b,()))) ?_ ?_;· show aR (Fo.b0 ((l,()),(b,()))) (gS .i64 ((List.length (bV l [b]):Nat):Int) 1,(bV l [b],()))=_;rw [T];exact N
   · have Q:(Ty.sl j3).Ok (qm l b):=Dk (Nat.le_trans (Nat.le_of_eq (Ly l b)) (Nat.le_trans (Nat.succ_le_succ w) (by decide))) (λc f=>by
 rcases xd.1 f with h|h;· exact Ae o.2 h
 grind);refine bw (MN _ Q) ?_;grind
 · have V:km 0 (mh l b.1)=true:=GL t;have A:dO (mh l b.1) 0=false:=dD t;grind
theorem Fa{l:List ao}{q:j4}(h:c8 l q≠-1):∃b∈l,b.1=q.2.1/\b.2.2.1=q.1/\∃p∈l,p.1=(gx b).2.1/\p.2.2.1=gS .i64 q.1 1/\p.1=c8 l q:=by unfold c8 at h⊢;cases a:l.find? (λb=>gA b.1 q.2.1)with|none=>grind|some b=>rw[a]at h;have j:=List.mem_of_find?_eq_some a;have e:=List.find?_some a;simp only[gA,decide_eq_true_eq]at e;dsimp only at h⊢;cases f:gA b.2.2.1 q.1 with|false=>grind|true=>rw[f]at h;have g:=Cr.1 f;cases c:l.find? (λz=>gA z.1 (gx b).2.1)with|none=>grind|some p=>rw[c]at h;have i:=List.mem_of_find?_eq_some c;have d:=List.find?_some c;simp only[gA,decide_eq_true_eq]at d;dsimp only at h⊢;cases k:gA p.2.2.1 (gS .i64 q.1 1)with|false=>grind|true=>exact⟨b,j,e,g,p,i,d,Cr.1 k,rfl⟩
theorem Ha:∀a:List ao,((∀b∈a,fa b=false)/\ia a=a/\a.find? (λb=>fa b)=none)\/∃p b r,a=p++b::r/\fa b=true/\(∀c∈p,fa c=false)/\ia a=p++[b]/\a.find? (λb=>fa b)=some b|[]=>.inl ⟨λb e=>(by cases e),rfl,rfl⟩|b::r=>by cases h:fa b with|true=>exact .inr ⟨[],b,r,rfl,h,λc d=>(by cases d),(by unfold ia;grind),(by grind)⟩|false=>
 have j:(b::r).find? (λb=>fa b)=r.find? (λb=>fa b):=List.find?_cons_of_neg (by simp[h]);have d:ia (b::r)=b::ia r:=by rw[ia,h];rfl
 rcases Ha r with ⟨f,i,g⟩|⟨p,c,s,f,i,g,l,k⟩;·grind
 grind
theorem vn(E P:Nat)(n:a0)(q:j4)(a:NV E P n)(y:E<900):(c8 (ar n) q=-1/\ke n q=n)\/(c8 (ar n) q≠-1/\(((∀b∈ct (ar n) (c8 (ar n) q),fa b=false)/\ke n q=Nw n (i0 (mu n) (hM (ct (ar n) (c8 (ar n) q)))) (w5 (lh n) (nr (gd n) (ct (ar n) (c8 (ar n) q)))))\/∃p b r,ct (ar n) (c8 (ar n) q)=p++b::r/\fa b=true/\(∀c∈p,fa c=false)/\b∈ar n/\ke n q=Je n q (nr (gd n) (p++[b])) (i0 (mu n) (hM (p++[b]))) b/\(ks (nr (gd n) (p++[b]))).1=n.2.1+1)):=by have h:=a.h;cases g:gA (c8 (ar n) q) (-1) with|true=>exact .inl ⟨Cr.1 g,by unfold ke;grind⟩|false=>
 refine .inr ⟨CN.1 g,?_⟩;have e:ke n q=vm n (c8 (ar n) q) q:=by unfold ke;grind
 rw[e];generalize c8 (ar n) q=f;have s:=h.ok.ki;unfold vm;rw[Hz];rcases Ha (ct (ar n) f) with ⟨j,m,l⟩|⟨p,b,r,j,m,l,w,v⟩;·grind
 ·refine .inr ⟨p,b,r,j,m,l,kk h.t f b (by grind),by grind,?_⟩;have d:∀c∈p++[b],(Ty.sl il).Ok (nx c):=λc x=>(show De c from Ae s.2 (kk h.t f c (w6 (by grind)))).Ex;have k:=FZ (p++[b]) (gd n) h.ok.base h.G8 d;have o:=GO (p++[b]) (gd n) h.ok.base h.G8 d a.FG;have i:=Ig (p++[b]) (gd n) h.ok.base h.G8 d;have u:=a.le;have t:=a.ep;have i:(nr (gd n) (p++[b])).1=n.2.2.1:=i;have :=(Ie _ k.1 k.2 o (by omega)).1;omega
structure NW(n:a0):Prop where
 v:NV n.2.1.toNat n.2.1.toNat n
 e0:0<=n.2.1
 pa:((bm n).length:Int)=n.2.1
theorem NW.PQ{E P:Nat}{n:a0}(v:NV E P n)(a:0<=n.2.1)(b:((bm n).length:Int)=n.2.1):NW n:=⟨⟨v.h,v.FG,v.ep,by omega,v.vo,v.go,v.dn,by omega⟩,a,b⟩
structure j9(n m:a0):Prop where
 a:Ih n m
 le:n.2.1<=m.2.1
 up:m.2.1<=n.2.1+1
theorem j9.gj(n:a0):j9 n n:=⟨Ih.gj n,Int.le_refl _,by omega⟩
theorem j9.trans{a b c:a0}(h:j9 a b)(k:j9 b c)(d:b.2.1=a.2.1):j9 a c:=⟨h.a.trans k.a,by have :=k.le;omega,by have :=k.up;omega⟩
theorem j9.KB{a b c:a0}(h:j9 a b)(k:j9 b c)(d:c.2.1=b.2.1):j9 a c:=⟨h.a.trans k.a,by have :=h.le;omega,by have :=h.up;omega⟩
theorem M0(E P:Nat)(n:a0)(q:j4)(a:NV E P n)(c:E<900):((bm (ke n q)).length:Int)-(ke n q).2.1=((bm n).length:Int)-n.2.1:=by
 rcases vn E P n q a c with⟨_,e⟩|⟨_,⟨_,e⟩|⟨p,b,r,_,_,_,_,e,m⟩⟩;·rw[e]
 ·rw[e];rfl
 ·rw[e];show ((bm n++[A5 n q]).length:Int)-(ks (nr (gd n) (p++[b]))).1=_;grind
theorem F9{E P:Nat}{n:a0}{q:j4}(a:NV E P n)(b:FF q):NV E P (lv n q):=⟨H6 a.h b,a.FG,a.ep,a.le,a.vo,a.go,a.dn,a.pa⟩
theorem xr{n:a0}{q:j4}(a:NW n)(d:FF q)(k:n.2.1<890):NW (dc n q)/\j9 n (dc n q):=by
 have l:=a.e0;have b:n.2.1.toNat<900:=by omega
 obtain⟨c,f⟩:=GQ n.2.1.toNat n.2.1.toNat n q a.v d b (by omega);have h:((bm (dc n q)).length:Int)-(dc n q).2.1=((bm n).length:Int)-n.2.1:=M0 n.2.1.toNat n.2.1.toNat (lv n q) q (F9 a.v d) b;have j:=c.le;have i:=a.pa;have g:n.2.1<=(dc n q).2.1:=by rcases f.ca with⟨e,_⟩|e<;>omega
 exact⟨NW.PQ c (by omega) (by omega),f,g,by omega⟩
theorem Rn{n:a0}{t:se}(a:NW n)(b:Nx t):NW (Kv n t)/\j9 n (Kv n t)/\(Kv n t).2.1=n.2.1:=by obtain⟨d,c⟩:=Rk _ _ n t a.v b;exact⟨NW.PQ d a.e0 a.pa,⟨c,Int.le_refl _,(by show n.2.1<=n.2.1+1;omega)⟩,rfl⟩
noncomputable def pt(n:a0)(b:ao):Bool:=gl b&&(gA b.2.1 n.2.1&&(ko b.2.2.2.1 (n7 (bb n) b.2.2.1)&&(tm (bb n) (gx b)&&(FE (bb n) (oj b)&&(k8 b&&(Ij (gd n) (ar n) b&&JA (ar n) b))))))
noncomputable def nv(n:a0)(b:ao):a0:=dc (kf n (qm (ar n) b)) (gx b)
noncomputable def i3(n:a0)(b:ao):a0:=bif gA (nv n b).2.1 n.2.1 then Kv (nv n b) (oj b)else nv n b
noncomputable def AL(n:a0)(b:ao):a0:=bif gA (i3 n b).2.1 n.2.1&&gA (bx (i3 n b)).2.1 b.1 then dc (i3 n b) (bx (i3 n b))else i3 n b
noncomputable def cf(n:a0)(b:ao):a0:=bif pt n b then AL n b else n
theorem TL{l:List ao}{b:ao}(a:(Ty.sl j3).Ok l)(d:l.length<=400)(f:j3.Ok b):(Ty.sl j3).Ok (qm l b):=Dk (Nat.le_trans (Nat.le_of_eq (Ly l b)) (Nat.le_trans (Nat.succ_le_succ d) (by decide))) (λc e=>by
 rcases xd.1 e with h|h;·exact Ae a.2 h
 grind)
structure YD(n:a0)(b:ao):Prop where
 kp:gl b=true
 ep:b.2.1=n.2.1
 by':ko b.2.2.2.1 (n7 (bb n) b.2.2.1)=true
 qc:tm (bb n) (gx b)=true
 tc:FE (bb n) (oj b)=true
 fo:k8 b=true
 bo:Ij (gd n) (ar n) b=true
 WK:∀c∈ar n,c.1≠b.1
 tr:E6 (qm (ar n) b)=true
theorem NJ{n:a0}{b:ao}(o:ic (ar n))(h:pt n b=true):YD n b:=by unfold pt at h;simp only[Bool.and_eq_true]at h;obtain⟨d,l,g,j,i,m,f,a⟩:=h;unfold JA at a;simp only[Bool.and_eq_true]at a;refine⟨d,Cr.1 l,g,j,i,m,f,λc k e=>?_,a.2⟩;have :=(D0 o k).2;grind
theorem EC{n:a0}{b:ao}(a:NW n)(e:j3.Ok b)(g:ei b)(m:n.2.1<890)(o:pt n b=true):NW (kf n (qm (ar n) b))/\NW (nv n b)/\j9 n (nv n b):=by
 have j:=NJ a.v.h.t o;have i:NV n.2.1.toNat n.2.1.toNat (kf n (qm (ar n) b)):=Ii a.v (Jt j.tr) (TL a.v.h.ok.ki a.v.h.t.KP e) (λc l=>by
 rcases xd.1 l with h|h;·exact a.v.h.bl c h
 grind);have f:NW (kf n (qm (ar n) b)):=NW.PQ i a.e0 a.pa;obtain⟨k,d⟩:=xr f (De.C6 e g) m;exact⟨f,k,⟨(show Ih n (kf n (qm (ar n) b)) from⟨rfl,.inl ⟨rfl,rfl,rfl⟩⟩).trans d.a,d.le,d.up⟩⟩
theorem ED{n:a0}{b:ao}(e:NW n)(c:j3.Ok b)(a:ei b)(i:n.2.1<890)(j:pt n b=true):NW (i3 n b)/\j9 n (i3 n b):=by obtain⟨_,f,h⟩:=EC e c a i j;unfold i3;cases gA (nv n b).2.1 n.2.1 with|false=>grind|true=>obtain⟨k,g,d⟩:=Rn f (De.PN c a);exact⟨k,h.KB g d⟩
theorem Ro{n:a0}{b:ao}(f:NW n)(e:j3.Ok b)(d:ei b)(i:n.2.1<890)(k:pt n b=true):NW (AL n b)/\j9 n (AL n b):=by obtain⟨a,h⟩:=ED f e d i k;unfold AL;cases c:(gA (i3 n b).2.1 n.2.1&&gA (bx (i3 n b)).2.1 b.1)with|false=>grind|true=>simp only[Bool.and_eq_true]at c;have j:=Cr.1 c.1;obtain⟨l,g⟩:=xr a (a.v.h.ok.C6 a.v.h.l) (by omega);exact⟨l,h.trans g j⟩
theorem mm{n:a0}{b:ao}(a:NW n)(d:j3.Ok b)(c:ei b)(e:n.2.1<890):NW (cf n b)/\j9 n (cf n b):=by unfold cf;cases f:pt n b with|false=>exact⟨a,j9.gj n⟩|true=>grind[Ro]
theorem Rp(n:a0)(b:ao)(k:NW n)(c:j3.Ok b)(d:ei b)(m:n.2.1<890):I7 (n,(b,()))=some ((pt n b,()),(cf n b,())):=by
 have h:=k.v.h;have f:=h.ok.set;have g:=De.C6 c d;have j:=De.PN c d;have B:pt n b=true->I7 (n,(b,()))=some ((true,()),(AL n b,())):=λa=>by
  have e:=NJ h.t a;obtain⟨v,E,F⟩:=EC k c d m a;obtain⟨i,D⟩:=ED k c d m a;unfold I7;refine bw (Jo b c) (uN (by rw[e.kp];rfl) (uN (by rw[e.ep,nV];rfl) (bw (re (bb n) _) (uN (by show (!ko b.2.2.2.1 (n7 (bb n) b.2.2.1))=false;rw[e.by'];rfl) ?_))));refine bw (OL (bb n) (gx b) f.1 g.ok) (uN (by show (!tm (bb n) (gx b))=false;rw[e.qc];rfl) (bw (Qw (bb n) (oj b) f.1 j.Zf) (uN (by show (!FE (bb n) (oj b))=false;rw[e.tc];rfl) ?_)));refine bw (Fy b d) (uN (by show (!k8 b)=false;rw[e.fo];rfl) (bw (NH (gd n) (ar n) b h.ok.base h.G8 h.ok.ki h.t c) (uN (by show (!Ij (gd n) (ar n) b)=false;rw[e.bo];rfl) ?_)));have p:JA (ar n) b=true:=by unfold pt at a;grind
  have l:=NI (ar n) b h.ok.ki h.t h.bl c d;rw[p]at l;refine bw l (uN rfl (bw (D4 (kf n (qm (ar n) b)) (gx b) v.v.h g) ?_));have u:∀(R:Type),((bif gA (nv n b).2.1 n.2.1 then (MC (nv n b,(oj b,()))).bind λz=>some (Sum.inl z.1) else some (Sum.inl (nv n b))):Option (Sum a0 R))=some (Sum.inl (i3 n b)):=by intro R;unfold i3;cases gA (nv n b).2.1 n.2.1 with|false=>rfl|true=>exact bw (EV (nv n b) (oj b) j) rfl
  have A:∀(R:Type),((bif gA (i3 n b).2.1 n.2.1 then bif gA (bx (i3 n b)).2.1 b.1 then (I6 (i3 n b,(bx (i3 n b),()))).bind λo=>some (Sum.inl o.1) else some (Sum.inl (i3 n b)) else some (Sum.inl (i3 n b))):Option (Sum a0 R))=some (Sum.inl (AL n b)):=by intro R;unfold AL;cases gA (i3 n b).2.1 n.2.1 with|false=>rfl|true=>cases gA (bx (i3 n b)).2.1 b.1 with|false=>rfl|true=>exact bw (D4 (i3 n b) (bx (i3 n b)) i.v.h (i.v.h.ok.C6 i.v.h.l)) rfl
  exact bw (u _) (bw (A _) rfl)
 have C:pt n b=false->I7 (n,(b,()))=some ((false,()),(n,())):=λa=>by unfold pt at a;unfold I7;refine bw (Jo b c) ?_;cases y:gl b with|false=>rfl|true=>rw[y,Bool.true_and]at a;refine uN rfl ?_;show (bif !gA b.2.1 n.2.1 then _ else _)=_;cases r:gA b.2.1 n.2.1 with|false=>rfl|true=>rw[r,Bool.true_and]at a;refine uN rfl (bw (re (bb n) _) ?_);show (bif !ko b.2.2.2.1 (n7 (bb n) b.2.2.1) then _ else _)=_;cases q:ko b.2.2.2.1 (n7 (bb n) b.2.2.1) with|false=>rfl|true=>rw[q,Bool.true_and]at a;refine uN rfl (bw (OL (bb n) (gx b) f.1 g.ok) ?_);show (bif !tm (bb n) (gx b) then _ else _)=_;cases w:tm (bb n) (gx b) with|false=>rfl|true=>rw[w,Bool.true_and]at a;refine uN rfl (bw (Qw (bb n) (oj b) f.1 j.Zf) ?_);show (bif !FE (bb n) (oj b) then _ else _)=_;cases t:FE (bb n) (oj b) with|false=>rfl|true=>rw[t,Bool.true_and]at a;refine uN rfl (bw (Fy b d) ?_);show (bif !k8 b then _ else _)=_;cases s:k8 b with|false=>rfl|true=>rw[s,Bool.true_and]at a;refine uN rfl (bw (NH (gd n) (ar n) b h.ok.base h.G8 h.ok.ki h.t c) ?_);show (bif !Ij (gd n) (ar n) b then _ else _)=_;cases x:Ij (gd n) (ar n) b with|false=>rfl|true=>rw[x,Bool.true_and]at a;have l:=NI (ar n) b h.ok.ki h.t h.bl c d;grind
 unfold cf;grind
def KC(x:sH)(r b:Int)(a:ByteArray):Bool:=gA x.1 r&&(gA x.2.1 b&&ko x.2.2.1 a)
def AN(a:List sH)(r c:Int)(b:ByteArray):Bool:=a.any (λx=>KC x r c b)
def Il(b:List df)(a:List sH)(r c:Int):List D9:=(b.filter (λv=>AN a r c v.1)).map (λv=>((v.1,()):D9))
def B5(c:List df)(b:List sH)(r a:Int):j4:=(r,(a,(Il c b r a,())))
def rf(a:List df)(b:List sH)(r c:Int):Bool:=tm a (B5 a b r c)&&!j7 (B5 a b r c)
theorem Pe(a:List df)(b:List sH)(r c:Int):(Il a b r c).length<=a.length:=by unfold Il;grind
theorem B6(a:List df)(d:List sH)(r b:Int)(i:(Ty.sl s6).Ok a)(c:W1 a.length)(j:(Lit.int .i64 r).wf=true)(g:(Lit.int .i64 b).wf=true):FF (B5 a d r b):=by have f:=Pe a d r b;unfold W1 at c;refine⟨j,g,Dk (Nat.le_trans f (Nat.le_trans c (by decide))) (λx e=>?_),Nat.le_trans f c⟩;unfold Il at e;obtain⟨v,h,rfl⟩:=List.mem_map.1 e;exact⟨(Ae i.2 (List.mem_filter.1 h).1).1,trivial⟩
theorem GR{A:Type}(p:A->Bool):∀(l:List A)(b:Bool),l.foldl (λs x=>s||p x) b=(b||l.any p)|[],b=>by simp|x::r,b=>by rw[List.foldl_cons,GR p r,List.any_cons,Bool.or_assoc]
theorem M1(b:List df)(a:List sH)(r c:Int)(d:Int×(List D9×Unit)){i:Nat}(j:i<b.length)(g:d.1=(i:Int))(h:Al a.length):aR (Fp.b1 ((b,()),((a,()),((r,()),((c,()),())))) d) (false,((0:Int),()))=some (.inl (AN a r c b[i].1,((a.length:Int),()))):=by
 have m:=AJ (S:=Bool×(Int×Unit)) a (λs x=>s||KC x r c b[i].1) (f:=Fp.b1 ((b,()),((a,()),((r,()),((c,()),())))) d) (λs k=>(s,(k,()))) (λs=>Sum.inl (s,((a.length:Int),()))) false (λk e s=>by
 have l:bK b d.1=some b[i]:=by rw[g];exact cB j
 unfold Fp.b1;refine uL (Int.ofNat_lt.2 e) ?_;rw[<-wG e h];cases s with|true=>rfl|false=>exact uN rfl (bw (cB e) (bw l rfl))) (λs=>by unfold Fp.b1;exact uM (Int.le_refl _) rfl);refine m.trans ?_;rw[GR];rfl
theorem M3(b:List df)(c:List sH)(r d:Int)(o:(Ty.sl s6).Ok b)(g:W1 b.length)(q:Al c.length)(x:(Lit.int .i64 r).wf=true)(w:(Lit.int .i64 d).wf=true):Fp ((b,()),((c,()),((r,()),((d,()),()))))=some (bif rf b c r d then B5 b c r d else ((0,(0,([],()))):j4),((rf b c r d,()),())):=by
 have l:Al b.length:=g.l;have n:=B6 b c r d o g x w;unfold W1 at g;have m:=xL (S:=Int×(List D9×Unit)) b (λs v=>bif AN c r d v.1 then s++[((v.1,()):D9)]else s) (λi s=>s.length<=i) (f:=Fp.b0 ((b,()),((c,()),((r,()),((d,()),()))))) (λs k=>(k,(s,()))) (λs=>Sum.inl ((b.length:Int),(s,()))) [] (Nat.le_refl _) (λi e s u=>by refine⟨?_,Np u _ rfl⟩;unfold Fp.b0;refine uL (Int.ofNat_lt.2 e) (bw (M1 b c r d _ e rfl q) ?_);rw[<-wG e l];dsimp only;cases z:AN c r d b[i].1 with|false=>rfl|true=>simp only[Sum.elim_inl,cond_true];exact (bw (cB e) (Cm (by grind) (by decide) (by decide) rfl))) (λs _=>by unfold Fp.b0;exact uM (Int.le_refl _) rfl);have p:b.foldl (λs v=>bif AN c r d v.1 then s++[((v.1,()):D9)]else s) []=Il b c r d:=by
  have :∀(xs:List df) (s:List D9),xs.foldl (λs v=>bif AN c r d v.1 then s++[((v.1,()):D9)]else s) s=s++(xs.filter (λv=>AN c r d v.1)).map (λv=>((v.1,()):D9)):=by intro xs;induction xs with|nil=>grind|cons a t A=>grind
  have h:=this b [];rw [List.nil_append]at h;exact h
 have j:=m.1;rw [p]at j;unfold Fp rf;refine bw j (bw (OL b (B5 b c r d) l n.ok) ?_);cases y:tm b (B5 b c r d) with|false=>rfl|true=>refine uN rfl (bw (GF (B5 b c r d)) ?_);cases j7 (B5 b c r d)<;>rfl
def p0(l:List sH)(v:sH):List sH:=bif !AN l v.1 v.2.1 v.2.2.1&&dO (l.length:Int) 1000 then l++[v]else l
noncomputable def tb(n:a0)(v:sH):a0:=bif E4 (bb n) v.2.2.1 then(bif rf (bb n) (p0 (dT n) v) v.1 v.2.1 then dc (B3 n (p0 (dT n) v)) (B5 (bb n) (p0 (dT n) v) v.1 v.2.1) else B3 n (p0 (dT n) v)) else n
theorem EY{l:List sH}{v:sH}(h:l.length<=1000):(p0 l v).length<=1000:=by unfold p0;cases a:(!AN l v.1 v.2.1 v.2.2.1&&dO (l.length:Int) 1000)with|false=>exact h|true=>simp only[Bool.and_eq_true]at a;have :=Cp.1 a.2;grind
theorem Ga{l:List sH}{v:sH}(h:l.length<=1000)(c:(Ty.sl Hf).Ok l)(e:Hf.Ok v):(Ty.sl Hf).Ok (p0 l v):=by refine Dk (Nat.le_trans (EY h) (by decide)) (λy a=>?_);unfold p0 at a;cases d:(!AN l v.1 v.2.1 v.2.2.1&&dO (l.length:Int) 1000)with|false=>rw[d]at a;exact Ae c.2 a|true=>
 rw[d]at a;rcases List.mem_append.1 a with b|b;·exact Ae c.2 b
 ·rw[List.mem_singleton.1 b];exact e
theorem Es.votes{n:a0}(h:Es n):(Ty.sl Hf).Ok (dT n):=h.2.2.2.2.2.2.2.2.2.2.2.2.2.2.2.1
theorem B7{n:a0}(a:NW n){b:List sH}(d:(Ty.sl Hf).Ok b)(c:b.length<=1000):NW (B3 n b):=NW.PQ (Rl a.v d c) a.e0 a.pa
theorem HB{n:a0}{v:sH}(a:NW n)(b:Hf.Ok v)(g:n.2.1<890):NW (tb n v)/\j9 n (tb n v):=by have h:=a.v.h;have c:=Ga a.v.vo h.ok.votes b;have f:=B7 a c (EY a.v.vo);have d:j9 n (B3 n (p0 (dT n) v)):=⟨⟨rfl,.inl ⟨rfl,rfl,rfl⟩⟩,Int.le_refl _,by show n.2.1<=n.2.1+1;omega⟩;unfold tb;cases E4 (bb n) v.2.2.1 with|false=>exact ⟨a,j9.gj n⟩|true=>cases rf (bb n) (p0 (dT n) v) v.1 v.2.1 with|false=>grind|true=>obtain ⟨i,e⟩:=xr f (B6 (bb n) (p0 (dT n) v) v.1 v.2.1 h.ok.set h.l.2.1 b.1 b.2.1) g;exact ⟨i,d.trans e rfl⟩
theorem Pf(n:a0)(v:sH)(c:Al (dT n).length):aR (HQ.b0 (n,(v,()))) (false,((0:Int),()))=some (.inl (AN (dT n) v.1 v.2.1 v.2.2.1,(((dT n).length:Int),()))):=by have b:=AJ (S:=Bool×(Int×Unit)) (dT n) (λs x=>s||KC x v.1 v.2.1 v.2.2.1) (f:=HQ.b0 (n,(v,()))) (λs k=>(s,(k,()))) (λs=>Sum.inl (s,(((dT n).length:Int),()))) false (λk a s=>by unfold HQ.b0;refine uL (Int.ofNat_lt.2 a) ?_;rw[<-wG a c];cases s with|true=>rfl|false=>exact uN rfl (bw (cB a) (bw (qn a) rfl))) (λs=>by unfold HQ.b0;exact uM (Int.le_refl _) rfl);refine b.trans ?_;rw[GR];rfl
theorem Rq(n:a0)(v:sH)(b:NW n)(a:Hf.Ok v)(i:n.2.1<890):HQ (n,(v,()))=some (tb n v,()):=by have h:=b.v.h;have c:=Ga b.v.vo h.ok.votes a;have f:=b.v.vo;have d:=B7 b c (EY b.v.vo);unfold HQ tb;refine bw (GC (bb n) v.2.2.1 h.ok.set.1) ?_;cases E4 (bb n) v.2.2.1 with|false=>rfl|true=>
 have e:∀(R:Type),(bif (!AN (dT n) v.1 v.2.1 v.2.2.1) then bif dO (List.length (dT n):Int) (1000:Int) then bif dE (List.length (dT n)+List.length ([v]:List sH)) 32 then some (.inl (bV (dT n) ([v]:List sH),())) else none else some (.inl (dT n,())) else some (.inl (dT n,())))=some (Sum.inl (p0 (dT n) v,()):Sum (List sH×Unit) R):=by intro R;unfold p0;cases AN (dT n) v.1 v.2.1 v.2.2.1 with|true=>rfl|false=>refine dd rfl ?_;cases dO (List.length (dT n):Int) (1000:Int) with|false=>rfl|true=>exact dd rfl (Cm (by grind) (by decide) (by decide) rfl)
 refine uN rfl (bw (Pf n v h.ok.votes.1) (bw (e _) (bw (M3 (bb n) (p0 (dT n) v) v.1 v.2.1 h.ok.set h.l.2.1 c.1 a.1 a.2.1) ?_)));cases g:rf (bb n) (p0 (dT n) v) v.1 v.2.1 with|false=>rfl|true=>exact dd rfl (bw (D4 (B3 n (p0 (dT n) v)) (B5 (bb n) (p0 (dT n) v) v.1 v.2.1) d.v.h (B6 (bb n) (p0 (dT n) v) v.1 v.2.1 h.ok.set h.l.2.1 a.1 a.2.1)) rfl)
def AS(name:ByteArray)(r b a:Int):fr:=(2,(⟨#[]⟩,(a,([],(r,(b,(name,(0,(0,(⟨#[]⟩,(0,(-1,([],(0,([],([],()))))))))))))))))
def xx(name:ByteArray)(a r b:Int):sb:=(1,(a,(r,(b,(name,())))))
noncomputable def AT(n:a0)(b:ao):Bool:=pt n b&&(gA (cf n b).2.1 n.2.1&&(gA b.2.2.1 (ad (cf n b))&&(!km b.2.2.1 (fb (cf n b))&&E4 (bb (cf n b)) (cf n b).1)))
noncomputable def ft(n:a0)(b:ao):a0×(List fr×List sb):=bif AT n b then(tb (o0 (cf n b) b.2.2.1) (b.2.2.1,(b.1,((cf n b).1,()))),(mb (bb (cf n b)) (cf n b).1 (AS (cf n b).1 b.2.2.1 b.1 0) (cf n b).2.1,[xx (cf n b).1 n.2.1 b.2.2.1 b.1])) else (cf n b,([],[]))
theorem l6{n:a0}(a:NW n){v:Int}(b:(Lit.int .i64 v).wf=true):NW (o0 n v):=NW.PQ (E:=n.2.1.toNat) (P:=n.2.1.toNat) ⟨Lv a.v.h b,a.v.FG,a.v.ep,a.v.le,a.v.vo,a.v.go,a.v.dn,a.v.pa⟩ a.e0 a.pa
structure YE(n:a0)(b:ao):Prop where
 tk:pt n b=true
 ep:(cf n b).2.1=n.2.1
 rd:b.2.2.1=ad (cf n b)vo:fb (cf n b)<b.2.2.1
 me:E4 (bb (cf n b)) (cf n b).1=true
theorem JB{n:a0}{b:ao}(h:AT n b=true):YE n b:=by unfold AT at h;simp only[Bool.and_eq_true,Bool.not_eq_true']at h;exact⟨h.1,Cr.1 h.2.1,Cr.1 h.2.2.1,CM.1 h.2.2.2.1,h.2.2.2.2⟩
theorem NK{n:a0}{b:ao}(g:NW n)(a:j3.Ok b)(f:ei b)(k:n.2.1<890):NW (ft n b).1/\(ft n b).1.1=n.1/\n.2.1<=(ft n b).1.2.1/\(ft n b).1.2.1<=n.2.1+1:=by obtain⟨d,c⟩:=mm g a f k;unfold ft;cases j:AT n b with|false=>exact⟨d,c.a.nm,c.le,c.up⟩|true=>
 have h:=JB j;have l:=h.ep;have i:=l6 d a.2.2.1;obtain⟨m,e⟩:=HB (v:=(b.2.2.1,(b.1,((cf n b).1,())))) i ⟨a.2.2.1,a.1,d.v.h.ok.1,trivial⟩ (by show (cf n b).2.1<890;omega);refine ⟨m,e.a.nm.trans c.a.nm,?_,?_⟩;·have :=e.le;show n.2.1<=_;exact Int.le_trans (Int.le_of_eq l.symm) this
 ·have :=e.up;exact Int.le_trans this (by show (cf n b).2.1+1<=_;omega)
theorem Rr(n:a0)(b:ao)(e:NW n)(a:j3.Ok b)(d:ei b)(f:n.2.1<890):OB (n,(b,()))=some (((ft n b).2.1,()),(((ft n b).2.2,()),((ft n b).1,()))):=by obtain⟨c,q⟩:=mm e a d f;have g:=c.v.h.ok.set;unfold OB ft AT;refine bw (Rp n b e a d f) ?_;show (bif !pt n b then _ else _)=_;cases m:pt n b with|false=>rfl|true=>refine uN rfl ?_;show (bif !gA (cf n b).2.1 n.2.1 then _ else _)=_;cases k:gA (cf n b).2.1 n.2.1 with|false=>rfl|true=>have l:=Cr.1 k;refine uN rfl ?_;show (bif !gA b.2.2.1 (ad (cf n b))then _ else _)=_;cases r:gA b.2.2.1 (ad (cf n b))with|false=>rfl|true=>refine uN rfl ?_;show (bif km b.2.2.1 (fb (cf n b))then _ else _)=_;cases o:km b.2.2.1 (fb (cf n b))with|true=>rfl|false=>refine uN rfl (bw (GC (bb (cf n b)) (cf n b).1 g.1) ?_);cases p:E4 (bb (cf n b)) (cf n b).1 with|false=>rfl|true=>have j:=l6 c a.2.2.1;have h:GN (AS (cf n b).1 b.2.2.1 b.1 (cf n b).2.1):=⟨Nat.zero_le _,(λx i=>by cases i),Nat.zero_le _,Nat.zero_le _,Nat.zero_le _⟩;exact uN rfl (bw (Kw (o0 (cf n b) b.2.2.1) (AS (cf n b).1 b.2.2.1 b.1 (cf n b).2.1) c.v.h.l.2.1 h) (bw (Rq (o0 (cf n b) b.2.2.1) (b.2.2.1,(b.1,((cf n b).1,()))) j ⟨a.2.2.1,a.1,c.v.h.ok.1,trivial⟩ (by show (cf n b).2.1<890;omega)) (bw (show Qc _=some (xx (cf n b).1 n.2.1 b.2.2.1 b.1,()) from rfl) rfl)))
noncomputable def ix(a:Int)(s:a0)(b:ao):a0:=bif gA s.2.1 a then cf s b else s
noncomputable def p5(n:a0)(m:fr):a0:=(lf m).foldl (ix m.2.2.1) n
noncomputable def Fz(n:a0)(m:fr):a0:=bif gA (p5 n m).2.1 m.2.2.1&&tm (bb (p5 n m)) (mQ m)then dc (p5 n m) (mQ m)else p5 n m
noncomputable def tw(n:a0)(m:fr):a0:=bif gA (Fz n m).2.1 m.2.2.1&&FE (bb (Fz n m)) (mT m)then Kv (Fz n m) (mT m)else Fz n m
theorem JC(a:Int)(d:a0)(l:a<890)(m:d.2.1=a):∀(g:List ao)(s:a0),(∀b∈g,j3.Ok b/\ei b)->NW s->j9 d s->NW (g.foldl (ix a) s)/\j9 d (g.foldl (ix a) s)
 |[],s,_,f,h=>⟨f,h⟩|b::r,s,e,f,h=>by
  rw[List.foldl_cons];have i:NW (ix a s b)/\j9 d (ix a s b):=by unfold ix;cases j:gA s.2.1 a with|false=>grind|true=>have j:=Cr.1 j;obtain⟨n,k⟩:=mm f (e b (by simp)).1 (e b (by simp)).2 (by omega);exact⟨n,h.trans k (by omega)⟩
  exact JC a d l m r _ (λc o=>e c (by grind)) i.1 i.2
theorem HW.C6{m:fr}(h:HW m)(l:GN m):FF (mQ m):=⟨h.2.2.2.2.2.2.2.2.2.2.1,h.2.2.2.2.2.2.2.2.2.2.2.1,h.q,l.2.2.1⟩
theorem HW.PN{m:fr}(h:HW m)(l:GN m):Nx (mT m):=⟨h.2.2.2.2.2.2.2.2.2.2.2.2.2.1,h.2.2.2.2.2.2.2.2.2.2.2.2.2.2.1,h.2.2.2.2.2.2.2.2.2.2.2.2.2.2.2.1,l.2.2.2.1,l.2.2.2.2⟩
theorem HW.kp{m:fr}(h:HW m)(l:GN m):∀b∈lf m,j3.Ok b/\ei b:=λb a=>⟨Ae h.bs.2 a,l.2.1 b a⟩
theorem B8{n:a0}{m:fr}(i:NW n)(g:HW m)(d:GN m)(j:m.2.2.1=n.2.1)(k:n.2.1<890):(NW (p5 n m)/\j9 n (p5 n m))/\(NW (Fz n m)/\j9 n (Fz n m))/\NW (tw n m)/\j9 n (tw n m):=by
 have a:NW (p5 n m)/\j9 n (p5 n m):=JC m.2.2.1 n (by omega) j.symm (lf m) n (g.kp d) i (j9.gj n);have c:NW (Fz n m)/\j9 n (Fz n m):=by unfold Fz;cases b:(gA (p5 n m).2.1 m.2.2.1&&tm (bb (p5 n m)) (mQ m)) with|false=>exact a|true=>simp only[Bool.and_eq_true]at b;have b:=Cr.1 b.1;obtain⟨f,e⟩:=xr a.1 (g.C6 d) (by omega);exact⟨f,a.2.trans e (by omega)⟩
 refine⟨a,c,?_⟩;unfold tw;cases b:(gA (Fz n m).2.1 m.2.2.1&&FE (bb (Fz n m)) (mT m)) with|false=>exact c|true=>obtain⟨f,e,h⟩:=Rn c.1 (g.PN d);exact⟨f,c.2.KB e h⟩
theorem NL(a:Int):∀(c:List ao)(s:a0),gA s.2.1 a=false->c.foldl (ix a) s=s
 |[],s,_=>rfl|b::r,s,h=>by
  rw[List.foldl_cons];have :ix a s b=s:=by unfold ix;grind
  rw[this];exact NL a r s h
theorem V9(n:a0)(m:fr)(w:NW n)(j:HW m)(x:GN m)(A:m.2.2.1=n.2.1)(z:n.2.1<890):∃k,aR (Hp.b0 (n,(m,()))) ((0:Int),n)=some (.inl (k,p5 n m)):=by
 have l:Al (lf m).length:=j.bs.1;have q:∀(c a:List ao) (s:a0),a++c=lf m->NW s->j9 n s->∃k,aR (Hp.b0 (n,(m,()))) ((a.length:Int),s)=some (.inl (k,c.foldl (ix m.2.2.1) s)):=by intro c;induction c with|nil=>intro a s i g h;rw[List.append_nil]at i;refine⟨(a.length:Int),cS ?_⟩;unfold Hp.b0;exact uM (show ((lf m).length:Int)<=(a.length:Int) by grind) rfl|cons b c u=>
  intro a s i g h;have e:a.length<(lf m).length:=by grind
  have t:(lf m)[a.length]=b:=by grind
  have d:=j.kp x b (by grind);cases f:gA s.2.1 m.2.2.1 with|false=>refine⟨(a.length:Int),?_⟩;rw[NL _ _ _ f];refine cS ?_;unfold Hp.b0;grind|true=>
  have y:=Cr.1 f;obtain⟨v,r⟩:=mm g d.1 d.2 (by omega);have p:Hp.b0 (n,(m,())) ((a.length:Int),s)=some (.inl (((a.length+1:Nat):Int),cf s b)):=by unfold Hp.b0;refine uL (Int.ofNat_lt.2 e) (dd f (bw (cB e) ?_));rw[t];refine bw (Rp s b g d.1 d.2 (by omega)) ?_;rw[<-wG e l]
  rw[de p];have o:ix m.2.2.1 s b=cf s b:=by unfold ix;grind
  rw[List.foldl_cons,o];have :=u (a++[b]) (cf s b) (by grind) v (h.trans r (by omega));grind
 unfold p5;simpa using q (lf m) [] n rfl w (j9.gj n)
theorem TM(n:a0)(m:fr)(c:NW n)(a:HW m)(b:GN m)(f:m.2.2.1=n.2.1)(e:n.2.1<890):Hp (n,(m,()))=some (tw n m,()):=by
 obtain⟨⟨d,o⟩,⟨i,p⟩,_⟩:=B8 c a b f e;obtain⟨k,l⟩:=V9 n m c a b f e;have j:∀(R:Type),((bif gA (p5 n m).2.1 m.2.2.1 then (K0 ((bb (p5 n m),()),(mQ m,()))).bind λh=>bif h.1.1 then (I6 (p5 n m,(mQ m,()))).bind λg=>some (Sum.inl g.1)else some (Sum.inl (p5 n m))else some (Sum.inl (p5 n m))):Option (Sum a0 R))=some (Sum.inl (Fz n m)):=by intro R;unfold Fz;cases gA (p5 n m).2.1 m.2.2.1 with|false=>rfl|true=>refine dd rfl (bw (OL (bb (p5 n m)) (mQ m) d.v.h.ok.set.1 a.q) ?_);cases tm (bb (p5 n m)) (mQ m)with|false=>rfl|true=>exact dd rfl (bw (D4 (p5 n m) (mQ m) d.v.h (a.C6 b)) rfl)
 unfold Hp;refine bw l (bw (j _) ?_);unfold tw;show (bif gA (Fz n m).2.1 m.2.2.1 then _ else _)=_;cases gA (Fz n m).2.1 m.2.2.1 with|false=>rfl|true=>refine dd rfl (bw (Qw (bb (Fz n m)) (mT m) i.v.h.ok.set.1 a.t) ?_);show (bif FE (bb (Fz n m)) (mT m) then _ else _)=_;cases FE (bb (Fz n m)) (mT m) with|false=>rfl|true=>exact dd rfl (bw (EV (Fz n m) (mT m) (a.PN b)) rfl)
theorem Es.cl{n:a0}(h:Es n):(Ty.sl Gr).Ok (ej n):=h.2.2.2.2.2.2.2.2.2.2.2.2.2.2.2.2.1
theorem NW.gin{n:a0}(h:NW n):GIn n:=⟨h.v.h.l.2.1,h.v.h.ok.set,Nat.le_trans h.v.go (by decide),h.v.h.ok.cl⟩
theorem TN{l:List ow}{g:ow}(h:l.length<=1000):(sn l g).length<=1000:=by unfold sn;cases a:(!O5 l g&&dO (l.length:Int) 1000)with|false=>exact h|true=>simp only[Bool.and_eq_true]at a;have :=Cp.1 a.2;grind
theorem Lz{n:a0}(a:NW n){g:List ow}(c:(Ty.sl Gr).Ok g)(b:g.length<=1000):NW (Ef n g):=by have h:=a.v.h;have l:=h.l;refine NW.PQ (E:=n.2.1.toNat) (P:=n.2.1.toNat) ⟨⟨Q1 h.ok c,?_,h.t,h.d,h.p⟩,a.v.FG,a.v.ep,a.v.le,a.v.vo,b,a.v.dn,a.v.pa⟩ a.e0 a.pa;exact⟨l.1,l.2.1,l.2.2.1,l.2.2.2.1,l.2.2.2.2.1,l.2.2.2.2.2.1,l.2.2.2.2.2.2.1,l.2.2.2.2.2.2.2.1,Nat.le_trans b (by decide),l.2.2.2.2.2.2.2.2.2.1,l.2.2.2.2.2.2.2.2.2.2.1,l.2.2.2.2.2.2.2.2.2.2.2.1,l.2.2.2.2.2.2.2.2.2.2.2.2⟩
theorem Pg{n:a0}(b:NW n){g:ow}(d:Gr.Ok g):NW (tv n g)/\j9 n (tv n g)/\(tv n g).2.1=n.2.1:=by have a:=b.gin;have c:=NA a.go (Nat.le_trans a.g (by decide)) d;have f:NW (Ef n (sn (ej n) g)):=Lz b c (TN b.v.go);have i:j9 n (Ef n (sn (ej n) g)):=⟨⟨rfl,.inl ⟨rfl,rfl,rfl⟩⟩,Int.le_refl _,by show n.2.1<=n.2.1+1;omega⟩;have k:=H8 (bb n) (sn (ej n) g) g.1 a.s a.so c d.1;unfold tv;dsimp only;cases l:(sv (bb n) (sn (ej n) g) g.1).2.1.1 with|false=>exact ⟨f,i,rfl⟩|true=>obtain ⟨_,_,e⟩:=EW l;rw[e];obtain ⟨m,j,h⟩:=Rn f k;exact ⟨m,i.KB j h,h⟩
theorem Gb{n:a0}{g:ow}{q:j4}(a:NW n)(e:FF q)(b:Gr.Ok g)(i:n.2.1<890):NW (ik n g q)/\j9 n (ik n g q):=by obtain⟨j,h⟩:=xr a e i;unfold ik;cases (E4 (bb n) g.2.2.1&&tm (bb n) q) with|false=>exact⟨a,j9.gj n⟩|true=>cases gA (dc n q).2.1 n.2.1 with|false=>grind|true=>obtain⟨d,c,f⟩:=Pg j b;exact⟨d,h.KB c f⟩
theorem Wa(n:a0)(g:ow)(q:j4)(b:NW n)(a:FF q)(c:Gr.Ok g)(d:n.2.1<890):Ho (n,(g,(q,())))=some (ik n g q,()):=H9 n g q b.v.h a c (xr b a d).1.gin
theorem Gc{n:a0}(a:NW n)(c:n.2.1<890):NW (ev n).1/\(ev n).1.1=n.1/\n.2.1<=(ev n).1.2.1/\(ev n).1.2.1<=n.2.1+1:=by unfold ev;cases (E4 (bb n) n.1&&!dO (ad n) (fb n)) with|false=>grind|true=>obtain⟨d,b⟩:=Gb (l6 a a.v.h.round) (a.v.h.ok.C6 a.v.h.l) (HA a.v.h.ok) c;exact⟨d,b.a.nm,b.le,b.up⟩
theorem Rs(n:a0)(a:NW n)(b:n.2.1<890):Qh (n,())=some (((ev n).2.1,()),(((ev n).2.2,()),((ev n).1,()))):=Q8 n a.v.h (xr (l6 a a.v.h.round) (a.v.h.ok.C6 a.v.h.l) b).1.gin
def Hs(m:fr):sH:=(m.2.2.2.2.1,(m.2.2.2.2.2.1,(m.2.2.2.2.2.2.1,())))
def Ht(m:fr):ow:=(m.2.2.2.2.2.2.2.1,(m.2.2.2.2.2.2.2.2.1,(m.2.2.2.2.2.2.2.2.2.1,())))
theorem HW.vo{m:fr}(h:HW m):Hf.Ok (Hs m):=⟨h.2.2.2.2.1,h.2.2.2.2.2.1,h.2.2.2.2.2.2.1,trivial⟩
theorem HW.go{m:fr}(h:HW m):Gr.Ok (Ht m):=⟨h.2.2.2.2.2.2.2.1,h.2.2.2.2.2.2.2.2.1,h.2.2.2.2.2.2.2.2.2.1,trivial⟩
noncomputable def e8(n:a0)(m:fr):a0×(List fr×List sb):=bif gA m.1 1 then(match lf m with|b::_=>ft n b|[]=>(n,([],[])))else bif gA m.1 2 then(tb n (Hs m),([],[]))else bif gA m.1 3 then (ik n (Ht m) (mQ m),([],[]))else (tw n m,([],[]))
structure FA(m:fr):Prop where
 ok:HW m
 l:GN m
 pr:m.1=1->lf m≠[]
theorem HC{n:a0}{m:fr}(e:NW n)(c:FA m)(i:m.2.2.1=n.2.1)(f:n.2.1<890):NW (e8 n m).1/\(e8 n m).1.1=n.1/\n.2.1<=(e8 n m).1.2.1/\(e8 n m).1.2.1<=n.2.1+1:=by unfold e8;cases h:gA m.1 1 with
 |true=>have k:=c.pr (Cr.1 h);cases j:lf m with|nil=>grind|cons b r=>have g:=c.ok.kp c.l b (by grind);exact NK e g.1 g.2 f
 |false=>cases gA m.1 2 with|true=>obtain⟨d,a⟩:=HB e c.ok.vo f;exact⟨d,a.a.nm,a.le,a.up⟩|false=>cases gA m.1 3 with|true=>obtain⟨d,a⟩:=Gb e (c.ok.C6 c.l) c.ok.go f;exact⟨d,a.a.nm,a.le,a.up⟩|false=>obtain⟨_,_,d,a⟩:=B8 e c.ok c.l i f;exact⟨d,a.a.nm,a.le,a.up⟩
theorem Wb(n:a0)(m:fr)(c:NW n)(a:FA m)(h:m.2.2.1=n.2.1)(d:n.2.1<890):SV (n,(m,()))=some (((e8 n m).2.1,()),(((e8 n m).2.2,()),((e8 n m).1,()))):=by unfold SV e8;cases g:gA m.1 1 with
 |true=>have k:=a.pr (Cr.1 g);cases f:lf m with|nil=>grind|cons b r=>have e:=a.ok.kp a.l b (by grind);exact bw (dd rfl (bw (show bK (lf m) 0=some b by rw[f];rfl) (bw (Rr n b c e.1 e.2 d) rfl))) rfl
 |false=>cases j:gA m.1 2 with|true=>exact bw (uN rfl (dd rfl (bw (Rq n (Hs m) c a.ok.vo d) rfl))) rfl|false=>cases i:gA m.1 3 with|true=>exact bw (uN rfl (uN rfl (dd rfl (bw (Wa n (Ht m) (mQ m) c (a.ok.C6 a.l) a.ok.go d) rfl)))) rfl|false=>exact bw (uN rfl (uN rfl (uN rfl (bw (TM n m c a.ok a.l h d) rfl)))) rfl
theorem Wc(L:fk)(l:List ao)(p:Int)(a:List cp)(M:(Ty.sl c6).Ok L.2.1)(T:eD L.2.1)(n:(Ty.sl j3).Ok l)(h:ic l)(E:(Ty.sl il).Ok a):Y (Ka (L,((l,()),((p,()),((a,()),()))))) (λy=>(∀t∈y.1.1,t∈a)/\List.length y.1.1<=4/\(Ty.sl s6).Ok y.2.2.1.1/\W1 (List.length y.2.2.1.1)/\y.2.2.2.1.1.size<=32):=by
 have V:Al a.length:=E.1;unfold Ka;have q:∀{xs:List cp}{e:Bool},(∀t∈xs,t∈a)->List.length xs<=4->Y (some (((xs,()),((e,()),((([]:List df),()),((⟨#[]⟩,()),())))):(List cp×Unit)×((Bool×Unit)×((List df×Unit)×((ByteArray×Unit)×Unit))))) (λy=>(∀t∈y.1.1,t∈a)/\List.length y.1.1<=4/\(Ty.sl s6).Ok y.2.2.1.1/\W1 (List.length y.2.2.1.1)/\y.2.2.2.1.1.size<=32):=λS J=>Y.mk ⟨S,J,CK,Nat.zero_le _,Nat.zero_le _⟩;refine Y.bind (NF l p n) λW _=>Y.DY (λ_=>q (λt h=>by cases h) (Nat.zero_le _)) λ_=>Y.bind (NG l p n h) λZ _=>Y.DY (λ_=>q (λt h=>by cases h) (Nat.zero_le _)) λ_=>?_;refine Y.bind (YA L l p M T n h) λX A=>?_;refine Y.DZ (P:=λv=>(∀t∈v.1,t∈a)/\List.length v.1<=4/\(Ty.sl c6).Ok v.2.2.2.1/\eD v.2.2.2.1) (R:=λ_=>False) (Y.loop (I:=λv=>0<=v.2.1/\(∀t∈v.1,t∈a)/\List.length v.1<=4/\(Ty.sl c6).Ok v.2.2.2.1/\eD v.2.2.2.1) (λv=>((List.length a:Int)-v.2.1).toNat) (λv r=>?_) _ ⟨Int.le_refl _,(λt h=>by cases h),Nat.zero_le _,A.1,A.2⟩) (λv r=>?_) (λ_ h=>h.elim)
 · obtain ⟨o,i,k,j,u⟩:=v;obtain ⟨w,g,f,b,d⟩:=r;dsimp only at w g f b d;unfold Ka.b0;refine Y.DY (λm=>Y.DY (λB=>?_) (λ_=>Y.rl ⟨g,f,b,d⟩)) (λ_=>Y.rl ⟨g,f,b,d⟩);have m:i<(List.length a:Int):=Cp.1 m;have B:(List.length o:Int)<4:=Cp.1 B;have e:cM .i64 i 1=i+1:=ed (by omega) (by omega);have F:((List.length a:Int)-cM .i64 i 1).toNat<((List.length a:Int)-i).toNat:=by omega
   have D:0<=cM .i64 i 1:=by omega
   refine Y.gT w m λx N=>?_;obtain ⟨R,c,O,H,Q,_⟩:=H4 (k,(j,())) x b d (Ae E.2 N);refine Y.eq O (Y.DY (λ_=>Y.gT w m λK U=>Y.dE (by grind) (by decide) (by decide) (Y.l ⟨⟨D,λt h=>?_,?_,H,Q⟩,F⟩)) (λ_=>Y.l ⟨⟨D,g,f,b,d⟩,F⟩))
   · rcases List.mem_append.1 h with h|h;· grind
     grind
   · show List.length (o++[K])<=4;grind
 · obtain ⟨o,i,k,j,u⟩:=v;obtain ⟨g,f,b,d⟩:=r;dsimp only at g f b d;refine Y.eq (FY l p n h) (Y.DY (λ_=>q g f) λ_=>?_);obtain ⟨G,s,C⟩:=FX (k,(j,())) b d;refine Y.eq G (Y.eq (Nn _ C.1 s) (Y.bind (G9 _ s) λy h=>Y.mk ⟨g,f,Qu _ s,?_,h⟩));show W1 (List.length (ti (ks (k,(j,())))));have z:=C.1;unfold W1 at z⊢;unfold ti;cases bk (ks (k,(j,()))) with|false=>grind|true=>exact Nat.le_trans (Ev _) z
abbrev MkT:Type:=(List cp×Unit)×((Bool×Unit)×((List df×Unit)×((ByteArray×Unit)×Unit)))
noncomputable def TO(L:fk)(l:List ao)(p:Int)(a:List cp):MkT:=(Ka (L,((l,()),((p,()),((a,()),()))))).getD (([],()),((false,()),(([],()),((⟨#[]⟩,()),()))))
theorem Rt(L:fk)(l:List ao)(p:Int)(a:List cp)(d:(Ty.sl c6).Ok L.2.1)(c:eD L.2.1)(b:(Ty.sl j3).Ok l)(h:ic l)(f:(Ty.sl il).Ok a):Ka (L,((l,()),((p,()),((a,()),()))))=some (TO L l p a)/\(∀t∈(TO L l p a).1.1,t∈a)/\List.length (TO L l p a).1.1<=4/\(Ty.sl s6).Ok (TO L l p a).2.2.1.1/\W1 (List.length (TO L l p a).2.2.1.1)/\(TO L l p a).2.2.2.1.1.size<=32:=by
 obtain⟨y,e,g⟩:=Wc L l p a d c b h f;have :TO L l p a=y:=by unfold TO;grind
 grind
def D7(n:a0):se:=bif !gA (bx n).1 (gS .i64 (ad n) 1)then E7 n else ((0,([],([],()))):se)
noncomputable def NM(n:a0):MkT:=TO (gd n) (ar n) (bx n).2.1 (lh n)
noncomputable def g9(n:a0)(a:Int):ao:=(a,(n.2.1,(ad n,(n.1,((bx n).1,((bx n).2.1,((bx n).2.2.1,((D7 n).1,((D7 n).2.1,((D7 n).2.2.1,((NM n).1.1,((NM n).2.1.1,((NM n).2.2.1.1,((NM n).2.2.2.1.1,()))))))))))))))
theorem Ph{n:a0}(h:Jf n):Nx (D7 n):=by unfold D7;cases (!gA (bx n).1 (gS .i64 (ad n) 1))with|true=>exact h.ok.PN h.l|false=>exact⟨rfl,CK,CK,Nat.zero_le _,Nat.zero_le _⟩
theorem rm{n:a0}(h:Jf n){c:Int}(e:(Lit.int .i64 c).wf=true):j3.Ok (g9 n c)/\ei (g9 n c):=by have b:=h.ok.C6 h.l;have a:=Ph h;obtain⟨_,i,d,j,f,k⟩:=Rt (gd n) (ar n) (bx n).2.1 (lh n) h.ok.base h.G8 h.ok.ki h.t h.ok.j8;refine⟨⟨e,h.ok.2.1,h.round,h.ok.1,b.i1,b.i2,b.ok,a.i1,a.ok,a.hi,Dk (Nat.le_trans d (by decide)) (λt g=>Ae h.ok.j8.2 (i t g)),trivial,j,?_,trivial⟩,b.w,a.w,a.wh,Nat.le_trans d (by decide),f⟩;exact Nat.le_trans k (by decide)
theorem NN(n:a0)(a:Int)(h:Jf n):Oy (n,((a,()),()))=some (g9 n a,()):=by
 have c:=h.ok.C6 h.l;have b:=h.ok.PN h.l;obtain⟨e,_⟩:=Rt (gd n) (ar n) (bx n).2.1 (lh n) h.ok.base h.G8 h.ok.ki h.t h.ok.j8;have f:∀(R:Type),(bif !gA (bx n).1 (gS .i64 (ad n) 1)then (HM (E7 n,())).bind λd=>some (Sum.inl d.1)else some (Sum.inl ((0:Int),([],([],())))))=some (Sum.inl (D7 n):Sum se R):=by intro R;unfold D7;cases (!gA (bx n).1 (gS .i64 (ad n) 1))with|true=>exact bw (Jp (E7 n) b.w b.wh) rfl|false=>rfl
 unfold Oy;exact bw (Ey (bx n) c.w) (bw (f _) (bw e rfl))
def n8(b:ao)(a:Int):fr:=(1,(⟨#[]⟩,(a,([b],(0,(0,(⟨#[]⟩,(0,(0,(⟨#[]⟩,(0,(-1,([],(0,([],([],()))))))))))))))))
noncomputable def Fb(n:a0)(a:Int):Bool:=ko (n7 (bb n) (ad n)) n.1&&(!km (ad n) (Li n)&&((gA (bx n).2.1 (-1)||!dO (mh (ar n) (bx n).2.1) 0)&&(gl (g9 n a)&&k8 (g9 n a))))
noncomputable def dt(n:a0)(a:Int):a0×(List ao×(List fr×List sb)):=bif Fb n a then((ft (ns n (ad n)) (g9 n a)).1,([g9 n a],(mb (bb n) n.1 (n8 (g9 n a) n.2.1) n.2.1++(ft (ns n (ad n)) (g9 n a)).2.1,(ft (ns n (ad n)) (g9 n a)).2.2))) else (n,([],([],[])))
theorem sz{n:a0}(a:NW n){v:Int}(b:(Lit.int .i64 v).wf=true):NW (ns n v):=by have h:=a.v.h;exact NW.PQ (E:=n.2.1.toNat) (P:=n.2.1.toNat) ⟨⟨O3 h.ok b,h.l,h.t,h.d,h.p⟩,a.v.FG,a.v.ep,a.v.le,a.v.vo,a.v.go,a.v.dn,a.v.pa⟩ a.e0 a.pa
theorem HD{n:a0}{a:Int}(b:NW n)(c:(Lit.int .i64 a).wf=true)(f:n.2.1<890):NW (dt n a).1/\(dt n a).1.1=n.1/\n.2.1<=(dt n a).1.2.1/\(dt n a).1.2.1<=n.2.1+1:=by obtain⟨e,d⟩:=rm b.v.h c;unfold dt;cases Fb n a with|false=>grind|true=>exact NK (sz b b.v.h.round) e d f
theorem D8(a:List df)(name:ByteArray)(m:fr)(b:Int):(mb a name m b).length<=a.length:=by unfold mb;grind
theorem JD(n:a0)(b:ao)(h:W1 (bb (cf n b)).length):(ft n b).2.1.length<=1048576/\(ft n b).2.2.length<=1:=by unfold ft;cases AT n b with|false=>grind|true=>exact⟨Nat.le_trans (D8 _ _ _ _) h,Nat.le_refl _⟩
theorem Wd(n:a0)(a:Int)(m:NW n)(o:(Lit.int .i64 a).wf=true)(k:n.2.1<890):SX (n,((a,()),()))=some (((dt n a).2.1,()),(((dt n a).2.2.1,()),(((dt n a).2.2.2,()),((dt n a).1,())))):=by
 have h:=m.v.h;obtain⟨e,c⟩:=rm h o;have i:=sz m h.round;have s:=JD (ns n (ad n)) (g9 n a) (mm i e c k).1.v.h.l.2.1;have C:=D8 (bb n) n.1 (n8 (g9 n a) n.2.1) n.2.1;have D:(bb n).length<=1048576:=h.l.2.1;have p:GN (n8 (g9 n a) n.2.1):=⟨(by decide:1<=1048576),(λx y=>by rw[List.mem_singleton.1 y];exact c),Nat.zero_le _,Nat.zero_le _,Nat.zero_le _⟩;unfold SX dt Fb;have B:∀{S R:Type}{g:S->Option R}{r:R},Option.bind (some (Sum.inr r:Sum S R)) (λq=>Sum.elim g some q)=some r:=λ{S R g r}=>rfl;have f:((Oy (n,((a,()),()))).bind λb=>(Ox (b.1,())).bind λA=>bif (!A.1.1) then some ((([]:List ao),()),((([]:List fr),()),((([]:List sb),()),(n,())))) else (K1 (b.1,())).bind λu=>bif (!u.1.1) then some ((([]:List ao),()),((([]:List fr),()),((([]:List sb),()),(n,())))) else (Hn (ns n (ad n),(n8 b.1 n.2.1,()))).bind λl=>(OB (ns n (ad n),(b.1,()))).bind λd=>(HN (b.1,())).bind λt=>bif dE (List.length l.1.1+List.length d.1.1) 216 then some ((([t.1]:List ao),()),((bV l.1.1 d.1.1,()),(d.2.1,(d.2.2.1,())))) else none)=some (bif (gl (g9 n a)&&k8 (g9 n a)) then ((([g9 n a]:List ao),()),((mb (bb n) n.1 (n8 (g9 n a) n.2.1) n.2.1++(ft (ns n (ad n)) (g9 n a)).2.1,()),(((ft (ns n (ad n)) (g9 n a)).2.2,()),((ft (ns n (ad n)) (g9 n a)).1,())))) else ((([]:List ao),()),((([]:List fr),()),((([]:List sb),()),(n,()))))):=by refine bw (NN n a h) (bw (Jo _ e) ?_);cases z:gl (g9 n a) with|false=>grind|true=>refine uN rfl (bw (Fy _ c) ?_);cases w:k8 (g9 n a) with|false=>grind|true=>refine uN rfl (bw (Kw (ns n (ad n)) (n8 (g9 n a) n.2.1) h.l.2.1 p) (bw (Rr (ns n (ad n)) (g9 n a) i e c k) (bw (GG _ c) (dd ?_ rfl))));refine BO (Nat.le_trans (Nat.add_le_add (show List.length (mb (bb n) n.1 (n8 (g9 n a) n.2.1) n.2.1)<=1048576 by omega) s.1) (by decide)) (by decide) (by decide)
 cases z:ko (n7 (bb n) (ad n)) n.1 with|false=>exact bw (bw (re (bb n) (ad n)) (dd (by grind) rfl)) rfl|true=>cases w:km (ad n) (Li n) with|true=>exact bw (bw (re (bb n) (ad n)) (uN (by grind) (dd rfl rfl))) rfl|false=>cases E:gA (bx n).2.1 (-1) with|true=>refine bw (bw (re (bb n) (ad n)) (uN (by grind) (uN rfl (uN (by show (!gA (bx n).2.1 (-1))=false;grind) rfl)))) (f.trans ?_);grind|false=>cases j:dO (mh (ar n) (bx n).2.1) 0 with|true=>refine bw (bw (re (bb n) (ad n)) (uN (by grind) (uN rfl (dd (by show (!gA (bx n).2.1 (-1))=true;grind) (bw (sU (ar n) (bx n).2.1 h.ok.ki.1) (dd j rfl)))))) rfl|false=>refine bw (bw (re (bb n) (ad n)) (uN (by grind) (uN rfl (dd (by show (!gA (bx n).2.1 (-1))=true;grind) (bw (sU (ar n) (bx n).2.1 h.ok.ki.1) (uN j rfl)))))) (f.trans ?_);grind
def Gd(c:ByteArray)(a:Int)(b:List ao)(q:j4)(t:se):fr:=(4,(c,(a,(b,(0,(0,(⟨#[]⟩,(0,(0,(⟨#[]⟩,(q.1,(q.2.1,(q.2.2.1,(t.1,(t.2.1,(t.2.2.1,()))))))))))))))))
def tc0:se:=((0,([],([],()))):se)
def We:fr:=(0,(⟨#[]⟩,(0,([],(0,(0,(⟨#[]⟩,(0,(0,(⟨#[]⟩,(0,(0,([],(0,([],([],()))))))))))))))))
def fp(n:a0)(a:Int)(b:ByteArray):fr×((Bool×Unit)×Unit):=bif gA a n.2.1 then(Gd b a (ar n) (bx n) (E7 n),((true,()),()))else match (bm n).find? (λp=>gA p.1 a)with|some p=>(Gd b a (kj p) (pQ p) tc0,((true,()),()))|none=>(We,((false,()),()))
theorem LA(n:a0)(a:Int)(c:ByteArray)(h:Jf n):Jb (n,((a,()),((c,()),())))=some (fp n a c):=by have l:=h.l;have o:=h.ok.C6 h.l;have g:=h.ok.PN h.l;unfold Jb fp;cases r:gA a n.2.1 with
 |true=>exact dd rfl (bw (va (ar n) l.2.2.1 l.2.2.2.1) (bw (Ey (bx n) o.w) (bw (Jp (E7 n) g.w g.wh) rfl)))
 |false=>have m:W1 (bm n).length:=l.2.2.2.2.2.2.2.2.2.2.2.1;have j:∀p∈bm n,GH p:=l.2.2.2.2.2.2.2.2.2.2.2.2;have q:=AH (S:=Int×Unit) (bm n) (λp=>gA p.1 a) (f:=Jb.b0 (n,((a,()),((c,()),())))) (λk=>(k,())) (Sum.inl (((bm n).length:Int),())) (λp=>Sum.inr (Gd c a (kj p) (pQ p) tc0,((true,()),()))) (λi b=>by
     unfold Jb.b0;have d:=j _ (List.getElem_mem b);refine uL (Int.ofNat_lt.2 b) (bw (cB (xs:=bm n) b) ?_);rw[<-wG b m.l];refine Cg (λe=>?_) (λe=>?_);·rw[show gA (bm n)[i].1 a=true from e];exact bw (cB (xs:=bm n) b) (bw (va _ d.1 d.2.1) (bw (cB (xs:=bm n) b) (bw (Ey (pQ (bm n)[i]) d.2.2) rfl)))
     grind) (by unfold Jb.b0;exact uM (Int.le_refl _) rfl);refine uN rfl (bw q ?_);cases (bm n).find? (λp=>gA p.1 a)<;>rfl
theorem Pj(b:ByteArray):∀(k i:Nat)(r:List UInt8),k+i=b.size->ByteArray.toList.loop b i r=r.reverse++b.data.toList.drop i:=by intro k;induction k with|zero=>intro i r h;unfold ByteArray.toList.loop;simp_all|succ k d=>
 intro i r h;unfold ByteArray.toList.loop;have a:i<b.size:=by omega
 rw[if_pos a,d (i+1) _ (by omega)];have f:b.data.toList.drop i=b.get! i::b.data.toList.drop (i+1):=by have c:i<b.data.toList.length:=a;rw[List.drop_eq_getElem_cons c];congr 1;have e:i<b.data.size:=a;simp only[ByteArray.get!];grind
 grind
theorem EF(b:ByteArray):b.toList=b.data.toList:=by unfold ByteArray.toList;simp_all[Pj]
theorem n9{a b:ByteArray}:ko a b=true↔a=b:=by
 constructor
 · intro h;have c:a.toList=b.toList:=by unfold ko at h;grind
   rw[EF,EF]at c;cases a with|mk x=>simp_all
 grind[ko,xD]
theorem Wf{a b:ByteArray}:ko a b=false↔a≠b:=by grind[ko,n9]
abbrev fl:Type:=sb
def LB(a b:fl):Bool:=gA a.1 b.1&&(gA a.2.1 b.2.1&&(gA a.2.2.1 b.2.2.1&&(gA a.2.2.2.1 b.2.2.2.1&&ko a.2.2.2.2.1 b.2.2.2.2.1)))
theorem JE{a b:fl}:LB a b=true↔a=b:=by obtain⟨e,d,c,h,f,u⟩:=a;obtain⟨i,k,l,g,j,v⟩:=b;unfold LB;simp only[Bool.and_eq_true,Cr,n9];grind
def A7(a:List fl)(s:fl):Bool:=a.any (λx=>LB x s)
theorem M4{a:List fl}{s:fl}:A7 a s=true↔s∈a:=by
 unfold A7;rw[List.any_eq_true];constructor;·rintro⟨x,b,e⟩;rw[<-JE.1 e];exact b
 ·intro h;exact⟨s,h,JE.2 rfl⟩
def yo(a:List fl)(s:fl):List fl:=bif !A7 a s then a++[s]else a
theorem M5{a:List fl}{s x:fl}:x∈yo a s↔x∈a\/x=s:=by unfold yo;cases h:A7 a s with|true=>have :=M4.1 h;grind|false=>simp
theorem ee:∀{l a:List fl}{x:fl},x∈l.foldl yo a↔x∈a\/x∈l|[],a,x=>by simp|s::r,a,x=>by rw[List.foldl_cons,ee,M5,List.mem_cons];grind
theorem Im(a:List fl)(s:fl):(yo a s).length<=a.length+1:=by unfold yo;grind
theorem Hb:∀(l a:List fl),(l.foldl yo a).length<=a.length+l.length|[],a=>by simp|s::r,a=>by have c:=Hb r (yo a s);have b:=Im a s;grind
theorem LC(a:List fl)(s:fl)(d:Al a.length):I8 ((a,()),(s,()))=some (B1 (A7 a s)):=by have c:=Cj (S:=Int×Unit) a (λx=>LB x s) (f:=I8.b0 ((a,()),(s,()))) (λk=>(k,())) (Sum.inl ((a.length:Int),())) (Sum.inr (B1 true)) (λi b=>by unfold I8.b0;refine uL (Int.ofNat_lt.2 b) (bw (cB b) ?_);rw[<-wG b d];rfl) (by unfold I8.b0;exact uM (Int.le_refl _) rfl);unfold I8;refine bw c ?_;unfold A7;grind
def mo(a:Int)(q:j4):List fl:=q.2.2.1.map (λw=>((1,(a,(q.1,(q.2.1,(w.1,()))))):fl))
def pf(a:Int)(t:se):List fl:=(List.zip t.2.1 t.2.2.1).map (λp=>((2,(a,(t.1,(p.2.1,(p.1.1,()))))):fl))
def o6(a:Int)(b:ao):List fl:=mo a (gx b)++pf a (oj b)
def A0(m:fr):List fl:=(bif !ko (Hs m).2.2.1 ⟨#[]⟩then[((1,(m.2.2.1,((Hs m).1,((Hs m).2.1,((Hs m).2.2.1,()))))):fl)]else[])++((bif !ko (Ht m).2.2.1 ⟨#[]⟩then[((2,(m.2.2.1,((Ht m).1,((Ht m).2.1,((Ht m).2.2.1,()))))):fl)]else[])++(mo m.2.2.1 (mQ m)++(pf m.2.2.1 (mT m)++(lf m).flatMap (o6 m.2.2.1))))
theorem B9(a:Int)(q:j4):(mo a q).length=List.length q.2.2.1:=by simp_all[fl,mo,D9]
theorem Ge(a:Int)(t:se):(pf a t).length=min (List.length t.2.1) (List.length t.2.2.1):=by simp_all[fl,pf,D9,D3]
theorem Ru(a:Int)(q:j4)(k:Nat)(h:k<(mo a q).length)(b:k<List.length q.2.2.1):(mo a q)[k]=((1,(a,(q.1,(q.2.1,((q.2.2.1[k]).1,()))))):fl):=List.getElem_map ..
theorem Rv(a:Int)(t:se)(k:Nat)(h:k<(pf a t).length)(c:k<List.length t.2.1)(b:k<List.length t.2.2.1):(pf a t)[k]=((2,(a,(t.1,((t.2.2.1[k]).1,((t.2.1[k]).1,()))))):fl):=by simp_all[D9,D3,fl,pf]
theorem JF(a:Int){b:ao}{k:Nat}(d:List.length (gx b).2.2.1<=k)(c:List.length (oj b).2.1<=k):(o6 a b).length<=2*k:=by unfold o6;rw[List.length_append,B9,Ge];omega
theorem LD(b:List fl)(a:Int)(q:j4)(h:b.length+List.length q.2.2.1<=1000000):I9 ((b,()),((a,()),(q,())))=some ((b++mo a q,()),()):=by
 have g:=B9 a q;have i:=cK (f:=I9.b0 ((b,()),((a,()),(q,())))) (λk=>(b++(mo a q).take k,((k:Int),()))) (List.length q.2.2.1) (e:=Sum.inl (b++mo a q,((List.length q.2.2.1:Int),()))) (λk c=>by
 unfold I9.b0;refine uL (Int.ofNat_lt.2 c) (bw (cB c) (Cm ?_ (by decide) (by decide) (DQ ?_ (wG (n:=List.length q.2.2.1) c (by omega)))));·grind
 · have d:k<(mo a q).length:=by omega
   show (b++(mo a q).take k)++[_]=b++(mo a q).take (k+1);rw[List.take_succ_eq_append_getElem d,<-List.append_assoc];rw[Ru a q k d c]) (by unfold I9.b0;refine uM (Int.le_refl _) ?_;grind);unfold I9;grind
theorem LF(b:List fl)(a:Int)(t:se)(j:b.length+List.length t.2.1<=1000000):Ja ((b,()),((a,()),(t,())))=some ((b++pf a t,()),()):=by
 have i:=Ge a t;have l:=cK (f:=Ja.b0 ((b,()),((a,()),(t,())))) (λk=>(b++(pf a t).take k,((k:Int),()))) (pf a t).length (e:=Sum.inl (b++pf a t,(((pf a t).length:Int),()))) (λk g=>by
 have c:k<List.length t.2.1:=by omega
 have d:k<List.length t.2.2.1:=by omega
 unfold Ja.b0;refine uL (Int.ofNat_lt.2 c) (uL (Int.ofNat_lt.2 d) (bw (cB d) (bw (cB c) (Cm ?_ (by decide) (by decide) (DQ ?_ (wG (n:=List.length t.2.1) c (by omega)))))));·grind
 ·show (b++(pf a t).take k)++[_]=b++(pf a t).take (k+1);rw[List.take_succ_eq_append_getElem g,<-List.append_assoc];rw[Rv a t k g c d]) (by
 unfold Ja.b0;have e:b++(pf a t).take (pf a t).length=b++pf a t:=by grind
 rcases Nat.lt_or_ge (pf a t).length (List.length t.2.1) with h|h;·refine uL (Int.ofNat_lt.2 h) (uM (Int.ofNat_le.2 (show List.length t.2.2.1<=(pf a t).length by omega)) ?_);rw[e]
 ·refine uM (Int.ofNat_le.2 h) ?_;rw[e]);unfold Ja;grind
def Wg(m:fr):Prop:=List.length (mQ m).2.2.1<=1000/\List.length (mT m).2.1<=1000/\(lf m).length<=400/\∀b∈lf m,List.length (gx b).2.2.1<=1000/\List.length (oj b).2.1<=1000
theorem ri(d:Int):∀(a:List ao),(∀b∈a,List.length (gx b).2.2.1<=1000/\List.length (oj b).2.1<=1000)->(a.flatMap (o6 d)).length<=2000*a.length|[],_=>Nat.zero_le _|b::r,h=>by rw[List.flatMap_cons,List.length_append,List.length_cons];have e:=ri d r (λc f=>h c (by grind));have g:=JF d (h b (by simp)).1 (h b (by simp)).2;omega
theorem Rw(m:fr)(h:Wg m)(t:Al (lf m).length):Ke (m,())=some ((A0 m,()),()):=by
 obtain⟨D,w,v,n⟩:=h;let A:List fl:=(bif !ko (Hs m).2.2.1 ⟨#[]⟩then[((1,(m.2.2.1,((Hs m).1,((Hs m).2.1,((Hs m).2.2.1,()))))):fl)]else[]);let B:List fl:=(bif !ko (Ht m).2.2.1 ⟨#[]⟩then[((2,(m.2.2.1,((Ht m).1,((Ht m).2.1,((Ht m).2.2.1,()))))):fl)]else[]);have E:A.length<=1:=by grind
 have x:B.length<=1:=by grind
 have o:∀(R:Type),(bif !ko (Hs m).2.2.1 ⟨#[]⟩then (Qc ((m.2.2.1,()),(Hs m,()))).bind λd=>bif dE (List.length ([]:List fl)+List.length ([d.1]:List fl)) 48 then some (.inl (bV ([]:List fl) ([d.1]:List fl),()))else none else some (.inl (([]:List fl),())))=some (Sum.inl (A,()):Sum (List fl×Unit) R):=by intro R;show _=some (Sum.inl ((bif !ko (Hs m).2.2.1 ⟨#[]⟩then[_]else[]),()));cases ko (Hs m).2.2.1 ⟨#[]⟩<;>rfl
 have q:∀(R:Type),(bif !ko (Ht m).2.2.1 ⟨#[]⟩then (Qf ((m.2.2.1,()),(Ht m,()))).bind λg=>bif dE (List.length A+List.length ([g.1]:List fl)) 48 then some (.inl (bV A ([g.1]:List fl),())) else none else some (.inl (A,())))=some (Sum.inl (A++B,()):Sum (List fl×Unit) R):=by intro R;show _=some (Sum.inl (A++(bif !ko (Ht m).2.2.1 ⟨#[]⟩then[_]else[]),()));cases ko (Ht m).2.2.1 ⟨#[]⟩with|true=>simp|false=>exact bw rfl (Cm (by grind) (by decide) (by decide) rfl)
 unfold Ke;refine bw (o _) (bw (q _) (bw (LD (A++B) m.2.2.1 (mQ m) (by grind)) (bw (LF (A++B++mo m.2.2.1 (mQ m)) m.2.2.1 (mT m) (by rw[List.length_append,List.length_append,B9];omega)) ?_)));generalize j:A++B++mo m.2.2.1 (mQ m)++pf m.2.2.1 (mT m)=O;have u:O.length<=3000:=by rw[<-j,List.length_append,List.length_append,List.length_append,B9,Ge];omega
 have l:=xL (S:=List fl×(Int×Unit)) (lf m) (λs b=>s++o6 m.2.2.1 b) (λi s=>s.length<=3000+2000*i) (f:=Ke.b0 (m,())) (λs k=>(s,(k,()))) (λs=>Sum.inl (s,(((lf m).length:Int),()))) O (by omega) (λi a s C=>by have e:=n _ (List.getElem_mem a);have y:=JF m.2.2.1 e.1 e.2;refine⟨?_,by grind⟩;unfold Ke.b0;refine uL (Int.ofNat_lt.2 a) (bw (cB a) (bw (LD s m.2.2.1 (gx (lf m)[i]) (by omega)) (bw (cB a) (bw (LF (s++mo m.2.2.1 (gx (lf m)[i])) m.2.2.1 (oj (lf m)[i]) (by rw[List.length_append,B9];omega)) ?_))));refine DQ ?_ (wG a t);unfold o6;grind) (λs _=>by unfold Ke.b0;exact uM (Int.le_refl _) rfl);refine bw l.1 ?_;have p:∀(c:List ao) (s:List fl),c.foldl (λs b=>s++o6 m.2.2.1 b) s=s++c.flatMap (o6 m.2.2.1):=by intro c;induction c with|nil=>grind|cons b r z=>grind
 rw[p,<-j];show some ((_,()),())=some ((A0 m,()),());have :A++B++mo m.2.2.1 (mQ m)++pf m.2.2.1 (mT m)++(lf m).flatMap (o6 m.2.2.1)=A0 m:=by unfold A0;grind
 grind
def Gf(a:List fl)(an:List D9)(m:fr):Bool:=(A0 m).all (λs=>iv an s.2.2.2.2.1||A7 a s)
theorem Rx(a:List fl)(an:List D9)(m:fr)(h:Wg m)(d:Al (lf m).length)(c:Al an.length)(j:Al a.length):Kf ((a,()),((an,()),(m,())))=some (B1 (Gf a an m)):=by
 have l:(A0 m).length<=1000000:=by obtain⟨o,q,p,e⟩:=h;have :=ri m.2.2.1 (lf m) e;unfold A0;rw[List.length_append,List.length_append,List.length_append,List.length_append,B9,Ge];grind
 have g:=BI (S:=Int×Unit) (A0 m) (λs=>iv an s.2.2.2.2.1||A7 a s) (f:=Kf.b0 ((A0 m,()),()) ((a,()),((an,()),(m,())))) (λk=>(k,())) (Sum.inl (((A0 m).length:Int),())) (Sum.inr (B1 false)) (λi b=>by unfold Kf.b0;refine uL (Int.ofNat_lt.2 b) (bw (cB b) (bw (qn b) (bw (Jm an _ c) ?_)));rw[<-wG b (n:=(A0 m).length) (by omega)];dsimp only;cases iv an (A0 m)[i].2.2.2.2.1 with|true=>rfl|false=>refine dd rfl (bw (cB b) (bw (qn b) (bw (LC a _ j) ?_)));grind) (by unfold Kf.b0;exact uM (Int.le_refl _) rfl);unfold Kf Gf;refine bw (Rw m h d) (bw g ?_);grind
abbrev fv(w:en):fk:=(w.1,(w.2.1,()))
abbrev hu(w:en):List D9:=w.2.2.1
abbrev aa(w:en):List a0:=w.2.2.2.1
abbrev ab(w:en):List ao:=w.2.2.2.2.1
abbrev fz(w:en):List fl:=w.2.2.2.2.2.1
abbrev ds(w:en):List fr:=w.2.2.2.2.2.2.1
abbrev Hc(w:en)(b:List a0)(a:List ao)(d:List fl)(c:List fr):en:=(w.1,(w.2.1,(w.2.2.1,(b,(a,(d,(c,())))))))
def sF(a:List a0)(s:ByteArray):Bool:=a.any (λn=>ko n.1 s)
def PR(a:List a0)(s:ByteArray):Int:=nY a (λn=>ko n.1 s)
def EG(b:List a0)(a:List fr)(m:fr):List fr:=bif sF b m.2.1&&dO (a.length:Int) 400 then a++[m]else a
def Eg(w:en)(ms:List fr)(a:List fl):en:=Hc w (aa w) (ab w) (a.foldl yo (fz w)) (ms.foldl (EG (aa w)) (ds w))
theorem Ry(a:List a0)(s:ByteArray):km 0 (PR a s)=sF a s:=AG
theorem Pk(a:List a0)(s:ByteArray):(sF a s=false/\PR a s=-1)\/∃(j:Nat)(d:j<a.length),ko a[j].1 s=true/\sF a s=true/\PR a s=(j:Int):=by
 unfold sF PR;rcases mA a (λn=>ko n.1 s)with⟨b,_,c⟩|⟨j,d,e,_,b,_,c⟩;·grind
 grind
theorem JG{b:List a0}{a:List fr}{m:fr}(h:a.length<=400):(EG b a m).length<=400:=by unfold EG;cases c:(sF b m.2.1&&dO (a.length:Int) 400)with|false=>exact h|true=>simp only[Bool.and_eq_true]at c;have :=Cp.1 c.2;grind
theorem Io{b:List a0}:∀{ms a:List fr},a.length<=400->(ms.foldl (EG b) a).length<=400|[],a,h=>h|m::r,a,h=>by rw[List.foldl_cons];exact Io (JG h)
theorem l5{b:List a0}:∀{ms a:List fr}{x:fr},x∈ms.foldl (EG b) a->x∈a\/(x∈ms/\sF b x.2.1=true)
 |[],a,x,h=>.inl h|m::r,a,x,h=>by
  rw[List.foldl_cons]at h;rcases l5 h with h|h;·unfold EG at h;grind
  grind
theorem Gg(w:en)(ms:List fr)(a:List fl)(h:Al (aa w).length)(g:Al ms.length)(e:Al a.length)(d:(ds w).length<=400)(m:(fz w).length+a.length<=1000000):u5 (w,((ms,()),((a,()),())))=some (Eg w ms a,()):=by have l:=xL (S:=Int×(List fr×Unit)) ms (EG (aa w)) (λ_ s=>s.length<=400) (f:=u5.b0 (w,((ms,()),((a,()),())))) (λs k=>(k,(s,()))) (λs=>Sum.inl ((ms.length:Int),(s,()))) (ds w) d (λi b s c=>by refine⟨?_,JG c⟩;unfold u5.b0 EG;refine uL (Int.ofNat_lt.2 b) (bw (cB b) (bw (HY _ ms[i].2.1 h) ?_));rw[<-wG b g];show (bif km 0 (PR (aa w) ms[i].2.1) then _ else _)=_;rw[Ry];cases sF (aa w) ms[i].2.1 with|false=>rfl|true=>refine dd rfl ?_;show (bif dO (s.length:Int) 400 then _ else _)=_;cases dO (s.length:Int) 400 with|false=>rfl|true=>exact dd rfl (bw (cB b) (Cm (by grind) (by decide) (by decide) rfl))) (λs _=>by unfold u5.b0;exact uM (Int.le_refl _) rfl);have j:=xL (S:=Int×(List fl×Unit)) a yo (λi s=>s.length<=(fz w).length+i) (f:=u5.b1 (w,((ms,()),((a,()),())))) (λs k=>(k,(s,()))) (λs=>Sum.inl ((a.length:Int),(s,()))) (fz w) (Nat.le_refl _) (λi b s c=>by refine⟨?_,Nat.le_trans (Im _ _) (by omega)⟩;unfold u5.b1 yo;refine uL (Int.ofNat_lt.2 b) (bw (cB b) (bw (LC s a[i] (by omega)) ?_));rw[<-wG b e];dsimp only;cases A7 s a[i]with|true=>rfl|false=>exact dd rfl (bw (cB b) (Cm (by grind) (by decide) (by decide) rfl))) (λs _=>by unfold u5.b1;exact uM (Int.le_refl _) rfl);unfold u5;exact bw l.1 (bw j.1 rfl)
structure WI(E S:Nat)(w:en):Prop where
 G8:(Ty.sl c6).Ok (fv w).2.1
 Ip:eD (fv w).2.1
 FG:bk (fv w)=true
 fo:(Ty.sl e9).Ok (hu w)TP:(hu w).length<=20
 nl:(aa w).length<=12
 nd:∀n∈aa w,NW n/\n.2.1<=(E:Int)bo:(Ty.sl j3).Ok (ab w)bl:(ab w).length<=1000
 bL:∀b∈ab w,ei b
 so:(Ty.sl FD).Ok (fz w)sl:(fz w).length<=S
 nt:(ds w).length<=400
 nm:∀m∈ds w,FA m/\sF (aa w) m.2.1=true
theorem WI.up{E S b c:Nat}{w:en}(h:WI E S w)(e:E<=b)(d:S<=c):WI b c w:=⟨h.G8,h.Ip,h.FG,h.fo,h.TP,h.nl,λn a=>⟨(h.nd n a).1,by have :=(h.nd n a).2;omega⟩,h.bo,h.bl,h.bL,h.so,Nat.le_trans h.sl d,h.nt,h.nm⟩
theorem Rz{a:List a0}{j:Nat}{n:a0}(c:j<a.length)(e:n.1=a[j].1)(s:ByteArray):sF (a.set j n) s=sF a s:=by
 have h:(a.set j n).map (λx=>x.1)=a.map (λx=>x.1):=by
  rw[List.map_set,e];apply List.ext_getElem;·simp
  grind
 have b:∀l:List a0,sF l s=(l.map (λx=>x.1)).any (λx=>ko x s):=λl=>by unfold sF;grind
 grind
def i4(w:en)(j:Nat)(n:a0):en:=Hc w ((aa w).set j n) (ab w) (fz w) (ds w)
theorem yr{E S:Nat}{w:en}(h:WI E S w){j:Nat}(d:j<(aa w).length){n:a0}(e:n.1=(aa w)[j].1)(f:NW n)(g:n.2.1<=(E:Int)):WI E S (i4 w j n):=by
 refine⟨h.G8,h.Ip,h.FG,h.fo,h.TP,?_,λx c=>?_,h.bo,h.bl,h.bL,h.so,h.sl,h.nt,λm a=>⟨(h.nm m a).1,?_⟩⟩;·show ((aa w).set j n).length<=12;rw[List.length_set];exact h.nl
 · rcases List.mem_or_eq_of_mem_set c with b|rfl;· exact h.nd x b
   grind
 · show sF ((aa w).set j n) m.2.1=true;rw[Rz d e];exact (h.nm m a).2
theorem EH{E S:Nat}{w:en}(h:WI E S w){ms:List fr}{b:List fl}(e:∀m∈ms,FA m)(j:∀s∈b,FD.Ok s)(g:S<=900000)(i:b.length<=1):WI E (S+1) (Eg w ms b):=by
 have d:=Hb b (fz w);have f:=h.sl;refine⟨h.G8,h.Ip,h.FG,h.fo,h.TP,h.nl,h.nd,h.bo,h.bl,h.bL,?_,?_,Io h.nt,λm c=>?_⟩
 · refine Dk (Nat.le_trans d (show (fz w).length+b.length<=9223372036854775807 by omega)) (λs c=>?_);rcases ee.1 c with a|a;· exact Ae h.so.2 a
   grind
 · show (b.foldl yo (fz w)).length<=S+1;omega
 · rcases l5 c with a|a;· exact h.nm m a
   · exact⟨e m a.1,a.2⟩
theorem GS{a:List df}{name:ByteArray}{m:fr}{b:Int}(d:(Ty.sl s6).Ok a)(h:∀v∈a,FA (B4 m v.1 b)):∀x∈mb a name m b,FA x:=by intro x c;unfold mb at c;grind
theorem LG{n:a0}{b:ao}(d:NW n)(c:j3.Ok b)(f:ei b)(k:n.2.1<890):(∀m∈(ft n b).2.1,FA m)/\(∀s∈(ft n b).2.2,FD.Ok s)/\(ft n b).2.2.length<=1/\(ft n b).2.1.length<=1048576:=by
 obtain⟨a,l⟩:=mm d c f k;have e:=JD n b a.v.h.l.2.1;refine⟨?_,?_,e.2,e.1⟩;·unfold ft;cases AT n b with|false=>grind|true=>exact GS a.v.h.ok.set (λv i=>⟨⟨rfl,(Ae a.v.h.ok.set.2 i).1,a.v.h.ok.2.1,CK,c.2.2.1,c.1,a.v.h.ok.1,rfl,rfl,Nat.zero_le _,rfl,rfl,CK,rfl,CK,CK,trivial⟩,⟨Nat.zero_le _,(λx g=>by cases g),Nat.zero_le _,Nat.zero_le _,Nat.zero_le _⟩,λh=>by cases h⟩)
 ·unfold ft;cases AT n b with|false=>grind|true=>intro s j;rw[List.mem_singleton.1 j];exact⟨rfl,d.v.h.ok.2.1,c.2.2.1,c.1,a.v.h.ok.1,trivial⟩
theorem LH{n:a0}{m:fr}(e:NW n)(a:FA m)(f:n.2.1<890):(∀x∈(e8 n m).2.1,FA x)/\(∀s∈(e8 n m).2.2,FD.Ok s)/\(e8 n m).2.2.length<=1/\(e8 n m).2.1.length<=1048576:=by have g:(∀x∈([]:List fr),FA x)/\(∀s∈([]:List fl),FD.Ok s)/\([]:List fl).length<=1/\([]:List fr).length<=1048576:=⟨(λx h=>by cases h),(λx h=>by cases h),Nat.zero_le _,Nat.zero_le _⟩;unfold e8;cases d:gA m.1 1 with
 |true=>have j:=a.pr (Cr.1 d);cases i:lf m with|nil=>grind|cons b r=>have c:=a.ok.kp a.l b (by grind);exact LG e c.1 c.2 f
 |false=>grind
theorem JH{n:a0}(a:NW n):(∀x∈(ev n).2.1,FA x)/\(∀s∈(ev n).2.2,FD.Ok s)/\(ev n).2.2.length<=1/\(ev n).2.1.length<=1048576:=by have b:=a.v.h.ok.C6 a.v.h.l;have d:=a.v.h.ok.set;have c:=a.v.h.ok;unfold ev;cases(E4 (bb n) n.1&&!dO (ad n) (fb n)) with|false=>grind|true=>refine⟨GS d (λv f=>⟨⟨rfl,(Ae d.2 f).1,c.2.1,CK,rfl,rfl,Nat.zero_le _,a.v.h.round,b.i1,c.1,b.i1,b.i2,b.ok,rfl,CK,CK,trivial⟩,⟨Nat.zero_le _,(λx e=>by cases e),b.w,Nat.zero_le _,Nat.zero_le _⟩,λh=>by cases h⟩),λs g=>?_,Nat.le_refl _,Nat.le_trans (D8 _ _ _ _) a.v.h.l.2.1⟩;rw[List.mem_singleton.1 g];exact⟨rfl,c.2.1,a.v.h.round,b.i1,c.1,trivial⟩
theorem Gh{n:a0}{a:Int}(f:NW n)(g:(Lit.int .i64 a).wf=true)(q:n.2.1<890):(∀x∈(dt n a).2.2.1,FA x)/\(∀s∈(dt n a).2.2.2,FD.Ok s)/\(dt n a).2.2.2.length<=1/\(dt n a).2.2.1.length<=2097152/\((dt n a).2.1=[]/\(dt n a).1=n\/(dt n a).2.1=[g9 n a]/\gl (g9 n a)=true):=by have h:=f.v.h;obtain⟨d,e⟩:=rm h g;have i:=sz f h.round;obtain⟨t,o,r,z⟩:=LG i d e q;have c:=h.ok.set;have j:=h.ok;unfold dt;cases l:Fb n a with|false=>grind|true=>
 refine⟨λx b=>?_,o,r,?_,.inr ⟨rfl,?_⟩⟩
 · rcases List.mem_append.1 b with b|b;· exact GS (m:=n8 (g9 n a) n.2.1) c (λv p=>⟨⟨rfl,(Ae c.2 p).1,j.2.1,Dk (by decide:1<=9223372036854775807) (λy k=>by rw[List.mem_singleton.1 k];exact d),rfl,rfl,Nat.zero_le _,rfl,rfl,Nat.zero_le _,rfl,rfl,CK,rfl,CK,CK,trivial⟩,⟨(by decide:1<=1048576),(λx b=>by rw[List.mem_singleton.1 b];exact e),Nat.zero_le _,Nat.zero_le _,Nat.zero_le _⟩,λ_ h=>by cases h⟩) x b
   grind
 · show (mb (bb n) n.1 (n8 (g9 n a) n.2.1) n.2.1++(ft (ns n (ad n)) (g9 n a)).2.1).length<=2097152;rw[List.length_append];have w:=D8 (bb n) n.1 (n8 (g9 n a) n.2.1) n.2.1;have u:(bb n).length<=1048576:=h.l.2.1;omega
 · unfold Fb at l;grind
theorem pv{n:a0}{a:Int}{i:ByteArray}(l:NW n)(k:(Lit.int .i64 a).wf=true)(j:Al i.size)(h:(fp n a i).2.1.1=true):FA (fp n a i).1:=by have f:=l.v.h.ok;have b:=l.v.h.l;have e:=f.C6 b;have c:=f.PN b;unfold fp at h⊢;cases q:gA a n.2.1 with|true=>exact⟨⟨rfl,j,k,f.ki,rfl,rfl,Nat.zero_le _,rfl,rfl,Nat.zero_le _,e.i1,e.i2,e.ok,c.i1,c.ok,c.hi,trivial⟩,⟨b.2.2.1,b.2.2.2.1,e.w,c.w,c.wh⟩,λh=>by cases h⟩|false=>rw[q]at h;cases o:(bm n).find? (λp=>gA p.1 a)with|none=>grind|some p=>have m:=List.mem_of_find?_eq_some o;have g:GH p:=b.2.2.2.2.2.2.2.2.2.2.2.2 p m;have d:G2.Ok p:=Ae f.2.2.2.2.2.2.2.2.2.2.2.2.2.2.2.2.2.2.2.1.2 m;simp only[cond_false];exact⟨⟨rfl,j,k,d.2.1,rfl,rfl,Nat.zero_le _,rfl,rfl,Nat.zero_le _,d.2.2.1,d.2.2.2.1,d.2.2.2.2.1,rfl,CK,CK,trivial⟩,⟨g.1,g.2.1,g.2.2,Nat.zero_le _,Nat.zero_le _⟩,λh=>by cases h⟩
noncomputable def l8(w:en)(m:fr):en:=match(aa w)[(PR (aa w) m.2.1).toNat]? with|some n=>bif gA n.2.1 m.2.2.1 then Eg (i4 w (PR (aa w) m.2.1).toNat (e8 n m).1) (e8 n m).2.1 (e8 n m).2.2 else w|none=>w
theorem CV{w:en}{m:fr}(h:sF (aa w) m.2.1=true):∃(j:Nat)(a:j<(aa w).length),(aa w)[j].1=m.2.1/\PR (aa w) m.2.1=(j:Int)/\l8 w m=bif gA (aa w)[j].2.1 m.2.2.1 then Eg (i4 w j (e8 (aa w)[j] m).1) (e8 (aa w)[j] m).2.1 (e8 (aa w)[j] m).2.2 else w:=by
 rcases Pk (aa w) m.2.1 with⟨b,_⟩|⟨j,a,b,_,c⟩;·grind
 ·refine⟨j,a,n9.1 b,c,?_⟩;unfold l8;simp_all
theorem KD{E S:Nat}{w:en}{m:fr}(h:WI E S w)(s:E<890)(o:S<=900000)(c:FA m)(g:sF (aa w) m.2.1=true):Qd (w,(m,()))=some (l8 w m,()):=by
 obtain⟨j,a,_,k,f⟩:=CV g;have d:Al (aa w).length:=by have :=h.nl;omega
 obtain⟨b,t⟩:=h.nd _ (List.getElem_mem a);rw[f];unfold Qd;have l:PM (w,((m.2.1,()),()))=some (I1 (j:Int)):=(HY w m.2.1 d).trans (by rw[show nY w.2.2.2.1 (λn=>ko n.1 m.2.1)=(j:Int) from k]);refine bw l (bw (cB a) (bw (qn a) ?_));show (bif gA (aa w)[j].2.1 m.2.2.1 then _ else _)=_;cases i:gA (aa w)[j].2.1 m.2.2.1 with|false=>rfl|true=>
 have e:=Cr.1 i;obtain⟨q,r,p,u⟩:=LH b c (by omega);refine dd rfl (bw (qn a) (bw (Wb (aa w)[j] m b c e.symm (by omega)) (bw rfl (bw (Gg (i4 w j (e8 (aa w)[j] m).1) (e8 (aa w)[j] m).2.1 (e8 (aa w)[j] m).2.2 ?_ ?_ ?_ h.nt ?_) rfl))));·simp_all[Al,a0,aa,i4,fr,sb,e8]
 ·omega
 ·omega
 ·have :=h.sl;show (fz w).length+_<=1000000;omega
theorem LI{E S:Nat}{w:en}{m:fr}(h:WI E S w)(s:E<890)(o:S<=900000)(b:FA m)(n:sF (aa w) m.2.1=true):WI (E+1) (S+1) (l8 w m):=by obtain⟨j,a,_,q,e⟩:=CV n;obtain⟨c,t⟩:=h.nd _ (List.getElem_mem a);rw[e];cases g:gA (aa w)[j].2.1 m.2.2.1 with|false=>grind[WI.up]|true=>have d:=Cr.1 g;obtain⟨i,k,p,v⟩:=LH c b (by omega);obtain⟨l,f,u,r⟩:=HC c b d.symm (by omega);exact EH (yr (h.up (Nat.le_succ _) (Nat.le_refl _)) a f l (by omega)) i k o p
def tS(w:en)(k:Nat):en:=Hc w (aa w) (ab w) (fz w) ((ds w).take k++(ds w).drop (k+1))
theorem GU{w:en}{k:Nat}{m:fr}(h:m∈ds (tS w k)):m∈ds w:=by
 rcases List.mem_append.1 h with h|h;·grind
 grind
theorem Pl(w:en)(k:Nat):(ds (tS w k)).length<=(ds w).length:=by show ((ds w).take k++(ds w).drop (k+1)).length<=_;grind
theorem o8{E S:Nat}{w:en}(h:WI E S w)(k:Nat):WI E S (tS w k):=⟨h.G8,h.Ip,h.FG,h.fo,h.TP,h.nl,h.nd,h.bo,h.bl,h.bL,h.so,h.sl,Nat.le_trans (Pl w k) h.nt,λm a=>h.nm m (GU a)⟩
noncomputable def Fc(w:en)(j:Nat)(n:a0):en:=Eg (Hc w ((aa w).set j (dt n ((ab w).length:Int)).1) (ab w++(dt n ((ab w).length:Int)).2.1) (fz w) (ds w)) (dt n ((ab w).length:Int)).2.2.1 (dt n ((ab w).length:Int)).2.2.2
noncomputable def A8(w:en)(j:Nat)(n:a0):en:=Eg (i4 w j (ev n).1) (ev n).2.1 (ev n).2.2
def A9(w:en)(n k:a0):en:=bif(fp n k.2.1 k.1).2.1.1 then Eg w [(fp n k.2.1 k.1).1] []else w
theorem Bk{n:Nat}(h:n<=1000000):(Lit.int .i64 (n:Int)).wf=true:=by grind[DX]
theorem Pm(w:en):Eg w [] []=w:=rfl
theorem NO{E S:Nat}{w:en}(h:WI E S w)(t:E<890)(q:S<=900000){j:Nat}(b:j<(aa w).length)(s:(ab w).length<1000):MF (w,(((j:Int),()),()))=some ((!gA ((dt (aa w)[j] ((ab w).length:Int)).2.1.length:Int) 0,()),(Fc w j (aa w)[j],())):=by
 obtain⟨d,u⟩:=h.nd _ (List.getElem_mem b);have c:=Bk (n:=(ab w).length) (by omega);obtain⟨k,l,i,o,e⟩:=Gh d c (by omega);have p:=h.nl;unfold MF Fc;refine uN (by show km 1000 ((ab w).length:Int)=false;exact CM.2 (by omega)) (bw (cB b) (bw (qn b) (bw (Wd (aa w)[j] ((ab w).length:Int) d c (by omega)) (bw rfl ?_))));generalize m:dt (aa w)[j] ((ab w).length:Int)=r at k l i o e;show (bif gA (r.2.1.length:Int) 0 then _ else _)=_;rcases e with⟨a,g⟩|⟨a,_⟩
 · have f:r.2.2.1=[]/\r.2.2.2=[]:=by rw[<-m]at a⊢;unfold dt at a⊢;grind
   rw[a,g,f.1,f.2,Pm,List.append_nil];rfl
 · rw[a];refine uN rfl (dd (BO (by grind) (by decide) (by decide)) (bw (Gg (Hc w ((aa w).set j r.1) (ab w++[g9 (aa w)[j] ((ab w).length:Int)]) (fz w) (ds w)) r.2.2.1 r.2.2.2 ?_ ?_ ?_ h.nt ?_) rfl));· grind
   · omega
   · omega
   · have :=h.sl;grind
theorem RA{E S:Nat}{w:en}(h:WI E S w)(v:E<890)(q:S<=900000){j:Nat}(k:j<(aa w).length)(y:(ab w).length<1000):WI (E+1) (S+1) (Fc w j (aa w)[j]):=by
 obtain⟨f,x⟩:=h.nd _ (List.getElem_mem k);have d:=Bk (n:=(ab w).length) (by omega);obtain⟨m,o,r,B,s⟩:=Gh f d (by omega);obtain⟨p,l,z,u⟩:=HD f d (by omega);obtain⟨t,A⟩:=rm f.v.h d;have a:=yr (h.up (Nat.le_succ E) (Nat.le_refl S)) k l p (by omega);refine EH (w:=Hc w ((aa w).set j (dt (aa w)[j] ((ab w).length:Int)).1) (ab w++(dt (aa w)[j] ((ab w).length:Int)).2.1) (fz w) (ds w)) ?_ m o q r;have g:∀b∈ab w++(dt (aa w)[j] ((ab w).length:Int)).2.1,j3.Ok b/\ei b:=λb c=>by
  rcases List.mem_append.1 c with e|e;·exact⟨Ae h.bo.2 e,h.bL b e⟩
  grind
 have i:(ab w++(dt (aa w)[j] ((ab w).length:Int)).2.1).length<=1000:=by grind
 exact⟨a.G8,a.Ip,a.FG,a.fo,a.TP,a.nl,a.nd,Dk (Nat.le_trans i (by decide)) (λb c=>(g b c).1),i,λb c=>(g b c).2,a.so,a.sl,a.nt,a.nm⟩
theorem LJ{E S:Nat}{w:en}(h:WI E S w)(i:E<890)(d:S<=900000){j:Nat}(a:j<(aa w).length):OC (w,(((j:Int),()),()))=some ((dO 0 ((ev (aa w)[j]).2.2.length:Int),()),(A8 w j (aa w)[j],())):=by
 obtain⟨b,k⟩:=h.nd _ (List.getElem_mem a);obtain⟨f,g,e,l⟩:=JH b;have c:=h.nl;unfold OC A8;refine bw (cB a) (bw (qn a) (bw (Rs (aa w)[j] b (by omega)) (bw rfl (bw (Gg (i4 w j (ev (aa w)[j]).1) (ev (aa w)[j]).2.1 (ev (aa w)[j]).2.2 ?_ ?_ ?_ h.nt ?_) rfl))));·show Al ((aa w).set j _).length;grind
 ·omega
 ·omega
 ·have :=h.sl;show (fz w).length+_<=1000000;omega
theorem Pn{E S:Nat}{w:en}(h:WI E S w)(l:E<890)(c:S<=900000){j:Nat}(a:j<(aa w).length):WI (E+1) (S+1) (A8 w j (aa w)[j]):=by obtain⟨b,n⟩:=h.nd _ (List.getElem_mem a);obtain⟨f,g,d,o⟩:=JH b;obtain⟨i,e,k,m⟩:=Gc b (by omega);exact EH (yr (h.up (Nat.le_succ E) (Nat.le_refl S)) a e i (by omega)) f g c d
theorem RB{E S:Nat}{w:en}(h:WI E S w)(g:S<=900000){j k:Nat}(a:j<(aa w).length)(b:k<(aa w).length):OD (w,(((j:Int),()),(((k:Int),()),())))=some (((fp (aa w)[j] (aa w)[k].2.1 (aa w)[k].1).2.1.1,()),(A9 w (aa w)[j] (aa w)[k],())):=by
 obtain⟨c,n⟩:=h.nd _ (List.getElem_mem a);have f:=h.nl;have e:Di (k:Int) 0 (gS .i64 ((aa w).length:Int) 1)=true:=by rw[iz (by omega) (by omega)];simp[Di,km];omega
 unfold OD A9;refine bw (lb _ _ _) (uN (by grind) ?_);refine bw (cB a) (bw (qn a) (bw (cB b) (bw (qn b) (bw (cB b) (bw (qn b) (bw (qn a) (bw (qn a) (bw (qn a) (bw (qn a) (bw (LA (aa w)[j] (aa w)[k].2.1 (aa w)[k].1 c.v.h) ?_))))))))));generalize fp (aa w)[j] (aa w)[k].2.1 (aa w)[k].1=r;obtain⟨m,⟨d,u⟩,i⟩:=r;cases d with|false=>rfl|true=>have l:=Gg w [m] [] (by omega) (by grind) (by grind) h.nt (by have :=h.sl;grind);grind
theorem Po{E S:Nat}{w:en}(h:WI E S w)(b:S<=900000){j k:Nat}(c:j<(aa w).length)(g:k<(aa w).length):WI E (S+1) (A9 w (aa w)[j] (aa w)[k]):=by obtain⟨d,l⟩:=h.nd _ (List.getElem_mem c);obtain⟨a,_⟩:=h.nd _ (List.getElem_mem g);unfold A9;cases f:(fp (aa w)[j] (aa w)[k].2.1 (aa w)[k].1).2.1.1 with|false=>grind[WI.up]|true=>exact EH h (λm i=>by rw[List.mem_singleton.1 i];exact pv d a.v.h.ok.2.1 a.v.h.ok.1 f) (λs e=>by cases e) b (Nat.zero_le _)
theorem JI(l:List cp)(t:cp)(z:(Ty.sl il).Ok l)(C:W1 l.length)(J:il.Ok t):Y (KV ((l,()),(t,()))) (λy=>(y.2.1.1=false/\y.1.1=l)\/(y.2.1.1=true/\sd l=true/\sd y.1.1=true/\(Ty.sl il).Ok y.1.1/\List.length y.1.1<=20/\List.length y.1.1=l.length+1)):=by
 unfold W1 at C;unfold KV;refine Y.dE (by grind) (by decide) (by decide) (Y.dE (by simp only[List.length_cons,List.length_nil,bV,List.nil_append];omega) (by decide) (by decide) ?_);have q:List.length (bV (bV ([]:List cp) l) [t])=l.length+1:=by simp_all[cp,bV]
 have A:∀x∈bV (bV ([]:List cp) l) [t],il.Ok x:=λx b=>by
  unfold bV at b;rw[List.nil_append]at b;rcases List.mem_append.1 b with h|h;·exact Ae z.2 h
  grind
 have K:gS .i64 (List.length (bV (bV ([]:List cp) l) [t]):Int) 1=(l.length:Int):=by rw[q,iz]<;>omega
 refine Y.DZ (P:=λv=>0<=v.1/\v.1<(List.length v.2.1:Int)/\List.length v.2.1=l.length+1/\∀x∈v.2.1,il.Ok x) (R:=λ_=>False) (Y.loop (I:=λv=>0<=v.1/\v.1<(List.length v.2.1:Int)/\List.length v.2.1=l.length+1/\∀x∈v.2.1,il.Ok x) (λv=>v.1.toNat) (λv i=>?_) _ ?_) (λv i=>?_) (λ_ h=>h.elim)
 · obtain⟨k,o,u⟩:=v;obtain⟨c,d,f,a⟩:=i;dsimp only at c d f a;unfold KV.b0;refine Y.DY (λp=>?_) (λ_=>Y.rl ⟨c,d,f,a⟩);have p:0<k:=Cp.1 p;have e:gS .i64 k 1=k-1:=iz (by omega) (by omega);refine Y.Eb (by grind) (by grind) λr B=>?_;have E:=a r B;refine Y.bind (Y.of (Q:=λ_=>True) (Lh t r) trivial) λG _=>Y.DY (λ_=>?_) (λ_=>Y.rl ⟨c,d,f,a⟩);refine Y.Eb (by grind) (by grind) λL D=>Y.Eb c d λF _=>Y.so (Y.l ⟨⟨?_,?_,?_,?_⟩,?_⟩);· grind
   · grind
   · grind
   · intro x b;rcases List.mem_or_eq_of_mem_set b with j|rfl;· exact a x j
     · exact a _ D
   grind
 · refine⟨?_,?_,q,A⟩;· grind
   grind
 · obtain⟨k,o,u⟩:=v;obtain⟨c,d,f,a⟩:=i;dsimp only at c d f a;refine Y.Eb c d λH _=>Y.so ?_;have n:List.length (o.set k.toNat t)=l.length+1:=by grind
   have w:(Ty.sl il).Ok (o.set k.toNat t):=Dk (Nat.le_trans (Nat.le_of_eq n) (show l.length+1<=9223372036854775807 by omega)) (λx b=>by
   rcases List.mem_or_eq_of_mem_set b with j|rfl;· exact a x j
   omega);have m:Y (bif dE (List.length ([]:List cp)+l.length) 56 then some ((bV ([]:List cp) l,()),((false,()),())) else none) (λy=>(y.2.1.1=false/\y.1.1=l)\/(y.2.1.1=true/\sd l=true/\sd y.1.1=true/\(Ty.sl il).Ok y.1.1/\List.length y.1.1<=20/\List.length y.1.1=l.length+1)):=Y.dE (by grind) (by decide) (by decide) (Y.mk (.inl ⟨rfl,by simp[bV]⟩));refine Y.eq (QE l z) (Y.DY (λ_=>m) (λs=>Y.eq (QE (o.set k.toNat t) w) (Y.DY (λ_=>m) (λg=>Y.mk ?_))));have s:sd l=true:=by grind
   have g:sd (o.set k.toNat t)=true:=by grind
   refine .inr ⟨rfl,s,g,w,?_,n⟩;have :=g;unfold sd at this;simp only[Bool.and_eq_true]at this;have :=Cq.1 this.2;grind
def Eh(n:a0)(q:List cp):a0:=(n.1,(n.2.1,(n.2.2.1,(n.2.2.2.1,(n.2.2.2.2.1,(n.2.2.2.2.2.1,(n.2.2.2.2.2.2.1,(n.2.2.2.2.2.2.2.1,(n.2.2.2.2.2.2.2.2.1,(n.2.2.2.2.2.2.2.2.2.1,(n.2.2.2.2.2.2.2.2.2.2.1,(n.2.2.2.2.2.2.2.2.2.2.2.1,(n.2.2.2.2.2.2.2.2.2.2.2.2.1,(n.2.2.2.2.2.2.2.2.2.2.2.2.2.1,(n.2.2.2.2.2.2.2.2.2.2.2.2.2.2.1,(n.2.2.2.2.2.2.2.2.2.2.2.2.2.2.2.1,(n.2.2.2.2.2.2.2.2.2.2.2.2.2.2.2.2.1,(n.2.2.2.2.2.2.2.2.2.2.2.2.2.2.2.2.2.1,(q,(n.2.2.2.2.2.2.2.2.2.2.2.2.2.2.2.2.2.2.2.1,()))))))))))))))))))))
def Er(n:a0):a0:=Eh (Ef (B3 n []) []) []
theorem HE(n:a0):(Er n).1=n.1:=rfl
theorem HF(n:a0):(Er n).2.1=n.2.1:=rfl
theorem TQ(n:a0):fb (Er n)=fb n:=rfl
theorem TR(n:a0):bb (Er n)=bb n:=rfl
theorem LK{n:a0}(a:NW n){q:List cp}(b:(Ty.sl il).Ok q)(c:W1 q.length):NW (Eh n q):=by have h:=a.v.h;have o:=h.ok;have l:=h.l;refine NW.PQ (E:=n.2.1.toNat) (P:=n.2.1.toNat) ⟨⟨⟨o.1,o.2.1,o.2.2.1,o.2.2.2.1,o.2.2.2.2.1,o.2.2.2.2.2.1,o.2.2.2.2.2.2.1,o.2.2.2.2.2.2.2.1,o.2.2.2.2.2.2.2.2.1,o.2.2.2.2.2.2.2.2.2.1,o.2.2.2.2.2.2.2.2.2.2.1,o.2.2.2.2.2.2.2.2.2.2.2.1,o.2.2.2.2.2.2.2.2.2.2.2.2.1,o.2.2.2.2.2.2.2.2.2.2.2.2.2.1,o.2.2.2.2.2.2.2.2.2.2.2.2.2.2.1,o.2.2.2.2.2.2.2.2.2.2.2.2.2.2.2.1,o.2.2.2.2.2.2.2.2.2.2.2.2.2.2.2.2.1,o.2.2.2.2.2.2.2.2.2.2.2.2.2.2.2.2.2.1,b,o.2.2.2.2.2.2.2.2.2.2.2.2.2.2.2.2.2.2.2.1,trivial⟩,?_,h.t,h.d,h.p⟩,a.v.FG,a.v.ep,a.v.le,a.v.vo,a.v.go,a.v.dn,a.v.pa⟩ a.e0 a.pa;exact⟨l.1,l.2.1,l.2.2.1,l.2.2.2.1,l.2.2.2.2.1,l.2.2.2.2.2.1,l.2.2.2.2.2.2.1,l.2.2.2.2.2.2.2.1,l.2.2.2.2.2.2.2.2.1,l.2.2.2.2.2.2.2.2.2.1,c,l.2.2.2.2.2.2.2.2.2.2.2.1,l.2.2.2.2.2.2.2.2.2.2.2.2⟩
theorem TS{n:a0}(a:NW n):NW (Er n):=LK (Lz (B7 a CK (Nat.zero_le _)) CK (Nat.zero_le _)) CK (Nat.zero_le _)
theorem gk{x a b:Int}:Di x a b=true↔a<=x/\x<=b:=by simp[Di,km]
structure Wh(b:ao):Prop where
 id:0<=b.1/\b.1<=100000
 ep:0<=b.2.1/\b.2.1<=900
 rd:1<=b.2.2.1/\b.2.2.1<=10000
 by':e6 b.2.2.2.1=true
 qc:G4 (gx b) (gS .i64 b.2.2.1 1) (gS .i64 b.1 1)=true
 tc:Jn (oj b) (gS .i64 b.2.2.1 1)=true
 tl:(nx b).length<=4
 tx:(nx b).all No=true
 bo:HT b=true
theorem KE{b:ao}(h:gl b=true):Wh b:=by unfold gl at h;simp only[Bool.and_eq_true,Bool.not_eq_true']at h;obtain⟨d,j,f,i,g,k,e,c,a⟩:=h;exact⟨gk.1 d,gk.1 j,gk.1 f,i,g,k,by have :=Au.1 e;omega,c,a⟩
theorem JJ{l:List D9}(h:l9 l=true):l.length<=20:=by unfold l9 at h;simp only[Bool.and_eq_true]at h;have :=Cq.1 h.2;omega
theorem NP{q:j4}{r i:Int}(h:G4 q r i=true):List.length q.2.2.1<=20:=by
 unfold G4 j7 at h;simp only[Bool.or_eq_true,Bool.and_eq_true]at h;rcases h with h|h;·simp_all[D9,gA,Cr]
 ·exact JJ h.2.2
theorem NQ{t:se}{r:Int}(h:Jn t r=true):List.length t.2.1<=20/\List.length t.2.2.1=List.length t.2.1:=by
 unfold Jn p7 at h;simp only[Bool.or_eq_true,Bool.and_eq_true]at h;rcases h with h|h;·simp_all[D9,D3,gA,Cr]
 ·have a:=Cr.1 h.2.2.1;exact⟨JJ h.2.1,by omega⟩
structure TU(m:fr):Prop where
 to:e6 m.2.1=true
 ep:0<=m.2.2.1/\m.2.2.1<=900
 q:G4 (mQ m) 10000 100000=true
 t:Jn (mT m) 10000=true
 bs:∀b∈lf m,gl b=true/\b.2.1=m.2.2.1
 bl:(lf m).length<=400
 kd:xC m.1 ((lf m).length:Int) (Yk m) (Uv m) (Tv m) (VL m) (j7 (mQ m)) (p7 (mT m))=true
theorem Wi{m:fr}(h:Ep m=true):TU m:=by unfold Ep E8 at h;simp only[Bool.and_eq_true,List.all_eq_true]at h;obtain⟨d,i,f,g,⟨c,j⟩,e⟩:=h;exact⟨d,gk.1 i,f,g,λb a=>⟨(c b a).1,Cr.1 (c b a).2⟩,by have :=Cq.1 j;omega,e⟩
theorem TU.s{m:fr}(h:TU m):Wg m:=⟨Nat.le_trans (NP h.q) (by decide),Nat.le_trans (NQ h.t).1 (by decide),h.bl,λb c=>by have a:=KE (h.bs b c).1;exact⟨Nat.le_trans (NP a.qc) (by decide),Nat.le_trans (NQ a.tc).1 (by decide)⟩⟩
structure FB(w:en)(m:fr)(nb:List ao):Prop where
 Ji:FA m
 ok:Ep m=true
 to:sF (aa w) m.2.1=true
 sg:Gf (fz w) (hu w) m=true
 Hu:(lf m).length<=1
 nw:nb=[]\/∃b,lf m=[b]/\nb=[b]/\b.1=((ab w).length:Int)/\iv (hu w) b.2.2.2.1=true/\(ab w).length<1000
 aO6:nb=[]->∀b∈lf m,b.1<((ab w).length:Int)/\G6 (ab w) b=true
def tA(w:en)(m:fr)(a:List ao):en:=Eg (Hc w (aa w) (ab w++a) (fz w) (ds w)) [m] []
structure TV(m:fr):Prop where
 ok:HW m
 l:GN m
 Hu:(lf m).length<=1
theorem TV.Ji{m:fr}(h:TV m)(a:Ep m=true):FA m:=⟨h.ok,h.l,λe c=>by unfold Ep at a;simp only[Bool.and_eq_true]at a;have b:=a.2.2.2.2.2;unfold xC at b;rw[e,c]at b;simp[gA]at b⟩
theorem TW{E S:Nat}{w:en}(h:WI E S w)(ψ:S<=900000){m:fr}(d:TV m):Y (u7 (w,(m,()))) (λy=>(y.1.1=false/\y.2.1=w)\/(y.1.1=true/\∃a,FB w m a/\y.2.1=tA w m a)):=by
 have K:Al (aa w).length:=by have :=h.nl;omega
 have j:Al (hu w).length:=by have :=h.TP;omega
 have δ:Al (fz w).length:=by have :=h.sl;omega
 have σ:(ab w).length<=1000:=h.bl;have g:Y (some ((((false,()),(w,())):(Bool×Unit)×(en×Unit)))) (λy=>(y.1.1=false/\y.2.1=w)\/(y.1.1=true/\∃a,FB w m a/\y.2.1=tA w m a)):=Y.mk (.inl ⟨rfl,rfl⟩);have u:=d.Hu;have N:∀a:List ao,u5 (Hc w (aa w) (ab w++a) (fz w) (ds w),((([m]:List fr),()),((([]:List fl),()),())))=some (tA w m a,()):=λa=>Gg (Hc w (aa w) (ab w++a) (fz w) (ds w)) [m] [] K (by grind) (by grind) h.nt (by have :=h.sl;grind);have F:u5 (w,((([m]:List fr),()),((([]:List fl),()),())))=some (tA w m [],()):=by grind
 unfold u7;refine Y.eq (Ym m d.ok) (Y.DY (λ_=>g) (λf=>?_));have f:Ep m=true:=by grind
 refine Y.eq (HY w m.2.1 K) (Y.DY (λ_=>g) (λi=>?_));have i:sF (aa w) m.2.1=true:=by have e:=Ry (aa w) m.2.1;rw [<-e];have :=Au.1 i;exact GL this
 refine Y.eq (Rx (fz w) (hu w) m (Wi f).s d.ok.bs.1 j δ) (Y.DY (λ_=>g) (λk=>?_));have k:Gf (fz w) (hu w) m=true:=by grind
 have D:=d.Ji f;have Q:∀b∈lf m,gl b=true:=λb p=>by have :=f;unfold Ep E8 at this;grind
 match p:lf m with
 |[]=>refine Y.eq (y:=Sum.inl ((0:Int),())) (cS ?_) (Y.eq (H7 m d.l) (Y.eq F (Y.mk (.inr ⟨rfl,[],⟨D,f,i,k,u,.inl rfl,λ_ b C=>(by grind)⟩,rfl⟩))));unfold u7.b0;exact uM (show ((lf m).length:Int)<=0 by grind) rfl|[b]=>
 have C:b∈lf m:=by grind
 have Z:=d.ok.kp d.l b C;have θ:=Q b C;have T:=(QS θ).1;have v:(0:Int)<((lf m).length:Int):=by grind
 have x:bK (lf m) 0=some b:=by rw [p];rfl
 have O:u7.b0 (w,(m,())) ((1:Int),())=some (.inr (.inl ((1:Int),()))):=by unfold u7.b0;exact uM (show ((lf m).length:Int)<=1 by omega) rfl
 by_cases l:b.1<((ab w).length:Int);·have I:=Tx T l;have G:aC (ab w) (Int.toNat b.1)=some ((ab w)[b.1.toNat]'(by omega)):=qn (by omega);have L:=OP ((ab w)[b.1.toNat]'(by omega)) b (Ae h.bo.2 (List.getElem_mem _));cases φ:p8 ((ab w)[b.1.toNat]'(by omega)) b with|false=>refine Y.eq (y:=Sum.inr ((false,()),(w,()))) (cS ?_) g;unfold u7.b0;refine uL v (bw x (uL l (bw I (bw G (bw L (dd (by grind) rfl))))))|true=>
  refine Y.eq (y:=Sum.inl ((1:Int),())) ?_ (Y.eq (H7 m d.l) (Y.eq F (Y.mk (.inr ⟨rfl,[],⟨D,f,i,k,u,.inl rfl,λ_ c J=>?_⟩,rfl⟩))))
  · have β:u7.b0 (w,(m,())) ((0:Int),())=some (.inl ((1:Int),())):=by unfold u7.b0;refine uL v (bw x (uL l (bw I (bw G (bw L (uN (by grind) rfl))))))
    rw [de β];exact cS O
  · rw [p,List.mem_singleton] at J;rw [J];refine ⟨l,?_⟩;unfold G6;grind
 · have W:dO b.1 ((ab w).length:Int)=false:=Au.2 (by omega);have t:∀r,(bif gA b.1 ((ab w).length:Int) then (FK ((hu w,()),((b.2.2.2.1,()),()))).bind λκ=>bif κ.1.1 then bif dO ((ab w).length:Int) (1000:Int) then bif dE (List.length ([]:List ao)+(ab w).length) 208 then (HN (b,())).bind λM=>bif dE (List.length (bV ([]:List ao) (ab w))+List.length ([M.1]:List ao)) 208 then Option.map (λq=>.inr (.inr q)) ((aR (u7.b1 (w,(m,()))) (bV (bV ([]:List ao) (ab w)) ([M.1]:List ao),(cM .i64 (0:Int) (1:Int),()))).bind λα=>Sum.elim (λX=>(IZ (m,())).bind λz=>(u5 (Hc w (aa w) X.1 (fz w) (ds w),((([z.1]:List fr),()),((([]:List fl),()),())))).bind λB=>some ((true,()),(B.1,()))) some α) else none else none else some (.inr (.inr ((false,()),(w,())))) else some (.inr (.inr ((false,()),(w,())))) else some (.inr (.inr ((false,()),(w,())))):Option (Sum (Int×Unit) (Sum (Int×Unit) ((Bool×Unit)×(en×Unit)))))=r->u7.b0 (w,(m,())) ((0:Int),())=r:=λr π=>by unfold u7.b0;exact uL v (bw x (uN W π))
   have H:u7.b0 (w,(m,())) ((0:Int),())=some (.inr (.inr ((false,()),(w,()))))->Y ((aR (u7.b0 (w,(m,()))) ((0:Int),())).bind λV=>Sum.elim (λτ=>(IZ (m,())).bind λγ=>(u5 (w,((([γ.1]:List fr),()),((([]:List fl),()),())))).bind λε=>some ((true,()),(ε.1,()))) some V) (λy=>(y.1.1=false/\y.2.1=w)\/(y.1.1=true/\∃a,FB w m a/\y.2.1=tA w m a)):=λe=>Y.eq (cS e) g;cases o:gA b.1 ((ab w).length:Int) with|false=>grind|true=>have U:=Cr.1 o;cases n:iv (hu w) b.2.2.2.1 with|false=>exact H (t _ (dd o (bw (Jm (hu w) _ j) (uN n rfl))))|true=>cases A:dO ((ab w).length:Int) 1000 with|false=>exact H (t _ (dd o (bw (Jm (hu w) _ j) (dd n (uN A rfl)))))|true=>
 have ρ:=Cp.1 A;have P:u7.b1 (w,(m,())) (ab w++[b],((1:Int),()))=some (.inr (.inl (ab w++[b],((1:Int),())))):=by unfold u7.b1;exact uM (show ((lf m).length:Int)<=1 by omega) rfl
 have R:u7.b0 (w,(m,())) ((0:Int),())=some (.inr (.inr ((true,()),(tA w m [b],())))):=by refine t _ (dd o (bw (Jm (hu w) _ j) (dd n (dd A (dd (BO (by grind) (by decide) (by decide)) (bw (GG b Z.2) (dd (BO (by show (([]:List ao)++ab w).length+1<=_;grind) (by decide) (by decide)) ?_)))))));have μ:(aR (u7.b1 (w,(m,()))) (bV (bV ([]:List ao) (ab w)) [b],(cM .i64 0 1,())))=some (Sum.inl (ab w++[b],((1:Int),()))):=cS P;show Option.map _ ((aR (u7.b1 (w,(m,()))) (bV (bV ([]:List ao) (ab w)) [b],(cM .i64 0 1,()))).bind _)=_;rw [μ];have ω:((IZ (m,())).bind λz=>(u5 (Hc w (aa w) (ab w++[b]) (fz w) (ds w),((([z.1]:List fr),()),((([]:List fl),()),())))).bind λB=>some (((true,()),(B.1,())):(Bool×Unit)×(en×Unit)))=some ((true,()),(tA w m [b],())):=bw (H7 m d.l) (bw (N [b]) rfl);grind
 exact Y.eq (cS R) (Y.mk (.inr ⟨rfl,[b],⟨D,f,i,k,u,.inr ⟨b,p,rfl,U,n,by omega⟩,λe=>by cases e⟩,rfl⟩))|b::c::r=>grind
theorem Pp{E S:Nat}{w:en}(h:WI E S w)(l:S<=900000){m:fr}{f:List ao}(g:FB w m f):WI E (S+1) (tA w m f):=by
 have k:∀b∈f,j3.Ok b/\ei b:=λb a=>by
  rcases g.nw with e|⟨c,p,j,_⟩;·grind
  ·rw[j,List.mem_singleton]at a;rw[a];exact g.Ji.ok.kp g.Ji.l c (by grind)
 have i:(ab w++f).length<=1000:=by
  rw[List.length_append];rcases g.nw with e|⟨c,p,j,_,_,q⟩;·rw[e];have :=h.bl;omega
  grind
 refine EH (w:=Hc w (aa w) (ab w++f) (fz w) (ds w)) ⟨h.G8,h.Ip,h.FG,h.fo,h.TP,h.nl,h.nd,Dk (Nat.le_trans i (by decide)) (λb a=>?_),i,λb a=>?_,h.so,h.sl,h.nt,h.nm⟩ (λx n=>by rw[List.mem_singleton.1 n];exact g.Ji) (λs o=>by cases o) l (Nat.zero_le _)
 · rcases List.mem_append.1 a with d|d;· exact Ae h.bo.2 d
   · exact (k b d).1
 · rcases List.mem_append.1 a with d|d;· exact h.bL b d
   grind
def FR(w:en)(m:fr):Prop:=m.1≠4/\∃n∈aa w,((Hs m).1<=1\/(Hs m).1<=ad n\/∃b∈ar n,(Hs m).1=b.2.2.1)/\((Ht m).1=0\/(Ht m).1=ad n)/\∀b∈lf m,b.2.2.1<=ad n+((bb n).length:Int)
inductive qL(w:en):en->Prop|GV:qL w w|Eb(m:fr):m∈ds w->(ds w).length<400->qL w (Hc w (aa w) (ab w) (fz w) (ds w++[m]))|drop (k:Nat):qL w (tS w k)|sX (k:Nat) (hk:k<(ds w).length):qL w (l8 (tS w k) (ds w)[k])|Jj (j:Nat) (hj:j<(aa w).length):(ab w).length<1000->qL w (Fc w j (aa w)[j])|Fe (j:Nat) (hj:j<(aa w).length):qL w (A8 w j (aa w)[j])|Iq (j:Nat) (hj:j<(aa w).length) (k:Nat) (hk:k<(aa w).length):qL w (A9 w (aa w)[j] (aa w)[k])|EI (j:Nat) (hj:j<(aa w).length) (q:List cp):(q=lh (aa w)[j]\/(sd (lh (aa w)[j])=true/\sd q=true))->(Ty.sl il).Ok q->W1 q.length->qL w (i4 w j (Eh (aa w)[j] q))|FC (j:Nat) (hj:j<(aa w).length):qL w (i4 w j (Er (aa w)[j]))|Ir (m:fr) (nb:List ao):FB w m nb->FR w m->qL w (tA w m nb)|Gi (j:Nat) (hj:j<(aa w).length) (k:Nat) (hk:k<(aa w).length):(fp (aa w)[j] (aa w)[k].2.1 (aa w)[k].1).2.1.1=true->qL w (l8 w (fp (aa w)[j] (aa w)[k].2.1 (aa w)[k].1).1)
theorem EZ{a:List a0}{k:Nat}(b:k<a.length):sF a a[k].1=true:=by unfold sF;rw[List.any_eq_true];exact⟨a[k],List.getElem_mem b,xD _⟩
theorem wb(n:a0)(a:Int)(b:ByteArray)(h:(fp n a b).2.1.1=true):(fp n a b).1.2.1=b/\(fp n a b).1.2.2.1=a/\(fp n a b).1.1=4:=by unfold fp at h⊢;cases c:gA a n.2.1 with|true=>exact⟨rfl,rfl,rfl⟩|false=>rw[c]at h;cases d:(bm n).find? (λp=>gA p.1 a)with|none=>grind|some p=>exact⟨rfl,rfl,rfl⟩
theorem qL.wi{E S:Nat}{w o:en}(s:qL w o)(h:WI E S w)(p:E<890)(f:S<=900000):WI (E+1) (S+1) o:=by
 cases s with|GV=>grind[WI.up]|Eb m d r=>
 refine WI.up (E:=E) (S:=S) ⟨h.G8,h.Ip,h.FG,h.fo,h.TP,h.nl,h.nd,h.bo,h.bl,h.bL,h.so,h.sl,?_,λx v=>?_⟩ (Nat.le_succ _) (Nat.le_succ _);·grind
 · rcases List.mem_append.1 v with g|g;· exact h.nm x g
   · rw[List.mem_singleton.1 g];exact h.nm m d|drop k=>grind[WI.up,tS,o8]|sX k b=>have d:=h.nm _ (List.getElem_mem b);exact LI (o8 h k) p f d.1 d.2|Jj j a A=>grind[RA]|Fe j a=>grind[Pn]|Iq j a k b=>exact (Po h f a b).up (Nat.le_succ _) (Nat.le_refl _)|EI j a q _ u r=>obtain⟨c,e⟩:=h.nd _ (List.getElem_mem a);exact (yr (n:=Eh (aa w)[j] q) h a rfl (LK c u r) e).up (Nat.le_succ _) (Nat.le_succ _)|FC j a=>obtain⟨c,e⟩:=h.nd _ (List.getElem_mem a);exact (yr (n:=Er (aa w)[j]) h a (HE _) (TS c) (by rw[HF];exact e)).up (Nat.le_succ _) (Nat.le_succ _)|Ir m z y _=>grind[WI.up,tA,Pp]|Gi j a k b i=>obtain⟨c,_⟩:=h.nd _ (List.getElem_mem a);obtain⟨l,_⟩:=h.nd _ (List.getElem_mem b);have t:=wb _ _ _ i;exact LI h p f (pv c l.v.h.ok.2.1 l.v.h.ok.1 i) (by rw[t.1];exact EZ b)
abbrev TX:Type:=PS
def eT(e:TX):cp:=(e.2.2.2.1,(e.2.2.2.2.1,(e.2.2.2.2.2.1,(e.2.2.2.2.2.2.1,(e.2.2.2.2.2.2.2.1,())))))
def eM(e:TX):fr:=e.2.2.2.2.2.2.2.2
structure M6(e:TX):Prop where t:il.Ok (eT e)m:TV (eM e)
theorem JK{w:en}{k:Nat}(b:k<(ds w).length)(a:(ds w).length<=400):bV (bV ([]:List fr) (List.take (Int.toNat (k:Int)-0) (List.drop 0 (ds w)))) (List.take ((ds w).length-Int.toNat (cM .i64 (k:Int) 1)) (List.drop (Int.toNat (cM .i64 (k:Int) 1)) (ds w)))=(ds w).take k++(ds w).drop (k+1):=by have e:cM .i64 (k:Int) 1=((k+1:Nat):Int):=wG (n:=400) (by omega) (by omega);rw[e,BM,Int.toNat_natCast];unfold bV;rw[List.nil_append];congr 1;rw[List.take_of_length_le];grind
theorem YG{E S:Nat}{w:en}(h:WI E S w)(s:E<890)(t:S<=900000)(e:TX):Y (ME (w,(e,()))) (λy=>qL w y.2.1):=by
 have j:=h.nt;have q:gS .i64 ((ds w).length:Int) 1=((ds w).length:Int)-1:=iz (by omega) (by omega);unfold ME;refine Y.eq (lb _ _ _) (Y.DY (λ_=>Y.mk .GV) (λc=>?_));have c:Di e.2.1 0 (gS .i64 ((ds w).length:Int) 1)=true:=by grind
 rw[q]at c;have c:0<=e.2.1/\e.2.1<=((ds w).length:Int)-1:=by simpa[Di,km]using c
 obtain⟨k,d⟩:=Int.eq_ofNat_of_zero_le c.1;have b:k<(ds w).length:=by omega
 have f:=h.nm _ (List.getElem_mem b);have u:bK (ds w) e.2.1=some (ds w)[k]:=by rw[d];exact cB b
 have x:aC (ds w) (Int.toNat e.2.1)=some (ds w)[k]:=by rw[d];exact qn b
 refine Y.eq u (Y.eq x (Y.DY (λ_=>?_) (λ_=>?_)))
 · refine Y.DZ (P:=λv=>v.1=ds w\/((ds w).length<400/\v.1=ds w++[(ds w)[k]])) (R:=λ_=>False) (Y.DY (λg=>Y.eq (H7 _ f.1.l) (Y.dE (by grind) (by decide) (by decide) (Y.l (.inr ⟨by have A:((ds w).length:Int)<400:=Cp.1 g;omega,rfl⟩)))) (λ_=>Y.l (.inl rfl))) (λv a=>Y.mk ?_) (λ_ h=>h.elim);rcases a with a|⟨g,a⟩;· show qL w (Hc w (aa w) (ab w) (fz w) v.1);rw[a];exact .GV
   · show qL w (Hc w (aa w) (ab w) (fz w) v.1);rw[a];exact .Eb _ (List.getElem_mem b) g
 · have B:cM .i64 (k:Int) 1=((k+1:Nat):Int):=wG (n:=400) (by omega) (by omega);have p:mX e.2.1 (ds w).length=true:=by unfold mX;grind
   have r:mX (cM .i64 e.2.1 1) (ds w).length=true:=by unfold mX;grind
   have o:=JK b j;refine Y.tt p (Y.dE (by grind) (by decide) (by decide) (Y.tt r (Y.dE ?_ (by decide) (by decide) ?_)));· have z:List.length w.2.2.2.2.2.2.1<=400:=j;unfold bV;grind
   · have i:(Hc w (aa w) (ab w) (fz w) (bV (bV ([]:List fr) (List.take (Int.toNat e.2.1-0) (List.drop 0 (ds w)))) (List.take ((ds w).length-Int.toNat (cM .i64 e.2.1 1)) (List.drop (Int.toNat (cM .i64 e.2.1 1)) (ds w)))))=tS w k:=by rw[d];show Hc w (aa w) (ab w) (fz w) (bV (bV ([]:List fr) (List.take (Int.toNat (k:Int)-0) (List.drop 0 (ds w)))) (List.take ((ds w).length-Int.toNat (cM .i64 (k:Int) 1)) (List.drop (Int.toNat (cM .i64 (k:Int) 1)) (ds w))))=_;rw[o];rfl
     have m:=KD (o8 h k) s t f.1 f.2;rw[<-i]at m;refine Y.DZ (P:=λv=>qL w v) (R:=λ_=>False) (Y.DY (λ_=>Y.eq m (Y.l ?_)) (λ_=>Y.l ?_)) (λv a=>Y.mk a) (λ_ h=>h.elim);· show qL w (l8 _ _);rw[i];exact .sX k b
     · show qL w (Hc w (aa w) (ab w) (fz w) _);rw[i];exact .drop k
theorem Pq(n:a0):Vi (n,())=some (Er n,()):=rfl
theorem aO7{E S:Nat}{w:en}(h:WI E S w)(n:E<890)(d:S<=900000){e:TX}(u:M6 e)(F:gA e.1 9=true->FR w (eM e)):Y (YZ (w,(e,()))) (λy=>qL w y.2.1):=by
 have K:=h.nl;have t:gS .i64 ((aa w).length:Int) 1=((aa w).length:Int)-1:=iz (by omega) (by omega);unfold YZ;refine Y.DZ (P:=λ_=>True) (R:=λ_=>False) (Y.DY (λ_=>Y.l trivial) (λ_=>Y.DY (λ_=>Y.l trivial) (λ_=>Y.l trivial))) (λv _=>Y.DY (λ_=>Y.bind (YG h n d e) λy b=>Y.mk b) (λ_=>Y.DY (λH=>Y.bind (TW h d u.m) λy b=>Y.mk ?_) (λ_=>Y.eq (lb _ _ _) (Y.DY (λ_=>Y.mk .GV) (λf=>?_))))) (λ_ h=>h.elim)
 · rcases b with⟨_,b⟩|⟨_,G,m,b⟩;· rw[b];exact .GV
   · rw[b];exact .Ir _ G m (F H)
 · have f:Di e.2.1 0 (gS .i64 ((aa w).length:Int) 1)=true:=by grind
   rw[t]at f;have f:0<=e.2.1/\e.2.1<=((aa w).length:Int)-1:=by simpa[Di,km]using f
   obtain⟨j,c⟩:=Int.eq_ofNat_of_zero_le f.1;have a:j<(aa w).length:=by omega
   obtain⟨i,L⟩:=h.nd _ (List.getElem_mem a);have q:bK (aa w) e.2.1=some (aa w)[j]:=by rw[c];exact cB a
   have l:aC (aa w) (Int.toNat e.2.1)=some (aa w)[j]:=by rw[c];exact qn a
   refine Y.DY (λ_=>?_) (λ_=>Y.DY (λ_=>?_) (λ_=>Y.DY (λ_=>?_) (λ_=>Y.DY (λ_=>?_) (λ_=>Y.DY (λ_=>?_) (λ_=>Y.mk .GV)))))
   · show Y ((MF (w,((e.2.1,()),()))).bind _) _;rw[c];rcases Nat.lt_or_ge (ab w).length 1000 with o|o;· exact Y.eq (NO h n d a o) (Y.mk (.Jj j a o))
     · refine Y.eq (y:=((false,()),(w,()))) ?_ (Y.mk .GV);unfold MF;exact dd (by show km 1000 ((ab w).length:Int)=true;exact Cq.2 (by omega)) rfl
   · show Y ((OC (w,((e.2.1,()),()))).bind _) _;rw[c];exact Y.eq (LJ h n d a) (Y.mk (.Fe j a))
   · show Y ((OD (w,((e.2.1,()),((e.2.2.1,()),())))).bind _) _;rw[c];by_cases g:0<=e.2.2.1/\e.2.2.1<=((aa w).length:Int)-1
     · obtain⟨k,B⟩:=Int.eq_ofNat_of_zero_le g.1;have s:k<(aa w).length:=by omega
       rw[B];exact Y.eq (RB h d a s) (Y.mk (.Iq j a k s))
     · refine Y.eq (y:=((false,()),(w,()))) ?_ (Y.mk .GV);unfold OD;have M:Di e.2.2.1 0 (gS .i64 ((aa w).length:Int) 1)=false:=by rw[t];cases m:Di e.2.2.1 0 (((aa w).length:Int)-1) with|false=>rfl|true=>exact absurd (by simpa[Di,km]using m) g
       exact bw (lb _ _ _) (dd (by grind) rfl)
   · show Y ((SY (w,((e.2.1,()),(eT e,())))).bind _) _;have D:=JI (lh (aa w)[j]) (eT e) i.v.h.ok.j8 i.v.h.l.2.2.2.2.2.2.2.2.2.2.1 u.t;refine Y.bind (P:=λy=>qL w y.2.1) ?_ (λy b=>Y.mk b);unfold SY;refine Y.eq q (Y.eq l (Y.bind D λx g=>Y.eq q (Y.eq l (Y.eq rfl (Y.mk ?_)))));have z:qL w (i4 w j (Eh (aa w)[j] x.1.1)):=by
      rcases g with⟨_,p⟩|⟨_,A,I,J,C,_⟩;· exact .EI j a _ (.inl p) (by rw[p];exact i.v.h.ok.j8) (by rw[p];exact i.v.h.l.2.2.2.2.2.2.2.2.2.2.1)
      · exact .EI j a _ (.inr ⟨A,I⟩) J (Nat.le_trans C (by decide))
     have r:Int.toNat e.2.1=j:=by omega
     show qL w (Hc w ((aa w).set (Int.toNat e.2.1) (Eh (aa w)[j] x.1.1)) (ab w) (fz w) (ds w));rw[r];exact z
   · refine Y.eq q (Y.eq l (Y.eq (Pq _) (Y.eq rfl (Y.mk ?_))));have r:Int.toNat e.2.1=j:=by omega
     show qL w (Hc w ((aa w).set (Int.toNat e.2.1) (Er (aa w)[j])) (ab w) (fz w) (ds w));rw[r];exact .FC j a
theorem YH{t:cp}(h:txS t):il.Ok t:=⟨DX (by have :=h.2.1;omega) (by have :=h.1;omega),Nat.le_trans h.2.2.1 (by decide),Nat.le_trans h.2.2.2.1 (by decide),DX (by have :=h.2.2.2.2.1;omega) (by have :=h.2.2.2.2.2.1;omega),DX (by have :=h.2.2.2.2.2.2.1;omega) (by have :=h.2.2.2.2.2.2.2;omega),trivial⟩
theorem RC(c:MY)(a:Int)(q:tR c)(w:a<=1000):Y (My (c,((a,()),()))) (λy=>(Ty.sl il).Ok y.1.1/\List.length y.1.1<=20/\tR y.2.1/\y.2.1.1=c.1):=by
 unfold My;refine Y.bind (j6 c a q) λt k=>?_;refine Y.DZ (P:=λv=>(Ty.sl il).Ok v.1/\List.length v.1<=20/\tR v.2.2/\v.2.2.1=c.1) (R:=λ_=>False) (Y.loop (I:=λv=>0<=v.2.1/\v.2.1<=1000/\(Ty.sl il).Ok v.1/\List.length v.1<=20/\tR v.2.2/\v.2.2.1=c.1) (λv=>v.2.1.toNat) (λv j=>?_) _ ⟨k.1,?_,CK,Nat.zero_le _,k.2.2.2.1,k.2.2.2.2⟩) (λv j=>Y.mk j) (λ_ h=>h.elim)
 · obtain ⟨o,i,p⟩:=v;obtain ⟨s,r,l,g,d,f⟩:=j;dsimp only at s r l g d f;unfold My.b0;refine Y.DY (λm=>?_) (λ_=>Y.rl ⟨l,g,d,f⟩);have m:0<i:=Cp.1 m;have e:gS .i64 i 1=i-1:=iz (by omega) (by omega);refine Y.bind (UA p d) λn b=>Y.bind (JI o n.1 l (Nat.le_trans g (by decide)) (YH b.1)) λx u=>Y.l ⟨⟨?_,?_,?_,?_,b.2.1,b.2.2.trans f⟩,?_⟩;· grind
   · grind
   · grind
   · grind
   grind
 grind
theorem LL{b:List df}{d:ByteArray}{a r:Int}(u:0<=a)(c:E4 b d=true)(f:∀s,a<=s->s<r->n7 b s≠d):r<=a+(b.length:Int):=by
 rcases Int.lt_or_le (a+(b.length:Int)) r with n|m
 · exfalso;unfold E4 at c;rw[List.any_eq_true]at c;obtain⟨v,j,h⟩:=c;obtain⟨i,x,rfl⟩:=List.getElem_of_mem j;have l:=n9.1 h;have e:(0:Int)<(b.length:Int):=by omega
   have g:∃s:Int,a<=s/\s<a+(b.length:Int)/\s%(b.length:Int)=(i:Int):=by
    refine⟨a+((i:Int)-a)%(b.length:Int),?_,?_,?_⟩;· have :=Int.emod_nonneg ((i:Int)-a) (show(b.length:Int)≠0 by omega);omega
    · have :=Int.emod_lt_of_pos ((i:Int)-a) e;omega
    · rw[Int.add_emod,Int.emod_emod_of_dvd _ (Int.dvd_refl _),<-Int.add_emod];rw[show a+((i:Int)-a)=(i:Int) by omega];exact Int.emod_eq_of_lt (by omega) (by omega)
   obtain⟨s,k,q,p⟩:=g;refine f s k (by omega) ?_;unfold n7;have t:gA (b.length:Int) 0=false:=CN.2 (by omega);have w:dO s 0=false:=Au.2 (by omega);have o:ph s (b.length:Int)=(i:Int):=by unfold ph;grind
   grind
 omega
abbrev FvT:Type:=List D5×(Int×(Int×(Int×(Int×(Int×(ByteArray×(Int×(Int×(List D9×(Int×(Int×(ByteArray×(List ao×Unit)))))))))))))
def UB(b:ByteArray)(a:Int)(v:FvT):fr:=(v.2.2.2.1,(b,(a,(v.2.2.2.2.2.2.2.2.2.2.2.2.2.1,(v.2.2.2.2.1,(v.2.2.2.2.2.1,(v.2.2.2.2.2.2.1,(v.2.2.2.2.2.2.2.2.2.2.1,(v.2.2.2.2.2.2.2.2.2.2.2.1,(v.2.2.2.2.2.2.2.2.2.2.2.2.1,(v.2.2.2.2.2.2.2.1,(v.2.2.2.2.2.2.2.2.1,(v.2.2.2.2.2.2.2.2.2.1,(0,([],([],()))))))))))))))))
theorem Is{k o l n f j m e:Int}{g h i:ByteArray}{a:List ao}{c:List D9}(w:(Lit.int .i64 k).wf=true)(s:Al g.size)(q:(Lit.int .i64 o).wf=true)(r:∀b∈a,j3.Ok b/\ei b)(d:a.length<=1)(B:(Lit.int .i64 l).wf=true)(u:(Lit.int .i64 n).wf=true)(t:Al h.size)(z:(Lit.int .i64 f).wf=true)(y:(Lit.int .i64 j).wf=true)(v:Al i.size)(A:(Lit.int .i64 m).wf=true)(x:(Lit.int .i64 e).wf=true)(C:(Ty.sl e9).Ok c)(p:W1 c.length):TV ((k,(g,(o,(a,(l,(n,(h,(f,(j,(i,(m,(e,(c,(0,([],([],())))))))))))))))):fr):=⟨⟨w,s,q,Dk (Nat.le_trans d (by decide)) (λb D=>(r b D).1),B,u,t,z,y,v,A,x,C,rfl,CK,CK,trivial⟩,⟨by grind,by grind,p,Nat.zero_le _,Nat.zero_le _⟩,d⟩
end Go.Proofs.YthjkikiepdnimaaGreat
