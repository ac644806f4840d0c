/- Plain laws, part 2: what the program's functions and the reference's compute, told as plain words. Conditions: none. -/
import Derived.Test.YthjkikiepdnimaaGreatSzU1
set_option linter.unusedVariables false
set_option linter.unusedSimpArgs false
set_option linter.constructorNameAsVariable false
namespace Go.Proofs.YthjkikiepdnimaaGreat
open Go Go.Tm
set_option maxRecDepth 100000
theorem Gd{xs:List e6}(h:re xs=true):∀y∈xs,1<=y.1/\y.1<=1000000/\0<=y.2.1/\y.2.1<=1000:=by intro y b;obtain⟨i,a,rfl⟩:=List.getElem_of_mem b;unfold re at h;have :=xJ h i a;rw[Nat.zero_add]at this;unfold FZ at this;simp only[Bool.and_eq_true,Di,km,decide_eq_true_eq]at this;omega
theorem Ir:∀(xs:List e6)(n:Int)(k:Nat),(∀y∈xs,1<=y.1/\y.1<=1000000)->0<=n->n<=1000000*k->xs.length+k<=1000->n<=BY n xs/\BY n xs<=1000000*((xs.length+k:Nat):Int)|[],n,k,_,b,a,_=>⟨Int.le_refl _,by simpa[BY]using a⟩|x::r,n,k,h,b,a,c=>by have g:=h x (List.mem_cons_self ..);simp only[List.length_cons]at c⊢;have e:cM .i64 n x.1=n+x.1:=ed (by omega) (by omega);have f:=Ir r (n+x.1) (k+1) (λy d=>h y (List.mem_cons_of_mem _ d)) (by omega) (by omega) (by omega);show n<=BY (cM .i64 n x.1) r/\BY (cM .i64 n x.1) r<=_;grind
theorem RC{a:bF}(h:o0 a=true):0<=a.2.1/\a.2.1<=1000000/\0<=a.2.2.2.1/\a.2.2.2.1<=1000000/\List.length a.2.2.2.2.1<=4/\re a.2.2.2.2.1=true/\a.2.1<=HD a/\HD a<=6000000:=by
 unfold o0 at h;simp only[Bool.and_eq_true]at h;obtain⟨_,f,_,l,j,c⟩:=h;have b:0<=a.2.1/\a.2.1<=1000000:=by simpa[Di,km]using f
 have d:0<=a.2.2.2.1/\a.2.2.2.1<=1000000:=by simpa[Di,km]using l
 have i:List.length a.2.2.2.2.1<=4:=by simp only[km,decide_eq_true_eq]at j;omega
 have e:cM .i64 a.2.1 a.2.2.2.1=a.2.1+a.2.2.2.1:=ed (by omega) (by omega);have k:=Ir a.2.2.2.2.1 (a.2.1+a.2.2.2.1) 2 (λy g=>by have :=Gd c y g;omega) (by omega) (by omega) (by omega);refine⟨b.1,b.2,d.1,d.2,i,c,?_,?_⟩;·unfold HD;grind
 ·unfold HD;grind
theorem JL{A:Type}{lt:A->A->Bool}{xs:List A}(h:xs.Pairwise (λz y=>lt z y=true))(i:Nat)(a:i<xs.length):lO lt xs i xs[i]=true:=by cases i with|zero=>rfl|succ j=>show(match xs[j]? with|some z=>lt z xs[j+1]|none=>true)=true;rw[List.getElem?_eq_getElem (show j<xs.length by omega)];exact(List.pairwise_iff_getElem.1 h) j (j+1) (by omega) a (by omega)
theorem RD{A:Type}{lt:A->A->Bool}{xs:List A}(h:Wu lt xs):xs.Pairwise (λz y=>lt z y=true):=List.pairwise_iff_getElem.2 λi j c b a=>h i j c b a
theorem NX(e:Int):∀(xs:List e6)(s:List e6×Int),(xs.foldl (iv e) s).1=s.1++xs.filter (λx=>!km x.2.1 e)|[],s=>by simp|x::r,s=>by simp only[List.foldl_cons];rw[NX e r (iv e s x)];unfold iv;grind
theorem Ng{xs ys:List e6}(a:ys.Sublist xs)(h:re xs=true)(d:Wu (λ(z y:e6)=>dO z.2.1 y.2.1) xs):re ys=true:=by have c:=(RD d).sublist a;unfold re;refine wc λi b=>?_;have e:=Gd h ys[i] (a.subset (List.getElem_mem b));rw[Nat.zero_add];unfold FZ;rw[JL (lt:=λz y=>dO z.2.1 y.2.1) c i b];simp only[Di,km,Bool.and_true,Bool.and_eq_true,decide_eq_true_eq];omega
theorem NY(e:Int):∀(xs:List e6)(s:List e6×Int)(k:Nat),(∀y∈xs,1<=y.1/\y.1<=1000000)->0<=s.2->s.2<=1000000*(k:Int)->xs.length+k<=1000->0<=(xs.foldl (iv e) s).2/\(xs.foldl (iv e) s).2<=1000000*((xs.length+k:Nat):Int)
 |[],s,k,_,a,c,_=>⟨a,by grind⟩|x::r,s,k,h,a,c,d=>by
  have j:=h x (List.mem_cons_self ..);simp only[List.length_cons]at d⊢;simp only[List.foldl_cons];have g:cM .i64 s.2 x.1=s.2+x.1:=ed (by omega) (by omega);have b:0<=(iv e s x).2/\(iv e s x).2<=1000000*((k+1:Nat):Int):=by unfold iv;grind
  have i:=NY e r (iv e s x) (k+1) (λy f=>h y (List.mem_cons_of_mem _ f)) b.1 b.2 (by omega);omega
theorem Is:∀(xs:List bF)(s:Int)(k:Nat),(∀a∈xs,0<=HD a/\HD a<=6000000)->0<=s->s<=6000000*(k:Int)->xs.length+k<=1000->s<=xs.foldl (λs y=>cM .i64 s (HD y)) s/\∀a∈xs,HD a<=xs.foldl (λs y=>cM .i64 s (HD y)) s|[],s,_,_,_,_,_=>⟨Int.le_refl _,λa e=>by cases e⟩|x::r,s,k,h,g,f,b=>by have j:=h x (List.mem_cons_self ..);simp only[List.length_cons]at b;simp only[List.foldl_cons];have d:cM .i64 s (HD x)=s+HD x:=ed (by omega) (by omega);rw[d];have i:=Is r (s+HD x) (k+1) (λy c=>h y (List.mem_cons_of_mem _ c)) (by omega) (by omega) (by omega);grind
theorem Pv(L:fp)(h:bm L=true)(H:L.1<900):bm (cM .i64 L.1 1,(L.2.1.map (ft (cM .i64 L.1 1)),()))=true:=by
 obtain⟨A,p,o⟩:=n5 h;unfold bm py at h;simp only[Bool.and_eq_true]at h;obtain⟨j,v,I,l⟩:=h;have m:∀a∈L.2.1,o0 a=true:=λa b=>by obtain⟨i,d,rfl⟩:=List.getElem_of_mem b;have :=xJ v i d;simp_all[o0,bF,lO,ob,e6,AS]
 have u:=λa b=>RC (m a b);have s:=Is L.2.1 0 0 (λa b=>by grind) (Int.le_refl _) (by omega) (by omega);have j:0<=L.1/\L.1<=900:=by simpa[Di,km]using j
 have w:cM .i64 L.1 1=L.1+1:=ed (by omega) (by omega);have G:Ec L.2.1<=1000000:=by simpa[km]using l
 generalize O:cM .i64 L.1 1=E at w;have K:∀a∈L.2.1,o0 (ft E a)=true:=λa b=>by
  have q:=m a b;have n:=u a b;have c:=NY E a.2.2.2.2.1 ([],a.2.1) 1 (λy e=>by have :=Gd n.2.2.2.2.2.1 y e;omega) n.1 (by omega) (by omega);have N:(kb E a).1=a.2.2.2.2.1.filter (λx=>!km x.2.1 E):=by unfold kb;rw[NX];rfl
  have f:(kb E a).1.Sublist a.2.2.2.2.1:=by simp_all
  have g:=Ng f n.2.2.2.2.2.1 (p a b).2;have D:=f.length_le;have B:=RB E a;have C:(kb E a).2<=HD (ft E a):=by have M:cM .i64 (kb E a).2 a.2.2.2.1=(kb E a).2+a.2.2.2.1:=ed (by have :=c.1;unfold kb;omega) (by have :=c.2;unfold kb;omega);have k:=Ir (kb E a).1 ((kb E a).2+a.2.2.2.1) 10 (λy e=>by have :=Gd g y e;omega) (by have :=c.1;unfold kb;omega) (by have :=c.2;unfold kb;omega) (by omega);show _<=BY (cM .i64 (kb E a).2 a.2.2.2.1) (kb E a).1;grind
  have F:(kb E a).2<=1000000:=by have :=s.2 a b;have J:HD a<=Ec L.2.1:=this;omega
  unfold o0 at q⊢;simp only[Bool.and_eq_true]at q⊢;refine⟨q.1,?_,q.2.2.1,q.2.2.2.1,?_,g⟩;·show Di (kb E a).2 0 1000000=true;have P:0<=(kb E a).2:=c.1;simp[Di,km];omega
  ·show km (List.length (kb E a).1:Int) 4=true;have :=n.2.2.2.2.1;simp[km];omega
 unfold bm py;simp only[Bool.and_eq_true];refine⟨?_,?_,?_,?_⟩;·simp[Di,km];omega
 · refine wc λi d=>?_;rw[List.length_map]at d;rw[Nat.zero_add];unfold AS;have t:=RD o;have r:(L.2.1.map (ft E)).Pairwise (λz y=>ob z.1 y.1=true):=by rw[List.pairwise_map];exact t
   rw[JL (lt:=λ(z y:bF)=>ob z.1 y.1) r i (by omega),Bool.and_true,List.getElem_map];grind
 · grind
 · rw[Pu];exact l
theorem It(L:fp)(c:(Ty.sl cz).Ok L.2.1)(b:fb L.2.1)(h:bm L=true)(d:L.1<900):(k0 L).1=L.1+1/\bm (k0 L)=true:=by
 obtain⟨R,f,l,m,k,i⟩:=GX L c b;have e:k0 L=R:=by unfold k0;rw[f]
 have a:=Pv L h d;have g:=i h a;have j:0<=L.1:=by unfold bm at h;simp only[Bool.and_eq_true,Di,km,decide_eq_true_eq]at h;omega
 rw[e,g];exact⟨ed (by omega) (by omega),a⟩
theorem Iu:∀(g:List ao)(L:fp),(Ty.sl cz).Ok L.2.1->fb L.2.1->(∀b∈g,(Ty.sl i3).Ok (n9 b))->(nr L g).1=L.1|[],L,_,_,_=>rfl|b::r,L,d,f,a=>by obtain⟨_,j,i⟩:=C4 L (n9 b) d f (a b (by simp));have e:=NN (n9 b) (0,L) d f (λt h=>Ae (a b (by simp)).2 h);exact (Iu r _ j i (λc k=>a c (by grind))).trans e
abbrev Nh:Type:=List D5×(Int×(Int×Unit))
def vc(c:Nh):Prop:=List.length c.1<=1048576/\0<=c.2.1/\c.2.1<=(List.length c.1:Int)
theorem Zm(b:List D5)(c:List.length b<=1048576):Y (VC ((b,()),())) (λy=>vc y.1/\y.1.1=b):=by unfold VC;refine Y.DZ (P:=λ_=>True) (R:=λ_=>False) (Y.loop (I:=λs=>0<=s.2.1/\s.2.1<=(List.length b:Int)) (λs=>((List.length b:Int)-s.2.1).toNat) (λs d=>?_) _ ⟨Int.le_refl _,Int.natCast_nonneg _⟩) (λv _=>Y.mk ⟨⟨c,Int.le_refl _,Int.natCast_nonneg _⟩,rfl⟩) (λ_ h=>h.elim);unfold VC.b0;refine Y.DY (λa=>Y.DY (λe=>?_) (λ_=>Y.rl trivial)) (λ_=>Y.rl trivial);have a:=Cp.1 a;refine Y.bind (Y.gi (Q:=λ_=>True) d.1 a λ_ _=>trivial) (λx _=>Y.l ?_);have f:(cM .i64 s.2.1 (1:Int))=s.2.1+1:=ed (by omega) (by omega);grind
theorem KN(c:Nh)(a:vc c):Y (MM (c,())) (λy=>0<=y.1.1/\y.1.1<=255/\vc y.2.1/\y.2.1.1=c.1):=by unfold MM;refine Y.ff rfl (Y.ff rfl ?_);refine Y.DZ (P:=λv=>0<=v.1/\v.1<=255/\0<=v.2.1/\v.2.1<=(List.length c.1:Int)) (R:=λ_=>False) (Y.DY (λb=>?_) (λb=>Y.l ⟨(BN _).1,(BN _).2,a.2.1,a.2.2⟩)) (λv d=>Y.mk ⟨d.1,d.2.1,⟨a.1,d.2.2.1,d.2.2.2⟩,rfl⟩) (λ_ h=>h.elim);have b:=Cp.1 b;refine Y.bind (Y.gi (Q:=λ_=>True) a.2.1 b λ_ _=>trivial) (λx _=>Y.l ⟨(BN _).1,(BN _).2,?_⟩);have f:(cM .i64 c.2.1 (1:Int))=c.2.1+1:=ed (by have :=a.2.1;omega) (by have :=a.2.2;have :=a.1;omega);have e:=a.2.1;grind
theorem ke(c:Nh)(n:Int)(m:vc c):Y (I0 (c,((n,()),()))) (λy=>0<=y.1.1/\(0<n->y.1.1<n)/\(n<=0->y.1.1=0)/\vc y.2.1/\y.2.1.1=c.1):=by
 unfold I0;refine Y.DY (λi=>?_) (λi=>?_);·simp_all[km,Cq,Y.mk,HV,vc,D5]
 · have i:0<n:=CM.1 i;refine Y.DY (λ_=>Y.bind (KN c m) λy p=>?_) (λ_=>Y.bind (KN c m) λg j=>Y.bind (KN _ j.2.2.1) λh l=>Y.bind (KN _ l.2.2.1) λk o=>?_);· refine Y.ff (CN.2 (show n≠0 by omega)) (Y.mk ?_);have q:=Co p.1 i;grind
   · refine Y.ff (CN.2 (show n≠0 by omega)) (Y.mk ?_);have a:=j.1;have b:=j.2.1;have u:=l.1;have d:=l.2.1;have e:=o.1;have f:=o.2.1;have r:zJ .i64 g.1.1 (65536:Int)=g.1.1*65536:=Ar (by omega) (by omega);have v:zJ .i64 h.1.1 (256:Int)=h.1.1*256:=Ar (by omega) (by omega);have t:cM .i64 (g.1.1*65536) (h.1.1*256)=g.1.1*65536+h.1.1*256:=ed (by omega) (by omega);have s:cM .i64 (g.1.1*65536+h.1.1*256) k.1.1=g.1.1*65536+h.1.1*256+k.1.1:=ed (by omega) (by omega);have q:=Co (x:=g.1.1*65536+h.1.1*256+k.1.1) (by omega) i;grind
theorem JM(c:Nh)(l:List D3)(d:vc c)(e:l≠[]):Y (Kf (c,((l,()),()))) (λy=>y.1∈l/\vc y.2.1/\y.2.1.1=c.1):=by
 unfold Kf;have f:(0:Int)<(List.length l:Int):=by have :=List.length_pos_iff.2 e;omega
 refine Y.bind (ke c _ d) λy a=>Y.bind (Y.gi (Q:=λx=>x∈l) a.1 (a.2.1 f) λx b=>b) λx b=>Y.mk ⟨b,a.2.2.2.1,a.2.2.2.2⟩
theorem Zn(c:Nh)(l:List D9)(d:vc c)(e:l≠[]):Y (Te (c,((l,()),()))) (λy=>y.1∈l/\vc y.2.1/\y.2.1.1=c.1):=by
 unfold Te;have f:(0:Int)<(List.length l:Int):=by have :=List.length_pos_iff.2 e;omega
 refine Y.bind (ke c _ d) λy a=>Y.bind (Y.gi (Q:=λx=>x∈l) a.1 (a.2.1 f) λx b=>b) λx b=>Y.mk ⟨b,a.2.2.2.1,a.2.2.2.2⟩
theorem EN(c:Nh)(n:Int)(b:vc c):Y (Qn (c,((n,()),()))) (λy=>vc y.2.1/\y.2.1.1=c.1):=by unfold Qn;exact Y.bind (ke c _ b) λy a=>Y.mk ⟨a.2.2.2.1,a.2.2.2.2⟩
theorem RE(c:Nh)(b:vc c):Y (Qp (c,())) (λy=>y.1.1.size<=8/\vc y.2.1/\y.2.1.1=c.1):=by unfold Qp;refine Y.bind (Zn c _ b (by simp)) λy a=>Y.mk ⟨?_,a.2⟩;have h:=a.1;simp only[List.mem_cons,List.not_mem_nil,or_false]at h;rcases h with h|h|h|h|h|h<;>rw[h]<;>decide
def txS(t:cl):Prop:=t.1<=3/\1<=t.1/\t.2.1.size<=8/\t.2.2.1.size<=8/\0<=t.2.2.2.1/\t.2.2.2.1<=200/\0<=t.2.2.2.2.1/\t.2.2.2.2.1<=3
theorem U5(c:Nh)(m:vc c):Y (Qq (c,())) (λy=>txS y.1/\vc y.2.1/\y.2.1.1=c.1):=by
 unfold Qq;refine Y.bind (ke c _ m) λi a=>Y.bind (RE _ a.2.2.2.1) λo f=>Y.bind (JM _ _ f.2.1 (by simp)) λj l=>Y.bind (ke _ _ l.2.1) λn b=>?_;have e:n.2.1.1=c.1:=b.2.2.2.2.trans (l.2.2.trans (f.2.2.trans a.2.2.2.2));have k:0<=j.1.1/\j.1.1<=200:=by grind
 refine Y.DZ (P:=λv=>vc (v.1,(v.2.1,(v.2.2.1,())))/\v.1=c.1/\v.2.2.2.1.size<=8) (R:=λ_=>False) (Y.DY (λ_=>Y.bind (RE _ b.2.2.2.1) λr d=>Y.l ⟨d.2.1,d.2.2.trans e,d.1⟩) (λ_=>Y.l ⟨b.2.2.2.1,e,Nat.zero_le 8⟩)) (λv g=>Y.mk ⟨?_,g.1,g.2.1⟩) (λ_ h=>h.elim);have p:=a.1;have q:=a.2.1 (by decide);have s:cM .i64 (1:Int) i.1.1=1+i.1.1:=ed (by omega) (by omega);exact⟨by grind,by grind,f.1,g.2.2,k.1,k.2,b.1,by grind⟩
theorem Zo(c:Nh)(l:Jz)(i:vc c)(m:∀a∈l.2.1,a.1.size<=8)(q:List.length l.2.1<=1000000):Y (Tf (c,(l,()))) (λy=>y.1.1<=3/\1<=y.1.1/\y.1.2.1.size<=8/\y.1.2.2.1.size<=8/\0<=y.1.2.2.2.1/\y.1.2.2.2.1<=200/\((0<=y.1.2.2.2.2.1/\y.1.2.2.2.2.1<=3)\/∃a∈l.2.1,y.1.2.2.2.2.1=a.2.2.1)/\vc y.2.1/\y.2.1.1=c.1):=by unfold Tf;refine Y.bind (U5 c i) λp b=>?_;refine Y.DZ (P:=λv=>vc (v.1,(v.2.1,(v.2.2.1,())))/\v.1=c.1/\v.2.2.2.1.size<=8/\((0<=v.2.2.2.2.1/\v.2.2.2.2.1<=3)\/∃a∈l.2.1,v.2.2.2.2.1=a.2.2.1)) (R:=λ_=>False) (Y.DY (λj=>Y.bind (EN _ _ b.2.1) λo d=>Y.DY (λ_=>Y.bind (ke _ _ d.1) λr f=>Y.bind (Y.gi (Q:=λx=>x∈l.2.1) f.1 (f.2.1 (Cp.1 j)) λx n=>n) λk g=>Y.l ⟨f.2.2.2.1,f.2.2.2.2.trans (d.2.trans b.2.2),m _ g,.inr ⟨k,g,rfl⟩⟩) (λ_=>Y.l ⟨d.1,d.2.trans b.2.2,b.1.2.2.1,.inl b.1.2.2.2.2.2.2⟩)) (λ_=>Y.l ⟨b.2.1,b.2.2,b.1.2.2.1,.inl b.1.2.2.2.2.2.2⟩)) (λv e=>Y.mk ⟨b.1.1,b.1.2.1,e.2.2.1,b.1.2.2.2.1,b.1.2.2.2.2.1,b.1.2.2.2.2.2.1,e.2.2.2,e.1,e.2.1⟩) (λ_ h=>h.elim)
theorem B3(x:D3)(n:Int):Y (GM (x,((n,()),()))) (λ_=>True):=by unfold GM;exact Y.ff (zH _) (Y.ff (zH _) (Y.mk trivial))
theorem T6(b:List D5)(p:List.length b=64):Y (Jd ((b,()),())) (λy=>List.length y.1.1=64):=by
 unfold Jd;refine Y.DZ (P:=λv=>List.length v.1=16) (R:=λ_=>False) (Y.loop (I:=λs=>0<=s.2.1/\s.2.1<=16/\(List.length s.1:Int)=s.2.1) (λs=>(16-s.2.1).toNat) (λs j=>?_) _ ⟨Int.le_refl _,by grind,rfl⟩) (λv d=>?_) (λ_ h=>h.elim)
 · obtain ⟨w,i,u⟩:=s;obtain ⟨f,e,g⟩:=j;dsimp only at f e g;unfold Jd.b0;refine Y.DY (λa=>?_) (λc=>Y.rl ?_)
   · have a:i<16:=Cp.1 a;have q:zJ .i64 (4:Int) i=4*i:=Ar (by omega) (by omega);have m:cM .i64 (zJ .i64 (4:Int) i) 1=4*i+1:=by grind[cM,zJ,ed]
     have n:cM .i64 (zJ .i64 (4:Int) i) 2=4*i+2:=by grind[cM,zJ,ed]
     have k:cM .i64 (zJ .i64 (4:Int) i) 3=4*i+3:=by grind[cM,zJ,ed]
     have l:cM .i64 i 1=i+1:=ed (by omega) (by omega);refine Y.gT (by grind) (by grind) λ_ _=>Y.ff rfl (Y.gT (by grind) (by grind) λ_ _=>Y.ff rfl (Y.gT (by grind) (by grind) λ_ _=>Y.ff rfl (Y.gT (by grind) (by grind) λ_ _=>Y.dE (by grind) (by decide) (by decide) (Y.l ?_))));show (0<=cM .i64 i 1/\cM .i64 i 1<=16/\(List.length (w++[_]):Int)=cM .i64 i 1)/\(16-cM .i64 i 1).toNat<(16-i).toNat;grind
   · have c:16<=i:=Au.1 c;grind
 · have d:List.length v.1=16:=d;refine Y.DZ (P:=λv=>List.length v.1=64) (R:=λ_=>False) (Y.loop (I:=λs=>16<=s.2.1/\s.2.1<=64/\(List.length s.1:Int)=s.2.1) (λs=>(64-s.2.1).toNat) (λs j=>?_) _ ⟨Int.le_refl _,by grind,by grind⟩) (λv d=>Y.mk d) (λ_ h=>h.elim);obtain ⟨w,i,u⟩:=s;obtain ⟨f,e,g⟩:=j;dsimp only at f e g;unfold Jd.b1;refine Y.DY (λa=>?_) (λc=>Y.rl ?_);· have a:i<64:=Cp.1 a;have m:gS .i64 i 15=i-15:=iz (by omega) (by omega);have n:gS .i64 i 2=i-2:=iz (by omega) (by omega);have k:gS .i64 i 16=i-16:=iz (by omega) (by omega);have o:gS .i64 i 7=i-7:=iz (by omega) (by omega);have l:cM .i64 i 1=i+1:=ed (by omega) (by omega);refine Y.Eb (by grind) (by grind) λ_ _=>Y.Eb (by grind) (by grind) λ_ _=>Y.bind (B3 _ _) λ_ _=>Y.bind (B3 _ _) λ_ _=>Y.ff rfl (Y.bind (B3 _ _) λ_ _=>Y.bind (B3 _ _) λ_ _=>Y.ff rfl (Y.Eb (by grind) (by grind) λ_ _=>Y.Eb (by grind) (by grind) λ_ _=>Y.dE (by grind) (by decide) (by decide) (Y.l ?_)));show (16<=cM .i64 i 1/\cM .i64 i 1<=64/\(List.length (w++[_]):Int)=cM .i64 i 1)/\(64-cM .i64 i 1).toNat<(64-i).toNat;grind
   · have c:64<=i:=Au.1 c;grind
theorem T7(h:List D3)(b:List D5)(k:List D3)(m:List.length h=8)(l:List.length b=64)(p:List.length k=64):Y (Je ((h,()),((b,()),((k,()),())))) (λy=>List.length y.1.1=8):=by
 unfold Je;refine Y.bind (T6 b l) λj g=>Y.dE (by grind) (by decide) (by decide) ?_;refine Y.DZ (P:=λv=>List.length v.1=8) (R:=λ_=>False) (Y.loop (I:=λs=>0<=s.2.1/\List.length s.1=8) (λs=>(64-s.2.1).toNat) (λs f=>?_) _ ⟨Int.le_refl _,m⟩) (λv d=>?_) (λ_ h=>h.elim)
 · obtain ⟨v,i,u⟩:=s;obtain ⟨e,c⟩:=f;dsimp only at e c;unfold Je.b0;refine Y.DY (λa=>?_) (λo=>Y.rl c);have a:i<64:=Cp.1 a;have n:cM .i64 i 1=i+1:=ed (by omega) (by omega);have q:(j.1.1).length=64:=g;refine Y.Eb (by decide) (by grind) λ_ _=>Y.bind (B3 _ _) λ_ _=>Y.bind (B3 _ _) λ_ _=>Y.bind (B3 _ _) λ_ _=>?_;refine Y.Eb (by decide) (by grind) λ_ _=>Y.Eb (by decide) (by grind) λ_ _=>Y.Eb (by decide) (by grind) λ_ _=>?_;refine Y.gT (by omega) (by grind) λ_ _=>Y.Eb (by omega) (by grind) λ_ _=>?_;refine Y.Eb (by decide) (by grind) λ_ _=>Y.bind (B3 _ _) λ_ _=>Y.bind (B3 _ _) λ_ _=>Y.bind (B3 _ _) λ_ _=>?_;refine Y.Eb (by decide) (by grind) λ_ _=>Y.Eb (by decide) (by grind) λ_ _=>Y.Eb (by decide) (by grind) λ_ _=>Y.Eb (by decide) (by grind) λ_ _=>Y.Eb (by decide) (by grind) λ_ _=>Y.Eb (by decide) (by grind) λ_ _=>Y.Eb (by decide) (by grind) λ_ _=>Y.Eb (by decide) (by grind) λ_ _=>Y.Eb (by decide) (by grind) λ_ _=>Y.l ⟨⟨?_,rfl⟩,?_⟩;· grind
   grind
 · have d:List.length v.1=8:=d;refine Y.DZ (P:=λv=>List.length v.2.1=8) (R:=λ_=>False) (Y.loop (I:=λs=>0<=s.1/\List.length s.2.1=8) (λs=>(8-s.1).toNat) (λs f=>?_) _ ⟨Int.le_refl _,d⟩) (λv d=>Y.mk d) (λ_ h=>h.elim);obtain ⟨i,v,u⟩:=s;obtain ⟨e,c⟩:=f;dsimp only at e c;unfold Je.b1;refine Y.DY (λa=>?_) (λo=>Y.rl c);have a:i<8:=Cp.1 a;have n:cM .i64 i 1=i+1:=ed (by omega) (by omega);refine Y.Eb (by omega) (by grind) λ_ _=>Y.gT (by omega) (by grind) λ_ _=>Y.Eb (by omega) (by grind) λ_ _=>Y.l ⟨⟨?_,?_⟩,?_⟩;· grind
   · grind
   grind
theorem RF(b:List D5)(p:List.length b<=1000000000):Y (Jc ((b,()),())) (λy=>List.length y.1.1%64=0/\List.length y.1.1<=1000000100):=by
 unfold Jc;refine Y.dE (by grind) (by decide) (by decide) (Y.dE (by show List.length ([]++b)+1<=_;grind) (by decide) (by decide) ?_);refine Y.DZ (P:=λv=>List.length v.1%64=56/\List.length v.1<=List.length b+65) (R:=λ_=>False) (Y.loop (I:=λs=>List.length s.1+(120-List.length s.1%64)%64<=List.length b+65) (λs=>(120-List.length s.1%64)%64) (λs a=>?_) _ ?_) (λv e=>?_) (λ_ h=>h.elim)
 · obtain⟨o,u⟩:=s;dsimp only at a;unfold Jc.b0;have t:ph (List.length o:Int) (64:Int)=((List.length o%64:Nat):Int):=rfl;refine Y.ff rfl (Y.DY (λf=>?_) (λj=>Y.rl ?_));· have f:((List.length o%64:Nat):Int)≠56:=CN.1 (by grind);refine Y.dE (by grind) (by decide) (by decide) (Y.l ?_);show (List.length (o++[_])+(120-List.length (o++[_])%64)%64<=List.length b+65)/\(120-List.length (o++[_])%64)%64<(120-List.length o%64)%64;grind
   · have j:((List.length o%64:Nat):Int)=56:=Cr.1 (by grind);grind
 · show List.length (([]++b)++[_])+(120-List.length (([]++b)++[_])%64)%64<=List.length b+65;grind
 · obtain⟨o,u⟩:=v;obtain⟨g,l⟩:=e;dsimp only at g l;refine Y.DZ (P:=λv=>List.length v.1=List.length o+8) (R:=λ_=>False) (Y.loop (I:=λs=>-8<=s.2.1/\8*(List.length s.1:Int)+s.2.1=8*(List.length o:Int)+56/\(List.length s.1)<=List.length o+8) (λs=>(s.2.1+8).toNat) (λs a=>?_) _ ⟨by grind,rfl,by grind⟩) (λv e=>Y.mk ?_) (λ_ h=>h.elim)
   · obtain ⟨q,k,u⟩:=s;obtain ⟨i,n,m⟩:=a;dsimp only at i n m;unfold Jc.b1;refine Y.DY (λc=>?_) (λd=>Y.rl ?_);· have c:0<=k:=Cq.1 c;have r:gS .i64 k 8=k-8:=iz (by omega) (by omega);refine Y.ff (zH _) (Y.dE (by grind) (by decide) (by decide) (Y.l ?_));show (-8<=gS .i64 k 8/\8*(List.length (q++[_]):Int)+gS .i64 k 8=8*(List.length o:Int)+56/\List.length (q++[_])<=List.length o+8)/\(gS .i64 k 8+8).toNat<(k+8).toNat;grind
     · have d:k<0:=CM.1 d;grind
   grind
theorem Ge(b:List D5)(w:List.length b<=1000000000):Y (Hy ((b,()),())) (λy=>y.1.1.size=32):=by
 unfold Hy;refine Y.bind (RF b w) λl d=>Y.bind (Y.of (Q:=λy=>List.length y.1.1=64) rfl rfl) λt m=>?_;have d:List.length l.1.1%64=0/\List.length l.1.1<=1000000100:=d;have m:List.length t.1.1=64:=m;generalize l.1.1=p at d;refine Y.DZ (P:=λv=>List.length v.1=8) (R:=λ_=>False) (Y.loop (I:=λs=>List.length s.1=8/\0<=s.2.1/\s.2.1%64=0/\s.2.1<=(List.length p:Int)/\s.2.2.1=p) (λs=>((List.length p:Int)-s.2.1).toNat) (λs j=>?_) _ ⟨rfl,Int.le_refl _,rfl,Int.natCast_nonneg _,rfl⟩) (λv f=>?_) (λ_ h=>h.elim);·obtain ⟨h,g,q,u⟩:=s;obtain ⟨c,n,k,x,rfl⟩:=j;dsimp only at c n k x d;unfold Hy.b0;refine Y.DY (λa=>?_) (λ_=>Y.rl c);have a:g<(List.length q:Int):=Cp.1 a;have e:cM .i64 g 64=g+64:=ed (by omega) (by omega);refine Y.tt (by unfold wq;grind) (Y.bind (T7 h _ t.1.1 c (by grind) m) λz A=>Y.l ?_);grind
 · have f:List.length v.1=8:=f;refine Y.DZ (P:=λv=>List.length v.1=32) (R:=λ_=>False) (Y.loop (I:=λs=>0<=s.2.1/\s.2.1<=8/\(List.length s.1:Int)=4*s.2.1) (λs=>(8-s.2.1).toNat) (λs j=>?_) _ ⟨Int.le_refl _,by grind,rfl⟩) (λv f=>Y.mk ((xZ _).trans f)) (λ_ h=>h.elim);obtain ⟨o,i,u⟩:=s;obtain ⟨c,n,k⟩:=j;dsimp only at c n k;unfold Hy.b1;refine Y.DY (λa=>?_) (λr=>Y.rl ?_);· have a:i<8:=Cp.1 a;have e:cM .i64 i 1=i+1:=ed (by omega) (by omega);refine Y.Eb (by omega) (by grind) λ_ _=>Y.ff rfl (Y.Eb (by omega) (by grind) λ_ _=>Y.ff rfl (Y.Eb (by omega) (by grind) λ_ _=>Y.ff rfl (Y.Eb (by omega) (by grind) λ_ _=>Y.dE (by grind) (by decide) (by decide) (Y.l ?_))));show (0<=cM .i64 i 1/\cM .i64 i 1<=8/\(List.length (o++[_,_,_,_]):Int)=4*cM .i64 i 1)/\(8-cM .i64 i 1).toNat<(8-i).toNat;grind
   · have r:8<=i:=Au.1 r;grind
theorem Gf(s:ByteArray)(a:s.size<=100000000):Y (Tk ((s,()),())) (λy=>y.1.1.size=32):=by unfold Tk;have e:List.length (eo s)=s.size:=ze s;refine Y.dE (by grind) (by decide) (by decide) (Y.bind (Ge _ ?_) λy h=>Y.mk h);exact Cs (n:=1) (m:=s.size) (Nat.le_refl _) (Nat.le_of_eq e) (by omega)
theorem Gg(a b:ByteArray)(g:a.size<=100000000)(f:b.size<=100000000):Y (Tl ((a,()),((b,()),()))) (λy=>y.1.1.size=32):=by unfold Tl;have e:List.length (eo a)=a.size:=ze a;have d:List.length (eo b)=b.size:=ze b;have c:(bV ([((1:Int),())]:List D5) (eo a)).length<=1+a.size:=Cs (n:=1) (m:=a.size) (Nat.le_refl _) (Nat.le_of_eq e) (Nat.le_refl _);refine Y.dE (by grind) (by decide) (by decide) (Y.dE (Nat.le_trans (Nat.add_le_add c (Nat.le_of_eq d)) (by omega)) (by decide) (by decide) (Y.bind (Ge _ ?_) λy h=>Y.mk h));exact Cs (n:=1+a.size) (m:=b.size) c (Nat.le_of_eq d) (by omega)
theorem WJ(n:Int)(g:2<=n)(i:n<=1000000):Y (MP ((n,()),())) (λy=>1<=y.1.1/\y.1.1<n):=by unfold MP;refine Y.DZ (P:=λv=>1<=v.1/\v.1<n) (R:=λ_=>False) (Y.loop (I:=λs=>1<=s.1/\s.1<n) (λs=>(n-s.1).toNat) (λs c=>?_) _ ⟨Int.le_refl _,by omega⟩) (λv d=>Y.mk d) (λ_ h=>h.elim);obtain ⟨v,u⟩:=s;obtain ⟨a,b⟩:=c;dsimp only at a b;unfold MP.b0;have e:zJ .i64 (2:Int) v=2*v:=Ar (by omega) (by omega);refine Y.DY (λf=>Y.l ?_) (λ_=>Y.rl ⟨a,b⟩);grind[zJ,dO,Cp]
theorem KO:∀(k:Nat)(l:List D9),List.length l<=k->List.length l<=1000->(∀s∈l,s.1.size<=100000000)->Y (Lg (k+1) ((l,()),())) (λy=>y.1.1.size=32)
 |k,l,c,o,i=>by
  show Y (Qz (Lg k) ((l,()),())) _;unfold Qz;refine Y.DY (λ_=>Y.bind (Ge _ (Nat.zero_le _)) λy h=>Y.mk h) (λe=>Y.DY (λa=>?_) (λa=>?_));·have a:(List.length l:Int)=1:=Cr.1 a;exact Y.bind (Y.gi (Q:=λx=>x∈l) (Int.le_refl _) (by grind) λ_ h=>h) λx m=>Y.bind (Gf x.1 (i x m)) λy h=>Y.mk h
  ·have e:(List.length l:Int)≠0:=CN.1 e;have a:(List.length l:Int)≠1:=CN.1 a;match k,c with
 |0,c=>omega|k+1,c=>
 refine Y.bind (WJ (List.length l:Int) (by omega) (by omega)) λb f=>?_;have f:1<=b.1.1/\b.1.1<(List.length l:Int):=f;have d:mX b.1.1 (List.length l)=true:=by unfold mX;grind
 refine Y.tt d (Y.bind (KO k _ ?_ ?_ ?_) λg n=>Y.tt d (Y.bind (KO k _ ?_ ?_ ?_) λj p=>Y.bind (Gg g.1.1 j.1.1 ?_ ?_) λy h=>Y.mk h));·grind
 ·grind
 ·grind
 ·grind
 ·grind
 ·grind
 ·omega
 omega
theorem Gh{A:Type}{c:Bool}{t e:Option A}{y:A}(h:(bif c then t else e)=some y):(c=true/\t=some y)\/(c=false/\e=some y):=by grind
theorem Ei{A B:Type}{o:Option A}{K:A->Option B}{y:B}(h:o.bind K=some y):∃a,o=some a/\K a=some y:=Option.bind_eq_some_iff.1 h
theorem KP:∀(k:Nat)(l:List D9)(y:(ByteArray×Unit)×Unit),List.length l<=1000->(∀s∈l,s.1.size<=100000000)->Lg k ((l,()),())=some y->y.1.1.size=32
 |0,l,y,_,_,h=>by cases h|k+1,l,y,p,f,h=>by
  change Qz (Lg k) ((l,()),())=some y at h;unfold Qz at h;rcases Gh h with⟨_,h⟩|⟨o,h⟩;·obtain⟨a,d,h⟩:=Ei h;have :=Y.get (Ge _ (Nat.zero_le _)) d;grind
  · rcases Gh h with⟨e,h⟩|⟨e,h⟩;· obtain⟨x,n,h⟩:=Ei h;obtain⟨a,d,h⟩:=Ei h;have e:(List.length l:Int)=1:=Cr.1 e;have m:x∈l:=Y.get (Y.gi (xs:=l) (i:=0) (Q:=λx=>x∈l) (Int.le_refl _) (by omega) λ_ h=>h) n;have :=Y.get (Gf x.1 (f x m)) d;grind
    · obtain⟨q,t,h⟩:=Ei h;rcases Gh h with⟨_,h⟩|⟨_,h⟩
      · obtain⟨a,d,h⟩:=Ei h;rcases Gh h with⟨_,h⟩|⟨_,h⟩;· obtain⟨b,j,h⟩:=Ei h;obtain⟨c,g,h⟩:=Ei h;have r:=KP k _ a (by grind) (λs h=>f s (List.mem_of_mem_drop (List.mem_of_mem_take h))) d;have u:=KP k _ b (by grind) (λs h=>f s (List.mem_of_mem_drop (List.mem_of_mem_take h))) j;have :=Y.get (Gg a.1.1 b.1.1 (by omega) (by omega)) g;grind
        grind
      grind
theorem RG(l:List D9)(a:List.length l<=1000)(b:∀s∈l,s.1.size<=100000000):Y (Tn ((l,()),())) (λy=>y.1.1.size<=32):=by unfold Tn;refine Y.DY (λ_=>Y.mk (Nat.zero_le _)) (λ_=>?_);obtain⟨y,c,_⟩:=KO (List.length l) l (Nat.le_refl _) a b;obtain⟨z,e⟩:=yh (R:=Lg) ⟨_,y,c⟩;obtain⟨k,d⟩:=oA e;have :=KP k l z a b d;simp_all[Y.bind,VK,D9,Y.of,Y.mk]
theorem aV8(n:Int)(h:0<=n):zL .i64 n 7=n/128:=by unfold zL;show n.fdiv 128=n/128;grind
theorem zl(b:List D5)(n:Int)(p:List.length b<=1000000000):Y (GL ((b,()),((n,()),()))) (λy=>List.length y.1.1<=List.length b+6):=by
 unfold GL;refine Y.dE (by grind) (by decide) (by decide) ?_;refine Y.DZ (P:=λv=>v.1<=1000000000) (R:=λ_=>False) (Y.DY (λ_=>Y.l (Int.le_refl _)) (λh=>Y.l (Au.1 h))) (λt g=>?_) (λ_ h=>h.elim);refine Y.DZ (P:=λv=>v.1<=1000000000/\-1000000000<=v.1) (R:=λ_=>False) (Y.DY (λ_=>Y.l ⟨by decide,Int.le_refl _⟩) (λh=>Y.l ⟨g,Au.1 h⟩)) (λq r=>?_) (λ_ h=>h.elim);refine Y.DZ (P:=λv=>0<=v.1/\v.1<=2000000000) (R:=λ_=>False) (Y.DY (λh=>Y.l ?_) (λh=>Y.l ?_)) (λl k=>?_) (λ_ h=>h.elim);·grind[dO,Cp,gS,zJ,Ar,iz]
 ·grind[dO,Au,zJ,Ar]
 · refine Y.DZ (P:=λv=>List.length v.1<=List.length b+5) (R:=λ_=>False) (Y.loop (I:=λs=>0<=s.2.1/\((List.length s.1<=List.length b/\s.2.1<=17179869184)\/(List.length s.1<=List.length b+1/\s.2.1<=134217728)\/(List.length s.1<=List.length b+2/\s.2.1<=1048576)\/(List.length s.1<=List.length b+3/\s.2.1<=8192)\/(List.length s.1<=List.length b+4/\s.2.1<=64))) (λs=>s.2.1.toNat) (λs i=>?_) _ ?_) (λv f=>?_) (λ_ h=>h.elim);· obtain⟨o,m,u⟩:=s;obtain⟨e,j⟩:=i;dsimp only at e j;unfold GL.b0;refine Y.DY (λd=>?_) (λ_=>Y.rl (by grind));have d:127<m:=Cp.1 d;refine Y.dE (by grind) (by decide) (by decide) (Y.ff rfl (Y.l ?_));show (0<=zL .i64 m 7/\((List.length (o++[_])<=List.length b/\zL .i64 m 7<=17179869184)\/(List.length (o++[_])<=List.length b+1/\zL .i64 m 7<=134217728)\/(List.length (o++[_])<=List.length b+2/\zL .i64 m 7<=1048576)\/(List.length (o++[_])<=List.length b+3/\zL .i64 m 7<=8192)\/(List.length (o++[_])<=List.length b+4/\zL .i64 m 7<=64)))/\(zL .i64 m 7).toNat<m.toNat;rw[aV8 m e,List.length_append];grind
   · obtain⟨a,c⟩:=k;refine⟨a,.inl ⟨?_,by grind⟩⟩;simp_all[D5,bV]
   · have f:List.length v.1<=List.length b+5:=f;refine Y.dE (by grind) (by decide) (by decide) (Y.mk ?_);simp_all[D5,bV]
theorem Pw(b:List D5)(s:ByteArray)(f:List.length b<=100000000)(d:s.size<=100000000):Y (Tj ((b,()),((s,()),()))) (λy=>List.length y.1.1<=List.length b+6+s.size):=by unfold Tj;refine Y.bind (zl b _ (by omega)) λc a=>?_;have a:List.length c.1.1<=List.length b+6:=a;have e:List.length (eo s)=s.size:=ze s;refine Y.dE (by grind) (by decide) (by decide) (Y.mk ?_);exact Cs (n:=List.length b+6) (m:=s.size) a (Nat.le_of_eq e) (Nat.le_refl _)
theorem T8(a:bF)(F:a.1.size<=1000000)(E:List.length a.2.2.2.2.1<=1048576):Y (MO (a,())) (λy=>y.1.1.size<=100000000):=by
 unfold MO;refine Y.bind (Pw [] a.1 (Nat.zero_le _) (by omega)) λc p=>?_;have p:List.length c.1.1<=0+6+a.1.size:=p;refine Y.bind (zl c.1.1 _ (by omega)) λj t=>?_;have t:List.length j.1.1<=List.length c.1.1+6:=t;refine Y.bind (zl j.1.1 _ (by omega)) λd l=>?_;have l:List.length d.1.1<=List.length j.1.1+6:=l;refine Y.bind (zl d.1.1 _ (by omega)) λf q=>?_;have q:List.length f.1.1<=List.length d.1.1+6:=q;refine Y.bind (zl f.1.1 _ (by omega)) λA m=>?_;have m:List.length A.1.1<=List.length f.1.1+6:=m;refine Y.DZ (P:=λv=>List.length v.1<=20000000) (R:=λ_=>False) (Y.loop (I:=λs=>0<=s.2.1/\s.2.1<=(List.length a.2.2.2.2.1:Int)/\(List.length s.1:Int)<=2000000+12*s.2.1) (λs=>((List.length a.2.2.2.2.1:Int)-s.2.1).toNat) (λs w=>?_) _ ⟨Int.le_refl _,Int.natCast_nonneg _,by grind⟩) (λv g=>Y.mk ?_) (λ_ h=>h.elim);·obtain ⟨o,i,u⟩:=s;obtain ⟨k,B,z⟩:=w;dsimp only at k B z;unfold MO.b0;refine Y.DY (λb=>?_) (λ_=>Y.rl (by grind));have b:i<(List.length a.2.2.2.2.1:Int):=Cp.1 b;have e:cM .i64 i 1=i+1:=ed (by omega) (by omega);refine Y.gT k b λx _=>Y.bind (zl o _ (by omega)) λn r=>Y.gT k b λD _=>?_;have r:List.length n.1.1<=List.length o+6:=r;refine Y.bind (zl n.1.1 _ (by omega)) λG C=>Y.l ?_;grind
 ·have g:List.length v.1<=20000000:=g;exact Nat.le_trans (Nat.le_of_eq (xZ v.1)) (Nat.le_trans g (by decide))
theorem FH{s:ByteArray}(h:fk s=true):s.size<=8:=by unfold fk at h;simp only[Bool.and_eq_true]at h;have :=h.2;simp only[Di,km,Bool.and_eq_true,decide_eq_true_eq]at this;omega
theorem Gi{x:fp}(h:bm x=true):∀a∈x.2.1,a.1.size<=8:=by unfold bm py at h;simp only[Bool.and_eq_true]at h;intro a b;obtain⟨i,c,rfl⟩:=List.getElem_of_mem b;have :=xJ h.2.1 i c;rw[Nat.zero_add]at this;unfold AS o0 at this;simp only[Bool.and_eq_true]at this;exact FH this.1.1
theorem Hi(L:fp)(k:(Ty.sl cz).Ok L.2.1):Y (Lh (L,())) (λy=>y.1.1.size<=32):=by unfold Lh;refine Y.eq (tv L k) ?_;cases g:bm L with|false=>exact Y.mk (Nat.zero_le _)|true=>obtain⟨r,l,_⟩:=n5 g;have m:=Gi g;refine Y.ff rfl (Y.DZ (P:=λv=>List.length v.1<=12/\∀s∈v.1,s.1.size<=100000000) (R:=λ_=>False) (Y.loop (I:=λv=>0<=v.2.1/\(List.length v.1:Int)<=v.2.1/\v.2.1<=(List.length L.2.1:Int)/\∀s∈v.1,s.1.size<=100000000) (λv=>((List.length L.2.1:Int)-v.2.1).toNat) (λv b=>?_) _ ⟨Int.le_refl _,Int.le_refl _,Int.natCast_nonneg _,λs n=>by cases n⟩) (λv b=>Y.bind (RG v.1 (by omega) b.2) λ_ h=>Y.mk h) (λ_ h=>h.elim));obtain ⟨o,i,u⟩:=v;obtain ⟨j,q,p,c⟩:=b;dsimp only at j q p c;unfold Lh.b0;refine Y.DY (λa=>?_) (λ_=>Y.rl ⟨by grind,c⟩);have a:i<(List.length L.2.1:Int):=Cp.1 a;have e:cM .i64 i 1=i+1:=ed (by omega) (by omega);refine Y.gT j a λx d=>Y.bind (T8 x (Nat.le_trans (m x d) (by decide)) (Nat.le_trans (l x d).1 (by decide))) λf t=>Y.dE (by grind) (by decide) (by decide) (Y.l ?_);show (0<=cM .i64 i 1/\(List.length (o++[f.1]):Int)<=cM .i64 i 1/\cM .i64 i 1<=(List.length L.2.1:Int)/\∀s∈o++[f.1],s.1.size<=100000000)/\((List.length L.2.1:Int)-cM .i64 i 1).toNat<((List.length L.2.1:Int)-i).toNat;grind
theorem JN{l:List ao}(h:il l)(a:Int):(List.length (pb l (ct l a))<=100001)/\∀x∈pb l (ct l a),0<=x.1/\x.1<(List.length l:Int):=by refine⟨by unfold pb;rw[List.length_map];grind[Ef],λx c=>?_⟩;unfold pb at c;obtain⟨b,d,rfl⟩:=List.mem_map.1 c;obtain⟨j,e,rfl⟩:=List.getElem_of_mem (k9 h a b d);have :=LJ h e;omega
theorem NZ(l:List ao)(b:Int)(a:(Ty.sl j7).Ok l):Y (Qw ((l,()),((b,()),()))) (λ_=>True):=by unfold Qw;exact Y.eq (M6 l a) (Y.DY (λ_=>Y.DY (λ_=>Y.mk trivial) (λ_=>Y.eq (th l b a.1) (Y.mk trivial))) (λ_=>Y.mk trivial))
theorem N0(l:List ao)(a:Int)(j:(Ty.sl j7).Ok l)(h:il l):Y (Le ((l,()),((a,()),()))) (λ_=>True):=by unfold Le;obtain⟨k,d⟩:=JN h a;refine Y.eq (Ga l a j h) ?_;generalize pb l (ct l a)=g at k d;refine Y.DZ (P:=λ_=>True) (R:=λ_=>True) (Y.loop (I:=λv=>0<=v.1) (λv=>((List.length g:Int)-v.1).toNat) (λv c=>?_) _ (Int.le_refl _)) (λv _=>Y.mk trivial) (λ_ _=>Y.mk trivial);obtain⟨i,u⟩:=v;have c:0<=i:=c;unfold Le.b0;refine Y.DY (λb=>?_) (λ_=>Y.rl trivial);have b:i<(List.length g:Int):=Cp.1 b;have e:cM .i64 i 1=i+1:=ed (by omega) (by omega);refine Y.Eb c b λx f=>Y.gT (d x f).1 (d x f).2 λ_ _=>Y.DY (λ_=>Y.rr trivial) (λ_=>Y.l ?_);grind
theorem T9{l:List ao}(a:(Ty.sl j7).Ok l){b:ao}(c:b∈l):(Ty.sl i3).Ok (n9 b):=(Ae a.2 c).2.2.2.2.2.2.2.2.2.2.1
theorem Zp(L:fp)(l:List ao)(a:Int)(s:(Ty.sl cz).Ok L.2.1)(p:fb L.2.1)(k:(Ty.sl j7).Ok l)(h:il l):Y (Lf (L,((l,()),((a,()),())))) (λy=>(Ty.sl cz).Ok y.1.2.1/\fb y.1.2.1):=by
 unfold Lf;obtain⟨A,f⟩:=JN h a;refine Y.eq (oi L p) (Y.eq (Ga l a k h) ?_);generalize pb l (ct l a)=m at A f;refine Y.DZ (P:=λv=>(Ty.sl cz).Ok v.2.2.1/\fb v.2.2.1) (R:=λ_=>False) (Y.loop (I:=λv=>0<=v.1/\(Ty.sl cz).Ok v.2.2.1/\fb v.2.2.1) (λv=>((List.length m:Int)-v.1).toNat) (λv g=>?_) _ ⟨Int.le_refl _,s,p⟩) (λv g=>Y.mk g) (λ_ h=>h.elim);obtain ⟨i,r,z,u⟩:=v;obtain ⟨o,j,d⟩:=g;dsimp only at o j d;unfold Lf.b0;refine Y.DY (λc=>?_) (λ_=>Y.rl ⟨j,d⟩);have c:i<(List.length m:Int):=Cp.1 c;have e:cM .i64 i 1=i+1:=ed (by omega) (by omega);refine Y.Eb o c λx n=>Y.gT (f x n).1 (f x n).2 λb q=>?_;obtain ⟨w,t,B⟩:=C4 (r,(z,())) (n9 b) j d (T9 k q);refine Y.eq w (Y.l ⟨⟨?_,t,B⟩,?_⟩);·grind
 grind
theorem RJ(L:fp)(l:List ao)(b:ao)(n:(Ty.sl cz).Ok L.2.1)(j:fb L.2.1)(a:(Ty.sl j7).Ok l)(h:il l)(c:j7.Ok b):Y (OS (L,((l,()),(b,())))) (λ_=>True):=by unfold OS;refine Y.bind (NZ l _ a) λp _=>Y.DY (λ_=>Y.mk trivial) (λ_=>Y.bind (N0 l _ a h) λq _=>Y.DY (λ_=>Y.DY (λ_=>Y.DY (λ_=>Y.DY (λ_=>Y.mk trivial) (λ_=>Y.mk trivial)) (λ_=>Y.mk trivial)) (λ_=>Y.mk trivial)) (λ_=>?_));refine Y.bind (Zp L l _ n j a h) λk e=>?_;obtain⟨g,f,m⟩:=C4 k.1 (n9 b) e.1 e.2 c.2.2.2.2.2.2.2.2.2.2.1;refine Y.eq g (Y.eq (Ga l _ a h) (Y.DY (λ_=>Y.mk trivial) (λ_=>Y.DY (λ_=>Y.mk trivial) (λ_=>Y.DY (λ_=>Y.DY (λ_=>Y.mk trivial) (λ_=>Y.mk trivial)) (λ_=>?_)))));obtain⟨i,d,o⟩:=F8 _ f m;refine Y.eq i (Y.eq (KD _ o.1 d) (Y.eq (NJ _ _ c.2.2.2.2.2.2.2.2.2.2.2.2.1.1) (Y.DY (λ_=>Y.bind (Hi _ d) λ_ _=>Y.mk trivial) (λ_=>Y.mk trivial))))
theorem G3:∀(N:Nat)(xs:List Int),xs.Nodup->(∀x∈xs,0<=x/\x<(N:Int))->xs.length<=N
 |0,xs,_,h=>by cases xs with|nil=>grind|cons x r=>have :=h x (List.mem_cons_self ..);omega
 |N+1,xs,a,h=>by have b:=G3 N (xs.erase (N:Int)) (a.erase _) (λx c=>by grind);grind
structure Qe(d:List D3):Prop where
 nd:(d.map (λx=>x.1)).Nodup
 rg:∀x∈d,0<=x.1/\x.1<=100000
theorem Qe.K4{d:List D3}(h:Qe d):d.length<=100001:=by have :=G3 100001 (d.map (λx=>x.1)) h.nd (λx b=>by obtain⟨y,a,rfl⟩:=List.mem_map.1 b;have :=h.rg y a;omega);grind
theorem Qe.WK{d:List D3}(h:Qe d){c:Int}(l:0<=c/\c<=100000):Qe (sU d c):=by unfold sU;cases g:KJ d c with|true=>exact h|false=>
 refine⟨?_,λx k=>?_⟩;·show ((d++[(c,())]).map (λx=>x.1)).Nodup;rw[List.map_append,List.nodup_append];refine⟨h.nd,by simp,λa j b i=>?_⟩;obtain⟨y,m,rfl⟩:=List.mem_map.1 j;simp only[List.map_cons,List.map_nil,List.mem_singleton]at i;subst i;intro e;unfold KJ at g;rw[List.any_eq_false]at g;grind[gA]
 · rcases List.mem_append.1 k with f|f;· exact h.rg x f
   grind
theorem Qe.Zq:∀(a d:List D3),Qe d->(∀x∈a,0<=x.1/\x.1<=100000)->Qe (i4 d a)|[],d,h,_=>h|x::r,d,h,b=>Qe.Zq r (sU d x.1) (h.WK (b x (List.mem_cons_self ..))) (λy c=>b y (List.mem_cons_of_mem _ c))
structure NV(E P:Nat)(n:a0):Prop where
 h:I4 n
 Gj:bm (gq n)=true
 ep:n.2.1=n.2.2.1
 le:n.2.1<=(E:Int)vo:(ei n).length<=1000
 go:(eD n).length<=1000
 dn:Qe (nx n)pa:(bk n).length<=P
theorem NV.up{E P b a:Nat}{n:a0}(h:NV E P n)(d:E<=b)(c:P<=a):NV b a n:=⟨h.h,h.Gj,h.ep,by have :=h.le;omega,h.vo,h.go,h.dn,Nat.le_trans h.pa c⟩
structure Iv(n m:a0):Prop where
 nm:m.1=n.1
 ca:(m.2.1=n.2.1/\fr m=fr n/\bb m=bb n)\/n.2.1<m.2.1
theorem Iv.gj(n:a0):Iv n n:=⟨rfl,by grind⟩
theorem Ni(E P:Nat)(n:a0)(q:j8)(c:NV E P n)(s:FP q)(γ:E<900)(ε:P<800000):NV (E+1) (P+1) (ks n q)/\Iv n (ks n q):=by have h:=c.h;have J:=c.Gj;unfold ks;cases Y:gA (dc (ar n) q) (-1) with|true=>exact⟨c.up (Nat.le_succ _) (Nat.le_succ _),Iv.gj n⟩|false=>
 show NV (E+1) (P+1) (wS n (dc (ar n) q) q)/\Iv n (wS n (dc (ar n) q) q);generalize dc (ar n) q=a;have m:=h.ok.kB;have t:∀b∈ik (ct (ar n) a),(Ty.sl i3).Ok (n9 b):=λb k=>(show En b from Ae m.2 (k9 h.t a b (y0 k))).EJ;have r:=Gb (ik (ct (ar n) a)) (gq n) h.ok.base h.GZ t;have N:=G2 (ik (ct (ar n) a)) (gq n) h.ok.base h.GZ t J;have G:=Iu (ik (ct (ar n) a)) (gq n) h.ok.base h.GZ t;have O:(Ty.sl e3).Ok (nx n):=h.ok.2.2.2.2.2.2.2.2.2.2.2.2.2.2.2.2.2.1;have M:∀x∈ic (ik (ct (ar n) a)),e3.Ok x:=λx f=>by obtain⟨b,k,rfl⟩:=List.mem_map.1 f;exact⟨(show En b from Ae m.2 (k9 h.t a b (y0 k))).1,trivial⟩
 have w:Qe (i4 (nx n) (ic (ik (ct (ar n) a)))):=Qe.Zq _ _ c.dn (λx f=>by obtain⟨b,k,rfl⟩:=List.mem_map.1 f;exact h.t.nn b (k9 h.t a b (y0 k)));have j:=w.K4;have F:(Ty.sl e3).Ok (i4 (nx n) (ic (ik (ct (ar n) a)))):=Dk (Nat.le_trans j (by decide)) (LQ _ _ (λx f=>Ae O.2 f) M);have v:(yr (l9 n) (nr (gq n) (ik (ct (ar n) a)))).Sublist (l9 n):=List.filter_sublist;have A:(Ty.sl i3).Ok (yr (l9 n) (nr (gq n) (ik (ct (ar n) a)))):=Dk (Nat.le_trans v.length_le h.ok.ki.1) (λy e=>Ae h.ok.ki.2 (v.subset e));have l:=h.l;unfold wS;rw[HL];generalize X:nr (gq n) (ik (ct (ar n) a))=g at*;generalize Z:i4 (nx n) (ic (ik (ct (ar n) a)))=d at*;generalize C:yr (l9 n) g=U at*;have D:U.length<=(l9 n).length:=v.length_le
 cases V:(ct (ar n) a).find? (λb=>fi b) with|none=>
 show NV (E+1) (P+1) (NO n d (yr (l9 n) g))/\Iv n (NO n d (yr (l9 n) g));rw[C];refine⟨⟨⟨⟨h.ok.1,h.ok.2.1,h.ok.2.2.1,h.ok.2.2.2.1,h.ok.2.2.2.2.1,h.ok.2.2.2.2.2.1,h.ok.2.2.2.2.2.2.1,h.ok.2.2.2.2.2.2.2.1,h.ok.2.2.2.2.2.2.2.2.1,h.ok.2.2.2.2.2.2.2.2.2.1,h.ok.2.2.2.2.2.2.2.2.2.2.1,h.ok.2.2.2.2.2.2.2.2.2.2.2.1,h.ok.2.2.2.2.2.2.2.2.2.2.2.2.1,h.ok.2.2.2.2.2.2.2.2.2.2.2.2.2.1,h.ok.2.2.2.2.2.2.2.2.2.2.2.2.2.2.1,h.ok.2.2.2.2.2.2.2.2.2.2.2.2.2.2.2.1,h.ok.2.2.2.2.2.2.2.2.2.2.2.2.2.2.2.2.1,F,A,h.ok.2.2.2.2.2.2.2.2.2.2.2.2.2.2.2.2.2.2.2⟩,?_,h.t,Nat.le_trans j (by decide),h.p⟩,J,c.ep,?_,c.vo,c.go,w,Nat.le_trans c.pa (Nat.le_succ _)⟩,⟨rfl,.inl ⟨rfl,rfl,rfl⟩⟩⟩;·exact ⟨l.1,l.2.1,l.2.2.1,l.2.2.2.1,l.2.2.2.2.1,l.2.2.2.2.2.1,l.2.2.2.2.2.2.1,l.2.2.2.2.2.2.2.1,l.2.2.2.2.2.2.2.2.1,Nat.le_trans j (by decide),Nat.le_trans D l.2.2.2.2.2.2.2.2.2.2.1,l.2.2.2.2.2.2.2.2.2.2.2.1,l.2.2.2.2.2.2.2.2.2.2.2.2⟩
 ·have :=c.le;show n.2.1<=((E+1 :Nat):Int);omega|some b=>
 have H:b∈ar n:=k9 h.t a b (List.mem_of_find?_eq_some V);have S:En b:=Ae m.2 H;obtain ⟨_,T,R⟩:=F8 g r.1 r.2;have α:=c.le;have β:=c.ep;have G:g.1=n.2.2.1:=G;obtain ⟨δ,z⟩:=It g r.1 r.2 N (by omega);have B:=WH z;have u:=Iq h.t q.2.1;have I:=u.length_le;have Q:(ar n).length<=400:=h.t.K4;have W:Hr.Ok (B2 n q):=⟨h.ok.2.1,Dk (Nat.le_trans I m.1) (λy e=>Ae m.2 (u.subset e)),s.i1,s.i2,s.ok,trivial⟩;have K:=h.ok.2.2.2.2.2.2.2.2.2.2.2.2.2.2.2.2.2.2.2.1;have i:=c.pa;have o:(bk n++[B2 n q]).length<=P+1:=by grind
 have L:(Ty.sl Hr).Ok (bk n++[B2 n q]):=Dk (Nat.le_trans o (Nat.le_trans (show P+1<=800000 by omega) (by decide))) (λy e=>by
 rcases List.mem_append.1 e with e|e;·exact Ae K.2 e
 ·rw[List.mem_singleton.1 e];omega);show NV (E+1) (P+1) (Rn n (k0 g) (j9 b) d (yr (l9 n) g) (bk n++[B2 n q]))/\Iv n (Rn n (k0 g) (j9 b) d (yr (l9 n) g) (bk n++[B2 n q]));rw[C];refine ⟨⟨⟨⟨h.ok.1,B,B,T,S.next,CK,rfl,rfl,rfl,rfl,CK,rfl,CK,CK,rfl,CK,CK,F,A,L,trivial⟩,?_,JI rfl,Nat.le_trans j (by decide),Nat.le_trans o (show P+1<=800000 by omega)⟩,z,rfl,?_,Nat.zero_le _,Nat.zero_le _,w,o⟩,⟨rfl,.inr ?_⟩⟩
 · refine ⟨R,(h.bl b H).2.2.2.2,Nat.zero_le _,(λx f=>by cases f),Nat.zero_le _,Nat.zero_le _,Nat.zero_le _,Nat.zero_le _,Nat.zero_le _,Nat.le_trans j (by decide),Nat.le_trans D l.2.2.2.2.2.2.2.2.2.2.1,Nat.le_trans o (Nat.le_trans (show P+1<=800000 by omega) (by decide)),λp i=>?_⟩;rcases List.mem_append.1 i with i|i;· exact l.2.2.2.2.2.2.2.2.2.2.2.2 p i
   · rw[List.mem_singleton.1 i];exact ⟨Nat.le_trans I (Nat.le_trans Q (by decide)),λy e=>h.bl y (u.subset e),s.w⟩
 · show (k0 g).1<=((E+1 :Nat):Int);omega
 · show n.2.1<(k0 g).1;omega
theorem Iv.trans{a b c:a0}(h:Iv a b)(k:Iv b c):Iv a c:=by
 refine⟨k.nm.trans h.nm,?_⟩;rcases h.ca with⟨e,g,j⟩|e
 · rcases k.ca with⟨d,f,i⟩|d;· grind
   omega
 · rcases k.ca with⟨d,_,_⟩|d;· omega
   omega
theorem G4(E P:Nat)(n:a0)(q:j8)(a:NV E P n)(c:FP q)(g:E<900)(f:P<800000):NV (E+1) (P+1) (df n q)/\Iv n (df n q):=by have d:NV E P (ma n q):=⟨Il a.h c,a.Gj,a.ep,a.le,a.vo,a.go,a.dn,a.pa⟩;obtain⟨e,h⟩:=Ni E P (ma n q) q d c g f;exact⟨e,Iv.trans (b:=ma n q) ⟨rfl,.inl ⟨rfl,rfl,rfl⟩⟩ h⟩
theorem RK(E P:Nat)(n:a0)(t:sM)(a:NV E P n)(c:NP t):NV E P (KK n t)/\Iv n (KK n t):=by have h:=a.h;have l:=h.l;have b:=WE (h.ok.Qd h.l) c;refine⟨⟨⟨Rq h.ok (Ru h.round) b,?_,h.t,h.d,h.p⟩,a.Gj,a.ep,a.le,a.vo,a.go,a.dn,a.pa⟩,⟨rfl,.inl ⟨rfl,rfl,rfl⟩⟩⟩;exact ⟨l.1,l.2.1,l.2.2.1,l.2.2.2.1,l.2.2.2.2.1,b.w,b.wh,l.2.2.2.2.2.2.2.1,l.2.2.2.2.2.2.2.2.1,l.2.2.2.2.2.2.2.2.2.1,l.2.2.2.2.2.2.2.2.2.2.1,l.2.2.2.2.2.2.2.2.2.2.2.1,l.2.2.2.2.2.2.2.2.2.2.2.2⟩
theorem Iw{E P:Nat}{n:a0}(a:NV E P n){t:List ao}(b:il t)(e:(Ty.sl j7).Ok t)(f:∀c∈t,dT c):NV E P (kA n t):=by have h:=a.h;have l:=h.l;have d:=b.K4;refine⟨⟨Nc h.ok e,?_,b,h.d,h.p⟩,a.Gj,a.ep,a.le,a.vo,a.go,a.dn,a.pa⟩;exact⟨l.1,l.2.1,Nat.le_trans d (by decide),f,l.2.2.2.2.1,l.2.2.2.2.2.1,l.2.2.2.2.2.2.1,l.2.2.2.2.2.2.2.1,l.2.2.2.2.2.2.2.2.1,l.2.2.2.2.2.2.2.2.2.1,l.2.2.2.2.2.2.2.2.2.2.1,l.2.2.2.2.2.2.2.2.2.2.2.1,l.2.2.2.2.2.2.2.2.2.2.2.2⟩
theorem En.D7{b:ao}(h:j7.Ok b)(l:dT b):FP (ia b):=⟨h.2.2.2.2.1,h.2.2.2.2.2.1,h.2.2.2.2.2.2.1,l.1⟩
theorem En.Qd{b:ao}(h:j7.Ok b)(l:dT b):NP (o8 b):=⟨h.2.2.2.2.2.2.2.1,h.2.2.2.2.2.2.2.2.1,h.2.2.2.2.2.2.2.2.2.1,l.2.1,l.2.2.1⟩
theorem NV.yN{E P a:Nat}{n:a0}(h:NV E P n)(b:n.2.1<=(a:Int)):NV a P n:=⟨h.h,h.Gj,h.ep,b,h.vo,h.go,h.dn,h.pa⟩
theorem RL{E P:Nat}{n:a0}(a:NV E P n){b:List tb}(d:(Ty.sl Hq).Ok b)(c:b.length<=1000):NV E P (C5 n b):=by have h:=a.h;have l:=h.l;refine⟨⟨Rt h.ok d,?_,h.t,h.d,h.p⟩,a.Gj,a.ep,a.le,c,a.go,a.dn,a.pa⟩;exact⟨l.1,l.2.1,l.2.2.1,l.2.2.2.1,l.2.2.2.2.1,l.2.2.2.2.2.1,l.2.2.2.2.2.2.1,Nat.le_trans c (by decide),l.2.2.2.2.2.2.2.2.1,l.2.2.2.2.2.2.2.2.2.1,l.2.2.2.2.2.2.2.2.2.2.1,l.2.2.2.2.2.2.2.2.2.2.2.1,l.2.2.2.2.2.2.2.2.2.2.2.2⟩
def oj(l:List ds)(r:Int):ByteArray:=bif gA (l.length:Int) 0 then⟨#[]⟩else bif dO r 0 then⟨#[]⟩else match l[(ph r (l.length:Int)).toNat]? with|some v=>v.1|none=>⟨#[]⟩
theorem sm(l:List ds)(r:Int):Kj ((l,()),((r,()),()))=some ((oj l r,()),()):=by unfold Kj oj;cases b:gA (l.length:Int) 0 with|true=>grind|false=>refine uN rfl ?_;cases c:dO r 0 with|true=>grind|false=>refine uN rfl ?_;have d:(List.length l:Int)≠0:=CN.1 b;have a:0<=r:=Au.1 c;have e:=Co (x:=r) (n:=(List.length l:Int)) a (by omega);simp_all[uN,ds,bK,ph,bw,cB]
def JO(t:sM):Int:=List.foldl (λ(n:Int)(x:D3)=>bif dO n x.1 then x.1 else n) 0 t.2.2.1
theorem RM(t:sM)(b:Al (List.length t.2.2.1)):GN (t,())=some (I1 (JO t)):=by have c:=AJ (S:=Int×(Int×Unit)) t.2.2.1 (λ(n:Int)(x:D3)=>bif dO n x.1 then x.1 else n) (f:=GN.b0 (t,())) (λs k=>(s,(k,()))) (λs=>Sum.inl (s,((List.length t.2.2.1:Int),()))) 0 (λk a s=>by unfold GN.b0;refine uL (Int.ofNat_lt.2 a) (bw (cB a) ?_);rw[<-wG a b];cases h:dO s (t.2.2.1)[k].1 with|true=>exact dd rfl (bw (cB a) rfl)|false=>grind) (λs=>by unfold GN.b0;exact uM (Int.le_refl _) rfl);unfold GN;exact bw c rfl
def lv(b:ao):Bool:=(gA (ia b).1 (gS .i64 b.2.2.1 1)&&rf (o8 b))||(gA (o8 b).1 (gS .i64 b.2.2.1 1)&&(dO 0 (o8 b).1&&km (JO (o8 b)) (ia b).1))
theorem FI(b:ao)(e:dT b):Lj (b,())=some (B1 (lv b)):=by have f:Al (List.length (o8 b).2.2.1):=e.2.2.1.l;have c:(bif gA (o8 b).1 (gS .i64 b.2.2.1 1)then bif dO 0 (o8 b).1 then (GN (o8 b,())).bind (λy=>some (B1 (km y.1.1 (ia b).1)))else some (B1 false)else some (B1 false))=some (B1 (gA (o8 b).1 (gS .i64 b.2.2.1 1)&&(dO 0 (o8 b).1&&km (JO (o8 b)) (ia b).1))):=Dy (Dy (bw (RM _ f) rfl));unfold Lj lv;cases a:gA (ia b).1 (gS .i64 b.2.2.1 1) with|false=>exact Eq.trans (bw (uN a rfl) c) rfl|true=>cases d:rf (o8 b) with|false=>exact Eq.trans (bw (dd a (bw (EI (o8 b)) (uN d rfl))) c) rfl|true=>exact bw (dd a (bw (EI (o8 b)) (dd d rfl))) rfl
noncomputable def Ix(L:fp)(l:List ao)(b:ao):Bool:=((OS (L,((l,()),(b,())))).map (λy=>y.1.1)).getD false
theorem N1(L:fp)(l:List ao)(b:ao)(f:(Ty.sl cz).Ok L.2.1)(d:fb L.2.1)(a:(Ty.sl j7).Ok l)(h:il l)(c:j7.Ok b):OS (L,((l,()),(b,())))=some (B1 (Ix L l b)):=by obtain⟨y,e,_⟩:=RJ L l b f d a h c;unfold Ix;grind
def qm(l:List ao)(b:ao):List ao:=l.filter (λc=>dO c.1 b.1)++b::l.filter (λc=>!dO c.1 b.1)
def JP(l:List ao)(b:ao):Bool:=dO (m9 l b.1) 0&&Fi (qm l b)
theorem zs{l:List ao}{b c:ao}:c∈qm l b↔c∈l\/c=b:=by unfold qm;grind
theorem LR(l:List ao)(b:ao):(qm l b).length=l.length+1:=by
 unfold qm;have :∀l:List ao,(l.filter (λc=>dO c.1 b.1)).length+(l.filter (λc=>!dO c.1 b.1)).length=l.length:=by intro l;induction l with|nil=>rfl|cons c r a=>grind
 grind
theorem Iy{p s:List ao}{b:ao}(d:∀c∈p,c.1<b.1)(e:∀c∈s,b.1<c.1):qm (p++s) b=p++b::s:=by
 unfold qm;have f:(p++s).filter (λc=>dO c.1 b.1)=p:=by rw[List.filter_append,List.filter_eq_self.2 (λc a=>Cp.2 (d c a)),List.filter_eq_nil_iff.2 (λc a=>by rw[Au.2 (Int.le_of_lt (e c a))];simp),List.append_nil]
 have g:(p++s).filter (λc=>!dO c.1 b.1)=s:=by rw[List.filter_append,List.filter_eq_nil_iff.2 (λc a=>by grind),List.nil_append,List.filter_eq_self.2 (λc a=>by grind)]
 grind
theorem N2(l:List ao)(b:ao)(o:(Ty.sl j7).Ok l)(h:il l)(M:∀c∈l,dT c)(α:j7.Ok b)(I:dT b):Fz ((l,()),(b,()))=some ((bif JP l b then qm l b else l,()),((JP l b,()),())):=by
 have w:=h.K4;have C:W1 l.length:=by omega
 have K:=wb l C M;unfold Fz JP;refine bw (th l b.1 o.1) ?_;rcases lb h b.1 with⟨_,q,G⟩|⟨c,f,β,_,u,_⟩
 · have A:dO (m9 l b.1) 0=true:=by rw[q];rfl
   refine uN (by show km 0 (m9 l b.1)=false;rw[q];rfl) (bw K (bw (GS b I) (Cm (by grind) (by decide) (by decide) ?_)));have E:∀(p s:List ao),l=p++s->(∀c∈s,b.1<c.1)->∃k,aR (Fz.b0 ((l,()),(b,()))) ((p.length:Int),(p++b::s,()))=some (Sum.inl (k,(qm l b,()))):=by intro p;induction Q:p.length generalizing p with|zero=>intro s e m;have :p=[]:=List.length_eq_zero_iff.1 Q;subst this;refine⟨0,cS ?_⟩;unfold Fz.b0;refine uN rfl ?_;rw[e,Iy (p:=[]) (λc f=>by cases f) m];rfl|succ n ε=>
    intro s e m;rcases List.eq_nil_or_concat p with rfl|⟨a,z,rfl⟩;· grind
    · have j:a.length=n:=by grind
      have T:z∈l:=by grind
      have Y:z.1≠b.1:=G z T;have v:gS .i64 ((n+1:Nat):Int) 1=(n:Int):=by
       have :n+1<=l.length:=by grind
       grind[gS,iz]
      have d:∀(x:ao) (r:List ao),bK (a++x::r) (n:Int)=some x/\aC (a++x::r) (Int.toNat (n:Int))=some x:=λx r=>by simp_all[ao,bK,aC,A2,A3]
      have g:∀(x y:ao) (r:List ao),bK (a++x::y::r) ((n+1:Nat):Int)=some y/\aC (a++x::y::r) (Int.toNat ((n+1:Nat):Int))=some y:=λx y r=>by
       have :(a++x::y::r)[n+1]?=some y:=by rw[<-j];simp
       exact⟨A2 this,A3 (by omega)⟩
      have θ:a++[z]++b::s=a++z::b::s:=by simp
      have H:a.concat z++b::s=a++z::b::s:=by simp
      rw[H];by_cases D:b.1<z.1
      · have J:Fz.b0 ((l,()),(b,())) (((n+1:Nat):Int),(a++z::b::s,()))=some (.inl ((n:Int),(a++b::z::s,()))):=by
         unfold Fz.b0;refine dd (show dO 0 ((n+1:Nat):Int)=true from Cp.2 (by omega)) ?_;dsimp only;rw[v];refine bw (d z _).1 (bw (d z _).2 (dd (show dO b.1 z.1=true from Cp.2 D) ?_));refine bw (d z _).1 (bw (d z _).2 (bw (g z b _).1 (bw (g z b _).2 (bw (d z _).1 (bw (d z _).2 (bw rfl ?_))))));have N:List.set (a++z::b::s) (Int.toNat (n:Int)) b=a++b::b::s:=by rw[Int.toNat_natCast,<-j];simp
         rw[N];refine bw (g b b _).1 (bw (g b b _).2 (bw rfl ?_));have O:List.set (a++b::b::s) (Int.toNat ((n+1:Nat):Int)) z=a++b::z::s:=by rw[Int.toNat_natCast,<-j];simp
         rw[O]
        rw[de J];grind
      · refine⟨((n+1:Nat):Int),cS ?_⟩;unfold Fz.b0;refine dd (show dO 0 ((n+1:Nat):Int)=true from Cp.2 (by omega)) ?_;dsimp only;rw[v];refine bw (d z _).1 (bw (d z _).2 (uN (show dO b.1 z.1=false from Au.2 (by omega)) ?_));have W:qm l b=a++z::b::s:=by
         rw[e,show a.concat z++s=(a++[z])++s by simp,Iy (λc f=>?_) m];· simp
         · have Z:c∈a.concat z:=by grind
           obtain⟨i,γ,rfl⟩:=List.getElem_of_mem f;have X:i<n+1:=by grind
           have S:l=(a++[z])++s:=by grind
           have U:(a++[z]).length=n+1:=by grind
           have F:i<l.length:=by grind
           have B:n<l.length:=by grind
           have gi:l[i]=(a++[z])[i]:=by grind
           have δ:l[n]=z:=by
            have :l[n]?=some z:=by rw[S,<-j];simp
            grind
           rcases Nat.lt_or_ge i n with t|t;· have :=h.Wz i n F B t;grind
           grind
        grind
   obtain⟨k,R⟩:=E l [] (by simp) (λc f=>by cases f);have P:gS .i64 ((List.length (bV l [b]):Nat):Int) 1=(l.length:Int):=by show gS .i64 ((List.length (l++[b]):Nat):Int) 1=_;rw [List.length_append,iz]<;>simp<;>omega
   refine bw (y:=.inl (k,(qm l b,()))) ?_ ?_;· show aR (Fz.b0 ((l,()),(b,()))) (gS .i64 ((List.length (bV l [b]):Nat):Int) 1,(bV l [b],()))=_;rw [P];exact R
   · have L:(Ty.sl j7).Ok (qm l b):=Dk (Nat.le_trans (Nat.le_of_eq (LR l b)) (Nat.le_trans (Nat.succ_le_succ w) (by decide))) (λc f=>by
 rcases zs.1 f with h|h;· exact Ae o.2 h
 grind);refine bw (M6 _ L) ?_;grind
 · have V:km 0 (m9 l b.1)=true:=GY u;have A:dO (m9 l b.1) 0=false:=dD u;grind
theorem Fm{l:List ao}{q:j8}(h:dc l q≠-1):∃b∈l,b.1=q.2.1/\b.2.2.1=q.1/\∃p∈l,p.1=(ia b).2.1/\p.2.2.1=gS .i64 q.1 1/\p.1=dc l q:=by unfold dc at h⊢;cases a:l.find? (λb=>gA b.1 q.2.1)with|none=>grind|some b=>rw[a]at h;have g:=List.mem_of_find?_eq_some a;have f:=List.find?_some a;simp only[gA,decide_eq_true_eq]at f;dsimp only at h⊢;cases e:gA b.2.2.1 q.1 with|false=>grind|true=>rw[e]at h;have k:=Cr.1 e;cases c:l.find? (λz=>gA z.1 (ia b).2.1)with|none=>grind|some p=>rw[c]at h;have i:=List.mem_of_find?_eq_some c;have d:=List.find?_some c;simp only[gA,decide_eq_true_eq]at d;dsimp only at h⊢;cases j:gA p.2.2.1 (gS .i64 q.1 1)with|false=>grind|true=>exact⟨b,g,f,k,p,i,d,Cr.1 j,rfl⟩
theorem Hj:∀a:List ao,((∀b∈a,fi b=false)/\ik a=a/\a.find? (λb=>fi b)=none)\/∃p b r,a=p++b::r/\fi b=true/\(∀c∈p,fi c=false)/\ik a=p++[b]/\a.find? (λb=>fi b)=some b|[]=>.inl ⟨λb f=>(by cases f),rfl,rfl⟩|b::r=>by cases h:fi b with|true=>exact .inr ⟨[],b,r,rfl,h,λc d=>(by cases d),(by unfold ik;grind),(by grind)⟩|false=>
 have l:(b::r).find? (λb=>fi b)=r.find? (λb=>fi b):=List.find?_cons_of_neg (by simp[h]);have d:ik (b::r)=b::ik r:=by rw[ik,h];rfl
 rcases Hj r with ⟨e,g,i⟩|⟨p,c,s,e,g,i,k,j⟩;·grind
 grind
theorem w0(E P:Nat)(n:a0)(q:j8)(a:NV E P n)(y:E<900):(dc (ar n) q=-1/\ks n q=n)\/(dc (ar n) q≠-1/\(((∀b∈ct (ar n) (dc (ar n) q),fi b=false)/\ks n q=NO n (i4 (nx n) (ic (ct (ar n) (dc (ar n) q)))) (yr (l9 n) (nr (gq n) (ct (ar n) (dc (ar n) q)))))\/∃p b r,ct (ar n) (dc (ar n) q)=p++b::r/\fi b=true/\(∀c∈p,fi c=false)/\b∈ar n/\ks n q=Jt n q (nr (gq n) (p++[b])) (i4 (nx n) (ic (p++[b]))) b/\(k0 (nr (gq n) (p++[b]))).1=n.2.1+1)):=by have h:=a.h;cases g:gA (dc (ar n) q) (-1) with|true=>exact .inl ⟨Cr.1 g,by unfold ks;grind⟩|false=>
 refine .inr ⟨CN.1 g,?_⟩;have e:ks n q=wS n (dc (ar n) q) q:=by unfold ks;grind
 rw[e];generalize dc (ar n) q=f;have s:=h.ok.kB;unfold wS;rw[HL];rcases Hj (ct (ar n) f) with ⟨j,l,m⟩|⟨p,b,r,j,l,m,x,w⟩;·grind
 ·refine .inr ⟨p,b,r,j,l,m,k9 h.t f b (by grind),by grind,?_⟩;have d:∀c∈p++[b],(Ty.sl i3).Ok (n9 c):=λc v=>(show En c from Ae s.2 (k9 h.t f c (y0 (by grind)))).EJ;have k:=Gb (p++[b]) (gq n) h.ok.base h.GZ d;have o:=G2 (p++[b]) (gq n) h.ok.base h.GZ d a.Gj;have i:=Iu (p++[b]) (gq n) h.ok.base h.GZ d;have u:=a.le;have t:=a.ep;have i:(nr (gq n) (p++[b])).1=n.2.2.1:=i;have :=(It _ k.1 k.2 o (by omega)).1;omega
structure NW(n:a0):Prop where
 v:NV n.2.1.toNat n.2.1.toNat n
 e0:0<=n.2.1
 pa:((bk n).length:Int)=n.2.1
theorem NW.Qf{E P:Nat}{n:a0}(v:NV E P n)(a:0<=n.2.1)(b:((bk n).length:Int)=n.2.1):NW n:=⟨⟨v.h,v.Gj,v.ep,by omega,v.vo,v.go,v.dn,by omega⟩,a,b⟩
structure kj(n m:a0):Prop where
 a:Iv n m
 le:n.2.1<=m.2.1
 up:m.2.1<=n.2.1+1
theorem kj.gj(n:a0):kj n n:=⟨Iv.gj n,Int.le_refl _,by omega⟩
theorem kj.trans{a b c:a0}(h:kj a b)(k:kj b c)(d:b.2.1=a.2.1):kj a c:=⟨h.a.trans k.a,by have :=k.le;omega,by have :=k.up;omega⟩
theorem kj.KQ{a b c:a0}(h:kj a b)(k:kj b c)(d:c.2.1=b.2.1):kj a c:=⟨h.a.trans k.a,by have :=h.le;omega,by have :=h.up;omega⟩
theorem Nj(E P:Nat)(n:a0)(q:j8)(c:NV E P n)(a:E<900):((bk (ks n q)).length:Int)-(ks n q).2.1=((bk n).length:Int)-n.2.1:=by
 rcases w0 E P n q c a with⟨_,e⟩|⟨_,⟨_,e⟩|⟨p,b,r,_,_,_,_,e,m⟩⟩;·rw[e]
 ·rw[e];rfl
 ·rw[e];show ((bk n++[B2 n q]).length:Int)-(k0 (nr (gq n) (p++[b]))).1=_;grind
theorem Gk{E P:Nat}{n:a0}{q:j8}(a:NV E P n)(b:FP q):NV E P (ma n q):=⟨Il a.h b,a.Gj,a.ep,a.le,a.vo,a.go,a.dn,a.pa⟩
theorem zA{n:a0}{q:j8}(a:NW n)(f:FP q)(k:n.2.1<890):NW (df n q)/\kj n (df n q):=by
 have i:=a.e0;have b:n.2.1.toNat<900:=by omega
 obtain⟨c,d⟩:=G4 n.2.1.toNat n.2.1.toNat n q a.v f b (by omega);have l:((bk (df n q)).length:Int)-(df n q).2.1=((bk n).length:Int)-n.2.1:=Nj n.2.1.toNat n.2.1.toNat (ma n q) q (Gk a.v f) b;have j:=c.le;have h:=a.pa;have g:n.2.1<=(df n q).2.1:=by rcases d.ca with⟨e,_⟩|e<;>omega
 exact⟨NW.Qf c (by omega) (by omega),d,g,by omega⟩
theorem RN{n:a0}{t:sM}(a:NW n)(d:NP t):NW (KK n t)/\kj n (KK n t)/\(KK n t).2.1=n.2.1:=by obtain⟨b,c⟩:=RK _ _ n t a.v d;exact⟨NW.Qf b a.e0 a.pa,⟨c,Int.le_refl _,(by show n.2.1<=n.2.1+1;omega)⟩,rfl⟩
noncomputable def p7(n:a0)(b:ao):Bool:=hu b&&(gA b.2.1 n.2.1&&(ko b.2.2.2.1 (oj (bb n) b.2.2.1)&&(uf (bb n) (ia b)&&(FO (bb n) (o8 b)&&(lv b&&(Ix (gq n) (ar n) b&&JP (ar n) b))))))
noncomputable def n8(n:a0)(b:ao):a0:=df (kA n (qm (ar n) b)) (ia b)
noncomputable def j4(n:a0)(b:ao):a0:=bif gA (n8 n b).2.1 n.2.1 then KK (n8 n b) (o8 b)else n8 n b
noncomputable def A6(n:a0)(b:ao):a0:=bif gA (j4 n b).2.1 n.2.1&&gA (bx (j4 n b)).2.1 b.1 then df (j4 n b) (bx (j4 n b))else j4 n b
noncomputable def cf(n:a0)(b:ao):a0:=bif p7 n b then A6 n b else n
theorem Ub{l:List ao}{b:ao}(d:(Ty.sl j7).Ok l)(e:l.length<=400)(f:j7.Ok b):(Ty.sl j7).Ok (qm l b):=Dk (Nat.le_trans (Nat.le_of_eq (LR l b)) (Nat.le_trans (Nat.succ_le_succ e) (by decide))) (λc a=>by
 rcases zs.1 a with h|h;·exact Ae d.2 h
 grind)
structure Zs(n:a0)(b:ao):Prop where
 kp:hu b=true
 ep:b.2.1=n.2.1
 by':ko b.2.2.2.1 (oj (bb n) b.2.2.1)=true
 qc:uf (bb n) (ia b)=true
 tc:FO (bb n) (o8 b)=true
 fo:lv b=true
 bo:Ix (gq n) (ar n) b=true
 Xs:∀c∈ar n,c.1≠b.1
 tr:Fi (qm (ar n) b)=true
theorem N3{n:a0}{b:ao}(g:il (ar n))(h:p7 n b=true):Zs n b:=by unfold p7 at h;simp only[Bool.and_eq_true]at h;obtain⟨d,j,o,l,i,m,k,a⟩:=h;unfold JP at a;simp only[Bool.and_eq_true]at a;refine⟨d,Cr.1 j,o,l,i,m,k,λc f e=>?_,a.2⟩;have :=(Ee g f).2;grind
theorem EO{n:a0}{b:ao}(a:NW n)(e:j7.Ok b)(g:dT b)(m:n.2.1<890)(k:p7 n b=true):NW (kA n (qm (ar n) b))/\NW (n8 n b)/\kj n (n8 n b):=by
 have l:=N3 a.v.h.t k;have i:NV n.2.1.toNat n.2.1.toNat (kA n (qm (ar n) b)):=Iw a.v (JI l.tr) (Ub a.v.h.ok.kB a.v.h.t.K4 e) (λc j=>by
 rcases zs.1 j with h|h;·exact a.v.h.bl c h
 grind);have f:NW (kA n (qm (ar n) b)):=NW.Qf i a.e0 a.pa;obtain⟨o,d⟩:=zA f (En.D7 e g) m;exact⟨f,o,⟨(show Iv n (kA n (qm (ar n) b)) from⟨rfl,.inl ⟨rfl,rfl,rfl⟩⟩).trans d.a,d.le,d.up⟩⟩
theorem EP{n:a0}{b:ao}(g:NW n)(c:j7.Ok b)(a:dT b)(i:n.2.1<890)(f:p7 n b=true):NW (j4 n b)/\kj n (j4 n b):=by obtain⟨_,k,h⟩:=EO g c a i f;unfold j4;cases gA (n8 n b).2.1 n.2.1 with|false=>grind|true=>obtain⟨e,d,j⟩:=RN k (En.Qd c a);exact⟨e,h.KQ d j⟩
theorem RO{n:a0}{b:ao}(j:NW n)(h:j7.Ok b)(d:dT b)(l:n.2.1<890)(g:p7 n b=true):NW (A6 n b)/\kj n (A6 n b):=by obtain⟨a,k⟩:=EP j h d l g;unfold A6;cases c:(gA (j4 n b).2.1 n.2.1&&gA (bx (j4 n b)).2.1 b.1)with|false=>grind|true=>simp only[Bool.and_eq_true]at c;have i:=Cr.1 c.1;obtain⟨f,e⟩:=zA a (a.v.h.ok.D7 a.v.h.l) (by omega);exact⟨f,k.trans e i⟩
theorem ns{n:a0}{b:ao}(a:NW n)(e:j7.Ok b)(c:dT b)(f:n.2.1<890):NW (cf n b)/\kj n (cf n b):=by unfold cf;cases d:p7 n b with|false=>exact⟨a,kj.gj n⟩|true=>grind[RO]
theorem RP(n:a0)(b:ao)(l:NW n)(c:j7.Ok b)(d:dT b)(m:n.2.1<890):Jm (n,(b,()))=some ((p7 n b,()),(cf n b,())):=by
 have h:=l.v.h;have f:=h.ok.set;have k:=En.D7 c d;have j:=En.Qd c d;have B:p7 n b=true->Jm (n,(b,()))=some ((true,()),(A6 n b,())):=λa=>by
  have e:=N3 h.t a;obtain⟨z,F,D⟩:=EO l c d m a;obtain⟨g,E⟩:=EP l c d m a;unfold Jm;refine bw (JD b c) (uN (by rw[e.kp];rfl) (uN (by rw[e.ep,nV];rfl) (bw (sm (bb n) _) (uN (by show (!ko b.2.2.2.1 (oj (bb n) b.2.2.1))=false;rw[e.by'];rfl) ?_))));refine bw (O3 (bb n) (ia b) f.1 k.ok) (uN (by show (!uf (bb n) (ia b))=false;rw[e.qc];rfl) (bw (QU (bb n) (o8 b) f.1 j.Z4) (uN (by show (!FO (bb n) (o8 b))=false;rw[e.tc];rfl) ?_)));refine bw (FI b d) (uN (by show (!lv b)=false;rw[e.fo];rfl) (bw (N1 (gq n) (ar n) b h.ok.base h.GZ h.ok.kB h.t c) (uN (by show (!Ix (gq n) (ar n) b)=false;rw[e.bo];rfl) ?_)));have p:JP (ar n) b=true:=by unfold p7 at a;grind
  have i:=N2 (ar n) b h.ok.kB h.t h.bl c d;rw[p]at i;refine bw i (uN rfl (bw (Eh (kA n (qm (ar n) b)) (ia b) z.v.h k) ?_));have y:∀(R:Type),((bif gA (n8 n b).2.1 n.2.1 then (MT (n8 n b,(o8 b,()))).bind λq=>some (Sum.inl q.1) else some (Sum.inl (n8 n b))):Option (Sum a0 R))=some (Sum.inl (j4 n b)):=by intro R;unfold j4;cases gA (n8 n b).2.1 n.2.1 with|false=>rfl|true=>exact bw (E5 (n8 n b) (o8 b) j) rfl
  have t:∀(R:Type),((bif gA (j4 n b).2.1 n.2.1 then bif gA (bx (j4 n b)).2.1 b.1 then (Jl (j4 n b,(bx (j4 n b),()))).bind λo=>some (Sum.inl o.1) else some (Sum.inl (j4 n b)) else some (Sum.inl (j4 n b))):Option (Sum a0 R))=some (Sum.inl (A6 n b)):=by intro R;unfold A6;cases gA (j4 n b).2.1 n.2.1 with|false=>rfl|true=>cases gA (bx (j4 n b)).2.1 b.1 with|false=>rfl|true=>exact bw (Eh (j4 n b) (bx (j4 n b)) g.v.h (g.v.h.ok.D7 g.v.h.l)) rfl
  exact bw (y _) (bw (t _) rfl)
 have C:p7 n b=false->Jm (n,(b,()))=some ((false,()),(n,())):=λa=>by unfold p7 at a;unfold Jm;refine bw (JD b c) ?_;cases u:hu b with|false=>rfl|true=>rw[u,Bool.true_and]at a;refine uN rfl ?_;show (bif !gA b.2.1 n.2.1 then _ else _)=_;cases x:gA b.2.1 n.2.1 with|false=>rfl|true=>rw[x,Bool.true_and]at a;refine uN rfl (bw (sm (bb n) _) ?_);show (bif !ko b.2.2.2.1 (oj (bb n) b.2.2.1) then _ else _)=_;cases r:ko b.2.2.2.1 (oj (bb n) b.2.2.1) with|false=>rfl|true=>rw[r,Bool.true_and]at a;refine uN rfl (bw (O3 (bb n) (ia b) f.1 k.ok) ?_);show (bif !uf (bb n) (ia b) then _ else _)=_;cases w:uf (bb n) (ia b) with|false=>rfl|true=>rw[w,Bool.true_and]at a;refine uN rfl (bw (QU (bb n) (o8 b) f.1 j.Z4) ?_);show (bif !FO (bb n) (o8 b) then _ else _)=_;cases s:FO (bb n) (o8 b) with|false=>rfl|true=>rw[s,Bool.true_and]at a;refine uN rfl (bw (FI b d) ?_);show (bif !lv b then _ else _)=_;cases A:lv b with|false=>rfl|true=>rw[A,Bool.true_and]at a;refine uN rfl (bw (N1 (gq n) (ar n) b h.ok.base h.GZ h.ok.kB h.t c) ?_);show (bif !Ix (gq n) (ar n) b then _ else _)=_;cases v:Ix (gq n) (ar n) b with|false=>rfl|true=>rw[v,Bool.true_and]at a;have i:=N2 (ar n) b h.ok.kB h.t h.bl c d;grind
 unfold cf;grind
def KR(x:tb)(r b:Int)(a:ByteArray):Bool:=gA x.1 r&&(gA x.2.1 b&&ko x.2.2.1 a)
def A7(a:List tb)(r c:Int)(b:ByteArray):Bool:=a.any (λx=>KR x r c b)
def Iz(b:List ds)(a:List tb)(r c:Int):List D9:=(b.filter (λv=>A7 a r c v.1)).map (λv=>((v.1,()):D9))
def C7(c:List ds)(b:List tb)(r a:Int):j8:=(r,(a,(Iz c b r a,())))
def sn(a:List ds)(b:List tb)(r c:Int):Bool:=uf a (C7 a b r c)&&!kf (C7 a b r c)
theorem Py(a:List ds)(b:List tb)(r c:Int):(Iz a b r c).length<=a.length:=by unfold Iz;grind
theorem C8(a:List ds)(d:List tb)(r c:Int)(i:(Ty.sl va).Ok a)(b:W1 a.length)(h:(Lit.int .i64 r).wf=true)(g:(Lit.int .i64 c).wf=true):FP (C7 a d r c):=by have e:=Py a d r c;unfold W1 at b;refine⟨h,g,Dk (Nat.le_trans e (Nat.le_trans b (by decide))) (λx f=>?_),Nat.le_trans e b⟩;unfold Iz at f;obtain⟨v,j,rfl⟩:=List.mem_map.1 f;exact⟨(Ae i.2 (List.mem_filter.1 j).1).1,trivial⟩
theorem G5{A:Type}(p:A->Bool):∀(l:List A)(b:Bool),l.foldl (λs x=>s||p x) b=(b||l.any p)|[],b=>by simp|x::r,b=>by rw[List.foldl_cons,G5 p r,List.any_cons,Bool.or_assoc]
theorem Nk(b:List ds)(a:List tb)(r c:Int)(d:Int×(List D9×Unit)){i:Nat}(m:i<b.length)(g:d.1=(i:Int))(l:Al a.length):aR (FA.b1 ((b,()),((a,()),((r,()),((c,()),())))) d) (false,((0:Int),()))=some (.inl (A7 a r c b[i].1,((a.length:Int),()))):=by
 have h:=AJ (S:=Bool×(Int×Unit)) a (λs x=>s||KR x r c b[i].1) (f:=FA.b1 ((b,()),((a,()),((r,()),((c,()),())))) d) (λs k=>(s,(k,()))) (λs=>Sum.inl (s,((a.length:Int),()))) false (λk e s=>by
 have j:bK b d.1=some b[i]:=by rw[g];exact cB m
 unfold FA.b1;refine uL (Int.ofNat_lt.2 e) ?_;rw[<-wG e l];cases s with|true=>rfl|false=>exact uN rfl (bw (cB e) (bw j rfl))) (λs=>by unfold FA.b1;exact uM (Int.le_refl _) rfl);refine h.trans ?_;rw[G5];rfl
theorem Nl(b:List ds)(c:List tb)(r d:Int)(n:(Ty.sl va).Ok b)(g:W1 b.length)(q:Al c.length)(p:(Lit.int .i64 r).wf=true)(m:(Lit.int .i64 d).wf=true):FA ((b,()),((c,()),((r,()),((d,()),()))))=some (bif sn b c r d then C7 b c r d else ((0,(0,([],()))):j8),((sn b c r d,()),())):=by
 have l:Al b.length:=g.l;have x:=C8 b c r d n g p m;unfold W1 at g;have w:=xL (S:=Int×(List D9×Unit)) b (λs v=>bif A7 c r d v.1 then s++[((v.1,()):D9)]else s) (λi s=>s.length<=i) (f:=FA.b0 ((b,()),((c,()),((r,()),((d,()),()))))) (λs k=>(k,(s,()))) (λs=>Sum.inl ((b.length:Int),(s,()))) [] (Nat.le_refl _) (λi e s o=>by refine⟨?_,NH o _ rfl⟩;unfold FA.b0;refine uL (Int.ofNat_lt.2 e) (bw (Nk b c r d _ e rfl q) ?_);rw[<-wG e l];dsimp only;cases A:A7 c r d b[i].1 with|false=>rfl|true=>simp only[Sum.elim_inl,cond_true];exact (bw (cB e) (Cm (by grind) (by decide) (by decide) rfl))) (λs _=>by unfold FA.b0;exact uM (Int.le_refl _) rfl);have u:b.foldl (λs v=>bif A7 c r d v.1 then s++[((v.1,()):D9)]else s) []=Iz b c r d:=by
  have :∀(xs:List ds) (s:List D9),xs.foldl (λs v=>bif A7 c r d v.1 then s++[((v.1,()):D9)]else s) s=s++(xs.filter (λv=>A7 c r d v.1)).map (λv=>((v.1,()):D9)):=by intro xs;induction xs with|nil=>grind|cons a t z=>grind
  have h:=this b [];rw [List.nil_append]at h;exact h
 have j:=w.1;rw [u]at j;unfold FA sn;refine bw j (bw (O3 b (C7 b c r d) l x.ok) ?_);cases y:uf b (C7 b c r d) with|false=>rfl|true=>refine uN rfl (bw (GR (C7 b c r d)) ?_);cases kf (C7 b c r d)<;>rfl
def qf(l:List tb)(v:tb):List tb:=bif !A7 l v.1 v.2.1 v.2.2.1&&dO (l.length:Int) 1000 then l++[v]else l
noncomputable def tA(n:a0)(v:tb):a0:=bif Ff (bb n) v.2.2.1 then(bif sn (bb n) (qf (ei n) v) v.1 v.2.1 then df (C5 n (qf (ei n) v)) (C7 (bb n) (qf (ei n) v) v.1 v.2.1) else C5 n (qf (ei n) v)) else n
theorem E8{l:List tb}{v:tb}(h:l.length<=1000):(qf l v).length<=1000:=by unfold qf;cases a:(!A7 l v.1 v.2.1 v.2.2.1&&dO (l.length:Int) 1000)with|false=>exact h|true=>simp only[Bool.and_eq_true]at a;have :=Cp.1 a.2;grind
theorem Gl{l:List tb}{v:tb}(h:l.length<=1000)(d:(Ty.sl Hq).Ok l)(e:Hq.Ok v):(Ty.sl Hq).Ok (qf l v):=by refine Dk (Nat.le_trans (E8 h) (by decide)) (λy a=>?_);unfold qf at a;cases c:(!A7 l v.1 v.2.1 v.2.2.1&&dO (l.length:Int) 1000)with|false=>rw[c]at a;exact Ae d.2 a|true=>
 rw[c]at a;rcases List.mem_append.1 a with b|b;·exact Ae d.2 b
 ·rw[List.mem_singleton.1 b];exact e
theorem EF.e8{n:a0}(h:EF n):(Ty.sl Hq).Ok (ei n):=h.2.2.2.2.2.2.2.2.2.2.2.2.2.2.2.1
theorem C9{n:a0}(a:NW n){b:List tb}(d:(Ty.sl Hq).Ok b)(c:b.length<=1000):NW (C5 n b):=NW.Qf (RL a.v d c) a.e0 a.pa
theorem HN{n:a0}{v:tb}(a:NW n)(b:Hq.Ok v)(i:n.2.1<890):NW (tA n v)/\kj n (tA n v):=by have h:=a.v.h;have f:=Gl a.v.vo h.ok.e8 b;have e:=C9 a f (E8 a.v.vo);have g:kj n (C5 n (qf (ei n) v)):=⟨⟨rfl,.inl ⟨rfl,rfl,rfl⟩⟩,Int.le_refl _,by show n.2.1<=n.2.1+1;omega⟩;unfold tA;cases Ff (bb n) v.2.2.1 with|false=>exact ⟨a,kj.gj n⟩|true=>cases sn (bb n) (qf (ei n) v) v.1 v.2.1 with|false=>grind|true=>obtain ⟨d,c⟩:=zA e (C8 (bb n) (qf (ei n) v) v.1 v.2.1 h.ok.set h.l.2.1 b.1 b.2.1) i;exact ⟨d,g.trans c rfl⟩
theorem Pz(n:a0)(v:tb)(b:Al (ei n).length):aR (H4.b0 (n,(v,()))) (false,((0:Int),()))=some (.inl (A7 (ei n) v.1 v.2.1 v.2.2.1,(((ei n).length:Int),()))):=by have c:=AJ (S:=Bool×(Int×Unit)) (ei n) (λs x=>s||KR x v.1 v.2.1 v.2.2.1) (f:=H4.b0 (n,(v,()))) (λs k=>(s,(k,()))) (λs=>Sum.inl (s,(((ei n).length:Int),()))) false (λk a s=>by unfold H4.b0;refine uL (Int.ofNat_lt.2 a) ?_;rw[<-wG a b];cases s with|true=>rfl|false=>exact uN rfl (bw (cB a) (bw (qn a) rfl))) (λs=>by unfold H4.b0;exact uM (Int.le_refl _) rfl);refine c.trans ?_;rw[G5];rfl
theorem RQ(n:a0)(v:tb)(b:NW n)(a:Hq.Ok v)(i:n.2.1<890):H4 (n,(v,()))=some (tA n v,()):=by have h:=b.v.h;have c:=Gl b.v.vo h.ok.e8 a;have f:=b.v.vo;have e:=C9 b c (E8 b.v.vo);unfold H4 tA;refine bw (GQ (bb n) v.2.2.1 h.ok.set.1) ?_;cases Ff (bb n) v.2.2.1 with|false=>rfl|true=>
 have d:∀(R:Type),(bif (!A7 (ei n) v.1 v.2.1 v.2.2.1) then bif dO (List.length (ei n):Int) (1000:Int) then bif dE (List.length (ei n)+List.length ([v]:List tb)) 32 then some (.inl (bV (ei n) ([v]:List tb),())) else none else some (.inl (ei n,())) else some (.inl (ei n,())))=some (Sum.inl (qf (ei n) v,()):Sum (List tb×Unit) R):=by intro R;unfold qf;cases A7 (ei n) v.1 v.2.1 v.2.2.1 with|true=>rfl|false=>refine dd rfl ?_;cases dO (List.length (ei n):Int) (1000:Int) with|false=>rfl|true=>exact dd rfl (Cm (by grind) (by decide) (by decide) rfl)
 refine uN rfl (bw (Pz n v h.ok.e8.1) (bw (d _) (bw (Nl (bb n) (qf (ei n) v) v.1 v.2.1 h.ok.set h.l.2.1 c.1 a.1 a.2.1) ?_)));cases g:sn (bb n) (qf (ei n) v) v.1 v.2.1 with|false=>rfl|true=>exact dd rfl (bw (Eh (C5 n (qf (ei n) v)) (C7 (bb n) (qf (ei n) v) v.1 v.2.1) e.v.h (C8 (bb n) (qf (ei n) v) v.1 v.2.1 h.ok.set h.l.2.1 a.1 a.2.1)) rfl)
def A8(name:ByteArray)(r b a:Int):gd:=(2,(⟨#[]⟩,(a,([],(r,(b,(name,(0,(0,(⟨#[]⟩,(0,(-1,([],(0,([],([],()))))))))))))))))
def z0(name:ByteArray)(a r b:Int):sH:=(1,(a,(r,(b,(name,())))))
noncomputable def A9(n:a0)(b:ao):Bool:=p7 n b&&(gA (cf n b).2.1 n.2.1&&(gA b.2.2.1 (ad (cf n b))&&(!km b.2.2.1 (fr (cf n b))&&Ff (bb (cf n b)) (cf n b).1)))
noncomputable def gk(n:a0)(b:ao):a0×(List gd×List sH):=bif A9 n b then(tA (pn (cf n b) b.2.2.1) (b.2.2.1,(b.1,((cf n b).1,()))),(mu (bb (cf n b)) (cf n b).1 (A8 (cf n b).1 b.2.2.1 b.1 0) (cf n b).2.1,[z0 (cf n b).1 n.2.1 b.2.2.1 b.1])) else (cf n b,([],[]))
theorem md{n:a0}(a:NW n){v:Int}(b:(Lit.int .i64 v).wf=true):NW (pn n v):=NW.Qf (E:=n.2.1.toNat) (P:=n.2.1.toNat) ⟨LO a.v.h b,a.v.Gj,a.v.ep,a.v.le,a.v.vo,a.v.go,a.v.dn,a.v.pa⟩ a.e0 a.pa
structure Zt(n:a0)(b:ao):Prop where
 tk:p7 n b=true
 ep:(cf n b).2.1=n.2.1
 rd:b.2.2.1=ad (cf n b)vo:fr (cf n b)<b.2.2.1
 me:Ff (bb (cf n b)) (cf n b).1=true
theorem JQ{n:a0}{b:ao}(h:A9 n b=true):Zt n b:=by unfold A9 at h;simp only[Bool.and_eq_true,Bool.not_eq_true']at h;exact⟨h.1,Cr.1 h.2.1,Cr.1 h.2.2.1,CM.1 h.2.2.2.1,h.2.2.2.2⟩
theorem N4{n:a0}{b:ao}(l:NW n)(a:j7.Ok b)(f:dT b)(m:n.2.1<890):NW (gk n b).1/\(gk n b).1.1=n.1/\n.2.1<=(gk n b).1.2.1/\(gk n b).1.2.1<=n.2.1+1:=by obtain⟨d,c⟩:=ns l a f m;unfold gk;cases h:A9 n b with|false=>exact⟨d,c.a.nm,c.le,c.up⟩|true=>
 have i:=JQ h;have j:=i.ep;have k:=md d a.2.2.1;obtain⟨g,e⟩:=HN (v:=(b.2.2.1,(b.1,((cf n b).1,())))) k ⟨a.2.2.1,a.1,d.v.h.ok.1,trivial⟩ (by show (cf n b).2.1<890;omega);refine ⟨g,e.a.nm.trans c.a.nm,?_,?_⟩;·have :=e.le;show n.2.1<=_;exact Int.le_trans (Int.le_of_eq j.symm) this
 ·have :=e.up;exact Int.le_trans this (by show (cf n b).2.1+1<=_;omega)
theorem RR(n:a0)(b:ao)(f:NW n)(a:j7.Ok b)(d:dT b)(e:n.2.1<890):OT (n,(b,()))=some (((gk n b).2.1,()),(((gk n b).2.2,()),((gk n b).1,()))):=by obtain⟨c,o⟩:=ns f a d e;have g:=c.v.h.ok.set;unfold OT gk A9;refine bw (RP n b f a d e) ?_;show (bif !p7 n b then _ else _)=_;cases m:p7 n b with|false=>rfl|true=>refine uN rfl ?_;show (bif !gA (cf n b).2.1 n.2.1 then _ else _)=_;cases i:gA (cf n b).2.1 n.2.1 with|false=>rfl|true=>have l:=Cr.1 i;refine uN rfl ?_;show (bif !gA b.2.2.1 (ad (cf n b))then _ else _)=_;cases p:gA b.2.2.1 (ad (cf n b))with|false=>rfl|true=>refine uN rfl ?_;show (bif km b.2.2.1 (fr (cf n b))then _ else _)=_;cases q:km b.2.2.1 (fr (cf n b))with|true=>rfl|false=>refine uN rfl (bw (GQ (bb (cf n b)) (cf n b).1 g.1) ?_);cases r:Ff (bb (cf n b)) (cf n b).1 with|false=>rfl|true=>have j:=md c a.2.2.1;have h:G1 (A8 (cf n b).1 b.2.2.1 b.1 (cf n b).2.1):=⟨Nat.zero_le _,(λx k=>by cases k),Nat.zero_le _,Nat.zero_le _,Nat.zero_le _⟩;exact uN rfl (bw (KL (pn (cf n b) b.2.2.1) (A8 (cf n b).1 b.2.2.1 b.1 (cf n b).2.1) c.v.h.l.2.1 h) (bw (RQ (pn (cf n b) b.2.2.1) (b.2.2.1,(b.1,((cf n b).1,()))) j ⟨a.2.2.1,a.1,c.v.h.ok.1,trivial⟩ (by show (cf n b).2.1<890;omega)) (bw (show QA _=some (z0 (cf n b).1 n.2.1 b.2.2.1 b.1,()) from rfl) rfl)))
noncomputable def j3(a:Int)(s:a0)(b:ao):a0:=bif gA s.2.1 a then cf s b else s
noncomputable def qu(n:a0)(m:gd):a0:=(l8 m).foldl (j3 m.2.2.1) n
noncomputable def FJ(n:a0)(m:gd):a0:=bif gA (qu n m).2.1 m.2.2.1&&uf (bb (qu n m)) (mQ m)then df (qu n m) (mQ m)else qu n m
noncomputable def u4(n:a0)(m:gd):a0:=bif gA (FJ n m).2.1 m.2.2.1&&FO (bb (FJ n m)) (mT m)then KK (FJ n m) (mT m)else FJ n m
theorem JR(a:Int)(d:a0)(n:a<890)(m:d.2.1=a):∀(h:List ao)(s:a0),(∀b∈h,j7.Ok b/\dT b)->NW s->kj d s->NW (h.foldl (j3 a) s)/\kj d (h.foldl (j3 a) s)
 |[],s,_,e,g=>⟨e,g⟩|b::r,s,f,e,g=>by
  rw[List.foldl_cons];have i:NW (j3 a s b)/\kj d (j3 a s b):=by unfold j3;cases j:gA s.2.1 a with|false=>grind|true=>have j:=Cr.1 j;obtain⟨k,l⟩:=ns e (f b (by simp)).1 (f b (by simp)).2 (by omega);exact⟨k,g.trans l (by omega)⟩
  exact JR a d n m r _ (λc o=>f c (by grind)) i.1 i.2
theorem Ia.D7{m:gd}(h:Ia m)(l:G1 m):FP (mQ m):=⟨h.2.2.2.2.2.2.2.2.2.2.1,h.2.2.2.2.2.2.2.2.2.2.2.1,h.q,l.2.2.1⟩
theorem Ia.Qd{m:gd}(h:Ia m)(l:G1 m):NP (mT m):=⟨h.2.2.2.2.2.2.2.2.2.2.2.2.2.1,h.2.2.2.2.2.2.2.2.2.2.2.2.2.2.1,h.2.2.2.2.2.2.2.2.2.2.2.2.2.2.2.1,l.2.2.2.1,l.2.2.2.2⟩
theorem Ia.kp{m:gd}(h:Ia m)(l:G1 m):∀b∈l8 m,j7.Ok b/\dT b:=λb a=>⟨Ae h.bs.2 a,l.2.1 b a⟩
theorem De{n:a0}{m:gd}(i:NW n)(g:Ia m)(f:G1 m)(h:m.2.2.1=n.2.1)(k:n.2.1<890):(NW (qu n m)/\kj n (qu n m))/\(NW (FJ n m)/\kj n (FJ n m))/\NW (u4 n m)/\kj n (u4 n m):=by
 have a:NW (qu n m)/\kj n (qu n m):=JR m.2.2.1 n (by omega) h.symm (l8 m) n (g.kp f) i (kj.gj n);have c:NW (FJ n m)/\kj n (FJ n m):=by unfold FJ;cases b:(gA (qu n m).2.1 m.2.2.1&&uf (bb (qu n m)) (mQ m)) with|false=>exact a|true=>simp only[Bool.and_eq_true]at b;have b:=Cr.1 b.1;obtain⟨e,d⟩:=zA a.1 (g.D7 f) (by omega);exact⟨e,a.2.trans d (by omega)⟩
 refine⟨a,c,?_⟩;unfold u4;cases b:(gA (FJ n m).2.1 m.2.2.1&&FO (bb (FJ n m)) (mT m)) with|false=>exact c|true=>obtain⟨e,d,j⟩:=RN c.1 (g.Qd f);exact⟨e,c.2.KQ d j⟩
theorem N5(a:Int):∀(c:List ao)(s:a0),gA s.2.1 a=false->c.foldl (j3 a) s=s
 |[],s,_=>rfl|b::r,s,h=>by
  rw[List.foldl_cons];have :j3 a s b=s:=by unfold j3;grind
  rw[this];exact N5 a r s h
theorem WL(n:a0)(m:gd)(x:NW n)(i:Ia m)(u:G1 m)(z:m.2.2.1=n.2.1)(A:n.2.1<890):∃k,aR (HB.b0 (n,(m,()))) ((0:Int),n)=some (.inl (k,qu n m)):=by
 have l:Al (l8 m).length:=i.bs.1;have o:∀(c a:List ao) (s:a0),a++c=l8 m->NW s->kj n s->∃k,aR (HB.b0 (n,(m,()))) ((a.length:Int),s)=some (.inl (k,c.foldl (j3 m.2.2.1) s)):=by intro c;induction c with|nil=>intro a s h f j;rw[List.append_nil]at h;refine⟨(a.length:Int),cS ?_⟩;unfold HB.b0;exact uM (show ((l8 m).length:Int)<=(a.length:Int) by grind) rfl|cons b c v=>
  intro a s h f j;have e:a.length<(l8 m).length:=by grind
  have r:(l8 m)[a.length]=b:=by grind
  have d:=i.kp u b (by grind);cases g:gA s.2.1 m.2.2.1 with|false=>refine⟨(a.length:Int),?_⟩;rw[N5 _ _ _ g];refine cS ?_;unfold HB.b0;grind|true=>
  have y:=Cr.1 g;obtain⟨w,t⟩:=ns f d.1 d.2 (by omega);have q:HB.b0 (n,(m,())) ((a.length:Int),s)=some (.inl (((a.length+1:Nat):Int),cf s b)):=by unfold HB.b0;refine uL (Int.ofNat_lt.2 e) (dd g (bw (cB e) ?_));rw[r];refine bw (RP s b f d.1 d.2 (by omega)) ?_;rw[<-wG e l]
  rw[de q];have p:j3 m.2.2.1 s b=cf s b:=by unfold j3;grind
  rw[List.foldl_cons,p];have :=v (a++[b]) (cf s b) (by grind) w (j.trans t (by omega));grind
 unfold qu;simpa using o (l8 m) [] n rfl x (kj.gj n)
theorem Uc(n:a0)(m:gd)(e:NW n)(a:Ia m)(b:G1 m)(d:m.2.2.1=n.2.1)(f:n.2.1<890):HB (n,(m,()))=some (u4 n m,()):=by
 obtain⟨⟨c,o⟩,⟨g,p⟩,_⟩:=De e a b d f;obtain⟨k,j⟩:=WL n m e a b d f;have i:∀(R:Type),((bif gA (qu n m).2.1 m.2.2.1 then (Li ((bb (qu n m),()),(mQ m,()))).bind λl=>bif l.1.1 then (Jl (qu n m,(mQ m,()))).bind λh=>some (Sum.inl h.1)else some (Sum.inl (qu n m))else some (Sum.inl (qu n m))):Option (Sum a0 R))=some (Sum.inl (FJ n m)):=by intro R;unfold FJ;cases gA (qu n m).2.1 m.2.2.1 with|false=>rfl|true=>refine dd rfl (bw (O3 (bb (qu n m)) (mQ m) c.v.h.ok.set.1 a.q) ?_);cases uf (bb (qu n m)) (mQ m)with|false=>rfl|true=>exact dd rfl (bw (Eh (qu n m) (mQ m) c.v.h (a.D7 b)) rfl)
 unfold HB;refine bw j (bw (i _) ?_);unfold u4;show (bif gA (FJ n m).2.1 m.2.2.1 then _ else _)=_;cases gA (FJ n m).2.1 m.2.2.1 with|false=>rfl|true=>refine dd rfl (bw (QU (bb (FJ n m)) (mT m) g.v.h.ok.set.1 a.t) ?_);show (bif FO (bb (FJ n m)) (mT m) then _ else _)=_;cases FO (bb (FJ n m)) (mT m) with|false=>rfl|true=>exact dd rfl (bw (E5 (FJ n m) (mT m) (a.Qd b)) rfl)
theorem EF.cp{n:a0}(h:EF n):(Ty.sl GG).Ok (eD n):=h.2.2.2.2.2.2.2.2.2.2.2.2.2.2.2.2.1
theorem NW.gin{n:a0}(h:NW n):GIn n:=⟨h.v.h.l.2.1,h.v.h.ok.set,Nat.le_trans h.v.go (by decide),h.v.h.ok.cp⟩
theorem Ud{l:List pf}{g:pf}(h:l.length<=1000):(sX l g).length<=1000:=by unfold sX;cases a:(!Po l g&&dO (l.length:Int) 1000)with|false=>exact h|true=>simp only[Bool.and_eq_true]at a;have :=Cp.1 a.2;grind
theorem LS{n:a0}(a:NW n){g:List pf}(c:(Ty.sl GG).Ok g)(b:g.length<=1000):NW (Ep n g):=by have h:=a.v.h;have l:=h.l;refine NW.Qf (E:=n.2.1.toNat) (P:=n.2.1.toNat) ⟨⟨Rr h.ok c,?_,h.t,h.d,h.p⟩,a.v.Gj,a.v.ep,a.v.le,a.v.vo,b,a.v.dn,a.v.pa⟩ a.e0 a.pa;exact⟨l.1,l.2.1,l.2.2.1,l.2.2.2.1,l.2.2.2.2.1,l.2.2.2.2.2.1,l.2.2.2.2.2.2.1,l.2.2.2.2.2.2.2.1,Nat.le_trans b (by decide),l.2.2.2.2.2.2.2.2.2.1,l.2.2.2.2.2.2.2.2.2.2.1,l.2.2.2.2.2.2.2.2.2.2.2.1,l.2.2.2.2.2.2.2.2.2.2.2.2⟩
theorem PA{n:a0}(b:NW n){g:pf}(f:GG.Ok g):NW (u3 n g)/\kj n (u3 n g)/\(u3 n g).2.1=n.2.1:=by have a:=b.gin;have c:=NT a.go (Nat.le_trans a.g (by decide)) f;have d:NW (Ep n (sX (eD n) g)):=LS b c (Ud b.v.go);have h:kj n (Ep n (sX (eD n) g)):=⟨⟨rfl,.inl ⟨rfl,rfl,rfl⟩⟩,Int.le_refl _,by show n.2.1<=n.2.1+1;omega⟩;have m:=Io (bb n) (sX (eD n) g) g.1 a.s a.so c f.1;unfold u3;dsimp only;cases l:(s6 (bb n) (sX (eD n) g) g.1).2.1.1 with|false=>exact ⟨d,h,rfl⟩|true=>obtain ⟨_,_,e⟩:=E6 l;rw[e];obtain ⟨j,k,i⟩:=RN d m;exact ⟨j,h.KQ k i,i⟩
theorem Gm{n:a0}{g:pf}{q:j8}(a:NW n)(i:FP q)(h:GG.Ok g)(j:n.2.1<890):NW (i0 n g q)/\kj n (i0 n g q):=by obtain⟨c,b⟩:=zA a i j;unfold i0;cases (Ff (bb n) g.2.2.1&&uf (bb n) q) with|false=>exact⟨a,kj.gj n⟩|true=>cases gA (df n q).2.1 n.2.1 with|false=>grind|true=>obtain⟨d,f,e⟩:=PA c h;exact⟨d,b.KQ f e⟩
theorem WM(n:a0)(g:pf)(q:j8)(b:NW n)(a:FP q)(d:GG.Ok g)(c:n.2.1<890):HA (n,(g,(q,())))=some (i0 n g q,()):=Ip n g q b.v.h a d (zA b a c).1.gin
theorem Gn{n:a0}(a:NW n)(d:n.2.1<890):NW (fa n).1/\(fa n).1.1=n.1/\n.2.1<=(fa n).1.2.1/\(fa n).1.2.1<=n.2.1+1:=by unfold fa;cases (Ff (bb n) n.1&&!dO (ad n) (fr n)) with|false=>grind|true=>obtain⟨c,b⟩:=Gm (md a a.v.h.round) (a.v.h.ok.D7 a.v.h.l) (HM a.v.h.ok) d;exact⟨c,b.a.nm,b.le,b.up⟩
theorem RS(n:a0)(a:NW n)(b:n.2.1<890):QF (n,())=some (((fa n).2.1,()),(((fa n).2.2,()),((fa n).1,()))):=Ry n a.v.h (zA (md a a.v.h.round) (a.v.h.ok.D7 a.v.h.l) b).1.gin
def HE(m:gd):tb:=(m.2.2.2.2.1,(m.2.2.2.2.2.1,(m.2.2.2.2.2.2.1,())))
def HF(m:gd):pf:=(m.2.2.2.2.2.2.2.1,(m.2.2.2.2.2.2.2.2.1,(m.2.2.2.2.2.2.2.2.2.1,())))
theorem Ia.vo{m:gd}(h:Ia m):Hq.Ok (HE m):=⟨h.2.2.2.2.1,h.2.2.2.2.2.1,h.2.2.2.2.2.2.1,trivial⟩
theorem Ia.go{m:gd}(h:Ia m):GG.Ok (HF m):=⟨h.2.2.2.2.2.2.2.1,h.2.2.2.2.2.2.2.2.1,h.2.2.2.2.2.2.2.2.2.1,trivial⟩
noncomputable def fl(n:a0)(m:gd):a0×(List gd×List sH):=bif gA m.1 1 then(match l8 m with|b::_=>gk n b|[]=>(n,([],[])))else bif gA m.1 2 then(tA n (HE m),([],[]))else bif gA m.1 3 then (i0 n (HF m) (mQ m),([],[]))else (u4 n m,([],[]))
structure FK(m:gd):Prop where
 ok:Ia m
 l:G1 m
 pr:m.1=1->l8 m≠[]
theorem HO{n:a0}{m:gd}(e:NW n)(c:FK m)(i:m.2.2.1=n.2.1)(f:n.2.1<890):NW (fl n m).1/\(fl n m).1.1=n.1/\n.2.1<=(fl n m).1.2.1/\(fl n m).1.2.1<=n.2.1+1:=by unfold fl;cases h:gA m.1 1 with
 |true=>have j:=c.pr (Cr.1 h);cases k:l8 m with|nil=>grind|cons b r=>have g:=c.ok.kp c.l b (by grind);exact N4 e g.1 g.2 f
 |false=>cases gA m.1 2 with|true=>obtain⟨d,a⟩:=HN e c.ok.vo f;exact⟨d,a.a.nm,a.le,a.up⟩|false=>cases gA m.1 3 with|true=>obtain⟨d,a⟩:=Gm e (c.ok.D7 c.l) c.ok.go f;exact⟨d,a.a.nm,a.le,a.up⟩|false=>obtain⟨_,_,d,a⟩:=De e c.ok c.l i f;exact⟨d,a.a.nm,a.le,a.up⟩
theorem WN(n:a0)(m:gd)(c:NW n)(a:FK m)(h:m.2.2.1=n.2.1)(d:n.2.1<890):Tr (n,(m,()))=some (((fl n m).2.1,()),(((fl n m).2.2,()),((fl n m).1,()))):=by unfold Tr fl;cases f:gA m.1 1 with
 |true=>have i:=a.pr (Cr.1 f);cases g:l8 m with|nil=>grind|cons b r=>have e:=a.ok.kp a.l b (by grind);exact bw (dd rfl (bw (show bK (l8 m) 0=some b by rw[g];rfl) (bw (RR n b c e.1 e.2 d) rfl))) rfl
 |false=>cases j:gA m.1 2 with|true=>exact bw (uN rfl (dd rfl (bw (RQ n (HE m) c a.ok.vo d) rfl))) rfl|false=>cases k:gA m.1 3 with|true=>exact bw (uN rfl (uN rfl (dd rfl (bw (WM n (HF m) (mQ m) c (a.ok.D7 a.l) a.ok.go d) rfl)))) rfl|false=>exact bw (uN rfl (uN rfl (uN rfl (bw (Uc n m c a.ok a.l h d) rfl)))) rfl
theorem WO(L:fp)(l:List ao)(p:Int)(a:List cl)(H:(Ty.sl cz).Ok L.2.1)(T:fb L.2.1)(n:(Ty.sl j7).Ok l)(h:il l)(D:(Ty.sl i3).Ok a):Y (Kp (L,((l,()),((p,()),((a,()),()))))) (λy=>(∀t∈y.1.1,t∈a)/\List.length y.1.1<=4/\(Ty.sl va).Ok y.2.2.1.1/\W1 (List.length y.2.2.1.1)/\y.2.2.2.1.1.size<=32):=by
 have V:Al a.length:=D.1;unfold Kp;have q:∀{xs:List cl}{e:Bool},(∀t∈xs,t∈a)->List.length xs<=4->Y (some (((xs,()),((e,()),((([]:List ds),()),((⟨#[]⟩,()),())))):(List cl×Unit)×((Bool×Unit)×((List ds×Unit)×((ByteArray×Unit)×Unit))))) (λy=>(∀t∈y.1.1,t∈a)/\List.length y.1.1<=4/\(Ty.sl va).Ok y.2.2.1.1/\W1 (List.length y.2.2.1.1)/\y.2.2.2.1.1.size<=32):=λM S=>Y.mk ⟨M,S,CK,Nat.zero_le _,Nat.zero_le _⟩;refine Y.bind (NZ l p n) λW _=>Y.DY (λ_=>q (λt h=>by cases h) (Nat.zero_le _)) λ_=>Y.bind (N0 l p n h) λZ _=>Y.DY (λ_=>q (λt h=>by cases h) (Nat.zero_le _)) λ_=>?_;refine Y.bind (Zp L l p H T n h) λX A=>?_;refine Y.DZ (P:=λv=>(∀t∈v.1,t∈a)/\List.length v.1<=4/\(Ty.sl cz).Ok v.2.2.2.1/\fb v.2.2.2.1) (R:=λ_=>False) (Y.loop (I:=λv=>0<=v.2.1/\(∀t∈v.1,t∈a)/\List.length v.1<=4/\(Ty.sl cz).Ok v.2.2.2.1/\fb v.2.2.2.1) (λv=>((List.length a:Int)-v.2.1).toNat) (λv r=>?_) _ ⟨Int.le_refl _,(λt h=>by cases h),Nat.zero_le _,A.1,A.2⟩) (λv r=>?_) (λ_ h=>h.elim)
 · obtain ⟨o,i,j,k,u⟩:=v;obtain ⟨s,g,d,b,f⟩:=r;dsimp only at s g d b f;unfold Kp.b0;refine Y.DY (λm=>Y.DY (λE=>?_) (λ_=>Y.rl ⟨g,d,b,f⟩)) (λ_=>Y.rl ⟨g,d,b,f⟩);have m:i<(List.length a:Int):=Cp.1 m;have E:(List.length o:Int)<4:=Cp.1 E;have e:cM .i64 i 1=i+1:=ed (by omega) (by omega);have F:((List.length a:Int)-cM .i64 i 1).toNat<((List.length a:Int)-i).toNat:=by omega
   have B:0<=cM .i64 i 1:=by omega
   refine Y.gT s m λx J=>?_;obtain ⟨R,c,G,O,K,_⟩:=Ij (j,(k,())) x b f (Ae D.2 J);refine Y.eq G (Y.DY (λ_=>Y.gT s m λN U=>Y.dE (by grind) (by decide) (by decide) (Y.l ⟨⟨B,λt h=>?_,?_,O,K⟩,F⟩)) (λ_=>Y.l ⟨⟨B,g,d,b,f⟩,F⟩))
   · rcases List.mem_append.1 h with h|h;· grind
     grind
   · show List.length (o++[N])<=4;grind
 · obtain ⟨o,i,j,k,u⟩:=v;obtain ⟨g,d,b,f⟩:=r;dsimp only at g d b f;refine Y.eq (Ga l p n h) (Y.DY (λ_=>q g d) λ_=>?_);obtain ⟨Q,w,C⟩:=F8 (j,(k,())) b f;refine Y.eq Q (Y.eq (KD _ C.1 w) (Y.bind (Hi _ w) λy h=>Y.mk ⟨g,d,QS _ w,?_,h⟩));show W1 (List.length (mo (k0 (j,(k,())))));have z:=C.1;unfold W1 at z⊢;unfold mo;cases bm (k0 (j,(k,()))) with|false=>grind|true=>exact Nat.le_trans (w9 _) z
abbrev MkT:Type:=(List cl×Unit)×((Bool×Unit)×((List ds×Unit)×((ByteArray×Unit)×Unit)))
noncomputable def Ue(L:fp)(l:List ao)(p:Int)(a:List cl):MkT:=(Kp (L,((l,()),((p,()),((a,()),()))))).getD (([],()),((false,()),(([],()),((⟨#[]⟩,()),()))))
theorem RT(L:fp)(l:List ao)(p:Int)(a:List cl)(f:(Ty.sl cz).Ok L.2.1)(d:fb L.2.1)(b:(Ty.sl j7).Ok l)(h:il l)(c:(Ty.sl i3).Ok a):Kp (L,((l,()),((p,()),((a,()),()))))=some (Ue L l p a)/\(∀t∈(Ue L l p a).1.1,t∈a)/\List.length (Ue L l p a).1.1<=4/\(Ty.sl va).Ok (Ue L l p a).2.2.1.1/\W1 (List.length (Ue L l p a).2.2.1.1)/\(Ue L l p a).2.2.2.1.1.size<=32:=by
 obtain⟨y,e,g⟩:=WO L l p a f d b h c;have :Ue L l p a=y:=by unfold Ue;grind
 grind
def Ej(n:a0):sM:=bif !gA (bx n).1 (gS .i64 (ad n) 1)then Fj n else ((0,([],([],()))):sM)
noncomputable def N6(n:a0):MkT:=Ue (gq n) (ar n) (bx n).2.1 (l9 n)
noncomputable def ie(n:a0)(a:Int):ao:=(a,(n.2.1,(ad n,(n.1,((bx n).1,((bx n).2.1,((bx n).2.2.1,((Ej n).1,((Ej n).2.1,((Ej n).2.2.1,((N6 n).1.1,((N6 n).2.1.1,((N6 n).2.2.1.1,((N6 n).2.2.2.1.1,()))))))))))))))
theorem PB{n:a0}(h:I4 n):NP (Ej n):=by unfold Ej;cases (!gA (bx n).1 (gS .i64 (ad n) 1))with|true=>exact h.ok.Qd h.l|false=>exact⟨rfl,CK,CK,Nat.zero_le _,Nat.zero_le _⟩
theorem sv{n:a0}(h:I4 n){c:Int}(e:(Lit.int .i64 c).wf=true):j7.Ok (ie n c)/\dT (ie n c):=by have b:=h.ok.D7 h.l;have a:=PB h;obtain⟨_,f,d,j,g,i⟩:=RT (gq n) (ar n) (bx n).2.1 (l9 n) h.ok.base h.GZ h.ok.kB h.t h.ok.ki;refine⟨⟨e,h.ok.2.1,h.round,h.ok.1,b.i1,b.i2,b.ok,a.i1,a.ok,a.hi,Dk (Nat.le_trans d (by decide)) (λt k=>Ae h.ok.ki.2 (f t k)),trivial,j,?_,trivial⟩,b.w,a.w,a.wh,Nat.le_trans d (by decide),g⟩;exact Nat.le_trans i (by decide)
theorem N7(n:a0)(a:Int)(h:I4 n):OR (n,((a,()),()))=some (ie n a,()):=by
 have e:=h.ok.D7 h.l;have b:=h.ok.Qd h.l;obtain⟨f,_⟩:=RT (gq n) (ar n) (bx n).2.1 (l9 n) h.ok.base h.GZ h.ok.kB h.t h.ok.ki;have d:∀(R:Type),(bif !gA (bx n).1 (gS .i64 (ad n) 1)then (HZ (Fj n,())).bind λc=>some (Sum.inl c.1)else some (Sum.inl ((0:Int),([],([],())))))=some (Sum.inl (Ej n):Sum sM R):=by intro R;unfold Ej;cases (!gA (bx n).1 (gS .i64 (ad n) 1))with|true=>exact bw (JE (Fj n) b.w b.wh) rfl|false=>rfl
 unfold OR;exact bw (EK (bx n) e.w) (bw (d _) (bw f rfl))
def ov(b:ao)(a:Int):gd:=(1,(⟨#[]⟩,(a,([b],(0,(0,(⟨#[]⟩,(0,(0,(⟨#[]⟩,(0,(-1,([],(0,([],([],()))))))))))))))))
noncomputable def Fo(n:a0)(a:Int):Bool:=ko (oj (bb n) (ad n)) n.1&&(!km (ad n) (LB n)&&((gA (bx n).2.1 (-1)||!dO (m9 (ar n) (bx n).2.1) 0)&&(hu (ie n a)&&lv (ie n a))))
noncomputable def ee(n:a0)(a:Int):a0×(List ao×(List gd×List sH)):=bif Fo n a then((gk (n7 n (ad n)) (ie n a)).1,([ie n a],(mu (bb n) n.1 (ov (ie n a) n.2.1) n.2.1++(gk (n7 n (ad n)) (ie n a)).2.1,(gk (n7 n (ad n)) (ie n a)).2.2))) else (n,([],([],[])))
theorem s7{n:a0}(a:NW n){v:Int}(b:(Lit.int .i64 v).wf=true):NW (n7 n v):=by have h:=a.v.h;exact NW.Qf (E:=n.2.1.toNat) (P:=n.2.1.toNat) ⟨⟨Pm h.ok b,h.l,h.t,h.d,h.p⟩,a.v.Gj,a.v.ep,a.v.le,a.v.vo,a.v.go,a.v.dn,a.v.pa⟩ a.e0 a.pa
theorem HP{n:a0}{a:Int}(b:NW n)(c:(Lit.int .i64 a).wf=true)(f:n.2.1<890):NW (ee n a).1/\(ee n a).1.1=n.1/\n.2.1<=(ee n a).1.2.1/\(ee n a).1.2.1<=n.2.1+1:=by obtain⟨d,e⟩:=sv b.v.h c;unfold ee;cases Fo n a with|false=>grind|true=>exact N4 (s7 b b.v.h.round) d e f
theorem Ek(a:List ds)(name:ByteArray)(m:gd)(b:Int):(mu a name m b).length<=a.length:=by unfold mu;grind
theorem JS(n:a0)(b:ao)(h:W1 (bb (cf n b)).length):(gk n b).2.1.length<=1048576/\(gk n b).2.2.length<=1:=by unfold gk;cases A9 n b with|false=>grind|true=>exact⟨Nat.le_trans (Ek _ _ _ _) h,Nat.le_refl _⟩
theorem WQ(n:a0)(a:Int)(l:NW n)(p:(Lit.int .i64 a).wf=true)(k:n.2.1<890):Ts (n,((a,()),()))=some (((ee n a).2.1,()),(((ee n a).2.2.1,()),(((ee n a).2.2.2,()),((ee n a).1,())))):=by
 have h:=l.v.h;obtain⟨e,b⟩:=sv h p;have i:=s7 l h.round;have s:=JS (n7 n (ad n)) (ie n a) (ns i e b k).1.v.h.l.2.1;have C:=Ek (bb n) n.1 (ov (ie n a) n.2.1) n.2.1;have D:(bb n).length<=1048576:=h.l.2.1;have o:G1 (ov (ie n a) n.2.1):=⟨(by decide:1<=1048576),(λx u=>by rw[List.mem_singleton.1 u];exact b),Nat.zero_le _,Nat.zero_le _,Nat.zero_le _⟩;unfold Ts ee Fo;have B:∀{S R:Type}{g:S->Option R}{r:R},Option.bind (some (Sum.inr r:Sum S R)) (λq=>Sum.elim g some q)=some r:=λ{S R g r}=>rfl;have f:((OR (n,((a,()),()))).bind λc=>(OQ (c.1,())).bind λy=>bif (!y.1.1) then some ((([]:List ao),()),((([]:List gd),()),((([]:List sH),()),(n,())))) else (Lj (c.1,())).bind λz=>bif (!z.1.1) then some ((([]:List ao),()),((([]:List gd),()),((([]:List sH),()),(n,())))) else (Hz (n7 n (ad n),(ov c.1 n.2.1,()))).bind λm=>(OT (n7 n (ad n),(c.1,()))).bind λd=>(H0 (c.1,())).bind λt=>bif dE (List.length m.1.1+List.length d.1.1) 216 then some ((([t.1]:List ao),()),((bV m.1.1 d.1.1,()),(d.2.1,(d.2.2.1,())))) else none)=some (bif (hu (ie n a)&&lv (ie n a)) then ((([ie n a]:List ao),()),((mu (bb n) n.1 (ov (ie n a) n.2.1) n.2.1++(gk (n7 n (ad n)) (ie n a)).2.1,()),(((gk (n7 n (ad n)) (ie n a)).2.2,()),((gk (n7 n (ad n)) (ie n a)).1,())))) else ((([]:List ao),()),((([]:List gd),()),((([]:List sH),()),(n,()))))):=by refine bw (N7 n a h) (bw (JD _ e) ?_);cases w:hu (ie n a) with|false=>grind|true=>refine uN rfl (bw (FI _ b) ?_);cases A:lv (ie n a) with|false=>grind|true=>refine uN rfl (bw (KL (n7 n (ad n)) (ov (ie n a) n.2.1) h.l.2.1 o) (bw (RR (n7 n (ad n)) (ie n a) i e b k) (bw (GS _ b) (dd ?_ rfl))));refine BO (Nat.le_trans (Nat.add_le_add (show List.length (mu (bb n) n.1 (ov (ie n a) n.2.1) n.2.1)<=1048576 by omega) s.1) (by decide)) (by decide) (by decide)
 cases w:ko (oj (bb n) (ad n)) n.1 with|false=>exact bw (bw (sm (bb n) (ad n)) (dd (by grind) rfl)) rfl|true=>cases A:km (ad n) (LB n) with|true=>exact bw (bw (sm (bb n) (ad n)) (uN (by grind) (dd rfl rfl))) rfl|false=>cases E:gA (bx n).2.1 (-1) with|true=>refine bw (bw (sm (bb n) (ad n)) (uN (by grind) (uN rfl (uN (by show (!gA (bx n).2.1 (-1))=false;grind) rfl)))) (f.trans ?_);grind|false=>cases j:dO (m9 (ar n) (bx n).2.1) 0 with|true=>refine bw (bw (sm (bb n) (ad n)) (uN (by grind) (uN rfl (dd (by show (!gA (bx n).2.1 (-1))=true;grind) (bw (th (ar n) (bx n).2.1 h.ok.kB.1) (dd j rfl)))))) rfl|false=>refine bw (bw (sm (bb n) (ad n)) (uN (by grind) (uN rfl (dd (by show (!gA (bx n).2.1 (-1))=true;grind) (bw (th (ar n) (bx n).2.1 h.ok.kB.1) (uN j rfl)))))) (f.trans ?_);grind
def Gp(c:ByteArray)(a:Int)(b:List ao)(q:j8)(t:sM):gd:=(4,(c,(a,(b,(0,(0,(⟨#[]⟩,(0,(0,(⟨#[]⟩,(q.1,(q.2.1,(q.2.2.1,(t.1,(t.2.1,(t.2.2.1,()))))))))))))))))
def tc0:sM:=((0,([],([],()))):sM)
def WS:gd:=(0,(⟨#[]⟩,(0,([],(0,(0,(⟨#[]⟩,(0,(0,(⟨#[]⟩,(0,(0,([],(0,([],([],()))))))))))))))))
def fz(n:a0)(a:Int)(b:ByteArray):gd×((Bool×Unit)×Unit):=bif gA a n.2.1 then(Gp b a (ar n) (bx n) (Fj n),((true,()),()))else match (bk n).find? (λp=>gA p.1 a)with|some p=>(Gp b a (i5 p) (pQ p) tc0,((true,()),()))|none=>(WS,((false,()),()))
theorem LU(n:a0)(a:Int)(c:ByteArray)(h:I4 n):Jq (n,((a,()),((c,()),())))=some (fz n a c):=by have l:=h.l;have o:=h.ok.D7 h.l;have e:=h.ok.Qd h.l;unfold Jq fz;cases r:gA a n.2.1 with
 |true=>exact dd rfl (bw (wb (ar n) l.2.2.1 l.2.2.2.1) (bw (EK (bx n) o.w) (bw (JE (Fj n) e.w e.wh) rfl)))
 |false=>have m:W1 (bk n).length:=l.2.2.2.2.2.2.2.2.2.2.2.1;have j:∀p∈bk n,B0 p:=l.2.2.2.2.2.2.2.2.2.2.2.2;have q:=AH (S:=Int×Unit) (bk n) (λp=>gA p.1 a) (f:=Jq.b0 (n,((a,()),((c,()),())))) (λk=>(k,())) (Sum.inl (((bk n).length:Int),())) (λp=>Sum.inr (Gp c a (i5 p) (pQ p) tc0,((true,()),()))) (λi b=>by
     unfold Jq.b0;have d:=j _ (List.getElem_mem b);refine uL (Int.ofNat_lt.2 b) (bw (cB (xs:=bk n) b) ?_);rw[<-wG b m.l];refine Cg (λg=>?_) (λg=>?_);·rw[show gA (bk n)[i].1 a=true from g];exact bw (cB (xs:=bk n) b) (bw (wb _ d.1 d.2.1) (bw (cB (xs:=bk n) b) (bw (EK (pQ (bk n)[i]) d.2.2) rfl)))
     grind) (by unfold Jq.b0;exact uM (Int.le_refl _) rfl);refine uN rfl (bw q ?_);cases (bk n).find? (λp=>gA p.1 a)<;>rfl
theorem PC(b:ByteArray):∀(k i:Nat)(r:List UInt8),k+i=b.size->ByteArray.toList.loop b i r=r.reverse++b.data.toList.drop i:=by intro k;induction k with|zero=>intro i r h;unfold ByteArray.toList.loop;simp_all|succ k d=>
 intro i r h;unfold ByteArray.toList.loop;have a:i<b.size:=by omega
 rw[if_pos a,d (i+1) _ (by omega)];have f:b.data.toList.drop i=b.get! i::b.data.toList.drop (i+1):=by have c:i<b.data.toList.length:=a;rw[List.drop_eq_getElem_cons c];congr 1;have e:i<b.data.size:=a;simp only[ByteArray.get!];grind
 grind
theorem ER(b:ByteArray):b.toList=b.data.toList:=by unfold ByteArray.toList;simp_all[PC]
theorem ow{a b:ByteArray}:ko a b=true↔a=b:=by
 constructor
 · intro h;have c:a.toList=b.toList:=by unfold ko at h;grind
   rw[ER,ER]at c;cases a with|mk x=>simp_all
 grind[ko,xD]
theorem WT{a b:ByteArray}:ko a b=false↔a≠b:=by grind[ko,ow]
abbrev fv:Type:=sH
def LV(a b:fv):Bool:=gA a.1 b.1&&(gA a.2.1 b.2.1&&(gA a.2.2.1 b.2.2.1&&(gA a.2.2.2.1 b.2.2.2.1&&ko a.2.2.2.2.1 b.2.2.2.2.1)))
theorem JT{a b:fv}:LV a b=true↔a=b:=by obtain⟨e,c,k,j,h,u⟩:=a;obtain⟨f,l,i,g,d,v⟩:=b;unfold LV;simp only[Bool.and_eq_true,Cr,ow];grind
def B4(a:List fv)(s:fv):Bool:=a.any (λx=>LV x s)
theorem Nm{a:List fv}{s:fv}:B4 a s=true↔s∈a:=by
 unfold B4;rw[List.any_eq_true];constructor;·rintro⟨x,b,e⟩;rw[<-JT.1 e];exact b
 ·intro h;exact⟨s,h,JT.2 rfl⟩
def z9(a:List fv)(s:fv):List fv:=bif !B4 a s then a++[s]else a
theorem Nn{a:List fv}{s x:fv}:x∈z9 a s↔x∈a\/x=s:=by unfold z9;cases h:B4 a s with|true=>have :=Nm.1 h;grind|false=>simp
theorem ej:∀{l a:List fv}{x:fv},x∈l.foldl z9 a↔x∈a\/x∈l|[],a,x=>by simp|s::r,a,x=>by rw[List.foldl_cons,ej,Nn,List.mem_cons];grind
theorem IA(a:List fv)(s:fv):(z9 a s).length<=a.length+1:=by unfold z9;grind
theorem Hk:∀(l a:List fv),(l.foldl z9 a).length<=a.length+l.length|[],a=>by simp|s::r,a=>by have b:=Hk r (z9 a s);have c:=IA a s;grind
theorem LW(a:List fv)(s:fv)(c:Al a.length):Jn ((a,()),(s,()))=some (B1 (B4 a s)):=by have d:=Cj (S:=Int×Unit) a (λx=>LV x s) (f:=Jn.b0 ((a,()),(s,()))) (λk=>(k,())) (Sum.inl ((a.length:Int),())) (Sum.inr (B1 true)) (λi b=>by unfold Jn.b0;refine uL (Int.ofNat_lt.2 b) (bw (cB b) ?_);rw[<-wG b c];rfl) (by unfold Jn.b0;exact uM (Int.le_refl _) rfl);unfold Jn;refine bw d ?_;unfold B4;grind
def nv(a:Int)(q:j8):List fv:=q.2.2.1.map (λw=>((1,(a,(q.1,(q.2.1,(w.1,()))))):fv))
def p0(a:Int)(t:sM):List fv:=(List.zip t.2.1 t.2.2.1).map (λp=>((2,(a,(t.1,(p.2.1,(p.1.1,()))))):fv))
def po(a:Int)(b:ao):List fv:=nv a (ia b)++p0 a (o8 b)
def Bk(m:gd):List fv:=(bif !ko (HE m).2.2.1 ⟨#[]⟩then[((1,(m.2.2.1,((HE m).1,((HE m).2.1,((HE m).2.2.1,()))))):fv)]else[])++((bif !ko (HF m).2.2.1 ⟨#[]⟩then[((2,(m.2.2.1,((HF m).1,((HF m).2.1,((HF m).2.2.1,()))))):fv)]else[])++(nv m.2.2.1 (mQ m)++(p0 m.2.2.1 (mT m)++(l8 m).flatMap (po m.2.2.1))))
theorem DO(a:Int)(q:j8):(nv a q).length=List.length q.2.2.1:=by simp_all[fv,nv,D9]
theorem Gq(a:Int)(t:sM):(p0 a t).length=min (List.length t.2.1) (List.length t.2.2.1):=by simp_all[fv,p0,D9,D3]
theorem RU(a:Int)(q:j8)(k:Nat)(h:k<(nv a q).length)(b:k<List.length q.2.2.1):(nv a q)[k]=((1,(a,(q.1,(q.2.1,((q.2.2.1[k]).1,()))))):fv):=List.getElem_map ..
theorem RV(a:Int)(t:sM)(k:Nat)(h:k<(p0 a t).length)(b:k<List.length t.2.1)(c:k<List.length t.2.2.1):(p0 a t)[k]=((2,(a,(t.1,((t.2.2.1[k]).1,((t.2.1[k]).1,()))))):fv):=by simp_all[D9,D3,fv,p0]
theorem JU(a:Int){b:ao}{k:Nat}(c:List.length (ia b).2.2.1<=k)(d:List.length (o8 b).2.1<=k):(po a b).length<=2*k:=by unfold po;rw[List.length_append,DO,Gq];omega
theorem LX(b:List fv)(a:Int)(q:j8)(i:b.length+List.length q.2.2.1<=1000000):Jo ((b,()),((a,()),(q,())))=some ((b++nv a q,()),()):=by
 have g:=DO a q;have h:=cK (f:=Jo.b0 ((b,()),((a,()),(q,())))) (λk=>(b++(nv a q).take k,((k:Int),()))) (List.length q.2.2.1) (e:=Sum.inl (b++nv a q,((List.length q.2.2.1:Int),()))) (λk c=>by
 unfold Jo.b0;refine uL (Int.ofNat_lt.2 c) (bw (cB c) (Cm ?_ (by decide) (by decide) (DQ ?_ (wG (n:=List.length q.2.2.1) c (by omega)))));·grind
 · have d:k<(nv a q).length:=by omega
   show (b++(nv a q).take k)++[_]=b++(nv a q).take (k+1);rw[List.take_succ_eq_append_getElem d,<-List.append_assoc];rw[RU a q k d c]) (by unfold Jo.b0;refine uM (Int.le_refl _) ?_;grind);unfold Jo;grind
theorem LY(b:List fv)(a:Int)(t:sM)(l:b.length+List.length t.2.1<=1000000):Jp ((b,()),((a,()),(t,())))=some ((b++p0 a t,()),()):=by
 have i:=Gq a t;have j:=cK (f:=Jp.b0 ((b,()),((a,()),(t,())))) (λk=>(b++(p0 a t).take k,((k:Int),()))) (p0 a t).length (e:=Sum.inl (b++p0 a t,(((p0 a t).length:Int),()))) (λk g=>by
 have c:k<List.length t.2.1:=by omega
 have d:k<List.length t.2.2.1:=by omega
 unfold Jp.b0;refine uL (Int.ofNat_lt.2 c) (uL (Int.ofNat_lt.2 d) (bw (cB d) (bw (cB c) (Cm ?_ (by decide) (by decide) (DQ ?_ (wG (n:=List.length t.2.1) c (by omega)))))));·grind
 ·show (b++(p0 a t).take k)++[_]=b++(p0 a t).take (k+1);rw[List.take_succ_eq_append_getElem g,<-List.append_assoc];rw[RV a t k g c d]) (by
 unfold Jp.b0;have e:b++(p0 a t).take (p0 a t).length=b++p0 a t:=by grind
 rcases Nat.lt_or_ge (p0 a t).length (List.length t.2.1) with h|h;·refine uL (Int.ofNat_lt.2 h) (uM (Int.ofNat_le.2 (show List.length t.2.2.1<=(p0 a t).length by omega)) ?_);rw[e]
 ·refine uM (Int.ofNat_le.2 h) ?_;rw[e]);unfold Jp;grind
def WU(m:gd):Prop:=List.length (mQ m).2.2.1<=1000/\List.length (mT m).2.1<=1000/\(l8 m).length<=400/\∀b∈l8 m,List.length (ia b).2.2.1<=1000/\List.length (o8 b).2.1<=1000
theorem ri(a:Int):∀(d:List ao),(∀b∈d,List.length (ia b).2.2.1<=1000/\List.length (o8 b).2.1<=1000)->(d.flatMap (po a)).length<=2000*d.length|[],_=>Nat.zero_le _|b::r,h=>by rw[List.flatMap_cons,List.length_append,List.length_cons];have e:=ri a r (λc f=>h c (by grind));have g:=JU a (h b (by simp)).1 (h b (by simp)).2;omega
theorem RW(m:gd)(h:WU m)(o:Al (l8 m).length):Kt (m,())=some ((Bk m,()),()):=by
 obtain⟨y,D,v,p⟩:=h;let A:List fv:=(bif !ko (HE m).2.2.1 ⟨#[]⟩then[((1,(m.2.2.1,((HE m).1,((HE m).2.1,((HE m).2.2.1,()))))):fv)]else[]);let B:List fv:=(bif !ko (HF m).2.2.1 ⟨#[]⟩then[((2,(m.2.2.1,((HF m).1,((HF m).2.1,((HF m).2.2.1,()))))):fv)]else[]);have E:A.length<=1:=by grind
 have x:B.length<=1:=by grind
 have l:∀(R:Type),(bif !ko (HE m).2.2.1 ⟨#[]⟩then (QA ((m.2.2.1,()),(HE m,()))).bind λe=>bif dE (List.length ([]:List fv)+List.length ([e.1]:List fv)) 48 then some (.inl (bV ([]:List fv) ([e.1]:List fv),()))else none else some (.inl (([]:List fv),())))=some (Sum.inl (A,()):Sum (List fv×Unit) R):=by intro R;show _=some (Sum.inl ((bif !ko (HE m).2.2.1 ⟨#[]⟩then[_]else[]),()));cases ko (HE m).2.2.1 ⟨#[]⟩<;>rfl
 have n:∀(R:Type),(bif !ko (HF m).2.2.1 ⟨#[]⟩then (QD ((m.2.2.1,()),(HF m,()))).bind λg=>bif dE (List.length A+List.length ([g.1]:List fv)) 48 then some (.inl (bV A ([g.1]:List fv),())) else none else some (.inl (A,())))=some (Sum.inl (A++B,()):Sum (List fv×Unit) R):=by intro R;show _=some (Sum.inl (A++(bif !ko (HF m).2.2.1 ⟨#[]⟩then[_]else[]),()));cases ko (HF m).2.2.1 ⟨#[]⟩with|true=>simp|false=>exact bw rfl (Cm (by grind) (by decide) (by decide) rfl)
 unfold Kt;refine bw (l _) (bw (n _) (bw (LX (A++B) m.2.2.1 (mQ m) (by grind)) (bw (LY (A++B++nv m.2.2.1 (mQ m)) m.2.2.1 (mT m) (by rw[List.length_append,List.length_append,DO];omega)) ?_)));generalize j:A++B++nv m.2.2.1 (mQ m)++p0 m.2.2.1 (mT m)=O;have u:O.length<=3000:=by rw[<-j,List.length_append,List.length_append,List.length_append,DO,Gq];omega
 have t:=xL (S:=List fv×(Int×Unit)) (l8 m) (λs b=>s++po m.2.2.1 b) (λi s=>s.length<=3000+2000*i) (f:=Kt.b0 (m,())) (λs k=>(s,(k,()))) (λs=>Sum.inl (s,(((l8 m).length:Int),()))) O (by omega) (λi a s w=>by have d:=p _ (List.getElem_mem a);have z:=JU m.2.2.1 d.1 d.2;refine⟨?_,by grind⟩;unfold Kt.b0;refine uL (Int.ofNat_lt.2 a) (bw (cB a) (bw (LX s m.2.2.1 (ia (l8 m)[i]) (by omega)) (bw (cB a) (bw (LY (s++nv m.2.2.1 (ia (l8 m)[i])) m.2.2.1 (o8 (l8 m)[i]) (by rw[List.length_append,DO];omega)) ?_))));refine DQ ?_ (wG a o);unfold po;grind) (λs _=>by unfold Kt.b0;exact uM (Int.le_refl _) rfl);refine bw t.1 ?_;have q:∀(c:List ao) (s:List fv),c.foldl (λs b=>s++po m.2.2.1 b) s=s++c.flatMap (po m.2.2.1):=by intro c;induction c with|nil=>grind|cons b r C=>grind
 rw[q,<-j];show some ((_,()),())=some ((Bk m,()),());have :A++B++nv m.2.2.1 (mQ m)++p0 m.2.2.1 (mT m)++(l8 m).flatMap (po m.2.2.1)=Bk m:=by unfold Bk;grind
 grind
def Gr(a:List fv)(an:List D9)(m:gd):Bool:=(Bk m).all (λs=>j0 an s.2.2.2.2.1||B4 a s)
theorem RX(a:List fv)(an:List D9)(m:gd)(h:WU m)(e:Al (l8 m).length)(d:Al an.length)(c:Al a.length):Ku ((a,()),((an,()),(m,())))=some (B1 (Gr a an m)):=by
 have l:(Bk m).length<=1000000:=by obtain⟨o,p,q,g⟩:=h;have :=ri m.2.2.1 (l8 m) g;unfold Bk;rw[List.length_append,List.length_append,List.length_append,List.length_append,DO,Gq];grind
 have j:=BI (S:=Int×Unit) (Bk m) (λs=>j0 an s.2.2.2.2.1||B4 a s) (f:=Ku.b0 ((Bk m,()),()) ((a,()),((an,()),(m,())))) (λk=>(k,())) (Sum.inl (((Bk m).length:Int),())) (Sum.inr (B1 false)) (λi b=>by unfold Ku.b0;refine uL (Int.ofNat_lt.2 b) (bw (cB b) (bw (qn b) (bw (JB an _ d) ?_)));rw[<-wG b (n:=(Bk m).length) (by omega)];dsimp only;cases j0 an (Bk m)[i].2.2.2.2.1 with|true=>rfl|false=>refine dd rfl (bw (cB b) (bw (qn b) (bw (LW a _ c) ?_)));grind) (by unfold Ku.b0;exact uM (Int.le_refl _) rfl);unfold Ku Gr;refine bw (RW m h e) (bw j ?_);grind
abbrev ev(w:ek):fp:=(w.1,(w.2.1,()))
abbrev c8(w:ek):List D9:=w.2.2.1
abbrev aa(w:ek):List a0:=w.2.2.2.1
abbrev ab(w:ek):List ao:=w.2.2.2.2.1
abbrev gl(w:ek):List fv:=w.2.2.2.2.2.1
abbrev dt(w:ek):List gd:=w.2.2.2.2.2.2.1
abbrev Hl(w:ek)(b:List a0)(a:List ao)(d:List fv)(c:List gd):ek:=(w.1,(w.2.1,(w.2.2.1,(b,(a,(d,(c,())))))))
def s8(a:List a0)(s:ByteArray):Bool:=a.any (λn=>ko n.1 s)
def Qg(a:List a0)(s:ByteArray):Int:=nY a (λn=>ko n.1 s)
def ES(b:List a0)(a:List gd)(m:gd):List gd:=bif s8 b m.2.1&&dO (a.length:Int) 400 then a++[m]else a
def Er(w:ek)(ms:List gd)(a:List fv):ek:=Hl w (aa w) (ab w) (a.foldl z9 (gl w)) (ms.foldl (ES (aa w)) (dt w))
theorem RY(a:List a0)(s:ByteArray):km 0 (Qg a s)=s8 a s:=AG
theorem PD(a:List a0)(s:ByteArray):(s8 a s=false/\Qg a s=-1)\/∃(j:Nat)(c:j<a.length),ko a[j].1 s=true/\s8 a s=true/\Qg a s=(j:Int):=by
 unfold s8 Qg;rcases mA a (λn=>ko n.1 s)with⟨b,_,d⟩|⟨j,c,e,_,b,_,d⟩;·grind
 grind
theorem JV{b:List a0}{a:List gd}{m:gd}(h:a.length<=400):(ES b a m).length<=400:=by unfold ES;cases c:(s8 b m.2.1&&dO (a.length:Int) 400)with|false=>exact h|true=>simp only[Bool.and_eq_true]at c;have :=Cp.1 c.2;grind
theorem IB{b:List a0}:∀{ms a:List gd},a.length<=400->(ms.foldl (ES b) a).length<=400|[],a,h=>h|m::r,a,h=>by rw[List.foldl_cons];exact IB (JV h)
theorem mb{b:List a0}:∀{ms a:List gd}{x:gd},x∈ms.foldl (ES b) a->x∈a\/(x∈ms/\s8 b x.2.1=true)
 |[],a,x,h=>.inl h|m::r,a,x,h=>by
  rw[List.foldl_cons]at h;rcases mb h with h|h;·unfold ES at h;grind
  grind
theorem Gt(w:ek)(ms:List gd)(a:List fv)(l:Al (aa w).length)(e:Al ms.length)(g:Al a.length)(d:(dt w).length<=400)(m:(gl w).length+a.length<=1000000):vn (w,((ms,()),((a,()),())))=some (Er w ms a,()):=by have j:=xL (S:=Int×(List gd×Unit)) ms (ES (aa w)) (λ_ s=>s.length<=400) (f:=vn.b0 (w,((ms,()),((a,()),())))) (λs k=>(k,(s,()))) (λs=>Sum.inl ((ms.length:Int),(s,()))) (dt w) d (λi b s c=>by refine⟨?_,JV c⟩;unfold vn.b0 ES;refine uL (Int.ofNat_lt.2 b) (bw (cB b) (bw (Ic _ ms[i].2.1 l) ?_));rw[<-wG b e];show (bif km 0 (Qg (aa w) ms[i].2.1) then _ else _)=_;rw[RY];cases s8 (aa w) ms[i].2.1 with|false=>rfl|true=>refine dd rfl ?_;show (bif dO (s.length:Int) 400 then _ else _)=_;cases dO (s.length:Int) 400 with|false=>rfl|true=>exact dd rfl (bw (cB b) (Cm (by grind) (by decide) (by decide) rfl))) (λs _=>by unfold vn.b0;exact uM (Int.le_refl _) rfl);have h:=xL (S:=Int×(List fv×Unit)) a z9 (λi s=>s.length<=(gl w).length+i) (f:=vn.b1 (w,((ms,()),((a,()),())))) (λs k=>(k,(s,()))) (λs=>Sum.inl ((a.length:Int),(s,()))) (gl w) (Nat.le_refl _) (λi b s c=>by refine⟨?_,Nat.le_trans (IA _ _) (by omega)⟩;unfold vn.b1 z9;refine uL (Int.ofNat_lt.2 b) (bw (cB b) (bw (LW s a[i] (by omega)) ?_));rw[<-wG b g];dsimp only;cases B4 s a[i]with|true=>rfl|false=>exact dd rfl (bw (cB b) (Cm (by grind) (by decide) (by decide) rfl))) (λs _=>by unfold vn.b1;exact uM (Int.le_refl _) rfl);unfold vn;exact bw j.1 (bw h.1 rfl)
structure WI(E S:Nat)(w:ek):Prop where
 GZ:(Ty.sl cz).Ok (ev w).2.1
 HG:fb (ev w).2.1
 Gj:bm (ev w)=true
 fo:(Ty.sl e9).Ok (c8 w)SU:(c8 w).length<=20
 nl:(aa w).length<=12
 nd:∀n∈aa w,NW n/\n.2.1<=(E:Int)bo:(Ty.sl j7).Ok (ab w)bl:(ab w).length<=1000
 bL:∀b∈ab w,dT b
 so:(Ty.sl FN).Ok (gl w)sl:(gl w).length<=S
 nt:(dt w).length<=400
 nm:∀m∈dt w,FK m/\s8 (aa w) m.2.1=true
theorem WI.up{E S c b:Nat}{w:ek}(h:WI E S w)(e:E<=c)(d:S<=b):WI c b w:=⟨h.GZ,h.HG,h.Gj,h.fo,h.SU,h.nl,λn a=>⟨(h.nd n a).1,by have :=(h.nd n a).2;omega⟩,h.bo,h.bl,h.bL,h.so,Nat.le_trans h.sl d,h.nt,h.nm⟩
theorem RZ{a:List a0}{j:Nat}{n:a0}(c:j<a.length)(e:n.1=a[j].1)(s:ByteArray):s8 (a.set j n) s=s8 a s:=by
 have h:(a.set j n).map (λx=>x.1)=a.map (λx=>x.1):=by
  rw[List.map_set,e];apply List.ext_getElem;·simp
  grind
 have b:∀l:List a0,s8 l s=(l.map (λx=>x.1)).any (λx=>ko x s):=λl=>by unfold s8;grind
 grind
def j5(w:ek)(j:Nat)(n:a0):ek:=Hl w ((aa w).set j n) (ab w) (gl w) (dt w)
theorem An{E S:Nat}{w:ek}(h:WI E S w){j:Nat}(c:j<(aa w).length){n:a0}(e:n.1=(aa w)[j].1)(g:NW n)(f:n.2.1<=(E:Int)):WI E S (j5 w j n):=by
 refine⟨h.GZ,h.HG,h.Gj,h.fo,h.SU,?_,λx d=>?_,h.bo,h.bl,h.bL,h.so,h.sl,h.nt,λm a=>⟨(h.nm m a).1,?_⟩⟩;·show ((aa w).set j n).length<=12;rw[List.length_set];exact h.nl
 · rcases List.mem_or_eq_of_mem_set d with b|rfl;· exact h.nd x b
   grind
 · show s8 ((aa w).set j n) m.2.1=true;rw[RZ c e];exact (h.nm m a).2
theorem ET{E S:Nat}{w:ek}(h:WI E S w){ms:List gd}{b:List fv}(e:∀m∈ms,FK m)(j:∀s∈b,FN.Ok s)(g:S<=900000)(i:b.length<=1):WI E (S+1) (Er w ms b):=by
 have d:=Hk b (gl w);have f:=h.sl;refine⟨h.GZ,h.HG,h.Gj,h.fo,h.SU,h.nl,h.nd,h.bo,h.bl,h.bL,?_,?_,IB h.nt,λm c=>?_⟩
 · refine Dk (Nat.le_trans d (show (gl w).length+b.length<=9223372036854775807 by omega)) (λs c=>?_);rcases ej.1 c with a|a;· exact Ae h.so.2 a
   grind
 · show (b.foldl z9 (gl w)).length<=S+1;omega
 · rcases mb c with a|a;· exact h.nm m a
   · exact⟨e m a.1,a.2⟩
theorem G6{a:List ds}{name:ByteArray}{m:gd}{b:Int}(d:(Ty.sl va).Ok a)(h:∀v∈a,FK (C6 m v.1 b)):∀x∈mu a name m b,FK x:=by intro x c;unfold mu at c;grind
theorem LZ{n:a0}{b:ao}(e:NW n)(c:j7.Ok b)(f:dT b)(j:n.2.1<890):(∀m∈(gk n b).2.1,FK m)/\(∀s∈(gk n b).2.2,FN.Ok s)/\(gk n b).2.2.length<=1/\(gk n b).2.1.length<=1048576:=by
 obtain⟨a,l⟩:=ns e c f j;have d:=JS n b a.v.h.l.2.1;refine⟨?_,?_,d.2,d.1⟩;·unfold gk;cases A9 n b with|false=>grind|true=>exact G6 a.v.h.ok.set (λv i=>⟨⟨rfl,(Ae a.v.h.ok.set.2 i).1,a.v.h.ok.2.1,CK,c.2.2.1,c.1,a.v.h.ok.1,rfl,rfl,Nat.zero_le _,rfl,rfl,CK,rfl,CK,CK,trivial⟩,⟨Nat.zero_le _,(λx k=>by cases k),Nat.zero_le _,Nat.zero_le _,Nat.zero_le _⟩,λh=>by cases h⟩)
 ·unfold gk;cases A9 n b with|false=>grind|true=>intro s g;rw[List.mem_singleton.1 g];exact⟨rfl,e.v.h.ok.2.1,c.2.2.1,c.1,a.v.h.ok.1,trivial⟩
theorem L3{n:a0}{m:gd}(e:NW n)(a:FK m)(f:n.2.1<890):(∀x∈(fl n m).2.1,FK x)/\(∀s∈(fl n m).2.2,FN.Ok s)/\(fl n m).2.2.length<=1/\(fl n m).2.1.length<=1048576:=by have g:(∀x∈([]:List gd),FK x)/\(∀s∈([]:List fv),FN.Ok s)/\([]:List fv).length<=1/\([]:List gd).length<=1048576:=⟨(λx h=>by cases h),(λx h=>by cases h),Nat.zero_le _,Nat.zero_le _⟩;unfold fl;cases d:gA m.1 1 with
 |true=>have i:=a.pr (Cr.1 d);cases j:l8 m with|nil=>grind|cons b r=>have c:=a.ok.kp a.l b (by grind);exact LZ e c.1 c.2 f
 |false=>grind
theorem JW{n:a0}(a:NW n):(∀x∈(fa n).2.1,FK x)/\(∀s∈(fa n).2.2,FN.Ok s)/\(fa n).2.2.length<=1/\(fa n).2.1.length<=1048576:=by have b:=a.v.h.ok.D7 a.v.h.l;have d:=a.v.h.ok.set;have c:=a.v.h.ok;unfold fa;cases(Ff (bb n) n.1&&!dO (ad n) (fr n)) with|false=>grind|true=>refine⟨G6 d (λv f=>⟨⟨rfl,(Ae d.2 f).1,c.2.1,CK,rfl,rfl,Nat.zero_le _,a.v.h.round,b.i1,c.1,b.i1,b.i2,b.ok,rfl,CK,CK,trivial⟩,⟨Nat.zero_le _,(λx g=>by cases g),b.w,Nat.zero_le _,Nat.zero_le _⟩,λh=>by cases h⟩),λs e=>?_,Nat.le_refl _,Nat.le_trans (Ek _ _ _ _) a.v.h.l.2.1⟩;rw[List.mem_singleton.1 e];exact⟨rfl,c.2.1,a.v.h.round,b.i1,c.1,trivial⟩
theorem Gu{n:a0}{a:Int}(f:NW n)(g:(Lit.int .i64 a).wf=true)(q:n.2.1<890):(∀x∈(ee n a).2.2.1,FK x)/\(∀s∈(ee n a).2.2.2,FN.Ok s)/\(ee n a).2.2.2.length<=1/\(ee n a).2.2.1.length<=2097152/\((ee n a).2.1=[]/\(ee n a).1=n\/(ee n a).2.1=[ie n a]/\hu (ie n a)=true):=by have h:=f.v.h;obtain⟨e,d⟩:=sv h g;have i:=s7 f h.round;obtain⟨z,k,j,u⟩:=LZ i e d q;have c:=h.ok.set;have o:=h.ok;unfold ee;cases r:Fo n a with|false=>grind|true=>
 refine⟨λx b=>?_,k,j,?_,.inr ⟨rfl,?_⟩⟩
 · rcases List.mem_append.1 b with b|b;· exact G6 (m:=ov (ie n a) n.2.1) c (λv p=>⟨⟨rfl,(Ae c.2 p).1,o.2.1,Dk (by decide:1<=9223372036854775807) (λy l=>by rw[List.mem_singleton.1 l];exact e),rfl,rfl,Nat.zero_le _,rfl,rfl,Nat.zero_le _,rfl,rfl,CK,rfl,CK,CK,trivial⟩,⟨(by decide:1<=1048576),(λx b=>by rw[List.mem_singleton.1 b];exact d),Nat.zero_le _,Nat.zero_le _,Nat.zero_le _⟩,λ_ h=>by cases h⟩) x b
   grind
 · show (mu (bb n) n.1 (ov (ie n a) n.2.1) n.2.1++(gk (n7 n (ad n)) (ie n a)).2.1).length<=2097152;rw[List.length_append];have t:=Ek (bb n) n.1 (ov (ie n a) n.2.1) n.2.1;have w:(bb n).length<=1048576:=h.l.2.1;omega
 · unfold Fo at r;grind
theorem p8{n:a0}{b:Int}{g:ByteArray}(l:NW n)(k:(Lit.int .i64 b).wf=true)(j:Al g.size)(h:(fz n b g).2.1.1=true):FK (fz n b g).1:=by have f:=l.v.h.ok;have c:=l.v.h.l;have e:=f.D7 c;have a:=f.Qd c;unfold fz at h⊢;cases o:gA b n.2.1 with|true=>exact⟨⟨rfl,j,k,f.kB,rfl,rfl,Nat.zero_le _,rfl,rfl,Nat.zero_le _,e.i1,e.i2,e.ok,a.i1,a.ok,a.hi,trivial⟩,⟨c.2.2.1,c.2.2.2.1,e.w,a.w,a.wh⟩,λh=>by cases h⟩|false=>rw[o]at h;cases q:(bk n).find? (λp=>gA p.1 b)with|none=>grind|some p=>have m:=List.mem_of_find?_eq_some q;have i:B0 p:=c.2.2.2.2.2.2.2.2.2.2.2.2 p m;have d:Hr.Ok p:=Ae f.2.2.2.2.2.2.2.2.2.2.2.2.2.2.2.2.2.2.2.1.2 m;simp only[cond_false];exact⟨⟨rfl,j,k,d.2.1,rfl,rfl,Nat.zero_le _,rfl,rfl,Nat.zero_le _,d.2.2.1,d.2.2.2.1,d.2.2.2.2.1,rfl,CK,CK,trivial⟩,⟨i.1,i.2.1,i.2.2,Nat.zero_le _,Nat.zero_le _⟩,λh=>by cases h⟩
noncomputable def mh(w:ek)(m:gd):ek:=match(aa w)[(Qg (aa w) m.2.1).toNat]? with|some n=>bif gA n.2.1 m.2.2.1 then Er (j5 w (Qg (aa w) m.2.1).toNat (fl n m).1) (fl n m).2.1 (fl n m).2.2 else w|none=>w
theorem D0{w:ek}{m:gd}(h:s8 (aa w) m.2.1=true):∃(j:Nat)(b:j<(aa w).length),(aa w)[j].1=m.2.1/\Qg (aa w) m.2.1=(j:Int)/\mh w m=bif gA (aa w)[j].2.1 m.2.2.1 then Er (j5 w j (fl (aa w)[j] m).1) (fl (aa w)[j] m).2.1 (fl (aa w)[j] m).2.2 else w:=by
 rcases PD (aa w) m.2.1 with⟨a,_⟩|⟨j,b,a,_,c⟩;·grind
 ·refine⟨j,b,ow.1 a,c,?_⟩;unfold mh;simp_all
theorem KS{E S:Nat}{w:ek}{m:gd}(h:WI E S w)(u:E<890)(t:S<=900000)(c:FK m)(i:s8 (aa w) m.2.1=true):QB (w,(m,()))=some (mh w m,()):=by
 obtain⟨j,a,_,g,l⟩:=D0 i;have d:Al (aa w).length:=by have :=h.nl;omega
 obtain⟨b,s⟩:=h.nd _ (List.getElem_mem a);rw[l];unfold QB;have k:Qc (w,((m.2.1,()),()))=some (I1 (j:Int)):=(Ic w m.2.1 d).trans (by rw[show nY w.2.2.2.1 (λn=>ko n.1 m.2.1)=(j:Int) from g]);refine bw k (bw (cB a) (bw (qn a) ?_));show (bif gA (aa w)[j].2.1 m.2.2.1 then _ else _)=_;cases f:gA (aa w)[j].2.1 m.2.2.1 with|false=>rfl|true=>
 have e:=Cr.1 f;obtain⟨o,r,p,q⟩:=L3 b c (by omega);refine dd rfl (bw (qn a) (bw (WN (aa w)[j] m b c e.symm (by omega)) (bw rfl (bw (Gt (j5 w j (fl (aa w)[j] m).1) (fl (aa w)[j] m).2.1 (fl (aa w)[j] m).2.2 ?_ ?_ ?_ h.nt ?_) rfl))));·simp_all[Al,a0,aa,j5,gd,sH,fl]
 ·omega
 ·omega
 ·have :=h.sl;show (gl w).length+_<=1000000;omega
theorem L4{E S:Nat}{w:ek}{m:gd}(h:WI E S w)(r:E<890)(k:S<=900000)(b:FK m)(n:s8 (aa w) m.2.1=true):WI (E+1) (S+1) (mh w m):=by obtain⟨j,a,_,v,g⟩:=D0 n;obtain⟨c,q⟩:=h.nd _ (List.getElem_mem a);rw[g];cases o:gA (aa w)[j].2.1 m.2.2.1 with|false=>grind[WI.up]|true=>have d:=Cr.1 o;obtain⟨e,i,f,t⟩:=L3 c b (by omega);obtain⟨p,l,s,u⟩:=HO c b d.symm (by omega);exact ET (An (h.up (Nat.le_succ _) (Nat.le_refl _)) a l p (by omega)) e i k f
def vl(w:ek)(k:Nat):ek:=Hl w (aa w) (ab w) (gl w) ((dt w).take k++(dt w).drop (k+1))
theorem G7{w:ek}{k:Nat}{m:gd}(h:m∈dt (vl w k)):m∈dt w:=by
 rcases List.mem_append.1 h with h|h;·grind
 grind
theorem PE(w:ek)(k:Nat):(dt (vl w k)).length<=(dt w).length:=by show ((dt w).take k++(dt w).drop (k+1)).length<=_;grind
theorem pt{E S:Nat}{w:ek}(h:WI E S w)(k:Nat):WI E S (vl w k):=⟨h.GZ,h.HG,h.Gj,h.fo,h.SU,h.nl,h.nd,h.bo,h.bl,h.bL,h.so,h.sl,Nat.le_trans (PE w k) h.nt,λm a=>h.nm m (G7 a)⟩
noncomputable def Fp(w:ek)(j:Nat)(n:a0):ek:=Er (Hl w ((aa w).set j (ee n ((ab w).length:Int)).1) (ab w++(ee n ((ab w).length:Int)).2.1) (gl w) (dt w)) (ee n ((ab w).length:Int)).2.2.1 (ee n ((ab w).length:Int)).2.2.2
noncomputable def B5(w:ek)(j:Nat)(n:a0):ek:=Er (j5 w j (fa n).1) (fa n).2.1 (fa n).2.2
def B6(w:ek)(n k:a0):ek:=bif(fz n k.2.1 k.1).2.1.1 then Er w [(fz n k.2.1 k.1).1] []else w
theorem B7{n:Nat}(h:n<=1000000):(Lit.int .i64 (n:Int)).wf=true:=by grind[DX]
theorem PF(w:ek):Er w [] []=w:=rfl
theorem N8{E S:Nat}{w:ek}(h:WI E S w)(u:E<890)(t:S<=900000){j:Nat}(b:j<(aa w).length)(q:(ab w).length<1000):MW (w,(((j:Int),()),()))=some ((!gA ((ee (aa w)[j] ((ab w).length:Int)).2.1.length:Int) 0,()),(Fp w j (aa w)[j],())):=by
 obtain⟨f,s⟩:=h.nd _ (List.getElem_mem b);have c:=B7 (n:=(ab w).length) (by omega);obtain⟨g,l,k,i,e⟩:=Gu f c (by omega);have p:=h.nl;unfold MW Fp;refine uN (by show km 1000 ((ab w).length:Int)=false;exact CM.2 (by omega)) (bw (cB b) (bw (qn b) (bw (WQ (aa w)[j] ((ab w).length:Int) f c (by omega)) (bw rfl ?_))));generalize m:ee (aa w)[j] ((ab w).length:Int)=r at g l k i e;show (bif gA (r.2.1.length:Int) 0 then _ else _)=_;rcases e with⟨a,o⟩|⟨a,_⟩
 · have d:r.2.2.1=[]/\r.2.2.2=[]:=by rw[<-m]at a⊢;unfold ee at a⊢;grind
   rw[a,o,d.1,d.2,PF,List.append_nil];rfl
 · rw[a];refine uN rfl (dd (BO (by grind) (by decide) (by decide)) (bw (Gt (Hl w ((aa w).set j r.1) (ab w++[ie (aa w)[j] ((ab w).length:Int)]) (gl w) (dt w)) r.2.2.1 r.2.2.2 ?_ ?_ ?_ h.nt ?_) rfl));· grind
   · omega
   · omega
   · have :=h.sl;grind
theorem R0{E S:Nat}{w:ek}(h:WI E S w)(x:E<890)(p:S<=900000){j:Nat}(k:j<(aa w).length)(s:(ab w).length<1000):WI (E+1) (S+1) (Fp w j (aa w)[j]):=by
 obtain⟨f,t⟩:=h.nd _ (List.getElem_mem k);have d:=B7 (n:=(ab w).length) (by omega);obtain⟨l,o,m,A,u⟩:=Gu f d (by omega);obtain⟨r,q,y,B⟩:=HP f d (by omega);obtain⟨z,v⟩:=sv f.v.h d;have a:=An (h.up (Nat.le_succ E) (Nat.le_refl S)) k q r (by omega);refine ET (w:=Hl w ((aa w).set j (ee (aa w)[j] ((ab w).length:Int)).1) (ab w++(ee (aa w)[j] ((ab w).length:Int)).2.1) (gl w) (dt w)) ?_ l o p m;have i:∀b∈ab w++(ee (aa w)[j] ((ab w).length:Int)).2.1,j7.Ok b/\dT b:=λb c=>by
  rcases List.mem_append.1 c with e|e;·exact⟨Ae h.bo.2 e,h.bL b e⟩
  grind
 have g:(ab w++(ee (aa w)[j] ((ab w).length:Int)).2.1).length<=1000:=by grind
 exact⟨a.GZ,a.HG,a.Gj,a.fo,a.SU,a.nl,a.nd,Dk (Nat.le_trans g (by decide)) (λb c=>(i b c).1),g,λb c=>(i b c).2,a.so,a.sl,a.nt,a.nm⟩
theorem L5{E S:Nat}{w:ek}(h:WI E S w)(l:E<890)(k:S<=900000){j:Nat}(a:j<(aa w).length):OU (w,(((j:Int),()),()))=some ((dO 0 ((fa (aa w)[j]).2.2.length:Int),()),(B5 w j (aa w)[j],())):=by
 obtain⟨b,i⟩:=h.nd _ (List.getElem_mem a);obtain⟨d,g,f,e⟩:=JW b;have c:=h.nl;unfold OU B5;refine bw (cB a) (bw (qn a) (bw (RS (aa w)[j] b (by omega)) (bw rfl (bw (Gt (j5 w j (fa (aa w)[j]).1) (fa (aa w)[j]).2.1 (fa (aa w)[j]).2.2 ?_ ?_ ?_ h.nt ?_) rfl))));·show Al ((aa w).set j _).length;grind
 ·omega
 ·omega
 ·have :=h.sl;show (gl w).length+_<=1000000;omega
theorem PG{E S:Nat}{w:ek}(h:WI E S w)(n:E<890)(i:S<=900000){j:Nat}(a:j<(aa w).length):WI (E+1) (S+1) (B5 w j (aa w)[j]):=by obtain⟨b,l⟩:=h.nd _ (List.getElem_mem a);obtain⟨d,g,f,k⟩:=JW b;obtain⟨e,c,o,m⟩:=Gn b (by omega);exact ET (An (h.up (Nat.le_succ E) (Nat.le_refl S)) a c e (by omega)) d g i f
theorem R1{E S:Nat}{w:ek}(h:WI E S w)(l:S<=900000){j k:Nat}(a:j<(aa w).length)(b:k<(aa w).length):OV (w,(((j:Int),()),(((k:Int),()),())))=some (((fz (aa w)[j] (aa w)[k].2.1 (aa w)[k].1).2.1.1,()),(B6 w (aa w)[j] (aa w)[k],())):=by
 obtain⟨d,i⟩:=h.nd _ (List.getElem_mem a);have f:=h.nl;have e:Di (k:Int) 0 (gS .i64 ((aa w).length:Int) 1)=true:=by rw[iz (by omega) (by omega)];simp[Di,km];omega
 unfold OV B6;refine bw (l6 _ _ _) (uN (by grind) ?_);refine bw (cB a) (bw (qn a) (bw (cB b) (bw (qn b) (bw (cB b) (bw (qn b) (bw (qn a) (bw (qn a) (bw (qn a) (bw (qn a) (bw (LU (aa w)[j] (aa w)[k].2.1 (aa w)[k].1 d.v.h) ?_))))))))));generalize fz (aa w)[j] (aa w)[k].2.1 (aa w)[k].1=r;obtain⟨m,⟨c,u⟩,g⟩:=r;cases c with|false=>rfl|true=>have n:=Gt w [m] [] (by omega) (by grind) (by grind) h.nt (by have :=h.sl;grind);grind
theorem PH{E S:Nat}{w:ek}(h:WI E S w)(c:S<=900000){j k:Nat}(d:j<(aa w).length)(e:k<(aa w).length):WI E (S+1) (B6 w (aa w)[j] (aa w)[k]):=by obtain⟨g,l⟩:=h.nd _ (List.getElem_mem d);obtain⟨a,_⟩:=h.nd _ (List.getElem_mem e);unfold B6;cases b:(fz (aa w)[j] (aa w)[k].2.1 (aa w)[k].1).2.1.1 with|false=>grind[WI.up]|true=>exact ET h (λm i=>by rw[List.mem_singleton.1 i];exact p8 g a.v.h.ok.2.1 a.v.h.ok.1 b) (λs f=>by cases f) c (Nat.zero_le _)
theorem JX(l:List cl)(t:cl)(w:(Ty.sl i3).Ok l)(C:W1 l.length)(H:i3.Ok t):Y (Ld ((l,()),(t,()))) (λy=>(y.2.1.1=false/\y.1.1=l)\/(y.2.1.1=true/\sT l=true/\sT y.1.1=true/\(Ty.sl i3).Ok y.1.1/\List.length y.1.1<=20/\List.length y.1.1=l.length+1)):=by
 unfold W1 at C;unfold Ld;refine Y.dE (by grind) (by decide) (by decide) (Y.dE (by simp only[List.length_cons,List.length_nil,bV,List.nil_append];omega) (by decide) (by decide) ?_);have z:List.length (bV (bV ([]:List cl) l) [t])=l.length+1:=by simp_all[cl,bV]
 have A:∀x∈bV (bV ([]:List cl) l) [t],i3.Ok x:=λx b=>by
  unfold bV at b;rw[List.nil_append]at b;rcases List.mem_append.1 b with h|h;·exact Ae w.2 h
  grind
 have L:gS .i64 (List.length (bV (bV ([]:List cl) l) [t]):Int) 1=(l.length:Int):=by rw[z,iz]<;>omega
 refine Y.DZ (P:=λv=>0<=v.1/\v.1<(List.length v.2.1:Int)/\List.length v.2.1=l.length+1/\∀x∈v.2.1,i3.Ok x) (R:=λ_=>False) (Y.loop (I:=λv=>0<=v.1/\v.1<(List.length v.2.1:Int)/\List.length v.2.1=l.length+1/\∀x∈v.2.1,i3.Ok x) (λv=>v.1.toNat) (λv j=>?_) _ ?_) (λv j=>?_) (λ_ h=>h.elim)
 · obtain⟨k,o,u⟩:=v;obtain⟨c,d,f,a⟩:=j;dsimp only at c d f a;unfold Ld.b0;refine Y.DY (λp=>?_) (λ_=>Y.rl ⟨c,d,f,a⟩);have p:0<k:=Cp.1 p;have e:gS .i64 k 1=k-1:=iz (by omega) (by omega);refine Y.Eb (by grind) (by grind) λs B=>?_;have E:=a s B;refine Y.bind (Y.of (Q:=λ_=>True) (LA t s) trivial) λJ _=>Y.DY (λ_=>?_) (λ_=>Y.rl ⟨c,d,f,a⟩);refine Y.Eb (by grind) (by grind) λF D=>Y.Eb c d λK _=>Y.so (Y.l ⟨⟨?_,?_,?_,?_⟩,?_⟩);· grind
   · grind
   · grind
   · intro x b;rcases List.mem_or_eq_of_mem_set b with i|rfl;· exact a x i
     · exact a _ D
   grind
 · refine⟨?_,?_,z,A⟩;· grind
   grind
 · obtain⟨k,o,u⟩:=v;obtain⟨c,d,f,a⟩:=j;dsimp only at c d f a;refine Y.Eb c d λG _=>Y.so ?_;have n:List.length (o.set k.toNat t)=l.length+1:=by grind
   have q:(Ty.sl i3).Ok (o.set k.toNat t):=Dk (Nat.le_trans (Nat.le_of_eq n) (show l.length+1<=9223372036854775807 by omega)) (λx b=>by
   rcases List.mem_or_eq_of_mem_set b with i|rfl;· exact a x i
   omega);have m:Y (bif dE (List.length ([]:List cl)+l.length) 56 then some ((bV ([]:List cl) l,()),((false,()),())) else none) (λy=>(y.2.1.1=false/\y.1.1=l)\/(y.2.1.1=true/\sT l=true/\sT y.1.1=true/\(Ty.sl i3).Ok y.1.1/\List.length y.1.1<=20/\List.length y.1.1=l.length+1)):=Y.dE (by grind) (by decide) (by decide) (Y.mk (.inl ⟨rfl,by simp[bV]⟩));refine Y.eq (Q4 l w) (Y.DY (λ_=>m) (λr=>Y.eq (Q4 (o.set k.toNat t) q) (Y.DY (λ_=>m) (λg=>Y.mk ?_))));have r:sT l=true:=by grind
   have g:sT (o.set k.toNat t)=true:=by grind
   refine .inr ⟨rfl,r,g,q,?_,n⟩;have :=g;unfold sT at this;simp only[Bool.and_eq_true]at this;have :=Cq.1 this.2;grind
def Es(n:a0)(q:List cl):a0:=(n.1,(n.2.1,(n.2.2.1,(n.2.2.2.1,(n.2.2.2.2.1,(n.2.2.2.2.2.1,(n.2.2.2.2.2.2.1,(n.2.2.2.2.2.2.2.1,(n.2.2.2.2.2.2.2.2.1,(n.2.2.2.2.2.2.2.2.2.1,(n.2.2.2.2.2.2.2.2.2.2.1,(n.2.2.2.2.2.2.2.2.2.2.2.1,(n.2.2.2.2.2.2.2.2.2.2.2.2.1,(n.2.2.2.2.2.2.2.2.2.2.2.2.2.1,(n.2.2.2.2.2.2.2.2.2.2.2.2.2.2.1,(n.2.2.2.2.2.2.2.2.2.2.2.2.2.2.2.1,(n.2.2.2.2.2.2.2.2.2.2.2.2.2.2.2.2.1,(n.2.2.2.2.2.2.2.2.2.2.2.2.2.2.2.2.2.1,(q,(n.2.2.2.2.2.2.2.2.2.2.2.2.2.2.2.2.2.2.2.1,()))))))))))))))))))))
def EC(n:a0):a0:=Es (Ep (C5 n []) []) []
theorem HQ(n:a0):(EC n).1=n.1:=rfl
theorem HR(n:a0):(EC n).2.1=n.2.1:=rfl
theorem Uf(n:a0):fr (EC n)=fr n:=rfl
theorem Ug(n:a0):bb (EC n)=bb n:=rfl
theorem L6{n:a0}(a:NW n){q:List cl}(c:(Ty.sl i3).Ok q)(b:W1 q.length):NW (Es n q):=by have h:=a.v.h;have o:=h.ok;have l:=h.l;refine NW.Qf (E:=n.2.1.toNat) (P:=n.2.1.toNat) ⟨⟨⟨o.1,o.2.1,o.2.2.1,o.2.2.2.1,o.2.2.2.2.1,o.2.2.2.2.2.1,o.2.2.2.2.2.2.1,o.2.2.2.2.2.2.2.1,o.2.2.2.2.2.2.2.2.1,o.2.2.2.2.2.2.2.2.2.1,o.2.2.2.2.2.2.2.2.2.2.1,o.2.2.2.2.2.2.2.2.2.2.2.1,o.2.2.2.2.2.2.2.2.2.2.2.2.1,o.2.2.2.2.2.2.2.2.2.2.2.2.2.1,o.2.2.2.2.2.2.2.2.2.2.2.2.2.2.1,o.2.2.2.2.2.2.2.2.2.2.2.2.2.2.2.1,o.2.2.2.2.2.2.2.2.2.2.2.2.2.2.2.2.1,o.2.2.2.2.2.2.2.2.2.2.2.2.2.2.2.2.2.1,c,o.2.2.2.2.2.2.2.2.2.2.2.2.2.2.2.2.2.2.2.1,trivial⟩,?_,h.t,h.d,h.p⟩,a.v.Gj,a.v.ep,a.v.le,a.v.vo,a.v.go,a.v.dn,a.v.pa⟩ a.e0 a.pa;exact⟨l.1,l.2.1,l.2.2.1,l.2.2.2.1,l.2.2.2.2.1,l.2.2.2.2.2.1,l.2.2.2.2.2.2.1,l.2.2.2.2.2.2.2.1,l.2.2.2.2.2.2.2.2.1,l.2.2.2.2.2.2.2.2.2.1,b,l.2.2.2.2.2.2.2.2.2.2.2.1,l.2.2.2.2.2.2.2.2.2.2.2.2⟩
theorem Uh{n:a0}(a:NW n):NW (EC n):=L6 (LS (C9 a CK (Nat.zero_le _)) CK (Nat.zero_le _)) CK (Nat.zero_le _)
theorem gx{x a b:Int}:Di x a b=true↔a<=x/\x<=b:=by simp[Di,km]
structure WV(b:ao):Prop where
 id:0<=b.1/\b.1<=100000
 ep:0<=b.2.1/\b.2.1<=900
 rd:1<=b.2.2.1/\b.2.2.1<=10000
 by':fk b.2.2.2.1=true
 qc:He (ia b) (gS .i64 b.2.2.1 1) (gS .i64 b.1 1)=true
 tc:JC (o8 b) (gS .i64 b.2.2.1 1)=true
 tl:(n9 b).length<=4
 tx:(n9 b).all NG=true
 bo:H7 b=true
theorem KT{b:ao}(h:hu b=true):WV b:=by unfold hu at h;simp only[Bool.and_eq_true,Bool.not_eq_true']at h;obtain⟨a,e,k,i,c,j,g,f,d⟩:=h;exact⟨gx.1 a,gx.1 e,gx.1 k,i,c,j,by have :=Au.1 g;omega,f,d⟩
theorem JY{l:List D9}(h:mm l=true):l.length<=20:=by unfold mm at h;simp only[Bool.and_eq_true]at h;have :=Cq.1 h.2;omega
theorem N9{q:j8}{r i:Int}(h:He q r i=true):List.length q.2.2.1<=20:=by
 unfold He kf at h;simp only[Bool.or_eq_true,Bool.and_eq_true]at h;rcases h with h|h;·simp_all[D9,gA,Cr]
 ·exact JY h.2.2
theorem Oa{t:sM}{r:Int}(h:JC t r=true):List.length t.2.1<=20/\List.length t.2.2.1=List.length t.2.1:=by
 unfold JC rf at h;simp only[Bool.or_eq_true,Bool.and_eq_true]at h;rcases h with h|h;·simp_all[D9,D3,gA,Cr]
 ·have a:=Cr.1 h.2.2.1;exact⟨JY h.2.1,by omega⟩
structure Ui(m:gd):Prop where
 to:fk m.2.1=true
 ep:0<=m.2.2.1/\m.2.2.1<=900
 q:He (mQ m) 10000 100000=true
 t:JC (mT m) 10000=true
 bs:∀b∈l8 m,hu b=true/\b.2.1=m.2.2.1
 bl:(l8 m).length<=400
 kd:xC m.1 ((l8 m).length:Int) (Y9 m) (U0 m) (TX m) (Wm m) (kf (mQ m)) (rf (mT m))=true
theorem WW{m:gd}(h:EB m=true):Ui m:=by unfold EB Fk at h;simp only[Bool.and_eq_true,List.all_eq_true]at h;obtain⟨d,e,j,g,⟨c,i⟩,f⟩:=h;exact⟨d,gx.1 e,j,g,λb a=>⟨(c b a).1,Cr.1 (c b a).2⟩,by have :=Cq.1 i;omega,f⟩
theorem Ui.s{m:gd}(h:Ui m):WU m:=⟨Nat.le_trans (N9 h.q) (by decide),Nat.le_trans (Oa h.t).1 (by decide),h.bl,λb c=>by have a:=KT (h.bs b c).1;exact⟨Nat.le_trans (N9 a.qc) (by decide),Nat.le_trans (Oa a.tc).1 (by decide)⟩⟩
structure FL(w:ek)(m:gd)(nb:List ao):Prop where
 Jw:FK m
 ok:EB m=true
 to:s8 (aa w) m.2.1=true
 sg:Gr (gl w) (c8 w) m=true
 Hm:(l8 m).length<=1
 nw:nb=[]\/∃b,l8 m=[b]/\nb=[b]/\b.1=((ab w).length:Int)/\j0 (c8 w) b.2.2.2.1=true/\(ab w).length<1000
 aW1:nb=[]->∀b∈l8 m,b.1<((ab w).length:Int)/\Hg (ab w) b=true
def u5(w:ek)(m:gd)(a:List ao):ek:=Er (Hl w (aa w) (ab w++a) (gl w) (dt w)) [m] []
structure Uj(m:gd):Prop where
 ok:Ia m
 l:G1 m
 Hm:(l8 m).length<=1
theorem Uj.Jw{m:gd}(h:Uj m)(b:EB m=true):FK m:=⟨h.ok,h.l,λe c=>by unfold EB at b;simp only[Bool.and_eq_true]at b;have a:=b.2.2.2.2.2;unfold xC at a;rw[e,c]at a;simp[gA]at a⟩
theorem Uk{E S:Nat}{w:ek}(h:WI E S w)(φ:S<=900000){m:gd}(d:Uj m):Y (vv (w,(m,()))) (λy=>(y.1.1=false/\y.2.1=w)\/(y.1.1=true/\∃a,FL w m a/\y.2.1=u5 w m a)):=by
 have J:Al (aa w).length:=by have :=h.nl;omega
 have j:Al (c8 w).length:=by have :=h.SU;omega
 have δ:Al (gl w).length:=by have :=h.sl;omega
 have τ:(ab w).length<=1000:=h.bl;have g:Y (some ((((false,()),(w,())):(Bool×Unit)×(ek×Unit)))) (λy=>(y.1.1=false/\y.2.1=w)\/(y.1.1=true/\∃a,FL w m a/\y.2.1=u5 w m a)):=Y.mk (.inl ⟨rfl,rfl⟩);have u:=d.Hm;have N:∀a:List ao,vn (Hl w (aa w) (ab w++a) (gl w) (dt w),((([m]:List gd),()),((([]:List fv),()),())))=some (u5 w m a,()):=λa=>Gt (Hl w (aa w) (ab w++a) (gl w) (dt w)) [m] [] J (by grind) (by grind) h.nt (by have :=h.sl;grind);have F:vn (w,((([m]:List gd),()),((([]:List fv),()),())))=some (u5 w m [],()):=by grind
 unfold vv;refine Y.eq (Zb m d.ok) (Y.DY (λ_=>g) (λf=>?_));have f:EB m=true:=by grind
 refine Y.eq (Ic w m.2.1 J) (Y.DY (λ_=>g) (λi=>?_));have i:s8 (aa w) m.2.1=true:=by have e:=RY (aa w) m.2.1;rw [<-e];have :=Au.1 i;exact GY this
 refine Y.eq (RX (gl w) (c8 w) m (WW f).s d.ok.bs.1 j δ) (Y.DY (λ_=>g) (λn=>?_));have n:Gr (gl w) (c8 w) m=true:=by grind
 have z:=d.Jw f;have Q:∀b∈l8 m,hu b=true:=λb k=>by have :=f;unfold EB Fk at this;grind
 match k:l8 m with
 |[]=>refine Y.eq (y:=Sum.inl ((0:Int),())) (cS ?_) (Y.eq (Im m d.l) (Y.eq F (Y.mk (.inr ⟨rfl,[],⟨z,f,i,n,u,.inl rfl,λ_ b D=>(by grind)⟩,rfl⟩))));unfold vv.b0;exact uM (show ((l8 m).length:Int)<=0 by grind) rfl|[b]=>
 have D:b∈l8 m:=by grind
 have γ:=d.ok.kp d.l b D;have θ:=Q b D;have U:=(Ri θ).1;have v:(0:Int)<((l8 m).length:Int):=by grind
 have B:bK (l8 m) 0=some b:=by rw [k];rfl
 have P:vv.b0 (w,(m,())) ((1:Int),())=some (.inr (.inl ((1:Int),()))):=by unfold vv.b0;exact uM (show ((l8 m).length:Int)<=1 by omega) rfl
 by_cases p:b.1<((ab w).length:Int);·have I:=TZ U p;have G:aC (ab w) (Int.toNat b.1)=some ((ab w)[b.1.toNat]'(by omega)):=qn (by omega);have K:=O7 ((ab w)[b.1.toNat]'(by omega)) b (Ae h.bo.2 (List.getElem_mem _));cases ω:rv ((ab w)[b.1.toNat]'(by omega)) b with|false=>refine Y.eq (y:=Sum.inr ((false,()),(w,()))) (cS ?_) g;unfold vv.b0;refine uL v (bw B (uL p (bw I (bw G (bw K (dd (by grind) rfl))))))|true=>
  refine Y.eq (y:=Sum.inl ((1:Int),())) ?_ (Y.eq (Im m d.l) (Y.eq F (Y.mk (.inr ⟨rfl,[],⟨z,f,i,n,u,.inl rfl,λ_ c L=>?_⟩,rfl⟩))))
  · have β:vv.b0 (w,(m,())) ((0:Int),())=some (.inl ((1:Int),())):=by unfold vv.b0;refine uL v (bw B (uL p (bw I (bw G (bw K (uN (by grind) rfl))))))
    rw [de β];exact cS P
  · rw [k,List.mem_singleton] at L;rw [L];refine ⟨p,?_⟩;unfold Hg;grind
 · have X:dO b.1 ((ab w).length:Int)=false:=Au.2 (by omega);have t:∀r,(bif gA b.1 ((ab w).length:Int) then (FV ((c8 w,()),((b.2.2.2.1,()),()))).bind λμ=>bif μ.1.1 then bif dO ((ab w).length:Int) (1000:Int) then bif dE (List.length ([]:List ao)+(ab w).length) 208 then (H0 (b,())).bind λM=>bif dE (List.length (bV ([]:List ao) (ab w))+List.length ([M.1]:List ao)) 208 then Option.map (λq=>.inr (.inr q)) ((aR (vv.b1 (w,(m,()))) (bV (bV ([]:List ao) (ab w)) ([M.1]:List ao),(cM .i64 (0:Int) (1:Int),()))).bind λV=>Sum.elim (λZ=>(Jf (m,())).bind λx=>(vn (Hl w (aa w) Z.1 (gl w) (dt w),((([x.1]:List gd),()),((([]:List fv),()),())))).bind λC=>some ((true,()),(C.1,()))) some V) else none else none else some (.inr (.inr ((false,()),(w,())))) else some (.inr (.inr ((false,()),(w,())))) else some (.inr (.inr ((false,()),(w,())))):Option (Sum (Int×Unit) (Sum (Int×Unit) ((Bool×Unit)×(ek×Unit)))))=r->vv.b0 (w,(m,())) ((0:Int),())=r:=λr κ=>by unfold vv.b0;exact uL v (bw B (uN X κ))
   have H:vv.b0 (w,(m,())) ((0:Int),())=some (.inr (.inr ((false,()),(w,()))))->Y ((aR (vv.b0 (w,(m,()))) ((0:Int),())).bind λε=>Sum.elim (λσ=>(Jf (m,())).bind λT=>(vn (w,((([T.1]:List gd),()),((([]:List fv),()),())))).bind λW=>some ((true,()),(W.1,()))) some ε) (λy=>(y.1.1=false/\y.2.1=w)\/(y.1.1=true/\∃a,FL w m a/\y.2.1=u5 w m a)):=λe=>Y.eq (cS e) g;cases l:gA b.1 ((ab w).length:Int) with|false=>grind|true=>have α:=Cr.1 l;cases o:j0 (c8 w) b.2.2.2.1 with|false=>exact H (t _ (dd l (bw (JB (c8 w) _ j) (uN o rfl))))|true=>cases A:dO ((ab w).length:Int) 1000 with|false=>exact H (t _ (dd l (bw (JB (c8 w) _ j) (dd o (uN A rfl)))))|true=>
 have ρ:=Cp.1 A;have O:vv.b1 (w,(m,())) (ab w++[b],((1:Int),()))=some (.inr (.inl (ab w++[b],((1:Int),())))):=by unfold vv.b1;exact uM (show ((l8 m).length:Int)<=1 by omega) rfl
 have R:vv.b0 (w,(m,())) ((0:Int),())=some (.inr (.inr ((true,()),(u5 w m [b],())))):=by refine t _ (dd l (bw (JB (c8 w) _ j) (dd o (dd A (dd (BO (by grind) (by decide) (by decide)) (bw (GS b γ.2) (dd (BO (by show (([]:List ao)++ab w).length+1<=_;grind) (by decide) (by decide)) ?_)))))));have π:(aR (vv.b1 (w,(m,()))) (bV (bV ([]:List ao) (ab w)) [b],(cM .i64 0 1,())))=some (Sum.inl (ab w++[b],((1:Int),()))):=cS O;show Option.map _ ((aR (vv.b1 (w,(m,()))) (bV (bV ([]:List ao) (ab w)) [b],(cM .i64 0 1,()))).bind _)=_;rw [π];have ψ:((Jf (m,())).bind λx=>(vn (Hl w (aa w) (ab w++[b]) (gl w) (dt w),((([x.1]:List gd),()),((([]:List fv),()),())))).bind λC=>some (((true,()),(C.1,())):(Bool×Unit)×(ek×Unit)))=some ((true,()),(u5 w m [b],())):=bw (Im m d.l) (bw (N [b]) rfl);grind
 exact Y.eq (cS R) (Y.mk (.inr ⟨rfl,[b],⟨z,f,i,n,u,.inr ⟨b,k,rfl,α,o,by omega⟩,λe=>by cases e⟩,rfl⟩))|b::c::r=>grind
theorem PI{E S:Nat}{w:ek}(h:WI E S w)(l:S<=900000){m:gd}{g:List ao}(f:FL w m g):WI E (S+1) (u5 w m g):=by
 have k:∀b∈g,j7.Ok b/\dT b:=λb d=>by
  rcases f.nw with e|⟨c,o,j,_⟩;·grind
  ·rw[j,List.mem_singleton]at d;rw[d];exact f.Jw.ok.kp f.Jw.l c (by grind)
 have i:(ab w++g).length<=1000:=by
  rw[List.length_append];rcases f.nw with e|⟨c,o,j,_,_,q⟩;·rw[e];have :=h.bl;omega
  grind
 refine ET (w:=Hl w (aa w) (ab w++g) (gl w) (dt w)) ⟨h.GZ,h.HG,h.Gj,h.fo,h.SU,h.nl,h.nd,Dk (Nat.le_trans i (by decide)) (λb d=>?_),i,λb d=>?_,h.so,h.sl,h.nt,h.nm⟩ (λx p=>by rw[List.mem_singleton.1 p];exact f.Jw) (λs n=>by cases n) l (Nat.zero_le _)
 · rcases List.mem_append.1 d with a|a;· exact Ae h.bo.2 a
   · exact (k b a).1
 · rcases List.mem_append.1 d with a|a;· exact h.bL b a
   grind
def FR(w:ek)(m:gd):Prop:=m.1≠4/\∃n∈aa w,((HE m).1<=1\/(HE m).1<=ad n\/∃b∈ar n,(HE m).1=b.2.2.1)/\((HF m).1=0\/(HF m).1=ad n)/\∀b∈l8 m,b.2.2.1<=ad n+((bb n).length:Int)
inductive qL(w:ek):ek->Prop|same:qL w w|Eb(m:gd):m∈dt w->(dt w).length<400->qL w (Hl w (aa w) (ab w) (gl w) (dt w++[m]))|drop (k:Nat):qL w (vl w k)|ti (k:Nat) (hk:k<(dt w).length):qL w (mh (vl w k) (dt w)[k])|Jx (j:Nat) (hj:j<(aa w).length):(ab w).length<1000->qL w (Fp w j (aa w)[j])|Fq (j:Nat) (hj:j<(aa w).length):qL w (B5 w j (aa w)[j])|IC (j:Nat) (hj:j<(aa w).length) (k:Nat) (hk:k<(aa w).length):qL w (B6 w (aa w)[j] (aa w)[k])|EU (j:Nat) (hj:j<(aa w).length) (q:List cl):(q=l9 (aa w)[j]\/(sT (l9 (aa w)[j])=true/\sT q=true))->(Ty.sl i3).Ok q->W1 q.length->qL w (j5 w j (Es (aa w)[j] q))|FM (j:Nat) (hj:j<(aa w).length):qL w (j5 w j (EC (aa w)[j]))|ID (m:gd) (nb:List ao):FL w m nb->FR w m->qL w (u5 w m nb)|Gv (j:Nat) (hj:j<(aa w).length) (k:Nat) (hk:k<(aa w).length):(fz (aa w)[j] (aa w)[k].2.1 (aa w)[k].1).2.1.1=true->qL w (mh w (fz (aa w)[j] (aa w)[k].2.1 (aa w)[k].1).1)
theorem E9{a:List a0}{k:Nat}(b:k<a.length):s8 a a[k].1=true:=by unfold s8;rw[List.any_eq_true];exact⟨a[k],List.getElem_mem b,xD _⟩
theorem w6(n:a0)(a:Int)(b:ByteArray)(h:(fz n a b).2.1.1=true):(fz n a b).1.2.1=b/\(fz n a b).1.2.2.1=a/\(fz n a b).1.1=4:=by unfold fz at h⊢;cases c:gA a n.2.1 with|true=>exact⟨rfl,rfl,rfl⟩|false=>rw[c]at h;cases d:(bk n).find? (λp=>gA p.1 a)with|none=>grind|some p=>exact⟨rfl,rfl,rfl⟩
theorem qL.wi{E S:Nat}{w o:ek}(s:qL w o)(h:WI E S w)(r:E<890)(f:S<=900000):WI (E+1) (S+1) o:=by
 cases s with|same=>grind[WI.up]|Eb m d p=>
 refine WI.up (E:=E) (S:=S) ⟨h.GZ,h.HG,h.Gj,h.fo,h.SU,h.nl,h.nd,h.bo,h.bl,h.bL,h.so,h.sl,?_,λx u=>?_⟩ (Nat.le_succ _) (Nat.le_succ _);·grind
 · rcases List.mem_append.1 u with g|g;· exact h.nm x g
   · rw[List.mem_singleton.1 g];exact h.nm m d|drop k=>grind[WI.up,vl,pt]|ti k b=>have d:=h.nm _ (List.getElem_mem b);exact L4 (pt h k) r f d.1 d.2|Jx j a y=>grind[R0]|Fq j a=>grind[PG]|IC j a k b=>exact (PH h f a b).up (Nat.le_succ _) (Nat.le_refl _)|EU j a q _ v p=>obtain⟨c,e⟩:=h.nd _ (List.getElem_mem a);exact (An (n:=Es (aa w)[j] q) h a rfl (L6 c v p) e).up (Nat.le_succ _) (Nat.le_succ _)|FM j a=>obtain⟨c,e⟩:=h.nd _ (List.getElem_mem a);exact (An (n:=EC (aa w)[j]) h a (HQ _) (Uh c) (by rw[HR];exact e)).up (Nat.le_succ _) (Nat.le_succ _)|ID m z A _=>grind[WI.up,u5,PI]|Gv j a k b l=>obtain⟨c,_⟩:=h.nd _ (List.getElem_mem a);obtain⟨i,_⟩:=h.nd _ (List.getElem_mem b);have t:=w6 _ _ _ l;exact L4 h r f (p8 c i.v.h.ok.2.1 i.v.h.ok.1 l) (by rw[t.1];exact E9 b)
abbrev Ul:Type:=Qh
def eT(e:Ul):cl:=(e.2.2.2.1,(e.2.2.2.2.1,(e.2.2.2.2.2.1,(e.2.2.2.2.2.2.1,(e.2.2.2.2.2.2.2.1,())))))
def eM(e:Ul):gd:=e.2.2.2.2.2.2.2.2
structure No(e:Ul):Prop where t:i3.Ok (eT e)m:Uj (eM e)
theorem JZ{w:ek}{k:Nat}(b:k<(dt w).length)(a:(dt w).length<=400):bV (bV ([]:List gd) (List.take (Int.toNat (k:Int)-0) (List.drop 0 (dt w)))) (List.take ((dt w).length-Int.toNat (cM .i64 (k:Int) 1)) (List.drop (Int.toNat (cM .i64 (k:Int) 1)) (dt w)))=(dt w).take k++(dt w).drop (k+1):=by have e:cM .i64 (k:Int) 1=((k+1:Nat):Int):=wG (n:=400) (by omega) (by omega);rw[e,BM,Int.toNat_natCast];unfold bV;rw[List.nil_append];congr 1;rw[List.take_of_length_le];grind
theorem Zv{E S:Nat}{w:ek}(h:WI E S w)(s:E<890)(r:S<=900000)(e:Ul):Y (MV (w,(e,()))) (λy=>qL w y.2.1):=by
 have j:=h.nt;have p:gS .i64 ((dt w).length:Int) 1=((dt w).length:Int)-1:=iz (by omega) (by omega);unfold MV;refine Y.eq (l6 _ _ _) (Y.DY (λ_=>Y.mk .same) (λc=>?_));have c:Di e.2.1 0 (gS .i64 ((dt w).length:Int) 1)=true:=by grind
 rw[p]at c;have c:0<=e.2.1/\e.2.1<=((dt w).length:Int)-1:=by simpa[Di,km]using c
 obtain⟨k,g⟩:=Int.eq_ofNat_of_zero_le c.1;have b:k<(dt w).length:=by omega
 have i:=h.nm _ (List.getElem_mem b);have t:bK (dt w) e.2.1=some (dt w)[k]:=by rw[g];exact cB b
 have x:aC (dt w) (Int.toNat e.2.1)=some (dt w)[k]:=by rw[g];exact qn b
 refine Y.eq t (Y.eq x (Y.DY (λ_=>?_) (λ_=>?_)))
 · refine Y.DZ (P:=λv=>v.1=dt w\/((dt w).length<400/\v.1=dt w++[(dt w)[k]])) (R:=λ_=>False) (Y.DY (λf=>Y.eq (Im _ i.1.l) (Y.dE (by grind) (by decide) (by decide) (Y.l (.inr ⟨by have z:((dt w).length:Int)<400:=Cp.1 f;omega,rfl⟩)))) (λ_=>Y.l (.inl rfl))) (λv a=>Y.mk ?_) (λ_ h=>h.elim);rcases a with a|⟨f,a⟩;· show qL w (Hl w (aa w) (ab w) (gl w) v.1);rw[a];exact .same
   · show qL w (Hl w (aa w) (ab w) (gl w) v.1);rw[a];exact .Eb _ (List.getElem_mem b) f
 · have B:cM .i64 (k:Int) 1=((k+1:Nat):Int):=wG (n:=400) (by omega) (by omega);have u:mX e.2.1 (dt w).length=true:=by unfold mX;grind
   have q:mX (cM .i64 e.2.1 1) (dt w).length=true:=by unfold mX;grind
   have o:=JZ b j;refine Y.tt u (Y.dE (by grind) (by decide) (by decide) (Y.tt q (Y.dE ?_ (by decide) (by decide) ?_)));· have A:List.length w.2.2.2.2.2.2.1<=400:=j;unfold bV;grind
   · have d:(Hl w (aa w) (ab w) (gl w) (bV (bV ([]:List gd) (List.take (Int.toNat e.2.1-0) (List.drop 0 (dt w)))) (List.take ((dt w).length-Int.toNat (cM .i64 e.2.1 1)) (List.drop (Int.toNat (cM .i64 e.2.1 1)) (dt w)))))=vl w k:=by rw[g];show Hl w (aa w) (ab w) (gl w) (bV (bV ([]:List gd) (List.take (Int.toNat (k:Int)-0) (List.drop 0 (dt w)))) (List.take ((dt w).length-Int.toNat (cM .i64 (k:Int) 1)) (List.drop (Int.toNat (cM .i64 (k:Int) 1)) (dt w))))=_;rw[o];rfl
     have m:=KS (pt h k) s r i.1 i.2;rw[<-d]at m;refine Y.DZ (P:=λv=>qL w v) (R:=λ_=>False) (Y.DY (λ_=>Y.eq m (Y.l ?_)) (λ_=>Y.l ?_)) (λv a=>Y.mk a) (λ_ h=>h.elim);· show qL w (mh _ _);rw[d];exact .ti k b
     · show qL w (Hl w (aa w) (ab w) (gl w) _);rw[d];exact .drop k
theorem PJ(n:a0):VP (n,())=some (EC n,()):=rfl
theorem aW2{E S:Nat}{w:ek}(h:WI E S w)(n:E<890)(c:S<=900000){e:Ul}(t:No e)(I:gA e.1 9=true->FR w (eM e)):Y (ZM (w,(e,()))) (λy=>qL w y.2.1):=by
 have K:=h.nl;have u:gS .i64 ((aa w).length:Int) 1=((aa w).length:Int)-1:=iz (by omega) (by omega);unfold ZM;refine Y.DZ (P:=λ_=>True) (R:=λ_=>False) (Y.DY (λ_=>Y.l trivial) (λ_=>Y.DY (λ_=>Y.l trivial) (λ_=>Y.l trivial))) (λv _=>Y.DY (λ_=>Y.bind (Zv h n c e) λy b=>Y.mk b) (λ_=>Y.DY (λB=>Y.bind (Uk h c t.m) λy b=>Y.mk ?_) (λ_=>Y.eq (l6 _ _ _) (Y.DY (λ_=>Y.mk .same) (λf=>?_))))) (λ_ h=>h.elim)
 · rcases b with⟨_,b⟩|⟨_,D,o,b⟩;· rw[b];exact .same
   · rw[b];exact .ID _ D o (I B)
 · have f:Di e.2.1 0 (gS .i64 ((aa w).length:Int) 1)=true:=by grind
   rw[u]at f;have f:0<=e.2.1/\e.2.1<=((aa w).length:Int)-1:=by simpa[Di,km]using f
   obtain⟨j,d⟩:=Int.eq_ofNat_of_zero_le f.1;have a:j<(aa w).length:=by omega
   obtain⟨i,L⟩:=h.nd _ (List.getElem_mem a);have p:bK (aa w) e.2.1=some (aa w)[j]:=by rw[d];exact cB a
   have r:aC (aa w) (Int.toNat e.2.1)=some (aa w)[j]:=by rw[d];exact qn a
   refine Y.DY (λ_=>?_) (λ_=>Y.DY (λ_=>?_) (λ_=>Y.DY (λ_=>?_) (λ_=>Y.DY (λ_=>?_) (λ_=>Y.DY (λ_=>?_) (λ_=>Y.mk .same)))))
   · show Y ((MW (w,((e.2.1,()),()))).bind _) _;rw[d];rcases Nat.lt_or_ge (ab w).length 1000 with l|l;· exact Y.eq (N8 h n c a l) (Y.mk (.Jx j a l))
     · refine Y.eq (y:=((false,()),(w,()))) ?_ (Y.mk .same);unfold MW;exact dd (by show km 1000 ((ab w).length:Int)=true;exact Cq.2 (by omega)) rfl
   · show Y ((OU (w,((e.2.1,()),()))).bind _) _;rw[d];exact Y.eq (L5 h n c a) (Y.mk (.Fq j a))
   · show Y ((OV (w,((e.2.1,()),((e.2.2.1,()),())))).bind _) _;rw[d];by_cases g:0<=e.2.2.1/\e.2.2.1<=((aa w).length:Int)-1
     · obtain⟨k,H⟩:=Int.eq_ofNat_of_zero_le g.1;have s:k<(aa w).length:=by omega
       rw[H];exact Y.eq (R1 h c a s) (Y.mk (.IC j a k s))
     · refine Y.eq (y:=((false,()),(w,()))) ?_ (Y.mk .same);unfold OV;have M:Di e.2.2.1 0 (gS .i64 ((aa w).length:Int) 1)=false:=by rw[u];cases o:Di e.2.2.1 0 (((aa w).length:Int)-1) with|false=>rfl|true=>exact absurd (by simpa[Di,km]using o) g
       exact bw (l6 _ _ _) (dd (by grind) rfl)
   · show Y ((Tt (w,((e.2.1,()),(eT e,())))).bind _) _;have F:=JX (l9 (aa w)[j]) (eT e) i.v.h.ok.ki i.v.h.l.2.2.2.2.2.2.2.2.2.2.1 t.t;refine Y.bind (P:=λy=>qL w y.2.1) ?_ (λy b=>Y.mk b);unfold Tt;refine Y.eq p (Y.eq r (Y.bind F λx g=>Y.eq p (Y.eq r (Y.eq rfl (Y.mk ?_)))));have z:qL w (j5 w j (Es (aa w)[j] x.1.1)):=by
      rcases g with⟨_,m⟩|⟨_,G,A,C,J,_⟩;· exact .EU j a _ (.inl m) (by rw[m];exact i.v.h.ok.ki) (by rw[m];exact i.v.h.l.2.2.2.2.2.2.2.2.2.2.1)
      · exact .EU j a _ (.inr ⟨G,A⟩) C (Nat.le_trans J (by decide))
     have q:Int.toNat e.2.1=j:=by omega
     show qL w (Hl w ((aa w).set (Int.toNat e.2.1) (Es (aa w)[j] x.1.1)) (ab w) (gl w) (dt w));rw[q];exact z
   · refine Y.eq p (Y.eq r (Y.eq (PJ _) (Y.eq rfl (Y.mk ?_))));have q:Int.toNat e.2.1=j:=by omega
     show qL w (Hl w ((aa w).set (Int.toNat e.2.1) (EC (aa w)[j])) (ab w) (gl w) (dt w));rw[q];exact .FM j a
theorem Zw{t:cl}(h:txS t):i3.Ok t:=⟨DX (by have :=h.2.1;omega) (by have :=h.1;omega),Nat.le_trans h.2.2.1 (by decide),Nat.le_trans h.2.2.2.1 (by decide),DX (by have :=h.2.2.2.2.1;omega) (by have :=h.2.2.2.2.2.1;omega),DX (by have :=h.2.2.2.2.2.2.1;omega) (by have :=h.2.2.2.2.2.2.2;omega),trivial⟩
theorem R2(c:Nh)(a:Int)(p:vc c)(w:a<=1000):Y (MN (c,((a,()),()))) (λy=>(Ty.sl i3).Ok y.1.1/\List.length y.1.1<=20/\vc y.2.1/\y.2.1.1=c.1):=by
 unfold MN;refine Y.bind (ke c a p) λt g=>?_;refine Y.DZ (P:=λv=>(Ty.sl i3).Ok v.1/\List.length v.1<=20/\vc v.2.2/\v.2.2.1=c.1) (R:=λ_=>False) (Y.loop (I:=λv=>0<=v.2.1/\v.2.1<=1000/\(Ty.sl i3).Ok v.1/\List.length v.1<=20/\vc v.2.2/\v.2.2.1=c.1) (λv=>v.2.1.toNat) (λv k=>?_) _ ⟨g.1,?_,CK,Nat.zero_le _,g.2.2.2.1,g.2.2.2.2⟩) (λv k=>Y.mk k) (λ_ h=>h.elim)
 · obtain ⟨o,i,r⟩:=v;obtain ⟨s,q,l,d,b,j⟩:=k;dsimp only at s q l d b j;unfold MN.b0;refine Y.DY (λm=>?_) (λ_=>Y.rl ⟨l,d,b,j⟩);have m:0<i:=Cp.1 m;have e:gS .i64 i 1=i-1:=iz (by omega) (by omega);refine Y.bind (U5 r b) λn f=>Y.bind (JX o n.1 l (Nat.le_trans d (by decide)) (Zw f.1)) λu x=>Y.l ⟨⟨?_,?_,?_,?_,f.2.1,f.2.2.trans j⟩,?_⟩;· grind
   · grind
   · grind
   · grind
   grind
 grind
theorem L7{b:List ds}{d:ByteArray}{a r:Int}(t:0<=a)(c:Ff b d=true)(f:∀s,a<=s->s<r->oj b s≠d):r<=a+(b.length:Int):=by
 rcases Int.lt_or_le (a+(b.length:Int)) r with m|n
 · exfalso;unfold Ff at c;rw[List.any_eq_true]at c;obtain⟨v,k,h⟩:=c;obtain⟨i,o,rfl⟩:=List.getElem_of_mem k;have l:=ow.1 h;have e:(0:Int)<(b.length:Int):=by omega
   have g:∃s:Int,a<=s/\s<a+(b.length:Int)/\s%(b.length:Int)=(i:Int):=by
    refine⟨a+((i:Int)-a)%(b.length:Int),?_,?_,?_⟩;· have :=Int.emod_nonneg ((i:Int)-a) (show(b.length:Int)≠0 by omega);omega
    · have :=Int.emod_lt_of_pos ((i:Int)-a) e;omega
    · rw[Int.add_emod,Int.emod_emod_of_dvd _ (Int.dvd_refl _),<-Int.add_emod];rw[show a+((i:Int)-a)=(i:Int) by omega];exact Int.emod_eq_of_lt (by omega) (by omega)
   obtain⟨s,j,w,p⟩:=g;refine f s j (by omega) ?_;unfold oj;have u:gA (b.length:Int) 0=false:=CN.2 (by omega);have q:dO s 0=false:=Au.2 (by omega);have x:ph s (b.length:Int)=(i:Int):=by unfold ph;grind
   grind
 omega
abbrev FvT:Type:=List D5×(Int×(Int×(Int×(Int×(Int×(ByteArray×(Int×(Int×(List D9×(Int×(Int×(ByteArray×(List ao×Unit)))))))))))))
def U6(b:ByteArray)(a:Int)(v:FvT):gd:=(v.2.2.2.1,(b,(a,(v.2.2.2.2.2.2.2.2.2.2.2.2.2.1,(v.2.2.2.2.1,(v.2.2.2.2.2.1,(v.2.2.2.2.2.2.1,(v.2.2.2.2.2.2.2.2.2.2.1,(v.2.2.2.2.2.2.2.2.2.2.2.1,(v.2.2.2.2.2.2.2.2.2.2.2.2.1,(v.2.2.2.2.2.2.2.1,(v.2.2.2.2.2.2.2.2.1,(v.2.2.2.2.2.2.2.2.2.1,(0,([],([],()))))))))))))))))
theorem IE{k f n h i e o j:Int}{m l g:ByteArray}{c:List ao}{a:List D9}(z:(Lit.int .i64 k).wf=true)(q:Al m.size)(s:(Lit.int .i64 f).wf=true)(r:∀b∈c,j7.Ok b/\dT b)(d:c.length<=1)(x:(Lit.int .i64 n).wf=true)(C:(Lit.int .i64 h).wf=true)(v:Al l.size)(B:(Lit.int .i64 i).wf=true)(w:(Lit.int .i64 e).wf=true)(D:Al g.size)(A:(Lit.int .i64 o).wf=true)(y:(Lit.int .i64 j).wf=true)(u:(Ty.sl e9).Ok a)(p:W1 a.length):Uj ((k,(m,(f,(c,(n,(h,(l,(i,(e,(g,(o,(j,(a,(0,([],([],())))))))))))))))):gd):=⟨⟨z,q,s,Dk (Nat.le_trans d (by decide)) (λb t=>(r b t).1),x,C,v,B,w,D,A,y,u,rfl,CK,CK,trivial⟩,⟨by grind,by grind,p,Nat.zero_le _,Nat.zero_le _⟩,d⟩
end Go.Proofs.YthjkikiepdnimaaGreat
