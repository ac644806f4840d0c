/- Plain laws, part 3: what the program's functions and the reference's compute, told as plain words. Conditions: none. -/
import Derived.Test.YthjkikiepdnimaaGreatFzU2
set_option linter.unusedVariables false
set_option linter.unusedSimpArgs false
set_option linter.constructorNameAsVariable false
namespace Go.Proofs.YthjkikiepdnimaaGreat
open Go Go.Tm
set_option maxRecDepth 100000
def UC(n:a0)(a:ByteArray)(r:Int)(q:j4)(j8:List cp):a0:=(a,(n.2.1,(n.2.2.1,(n.2.2.2.1,(n.2.2.2.2.1,(n.2.2.2.2.2.1,(r,(n.2.2.2.2.2.2.2.1,(q.1,(q.2.1,(q.2.2.1,(n.2.2.2.2.2.2.2.2.2.2.2.1,(n.2.2.2.2.2.2.2.2.2.2.2.2.1,(n.2.2.2.2.2.2.2.2.2.2.2.2.2.1,(n.2.2.2.2.2.2.2.2.2.2.2.2.2.2.1,(n.2.2.2.2.2.2.2.2.2.2.2.2.2.2.2.1,(n.2.2.2.2.2.2.2.2.2.2.2.2.2.2.2.2.1,(n.2.2.2.2.2.2.2.2.2.2.2.2.2.2.2.2.2.1,(j8,(n.2.2.2.2.2.2.2.2.2.2.2.2.2.2.2.2.2.2.2.1,()))))))))))))))))))))
theorem RD{n:a0}(h:Jf n){b:ByteArray}{r:Int}{q:j4}{j8:List cp}(d:Al b.size)(e:(Lit.int .i64 r).wf=true)(a:FF q)(f:(Ty.sl il).Ok j8)(c:W1 j8.length):Jf (UC n b r q j8):=by have o:=h.ok;have l:=h.l;refine⟨⟨d,o.2.1,o.2.2.1,o.2.2.2.1,o.2.2.2.2.1,o.2.2.2.2.2.1,e,o.2.2.2.2.2.2.2.1,a.i1,a.i2,a.ok,o.2.2.2.2.2.2.2.2.2.2.2.1,o.2.2.2.2.2.2.2.2.2.2.2.2.1,o.2.2.2.2.2.2.2.2.2.2.2.2.2.1,o.2.2.2.2.2.2.2.2.2.2.2.2.2.2.1,o.2.2.2.2.2.2.2.2.2.2.2.2.2.2.2.1,o.2.2.2.2.2.2.2.2.2.2.2.2.2.2.2.2.1,o.2.2.2.2.2.2.2.2.2.2.2.2.2.2.2.2.2.1,f,o.2.2.2.2.2.2.2.2.2.2.2.2.2.2.2.2.2.2.2.1,trivial⟩,?_,h.t,h.d,h.p⟩;exact⟨l.1,l.2.1,l.2.2.1,l.2.2.2.1,a.w,l.2.2.2.2.2.1,l.2.2.2.2.2.2.1,l.2.2.2.2.2.2.2.1,l.2.2.2.2.2.2.2.2.1,l.2.2.2.2.2.2.2.2.2.1,c,l.2.2.2.2.2.2.2.2.2.2.2.1,l.2.2.2.2.2.2.2.2.2.2.2.2⟩
theorem RE{E S:Nat}{w:en}(h:WI E S w)(hE:E<890)(al:aa w≠[])(ω:hu w≠[])(c:MY)(hc:tR c)(ai:∀n∈aa w,0<=ad n/\ad n<=100000/\(bb n).length<=12):Y (MB (c,(w,()))) (λy=>TV y.1/\FR w y.1/\tR y.2.1/\y.2.1.1=c.1/\y.2.2.1=w):=by
 have ao:(0:Int)<((aa w).length:Int):=by have :=List.length_pos_iff.2 al;omega
 have ae:(0:Int)<((hu w).length:Int):=by have :=List.length_pos_iff.2 ω;omega
 have aG:=h.bl;unfold MB;refine Y.bind (j6 c _ hc) λσ u=>?_;have aI:=u.2.1 ao;obtain⟨j,ρ⟩:=Int.eq_ofNat_of_zero_le u.1;have M:j<(aa w).length:=by grind
 have θ:bK (aa w) σ.1.1=some (aa w)[j]:=by rw[ρ];exact cB M
 have m:aC (aa w) (Int.toNat σ.1.1)=some (aa w)[j]:=by rw[ρ];exact qn M
 have g:(aa w)[j]∈aa w:=List.getElem_mem M;refine Y.eq θ (Y.eq m ?_);generalize (aa w)[j]=n at θ m g;obtain⟨z,aM⟩:=h.nd n g;obtain⟨an,ag,aB⟩:=ai n g;have d:=z.v.h.ok;have O:=z.v.h.l;have V:=d.C6 O;refine Y.bind (j6 _ _ u.2.2.2.1) λy3 J=>?_;refine Y.bind (Y.gi (xs:=hu w) (Q:=λx=>x∈hu w) J.1 (J.2.1 ae) λ_ h=>h) λo ψ=>?_;have B:Al o.1.size:=(Ae h.fo.2 ψ).1;refine Y.bind (j6 _ _ J.2.2.2.1) λX T=>?_;have af:X.2.1.1=c.1:=T.2.2.2.2.trans (J.2.2.2.2.trans u.2.2.2.2);have aE:=T.2.1 (by decide);have e7:gS .i64 (ad n) X.1.1=ad n-X.1.1:=iz (by omega) (by omega);refine Y.DZ (P:=λv=>(Lit.int .i64 v.1).wf=true/\(v.1<=1\/v.1<=ad n)) (R:=λ_=>False) (Y.DY (λ_=>Y.l ⟨rfl,.inl (Int.le_refl _)⟩) (λ_=>Y.l ⟨Dm _ _,.inr ?_⟩)) (λv6 π=>?_) (λ_ h=>h.elim);·grind
 refine Y.DZ (P:=λv=>tR (v.1,(v.2.1,(v.2.2.1,())))/\v.1=c.1/\TV (UB n.1 n.2.1 v)/\FR w (UB n.1 n.2.1 v)) (R:=λ_=>False) ?_ (λv f=>Y.mk ⟨f.2.2.1,f.2.2.2,f.1,f.2.1,rfl⟩) (λ_ h=>h.elim);refine Y.bind (j6 _ _ T.2.2.2.1) λy8 K=>?_;have k:y8.2.1.1=c.1:=K.2.2.2.2.trans af;refine Y.DZ (P:=λ_=>True) (R:=λ_=>False) (Y.DY (λ_=>Y.l trivial) (λ_=>Y.l trivial)) (λv9 _=>?_) (λ_ h=>h.elim);refine Y.DY (λ_=>?_) (λ_=>Y.DY (λ_=>?_) (λ_=>?_))
 · have au:cM .i64 ((ab w).length:Int) 1=((ab w).length:Int)+1:=ed (by omega) (by omega);refine Y.bind (j6 _ _ K.2.2.2.1) λα t=>?_;have φ:α.1.1<cM .i64 ((ab w).length:Int) 1:=t.2.1 (by grind);rw[au]at φ;have av:(Lit.int .i64 α.1.1).wf=true:=DX (by omega) (by omega);refine Y.DY (λZ=>?_) (λ_=>Y.l ⟨t.2.2.2.1,t.2.2.2.2.trans k,Is rfl d.1 d.2.1 (λb a=>by cases a) (Nat.zero_le _) π.1 av B rfl rfl (Nat.zero_le _) rfl rfl CK (Nat.zero_le _),⟨(by show (2:Int)≠4;decide),n,g,?_,.inl rfl,λb a=>by cases a⟩⟩)
   · have Z:(0:Int)<((ar n).length:Int):=Cp.1 Z;have aO:=z.v.h.t.KP;refine Y.bind (j6 _ _ t.2.2.2.1) λq D=>Y.ff rfl ?_;have aD:q.1.1<((ar n).length:Int):=D.2.1 Z;have τ:=D.1;have eq:AV .i64 q.1.1 2=q.1.1/2:=by unfold AV;rw[Int.tdiv_eq_ediv_of_nonneg τ,nU (by omega) (by omega)]
     have es:gS .i64 ((ar n).length:Int) 1=((ar n).length:Int)-1:=iz (by omega) (by omega);have aL:gS .i64 (((ar n).length:Int)-1) (q.1.1/2)=((ar n).length:Int)-1-q.1.1/2:=iz (by omega) (by omega);refine Y.gT (xs:=ar n) (by grind) (by grind) λb a=>Y.l ?_;have μ:j3.Ok b:=Ae d.ki.2 a;exact⟨D.2.2.2.1,D.2.2.2.2.trans (t.2.2.2.2.trans k),Is rfl d.1 d.2.1 (λb a=>by cases a) (Nat.zero_le _) μ.2.2.1 μ.1 B rfl rfl (Nat.zero_le _) rfl rfl CK (Nat.zero_le _),⟨(by show (2:Int)≠4;decide),n,g,.inr (.inr ⟨b,a,rfl⟩),.inl rfl,λb a=>by cases a⟩⟩
   · rcases π.2 with h|h;· exact .inl h
     · exact .inr (.inl h)
 ·refine Y.eq (Ey (bx n) V.w) ?_;refine Y.DZ (P:=λv=>tR (v.1,(v.2.1,(v.2.2.1,())))/\v.1=c.1/\FF ((v.2.2.2.1,(v.2.2.2.2.1,(v.2.2.2.2.2.1,()))):j4)) (R:=λ_=>False) (Y.bind (EB _ _ K.2.2.2.1) λax e=>Y.DY (λ_=>Y.l ⟨e.1,e.2.trans k,FF.GM⟩) (λ_=>Y.l ⟨e.1,e.2.trans k,V⟩)) (λv f=>Y.l ?_) (λ_ h=>h.elim);obtain ⟨U,L,i⟩:=f;exact ⟨U,L,Is rfl d.1 d.2.1 (λb a=>by cases a) (Nat.zero_le _) rfl rfl (Nat.zero_le _) z.v.h.round i.i1 B i.i1 i.i2 i.ok i.w,⟨(by show (3:Int)≠4;decide),n,g,.inl (by show (0:Int)<=1;decide),.inr rfl,λb a=>by cases a⟩⟩
 · refine Y.eq m (Y.eq m (Y.eq m (Y.eq m (Y.eq (Tz n O) ?_))));refine Y.DZ (P:=λv=>tR (v.1,(v.2.1,(v.2.2.1,())))/\v.1=c.1/\FF ((v.2.2.2.1,(v.2.2.2.2.1,(v.2.2.2.2.2.1,()))):j4)) (R:=λ_=>False) (Y.bind (EB _ _ K.2.2.2.1) λax e=>Y.DY (λ_=>Y.l ⟨e.1,e.2.trans k,FF.GM⟩) (λ_=>Y.l ⟨e.1,e.2.trans k,V⟩)) (λN aw=>?_) (λ_ h=>h.elim);obtain ⟨U,L,i⟩:=aw;refine Y.DZ (P:=λv=>tR (v.1,(v.2.1,(v.2.2.1,())))/\v.1=c.1/\(Ty.sl il).Ok v.2.2.2.1/\W1 (List.length v.2.2.2.1)) (R:=λ_=>False) (Y.bind (EB _ _ U) λaF H=>Y.DY (λ_=>Y.bind (RC _ 3 H.1 (by decide)) λaH G=>Y.l ⟨G.2.2.1,G.2.2.2.trans (H.2.trans L),G.1,Nat.le_trans G.2.1 (by decide)⟩) (λ_=>Y.l ⟨H.1,H.2.trans L,d.j8,O.2.2.2.2.2.2.2.2.2.2.1⟩)) (λβ ay=>?_) (λ_ h=>h.elim);obtain ⟨p1,p2,p3,p4⟩:=ay;refine Y.DZ (P:=λv=>tR (v.1,(v.2.1,(v.2.2.1,())))/\v.1=c.1/\(Lit.int .i64 v.2.2.2.1).wf=true/\v.2.2.2.1<=ad n+((bb n).length:Int)) (R:=λ_=>False) (Y.loop (I:=λv=>tR (v.1,(v.2.1,(v.2.2.1,())))/\v.1=c.1/\ad n<=v.2.2.2.1/\v.2.2.2.1<=100000/\(ad n<v.2.2.2.1->E4 (bb n) o.1=true)/\∀s,ad n<=s->s<v.2.2.2.1->n7 (bb n) s≠o.1) (λv=>(9990-v.2.2.2.1).toNat) (λv f=>?_) _ ⟨p1,p2,Int.le_refl _,ag,λh=>absurd h (Int.lt_irrefl _),λs u h2=>absurd h2 (by grind)⟩) (λaq aj=>?_) (λ_ h=>h.elim)
   · obtain ⟨b0,aN,aP,r,aQ⟩:=v;obtain ⟨p,l,ak,aA,δ,ε⟩:=f;dsimp only at p l ak aA δ ε;have A:(Lit.int .i64 r).wf=true/\r<=ad n+((bb n).length:Int):=by
      refine ⟨DX (by omega) (by omega),?_⟩;rcases Int.lt_or_le (ad n) r with C|aK;· exact LL an (δ C) ε
      · omega
     unfold MB.b0;refine Y.DY (λC=>?_) (λ_=>Y.rl ⟨p,l,A⟩);have C:r<9990:=Cp.1 C;refine Y.eq (re (bb n) r) (Y.DY (λκ=>?_) (λ_=>Y.rl ⟨p,l,A⟩));have κ:ko (n7 (bb n) r) o.1=false:=by grind
     refine Y.eq (GC (bb n) o.1 d.set.1) (Y.DY (λaz=>?_) (λ_=>Y.rl ⟨p,l,A⟩));refine Y.bind (EB _ _ p) λaJ F=>Y.DY (λ_=>Y.l ?_) (λ_=>Y.rl ⟨F.1,F.2.trans l,A⟩);have e1:cM .i64 r 1=r+1:=ed (by omega) (by omega);refine ⟨⟨F.1,F.2.trans l,?_,?_,λ_=>az,λs s1 W=>?_⟩,?_⟩;· grind
     · grind
     · have W:s<cM .i64 r 1:=W;rw[e1]at W;rcases Int.lt_or_le s r with h|h;· grind
       · have :s=r:=by omega
         rw[this];exact Wf.1 κ
     grind
   · obtain ⟨r1,r2,r3,r4⟩:=aj;have ah:=Bk (n:=(ab w).length) (by omega);have γ:=RD z.v.h (j8:=β.2.2.2.1) B r3 i p3 p4;obtain ⟨m1,m2⟩:=rm γ ah;refine Y.eq (NN (UC n o.1 aq.2.2.2.1 (N.2.2.2.1,(N.2.2.2.2.1,(N.2.2.2.2.2.1,()))) β.2.2.2.1) ((ab w).length:Int) γ) (Y.l ⟨r1,r2,Is rfl d.1 d.2.1 (λb a=>?_) (Nat.le_refl _) rfl rfl (Nat.zero_le _) rfl rfl (Nat.zero_le _) rfl rfl CK (Nat.zero_le _),⟨(by show (1:Int)≠4;decide),n,g,.inl (by show (0:Int)<=1;decide),.inl rfl,λb a=>?_⟩⟩);· grind
     · rw[List.mem_singleton.1 a];exact r4
theorem LM{l:List cp}:sd l=true↔(∀t∈l,No t=true)/\l.Pairwise (λa b=>p9 a b=true)/\l.length<=20:=by
 unfold sd;rw[Bool.and_eq_true];constructor
 · rintro⟨d,e⟩;have g:=OT d;refine⟨λt k=>?_,?_,by have :=Cq.1 e;omega⟩;· obtain⟨i,c,rfl⟩:=List.getElem_of_mem k;have :=xJ d i c;unfold HV at this;grind
   · rw[List.pairwise_iff_getElem];intro i j c h f;exact g i j _ _ (List.getElem?_eq_getElem c) (List.getElem?_eq_getElem h) f
 · rintro⟨d,e,m⟩;refine⟨vc (λi c=>?_),Cq.2 (by omega)⟩;unfold HV;rw[Bool.and_eq_true,Nat.zero_add];refine⟨d _ (List.getElem_mem c),?_⟩;match i,c with|0,_=>rfl|j+1,c=>rw[mz (lt:=p9) (xs:=l) (j:=j) (y:=l[j+1]) (by omega)];rw[List.pairwise_iff_getElem]at e;grind
theorem Hd{l:List cp}(p:cp->Bool)(h:sd l=true):sd (l.filter p)=true:=by obtain⟨a,c,b⟩:=LM.1 h;exact LM.2 ⟨λt d=>a t (List.mem_filter.1 d).1,c.filter p,Nat.le_trans (List.length_filter_le _ _) b⟩
structure NS(R:Int)(bl:List ao)(p:A4)(k:Nat):Prop where
 ep:p.1=(k:Int)ne:kj p≠[]bs:∀b∈kj p,b∈bl/\b.2.1=p.1
 le:(kj p).length<=400
 q:G4 (pQ p) 10000 100000=true
 r:(pQ p).1<=R
structure NR(R:Int)(bl:List ao)(n:a0):Prop where
 nm:e6 n.1=true
 rd:1<=ad n/\ad n<=R+1
 vo:0<=fb n/\fb n<=ad n
 ld:0<=Li n/\Li n<=ad n
 hq:tm (bb n) (bx n)=true
 hr:(bx n).1<ad n
 tq:FE (bb n) (E7 n)=true
 tr:(E7 n).1<ad n
 vt:∀v∈dT n,v.1<=R
 gn:∀g∈ej n,g.1<=R
 ki:E6 (ar n)=true
 KQ:∀b∈ar n,b∈bl/\b.2.1=n.2.1
 j8:sd (lh n)=true
 set:bb n=[]\/o9 (bb n)=true
 It:∀x∈mu n,0<=x.1/\x.1<(bl.length:Int)c9:∀(k:Nat) (p:A4),(bm n)[k]?=some p->NS R bl p k
theorem NS.mono{R R':Int}{bl a:List ao}{p:A4}{k:Nat}(h:NS R bl p k)(e:R<=R')(d:∀b∈bl,b∈a):NS R' a p k:=⟨h.ep,h.ne,λb c=>⟨d b (h.bs b c).1,(h.bs b c).2⟩,h.le,h.q,Int.le_trans h.r e⟩
theorem NR.mono{R R':Int}{bl a:List ao}{n:a0}(h:NR R bl n)(c:R<=R')(d:∀b∈bl,b∈a)(m:bl.length<=a.length):NR R' a n:=⟨h.nm,⟨h.rd.1,by have :=h.rd.2;omega⟩,h.vo,h.ld,h.hq,h.hr,h.tq,h.tr,λv j=>Int.le_trans (h.vt v j) c,λg i=>Int.le_trans (h.gn g i) c,h.ki,λb f=>⟨d b (h.KQ b f).1,(h.KQ b f).2⟩,h.j8,h.set,λx e=>⟨(h.It x e).1,by have :=(h.It x e).2;omega⟩,λk p l=>(h.c9 k p l).mono c d⟩
structure BR(R:Int)(bl:List ao):Prop where
 Ff:∀(i:Nat)(hi:i<bl.length),bl[i].1=(i:Int)kp:∀b∈bl,gl b=true
 rd:∀b∈bl,b.2.2.1<=R
theorem BR.lt{R:Int}{bl:List ao}(h:BR R bl){b:ao}(c:b∈bl):0<=b.1/\b.1<(bl.length:Int):=by obtain⟨i,a,rfl⟩:=List.getElem_of_mem c;have :=h.Ff i a;omega
theorem BR.E5{R:Int}{bl:List ao}(h:BR R bl){a b:ao}(g:a∈bl)(c:b∈bl)(e:a.1=b.1):a=b:=by obtain⟨i,d,rfl⟩:=List.getElem_of_mem g;obtain⟨j,f,rfl⟩:=List.getElem_of_mem c;have k:=h.Ff i d;have l:=h.Ff j f;grind
theorem pn{q:j4}(h:j7 q=true):q.1=0/\q.2.1=-1/\List.length q.2.2.1=0:=by unfold j7 at h;simp_all[D9,gA,Cr]
theorem sG{t:se}(h:p7 t=true):t.1=0/\List.length t.2.1=0/\List.length t.2.2.1=0:=by unfold p7 at h;simp_all[D9,D3,gA,Cr]
theorem KF{l:List df}{q:j4}(h:tm l q=true):0<=q.1/\q.1<=10000:=by
 unfold tm at h;simp only[Bool.or_eq_true,Bool.and_eq_true]at h;rcases h with h|h;·simp_all[D9,pn]
 ·have :=gk.1 h.1;omega
theorem KG{l:List df}{q:j4}(h:tm l q=true):G4 q 10000 100000=true:=by unfold tm at h;unfold G4;grind
theorem Wj{l:List df}{t:se}(h:FE l t=true):0<=t.1/\t.1<=10000:=by
 unfold FE at h;simp only[Bool.or_eq_true,Bool.and_eq_true]at h;rcases h with h|h;·have :=(sG h).1;omega
 ·have :=gk.1 h.1;omega
theorem TY{l:List df}{t:se}(h:FE l t=true):Jn t 10000=true:=by unfold FE at h;unfold Jn;grind
theorem RF{q:j4}{r i:Int}(h:G4 q r i=true):0<=q.1/\(q.1<=r\/q.1=0):=by
 unfold G4 at h;simp only[Bool.or_eq_true,Bool.and_eq_true]at h;rcases h with h|h;·simp_all[D9,pn]
 ·have :=gk.1 h.1;omega
theorem Wk{t:se}{r:Int}(h:Jn t r=true):0<=t.1/\(t.1<=r\/t.1=0):=by
 unfold Jn at h;simp only[Bool.or_eq_true,Bool.and_eq_true]at h;rcases h with h|h;·have :=(sG h).1;omega
 ·have :=gk.1 h.1;omega
theorem Gj{l:List df}:tm l ((0,(-1,([],()))):j4)=true:=rfl
theorem Gk{l:List df}:FE l ((0,([],([],()))):se)=true:=rfl
theorem NT{r x:Int}(a:0<=x)(b:x<=10000):Jg r x=if r<x+1 then x+1 else r:=by grind[Jg,dO,cM,ed,Cp,Au]
theorem RG{R:Int}{bl:List ao}{n:a0}{q:j4}(h:NR R bl n)(c:tm (bb n) q=true)(k:q.1<=R):NR R bl (lv n q):=by
 have a:=KF c;have f:ad (lv n q)=if ad n<q.1+1 then q.1+1 else ad n:=NT a.1 a.2;have j:ad n<=ad (lv n q):=by omega
 have i:q.1<ad (lv n q):=by omega
 have g:ad (lv n q)<=R+1:=by rw[f];have :=h.rd.2;omega
 have d:bx (lv n q)=w7 n q:=rfl;have b:w7 n q=q\/w7 n q=bx n:=by unfold w7;grind
 refine⟨h.nm,⟨by omega,g⟩,⟨h.vo.1,by have :=h.vo.2;show fb n<=_;omega⟩,⟨h.ld.1,by have :=h.ld.2;show Li n<=_;omega⟩,?_,?_,h.tq,by have :=h.tr;show (E7 n).1<_;omega,h.vt,h.gn,h.ki,h.KQ,h.j8,h.set,h.It,h.c9⟩
 · rw[d];rcases b with e|e<;>rw[e];· exact c
   · exact h.hq
 · rw[d];rcases b with e|e<;>rw[e];· omega
   · have :=h.hr;omega
theorem E0{x:D3}:∀{a d:List D3},x∈i0 d a->x∈d\/x∈a
 |[],d,h=>.inl h|y::r,d,h=>by
  have c:i0 d (y::r)=i0 (sm d y.1) r:=rfl;rw[c]at h;rcases E0 h with b|b;·unfold sm at b;grind
  grind
theorem M7{R:Int}{bl:List ao}{n:a0}{q:j4}(i:BR R bl)(h:NR R bl n)(o:NW n)(O:n.2.1<890)(M:0<=R)(F:G4 q 10000 100000=true)(J:q.1<=R):NR R bl (ke n q):=by
 have f:ic (ar n):=Jt h.ki;have P:=o.e0;have t:∀(s:List ao),(∀b∈s,b∈ar n)->∀x∈i0 (mu n) (hM s),0<=x.1/\x.1<(bl.length:Int):=λs g x I=>by
  rcases E0 I with j|j;·exact h.It x j
  ·unfold hM at j;obtain⟨b,D,rfl⟩:=List.mem_map.1 j;exact i.lt (h.KQ b (g b D)).1
 rcases vn n.2.1.toNat n.2.1.toNat n q o.v (by omega)with⟨_,e⟩|⟨C,⟨_,e⟩|⟨p,b,r,H,N,Q,K,e,m⟩⟩;·grind
 ·rw[e];exact⟨h.nm,h.rd,h.vo,h.ld,h.hq,h.hr,h.tq,h.tr,h.vt,h.gn,h.ki,h.KQ,Hd _ h.j8,h.set,t _ (λb i=>kk f _ b i),h.c9⟩
 · rw[e];obtain⟨S,A,z,_⟩:=Fa C;have G:=KE (i.kp b (h.KQ b K).1);have y:o9 (kB b)=true:=by have :=G.bo;unfold HT at this;grind
   have B:∀c∈p++[b],c∈ar n:=λc u=>kk f _ c (by rw[H];grind);refine⟨h.nm,⟨Int.le_refl _,by show (1:Int)<=R+1;omega⟩,⟨Int.le_refl _,by show (0:Int)<=1;decide⟩,⟨Int.le_refl _,by show (0:Int)<=1;decide⟩,Gj,by show (0:Int)<1;decide,Gk,by show (0:Int)<1;decide,(λv d=>by cases d),(λv d=>by cases d),rfl,(λv d=>by cases d),Hd _ h.j8,.inr y,t _ B,λk w a=>?_⟩;have a:(bm n++[A5 n q])[k]?=some w:=a;rcases Nat.lt_or_ge k (bm n).length with l|l;· rw[List.getElem?_append_left l]at a;grind[NR.c9]
   · rw[List.getElem?_append_right l]at a;have E:k-(bm n).length=0:=by grind
     rw[E]at a;have a:A5 n q=w:=by grind
     subst a;have L:=o.pa;have g:=Ia f q.2.1;refine⟨?_,?_,λc u=>h.KQ c (g.subset u),Nat.le_trans g.length_le f.KP,F,J⟩;· show n.2.1=(k:Int);omega
     · show ct (ar n) q.2.1≠[];rw[<-z,kb f A];simp
theorem EJ{R:Int}{bl:List ao}{n:a0}{q:j4}(e:BR R bl)(h:NR R bl n)(a:NW n)(i:n.2.1<890)(d:0<=R)(f:FF q)(b:tm (bb n) q=true)(c:q.1<=R):NR R bl (dc n q):=by have g:NW (lv n q):=NW.PQ (F9 a.v f) a.e0 a.pa;exact M7 e (RG h b c) g i d (KG b) c
theorem M8{R:Int}{bl:List ao}{n:a0}{t:se}(h:NR R bl n)(d:FE (bb n) t=true)(k:t.1<=R):NR R bl (Kv n t):=by
 have a:=Wj d;have f:ad (Kv n t)=if ad n<t.1+1 then t.1+1 else ad n:=NT a.1 a.2;have j:ad n<=ad (Kv n t):=by omega
 have i:t.1<ad (Kv n t):=by omega
 have g:ad (Kv n t)<=R+1:=by rw[f];have :=h.rd.2;omega
 have c:E7 (Kv n t)=O4 n t:=rfl;have b:O4 n t=t\/O4 n t=E7 n:=by unfold O4;grind
 refine⟨h.nm,⟨by omega,g⟩,⟨h.vo.1,by have :=h.vo.2;show fb n<=_;omega⟩,⟨h.ld.1,by have :=h.ld.2;show Li n<=_;omega⟩,h.hq,by have :=h.hr;show (bx n).1<_;omega,?_,?_,h.vt,h.gn,h.ki,h.KQ,h.j8,h.set,h.It,h.c9⟩
 · rw[c];rcases b with e|e<;>rw[e];· exact d
   · exact h.tq
 · rw[c];rcases b with e|e<;>rw[e];· omega
   · have :=h.tr;omega
theorem M9{R:Int}{bl:List ao}{n:a0}{t:List ao}(h:NR R bl n)(a:E6 t=true)(c:∀b∈t,b∈bl/\b.2.1=n.2.1):NR R bl (kf n t):=⟨h.nm,h.rd,h.vo,h.ld,h.hq,h.hr,h.tq,h.tr,h.vt,h.gn,a,c,h.j8,h.set,h.It,h.c9⟩
theorem LN{R:Int}{bl:List ao}{n:a0}{t:List sH}(h:NR R bl n)(a:∀v∈t,v.1<=R):NR R bl (B3 n t):=⟨h.nm,h.rd,h.vo,h.ld,h.hq,h.hr,h.tq,h.tr,a,h.gn,h.ki,h.KQ,h.j8,h.set,h.It,h.c9⟩
theorem LO{R:Int}{bl:List ao}{n:a0}{t:List ow}(h:NR R bl n)(a:∀v∈t,v.1<=R):NR R bl (Ef n t):=⟨h.nm,h.rd,h.vo,h.ld,h.hq,h.hr,h.tq,h.tr,h.vt,a,h.ki,h.KQ,h.j8,h.set,h.It,h.c9⟩
theorem LP{R:Int}{bl:List ao}{n:a0}{v:Int}(h:NR R bl n)(a:0<=v)(b:v<=ad n):NR R bl (o0 n v):=⟨h.nm,h.rd,⟨a,b⟩,h.ld,h.hq,h.hr,h.tq,h.tr,h.vt,h.gn,h.ki,h.KQ,h.j8,h.set,h.It,h.c9⟩
theorem Ps{R:Int}{bl:List ao}{n:a0}{v:Int}(h:NR R bl n)(a:0<=v)(b:v<=ad n):NR R bl (ns n v):=⟨h.nm,h.rd,h.vo,⟨a,b⟩,h.hq,h.hr,h.tq,h.tr,h.vt,h.gn,h.ki,h.KQ,h.j8,h.set,h.It,h.c9⟩
theorem LQ{R:Int}{bl:List ao}{n:a0}{q:List cp}(h:NR R bl n)(a:sd q=true):NR R bl (Eh n q):=⟨h.nm,h.rd,h.vo,h.ld,h.hq,h.hr,h.tq,h.tr,h.vt,h.gn,h.ki,h.KQ,a,h.set,h.It,h.c9⟩
theorem NU{R:Int}{bl:List ao}{n:a0}{b:ao}(q:BR R bl)(h:NR R bl n)(r:NW n)(m:n.2.1<890)(t:0<=R)(s:b∈bl)(i:j3.Ok b)(j:ei b):NR R bl (cf n b):=by unfold cf;cases p:pt n b with|false=>exact h|true=>
 have a:=NJ r.v.h.t p;have k:=KE a.kp;have C:=q.rd b s;have B:=k.rd;have y:gS .i64 b.2.2.1 1=b.2.2.1-1:=iz (by omega) (by omega);have w:=RF k.qc;have x:=Wk k.tc;rw[y]at w x;obtain⟨z,E,A⟩:=EC r i j m p;obtain⟨l,D⟩:=ED r i j m p;have f:NR R bl (kf n (qm (ar n) b)):=M9 h a.tr (λc g=>by
 rcases xd.1 g with f|f;·exact h.KQ c f
 ·rw[f];exact⟨s,a.ep⟩);have u:NR R bl (nv n b):=EJ q f z m t (De.C6 i j) a.qc (by omega);have d:NR R bl (i3 n b):=by unfold i3;cases o:gA (nv n b).2.1 n.2.1 with|false=>exact u|true=>
  have o:=Cr.1 o;have v:bb (nv n b)=bb n:=by
   rcases A.a.ca with⟨_,_,e⟩|e;·exact e
   ·omega
  exact M8 u (by rw[v];exact a.tc) (by omega)
 unfold AL;cases g:(gA (i3 n b).2.1 n.2.1&&gA (bx (i3 n b)).2.1 b.1) with|false=>exact d|true=>simp only[Bool.and_eq_true]at g;have o:=Cr.1 g.1;exact EJ q d l (by omega) t (l.v.h.ok.C6 l.v.h.l) d.hq (by have :=d.hr;have :=d.rd.2;omega)
theorem k9{l:List df}(h:l=[]\/o9 l=true):(∀v∈l,e6 v.1=true/\1<=v.2.1/\v.2.1<=1000000)/\l.length<=12:=by
 rcases h with rfl|h;·grind
 ·unfold o9 at h;simp only[Bool.and_eq_true]at h;refine⟨λv b=>?_,by have :=gk.1 h.2;omega⟩;obtain⟨i,a,rfl⟩:=List.getElem_of_mem b;have :=xJ h.1 i a;unfold Km at this;simp only[Bool.and_eq_true]at this;exact⟨this.1,gk.1 this.2.1⟩
theorem RH{c name:ByteArray}{r b a d:Int}(e:e6 c=true)(f:0<=a/\a<=900)(j:1<=r/\r<=10000)(g:0<=b/\b<=100000)(l:e6 name=true):Ep (B4 (AS name r b d) c a)=true:=by
 have h:Di a 0 900=true:=gk.2 f;have m:Di r 1 10000=true:=gk.2 j;have k:Di b 0 100000=true:=gk.2 g;have i:Tv (B4 (AS name r b d) c a)=true:=by grind[Tv,B4,AS,Di,e6]
 unfold Ep;show (e6 c&&(Di a 0 900&&(true&&(true&&((true&&true)&&(true&&(Tv (B4 (AS name r b d) c a)&&(Uv (B4 (AS name r b d) c a)&&(true&&true)))))))))=true;rw[e,h,i];show (ko ⟨#[]⟩ ⟨#[]⟩&&true)=true;rw[xD];rfl
theorem RI{n:a0}{b:ByteArray}{a f:Int}(c:e6 b=true)(d:0<=a/\a<=900)(m:1<=ad n/\ad n<=10000)(j:0<=(bx n).1/\(bx n).1<ad n)(h:G4 (bx n) 10000 100000=true)(k:e6 n.1=true):Ep (B4 (EX n f) b a)=true:=by
 have g:Di a 0 900=true:=gk.2 d;have l:Di (ad n) 1 10000=true:=gk.2 m;have e:gS .i64 (ad n) 1=ad n-1:=iz (by omega) (by omega);have i:Di (bx n).1 0 (gS .i64 (ad n) 1)=true:=by rw[e];exact gk.2 ⟨j.1,by omega⟩
 unfold Ep;show (e6 b&&(Di a 0 900&&(G4 (bx n) 10000 100000&&(true&&((true&&true)&&(true&&(((true)&&(true&&ko ⟨#[]⟩ ⟨#[]⟩))&&((Di (ad n) 1 10000&&(Di (bx n).1 0 (gS .i64 (ad n) 1)&&(gA (bx n).1 (bx n).1&&e6 n.1)))&&true))))))))=true;rw[c,g,h,l,i,k,xD,nV];rfl
theorem RJ{b:ao}{c:ByteArray}{a f:Int}(d:e6 c=true)(e:0<=a/\a<=900)(g:gl b=true)(i:b.2.1=a):Ep (B4 (n8 b f) c a)=true:=by have h:Di a 0 900=true:=gk.2 e;unfold Ep;show (e6 c&&(Di a 0 900&&(true&&(true&&((((gl b&&gA b.2.1 a)&&true)&&true)&&(true&&((true&&(true&&ko ⟨#[]⟩ ⟨#[]⟩))&&((true&&(true&&ko ⟨#[]⟩ ⟨#[]⟩))&&(true&&true)))))))))=true;rw[d,h,g,i,nV,xD];rfl
theorem JL{d:ByteArray}{a:Int}{c:List ao}{q:j4}{t:se}(g:e6 d=true)(h:0<=a/\a<=900)(e:∀b∈c,gl b=true/\b.2.1=a)(n:c.length<=400)(j:G4 q 10000 100000=true)(m:Jn t 10000=true):Ep (Gd d a c q t)=true:=by
 have i:Di a 0 900=true:=gk.2 h;have l:E8 c a=true:=by unfold E8;rw[List.all_eq_true];intro b f;rw[(e b f).1,(e b f).2,nV];rfl
 have k:km (c.length:Int) 400=true:=Cq.2 (by omega);unfold Ep;show (e6 d&&(Di a 0 900&&(G4 q 10000 100000&&(Jn t 10000&&((E8 c a&&km (c.length:Int) 400)&&((true&&(true&&ko ⟨#[]⟩ ⟨#[]⟩))&&(true&&(true&&ko ⟨#[]⟩ ⟨#[]⟩))))))))=true;rw[g,i,l,k,j,m,xD];rfl
structure MR(R:Int)(bl:List ao)(m:fr):Prop where
 ok:Ep m=true
 bs:∀b∈lf m,b∈bl
 v:(Hs m).1<=R
 g:(Ht m).1<=R
 q:(mQ m).1<=R
 t:(mT m).1<=R
theorem MR.mono{R R':Int}{bl c:List ao}{m:fr}(h:MR R bl m)(a:R<=R')(d:∀b∈bl,b∈c):MR R' c m:=⟨h.ok,λb e=>d b (h.bs b e),Int.le_trans h.v a,Int.le_trans h.g a,Int.le_trans h.q a,Int.le_trans h.t a⟩
theorem Iu{R:Int}{bl:List ao}{a:List df}{name:ByteArray}{m:fr}{b:Int}(h:∀v∈a,MR R bl (B4 m v.1 b)):∀x∈mb a name m b,MR R bl x:=by intro x c;unfold mb at c;grind
theorem LR{l:List sH}{v x:sH}(h:x∈p0 l v):x∈l\/x=v:=by unfold p0 at h;grind
theorem LS{l:List ow}{v x:ow}(h:x∈sn l v):x∈l\/x=v:=by unfold sn at h;grind
theorem Iv{a:List df}{b:List sH}{r c:Int}(h:rf a b r c=true):tm a (B5 a b r c)=true/\j7 (B5 a b r c)=false:=by unfold rf at h;grind
theorem NX{R:Int}{bl:List ao}{n:a0}{v:sH}(j:BR R bl)(h:NR R bl n)(a:NW n)(m:n.2.1<890)(e:0<=R)(b:Hf.Ok v)(f:v.1<=R):NR R bl (tb n v):=by
 have g:=Ga a.v.vo a.v.h.ok.votes b;have c:NR R bl (B3 n (p0 (dT n) v)):=LN h (λx k=>by
 rcases LR k with d|d;·exact h.vt x d
 grind);have l:=B7 a g (EY a.v.vo);unfold tb;cases E4 (bb n) v.2.2.1 with|false=>exact h|true=>cases i:rf (bb n) (p0 (dT n) v) v.1 v.2.1 with|false=>exact c|true=>exact EJ j c l m e (B6 (bb n) (p0 (dT n) v) v.1 v.2.1 a.v.h.ok.set a.v.h.l.2.1 b.1 b.2.1) (Iv i).1 f
theorem Pt{R:Int}{bl:List ao}{n:a0}{g:ow}(h:NR R bl n)(d:g.1<=R):NR R bl (tv n g):=by
 have b:NR R bl (Ef n (sn (ej n) g)):=LO h (λx f=>by
 rcases LS f with c|c;·exact h.gn x c
 grind);unfold tv;dsimp only;cases i:(sv (bb n) (sn (ej n) g) g.1).2.1.1 with|false=>exact b|true=>obtain⟨_,a,e⟩:=EW i;rw[e]at a⊢;exact M8 b a d
theorem NY{R:Int}{bl:List ao}{n:a0}{g:ow}{q:j4}(e:BR R bl)(h:NR R bl n)(j:NW n)(k:n.2.1<890)(c:0<=R)(f:FF q)(d:g.1<=R)(i:q.1<=R):NR R bl (ik n g q):=by unfold ik;cases b:(E4 (bb n) g.2.2.1&&tm (bb n) q) with|false=>exact h|true=>simp only[Bool.and_eq_true]at b;have a:=EJ e h j k c f b.2 i;cases gA (dc n q).2.1 n.2.1 with|false=>exact a|true=>exact Pt a d
theorem NZ{R:Int}{bl:List ao}{n:a0}{b:ao}(d:BR R bl)(h:NR R bl n)(p:NW n)(o:n.2.1<890)(c:0<=R)(e:b∈bl)(a:j3.Ok b)(k:ei b):NR R bl (ft n b).1/\∀m∈(ft n b).2.1,MR R bl m:=by have i:=NU d h p o c e a k;obtain⟨g,w⟩:=mm p a k o;have f:=KE (d.kp b e);have j:=d.rd b e;unfold ft;cases t:AT n b with|false=>grind|true=>have l:=JB t;have y:=l.ep;have q:=l6 g a.2.2.1;have r:NR R bl (o0 (cf n b) b.2.2.1):=LP i (by have :=f.rd.1;omega) (Int.le_of_eq l.rd);refine⟨NX d r q (by show (cf n b).2.1<890;omega) c ⟨a.2.2.1,a.1,g.v.h.ok.1,trivial⟩ j,Iu λv u=>⟨RH ((k9 i.set).1 v u).1 ⟨g.e0,by omega⟩ f.rd f.id i.nm,(λx s=>by cases s),j,c,c,c⟩⟩
theorem RK{R:Int}{bl:List ao}{n:a0}{m:fr}(l:BR R bl)(h:NR R bl n)(o:NW n)(x:n.2.1<890)(k:0<=R)(c:FA m)(i:MR R bl m)(y:m.2.2.1=n.2.1):NR R bl (tw n m):=by
 obtain⟨⟨w,E⟩,⟨B,C⟩,_⟩:=B8 o c.ok c.l y x;have q:∀(g:List ao)(s:a0),(∀b∈g,b∈bl/\j3.Ok b/\ei b)->NW s->j9 n s->NR R bl s->NR R bl (g.foldl (ix m.2.2.1) s):=by intro g;induction g with|nil=>grind|cons b r D=>
  intro s p e f u;rw[List.foldl_cons];have d:=p b (by simp);have z:NW (ix m.2.2.1 s b)/\j9 n (ix m.2.2.1 s b)/\NR R bl (ix m.2.2.1 s b):=by unfold ix;cases a:gA s.2.1 m.2.2.1 with|false=>grind|true=>have a:=Cr.1 a;obtain⟨v,t⟩:=mm e d.2.1 d.2.2 (by omega);exact⟨v,f.trans t (by omega),NU l u e (by omega) k d.1 d.2.1 d.2.2⟩
  simp_all
 have e:NR R bl (p5 n m):=q (lf m) n (λb j=>⟨i.bs b j,c.ok.kp c.l b j⟩) o (j9.gj n) h;have f:NR R bl (Fz n m):=by unfold Fz;cases a:(gA (p5 n m).2.1 m.2.2.1&&tm (bb (p5 n m)) (mQ m)) with|false=>exact e|true=>simp only[Bool.and_eq_true]at a;have A:=Cr.1 a.1;exact EJ l e w (by omega) k (c.ok.C6 c.l) a.2 i.q
 unfold tw;cases a:(gA (Fz n m).2.1 m.2.2.1&&FE (bb (Fz n m)) (mT m)) with|false=>exact f|true=>simp only[Bool.and_eq_true]at a;exact M8 f a.2 i.t
theorem TZ{R:Int}{bl:List ao}{n:a0}{m:fr}(f:BR R bl)(h:NR R bl n)(g:NW n)(i:n.2.1<890)(e:0<=R)(a:FA m)(d:MR R bl m)(l:m.2.2.1=n.2.1):NR R bl (e8 n m).1/\∀x∈(e8 n m).2.1,MR R bl x:=by unfold e8;cases k:gA m.1 1 with
 |true=>have p:=a.pr (Cr.1 k);cases o:lf m with|nil=>grind|cons b r=>have j:=a.ok.kp a.l b (by grind);exact NZ f h g i e (d.bs b (by grind)) j.1 j.2
 |false=>cases gA m.1 2 with|true=>exact⟨NX f h g i e a.ok.vo d.v,λx c=>by cases c⟩|false=>cases gA m.1 3 with|true=>exact⟨NY f h g i e (a.ok.C6 a.l) d.g d.q,λx c=>by cases c⟩|false=>exact⟨RK f h g i e a d l,λx c=>by cases c⟩
theorem LU{R:Int}{bl:List ao}{n:a0}(a:BR R bl)(h:NR R bl n)(c:NW n)(m:n.2.1<890)(q:0<=R)(p:R<=9990):NR (R+1) bl (ev n).1/\∀x∈(ev n).2.1,MR (R+1) bl x:=by have e:BR (R+1) bl:=⟨a.Ff,a.kp,λb o=>by have :=a.rd b o;omega⟩;have i:=h.mono (R':=R+1) (by omega) (λb a=>a) (Nat.le_refl bl.length);have d:=h.rd;unfold ev;cases (E4 (bb n) n.1&&!dO (ad n) (fb n)) with|false=>grind|true=>have l:NR (R+1) bl (o0 n (ad n)):=LP i (by omega) (Int.le_refl _);have f:=h.hr;have g:=KF h.hq;refine⟨NY e l (l6 c c.v.h.round) m (by omega) (c.v.h.ok.C6 c.v.h.l) d.2 (by omega),Iu λv j=>⟨RI ((k9 h.set).1 v j).1 ⟨c.e0,by omega⟩ ⟨d.1,by omega⟩ ⟨g.1,f⟩ (KG h.hq) h.nm,(λx k=>by cases k),by show (0:Int)<=R+1;omega,d.2,by show (bx n).1<=R+1;omega,by show (0:Int)<=R+1;omega⟩⟩
theorem N0{R:Int}{bl:List ao}{n:a0}(c:BR R bl)(h:NR R bl n)(f:NW n)(u:n.2.1<890)(A:0<=R)(z:bl.length<=1000):BR (R+1) (bl++(dt n (bl.length:Int)).2.1)/\NR (R+1) (bl++(dt n (bl.length:Int)).2.1) (dt n (bl.length:Int)).1/\∀x∈(dt n (bl.length:Int)).2.2.1,MR (R+1) (bl++(dt n (bl.length:Int)).2.1) x:=by have j:=Bk (n:=bl.length) (by omega);obtain⟨q,w⟩:=rm f.v.h j;unfold dt;cases s:Fb n (bl.length:Int) with|false=>simp only[cond_false,List.append_nil];exact⟨⟨c.Ff,c.kp,λb e=>by have :=c.rd b e;omega⟩,h.mono (by omega) (λb c=>c) (Nat.le_refl _),λx d=>by cases d⟩|true=>
 simp only[cond_true];have p:gl (g9 n (bl.length:Int))=true:=by unfold Fb at s;grind
 have k:=h.rd;have g:BR (R+1) (bl++[g9 n (bl.length:Int)]):=by
  refine⟨λi C=>?_,λb e=>?_,λb e=>?_⟩
  · rcases Nat.lt_or_ge i bl.length with a|a;· rw[List.getElem_append_left a];grind[BR.Ff]
    · have :i=bl.length:=by grind
      simp_all[ao,g9,D9,D3,cp,df]
  · rcases List.mem_append.1 e with a|a;· grind[BR.kp]
    grind
  · rcases List.mem_append.1 e with a|a;· have :=c.rd b a;omega
    · rw[List.mem_singleton.1 a];exact k.2
 have a:NR (R+1) (bl++[g9 n (bl.length:Int)]) n:=h.mono (by omega) (λb c=>List.mem_append_left _ c) (by grind);have o:=Ps a (v:=ad n) (by omega) (Int.le_refl _);obtain⟨l,B⟩:=NZ g o (sz f f.v.h.round) u (by omega) (List.mem_append_right _ (List.mem_cons_self ..)) q w;refine⟨g,l,λx d=>?_⟩;rcases List.mem_append.1 d with d|d;· refine Iu (m:=n8 (g9 n (bl.length:Int)) n.2.1) (λv t=>?_) x d;exact⟨RJ ((k9 h.set).1 v t).1 ⟨f.e0,by omega⟩ p rfl,λy r=>by rw[List.mem_singleton.1 r];grind,by show (0:Int)<=R+1;omega,by show (0:Int)<=R+1;omega,by show (0:Int)<=R+1;omega,by show (0:Int)<=R+1;omega⟩
 grind
theorem C0{R:Int}{bl:List ao}{n:a0}{e:Int}{i:ByteArray}(o:BR R bl)(h:NR R bl n)(q:NW n)(y:n.2.1<890)(d:0<=R)(l:e6 i=true)(j:(fp n e i).2.1.1=true):MR R bl (fp n e i).1:=by have u:=h.rd;have w:=h.hr;have s:=h.tr;have z:=q.e0;unfold fp at j⊢;cases f:gA e n.2.1 with|true=>have f:=Cr.1 f;exact⟨JL l (by omega) (λb a=>⟨o.kp b (h.KQ b a).1,by rw[f];exact (h.KQ b a).2⟩) (Jt h.ki).KP (KG h.hq) (TY h.tq),λb a=>(h.KQ b a).1,d,d,by show (bx n).1<=R;omega,by show (E7 n).1<=R;omega⟩|false=>rw[f]at j;cases m:(bm n).find? (λp=>gA p.1 e)with|none=>grind|some p=>have a:=List.mem_of_find?_eq_some m;have g:=List.find?_some m;have g:p.1=e:=Cr.1 g;obtain⟨k,x,t⟩:=List.getElem_of_mem a;have c:=h.c9 k p (by grind);have r:=q.pa;simp only[cond_false];have v:p.1=(k:Int):=c.ep;exact⟨JL l (by omega) (λb a=>⟨o.kp b (c.bs b a).1,by rw[<-g];exact (c.bs b a).2⟩) c.le c.q rfl,λb a=>(c.bs b a).1,d,d,c.r,d⟩
structure Pu(an:List D9)(cv:List a0):Prop where
 nf:∀n∈cv,iv an n.1=false
 up:∀(i j:Nat)(hi:i<cv.length)(hj:j<cv.length),i<j->ob cv[i].1 cv[j].1=true
structure WR(R:Int)(w:en):Prop where
 r0:0<=R
 b0:w.1=0
 fo:l9 (hu w)=true
 bl:BR R (ab w)nd:∀n∈aa w,NR R (ab w) n
 nm:Pu (hu w) (aa w)z9:∀m∈ds w,MR R (ab w) m
theorem Pu.set{an:List D9}{a:List a0}(h:Pu an a){j:Nat}(l:j<a.length){n:a0}(e:n.1=a[j].1):Pu an (a.set j n):=by
 have d:∀(i:Nat)(c:i<(a.set j n).length)(b:i<a.length),(a.set j n)[i].1=a[i].1:=λi c b=>by grind
 refine⟨λx g=>?_,λi k c m o=>?_⟩
 · rcases List.mem_or_eq_of_mem_set g with p|rfl;· grind[nf]
   · rw[e];exact h.nf _ (List.getElem_mem l)
 · have b:i<a.length:=by grind
   have f:k<a.length:=by grind
   rw[d i c b,d k m f];grind[up]
theorem y0{R:Int}{w:en}(h:WR R w){j:Nat}(d:j<(aa w).length){n:a0}(e:n.1=(aa w)[j].1)(c:NR R (ab w) n):WR R (i4 w j n):=⟨h.r0,h.b0,h.fo,h.bl,λx b=>by
 rcases List.mem_or_eq_of_mem_set b with a|rfl;·exact h.nd x a
 ·exact c,h.nm.set d e,h.z9⟩
theorem zd{R:Int}{w:en}(h:WR R w){ms:List fr}{c:List fl}(d:∀m∈ms,MR R (ab w) m):WR R (Eg w ms c):=⟨h.r0,h.b0,h.fo,h.bl,h.nd,h.nm,λm b=>by
 rcases l5 b with a|a;·exact h.z9 m a
 ·exact d m a.1⟩
theorem WR.up{R R':Int}{w:en}(h:WR R w)(c:R<=R'):WR R' w:=⟨by have :=h.r0;omega,h.b0,h.fo,⟨h.bl.Ff,h.bl.kp,λb a=>Int.le_trans (h.bl.rd b a) c⟩,λn d=>(h.nd n d).mono c (λb a=>a) (Nat.le_refl _),h.nm,λm e=>(h.z9 m e).mono c (λb a=>a)⟩
theorem EK{R:Int}{w:en}(h:WR R w)(k:Nat):WR R (tS w k):=⟨h.r0,h.b0,h.fo,h.bl,h.nd,h.nm,λm a=>h.z9 m (GU a)⟩
theorem Gl{E S:Nat}{R:Int}{w:en}{m:fr}(h:WI E S w)(s:E<890)(a:WR R w)(d:FA m)(f:MR R (ab w) m)(n:sF (aa w) m.2.1=true):WR R (l8 w m):=by obtain⟨j,b,_,p,i⟩:=CV n;obtain⟨e,t⟩:=h.nd _ (List.getElem_mem b);rw[i];cases l:gA (aa w)[j].2.1 m.2.2.1 with|false=>exact a|true=>have c:=Cr.1 l;obtain⟨r,k,u,q⟩:=HC e d c.symm (by omega);obtain⟨g,o⟩:=TZ a.bl (a.nd _ (List.getElem_mem b)) e (by omega) a.r0 d f c.symm;exact zd (y0 a b k g) o
theorem RL{R:Int}{bl:List ao}{n:a0}(s:BR R bl)(h:NR R bl n)(w:NW n):n.2.1<=(bl.length:Int):=by
 have z:=w.pa;let f:Nat->Int:=λk=>match(bm n)[k]? with
 |some p=>match kj p with|b::_=>b.1|[]=>0
 |none=>0;have j:∀k,k<(bm n).length->∃b∈bl,f k=b.1/\b.2.1=(k:Int):=λk d=>by have l:=h.c9 k (bm n)[k] (List.getElem?_eq_getElem d);cases v:kj (bm n)[k]with|nil=>exact absurd v l.ne|cons b r=>have m:=l.bs b (by grind);refine⟨b,m.1,?_,by rw[m.2,l.ep]⟩;grind
 have u:((List.range (bm n).length).map f).Nodup:=by rw[List.nodup_iff_pairwise_ne,List.pairwise_map];refine List.Pairwise.imp_of_mem ?_ (List.nodup_iff_pairwise_ne.1 (List.nodup_range));intro a c o q A e;rw[List.mem_range]at o q;obtain⟨x,g,B,C⟩:=j a o;obtain⟨y,i,t,D⟩:=j c q;have :x=y:=s.E5 g i (by omega);grind
 have :=GP bl.length _ u (λx g=>by obtain⟨k,d,rfl⟩:=List.mem_map.1 g;rw[List.mem_range]at d;obtain⟨y,i,t,_⟩:=j k d;rw[t];exact s.lt i);grind
theorem WI.yN{E S:Nat}{R:Int}{w:en}(h:WI E S w)(c:WR R w){b:Nat}(d:(ab w).length<=b):WI b S w:=⟨h.G8,h.Ip,h.FG,h.fo,h.TP,h.nl,λn a=>⟨(h.nd n a).1,by have :=RL c.bl (c.nd n a) (h.nd n a).1;omega⟩,h.bo,h.bl,h.bL,h.so,h.sl,h.nt,h.nm⟩
theorem He{a b:ao}:p8 a b=true↔a=b:=by
 have f:∀x y:D9,ko x.1 y.1=true↔x=y:=λx y=>by rw[n9];grind
 have i:∀x y:D3,gA x.1 y.1=true↔x=y:=λx y=>by rw[Cr];grind
 have g:∀x y:df,G5 x y=true↔x=y:=λx y=>by obtain⟨d,e,u⟩:=x;obtain⟨c,j,v⟩:=y;simp_all[G5,df,ko,gA]
 have h:∀x y:cp,Lg x y=true↔x=y:=λx y=>by obtain⟨d,e,I,U,A,u⟩:=x;obtain⟨c,j,C,Q,K,v⟩:=y;simp_all[Lg,cp,gA,ko]
 obtain⟨L,P,z,V,D,R,H,B,J,p,l,k,n,r,u⟩:=a;obtain⟨E,G,W,T,F,N,S,O,M,s,w,m,q,t,v⟩:=b;unfold p8 Hw FT;simp only[Bool.and_eq_true,Cr,n9,gx,oj,ET f,ET i,ET g,ET h];have o:∀x y:Bool,wo x y=true↔x=y:=λx y=>by grind[wo]
 grind
theorem RM{bl:List ao}{b:ao}(h:G6 bl b=true):b∈bl:=by unfold G6 at h;unfold bK at h;cases a:(if 0<=b.1 then bl[b.1.toNat]? else none)with|none=>grind|some z=>simp only[a]at h;rw[<-He.1 h];grind
theorem YJ{m:fr}(h:TU m)(g:m.1≠4):(m.1=1\/m.1=2\/m.1=3)/\(mT m).1=0/\((mQ m).1=0\/(mQ m).1<(Ht m).1):=by have a:=h.kd;unfold xC at a;cases c:gA m.1 1 with|true=>rw[c]at a;simp only[cond_true,Bool.and_eq_true]at a;exact⟨.inl (Cr.1 c),(sG a.2.2.2.2).1,.inl (pn a.2.2.2.1).1⟩|false=>rw[c]at a;cases f:gA m.1 2 with|true=>rw[f]at a;simp only[cond_true,cond_false,Bool.and_eq_true]at a;exact⟨.inr (.inl (Cr.1 f)),(sG a.2.2.2.2).1,.inl (pn a.2.2.2.1).1⟩|false=>rw[f]at a;cases d:gA m.1 3 with|true=>rw[d]at a;simp only[cond_true,cond_false,Bool.and_eq_true]at a;refine⟨.inr (.inr (Cr.1 d)),(sG a.2.2.2).1,.inr ?_⟩;have b:=a.2.2.1;unfold VL at b;simp only[Bool.and_eq_true]at b;have i:=gk.1 b.1;have e:gS .i64 m.2.2.2.2.2.2.2.1 1=m.2.2.2.2.2.2.2.1-1:=iz (by omega) (by omega);rw[e]at b;have k:=gk.1 b.2.1;have j:=Cr.1 b.2.2.1;show m.2.2.2.2.2.2.2.2.2.2.1<m.2.2.2.2.2.2.2.1;omega|false=>rw[d]at a;have l:gA m.1 4=false:=CN.2 g;grind
theorem rv{a:List a0}{j:Nat}{b n:a0}(h:a[j]?=some b)(e:n.1=b.1):(a.set j n).map (λn=>n.1)=a.map (λn=>n.1):=by rw[List.map_set,e];apply List.ext_getElem?;grind
theorem RN{R:Int}{w:en}(a:WR R w){m:fr}{g:List ao}(k:FB w m g)(y:FR w m):WR (R+14) (tA w m g):=by
 have p:=Wi k.ok;obtain⟨u,n,z,v,G,K⟩:=y;obtain⟨H,E,L⟩:=YJ p u;have l:=a.nd n z;have J:=a.r0;have B:=l.rd;have C:=(k9 l.set).2;have I:(Hs m).1<=R+1:=by
  rcases v with h|h|⟨b,d,h⟩;·omega
  ·omega
  ·have :=a.bl.rd b (l.KQ b d).1;omega
 have F:(Ht m).1<=R+1:=by omega
 have D:(mQ m).1<=R+1:=by omega
 have s:∀b∈lf m,b∈ab w++g:=λb d=>by
  rcases k.nw with e|⟨c,A,q,_⟩;·rw[e,List.append_nil];exact RM (k.aO6 e b d).2
  grind
 have r:BR (R+14) (ab w++g):=by
  rcases k.nw with e|⟨c,A,q,N,_⟩;·rw[e,List.append_nil];exact⟨a.bl.Ff,a.bl.kp,λb d=>by have :=a.bl.rd b d;omega⟩
  · rw[q];have t:c∈lf m:=by grind
    refine⟨λi M=>?_,λb d=>?_,λb d=>?_⟩
    · rcases Nat.lt_or_ge i (ab w).length with f|f;· rw[List.getElem_append_left f];exact a.bl.Ff i f
      grind
    · rcases List.mem_append.1 d with f|f;· exact a.bl.kp b f
      · rw[List.mem_singleton.1 f];exact (p.bs c t).1
    · rcases List.mem_append.1 d with f|f;· have :=a.bl.rd b f;omega
      grind
 have o:∀b∈ab w,b∈ab w++g:=λb d=>List.mem_append_left _ d;refine zd (w:=Hc w (aa w) (ab w++g) (fz w) (ds w)) ⟨by omega,a.b0,a.fo,r,λx j=>(a.nd x j).mono (by omega) o (by grind),a.nm,λx j=>(a.z9 x j).mono (by omega) o⟩ (λx j=>?_);rw[List.mem_singleton.1 j];exact⟨k.ok,s,by omega,by omega,by omega,by omega⟩
theorem qL.wr{E S:Nat}{R:Int}{w B:en}(s:qL w B)(h:WI E S w)(F:E<890)(a:WR R w)(M:R<=9970):WR (R+14) B:=by have o:=a.r0;cases s with
 |GV=>grind[WR.up]|Eb m g P=>
 refine WR.up (R:=R) ⟨a.r0,a.b0,a.fo,a.bl,a.nd,a.nm,λx f=>?_⟩ (by omega);rcases List.mem_append.1 f with i|i;·grind[WR.z9]
 ·rw[List.mem_singleton.1 i];grind[WR.z9]|drop k=>grind[WR.up,tS,EK]|sX k e=>have g:=h.nm _ (List.getElem_mem e);exact (Gl (o8 h k) F (EK a k) g.1 (a.z9 _ (List.getElem_mem e)) g.2).up (by omega)|Jj j c G=>
 obtain⟨d,u⟩:=h.nd _ (List.getElem_mem c);obtain⟨y,C,L⟩:=N0 a.bl (a.nd _ (List.getElem_mem c)) d (by omega) o h.bl;have z:∀b∈ab w,b∈ab w++(dt (aa w)[j] ((ab w).length:Int)).2.1:=λb G=>List.mem_append_left _ G;have I:=Bk (n:=(ab w).length) (by omega);have r:=(HD d I (by omega)).2.1;have H:=a.nm.set c r;refine WR.up (R:=R+1) ?_ (by omega);refine zd (w:=Hc w ((aa w).set j (dt (aa w)[j] ((ab w).length:Int)).1) (ab w++(dt (aa w)[j] ((ab w).length:Int)).2.1) (fz w) (ds w)) ⟨by omega,a.b0,a.fo,y,λx f=>?_,H,λx f=>(a.z9 x f).mono (by omega) z⟩ L;rcases List.mem_or_eq_of_mem_set f with i|rfl;·exact (a.nd x i).mono (by omega) z (by grind)
 omega|Fe j c=>obtain⟨d,u⟩:=h.nd _ (List.getElem_mem c);obtain⟨y,C⟩:=LU a.bl (a.nd _ (List.getElem_mem c)) d (by omega) o (by omega);have r:=(Gc d (by omega)).2.1;exact (zd (y0 (a.up (R':=R+1) (by omega)) c r y) C).up (by omega)|Iq j c k e=>obtain⟨d,u⟩:=h.nd _ (List.getElem_mem c);unfold A9;cases D:(fp (aa w)[j] (aa w)[k].2.1 (aa w)[k].1).2.1.1 with|false=>grind[WR.up]|true=>refine WR.up (R:=R) (zd a λm g=>?_) (by omega);rw[List.mem_singleton.1 g];exact C0 a.bl (a.nd _ (List.getElem_mem c)) d (by omega) o (a.nd _ (List.getElem_mem e)).nm D
 |EI j c q K _ _=>
 have l:=a.nd _ (List.getElem_mem c);refine WR.up (R:=R) (y0 (n:=Eh (aa w)[j] q) a c rfl (LQ l ?_)) (by omega);rcases K with rfl|⟨_,i⟩;·exact l.j8
 omega|FC j c=>have l:=a.nd _ (List.getElem_mem c);refine WR.up (R:=R) (y0 (n:=Er (aa w)[j]) a c (HE _) ?_) (by omega);unfold Er;exact LQ (LO (LN l (λv t=>by cases t)) (λv t=>by cases t)) rfl|Ir m O D N=>grind[RN]|Gi j c k e p=>obtain⟨d,u⟩:=h.nd _ (List.getElem_mem c);obtain⟨A,_⟩:=h.nd _ (List.getElem_mem e);have J:=wb _ _ _ p;exact (Gl h F a (pv d A.v.h.ok.2.1 A.v.h.ok.1 p) (C0 a.bl (a.nd _ (List.getElem_mem c)) d (by omega) o (a.nd _ (List.getElem_mem e)).nm p) (by rw[J.1];exact EZ e)).up (by omega)
theorem Iw(w:en)(m:fr)(c:∀n∈aa w,(e8 n m).1.1=n.1\/n.2.1≠m.2.2.1):ab (l8 w m)=ab w/\(aa (l8 w m)).map (λn=>n.1)=(aa w).map (λn=>n.1)/\(l8 w m).1=w.1/\(l8 w m).2.1=w.2.1/\hu (l8 w m)=hu w:=by unfold l8;cases a:(aa w)[(PR (aa w) m.2.1).toNat]? with|none=>grind|some n=>dsimp only;cases e:gA n.2.1 m.2.2.1 with|false=>grind|true=>
 refine⟨rfl,?_,rfl,rfl,rfl⟩;have b:=List.mem_of_getElem? a;have d:(e8 n m).1.1=n.1:=by
  rcases c n b with h|h;·exact h
  ·exact absurd (Cr.1 e) h
 show ((aa w).set _ (e8 n m).1).map (λn=>n.1)=_;exact rv a d
theorem qL.CB{E S:Nat}{w g:en}(s:qL w g)(h:WI E S w)(D:E<890):(∃d,ab g=ab w++d/\d.length<=1)/\(aa g).map (λn=>n.1)=(aa w).map (λn=>n.1)/\g.1=w.1/\g.2.1=w.2.1/\hu g=hu w:=by
 have p:∀(v:en)(m:fr),WI E S v->FA m->∀n∈aa v,(e8 n m).1.1=n.1\/n.2.1≠m.2.2.1:=λv m A o n B=>by
  by_cases l:n.2.1=m.2.2.1;·obtain⟨c,C⟩:=A.nd n B;exact .inl (HC c o l.symm (by omega)).2.1
  omega
 have f:∃d,ab w=ab w++d/\d.length<=1:=⟨[],by simp,Nat.zero_le _⟩;cases s with|GV=>grind|Eb m o G=>grind|drop k=>exact⟨f,rfl,rfl,rfl,rfl⟩|sX k i=>have o:=h.nm _ (List.getElem_mem i);obtain⟨x,u⟩:=Iw (tS w k) (ds w)[k] (p (tS w k) _ (o8 h k) o.1);rw[x];exact⟨f,u⟩|Jj j a F=>obtain⟨c,l⟩:=h.nd _ (List.getElem_mem a);have r:=Bk (n:=(ab w).length) (by omega);refine⟨⟨(dt (aa w)[j] ((ab w).length:Int)).2.1,rfl,?_⟩,rv (List.getElem?_eq_getElem a) (HD c r (by omega)).2.1,rfl,rfl,rfl⟩;rcases (Gh c r (by omega)).2.2.2.2 with⟨e,_⟩|⟨e,_⟩<;>rw[e]<;>simp|Fe j a=>obtain⟨c,l⟩:=h.nd _ (List.getElem_mem a);exact⟨f,rv (List.getElem?_eq_getElem a) (Gc c (by omega)).2.1,rfl,rfl,rfl⟩|Iq j a k i=>unfold A9;cases (fp (aa w)[j] (aa w)[k].2.1 (aa w)[k].1).2.1.1<;>exact⟨f,rfl,rfl,rfl,rfl⟩|EI j a q _ _ _=>exact⟨f,rv (n:=Eh (aa w)[j] q) (List.getElem?_eq_getElem a) rfl,rfl,rfl,rfl⟩|FC j a=>exact⟨f,rv (n:=Er (aa w)[j]) (List.getElem?_eq_getElem a) (HE _),rfl,rfl,rfl⟩|Ir m d z _=>refine⟨⟨d,rfl,?_⟩,rfl,rfl,rfl,rfl⟩;rcases z.nw with e|⟨b,_,e,_⟩<;>rw[e]<;>simp|Gi j a k i y=>obtain⟨c,l⟩:=h.nd _ (List.getElem_mem a);obtain⟨t,_⟩:=h.nd _ (List.getElem_mem i);obtain⟨x,u⟩:=Iw w (fp (aa w)[j] (aa w)[k].2.1 (aa w)[k].1).1 (p w _ h (pv c t.v.h.ok.2.1 t.v.h.ok.1 y));grind
structure py(n n':a0)(sg:List fl):Prop where
 nm:n'.1=n.1
 mon:n.2.1<n'.2.1\/(n'.2.1=n.2.1/\fb n<=fb n')Hu:sg.length<=1
 who:∀s∈sg,s.2.2.2.2.1=n.1/\s.2.1=n.2.1
 WK:∀s∈sg,s.1=1->fb n<s.2.2.1/\(n.2.1<n'.2.1\/(n'.2.1=n.2.1/\s.2.2.1<=fb n'))
theorem py.none{n n':a0}(h:j9 n n'):py n n' []:=⟨h.a.nm,by
 rcases h.a.ca with⟨a,b,_⟩|a;·omega
 omega,Nat.zero_le _,by grind,by grind⟩
theorem N1{n:a0}{b:ao}(m:NW n)(a:j3.Ok b)(k:ei b)(p:n.2.1<890):py n (ft n b).1 (ft n b).2.2:=by obtain⟨h,c⟩:=mm m a k p;unfold ft;cases q:AT n b with|false=>exact py.none c|true=>
 have i:=JB q;have r:=i.ep;have t:fb (cf n b)=fb n:=by
  rcases c.a.ca with⟨_,e,_⟩|e;·exact e
  ·omega
 have o:=l6 h a.2.2.1;obtain⟨w,j⟩:=HB (v:=(b.2.2.1,(b.1,((cf n b).1,())))) o ⟨a.2.2.1,a.1,h.v.h.ok.1,trivial⟩ (by show (cf n b).2.1<890;omega);have u:=i.vo;have l:(tb (o0 (cf n b) b.2.2.1) (b.2.2.1,(b.1,((cf n b).1,())))).2.1=(cf n b).2.1/\fb (tb (o0 (cf n b) b.2.2.1) (b.2.2.1,(b.1,((cf n b).1,()))))=b.2.2.1\/(cf n b).2.1<(tb (o0 (cf n b) b.2.2.1) (b.2.2.1,(b.1,((cf n b).1,())))).2.1:=by
  rcases j.a.ca with ⟨g,d,_⟩|e;·exact .inl ⟨g,d⟩
  ·exact .inr e
 simp only[cond_true];refine ⟨j.a.nm.trans c.a.nm,?_,Nat.le_refl _,λs f=>?_,λs f _=>?_⟩;·omega
 ·rw[List.mem_singleton.1 f];exact ⟨c.a.nm,rfl⟩
 · rw[List.mem_singleton.1 f];refine ⟨by show fb n<b.2.2.1;omega,?_⟩;rcases l with ⟨g,d⟩|e;· exact .inr ⟨g.trans r,by rw[d];exact Int.le_refl _⟩
   omega
theorem N2{n:a0}{m:fr}(c:NW n)(a:FA m)(g:m.2.2.1=n.2.1)(d:n.2.1<890):py n (e8 n m).1 (e8 n m).2.2:=by unfold e8;cases f:gA m.1 1 with
 |true=>have i:=a.pr (Cr.1 f);cases h:lf m with|nil=>grind|cons b r=>have e:=a.ok.kp a.l b (by grind);exact N1 c e.1 e.2 d
 |false=>cases gA m.1 2 with|true=>exact py.none (HB c a.ok.vo d).2|false=>cases gA m.1 3 with|true=>exact py.none (Gb c (a.ok.C6 a.l) a.ok.go d).2|false=>exact py.none (B8 c a.ok a.l g d).2.2.2
theorem LV{n:a0}(a:NW n)(f:n.2.1<890)(i:fb n<=ad n):py n (ev n).1 (ev n).2.2:=by unfold ev;cases (E4 (bb n) n.1&&!dO (ad n) (fb n)) with|false=>exact py.none (j9.gj n)|true=>
 obtain⟨j,d⟩:=Gb (g:=EA n) (l6 a a.v.h.round) (a.v.h.ok.C6 a.v.h.l) (HA a.v.h.ok) f;refine⟨d.a.nm,?_,Nat.le_refl _,λs b=>?_,λs b e=>?_⟩
 · rcases d.a.ca with⟨h,c,_⟩|e;· exact .inr ⟨h,by have c:fb (ik (o0 n (ad n)) (EA n) (bx n))=ad n:=c;grind⟩
   · exact .inl e
 · rw[List.mem_singleton.1 b];exact ⟨rfl,rfl⟩
 · rw[List.mem_singleton.1 b]at e;have :(2:Int)=1:=e;omega
theorem N3{n:a0}{a:Int}(b:NW n)(c:(Lit.int .i64 a).wf=true)(f:n.2.1<890):py n (dt n a).1 (dt n a).2.2.2:=by obtain⟨e,d⟩:=rm b.v.h c;unfold dt;cases Fb n a with|false=>exact py.none (j9.gj n)|true=>have h:=N1 (sz b b.v.h.round) e d f;exact⟨h.nm,h.mon,h.Hu,h.who,h.WK⟩
structure vv(w:en):Prop where
 who:∀s∈fz w,∃n∈aa w,s.2.2.2.2.1=n.1
 Zh:∀s∈fz w,s.1=1->∀n∈aa w,s.2.2.2.2.1=n.1->s.2.1<n.2.1\/(s.2.1=n.2.1/\s.2.2.1<=fb n)Hu:∀s∈fz w,∀t∈fz w,s.1=1->t.1=1->s.2.1=t.2.1->s.2.2.1=t.2.2.1->s.2.2.2.2.1=t.2.2.2.2.1->s.2.2.2.1=t.2.2.2.1
theorem Pu.E5{an:List D9}{a:List a0}(h:Pu an a){i j:Nat}(c:i<a.length)(d:j<a.length)(e:a[i].1=a[j].1):i=j:=by
 rcases Nat.lt_trichotomy i j with b|b|b;·have :=h.up i j c d b;rw[e,Kr (xD _)]at this;grind
 ·exact b
 ·have :=h.up j i d c b;rw[e,Kr (xD _)]at this;grind
theorem EL{w g:en}{an:List D9}(h:vv w)(K:Pu an (aa w)){j:Nat}(A:j<(aa w).length){n':a0}{v:List fl}(c:py (aa w)[j] n' v)(r:aa g=(aa w).set j n')(l:∀s,s∈fz g↔s∈fz w\/s∈v):vv g:=by
 have D:∀x∈aa g,x=n'\/(x∈aa w/\x.1≠n'.1):=λx p=>by
  rw[r] at p;obtain⟨i,L,rfl⟩:=List.getElem_of_mem p;rw[List.getElem_set];split;·grind
  ·next u=>
  have z:i<(aa w).length:=by grind
  refine .inr ⟨List.getElem_mem z,λe=>u ?_⟩;rw[c.nm] at e;exact (K.E5 z A e).symm
 have H:n'∈aa g:=by rw[r,List.mem_iff_getElem];grind
 have M:∀x∈aa w,∃y∈aa g,y.1=x.1:=λx p=>by
  obtain ⟨i,L,rfl⟩:=List.getElem_of_mem p;refine ⟨(aa g)[i]'(by grind),List.getElem_mem _,?_⟩;simp only[r,List.getElem_set];split;·next e=>subst e;exact c.nm
  ·rfl
 have C:∀s∈fz w,s.1=1->s.2.2.2.2.1=(aa w)[j].1->s.2.1<(aa w)[j].2.1\/(s.2.1=(aa w)[j].2.1/\s.2.2.1<=fb (aa w)[j]):=λs J d e=>h.Zh s J d _ (List.getElem_mem A) e;refine ⟨λs k=>?_,λs k d n F e=>?_,λs k t I d f Q R V=>?_⟩
 · rcases (l s).1 k with d|d;· obtain ⟨n,N,O⟩:=h.who s d;grind
   · exact ⟨n',H,(c.who s d).1.trans c.nm.symm⟩
 · rcases D n F with rfl|⟨G,u⟩
   · rcases (l s).1 k with f|f
     · have :=C s f d (e.trans c.nm);rcases c.mon with m|⟨P,T⟩;· omega
       omega
     · have o:=c.who s f;rcases (c.WK s f d).2 with q|⟨S,U⟩;· omega
       omega
   · rcases (l s).1 k with f|f;· exact h.Zh s f d n G e
     · have o:=c.who s f;exact absurd (by rw[<-e,o.1,c.nm]) u
 · have B:=c.Hu;rcases (l s).1 k with a|a<;>rcases (l t).1 I with b|b;· grind[vv.Hu]
   · have o:=c.who t b;have E:=(c.WK t b f).1;grind
   · have o:=c.who s a;have E:=(c.WK s a d).1;grind
   · match v,B,a,b with|[x],_,a,b=>grind
theorem C3{w b:en}(h:vv w)(c:aa b=aa w)(a:fz b=fz w):vv b:=by
 refine⟨?_,?_,?_⟩;·rw[c,a];exact h.who
 ·rw[c,a];exact h.Zh
 ·rw[a];exact h.Hu
theorem JM{E S:Nat}{R:Int}{w:en}{m:fr}(h:WI E S w)(n:E<890)(i:WR R w)(k:FA m)(f:sF (aa w) m.2.1=true)(a:vv w):vv (l8 w m):=by obtain⟨j,b,_,l,e⟩:=CV f;obtain⟨d,o⟩:=h.nd _ (List.getElem_mem b);rw[e];cases g:gA (aa w)[j].2.1 m.2.2.1 with|false=>exact a|true=>have c:=Cr.1 g;exact EL a i.nm b (N2 d k c.symm (by omega)) rfl (λs=>ee)
theorem Fg(w:en)(j:Nat)(n:a0):aa (i4 w j n)=(aa w).set j n:=rfl
theorem EM(w:en)(j:Nat)(n:a0)(s:fl):s∈fz (i4 w j n)↔s∈fz w\/s∈([]:List fl):=by simp_all[fl,fz,i4]
theorem RO(n:a0):j9 n (Er n):=⟨⟨HE n,.inl ⟨HF n,TQ n,TR n⟩⟩,Int.le_of_eq (HF n).symm,by rw[HF];omega⟩
theorem RP(n:a0):py n (Er n) []:=py.none (RO n)
theorem T0{w:en}(b:vv w){an:List D9}(d:Pu an (aa w)){j:Nat}(c:j<(aa w).length)(n:a0)(e:n=(aa w)[j]):vv (i4 w j (Er n)):=by have a:=RP n;generalize Er n=m at a⊢;rw[e]at a;exact EL b d c a (Fg w j m) (EM w j m)
theorem LW(n:a0)(q:List cp):py n (Eh n q) []:=py.none ⟨⟨rfl,.inl ⟨rfl,rfl,rfl⟩⟩,Int.le_refl _,by show n.2.1<=n.2.1+1;omega⟩
theorem RQ{w:en}(a:vv w){an:List D9}(c:Pu an (aa w)){j:Nat}(b:j<(aa w).length)(m:a0)(d:py (aa w)[j] m []):vv (i4 w j m):=EL a c b d (Fg w j m) (EM w j m)
theorem qL.Hu{E S:Nat}{R:Int}{w l:en}(s:qL w l)(h:WI E S w)(o:E<890)(c:WR R w)(b:vv w):vv l:=by cases s with|GV=>exact b|Eb m f v=>exact C3 b rfl rfl|drop k=>exact C3 b rfl rfl|sX k e=>have f:=h.nm _ (List.getElem_mem e);exact JM (o8 h k) o (EK c k) f.1 f.2 (C3 b rfl rfl)|Jj j a u=>obtain⟨d,p⟩:=h.nd _ (List.getElem_mem a);have t:=Bk (n:=(ab w).length) (by omega);exact EL b c.nm a (N3 d t (by omega)) rfl (λs=>ee)|Fe j a=>obtain⟨d,p⟩:=h.nd _ (List.getElem_mem a);exact EL b c.nm a (LV d (by omega) (c.nd _ (List.getElem_mem a)).vo.2) rfl (λs=>ee)|Iq j a k e=>unfold A9;cases (fp (aa w)[j] (aa w)[k].2.1 (aa w)[k].1).2.1.1<;>exact C3 b rfl rfl|EI j a q _ _ _=>exact RQ b c.nm a _ (LW _ q)|FC j a=>exact T0 b c.nm a _ rfl|Ir m x y _=>exact C3 b rfl rfl|Gi j a k e i=>obtain⟨d,p⟩:=h.nd _ (List.getElem_mem a);obtain⟨g,_⟩:=h.nd _ (List.getElem_mem e);have r:=wb _ _ _ i;exact JM h o c (pv d g.v.h.ok.2.1 g.v.h.ok.1 i) (by rw[r.1];exact EZ e) b
structure BA(G:fl->Prop)(S:List df)(ep:Int)(b:ao):Prop where
 eq:b.2.1=ep
 qc:tm S (gx b)=true
 tc:FE S (oj b)=true
 fo:k8 b=true
 qa:∀s∈mo ep (gx b),G s
 ta:∀s∈pf ep (oj b),G s
inductive j0(bl:List ao)(G:fl->Prop)(S:List df)(ep:Int):Int->List ao->Prop|GM(id:Int):id<0->j0 bl G S ep id []|dp(b:ao)(l:List ao):b∈bl->BA G S ep b->(j7 (gx b)=true\/∃p∈bl,p.1=(gx b).2.1/\p.2.2.1=(gx b).1)->j0 bl G S ep (gx b).2.1 l->j0 bl G S ep b.1 (l++[b])
theorem BA.mono{G d:fl->Prop}{S:List df}{e:Int}{b:ao}(h:BA G S e b)(c:∀s,G s->d s):BA d S e b:=⟨h.eq,h.qc,h.tc,h.fo,λs a=>c s (h.qa s a),λs a=>c s (h.ta s a)⟩
theorem j0.mono{bl c:List ao}{G d:fl->Prop}{S:List df}{e a:Int}{l:List ao}(h:j0 bl G S e a l)(f:∀b∈bl,b∈c)(i:∀s,G s->d s):j0 c d S e a l:=by induction h with|GM a h=>exact .GM a h|dp b l g j m n k=>refine .dp b l (f b g) (j.mono i) ?_ k;grind
theorem N4{l bl:List ao}{G:fl->Prop}{S:List df}{g:Int}(h:ic l)(f:∀b∈l,b∈bl/\BA G S g b):∀c,(c<0\/∃b∈l,b.1=c)->j0 bl G S g c (ct l c):=by
 refine vx h (λc r m=>?_) (λb e j _=>?_)
 · rcases m with a|⟨b,a,d⟩;· rw[Ju h a];exact .GM c a
   grind
 · rw[kb h e];obtain⟨a,d⟩:=f b e;rcases h.Mm b e with⟨q,n⟩|⟨_,_,_,p,k,i,o⟩;· exact .dp b _ a d (.inl n) (j (.inl (by omega)))
   · exact .dp b _ a d (.inr ⟨p,(f p k).1,i,o⟩) (j (.inr ⟨p,k,i⟩))
theorem j0.dr{bl:List ao}{G:fl->Prop}{S:List df}{c a:Int}{l:List ao}(h:j0 bl G S c a l):∀b∈l,b∈bl/\BA G S c b:=by induction h with|GM a h=>grind|dp b l d g e f i=>grind
structure N5(bl:List ao)(G:fl->Prop)(S:List df)(ep:Int)(q:j4)(l:List ao)(a b:ao):Prop where
 ch:j0 bl G S ep a.1 (l++[a])YK:b∈bl
 ba:BA G S ep b
 id:b.1=q.2.1
 rd:b.2.2.1=q.1
 Mm:(gx b).2.1=a.1
 Wl:(gx b).1=a.2.2.1
 ard:a.2.2.1=q.1-1
 qc:tm S q=true
 qa:∀s∈mo ep q,G s
theorem N5.mono{bl d:List ao}{G f:fl->Prop}{S:List df}{g:Int}{q:j4}{l:List ao}{a b:ao}(h:N5 bl G S g q l a b)(e:∀b∈bl,b∈d)(c:∀s,G s->f s):N5 d f S g q l a b:=⟨h.ch.mono e c,e b h.YK,h.ba.mono c,h.id,h.rd,h.Mm,h.Wl,h.ard,h.qc,λs i=>c s (h.qa s i)⟩
theorem Ix{l bl:List ao}{G:fl->Prop}{S:List df}{f:Int}{q:j4}(h:ic l)(e:∀b∈l,b∈bl/\BA G S f b)(i:tm S q=true)(r:∀s∈mo f q,G s)(n:c8 l q≠-1):∃k a b,ct l (c8 l q)=k++[a]/\ct l q.2.1=(k++[a])++[b]/\N5 bl G S f q k a b:=by
 obtain⟨b,c,m,v,p,d,g,w,C⟩:=Fa n;have A:=KF i;have o:p.2.2.1=q.1-1:=by rw[w];exact iz (by omega) (by omega)
 have x:=h.nn p d;have j:ct l p.1=ct l (gx p).2.1++[p]:=kb h d;refine⟨ct l (gx p).2.1,p,b,by grind,by rw[<-m,kb h c,<-g,j],?_⟩;refine⟨by rw[<-j];exact N4 h e p.1 (.inr ⟨p,d,rfl⟩),(e b c).1,(e b c).2,m,v,g.symm,?_,o,i,r⟩;rcases h.Mm b c with ⟨y,_⟩|⟨_,_,_,B,t,u,z⟩;·omega
 ·have :=h.QT d t (g.trans u.symm);grind
inductive Mn(bl:List ao)(G:fl->Prop)(S:List df)(ep:Int)(d0:List D3):List D3->Prop|nil:Mn bl G S ep d0 d0|V8(d:List D3)(q:j4)(l:List ao)(a b:ao):Mn bl G S ep d0 d->N5 bl G S ep q l a b->(∀c∈l++[a],fa c=false)->Mn bl G S ep d0 (i0 d (hM (l++[a])))
inductive te(bl:List ao)(G:fl->Prop)(base:fk):List A4->List df->fk->List D3->Prop|nil:te bl G base [] (ma base.2.1) base []|Na(c9:List A4)(S:List df)(L:fk)(d0 d:List D3)(q:j4)(l:List ao)(a b:ao)(p:List ao)(c:ao)(r:List ao):te bl G base c9 S L d0->Mn bl G S (c9.length:Int) d0 d->N5 bl G S (c9.length:Int) q l a b->l++[a]=p++c::r->fa c=true->(∀x∈p,fa x=false)->te bl G base (c9++[((c9.length:Int),((l++[a])++[b],(q.1,(q.2.1,(q.2.2.1,())))))]) (kB c) (ks (nr L (p++[c]))) (i0 d (hM (p++[c])))
theorem Mn.mono{bl c:List ao}{G e:fl->Prop}{S:List df}{f:Int}{g d:List D3}(h:Mn bl G S f g d)(i:∀b∈bl,b∈c)(k:∀s,G s->e s):Mn c e S f g d:=by induction h with|nil=>exact .nil|V8 d q l a b _ j m n=>exact .V8 d q l a b n (j.mono i k) m
theorem te.mono{bl f:List ao}{G j:fl->Prop}{base:fk}{e:List A4}{S:List df}{L:fk}{d:List D3}(h:te bl G base e S L d)(g:∀b∈bl,b∈f)(i:∀s,G s->j s):te f j base e S L d:=by induction h with|nil=>exact .nil|Na e S L t d q l a b p c r _ k u m o n v=>exact .Na e S L t d q l a b p c r v (k.mono g i) (u.mono g i) m o n
structure SI(bl:List ao)(G:fl->Prop)(base:fk)(n:a0):Prop where
 Gm:∃d0,te bl G base (bm n) (bb n) (gd n) d0/\Mn bl G (bb n) n.2.1 d0 (mu n)ki:∀b∈ar n,b∈bl/\BA G (bb n) n.2.1 b
 hq:tm (bb n) (bx n)=true/\∀s∈mo n.2.1 (bx n),G s
 tq:FE (bb n) (E7 n)=true/\∀s∈pf n.2.1 (E7 n),G s
 vt:∀v∈dT n,G (xx v.2.2.1 n.2.1 v.1 v.2.1)gn:∀g∈ej n,G ((2,(n.2.1,(g.1,(g.2.1,(g.2.2.1,()))))):fl)
theorem SI.mono{bl e:List ao}{G f:fl->Prop}{base:fk}{n:a0}(h:SI bl G base n)(c:∀b∈bl,b∈e)(a:∀s,G s->f s):SI e f base n:=by obtain⟨m,k,o⟩:=h.Gm;exact⟨⟨m,k.mono c a,o.mono c a⟩,λb i=>⟨c b (h.ki b i).1,(h.ki b i).2.mono a⟩,⟨h.hq.1,λs d=>a s (h.hq.2 s d)⟩,⟨h.tq.1,λs d=>a s (h.tq.2 s d)⟩,λv l=>a _ (h.vt v l),λg j=>a _ (h.gn g j)⟩
theorem RR{bl:List ao}{G:fl->Prop}{base:fk}{n:a0}{q:j4}(h:SI bl G base n)(c:tm (bb n) q=true)(a:∀s∈mo n.2.1 q,G s):SI bl G base (lv n q):=by
 have d:bx (lv n q)=w7 n q:=rfl;have b:w7 n q=q\/w7 n q=bx n:=by unfold w7;grind
 refine⟨h.Gm,h.ki,?_,h.tq,h.vt,h.gn⟩;rw[d];rcases b with e|e<;>rw[e];·exact⟨c,a⟩
 ·exact h.hq
theorem Nb{bl:List ao}{G:fl->Prop}{base:fk}{n:a0}{q:j4}(f:NW n)(h:SI bl G base n)(M:n.2.1<890)(l:tm (bb n) q=true)(j:∀s∈mo n.2.1 q,G s):SI bl G base (ke n q):=by
 have z:ic (ar n):=f.v.h.t;obtain⟨t,w,B⟩:=h.Gm;rcases vn n.2.1.toNat n.2.1.toNat n q f.v (by omega) with⟨_,e⟩|⟨i,⟨K,e⟩|⟨p,c,r,J,E,H,L,e,m⟩⟩;·grind
 ·obtain⟨k,a,b,u,o,y⟩:=Ix z h.ki l j i;rw[e];refine⟨⟨t,w,?_⟩,h.ki,h.hq,h.tq,h.vt,h.gn⟩;have :=Mn.V8 (mu n) q k a b B y (by grind);rw[u];exact this
 ·obtain⟨k,a,b,u,o,y⟩:=Ix z h.ki l j i;rw[e];have A:=f.pa;have I:(ks (nr (gd n) (p++[c]))).1=n.2.1+1:=m;refine⟨⟨i0 (mu n) (hM (p++[c])),?_,.nil⟩,λx D=>(by cases D),⟨Gj,λs d=>(by cases d)⟩,⟨Gk,λs d=>(by cases d)⟩,λv F=>(by cases F),λg C=>(by cases C)⟩;have d:=te.Na (bm n) (bb n) (gd n) t (mu n) q k a b p c r w (by grind) (by grind) (by grind) E H;rw[A,<-o]at d;exact d
theorem EN{bl:List ao}{G:fl->Prop}{base:fk}{n:a0}{q:j4}(a:NW n)(h:SI bl G base n)(f:n.2.1<890)(e:FF q)(c:tm (bb n) q=true)(b:∀s∈mo n.2.1 q,G s):SI bl G base (dc n q):=by have d:NW (lv n q):=NW.PQ (F9 a.v e) a.e0 a.pa;exact Nb d (RR h c b) f c b
theorem Nc{bl:List ao}{G:fl->Prop}{base:fk}{n:a0}{t:se}(h:SI bl G base n)(d:FE (bb n) t=true)(a:∀s∈pf n.2.1 t,G s):SI bl G base (Kv n t):=by
 have c:E7 (Kv n t)=O4 n t:=rfl;have b:O4 n t=t\/O4 n t=E7 n:=by unfold O4;grind
 refine⟨h.Gm,h.ki,h.hq,?_,h.vt,h.gn⟩;rw[c];rcases b with e|e<;>rw[e];·exact⟨d,a⟩
 ·exact h.tq
theorem LX{bl:List ao}{G:fl->Prop}{base:fk}{n:a0}{l:List sH}(h:SI bl G base n)(a:∀v∈l,G (xx v.2.2.1 n.2.1 v.1 v.2.1)):SI bl G base (B3 n l):=⟨h.Gm,h.ki,h.hq,h.tq,a,h.gn⟩
theorem LY{bl:List ao}{G:fl->Prop}{base:fk}{n:a0}{v:Int}(h:SI bl G base n):SI bl G base (o0 n v):=⟨h.Gm,h.ki,h.hq,h.tq,h.vt,h.gn⟩
theorem JN{bl:List ao}{G:fl->Prop}{base:fk}{n:a0}{v:Int}(h:SI bl G base n):SI bl G base (ns n v):=⟨h.Gm,h.ki,h.hq,h.tq,h.vt,h.gn⟩
theorem RS{G:fl->Prop}{d:List df}{c:List sH}{r e f:Int}(h:∀v∈c,G (xx v.2.2.1 f v.1 v.2.1)):∀s∈mo f (B5 d c r e),G s:=by intro s g;unfold mo at g;obtain⟨w,b,rfl⟩:=List.mem_map.1 g;have b:w∈Il d c r e:=b;unfold Il at b;obtain⟨v,l,rfl⟩:=List.mem_map.1 b;have i:=(List.mem_filter.1 l).2;unfold AN at i;obtain⟨x,k,a⟩:=List.any_eq_true.1 i;unfold KC at a;simp only[Bool.and_eq_true]at a;have m:=Cr.1 a.1;have j:=Cr.1 a.2.1;have n:=n9.1 a.2.2;have :=h x k;rw[m,j,n]at this;exact this
theorem N6{bl:List ao}{G:fl->Prop}{base:fk}{n:a0}{v:sH}(a:NW n)(h:SI bl G base n)(k:n.2.1<890)(b:Hf.Ok v)(l:G (xx v.2.2.1 n.2.1 v.1 v.2.1)):SI bl G base (tb n v):=by
 have f:=Ga a.v.vo a.v.h.ok.votes b;have e:∀x∈p0 (dT n) v,G (xx x.2.2.1 n.2.1 x.1 x.2.1):=λx g=>by
  rcases LR g with d|d;·exact h.vt x d
  grind
 have c:SI bl G base (B3 n (p0 (dT n) v)):=LX h e;have i:=B7 a f (EY a.v.vo);unfold tb;cases E4 (bb n) v.2.2.1 with|false=>exact h|true=>cases j:rf (bb n) (p0 (dT n) v) v.1 v.2.1 with|false=>exact c|true=>exact EN i c k (B6 (bb n) (p0 (dT n) v) v.1 v.2.1 a.v.h.ok.set a.v.h.l.2.1 b.1 b.2.1) (Iv j).1 (RS e)
theorem LZ{round:Int}{name:ByteArray}:∀(a:List ow)(s:Int),a.foldl (F0 round name) s=s\/∃g∈a,g.1=round/\g.2.2.1=name/\g.2.1=a.foldl (F0 round name) s
 |[],s=>.inl rfl|x::r,s=>by
  rw[List.foldl_cons];rcases LZ r (F0 round name s x) with h|⟨g,c,d⟩;·rw[h];unfold F0;cases b:(gA x.1 round&&(ko x.2.2.1 name&&dO s x.2.1)) with|false=>grind|true=>simp only[Bool.and_eq_true]at b;exact .inr ⟨x,List.mem_cons_self ..,Cr.1 b.1,n9.1 b.2.1,rfl⟩
  grind
theorem L1(a:List ow)(round:Int):∀(c:List df)(s:List D9×List D3),s.1.length=s.2.length->∀p∈List.zip (c.foldl (gq a round) s).1 (c.foldl (gq a round) s).2,p∈List.zip s.1 s.2\/∃v∈c,0<=AI a round v.1/\p.1.1=v.1/\p.2.1=AI a round v.1
 |[],s,_,p,b=>.inl b|v::r,s,f,p,b=>by
  rw[List.foldl_cons]at b;have e:(gq a round s v).1.length=(gq a round s v).2.length:=by unfold gq;grind
  rcases L1 a round r (gq a round s v) e p b with h|⟨x,g,h⟩;·unfold gq at h;cases d:km 0 (AI a round v.1) with|false=>grind|true=>
   rw[d]at h;simp only[cond_true]at h;rw[List.zip_append f]at h;rcases List.mem_append.1 h with h|h;·grind
   ·simp only[List.zip_cons_cons,List.zip_nil_left,List.mem_singleton]at h;exact .inr ⟨v,List.mem_cons_self ..,Cq.1 d,by rw[h],by rw[h]⟩
  grind
theorem RT{G:fl->Prop}{b:List df}{a:List ow}{r d:Int}(h:∀g∈a,G ((2,(d,(g.1,(g.2.1,(g.2.2.1,()))))):fl)):∀s∈pf d (Ez b a r),G s:=by
 intro s e;unfold pf at e;obtain⟨p,n,rfl⟩:=List.mem_map.1 e;rcases L1 a r b ([],[]) rfl p n with c|⟨v,_,c,l,j⟩;·cases c
 · rcases LZ (round:=r) (name:=v.1) a (-1) with f|⟨g,f,k,m,i⟩;· simp_all[AI,D9,D3,Ez]
   · have :=h g f;rw[k,m,show g.2.1=AI a r v.1 from i,<-j,<-l]at this;exact this
theorem Pv{bl:List ao}{G:fl->Prop}{base:fk}{n:a0}{g:ow}(h:SI bl G base n)(j:G ((2,(n.2.1,(g.1,(g.2.1,(g.2.2.1,()))))):fl)):SI bl G base (tv n g):=by
 have d:∀x∈sn (ej n) g,G ((2,(n.2.1,(x.1,(x.2.1,(x.2.2.1,()))))):fl):=λx f=>by
  rcases LS f with c|c;·exact h.gn x c
  grind
 have b:SI bl G base (Ef n (sn (ej n) g)):=⟨h.Gm,h.ki,h.hq,h.tq,h.vt,d⟩;unfold tv;dsimp only;cases i:(sv (bb n) (sn (ej n) g) g.1).2.1.1 with|false=>exact b|true=>obtain⟨_,a,e⟩:=EW i;rw[e]at a⊢;exact Nc b a (RT d)
theorem N7{bl:List ao}{G:fl->Prop}{base:fk}{n:a0}{g:ow}{q:j4}(i:NW n)(h:SI bl G base n)(j:n.2.1<890)(f:FF q)(e:G ((2,(n.2.1,(g.1,(g.2.1,(g.2.2.1,()))))):fl))(d:∀s∈mo n.2.1 q,G s):SI bl G base (ik n g q):=by unfold ik;cases b:(E4 (bb n) g.2.2.1&&tm (bb n) q) with|false=>exact h|true=>simp only[Bool.and_eq_true]at b;have a:=EN i h j f b.2 d;cases c:gA (dc n q).2.1 n.2.1 with|false=>exact a|true=>exact Pv a (by rw[Cr.1 c];exact e)
theorem KH{bl:List ao}{G:fl->Prop}{base:fk}{n:a0}{b:ao}(o:NW n)(h:SI bl G base n)(k:n.2.1<890)(m:j3.Ok b)(i:ei b)(t:b∈bl)(q:∀s∈o6 n.2.1 b,G s):SI bl G base (cf n b):=by unfold cf;cases l:pt n b with|false=>exact h|true=>
 have d:=NJ o.v.h.t l;have p:∀s∈mo n.2.1 (gx b),G s:=λs x=>q s (by unfold o6;grind);have u:∀s∈pf n.2.1 (oj b),G s:=λs x=>q s (by unfold o6;grind);obtain⟨v,A,y⟩:=EC o m i k l;have w:SI bl G base (kf n (qm (ar n) b)):=⟨h.Gm,λc a=>by
 rcases xd.1 a with f|f;·exact h.ki c f
 ·rw[f];exact⟨t,d.ep,d.qc,d.tc,d.fo,p,u⟩,h.hq,h.tq,h.vt,h.gn⟩;have f:SI bl G base (nv n b):=EN v w k (De.C6 m i) d.qc p;have g:SI bl G base (i3 n b):=by unfold i3;cases a:gA (nv n b).2.1 n.2.1 with|false=>exact f|true=>
  have a:=Cr.1 a;have r:bb (nv n b)=bb n:=by
   rcases y.a.ca with⟨_,_,e⟩|e;·exact e
   ·omega
  exact Nc f (by rw[r];exact d.tc) (by grind)
 obtain⟨j,z⟩:=ED o m i k l;show SI bl G base (AL n b);unfold AL;cases a:(gA (i3 n b).2.1 n.2.1&&gA (bx (i3 n b)).2.1 b.1) with|false=>exact g|true=>simp only[Bool.and_eq_true]at a;have B:=Cr.1 a.1;exact EN j g (by omega) (j.v.h.ok.C6 j.v.h.l) g.hq.1 g.hq.2
structure MG(G:fl->Prop)(m:fr):Prop where
 v:m.1=2->G (xx (Hs m).2.2.1 m.2.2.1 (Hs m).1 (Hs m).2.1)g:m.1=3->G ((2,(m.2.2.1,((Ht m).1,((Ht m).2.1,((Ht m).2.2.1,()))))):fl)q:∀s∈mo m.2.2.1 (mQ m),G s
 t:∀s∈pf m.2.2.1 (mT m),G s
 b:∀b∈lf m,∀s∈o6 m.2.2.1 b,G s
theorem MG.mono{G d:fl->Prop}{m:fr}(h:MG G m)(a:∀s,G s->d s):MG d m:=⟨λe=>a _ (h.v e),λe=>a _ (h.g e),λs c=>a s (h.q s c),λs c=>a s (h.t s c),λb f s c=>a s (h.b b f s c)⟩
theorem Iy{G:fl->Prop}{a:List df}{name:ByteArray}{m:fr}{b:Int}(h:∀v∈a,MG G (B4 m v.1 b)):∀x∈mb a name m b,MG G x:=by intro x c;unfold mb at c;grind
theorem N8{bl:List ao}{G:fl->Prop}{base:fk}{n:a0}{b:ao}(g:NW n)(h:SI bl G base n)(j:n.2.1<890)(a:j3.Ok b)(f:ei b)(o:b∈bl)(c:∀s∈o6 n.2.1 b,G s)(d:∀s∈(ft n b).2.2,G s):SI bl G base (ft n b).1/\∀m∈(ft n b).2.1,MG G m:=by have p:=KH g h j a f o c;obtain⟨i,t⟩:=mm g a f j;unfold ft at d⊢;cases k:AT n b with|false=>grind|true=>rw[k]at d;simp only[cond_true,List.mem_singleton,forall_eq]at d;have q:=JB k;have u:=q.ep;have l:=l6 i a.2.2.1;refine⟨N6 l (LY p) (by show (cf n b).2.1<890;omega) ⟨a.2.2.1,a.1,i.v.h.ok.1,trivial⟩ (by show G (xx (cf n b).1 (cf n b).2.1 b.2.2.1 b.1);grind),Iy λv r=>⟨λ_=>(by show G (xx (cf n b).1 (cf n b).2.1 b.2.2.1 b.1);grind),λe=>absurd (show (2:Int)=3 from e) (by decide),λs c=>(by cases c),λs c=>(by cases c),λb a=>(by cases a)⟩⟩
theorem RU{bl:List ao}{G:fl->Prop}{base:fk}{n:a0}{m:fr}(k:NW n)(h:SI bl G base n)(x:n.2.1<890)(c:FA m)(o:∀b∈lf m,b∈bl)(j:MG G m)(y:m.2.2.1=n.2.1):SI bl G base (tw n m):=by
 obtain⟨⟨w,E⟩,⟨B,C⟩,_⟩:=B8 k c.ok c.l y x;have q:∀(g:List ao)(s:a0),(∀b∈g,b∈lf m)->NW s->j9 n s->SI bl G base s->SI bl G base (g.foldl (ix m.2.2.1) s):=by intro g;induction g with|nil=>grind|cons b r D=>
  intro s p d f u;rw[List.foldl_cons];have i:=p b (by simp);have e:=c.ok.kp c.l b i;have A:NW (ix m.2.2.1 s b)/\j9 n (ix m.2.2.1 s b)/\SI bl G base (ix m.2.2.1 s b):=by unfold ix;cases a:gA s.2.1 m.2.2.1 with|false=>grind|true=>have a:=Cr.1 a;obtain⟨v,t⟩:=mm d e.1 e.2 (by omega);exact⟨v,f.trans t (by omega),KH d u (by omega) e.1 e.2 (o b i) (by rw[a];grind[MG.b])⟩
  simp_all
 have d:SI bl G base (p5 n m):=q (lf m) n (λb z=>z) k (j9.gj n) h;have f:SI bl G base (Fz n m):=by unfold Fz;cases a:(gA (p5 n m).2.1 m.2.2.1&&tm (bb (p5 n m)) (mQ m)) with|false=>exact d|true=>simp only[Bool.and_eq_true]at a;have l:=Cr.1 a.1;exact EN w d (by omega) (c.ok.C6 c.l) a.2 (by rw[l];exact j.q)
 unfold tw;cases a:(gA (Fz n m).2.1 m.2.2.1&&FE (bb (Fz n m)) (mT m)) with|false=>exact f|true=>simp only[Bool.and_eq_true]at a;exact Nc f a.2 (by rw[Cr.1 a.1];exact j.t)
theorem T1{bl:List ao}{G:fl->Prop}{base:fk}{n:a0}{m:fr}(g:NW n)(h:SI bl G base n)(i:n.2.1<890)(a:FA m)(k:∀b∈lf m,b∈bl)(f:MG G m)(d:m.2.2.1=n.2.1)(e:∀s∈(e8 n m).2.2,G s):SI bl G base (e8 n m).1/\∀x∈(e8 n m).2.1,MG G x:=by unfold e8 at e⊢;cases o:gA m.1 1 with
 |true=>rw[o]at e;have u:=a.pr (Cr.1 o);cases p:lf m with|nil=>grind|cons b r=>
 rw[p]at e;have l:b∈lf m:=by grind
 have j:=a.ok.kp a.l b l;exact N8 g h i j.1 j.2 (k b l) (by rw[<-d];grind[MG.b]) e
 |false=>cases t:gA m.1 2 with|true=>exact⟨N6 g h i a.ok.vo (by rw[<-d];exact f.v (Cr.1 t)),λx c=>by cases c⟩|false=>cases q:gA m.1 3 with|true=>exact⟨N7 g h i (a.ok.C6 a.l) (by rw[<-d];exact f.g (Cr.1 q)) (by rw[<-d];exact f.q),λx c=>by cases c⟩|false=>exact⟨RU g h i a k f d,λx c=>by cases c⟩
theorem RV{bl:List ao}{G:fl->Prop}{base:fk}{n:a0}(c:NW n)(h:SI bl G base n)(i:n.2.1<890)(a:∀s∈(ev n).2.2,G s):SI bl G base (ev n).1/\∀x∈(ev n).2.1,MG G x:=by unfold ev at a⊢;cases g:(E4 (bb n) n.1&&!dO (ad n) (fb n)) with|false=>grind|true=>rw[g]at a;simp only[cond_true,List.mem_singleton,forall_eq]at a;refine⟨N7 (l6 c c.v.h.round) (LY h) i (c.v.h.ok.C6 c.v.h.l) a h.hq.2,Iy λv j=>⟨λe=>absurd (show (3:Int)=2 from e) (by decide),λ_=>a,h.hq.2,λs f=>(by cases f),λb d=>(by cases d)⟩⟩
theorem N9{bl:List ao}{G:fl->Prop}{base:fk}{n:a0}(h:SI bl G base n)(b:Int):∀s∈o6 n.2.1 (g9 n b),G s:=by
 intro s c;unfold o6 at c;rcases List.mem_append.1 c with a|a;·exact h.hq.2 s a
 ·have e:oj (g9 n b)=D7 n:=rfl;rw[e]at a;unfold D7 at a;cases d:!gA (bx n).1 (gS .i64 (ad n) 1)with|true=>rw[d]at a;exact h.tq.2 s a|false=>rw[d]at a;cases a
theorem T2{bl:List ao}{G:fl->Prop}{base:fk}{n:a0}{a:Int}(i:NW n)(h:SI bl G base n)(u:n.2.1<890)(l:(Lit.int .i64 a).wf=true)(g:∀b∈(dt n a).2.1,b∈bl)(f:∀s∈(dt n a).2.2.2,G s):SI bl G base (dt n a).1/\∀x∈(dt n a).2.2.1,MG G x:=by obtain⟨p,q⟩:=rm i.v.h l;unfold dt at g f⊢;cases t:Fb n a with|false=>grind|true=>
 rw[t]at g f;have k:g9 n a∈bl:=g _ (List.mem_cons_self ..);have j:=N9 h a;obtain⟨r,w⟩:=N8 (sz i i.v.h.round) (JN (v:=ad n) h) u p q k j f;refine⟨r,λx d=>?_⟩;rcases List.mem_append.1 d with d|d;·refine Iy (m:=n8 (g9 n a) n.2.1) (λv y=>?_) x d;exact⟨λe=>absurd (show (1:Int)=2 from e) (by decide),λe=>absurd (show (1:Int)=3 from e) (by decide),λs c=>(by cases c),λs c=>(by cases c),λb o s c=>by rw[List.mem_singleton.1 o]at c;exact j s c⟩
 grind
def GW(w:en)(s:fl):Prop:=iv (hu w) s.2.2.2.2.1=true\/s∈fz w
structure SW(w:en):Prop where
 nd:∀n∈aa w,SI (ab w) (GW w) (fv w) n
 z9:∀m∈ds w,MG (GW w) m
theorem te.c9{bl:List ao}{G:fl->Prop}{base:fk}{f:List A4}{S:List df}{L:fk}{d:List D3}(h:te bl G base f S L d):∀p∈f,(∀b∈kj p,∃j,BA G j p.1 b)/\∀s∈mo p.1 (pQ p),G s:=by induction h with|nil=>grind|Na f S L t d q l a b p c r _ k g m o n u=>
 intro x e;rcases List.mem_append.1 e with e|e;·grind
 · rw[List.mem_singleton.1 e];refine⟨λy i=>?_,g.qa⟩;rcases List.mem_append.1 i with h|h;· exact⟨S,(g.ch.dr y h).2⟩
   · rw[List.mem_singleton.1 h];exact⟨S,g.ba⟩
theorem L2{G:fl->Prop}{S:List df}{c:Int}{b:ao}(h:BA G S c b):∀s∈o6 c b,G s:=by
 intro s a;unfold o6 at a;rcases List.mem_append.1 a with d|d;·exact h.qa s d
 grind[BA.ta]
theorem Iz{bl:List ao}{G:fl->Prop}{base:fk}{n:a0}(h:SI bl G base n)(a:Int)(k:ByteArray)(i:(fp n a k).2.1.1=true):MG G (fp n a k).1:=by unfold fp at i⊢;cases d:gA a n.2.1 with|true=>have d:=Cr.1 d;refine⟨λe=>absurd (show (4:Int)=2 from e) (by decide),λe=>absurd (show (4:Int)=3 from e) (by decide),λs c=>h.hq.2 s (by rw[<-d];exact c),λs c=>h.tq.2 s (by rw[<-d];exact c),λb g=>?_⟩;show∀s∈o6 a b,G s;rw[d];exact L2 (h.ki b g).2|false=>rw[d]at i;cases j:(bm n).find? (λp=>gA p.1 a)with|none=>grind|some p=>have r:=List.mem_of_find?_eq_some j;have f:=List.find?_some j;have f:p.1=a:=Cr.1 f;obtain⟨t,l,_⟩:=h.Gm;obtain⟨m,q⟩:=l.c9 p r;simp only[cond_false];refine⟨λe=>absurd (show (4:Int)=2 from e) (by decide),λe=>absurd (show (4:Int)=3 from e) (by decide),λs c=>q s (by rw[f];exact c),λs c=>(by cases c),λb g=>?_⟩;obtain⟨u,o⟩:=m b g;show∀s∈o6 a b,G s;rw[<-f];exact L2 o
theorem RW{w:en}{m:fr}{E:List ao}(q:FB w m E):MG (GW w) m:=by
 have y:=Wi q.ok;have a:=y.kd;have o:=q.sg;unfold Gf at o;have d:∀s∈A0 m,GW w s:=λs i=>by
  have :=List.all_eq_true.1 o s i;simp only[Bool.or_eq_true]at this;rcases this with h|h;·exact .inl h
  ·refine .inr ?_;unfold A7 at h;obtain⟨x,M,k⟩:=List.any_eq_true.1 h;unfold LB at k;simp only[Bool.and_eq_true]at k;obtain⟨F,H,g,J,I⟩:=k;obtain⟨v,z,C,K,r,_⟩:=x;obtain⟨B,t,D,u,G,_⟩:=s;have O:v=B:=Cr.1 F;have L:z=t:=Cr.1 H;have Q:C=D:=Cr.1 g;have P:K=u:=Cr.1 J;have N:r=G:=n9.1 I;grind
 unfold A0 at d;refine⟨λe=>?_,λe=>?_,λs i=>d s ?_,λs i=>d s ?_,λb R s i=>d s ?_⟩
 · unfold xC at a;rw[e]at a;have n:gA (2:Int) 1=false:=rfl;have l:gA (2:Int) 2=true:=rfl;rw[n,l]at a;simp only[cond_true,cond_false,Bool.and_eq_true]at a;have c:=a.2.1;unfold Tv at c;simp only[Bool.and_eq_true]at c;have p:ko (Hs m).2.2.1 ⟨#[]⟩=false:=by cases j:ko (Hs m).2.2.1 ⟨#[]⟩with|false=>rfl|true=>have g:m.2.2.2.2.2.2.1=⟨#[]⟩:=n9.1 j;have f:=c.2.2;rw[g]at f;exact absurd f (by decide)
   refine d _ (List.mem_append_left _ ?_);rw[p];exact List.mem_cons_self ..
 · unfold xC at a;rw[e]at a;have n:gA (3:Int) 1=false:=rfl;have l:gA (3:Int) 2=false:=rfl;have A:gA (3:Int) 3=true:=rfl;rw[n,l,A]at a;simp only[cond_true,cond_false,Bool.and_eq_true]at a;have c:=a.2.2.1;unfold VL at c;simp only[Bool.and_eq_true]at c;have p:ko (Ht m).2.2.1 ⟨#[]⟩=false:=by cases j:ko (Ht m).2.2.1 ⟨#[]⟩with|false=>rfl|true=>have g:m.2.2.2.2.2.2.2.2.2.1=⟨#[]⟩:=n9.1 j;have f:=c.2.2.2;rw[g]at f;exact absurd f (by decide)
   grind
 · grind
 · grind
 grind
theorem KI{w a:en}{n':a0}{ms:List fr}{j:Nat}(h:SW w)(q:j<(aa w).length)(f:aa a=(aa w).set j n')(o:hu a=hu w)(l:fv a=fv w)(k:∀b∈ab w,b∈ab a)(i:∀s∈fz w,s∈fz a)(p:SI (ab a) (GW a) (fv w) n') (r:∀m∈ms,MG (GW a) m) (g:∀m∈ds a,m∈ds w\/m∈ms):SW a:=by
 have e:∀s,GW w s->GW a s:=λs n=>by
  rcases n with c|c;·exact .inl (by grind)
  ·exact .inr (i s c)
 refine⟨λx d=>?_,λm d=>?_⟩
 · rw[f]at d;rw[l];rcases List.mem_or_eq_of_mem_set d with c|rfl;· exact (h.nd x c).mono k e
   omega
 · rcases g m d with c|c;· exact (h.z9 m c).mono e
   grind
theorem L3{E S:Nat}{R:Int}{w:en}{m:fr}(h:WI E S w)(B:E<890)(f:SW w)(v:FA m)(o:MR R (ab w) m)(u:sF (aa w) m.2.1=true)(r:MG (GW w) m):SW (l8 w m):=by obtain⟨j,e,_,A,p⟩:=CV u;obtain⟨z,C⟩:=h.nd _ (List.getElem_mem e);rw[p];cases t:gA (aa w)[j].2.1 m.2.2.1 with|false=>exact f|true=>
 have n:=Cr.1 t;simp only[cond_true];generalize c:Eg (i4 w j (e8 (aa w)[j] m).1) (e8 (aa w)[j] m).2.1 (e8 (aa w)[j] m).2.2=d;have l:∀s,GW w s->GW d s:=λs a=>by
  rw[<-c];rcases a with a|a;·exact .inl a
  ·exact .inr (ee.2 (.inl a))
 have y:∀s∈(e8 (aa w)[j] m).2.2,GW d s:=λs a=>by rw[<-c];exact .inr (ee.2 (.inr a))
 obtain⟨k,q⟩:=T1 (bl:=ab w) (G:=GW d) z ((f.nd _ (List.getElem_mem e)).mono (λb g=>g) l) (by omega) v o.bs (r.mono l) n.symm y;refine KI (ms:=(e8 (aa w)[j] m).2.1) (n':=(e8 (aa w)[j] m).1) f e (by rw[<-c];rfl) (by rw[<-c];rfl) (by rw[<-c];rfl) (λb g=>by rw[<-c];exact g) (λs a=>by rw[<-c];exact ee.2 (.inl a)) (by rw[<-c] at k⊢;exact k) q (λx i=>?_);rw[<-c] at i;rcases l5 i with a|a;·exact .inl a
 grind
theorem IA{w:en}(h:SW w)(k:Nat):SW (tS w k):=⟨h.nd,λm a=>h.z9 m (GU a)⟩
theorem T3{E S:Nat}{w:en}(h:WI E S w)(v:E<890)(k:SW w){j:Nat}(e:j<(aa w).length):SW (Fc w j (aa w)[j]):=by
 obtain⟨t,y⟩:=h.nd _ (List.getElem_mem e);have u:=h.bl;have l:=Bk (n:=(ab w).length) (by omega);generalize c:Fc w j (aa w)[j]=d;have g:∀b∈ab w,b∈ab d:=λb f=>by rw[<-c];exact List.mem_append_left _ f
 have q:∀s,GW w s->GW d s:=λs a=>by
  rw[<-c];rcases a with a|a;·exact .inl a
  ·exact .inr (ee.2 (.inl a))
 have r:∀s∈(dt (aa w)[j] ((ab w).length:Int)).2.2.2,GW d s:=λs a=>by rw[<-c];exact .inr (ee.2 (.inr a))
 have o:∀b∈(dt (aa w)[j] ((ab w).length:Int)).2.1,b∈ab d:=λb f=>by rw[<-c];exact List.mem_append_right _ f
 obtain⟨p,m⟩:=T2 (bl:=ab d) (G:=GW d) t ((k.nd _ (List.getElem_mem e)).mono g q) (by omega) l o r;refine KI (ms:=(dt (aa w)[j] ((ab w).length:Int)).2.2.1) (n':=(dt (aa w)[j] ((ab w).length:Int)).1) k e (by rw[<-c];rfl) (by rw[<-c];rfl) (by rw[<-c];rfl) g (λs a=>by rw[<-c];exact ee.2 (.inl a)) p m (λx i=>?_);rw[<-c]at i;rcases l5 i with a|a;·grind
 grind
theorem RX{E S:Nat}{w:en}(h:WI E S w)(q:E<890)(i:SW w){j:Nat}(e:j<(aa w).length):SW (A8 w j (aa w)[j]):=by
 obtain⟨m,r⟩:=h.nd _ (List.getElem_mem e);generalize c:A8 w j (aa w)[j]=d;have f:∀b∈ab w,b∈ab d:=λb l=>by rw[<-c];exact l
 have n:∀s,GW w s->GW d s:=λs a=>by
  rw[<-c];rcases a with a|a;·exact .inl a
  ·exact .inr (ee.2 (.inl a))
 have k:∀s∈(ev (aa w)[j]).2.2,GW d s:=λs a=>by rw[<-c];exact .inr (ee.2 (.inr a))
 obtain⟨p,o⟩:=RV (bl:=ab d) (G:=GW d) m ((i.nd _ (List.getElem_mem e)).mono f n) (by omega) k;refine KI (ms:=(ev (aa w)[j]).2.1) (n':=(ev (aa w)[j]).1) i e (by rw[<-c];rfl) (by rw[<-c];rfl) (by rw[<-c];rfl) f (λs a=>by rw[<-c];exact ee.2 (.inl a)) p o (λx g=>?_);rw[<-c]at g;rcases l5 g with a|a;·exact .inl a
 grind
theorem Oa{w:en}(a:SW w){j:Nat}(e:j<(aa w).length){n:a0}(d:SI (ab w) (GW w) (fv w) n):SW (i4 w j n):=⟨λx c=>by
 rcases List.mem_or_eq_of_mem_set c with b|rfl;·exact a.nd x b
 ·exact d,a.z9⟩
theorem L4{bl:List ao}{G:fl->Prop}{base:fk}{n:a0}{q:List cp}(h:SI bl G base n):SI bl G base (Eh n q):=⟨h.Gm,h.ki,h.hq,h.tq,h.vt,h.gn⟩
theorem RY{bl:List ao}{G:fl->Prop}{base:fk}{n:a0}(h:SI bl G base n):SI bl G base (Ef n []):=⟨h.Gm,h.ki,h.hq,h.tq,h.vt,λv a=>(by cases a)⟩
theorem T4{bl:List ao}{G:fl->Prop}{base:fk}{n:a0}(h:SI bl G base n):SI bl G base (Er n):=L4 (RY (LX h (λv a=>by cases a)))
theorem qL.sw{E S:Nat}{R:Int}{w r:en}(s:qL w r)(h:WI E S w)(t:E<890)(g:WR R w)(a:SW w):SW r:=by cases s with
 |GV=>exact a|Eb m l B=>
 refine⟨a.nd,λx f=>?_⟩;rcases List.mem_append.1 f with d|d;·exact a.z9 x d
 ·rw[List.mem_singleton.1 d];exact a.z9 m l|drop k=>grind[IA]|sX k e=>have l:=h.nm _ (List.getElem_mem e);exact L3 (o8 h k) t (IA a k) l.1 (g.z9 _ (List.getElem_mem e)) l.2 (a.z9 _ (List.getElem_mem e))|Jj j c u=>grind[T3]|Fe j c=>grind[RX]|Iq j c k e=>unfold A9;cases n:(fp (aa w)[j] (aa w)[k].2.1 (aa w)[k].1).2.1.1 with|false=>exact a|true=>
 refine⟨a.nd,λx f=>?_⟩;rcases l5 f with d|d;·exact a.z9 x d
 ·rw[List.mem_singleton.1 d.1];exact Iz (a.nd _ (List.getElem_mem c)) _ _ n|EI j c q _ _ _=>exact Oa a c (L4 (a.nd _ (List.getElem_mem c)))|FC j c=>exact Oa a c (T4 (a.nd _ (List.getElem_mem c)))|Ir m z n _=>
 have o:∀s,GW w s->GW (tA w m z) s:=λs d=>d;refine⟨λx f=>(a.nd x f).mono (λb u=>List.mem_append_left _ u) o,λx f=>?_⟩;rcases l5 f with d|d;·exact (a.z9 x d).mono o
 ·rw[List.mem_singleton.1 d.1];exact (RW n).mono o|Gi j c k e i=>obtain⟨v,A⟩:=h.nd _ (List.getElem_mem c);obtain⟨p,_⟩:=h.nd _ (List.getElem_mem e);have y:=wb _ _ _ i;exact L3 h t a (pv v p.v.h.ok.2.1 p.v.h.ok.1 i) (C0 g.bl (g.nd _ (List.getElem_mem c)) v (by omega) g.r0 (g.nd _ (List.getElem_mem e)).nm i) (by rw[y.1];exact EZ e) (Iz (a.nd _ (List.getElem_mem c)) _ _ i)
structure Mv(n m:a0):Prop where
 le:n.2.1<=m.2.1
 pa:bm n<+:bm m
 hi:m.2.1=n.2.1->(bx n).1<=(bx m).1
 tr:m.2.1=n.2.1->∀b∈ar n,b∈ar m
theorem Mv.gj(n:a0):Mv n n:=⟨Int.le_refl _,by grind,by omega,by grind⟩
theorem Mv.trans{a b c:a0}(h:Mv a b)(k:Mv b c):Mv a c:=by have f:=h.le;have j:=k.le;refine⟨by omega,h.pa.trans k.pa,λe=>?_,λe x d=>k.tr (by omega) x (h.tr (by omega) x d)⟩;have g:=h.hi (by omega);have i:=k.hi (by omega);omega
theorem T5(n:a0)(q:j4)(g:fk)(d:List D3)(b:ao):(Je n q g d b).2.1=(ks g).1:=by unfold Je QX;rfl
theorem T6(n:a0)(q:j4)(g:fk)(d:List D3)(b:ao):bm (Je n q g d b)=bm n++[A5 n q]:=by unfold Je QX;rfl
theorem Pw{n:a0}{q:j4}(a:NW n)(t:n.2.1<890):Mv n (ke n q)/\((ke n q).2.1=n.2.1->bx (ke n q)=bx n):=by
 have u:=a.e0;rcases vn n.2.1.toNat n.2.1.toNat n q a.v (by omega)with⟨_,e⟩|⟨i,⟨o,e⟩|⟨p,c,r,j,s,k,l,e,m⟩⟩;·rw[e];exact⟨Mv.gj _,λ_=>rfl⟩
 ·rw[e];exact⟨⟨Int.le_refl _,List.prefix_refl _,λ_=>Int.le_refl _,λ_ b d=>d⟩,λ_=>rfl⟩
 ·rw[e];have g:=(T5 n q (nr (gd n) (p++[c])) (i0 (mu n) (hM (p++[c]))) c).trans m;have f:=T6 n q (nr (gd n) (p++[c])) (i0 (mu n) (hM (p++[c]))) c;generalize Je n q (nr (gd n) (p++[c])) (i0 (mu n) (hM (p++[c]))) c=x at g f;refine⟨⟨by omega,by grind,λh=>?_,λh=>?_⟩,λh=>?_⟩<;>omega
theorem C4{n:a0}{q:j4}(a:NW n)(g:FF q)(k:n.2.1<890):Mv n (dc n q)/\((dc n q).2.1=n.2.1->q.1<=(bx (dc n q)).1):=by
 have d:NW (lv n q):=NW.PQ (F9 a.v g) a.e0 a.pa;have i:(bx n).1<=(bx (lv n q)).1/\q.1<=(bx (lv n q)).1:=by have e:bx (lv n q)=w7 n q:=rfl;rw[e];unfold w7;cases c:dO (bx n).1 q.1 with|true=>have :=Cp.1 c;grind|false=>have :=Au.1 c;grind
 have l:Mv n (lv n q):=⟨Int.le_refl _,List.prefix_refl _,λ_=>i.1,λ_ b f=>f⟩;have m:(lv n q).2.1=n.2.1:=rfl;obtain⟨o,j⟩:=Pw (q:=q) d k;unfold dc;rw[m]at j;exact⟨l.trans o,λh=>by grind⟩
theorem RZ(n:a0)(t:se):Mv n (Kv n t):=⟨Int.le_refl _,List.prefix_refl _,λ_=>Int.le_refl _,λ_ b a=>a⟩
theorem L5(n:a0)(v:Int):Mv n (o0 n v):=⟨Int.le_refl _,List.prefix_refl _,λ_=>Int.le_refl _,λ_ b a=>a⟩
theorem Px(n:a0)(v:Int):Mv n (ns n v):=⟨Int.le_refl _,List.prefix_refl _,λ_=>Int.le_refl _,λ_ b a=>a⟩
theorem IB(n:a0)(v:List sH):Mv n (B3 n v):=⟨Int.le_refl _,List.prefix_refl _,λ_=>Int.le_refl _,λ_ b a=>a⟩
theorem IC(n:a0)(v:List ow):Mv n (Ef n v):=⟨Int.le_refl _,List.prefix_refl _,λ_=>Int.le_refl _,λ_ b a=>a⟩
theorem L6(n:a0)(v:List cp):Mv n (Eh n v):=⟨Int.le_refl _,List.prefix_refl _,λ_=>Int.le_refl _,λ_ b a=>a⟩
theorem KJ{n:a0}{b:ao}(m:NW n)(k:j3.Ok b)(g:ei b)(j:n.2.1<890):Mv n (cf n b)/\(pt n b=true->(cf n b).2.1=n.2.1->(gx b).1<=(bx (cf n b)).1/\b∈ar (cf n b)):=by unfold cf;cases l:pt n b with|false=>exact⟨Mv.gj n,λh=>by cases h⟩|true=>
 obtain⟨q,v,y⟩:=EC m k g j l;have r:Mv n (kf n (qm (ar n) b)):=⟨Int.le_refl _,List.prefix_refl _,λ_=>Int.le_refl _,λ_ c d=>xd.2 (.inl d)⟩;obtain⟨p,o⟩:=C4 q (De.C6 k g) j;have s:Mv (nv n b) (i3 n b):=by unfold i3;cases gA (nv n b).2.1 n.2.1 with|false=>exact Mv.gj _|true=>exact RZ _ _
 obtain⟨i,u⟩:=ED m k g j l;have t:Mv (i3 n b) (AL n b):=by unfold AL;cases d:(gA (i3 n b).2.1 n.2.1&&gA (bx (i3 n b)).2.1 b.1) with|false=>exact Mv.gj _|true=>simp only[Bool.and_eq_true]at d;have x:=Cr.1 d.1;exact (C4 i (i.v.h.ok.C6 i.v.h.l) (by omega)).1
 have a:Mv (nv n b) (AL n b):=s.trans t;have f:Mv (kf n (qm (ar n) b)) (nv n b):=p;refine⟨(r.trans f).trans a,λ_ e=>?_⟩;have C:=f.le;have A:=a.le;have w:(kf n (qm (ar n) b)).2.1=n.2.1:=rfl;have e:(AL n b).2.1=n.2.1:=e;have z:(gx b).1<=(bx (nv n b)).1:=o (by show (nv n b).2.1=n.2.1;omega);have B:=a.hi (by omega);refine⟨by grind,a.tr (by omega) b (f.tr (by omega) b (xd.2 (.inr rfl)))⟩
theorem Ob{n:a0}{v:sH}(a:NW n)(e:n.2.1<890)(b:Hf.Ok v):Mv n (tb n v):=by have c:=Ga a.v.vo a.v.h.ok.votes b;have d:=B7 a c (EY a.v.vo);unfold tb;cases E4 (bb n) v.2.2.1 with|false=>exact Mv.gj n|true=>cases f:rf (bb n) (p0 (dT n) v) v.1 v.2.1 with|false=>exact IB _ _|true=>exact (IB n (p0 (dT n) v)).trans (C4 d (B6 (bb n) (p0 (dT n) v) v.1 v.2.1 a.v.h.ok.set a.v.h.l.2.1 b.1 b.2.1) e).1
theorem Py(n:a0)(g:ow):Mv n (tv n g):=by unfold tv;dsimp only;cases (sv (bb n) (sn (ej n) g) g.1).2.1.1 with|false=>exact IC _ _|true=>exact (IC n (sn (ej n) g)).trans (RZ _ _)
theorem Oc{n:a0}{g:ow}{q:j4}(b:NW n)(c:n.2.1<890)(a:FF q):Mv n (ik n g q):=by unfold ik;cases (E4 (bb n) g.2.2.1&&tm (bb n) q) with|false=>exact Mv.gj n|true=>cases gA (dc n q).2.1 n.2.1 with|false=>exact (C4 b a c).1|true=>exact (C4 b a c).1.trans (Py _ _)
theorem T7{n:a0}{b:ao}(f:NW n)(a:j3.Ok b)(c:ei b)(g:n.2.1<890):Mv n (ft n b).1/\(AT n b=true->Mv (cf n b) (ft n b).1):=by obtain⟨d,k⟩:=mm f a c g;have h:=(KJ f a c g).1;unfold ft;cases j:AT n b with|false=>grind|true=>have i:=JB j;have l:=i.ep;have e:Mv (cf n b) (tb (o0 (cf n b) b.2.2.1) (b.2.2.1,(b.1,((cf n b).1,())))):=(L5 (cf n b) b.2.2.1).trans (Ob (l6 d a.2.2.1) (by show (cf n b).2.1<890;omega) ⟨a.2.2.1,a.1,d.v.h.ok.1,trivial⟩);exact⟨h.trans e,λ_=>e⟩
theorem R0{n:a0}{m:fr}(h:NW n)(q:n.2.1<890)(c:FA m)(t:m.2.2.1=n.2.1):Mv n (tw n m):=by
 obtain⟨⟨p,A⟩,⟨x,y⟩,_⟩:=B8 h c.ok c.l t q;have i:∀(g:List ao)(s:a0),(∀b∈g,b∈lf m)->NW s->j9 n s->Mv n s->Mv n (g.foldl (ix m.2.2.1) s):=by intro g;induction g with|nil=>grind|cons b r z=>
  intro s j d f l;rw[List.foldl_cons];have e:=c.ok.kp c.l b (j b (by simp));have v:NW (ix m.2.2.1 s b)/\j9 n (ix m.2.2.1 s b)/\Mv n (ix m.2.2.1 s b):=by unfold ix;cases a:gA s.2.1 m.2.2.1 with|false=>grind|true=>have a:=Cr.1 a;obtain⟨o,k⟩:=mm d e.1 e.2 (by omega);exact⟨o,f.trans k (by omega),l.trans (KJ d e.1 e.2 (by omega)).1⟩
  simp_all
 have d:Mv n (p5 n m):=i (lf m) n (λb u=>u) h (j9.gj n) (Mv.gj n);have f:Mv n (Fz n m):=by unfold Fz;cases a:(gA (p5 n m).2.1 m.2.2.1&&tm (bb (p5 n m)) (mQ m)) with|false=>exact d|true=>simp only[Bool.and_eq_true]at a;have w:=Cr.1 a.1;exact d.trans (C4 p (c.ok.C6 c.l) (by omega)).1
 unfold tw;cases a:(gA (Fz n m).2.1 m.2.2.1&&FE (bb (Fz n m)) (mT m)) with|false=>exact f|true=>exact f.trans (RZ _ _)
structure A1(bl:List ao)(G:fl->Prop)(base:fk)(n n':a0)(sg:List fl):Prop where
 mv:Mv n n'
 Nd:∀s∈sg,s.1=1->∃c9 S L d l b,c9<+:bm n'/\(c9.length:Int)=s.2.1/\te bl G base c9 S L d/\j0 bl G S s.2.1 b.1 (l++[b])/\b.1=s.2.2.2.1/\b.2.2.1=s.2.2.1/\(n'.2.1=n.2.1->(gx b).1<=(bx n').1)Wm:∀s∈sg,s.1=2->s.2.2.2.1=(bx n).1/\(n.2.1<n'.2.1\/(n'.2.1=n.2.1/\s.2.2.1<=fb n'))
theorem A1.none{bl:List ao}{G:fl->Prop}{base:fk}{n n':a0}(h:Mv n n'):A1 bl G base n n' []:=⟨h,by grind,by grind⟩
theorem Od{bl:List ao}{G:fl->Prop}{base:fk}{n:a0}{b:ao}(f:NW n)(h:SI bl G base n)(c:n.2.1<890)(d:j3.Ok b)(a:ei b)(u:b∈bl)(w:∀s∈o6 n.2.1 b,G s):A1 bl G base n (ft n b).1 (ft n b).2.2:=by
 obtain⟨l,A⟩:=T7 f d a c;have j:=KH f h c d a u w;obtain⟨o,B⟩:=mm f d a c;have y:=(KJ f d a c).2
 cases p:AT n b with|false=>
 have e:(ft n b).2.2=[]:=by unfold ft;grind
 rw[e];exact A1.none l|true=>
 have m:=JB p;have i:=m.ep;have q:=A p;obtain⟨D,t⟩:=y m.tk i;have e:(ft n b).2.2=[xx (cf n b).1 n.2.1 b.2.2.1 b.1]:=by unfold ft;grind
 rw[e];refine⟨l,λs g _=>?_,λs g k=>?_⟩
 · rw[List.mem_singleton.1 g];obtain⟨v,z,_⟩:=j.Gm;have r:=o.v.h.t;have x:=kb r t;refine⟨bm (cf n b),bb (cf n b),gd (cf n b),v,ct (ar (cf n b)) (gx b).2.1,b,q.pa,?_,z,?_,rfl,rfl,λC=>?_⟩;· rw[o.pa];exact i
   · have :=N4 r j.ki b.1 (.inr ⟨b,t,rfl⟩);rw[x,i]at this;exact this
   · have :=q.hi (by omega);omega
 · rw[List.mem_singleton.1 g]at k;exact absurd (show (1:Int)=2 from k) (by decide)
theorem T8{bl:List ao}{G:fl->Prop}{base:fk}{n:a0}{m:fr}(c:NW n)(h:SI bl G base n)(d:n.2.1<890)(a:FA m)(i:∀b∈lf m,b∈bl)(k:MG G m)(g:m.2.2.1=n.2.1):A1 bl G base n (e8 n m).1 (e8 n m).2.2:=by unfold e8;cases j:gA m.1 1 with
 |true=>have q:=a.pr (Cr.1 j);cases l:lf m with|nil=>grind|cons b r=>
 have f:b∈lf m:=by grind
 have e:=a.ok.kp a.l b f;exact Od c h d e.1 e.2 (i b f) (by rw[<-g];grind[MG.b])
 |false=>cases p:gA m.1 2 with|true=>exact A1.none (Ob c d a.ok.vo)|false=>cases o:gA m.1 3 with|true=>exact A1.none (Oc c d (a.ok.C6 a.l))|false=>exact A1.none (R0 c d a g)
theorem R1{bl:List ao}{G:fl->Prop}{base:fk}{n:a0}(a:NW n)(f:n.2.1<890):A1 bl G base n (ev n).1 (ev n).2.2:=by unfold ev;cases l:(E4 (bb n) n.1&&!dO (ad n) (fb n)) with|false=>exact A1.none (Mv.gj n)|true=>
 have c:=l6 a a.v.h.round;have i:Mv n (ik (o0 n (ad n)) (EA n) (bx n)):=(L5 n (ad n)).trans (Oc c f (a.v.h.ok.C6 a.v.h.l));refine⟨i,λs b d=>?_,λs b _=>?_⟩;·rw[List.mem_singleton.1 b]at d;exact absurd (show (2:Int)=1 from d) (by decide)
 · rw[List.mem_singleton.1 b];refine⟨rfl,?_⟩;obtain⟨m,j⟩:=Gb (g:=EA n) c (a.v.h.ok.C6 a.v.h.l) (HA a.v.h.ok) f;rcases j.a.ca with⟨k,h,_⟩|e;· exact .inr ⟨k,Int.le_of_eq h.symm⟩
   · exact .inl e
theorem T9{bl:List ao}{G:fl->Prop}{base:fk}{n:a0}{a:Int}(e:NW n)(h:SI bl G base n)(l:n.2.1<890)(g:(Lit.int .i64 a).wf=true)(d:∀b∈(dt n a).2.1,b∈bl):A1 bl G base n (dt n a).1 (dt n a).2.2.2:=by obtain⟨j,i⟩:=rm e.v.h g;unfold dt at d⊢;cases k:Fb n a with|false=>exact A1.none (Mv.gj n)|true=>rw[k]at d;have f:g9 n a∈bl:=d _ (List.mem_cons_self ..);have c:=Od (sz e e.v.h.round) (JN (v:=ad n) h) l j i f (N9 h a);exact⟨(Px n (ad n)).trans c.mv,c.Nd,c.Wm⟩
def Oe(w:en)(s:fl):Prop:=∃n∈aa w,s.2.2.2.2.1=n.1/\∃a S L d l b,a<+:bm n/\(a.length:Int)=s.2.1/\te (ab w) (GW w) (fv w) a S L d/\j0 (ab w) (GW w) S s.2.1 b.1 (l++[b])/\b.1=s.2.2.2.1/\b.2.2.1=s.2.2.1
structure VW(w:en):Prop where
 Nd:∀s∈fz w,s.1=1->Oe w s
 hi:∀n∈aa w,∀s∈fz w,s.1=1->s.2.2.2.2.1=n.1->s.2.1=n.2.1->∃b∈ab w,b.1=s.2.2.2.1/\(gx b).1<=(bx n).1
 go:∀n∈aa w,∀s∈fz w,s.1=2->s.2.2.2.2.1=n.1->s.2.1<n.2.1\/(s.2.1=n.2.1/\s.2.2.1<=fb n)Wn:∀s∈fz w,∀t∈fz w,s.1=1->t.1=2->s.2.2.2.2.1=t.2.2.2.2.1->s.2.1=t.2.1->s.2.2.1<=t.2.2.1->∃b∈ab w,b.1=s.2.2.2.1/\(gx b).1<=t.2.2.2.1
theorem Pu.Ua{an:List D9}{a:List a0}(h:Pu an a){j:Nat}(k:j<a.length){n':a0}(e:n'.1=a[j].1){x:a0}(f:x∈a.set j n'):x=n'\/(x∈a/\x.1≠n'.1):=by
 obtain⟨i,g,rfl⟩:=List.getElem_of_mem f;rw[List.getElem_set];split;·grind
 ·next c=>
 have b:i<a.length:=by grind
 refine .inr ⟨List.getElem_mem b,λd=>c ?_⟩;rw[e]at d;grind[E5]
theorem Oe.dp{w a:en}{n':a0}{j:Nat}{s:fl}(h:Oe w s)(B:j<(aa w).length)(p:Mv (aa w)[j] n')(A:n'.1=(aa w)[j].1)(k:aa a=(aa w).set j n')(q:fv a=fv w)(c:∀b∈ab w,b∈ab a)(g:∀s,GW w s->GW a s):Oe a s:=by
 obtain⟨n,y,e,m,S,L,d,l,b,z,t,r,x,v,u⟩:=h;obtain⟨i,C,rfl⟩:=List.getElem_of_mem y;have o:i<(aa a).length:=by grind
 have f:=r.mono c g;rw[<-q] at f;refine⟨(aa a)[i],List.getElem_mem o,?_,m,S,L,d,l,b,?_,t,f,x.mono c g,v,u⟩;·grind
 · simp only[k,List.getElem_set];split;· next h=>subst h;exact z.trans p.pa
   omega
theorem HG{w g:en}{n':a0}{A:List fl}{an:List D9}{j:Nat}(h:VW w)(β:vv w)(Y:Pu an (aa w))(G:j<(aa w).length)(e:py (aa w)[j] n' A)(y:A1 (ab g) (GW g) (fv w) (aa w)[j] n' A)(C:aa g=(aa w).set j n') (θ:hu g=hu w) (R:fv g=fv w) (Q:∀b∈ab w,b∈ab g) (o:∀s,s∈fz g↔s∈fz w\/s∈A):VW g:=by
 have γ:∀s,GW w s->GW g s:=λs e=>by
  rcases e with f|f;·exact .inl (by grind)
  ·exact .inr ((o s).2 (.inl f))
 have F:=y.mv;have p:=List.getElem_mem G;have W:n'∈aa g:=by rw[C];exact List.mem_iff_getElem.2 ⟨j,by grind,by simp⟩
 have X:∀{M:Int}{r:Int},(∃b∈ab w,b.1=M/\(gx b).1<=r)->∃b∈ab g,b.1=M/\(gx b).1<=r:=λ⟨b,f,c⟩=>⟨b,Q b f,c⟩;have O:∀x∈aa g,x=n'\/(x∈aa w/\x.1≠n'.1):=λx T=>by rw[C] at T;exact Y.Ua G e.nm T
 refine⟨λs k f=>?_,λn I s k f i K=>?_,λn I s k f i=>?_,λs k t Z f c i K ψ=>?_⟩
 · rcases (o s).1 k with c|c;· exact (h.Nd s c f).dp G F e.nm C R Q γ
   · obtain⟨N,S,L,d,l,b,B,z,v,H,J,U,_⟩:=y.Nd s c f;rw[<-R] at v;exact⟨n',W,by rw[(e.who s c).1,e.nm],N,S,L,d,l,b,B,z,v,H,J,U⟩
 · rcases O n I with rfl|⟨D,E⟩
   · rcases (o s).1 k with c|c
     · have P:=i.trans e.nm;have μ:=β.Zh s c f _ p P;have κ:=F.le;have ε:s.2.1=(aa w)[j].2.1:=by omega
       obtain⟨b,B,z,v⟩:=h.hi _ p s c f P ε;have :=F.hi (by omega);grind
     · obtain⟨N,S,L,d,l,b,B,z,v,H,J,U,δ⟩:=y.Nd s c f;have :=(e.who s c).2;exact⟨b,(H.dr b (by simp)).1,J,δ (by omega)⟩
   · rcases (o s).1 k with c|c;· exact X (h.hi n D s c f i K)
     · exact absurd (by rw[<-i,(e.who s c).1,e.nm]) E
 · rcases O n I with rfl|⟨D,E⟩
   · rcases (o s).1 k with c|c
     · have α:=h.go _ p s c f (i.trans e.nm);rcases e.mon with m|⟨π,τ⟩;· omega
       omega
     · have u:=(e.who s c).2;rcases (y.Wm s c f).2 with q|⟨σ,φ⟩;· omega
       omega
   · rcases (o s).1 k with c|c;· exact h.go n D s c f i
     · exact absurd (by rw[<-i,(e.who s c).1,e.nm]) E
 · rcases (o s).1 k with a|a<;>rcases (o t).1 Z with b|b;· grind[VW.Wn]
   · have u:=e.who t b;have α:=(y.Wm t b c).1;obtain⟨x,B,z,v⟩:=h.hi _ p s a f (i.trans u.1) (K.trans u.2);grind
   · have u:=e.who s a;have ρ:=(e.WK s a f).1;rcases h.go _ p t b c (i.symm.trans u.1) with q|⟨_,q⟩;· omega
     · omega
   · have V:=e.Hu;match A,V,a,b with|[x],_,a,b=>grind
theorem Gn{w c:en}(h:VW w)(m:aa c=aa w)(i:fz c=fz w)(H:hu c=hu w)(z:fv c=fv w)(k:∀b∈ab w,b∈ab c):VW c:=by
 have u:∀s,GW w s->GW c s:=λs a=>by simp_all[iv,hu,fl,fz,GW,D9]
 have y:∀{o:Int}{r:Int},(∃b∈ab w,b.1=o/\(gx b).1<=r)->∃b∈ab c,b.1=o/\(gx b).1<=r:=λ⟨b,f,q⟩=>⟨b,k b f,q⟩;refine⟨λs a f=>?_,λn g s a f j v=>?_,λn g s a f j=>?_,λs a t F f q j v I=>?_⟩;·rw[i]at a;obtain⟨n,g,e,x,S,L,d,l,b,C,A,G,B,D,E⟩:=h.Nd s a f;have p:=G.mono k u;rw[<-z]at p;exact⟨n,by grind,e,x,S,L,d,l,b,C,A,p,B.mono k u,D,E⟩
 ·rw[i]at a;rw[m]at g;exact y (h.hi n g s a f j v)
 ·rw[i]at a;rw[m]at g;exact h.go n g s a f j
 ·rw[i]at a F;grind[VW.Wn]
theorem L7{E S:Nat}{R:Int}{w:en}{m:fr}(h:WI E S w)(A:E<890)(y:WR R w)(v:vv w)(t:SW w)(k:VW w)(n:FA m)(p:MR R (ab w) m)(x:sF (aa w) m.2.1=true)(r:MG (GW w) m):VW (l8 w m):=by obtain⟨j,d,_,z,q⟩:=CV x;obtain⟨o,B⟩:=h.nd _ (List.getElem_mem d);rw[q];cases u:gA (aa w)[j].2.1 m.2.2.1 with|false=>exact k|true=>
 have f:=Cr.1 u;simp only[cond_true];generalize a:Eg (i4 w j (e8 (aa w)[j] m).1) (e8 (aa w)[j] m).2.1 (e8 (aa w)[j] m).2.2=g;have l:∀s,GW w s->GW g s:=λs c=>by
  rw[<-a];rcases c with c|c;·exact .inl c
  ·exact .inr (ee.2 (.inl c))
 have i:=T8 (bl:=ab w) (G:=GW g) o ((t.nd _ (List.getElem_mem d)).mono (λb e=>e) l) (by omega) n p.bs (r.mono l) f.symm;exact HG k v y.nm d (N2 o n f.symm (by omega)) (by rw[<-a] at i⊢;exact i) (by rw[<-a];rfl) (by rw[<-a];rfl) (by rw[<-a];rfl) (λb e=>by rw[<-a];exact e) (λs=>by rw[<-a];exact ee)
theorem Ub{E S:Nat}{R:Int}{w:en}(h:WI E S w)(v:E<890)(t:WR R w)(p:vv w)(m:SW w)(q:VW w){j:Nat}(e:j<(aa w).length):VW (Fc w j (aa w)[j]):=by
 obtain⟨k,x⟩:=h.nd _ (List.getElem_mem e);have u:=h.bl;have i:=Bk (n:=(ab w).length) (by omega);generalize a:Fc w j (aa w)[j]=c;have g:∀b∈ab w,b∈ab c:=λb f=>by rw[<-a];exact List.mem_append_left _ f
 have r:∀s,GW w s->GW c s:=λs d=>by
  rw[<-a];rcases d with d|d;·exact .inl d
  ·exact .inr (ee.2 (.inl d))
 have l:∀b∈(dt (aa w)[j] ((ab w).length:Int)).2.1,b∈ab c:=λb f=>by rw[<-a];exact List.mem_append_right _ f
 have o:=T9 (bl:=ab c) (G:=GW c) k ((m.nd _ (List.getElem_mem e)).mono g r) (by omega) i l;exact HG q p t.nm e (N3 k i (by omega)) o (by rw[<-a];rfl) (by rw[<-a];rfl) (by rw[<-a];rfl) g (λs=>by rw[<-a];exact ee)
theorem R2{E S:Nat}{R:Int}{w:en}(h:WI E S w)(m:E<890)(f:WR R w)(g:vv w)(k:VW w){j:Nat}(c:j<(aa w).length):VW (A8 w j (aa w)[j]):=by obtain⟨d,n⟩:=h.nd _ (List.getElem_mem c);generalize a:A8 w j (aa w)[j]=e;have l:=R1 (bl:=ab e) (G:=GW e) (base:=fv w) d (by omega);exact HG k g f.nm c (LV d (by omega) (f.nd _ (List.getElem_mem c)).vo.2) l (by rw[<-a];rfl) (by rw[<-a];rfl) (by rw[<-a];rfl) (λb i=>by rw[<-a];exact i) (λs=>by rw[<-a];exact ee)
theorem Of{w:en}{an:List D9}(d:VW w)(a:vv w)(f:Pu an (aa w)){j:Nat}(g:j<(aa w).length){m:a0}(e:py (aa w)[j] m [])(h:Mv (aa w)[j] m):VW (i4 w j m):=HG d a f g e (A1.none h) rfl rfl rfl (λb c=>c) (EM w j m)
theorem Wo(n:a0):Mv n (Er n):=(IB n []).trans ((IC _ []).trans (L6 _ []))
theorem qL.vw{E S:Nat}{R:Int}{w p:en}(s:qL w p)(h:WI E S w)(r:E<890)(e:WR R w)(l:vv w)(i:SW w)(c:VW w):VW p:=by cases s with
 |GV=>exact c|Eb m n z=>exact Gn c rfl rfl rfl rfl (λb d=>d)|drop k=>exact Gn c rfl rfl rfl rfl (λb d=>d)|sX k f=>have n:=h.nm _ (List.getElem_mem f);exact L7 (o8 h k) r (EK e k) (C3 l rfl rfl) (IA i k) (Gn c rfl rfl rfl rfl (λb d=>d)) n.1 (e.z9 _ (List.getElem_mem f)) n.2 (i.z9 _ (List.getElem_mem f))|Jj j a d=>grind[Ub]|Fe j a=>grind[R2]|Iq j a k f=>unfold A9;cases v:(fp (aa w)[j] (aa w)[k].2.1 (aa w)[k].1).2.1.1 with|false=>exact c|true=>exact Gn c rfl rfl rfl rfl (λb d=>d)
 |EI j a q _ _ _=>exact Of c l e.nm a (LW _ q) (L6 _ q)|FC j a=>exact Of c l e.nm a (RP _) (Wo _)|Ir m x v _=>exact Gn c rfl rfl rfl rfl (λb d=>List.mem_append_left _ d)|Gi j a k f g=>obtain⟨t,y⟩:=h.nd _ (List.getElem_mem a);obtain⟨o,_⟩:=h.nd _ (List.getElem_mem f);have u:=wb _ _ _ g;exact L7 h r e l i c (pv t o.v.h.ok.2.1 o.v.h.ok.1 g) (C0 e.bl (e.nd _ (List.getElem_mem a)) t (by omega) e.r0 (e.nd _ (List.getElem_mem f)).nm g) (by rw[u.1];exact EZ f) (Iz (i.nd _ (List.getElem_mem a)) _ _ g)
theorem GX{l:List bF}:pb l=true↔(∀a∈l,oi a=true)/\l.Pairwise (λa b=>ob a.1 b.1=true)/\l.length<=12/\C9 l<=1000000:=by
 unfold pb;rw[Bool.and_eq_true,Bool.and_eq_true];constructor
 · rintro⟨e,g,h⟩;have m:∀i(c:i<l.length),oi l[i]=true/\lO (λz y=>ob z.1 y.1) l i l[i]=true:=λi c=>by have :=xJ e i c;simp_all[oi,bF,lO,ob,ek,zA]
   refine⟨λa q=>?_,?_,by have :=Cq.1 g;omega,Cq.1 h⟩;· obtain⟨i,c,rfl⟩:=List.getElem_of_mem q;grind
   · have k:∀i (c:i+1<l.length),ob l[i].1 l[i+1].1=true:=λi c=>by have :=(m (i+1) c).2;rw[mz (lt:=λz y=>ob z.1 y.1) (xs:=l) (j:=i) (y:=l[i+1]) (by omega)]at this;omega
     rw[List.pairwise_iff_getElem];intro i j c t r;have :∀d,(n:i+d+1<l.length)->ob l[i].1 l[i+d+1].1=true:=by intro d;induction d with|zero=>grind|succ d p=>intro n;have f:=p (by omega);have o:=k (i+d+1) (by omega);exact (Hy).tr _ _ _ f o
     have s:=this (j-i-1) (by omega);grind
 · rintro⟨e,g,h,f⟩;refine⟨vc (λi c=>?_),Cq.2 (by omega),Cq.2 f⟩;unfold zA;rw[Bool.and_eq_true,Nat.zero_add];refine⟨e _ (List.getElem_mem c),?_⟩;match i,c with|0,_=>rfl|j+1,c=>rw[mz (lt:=λz y=>ob z.1 y.1) (xs:=l) (j:=j) (y:=l[j+1]) (by omega)];rw[List.pairwise_iff_getElem]at g;grind
theorem Uc{l:List df}(d:∀v∈l,e6 v.1=true/\Di v.2.1 1 1000000=true)(e:l.Pairwise (λa b=>ob a.1 b.1=true))(f:1<=l.length)(g:l.length<=12):o9 l=true:=by unfold o9;rw[Bool.and_eq_true];refine⟨vc (λi c=>?_),gk.2 (by omega)⟩;unfold Km;have :=d _ (List.getElem_mem c);rw[Bool.and_eq_true,Bool.and_eq_true,Nat.zero_add];refine⟨this.1,this.2,?_⟩;match i,c with|0,_=>rfl|j+1,c=>rw[mz (lt:=λz y=>ob z.1 y.1) (xs:=l) (j:=j) (y:=l[j+1]) (by omega)];rw[List.pairwise_iff_getElem]at e;grind
theorem ID{a:bF}(h:oi a=true):e6 a.1=true/\0<=a.2.2.2.1/\a.2.2.2.1<=1000000:=by unfold oi at h;simp_all[e6,ek,Di,km,p6,gk]
theorem IE{l:List bF}(h:pb l=true):ma l=[]\/o9 (ma l)=true:=by
 obtain⟨e,j,g,_⟩:=GX.1 h;rcases Nat.eq_zero_or_pos (ma l).length with d|d;·grind
 · refine .inr (Uc (λv b=>?_) ?_ d (Nat.le_trans (Ev l) g));· rw[FP]at b;obtain⟨a,i,rfl⟩:=List.mem_map.1 b;obtain⟨f,c⟩:=List.mem_filter.1 i;have :=ID (e a f);have c:=Cq.1 c;exact⟨this.1,gk.2 ⟨by grind,this.2.2⟩⟩
   · rw[FP,List.pairwise_map];grind
def Pz:ByteArray:=⟨#[97]⟩
def PA:ByteArray:=⟨#[98]⟩
def Ud:ByteArray:=⟨#[99]⟩
def Ue:ByteArray:=⟨#[100]⟩
def UD:ByteArray:=⟨#[101]⟩
def Gp(a:ByteArray)(f s:Int):bF:=(a,(f,(0,(s,([],())))))
def GY:List ByteArray:=[Pz,PA,Ud,Ue]
def cz(fs:List Int)(e:Bool):List bF:=List.zipWith (λa f=>Gp a f 10) GY fs++(bif e then[Gp UD 7 0]else[])
theorem UE:ob Pz PA=true/\ob Pz Ud=true/\ob Pz Ue=true/\ob Pz UD=true/\ob PA Ud=true/\ob PA Ue=true/\ob PA UD=true/\ob Ud Ue=true/\ob Ud UD=true/\ob Ue UD=true:=by unfold ob;simp only[EF];exact⟨rfl,rfl,rfl,rfl,rfl,rfl,rfl,rfl,rfl,rfl⟩
theorem YL:Pz≠PA:=by intro h;have :=UE.1;grind[ob,PA,Kr,xD,Pz]
theorem Wp{a:ByteArray}{f s:Int}(b:a=Pz\/a=PA\/a=Ud\/a=Ue\/a=UD)(d:0<=f/\f<=20)(g:0<=s/\s<=10):oi (Gp a f s)=true:=by
 have c:e6 a=true:=by rcases b with rfl|rfl|rfl|rfl|rfl<;>decide
 have e:Di f 0 1000000=true:=gk.2 (by omega);have h:Di s 0 1000000=true:=gk.2 (by omega);show (e6 a&&(Di f 0 1000000&&(true&&(Di s 0 1000000&&(true&&true)))))=true;grind
theorem Gq:∀(l:List bF)(s:Int),(∀a∈l,∃d f c,a=Gp d f c/\0<=f/\f<=20/\0<=c/\c<=10)->0<=s->s+30*l.length<=1000000->l.foldl (λs y=>cM .i64 s (Hr y)) s<=s+30*l.length|[],s,_,_,_=>by simp|a::r,s,h,o,i=>by obtain⟨d,f,c,rfl,n,k,p,m⟩:=h a (by simp);have e:Hr (Gp d f c)=f+c:=(show cM .i64 f c=f+c from ed (by omega) (by omega));simp only[List.length_cons]at i⊢;have g:cM .i64 s (f+c)=s+(f+c):=ed (by omega) (by omega);rw[List.foldl_cons,e,g];have :=Gq r (s+(f+c)) (λb j=>h b (by grind)) (by omega) (by omega);omega
theorem L8{fs:List Int}{e:Bool}(k:∀f∈fs,f=3\/f=20):∀a∈cz fs e,∃b f c,a=Gp b f c/\(b=Pz\/b=PA\/b=Ud\/b=Ue\/b=UD)/\0<=f/\f<=20/\0<=c/\c<=10:=by
 intro a d;unfold cz at d;rcases List.mem_append.1 d with h|h
 · obtain⟨i,l,rfl⟩:=List.getElem_of_mem h;rw[List.getElem_zipWith];have g:i<fs.length:=by grind
   have j:i<4:=by rw[List.length_zipWith]at l;grind[GY]
   have m:=k _ (List.getElem_mem g);refine⟨_,fs[i],10,rfl,?_,by omega,by omega,by decide,by decide⟩;match i,j with|0,_=>exact .inl rfl|1,_=>exact .inr (.inl rfl)|2,_=>exact .inr (.inr (.inl rfl))|3,_=>exact .inr (.inr (.inr (.inl rfl)))
 grind
theorem zl(fs:List Int)(e:Bool)(h:fs.length<=4):(cz fs e).length=fs.length+(bif e then 1 else 0):=by unfold cz;rw[List.length_append,List.length_zipWith];have :GY.length=4:=rfl;grind
theorem L9{fs:List Int}{e:Bool}(h:fs.length<=4)(l:∀f∈fs,f=3\/f=20):bk ((0,(cz fs e,())):fk)=true:=by
 have m:=L8 (e:=e) l;have o:=zl fs e h;have n:(cz fs e).length<=5:=by grind
 unfold bk;rw[Bool.and_eq_true];refine⟨rfl,GX.2 ⟨λa j=>?_,?_,(show (cz fs e).length<=12 by omega),?_⟩⟩;·obtain⟨t,f,v,rfl,A,u,q,z,x⟩:=m a j;grind[Wp]
 · have d:=UE;have p:(cz fs e).Pairwise (λa b=>ob a.1 b.1=true):=by match fs,h with|[],_=>cases e<;>simp[cz,GY]|[c],_=>cases e<;>simp[cz,GY,Gp,d]|[c,g],_=>cases e<;>simp[cz,GY,Gp,d]|[c,g,i],_=>cases e<;>simp[cz,GY,Gp,d]|[c,g,i,k],_=>cases e<;>simp[cz,GY,Gp,d]|c::g::i::k::w::r,h=>grind
   omega
 · have :=Gq (cz fs e) 0 (λa j=>by grind) (Int.le_refl _) (by omega);show (cz fs e).foldl (λs y=>cM .i64 s (Hr y)) 0<=1000000;omega
theorem Uf(c:MY)(J:tR c):Y (U9 (c,())) (λy=>∃fs e,1<=fs.length/\fs.length<=4/\(∀f∈fs,f=3\/f=20)/\y.1=((0,(cz fs e,())):fk)/\tR y.2.1/\y.2.1.1=c.1):=by
 unfold U9;refine Y.bind (Jx c _ J (by simp)) λq A=>?_;have O:1<=q.1.1/\q.1.1<=4:=by grind
 refine Y.DZ (P:=λv=>tR (v.2.1,(v.2.2.1,(v.2.2.2.1,())))/\v.2.1=c.1/\∃fs,1<=fs.length/\fs.length<=4/\(∀f∈fs,f=3\/f=20)/\v.2.2.2.2.1=cz fs false) (R:=λ_=>False) (Y.loop (I:=λv=>tR (v.2.1,(v.2.2.1,(v.2.2.2.1,())))/\v.2.1=c.1/\∃fs:List Int,v.1=(fs.length:Int)/\fs.length<=4/\(∀f∈fs,f=3\/f=20)/\v.2.2.2.2.1=cz fs false) (λv=>(4-v.1).toNat) (λv m=>?_) _ ⟨A.2.1,A.2.2,[],rfl,Nat.zero_le _,λf l=>(by cases l),rfl⟩) (λv m=>?_) (λ_ h=>h.elim)
 · obtain ⟨i,b,F,h,H,u⟩:=v;obtain ⟨d,a,fs,z,j,l,p⟩:=m;dsimp only at d a z p;subst z p;unfold U9.b0;refine Y.DY (λs=>?_) (λx=>?_)
   · have s:(fs.length:Int)<q.1.1:=Cp.1 s;have g:fs.length<4:=by omega
     have E:fs.length<GY.length:=g;have B:([(⟨#[97]⟩,()),(⟨#[98]⟩,()),(⟨#[99]⟩,()),(⟨#[100]⟩,())]:List D9)[fs.length]?=some (GY[fs.length],()):=by generalize fs.length=k at g E;match k,g with|0,_=>rfl|1,_=>rfl|2,_=>rfl|3,_=>rfl
     refine Y.eq (An B) (Y.eq (As B) ?_);refine Y.bind (Jx _ _ d (by simp)) λo t=>?_;have M:o.1.1=3\/o.1.1=20:=by grind
     have T:cM .i64 (fs.length:Int) (1:Int)=((fs.length+1:Nat):Int):=wG (n:=4) g (by omega);have C:=zl fs false j;refine Y.tt (BO (by grind) (by decide) (by decide)) (Y.l ⟨⟨t.2.1,t.2.2.trans a,fs++[o.1.1],?_,?_,?_,?_⟩,?_⟩);· grind
     · grind
     · grind
     · show bV (cz fs false) [(GY[fs.length],(o.1.1,(0,(10,([],())))))]=cz (fs++[o.1.1]) false;match fs,g with|[],_=>rfl|[w],_=>rfl|[w,G],_=>rfl|[w,G,S],_=>rfl
     grind
   · have x:q.1.1<=(fs.length:Int):=Au.1 x;exact Y.rl ⟨d,a,fs,by omega,j,l,rfl⟩
 · obtain ⟨i,b,F,h,H,u⟩:=v;obtain ⟨d,a,fs,D,j,l,p⟩:=m;dsimp only at d a p;subst p;have C:=zl fs false j;refine Y.DZ (P:=λv=>tR (v.1,(v.2.1,(v.2.2.1,())))/\v.1=c.1/\∃e,v.2.2.2.1=cz fs e) (R:=λ_=>False) (Y.bind (EB _ _ d) λN r=>Y.DY (λ_=>Y.tt (BO (by grind) (by decide) (by decide)) (Y.l ⟨r.1,r.2.trans a,true,?_⟩)) (λ_=>Y.l ⟨r.1,r.2.trans a,false,rfl⟩)) (λv m=>?_) (λ_ h=>h.elim);· show cz fs false++[Gp UD 7 0]=cz fs true;unfold cz;simp
   · obtain ⟨K,L,e,Q⟩:=m;exact Y.mk ⟨fs,e,D,j,l,by grind,K,L⟩
def Nf(fs:List Int)(e:Bool)(an:List D9):en:=ER ((0,(cz fs e,())):fk) an
def GZ(an:List D9):Prop:=an=[]\/∃a,(a=Pz\/a=PA\/a=Ud\/a=Ue)/\an=[(a,())]
theorem KK{an:List D9}(h:GZ an):l9 an=true/\(Ty.sl e9).Ok an/\an.length<=1:=by
 rcases h with rfl|⟨a,e,rfl⟩;·exact⟨rfl,CK,Nat.zero_le _⟩
 · have c:e6 a=true:=by rcases e with rfl|rfl|rfl|rfl<;>decide
   have b:=Fx c;refine⟨?_,Dk (by decide:1<=9223372036854775807) (λx d=>?_),Nat.le_refl _⟩;· unfold l9;show (((e6 a&&true)&&true)&&true)=true;grind
   · rw[List.mem_singleton.1 d];exact⟨Nat.le_trans b (by decide),trivial⟩
theorem Og{fs:List Int}{e:Bool}(l:fs.length<=4)(k:∀f∈fs,f=3\/f=20):(Ty.sl c6).Ok (cz fs e)/\eD (cz fs e):=by
 have i:=L8 (e:=e) k;have q:=zl fs e l;have d:(cz fs e).length<=5:=by grind
 refine⟨Dk (Nat.le_trans d (by decide)) (λa c=>?_),⟨Nat.le_trans d (by decide),λa c=>?_⟩⟩
 · obtain⟨h,f,b,rfl,g,p,m,o,n⟩:=i a c;have j:h.size<=1:=by rcases g with rfl|rfl|rfl|rfl|rfl<;>decide
   exact⟨Nat.le_trans j (by decide),DX (by show _<=f;omega) (by show f<=_;omega),rfl,DX (by show _<=b;omega) (by show b<=_;omega),CK,trivial⟩
 · obtain⟨h,f,b,rfl,g,p,m,o,n⟩:=i a c;exact Nat.zero_le _
theorem PB{fs:List Int}{e:Bool}{an:List D9}(d:fs.length<=4)(c:∀f∈fs,f=3\/f=20)(b:GZ an):Nf fs e an=(0,(cz fs e,(an,(((cz fs e).filter (λa=>!iv an a.1)).map (λa=>kr a.1 ((0,(cz fs e,())):fk)),([],([],([],()))))))):=by unfold Nf ER;rw[L9 d c,(KK b).1];show (0,(cz fs e,(an,(Kq ((0,(cz fs e,())):fk) an,([],([],([],())))))))=_;rw[OO]
def Fh(a:ByteArray)(x:fk):a0:=(a,(x.1,(x.1,(x.2.1,(ma x.2.1,([],(1,(0,(0,(-1,([],(0,([],([],(0,([],([],([],([],([],()))))))))))))))))))))
theorem IF{a:ByteArray}{x:fk}(c:e6 a=true)(b:bk x=true):kr a x=Fh a x:=by unfold kr Fh;grind
theorem R3{e:ByteArray}{L:List bF}(h:e6 e=true)(i:bk ((0,(L,())):fk)=true)(a:(Ty.sl c6).Ok L)(d:eD L):NW (Fh e (0,(L,()))):=by have f:=Fx h;have g:W1 (ma L).length:=Nat.le_trans (Ev L) d.1;exact NW.PQ (E:=0) (P:=0) ⟨⟨⟨Nat.le_trans f (by decide),rfl,rfl,a,Hv _ a,CK,rfl,rfl,rfl,rfl,CK,rfl,CK,CK,rfl,CK,CK,CK,CK,CK,trivial⟩,⟨d,g,Nat.zero_le _,(λb c=>by cases c),Nat.zero_le _,Nat.zero_le _,Nat.zero_le _,Nat.zero_le _,Nat.zero_le _,Nat.zero_le _,Nat.zero_le _,Nat.zero_le _,(λb c=>by cases c)⟩,Jt rfl,Nat.zero_le _,Nat.zero_le _⟩,i,rfl,Int.le_refl _,Nat.zero_le _,Nat.zero_le _,⟨List.nodup_nil,λx a=>by cases a⟩,Nat.zero_le _⟩ (Int.le_refl _) rfl
theorem R4{b:ByteArray}{L:List bF}(c:e6 b=true)(d:pb L=true):NR 0 [] (Fh b (0,(L,()))):=⟨c,by simp_all[ad,Fh,bF],by simp_all[fb,Fh,bF,ad],by simp_all[Li,Fh,bF,ad],Gj,by show (0:Int)<1;decide,Gk,by show (0:Int)<1;decide,(λv a=>by cases a),(λv a=>by cases a),rfl,(λv a=>by cases a),rfl,IE d,(λv a=>by cases a),by simp_all[A4,bm,Fh,bF,ao]⟩
structure DI(fs:List Int)(e:Bool)(an:List D9)(K:Nat)(w:en):Prop where
 wi:WI 889 K w
 wr:WR (14*(K:Int)) w
 Hu:vv w
 sw:SW w
 vw:VW w
 bl:(ab w).length<=K
 ne:aa w≠[]fo:GZ an/\hu w=an
 ba:fv w=(0,(cz fs e,()))WL:(aa w).map (λn=>n.1)=((cz fs e).filter (λa=>!iv an a.1)).map (λa=>a.1)
theorem PC{fs:List Int}{e:Bool}(h:1<=fs.length):∃f,Gp Pz f 10∈cz fs e:=by match fs,h with|f::r,_=>exact⟨f,by unfold cz;simp[GY]⟩
theorem PD{fs:List Int}{e:Bool}(h:3<=fs.length):∃f,Gp PA f 10∈cz fs e:=by match fs,h with|f::g::r,_=>exact⟨g,by unfold cz;simp[GY]⟩
theorem R5{bl:List ao}{G:fl->Prop}{c:ByteArray}{L:List bF}:SI bl G ((0,(L,())):fk) (Fh c (0,(L,()))):=⟨⟨[],te.nil,Mn.nil⟩,(λb a=>by cases a),⟨Gj,(λb a=>by cases a)⟩,⟨Gk,(λb a=>by cases a)⟩,(λb a=>by cases a),(λb a=>by cases a)⟩
theorem PE{fs:List Int}{e:Bool}{an:List D9}(C:1<=fs.length)(u:fs.length<=4)(v:∀f∈fs,f=3\/f=20)(r:GZ an)(D:an=[]\/3<=fs.length):DI fs e an 0 (Nf fs e an):=by
 have t:=Og (e:=e) u v;have q:=L9 (e:=e) u v;obtain⟨H,G,J⟩:=KK r;have M:=zl fs e u;have L:(cz fs e).length<=5:=by grind
 have z:pb (cz fs e)=true:=by unfold bk at q;grind
 have w:=GX.1 z;have p:∀n∈((cz fs e).filter (λa=>!iv an a.1)).map (λa=>kr a.1 ((0,(cz fs e,())):fk)),∃a∈cz fs e,e6 a.1=true/\iv an a.1=false/\n=Fh a.1 (0,(cz fs e,())):=λn g=>by obtain⟨a,k,rfl⟩:=List.mem_map.1 g;obtain⟨A,U⟩:=List.mem_filter.1 k;have d:=(ID (w.1 a A)).1;exact⟨a,A,d,by grind,IF d q⟩
 have y:(((cz fs e).filter (λa=>!iv an a.1)).map (λa=>kr a.1 ((0,(cz fs e,())):fk))).map (λn=>n.1)=((cz fs e).filter (λa=>!iv an a.1)).map (λa=>a.1):=by rw[List.map_map];refine List.map_congr_left (λa k=>?_);have d:=(ID (w.1 a (List.mem_filter.1 k).1)).1;show (kr a.1 ((0,(cz fs e,())):fk)).1=a.1;rw[IF d q];rfl
 rw[PB u v r];generalize P:((cz fs e).filter (λa=>!iv an a.1)).map (λa=>kr a.1 ((0,(cz fs e,())):fk))=l at p y;have F:l.length<=5:=by grind
 refine⟨⟨t.1,t.2,q,G,Nat.le_trans J (by decide),Nat.le_trans F (by decide),λn g=>?_,CK,Nat.zero_le _,(λb c=>by cases c),CK,Nat.zero_le _,Nat.zero_le _,(λb c=>by cases c)⟩,⟨Int.le_refl _,rfl,H,⟨λi B=>absurd B (Nat.not_lt_zero _),(λb c=>by cases c),(λb c=>by cases c)⟩,λn g=>?_,⟨λn g=>?_,?_⟩,(λb c=>by cases c)⟩,⟨(λb c=>by cases c),(λb c=>by cases c),(λb c=>by cases c)⟩,⟨λn g=>?_,(λb c=>by cases c)⟩,⟨(λs m=>by cases m),(λn g s m=>by cases m),(λn g s m=>by cases m),(λs m=>by cases m)⟩,Nat.zero_le _,?_,⟨r,rfl⟩,rfl,y⟩;·obtain⟨a,k,d,o,rfl⟩:=p n g;exact⟨R3 d q t.1 t.2,by show (0:Int)<=(889:Nat);decide⟩
 ·obtain⟨a,k,d,o,rfl⟩:=p n g;exact R4 d z
 ·obtain⟨a,k,d,o,rfl⟩:=p n g;exact o
 · show∀(i j:Nat)(B:i<l.length)(O:j<l.length),i<j->ob l[i].1 l[j].1=true;have I:(l.map (λn=>n.1)).Pairwise (λa b=>ob a b=true):=by grind
   rw[List.pairwise_map,List.pairwise_iff_getElem]at I;omega
 · obtain⟨a,k,d,o,rfl⟩:=p n g;exact R5
 · show l≠[];intro S;have x:∀a∈cz fs e,iv an a.1=true:=λa k=>by cases Q:iv an a.1 with|true=>rfl|false=>have :a∈(cz fs e).filter (λa=>!iv an a.1):=List.mem_filter.2 ⟨k,by grind⟩;grind
   obtain⟨R,K⟩:=PC (e:=e) C;have d:=x _ K;rcases D with h|h;· rw[h]at d;cases d
   · obtain⟨T,E⟩:=PD (e:=e) h;have o:=x _ E;rcases r with rfl|⟨N,_,rfl⟩;· cases d
     · unfold iv at d o;simp_all[YL,ek,Gp,Pz,PA,ko,n9,D9]
theorem DI.dp{fs:List Int}{e:Bool}{an:List D9}{K:Nat}{w a:en}(h:DI fs e an K w)(t:K<=700)(s:qL w a):DI fs e an (K+1) a:=by
 have g:=s.wi h.wi (by decide) (by omega);have c:=s.wr h.wi (by decide) h.wr (by omega);have i:=s.Hu h.wi (by decide) h.wr h.Hu;obtain⟨⟨p,j,r⟩,b,q,o,m⟩:=s.CB h.wi (by decide);have d:(ab a).length<=K+1:=by rw[j,List.length_append];have :=h.bl;omega
 have k:=s.sw h.wi (by decide) h.wr h.sw;have l:=s.vw h.wi (by decide) h.wr h.Hu h.sw h.vw;refine⟨g.yN c (by omega),c.up (by omega),i,k,l,d,λf=>?_,⟨h.fo.1,m.trans h.fo.2⟩,?_,b.trans h.WL⟩;·rw[f]at b;have :(aa w).map (λn=>n.1)=[]:=b.symm;rw[List.map_eq_nil_iff]at this;grind[ne]
 ·have :=h.ba;grind
abbrev EvT:Type:=List D5×(Int×(Int×(Int×(Int×(Int×(Int×(ByteArray×(ByteArray×(Int×(Int×(List a0×(List ao×(List fl×(List fr×fr))))))))))))))
def YM(v:EvT):TX:=(v.2.2.2.1,(v.2.2.2.2.1,(v.2.2.2.2.2.1,(v.2.2.2.2.2.2.1,(v.2.2.2.2.2.2.2.1,(v.2.2.2.2.2.2.2.2.1,(v.2.2.2.2.2.2.2.2.2.1,(v.2.2.2.2.2.2.2.2.2.2.1,v.2.2.2.2.2.2.2.2.2.2.2.2.2.2.2))))))))
theorem R6{k a l e d c:Int}{b tt:ByteArray}{m:fr}(f:(Lit.int .i64 e).wf=true)(j:Al b.size)(g:Al tt.size)(i:(Lit.int .i64 d).wf=true)(h:(Lit.int .i64 c).wf=true)(n:TV m):M6 ((k,(a,(l,(e,(b,(tt,(d,(c,m)))))))):TX):=⟨⟨f,j,g,i,h,trivial⟩,n⟩
theorem YN:TV We:=Is rfl (Nat.zero_le _) rfl (λb a=>by cases a) (Nat.zero_le _) rfl rfl (Nat.zero_le _) rfl rfl (Nat.zero_le _) rfl rfl CK (Nat.zero_le _)
theorem WM(k a b:Int):M6 ((k,(a,(b,(0,(⟨#[]⟩,(⟨#[]⟩,(0,(0,We)))))))):TX):=R6 rfl (Nat.zero_le _) (Nat.zero_le _) rfl rfl YN
theorem Ug{E S:Nat}{w:en}(h:WI E S w)(κ:E<890)(C:aa w≠[])(c:MY)(G:tR c)(N:∀n∈aa w,0<=ad n/\ad n<=100000/\(bb n).length<=12):Y (Ve (c,(w,()))) (λy=>M6 y.1/\(gA y.1.1 9=true->FR w (eM y.1))/\tR y.2.1/\y.2.1.1=c.1/\y.2.2.1=w):=by
 have W:(0:Int)<((aa w).length:Int):=by have :=List.length_pos_iff.2 C;omega
 have φ:=h.nl;unfold Ve;refine Y.DZ (P:=λv=>tR v/\v.1=c.1) (R:=λy=>M6 y.1/\(gA y.1.1 9=true->FR w (eM y.1))/\tR y.2.1/\y.2.1.1=c.1/\y.2.2.1=w) (Y.DY (λψ=>?_) (λ_=>Y.l ⟨G,rfl⟩)) (λv4 F=>?_) (λv f=>Y.mk f);·refine Y.bind (EB _ _ G) λy1 u=>Y.DY (λ_=>?_) (λ_=>Y.l u);refine Y.bind (Jx _ _ u.1 (by simp)) λπ s=>Y.bind (j6 _ _ s.2.1) λy3 D=>Y.r ⟨WM _ _ _,λe=>?_,D.2.2.2.1,D.2.2.2.2.trans (s.2.2.trans u.2),rfl⟩;have l:π.1.1=9:=Cr.1 e;have h:=s.1;simp only[List.mem_cons,List.not_mem_nil,or_false]at h;grind
 · refine Y.bind (j6 _ _ F.1) λK o=>?_;have Q:K.1.1<((aa w).length:Int):=o.2.1 W;obtain⟨j,hj⟩:=Int.eq_ofNat_of_zero_le o.1;have ae:j<(aa w).length:=by omega
   have V:K.2.1.1=c.1:=o.2.2.2.2.trans F.2;refine Y.DZ (P:=λv=>tR (v.1,(v.2.1,(v.2.2.1,())))/\v.1=c.1/\M6 (YM v)/\(gA v.2.2.2.1 9=true->FR w (eM (YM v)))/\v.2.2.2.2.2.2.2.2.2.2.2.1=aa w/\v.2.2.2.2.2.2.2.2.2.2.2.2.1=ab w/\v.2.2.2.2.2.2.2.2.2.2.2.2.2.1=fz w/\v.2.2.2.2.2.2.2.2.2.2.2.2.2.2.1=ds w) (R:=λy=>M6 y.1/\(gA y.1.1 9=true->FR w (eM y.1))/\tR y.2.1/\y.2.1.1=c.1/\y.2.2.1=w) ?_ (λv f=>?_) (λv f=>Y.mk f)
   · refine Y.bind (j6 _ _ o.2.2.2.1) λα b=>?_;have d:α.2.1.1=c.1:=b.2.2.2.2.trans V;have g:∀{k:Int}{P:Prop},k≠9->(gA k 9=true->P):=λl e=>absurd (Cr.1 e) l;refine Y.DZ (P:=λ_=>True) (R:=λ_=>False) (Y.DY (λ_=>Y.l trivial) (λ_=>Y.DY (λ_=>Y.l trivial) (λ_=>Y.DY (λ_=>Y.l trivial) (λ_=>Y.l trivial)))) (λv8 _=>?_) (λ_ h=>h.elim);refine Y.DY (λ_=>?_) (λ_=>?_)
     · refine Y.DZ (P:=λ_=>True) (R:=λ_=>False) (Y.loop (I:=λv=>0<=v.1/\v.1<=((aa w).length:Int)) (λv=>(((aa w).length:Int)-v.1).toNat) (λv f=>?_) _ ⟨Int.le_refl _,Int.natCast_nonneg _⟩) (λv _=>Y.l ⟨b.2.2.2.1,d,WM _ _ _,g (by grind),rfl,rfl,rfl,rfl⟩) (λ_ h=>h.elim);obtain ⟨i,a,aj⟩:=v;obtain ⟨J,σ⟩:=f;dsimp only at J σ;unfold Ve.b0;refine Y.DY (λr=>?_) (λ_=>Y.rl trivial);have r:i<((aa w).length:Int):=Cp.1 r;have e1:cM .i64 i 1=i+1:=ed (by omega) (by omega);have l:(0<=cM .i64 i 1/\cM .i64 i 1<=((aa w).length:Int))/\(((aa w).length:Int)-cM .i64 i 1).toNat<(((aa w).length:Int)-i).toNat:=by omega
       exact Y.Eb J r λx _=>Y.eq (re (bb x) (ad x)) (Y.DY (λ_=>Y.DY (λ_=>Y.l l) (λ_=>Y.l l)) (λ_=>Y.l l))
     · refine Y.DZ (P:=λ_=>True) (R:=λ_=>False) (Y.DY (λ_=>Y.l trivial) (λ_=>Y.l trivial)) (λω _=>?_) (λ_ h=>h.elim);refine Y.DY (λ_=>Y.l ⟨b.2.2.2.1,d,WM _ _ _,g (by grind),rfl,rfl,rfl,rfl⟩) (λ_=>Y.DY (λ_=>?_) (λ_=>?_));· exact Y.bind (j6 _ _ b.2.2.2.1) λah A=>Y.l ⟨A.2.2.2.1,A.2.2.2.2.trans d,WM _ _ _,g (by grind),rfl,rfl,rfl,rfl⟩
       · refine Y.DZ (P:=λ_=>True) (R:=λ_=>False) (Y.DY (λ_=>Y.l trivial) (λ_=>Y.l trivial)) (λag _=>?_) (λ_ h=>h.elim);refine Y.DY (λ_=>?_) (λ_=>Y.DY (λ_=>Y.l ⟨b.2.2.2.1,d,WM _ _ _,g (by grind),rfl,rfl,rfl,rfl⟩) (λ_=>Y.DY (λ_=>Y.r ⟨WM _ _ _,g (by grind),b.2.2.2.1,d,rfl⟩) (λt=>?_)))
         · refine Y.Eb (xs:=aa w) o.1 Q λx β=>?_;obtain ⟨z,_⟩:=h.nd x β;refine Y.bind (Yz _ (gd x) b.2.2.2.1 (F8 z.v.FG) (Nat.le_trans (mw z.v.FG).1 (by decide))) λB m=>?_;have T:(Lit.int .i64 B.1.1).wf=true:=DX (by omega) (by omega);have af:(Lit.int .i64 B.1.2.2.2.2.1).wf=true:=by
            rcases m.2.2.2.2.2.2.1 with ⟨H,L⟩|⟨a,τ,q⟩;· exact DX (by omega) (by omega)
            · rw[q];have U:Tq a:=Ae z.v.h.ok.base.2 τ;exact U.2.2.1
           refine Y.bind (Jx _ _ m.2.2.2.2.2.2.2.1 (by simp)) λai p=>Y.l ⟨p.2.1,p.2.2.trans (m.2.2.2.2.2.2.2.2.trans d),R6 T (Nat.le_trans m.2.2.1 (by decide)) (Nat.le_trans m.2.2.2.1 (by decide)) ?_ ?_ YN,g (by grind),rfl,rfl,rfl,rfl⟩;· have h:=p.1;simp only[List.mem_cons,List.not_mem_nil,or_false]at h;rcases h with h|h|h<;>rw[h]<;>rfl
           omega
         · have t:((hu w).length:Int)≠0:=CN.1 t;have M:hu w≠[]:=λe=>t (by grind);refine Y.bind (RE h κ C M _ b.2.2.2.1 N) λX O=>?_;obtain ⟨θ,ε,γ,μ,Z⟩:=O;have hw:X.2.2.1=w:=Z;exact Y.l ⟨γ,μ.trans d,R6 rfl (Nat.zero_le _) (Nat.zero_le _) rfl rfl θ,λ_=>ε,by grind,by grind,by grind,by grind⟩
   · obtain ⟨H,L,δ,ρ,q5,q6,q7,q8⟩:=f;refine Y.mk ⟨δ,ρ,H,L,?_⟩;grind
theorem DI.rn{fs:List Int}{e:Bool}{an:List D9}{K:Nat}{w:en}(h:DI fs e an K w)(c:K<=700):∀n∈aa w,0<=ad n/\ad n<=100000/\(bb n).length<=12:=λn b=>by have a:=h.wr.nd n b;have :=a.rd;exact⟨by omega,by omega,(k9 a.set).2⟩
theorem Uh(c:MY)(b:Int)(W:tR c)(ε:0<b/\b<=256):Y (Vj (c,((b,()),()))) (λy=>∃fs e an K,(fs.length<=4/\(∀f∈fs,f=3\/f=20))/\K<b.toNat/\DI fs e an K y.1/\tR y.2.1/\y.2.1.1=c.1):=by
 unfold Vj;refine Y.bind (Uf c W) λN θ=>?_;obtain⟨fs,e,β,n,r,p,s,o⟩:=θ;have ω:=zl fs e n;have x:=Og (e:=e) n r;obtain⟨⟨J,L,Q⟩,ψ,u1⟩:=N;have p:((J,(L,Q)):fk)=(0,(cz fs e,())):=p;simp only[Prod.mk.injEq]at p;obtain⟨rfl,rfl,_⟩:=p;dsimp only at s o;refine Y.DZ (P:=λv=>GZ v.1/\(v.1=[]\/3<=fs.length)/\tR v.2/\v.2.1=c.1) (R:=λ_=>False) (Y.DY (λE=>Y.bind (EB _ _ s) λy2 l=>Y.DY (λ_=>?_) (λ_=>Y.l ⟨.inl rfl,.inl rfl,l.1,l.2.trans o⟩)) (λ_=>Y.l ⟨.inl rfl,.inl rfl,s,o⟩)) (λk V=>?_) (λ_ h=>h.elim)
 · have E:(3:Int)<((cz fs e).length:Int):=Cp.1 E;have H:3<=fs.length:=by grind
   refine Y.bind (j6 _ _ l.1) λy3 q=>?_;have aa:=q.2.1 (by decide);refine Y.Eb (by omega) (by omega) λμ z=>Y.l ⟨.inr ⟨μ.1,?_,rfl⟩,.inr H,q.2.2.2.1,q.2.2.2.2.trans (l.2.trans o)⟩;simp only[List.mem_cons,List.not_mem_nil,or_false]at z;rcases z with m|m|m|m<;>rw[m];· exact .inl rfl
   · exact .inr (.inl rfl)
   · exact .inr (.inr (.inl rfl))
   grind[Pz,PA,Ud,Ue]
 · obtain ⟨F,S,τ,ρ⟩:=V;obtain ⟨f1,T,δ⟩:=KK F;refine Y.eq (MK ((0,(cz fs e,())):fk) k.1 T (Nat.le_trans δ (by decide)) x.1 x.2) ?_;refine Y.bind (j6 _ b τ) λγ g=>?_;have ab:=g.2.1 ε.1;have ad:=g.1;refine Y.DZ (P:=λv=>∃K:Nat,K<b.toNat/\DI fs e k.1 K v.2.2.2.2/\tR (v.2.1,(v.2.2.1,(v.2.2.2.1,())))/\v.2.1=c.1) (R:=λ_=>False) (Y.loop (I:=λv=>0<=v.1/\∃K:Nat,(K:Int)+v.1=γ.1.1/\DI fs e k.1 K v.2.2.2.2/\tR (v.2.1,(v.2.2.1,(v.2.2.2.1,())))/\v.2.1=c.1) (λv=>v.1.toNat) (λv t=>?_) _ ⟨g.1,0,by omega,PE β n r F S,g.2.2.2.1,g.2.2.2.2.trans ρ⟩) (λv t=>?_) (λ_ h=>h.elim)
   · obtain ⟨i,X,O,π,w⟩:=v;obtain ⟨σ,K,u,a,j,d⟩:=t;dsimp only at σ u a j d;unfold Vj.b0;refine Y.DY (λC=>?_) (λ_=>Y.rl ⟨K,by omega,a,j,d⟩);have C:0<i:=Cp.1 C;have e1:gS .i64 i 1=i-1:=iz (by omega) (by omega);refine Y.bind (Ug a.wi (by decide) a.ne (X,(O,(π,()))) j (a.rn (by omega))) λM G=>?_;obtain ⟨α,Z,U,κ,z5⟩:=G;have B:((w.1,(w.2.1,(w.2.2.1,M.2.2.1.2.2.2))):en)=w:=by grind
     have D:=aO7 a.wi (by decide) (by omega) α Z;rw[<-B]at D;refine Y.bind D λφ A=>Y.l ⟨⟨?_,K+1,?_,?_,U,κ.trans d⟩,?_⟩;· grind
     · grind
     · rw[B]at A;exact a.dp (by omega) A
     grind
   · obtain ⟨K,u,a,j,d⟩:=t;exact Y.mk ⟨fs,e,k.1,K,⟨n,r⟩,u,a,j,d⟩
def tB(p:ByteArray->Bool):List df->Int|[]=>0|v::r=>(bif p v.1 then v.2.1 else 0)+tB p r
theorem Ec{p:ByteArray->Bool}:∀{S:List df},(∀v∈S,1<=v.2.1/\v.2.1<=1000000)->0<=tB p S/\tB p S<=1000000*(S.length:Int)|[],_=>⟨Int.le_refl _,Int.le_refl _⟩|v::r,h=>by have b:=Ec (p:=p) (S:=r) (λx a=>h x (List.mem_cons_of_mem _ a));have c:=h v (List.mem_cons_self ..);unfold tB;grind
theorem JO{p:ByteArray->Bool}:∀{S:List df}{a:Int},(∀v∈S,1<=v.2.1/\v.2.1<=1000000)->S.length<=12->0<=a->a<=1000000000->S.foldl (λn v=>bif p v.1 then cM .i64 n v.2.1 else n) a=a+tB p S
 |[],a,_,_,_,_=>by unfold tB;simp|v::r,a,h,z,i,s=>by
  have u:=h v (List.mem_cons_self ..);have m:r.length<=11:=by grind
  rw[List.foldl_cons];unfold tB;have f:∀(S:List df)(k:Nat)(a:Int),S.length<=k->k<=12->(∀v∈S,1<=v.2.1/\v.2.1<=1000000)->0<=a->a<=1000000000+1000000*(12-(k:Int))->S.foldl (λn v=>bif p v.1 then cM .i64 n v.2.1 else n) a=a+tB p S:=by intro S;induction S with|nil=>intro k a _ _ _ _ _;unfold tB;simp|cons x t j=>
   intro k a A l b w q;have o:=b x (List.mem_cons_self ..);have c:t.length<=k-1/\1<=k:=by grind
   have d:∀v∈t,1<=v.2.1/\v.2.1<=1000000:=λy g=>b y (List.mem_cons_of_mem _ g);rw[List.foldl_cons];unfold tB;cases B:p x.1 with|false=>grind|true=>simp only[cond_true];have e:cM .i64 a x.2.1=a+x.2.1:=ed (by omega) (by omega);rw[e,j (k-1) (a+x.2.1) c.1 (by omega) d (by omega) (by omega)];omega
  have :=f (v::r) 12 a (by omega) (Nat.le_refl _) h i (by omega);rw[List.foldl_cons]at this;unfold tB at this;omega
theorem JP{S:List df}(h:S=[]\/o9 S=true)(b:List D9):Fu S b=tB (iv b) S:=by obtain⟨c,e⟩:=k9 h;have :=JO (p:=iv b) (S:=S) (a:=0) (λv d=>(c v d).2) e (Int.le_refl _) (by omega);unfold Fu;omega
theorem Ma{S:List df}(h:S=[]\/o9 S=true):HR S=tB (λ_=>true) S:=by obtain⟨c,b⟩:=k9 h;have :=JO (p:=λ_=>true) (S:=S) (a:=0) (λv d=>(c v d).2) b (Int.le_refl _) (by omega);simp_all[HR,tB,df,cM]
def Fi(an:List D9)(S:List df):Prop:=3*tB (iv an) S<tB (λ_=>true) S
theorem JQ{S:List df}{a:List D9}(h:S=[]\/o9 S=true)(c:md S a=true):2*tB (λ_=>true) S<3*tB (iv a) S:=by obtain⟨d,g⟩:=k9 h;have e:=Ec (p:=iv a) (S:=S) (λv b=>(d v b).2);have f:=Ec (p:=λ_=>true) (S:=S) (λv b=>(d v b).2);unfold md at c;have c:=Cp.1 c;grind[tB,zJ,iv,Ar,HR,Ma,Fu,JP]
theorem JR{a b f:ByteArray->Bool}:∀{S:List df},(∀v∈S,1<=v.2.1)->(∀v∈S,a v.1=true->b v.1=true->f v.1=true)->tB a S+tB b S<=tB (λ_=>true) S+tB f S|[],_,_=>by unfold tB;omega|v::r,h,d=>by have i:=JR (S:=r) (λx c=>h x (List.mem_cons_of_mem _ c)) (λx c=>d x (List.mem_cons_of_mem _ c));have g:=h v (List.mem_cons_self ..);have e:=d v (List.mem_cons_self ..);unfold tB;grind
theorem Mb{S:List df}{an A B:List D9}(h:S=[]\/o9 S=true)(g:md S A=true)(i:md S B=true)(d:Fi an S):∃v∈S,iv A v.1=true/\iv B v.1=true/\iv an v.1=false:=by obtain⟨e,m⟩:=k9 h;have o:=JQ h g;have j:=JQ h i;apply Classical.byContradiction;intro l;have :=JR (a:=iv A) (b:=iv B) (f:=iv an) (S:=S) (λv c=>(e v c).2.1) (λv c n k=>by grind);unfold Fi at d;omega
theorem Mc{l:List D9}{s:ByteArray}(h:iv l s=true):∃x∈l,x.1=s:=by unfold iv at h;obtain⟨x,a,e⟩:=List.any_eq_true.1 h;exact⟨x,a,n9.1 e⟩
theorem zs{S:List df}{q:j4}(h:tm S q=true)(a:1<=q.1):md S q.2.2.1=true:=by
 unfold tm at h;simp only[Bool.or_eq_true,Bool.and_eq_true]at h;rcases h with h|h;·have :=(pn h).1;omega
 grind
theorem Ng{S:List df}{t:se}(h:FE S t=true)(a:1<=t.1):md S t.2.1=true/\List.length t.2.2.1=List.length t.2.1:=by
 unfold FE at h;simp only[Bool.or_eq_true,Bool.and_eq_true]at h;rcases h with h|h;·have :=(sG h).1;omega
 ·have :=Cr.1 h.2.2.1;grind
theorem j0.E5{R:Int}{bl:List ao}{G p:fl->Prop}{S q:List df}{r j f:Int}{l:List ao}(g:BR R bl)(h:j0 bl G S r f l):∀{d:List ao},j0 bl p q j f d->l=d:=by induction h with
 |GM f h=>intro d c;cases c with|GM _ _=>rfl|dp b l a m k n=>have :=(g.lt a).1;omega
 |dp b l a m k n y=>intro d c;generalize i:b.1=x at c;cases c with|GM _ u=>have :=(g.lt a).1;omega|dp s v o t z w=>have e:=g.E5 a o i;grind
theorem j0.Ui{bl:List ao}{G:fl->Prop}{S:List df}{a d:Int}{l:List ao}{b:ao}(h:j0 bl G S a d (l++[b])):b.1=d/\b∈bl/\BA G S a b/\j0 bl G S a (gx b).2.1 l/\(j7 (gx b)=true\/∃p∈bl,p.1=(gx b).2.1/\p.2.2.1=(gx b).1):=by generalize f:l++[b]=x at h;cases h with|GM _ h=>simp_all|dp c i e k g j=>simp_all
theorem j0.VZ{R:Int}{bl:List ao}{G:fl->Prop}{S:List df}{g c:Int}{l:List ao}(d:BR R bl)(h:j0 bl G S g c l):(∀x∈l,x.1<=c)/\l.Pairwise (λx y=>x.1<y.1):=by induction h with|GM c h=>simp_all|dp b l e o k n q=>
 have f:=KE (d.kp b e);have j:(gx b).2.1<b.1:=by
  have i:=(d.lt e).1;have a:=f.qc;unfold G4 at a;simp only[Bool.or_eq_true,Bool.and_eq_true]at a;rcases a with a|a;·have :=Lp a;omega
  ·have m:=gk.1 a.2.1;have p:gS .i64 b.1 1=b.1-1:=iz (by omega) (by have :=f.id;omega);omega
 grind
structure C5(R:Int)(w:en)(ep:Int)(S:List df):Prop where
 bl:BR R (ab w)vw:VW w
 Hu:vv w
 set:S=[]\/o9 S=true
 xg:Fi (hu w) S
 UF:∀n∈aa w,∀c9 S' L d,c9<+:bm n->(c9.length:Int)=ep->te (ab w) (GW w) (fv w) c9 S' L d->S'=S
theorem KL{w:en}{a:Int}{q:j4}(b:∀s∈mo a q,GW w s){x:D9}(d:x∈q.2.2.1)(e:iv (hu w) x.1=false):((1,(a,(q.1,(q.2.1,(x.1,()))))):fl)∈fz w:=by
 have c:((1,(a,(q.1,(q.2.1,(x.1,()))))):fl)∈mo a q:=by simp_all[fl,mo,D9]
 rcases b _ c with h|h;·grind
 omega
theorem Wq{w:en}{a:Int}{t:se}(j:List.length t.2.2.1=List.length t.2.1)(c:∀s∈pf a t,GW w s){x:D9}(d:x∈t.2.1)(k:iv (hu w) x.1=false):∃h:D3,h∈t.2.2.1/\((2,(a,(t.1,(h.1,(x.1,()))))):fl)∈fz w:=by
 obtain⟨i,g,rfl⟩:=List.getElem_of_mem d;have b:i<List.length t.2.2.1:=by omega
 refine⟨t.2.2.1[i],List.getElem_mem b,?_⟩;have e:i<(List.zip t.2.1 t.2.2.1).length:=by grind
 have f:((2,(a,(t.1,((t.2.2.1[i]).1,((t.2.1[i]).1,()))))):fl)∈pf a t:=by unfold pf;refine List.mem_map.2 ⟨(List.zip t.2.1 t.2.2.1)[i],List.getElem_mem e,?_⟩;grind
 rcases c _ f with h|h;·grind
 omega
theorem C5.Nh{R:Int}{w:en}{b:Int}{S:List df}(c:C5 R w b S){A B:List D9}(d:md S A=true)(e:md S B=true):∃x∈A,∃y∈B,x.1=y.1/\iv (hu w) x.1=false:=by obtain⟨v,_,a,f,j⟩:=Mb c.set d e c.xg;obtain⟨x,h,k⟩:=Mc a;obtain⟨y,i,g⟩:=Mc f;grind
theorem C5.R7{R:Int}{w:en}{b:Int}{S:List df}(c:C5 R w b S){q a:j4}(h:tm S q=true)(o:∀s∈mo b q,GW w s)(l:1<=q.1)(f:tm S a=true)(d:∀s∈mo b a,GW w s)(e:a.1=q.1):a.2.1=q.2.1:=by obtain⟨x,g,y,i,n,k⟩:=c.Nh (zs h l) (zs f (by omega));have m:=KL o g k;have j:=KL d i (by grind);exact (c.Hu.Hu _ j _ m rfl rfl rfl e n.symm)
theorem C5.R8{R:Int}{w:en}{a:Int}{S:List df}(c:C5 R w a S){q:j4}(h:tm S q=true)(r:∀s∈mo a q,GW w s)(e:1<=q.1):∃b l,b.1=q.2.1/\b.2.2.1=q.1/\j0 (ab w) (GW w) S a b.1 (l++[b]):=by obtain⟨x,i,y,t,A,m⟩:=c.Nh (zs h e) (zs h e);obtain⟨n,k,_,f,o,L,d,l,b,j,g,p,u,v,z⟩:=c.vw.Nd _ (KL r i m) rfl;have :=c.UF n k f o L d j g p;grind
theorem R9{l:List D3}:∀{a:Int},a<=List.foldl (λ(n:Int)(x:D3)=>bif dO n x.1 then x.1 else n) a l/\∀h∈l,h.1<=List.foldl (λ(n:Int)(x:D3)=>bif dO n x.1 then x.1 else n) a l:=by induction l with|nil=>grind|cons x r b=>
 intro a;rw[List.foldl_cons];obtain⟨c,e⟩:=b (a:=bif dO a x.1 then x.1 else a);have d:a<=(bif dO a x.1 then x.1 else a)/\x.1<=(bif dO a x.1 then x.1 else a):=by grind[dO,Au,Cp]
 grind
theorem Jk{b:ao}(h:k8 b=true)(a:Wh b):(gx b).1=b.2.2.1-1\/((oj b).1=b.2.2.1-1/\0<(oj b).1/\Jz (oj b)<=(gx b).1):=by
 have e:gS .i64 b.2.2.1 1=b.2.2.1-1:=iz (by have :=a.rd;omega) (by have :=a.rd;omega);unfold k8 at h;rw[e]at h;simp only[Bool.or_eq_true,Bool.and_eq_true]at h;rcases h with h|h;·exact .inl (Cr.1 h.1)
 ·exact .inr ⟨Cr.1 h.1,Cp.1 h.2.1,Cq.1 h.2.2⟩
theorem PF{b:ao}(a:Wh b):0<=(gx b).1/\(gx b).1<b.2.2.1:=by have c:=RF a.qc;have e:gS .i64 b.2.2.1 1=b.2.2.1-1:=iz (by have :=a.rd;omega) (by have :=a.rd;omega);rw[e]at c;have :=a.rd;omega
theorem C5.wR{R:Int}{w:en}{p:Int}{S:List df}(c:C5 R w p S){q:j4}{l:List ao}{a b:ao}(d:N5 (ab w) (GW w) S p q l a b):∀(k:Nat) (g:j4),tm S g=true->(∀s∈mo p g,GW w s)->a.2.2.1<=g.1->g.1<=a.2.2.1+(k:Int)->∀m,j0 (ab w) (GW w) S p g.2.1 m->l++[a]<+:m:=by have α:=d.ch.Ui;have Y:=KE (c.bl.kp a α.2.1);have δ:=Y.rd;have β:=d.ard;have γ:=d.Wl;intro k;induction k with|zero=>intro g o n J N m i;have e:g.2.1=(gx b).2.1:=c.R7 d.ba.qc d.ba.qa (by omega) o n (by omega);rw[e,d.Mm]at i;rw[i.E5 c.bl d.ch];grind|succ k O=>
 intro g o n J N m i;by_cases θ:g.1<=a.2.2.1+(k:Int);·grind
 obtain⟨D,u,A,σ,C⟩:=c.R8 o n (by omega);have F:m=u++[D]:=by rw[<-A]at i;exact i.E5 c.bl C
 obtain⟨_,v,j,r,_⟩:=C.Ui;have E:=KE (c.bl.kp D v);by_cases I:g.1=q.1;·have e:g.2.1=q.2.1:=c.R7 d.qc d.qa (by omega) o n I;have H:D=b:=c.bl.E5 v d.YK (by rw[A,e,d.id]);subst H;rw[d.Mm]at r;rw[F,r.E5 c.bl d.ch];grind
 · have ε:=PF E;have G:a.2.2.1<=(gx D).1:=by
    rcases Jk j.fo E with f|⟨π,κ,ρ⟩;· omega
    · obtain⟨W,Z⟩:=Ng j.tc (by omega);obtain⟨x,L,y,M,U,T⟩:=c.Nh (zs d.qc (by omega)) W;have P:=KL d.qa L T;obtain⟨h,X,K⟩:=Wq Z j.ta M (by grind);obtain⟨z,Q,t,B⟩:=c.vw.Wn _ P _ K rfl rfl U rfl (by grind);have t:z.1=q.2.1:=t;have B:(gx z).1<=h.1:=B;have V:z=b:=c.bl.E5 Q d.YK (by rw[t,d.id]);subst V;have μ:h.1<=Jz (oj D):=(R9 (l:=(oj D).2.2.1) (a:=0)).2 h X;omega
   have :=O (gx D) j.qc j.qa G (by omega) u r;grind
theorem C5.cmp{R:Int}{w:en}{g:Int}{S:List df}(c:C5 R w g S){q j:j4}{l f:List ao}{a e b i:ao}(h:N5 (ab w) (GW w) S g q l a b) (d:N5 (ab w) (GW w) S g j f e i):l++[a]<+:f++[e]\/f++[e]<+:l++[a]:=by
 by_cases k:a.2.2.1<=e.2.2.1;·refine .inl (c.wR h (e.2.2.1-a.2.2.1).toNat (gx i) d.ba.qc d.ba.qa (by rw[d.Wl];omega) (by rw[d.Wl];omega) _ ?_);rw[d.Mm];exact d.ch
 ·refine .inr (c.wR d (a.2.2.1-e.2.2.1).toNat (gx b) h.ba.qc h.ba.qa (by rw[h.Wl];omega) (by rw[h.Wl];omega) _ ?_);rw[h.Mm];exact h.ch
theorem te.WN{bl:List ao}{G:fl->Prop}{base:fk}{P:List A4}{S:List df}{L:fk}{d:List D3}(h:te bl G base P S L d):(P=[]/\S=ma base.2.1/\L=base/\d=[])\/∃(e:List A4)(f:List df)(i:fk)(j g:List D3)(q:j4)(l:List ao)(a b:ao)(p:List ao)(c:ao)(r:List ao),P=e++[((e.length:Int),((l++[a])++[b],(q.1,(q.2.1,(q.2.2.1,())))))]/\te bl G base e f i j/\Mn bl G f (e.length:Int) j g/\N5 bl G f (e.length:Int) q l a b/\l++[a]=p++c::r/\fa c=true/\(∀x∈p,fa x=false)/\S=kB c/\L=ks (nr i (p++[c]))/\d=i0 g (hM (p++[c])):=by cases h with|nil=>grind|Na e f i j g q l a b p c r t k s m o n=>grind
theorem te.set{R:Int}{bl:List ao}{G:fl->Prop}{base:fk}{P:List A4}{S:List df}{L:fk}{d:List D3}(f:BR R bl)(v:ma base.2.1=[]\/o9 (ma base.2.1)=true)(h:te bl G base P S L d):S=[]\/o9 S=true:=by
 rcases h.WN with⟨_,e,_,_⟩|⟨k,o,n,u,m,q,l,a,b,p,c,r,_,_,_,i,s,t,_,e,_,_⟩;·grind
 ·rw[e];have g:c∈bl:=(i.ch.dr c (by grind)).1;have j:=(KE (f.kp c g)).bo;unfold HT at j;grind
theorem te.xg{an:List D9}{bl:List ao}{G:fl->Prop}{base:fk}{P:List A4}{S:List df}{L:fk}{d:List D3}(u:Fi an (ma base.2.1))(g:∀p∈P,∀b∈kj p,fa b=true->Fi an (kB b))(h:te bl G base P S L d):Fi an S:=by
 rcases h.WN with⟨_,e,_,_⟩|⟨j,n,m,s,k,q,l,a,b,p,c,r,f,_,_,t,o,i,_,e,_,_⟩;·grind
 ·rw[e];refine g _ (by rw[f];exact List.mem_append_right _ (List.mem_cons_self ..)) c ?_ i;grind
theorem Me{d:List D3}{n:Int}:Ku d n=true↔∃x∈d,x.1=n:=by simp_all[Ku,D3,gA,Cr]
theorem PG(d a b:List D3):i0 d (a++b)=i0 (i0 d a) b:=by simp_all[D3,i0,sm]
theorem G0:∀(a d:List D3),(∀x∈a,x∈d)->i0 d a=d
 |[],d,_=>rfl|x::r,d,h=>by
  have b:i0 d (x::r)=i0 (sm d x.1) r:=rfl;have e:sm d x.1=d:=by unfold sm;rw[Me.2 ⟨x,h x (List.mem_cons_self ..),rfl⟩];rfl
  rw[b,e];exact G0 r d (λy c=>h y (List.mem_cons_of_mem _ c))
theorem JS:∀(a d:List D3),a.Pairwise (λx y=>x.1<y.1)->(∀x∈a,∀y∈d,y.1≠x.1)->i0 d a=d++a
 |[],d,_,_=>(List.append_nil d).symm|x::r,d,b,h=>by
  have c:i0 d (x::r)=i0 (sm d x.1) r:=rfl;have i:sm d x.1=d++[x]:=by unfold sm;cases g:Ku d x.1 with|true=>obtain⟨y,f,e⟩:=Me.1 g;grind|false=>rfl
  rw[c,i];rw[List.pairwise_cons]at b;rw[JS r (d++[x]) b.2 (λy f z j=>?_),List.append_assoc];rfl;grind
theorem Oh(a b:List ao):hM (a++b)=hM a++hM b:=by unfold hM;grind
theorem Wr{X:List ao}(h:X.Pairwise (λx y=>x.1<y.1)):(hM X).Pairwise (λx y=>x.1<y.1):=by unfold hM;grind
theorem JT{bl:List ao}{R h:Int}(k:BR R bl){d:List D3}{c X:List ao}(n:∀x∈d,∃b∈bl,b.1=x.1/\b.2.1<h)(g:X.Pairwise (λx y=>x.1<y.1))(p:∀b∈X,b∈bl/\b.2.1=h)(o:c<+:X):i0 (d++hM c) (hM X)=d++hM X:=by
 obtain⟨r,rfl⟩:=o;rw[List.pairwise_append]at g;rw[Oh,PG,G0 (hM c) (d++hM c) (λx f=>List.mem_append_right _ f),JS (hM r) (d++hM c) (Wr g.2.1) (λx f y a=>?_),List.append_assoc];unfold hM at f;obtain⟨b,i,rfl⟩:=List.mem_map.1 f;rcases List.mem_append.1 a with a|a;·obtain⟨z,l,j,q⟩:=n y a;obtain⟨m,s⟩:=p b (List.mem_append_right _ i);intro e;have :=k.E5 l m (j.trans e);grind
 ·unfold hM at a;grind
theorem PH{b:List D3}{a X:List ao}(c:X<+:a):i0 (b++hM a) (hM X)=b++hM a:=by refine G0 _ _ (λx d=>List.mem_append_right _ ?_);obtain⟨r,rfl⟩:=c;simp_all[D3,hM,ao,Oh]
theorem Sa{b p r:List ao}{c:ao}(g:∀x∈b,fa x=false)(i:fa c=true)(h:b<+:p++c::r):b<+:p:=by
 obtain⟨t,e⟩:=h;rcases List.append_eq_append_iff.1 e with⟨a,d,f⟩|⟨a,d,f⟩;·grind
 ·cases a with|nil=>grind|cons y a=>grind
theorem G1:∀{p d s b:List ao}{c a:ao},(∀x∈p,fa x=false)->(∀x∈d,fa x=false)->fa c=true->fa a=true->p++c::s=d++a::b->p=d/\c=a|[],[],s,b,c,a,_,_,_,_,e=>by grind|[],y::d,s,b,c,a,_,j,h,_,e=>by grind|x::p,[],s,b,c,a,g,_,_,i,e=>by grind|x::p,y::d,s,b,c,a,g,j,h,i,e=>by simp only[List.cons_append,List.cons.injEq]at e;obtain⟨l,k⟩:=G1 (λz f=>g z (List.mem_cons_of_mem _ f)) (λz f=>j z (List.mem_cons_of_mem _ f)) h i e.2;grind
theorem Mn.dr{bl:List ao}{G:fl->Prop}{S:List df}{c:Int}{e d:List D3}(h:Mn bl G S c e d):∀x∈d,x∈e\/∃b∈bl,b.1=x.1/\b.2.1=c:=by induction h with|nil=>grind|V8 d q l a b _ f _ m=>
 intro x g;rcases E0 g with h|h;·grind
 ·unfold hM at h;obtain⟨z,k,rfl⟩:=List.mem_map.1 h;obtain⟨i,j⟩:=f.ch.dr z k;exact .inr ⟨z,i,rfl,j.eq⟩
theorem te.dr{bl:List ao}{G:fl->Prop}{base:fk}{P:List A4}{S:List df}{L:fk}{d:List D3}(h:te bl G base P S L d):∀x∈d,∃b∈bl,b.1=x.1/\b.2.1<(P.length:Int):=by induction h with|nil=>grind|Na f S L o d q l a b p c r _ k g n u t v=>
 intro x i;have e:((f++[(((f.length:Int),((l++[a])++[b],(q.1,(q.2.1,(q.2.2.1,()))))):A4)]).length:Int)=(f.length:Int)+1:=by grind
 rw[e];rcases E0 i with h|h
 · rcases k.dr x h with h|⟨z,y,w,s⟩;· grind
   grind
 · unfold hM at h;obtain⟨z,A,rfl⟩:=List.mem_map.1 h;obtain⟨j,m⟩:=g.ch.dr z (by grind);exact⟨z,j,rfl,by have :=m.eq;omega⟩
theorem Mn.aP1{R:Int}{w:en}{i:Int}{S:List df}(c:C5 R w i S){j d:List D3}(z:∀x∈j,∃b∈ab w,b.1=x.1/\b.2.1<i)(h:Mn (ab w) (GW w) S i j d):∃f,d=j++hM f/\(∀x∈f,fa x=false)/\(f=[]\/∃q l a b,N5 (ab w) (GW w) S i q l a b/\f=l++[a]):=by induction h with|nil=>exact⟨[],by unfold hM;simp,λx t=>(by cases t),.inl rfl⟩|V8 d q l a b _ g s u=>
 obtain⟨f,e,v,n⟩:=u;have r:=(g.ch.VZ c.bl).2;have y:∀b∈l++[a],b∈ab w/\b.2.1=i:=λb o=>⟨(g.ch.dr b o).1,(g.ch.dr b o).2.eq⟩;have p:f<+:l++[a]\/l++[a]<+:f:=by
  rcases n with rfl|⟨B,D,C,A,k,rfl⟩;·grind
  ·exact c.cmp k g
 rcases p with m|m;·exact⟨l++[a],by rw[e];exact JT c.bl z r y m,s,.inr ⟨q,l,a,b,g,rfl⟩⟩
 ·exact ⟨f,by rw[e];exact PH m,v,n⟩
structure PW(R:Int)(w:en):Prop where
 bl:BR R (ab w)vw:VW w
 Hu:vv w
 set:ma (fv w).2.1=[]\/o9 (ma (fv w).2.1)=true
 YO:Fi (hu w) (ma (fv w).2.1)YP:∀n∈aa w,∀p∈bm n,∀b∈kj p,fa b=true->Fi (hu w) (kB b)
theorem Mf{R:Int}{w:en}{f:Int}{S:List df}(c:C5 R w f S){j d:List D3}(o:∀x∈j,∃b∈ab w,b.1=x.1/\b.2.1<f)(h:Mn (ab w) (GW w) S f j d){q:j4}{l:List ao}{a b:ao}{p:List ao}{x:ao}{r:List ao}(g:N5 (ab w) (GW w) S f q l a b) (v:l++[a]=p++x::r) (z:fa x=true) (F:∀y∈p,fa y=false):i0 d (hM (p++[x]))=j++hM (p++[x]):=by
 obtain⟨C,e,A,t⟩:=h.aP1 c o;have i:p++[x]<+:l++[a]:=⟨r,by grind⟩;have s:(p++[x]).Pairwise (λx y=>x.1<y.1):=(g.ch.VZ c.bl).2.sublist i.sublist;have B:∀b∈p++[x],b∈ab w/\b.2.1=f:=λb n=>⟨(g.ch.dr b (i.subset n)).1,(g.ch.dr b (i.subset n)).2.eq⟩;have u:C<+:p:=by
  rcases t with rfl|⟨E,H,G,D,k,rfl⟩;·grind
  · rcases c.cmp k g with m|m;· rw[v]at m;exact Sa A z m
    grind
 rw[e];exact JT c.bl o s B (u.trans (List.prefix_append _ _))
theorem PW.UF{R:Int}{w:en}(h:PW R w):∀(e:Nat),∀n∈aa w,∀m∈aa w,∀(P j:List A4)(S F:List df)(L D:fk)(d B:List D3),P<+:bm n->j<+:bm m->P.length=e->j.length=e->te (ab w) (GW w) (fv w) P S L d->te (ab w) (GW w) (fv w) j F D B->S=F/\L=D/\d=B:=by intro e;induction e with
 |zero=>
 intro n E m θ P j S F L D d B κ Z z g Q M;rcases Q.WN with⟨_,i,μ,I⟩|⟨f,u,C,A,β,q,l,a,b,p,c,r,o,_⟩
 · rcases M.WN with⟨_,α,O,G⟩|⟨f,u,C,A,β,q,l,a,b,p,c,r,o,_⟩;· grind
   grind
 grind|succ e δ=>
 intro n E m θ P j S F L D d B κ Z z g Q M;rcases Q.WN with⟨o,_⟩|⟨f,u,C,A,β,q,l,a,b,p,c,r,o,i,μ,I,X,J,V,a7,a8,a9⟩;· grind
 rcases M.WN with⟨y,_⟩|⟨H,σ,τ,ρ,ad,q',l',a',b',p',c',r',y,α,O,G,W,N,U,b7,b8,b9⟩;· rw[y]at g;simp at g
 have Y:f.length=e:=by rw[o]at z;simp at z;exact z
 have γ:H.length=e:=by rw[y]at g;simp at g;exact g
 have K:f<+:bm n:=(List.prefix_append _ _).trans (by rw[<-o];exact κ);have p2:H<+:bm m:=(List.prefix_append _ _).trans (by rw[<-y];exact Z);obtain⟨e1,e2,e3⟩:=δ n E m θ f H u σ C τ A ρ K p2 Y γ i α;subst e1 e2 e3;have T:C5 R w (f.length:Int) u:=⟨h.bl,h.vw,h.Hu,i.set h.bl h.set,i.xg h.YO (λx hx=>h.YP n E x (K.subset hx)),λk ω pk Sk φ dk ε ψ k3=>(δ k ω n E pk f Sk u φ C dk A ε K (by omega) Y k3 i).1⟩;have π:=i.dr;rw[γ,<-Y]at O G;have f1:=Mf T π μ I X J V;have f2:=Mf T π O G W N U;have hs:p=p'/\c=c':=by
  rcases T.cmp I G with⟨t,v⟩|⟨t,v⟩;· rw[X,W]at v;exact G1 (s:=r++t) V U J N (by rw[<-v];simp)
  · rw[X,W]at v;obtain⟨ε,ψ⟩:=G1 (s:=r'++t) U V N J (by rw[<-v];simp);grind
 grind
theorem Ws{E S:Nat}{w:en}(h:WI E S w)(o:E<890)(p:S<=900000)(e:TX)(d:e.1=6)(b:e.2.1=0)(a:0<(ds w).length):Y (ME (w,(e,()))) (λy=>y.2.1=l8 (tS w 0) (ds w)[0]):=by
 have c:=h.nt;have k:gS .i64 ((ds w).length:Int) 1=((ds w).length:Int)-1:=iz (by omega) (by omega);have f:=h.nm _ (List.getElem_mem a);have r:bK (ds w) e.2.1=some (ds w)[0]:=by rw[b];exact cB a
 have s:aC (ds w) (Int.toNat e.2.1)=some (ds w)[0]:=by rw[b];exact qn a
 have u:Di e.2.1 0 (gS .i64 ((ds w).length:Int) 1)=true:=by rw[k,b];simp[Di,km];omega
 unfold ME;refine Y.eq (lb _ _ _) (Y.ff (by grind) (Y.eq r (Y.eq s (Y.ff (by show gA e.1 8=false;rw[d];rfl) ?_))));have x:cM .i64 ((0:Nat):Int) 1=((0+1:Nat):Int):=wG (n:=400) (by omega) (by omega);have j:mX e.2.1 (ds w).length=true:=by simp_all[mX,uf,D9,D3,fr,ds]
 have l:mX (cM .i64 e.2.1 1) (ds w).length=true:=by unfold mX;grind
 have i:=JK a c;refine Y.tt j (Y.dE (by grind) (by decide) (by decide) (Y.tt l (Y.dE ?_ (by decide) (by decide) ?_)));·have t:List.length w.2.2.2.2.2.2.1<=400:=c;unfold bV;grind
 · have q:(Hc w (aa w) (ab w) (fz w) (bV (bV ([]:List fr) (List.take (Int.toNat e.2.1-0) (List.drop 0 (ds w)))) (List.take ((ds w).length-Int.toNat (cM .i64 e.2.1 1)) (List.drop (Int.toNat (cM .i64 e.2.1 1)) (ds w)))))=tS w 0:=by rw[b];show Hc w (aa w) (ab w) (fz w) (bV (bV ([]:List fr) (List.take (Int.toNat ((0:Nat):Int)-0) (List.drop 0 (ds w)))) (List.take ((ds w).length-Int.toNat (cM .i64 ((0:Nat):Int) 1)) (List.drop (Int.toNat (cM .i64 ((0:Nat):Int) 1)) (ds w))))=_;rw[i];rfl
   have g:=KD (o8 h 0) o p f.1 f.2;rw[<-q]at g;refine Y.DZ (P:=λv=>v=l8 (tS w 0) (ds w)[0]) (R:=λ_=>False) (Y.tt (by show gA e.1 6=true;rw[d];rfl) (Y.eq g (Y.l ?_))) (λv m=>Y.mk m) (λ_ h=>h.elim);grind
structure DJ(fs:List Int)(e:Bool)(an:List D9)(S:Nat)(R:Int)(B:Nat)(w:en):Prop where
 wi:WI 889 S w
 wr:WR R w
 Hu:vv w
 sw:SW w
 vw:VW w
 bl:(ab w).length<=B
 ne:aa w≠[]fo:GZ an/\hu w=an
 ba:fv w=(0,(cz fs e,()))WL:(aa w).map (λn=>n.1)=((cz fs e).filter (λa=>!iv an a.1)).map (λa=>a.1)
section
variable{fs:List Int}{e:Bool}{an:List D9}
theorem DI.dj{K:Nat}{w:en}(h:DI fs e an K w):DJ fs e an K (14*(K:Int)) K w:=⟨h.wi,h.wr,h.Hu,h.sw,h.vw,h.bl,h.ne,h.fo,h.ba,h.WL⟩
theorem DJ.up{S b:Nat}{R R':Int}{B a:Nat}{w:en}(h:DJ fs e an S R B w)(c:S<=b)(f:R<=R')(d:B<=a):DJ fs e an b R' a w:=⟨h.wi.up (Nat.le_refl _) c,h.wr.up f,h.Hu,h.sw,h.vw,Nat.le_trans h.bl d,h.ne,h.fo,h.ba,h.WL⟩
theorem DJ.go{S:Nat}{R R':Int}{B b:Nat}{w a:en}(h:DJ fs e an S R B w)(g:S<=900000)(o:b<=889)(s:qL w a)(d:WR R' a)(i:(ab a).length<=b):DJ fs e an (S+1) R' b a:=by
 have j:=s.wi h.wi (by decide) g;obtain⟨_,c,m,l,k⟩:=s.CB h.wi (by decide);refine⟨j.yN d (by omega),d,s.Hu h.wi (by decide) h.wr h.Hu,s.sw h.wi (by decide) h.wr h.sw,s.vw h.wi (by decide) h.wr h.Hu h.sw h.vw,i,λf=>?_,⟨h.fo.1,k.trans h.fo.2⟩,?_,c.trans h.WL⟩;·rw[f]at c;have :(aa w).map (λn=>n.1)=[]:=c.symm;rw[List.map_eq_nil_iff]at this;grind[ne]
 ·have :=h.ba;grind
def KM(fs:List Int)(e:Bool)(an:List D9):Nat:=((cz fs e).filter (λa=>!iv an a.1)).length
theorem DJ.KP{S:Nat}{R:Int}{B:Nat}{w:en}(h:DJ fs e an S R B w):(aa w).length=KM fs e an:=by have :=congrArg List.length h.WL;rw[List.length_map,List.length_map]at this;exact this
theorem Sb(b:fs.length<=4):KM fs e an<=5:=by have d:=List.length_filter_le (λa=>!iv an a.1) (cz fs e);have c:=zl fs e b;unfold KM;grind
end
theorem Mg(w:en)(m:fr):ab (l8 w m)=ab w:=by unfold l8;cases (aa w)[(PR (aa w) m.2.1).toNat]? with|none=>rfl|some n=>dsimp only;cases gA n.2.1 m.2.2.1<;>rfl
theorem Sc{E S:Nat}{w:en}{m:fr}(h:WI E S w)(j:E<890)(e:FA m){k:Nat}{n n':a0}(g:(aa w)[k]?=some n)(a:(aa (l8 w m))[k]?=some n'):n.2.1<=n'.2.1:=by unfold l8 at a;cases c:(aa w)[(PR (aa w) m.2.1).toNat]? with|none=>grind|some x=>rw[c]at a;dsimp only at a;cases b:gA x.2.1 m.2.2.1 with|false=>grind|true=>rw[b]at a;have a:((aa w).set (PR (aa w) m.2.1).toNat (e8 x m).1)[k]?=some n':=a;obtain⟨d,f⟩:=h.nd x (List.mem_of_getElem? c);have i:=(HC d e (Cr.1 b).symm (by omega)).2.2.1;grind
section
variable{fs:List Int}{e:Bool}{an:List D9}
theorem DJ.sX{S:Nat}{R:Int}{B:Nat}{w:en}(h:DJ fs e an S R B w)(c:S<=900000)(d:B<=889)(a:0<(ds w).length):DJ fs e an (S+1) R B (l8 (tS w 0) (ds w)[0]):=by have b:=h.wi.nm _ (List.getElem_mem a);exact h.go c d (.sX 0 a) (Gl (o8 h.wi 0) (by decide) (EK h.wr 0) b.1 (h.wr.z9 _ (List.getElem_mem a)) b.2) (by rw[Mg];exact h.bl)
theorem DJ.Gi{S:Nat}{R:Int}{B:Nat}{w:en}(h:DJ fs e an S R B w)(m:S<=900000)(n:B<=889){j k:Nat}(c:j<(aa w).length)(b:k<(aa w).length)(a:(fp (aa w)[j] (aa w)[k].2.1 (aa w)[k].1).2.1.1=true):FA (fp (aa w)[j] (aa w)[k].2.1 (aa w)[k].1).1/\sF (aa w) (fp (aa w)[j] (aa w)[k].2.1 (aa w)[k].1).1.2.1=true/\DJ fs e an (S+1) R B (l8 w (fp (aa w)[j] (aa w)[k].2.1 (aa w)[k].1).1):=by
 obtain⟨g,o⟩:=h.wi.nd _ (List.getElem_mem c);obtain⟨d,_⟩:=h.wi.nd _ (List.getElem_mem b);have l:=wb _ _ _ a;have i:=pv g d.v.h.ok.2.1 d.v.h.ok.1 a;have f:sF (aa w) (fp (aa w)[j] (aa w)[k].2.1 (aa w)[k].1).1.2.1=true:=by rw[l.1];exact EZ b
 exact⟨i,f,h.go m n (.Gi j c k b a) (Gl h.wi (by decide) h.wr i (C0 h.wr.bl (h.wr.nd _ (List.getElem_mem c)) g (by omega) h.wr.r0 (h.wr.nd _ (List.getElem_mem b)).nm a) f) (by rw[Mg];exact h.bl)⟩
theorem DJ.Jj{S:Nat}{R:Int}{B:Nat}{w:en}(h:DJ fs e an S R B w)(k:S<=900000)(t:B<889){j:Nat}(a:j<(aa w).length):DJ fs e an (S+1) (R+1) (B+1) (Fc w j (aa w)[j]):=by
 obtain⟨d,u⟩:=h.wi.nd _ (List.getElem_mem a);have q:=h.bl;have g:=Bk (n:=(ab w).length) (by omega);obtain⟨p,s,m⟩:=N0 h.wr.bl (h.wr.nd _ (List.getElem_mem a)) d (by omega) h.wr.r0 h.wi.bl;have f:∀b∈ab w,b∈ab w++(dt (aa w)[j] ((ab w).length:Int)).2.1:=λb l=>List.mem_append_left _ l;have i:=(HD d g (by omega)).2.1;have r:=h.wr.r0;refine h.go k (by omega) (.Jj j a (by omega)) ?_ ?_
 · refine zd (w:=Hc w ((aa w).set j (dt (aa w)[j] ((ab w).length:Int)).1) (ab w++(dt (aa w)[j] ((ab w).length:Int)).2.1) (fz w) (ds w)) ⟨by omega,h.wr.b0,h.wr.fo,p,λx c=>?_,h.wr.nm.set a i,λx c=>(h.wr.z9 x c).mono (by omega) f⟩ m;rcases List.mem_or_eq_of_mem_set c with o|rfl;· exact (h.wr.nd x o).mono (by omega) f (by grind)
   omega
 · show (ab w++(dt (aa w)[j] ((ab w).length:Int)).2.1).length<=B+1;rw[List.length_append];rcases (Gh d g (by omega)).2.2.2.2 with⟨e,_⟩|⟨e,_⟩<;>rw[e]<;>simp only[List.length_nil,List.length_cons]<;>omega
theorem DJ.Fe{S:Nat}{R:Int}{B:Nat}{w:en}(h:DJ fs e an S R B w)(d:S<=900000)(i:B<=889)(g:R<=9990){j:Nat}(a:j<(aa w).length):DJ fs e an (S+1) (R+1) B (A8 w j (aa w)[j]):=by obtain⟨b,l⟩:=h.wi.nd _ (List.getElem_mem a);obtain⟨k,f⟩:=LU h.wr.bl (h.wr.nd _ (List.getElem_mem a)) b (by omega) h.wr.r0 g;have c:=(Gc b (by omega)).2.1;exact h.go d i (.Fe j a) (zd (y0 (h.wr.up (R':=R+1) (by omega)) a c k) f) h.bl
end
section
variable{fs:List Int}{e:Bool}{an:List D9}
theorem KN{S:Nat}{R:Int}{B:Nat}{w:en}(h:DJ fs e an S R B w)(n:S+3000<=900000)(k:B<=889):Y (Kh (w,())) (λy=>DJ fs e an (S+3000) R B y.1):=by
 unfold Kh;refine Y.DZ (P:=λ(v:Int×en)=>DJ fs e an (S+3000) R B v.2) (R:=λ_=>False) (Y.loop (I:=λ(v:Int×en)=>0<=v.1/\v.1<=3000/\DJ fs e an (S+v.1.toNat) R B v.2) (λv=>(3000-v.1).toNat) (λv c=>?_) _ ⟨Int.le_refl _,by omega,h⟩) (λv c=>Y.mk c) (λ_ h=>h.elim);obtain ⟨i,w⟩:=v;obtain ⟨m,j,b⟩:=c;dsimp only at m j b;have d:DJ fs e an (S+3000) R B w:=b.up (by omega) (Int.le_refl _) (Nat.le_refl _);unfold Kh.b0;refine Y.DY (λf=>Y.DY (λa=>?_) (λ_=>Y.rl d)) (λ_=>Y.rl d);have f:i<3000:=Cp.1 f;have a:(0:Int)<((ds w).length:Int):=Cp.1 a;have a:0<(ds w).length:=by omega
 have o:cM .i64 i 1=i+1:=ed (by omega) (by omega);refine Y.bind (Ws b.wi (by decide) (by omega) _ rfl rfl a) λg l=>Y.l ⟨⟨?_,?_,?_⟩,?_⟩;·grind
 ·grind
 ·show DJ fs e an (S+(cM .i64 i 1).toNat) R B g.2.1;rw[l];exact (b.sX (by omega) k a).up (by omega) (Int.le_refl _) (Nat.le_refl _)
 grind
end
end Go.Proofs.YthjkikiepdnimaaGreat
