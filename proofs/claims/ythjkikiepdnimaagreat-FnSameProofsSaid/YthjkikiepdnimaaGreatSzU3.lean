/- Plain laws, part 3: what the program's functions and the reference's compute, told as plain words. Conditions: none. -/
import Derived.Test.YthjkikiepdnimaaGreatSzU2
set_option linter.unusedVariables false
set_option linter.unusedSimpArgs false
set_option linter.constructorNameAsVariable false
namespace Go.Proofs.YthjkikiepdnimaaGreat
open Go Go.Tm
set_option maxRecDepth 100000
def U7(n:a0)(a:ByteArray)(r:Int)(q:j8)(ki:List cl):a0:=(a,(n.2.1,(n.2.2.1,(n.2.2.2.1,(n.2.2.2.2.1,(n.2.2.2.2.2.1,(r,(n.2.2.2.2.2.2.2.1,(q.1,(q.2.1,(q.2.2.1,(n.2.2.2.2.2.2.2.2.2.2.2.1,(n.2.2.2.2.2.2.2.2.2.2.2.2.1,(n.2.2.2.2.2.2.2.2.2.2.2.2.2.1,(n.2.2.2.2.2.2.2.2.2.2.2.2.2.2.1,(n.2.2.2.2.2.2.2.2.2.2.2.2.2.2.2.1,(n.2.2.2.2.2.2.2.2.2.2.2.2.2.2.2.2.1,(n.2.2.2.2.2.2.2.2.2.2.2.2.2.2.2.2.2.1,(ki,(n.2.2.2.2.2.2.2.2.2.2.2.2.2.2.2.2.2.2.2.1,()))))))))))))))))))))
theorem R3{n:a0}(h:I4 n){b:ByteArray}{r:Int}{q:j8}{ki:List cl}(e:Al b.size)(f:(Lit.int .i64 r).wf=true)(a:FP q)(d:(Ty.sl i3).Ok ki)(c:W1 ki.length):I4 (U7 n b r q ki):=by have o:=h.ok;have l:=h.l;refine⟨⟨e,o.2.1,o.2.2.1,o.2.2.2.1,o.2.2.2.2.1,o.2.2.2.2.2.1,f,o.2.2.2.2.2.2.2.1,a.i1,a.i2,a.ok,o.2.2.2.2.2.2.2.2.2.2.2.1,o.2.2.2.2.2.2.2.2.2.2.2.2.1,o.2.2.2.2.2.2.2.2.2.2.2.2.2.1,o.2.2.2.2.2.2.2.2.2.2.2.2.2.2.1,o.2.2.2.2.2.2.2.2.2.2.2.2.2.2.2.1,o.2.2.2.2.2.2.2.2.2.2.2.2.2.2.2.2.1,o.2.2.2.2.2.2.2.2.2.2.2.2.2.2.2.2.2.1,d,o.2.2.2.2.2.2.2.2.2.2.2.2.2.2.2.2.2.2.2.1,trivial⟩,?_,h.t,h.d,h.p⟩;exact⟨l.1,l.2.1,l.2.2.1,l.2.2.2.1,a.w,l.2.2.2.2.2.1,l.2.2.2.2.2.2.1,l.2.2.2.2.2.2.2.1,l.2.2.2.2.2.2.2.2.1,l.2.2.2.2.2.2.2.2.2.1,c,l.2.2.2.2.2.2.2.2.2.2.2.1,l.2.2.2.2.2.2.2.2.2.2.2.2⟩
theorem R4{E S:Nat}{w:ek}(h:WI E S w)(hE:E<890)(an:aa w≠[])(az:c8 w≠[])(c:Nh)(hc:vc c)(av:∀n∈aa w,0<=ad n/\ad n<=100000/\(bb n).length<=12):Y (MQ (c,(w,()))) (λy=>Uj y.1/\FR w y.1/\vc y.2.1/\y.2.1.1=c.1/\y.2.2.1=w):=by
 have aj:(0:Int)<((aa w).length:Int):=by have :=List.length_pos_iff.2 an;omega
 have ω:(0:Int)<((c8 w).length:Int):=by have :=List.length_pos_iff.2 az;omega
 have aK:=h.bl;unfold MQ;refine Y.bind (ke c _ hc) λμ u=>?_;have aO:=u.2.1 aj;obtain⟨j,ρ⟩:=Int.eq_ofNat_of_zero_le u.1;have M:j<(aa w).length:=by grind
 have σ:bK (aa w) μ.1.1=some (aa w)[j]:=by rw[ρ];exact cB M
 have m:aC (aa w) (Int.toNat μ.1.1)=some (aa w)[j]:=by rw[ρ];exact qn M
 have g:(aa w)[j]∈aa w:=List.getElem_mem M;refine Y.eq σ (Y.eq m ?_);generalize (aa w)[j]=n at σ m g;obtain⟨z,aI⟩:=h.nd n g;obtain⟨ao,ψ,aB⟩:=av n g;have d:=z.v.h.ok;have O:=z.v.h.l;have U:=d.D7 O;refine Y.bind (ke _ _ u.2.2.2.1) λy3 K=>?_;refine Y.bind (Y.gi (xs:=c8 w) (Q:=λx=>x∈c8 w) K.1 (K.2.1 ω) λ_ h=>h) λo au=>?_;have B:Al o.1.size:=(Ae h.fo.2 au).1;refine Y.bind (ke _ _ K.2.2.2.1) λX W=>?_;have aq:X.2.1.1=c.1:=W.2.2.2.2.trans (K.2.2.2.2.trans u.2.2.2.2);have aG:=W.2.1 (by decide);have e7:gS .i64 (ad n) X.1.1=ad n-X.1.1:=iz (by omega) (by omega);refine Y.DZ (P:=λv=>(Lit.int .i64 v.1).wf=true/\(v.1<=1\/v.1<=ad n)) (R:=λ_=>False) (Y.DY (λ_=>Y.l ⟨rfl,.inl (Int.le_refl _)⟩) (λ_=>Y.l ⟨Dm _ _,.inr ?_⟩)) (λv6 κ=>?_) (λ_ h=>h.elim);·grind
 refine Y.DZ (P:=λv=>vc (v.1,(v.2.1,(v.2.2.1,())))/\v.1=c.1/\Uj (U6 n.1 n.2.1 v)/\FR w (U6 n.1 n.2.1 v)) (R:=λ_=>False) ?_ (λv f=>Y.mk ⟨f.2.2.1,f.2.2.2,f.1,f.2.1,rfl⟩) (λ_ h=>h.elim);refine Y.bind (ke _ _ W.2.2.2.1) λy8 L=>?_;have l:y8.2.1.1=c.1:=L.2.2.2.2.trans aq;refine Y.DZ (P:=λ_=>True) (R:=λ_=>False) (Y.DY (λ_=>Y.l trivial) (λ_=>Y.l trivial)) (λv9 _=>?_) (λ_ h=>h.elim);refine Y.DY (λ_=>?_) (λ_=>Y.DY (λ_=>?_) (λ_=>?_))
 · have ai:cM .i64 ((ab w).length:Int) 1=((ab w).length:Int)+1:=ed (by omega) (by omega);refine Y.bind (ke _ _ L.2.2.2.1) λγ q=>?_;have τ:γ.1.1<cM .i64 ((ab w).length:Int) 1:=q.2.1 (by grind);rw[ai]at τ;have ae:(Lit.int .i64 γ.1.1).wf=true:=DX (by omega) (by omega);refine Y.DY (λT=>?_) (λ_=>Y.l ⟨q.2.2.2.1,q.2.2.2.2.trans l,IE rfl d.1 d.2.1 (λb a=>by cases a) (Nat.zero_le _) κ.1 ae B rfl rfl (Nat.zero_le _) rfl rfl CK (Nat.zero_le _),⟨(by show (2:Int)≠4;decide),n,g,?_,.inl rfl,λb a=>by cases a⟩⟩)
   · have T:(0:Int)<((ar n).length:Int):=Cp.1 T;have aL:=z.v.h.t.K4;refine Y.bind (ke _ _ q.2.2.2.1) λp G=>Y.ff rfl ?_;have aD:p.1.1<((ar n).length:Int):=G.2.1 T;have φ:=G.1;have eq:AV .i64 p.1.1 2=p.1.1/2:=by unfold AV;rw[Int.tdiv_eq_ediv_of_nonneg φ,nU (by omega) (by omega)]
     have es:gS .i64 ((ar n).length:Int) 1=((ar n).length:Int)-1:=iz (by omega) (by omega);have aJ:gS .i64 (((ar n).length:Int)-1) (p.1.1/2)=((ar n).length:Int)-1-p.1.1/2:=iz (by omega) (by omega);refine Y.gT (xs:=ar n) (by grind) (by grind) λb a=>Y.l ?_;have π:j7.Ok b:=Ae d.kB.2 a;exact⟨G.2.2.2.1,G.2.2.2.2.trans (q.2.2.2.2.trans l),IE rfl d.1 d.2.1 (λb a=>by cases a) (Nat.zero_le _) π.2.2.1 π.1 B rfl rfl (Nat.zero_le _) rfl rfl CK (Nat.zero_le _),⟨(by show (2:Int)≠4;decide),n,g,.inr (.inr ⟨b,a,rfl⟩),.inl rfl,λb a=>by cases a⟩⟩
   · rcases κ.2 with h|h;· exact .inl h
     · exact .inr (.inl h)
 ·refine Y.eq (EK (bx n) U.w) ?_;refine Y.DZ (P:=λv=>vc (v.1,(v.2.1,(v.2.2.1,())))/\v.1=c.1/\FP ((v.2.2.2.1,(v.2.2.2.2.1,(v.2.2.2.2.2.1,()))):j8)) (R:=λ_=>False) (Y.bind (EN _ _ L.2.2.2.1) λaA e=>Y.DY (λ_=>Y.l ⟨e.1,e.2.trans l,FP.G0⟩) (λ_=>Y.l ⟨e.1,e.2.trans l,U⟩)) (λv f=>Y.l ?_) (λ_ h=>h.elim);obtain ⟨V,J,i⟩:=f;exact ⟨V,J,IE rfl d.1 d.2.1 (λb a=>by cases a) (Nat.zero_le _) rfl rfl (Nat.zero_le _) z.v.h.round i.i1 B i.i1 i.i2 i.ok i.w,⟨(by show (3:Int)≠4;decide),n,g,.inl (by show (0:Int)<=1;decide),.inr rfl,λb a=>by cases a⟩⟩
 · refine Y.eq m (Y.eq m (Y.eq m (Y.eq m (Y.eq (T0 n O) ?_))));refine Y.DZ (P:=λv=>vc (v.1,(v.2.1,(v.2.2.1,())))/\v.1=c.1/\FP ((v.2.2.2.1,(v.2.2.2.2.1,(v.2.2.2.2.2.1,()))):j8)) (R:=λ_=>False) (Y.bind (EN _ _ L.2.2.2.1) λaA e=>Y.DY (λ_=>Y.l ⟨e.1,e.2.trans l,FP.G0⟩) (λ_=>Y.l ⟨e.1,e.2.trans l,U⟩)) (λN ak=>?_) (λ_ h=>h.elim);obtain ⟨V,J,i⟩:=ak;refine Y.DZ (P:=λv=>vc (v.1,(v.2.1,(v.2.2.1,())))/\v.1=c.1/\(Ty.sl i3).Ok v.2.2.2.1/\W1 (List.length v.2.2.2.1)) (R:=λ_=>False) (Y.bind (EN _ _ V) λaN F=>Y.DY (λ_=>Y.bind (R2 _ 3 F.1 (by decide)) λaH C=>Y.l ⟨C.2.2.1,C.2.2.2.trans (F.2.trans J),C.1,Nat.le_trans C.2.1 (by decide)⟩) (λ_=>Y.l ⟨F.1,F.2.trans J,d.ki,O.2.2.2.2.2.2.2.2.2.2.1⟩)) (λε ah=>?_) (λ_ h=>h.elim);obtain ⟨p1,p2,p3,p4⟩:=ah;refine Y.DZ (P:=λv=>vc (v.1,(v.2.1,(v.2.2.1,())))/\v.1=c.1/\(Lit.int .i64 v.2.2.2.1).wf=true/\v.2.2.2.1<=ad n+((bb n).length:Int)) (R:=λ_=>False) (Y.loop (I:=λv=>vc (v.1,(v.2.1,(v.2.2.1,())))/\v.1=c.1/\ad n<=v.2.2.2.1/\v.2.2.2.1<=100000/\(ad n<v.2.2.2.1->Ff (bb n) o.1=true)/\∀s,ad n<=s->s<v.2.2.2.1->oj (bb n) s≠o.1) (λv=>(9990-v.2.2.2.1).toNat) (λv f=>?_) _ ⟨p1,p2,Int.le_refl _,ψ,λh=>absurd h (Int.lt_irrefl _),λs u h2=>absurd h2 (by grind)⟩) (λaw al=>?_) (λ_ h=>h.elim)
   · obtain ⟨b0,aM,aP,r,aQ⟩:=v;obtain ⟨t,k,af,ag,α,δ⟩:=f;dsimp only at t k af ag α δ;have A:(Lit.int .i64 r).wf=true/\r<=ad n+((bb n).length:Int):=by
      refine ⟨DX (by omega) (by omega),?_⟩;rcases Int.lt_or_le (ad n) r with H|aE;· exact L7 ao (α H) δ
      · omega
     unfold MQ.b0;refine Y.DY (λH=>?_) (λ_=>Y.rl ⟨t,k,A⟩);have H:r<9990:=Cp.1 H;refine Y.eq (sm (bb n) r) (Y.DY (λθ=>?_) (λ_=>Y.rl ⟨t,k,A⟩));have θ:ko (oj (bb n) r) o.1=false:=by grind
     refine Y.eq (GQ (bb n) o.1 d.set.1) (Y.DY (λay=>?_) (λ_=>Y.rl ⟨t,k,A⟩));refine Y.bind (EN _ _ t) λaF D=>Y.DY (λ_=>Y.l ?_) (λ_=>Y.rl ⟨D.1,D.2.trans k,A⟩);have e1:cM .i64 r 1=r+1:=ed (by omega) (by omega);refine ⟨⟨D.1,D.2.trans k,?_,?_,λ_=>ay,λs s1 Z=>?_⟩,?_⟩;· grind
     · grind
     · have Z:s<cM .i64 r 1:=Z;rw[e1]at Z;rcases Int.lt_or_le s r with h|h;· grind
       · have :s=r:=by omega
         rw[this];exact WT.1 θ
     grind
   · obtain ⟨r1,r2,r3,r4⟩:=al;have ax:=B7 (n:=(ab w).length) (by omega);have β:=R3 z.v.h (ki:=ε.2.2.2.1) B r3 i p3 p4;obtain ⟨m1,m2⟩:=sv β ax;refine Y.eq (N7 (U7 n o.1 aw.2.2.2.1 (N.2.2.2.1,(N.2.2.2.2.1,(N.2.2.2.2.2.1,()))) ε.2.2.2.1) ((ab w).length:Int) β) (Y.l ⟨r1,r2,IE rfl d.1 d.2.1 (λb a=>?_) (Nat.le_refl _) rfl rfl (Nat.zero_le _) rfl rfl (Nat.zero_le _) rfl rfl CK (Nat.zero_le _),⟨(by show (1:Int)≠4;decide),n,g,.inl (by show (0:Int)<=1;decide),.inl rfl,λb a=>?_⟩⟩);· grind
     · rw[List.mem_singleton.1 a];exact r4
theorem L8{l:List cl}:sT l=true↔(∀t∈l,NG t=true)/\l.Pairwise (λa b=>rS a b=true)/\l.length<=20:=by
 unfold sT;rw[Bool.and_eq_true];constructor
 · rintro⟨d,e⟩;have k:=Pb d;refine⟨λt g=>?_,?_,by have :=Cq.1 e;omega⟩;· obtain⟨i,c,rfl⟩:=List.getElem_of_mem g;have :=xJ d i c;unfold H9 at this;grind
   · rw[List.pairwise_iff_getElem];intro i j c h f;exact k i j _ _ (List.getElem?_eq_getElem c) (List.getElem?_eq_getElem h) f
 · rintro⟨d,e,m⟩;refine⟨wc (λi c=>?_),Cq.2 (by omega)⟩;unfold H9;rw[Bool.and_eq_true,Nat.zero_add];refine⟨d _ (List.getElem_mem c),?_⟩;match i,c with|0,_=>rfl|j+1,c=>rw[mz (lt:=rS) (xs:=l) (j:=j) (y:=l[j+1]) (by omega)];rw[List.pairwise_iff_getElem]at e;grind
theorem Hn{l:List cl}(p:cl->Bool)(h:sT l=true):sT (l.filter p)=true:=by obtain⟨a,c,d⟩:=L8.1 h;exact L8.2 ⟨λt b=>a t (List.mem_filter.1 b).1,c.filter p,Nat.le_trans (List.length_filter_le _ _) d⟩
structure Ob(R:Int)(bl:List ao)(p:tB)(k:Nat):Prop where
 ep:p.1=(k:Int)ne:i5 p≠[]bs:∀b∈i5 p,b∈bl/\b.2.1=p.1
 le:(i5 p).length<=400
 q:He (pQ p) 10000 100000=true
 r:(pQ p).1<=R
structure NR(R:Int)(bl:List ao)(n:a0):Prop where
 nm:fk n.1=true
 rd:1<=ad n/\ad n<=R+1
 vo:0<=fr n/\fr n<=ad n
 ld:0<=LB n/\LB n<=ad n
 hq:uf (bb n) (bx n)=true
 hr:(bx n).1<ad n
 tq:FO (bb n) (Fj n)=true
 tr:(Fj n).1<ad n
 vt:∀v∈ei n,v.1<=R
 gn:∀g∈eD n,g.1<=R
 kB:Fi (ar n)=true
 K5:∀b∈ar n,b∈bl/\b.2.1=n.2.1
 ki:sT (l9 n)=true
 set:bb n=[]\/pv (bb n)=true
 IF:∀x∈nx n,0<=x.1/\x.1<(bl.length:Int)c5:∀(k:Nat) (p:tB),(bk n)[k]?=some p->Ob R bl p k
theorem Ob.mono{R R':Int}{bl a:List ao}{p:tB}{k:Nat}(h:Ob R bl p k)(e:R<=R')(d:∀b∈bl,b∈a):Ob R' a p k:=⟨h.ep,h.ne,λb c=>⟨d b (h.bs b c).1,(h.bs b c).2⟩,h.le,h.q,Int.le_trans h.r e⟩
theorem NR.mono{R R':Int}{bl a:List ao}{n:a0}(h:NR R bl n)(c:R<=R')(d:∀b∈bl,b∈a)(m:bl.length<=a.length):NR R' a n:=⟨h.nm,⟨h.rd.1,by have :=h.rd.2;omega⟩,h.vo,h.ld,h.hq,h.hr,h.tq,h.tr,λv l=>Int.le_trans (h.vt v l) c,λg j=>Int.le_trans (h.gn g j) c,h.kB,λb e=>⟨d b (h.K5 b e).1,(h.K5 b e).2⟩,h.ki,h.set,λx f=>⟨(h.IF x f).1,by have :=(h.IF x f).2;omega⟩,λk p i=>(h.c5 k p i).mono c d⟩
structure BR(R:Int)(bl:List ao):Prop where
 Fs:∀(i:Nat)(hi:i<bl.length),bl[i].1=(i:Int)kp:∀b∈bl,hu b=true
 rd:∀b∈bl,b.2.2.1<=R
theorem BR.lt{R:Int}{bl:List ao}(h:BR R bl){b:ao}(c:b∈bl):0<=b.1/\b.1<(bl.length:Int):=by obtain⟨i,a,rfl⟩:=List.getElem_of_mem c;have :=h.Fs i a;omega
theorem BR.Fg{R:Int}{bl:List ao}(h:BR R bl){a b:ao}(f:a∈bl)(c:b∈bl)(e:a.1=b.1):a=b:=by obtain⟨i,g,rfl⟩:=List.getElem_of_mem f;obtain⟨j,d,rfl⟩:=List.getElem_of_mem c;have k:=h.Fs i g;have l:=h.Fs j d;grind
theorem p5{q:j8}(h:kf q=true):q.1=0/\q.2.1=-1/\List.length q.2.2.1=0:=by unfold kf at h;simp_all[D9,gA,Cr]
theorem s9{t:sM}(h:rf t=true):t.1=0/\List.length t.2.1=0/\List.length t.2.2.1=0:=by unfold rf at h;simp_all[D9,D3,gA,Cr]
theorem KU{l:List ds}{q:j8}(h:uf l q=true):0<=q.1/\q.1<=10000:=by
 unfold uf at h;simp only[Bool.or_eq_true,Bool.and_eq_true]at h;rcases h with h|h;·simp_all[D9,p5]
 ·have :=gx.1 h.1;omega
theorem KV{l:List ds}{q:j8}(h:uf l q=true):He q 10000 100000=true:=by unfold uf at h;unfold He;grind
theorem WX{l:List ds}{t:sM}(h:FO l t=true):0<=t.1/\t.1<=10000:=by
 unfold FO at h;simp only[Bool.or_eq_true,Bool.and_eq_true]at h;rcases h with h|h;·have :=(s9 h).1;omega
 ·have :=gx.1 h.1;omega
theorem Um{l:List ds}{t:sM}(h:FO l t=true):JC t 10000=true:=by unfold FO at h;unfold JC;grind
theorem R5{q:j8}{r i:Int}(h:He q r i=true):0<=q.1/\(q.1<=r\/q.1=0):=by
 unfold He at h;simp only[Bool.or_eq_true,Bool.and_eq_true]at h;rcases h with h|h;·simp_all[D9,p5]
 ·have :=gx.1 h.1;omega
theorem WY{t:sM}{r:Int}(h:JC t r=true):0<=t.1/\(t.1<=r\/t.1=0):=by
 unfold JC at h;simp only[Bool.or_eq_true,Bool.and_eq_true]at h;rcases h with h|h;·have :=(s9 h).1;omega
 ·have :=gx.1 h.1;omega
theorem Gw{l:List ds}:uf l ((0,(-1,([],()))):j8)=true:=rfl
theorem Gx{l:List ds}:FO l ((0,([],([],()))):sM)=true:=rfl
theorem Oc{r x:Int}(a:0<=x)(b:x<=10000):Ju r x=if r<x+1 then x+1 else r:=by grind[Ju,dO,cM,ed,Cp,Au]
theorem R6{R:Int}{bl:List ao}{n:a0}{q:j8}(h:NR R bl n)(d:uf (bb n) q=true)(k:q.1<=R):NR R bl (ma n q):=by
 have b:=KU d;have f:ad (ma n q)=if ad n<q.1+1 then q.1+1 else ad n:=Oc b.1 b.2;have i:ad n<=ad (ma n q):=by omega
 have j:q.1<ad (ma n q):=by omega
 have g:ad (ma n q)<=R+1:=by rw[f];have :=h.rd.2;omega
 have c:bx (ma n q)=zd n q:=rfl;have a:zd n q=q\/zd n q=bx n:=by unfold zd;grind
 refine⟨h.nm,⟨by omega,g⟩,⟨h.vo.1,by have :=h.vo.2;show fr n<=_;omega⟩,⟨h.ld.1,by have :=h.ld.2;show LB n<=_;omega⟩,?_,?_,h.tq,by have :=h.tr;show (Fj n).1<_;omega,h.vt,h.gn,h.kB,h.K5,h.ki,h.set,h.IF,h.c5⟩
 · rw[c];rcases a with e|e<;>rw[e];· exact d
   · exact h.hq
 · rw[c];rcases a with e|e<;>rw[e];· omega
   · have :=h.hr;omega
theorem Fa{x:D3}:∀{a d:List D3},x∈i4 d a->x∈d\/x∈a
 |[],d,h=>.inl h|y::r,d,h=>by
  have c:i4 d (y::r)=i4 (sU d y.1) r:=rfl;rw[c]at h;rcases Fa h with b|b;·unfold sU at b;grind
  grind
theorem Np{R:Int}{bl:List ao}{n:a0}{q:j8}(i:BR R bl)(h:NR R bl n)(s:NW n)(S:n.2.1<890)(M:0<=R)(I:He q 10000 100000=true)(G:q.1<=R):NR R bl (ks n q):=by
 have d:il (ar n):=JI h.kB;have O:=s.e0;have t:∀(o:List ao),(∀b∈o,b∈ar n)->∀x∈i4 (nx n) (ic o),0<=x.1/\x.1<(bl.length:Int):=λo g x H=>by
  rcases Fa H with j|j;·exact h.IF x j
  ·unfold ic at j;obtain⟨b,C,rfl⟩:=List.mem_map.1 j;exact i.lt (h.K5 b (g b C)).1
 rcases w0 n.2.1.toNat n.2.1.toNat n q s.v (by omega)with⟨_,e⟩|⟨B,⟨_,e⟩|⟨p,b,r,K,N,Q,J,e,m⟩⟩;·grind
 ·rw[e];exact⟨h.nm,h.rd,h.vo,h.ld,h.hq,h.hr,h.tq,h.tr,h.vt,h.gn,h.kB,h.K5,Hn _ h.ki,h.set,t _ (λb i=>k9 d _ b i),h.c5⟩
 · rw[e];obtain⟨P,A,z,_⟩:=Fm B;have F:=KT (i.kp b (h.K5 b J).1);have y:pv (j9 b)=true:=by have :=F.bo;unfold H7 at this;grind
   have D:∀c∈p++[b],c∈ar n:=λc w=>k9 d _ c (by rw[K];grind);refine⟨h.nm,⟨Int.le_refl _,by show (1:Int)<=R+1;omega⟩,⟨Int.le_refl _,by show (0:Int)<=1;decide⟩,⟨Int.le_refl _,by show (0:Int)<=1;decide⟩,Gw,by show (0:Int)<1;decide,Gx,by show (0:Int)<1;decide,(λv f=>by cases f),(λv f=>by cases f),rfl,(λv f=>by cases f),Hn _ h.ki,.inr y,t _ D,λk u a=>?_⟩;have a:(bk n++[B2 n q])[k]?=some u:=a;rcases Nat.lt_or_ge k (bk n).length with l|l;· rw[List.getElem?_append_left l]at a;grind[NR.c5]
   · rw[List.getElem?_append_right l]at a;have E:k-(bk n).length=0:=by grind
     rw[E]at a;have a:B2 n q=u:=by grind
     subst a;have L:=s.pa;have g:=Iq d q.2.1;refine⟨?_,?_,λc w=>h.K5 c (g.subset w),Nat.le_trans g.length_le d.K4,I,G⟩;· show n.2.1=(k:Int);omega
     · show ct (ar n) q.2.1≠[];rw[<-z,kk d A];simp
theorem EV{R:Int}{bl:List ao}{n:a0}{q:j8}(f:BR R bl)(h:NR R bl n)(a:NW n)(e:n.2.1<890)(d:0<=R)(i:FP q)(c:uf (bb n) q=true)(b:q.1<=R):NR R bl (df n q):=by have g:NW (ma n q):=NW.Qf (Gk a.v i) a.e0 a.pa;exact Np f (R6 h c b) g e d (KV c) b
theorem Nq{R:Int}{bl:List ao}{n:a0}{t:sM}(h:NR R bl n)(c:FO (bb n) t=true)(k:t.1<=R):NR R bl (KK n t):=by
 have a:=WX c;have f:ad (KK n t)=if ad n<t.1+1 then t.1+1 else ad n:=Oc a.1 a.2;have i:ad n<=ad (KK n t):=by omega
 have j:t.1<ad (KK n t):=by omega
 have g:ad (KK n t)<=R+1:=by rw[f];have :=h.rd.2;omega
 have d:Fj (KK n t)=Pn n t:=rfl;have b:Pn n t=t\/Pn n t=Fj n:=by unfold Pn;grind
 refine⟨h.nm,⟨by omega,g⟩,⟨h.vo.1,by have :=h.vo.2;show fr n<=_;omega⟩,⟨h.ld.1,by have :=h.ld.2;show LB n<=_;omega⟩,h.hq,by have :=h.hr;show (bx n).1<_;omega,?_,?_,h.vt,h.gn,h.kB,h.K5,h.ki,h.set,h.IF,h.c5⟩
 · rw[d];rcases b with e|e<;>rw[e];· exact c
   · exact h.tq
 · rw[d];rcases b with e|e<;>rw[e];· omega
   · have :=h.tr;omega
theorem Nr{R:Int}{bl:List ao}{n:a0}{t:List ao}(h:NR R bl n)(a:Fi t=true)(c:∀b∈t,b∈bl/\b.2.1=n.2.1):NR R bl (kA n t):=⟨h.nm,h.rd,h.vo,h.ld,h.hq,h.hr,h.tq,h.tr,h.vt,h.gn,a,c,h.ki,h.set,h.IF,h.c5⟩
theorem L9{R:Int}{bl:List ao}{n:a0}{t:List tb}(h:NR R bl n)(a:∀v∈t,v.1<=R):NR R bl (C5 n t):=⟨h.nm,h.rd,h.vo,h.ld,h.hq,h.hr,h.tq,h.tr,a,h.gn,h.kB,h.K5,h.ki,h.set,h.IF,h.c5⟩
theorem Ma{R:Int}{bl:List ao}{n:a0}{t:List pf}(h:NR R bl n)(a:∀v∈t,v.1<=R):NR R bl (Ep n t):=⟨h.nm,h.rd,h.vo,h.ld,h.hq,h.hr,h.tq,h.tr,h.vt,a,h.kB,h.K5,h.ki,h.set,h.IF,h.c5⟩
theorem Mb{R:Int}{bl:List ao}{n:a0}{v:Int}(h:NR R bl n)(a:0<=v)(b:v<=ad n):NR R bl (pn n v):=⟨h.nm,h.rd,⟨a,b⟩,h.ld,h.hq,h.hr,h.tq,h.tr,h.vt,h.gn,h.kB,h.K5,h.ki,h.set,h.IF,h.c5⟩
theorem PK{R:Int}{bl:List ao}{n:a0}{v:Int}(h:NR R bl n)(a:0<=v)(b:v<=ad n):NR R bl (n7 n v):=⟨h.nm,h.rd,h.vo,⟨a,b⟩,h.hq,h.hr,h.tq,h.tr,h.vt,h.gn,h.kB,h.K5,h.ki,h.set,h.IF,h.c5⟩
theorem Mc{R:Int}{bl:List ao}{n:a0}{q:List cl}(h:NR R bl n)(a:sT q=true):NR R bl (Es n q):=⟨h.nm,h.rd,h.vo,h.ld,h.hq,h.hr,h.tq,h.tr,h.vt,h.gn,h.kB,h.K5,a,h.set,h.IF,h.c5⟩
theorem Od{R:Int}{bl:List ao}{n:a0}{b:ao}(l:BR R bl)(h:NR R bl n)(r:NW n)(q:n.2.1<890)(s:0<=R)(t:b∈bl)(j:j7.Ok b)(i:dT b):NR R bl (cf n b):=by unfold cf;cases p:p7 n b with|false=>exact h|true=>
 have f:=N3 r.v.h.t p;have o:=KT f.kp;have B:=l.rd b t;have C:=o.rd;have y:gS .i64 b.2.2.1 1=b.2.2.1-1:=iz (by omega) (by omega);have x:=R5 o.qc;have w:=WY o.tc;rw[y]at x w;obtain⟨A,E,z⟩:=EO r j i q p;obtain⟨k,D⟩:=EP r j i q p;have d:NR R bl (kA n (qm (ar n) b)):=Nr h f.tr (λc g=>by
 rcases zs.1 g with d|d;·exact h.K5 c d
 ·rw[d];exact⟨t,f.ep⟩);have u:NR R bl (n8 n b):=EV l d A q s (En.D7 j i) f.qc (by omega);have a:NR R bl (j4 n b):=by unfold j4;cases m:gA (n8 n b).2.1 n.2.1 with|false=>exact u|true=>
  have m:=Cr.1 m;have v:bb (n8 n b)=bb n:=by
   rcases z.a.ca with⟨_,_,e⟩|e;·exact e
   ·omega
  exact Nq u (by rw[v];exact f.tc) (by omega)
 unfold A6;cases g:(gA (j4 n b).2.1 n.2.1&&gA (bx (j4 n b)).2.1 b.1) with|false=>exact a|true=>simp only[Bool.and_eq_true]at g;have m:=Cr.1 g.1;exact EV l a k (by omega) s (k.v.h.ok.D7 k.v.h.l) a.hq (by have :=a.hr;have :=a.rd.2;omega)
theorem l5{l:List ds}(h:l=[]\/pv l=true):(∀v∈l,fk v.1=true/\1<=v.2.1/\v.2.1<=1000000)/\l.length<=12:=by
 rcases h with rfl|h;·grind
 ·unfold pv at h;simp only[Bool.and_eq_true]at h;refine⟨λv b=>?_,by have :=gx.1 h.2;omega⟩;obtain⟨i,a,rfl⟩:=List.getElem_of_mem b;have :=xJ h.1 i a;unfold KC at this;simp only[Bool.and_eq_true]at this;exact⟨this.1,gx.1 this.2.1⟩
theorem R7{c name:ByteArray}{r b a d:Int}(e:fk c=true)(f:0<=a/\a<=900)(i:1<=r/\r<=10000)(g:0<=b/\b<=100000)(l:fk name=true):EB (C6 (A8 name r b d) c a)=true:=by
 have h:Di a 0 900=true:=gx.2 f;have k:Di r 1 10000=true:=gx.2 i;have m:Di b 0 100000=true:=gx.2 g;have j:TX (C6 (A8 name r b d) c a)=true:=by grind[TX,C6,A8,Di,fk]
 unfold EB;show (fk c&&(Di a 0 900&&(true&&(true&&((true&&true)&&(true&&(TX (C6 (A8 name r b d) c a)&&(U0 (C6 (A8 name r b d) c a)&&(true&&true)))))))))=true;rw[e,h,j];show (ko ⟨#[]⟩ ⟨#[]⟩&&true)=true;rw[xD];rfl
theorem R8{n:a0}{b:ByteArray}{a d:Int}(c:fk b=true)(f:0<=a/\a<=900)(j:1<=ad n/\ad n<=10000)(h:0<=(bx n).1/\(bx n).1<ad n)(k:He (bx n) 10000 100000=true)(l:fk n.1=true):EB (C6 (E7 n d) b a)=true:=by
 have g:Di a 0 900=true:=gx.2 f;have i:Di (ad n) 1 10000=true:=gx.2 j;have e:gS .i64 (ad n) 1=ad n-1:=iz (by omega) (by omega);have m:Di (bx n).1 0 (gS .i64 (ad n) 1)=true:=by rw[e];exact gx.2 ⟨h.1,by omega⟩
 unfold EB;show (fk b&&(Di a 0 900&&(He (bx n) 10000 100000&&(true&&((true&&true)&&(true&&(((true)&&(true&&ko ⟨#[]⟩ ⟨#[]⟩))&&((Di (ad n) 1 10000&&(Di (bx n).1 0 (gS .i64 (ad n) 1)&&(gA (bx n).1 (bx n).1&&fk n.1)))&&true))))))))=true;rw[c,g,k,i,m,l,xD,nV];rfl
theorem R9{b:ao}{c:ByteArray}{a e:Int}(d:fk c=true)(f:0<=a/\a<=900)(h:hu b=true)(i:b.2.1=a):EB (C6 (ov b e) c a)=true:=by have g:Di a 0 900=true:=gx.2 f;unfold EB;show (fk c&&(Di a 0 900&&(true&&(true&&((((hu b&&gA b.2.1 a)&&true)&&true)&&(true&&((true&&(true&&ko ⟨#[]⟩ ⟨#[]⟩))&&((true&&(true&&ko ⟨#[]⟩ ⟨#[]⟩))&&(true&&true)))))))))=true;rw[d,g,h,i,nV,xD];rfl
theorem J0{d:ByteArray}{a:Int}{c:List ao}{q:j8}{t:sM}(g:fk d=true)(h:0<=a/\a<=900)(e:∀b∈c,hu b=true/\b.2.1=a)(n:c.length<=400)(l:He q 10000 100000=true)(j:JC t 10000=true):EB (Gp d a c q t)=true:=by
 have i:Di a 0 900=true:=gx.2 h;have k:Fk c a=true:=by unfold Fk;rw[List.all_eq_true];intro b f;rw[(e b f).1,(e b f).2,nV];rfl
 have m:km (c.length:Int) 400=true:=Cq.2 (by omega);unfold EB;show (fk d&&(Di a 0 900&&(He q 10000 100000&&(JC t 10000&&((Fk c a&&km (c.length:Int) 400)&&((true&&(true&&ko ⟨#[]⟩ ⟨#[]⟩))&&(true&&(true&&ko ⟨#[]⟩ ⟨#[]⟩))))))))=true;rw[g,i,k,m,l,j,xD];rfl
structure MR(R:Int)(bl:List ao)(m:gd):Prop where
 ok:EB m=true
 bs:∀b∈l8 m,b∈bl
 v:(HE m).1<=R
 g:(HF m).1<=R
 q:(mQ m).1<=R
 t:(mT m).1<=R
theorem MR.mono{R R':Int}{bl c:List ao}{m:gd}(h:MR R bl m)(a:R<=R')(d:∀b∈bl,b∈c):MR R' c m:=⟨h.ok,λb e=>d b (h.bs b e),Int.le_trans h.v a,Int.le_trans h.g a,Int.le_trans h.q a,Int.le_trans h.t a⟩
theorem IG{R:Int}{bl:List ao}{a:List ds}{name:ByteArray}{m:gd}{b:Int}(h:∀v∈a,MR R bl (C6 m v.1 b)):∀x∈mu a name m b,MR R bl x:=by intro x c;unfold mu at c;grind
theorem Me{l:List tb}{v x:tb}(h:x∈qf l v):x∈l\/x=v:=by unfold qf at h;grind
theorem Mf{l:List pf}{v x:pf}(h:x∈sX l v):x∈l\/x=v:=by unfold sX at h;grind
theorem IH{a:List ds}{b:List tb}{r c:Int}(h:sn a b r c=true):uf a (C7 a b r c)=true/\kf (C7 a b r c)=false:=by unfold sn at h;grind
theorem Oe{R:Int}{bl:List ao}{n:a0}{v:tb}(g:BR R bl)(h:NR R bl n)(a:NW n)(l:n.2.1<890)(f:0<=R)(b:Hq.Ok v)(e:v.1<=R):NR R bl (tA n v):=by
 have k:=Gl a.v.vo a.v.h.ok.e8 b;have c:NR R bl (C5 n (qf (ei n) v)):=L9 h (λx m=>by
 rcases Me m with d|d;·exact h.vt x d
 grind);have j:=C9 a k (E8 a.v.vo);unfold tA;cases Ff (bb n) v.2.2.1 with|false=>exact h|true=>cases i:sn (bb n) (qf (ei n) v) v.1 v.2.1 with|false=>exact c|true=>exact EV g c j l f (C8 (bb n) (qf (ei n) v) v.1 v.2.1 a.v.h.ok.set a.v.h.l.2.1 b.1 b.2.1) (IH i).1 e
theorem PL{R:Int}{bl:List ao}{n:a0}{g:pf}(h:NR R bl n)(f:g.1<=R):NR R bl (u3 n g):=by
 have a:NR R bl (Ep n (sX (eD n) g)):=Ma h (λx i=>by
 rcases Mf i with b|b;·exact h.gn x b
 grind);unfold u3;dsimp only;cases d:(s6 (bb n) (sX (eD n) g) g.1).2.1.1 with|false=>exact a|true=>obtain⟨_,c,e⟩:=E6 d;rw[e]at c⊢;exact Nq a c f
theorem Of{R:Int}{bl:List ao}{n:a0}{g:pf}{q:j8}(e:BR R bl)(h:NR R bl n)(j:NW n)(d:n.2.1<890)(c:0<=R)(k:FP q)(f:g.1<=R)(i:q.1<=R):NR R bl (i0 n g q):=by unfold i0;cases b:(Ff (bb n) g.2.2.1&&uf (bb n) q) with|false=>exact h|true=>simp only[Bool.and_eq_true]at b;have a:=EV e h j d c k b.2 i;cases gA (df n q).2.1 n.2.1 with|false=>exact a|true=>exact PL a f
theorem Og{R:Int}{bl:List ao}{n:a0}{b:ao}(d:BR R bl)(h:NR R bl n)(p:NW n)(l:n.2.1<890)(c:0<=R)(e:b∈bl)(a:j7.Ok b)(k:dT b):NR R bl (gk n b).1/\∀m∈(gk n b).2.1,MR R bl m:=by have g:=Od d h p l c e a k;obtain⟨i,y⟩:=ns p a k l;have f:=KT (d.kp b e);have j:=d.rd b e;unfold gk;cases s:A9 n b with|false=>grind|true=>have o:=JQ s;have w:=o.ep;have q:=md i a.2.2.1;have u:NR R bl (pn (cf n b) b.2.2.1):=Mb g (by have :=f.rd.1;omega) (Int.le_of_eq o.rd);refine⟨Oe d u q (by show (cf n b).2.1<890;omega) c ⟨a.2.2.1,a.1,i.v.h.ok.1,trivial⟩ j,IG λv t=>⟨R7 ((l5 g.set).1 v t).1 ⟨i.e0,by omega⟩ f.rd f.id g.nm,(λx r=>by cases r),j,c,c,c⟩⟩
theorem Sa{R:Int}{bl:List ao}{n:a0}{m:gd}(l:BR R bl)(h:NR R bl n)(o:NW n)(x:n.2.1<890)(j:0<=R)(c:FK m)(i:MR R bl m)(t:m.2.2.1=n.2.1):NR R bl (u4 n m):=by
 obtain⟨⟨w,C⟩,⟨D,B⟩,_⟩:=De o c.ok c.l t x;have p:∀(f:List ao)(s:a0),(∀b∈f,b∈bl/\j7.Ok b/\dT b)->NW s->kj n s->NR R bl s->NR R bl (f.foldl (j3 m.2.2.1) s):=by intro f;induction f with|nil=>grind|cons b r E=>
  intro s q e g u;rw[List.foldl_cons];have d:=q b (by simp);have z:NW (j3 m.2.2.1 s b)/\kj n (j3 m.2.2.1 s b)/\NR R bl (j3 m.2.2.1 s b):=by unfold j3;cases a:gA s.2.1 m.2.2.1 with|false=>grind|true=>have a:=Cr.1 a;obtain⟨y,v⟩:=ns e d.2.1 d.2.2 (by omega);exact⟨y,g.trans v (by omega),Od l u e (by omega) j d.1 d.2.1 d.2.2⟩
  simp_all
 have e:NR R bl (qu n m):=p (l8 m) n (λb k=>⟨i.bs b k,c.ok.kp c.l b k⟩) o (kj.gj n) h;have g:NR R bl (FJ n m):=by unfold FJ;cases a:(gA (qu n m).2.1 m.2.2.1&&uf (bb (qu n m)) (mQ m)) with|false=>exact e|true=>simp only[Bool.and_eq_true]at a;have A:=Cr.1 a.1;exact EV l e w (by omega) j (c.ok.D7 c.l) a.2 i.q
 unfold u4;cases a:(gA (FJ n m).2.1 m.2.2.1&&FO (bb (FJ n m)) (mT m)) with|false=>exact g|true=>simp only[Bool.and_eq_true]at a;exact Nq g a.2 i.t
theorem Un{R:Int}{bl:List ao}{n:a0}{m:gd}(f:BR R bl)(h:NR R bl n)(g:NW n)(i:n.2.1<890)(e:0<=R)(a:FK m)(c:MR R bl m)(l:m.2.2.1=n.2.1):NR R bl (fl n m).1/\∀x∈(fl n m).2.1,MR R bl x:=by unfold fl;cases k:gA m.1 1 with
 |true=>have p:=a.pr (Cr.1 k);cases o:l8 m with|nil=>grind|cons b r=>have j:=a.ok.kp a.l b (by grind);exact Og f h g i e (c.bs b (by grind)) j.1 j.2
 |false=>cases gA m.1 2 with|true=>exact⟨Oe f h g i e a.ok.vo c.v,λx d=>by cases d⟩|false=>cases gA m.1 3 with|true=>exact⟨Of f h g i e (a.ok.D7 a.l) c.g c.q,λx d=>by cases d⟩|false=>exact⟨Sa f h g i e a c l,λx d=>by cases d⟩
theorem Mg{R:Int}{bl:List ao}{n:a0}(a:BR R bl)(h:NR R bl n)(c:NW n)(m:n.2.1<890)(q:0<=R)(p:R<=9990):NR (R+1) bl (fa n).1/\∀x∈(fa n).2.1,MR (R+1) bl x:=by have e:BR (R+1) bl:=⟨a.Fs,a.kp,λb k=>by have :=a.rd b k;omega⟩;have j:=h.mono (R':=R+1) (by omega) (λb a=>a) (Nat.le_refl bl.length);have d:=h.rd;unfold fa;cases (Ff (bb n) n.1&&!dO (ad n) (fr n)) with|false=>grind|true=>have i:NR (R+1) bl (pn n (ad n)):=Mb j (by omega) (Int.le_refl _);have f:=h.hr;have g:=KU h.hq;refine⟨Of e i (md c c.v.h.round) m (by omega) (c.v.h.ok.D7 c.v.h.l) d.2 (by omega),IG λv l=>⟨R8 ((l5 h.set).1 v l).1 ⟨c.e0,by omega⟩ ⟨d.1,by omega⟩ ⟨g.1,f⟩ (KV h.hq) h.nm,(λx o=>by cases o),by show (0:Int)<=R+1;omega,d.2,by show (bx n).1<=R+1;omega,by show (0:Int)<=R+1;omega⟩⟩
theorem Oh{R:Int}{bl:List ao}{n:a0}(c:BR R bl)(h:NR R bl n)(f:NW n)(r:n.2.1<890)(A:0<=R)(z:bl.length<=1000):BR (R+1) (bl++(ee n (bl.length:Int)).2.1)/\NR (R+1) (bl++(ee n (bl.length:Int)).2.1) (ee n (bl.length:Int)).1/\∀x∈(ee n (bl.length:Int)).2.2.1,MR (R+1) (bl++(ee n (bl.length:Int)).2.1) x:=by have j:=B7 (n:=bl.length) (by omega);obtain⟨t,o⟩:=sv f.v.h j;unfold ee;cases s:Fo n (bl.length:Int) with|false=>simp only[cond_false,List.append_nil];exact⟨⟨c.Fs,c.kp,λb e=>by have :=c.rd b e;omega⟩,h.mono (by omega) (λb c=>c) (Nat.le_refl _),λx d=>by cases d⟩|true=>
 simp only[cond_true];have l:hu (ie n (bl.length:Int))=true:=by unfold Fo at s;grind
 have k:=h.rd;have g:BR (R+1) (bl++[ie n (bl.length:Int)]):=by
  refine⟨λi B=>?_,λb e=>?_,λb e=>?_⟩
  · rcases Nat.lt_or_ge i bl.length with a|a;· rw[List.getElem_append_left a];grind[BR.Fs]
    · have :i=bl.length:=by grind
      simp_all[ao,ie,D9,D3,cl,ds]
  · rcases List.mem_append.1 e with a|a;· grind[BR.kp]
    grind
  · rcases List.mem_append.1 e with a|a;· have :=c.rd b a;omega
    · rw[List.mem_singleton.1 a];exact k.2
 have a:NR (R+1) (bl++[ie n (bl.length:Int)]) n:=h.mono (by omega) (λb c=>List.mem_append_left _ c) (by grind);have u:=PK a (v:=ad n) (by omega) (Int.le_refl _);obtain⟨w,C⟩:=Og g u (s7 f f.v.h.round) r (by omega) (List.mem_append_right _ (List.mem_cons_self ..)) t o;refine⟨g,w,λx d=>?_⟩;rcases List.mem_append.1 d with d|d;· refine IG (m:=ov (ie n (bl.length:Int)) n.2.1) (λv q=>?_) x d;exact⟨R9 ((l5 h.set).1 v q).1 ⟨f.e0,by omega⟩ l rfl,λy p=>by rw[List.mem_singleton.1 p];grind,by show (0:Int)<=R+1;omega,by show (0:Int)<=R+1;omega,by show (0:Int)<=R+1;omega,by show (0:Int)<=R+1;omega⟩
 grind
theorem D1{R:Int}{bl:List ao}{n:a0}{e:Int}{i:ByteArray}(m:BR R bl)(h:NR R bl n)(q:NW n)(z:n.2.1<890)(d:0<=R)(j:fk i=true)(l:(fz n e i).2.1.1=true):MR R bl (fz n e i).1:=by have u:=h.rd;have w:=h.hr;have r:=h.tr;have x:=q.e0;unfold fz at l⊢;cases f:gA e n.2.1 with|true=>have f:=Cr.1 f;exact⟨J0 j (by omega) (λb a=>⟨m.kp b (h.K5 b a).1,by rw[f];exact (h.K5 b a).2⟩) (JI h.kB).K4 (KV h.hq) (Um h.tq),λb a=>(h.K5 b a).1,d,d,by show (bx n).1<=R;omega,by show (Fj n).1<=R;omega⟩|false=>rw[f]at l;cases o:(bk n).find? (λp=>gA p.1 e)with|none=>grind|some p=>have a:=List.mem_of_find?_eq_some o;have g:=List.find?_some o;have g:p.1=e:=Cr.1 g;obtain⟨k,y,s⟩:=List.getElem_of_mem a;have c:=h.c5 k p (by grind);have v:=q.pa;simp only[cond_false];have t:p.1=(k:Int):=c.ep;exact⟨J0 j (by omega) (λb a=>⟨m.kp b (c.bs b a).1,by rw[<-g];exact (c.bs b a).2⟩) c.le c.q rfl,λb a=>(c.bs b a).1,d,d,c.r,d⟩
structure PM(an:List D9)(nodes:List a0):Prop where
 nf:∀n∈nodes,j0 an n.1=false
 up:∀(i j:Nat)(hi:i<nodes.length)(hj:j<nodes.length),i<j->ob nodes[i].1 nodes[j].1=true
structure WR(R:Int)(w:ek):Prop where
 r0:0<=R
 b0:w.1=0
 fo:mm (c8 w)=true
 bl:BR R (ab w)nd:∀n∈aa w,NR R (ab w) n
 nm:PM (c8 w) (aa w)A1:∀m∈dt w,MR R (ab w) m
theorem PM.set{an:List D9}{a:List a0}(h:PM an a){j:Nat}(g:j<a.length){n:a0}(e:n.1=a[j].1):PM an (a.set j n):=by
 have d:∀(i:Nat)(c:i<(a.set j n).length)(b:i<a.length),(a.set j n)[i].1=a[i].1:=λi c b=>by grind
 refine⟨λx m=>?_,λi k c l o=>?_⟩
 · rcases List.mem_or_eq_of_mem_set m with p|rfl;· grind[nf]
   · rw[e];exact h.nf _ (List.getElem_mem g)
 · have b:i<a.length:=by grind
   have f:k<a.length:=by grind
   rw[d i c b,d k l f];grind[up]
theorem As{R:Int}{w:ek}(h:WR R w){j:Nat}(b:j<(aa w).length){n:a0}(e:n.1=(aa w)[j].1)(c:NR R (ab w) n):WR R (j5 w j n):=⟨h.r0,h.b0,h.fo,h.bl,λx d=>by
 rcases List.mem_or_eq_of_mem_set d with a|rfl;·exact h.nd x a
 ·exact c,h.nm.set b e,h.A1⟩
theorem At{R:Int}{w:ek}(h:WR R w){ms:List gd}{b:List fv}(c:∀m∈ms,MR R (ab w) m):WR R (Er w ms b):=⟨h.r0,h.b0,h.fo,h.bl,h.nd,h.nm,λm d=>by
 rcases mb d with a|a;·exact h.A1 m a
 ·exact c m a.1⟩
theorem WR.up{R R':Int}{w:ek}(h:WR R w)(c:R<=R'):WR R' w:=⟨by have :=h.r0;omega,h.b0,h.fo,⟨h.bl.Fs,h.bl.kp,λb a=>Int.le_trans (h.bl.rd b a) c⟩,λn d=>(h.nd n d).mono c (λb a=>a) (Nat.le_refl _),h.nm,λm e=>(h.A1 m e).mono c (λb a=>a)⟩
theorem EW{R:Int}{w:ek}(h:WR R w)(k:Nat):WR R (vl w k):=⟨h.r0,h.b0,h.fo,h.bl,h.nd,h.nm,λm a=>h.A1 m (G7 a)⟩
theorem Gy{E S:Nat}{R:Int}{w:ek}{m:gd}(h:WI E S w)(q:E<890)(a:WR R w)(d:FK m)(f:MR R (ab w) m)(k:s8 (aa w) m.2.1=true):WR R (mh w m):=by obtain⟨j,b,_,u,g⟩:=D0 k;obtain⟨e,p⟩:=h.nd _ (List.getElem_mem b);rw[g];cases l:gA (aa w)[j].2.1 m.2.2.1 with|false=>exact a|true=>have c:=Cr.1 l;obtain⟨s,i,r,t⟩:=HO e d c.symm (by omega);obtain⟨n,o⟩:=Un a.bl (a.nd _ (List.getElem_mem b)) e (by omega) a.r0 d f c.symm;exact At (As a b i n) o
theorem Sb{R:Int}{bl:List ao}{n:a0}(o:BR R bl)(h:NR R bl n)(w:NW n):n.2.1<=(bl.length:Int):=by
 have A:=w.pa;let f:Nat->Int:=λk=>match(bk n)[k]? with
 |some p=>match i5 p with|b::_=>b.1|[]=>0
 |none=>0;have j:∀k,k<(bk n).length->∃b∈bl,f k=b.1/\b.2.1=(k:Int):=λk d=>by have l:=h.c5 k (bk n)[k] (List.getElem?_eq_getElem d);cases v:i5 (bk n)[k]with|nil=>exact absurd v l.ne|cons b r=>have m:=l.bs b (by grind);refine⟨b,m.1,?_,by rw[m.2,l.ep]⟩;grind
 have u:((List.range (bk n).length).map f).Nodup:=by rw[List.nodup_iff_pairwise_ne,List.pairwise_map];refine List.Pairwise.imp_of_mem ?_ (List.nodup_iff_pairwise_ne.1 (List.nodup_range));intro a c q t z e;rw[List.mem_range]at q t;obtain⟨x,g,D,B⟩:=j a q;obtain⟨y,i,s,C⟩:=j c t;have :x=y:=o.Fg g i (by omega);grind
 have :=G3 bl.length _ u (λx g=>by obtain⟨k,d,rfl⟩:=List.mem_map.1 g;rw[List.mem_range]at d;obtain⟨y,i,s,_⟩:=j k d;rw[s];exact o.lt i);grind
theorem WI.yN{E S:Nat}{R:Int}{w:ek}(h:WI E S w)(b:WR R w){c:Nat}(d:(ab w).length<=c):WI c S w:=⟨h.GZ,h.HG,h.Gj,h.fo,h.SU,h.nl,λn a=>⟨(h.nd n a).1,by have :=Sb b.bl (b.nd n a) (h.nd n a).1;omega⟩,h.bo,h.bl,h.bL,h.so,h.sl,h.nt,h.nm⟩
theorem Ho{a b:ao}:rv a b=true↔a=b:=by
 have d:∀x y:D9,ko x.1 y.1=true↔x=y:=λx y=>by rw[ow];grind
 have e:∀x y:D3,gA x.1 y.1=true↔x=y:=λx y=>by rw[Cr];grind
 have i:∀x y:ds,Hf x y=true↔x=y:=λx y=>by obtain⟨c,h,u⟩:=x;obtain⟨f,j,v⟩:=y;simp_all[Hf,ds,ko,gA]
 have g:∀x y:cl,Lz x y=true↔x=y:=λx y=>by obtain⟨c,h,J,A,U,u⟩:=x;obtain⟨f,j,N,M,Q,v⟩:=y;simp_all[Lz,cl,gA,ko]
 obtain⟨L,F,W,V,S,P,R,K,D,k,l,o,n,w,u⟩:=a;obtain⟨G,E,I,H,O,T,z,B,C,m,t,r,p,q,v⟩:=b;unfold rv HI F2;simp only[Bool.and_eq_true,Cr,ow,ia,o8,E3 d,E3 e,E3 i,E3 g];have s:∀x y:Bool,wo x y=true↔x=y:=λx y=>by grind[wo]
 grind
theorem Sc{bl:List ao}{b:ao}(h:Hg bl b=true):b∈bl:=by unfold Hg at h;unfold bK at h;cases a:(if 0<=b.1 then bl[b.1.toNat]? else none)with|none=>grind|some z=>simp only[a]at h;rw[<-Ho.1 h];grind
theorem Zy{m:gd}(h:Ui m)(g:m.1≠4):(m.1=1\/m.1=2\/m.1=3)/\(mT m).1=0/\((mQ m).1=0\/(mQ m).1<(HF m).1):=by have a:=h.kd;unfold xC at a;cases c:gA m.1 1 with|true=>rw[c]at a;simp only[cond_true,Bool.and_eq_true]at a;exact⟨.inl (Cr.1 c),(s9 a.2.2.2.2).1,.inl (p5 a.2.2.2.1).1⟩|false=>rw[c]at a;cases d:gA m.1 2 with|true=>rw[d]at a;simp only[cond_true,cond_false,Bool.and_eq_true]at a;exact⟨.inr (.inl (Cr.1 d)),(s9 a.2.2.2.2).1,.inl (p5 a.2.2.2.1).1⟩|false=>rw[d]at a;cases f:gA m.1 3 with|true=>rw[f]at a;simp only[cond_true,cond_false,Bool.and_eq_true]at a;refine⟨.inr (.inr (Cr.1 f)),(s9 a.2.2.2).1,.inr ?_⟩;have b:=a.2.2.1;unfold Wm at b;simp only[Bool.and_eq_true]at b;have i:=gx.1 b.1;have e:gS .i64 m.2.2.2.2.2.2.2.1 1=m.2.2.2.2.2.2.2.1-1:=iz (by omega) (by omega);rw[e]at b;have l:=gx.1 b.2.1;have k:=Cr.1 b.2.2.1;show m.2.2.2.2.2.2.2.2.2.2.1<m.2.2.2.2.2.2.2.1;omega|false=>rw[f]at a;have j:gA m.1 4=false:=CN.2 g;grind
theorem sz{a:List a0}{j:Nat}{b n:a0}(h:a[j]?=some b)(e:n.1=b.1):(a.set j n).map (λn=>n.1)=a.map (λn=>n.1):=by rw[List.map_set,e];apply List.ext_getElem?;grind
theorem Sd{R:Int}{w:ek}(a:WR R w){m:gd}{g:List ao}(k:FL w m g)(z:FR w m):WR (R+14) (u5 w m g):=by
 have q:=WW k.ok;obtain⟨y,n,v,u,I,F⟩:=z;obtain⟨N,J,M⟩:=Zy q y;have l:=a.nd n v;have H:=a.r0;have B:=l.rd;have C:=(l5 l.set).2;have L:(HE m).1<=R+1:=by
  rcases u with h|h|⟨b,d,h⟩;·omega
  ·omega
  ·have :=a.bl.rd b (l.K5 b d).1;omega
 have D:(HF m).1<=R+1:=by omega
 have K:(mQ m).1<=R+1:=by omega
 have s:∀b∈l8 m,b∈ab w++g:=λb d=>by
  rcases k.nw with e|⟨c,A,p,_⟩;·rw[e,List.append_nil];exact Sc (k.aW1 e b d).2
  grind
 have t:BR (R+14) (ab w++g):=by
  rcases k.nw with e|⟨c,A,p,G,_⟩;·rw[e,List.append_nil];exact⟨a.bl.Fs,a.bl.kp,λb d=>by have :=a.bl.rd b d;omega⟩
  · rw[p];have r:c∈l8 m:=by grind
    refine⟨λi E=>?_,λb d=>?_,λb d=>?_⟩
    · rcases Nat.lt_or_ge i (ab w).length with f|f;· rw[List.getElem_append_left f];exact a.bl.Fs i f
      grind
    · rcases List.mem_append.1 d with f|f;· exact a.bl.kp b f
      · rw[List.mem_singleton.1 f];exact (q.bs c r).1
    · rcases List.mem_append.1 d with f|f;· have :=a.bl.rd b f;omega
      grind
 have o:∀b∈ab w,b∈ab w++g:=λb d=>List.mem_append_left _ d;refine At (w:=Hl w (aa w) (ab w++g) (gl w) (dt w)) ⟨by omega,a.b0,a.fo,t,λx j=>(a.nd x j).mono (by omega) o (by grind),a.nm,λx j=>(a.A1 x j).mono (by omega) o⟩ (λx j=>?_);rw[List.mem_singleton.1 j];exact⟨k.ok,s,by omega,by omega,by omega,by omega⟩
theorem qL.wr{E S:Nat}{R:Int}{w C:ek}(s:qL w C)(h:WI E S w)(F:E<890)(a:WR R w)(N:R<=9970):WR (R+14) C:=by have l:=a.r0;cases s with
 |same=>grind[WR.up]|Eb m i O=>
 refine WR.up (R:=R) ⟨a.r0,a.b0,a.fo,a.bl,a.nd,a.nm,λx f=>?_⟩ (by omega);rcases List.mem_append.1 f with g|g;·grind[WR.A1]
 ·rw[List.mem_singleton.1 g];grind[WR.A1]|drop k=>grind[WR.up,vl,EW]|ti k e=>have i:=h.nm _ (List.getElem_mem e);exact (Gy (pt h k) F (EW a k) i.1 (a.A1 _ (List.getElem_mem e)) i.2).up (by omega)|Jx j c B=>
 obtain⟨d,t⟩:=h.nd _ (List.getElem_mem c);obtain⟨y,D,K⟩:=Oh a.bl (a.nd _ (List.getElem_mem c)) d (by omega) l h.bl;have z:∀b∈ab w,b∈ab w++(ee (aa w)[j] ((ab w).length:Int)).2.1:=λb B=>List.mem_append_left _ B;have I:=B7 (n:=(ab w).length) (by omega);have r:=(HP d I (by omega)).2.1;have H:=a.nm.set c r;refine WR.up (R:=R+1) ?_ (by omega);refine At (w:=Hl w ((aa w).set j (ee (aa w)[j] ((ab w).length:Int)).1) (ab w++(ee (aa w)[j] ((ab w).length:Int)).2.1) (gl w) (dt w)) ⟨by omega,a.b0,a.fo,y,λx f=>?_,H,λx f=>(a.A1 x f).mono (by omega) z⟩ K;rcases List.mem_or_eq_of_mem_set f with g|rfl;·exact (a.nd x g).mono (by omega) z (by grind)
 omega|Fq j c=>obtain⟨d,t⟩:=h.nd _ (List.getElem_mem c);obtain⟨y,D⟩:=Mg a.bl (a.nd _ (List.getElem_mem c)) d (by omega) l (by omega);have r:=(Gn d (by omega)).2.1;exact (At (As (a.up (R':=R+1) (by omega)) c r y) D).up (by omega)|IC j c k e=>obtain⟨d,t⟩:=h.nd _ (List.getElem_mem c);unfold B6;cases G:(fz (aa w)[j] (aa w)[k].2.1 (aa w)[k].1).2.1.1 with|false=>grind[WR.up]|true=>refine WR.up (R:=R) (At a λm i=>?_) (by omega);rw[List.mem_singleton.1 i];exact D1 a.bl (a.nd _ (List.getElem_mem c)) d (by omega) l (a.nd _ (List.getElem_mem e)).nm G
 |EU j c q L _ _=>
 have o:=a.nd _ (List.getElem_mem c);refine WR.up (R:=R) (As (n:=Es (aa w)[j] q) a c rfl (Mc o ?_)) (by omega);rcases L with rfl|⟨_,g⟩;·exact o.ki
 omega|FM j c=>have o:=a.nd _ (List.getElem_mem c);refine WR.up (R:=R) (As (n:=EC (aa w)[j]) a c (HQ _) ?_) (by omega);unfold EC;exact Mc (Ma (L9 o (λv u=>by cases u)) (λv u=>by cases u)) rfl|ID m M G P=>grind[Sd]|Gv j c k e p=>obtain⟨d,t⟩:=h.nd _ (List.getElem_mem c);obtain⟨A,_⟩:=h.nd _ (List.getElem_mem e);have J:=w6 _ _ _ p;exact (Gy h F a (p8 d A.v.h.ok.2.1 A.v.h.ok.1 p) (D1 a.bl (a.nd _ (List.getElem_mem c)) d (by omega) l (a.nd _ (List.getElem_mem e)).nm p) (by rw[J.1];exact E9 e)).up (by omega)
theorem II(w:ek)(m:gd)(c:∀n∈aa w,(fl n m).1.1=n.1\/n.2.1≠m.2.2.1):ab (mh w m)=ab w/\(aa (mh w m)).map (λn=>n.1)=(aa w).map (λn=>n.1)/\(mh w m).1=w.1/\(mh w m).2.1=w.2.1/\c8 (mh w m)=c8 w:=by unfold mh;cases a:(aa w)[(Qg (aa w) m.2.1).toNat]? with|none=>grind|some n=>dsimp only;cases d:gA n.2.1 m.2.2.1 with|false=>grind|true=>
 refine⟨rfl,?_,rfl,rfl,rfl⟩;have b:=List.mem_of_getElem? a;have e:(fl n m).1.1=n.1:=by
  rcases c n b with h|h;·exact h
  ·exact absurd (Cr.1 d) h
 show ((aa w).set _ (fl n m).1).map (λn=>n.1)=_;exact sz a e
theorem qL.CB{E S:Nat}{w g:ek}(s:qL w g)(h:WI E S w)(G:E<890):(∃d,ab g=ab w++d/\d.length<=1)/\(aa g).map (λn=>n.1)=(aa w).map (λn=>n.1)/\g.1=w.1/\g.2.1=w.2.1/\c8 g=c8 w:=by
 have p:∀(v:ek)(m:gd),WI E S v->FK m->∀n∈aa v,(fl n m).1.1=n.1\/n.2.1≠m.2.2.1:=λv m A o n z=>by
  by_cases i:n.2.1=m.2.2.1;·obtain⟨c,C⟩:=A.nd n z;exact .inl (HO c o i.symm (by omega)).2.1
  omega
 have f:∃d,ab w=ab w++d/\d.length<=1:=⟨[],by simp,Nat.zero_le _⟩;cases s with|same=>grind|Eb m o F=>grind|drop k=>exact⟨f,rfl,rfl,rfl,rfl⟩|ti k l=>have o:=h.nm _ (List.getElem_mem l);obtain⟨u,x⟩:=II (vl w k) (dt w)[k] (p (vl w k) _ (pt h k) o.1);rw[u];exact⟨f,x⟩|Jx j a D=>obtain⟨c,i⟩:=h.nd _ (List.getElem_mem a);have r:=B7 (n:=(ab w).length) (by omega);refine⟨⟨(ee (aa w)[j] ((ab w).length:Int)).2.1,rfl,?_⟩,sz (List.getElem?_eq_getElem a) (HP c r (by omega)).2.1,rfl,rfl,rfl⟩;rcases (Gu c r (by omega)).2.2.2.2 with⟨e,_⟩|⟨e,_⟩<;>rw[e]<;>simp|Fq j a=>obtain⟨c,i⟩:=h.nd _ (List.getElem_mem a);exact⟨f,sz (List.getElem?_eq_getElem a) (Gn c (by omega)).2.1,rfl,rfl,rfl⟩|IC j a k l=>unfold B6;cases (fz (aa w)[j] (aa w)[k].2.1 (aa w)[k].1).2.1.1<;>exact⟨f,rfl,rfl,rfl,rfl⟩|EU j a q _ _ _=>exact⟨f,sz (n:=Es (aa w)[j] q) (List.getElem?_eq_getElem a) rfl,rfl,rfl,rfl⟩|FM j a=>exact⟨f,sz (n:=EC (aa w)[j]) (List.getElem?_eq_getElem a) (HQ _),rfl,rfl,rfl⟩|ID m d B _=>refine⟨⟨d,rfl,?_⟩,rfl,rfl,rfl,rfl⟩;rcases B.nw with e|⟨b,_,e,_⟩<;>rw[e]<;>simp|Gv j a k l y=>obtain⟨c,i⟩:=h.nd _ (List.getElem_mem a);obtain⟨t,_⟩:=h.nd _ (List.getElem_mem l);obtain⟨u,x⟩:=II w (fz (aa w)[j] (aa w)[k].2.1 (aa w)[k].1).1 (p w _ h (p8 c t.v.h.ok.2.1 t.v.h.ok.1 y));grind
structure p9(n n':a0)(sg:List fv):Prop where
 nm:n'.1=n.1
 mon:n.2.1<n'.2.1\/(n'.2.1=n.2.1/\fr n<=fr n')Hm:sg.length<=1
 GH:∀s∈sg,s.2.2.2.2.1=n.1/\s.2.1=n.2.1
 Xs:∀s∈sg,s.1=1->fr n<s.2.2.1/\(n.2.1<n'.2.1\/(n'.2.1=n.2.1/\s.2.2.1<=fr n'))
theorem p9.none{n n':a0}(h:kj n n'):p9 n n' []:=⟨h.a.nm,by
 rcases h.a.ca with⟨a,b,_⟩|a;·omega
 omega,Nat.zero_le _,by grind,by grind⟩
theorem Oi{n:a0}{b:ao}(q:NW n)(a:j7.Ok b)(k:dT b)(r:n.2.1<890):p9 n (gk n b).1 (gk n b).2.2:=by obtain⟨h,c⟩:=ns q a k r;unfold gk;cases m:A9 n b with|false=>exact p9.none c|true=>
 have j:=JQ m;have o:=j.ep;have t:fr (cf n b)=fr n:=by
  rcases c.a.ca with⟨_,e,_⟩|e;·exact e
  ·omega
 have p:=md h a.2.2.1;obtain⟨w,i⟩:=HN (v:=(b.2.2.1,(b.1,((cf n b).1,())))) p ⟨a.2.2.1,a.1,h.v.h.ok.1,trivial⟩ (by show (cf n b).2.1<890;omega);have u:=j.vo;have l:(tA (pn (cf n b) b.2.2.1) (b.2.2.1,(b.1,((cf n b).1,())))).2.1=(cf n b).2.1/\fr (tA (pn (cf n b) b.2.2.1) (b.2.2.1,(b.1,((cf n b).1,()))))=b.2.2.1\/(cf n b).2.1<(tA (pn (cf n b) b.2.2.1) (b.2.2.1,(b.1,((cf n b).1,())))).2.1:=by
  rcases i.a.ca with ⟨f,g,_⟩|e;·exact .inl ⟨f,g⟩
  ·exact .inr e
 simp only[cond_true];refine ⟨i.a.nm.trans c.a.nm,?_,Nat.le_refl _,λs d=>?_,λs d _=>?_⟩;·omega
 ·rw[List.mem_singleton.1 d];exact ⟨c.a.nm,rfl⟩
 · rw[List.mem_singleton.1 d];refine ⟨by show fr n<b.2.2.1;omega,?_⟩;rcases l with ⟨f,g⟩|e;· exact .inr ⟨f.trans o,by rw[g];exact Int.le_refl _⟩
   omega
theorem Oj{n:a0}{m:gd}(c:NW n)(a:FK m)(g:m.2.2.1=n.2.1)(d:n.2.1<890):p9 n (fl n m).1 (fl n m).2.2:=by unfold fl;cases f:gA m.1 1 with
 |true=>have h:=a.pr (Cr.1 f);cases i:l8 m with|nil=>grind|cons b r=>have e:=a.ok.kp a.l b (by grind);exact Oi c e.1 e.2 d
 |false=>cases gA m.1 2 with|true=>exact p9.none (HN c a.ok.vo d).2|false=>cases gA m.1 3 with|true=>exact p9.none (Gm c (a.ok.D7 a.l) a.ok.go d).2|false=>exact p9.none (De c a.ok a.l g d).2.2.2
theorem Mh{n:a0}(a:NW n)(h:n.2.1<890)(i:fr n<=ad n):p9 n (fa n).1 (fa n).2.2:=by unfold fa;cases (Ff (bb n) n.1&&!dO (ad n) (fr n)) with|false=>exact p9.none (kj.gj n)|true=>
 obtain⟨j,c⟩:=Gm (g:=EM n) (md a a.v.h.round) (a.v.h.ok.D7 a.v.h.l) (HM a.v.h.ok) h;refine⟨c.a.nm,?_,Nat.le_refl _,λs b=>?_,λs b e=>?_⟩
 · rcases c.a.ca with⟨f,d,_⟩|e;· exact .inr ⟨f,by have d:fr (i0 (pn n (ad n)) (EM n) (bx n))=ad n:=d;grind⟩
   · exact .inl e
 · rw[List.mem_singleton.1 b];exact ⟨rfl,rfl⟩
 · rw[List.mem_singleton.1 b]at e;have :(2:Int)=1:=e;omega
theorem Ol{n:a0}{a:Int}(b:NW n)(c:(Lit.int .i64 a).wf=true)(f:n.2.1<890):p9 n (ee n a).1 (ee n a).2.2.2:=by obtain⟨d,e⟩:=sv b.v.h c;unfold ee;cases Fo n a with|false=>exact p9.none (kj.gj n)|true=>have h:=Oi (s7 b b.v.h.round) d e f;exact⟨h.nm,h.mon,h.Hm,h.GH,h.Xs⟩
structure w4(w:ek):Prop where
 GH:∀s∈gl w,∃n∈aa w,s.2.2.2.2.1=n.1
 Z6:∀s∈gl w,s.1=1->∀n∈aa w,s.2.2.2.2.1=n.1->s.2.1<n.2.1\/(s.2.1=n.2.1/\s.2.2.1<=fr n)Hm:∀s∈gl w,∀t∈gl w,s.1=1->t.1=1->s.2.1=t.2.1->s.2.2.1=t.2.2.1->s.2.2.2.2.1=t.2.2.2.2.1->s.2.2.2.1=t.2.2.2.1
theorem PM.Fg{an:List D9}{a:List a0}(h:PM an a){i j:Nat}(d:i<a.length)(c:j<a.length)(e:a[i].1=a[j].1):i=j:=by
 rcases Nat.lt_trichotomy i j with b|b|b;·have :=h.up i j d c b;rw[e,KG (xD _)]at this;grind
 ·exact b
 ·have :=h.up j i c d b;rw[e,KG (xD _)]at this;grind
theorem EX{w g:ek}{an:List D9}(h:w4 w)(L:PM an (aa w)){j:Nat}(A:j<(aa w).length){n':a0}{v:List fv}(c:p9 (aa w)[j] n' v)(r:aa g=(aa w).set j n')(l:∀s,s∈gl g↔s∈gl w\/s∈v):w4 g:=by
 have C:∀x∈aa g,x=n'\/(x∈aa w/\x.1≠n'.1):=λx o=>by
  rw[r] at o;obtain⟨i,K,rfl⟩:=List.getElem_of_mem o;rw[List.getElem_set];split;·grind
  ·next u=>
  have z:i<(aa w).length:=by grind
  refine .inr ⟨List.getElem_mem z,λe=>u ?_⟩;rw[c.nm] at e;exact (L.Fg z A e).symm
 have F:n'∈aa g:=by rw[r,List.mem_iff_getElem];grind
 have M:∀x∈aa w,∃y∈aa g,y.1=x.1:=λx o=>by
  obtain ⟨i,K,rfl⟩:=List.getElem_of_mem o;refine ⟨(aa g)[i]'(by grind),List.getElem_mem _,?_⟩;simp only[r,List.getElem_set];split;·next e=>subst e;exact c.nm
  ·rfl
 have E:∀s∈gl w,s.1=1->s.2.2.2.2.1=(aa w)[j].1->s.2.1<(aa w)[j].2.1\/(s.2.1=(aa w)[j].2.1/\s.2.2.1<=fr (aa w)[j]):=λs I d e=>h.Z6 s I d _ (List.getElem_mem A) e;refine ⟨λs k=>?_,λs k d n G e=>?_,λs k t J d f V S R=>?_⟩
 · rcases (l s).1 k with d|d;· obtain ⟨n,O,N⟩:=h.GH s d;grind
   · exact ⟨n',F,(c.GH s d).1.trans c.nm.symm⟩
 · rcases C n G with rfl|⟨H,u⟩
   · rcases (l s).1 k with f|f
     · have :=E s f d (e.trans c.nm);rcases c.mon with m|⟨U,T⟩;· omega
       omega
     · have p:=c.GH s f;rcases (c.Xs s f d).2 with q|⟨P,Q⟩;· omega
       omega
   · rcases (l s).1 k with f|f;· exact h.Z6 s f d n H e
     · have p:=c.GH s f;exact absurd (by rw[<-e,p.1,c.nm]) u
 · have D:=c.Hm;rcases (l s).1 k with a|a<;>rcases (l t).1 J with b|b;· grind[w4.Hm]
   · have p:=c.GH t b;have B:=(c.Xs t b f).1;grind
   · have p:=c.GH s a;have B:=(c.Xs s a d).1;grind
   · match v,D,a,b with|[x],_,a,b=>grind
theorem D2{w b:ek}(h:w4 w)(c:aa b=aa w)(a:gl b=gl w):w4 b:=by
 refine⟨?_,?_,?_⟩;·rw[c,a];exact h.GH
 ·rw[c,a];exact h.Z6
 ·rw[a];exact h.Hm
theorem J1{E S:Nat}{R:Int}{w:ek}{m:gd}(h:WI E S w)(o:E<890)(e:WR R w)(i:FK m)(f:s8 (aa w) m.2.1=true)(b:w4 w):w4 (mh w m):=by obtain⟨j,a,_,n,k⟩:=D0 f;obtain⟨g,l⟩:=h.nd _ (List.getElem_mem a);rw[k];cases d:gA (aa w)[j].2.1 m.2.2.1 with|false=>exact b|true=>have c:=Cr.1 d;exact EX b e.nm a (Oj g i c.symm (by omega)) rfl (λs=>ej)
theorem Ft(w:ek)(j:Nat)(n:a0):aa (j5 w j n)=(aa w).set j n:=rfl
theorem EY(w:ek)(j:Nat)(n:a0)(s:fv):s∈gl (j5 w j n)↔s∈gl w\/s∈([]:List fv):=by simp_all[fv,gl,j5]
theorem Se(n:a0):kj n (EC n):=⟨⟨HQ n,.inl ⟨HR n,Uf n,Ug n⟩⟩,Int.le_of_eq (HR n).symm,by rw[HR];omega⟩
theorem Sf(n:a0):p9 n (EC n) []:=p9.none (Se n)
theorem Uo{w:ek}(c:w4 w){an:List D9}(b:PM an (aa w)){j:Nat}(d:j<(aa w).length)(n:a0)(e:n=(aa w)[j]):w4 (j5 w j (EC n)):=by have a:=Sf n;generalize EC n=m at a⊢;rw[e]at a;exact EX c b d a (Ft w j m) (EY w j m)
theorem Mi(n:a0)(q:List cl):p9 n (Es n q) []:=p9.none ⟨⟨rfl,.inl ⟨rfl,rfl,rfl⟩⟩,Int.le_refl _,by show n.2.1<=n.2.1+1;omega⟩
theorem Sg{w:ek}(b:w4 w){an:List D9}(a:PM an (aa w)){j:Nat}(d:j<(aa w).length)(m:a0)(c:p9 (aa w)[j] m []):w4 (j5 w j m):=EX b a d c (Ft w j m) (EY w j m)
theorem qL.Hm{E S:Nat}{R:Int}{w p:ek}(s:qL w p)(h:WI E S w)(l:E<890)(c:WR R w)(b:w4 w):w4 p:=by cases s with|same=>exact b|Eb m f x=>exact D2 b rfl rfl|drop k=>exact D2 b rfl rfl|ti k d=>have f:=h.nm _ (List.getElem_mem d);exact J1 (pt h k) l (EW c k) f.1 f.2 (D2 b rfl rfl)|Jx j a v=>obtain⟨e,o⟩:=h.nd _ (List.getElem_mem a);have t:=B7 (n:=(ab w).length) (by omega);exact EX b c.nm a (Ol e t (by omega)) rfl (λs=>ej)|Fq j a=>obtain⟨e,o⟩:=h.nd _ (List.getElem_mem a);exact EX b c.nm a (Mh e (by omega) (c.nd _ (List.getElem_mem a)).vo.2) rfl (λs=>ej)|IC j a k d=>unfold B6;cases (fz (aa w)[j] (aa w)[k].2.1 (aa w)[k].1).2.1.1<;>exact D2 b rfl rfl|EU j a q _ _ _=>exact Sg b c.nm a _ (Mi _ q)|FM j a=>exact Uo b c.nm a _ rfl|ID m y u _=>exact D2 b rfl rfl|Gv j a k d g=>obtain⟨e,o⟩:=h.nd _ (List.getElem_mem a);obtain⟨i,_⟩:=h.nd _ (List.getElem_mem d);have r:=w6 _ _ _ g;exact J1 h l c (p8 e i.v.h.ok.2.1 i.v.h.ok.1 g) (by rw[r.1];exact E9 d) b
structure BA(G:fv->Prop)(S:List ds)(ep:Int)(b:ao):Prop where
 eq:b.2.1=ep
 qc:uf S (ia b)=true
 tc:FO S (o8 b)=true
 fo:lv b=true
 qa:∀s∈nv ep (ia b),G s
 ta:∀s∈p0 ep (o8 b),G s
inductive j6(bl:List ao)(G:fv->Prop)(S:List ds)(ep:Int):Int->List ao->Prop|G0(id:Int):id<0->j6 bl G S ep id []|dp(b:ao)(l:List ao):b∈bl->BA G S ep b->(kf (ia b)=true\/∃p∈bl,p.1=(ia b).2.1/\p.2.2.1=(ia b).1)->j6 bl G S ep (ia b).2.1 l->j6 bl G S ep b.1 (l++[b])
theorem BA.mono{G e:fv->Prop}{S:List ds}{c:Int}{b:ao}(h:BA G S c b)(d:∀s,G s->e s):BA e S c b:=⟨h.eq,h.qc,h.tc,h.fo,λs a=>d s (h.qa s a),λs a=>d s (h.ta s a)⟩
theorem j6.mono{bl c:List ao}{G e:fv->Prop}{S:List ds}{d a:Int}{l:List ao}(h:j6 bl G S d a l)(g:∀b∈bl,b∈c)(i:∀s,G s->e s):j6 c e S d a l:=by induction h with|G0 a h=>exact .G0 a h|dp b l f j n m k=>refine .dp b l (g b f) (j.mono i) ?_ k;grind
theorem Om{l bl:List ao}{G:fv->Prop}{S:List ds}{j:Int}(h:il l)(g:∀b∈l,b∈bl/\BA G S j b):∀c,(c<0\/∃b∈l,b.1=c)->j6 bl G S j c (ct l c):=by
 refine w5 h (λc q m=>?_) (λb e k _=>?_)
 · rcases m with a|⟨b,a,d⟩;· rw[JJ h a];exact .G0 c a
   grind
 · rw[kk h e];obtain⟨a,d⟩:=g b e;rcases h.ME b e with⟨r,n⟩|⟨_,_,_,p,f,i,o⟩;· exact .dp b _ a d (.inl n) (k (.inl (by omega)))
   · exact .dp b _ a d (.inr ⟨p,(g p f).1,i,o⟩) (k (.inr ⟨p,f,i⟩))
theorem j6.dr{bl:List ao}{G:fv->Prop}{S:List ds}{c a:Int}{l:List ao}(h:j6 bl G S c a l):∀b∈l,b∈bl/\BA G S c b:=by induction h with|G0 a h=>grind|dp b l d e i f g=>grind
structure On(bl:List ao)(G:fv->Prop)(S:List ds)(ep:Int)(q:j8)(l:List ao)(a b:ao):Prop where
 ch:j6 bl G S ep a.1 (l++[a])Zz:b∈bl
 ba:BA G S ep b
 id:b.1=q.2.1
 rd:b.2.2.1=q.1
 ME:(ia b).2.1=a.1
 WZ:(ia b).1=a.2.2.1
 ard:a.2.2.1=q.1-1
 qc:uf S q=true
 qa:∀s∈nv ep q,G s
theorem On.mono{bl d:List ao}{G g:fv->Prop}{S:List ds}{f:Int}{q:j8}{l:List ao}{a b:ao}(h:On bl G S f q l a b)(e:∀b∈bl,b∈d)(c:∀s,G s->g s):On d g S f q l a b:=⟨h.ch.mono e c,e b h.Zz,h.ba.mono c,h.id,h.rd,h.ME,h.WZ,h.ard,h.qc,λs i=>c s (h.qa s i)⟩
theorem IJ{l bl:List ao}{G:fv->Prop}{S:List ds}{f:Int}{q:j8}(h:il l)(e:∀b∈l,b∈bl/\BA G S f b)(i:uf S q=true)(o:∀s∈nv f q,G s)(n:dc l q≠-1):∃k a b,ct l (dc l q)=k++[a]/\ct l q.2.1=(k++[a])++[b]/\On bl G S f q k a b:=by
 obtain⟨b,c,m,v,p,d,g,w,B⟩:=Fm n;have A:=KU i;have t:p.2.2.1=q.1-1:=by rw[w];exact iz (by omega) (by omega)
 have x:=h.nn p d;have j:ct l p.1=ct l (ia p).2.1++[p]:=kk h d;refine⟨ct l (ia p).2.1,p,b,by grind,by rw[<-m,kk h c,<-g,j],?_⟩;refine⟨by rw[<-j];exact Om h e p.1 (.inr ⟨p,d,rfl⟩),(e b c).1,(e b c).2,m,v,g.symm,?_,t,i,o⟩;rcases h.ME b c with ⟨y,_⟩|⟨_,_,_,z,r,u,C⟩;·omega
 ·have :=h.Rj d r (g.trans u.symm);grind
inductive MF(bl:List ao)(G:fv->Prop)(S:List ds)(ep:Int)(d0:List D3):List D3->Prop|nil:MF bl G S ep d0 d0|WK(d:List D3)(q:j8)(l:List ao)(a b:ao):MF bl G S ep d0 d->On bl G S ep q l a b->(∀c∈l++[a],fi c=false)->MF bl G S ep d0 (i4 d (ic (l++[a])))
inductive q9(bl:List ao)(G:fv->Prop)(base:fp):List tB->List ds->fp->List D3->Prop|nil:q9 bl G base [] (k8 base.2.1) base []|KW(c5:List tB)(S:List ds)(L:fp)(d0 d:List D3)(q:j8)(l:List ao)(a b:ao)(p:List ao)(c:ao)(r:List ao):q9 bl G base c5 S L d0->MF bl G S (c5.length:Int) d0 d->On bl G S (c5.length:Int) q l a b->l++[a]=p++c::r->fi c=true->(∀x∈p,fi x=false)->q9 bl G base (c5++[((c5.length:Int),((l++[a])++[b],(q.1,(q.2.1,(q.2.2.1,())))))]) (j9 c) (k0 (nr L (p++[c]))) (i4 d (ic (p++[c])))
theorem MF.mono{bl c:List ao}{G f:fv->Prop}{S:List ds}{e:Int}{g d:List D3}(h:MF bl G S e g d)(j:∀b∈bl,b∈c)(m:∀s,G s->f s):MF c f S e g d:=by induction h with|nil=>exact .nil|WK d q l a b _ i k n=>exact .WK d q l a b n (i.mono j m) k
theorem q9.mono{bl f:List ao}{G j:fv->Prop}{base:fp}{e:List tB}{S:List ds}{L:fp}{d:List D3}(h:q9 bl G base e S L d)(g:∀b∈bl,b∈f)(i:∀s,G s->j s):q9 f j base e S L d:=by induction h with|nil=>exact .nil|KW e S L u d q l a b p c r _ k n v o m t=>exact .KW e S L u d q l a b p c r t (k.mono g i) (n.mono g i) v o m
structure SI(bl:List ao)(G:fv->Prop)(base:fp)(n:a0):Prop where
 Gz:∃d0,q9 bl G base (bk n) (bb n) (gq n) d0/\MF bl G (bb n) n.2.1 d0 (nx n)kB:∀b∈ar n,b∈bl/\BA G (bb n) n.2.1 b
 hq:uf (bb n) (bx n)=true/\∀s∈nv n.2.1 (bx n),G s
 tq:FO (bb n) (Fj n)=true/\∀s∈p0 n.2.1 (Fj n),G s
 vt:∀v∈ei n,G (z0 v.2.2.1 n.2.1 v.1 v.2.1)gn:∀g∈eD n,G ((2,(n.2.1,(g.1,(g.2.1,(g.2.2.1,()))))):fv)
theorem SI.mono{bl e:List ao}{G f:fv->Prop}{base:fp}{n:a0}(h:SI bl G base n)(c:∀b∈bl,b∈e)(a:∀s,G s->f s):SI e f base n:=by obtain⟨o,j,k⟩:=h.Gz;exact⟨⟨o,j.mono c a,k.mono c a⟩,λb i=>⟨c b (h.kB b i).1,(h.kB b i).2.mono a⟩,⟨h.hq.1,λs d=>a s (h.hq.2 s d)⟩,⟨h.tq.1,λs d=>a s (h.tq.2 s d)⟩,λv m=>a _ (h.vt v m),λg l=>a _ (h.gn g l)⟩
theorem Sh{bl:List ao}{G:fv->Prop}{base:fp}{n:a0}{q:j8}(h:SI bl G base n)(d:uf (bb n) q=true)(a:∀s∈nv n.2.1 q,G s):SI bl G base (ma n q):=by
 have c:bx (ma n q)=zd n q:=rfl;have b:zd n q=q\/zd n q=bx n:=by unfold zd;grind
 refine⟨h.Gz,h.kB,?_,h.tq,h.vt,h.gn⟩;rw[c];rcases b with e|e<;>rw[e];·exact⟨d,a⟩
 ·exact h.hq
theorem Ns{bl:List ao}{G:fv->Prop}{base:fp}{n:a0}{q:j8}(f:NW n)(h:SI bl G base n)(K:n.2.1<890)(w:uf (bb n) q=true)(j:∀s∈nv n.2.1 q,G s):SI bl G base (ks n q):=by
 have o:il (ar n):=f.v.h.t;obtain⟨l,t,H⟩:=h.Gz;rcases w0 n.2.1.toNat n.2.1.toNat n q f.v (by omega) with⟨_,e⟩|⟨i,⟨L,e⟩|⟨p,c,r,M,C,E,J,e,m⟩⟩;·grind
 ·obtain⟨k,a,b,z,u,y⟩:=IJ o h.kB w j i;rw[e];refine⟨⟨l,t,?_⟩,h.kB,h.hq,h.tq,h.vt,h.gn⟩;have :=MF.WK (nx n) q k a b H y (by grind);rw[z];exact this
 ·obtain⟨k,a,b,z,u,y⟩:=IJ o h.kB w j i;rw[e];have A:=f.pa;have I:(k0 (nr (gq n) (p++[c]))).1=n.2.1+1:=m;refine⟨⟨i4 (nx n) (ic (p++[c])),?_,.nil⟩,λx D=>(by cases D),⟨Gw,λs d=>(by cases d)⟩,⟨Gx,λs d=>(by cases d)⟩,λv F=>(by cases F),λg B=>(by cases B)⟩;have d:=q9.KW (bk n) (bb n) (gq n) l (nx n) q k a b p c r t (by grind) (by grind) (by grind) C E;rw[A,<-u]at d;exact d
theorem EZ{bl:List ao}{G:fv->Prop}{base:fp}{n:a0}{q:j8}(a:NW n)(h:SI bl G base n)(e:n.2.1<890)(f:FP q)(c:uf (bb n) q=true)(b:∀s∈nv n.2.1 q,G s):SI bl G base (df n q):=by have d:NW (ma n q):=NW.Qf (Gk a.v f) a.e0 a.pa;exact Ns d (Sh h c b) e c b
theorem Nt{bl:List ao}{G:fv->Prop}{base:fp}{n:a0}{t:sM}(h:SI bl G base n)(c:FO (bb n) t=true)(a:∀s∈p0 n.2.1 t,G s):SI bl G base (KK n t):=by
 have d:Fj (KK n t)=Pn n t:=rfl;have b:Pn n t=t\/Pn n t=Fj n:=by unfold Pn;grind
 refine⟨h.Gz,h.kB,h.hq,?_,h.vt,h.gn⟩;rw[d];rcases b with e|e<;>rw[e];·exact⟨c,a⟩
 ·exact h.tq
theorem Mj{bl:List ao}{G:fv->Prop}{base:fp}{n:a0}{l:List tb}(h:SI bl G base n)(a:∀v∈l,G (z0 v.2.2.1 n.2.1 v.1 v.2.1)):SI bl G base (C5 n l):=⟨h.Gz,h.kB,h.hq,h.tq,a,h.gn⟩
theorem Mk{bl:List ao}{G:fv->Prop}{base:fp}{n:a0}{v:Int}(h:SI bl G base n):SI bl G base (pn n v):=⟨h.Gz,h.kB,h.hq,h.tq,h.vt,h.gn⟩
theorem J2{bl:List ao}{G:fv->Prop}{base:fp}{n:a0}{v:Int}(h:SI bl G base n):SI bl G base (n7 n v):=⟨h.Gz,h.kB,h.hq,h.tq,h.vt,h.gn⟩
theorem Si{G:fv->Prop}{d:List ds}{c:List tb}{r e f:Int}(h:∀v∈c,G (z0 v.2.2.1 f v.1 v.2.1)):∀s∈nv f (C7 d c r e),G s:=by intro s i;unfold nv at i;obtain⟨w,b,rfl⟩:=List.mem_map.1 i;have b:w∈Iz d c r e:=b;unfold Iz at b;obtain⟨v,k,rfl⟩:=List.mem_map.1 b;have g:=(List.mem_filter.1 k).2;unfold A7 at g;obtain⟨x,n,a⟩:=List.any_eq_true.1 g;unfold KR at a;simp only[Bool.and_eq_true]at a;have l:=Cr.1 a.1;have m:=Cr.1 a.2.1;have j:=ow.1 a.2.2;have :=h x n;rw[l,m,j]at this;exact this
theorem Oo{bl:List ao}{G:fv->Prop}{base:fp}{n:a0}{v:tb}(a:NW n)(h:SI bl G base n)(j:n.2.1<890)(b:Hq.Ok v)(l:G (z0 v.2.2.1 n.2.1 v.1 v.2.1)):SI bl G base (tA n v):=by
 have i:=Gl a.v.vo a.v.h.ok.e8 b;have e:∀x∈qf (ei n) v,G (z0 x.2.2.1 n.2.1 x.1 x.2.1):=λx k=>by
  rcases Me k with d|d;·exact h.vt x d
  grind
 have c:SI bl G base (C5 n (qf (ei n) v)):=Mj h e;have g:=C9 a i (E8 a.v.vo);unfold tA;cases Ff (bb n) v.2.2.1 with|false=>exact h|true=>cases f:sn (bb n) (qf (ei n) v) v.1 v.2.1 with|false=>exact c|true=>exact EZ g c j (C8 (bb n) (qf (ei n) v) v.1 v.2.1 a.v.h.ok.set a.v.h.l.2.1 b.1 b.2.1) (IH f).1 (Si e)
theorem Ml{round:Int}{name:ByteArray}:∀(a:List pf)(s:Int),a.foldl (Gc round name) s=s\/∃g∈a,g.1=round/\g.2.2.1=name/\g.2.1=a.foldl (Gc round name) s
 |[],s=>.inl rfl|x::r,s=>by
  rw[List.foldl_cons];rcases Ml r (Gc round name s x) with h|⟨g,c,d⟩;·rw[h];unfold Gc;cases b:(gA x.1 round&&(ko x.2.2.1 name&&dO s x.2.1)) with|false=>grind|true=>simp only[Bool.and_eq_true]at b;exact .inr ⟨x,List.mem_cons_self ..,Cr.1 b.1,ow.1 b.2.1,rfl⟩
  grind
theorem Mm(a:List pf)(round:Int):∀(c:List ds)(s:List D9×List D3),s.1.length=s.2.length->∀p∈List.zip (c.foldl (hM a round) s).1 (c.foldl (hM a round) s).2,p∈List.zip s.1 s.2\/∃v∈c,0<=A5 a round v.1/\p.1.1=v.1/\p.2.1=A5 a round v.1
 |[],s,_,p,b=>.inl b|v::r,s,f,p,b=>by
  rw[List.foldl_cons]at b;have e:(hM a round s v).1.length=(hM a round s v).2.length:=by unfold hM;grind
  rcases Mm a round r (hM a round s v) e p b with h|⟨x,g,h⟩;·unfold hM at h;cases d:km 0 (A5 a round v.1) with|false=>grind|true=>
   rw[d]at h;simp only[cond_true]at h;rw[List.zip_append f]at h;rcases List.mem_append.1 h with h|h;·grind
   ·simp only[List.zip_cons_cons,List.zip_nil_left,List.mem_singleton]at h;exact .inr ⟨v,List.mem_cons_self ..,Cq.1 d,by rw[h],by rw[h]⟩
  grind
theorem Sj{G:fv->Prop}{b:List ds}{a:List pf}{r d:Int}(h:∀g∈a,G ((2,(d,(g.1,(g.2.1,(g.2.2.1,()))))):fv)):∀s∈p0 d (EL b a r),G s:=by
 intro s e;unfold p0 at e;obtain⟨p,i,rfl⟩:=List.mem_map.1 e;rcases Mm a r b ([],[]) rfl p i with c|⟨v,_,c,k,n⟩;·cases c
 · rcases Ml (round:=r) (name:=v.1) a (-1) with f|⟨g,f,j,m,l⟩;· simp_all[A5,D9,D3,EL]
   · have :=h g f;rw[j,m,show g.2.1=A5 a r v.1 from l,<-n,<-k]at this;exact this
theorem PN{bl:List ao}{G:fv->Prop}{base:fp}{n:a0}{g:pf}(h:SI bl G base n)(j:G ((2,(n.2.1,(g.1,(g.2.1,(g.2.2.1,()))))):fv)):SI bl G base (u3 n g):=by
 have d:∀x∈sX (eD n) g,G ((2,(n.2.1,(x.1,(x.2.1,(x.2.2.1,()))))):fv):=λx i=>by
  rcases Mf i with b|b;·exact h.gn x b
  grind
 have a:SI bl G base (Ep n (sX (eD n) g)):=⟨h.Gz,h.kB,h.hq,h.tq,h.vt,d⟩;unfold u3;dsimp only;cases f:(s6 (bb n) (sX (eD n) g) g.1).2.1.1 with|false=>exact a|true=>obtain⟨_,c,e⟩:=E6 f;rw[e]at c⊢;exact Nt a c (Sj d)
theorem Oq{bl:List ao}{G:fv->Prop}{base:fp}{n:a0}{g:pf}{q:j8}(i:NW n)(h:SI bl G base n)(e:n.2.1<890)(j:FP q)(f:G ((2,(n.2.1,(g.1,(g.2.1,(g.2.2.1,()))))):fv))(c:∀s∈nv n.2.1 q,G s):SI bl G base (i0 n g q):=by unfold i0;cases b:(Ff (bb n) g.2.2.1&&uf (bb n) q) with|false=>exact h|true=>simp only[Bool.and_eq_true]at b;have a:=EZ i h e j b.2 c;cases d:gA (df n q).2.1 n.2.1 with|false=>exact a|true=>exact PN a (by rw[Cr.1 d];exact f)
theorem KX{bl:List ao}{G:fv->Prop}{base:fp}{n:a0}{b:ao}(o:NW n)(h:SI bl G base n)(m:n.2.1<890)(k:j7.Ok b)(i:dT b)(u:b∈bl)(q:∀s∈po n.2.1 b,G s):SI bl G base (cf n b):=by unfold cf;cases l:p7 n b with|false=>exact h|true=>
 have f:=N3 o.v.h.t l;have p:∀s∈nv n.2.1 (ia b),G s:=λs x=>q s (by unfold po;grind);have t:∀s∈p0 n.2.1 (o8 b),G s:=λs x=>q s (by unfold po;grind);obtain⟨y,B,v⟩:=EO o k i m l;have w:SI bl G base (kA n (qm (ar n) b)):=⟨h.Gz,λc a=>by
 rcases zs.1 a with d|d;·exact h.kB c d
 ·rw[d];exact⟨u,f.ep,f.qc,f.tc,f.fo,p,t⟩,h.hq,h.tq,h.vt,h.gn⟩;have d:SI bl G base (n8 n b):=EZ y w m (En.D7 k i) f.qc p;have g:SI bl G base (j4 n b):=by unfold j4;cases a:gA (n8 n b).2.1 n.2.1 with|false=>exact d|true=>
  have a:=Cr.1 a;have r:bb (n8 n b)=bb n:=by
   rcases v.a.ca with⟨_,_,e⟩|e;·exact e
   ·omega
  exact Nt d (by rw[r];exact f.tc) (by grind)
 obtain⟨j,A⟩:=EP o k i m l;show SI bl G base (A6 n b);unfold A6;cases a:(gA (j4 n b).2.1 n.2.1&&gA (bx (j4 n b)).2.1 b.1) with|false=>exact g|true=>simp only[Bool.and_eq_true]at a;have z:=Cr.1 a.1;exact EZ j g (by omega) (j.v.h.ok.D7 j.v.h.l) g.hq.1 g.hq.2
structure MG(G:fv->Prop)(m:gd):Prop where
 v:m.1=2->G (z0 (HE m).2.2.1 m.2.2.1 (HE m).1 (HE m).2.1)g:m.1=3->G ((2,(m.2.2.1,((HF m).1,((HF m).2.1,((HF m).2.2.1,()))))):fv)q:∀s∈nv m.2.2.1 (mQ m),G s
 t:∀s∈p0 m.2.2.1 (mT m),G s
 b:∀b∈l8 m,∀s∈po m.2.2.1 b,G s
theorem MG.mono{G d:fv->Prop}{m:gd}(h:MG G m)(a:∀s,G s->d s):MG d m:=⟨λe=>a _ (h.v e),λe=>a _ (h.g e),λs c=>a s (h.q s c),λs c=>a s (h.t s c),λb f s c=>a s (h.b b f s c)⟩
theorem IK{G:fv->Prop}{a:List ds}{name:ByteArray}{m:gd}{b:Int}(h:∀v∈a,MG G (C6 m v.1 b)):∀x∈mu a name m b,MG G x:=by intro x c;unfold mu at c;grind
theorem Ot{bl:List ao}{G:fv->Prop}{base:fp}{n:a0}{b:ao}(j:NW n)(h:SI bl G base n)(k:n.2.1<890)(a:j7.Ok b)(f:dT b)(o:b∈bl)(c:∀s∈po n.2.1 b,G s)(d:∀s∈(gk n b).2.2,G s):SI bl G base (gk n b).1/\∀m∈(gk n b).2.1,MG G m:=by have p:=KX j h k a f o c;obtain⟨g,r⟩:=ns j a f k;unfold gk at d⊢;cases i:A9 n b with|false=>grind|true=>rw[i]at d;simp only[cond_true,List.mem_singleton,forall_eq]at d;have q:=JQ i;have t:=q.ep;have l:=md g a.2.2.1;refine⟨Oo l (Mk p) (by show (cf n b).2.1<890;omega) ⟨a.2.2.1,a.1,g.v.h.ok.1,trivial⟩ (by show G (z0 (cf n b).1 (cf n b).2.1 b.2.2.1 b.1);grind),IK λv u=>⟨λ_=>(by show G (z0 (cf n b).1 (cf n b).2.1 b.2.2.1 b.1);grind),λe=>absurd (show (2:Int)=3 from e) (by decide),λs c=>(by cases c),λs c=>(by cases c),λb a=>(by cases a)⟩⟩
theorem Sl{bl:List ao}{G:fv->Prop}{base:fp}{n:a0}{m:gd}(k:NW n)(h:SI bl G base n)(y:n.2.1<890)(c:FK m)(q:∀b∈l8 m,b∈bl)(j:MG G m)(u:m.2.2.1=n.2.1):SI bl G base (u4 n m):=by
 obtain⟨⟨x,C⟩,⟨D,B⟩,_⟩:=De k c.ok c.l u y;have l:∀(f:List ao)(s:a0),(∀b∈f,b∈l8 m)->NW s->kj n s->SI bl G base s->SI bl G base (f.foldl (j3 m.2.2.1) s):=by intro f;induction f with|nil=>grind|cons b r E=>
  intro s p d g v;rw[List.foldl_cons];have i:=p b (by simp);have e:=c.ok.kp c.l b i;have A:NW (j3 m.2.2.1 s b)/\kj n (j3 m.2.2.1 s b)/\SI bl G base (j3 m.2.2.1 s b):=by unfold j3;cases a:gA s.2.1 m.2.2.1 with|false=>grind|true=>have a:=Cr.1 a;obtain⟨z,w⟩:=ns d e.1 e.2 (by omega);exact⟨z,g.trans w (by omega),KX d v (by omega) e.1 e.2 (q b i) (by rw[a];grind[MG.b])⟩
  simp_all
 have d:SI bl G base (qu n m):=l (l8 m) n (λb t=>t) k (kj.gj n) h;have g:SI bl G base (FJ n m):=by unfold FJ;cases a:(gA (qu n m).2.1 m.2.2.1&&uf (bb (qu n m)) (mQ m)) with|false=>exact d|true=>simp only[Bool.and_eq_true]at a;have o:=Cr.1 a.1;exact EZ x d (by omega) (c.ok.D7 c.l) a.2 (by rw[o];exact j.q)
 unfold u4;cases a:(gA (FJ n m).2.1 m.2.2.1&&FO (bb (FJ n m)) (mT m)) with|false=>exact g|true=>simp only[Bool.and_eq_true]at a;exact Nt g a.2 (by rw[Cr.1 a.1];exact j.t)
theorem Up{bl:List ao}{G:fv->Prop}{base:fp}{n:a0}{m:gd}(g:NW n)(h:SI bl G base n)(i:n.2.1<890)(a:FK m)(k:∀b∈l8 m,b∈bl)(f:MG G m)(c:m.2.2.1=n.2.1)(e:∀s∈(fl n m).2.2,G s):SI bl G base (fl n m).1/\∀x∈(fl n m).2.1,MG G x:=by unfold fl at e⊢;cases o:gA m.1 1 with
 |true=>rw[o]at e;have u:=a.pr (Cr.1 o);cases p:l8 m with|nil=>grind|cons b r=>
 rw[p]at e;have j:b∈l8 m:=by grind
 have l:=a.ok.kp a.l b j;exact Ot g h i l.1 l.2 (k b j) (by rw[<-c];grind[MG.b]) e
 |false=>cases q:gA m.1 2 with|true=>exact⟨Oo g h i a.ok.vo (by rw[<-c];exact f.v (Cr.1 q)),λx d=>by cases d⟩|false=>cases t:gA m.1 3 with|true=>exact⟨Oq g h i (a.ok.D7 a.l) (by rw[<-c];exact f.g (Cr.1 t)) (by rw[<-c];exact f.q),λx d=>by cases d⟩|false=>exact⟨Sl g h i a k f c,λx d=>by cases d⟩
theorem Sm{bl:List ao}{G:fv->Prop}{base:fp}{n:a0}(c:NW n)(h:SI bl G base n)(i:n.2.1<890)(a:∀s∈(fa n).2.2,G s):SI bl G base (fa n).1/\∀x∈(fa n).2.1,MG G x:=by unfold fa at a⊢;cases d:(Ff (bb n) n.1&&!dO (ad n) (fr n)) with|false=>grind|true=>rw[d]at a;simp only[cond_true,List.mem_singleton,forall_eq]at a;refine⟨Oq (md c c.v.h.round) (Mk h) i (c.v.h.ok.D7 c.v.h.l) a h.hq.2,IK λv j=>⟨λe=>absurd (show (3:Int)=2 from e) (by decide),λ_=>a,h.hq.2,λs g=>(by cases g),λb f=>(by cases f)⟩⟩
theorem Ou{bl:List ao}{G:fv->Prop}{base:fp}{n:a0}(h:SI bl G base n)(c:Int):∀s∈po n.2.1 (ie n c),G s:=by
 intro s d;unfold po at d;rcases List.mem_append.1 d with a|a;·exact h.hq.2 s a
 ·have e:o8 (ie n c)=Ej n:=rfl;rw[e]at a;unfold Ej at a;cases b:!gA (bx n).1 (gS .i64 (ad n) 1)with|true=>rw[b]at a;exact h.tq.2 s a|false=>rw[b]at a;cases a
theorem Uq{bl:List ao}{G:fv->Prop}{base:fp}{n:a0}{a:Int}(i:NW n)(h:SI bl G base n)(u:n.2.1<890)(l:(Lit.int .i64 a).wf=true)(f:∀b∈(ee n a).2.1,b∈bl)(g:∀s∈(ee n a).2.2.2,G s):SI bl G base (ee n a).1/\∀x∈(ee n a).2.2.1,MG G x:=by obtain⟨p,r⟩:=sv i.v.h l;unfold ee at f g⊢;cases o:Fo n a with|false=>grind|true=>
 rw[o]at f g;have k:ie n a∈bl:=f _ (List.mem_cons_self ..);have j:=Ou h a;obtain⟨t,y⟩:=Ot (s7 i i.v.h.round) (J2 (v:=ad n) h) u p r k j g;refine⟨t,λx d=>?_⟩;rcases List.mem_append.1 d with d|d;·refine IK (m:=ov (ie n a) n.2.1) (λv w=>?_) x d;exact⟨λe=>absurd (show (1:Int)=2 from e) (by decide),λe=>absurd (show (1:Int)=3 from e) (by decide),λs c=>(by cases c),λs c=>(by cases c),λb q s c=>by rw[List.mem_singleton.1 q]at c;exact j s c⟩
 grind
def GW(w:ek)(s:fv):Prop:=j0 (c8 w) s.2.2.2.2.1=true\/s∈gl w
structure SW(w:ek):Prop where
 nd:∀n∈aa w,SI (ab w) (GW w) (ev w) n
 A1:∀m∈dt w,MG (GW w) m
theorem q9.c5{bl:List ao}{G:fv->Prop}{base:fp}{f:List tB}{S:List ds}{L:fp}{d:List D3}(h:q9 bl G base f S L d):∀p∈f,(∀b∈i5 p,∃j,BA G j p.1 b)/\∀s∈nv p.1 (pQ p),G s:=by induction h with|nil=>grind|KW f S L t d q l a b p c r _ k g u n m o=>
 intro x e;rcases List.mem_append.1 e with e|e;·grind
 · rw[List.mem_singleton.1 e];refine⟨λy i=>?_,g.qa⟩;rcases List.mem_append.1 i with h|h;· exact⟨S,(g.ch.dr y h).2⟩
   · rw[List.mem_singleton.1 h];exact⟨S,g.ba⟩
theorem Mn{G:fv->Prop}{S:List ds}{c:Int}{b:ao}(h:BA G S c b):∀s∈po c b,G s:=by
 intro s d;unfold po at d;rcases List.mem_append.1 d with a|a;·exact h.qa s a
 grind[BA.ta]
theorem IL{bl:List ao}{G:fv->Prop}{base:fp}{n:a0}(h:SI bl G base n)(a:Int)(j:ByteArray)(i:(fz n a j).2.1.1=true):MG G (fz n a j).1:=by unfold fz at i⊢;cases d:gA a n.2.1 with|true=>have d:=Cr.1 d;refine⟨λe=>absurd (show (4:Int)=2 from e) (by decide),λe=>absurd (show (4:Int)=3 from e) (by decide),λs c=>h.hq.2 s (by rw[<-d];exact c),λs c=>h.tq.2 s (by rw[<-d];exact c),λb g=>?_⟩;show∀s∈po a b,G s;rw[d];exact Mn (h.kB b g).2|false=>rw[d]at i;cases k:(bk n).find? (λp=>gA p.1 a)with|none=>grind|some p=>have o:=List.mem_of_find?_eq_some k;have f:=List.find?_some k;have f:p.1=a:=Cr.1 f;obtain⟨u,l,_⟩:=h.Gz;obtain⟨m,q⟩:=l.c5 p o;simp only[cond_false];refine⟨λe=>absurd (show (4:Int)=2 from e) (by decide),λe=>absurd (show (4:Int)=3 from e) (by decide),λs c=>q s (by rw[f];exact c),λs c=>(by cases c),λb g=>?_⟩;obtain⟨t,r⟩:=m b g;show∀s∈po a b,G s;rw[<-f];exact Mn r
theorem Sn{w:ek}{m:gd}{v:List ao}(q:FL w m v):MG (GW w) m:=by
 have H:=WW q.ok;have a:=H.kd;have p:=q.sg;unfold Gr at p;have d:∀s∈Bk m,GW w s:=λs i=>by
  have :=List.all_eq_true.1 p s i;simp only[Bool.or_eq_true]at this;rcases this with h|h;·exact .inl h
  ·refine .inr ?_;unfold B4 at h;obtain⟨x,Q,j⟩:=List.any_eq_true.1 h;unfold LV at j;simp only[Bool.and_eq_true]at j;obtain⟨K,A,f,I,G⟩:=j;obtain⟨r,C,B,u,J,_⟩:=x;obtain⟨y,z,D,F,t,_⟩:=s;have N:r=y:=Cr.1 K;have O:C=z:=Cr.1 A;have M:B=D:=Cr.1 f;have R:u=F:=Cr.1 I;have P:J=t:=ow.1 G;grind
 unfold Bk at d;refine⟨λe=>?_,λe=>?_,λs i=>d s ?_,λs i=>d s ?_,λb L s i=>d s ?_⟩
 · unfold xC at a;rw[e]at a;have n:gA (2:Int) 1=false:=rfl;have l:gA (2:Int) 2=true:=rfl;rw[n,l]at a;simp only[cond_true,cond_false,Bool.and_eq_true]at a;have c:=a.2.1;unfold TX at c;simp only[Bool.and_eq_true]at c;have o:ko (HE m).2.2.1 ⟨#[]⟩=false:=by cases k:ko (HE m).2.2.1 ⟨#[]⟩with|false=>rfl|true=>have f:m.2.2.2.2.2.2.1=⟨#[]⟩:=ow.1 k;have g:=c.2.2;rw[f]at g;exact absurd g (by decide)
   refine d _ (List.mem_append_left _ ?_);rw[o];exact List.mem_cons_self ..
 · unfold xC at a;rw[e]at a;have n:gA (3:Int) 1=false:=rfl;have l:gA (3:Int) 2=false:=rfl;have E:gA (3:Int) 3=true:=rfl;rw[n,l,E]at a;simp only[cond_true,cond_false,Bool.and_eq_true]at a;have c:=a.2.2.1;unfold Wm at c;simp only[Bool.and_eq_true]at c;have o:ko (HF m).2.2.1 ⟨#[]⟩=false:=by cases k:ko (HF m).2.2.1 ⟨#[]⟩with|false=>rfl|true=>have f:m.2.2.2.2.2.2.2.2.2.1=⟨#[]⟩:=ow.1 k;have g:=c.2.2.2;rw[f]at g;exact absurd g (by decide)
   grind
 · grind
 · grind
 grind
theorem KY{w a:ek}{n':a0}{ms:List gd}{j:Nat}(h:SW w)(p:j<(aa w).length)(f:aa a=(aa w).set j n')(o:c8 a=c8 w)(l:ev a=ev w)(k:∀b∈ab w,b∈ab a)(g:∀s∈gl w,s∈gl a)(q:SI (ab a) (GW a) (ev w) n') (r:∀m∈ms,MG (GW a) m) (i:∀m∈dt a,m∈dt w\/m∈ms):SW a:=by
 have e:∀s,GW w s->GW a s:=λs n=>by
  rcases n with c|c;·exact .inl (by grind)
  ·exact .inr (g s c)
 refine⟨λx d=>?_,λm d=>?_⟩
 · rw[f]at d;rw[l];rcases List.mem_or_eq_of_mem_set d with c|rfl;· exact (h.nd x c).mono k e
   omega
 · rcases i m d with c|c;· exact (h.A1 m c).mono e
   grind
theorem Mo{E S:Nat}{R:Int}{w:ek}{m:gd}(h:WI E S w)(B:E<890)(e:SW w)(v:FK m)(o:MR R (ab w) m)(u:s8 (aa w) m.2.1=true)(p:MG (GW w) m):SW (mh w m):=by obtain⟨j,g,_,C,q⟩:=D0 u;obtain⟨z,A⟩:=h.nd _ (List.getElem_mem g);rw[q];cases y:gA (aa w)[j].2.1 m.2.2.1 with|false=>exact e|true=>
 have n:=Cr.1 y;simp only[cond_true];generalize c:Er (j5 w j (fl (aa w)[j] m).1) (fl (aa w)[j] m).2.1 (fl (aa w)[j] m).2.2=f;have i:∀s,GW w s->GW f s:=λs a=>by
  rw[<-c];rcases a with a|a;·exact .inl a
  ·exact .inr (ej.2 (.inl a))
 have r:∀s∈(fl (aa w)[j] m).2.2,GW f s:=λs a=>by rw[<-c];exact .inr (ej.2 (.inr a))
 obtain⟨l,t⟩:=Up (bl:=ab w) (G:=GW f) z ((e.nd _ (List.getElem_mem g)).mono (λb d=>d) i) (by omega) v o.bs (p.mono i) n.symm r;refine KY (ms:=(fl (aa w)[j] m).2.1) (n':=(fl (aa w)[j] m).1) e g (by rw[<-c];rfl) (by rw[<-c];rfl) (by rw[<-c];rfl) (λb d=>by rw[<-c];exact d) (λs a=>by rw[<-c];exact ej.2 (.inl a)) (by rw[<-c] at l⊢;exact l) t (λx k=>?_);rw[<-c] at k;rcases mb k with a|a;·exact .inl a
 grind
theorem IM{w:ek}(h:SW w)(k:Nat):SW (vl w k):=⟨h.nd,λm a=>h.A1 m (G7 a)⟩
theorem Ur{E S:Nat}{w:ek}(h:WI E S w)(y:E<890)(i:SW w){j:Nat}(f:j<(aa w).length):SW (Fp w j (aa w)[j]):=by
 obtain⟨t,v⟩:=h.nd _ (List.getElem_mem f);have u:=h.bl;have l:=B7 (n:=(ab w).length) (by omega);generalize c:Fp w j (aa w)[j]=d;have g:∀b∈ab w,b∈ab d:=λb e=>by rw[<-c];exact List.mem_append_left _ e
 have m:∀s,GW w s->GW d s:=λs a=>by
  rw[<-c];rcases a with a|a;·exact .inl a
  ·exact .inr (ej.2 (.inl a))
 have p:∀s∈(ee (aa w)[j] ((ab w).length:Int)).2.2.2,GW d s:=λs a=>by rw[<-c];exact .inr (ej.2 (.inr a))
 have o:∀b∈(ee (aa w)[j] ((ab w).length:Int)).2.1,b∈ab d:=λb e=>by rw[<-c];exact List.mem_append_right _ e
 obtain⟨r,q⟩:=Uq (bl:=ab d) (G:=GW d) t ((i.nd _ (List.getElem_mem f)).mono g m) (by omega) l o p;refine KY (ms:=(ee (aa w)[j] ((ab w).length:Int)).2.2.1) (n':=(ee (aa w)[j] ((ab w).length:Int)).1) i f (by rw[<-c];rfl) (by rw[<-c];rfl) (by rw[<-c];rfl) g (λs a=>by rw[<-c];exact ej.2 (.inl a)) r q (λx k=>?_);rw[<-c]at k;rcases mb k with a|a;·grind
 grind
theorem So{E S:Nat}{w:ek}(h:WI E S w)(q:E<890)(g:SW w){j:Nat}(e:j<(aa w).length):SW (B5 w j (aa w)[j]):=by
 obtain⟨p,r⟩:=h.nd _ (List.getElem_mem e);generalize c:B5 w j (aa w)[j]=d;have f:∀b∈ab w,b∈ab d:=λb m=>by rw[<-c];exact m
 have o:∀s,GW w s->GW d s:=λs a=>by
  rw[<-c];rcases a with a|a;·exact .inl a
  ·exact .inr (ej.2 (.inl a))
 have n:∀s∈(fa (aa w)[j]).2.2,GW d s:=λs a=>by rw[<-c];exact .inr (ej.2 (.inr a))
 obtain⟨k,l⟩:=Sm (bl:=ab d) (G:=GW d) p ((g.nd _ (List.getElem_mem e)).mono f o) (by omega) n;refine KY (ms:=(fa (aa w)[j]).2.1) (n':=(fa (aa w)[j]).1) g e (by rw[<-c];rfl) (by rw[<-c];rfl) (by rw[<-c];rfl) f (λs a=>by rw[<-c];exact ej.2 (.inl a)) k l (λx i=>?_);rw[<-c]at i;rcases mb i with a|a;·exact .inl a
 grind
theorem Ov{w:ek}(a:SW w){j:Nat}(e:j<(aa w).length){n:a0}(c:SI (ab w) (GW w) (ev w) n):SW (j5 w j n):=⟨λx d=>by
 rcases List.mem_or_eq_of_mem_set d with b|rfl;·exact a.nd x b
 ·exact c,a.A1⟩
theorem Mp{bl:List ao}{G:fv->Prop}{base:fp}{n:a0}{q:List cl}(h:SI bl G base n):SI bl G base (Es n q):=⟨h.Gz,h.kB,h.hq,h.tq,h.vt,h.gn⟩
theorem Sp{bl:List ao}{G:fv->Prop}{base:fp}{n:a0}(h:SI bl G base n):SI bl G base (Ep n []):=⟨h.Gz,h.kB,h.hq,h.tq,h.vt,λv a=>(by cases a)⟩
theorem Us{bl:List ao}{G:fv->Prop}{base:fp}{n:a0}(h:SI bl G base n):SI bl G base (EC n):=Mp (Sp (Mj h (λv a=>by cases a)))
theorem qL.sw{E S:Nat}{R:Int}{w t:ek}(s:qL w t)(h:WI E S w)(u:E<890)(g:WR R w)(a:SW w):SW t:=by cases s with
 |same=>exact a|Eb m l B=>
 refine⟨a.nd,λx f=>?_⟩;rcases List.mem_append.1 f with d|d;·exact a.A1 x d
 ·rw[List.mem_singleton.1 d];exact a.A1 m l|drop k=>grind[IM]|ti k e=>have l:=h.nm _ (List.getElem_mem e);exact Mo (pt h k) u (IM a k) l.1 (g.A1 _ (List.getElem_mem e)) l.2 (a.A1 _ (List.getElem_mem e))|Jx j c r=>grind[Ur]|Fq j c=>grind[So]|IC j c k e=>unfold B6;cases o:(fz (aa w)[j] (aa w)[k].2.1 (aa w)[k].1).2.1.1 with|false=>exact a|true=>
 refine⟨a.nd,λx f=>?_⟩;rcases mb f with d|d;·exact a.A1 x d
 ·rw[List.mem_singleton.1 d.1];exact IL (a.nd _ (List.getElem_mem c)) _ _ o|EU j c q _ _ _=>exact Ov a c (Mp (a.nd _ (List.getElem_mem c)))|FM j c=>exact Ov a c (Us (a.nd _ (List.getElem_mem c)))|ID m z o _=>
 have n:∀s,GW w s->GW (u5 w m z) s:=λs d=>d;refine⟨λx f=>(a.nd x f).mono (λb r=>List.mem_append_left _ r) n,λx f=>?_⟩;rcases mb f with d|d;·exact (a.A1 x d).mono n
 ·rw[List.mem_singleton.1 d.1];exact (Sn o).mono n|Gv j c k e i=>obtain⟨v,A⟩:=h.nd _ (List.getElem_mem c);obtain⟨p,_⟩:=h.nd _ (List.getElem_mem e);have y:=w6 _ _ _ i;exact Mo h u a (p8 v p.v.h.ok.2.1 p.v.h.ok.1 i) (D1 g.bl (g.nd _ (List.getElem_mem c)) v (by omega) g.r0 (g.nd _ (List.getElem_mem e)).nm i) (by rw[y.1];exact E9 e) (IL (a.nd _ (List.getElem_mem c)) _ _ i)
structure Mv(n m:a0):Prop where
 le:n.2.1<=m.2.1
 pa:bk n<+:bk m
 hi:m.2.1=n.2.1->(bx n).1<=(bx m).1
 tr:m.2.1=n.2.1->∀b∈ar n,b∈ar m
theorem Mv.gj(n:a0):Mv n n:=⟨Int.le_refl _,by grind,by omega,by grind⟩
theorem Mv.trans{a b c:a0}(h:Mv a b)(k:Mv b c):Mv a c:=by have f:=h.le;have g:=k.le;refine⟨by omega,h.pa.trans k.pa,λe=>?_,λe x d=>k.tr (by omega) x (h.tr (by omega) x d)⟩;have j:=h.hi (by omega);have i:=k.hi (by omega);omega
theorem Ut(n:a0)(q:j8)(g:fp)(d:List D3)(b:ao):(Jt n q g d b).2.1=(k0 g).1:=by unfold Jt Rn;rfl
theorem Uu(n:a0)(q:j8)(g:fp)(d:List D3)(b:ao):bk (Jt n q g d b)=bk n++[B2 n q]:=by unfold Jt Rn;rfl
theorem PO{n:a0}{q:j8}(a:NW n)(t:n.2.1<890):Mv n (ks n q)/\((ks n q).2.1=n.2.1->bx (ks n q)=bx n):=by
 have k:=a.e0;rcases w0 n.2.1.toNat n.2.1.toNat n q a.v (by omega)with⟨_,e⟩|⟨i,⟨l,e⟩|⟨p,c,r,o,j,u,s,e,m⟩⟩;·rw[e];exact⟨Mv.gj _,λ_=>rfl⟩
 ·rw[e];exact⟨⟨Int.le_refl _,List.prefix_refl _,λ_=>Int.le_refl _,λ_ b f=>f⟩,λ_=>rfl⟩
 ·rw[e];have g:=(Ut n q (nr (gq n) (p++[c])) (i4 (nx n) (ic (p++[c]))) c).trans m;have d:=Uu n q (nr (gq n) (p++[c])) (i4 (nx n) (ic (p++[c]))) c;generalize Jt n q (nr (gq n) (p++[c])) (i4 (nx n) (ic (p++[c]))) c=x at g d;refine⟨⟨by omega,by grind,λh=>?_,λh=>?_⟩,λh=>?_⟩<;>omega
theorem D4{n:a0}{q:j8}(a:NW n)(o:FP q)(i:n.2.1<890):Mv n (df n q)/\((df n q).2.1=n.2.1->q.1<=(bx (df n q)).1):=by
 have d:NW (ma n q):=NW.Qf (Gk a.v o) a.e0 a.pa;have l:(bx n).1<=(bx (ma n q)).1/\q.1<=(bx (ma n q)).1:=by have e:bx (ma n q)=zd n q:=rfl;rw[e];unfold zd;cases c:dO (bx n).1 q.1 with|true=>have :=Cp.1 c;grind|false=>have :=Au.1 c;grind
 have k:Mv n (ma n q):=⟨Int.le_refl _,List.prefix_refl _,λ_=>l.1,λ_ b j=>j⟩;have m:(ma n q).2.1=n.2.1:=rfl;obtain⟨g,f⟩:=PO (q:=q) d i;unfold df;rw[m]at f;exact⟨k.trans g,λh=>by grind⟩
theorem Sq(n:a0)(t:sM):Mv n (KK n t):=⟨Int.le_refl _,List.prefix_refl _,λ_=>Int.le_refl _,λ_ b a=>a⟩
theorem Mq(n:a0)(v:Int):Mv n (pn n v):=⟨Int.le_refl _,List.prefix_refl _,λ_=>Int.le_refl _,λ_ b a=>a⟩
theorem PQ(n:a0)(v:Int):Mv n (n7 n v):=⟨Int.le_refl _,List.prefix_refl _,λ_=>Int.le_refl _,λ_ b a=>a⟩
theorem IN(n:a0)(v:List tb):Mv n (C5 n v):=⟨Int.le_refl _,List.prefix_refl _,λ_=>Int.le_refl _,λ_ b a=>a⟩
theorem IP(n:a0)(v:List pf):Mv n (Ep n v):=⟨Int.le_refl _,List.prefix_refl _,λ_=>Int.le_refl _,λ_ b a=>a⟩
theorem Mr(n:a0)(v:List cl):Mv n (Es n v):=⟨Int.le_refl _,List.prefix_refl _,λ_=>Int.le_refl _,λ_ b a=>a⟩
theorem KZ{n:a0}{b:ao}(m:NW n)(j:j7.Ok b)(g:dT b)(k:n.2.1<890):Mv n (cf n b)/\(p7 n b=true->(cf n b).2.1=n.2.1->(ia b).1<=(bx (cf n b)).1/\b∈ar (cf n b)):=by unfold cf;cases l:p7 n b with|false=>exact⟨Mv.gj n,λh=>by cases h⟩|true=>
 obtain⟨t,B,x⟩:=EO m j g k l;have p:Mv n (kA n (qm (ar n) b)):=⟨Int.le_refl _,List.prefix_refl _,λ_=>Int.le_refl _,λ_ c d=>zs.2 (.inl d)⟩;obtain⟨r,o⟩:=D4 t (En.D7 j g) k;have q:Mv (n8 n b) (j4 n b):=by unfold j4;cases gA (n8 n b).2.1 n.2.1 with|false=>exact Mv.gj _|true=>exact Sq _ _
 obtain⟨i,z⟩:=EP m j g k l;have s:Mv (j4 n b) (A6 n b):=by unfold A6;cases d:(gA (j4 n b).2.1 n.2.1&&gA (bx (j4 n b)).2.1 b.1) with|false=>exact Mv.gj _|true=>simp only[Bool.and_eq_true]at d;have w:=Cr.1 d.1;exact (D4 i (i.v.h.ok.D7 i.v.h.l) (by omega)).1
 have a:Mv (n8 n b) (A6 n b):=q.trans s;have f:Mv (kA n (qm (ar n) b)) (n8 n b):=r;refine⟨(p.trans f).trans a,λ_ e=>?_⟩;have C:=f.le;have A:=a.le;have v:(kA n (qm (ar n) b)).2.1=n.2.1:=rfl;have e:(A6 n b).2.1=n.2.1:=e;have u:(ia b).1<=(bx (n8 n b)).1:=o (by show (n8 n b).2.1=n.2.1;omega);have y:=a.hi (by omega);refine⟨by grind,a.tr (by omega) b (f.tr (by omega) b (zs.2 (.inr rfl)))⟩
theorem Ow{n:a0}{v:tb}(a:NW n)(e:n.2.1<890)(b:Hq.Ok v):Mv n (tA n v):=by have d:=Gl a.v.vo a.v.h.ok.e8 b;have c:=C9 a d (E8 a.v.vo);unfold tA;cases Ff (bb n) v.2.2.1 with|false=>exact Mv.gj n|true=>cases f:sn (bb n) (qf (ei n) v) v.1 v.2.1 with|false=>exact IN _ _|true=>exact (IN n (qf (ei n) v)).trans (D4 c (C8 (bb n) (qf (ei n) v) v.1 v.2.1 a.v.h.ok.set a.v.h.l.2.1 b.1 b.2.1) e).1
theorem PR(n:a0)(g:pf):Mv n (u3 n g):=by unfold u3;dsimp only;cases (s6 (bb n) (sX (eD n) g) g.1).2.1.1 with|false=>exact IP _ _|true=>exact (IP n (sX (eD n) g)).trans (Sq _ _)
theorem Ox{n:a0}{g:pf}{q:j8}(b:NW n)(a:n.2.1<890)(c:FP q):Mv n (i0 n g q):=by unfold i0;cases (Ff (bb n) g.2.2.1&&uf (bb n) q) with|false=>exact Mv.gj n|true=>cases gA (df n q).2.1 n.2.1 with|false=>exact (D4 b c a).1|true=>exact (D4 b c a).1.trans (PR _ _)
theorem Uv{n:a0}{b:ao}(f:NW n)(a:j7.Ok b)(c:dT b)(g:n.2.1<890):Mv n (gk n b).1/\(A9 n b=true->Mv (cf n b) (gk n b).1):=by obtain⟨d,l⟩:=ns f a c g;have i:=(KZ f a c g).1;unfold gk;cases h:A9 n b with|false=>grind|true=>have j:=JQ h;have k:=j.ep;have e:Mv (cf n b) (tA (pn (cf n b) b.2.2.1) (b.2.2.1,(b.1,((cf n b).1,())))):=(Mq (cf n b) b.2.2.1).trans (Ow (md d a.2.2.1) (by show (cf n b).2.1<890;omega) ⟨a.2.2.1,a.1,d.v.h.ok.1,trivial⟩);exact⟨i.trans e,λ_=>e⟩
theorem Sr{n:a0}{m:gd}(h:NW n)(t:n.2.1<890)(a:FK m)(l:m.2.2.1=n.2.1):Mv n (u4 n m):=by
 obtain⟨⟨q,y⟩,⟨z,x⟩,_⟩:=De h a.ok a.l l t;have i:∀(f:List ao)(s:a0),(∀b∈f,b∈l8 m)->NW s->kj n s->Mv n s->Mv n (f.foldl (j3 m.2.2.1) s):=by intro f;induction f with|nil=>grind|cons b r A=>
  intro s j d g o;rw[List.foldl_cons];have e:=a.ok.kp a.l b (j b (by simp));have v:NW (j3 m.2.2.1 s b)/\kj n (j3 m.2.2.1 s b)/\Mv n (j3 m.2.2.1 s b):=by unfold j3;cases c:gA s.2.1 m.2.2.1 with|false=>grind|true=>have c:=Cr.1 c;obtain⟨u,p⟩:=ns d e.1 e.2 (by omega);exact⟨u,g.trans p (by omega),o.trans (KZ d e.1 e.2 (by omega)).1⟩
  simp_all
 have d:Mv n (qu n m):=i (l8 m) n (λb k=>k) h (kj.gj n) (Mv.gj n);have g:Mv n (FJ n m):=by unfold FJ;cases c:(gA (qu n m).2.1 m.2.2.1&&uf (bb (qu n m)) (mQ m)) with|false=>exact d|true=>simp only[Bool.and_eq_true]at c;have w:=Cr.1 c.1;exact d.trans (D4 q (a.ok.D7 a.l) (by omega)).1
 unfold u4;cases c:(gA (FJ n m).2.1 m.2.2.1&&FO (bb (FJ n m)) (mT m)) with|false=>exact g|true=>exact g.trans (Sq _ _)
structure By(bl:List ao)(G:fv->Prop)(base:fp)(n n':a0)(sg:List fv):Prop where
 mv:Mv n n'
 vote:∀s∈sg,s.1=1->∃c5 S L d l b,c5<+:bk n'/\(c5.length:Int)=s.2.1/\q9 bl G base c5 S L d/\j6 bl G S s.2.1 b.1 (l++[b])/\b.1=s.2.2.2.1/\b.2.2.1=s.2.2.1/\(n'.2.1=n.2.1->(ia b).1<=(bx n').1)W0:∀s∈sg,s.1=2->s.2.2.2.1=(bx n).1/\(n.2.1<n'.2.1\/(n'.2.1=n.2.1/\s.2.2.1<=fr n'))
theorem By.none{bl:List ao}{G:fv->Prop}{base:fp}{n n':a0}(h:Mv n n'):By bl G base n n' []:=⟨h,by grind,by grind⟩
theorem Oy{bl:List ao}{G:fv->Prop}{base:fp}{n:a0}{b:ao}(f:NW n)(h:SI bl G base n)(d:n.2.1<890)(c:j7.Ok b)(a:dT b)(u:b∈bl)(v:∀s∈po n.2.1 b,G s):By bl G base n (gk n b).1 (gk n b).2.2:=by
 obtain⟨p,y⟩:=Uv f c a d;have j:=KX f h d c a u v;obtain⟨o,D⟩:=ns f c a d;have z:=(KZ f c a d).2
 cases m:A9 n b with|false=>
 have e:(gk n b).2.2=[]:=by unfold gk;grind
 rw[e];exact By.none p|true=>
 have q:=JQ m;have i:=q.ep;have r:=y m;obtain⟨B,k⟩:=z q.tk i;have e:(gk n b).2.2=[z0 (cf n b).1 n.2.1 b.2.2.1 b.1]:=by unfold gk;grind
 rw[e];refine⟨p,λs g _=>?_,λs g t=>?_⟩
 · rw[List.mem_singleton.1 g];obtain⟨w,x,_⟩:=j.Gz;have l:=o.v.h.t;have A:=kk l k;refine⟨bk (cf n b),bb (cf n b),gq (cf n b),w,ct (ar (cf n b)) (ia b).2.1,b,r.pa,?_,x,?_,rfl,rfl,λC=>?_⟩;· rw[o.pa];exact i
   · have :=Om l j.kB b.1 (.inr ⟨b,k,rfl⟩);rw[A,i]at this;exact this
   · have :=r.hi (by omega);omega
 · rw[List.mem_singleton.1 g]at t;exact absurd (show (1:Int)=2 from t) (by decide)
theorem Uw{bl:List ao}{G:fv->Prop}{base:fp}{n:a0}{m:gd}(c:NW n)(h:SI bl G base n)(d:n.2.1<890)(a:FK m)(i:∀b∈l8 m,b∈bl)(p:MG G m)(g:m.2.2.1=n.2.1):By bl G base n (fl n m).1 (fl n m).2.2:=by unfold fl;cases j:gA m.1 1 with
 |true=>have k:=a.pr (Cr.1 j);cases l:l8 m with|nil=>grind|cons b r=>
 have e:b∈l8 m:=by grind
 have f:=a.ok.kp a.l b e;exact Oy c h d f.1 f.2 (i b e) (by rw[<-g];grind[MG.b])
 |false=>cases o:gA m.1 2 with|true=>exact By.none (Ow c d a.ok.vo)|false=>cases q:gA m.1 3 with|true=>exact By.none (Ox c d (a.ok.D7 a.l))|false=>exact By.none (Sr c d a g)
theorem Ss{bl:List ao}{G:fv->Prop}{base:fp}{n:a0}(a:NW n)(f:n.2.1<890):By bl G base n (fa n).1 (fa n).2.2:=by unfold fa;cases l:(Ff (bb n) n.1&&!dO (ad n) (fr n)) with|false=>exact By.none (Mv.gj n)|true=>
 have c:=md a a.v.h.round;have i:Mv n (i0 (pn n (ad n)) (EM n) (bx n)):=(Mq n (ad n)).trans (Ox c f (a.v.h.ok.D7 a.v.h.l));refine⟨i,λs b d=>?_,λs b _=>?_⟩;·rw[List.mem_singleton.1 b]at d;exact absurd (show (2:Int)=1 from d) (by decide)
 · rw[List.mem_singleton.1 b];refine⟨rfl,?_⟩;obtain⟨m,h⟩:=Gm (g:=EM n) c (a.v.h.ok.D7 a.v.h.l) (HM a.v.h.ok) f;rcases h.a.ca with⟨j,k,_⟩|e;· exact .inr ⟨j,Int.le_of_eq k.symm⟩
   · exact .inl e
theorem Ux{bl:List ao}{G:fv->Prop}{base:fp}{n:a0}{a:Int}(e:NW n)(h:SI bl G base n)(l:n.2.1<890)(g:(Lit.int .i64 a).wf=true)(d:∀b∈(ee n a).2.1,b∈bl):By bl G base n (ee n a).1 (ee n a).2.2.2:=by obtain⟨j,k⟩:=sv e.v.h g;unfold ee at d⊢;cases i:Fo n a with|false=>exact By.none (Mv.gj n)|true=>rw[i]at d;have f:ie n a∈bl:=d _ (List.mem_cons_self ..);have c:=Oy (s7 e e.v.h.round) (J2 (v:=ad n) h) l j k f (Ou h a);exact⟨(PQ n (ad n)).trans c.mv,c.vote,c.W0⟩
def Oz(w:ek)(s:fv):Prop:=∃n∈aa w,s.2.2.2.2.1=n.1/\∃a S L d l b,a<+:bk n/\(a.length:Int)=s.2.1/\q9 (ab w) (GW w) (ev w) a S L d/\j6 (ab w) (GW w) S s.2.1 b.1 (l++[b])/\b.1=s.2.2.2.1/\b.2.2.1=s.2.2.1
structure VW(w:ek):Prop where
 vote:∀s∈gl w,s.1=1->Oz w s
 hi:∀n∈aa w,∀s∈gl w,s.1=1->s.2.2.2.2.1=n.1->s.2.1=n.2.1->∃b∈ab w,b.1=s.2.2.2.1/\(ia b).1<=(bx n).1
 go:∀n∈aa w,∀s∈gl w,s.1=2->s.2.2.2.2.1=n.1->s.2.1<n.2.1\/(s.2.1=n.2.1/\s.2.2.1<=fr n)W2:∀s∈gl w,∀t∈gl w,s.1=1->t.1=2->s.2.2.2.2.1=t.2.2.2.2.1->s.2.1=t.2.1->s.2.2.1<=t.2.2.1->∃b∈ab w,b.1=s.2.2.2.1/\(ia b).1<=t.2.2.2.1
theorem PM.Uy{an:List D9}{a:List a0}(h:PM an a){j:Nat}(g:j<a.length){n':a0}(e:n'.1=a[j].1){x:a0}(f:x∈a.set j n'):x=n'\/(x∈a/\x.1≠n'.1):=by
 obtain⟨i,k,rfl⟩:=List.getElem_of_mem f;rw[List.getElem_set];split;·grind
 ·next c=>
 have b:i<a.length:=by grind
 refine .inr ⟨List.getElem_mem b,λd=>c ?_⟩;rw[e]at d;grind[Fg]
theorem Oz.dp{w a:ek}{n':a0}{j:Nat}{s:fv}(h:Oz w s)(C:j<(aa w).length)(q:Mv (aa w)[j] n')(A:n'.1=(aa w)[j].1)(k:aa a=(aa w).set j n')(o:ev a=ev w)(f:∀b∈ab w,b∈ab a)(g:∀s,GW w s->GW a s):Oz a s:=by
 obtain⟨n,v,e,m,S,L,d,l,b,u,y,r,x,t,z⟩:=h;obtain⟨i,B,rfl⟩:=List.getElem_of_mem v;have p:i<(aa a).length:=by grind
 have c:=r.mono f g;rw[<-o] at c;refine⟨(aa a)[i],List.getElem_mem p,?_,m,S,L,d,l,b,?_,y,c,x.mono f g,t,z⟩;·grind
 · simp only[k,List.getElem_set];split;· next h=>subst h;exact u.trans q.pa
   omega
theorem HS{w g:ek}{n':a0}{z:List fv}{an:List D9}{j:Nat}(h:VW w)(δ:w4 w)(Y:PM an (aa w))(G:j<(aa w).length)(e:p9 (aa w)[j] n' z)(v:By (ab g) (GW g) (ev w) (aa w)[j] n' z)(C:aa g=(aa w).set j n') (κ:c8 g=c8 w) (P:ev g=ev w) (Q:∀b∈ab w,b∈ab g) (o:∀s,s∈gl g↔s∈gl w\/s∈z):VW g:=by
 have β:∀s,GW w s->GW g s:=λs e=>by
  rcases e with f|f;·exact .inl (by grind)
  ·exact .inr ((o s).2 (.inl f))
 have F:=v.mv;have p:=List.getElem_mem G;have V:n'∈aa g:=by rw[C];exact List.mem_iff_getElem.2 ⟨j,by grind,by simp⟩
 have W:∀{O:Int}{r:Int},(∃b∈ab w,b.1=O/\(ia b).1<=r)->∃b∈ab g,b.1=O/\(ia b).1<=r:=λ⟨b,f,c⟩=>⟨b,Q b f,c⟩;have N:∀x∈aa g,x=n'\/(x∈aa w/\x.1≠n'.1):=λx U=>by rw[C] at U;exact Y.Uy G e.nm U
 refine⟨λs k f=>?_,λn I s k f i H=>?_,λn I s k f i=>?_,λs k t Z f c i H σ=>?_⟩
 · rcases (o s).1 k with c|c;· exact (h.vote s c f).dp G F e.nm C P Q β
   · obtain⟨M,S,L,d,l,b,B,A,y,J,K,T,_⟩:=v.vote s c f;rw[<-P] at y;exact⟨n',V,by rw[(e.GH s c).1,e.nm],M,S,L,d,l,b,B,A,y,J,K,T⟩
 · rcases N n I with rfl|⟨E,D⟩
   · rcases (o s).1 k with c|c
     · have R:=i.trans e.nm;have μ:=δ.Z6 s c f _ p R;have θ:=F.le;have α:s.2.1=(aa w)[j].2.1:=by omega
       obtain⟨b,B,A,y⟩:=h.hi _ p s c f R α;have :=F.hi (by omega);grind
     · obtain⟨M,S,L,d,l,b,B,A,y,J,K,T,ε⟩:=v.vote s c f;have :=(e.GH s c).2;exact⟨b,(J.dr b (by simp)).1,K,ε (by omega)⟩
   · rcases (o s).1 k with c|c;· exact W (h.hi n E s c f i H)
     · exact absurd (by rw[<-i,(e.GH s c).1,e.nm]) D
 · rcases N n I with rfl|⟨E,D⟩
   · rcases (o s).1 k with c|c
     · have γ:=h.go _ p s c f (i.trans e.nm);rcases e.mon with m|⟨ψ,τ⟩;· omega
       omega
     · have u:=(e.GH s c).2;rcases (v.W0 s c f).2 with q|⟨π,ρ⟩;· omega
       omega
   · rcases (o s).1 k with c|c;· exact h.go n E s c f i
     · exact absurd (by rw[<-i,(e.GH s c).1,e.nm]) D
 · rcases (o s).1 k with a|a<;>rcases (o t).1 Z with b|b;· grind[VW.W2]
   · have u:=e.GH t b;have γ:=(v.W0 t b c).1;obtain⟨x,B,A,y⟩:=h.hi _ p s a f (i.trans u.1) (H.trans u.2);grind
   · have u:=e.GH s a;have φ:=(e.Xs s a f).1;rcases h.go _ p t b c (i.symm.trans u.1) with q|⟨_,q⟩;· omega
     · omega
   · have X:=e.Hm;match z,X,a,b with|[x],_,a,b=>grind
theorem GA{w c:ek}(h:VW w)(m:aa c=aa w)(i:gl c=gl w)(H:c8 c=c8 w)(z:ev c=ev w)(k:∀b∈ab w,b∈ab c):VW c:=by
 have q:∀s,GW w s->GW c s:=λs a=>by simp_all[j0,c8,fv,gl,GW,D9]
 have y:∀{o:Int}{r:Int},(∃b∈ab w,b.1=o/\(ia b).1<=r)->∃b∈ab c,b.1=o/\(ia b).1<=r:=λ⟨b,f,v⟩=>⟨b,k b f,v⟩;refine⟨λs a f=>?_,λn g s a f j u=>?_,λn g s a f j=>?_,λs a t C f v j u I=>?_⟩;·rw[i]at a;obtain⟨n,g,e,x,S,L,d,l,b,E,B,D,F,G,A⟩:=h.vote s a f;have p:=D.mono k q;rw[<-z]at p;exact⟨n,by grind,e,x,S,L,d,l,b,E,B,p,F.mono k q,G,A⟩
 ·rw[i]at a;rw[m]at g;exact y (h.hi n g s a f j u)
 ·rw[i]at a;rw[m]at g;exact h.go n g s a f j
 ·rw[i]at a C;grind[VW.W2]
theorem Ms{E S:Nat}{R:Int}{w:ek}{m:gd}(h:WI E S w)(A:E<890)(v:WR R w)(r:w4 w)(t:SW w)(k:VW w)(l:FK m)(p:MR R (ab w) m)(x:s8 (aa w) m.2.1=true)(q:MG (GW w) m):VW (mh w m):=by obtain⟨j,e,_,B,u⟩:=D0 x;obtain⟨o,z⟩:=h.nd _ (List.getElem_mem e);rw[u];cases y:gA (aa w)[j].2.1 m.2.2.1 with|false=>exact k|true=>
 have f:=Cr.1 y;simp only[cond_true];generalize a:Er (j5 w j (fl (aa w)[j] m).1) (fl (aa w)[j] m).2.1 (fl (aa w)[j] m).2.2=i;have g:∀s,GW w s->GW i s:=λs c=>by
  rw[<-a];rcases c with c|c;·exact .inl c
  ·exact .inr (ej.2 (.inl c))
 have n:=Uw (bl:=ab w) (G:=GW i) o ((t.nd _ (List.getElem_mem e)).mono (λb d=>d) g) (by omega) l p.bs (q.mono g) f.symm;exact HS k r v.nm e (Oj o l f.symm (by omega)) (by rw[<-a] at n⊢;exact n) (by rw[<-a];rfl) (by rw[<-a];rfl) (by rw[<-a];rfl) (λb d=>by rw[<-a];exact d) (λs=>by rw[<-a];exact ej)
theorem Uz{E S:Nat}{R:Int}{w:ek}(h:WI E S w)(x:E<890)(q:WR R w)(m:w4 w)(o:SW w)(r:VW w){j:Nat}(f:j<(aa w).length):VW (Fp w j (aa w)[j]):=by
 obtain⟨k,v⟩:=h.nd _ (List.getElem_mem f);have u:=h.bl;have i:=B7 (n:=(ab w).length) (by omega);generalize a:Fp w j (aa w)[j]=c;have g:∀b∈ab w,b∈ab c:=λb e=>by rw[<-a];exact List.mem_append_left _ e
 have l:∀s,GW w s->GW c s:=λs d=>by
  rw[<-a];rcases d with d|d;·exact .inl d
  ·exact .inr (ej.2 (.inl d))
 have p:∀b∈(ee (aa w)[j] ((ab w).length:Int)).2.1,b∈ab c:=λb e=>by rw[<-a];exact List.mem_append_right _ e
 have t:=Ux (bl:=ab c) (G:=GW c) k ((o.nd _ (List.getElem_mem f)).mono g l) (by omega) i p;exact HS r m q.nm f (Ol k i (by omega)) t (by rw[<-a];rfl) (by rw[<-a];rfl) (by rw[<-a];rfl) g (λs=>by rw[<-a];exact ej)
theorem St{E S:Nat}{R:Int}{w:ek}(h:WI E S w)(m:E<890)(d:WR R w)(k:w4 w)(l:VW w){j:Nat}(c:j<(aa w).length):VW (B5 w j (aa w)[j]):=by obtain⟨e,n⟩:=h.nd _ (List.getElem_mem c);generalize a:B5 w j (aa w)[j]=f;have g:=Ss (bl:=ab f) (G:=GW f) (base:=ev w) e (by omega);exact HS l k d.nm c (Mh e (by omega) (d.nd _ (List.getElem_mem c)).vo.2) g (by rw[<-a];rfl) (by rw[<-a];rfl) (by rw[<-a];rfl) (λb i=>by rw[<-a];exact i) (λs=>by rw[<-a];exact ej)
theorem OA{w:ek}{an:List D9}(g:VW w)(e:w4 w)(d:PM an (aa w)){j:Nat}(c:j<(aa w).length){m:a0}(f:p9 (aa w)[j] m [])(h:Mv (aa w)[j] m):VW (j5 w j m):=HS g e d c f (By.none h) rfl rfl rfl (λb a=>a) (EY w j m)
theorem W3(n:a0):Mv n (EC n):=(IN n []).trans ((IP _ []).trans (Mr _ []))
theorem qL.vw{E S:Nat}{R:Int}{w p:ek}(s:qL w p)(h:WI E S w)(r:E<890)(e:WR R w)(i:w4 w)(l:SW w)(d:VW w):VW p:=by cases s with
 |same=>exact d|Eb m n z=>exact GA d rfl rfl rfl rfl (λb a=>a)|drop k=>exact GA d rfl rfl rfl rfl (λb a=>a)|ti k f=>have n:=h.nm _ (List.getElem_mem f);exact Ms (pt h k) r (EW e k) (D2 i rfl rfl) (IM l k) (GA d rfl rfl rfl rfl (λb a=>a)) n.1 (e.A1 _ (List.getElem_mem f)) n.2 (l.A1 _ (List.getElem_mem f))|Jx j c a=>grind[Uz]|Fq j c=>grind[St]|IC j c k f=>unfold B6;cases v:(fz (aa w)[j] (aa w)[k].2.1 (aa w)[k].1).2.1.1 with|false=>exact d|true=>exact GA d rfl rfl rfl rfl (λb a=>a)
 |EU j c q _ _ _=>exact OA d i e.nm c (Mi _ q) (Mr _ q)|FM j c=>exact OA d i e.nm c (Sf _) (W3 _)|ID m y v _=>exact GA d rfl rfl rfl rfl (λb a=>List.mem_append_left _ a)|Gv j c k f g=>obtain⟨t,x⟩:=h.nd _ (List.getElem_mem c);obtain⟨o,_⟩:=h.nd _ (List.getElem_mem f);have u:=w6 _ _ _ g;exact Ms h r e i l d (p8 t o.v.h.ok.2.1 o.v.h.ok.1 g) (D1 e.bl (e.nd _ (List.getElem_mem c)) t (by omega) e.r0 (e.nd _ (List.getElem_mem f)).nm g) (by rw[u.1];exact E9 f) (IL (l.nd _ (List.getElem_mem c)) _ _ g)
theorem G8{l:List bF}:py l=true↔(∀a∈l,o0 a=true)/\l.Pairwise (λa b=>ob a.1 b.1=true)/\l.length<=12/\Ec l<=1000000:=by
 unfold py;rw[Bool.and_eq_true,Bool.and_eq_true];constructor
 · rintro⟨e,f,h⟩;have o:∀i(c:i<l.length),o0 l[i]=true/\lO (λz y=>ob z.1 y.1) l i l[i]=true:=λi c=>by have :=xJ e i c;simp_all[o0,bF,lO,ob,e6,AS]
   refine⟨λa q=>?_,?_,by have :=Cq.1 f;omega,Cq.1 h⟩;· obtain⟨i,c,rfl⟩:=List.getElem_of_mem q;grind
   · have k:∀i (c:i+1<l.length),ob l[i].1 l[i+1].1=true:=λi c=>by have :=(o (i+1) c).2;rw[mz (lt:=λz y=>ob z.1 y.1) (xs:=l) (j:=i) (y:=l[i+1]) (by omega)]at this;omega
     rw[List.pairwise_iff_getElem];intro i j c s r;have :∀d,(n:i+d+1<l.length)->ob l[i].1 l[i+d+1].1=true:=by intro d;induction d with|zero=>grind|succ d p=>intro n;have g:=p (by omega);have m:=k (i+d+1) (by omega);exact (HK).tr _ _ _ g m
     have t:=this (j-i-1) (by omega);grind
 · rintro⟨e,f,h,g⟩;refine⟨wc (λi c=>?_),Cq.2 (by omega),Cq.2 g⟩;unfold AS;rw[Bool.and_eq_true,Nat.zero_add];refine⟨e _ (List.getElem_mem c),?_⟩;match i,c with|0,_=>rfl|j+1,c=>rw[mz (lt:=λz y=>ob z.1 y.1) (xs:=l) (j:=j) (y:=l[j+1]) (by omega)];rw[List.pairwise_iff_getElem]at f;grind
theorem UA{l:List ds}(d:∀v∈l,fk v.1=true/\Di v.2.1 1 1000000=true)(e:l.Pairwise (λa b=>ob a.1 b.1=true))(g:1<=l.length)(f:l.length<=12):pv l=true:=by unfold pv;rw[Bool.and_eq_true];refine⟨wc (λi c=>?_),gx.2 (by omega)⟩;unfold KC;have :=d _ (List.getElem_mem c);rw[Bool.and_eq_true,Bool.and_eq_true,Nat.zero_add];refine⟨this.1,this.2,?_⟩;match i,c with|0,_=>rfl|j+1,c=>rw[mz (lt:=λz y=>ob z.1 y.1) (xs:=l) (j:=j) (y:=l[j+1]) (by omega)];rw[List.pairwise_iff_getElem]at e;grind
theorem IQ{a:bF}(h:o0 a=true):fk a.1=true/\0<=a.2.2.2.1/\a.2.2.2.1<=1000000:=by unfold o0 at h;simp_all[fk,e6,Di,km,re,gx]
theorem IS{l:List bF}(h:py l=true):k8 l=[]\/pv (k8 l)=true:=by
 obtain⟨e,j,i,_⟩:=G8.1 h;rcases Nat.eq_zero_or_pos (k8 l).length with b|b;·grind
 · refine .inr (UA (λv d=>?_) ?_ b (Nat.le_trans (w9 l) i));· rw[F0]at d;obtain⟨a,g,rfl⟩:=List.mem_map.1 d;obtain⟨f,c⟩:=List.mem_filter.1 g;have :=IQ (e a f);have c:=Cq.1 c;exact⟨this.1,gx.2 ⟨by grind,this.2.2⟩⟩
   · rw[F0,List.pairwise_map];grind
def PS:ByteArray:=⟨#[97]⟩
def PT:ByteArray:=⟨#[98]⟩
def UB:ByteArray:=⟨#[99]⟩
def UC:ByteArray:=⟨#[100]⟩
def U8:ByteArray:=⟨#[101]⟩
def GB(a:ByteArray)(f s:Int):bF:=(a,(f,(0,(s,([],())))))
def G9:List ByteArray:=[PS,PT,UB,UC]
def cv(fs:List Int)(e:Bool):List bF:=List.zipWith (λa f=>GB a f 10) G9 fs++(bif e then[GB U8 7 0]else[])
theorem U9:ob PS PT=true/\ob PS UB=true/\ob PS UC=true/\ob PS U8=true/\ob PT UB=true/\ob PT UC=true/\ob PT U8=true/\ob UB UC=true/\ob UB U8=true/\ob UC U8=true:=by unfold ob;simp only[ER];exact⟨rfl,rfl,rfl,rfl,rfl,rfl,rfl,rfl,rfl,rfl⟩
theorem ZA:PS≠PT:=by intro h;have :=U9.1;grind[ob,PT,KG,xD,PS]
theorem W4{a:ByteArray}{f s:Int}(b:a=PS\/a=PT\/a=UB\/a=UC\/a=U8)(h:0<=f/\f<=20)(g:0<=s/\s<=10):o0 (GB a f s)=true:=by
 have c:fk a=true:=by rcases b with rfl|rfl|rfl|rfl|rfl<;>decide
 have d:Di f 0 1000000=true:=gx.2 (by omega);have e:Di s 0 1000000=true:=gx.2 (by omega);show (fk a&&(Di f 0 1000000&&(true&&(Di s 0 1000000&&(true&&true)))))=true;grind
theorem GC:∀(l:List bF)(s:Int),(∀a∈l,∃d f c,a=GB d f c/\0<=f/\f<=20/\0<=c/\c<=10)->0<=s->s+30*l.length<=1000000->l.foldl (λs y=>cM .i64 s (HD y)) s<=s+30*l.length|[],s,_,_,_=>by simp|a::r,s,h,m,g=>by obtain⟨d,f,c,rfl,j,o,n,p⟩:=h a (by simp);have e:HD (GB d f c)=f+c:=(show cM .i64 f c=f+c from ed (by omega) (by omega));simp only[List.length_cons]at g⊢;have i:cM .i64 s (f+c)=s+(f+c):=ed (by omega) (by omega);rw[List.foldl_cons,e,i];have :=GC r (s+(f+c)) (λb k=>h b (by grind)) (by omega) (by omega);omega
theorem Mt{fs:List Int}{e:Bool}(k:∀f∈fs,f=3\/f=20):∀a∈cv fs e,∃b f c,a=GB b f c/\(b=PS\/b=PT\/b=UB\/b=UC\/b=U8)/\0<=f/\f<=20/\0<=c/\c<=10:=by
 intro a d;unfold cv at d;rcases List.mem_append.1 d with h|h
 · obtain⟨i,l,rfl⟩:=List.getElem_of_mem h;rw[List.getElem_zipWith];have g:i<fs.length:=by grind
   have j:i<4:=by rw[List.length_zipWith]at l;grind[G9]
   have m:=k _ (List.getElem_mem g);refine⟨_,fs[i],10,rfl,?_,by omega,by omega,by decide,by decide⟩;match i,j with|0,_=>exact .inl rfl|1,_=>exact .inr (.inl rfl)|2,_=>exact .inr (.inr (.inl rfl))|3,_=>exact .inr (.inr (.inr (.inl rfl)))
 grind
theorem AI(fs:List Int)(e:Bool)(h:fs.length<=4):(cv fs e).length=fs.length+(bif e then 1 else 0):=by unfold cv;rw[List.length_append,List.length_zipWith];have :G9.length=4:=rfl;grind
theorem Mu{fs:List Int}{e:Bool}(h:fs.length<=4)(l:∀f∈fs,f=3\/f=20):bm ((0,(cv fs e,())):fp)=true:=by
 have k:=Mt (e:=e) l;have o:=AI fs e h;have n:(cv fs e).length<=5:=by grind
 unfold bm;rw[Bool.and_eq_true];refine⟨rfl,G8.2 ⟨λa i=>?_,?_,(show (cv fs e).length<=12 by omega),?_⟩⟩;·obtain⟨t,f,q,rfl,x,A,u,z,v⟩:=k a i;grind[W4]
 · have d:=U9;have p:(cv fs e).Pairwise (λa b=>ob a.1 b.1=true):=by match fs,h with|[],_=>cases e<;>simp[cv,G9]|[c],_=>cases e<;>simp[cv,G9,GB,d]|[c,g],_=>cases e<;>simp[cv,G9,GB,d]|[c,g,j],_=>cases e<;>simp[cv,G9,GB,d]|[c,g,j,m],_=>cases e<;>simp[cv,G9,GB,d]|c::g::j::m::w::r,h=>grind
   omega
 · have :=GC (cv fs e) 0 (λa i=>by grind) (Int.le_refl _) (by omega);show (cv fs e).foldl (λs y=>cM .i64 s (HD y)) 0<=1000000;omega
theorem UD(c:Nh)(K:vc c):Y (VE (c,())) (λy=>∃fs e,1<=fs.length/\fs.length<=4/\(∀f∈fs,f=3\/f=20)/\y.1=((0,(cv fs e,())):fp)/\vc y.2.1/\y.2.1.1=c.1):=by
 unfold VE;refine Y.bind (JM c _ K (by simp)) λq z=>?_;have Q:1<=q.1.1/\q.1.1<=4:=by grind
 refine Y.DZ (P:=λv=>vc (v.2.1,(v.2.2.1,(v.2.2.2.1,())))/\v.2.1=c.1/\∃fs,1<=fs.length/\fs.length<=4/\(∀f∈fs,f=3\/f=20)/\v.2.2.2.2.1=cv fs false) (R:=λ_=>False) (Y.loop (I:=λv=>vc (v.2.1,(v.2.2.1,(v.2.2.2.1,())))/\v.2.1=c.1/\∃fs:List Int,v.1=(fs.length:Int)/\fs.length<=4/\(∀f∈fs,f=3\/f=20)/\v.2.2.2.2.1=cv fs false) (λv=>(4-v.1).toNat) (λv m=>?_) _ ⟨z.2.1,z.2.2,[],rfl,Nat.zero_le _,λf p=>(by cases p),rfl⟩) (λv m=>?_) (λ_ h=>h.elim)
 · obtain ⟨i,b,L,h,J,u⟩:=v;obtain ⟨d,a,fs,x,o,p,j⟩:=m;dsimp only at d a x j;subst x j;unfold VE.b0;refine Y.DY (λs=>?_) (λA=>?_)
   · have s:(fs.length:Int)<q.1.1:=Cp.1 s;have g:fs.length<4:=by omega
     have E:fs.length<G9.length:=g;have B:([(⟨#[97]⟩,()),(⟨#[98]⟩,()),(⟨#[99]⟩,()),(⟨#[100]⟩,())]:List D9)[fs.length]?=some (G9[fs.length],()):=by generalize fs.length=k at g E;match k,g with|0,_=>rfl|1,_=>rfl|2,_=>rfl|3,_=>rfl
     refine Y.eq (A2 B) (Y.eq (A3 B) ?_);refine Y.bind (JM _ _ d (by simp)) λl w=>?_;have M:l.1.1=3\/l.1.1=20:=by grind
     have O:cM .i64 (fs.length:Int) (1:Int)=((fs.length+1:Nat):Int):=wG (n:=4) g (by omega);have D:=AI fs false o;refine Y.tt (BO (by grind) (by decide) (by decide)) (Y.l ⟨⟨w.2.1,w.2.2.trans a,fs++[l.1.1],?_,?_,?_,?_⟩,?_⟩);· grind
     · grind
     · grind
     · show bV (cv fs false) [(G9[fs.length],(l.1.1,(0,(10,([],())))))]=cv (fs++[l.1.1]) false;match fs,g with|[],_=>rfl|[t],_=>rfl|[t,H],_=>rfl|[t,H,N],_=>rfl
     grind
   · have A:q.1.1<=(fs.length:Int):=Au.1 A;exact Y.rl ⟨d,a,fs,by omega,o,p,rfl⟩
 · obtain ⟨i,b,L,h,J,u⟩:=v;obtain ⟨d,a,fs,C,o,p,j⟩:=m;dsimp only at d a j;subst j;have D:=AI fs false o;refine Y.DZ (P:=λv=>vc (v.1,(v.2.1,(v.2.2.1,())))/\v.1=c.1/\∃e,v.2.2.2.1=cv fs e) (R:=λ_=>False) (Y.bind (EN _ _ d) λS r=>Y.DY (λ_=>Y.tt (BO (by grind) (by decide) (by decide)) (Y.l ⟨r.1,r.2.trans a,true,?_⟩)) (λ_=>Y.l ⟨r.1,r.2.trans a,false,rfl⟩)) (λv m=>?_) (λ_ h=>h.elim);· show cv fs false++[GB U8 7 0]=cv fs true;unfold cv;simp
   · obtain ⟨F,G,e,T⟩:=m;exact Y.mk ⟨fs,e,C,o,p,by grind,F,G⟩
def Nu(fs:List Int)(e:Bool)(an:List D9):ek:=E1 ((0,(cv fs e,())):fp) an
def Ha(an:List D9):Prop:=an=[]\/∃a,(a=PS\/a=PT\/a=UB\/a=UC)/\an=[(a,())]
theorem K0{an:List D9}(h:Ha an):mm an=true/\(Ty.sl e9).Ok an/\an.length<=1:=by
 rcases h with rfl|⟨a,d,rfl⟩;·exact⟨rfl,CK,Nat.zero_le _⟩
 · have b:fk a=true:=by rcases d with rfl|rfl|rfl|rfl<;>decide
   have c:=FH b;refine⟨?_,Dk (by decide:1<=9223372036854775807) (λx e=>?_),Nat.le_refl _⟩;· unfold mm;show (((fk a&&true)&&true)&&true)=true;grind
   · rw[List.mem_singleton.1 e];exact⟨Nat.le_trans c (by decide),trivial⟩
theorem OB{fs:List Int}{e:Bool}(l:fs.length<=4)(o:∀f∈fs,f=3\/f=20):(Ty.sl cz).Ok (cv fs e)/\fb (cv fs e):=by
 have h:=Mt (e:=e) o;have q:=AI fs e l;have d:(cv fs e).length<=5:=by grind
 refine⟨Dk (Nat.le_trans d (by decide)) (λa b=>?_),⟨Nat.le_trans d (by decide),λa b=>?_⟩⟩
 · obtain⟨i,f,c,rfl,g,m,p,n,k⟩:=h a b;have j:i.size<=1:=by rcases g with rfl|rfl|rfl|rfl|rfl<;>decide
   exact⟨Nat.le_trans j (by decide),DX (by show _<=f;omega) (by show f<=_;omega),rfl,DX (by show _<=c;omega) (by show c<=_;omega),CK,trivial⟩
 · obtain⟨i,f,c,rfl,g,m,p,n,k⟩:=h a b;exact Nat.zero_le _
theorem PU{fs:List Int}{e:Bool}{an:List D9}(d:fs.length<=4)(c:∀f∈fs,f=3\/f=20)(b:Ha an):Nu fs e an=(0,(cv fs e,(an,(((cv fs e).filter (λa=>!j0 an a.1)).map (λa=>la a.1 ((0,(cv fs e,())):fp)),([],([],([],()))))))):=by unfold Nu E1;rw[Mu d c,(K0 b).1];show (0,(cv fs e,(an,(KF ((0,(cv fs e,())):fp) an,([],([],([],())))))))=_;rw[O6]
def Fu(a:ByteArray)(x:fp):a0:=(a,(x.1,(x.1,(x.2.1,(k8 x.2.1,([],(1,(0,(0,(-1,([],(0,([],([],(0,([],([],([],([],([],()))))))))))))))))))))
theorem IT{a:ByteArray}{x:fp}(b:fk a=true)(c:bm x=true):la a x=Fu a x:=by unfold la Fu;grind
theorem Su{d:ByteArray}{L:List bF}(h:fk d=true)(i:bm ((0,(L,())):fp)=true)(a:(Ty.sl cz).Ok L)(e:fb L):NW (Fu d (0,(L,()))):=by have g:=FH h;have f:W1 (k8 L).length:=Nat.le_trans (w9 L) e.1;exact NW.Qf (E:=0) (P:=0) ⟨⟨⟨Nat.le_trans g (by decide),rfl,rfl,a,HH _ a,CK,rfl,rfl,rfl,rfl,CK,rfl,CK,CK,rfl,CK,CK,CK,CK,CK,trivial⟩,⟨e,f,Nat.zero_le _,(λb c=>by cases c),Nat.zero_le _,Nat.zero_le _,Nat.zero_le _,Nat.zero_le _,Nat.zero_le _,Nat.zero_le _,Nat.zero_le _,Nat.zero_le _,(λb c=>by cases c)⟩,JI rfl,Nat.zero_le _,Nat.zero_le _⟩,i,rfl,Int.le_refl _,Nat.zero_le _,Nat.zero_le _,⟨List.nodup_nil,λx a=>by cases a⟩,Nat.zero_le _⟩ (Int.le_refl _) rfl
theorem Sv{b:ByteArray}{L:List bF}(c:fk b=true)(d:py L=true):NR 0 [] (Fu b (0,(L,()))):=⟨c,by simp_all[ad,Fu,bF],by simp_all[fr,Fu,bF,ad],by simp_all[LB,Fu,bF,ad],Gw,by show (0:Int)<1;decide,Gx,by show (0:Int)<1;decide,(λv a=>by cases a),(λv a=>by cases a),rfl,(λv a=>by cases a),rfl,IS d,(λv a=>by cases a),by simp_all[tB,bk,Fu,bF,ao]⟩
structure DI(fs:List Int)(e:Bool)(an:List D9)(K:Nat)(w:ek):Prop where
 wi:WI 889 K w
 wr:WR (14*(K:Int)) w
 Hm:w4 w
 sw:SW w
 vw:VW w
 bl:(ab w).length<=K
 ne:aa w≠[]fo:Ha an/\c8 w=an
 ba:ev w=(0,(cv fs e,()))Xt:(aa w).map (λn=>n.1)=((cv fs e).filter (λa=>!j0 an a.1)).map (λa=>a.1)
theorem PV{fs:List Int}{e:Bool}(h:1<=fs.length):∃f,GB PS f 10∈cv fs e:=by match fs,h with|f::r,_=>exact⟨f,by unfold cv;simp[G9]⟩
theorem PX{fs:List Int}{e:Bool}(h:3<=fs.length):∃f,GB PT f 10∈cv fs e:=by match fs,h with|f::g::r,_=>exact⟨g,by unfold cv;simp[G9]⟩
theorem Sw{bl:List ao}{G:fv->Prop}{c:ByteArray}{L:List bF}:SI bl G ((0,(L,())):fp) (Fu c (0,(L,()))):=⟨⟨[],q9.nil,MF.nil⟩,(λb a=>by cases a),⟨Gw,(λb a=>by cases a)⟩,⟨Gx,(λb a=>by cases a)⟩,(λb a=>by cases a),(λb a=>by cases a)⟩
theorem PY{fs:List Int}{e:Bool}{an:List D9}(D:1<=fs.length)(u:fs.length<=4)(v:∀f∈fs,f=3\/f=20)(r:Ha an)(E:an=[]\/3<=fs.length):DI fs e an 0 (Nu fs e an):=by
 have t:=OB (e:=e) u v;have q:=Mu (e:=e) u v;obtain⟨H,I,G⟩:=K0 r;have M:=AI fs e u;have L:(cv fs e).length<=5:=by grind
 have z:py (cv fs e)=true:=by unfold bm at q;grind
 have x:=G8.1 z;have p:∀n∈((cv fs e).filter (λa=>!j0 an a.1)).map (λa=>la a.1 ((0,(cv fs e,())):fp)),∃a∈cv fs e,fk a.1=true/\j0 an a.1=false/\n=Fu a.1 (0,(cv fs e,())):=λn g=>by obtain⟨a,k,rfl⟩:=List.mem_map.1 g;obtain⟨B,S⟩:=List.mem_filter.1 k;have d:=(IQ (x.1 a B)).1;exact⟨a,B,d,by grind,IT d q⟩
 have y:(((cv fs e).filter (λa=>!j0 an a.1)).map (λa=>la a.1 ((0,(cv fs e,())):fp))).map (λn=>n.1)=((cv fs e).filter (λa=>!j0 an a.1)).map (λa=>a.1):=by rw[List.map_map];refine List.map_congr_left (λa k=>?_);have d:=(IQ (x.1 a (List.mem_filter.1 k).1)).1;show (la a.1 ((0,(cv fs e,())):fp)).1=a.1;rw[IT d q];rfl
 rw[PU u v r];generalize T:((cv fs e).filter (λa=>!j0 an a.1)).map (λa=>la a.1 ((0,(cv fs e,())):fp))=l at p y;have C:l.length<=5:=by grind
 refine⟨⟨t.1,t.2,q,I,Nat.le_trans G (by decide),Nat.le_trans C (by decide),λn g=>?_,CK,Nat.zero_le _,(λb c=>by cases c),CK,Nat.zero_le _,Nat.zero_le _,(λb c=>by cases c)⟩,⟨Int.le_refl _,rfl,H,⟨λi A=>absurd A (Nat.not_lt_zero _),(λb c=>by cases c),(λb c=>by cases c)⟩,λn g=>?_,⟨λn g=>?_,?_⟩,(λb c=>by cases c)⟩,⟨(λb c=>by cases c),(λb c=>by cases c),(λb c=>by cases c)⟩,⟨λn g=>?_,(λb c=>by cases c)⟩,⟨(λs m=>by cases m),(λn g s m=>by cases m),(λn g s m=>by cases m),(λs m=>by cases m)⟩,Nat.zero_le _,?_,⟨r,rfl⟩,rfl,y⟩;·obtain⟨a,k,d,o,rfl⟩:=p n g;exact⟨Su d q t.1 t.2,by show (0:Int)<=(889:Nat);decide⟩
 ·obtain⟨a,k,d,o,rfl⟩:=p n g;exact Sv d z
 ·obtain⟨a,k,d,o,rfl⟩:=p n g;exact o
 · show∀(i j:Nat)(A:i<l.length)(P:j<l.length),i<j->ob l[i].1 l[j].1=true;have J:(l.map (λn=>n.1)).Pairwise (λa b=>ob a b=true):=by grind
   rw[List.pairwise_map,List.pairwise_iff_getElem]at J;omega
 · obtain⟨a,k,d,o,rfl⟩:=p n g;exact Sw
 · show l≠[];intro O;have w:∀a∈cv fs e,j0 an a.1=true:=λa k=>by cases U:j0 an a.1 with|true=>rfl|false=>have :a∈(cv fs e).filter (λa=>!j0 an a.1):=List.mem_filter.2 ⟨k,by grind⟩;grind
   obtain⟨Q,K⟩:=PV (e:=e) D;have d:=w _ K;rcases E with h|h;· rw[h]at d;cases d
   · obtain⟨R,F⟩:=PX (e:=e) h;have o:=w _ F;rcases r with rfl|⟨N,_,rfl⟩;· cases d
     · unfold j0 at d o;simp_all[ZA,e6,GB,PS,PT,ko,ow,D9]
theorem DI.dp{fs:List Int}{e:Bool}{an:List D9}{K:Nat}{w a:ek}(h:DI fs e an K w)(t:K<=700)(s:qL w a):DI fs e an (K+1) a:=by
 have f:=s.wi h.wi (by decide) (by omega);have c:=s.wr h.wi (by decide) h.wr (by omega);have m:=s.Hm h.wi (by decide) h.wr h.Hm;obtain⟨⟨p,g,q⟩,b,r,o,i⟩:=s.CB h.wi (by decide);have d:(ab a).length<=K+1:=by rw[g,List.length_append];have :=h.bl;omega
 have k:=s.sw h.wi (by decide) h.wr h.sw;have j:=s.vw h.wi (by decide) h.wr h.Hm h.sw h.vw;refine⟨f.yN c (by omega),c.up (by omega),m,k,j,d,λl=>?_,⟨h.fo.1,i.trans h.fo.2⟩,?_,b.trans h.Xt⟩;·rw[l]at b;have :(aa w).map (λn=>n.1)=[]:=b.symm;rw[List.map_eq_nil_iff]at this;grind[ne]
 ·have :=h.ba;grind
abbrev EvT:Type:=List D5×(Int×(Int×(Int×(Int×(Int×(Int×(ByteArray×(ByteArray×(Int×(Int×(List a0×(List ao×(List fv×(List gd×gd))))))))))))))
def ZB(v:EvT):Ul:=(v.2.2.2.1,(v.2.2.2.2.1,(v.2.2.2.2.2.1,(v.2.2.2.2.2.2.1,(v.2.2.2.2.2.2.2.1,(v.2.2.2.2.2.2.2.2.1,(v.2.2.2.2.2.2.2.2.2.1,(v.2.2.2.2.2.2.2.2.2.2.1,v.2.2.2.2.2.2.2.2.2.2.2.2.2.2.2))))))))
theorem Sx{k a g d b c:Int}{e tt:ByteArray}{m:gd}(f:(Lit.int .i64 d).wf=true)(i:Al e.size)(n:Al tt.size)(j:(Lit.int .i64 b).wf=true)(h:(Lit.int .i64 c).wf=true)(l:Uj m):No ((k,(a,(g,(d,(e,(tt,(b,(c,m)))))))):Ul):=⟨⟨f,i,n,j,h,trivial⟩,l⟩
theorem ZC:Uj WS:=IE rfl (Nat.zero_le _) rfl (λb a=>by cases a) (Nat.zero_le _) rfl rfl (Nat.zero_le _) rfl rfl (Nat.zero_le _) rfl rfl CK (Nat.zero_le _)
theorem Xu(k a b:Int):No ((k,(a,(b,(0,(⟨#[]⟩,(⟨#[]⟩,(0,(0,WS)))))))):Ul):=Sx rfl (Nat.zero_le _) (Nat.zero_le _) rfl rfl ZC
theorem UE{E S:Nat}{w:ek}(h:WI E S w)(θ:E<890)(A:aa w≠[])(c:Nh)(K:vc c)(X:∀n∈aa w,0<=ad n/\ad n<=100000/\(bb n).length<=12):Y (VL (c,(w,()))) (λy=>No y.1/\(gA y.1.1 9=true->FR w (eM y.1))/\vc y.2.1/\y.2.1.1=c.1/\y.2.2.1=w):=by
 have M:(0:Int)<((aa w).length:Int):=by have :=List.length_pos_iff.2 A;omega
 have φ:=h.nl;unfold VL;refine Y.DZ (P:=λv=>vc v/\v.1=c.1) (R:=λy=>No y.1/\(gA y.1.1 9=true->FR w (eM y.1))/\vc y.2.1/\y.2.1.1=c.1/\y.2.2.1=w) (Y.DY (λψ=>?_) (λ_=>Y.l ⟨K,rfl⟩)) (λv4 H=>?_) (λv f=>Y.mk f);·refine Y.bind (EN _ _ K) λy1 s=>Y.DY (λ_=>?_) (λ_=>Y.l s);refine Y.bind (JM _ _ s.1 (by simp)) λκ u=>Y.bind (ke _ _ u.2.1) λy3 G=>Y.r ⟨Xu _ _ _,λe=>?_,G.2.2.2.1,G.2.2.2.2.trans (u.2.2.trans s.2),rfl⟩;have l:κ.1.1=9:=Cr.1 e;have h:=u.1;simp only[List.mem_cons,List.not_mem_nil,or_false]at h;grind
 · refine Y.bind (ke _ _ H.1) λJ o=>?_;have V:J.1.1<((aa w).length:Int):=o.2.1 M;obtain⟨j,hj⟩:=Int.eq_ofNat_of_zero_le o.1;have ag:j<(aa w).length:=by omega
   have N:J.2.1.1=c.1:=o.2.2.2.2.trans H.2;refine Y.DZ (P:=λv=>vc (v.1,(v.2.1,(v.2.2.1,())))/\v.1=c.1/\No (ZB v)/\(gA v.2.2.2.1 9=true->FR w (eM (ZB v)))/\v.2.2.2.2.2.2.2.2.2.2.2.1=aa w/\v.2.2.2.2.2.2.2.2.2.2.2.2.1=ab w/\v.2.2.2.2.2.2.2.2.2.2.2.2.2.1=gl w/\v.2.2.2.2.2.2.2.2.2.2.2.2.2.2.1=dt w) (R:=λy=>No y.1/\(gA y.1.1 9=true->FR w (eM y.1))/\vc y.2.1/\y.2.1.1=c.1/\y.2.2.1=w) ?_ (λv f=>?_) (λv f=>Y.mk f)
   · refine Y.bind (ke _ _ o.2.2.2.1) λμ b=>?_;have d:μ.2.1.1=c.1:=b.2.2.2.2.trans N;have g:∀{k:Int}{P:Prop},k≠9->(gA k 9=true->P):=λl e=>absurd (Cr.1 e) l;refine Y.DZ (P:=λ_=>True) (R:=λ_=>False) (Y.DY (λ_=>Y.l trivial) (λ_=>Y.DY (λ_=>Y.l trivial) (λ_=>Y.DY (λ_=>Y.l trivial) (λ_=>Y.l trivial)))) (λv8 _=>?_) (λ_ h=>h.elim);refine Y.DY (λ_=>?_) (λ_=>?_)
     · refine Y.DZ (P:=λ_=>True) (R:=λ_=>False) (Y.loop (I:=λv=>0<=v.1/\v.1<=((aa w).length:Int)) (λv=>(((aa w).length:Int)-v.1).toNat) (λv f=>?_) _ ⟨Int.le_refl _,Int.natCast_nonneg _⟩) (λv _=>Y.l ⟨b.2.2.2.1,d,Xu _ _ _,g (by grind),rfl,rfl,rfl,rfl⟩) (λ_ h=>h.elim);obtain ⟨i,a,aj⟩:=v;obtain ⟨L,ρ⟩:=f;dsimp only at L ρ;unfold VL.b0;refine Y.DY (λp=>?_) (λ_=>Y.rl trivial);have p:i<((aa w).length:Int):=Cp.1 p;have e1:cM .i64 i 1=i+1:=ed (by omega) (by omega);have l:(0<=cM .i64 i 1/\cM .i64 i 1<=((aa w).length:Int))/\(((aa w).length:Int)-cM .i64 i 1).toNat<(((aa w).length:Int)-i).toNat:=by omega
       exact Y.Eb L p λx _=>Y.eq (sm (bb x) (ad x)) (Y.DY (λ_=>Y.DY (λ_=>Y.l l) (λ_=>Y.l l)) (λ_=>Y.l l))
     · refine Y.DZ (P:=λ_=>True) (R:=λ_=>False) (Y.DY (λ_=>Y.l trivial) (λ_=>Y.l trivial)) (λω _=>?_) (λ_ h=>h.elim);refine Y.DY (λ_=>Y.l ⟨b.2.2.2.1,d,Xu _ _ _,g (by grind),rfl,rfl,rfl,rfl⟩) (λ_=>Y.DY (λ_=>?_) (λ_=>?_));· exact Y.bind (ke _ _ b.2.2.2.1) λaf B=>Y.l ⟨B.2.2.2.1,B.2.2.2.2.trans d,Xu _ _ _,g (by grind),rfl,rfl,rfl,rfl⟩
       · refine Y.DZ (P:=λ_=>True) (R:=λ_=>False) (Y.DY (λ_=>Y.l trivial) (λ_=>Y.l trivial)) (λah _=>?_) (λ_ h=>h.elim);refine Y.DY (λ_=>?_) (λ_=>Y.DY (λ_=>Y.l ⟨b.2.2.2.1,d,Xu _ _ _,g (by grind),rfl,rfl,rfl,rfl⟩) (λ_=>Y.DY (λ_=>Y.r ⟨Xu _ _ _,g (by grind),b.2.2.2.1,d,rfl⟩) (λt=>?_)))
         · refine Y.Eb (xs:=aa w) o.1 V λx ε=>?_;obtain ⟨z,_⟩:=h.nd x ε;refine Y.bind (Zo _ (gq x) b.2.2.2.1 (Gi z.v.Gj) (Nat.le_trans (n5 z.v.Gj).1 (by decide))) λC m=>?_;have O:(Lit.int .i64 C.1.1).wf=true:=DX (by omega) (by omega);have ai:(Lit.int .i64 C.1.2.2.2.2.1).wf=true:=by
            rcases m.2.2.2.2.2.2.1 with ⟨D,F⟩|⟨a,α,q⟩;· exact DX (by omega) (by omega)
            · rw[q];have W:TR a:=Ae z.v.h.ok.base.2 α;exact W.2.2.1
           refine Y.bind (JM _ _ m.2.2.2.2.2.2.2.1 (by simp)) λae r=>Y.l ⟨r.2.1,r.2.2.trans (m.2.2.2.2.2.2.2.2.trans d),Sx O (Nat.le_trans m.2.2.1 (by decide)) (Nat.le_trans m.2.2.2.1 (by decide)) ?_ ?_ ZC,g (by grind),rfl,rfl,rfl,rfl⟩;· have h:=r.1;simp only[List.mem_cons,List.not_mem_nil,or_false]at h;rcases h with h|h|h<;>rw[h]<;>rfl
           omega
         · have t:((c8 w).length:Int)≠0:=CN.1 t;have U:c8 w≠[]:=λe=>t (by grind);refine Y.bind (R4 h θ A U _ b.2.2.2.1 X) λQ T=>?_;obtain ⟨δ,σ,β,π,γ⟩:=T;have hw:Q.2.2.1=w:=γ;exact Y.l ⟨β,π.trans d,Sx rfl (Nat.zero_le _) (Nat.zero_le _) rfl rfl δ,λ_=>σ,by grind,by grind,by grind,by grind⟩
   · obtain ⟨D,F,τ,Z,q5,q6,q7,q8⟩:=f;refine Y.mk ⟨τ,Z,D,F,?_⟩;grind
theorem DI.rn{fs:List Int}{e:Bool}{an:List D9}{K:Nat}{w:ek}(h:DI fs e an K w)(c:K<=700):∀n∈aa w,0<=ad n/\ad n<=100000/\(bb n).length<=12:=λn b=>by have a:=h.wr.nd n b;have :=a.rd;exact⟨by omega,by omega,(l5 a.set).2⟩
theorem UF(c:Nh)(b:Int)(ε:vc c)(γ:0<b/\b<=256):Y (VQ (c,((b,()),()))) (λy=>∃fs e an K,(fs.length<=4/\(∀f∈fs,f=3\/f=20))/\K<b.toNat/\DI fs e an K y.1/\vc y.2.1/\y.2.1.1=c.1):=by
 unfold VQ;refine Y.bind (UD c ε) λT α=>?_;obtain⟨fs,e,β,k,u,p,t,n⟩:=α;have ab:=AI fs e k;have x:=OB (e:=e) k u;obtain⟨⟨M,H,π⟩,ω,u1⟩:=T;have p:((M,(H,π)):fp)=(0,(cv fs e,())):=p;simp only[Prod.mk.injEq]at p;obtain⟨rfl,rfl,_⟩:=p;dsimp only at t n;refine Y.DZ (P:=λv=>Ha v.1/\(v.1=[]\/3<=fs.length)/\vc v.2/\v.2.1=c.1) (R:=λ_=>False) (Y.DY (λE=>Y.bind (EN _ _ t) λy2 m=>Y.DY (λ_=>?_) (λ_=>Y.l ⟨.inl rfl,.inl rfl,m.1,m.2.trans n⟩)) (λ_=>Y.l ⟨.inl rfl,.inl rfl,t,n⟩)) (λo U=>?_) (λ_ h=>h.elim)
 · have E:(3:Int)<((cv fs e).length:Int):=Cp.1 E;have G:3<=fs.length:=by grind
   refine Y.bind (ke _ _ m.1) λy3 q=>?_;have ψ:=q.2.1 (by decide);refine Y.Eb (by omega) (by omega) λN A=>Y.l ⟨.inr ⟨N.1,?_,rfl⟩,.inr G,q.2.2.2.1,q.2.2.2.2.trans (m.2.trans n)⟩;simp only[List.mem_cons,List.not_mem_nil,or_false]at A;rcases A with l|l|l|l<;>rw[l];· exact .inl rfl
   · exact .inr (.inl rfl)
   · exact .inr (.inr (.inl rfl))
   grind[PS,PT,UB,UC]
 · obtain ⟨F,S,W,V⟩:=U;obtain ⟨f1,Z,Q⟩:=K0 F;refine Y.eq (M3 ((0,(cv fs e,())):fp) o.1 Z (Nat.le_trans Q (by decide)) x.1 x.2) ?_;refine Y.bind (ke _ b W) λμ j=>?_;have ad:=j.2.1 γ.1;have φ:=j.1;refine Y.DZ (P:=λv=>∃K:Nat,K<b.toNat/\DI fs e o.1 K v.2.2.2.2/\vc (v.2.1,(v.2.2.1,(v.2.2.2.1,())))/\v.2.1=c.1) (R:=λ_=>False) (Y.loop (I:=λv=>0<=v.1/\∃K:Nat,(K:Int)+v.1=μ.1.1/\DI fs e o.1 K v.2.2.2.2/\vc (v.2.1,(v.2.2.1,(v.2.2.2.1,())))/\v.2.1=c.1) (λv=>v.1.toNat) (λv r=>?_) _ ⟨j.1,0,by omega,PY β k u F S,j.2.2.2.1,j.2.2.2.2.trans V⟩) (λv r=>?_) (λ_ h=>h.elim)
   · obtain ⟨i,ρ,θ,δ,w⟩:=v;obtain ⟨τ,K,s,a,g,d⟩:=r;dsimp only at τ s a g d;unfold VQ.b0;refine Y.DY (λz=>?_) (λ_=>Y.rl ⟨K,by omega,a,g,d⟩);have z:0<i:=Cp.1 z;have e1:gS .i64 i 1=i-1:=iz (by omega) (by omega);refine Y.bind (UE a.wi (by decide) a.ne (ρ,(θ,(δ,()))) g (a.rn (by omega))) λL J=>?_;obtain ⟨X,σ,O,κ,z5⟩:=J;have C:((w.1,(w.2.1,(w.2.2.1,L.2.2.1.2.2.2))):ek)=w:=by grind
     have D:=aW2 a.wi (by decide) (by omega) X σ;rw[<-C]at D;refine Y.bind D λaa B=>Y.l ⟨⟨?_,K+1,?_,?_,O,κ.trans d⟩,?_⟩;· grind
     · grind
     · rw[C]at B;exact a.dp (by omega) B
     grind
   · obtain ⟨K,s,a,g,d⟩:=r;exact Y.mk ⟨fs,e,o.1,K,⟨k,u⟩,s,a,g,d⟩
def u7(p:ByteArray->Bool):List ds->Int|[]=>0|v::r=>(bif p v.1 then v.2.1 else 0)+u7 p r
theorem El{p:ByteArray->Bool}:∀{S:List ds},(∀v∈S,1<=v.2.1/\v.2.1<=1000000)->0<=u7 p S/\u7 p S<=1000000*(S.length:Int)|[],_=>⟨Int.le_refl _,Int.le_refl _⟩|v::r,h=>by have c:=El (p:=p) (S:=r) (λx a=>h x (List.mem_cons_of_mem _ a));have b:=h v (List.mem_cons_self ..);unfold u7;grind
theorem J3{p:ByteArray->Bool}:∀{S:List ds}{a:Int},(∀v∈S,1<=v.2.1/\v.2.1<=1000000)->S.length<=12->0<=a->a<=1000000000->S.foldl (λn v=>bif p v.1 then cM .i64 n v.2.1 else n) a=a+u7 p S
 |[],a,_,_,_,_=>by unfold u7;simp|v::r,a,h,z,g,q=>by
  have B:=h v (List.mem_cons_self ..);have m:r.length<=11:=by grind
  rw[List.foldl_cons];unfold u7;have d:∀(S:List ds)(k:Nat)(a:Int),S.length<=k->k<=12->(∀v∈S,1<=v.2.1/\v.2.1<=1000000)->0<=a->a<=1000000000+1000000*(12-(k:Int))->S.foldl (λn v=>bif p v.1 then cM .i64 n v.2.1 else n) a=a+u7 p S:=by intro S;induction S with|nil=>intro k a _ _ _ _ _;unfold u7;simp|cons x t j=>
   intro k a A l b u w;have o:=b x (List.mem_cons_self ..);have f:t.length<=k-1/\1<=k:=by grind
   have c:∀v∈t,1<=v.2.1/\v.2.1<=1000000:=λy i=>b y (List.mem_cons_of_mem _ i);rw[List.foldl_cons];unfold u7;cases s:p x.1 with|false=>grind|true=>simp only[cond_true];have e:cM .i64 a x.2.1=a+x.2.1:=ed (by omega) (by omega);rw[e,j (k-1) (a+x.2.1) f.1 (by omega) c (by omega) (by omega)];omega
  have :=d (v::r) 12 a (by omega) (Nat.le_refl _) h g (by omega);rw[List.foldl_cons]at this;unfold u7 at this;omega
theorem J4{S:List ds}(h:S=[]\/pv S=true)(b:List D9):FE S b=u7 (j0 b) S:=by obtain⟨c,d⟩:=l5 h;have :=J3 (p:=j0 b) (S:=S) (a:=0) (λv e=>(c v e).2) d (Int.le_refl _) (by omega);unfold FE;omega
theorem Mw{S:List ds}(h:S=[]\/pv S=true):H5 S=u7 (λ_=>true) S:=by obtain⟨b,c⟩:=l5 h;have :=J3 (p:=λ_=>true) (S:=S) (a:=0) (λv d=>(b v d).2) c (Int.le_refl _) (by omega);simp_all[H5,u7,ds,cM]
def Fv(an:List D9)(S:List ds):Prop:=3*u7 (j0 an) S<u7 (λ_=>true) S
theorem J5{S:List ds}{a:List D9}(h:S=[]\/pv S=true)(b:mw S a=true):2*u7 (λ_=>true) S<3*u7 (j0 a) S:=by obtain⟨d,f⟩:=l5 h;have e:=El (p:=j0 a) (S:=S) (λv c=>(d v c).2);have g:=El (p:=λ_=>true) (S:=S) (λv c=>(d v c).2);unfold mw at b;have b:=Cp.1 b;grind[u7,zJ,j0,Ar,H5,Mw,FE,J4]
theorem J6{a b f:ByteArray->Bool}:∀{S:List ds},(∀v∈S,1<=v.2.1)->(∀v∈S,a v.1=true->b v.1=true->f v.1=true)->u7 a S+u7 b S<=u7 (λ_=>true) S+u7 f S|[],_,_=>by unfold u7;omega|v::r,h,d=>by have i:=J6 (S:=r) (λx c=>h x (List.mem_cons_of_mem _ c)) (λx c=>d x (List.mem_cons_of_mem _ c));have g:=h v (List.mem_cons_self ..);have e:=d v (List.mem_cons_self ..);unfold u7;grind
theorem Mx{S:List ds}{an A B:List D9}(h:S=[]\/pv S=true)(i:mw S A=true)(e:mw S B=true)(g:Fv an S):∃v∈S,j0 A v.1=true/\j0 B v.1=true/\j0 an v.1=false:=by obtain⟨d,k⟩:=l5 h;have m:=J5 h i;have o:=J5 h e;apply Classical.byContradiction;intro l;have :=J6 (a:=j0 A) (b:=j0 B) (f:=j0 an) (S:=S) (λv c=>(d v c).2.1) (λv c n j=>by grind);unfold Fv at g;omega
theorem My{l:List D9}{s:ByteArray}(h:j0 l s=true):∃x∈l,x.1=s:=by unfold j0 at h;obtain⟨x,a,e⟩:=List.any_eq_true.1 h;exact⟨x,a,ow.1 e⟩
theorem AL{S:List ds}{q:j8}(h:uf S q=true)(a:1<=q.1):mw S q.2.2.1=true:=by
 unfold uf at h;simp only[Bool.or_eq_true,Bool.and_eq_true]at h;rcases h with h|h;·have :=(p5 h).1;omega
 grind
theorem Nv{S:List ds}{t:sM}(h:FO S t=true)(a:1<=t.1):mw S t.2.1=true/\List.length t.2.2.1=List.length t.2.1:=by
 unfold FO at h;simp only[Bool.or_eq_true,Bool.and_eq_true]at h;rcases h with h|h;·have :=(s9 h).1;omega
 ·have :=Cr.1 h.2.2.1;grind
theorem j6.Fg{R:Int}{bl:List ao}{G n:fv->Prop}{S r:List ds}{k j g:Int}{l:List ao}(f:BR R bl)(h:j6 bl G S k g l):∀{d:List ao},j6 bl n r j g d->l=d:=by induction h with
 |G0 g h=>intro d a;cases a with|G0 _ _=>rfl|dp b l c q m o=>have :=(f.lt c).1;omega
 |dp b l c q m o v=>intro d a;generalize i:b.1=x at a;cases a with|G0 _ s=>have :=(f.lt c).1;omega|dp y u p t w z=>have e:=f.Fg c p i;grind
theorem j6.UG{bl:List ao}{G:fv->Prop}{S:List ds}{a d:Int}{l:List ao}{b:ao}(h:j6 bl G S a d (l++[b])):b.1=d/\b∈bl/\BA G S a b/\j6 bl G S a (ia b).2.1 l/\(kf (ia b)=true\/∃p∈bl,p.1=(ia b).2.1/\p.2.2.1=(ia b).1):=by generalize g:l++[b]=x at h;cases h with|G0 _ h=>simp_all|dp c f e i k j=>simp_all
theorem j6.Wz{R:Int}{bl:List ao}{G:fv->Prop}{S:List ds}{g c:Int}{l:List ao}(e:BR R bl)(h:j6 bl G S g c l):(∀x∈l,x.1<=c)/\l.Pairwise (λx y=>x.1<y.1):=by induction h with|G0 c h=>simp_all|dp b l d m q n o=>
 have f:=KT (e.kp b d);have j:(ia b).2.1<b.1:=by
  have i:=(e.lt d).1;have a:=f.qc;unfold He at a;simp only[Bool.or_eq_true,Bool.and_eq_true]at a;rcases a with a|a;·have :=LI a;omega
  ·have k:=gx.1 a.2.1;have p:gS .i64 b.1 1=b.1-1:=iz (by omega) (by have :=f.id;omega);omega
 grind
structure D6(R:Int)(w:ek)(ep:Int)(S:List ds):Prop where
 bl:BR R (ab w)vw:VW w
 Hm:w4 w
 set:S=[]\/pv S=true
 xg:Fv (c8 w) S
 Sy:∀n∈aa w,∀c5 S' L d,c5<+:bk n->(c5.length:Int)=ep->q9 (ab w) (GW w) (ev w) c5 S' L d->S'=S
theorem K1{w:ek}{a:Int}{q:j8}(b:∀s∈nv a q,GW w s){x:D9}(e:x∈q.2.2.1)(d:j0 (c8 w) x.1=false):((1,(a,(q.1,(q.2.1,(x.1,()))))):fv)∈gl w:=by
 have c:((1,(a,(q.1,(q.2.1,(x.1,()))))):fv)∈nv a q:=by simp_all[fv,nv,D9]
 rcases b _ c with h|h;·grind
 omega
theorem W5{w:ek}{a:Int}{t:sM}(g:List.length t.2.2.1=List.length t.2.1)(b:∀s∈p0 a t,GW w s){x:D9}(f:x∈t.2.1)(j:j0 (c8 w) x.1=false):∃h:D3,h∈t.2.2.1/\((2,(a,(t.1,(h.1,(x.1,()))))):fv)∈gl w:=by
 obtain⟨i,k,rfl⟩:=List.getElem_of_mem f;have c:i<List.length t.2.2.1:=by omega
 refine⟨t.2.2.1[i],List.getElem_mem c,?_⟩;have d:i<(List.zip t.2.1 t.2.2.1).length:=by grind
 have e:((2,(a,(t.1,((t.2.2.1[i]).1,((t.2.1[i]).1,()))))):fv)∈p0 a t:=by unfold p0;refine List.mem_map.2 ⟨(List.zip t.2.1 t.2.2.1)[i],List.getElem_mem d,?_⟩;grind
 rcases b _ e with h|h;·grind
 omega
theorem D6.Nw{R:Int}{w:ek}{d:Int}{S:List ds}(c:D6 R w d S){A B:List D9}(f:mw S A=true)(b:mw S B=true):∃x∈A,∃y∈B,x.1=y.1/\j0 (c8 w) x.1=false:=by obtain⟨v,_,a,e,k⟩:=Mx c.set f b c.xg;obtain⟨x,j,h⟩:=My a;obtain⟨y,g,i⟩:=My e;grind
theorem D6.Sz{R:Int}{w:ek}{b:Int}{S:List ds}(c:D6 R w b S){q a:j8}(h:uf S q=true)(m:∀s∈nv b q,GW w s)(i:1<=q.1)(j:uf S a=true)(d:∀s∈nv b a,GW w s)(e:a.1=q.1):a.2.1=q.2.1:=by obtain⟨x,k,y,f,l,o⟩:=c.Nw (AL h i) (AL j (by omega));have g:=K1 m k o;have n:=K1 d f (by grind);exact (c.Hm.Hm _ n _ g rfl rfl rfl e l.symm)
theorem D6.SA{R:Int}{w:ek}{a:Int}{S:List ds}(c:D6 R w a S){q:j8}(h:uf S q=true)(g:∀s∈nv a q,GW w s)(e:1<=q.1):∃b l,b.1=q.2.1/\b.2.2.1=q.1/\j6 (ab w) (GW w) S a b.1 (l++[b]):=by obtain⟨x,j,y,u,A,i⟩:=c.Nw (AL h e) (AL h e);obtain⟨n,m,_,f,r,L,d,l,b,p,k,o,v,z,t⟩:=c.vw.vote _ (K1 g j i) rfl;have :=c.Sy n m f r L d p k o;grind
theorem SB{l:List D3}:∀{a:Int},a<=List.foldl (λ(n:Int)(x:D3)=>bif dO n x.1 then x.1 else n) a l/\∀h∈l,h.1<=List.foldl (λ(n:Int)(x:D3)=>bif dO n x.1 then x.1 else n) a l:=by induction l with|nil=>grind|cons x r b=>
 intro a;rw[List.foldl_cons];obtain⟨c,d⟩:=b (a:=bif dO a x.1 then x.1 else a);have e:a<=(bif dO a x.1 then x.1 else a)/\x.1<=(bif dO a x.1 then x.1 else a):=by grind[dO,Au,Cp]
 grind
theorem Jy{b:ao}(h:lv b=true)(a:WV b):(ia b).1=b.2.2.1-1\/((o8 b).1=b.2.2.1-1/\0<(o8 b).1/\JO (o8 b)<=(ia b).1):=by
 have e:gS .i64 b.2.2.1 1=b.2.2.1-1:=iz (by have :=a.rd;omega) (by have :=a.rd;omega);unfold lv at h;rw[e]at h;simp only[Bool.or_eq_true,Bool.and_eq_true]at h;rcases h with h|h;·exact .inl (Cr.1 h.1)
 ·exact .inr ⟨Cr.1 h.1,Cp.1 h.2.1,Cq.1 h.2.2⟩
theorem PZ{b:ao}(a:WV b):0<=(ia b).1/\(ia b).1<b.2.2.1:=by have c:=R5 a.qc;have e:gS .i64 b.2.2.1 1=b.2.2.1-1:=iz (by have :=a.rd;omega) (by have :=a.rd;omega);rw[e]at c;have :=a.rd;omega
theorem D6.wR{R:Int}{w:ek}{n:Int}{S:List ds}(c:D6 R w n S){q:j8}{l:List ao}{a b:ao}(d:On (ab w) (GW w) S n q l a b):∀(k:Nat) (g:j8),uf S g=true->(∀s∈nv n g,GW w s)->a.2.2.1<=g.1->g.1<=a.2.2.1+(k:Int)->∀m,j6 (ab w) (GW w) S n g.2.1 m->l++[a]<+:m:=by have I:=d.ch.UG;have Y:=KT (c.bl.kp a I.2.1);have ε:=Y.rd;have γ:=d.ard;have β:=d.WZ;intro k;induction k with|zero=>intro g o p J W m j;have e:g.2.1=(ia b).2.1:=c.Sz d.ba.qc d.ba.qa (by omega) o p (by omega);rw[e,d.ME]at j;rw[j.Fg c.bl d.ch];grind|succ k X=>
 intro g o p J W m j;by_cases ρ:g.1<=a.2.2.1+(k:Int);·grind
 obtain⟨D,u,v,σ,C⟩:=c.SA o p (by omega);have F:m=u++[D]:=by rw[<-v]at j;exact j.Fg c.bl C
 obtain⟨_,B,i,r,_⟩:=C.UG;have E:=KT (c.bl.kp D B);by_cases V:g.1=q.1;·have e:g.2.1=q.2.1:=c.Sz d.qc d.qa (by omega) o p V;have H:D=b:=c.bl.Fg B d.Zz (by rw[v,e,d.id]);subst H;rw[d.ME]at r;rw[F,r.Fg c.bl d.ch];grind
 · have δ:=PZ E;have G:a.2.2.1<=(ia D).1:=by
    rcases Jy i.fo E with f|⟨κ,π,θ⟩;· omega
    · obtain⟨N,T⟩:=Nv i.tc (by omega);obtain⟨x,Q,y,U,Z,P⟩:=c.Nw (AL d.qc (by omega)) N;have L:=K1 d.qa Q P;obtain⟨h,K,O⟩:=W5 T i.ta U (by grind);obtain⟨z,M,t,A⟩:=c.vw.W2 _ L _ O rfl rfl Z rfl (by grind);have t:z.1=q.2.1:=t;have A:(ia z).1<=h.1:=A;have α:z=b:=c.bl.Fg M d.Zz (by rw[t,d.id]);subst α;have μ:h.1<=JO (o8 D):=(SB (l:=(o8 D).2.2.1) (a:=0)).2 h K;omega
   have :=X (ia D) i.qc i.qa G (by omega) u r;grind
theorem D6.cmp{R:Int}{w:ek}{f:Int}{S:List ds}(c:D6 R w f S){q j:j8}{l g:List ao}{a e b i:ao}(h:On (ab w) (GW w) S f q l a b) (d:On (ab w) (GW w) S f j g e i):l++[a]<+:g++[e]\/g++[e]<+:l++[a]:=by
 by_cases k:a.2.2.1<=e.2.2.1;·refine .inl (c.wR h (e.2.2.1-a.2.2.1).toNat (ia i) d.ba.qc d.ba.qa (by rw[d.WZ];omega) (by rw[d.WZ];omega) _ ?_);rw[d.ME];exact d.ch
 ·refine .inr (c.wR d (a.2.2.1-e.2.2.1).toNat (ia b) h.ba.qc h.ba.qa (by rw[h.WZ];omega) (by rw[h.WZ];omega) _ ?_);rw[h.ME];exact h.ch
theorem q9.Va{bl:List ao}{G:fv->Prop}{base:fp}{P:List tB}{S:List ds}{L:fp}{d:List D3}(h:q9 bl G base P S L d):(P=[]/\S=k8 base.2.1/\L=base/\d=[])\/∃(e:List tB)(f:List ds)(g:fp)(j i:List D3)(q:j8)(l:List ao)(a b:ao)(p:List ao)(c:ao)(r:List ao),P=e++[((e.length:Int),((l++[a])++[b],(q.1,(q.2.1,(q.2.2.1,())))))]/\q9 bl G base e f g j/\MF bl G f (e.length:Int) j i/\On bl G f (e.length:Int) q l a b/\l++[a]=p++c::r/\fi c=true/\(∀x∈p,fi x=false)/\S=j9 c/\L=k0 (nr g (p++[c]))/\d=i4 i (ic (p++[c])):=by cases h with|nil=>grind|KW e f g j i q l a b p c r n k o t s m=>grind
theorem q9.set{R:Int}{bl:List ao}{G:fv->Prop}{base:fp}{P:List tB}{S:List ds}{L:fp}{d:List D3}(g:BR R bl)(n:k8 base.2.1=[]\/pv (k8 base.2.1)=true)(h:q9 bl G base P S L d):S=[]\/pv S=true:=by
 rcases h.Va with⟨_,e,_,_⟩|⟨k,m,o,u,s,q,l,a,b,p,c,r,_,_,_,j,v,t,_,e,_,_⟩;·grind
 ·rw[e];have f:c∈bl:=(j.ch.dr c (by grind)).1;have i:=(KT (g.kp c f)).bo;unfold H7 at i;grind
theorem q9.xg{an:List D9}{bl:List ao}{G:fv->Prop}{base:fp}{P:List tB}{S:List ds}{L:fp}{d:List D3}(m:Fv an (k8 base.2.1))(f:∀p∈P,∀b∈i5 p,fi b=true->Fv an (j9 b))(h:q9 bl G base P S L d):Fv an S:=by
 rcases h.Va with⟨_,e,_,_⟩|⟨j,k,o,t,s,q,l,a,b,p,c,r,g,_,_,n,u,i,_,e,_,_⟩;·grind
 ·rw[e];refine f _ (by rw[g];exact List.mem_append_right _ (List.mem_cons_self ..)) c ?_ i;grind
theorem Mz{d:List D3}{n:Int}:KJ d n=true↔∃x∈d,x.1=n:=by simp_all[KJ,D3,gA,Cr]
theorem P0(d a b:List D3):i4 d (a++b)=i4 (i4 d a) b:=by simp_all[D3,i4,sU]
theorem Hb:∀(a d:List D3),(∀x∈a,x∈d)->i4 d a=d
 |[],d,_=>rfl|x::r,d,h=>by
  have b:i4 d (x::r)=i4 (sU d x.1) r:=rfl;have c:sU d x.1=d:=by unfold sU;rw[Mz.2 ⟨x,h x (List.mem_cons_self ..),rfl⟩];rfl
  rw[b,c];exact Hb r d (λy e=>h y (List.mem_cons_of_mem _ e))
theorem J7:∀(a d:List D3),a.Pairwise (λx y=>x.1<y.1)->(∀x∈a,∀y∈d,y.1≠x.1)->i4 d a=d++a
 |[],d,_,_=>(List.append_nil d).symm|x::r,d,b,h=>by
  have f:i4 d (x::r)=i4 (sU d x.1) r:=rfl;have g:sU d x.1=d++[x]:=by unfold sU;cases c:KJ d x.1 with|true=>obtain⟨y,i,e⟩:=Mz.1 c;grind|false=>rfl
  rw[f,g];rw[List.pairwise_cons]at b;rw[J7 r (d++[x]) b.2 (λy i z j=>?_),List.append_assoc];rfl;grind
theorem OC(a b:List ao):ic (a++b)=ic a++ic b:=by unfold ic;grind
theorem W6{X:List ao}(h:X.Pairwise (λx y=>x.1<y.1)):(ic X).Pairwise (λx y=>x.1<y.1):=by unfold ic;grind
theorem J8{bl:List ao}{R h:Int}(l:BR R bl){d:List D3}{c X:List ao}(m:∀x∈d,∃b∈bl,b.1=x.1/\b.2.1<h)(g:X.Pairwise (λx y=>x.1<y.1))(o:∀b∈X,b∈bl/\b.2.1=h)(k:c<+:X):i4 (d++ic c) (ic X)=d++ic X:=by
 obtain⟨r,rfl⟩:=k;rw[List.pairwise_append]at g;rw[OC,P0,Hb (ic c) (d++ic c) (λx f=>List.mem_append_right _ f),J7 (ic r) (d++ic c) (W6 g.2.1) (λx f y a=>?_),List.append_assoc];unfold ic at f;obtain⟨b,i,rfl⟩:=List.mem_map.1 f;rcases List.mem_append.1 a with a|a;·obtain⟨z,n,p,s⟩:=m y a;obtain⟨j,q⟩:=o b (List.mem_append_right _ i);intro e;have :=l.Fg n j (p.trans e);grind
 ·unfold ic at a;grind
theorem P3{b:List D3}{a X:List ao}(c:X<+:a):i4 (b++ic a) (ic X)=b++ic a:=by refine Hb _ _ (λx d=>List.mem_append_right _ ?_);obtain⟨r,rfl⟩:=c;simp_all[D3,ic,ao,OC]
theorem SC{b p r:List ao}{c:ao}(i:∀x∈b,fi x=false)(g:fi c=true)(h:b<+:p++c::r):b<+:p:=by
 obtain⟨t,e⟩:=h;rcases List.append_eq_append_iff.1 e with⟨a,d,f⟩|⟨a,d,f⟩;·grind
 ·cases a with|nil=>grind|cons y a=>grind
theorem Hc:∀{p b s d:List ao}{c a:ao},(∀x∈p,fi x=false)->(∀x∈b,fi x=false)->fi c=true->fi a=true->p++c::s=b++a::d->p=b/\c=a|[],[],s,d,c,a,_,_,_,_,e=>by grind|[],y::b,s,d,c,a,_,h,j,_,e=>by grind|x::p,[],s,d,c,a,g,_,_,i,e=>by grind|x::p,y::b,s,d,c,a,g,h,j,i,e=>by simp only[List.cons_append,List.cons.injEq]at e;obtain⟨k,l⟩:=Hc (λz f=>g z (List.mem_cons_of_mem _ f)) (λz f=>h z (List.mem_cons_of_mem _ f)) j i e.2;grind
theorem MF.dr{bl:List ao}{G:fv->Prop}{S:List ds}{c:Int}{e d:List D3}(h:MF bl G S c e d):∀x∈d,x∈e\/∃b∈bl,b.1=x.1/\b.2.1=c:=by induction h with|nil=>grind|WK d q l a b _ f _ m=>
 intro x k;rcases Fa k with h|h;·grind
 ·unfold ic at h;obtain⟨z,j,rfl⟩:=List.mem_map.1 h;obtain⟨g,i⟩:=f.ch.dr z j;exact .inr ⟨z,g,rfl,i.eq⟩
theorem q9.dr{bl:List ao}{G:fv->Prop}{base:fp}{P:List tB}{S:List ds}{L:fp}{d:List D3}(h:q9 bl G base P S L d):∀x∈d,∃b∈bl,b.1=x.1/\b.2.1<(P.length:Int):=by induction h with|nil=>grind|KW f S L s d q l a b p c r _ i m o v t w=>
 intro x g;have e:((f++[(((f.length:Int),((l++[a])++[b],(q.1,(q.2.1,(q.2.2.1,()))))):tB)]).length:Int)=(f.length:Int)+1:=by grind
 rw[e];rcases Fa g with h|h
 · rcases i.dr x h with h|⟨z,u,y,n⟩;· grind
   grind
 · unfold ic at h;obtain⟨z,A,rfl⟩:=List.mem_map.1 h;obtain⟨k,j⟩:=m.ch.dr z (by grind);exact⟨z,k,rfl,by have :=j.eq;omega⟩
theorem MF.aW6{R:Int}{w:ek}{g:Int}{S:List ds}(c:D6 R w g S){j d:List D3}(s:∀x∈j,∃b∈ab w,b.1=x.1/\b.2.1<g)(h:MF (ab w) (GW w) S g j d):∃f,d=j++ic f/\(∀x∈f,fi x=false)/\(f=[]\/∃q l a b,On (ab w) (GW w) S g q l a b/\f=l++[a]):=by induction h with|nil=>exact⟨[],by unfold ic;simp,λx t=>(by cases t),.inl rfl⟩|WK d q l a b _ i z v=>
 obtain⟨f,e,u,n⟩:=v;have r:=(i.ch.Wz c.bl).2;have y:∀b∈l++[a],b∈ab w/\b.2.1=g:=λb o=>⟨(i.ch.dr b o).1,(i.ch.dr b o).2.eq⟩;have p:f<+:l++[a]\/l++[a]<+:f:=by
  rcases n with rfl|⟨A,D,B,C,k,rfl⟩;·grind
  ·exact c.cmp k i
 rcases p with m|m;·exact⟨l++[a],by rw[e];exact J8 c.bl s r y m,z,.inr ⟨q,l,a,b,i,rfl⟩⟩
 ·exact ⟨f,by rw[e];exact P3 m,u,n⟩
structure PW(R:Int)(w:ek):Prop where
 bl:BR R (ab w)vw:VW w
 Hm:w4 w
 set:k8 (ev w).2.1=[]\/pv (k8 (ev w).2.1)=true
 ZD:Fv (c8 w) (k8 (ev w).2.1)ZE:∀n∈aa w,∀p∈bk n,∀b∈i5 p,fi b=true->Fv (c8 w) (j9 b)
theorem MA{R:Int}{w:ek}{f:Int}{S:List ds}(c:D6 R w f S){j d:List D3}(o:∀x∈j,∃b∈ab w,b.1=x.1/\b.2.1<f)(h:MF (ab w) (GW w) S f j d){q:j8}{l:List ao}{a b:ao}{p:List ao}{x:ao}{r:List ao}(g:On (ab w) (GW w) S f q l a b) (v:l++[a]=p++x::r) (B:fi x=true) (D:∀y∈p,fi y=false):i4 d (ic (p++[x]))=j++ic (p++[x]):=by
 obtain⟨A,e,z,s⟩:=h.aW6 c o;have i:p++[x]<+:l++[a]:=⟨r,by grind⟩;have t:(p++[x]).Pairwise (λx y=>x.1<y.1):=(g.ch.Wz c.bl).2.sublist i.sublist;have C:∀b∈p++[x],b∈ab w/\b.2.1=f:=λb n=>⟨(g.ch.dr b (i.subset n)).1,(g.ch.dr b (i.subset n)).2.eq⟩;have u:A<+:p:=by
  rcases s with rfl|⟨E,H,F,G,k,rfl⟩;·grind
  · rcases c.cmp k g with m|m;· rw[v]at m;exact SC z B m
    grind
 rw[e];exact J8 c.bl o t C (u.trans (List.prefix_append _ _))
theorem PW.Sy{R:Int}{w:ek}(h:PW R w):∀(e:Nat),∀n∈aa w,∀m∈aa w,∀(P j:List tB)(S G:List ds)(L z:fp)(d E:List D3),P<+:bk n->j<+:bk m->P.length=e->j.length=e->q9 (ab w) (GW w) (ev w) P S L d->q9 (ab w) (GW w) (ev w) j G z E->S=G/\L=z/\d=E:=by intro e;induction e with
 |zero=>
 intro n F m θ P j S G L z d E δ π B i K Y;rcases K.Va with⟨_,g,β,X⟩|⟨f,u,C,A,α,q,l,a,b,p,c,r,v,_⟩
 · rcases Y.Va with⟨_,γ,J,D⟩|⟨f,u,C,A,α,q,l,a,b,p,c,r,v,_⟩;· grind
   grind
 grind|succ e κ=>
 intro n F m θ P j S G L z d E δ π B i K Y;rcases K.Va with⟨v,_⟩|⟨f,u,C,A,α,q,l,a,b,p,c,r,v,g,β,X,I,U,Q,a7,a8,a9⟩;· grind
 rcases Y.Va with⟨y,_⟩|⟨H,σ,ρ,τ,ad,q',l',a',b',p',c',r',y,γ,J,D,M,N,T,b7,b8,b9⟩;· rw[y]at i;simp at i
 have V:f.length=e:=by rw[v]at B;simp at B;exact B
 have ε:H.length=e:=by rw[y]at i;simp at i;exact i
 have W:f<+:bk n:=(List.prefix_append _ _).trans (by rw[<-v];exact δ);have p2:H<+:bk m:=(List.prefix_append _ _).trans (by rw[<-y];exact π);obtain⟨e1,ω,φ⟩:=κ n F m θ f H u σ C ρ A τ W p2 V ε g γ;subst e1 ω φ;have O:D6 R w (f.length:Int) u:=⟨h.bl,h.vw,h.Hm,g.set h.bl h.set,g.xg h.ZD (λx hx=>h.ZE n F x (W.subset hx)),λk hk pk Sk Lk ψ μ k2 k3=>(κ k hk n F pk f Sk u Lk C ψ A μ W (by omega) V k3 g).1⟩;have Z:=g.dr;rw[ε,<-V]at J D;have f1:=MA O Z β X I U Q;have f2:=MA O Z J D M N T;have hs:p=p'/\c=c':=by
  rcases O.cmp X D with⟨t,o⟩|⟨t,o⟩;· rw[I,M]at o;exact Hc (s:=r++t) Q T U N (by rw[<-o];simp)
  · rw[I,M]at o;obtain⟨μ,k2⟩:=Hc (s:=r'++t) T Q N U (by rw[<-o];simp);grind
 grind
theorem W7{E S:Nat}{w:ek}(h:WI E S w)(p:E<890)(m:S<=900000)(e:Ul)(g:e.1=6)(a:e.2.1=0)(b:0<(dt w).length):Y (MV (w,(e,()))) (λy=>y.2.1=mh (vl w 0) (dt w)[0]):=by
 have c:=h.nt;have k:gS .i64 ((dt w).length:Int) 1=((dt w).length:Int)-1:=iz (by omega) (by omega);have f:=h.nm _ (List.getElem_mem b);have q:bK (dt w) e.2.1=some (dt w)[0]:=by rw[a];exact cB b
 have s:aC (dt w) (Int.toNat e.2.1)=some (dt w)[0]:=by rw[a];exact qn b
 have t:Di e.2.1 0 (gS .i64 ((dt w).length:Int) 1)=true:=by rw[k,a];simp[Di,km];omega
 unfold MV;refine Y.eq (l6 _ _ _) (Y.ff (by grind) (Y.eq q (Y.eq s (Y.ff (by show gA e.1 8=false;rw[g];rfl) ?_))));have x:cM .i64 ((0:Nat):Int) 1=((0+1:Nat):Int):=wG (n:=400) (by omega) (by omega);have r:mX e.2.1 (dt w).length=true:=by simp_all[mX,tR,D9,D3,gd,dt]
 have l:mX (cM .i64 e.2.1 1) (dt w).length=true:=by unfold mX;grind
 have i:=JZ b c;refine Y.tt r (Y.dE (by grind) (by decide) (by decide) (Y.tt l (Y.dE ?_ (by decide) (by decide) ?_)));·have u:List.length w.2.2.2.2.2.2.1<=400:=c;unfold bV;grind
 · have j:(Hl w (aa w) (ab w) (gl w) (bV (bV ([]:List gd) (List.take (Int.toNat e.2.1-0) (List.drop 0 (dt w)))) (List.take ((dt w).length-Int.toNat (cM .i64 e.2.1 1)) (List.drop (Int.toNat (cM .i64 e.2.1 1)) (dt w)))))=vl w 0:=by rw[a];show Hl w (aa w) (ab w) (gl w) (bV (bV ([]:List gd) (List.take (Int.toNat ((0:Nat):Int)-0) (List.drop 0 (dt w)))) (List.take ((dt w).length-Int.toNat (cM .i64 ((0:Nat):Int) 1)) (List.drop (Int.toNat (cM .i64 ((0:Nat):Int) 1)) (dt w))))=_;rw[i];rfl
   have d:=KS (pt h 0) p m f.1 f.2;rw[<-j]at d;refine Y.DZ (P:=λv=>v=mh (vl w 0) (dt w)[0]) (R:=λ_=>False) (Y.tt (by show gA e.1 6=true;rw[g];rfl) (Y.eq d (Y.l ?_))) (λv o=>Y.mk o) (λ_ h=>h.elim);grind
structure DJ(fs:List Int)(e:Bool)(an:List D9)(S:Nat)(R:Int)(B:Nat)(w:ek):Prop where
 wi:WI 889 S w
 wr:WR R w
 Hm:w4 w
 sw:SW w
 vw:VW w
 bl:(ab w).length<=B
 ne:aa w≠[]fo:Ha an/\c8 w=an
 ba:ev w=(0,(cv fs e,()))Xt:(aa w).map (λn=>n.1)=((cv fs e).filter (λa=>!j0 an a.1)).map (λa=>a.1)
section
variable{fs:List Int}{e:Bool}{an:List D9}
theorem DI.dj{K:Nat}{w:ek}(h:DI fs e an K w):DJ fs e an K (14*(K:Int)) K w:=⟨h.wi,h.wr,h.Hm,h.sw,h.vw,h.bl,h.ne,h.fo,h.ba,h.Xt⟩
theorem DJ.up{S b:Nat}{R R':Int}{B a:Nat}{w:ek}(h:DJ fs e an S R B w)(c:S<=b)(d:R<=R')(f:B<=a):DJ fs e an b R' a w:=⟨h.wi.up (Nat.le_refl _) c,h.wr.up d,h.Hm,h.sw,h.vw,Nat.le_trans h.bl f,h.ne,h.fo,h.ba,h.Xt⟩
theorem DJ.go{S:Nat}{R R':Int}{B b:Nat}{w a:ek}(h:DJ fs e an S R B w)(i:S<=900000)(m:b<=889)(s:qL w a)(d:WR R' a)(g:(ab a).length<=b):DJ fs e an (S+1) R' b a:=by
 have f:=s.wi h.wi (by decide) i;obtain⟨_,c,o,l,k⟩:=s.CB h.wi (by decide);refine⟨f.yN d (by omega),d,s.Hm h.wi (by decide) h.wr h.Hm,s.sw h.wi (by decide) h.wr h.sw,s.vw h.wi (by decide) h.wr h.Hm h.sw h.vw,g,λj=>?_,⟨h.fo.1,k.trans h.fo.2⟩,?_,c.trans h.Xt⟩;·rw[j]at c;have :(aa w).map (λn=>n.1)=[]:=c.symm;rw[List.map_eq_nil_iff]at this;grind[ne]
 ·have :=h.ba;grind
def K2(fs:List Int)(e:Bool)(an:List D9):Nat:=((cv fs e).filter (λa=>!j0 an a.1)).length
theorem DJ.K4{S:Nat}{R:Int}{B:Nat}{w:ek}(h:DJ fs e an S R B w):(aa w).length=K2 fs e an:=by have :=congrArg List.length h.Xt;rw[List.length_map,List.length_map]at this;exact this
theorem SD(b:fs.length<=4):K2 fs e an<=5:=by have c:=List.length_filter_le (λa=>!j0 an a.1) (cv fs e);have d:=AI fs e b;unfold K2;grind
end
theorem MB(w:ek)(m:gd):ab (mh w m)=ab w:=by unfold mh;cases (aa w)[(Qg (aa w) m.2.1).toNat]? with|none=>rfl|some n=>dsimp only;cases gA n.2.1 m.2.2.1<;>rfl
theorem SF{E S:Nat}{w:ek}{m:gd}(h:WI E S w)(i:E<890)(e:FK m){k:Nat}{n n':a0}(g:(aa w)[k]?=some n)(a:(aa (mh w m))[k]?=some n'):n.2.1<=n'.2.1:=by unfold mh at a;cases b:(aa w)[(Qg (aa w) m.2.1).toNat]? with|none=>grind|some x=>rw[b]at a;dsimp only at a;cases c:gA x.2.1 m.2.2.1 with|false=>grind|true=>rw[c]at a;have a:((aa w).set (Qg (aa w) m.2.1).toNat (fl x m).1)[k]?=some n':=a;obtain⟨d,f⟩:=h.nd x (List.mem_of_getElem? b);have j:=(HO d e (Cr.1 c).symm (by omega)).2.2.1;grind
section
variable{fs:List Int}{e:Bool}{an:List D9}
theorem DJ.ti{S:Nat}{R:Int}{B:Nat}{w:ek}(h:DJ fs e an S R B w)(d:S<=900000)(c:B<=889)(a:0<(dt w).length):DJ fs e an (S+1) R B (mh (vl w 0) (dt w)[0]):=by have b:=h.wi.nm _ (List.getElem_mem a);exact h.go d c (.ti 0 a) (Gy (pt h.wi 0) (by decide) (EW h.wr 0) b.1 (h.wr.A1 _ (List.getElem_mem a)) b.2) (by rw[MB];exact h.bl)
theorem DJ.Gv{S:Nat}{R:Int}{B:Nat}{w:ek}(h:DJ fs e an S R B w)(n:S<=900000)(m:B<=889){j k:Nat}(c:j<(aa w).length)(b:k<(aa w).length)(a:(fz (aa w)[j] (aa w)[k].2.1 (aa w)[k].1).2.1.1=true):FK (fz (aa w)[j] (aa w)[k].2.1 (aa w)[k].1).1/\s8 (aa w) (fz (aa w)[j] (aa w)[k].2.1 (aa w)[k].1).1.2.1=true/\DJ fs e an (S+1) R B (mh w (fz (aa w)[j] (aa w)[k].2.1 (aa w)[k].1).1):=by
 obtain⟨i,o⟩:=h.wi.nd _ (List.getElem_mem c);obtain⟨d,_⟩:=h.wi.nd _ (List.getElem_mem b);have l:=w6 _ _ _ a;have g:=p8 i d.v.h.ok.2.1 d.v.h.ok.1 a;have f:s8 (aa w) (fz (aa w)[j] (aa w)[k].2.1 (aa w)[k].1).1.2.1=true:=by rw[l.1];exact E9 b
 exact⟨g,f,h.go n m (.Gv j c k b a) (Gy h.wi (by decide) h.wr g (D1 h.wr.bl (h.wr.nd _ (List.getElem_mem c)) i (by omega) h.wr.r0 (h.wr.nd _ (List.getElem_mem b)).nm a) f) (by rw[MB];exact h.bl)⟩
theorem DJ.Jx{S:Nat}{R:Int}{B:Nat}{w:ek}(h:DJ fs e an S R B w)(o:S<=900000)(t:B<889){j:Nat}(a:j<(aa w).length):DJ fs e an (S+1) (R+1) (B+1) (Fp w j (aa w)[j]):=by
 obtain⟨c,u⟩:=h.wi.nd _ (List.getElem_mem a);have q:=h.bl;have g:=B7 (n:=(ab w).length) (by omega);obtain⟨p,s,l⟩:=Oh h.wr.bl (h.wr.nd _ (List.getElem_mem a)) c (by omega) h.wr.r0 h.wi.bl;have f:∀b∈ab w,b∈ab w++(ee (aa w)[j] ((ab w).length:Int)).2.1:=λb m=>List.mem_append_left _ m;have i:=(HP c g (by omega)).2.1;have r:=h.wr.r0;refine h.go o (by omega) (.Jx j a (by omega)) ?_ ?_
 · refine At (w:=Hl w ((aa w).set j (ee (aa w)[j] ((ab w).length:Int)).1) (ab w++(ee (aa w)[j] ((ab w).length:Int)).2.1) (gl w) (dt w)) ⟨by omega,h.wr.b0,h.wr.fo,p,λx d=>?_,h.wr.nm.set a i,λx d=>(h.wr.A1 x d).mono (by omega) f⟩ l;rcases List.mem_or_eq_of_mem_set d with k|rfl;· exact (h.wr.nd x k).mono (by omega) f (by grind)
   omega
 · show (ab w++(ee (aa w)[j] ((ab w).length:Int)).2.1).length<=B+1;rw[List.length_append];rcases (Gu c g (by omega)).2.2.2.2 with⟨e,_⟩|⟨e,_⟩<;>rw[e]<;>simp only[List.length_nil,List.length_cons]<;>omega
theorem DJ.Fq{S:Nat}{R:Int}{B:Nat}{w:ek}(h:DJ fs e an S R B w)(g:S<=900000)(f:B<=889)(k:R<=9990){j:Nat}(a:j<(aa w).length):DJ fs e an (S+1) (R+1) B (B5 w j (aa w)[j]):=by obtain⟨b,l⟩:=h.wi.nd _ (List.getElem_mem a);obtain⟨i,d⟩:=Mg h.wr.bl (h.wr.nd _ (List.getElem_mem a)) b (by omega) h.wr.r0 k;have c:=(Gn b (by omega)).2.1;exact h.go g f (.Fq j a) (At (As (h.wr.up (R':=R+1) (by omega)) a c i) d) h.bl
end
section
variable{fs:List Int}{e:Bool}{an:List D9}
theorem K3{S:Nat}{R:Int}{B:Nat}{w:ek}(h:DJ fs e an S R B w)(n:S+3000<=900000)(k:B<=889):Y (Kw (w,())) (λy=>DJ fs e an (S+3000) R B y.1):=by
 unfold Kw;refine Y.DZ (P:=λ(v:Int×ek)=>DJ fs e an (S+3000) R B v.2) (R:=λ_=>False) (Y.loop (I:=λ(v:Int×ek)=>0<=v.1/\v.1<=3000/\DJ fs e an (S+v.1.toNat) R B v.2) (λv=>(3000-v.1).toNat) (λv c=>?_) _ ⟨Int.le_refl _,by omega,h⟩) (λv c=>Y.mk c) (λ_ h=>h.elim);obtain ⟨i,w⟩:=v;obtain ⟨m,j,b⟩:=c;dsimp only at m j b;have d:DJ fs e an (S+3000) R B w:=b.up (by omega) (Int.le_refl _) (Nat.le_refl _);unfold Kw.b0;refine Y.DY (λf=>Y.DY (λa=>?_) (λ_=>Y.rl d)) (λ_=>Y.rl d);have f:i<3000:=Cp.1 f;have a:(0:Int)<((dt w).length:Int):=Cp.1 a;have a:0<(dt w).length:=by omega
 have o:cM .i64 i 1=i+1:=ed (by omega) (by omega);refine Y.bind (W7 b.wi (by decide) (by omega) _ rfl rfl a) λg l=>Y.l ⟨⟨?_,?_,?_⟩,?_⟩;·grind
 ·grind
 ·show DJ fs e an (S+(cM .i64 i 1).toNat) R B g.2.1;rw[l];exact (b.ti (by omega) k a).up (by omega) (Int.le_refl _) (Nat.le_refl _)
 grind
end
end Go.Proofs.YthjkikiepdnimaaGreat
