/- Plain laws, part 4: what the program's functions and the reference's compute, told as plain words. Conditions: none. -/
import Derived.Test.YthjkikiepdnimaaGreatTqU3
set_option linter.unusedVariables false
set_option linter.unusedSimpArgs false
set_option linter.constructorNameAsVariable false
namespace Go.Proofs.YthjkikiepdnimaaGreat
open Go Go.Tm
set_option maxRecDepth 100000
abbrev EvT:Type:=List D5×(Int×(Int×(Int×(Int×(Int×(Int×(ByteArray×(ByteArray×(Int×(Int×(List ao×(List an×(List gx×(List ie×ie))))))))))))))
def an0(v:EvT):XT:=(v.2.2.2.1,(v.2.2.2.2.1,(v.2.2.2.2.2.1,(v.2.2.2.2.2.2.1,(v.2.2.2.2.2.2.2.1,(v.2.2.2.2.2.2.2.2.1,(v.2.2.2.2.2.2.2.2.2.1,(v.2.2.2.2.2.2.2.2.2.2.1,v.2.2.2.2.2.2.2.2.2.2.2.2.2.2.2))))))))
theorem U3{k a h d e c:Int}{b tt:ByteArray}{m:ie}(l:(Lit.int .i64 d).wf=true)(g:Al b.size)(f:Al tt.size)(n:(Lit.int .i64 e).wf=true)(j:(Lit.int .i64 c).wf=true)(i:W5 m):Pd ((k,(a,(h,(d,(b,(tt,(e,(c,m)))))))):XT):=⟨⟨l,g,f,n,j,trivial⟩,i⟩
theorem an1:W5 ZI:=JN rfl (Nat.zero_le _) rfl (λb a=>by cases a) (Nat.zero_le _) rfl rfl (Nat.zero_le _) rfl rfl (Nat.zero_le _) rfl rfl CK (Nat.zero_le _)
theorem ev0(k a b:Int):Pd ((k,(a,(b,(0,(⟨#[]⟩,(⟨#[]⟩,(0,(0,ZI)))))))):XT):=U3 rfl (Nat.zero_le _) (Nat.zero_le _) rfl rfl an1
theorem Xp{E S:Nat}{w:ee}(h:WI E S w)(Z:E<890)(B:aa w≠[])(c:PX)(J:A0 c)(V:∀n∈aa w,0<=ad n/\ad n<=100000/\(ar n).length<=12):Y (YC (c,(w,()))) (λy=>Pd y.1/\(gA y.1.1 9=true->FR w (eM y.1))/\A0 y.2.1/\y.2.1.1=c.1/\y.2.2.1=w):=by
 have M:(0:Int)<((aa w).length:Int):=by have :=List.length_pos_iff.2 B;omega
 have σ:=h.nl;unfold YC;refine Y.DZ (P:=λv=>A0 v/\v.1=c.1) (R:=λy=>Pd y.1/\(gA y.1.1 9=true->FR w (eM y.1))/\A0 y.2.1/\y.2.1.1=c.1/\y.2.2.1=w) (Y.DY (λτ=>?_) (λ_=>Y.l ⟨J,rfl⟩)) (λv4 L=>?_) (λv f=>Y.mk f);·refine Y.bind (FD _ _ J) λy1 z=>Y.DY (λ_=>?_) (λ_=>Y.l z);refine Y.bind (No _ _ z.1 (by simp)) λπ t=>Y.bind (la _ _ t.2.1) λy3 D=>Y.r ⟨ev0 _ _ _,λe=>?_,D.2.2.2.1,D.2.2.2.2.trans (t.2.2.trans z.2),rfl⟩;have l:π.1.1=9:=Cr.1 e;have h:=t.1;simp only[List.mem_cons,List.not_mem_nil,or_false]at h;grind
 · refine Y.bind (la _ _ L.1) λF o=>?_;have N:F.1.1<((aa w).length:Int):=o.2.1 M;obtain⟨j,hj⟩:=Int.eq_ofNat_of_zero_le o.1;have ag:j<(aa w).length:=by omega
   have T:F.2.1.1=c.1:=o.2.2.2.2.trans L.2;refine Y.DZ (P:=λv=>A0 (v.1,(v.2.1,(v.2.2.1,())))/\v.1=c.1/\Pd (an0 v)/\(gA v.2.2.2.1 9=true->FR w (eM (an0 v)))/\v.2.2.2.2.2.2.2.2.2.2.2.1=aa w/\v.2.2.2.2.2.2.2.2.2.2.2.2.1=ab w/\v.2.2.2.2.2.2.2.2.2.2.2.2.2.1=hH w/\v.2.2.2.2.2.2.2.2.2.2.2.2.2.2.1=gl w) (R:=λy=>Pd y.1/\(gA y.1.1 9=true->FR w (eM y.1))/\A0 y.2.1/\y.2.1.1=c.1/\y.2.2.1=w) ?_ (λv f=>?_) (λv f=>Y.mk f)
   · refine Y.bind (la _ _ o.2.2.2.1) λθ b=>?_;have d:θ.2.1.1=c.1:=b.2.2.2.2.trans T;have g:∀{k:Int}{P:Prop},k≠9->(gA k 9=true->P):=λl e=>absurd (Cr.1 e) l;refine Y.DZ (P:=λ_=>True) (R:=λ_=>False) (Y.DY (λ_=>Y.l trivial) (λ_=>Y.DY (λ_=>Y.l trivial) (λ_=>Y.DY (λ_=>Y.l trivial) (λ_=>Y.l trivial)))) (λv8 _=>?_) (λ_ h=>h.elim);refine Y.DY (λ_=>?_) (λ_=>?_)
     · refine Y.DZ (P:=λ_=>True) (R:=λ_=>False) (Y.loop (I:=λv=>0<=v.1/\v.1<=((aa w).length:Int)) (λv=>(((aa w).length:Int)-v.1).toNat) (λv f=>?_) _ ⟨Int.le_refl _,Int.natCast_nonneg _⟩) (λv _=>Y.l ⟨b.2.2.2.1,d,ev0 _ _ _,g (by grind),rfl,rfl,rfl,rfl⟩) (λ_ h=>h.elim);obtain ⟨i,a,ah⟩:=v;obtain ⟨H,α⟩:=f;dsimp only at H α;unfold YC.b0;refine Y.DY (λp=>?_) (λ_=>Y.rl trivial);have p:i<((aa w).length:Int):=Cp.1 p;have e1:cM .i64 i 1=i+1:=ed (by omega) (by omega);have l:(0<=cM .i64 i 1/\cM .i64 i 1<=((aa w).length:Int))/\(((aa w).length:Int)-cM .i64 i 1).toNat<(((aa w).length:Int)-i).toNat:=by omega
       exact Y.Eb H p λx _=>Y.eq (tR (ar x) (ad x)) (Y.DY (λ_=>Y.DY (λ_=>Y.l l) (λ_=>Y.l l)) (λ_=>Y.l l))
     · refine Y.DZ (P:=λ_=>True) (R:=λ_=>False) (Y.DY (λ_=>Y.l trivial) (λ_=>Y.l trivial)) (λaf _=>?_) (λ_ h=>h.elim);refine Y.DY (λ_=>Y.l ⟨b.2.2.2.1,d,ev0 _ _ _,g (by grind),rfl,rfl,rfl,rfl⟩) (λ_=>Y.DY (λ_=>?_) (λ_=>?_));· exact Y.bind (la _ _ b.2.2.2.1) λω C=>Y.l ⟨C.2.2.2.1,C.2.2.2.2.trans d,ev0 _ _ _,g (by grind),rfl,rfl,rfl,rfl⟩
       · refine Y.DZ (P:=λ_=>True) (R:=λ_=>False) (Y.DY (λ_=>Y.l trivial) (λ_=>Y.l trivial)) (λφ _=>?_) (λ_ h=>h.elim);refine Y.DY (λ_=>?_) (λ_=>Y.DY (λ_=>Y.l ⟨b.2.2.2.1,d,ev0 _ _ _,g (by grind),rfl,rfl,rfl,rfl⟩) (λ_=>Y.DY (λ_=>Y.r ⟨ev0 _ _ _,g (by grind),b.2.2.2.1,d,rfl⟩) (λs=>?_)))
         · refine Y.Eb (xs:=aa w) o.1 N λx γ=>?_;obtain ⟨u,_⟩:=h.nd x γ;refine Y.bind (al9 _ (ft x) b.2.2.2.1 (Hf u.v.Hg) (Nat.le_trans (n5 u.v.Hg).1 (by decide))) λA m=>?_;have W:(Lit.int .i64 A.1.1).wf=true:=DX (by omega) (by omega);have ae:(Lit.int .i64 A.1.2.2.2.2.1).wf=true:=by
            rcases m.2.2.2.2.2.2.1 with ⟨K,G⟩|⟨a,ρ,q⟩;· exact DX (by omega) (by omega)
            · rw[q];have U:Wv a:=Ae u.v.h.ok.base.2 ρ;exact U.2.2.1
           refine Y.bind (No _ _ m.2.2.2.2.2.2.2.1 (by simp)) λψ r=>Y.l ⟨r.2.1,r.2.2.trans (m.2.2.2.2.2.2.2.2.trans d),U3 W (Nat.le_trans m.2.2.1 (by decide)) (Nat.le_trans m.2.2.2.1 (by decide)) ?_ ?_ an1,g (by grind),rfl,rfl,rfl,rfl⟩;· have h:=r.1;simp only[List.mem_cons,List.not_mem_nil,or_false]at h;rcases h with h|h|h<;>rw[h]<;>rfl
           omega
         · have s:((df w).length:Int)≠0:=CN.1 s;have Q:df w≠[]:=λe=>s (by grind);refine Y.bind (UB h Z B Q _ b.2.2.2.1 V) λO X=>?_;obtain ⟨β,κ,z3,z4,ε⟩:=X;have hw:O.2.2.1=w:=ε;exact Y.l ⟨z3,z4.trans d,U3 rfl (Nat.zero_le _) (Nat.zero_le _) rfl rfl β,λ_=>κ,by grind,by grind,by grind,by grind⟩
   · obtain ⟨K,G,μ,δ,q5,q6,q7,q8⟩:=f;refine Y.mk ⟨μ,δ,K,G,?_⟩;grind
theorem DI.rn{fs:List Int}{e:Bool}{bF:List D9}{K:Nat}{w:ee}(h:DI fs e bF K w)(c:K<=700):∀n∈aa w,0<=ad n/\ad n<=100000/\(ar n).length<=12:=λn b=>by have a:=h.wr.nd n b;have :=a.rd;exact⟨by omega,by omega,(pn a.set).2⟩
theorem Xq(c:PX)(b:Int)(M:A0 c)(U:0<b/\b<=256):Y (XA (c,((b,()),()))) (λy=>∃fs e bF K,(fs.length<=4/\(∀f∈fs,f=3\/f=20))/\K<b.toNat/\DI fs e bF K y.1/\A0 y.2.1/\y.2.1.1=c.1):=by
 unfold XA;refine Y.bind (Xo c M) λV μ=>?_;obtain⟨fs,e,S,o,a3,a4,r,l⟩:=μ;have τ:=C0 fs e o;have t:=Qu (e:=e) o a3;obtain⟨⟨H,E,κ⟩,ψ,u1⟩:=V;have a4:((H,(E,κ)):ek)=(0,(dd fs e,())):=a4;simp only[Prod.mk.injEq]at a4;obtain⟨rfl,rfl,_⟩:=a4;dsimp only at r l;refine Y.DZ (P:=λv=>H0 v.1/\(v.1=[]\/3<=fs.length)/\A0 v.2/\v.2.1=c.1) (R:=λ_=>False) (Y.DY (λC=>Y.bind (FD _ _ r) λy2 m=>Y.DY (λ_=>?_) (λ_=>Y.l ⟨.inl rfl,.inl rfl,m.1,m.2.trans l⟩)) (λ_=>Y.l ⟨.inl rfl,.inl rfl,r,l⟩)) (λn ε=>?_) (λ_ h=>h.elim)
 · have C:(3:Int)<((dd fs e).length:Int):=Cp.1 C;have J:3<=fs.length:=by grind
   refine Y.bind (la _ _ m.1) λω p=>?_;have π:=p.2.1 (by decide);refine Y.Eb (by omega) (by omega) λW u=>Y.l ⟨.inr ⟨W.1,?_,rfl⟩,.inr J,p.2.2.2.1,p.2.2.2.2.trans (m.2.trans l)⟩;simp only[List.mem_cons,List.not_mem_nil,or_false]at u;rcases u with k|k|k|k<;>rw[k];· exact .inl rfl
   · exact .inr (.inl rfl)
   · exact .inr (.inr (.inl rfl))
   grind[RW,RX,Xm,Xn]
 · obtain ⟨D,γ,θ,X⟩:=ε;obtain ⟨f1,α,Z⟩:=Ms D;refine Y.eq (OP ((0,(dd fs e,())):ek) n.1 α (Nat.le_trans Z (by decide)) t.1 t.2) ?_;refine Y.bind (la _ b θ) λO j=>?_;have φ:=j.2.1 U.1;have ρ:=j.1;refine Y.DZ (P:=λv=>∃K:Nat,K<b.toNat/\DI fs e n.1 K v.2.2.2.2/\A0 (v.2.1,(v.2.2.1,(v.2.2.2.1,())))/\v.2.1=c.1) (R:=λ_=>False) (Y.loop (I:=λv=>0<=v.1/\∃K:Nat,(K:Int)+v.1=O.1.1/\DI fs e n.1 K v.2.2.2.2/\A0 (v.2.1,(v.2.2.1,(v.2.2.2.1,())))/\v.2.1=c.1) (λv=>v.1.toNat) (λv s=>?_) _ ⟨j.1,0,by omega,R1 S o a3 D γ,j.2.2.2.1,j.2.2.2.2.trans X⟩) (λv s=>?_) (λ_ h=>h.elim)
   · obtain ⟨i,T,β,N,w⟩:=v;obtain ⟨L,K,q,a,d,g⟩:=s;dsimp only at L q a d g;unfold XA.b0;refine Y.DY (λz=>?_) (λ_=>Y.rl ⟨K,by omega,a,d,g⟩);have z:0<i:=Cp.1 z;have e1:gS .i64 i 1=i-1:=iz (by omega) (by omega);refine Y.bind (Xp a.wi (by decide) a.ne (T,(β,(N,()))) d (a.rn (by omega))) λF G=>?_;obtain ⟨Q,δ,z3,z4,z5⟩:=G;have B:((w.1,(w.2.1,(w.2.2.1,F.2.2.1.2.2.2))):ee)=w:=by grind
     have x:=bu3 a.wi (by decide) (by omega) Q δ;rw[<-B]at x;refine Y.bind x λσ A=>Y.l ⟨⟨?_,K+1,?_,?_,z3,z4.trans g⟩,?_⟩;· grind
     · grind
     · rw[B]at A;exact a.dp (by omega) A
     grind
   · obtain ⟨K,q,a,d,g⟩:=s;exact Y.mk ⟨fs,e,n.1,K,⟨o,a3⟩,q,a,d,g⟩
def yo(p:ByteArray->Bool):List e6->Int|[]=>0|v::r=>(bif p v.1 then v.2.1 else 0)+yo p r
theorem E8{p:ByteArray->Bool}:∀{S:List e6},(∀v∈S,1<=v.2.1/\v.2.1<=1000000)->0<=yo p S/\yo p S<=1000000*(S.length:Int)|[],_=>⟨Int.le_refl _,Int.le_refl _⟩|v::r,h=>by have b:=E8 (p:=p) (S:=r) (λx a=>h x (List.mem_cons_of_mem _ a));have c:=h v (List.mem_cons_self ..);unfold yo;grind
theorem La{p:ByteArray->Bool}:∀{S:List e6}{a:Int},(∀v∈S,1<=v.2.1/\v.2.1<=1000000)->S.length<=12->0<=a->a<=1000000000->S.foldl (λn v=>bif p v.1 then cM .i64 n v.2.1 else n) a=a+yo p S
 |[],a,_,_,_,_=>by unfold yo;simp|v::r,a,h,s,i,z=>by
  have B:=h v (List.mem_cons_self ..);have o:r.length<=11:=by grind
  rw[List.foldl_cons];unfold yo;have c:∀(S:List e6)(k:Nat)(a:Int),S.length<=k->k<=12->(∀v∈S,1<=v.2.1/\v.2.1<=1000000)->0<=a->a<=1000000000+1000000*(12-(k:Int))->S.foldl (λn v=>bif p v.1 then cM .i64 n v.2.1 else n) a=a+yo p S:=by intro S;induction S with|nil=>intro k a _ _ _ _ _;unfold yo;simp|cons x t j=>
   intro k a u m b A w;have l:=b x (List.mem_cons_self ..);have f:t.length<=k-1/\1<=k:=by grind
   have d:∀v∈t,1<=v.2.1/\v.2.1<=1000000:=λy g=>b y (List.mem_cons_of_mem _ g);rw[List.foldl_cons];unfold yo;cases q:p x.1 with|false=>grind|true=>simp only[cond_true];have e:cM .i64 a x.2.1=a+x.2.1:=ed (by omega) (by omega);rw[e,j (k-1) (a+x.2.1) f.1 (by omega) d (by omega) (by omega)];omega
  have :=c (v::r) 12 a (by omega) (Nat.le_refl _) h i (by omega);rw[List.foldl_cons]at this;unfold yo at this;omega
theorem Lb{S:List e6}(h:S=[]\/u9 S=true)(b:List D9):Gz S b=yo (ke b) S:=by obtain⟨d,c⟩:=pn h;have :=La (p:=ke b) (S:=S) (a:=0) (λv e=>(d v e).2) c (Int.le_refl _) (by omega);unfold Gz;omega
theorem N3{S:List e6}(h:S=[]\/u9 S=true):I6 S=yo (λ_=>true) S:=by obtain⟨c,b⟩:=pn h;have :=La (p:=λ_=>true) (S:=S) (a:=0) (λv d=>(c v d).2) b (Int.le_refl _) (by omega);simp_all[I6,yo,e6,cM]
def Gm(bF:List D9)(S:List e6):Prop:=3*yo (ke bF) S<yo (λ_=>true) S
theorem Lc{S:List e6}{a:List D9}(h:S=[]\/u9 S=true)(b:pv S a=true):2*yo (λ_=>true) S<3*yo (ke a) S:=by obtain⟨d,f⟩:=pn h;have e:=E8 (p:=ke a) (S:=S) (λv c=>(d v c).2);have g:=E8 (p:=λ_=>true) (S:=S) (λv c=>(d v c).2);unfold pv at b;have b:=Cp.1 b;grind[yo,zJ,ke,Ar,I6,N3,Gz,Lb]
theorem Ld{a b f:ByteArray->Bool}:∀{S:List e6},(∀v∈S,1<=v.2.1)->(∀v∈S,a v.1=true->b v.1=true->f v.1=true)->yo a S+yo b S<=yo (λ_=>true) S+yo f S|[],_,_=>by unfold yo;omega|v::r,h,d=>by have g:=Ld (S:=r) (λx c=>h x (List.mem_cons_of_mem _ c)) (λx c=>d x (List.mem_cons_of_mem _ c));have i:=h v (List.mem_cons_self ..);have e:=d v (List.mem_cons_self ..);unfold yo;grind
theorem N4{S:List e6}{bF A B:List D9}(h:S=[]\/u9 S=true)(d:pv S A=true)(g:pv S B=true)(e:Gm bF S):∃v∈S,ke A v.1=true/\ke B v.1=true/\ke bF v.1=false:=by obtain⟨i,j⟩:=pn h;have n:=Lc h d;have l:=Lc h g;apply Classical.byContradiction;intro k;have :=Ld (a:=ke A) (b:=ke B) (f:=ke bF) (S:=S) (λv c=>(i v c).2.1) (λv c o m=>by grind);unfold Gm at e;omega
theorem N5{l:List D9}{s:ByteArray}(h:ke l s=true):∃x∈l,x.1=s:=by unfold ke at h;obtain⟨x,a,e⟩:=List.any_eq_true.1 h;exact⟨x,a,n7.1 e⟩
theorem C3{S:List e6}{q:k0}(h:C5 S q=true)(a:1<=q.1):pv S q.2.2.1=true:=by
 unfold C5 at h;simp only[Bool.or_eq_true,Bool.and_eq_true]at h;rcases h with h|h;·have :=(B8 h).1;omega
 grind
theorem Pn{S:List e6}{t:vc}(h:Gd S t=true)(a:1<=t.1):pv S t.2.1=true/\List.length t.2.2.1=List.length t.2.1:=by
 unfold Gd at h;simp only[Bool.or_eq_true,Bool.and_eq_true]at h;rcases h with h|h;·have :=(wS h).1;omega
 ·have :=Cr.1 h.2.2.1;grind
theorem mm.GG{R:Int}{bl:List an}{G p:gx->Prop}{S r:List e6}{m j g:Int}{l:List an}(f:BR R bl)(h:mm bl G S m g l):∀{c:List an},mm bl p r j g c->l=c:=by induction h with
 |ID g h=>intro c a;cases a with|ID _ _=>rfl|dp b l d o k q=>have :=(f.lt d).1;omega
 |dp b l d o k q z=>intro c a;generalize i:b.1=x at a;cases a with|ID _ u=>have :=(f.lt d).1;omega|dp t w n s v y=>have e:=f.GG d n i;grind
theorem mm.an2{bl:List an}{G:gx->Prop}{S:List e6}{a d:Int}{l:List an}{b:an}(h:mm bl G S a d (l++[b])):b.1=d/\b∈bl/\BA G S a b/\mm bl G S a (i0 b).2.1 l/\(ks (i0 b)=true\/∃p∈bl,p.1=(i0 b).2.1/\p.2.2.1=(i0 b).1):=by generalize i:l++[b]=x at h;cases h with|ID _ h=>simp_all|dp c g j f e k=>simp_all
theorem mm.Zs{R:Int}{bl:List an}{G:gx->Prop}{S:List e6}{g c:Int}{l:List an}(e:BR R bl)(h:mm bl G S g c l):(∀x∈l,x.1<=c)/\l.Pairwise (λx y=>x.1<y.1):=by induction h with|ID c h=>simp_all|dp b l f m k q n=>
 have d:=Mm (e.kp b f);have i:(i0 b).2.1<b.1:=by
  have j:=(e.lt f).1;have a:=d.qc;unfold H8 at a;simp only[Bool.or_eq_true,Bool.and_eq_true]at a;rcases a with a|a;·have :=Nf a;omega
  ·have p:=gd.1 a.2.1;have o:gS .i64 b.1 1=b.1-1:=iz (by omega) (by have :=d.id;omega);omega
 grind
structure Eh(R:Int)(w:ee)(ep:Int)(S:List e6):Prop where
 bl:BR R (ab w)vw:VW w
 Hr:AS w
 set:S=[]\/u9 S=true
 xg:Gm (df w) S
 N6:∀n∈aa w,∀eD S' L d,eD<+:bb n->(eD.length:Int)=ep->u5 (ab w) (GW w) (fk w) eD S' L d->S'=S
theorem Mt{w:ee}{a:Int}{q:k0}(b:∀s∈p0 a q,GW w s){x:D9}(e:x∈q.2.2.1)(d:ke (df w) x.1=false):((1,(a,(q.1,(q.2.1,(x.1,()))))):gx)∈hH w:=by
 have c:((1,(a,(q.1,(q.2.1,(x.1,()))))):gx)∈p0 a q:=by simp_all[gx,p0,D9]
 rcases b _ c with h|h;·grind
 omega
theorem ZT{w:ee}{a:Int}{t:vc}(j:List.length t.2.2.1=List.length t.2.1)(c:∀s∈sT a t,GW w s){x:D9}(f:x∈t.2.1)(k:ke (df w) x.1=false):∃h:D3,h∈t.2.2.1/\((2,(a,(t.1,(h.1,(x.1,()))))):gx)∈hH w:=by
 obtain⟨i,g,rfl⟩:=List.getElem_of_mem f;have b:i<List.length t.2.2.1:=by omega
 refine⟨t.2.2.1[i],List.getElem_mem b,?_⟩;have d:i<(List.zip t.2.1 t.2.2.1).length:=by grind
 have e:((2,(a,(t.1,((t.2.2.1[i]).1,((t.2.1[i]).1,()))))):gx)∈sT a t:=by unfold sT;refine List.mem_map.2 ⟨(List.zip t.2.1 t.2.2.1)[i],List.getElem_mem d,?_⟩;grind
 rcases c _ e with h|h;·grind
 omega
theorem Eh.Po{R:Int}{w:ee}{d:Int}{S:List e6}(c:Eh R w d S){A B:List D9}(a:pv S A=true)(e:pv S B=true):∃x∈A,∃y∈B,x.1=y.1/\ke (df w) x.1=false:=by obtain⟨v,_,f,b,g⟩:=N4 c.set a e c.xg;obtain⟨x,k,i⟩:=N5 f;obtain⟨y,h,j⟩:=N5 b;grind
theorem Eh.U4{R:Int}{w:ee}{b:Int}{S:List e6}(c:Eh R w b S){q a:k0}(h:C5 S q=true)(n:∀s∈p0 b q,GW w s)(g:1<=q.1)(l:C5 S a=true)(d:∀s∈p0 b a,GW w s)(e:a.1=q.1):a.2.1=q.2.1:=by obtain⟨x,o,y,i,j,m⟩:=c.Po (C3 h g) (C3 l (by omega));have f:=Mt n o m;have k:=Mt d i (by grind);exact (c.Hr.Hr _ k _ f rfl rfl rfl e j.symm)
theorem Eh.U5{R:Int}{w:ee}{a:Int}{S:List e6}(c:Eh R w a S){q:k0}(h:C5 S q=true)(r:∀s∈p0 a q,GW w s)(e:1<=q.1):∃b l,b.1=q.2.1/\b.2.2.1=q.1/\mm (ab w) (GW w) S a b.1 (l++[b]):=by obtain⟨x,j,y,u,t,k⟩:=c.Po (C3 h e) (C3 h e);obtain⟨n,o,_,f,p,L,d,l,b,i,g,m,A,v,z⟩:=c.vw.Pl _ (Mt r j k) rfl;have :=c.N6 n o f p L d i g m;grind
theorem U6{l:List D3}:∀{a:Int},a<=List.foldl (λ(n:Int)(x:D3)=>bif dO n x.1 then x.1 else n) a l/\∀h∈l,h.1<=List.foldl (λ(n:Int)(x:D3)=>bif dO n x.1 then x.1 else n) a l:=by induction l with|nil=>grind|cons x r b=>
 intro a;rw[List.foldl_cons];obtain⟨e,d⟩:=b (a:=bif dO a x.1 then x.1 else a);have c:a<=(bif dO a x.1 then x.1 else a)/\x.1<=(bif dO a x.1 then x.1 else a):=by grind[dO,Au,Cp]
 grind
theorem Ky{b:an}(h:oi b=true)(a:ZL b):(i0 b).1=b.2.2.1-1\/((re b).1=b.2.2.1-1/\0<(re b).1/\KU (re b)<=(i0 b).1):=by
 have e:gS .i64 b.2.2.1 1=b.2.2.1-1:=iz (by have :=a.rd;omega) (by have :=a.rd;omega);unfold oi at h;rw[e]at h;simp only[Bool.or_eq_true,Bool.and_eq_true]at h;rcases h with h|h;·exact .inl (Cr.1 h.1)
 ·exact .inr ⟨Cr.1 h.1,Cp.1 h.2.1,Cq.1 h.2.2⟩
theorem R2{b:an}(a:ZL b):0<=(i0 b).1/\(i0 b).1<b.2.2.1:=by have c:=UC a.qc;have e:gS .i64 b.2.2.1 1=b.2.2.1-1:=iz (by have :=a.rd;omega) (by have :=a.rd;omega);rw[e]at c;have :=a.rd;omega
theorem Eh.wR{R:Int}{w:ee}{n:Int}{S:List e6}(c:Eh R w n S){q:k0}{l:List an}{a b:an}(d:RQ (ab w) (GW w) S n q l a b):∀(k:Nat) (g:k0),C5 S g=true->(∀s∈p0 n g,GW w s)->a.2.2.1<=g.1->g.1<=a.2.2.1+(k:Int)->∀m,mm (ab w) (GW w) S n g.2.1 m->l++[a]<+:m:=by have Z:=d.ch.an2;have U:=Mm (c.bl.kp a Z.2.1);have δ:=U.rd;have β:=d.ard;have α:=d.prd;intro k;induction k with|zero=>intro g p o I X m i;have e:g.2.1=(i0 b).2.1:=c.U4 d.ba.qc d.ba.qa (by omega) p o (by omega);rw[e,d.PM]at i;rw[i.GG c.bl d.ch];grind|succ k Y=>
 intro g p o I X m i;by_cases π:g.1<=a.2.2.1+(k:Int);·grind
 obtain⟨D,B,C,κ,v⟩:=c.U5 p o (by omega);have E:m=B++[D]:=by rw[<-C]at i;exact i.GG c.bl v
 obtain⟨_,u,j,r,_⟩:=v.an2;have A:=Mm (c.bl.kp D u);by_cases L:g.1=q.1;·have e:g.2.1=q.2.1:=c.U4 d.qc d.qa (by omega) p o L;have F:D=b:=c.bl.GG u d.inb (by rw[C,e,d.id]);subst F;rw[d.PM]at r;rw[E,r.GG c.bl d.ch];grind
 · have γ:=R2 A;have G:a.2.2.1<=(i0 D).1:=by
    rcases Ky j.fo A with f|⟨ε,μ,θ⟩;· omega
    · obtain⟨H,O⟩:=Pn j.tc (by omega);obtain⟨x,N,y,V,Q,W⟩:=c.Po (C3 d.qc (by omega)) H;have J:=Mt d.qa N W;obtain⟨h,T,K⟩:=ZT O j.ta V (by grind);obtain⟨z,M,t,z3⟩:=c.vw.ZQ _ J _ K rfl rfl Q rfl (by grind);have t:z.1=q.2.1:=t;have z3:(i0 z).1<=h.1:=z3;have P:z=b:=c.bl.GG M d.inb (by rw[t,d.id]);subst P;have ρ:h.1<=KU (re D):=(U6 (l:=(re D).2.2.1) (a:=0)).2 h T;omega
   have :=Y (i0 D) j.qc j.qa G (by omega) B r;grind
theorem Eh.cmp{R:Int}{w:ee}{g:Int}{S:List e6}(c:Eh R w g S){q j:k0}{l f:List an}{a e b i:an}(h:RQ (ab w) (GW w) S g q l a b) (d:RQ (ab w) (GW w) S g j f e i):l++[a]<+:f++[e]\/f++[e]<+:l++[a]:=by
 by_cases k:a.2.2.1<=e.2.2.1;·refine .inl (c.wR h (e.2.2.1-a.2.2.1).toNat (i0 i) d.ba.qc d.ba.qa (by rw[d.prd];omega) (by rw[d.prd];omega) _ ?_);rw[d.PM];exact d.ch
 ·refine .inr (c.wR d (a.2.2.1-e.2.2.1).toNat (i0 b) h.ba.qc h.ba.qa (by rw[h.prd];omega) (by rw[h.prd];omega) _ ?_);rw[h.PM];exact h.ch
theorem u5.U7{bl:List an}{G:gx->Prop}{base:ek}{P:List HC}{S:List e6}{L:ek}{d:List D3}(h:u5 bl G base P S L d):(P=[]/\S=va base.2.1/\L=base/\d=[])\/∃(e:List HC)(f:List e6)(g:ek)(j i:List D3)(q:k0)(l:List an)(a b:an)(p:List an)(c:an)(r:List an),P=e++[((e.length:Int),((l++[a])++[b],(q.1,(q.2.1,(q.2.2.1,())))))]/\u5 bl G base e f g j/\Oi bl G f (e.length:Int) j i/\RQ bl G f (e.length:Int) q l a b/\l++[a]=p++c::r/\hu c=true/\(∀x∈p,hu x=false)/\S=p7 c/\L=j0 (md g (p++[c]))/\d=kn i (fv (p++[c])):=by cases h with|nil=>grind|RR e f g j i q l a b p c r n s m k t o=>grind
theorem u5.set{R:Int}{bl:List an}{G:gx->Prop}{base:ek}{P:List HC}{S:List e6}{L:ek}{d:List D3}(j:BR R bl)(t:va base.2.1=[]\/u9 (va base.2.1)=true)(h:u5 bl G base P S L d):S=[]\/u9 S=true:=by
 rcases h.U7 with⟨_,e,_,_⟩|⟨k,o,n,u,s,q,l,a,b,p,c,r,_,_,_,f,m,v,_,e,_,_⟩;·grind
 ·rw[e];have g:c∈bl:=(f.ch.dr c (by grind)).1;have i:=(Mm (j.kp c g)).bo;unfold Jb at i;grind
theorem u5.xg{bF:List D9}{bl:List an}{G:gx->Prop}{base:ek}{P:List HC}{S:List e6}{L:ek}{d:List D3}(t:Gm bF (va base.2.1))(f:∀p∈P,∀b∈D1 p,hu b=true->Gm bF (p7 b))(h:u5 bl G base P S L d):Gm bF S:=by
 rcases h.U7 with⟨_,e,_,_⟩|⟨j,n,m,u,s,q,l,a,b,p,c,r,g,_,_,o,k,i,_,e,_,_⟩;·grind
 ·rw[e];refine f _ (by rw[g];exact List.mem_append_right _ (List.mem_cons_self ..)) c ?_ i;grind
theorem N7{d:List D3}{n:Int}:Mc d n=true↔∃x∈d,x.1=n:=by unfold Mc;rw[List.any_eq_true];exact⟨λ⟨x,b,a⟩=>⟨x,b,Cr.1 a⟩,λ⟨x,b,a⟩=>⟨x,b,Cr.2 a⟩⟩
theorem R3(d a b:List D3):kn d (a++b)=kn (kn d a) b:=by unfold kn;rw[List.foldl_append]
theorem H2:∀(a d:List D3),(∀x∈a,x∈d)->kn d a=d
 |[],d,_=>rfl|x::r,d,h=>by
  have e:kn d (x::r)=kn (w8 d x.1) r:=rfl;have c:w8 d x.1=d:=by unfold w8;rw[N7.2 ⟨x,h x (List.mem_cons_self ..),rfl⟩];rfl
  rw[e,c];exact H2 r d (λy b=>h y (List.mem_cons_of_mem _ b))
theorem Le:∀(b d:List D3),b.Pairwise (λx y=>x.1<y.1)->(∀x∈b,∀y∈d,y.1≠x.1)->kn d b=d++b
 |[],d,_,_=>(List.append_nil d).symm|x::r,d,f,h=>by
  have j:kn d (x::r)=kn (w8 d x.1) r:=rfl;have g:w8 d x.1=d++[x]:=by unfold w8;cases i:Mc d x.1 with|true=>obtain⟨y,c,e⟩:=N7.1 i;exact absurd e (h x (List.mem_cons_self ..) y c)|false=>rfl
  rw[j,g];rw[List.pairwise_cons]at f;rw[Le r (d++[x]) f.2 (λy c z a=>?_),List.append_assoc];rfl;rcases List.mem_append.1 a with a|a;·exact h y (List.mem_cons_of_mem _ c) z a
  ·rw[List.mem_singleton.1 a];have :=f.1 y c;omega
theorem Hz(a b:List an):fv (a++b)=fv a++fv b:=by unfold fv;rw[List.map_append]
theorem ZU{X:List an}(h:X.Pairwise (λx y=>x.1<y.1)):(fv X).Pairwise (λx y=>x.1<y.1):=by unfold fv;rw[List.pairwise_map];exact h
theorem Lf{bl:List an}{R j:Int}(n:BR R bl){d:List D3}{c X:List an}(l:∀x∈d,∃b∈bl,b.1=x.1/\b.2.1<j)(g:X.Pairwise (λx y=>x.1<y.1))(p:∀b∈X,b∈bl/\b.2.1=j)(k:c<+:X):kn (d++fv c) (fv X)=d++fv X:=by
 obtain⟨r,rfl⟩:=k;rw[List.pairwise_append]at g;rw[Hz,R3,H2 (fv c) (d++fv c) (λx f=>List.mem_append_right _ f),Le (fv r) (d++fv c) (ZU g.2.1) (λx f y a=>?_),List.append_assoc];unfold fv at f;obtain⟨b,i,rfl⟩:=List.mem_map.1 f;rcases List.mem_append.1 a with a|a;·obtain⟨z,h,o,z3⟩:=l y a;obtain⟨m,q⟩:=p b (List.mem_append_right _ i);intro e;have :=n.GG h m (o.trans e);subst this;omega
 ·unfold fv at a;obtain⟨z,h,rfl⟩:=List.mem_map.1 a;have :=g.2.2 z h b i;show z.1≠b.1;omega
theorem R4{b:List D3}{a X:List an}(c:X<+:a):kn (b++fv a) (fv X)=b++fv a:=by refine H2 _ _ (λx d=>List.mem_append_right _ ?_);obtain⟨r,rfl⟩:=c;rw[Hz];exact List.mem_append_left _ d
theorem N8{f p r:List an}{c:an}(g:∀x∈f,hu x=false)(i:hu c=true)(h:f<+:p++c::r):f<+:p:=by
 obtain⟨t,e⟩:=h;rcases List.append_eq_append_iff.1 e with⟨a,b,d⟩|⟨a,b,d⟩;·exact⟨a,b.symm⟩
 ·cases a with|nil=>rw[b,List.append_nil];exact List.prefix_refl _|cons y a=>simp only[List.cons_append,List.cons.injEq]at d;have :=g c (by rw[b,d.1];simp);rw[i]at this;cases this
theorem H3:∀{p b s d:List an}{c a:an},(∀x∈p,hu x=false)->(∀x∈b,hu x=false)->hu c=true->hu a=true->p++c::s=b++a::d->p=b/\c=a|[],[],s,d,c,a,_,_,_,_,e=>by simp only[List.nil_append,List.cons.injEq]at e;exact⟨rfl,e.1⟩|[],y::b,s,d,c,a,_,h,f,_,e=>by simp only[List.nil_append,List.cons_append,List.cons.injEq]at e;have :=h y (List.mem_cons_self ..);rw[<-e.1,f]at this;cases this|x::p,[],s,d,c,a,i,_,_,j,e=>by simp only[List.nil_append,List.cons_append,List.cons.injEq]at e;have :=i x (List.mem_cons_self ..);rw[e.1,j]at this;cases this|x::p,y::b,s,d,c,a,i,h,f,j,e=>by simp only[List.cons_append,List.cons.injEq]at e;obtain⟨l,k⟩:=H3 (λz g=>i z (List.mem_cons_of_mem _ g)) (λz g=>h z (List.mem_cons_of_mem _ g)) f j e.2;exact⟨by rw[e.1,l],k⟩
theorem Oi.dr{bl:List an}{G:gx->Prop}{S:List e6}{e:Int}{f d:List D3}(h:Oi bl G S e f d):∀x∈d,x∈f\/∃b∈bl,b.1=x.1/\b.2.1=e:=by induction h with|nil=>intro x c;exact .inl c|ZC d q l a b _ m _ k=>
 intro x c;rcases F4 c with h|h;·exact k x h
 ·unfold fv at h;obtain⟨z,i,rfl⟩:=List.mem_map.1 h;obtain⟨j,g⟩:=m.ch.dr z i;exact .inr ⟨z,j,rfl,g.eq⟩
theorem u5.dr{bl:List an}{G:gx->Prop}{base:ek}{P:List HC}{S:List e6}{L:ek}{d:List D3}(h:u5 bl G base P S L d):∀x∈d,∃b∈bl,b.1=x.1/\b.2.1<(P.length:Int):=by induction h with|nil=>intro x k;cases k|RR g S L v d q l a b p c r _ u o m y w t=>
 intro x k;have e:((g++[(((g.length:Int),((l++[a])++[b],(q.1,(q.2.1,(q.2.2.1,()))))):HC)]).length:Int)=(g.length:Int)+1:=by rw[List.length_append];simp
 rw[e];rcases F4 k with h|h
 · rcases u.dr x h with h|⟨z,j,i,z3⟩;· obtain⟨z,j,i,z3⟩:=t x h;exact⟨z,j,i,by omega⟩
   · exact⟨z,j,i,by omega⟩
 · unfold fv at h;obtain⟨z,f,rfl⟩:=List.mem_map.1 h;obtain⟨s,n⟩:=o.ch.dr z (by
 rw[m];rcases List.mem_append.1 f with f|f;· exact List.mem_append_left _ f
 · rw[List.mem_singleton.1 f];exact List.mem_append_right _ (List.mem_cons_self ..));exact⟨z,s,rfl,by have :=n.eq;omega⟩
theorem Oi.Xr{R:Int}{w:ee}{g:Int}{S:List e6}(c:Eh R w g S){m d:List D3}(v:∀x∈m,∃b∈ab w,b.1=x.1/\b.2.1<g)(h:Oi (ab w) (GW w) S g m d):∃f,d=m++fv f/\(∀x∈f,hu x=false)/\(f=[]\/∃q l a b,RQ (ab w) (GW w) S g q l a b/\f=l++[a]):=by induction h with|nil=>exact⟨[],by unfold fv;simp,λx s=>(by cases s),.inl rfl⟩|ZC d q l a b _ i u z=>
 obtain⟨f,e,y,n⟩:=z;have r:=(i.ch.Zs c.bl).2;have t:∀b∈l++[a],b∈ab w/\b.2.1=g:=λb o=>⟨(i.ch.dr b o).1,(i.ch.dr b o).2.eq⟩;have p:f<+:l++[a]\/l++[a]<+:f:=by
  rcases n with rfl|⟨A,C,D,B,k,rfl⟩;·exact .inl (List.nil_prefix ..)
  ·exact c.cmp k i
 rcases p with j|j;·exact⟨l++[a],by rw[e];exact Lf c.bl v r t j,u,.inr ⟨q,l,a,b,i,rfl⟩⟩
 ·exact ⟨f,by rw[e];exact R4 j,y,n⟩
structure PW(R:Int)(w:ee):Prop where
 bl:BR R (ab w)vw:VW w
 Hr:AS w
 set:va (fk w).2.1=[]\/u9 (va (fk w).2.1)=true
 XY:Gm (df w) (va (fk w).2.1)XZ:∀n∈aa w,∀p∈bb n,∀b∈D1 p,hu b=true->Gm (df w) (p7 b)
theorem HA{R:Int}{w:ee}{f:Int}{S:List e6}(c:Eh R w f S){n d:List D3}(s:∀x∈n,∃b∈ab w,b.1=x.1/\b.2.1<f)(h:Oi (ab w) (GW w) S f n d){q:k0}{l:List an}{a b:an}{p:List an}{x:an}{r:List an}(i:RQ (ab w) (GW w) S f q l a b) (m:l++[a]=p++x::r) (o:hu x=true) (F:∀y∈p,hu y=false):kn d (fv (p++[x]))=n++fv (p++[x]):=by
 obtain⟨B,e,t,z⟩:=h.Xr c s;have j:p++[x]<+:l++[a]:=⟨r,by rw[m];simp⟩;have v:(p++[x]).Pairwise (λx y=>x.1<y.1):=(i.ch.Zs c.bl).2.sublist j.sublist;have C:∀b∈p++[x],b∈ab w/\b.2.1=f:=λb u=>⟨(i.ch.dr b (j.subset u)).1,(i.ch.dr b (j.subset u)).2.eq⟩;have A:B<+:p:=by
  rcases z with rfl|⟨D,G,H,E,k,rfl⟩;·exact List.nil_prefix ..
  · rcases c.cmp k i with g|g;· rw[m]at g;exact N8 t o g
    · exfalso;have :=t x (g.subset (by rw[m];simp));rw[o]at this;cases this
 rw[e];exact Lf c.bl s v C (A.trans (List.prefix_append _ _))
theorem PW.N6{R:Int}{w:ee}(h:PW R w):∀(e:Nat),∀n∈aa w,∀m∈aa w,∀(P u:List HC)(S G:List e6)(L C:ek)(d H:List D3),P<+:bb n->u<+:bb m->P.length=e->u.length=e->u5 (ab w) (GW w) (fk w) P S L d->u5 (ab w) (GW w) (fk w) u G C H->S=G/\L=C/\d=H:=by
 intro e;induction e with|zero=>
 intro n F m β P u S G L C d H μ γ f i V U;rcases V.U7 with⟨_,o,T,a3⟩|⟨j,v,B,D,θ,q,l,a,b,p,c,r,g,_⟩
 · rcases U.U7 with⟨_,W,E,y⟩|⟨j,v,B,D,θ,q,l,a,b,p,c,r,g,_⟩;· exact⟨o.trans W.symm,T.trans E.symm,a3.trans y.symm⟩
   · rw[g]at i;simp at i
 · rw [g] at f; simp at f|succ e κ=>
 intro n F m β P u S G L C d H μ γ f i V U;rcases V.U7 with⟨g,_⟩|⟨j,v,B,D,θ,q,l,a,b,p,c,r,g,o,T,a3,a4,X,M,a7,a8,τ⟩;· rw [g] at f; simp at f
 rcases U.U7 with⟨A,_⟩|⟨I,ρ,σ,π,ad,q',l',a',b',p',c',r',A,W,E,y,O,Z,J,b7,φ,ψ⟩;· rw [A] at i; simp at i
 have Y:j.length=e:=by rw [g] at f; simp at f; exact f
 have δ:I.length=e:=by rw [A] at i; simp at i; exact i
 have Q:j<+:bb n:=(List.prefix_append _ _).trans (by rw [<-g]; exact μ);have p2:I<+:bb m:=(List.prefix_append _ _).trans (by rw [<-A]; exact γ);obtain⟨e1,e2,e3⟩:=κ n F m β j I v ρ B σ D π Q p2 Y δ o W;subst e1 e2 e3;have N:Eh R w (j.length:Int) v:=⟨h.bl,h.vw,h.Hr,o.set h.bl h.set,o.xg h.XY (λx hx=>h.XZ n F x (Q.subset hx)),λk hk pk Sk Lk ω K α k3=>(κ k hk n F pk j Sk v Lk B ω D K Q (by omega) Y k3 o).1⟩;have ε:=o.dr;rw [δ,<-Y] at E y;have f1:=HA N ε T a3 a4 X M;have f2:=HA N ε E y O Z J;have hs:p=p'/\c=c':=by
  rcases N.cmp a3 y with⟨t,z⟩|⟨t,z⟩;· rw [a4,O] at z;exact H3 (s:=r++t) M J X Z (by rw [<-z]; simp)
  · rw [a4,O] at z;obtain⟨K,α⟩:=H3 (s:=r'++t) J M Z X (by rw [<-z]; simp);exact⟨K.symm,α.symm⟩
 obtain⟨rfl,rfl⟩:=hs;exact⟨a7.trans b7.symm,a8.trans φ.symm,by rw [τ,ψ,f1,f2]⟩
structure DJ(fs:List Int)(e:Bool)(bF:List D9)(S:Nat)(R:Int)(B:Nat)(w:ee):Prop where
 wi:WI 889 S w
 wr:WR R w
 Hr:AS w
 sw:SW w
 vw:VW w
 bl:(ab w).length<=B
 ne:aa w≠[]fo:H0 bF/\df w=bF
 ba:fk w=(0,(dd fs e,()))nms:(aa w).map (λn=>n.1)=((dd fs e).filter (λa=>!ke bF a.1)).map (λa=>a.1)
section
variable{fs:List Int}{e:Bool}{bF:List D9}
theorem DJ.up{S b:Nat}{R R':Int}{B a:Nat}{w:ee}(h:DJ fs e bF S R B w)(f:S<=b)(d:R<=R')(c:B<=a):DJ fs e bF b R' a w:=⟨h.wi.up (Nat.le_refl _) f,h.wr.up d,h.Hr,h.sw,h.vw,Nat.le_trans h.bl c,h.ne,h.fo,h.ba,h.nms⟩
theorem DJ.go{S:Nat}{R R':Int}{B c:Nat}{w a:ee}(h:DJ fs e bF S R B w)(g:S<=900000)(o:c<=889)(s:qL w a)(d:WR R' a)(i:(ab a).length<=c):DJ fs e bF (S+1) R' c a:=by
 have l:=s.wi h.wi (by decide) g;obtain⟨_,b,m,k,f⟩:=s.CB h.wi (by decide);refine⟨l.yN d (by omega),d,s.Hr h.wi (by decide) h.wr h.Hr,s.sw h.wi (by decide) h.wr h.sw,s.vw h.wi (by decide) h.wr h.Hr h.sw h.vw,i,λj=>?_,⟨h.fo.1,f.trans h.fo.2⟩,?_,b.trans h.nms⟩;·rw[j]at b;have :(aa w).map (λn=>n.1)=[]:=b.symm;rw[List.map_eq_nil_iff]at this;exact h.ne this
 ·have :=h.ba;show (a.1,(a.2.1,()))=_;rw[m,k];exact this
def nOf(fs:List Int)(e:Bool)(bF:List D9):Nat:=((dd fs e).filter (λa=>!ke bF a.1)).length
theorem DJ.Rg{S:Nat}{R:Int}{B:Nat}{w:ee}(h:DJ fs e bF S R B w):(aa w).length=nOf fs e bF:=by have :=congrArg List.length h.nms;rw[List.length_map,List.length_map]at this;exact this
end
theorem N9(w:ee)(m:ie):ab (q9 w m)=ab w:=by unfold q9;cases (aa w)[(RE (aa w) m.2.1).toNat]? with|none=>rfl|some n=>dsimp only;cases gA n.2.1 m.2.2.1<;>rfl
section
variable{fs:List Int}{e:Bool}{bF:List D9}
theorem DJ.AN{S:Nat}{R:Int}{B:Nat}{w:ee}(h:DJ fs e bF S R B w)(d:S<=900000)(c:B<=889)(a:0<(gl w).length):DJ fs e bF (S+1) R B (q9 (Fe w 0) (gl w)[0]):=by have b:=h.wi.nm _ (List.getElem_mem a);exact h.go d c (.AN 0 a) (Hv (u3 h.wi 0) (by decide) (FL h.wr 0) b.1 (h.wr.As _ (List.getElem_mem a)) b.2) (by rw[N9];exact h.bl)
theorem DJ.Ii{S:Nat}{R:Int}{B:Nat}{w:ee}(h:DJ fs e bF S R B w)(n:S<=900000)(m:B<=889){j k:Nat}(c:j<(aa w).length)(b:k<(aa w).length)(a:(hM (aa w)[j] (aa w)[k].2.1 (aa w)[k].1).2.1.1=true):GL (hM (aa w)[j] (aa w)[k].2.1 (aa w)[k].1).1/\wt (aa w) (hM (aa w)[j] (aa w)[k].2.1 (aa w)[k].1).1.2.1=true/\DJ fs e bF (S+1) R B (q9 w (hM (aa w)[j] (aa w)[k].2.1 (aa w)[k].1).1):=by
 obtain⟨g,o⟩:=h.wi.nd _ (List.getElem_mem c);obtain⟨d,_⟩:=h.wi.nd _ (List.getElem_mem b);have l:=A1 _ _ _ a;have i:=s8 g d.v.h.ok.2.1 d.v.h.ok.1 a;have f:wt (aa w) (hM (aa w)[j] (aa w)[k].2.1 (aa w)[k].1).1.2.1=true:=by rw[l.1];exact F1 b
 exact⟨i,f,h.go n m (.Ii j c k b a) (Hv h.wi (by decide) h.wr i (EK h.wr.bl (h.wr.nd _ (List.getElem_mem c)) g (by omega) h.wr.r0 (h.wr.nd _ (List.getElem_mem b)).nm a) f) (by rw[N9];exact h.bl)⟩
theorem DJ.Mn{S:Nat}{R:Int}{B:Nat}{w:ee}(h:DJ fs e bF S R B w)(m:S<=900000)(u:B<889){j:Nat}(a:j<(aa w).length):DJ fs e bF (S+1) (R+1) (B+1) (Hq w j (aa w)[j]):=by
 obtain⟨c,t⟩:=h.wi.nd _ (List.getElem_mem a);have r:=h.bl;have g:=Et (n:=(ab w).length) (by omega);obtain⟨k,l,p⟩:=Qf h.wr.bl (h.wr.nd _ (List.getElem_mem a)) c (by omega) h.wr.r0 h.wi.bl;have f:∀b∈ab w,b∈ab w++(ej (aa w)[j] ((ab w).length:Int)).2.1:=λb o=>List.mem_append_left _ o;have i:=(IQ c g (by omega)).2.1;have s:=h.wr.r0;refine h.go m (by omega) (.Mn j a (by omega)) ?_ ?_
 · refine CV (w:=IS w ((aa w).set j (ej (aa w)[j] ((ab w).length:Int)).1) (ab w++(ej (aa w)[j] ((ab w).length:Int)).2.1) (hH w) (gl w)) ⟨by omega,h.wr.b0,h.wr.fo,k,λx d=>?_,h.wr.nm.set a i,λx d=>(h.wr.As x d).mono (by omega) f⟩ p;rcases List.mem_or_eq_of_mem_set d with q|rfl;· exact (h.wr.nd x q).mono (by omega) f (by rw[List.length_append];omega)
   · exact l
 · show (ab w++(ej (aa w)[j] ((ab w).length:Int)).2.1).length<=B+1;rw[List.length_append];rcases (Hp c g (by omega)).2.2.2.2 with⟨e,_⟩|⟨e,_⟩<;>rw[e]<;>simp only[List.length_nil,List.length_cons]<;>omega
theorem DJ.Hs{S:Nat}{R:Int}{B:Nat}{w:ee}(h:DJ fs e bF S R B w)(i:S<=900000)(f:B<=889)(g:R<=9990){j:Nat}(a:j<(aa w).length):DJ fs e bF (S+1) (R+1) B (E7 w j (aa w)[j]):=by obtain⟨b,l⟩:=h.wi.nd _ (List.getElem_mem a);obtain⟨d,k⟩:=NI h.wr.bl (h.wr.nd _ (List.getElem_mem a)) b (by omega) h.wr.r0 g;have c:=(Hk b (by omega)).2.1;exact h.go i f (.Hs j a) (CV (B9 (h.wr.up (R':=R+1) (by omega)) a c d) k) h.bl
end
theorem Xs(a:List D5)(h:List.length a<=1048576):Y (F8 ((a,()),())) (λy=>∃fs e bF K,(fs.length<=4/\(∀f∈fs,f=3\/f=20))/\K<=160/\DI fs e bF K y.1):=by unfold F8;refine Y.bind (al7 a h) λg m=>Y.bind (ZA a 140 h (by decide)) λb j=>?_;obtain⟨n,p⟩:=j;have e:cM .i64 20 b.1.1=20+b.1.1:=ed (by omega) (by omega);have d:=Xq g.1 (cM .i64 20 b.1.1) m.1 (by rw[e];omega);rw[e]at d;refine Y.bind (P:=λy=>∃fs e bF K,(fs.length<=4/\(∀f∈fs,f=3\/f=20))/\K<=160/\DI fs e bF K y.1) ?_ (λy c=>Y.mk c);show Y (XA (g.1,((cM .i64 20 b.1.1,()),()))) _;rw[e];refine d.mono (λy c=>?_);obtain⟨fs,i,bF,K,k,o,l,_⟩:=c;exact⟨fs,i,bF,K,k,by omega,l⟩
theorem JZ{a:List vv}(b:Al a.length){n:Int}(h:Di n 0 (gS .i64 (a.length:Int) 1)=true):∃k,∃c:k<a.length,n=(k:Int):=by unfold Di at h;unfold Al at b;rw[iz (by omega) (by omega)]at h;simp only[Bool.and_eq_true,km,decide_eq_true_eq]at h;exact⟨n.toNat,by omega,by omega⟩
noncomputable def C9(s:ek)(b:vv):ek:=bif b.2.2.2.2.2.2.2.2.2.2.2.1 then j0 (C8 s b.2.2.2.2.2.2.2.2.2.2.1).2 else (C8 s b.2.2.2.2.2.2.2.2.2.2.1).2
abbrev FoE:Type:=Sum (Int×(Int×(List bm×Unit))) (ek×((Bool×Unit)×Unit))
noncomputable def ki(w:ee)(s:ek)(a:D3):Sum ek FoE:=bif Di a.1 0 (gS .i64 (w.2.2.2.2.1.length:Int) 1)then (match bK w.2.2.2.2.1 a.1 with|some b=>.inl (C9 s b)|none=>.inl s)else .inr (.inr ((w.1,(w.2.1,())),((false,()),())))
theorem Lg(w:ee)(a:List D3)(O:KG w)(q:ct w.2.1)(Z:Al a.length):∃(R:ek)(c:Bool),OL (w,((a,()),()))=some (R,((c,()),()))/\Si (w,((a,()),()))=some (R,((c,()),()))/\ct R.2.1/\∀X:List vv,a=X.map (λb=>(b.1,()))->(∀b∈X,Di b.1 0 (gS .i64 (w.2.2.2.2.1.length:Int) 1)=true/\bK w.2.2.2.2.1 b.1=some b)->R=X.foldl C9 (w.1,(w.2.1,()))/\c=true:=by
 have J:(Ty.sl cf).Ok w.2.1:=O.2.1;have t:(Ty.sl lf).Ok w.2.2.2.2.1:=O.2.2.2.2.1;let L:ek:=(w.1,(w.2.1,()));have M:=kb L q;have K:=FP L q;have Y:∀(x:D3)(b:Bool),Di x.1 0 (gS .i64 (w.2.2.2.2.1.length:Int) 1)=b->k8 (x,(((0:Int),()),((gS .i64 (w.2.2.2.2.1.length:Int) 1,()),())))=some (B1 b):=λx b h=>(mh x.1 0 _).trans (by rw[h]);have T:∀(x:D3)(b:Bool),Di x.1 0 (gS .i64 (w.2.2.2.2.1.length:Int) 1)=b->Gc (x,(((0:Int),()),((gS .i64 (w.2.2.2.2.1.length:Int) 1,()),())))=some (B1 b):=λx b h=>(u7 x.1 0 _).trans (by rw[h]);let m:ek->FoE:=λs=>Sum.inl ((a.length:Int),(s.1,(s.2.1,())));let I:ek->Prop:=λs=>(Ty.sl cf).Ok s.2.1/\ct s.2.1;have C:=Nb (S:=Int×(Int×(List bm×Unit))) a (ki w) I (f:=OL.b0 (w,((a,()),()))) (λs k=>(k,(s.1,(s.2.1,())))) m L ⟨J,q⟩ (λi g s j=>by cases d:Di (a[i]).1 0 (gS .i64 (w.2.2.2.2.1.length:Int) 1) with|false=>refine .inr ⟨.inr (L,((false,()),())),by unfold ki;rw[d];rfl,?_⟩;unfold OL.b0;exact uL (Int.ofNat_lt.2 g) (bw (cB g) (bw (Y _ _ d) (cl rfl (bw M rfl))))|true=>
 obtain ⟨k,n,G⟩:=JZ t.1 d;have p:bK w.2.2.2.2.1 (a[i]).1=some w.2.2.2.2.1[k]:=by rw[G];exact cB n
 have A:=Ae t.2 (List.getElem_mem n);obtain ⟨Q,W,a3,a4⟩:=Jm s (w.2.2.2.2.1[k]).2.2.2.2.2.2.2.2.2.2.1 j.1 j.2 A.2.2.2.2.2.2.2.2.2.2.1;obtain ⟨V,P,E,D⟩:=Jr _ a3 a4;have o:ki w s a[i]=.inl (C9 s w.2.2.2.2.1[k]):=by unfold ki;rw[d,p];rfl
 refine .inl ⟨_,o,?_,?_⟩;·unfold C9;cases (w.2.2.2.2.1[k]).2.2.2.2.2.2.2.2.2.2.2.1 with|true=>exact ⟨E,D⟩|false=>exact ⟨a3,a4⟩
 ·unfold OL.b0 C9;refine uL (Int.ofNat_lt.2 g) (bw (cB g) (bw (Y _ _ d) (uN rfl (bw (cB g) (bw p (bw Q ?_))))));rw[<-wG g Z];cases γ:(w.2.2.2.2.1[k]).2.2.2.2.2.2.2.2.2.2.2.1 with|true=>exact bw V rfl|false=>rfl) (λs _=>by unfold OL.b0;exact uM (Int.le_refl _) rfl);have B:=Nb (S:=Int×(Int×(List bm×Unit))) a (ki w) I (f:=Si.b0 (w,((a,()),()))) (λs k=>(k,(s.1,(s.2.1,())))) m L ⟨J,q⟩ (λi g s j=>by cases d:Di (a[i]).1 0 (gS .i64 (w.2.2.2.2.1.length:Int) 1) with|false=>refine .inr ⟨.inr (L,((false,()),())),by unfold ki;rw[d];rfl,?_⟩;unfold Si.b0;exact uL (Int.ofNat_lt.2 g) (bw (cB g) (bw (T _ _ d) (cl rfl (bw K rfl))))|true=>
 obtain ⟨k,n,G⟩:=JZ t.1 d;have p:bK w.2.2.2.2.1 (a[i]).1=some w.2.2.2.2.1[k]:=by rw[G];exact cB n
 have A:=Ae t.2 (List.getElem_mem n);obtain ⟨Q,W,a3,a4⟩:=Jm s (w.2.2.2.2.1[k]).2.2.2.2.2.2.2.2.2.2.1 j.1 j.2 A.2.2.2.2.2.2.2.2.2.2.1;obtain ⟨V,P,E,D⟩:=Jr _ a3 a4;have o:ki w s a[i]=.inl (C9 s w.2.2.2.2.1[k]):=by unfold ki;rw[d,p];rfl
 refine .inl ⟨_,o,?_,?_⟩;·unfold C9;cases (w.2.2.2.2.1[k]).2.2.2.2.2.2.2.2.2.2.2.1 with|true=>exact ⟨E,D⟩|false=>exact ⟨a3,a4⟩
 ·unfold Si.b0 C9;refine uL (Int.ofNat_lt.2 g) (bw (cB g) (bw (T _ _ d) (uN rfl (bw p (bw W ?_)))));rw[<-wG g Z];cases γ:(w.2.2.2.2.1[k]).2.2.2.2.2.2.2.2.2.2.2.1 with|true=>exact bw P rfl|false=>rfl) (λs _=>by unfold Si.b0;exact uM (Int.le_refl _) rfl);have β:∀(l:List D3) (s:ek),I s->match EY (ki w) m l s with|.inl v=>ct v.2.2.1|.inr r=>ct r.1.2.1:=by intro l;induction l with|nil=>intro s j;exact j.2|cons x r N=>intro s j;simp only[EY];cases d:Di x.1 0 (gS .i64 (w.2.2.2.2.1.length:Int) 1) with
 |false=>
  have :ki w s x=.inr (.inr (L,((false,()),()))):=by unfold ki;rw[d];rfl
  rw[this];exact q|true=>
  obtain ⟨k,n,G⟩:=JZ t.1 d;have p:bK w.2.2.2.2.1 x.1=some w.2.2.2.2.1[k]:=by rw[G];exact cB n
  have A:=Ae t.2 (List.getElem_mem n);obtain ⟨_,_,a3,a4⟩:=Jm s (w.2.2.2.2.1[k]).2.2.2.2.2.2.2.2.2.2.1 j.1 j.2 A.2.2.2.2.2.2.2.2.2.2.1;obtain ⟨_,_,E,D⟩:=Jr _ a3 a4;have o:ki w s x=.inl (C9 s w.2.2.2.2.1[k]):=by unfold ki;rw[d,p];rfl
  rw[o];refine N _ ?_;unfold C9;cases (w.2.2.2.2.1[k]).2.2.2.2.2.2.2.2.2.2.2.1 with|true=>exact ⟨E,D⟩|false=>exact ⟨a3,a4⟩
 have u:=β a L ⟨J,q⟩;have α:∀(X:List vv) (s:ek),(∀b∈X,Di b.1 0 (gS .i64 (w.2.2.2.2.1.length:Int) 1)=true/\bK w.2.2.2.2.1 b.1=some b)->EY (ki w) m (X.map (λb=>(b.1,()))) s=m (X.foldl C9 s):=by intro X;induction X with|nil=>intro s _;rfl|cons b r N=>
  intro s U;obtain ⟨ε,δ⟩:=U b (List.mem_cons_self ..);have o:ki w s (b.1,())=.inl (C9 s b):=by unfold ki;rw[ε,δ];rfl
  simp only[List.map_cons,EY];rw[o];exact N (C9 s b) (λy θ=>U y (List.mem_cons_of_mem _ θ))
 have z:∀X:List vv,a=X.map (λb=>(b.1,()))->(∀b∈X,Di b.1 0 (gS .i64 (w.2.2.2.2.1.length:Int) 1)=true/\bK w.2.2.2.2.1 b.1=some b)->EY (ki w) m a L=m (X.foldl C9 L):=λX H F=>by rw[H];exact α X L F
 revert C B u z
 cases EY (ki w) m a L with|inl v=>
 intro C B u z;refine ⟨(v.2.1,(v.2.2.1,())),true,?_,?_,u,λX H F=>⟨?_,rfl⟩⟩;rotate_left 2;·have e:=z X H F;cases e;rfl
 ·unfold OL;exact bw M (bw C rfl)
 ·unfold Si;exact bw K (bw B rfl)|inr r=>
 intro C B u z;refine ⟨r.1,r.2.1.1,?_,?_,u,λX H F=>?_⟩;rotate_left 2;·cases z X H F
 ·unfold OL;exact bw M (bw C rfl)
 ·unfold Si;exact bw K (bw B rfl)
noncomputable def C4(w:ee)(x:D3):Bool:=Di x.1 0 (gS .i64 (w.2.2.2.2.1.length:Int) 1)&&(match bK w.2.2.2.2.1 x.1 with|some b=>b.2.2.2.2.2.2.2.2.2.2.2.1|none=>false)
noncomputable def o6(w:ee)(s:Int×Int)(x:D3):Int×Int:=(bif C4 w x then cM .i64 s.2 1 else s.1,cM .i64 s.2 1)
theorem Lh(w:ee)(a:List D3)(C:KG w)(n:Al a.length):∃m:Nat,m<=a.length/\Sj (w,((a,()),()))=some (I1 (m:Int))/\Vn (w,((a,()),()))=some ((List.take ((Int.toNat (m:Int))-0) (List.drop 0 a),()),())/\(a.foldl (o6 w) (0,0)).1=(m:Int):=by
 have B:(Ty.sl lf).Ok w.2.2.2.2.1:=C.2.2.2.2.1;have A:∀(x:D3) (b:Bool),Di x.1 0 (gS .i64 (w.2.2.2.2.1.length:Int) 1)=b->k8 (x,(((0:Int),()),((gS .i64 (w.2.2.2.2.1.length:Int) 1,()),())))=some (B1 b):=λx b h=>(mh x.1 0 _).trans (by rw[h]);have u:∀(x:D3) (b:Bool),Di x.1 0 (gS .i64 (w.2.2.2.2.1.length:Int) 1)=b->Gc (x,(((0:Int),()),((gS .i64 (w.2.2.2.2.1.length:Int) 1,()),())))=some (B1 b):=λx b h=>(u7 x.1 0 _).trans (by rw[h]);have p:∀i (c:i<a.length) (s:Int×Int),(s.2=(i:Int)/\∃m:Nat,m<=i/\s.1=(m:Int))->((o6 w s a[i]).2=((i+1:Nat):Int)/\∃m:Nat,m<=i+1/\(o6 w s a[i]).1=(m:Int)):=λi c s g=>by
  obtain⟨E,m,G,F⟩:=g;have v:cM .i64 s.2 1=((i+1:Nat):Int):=by rw[E];exact wG c n
  unfold o6;refine⟨v,?_⟩;cases C4 w a[i]with|true=>exact⟨i+1,Nat.le_refl _,v⟩|false=>exact⟨m,by omega,F⟩
 have y:=xL (S:=Int×(Int×Unit)) a (o6 w) (λi s=>s.2=(i:Int)/\∃m:Nat,m<=i/\s.1=(m:Int)) (f:=Sj.b0 (w,((a,()),()))) (λs k=>(s.1,(k,()))) (λs=>Sum.inl (s.1,((a.length:Int),()))) (0,0) ⟨rfl,0,Nat.le_refl _,rfl⟩ (λi c s g=>by
 refine⟨?_,p i c s g⟩;unfold Sj.b0 o6;rw[g.1,<-wG c n]
 cases d:Di (a[i]).1 0 (gS .i64 (w.2.2.2.2.1.length:Int) 1) with|false=>
 have e:C4 w a[i]=false:=by unfold C4;rw[d];rfl
 rw[e];exact uL (Int.ofNat_lt.2 c) (bw (cB c) (bw (A _ _ d) (uN rfl rfl)))|true=>
 obtain⟨k,l,o⟩:=JZ B.1 d;have j:bK w.2.2.2.2.1 (a[i]).1=some w.2.2.2.2.1[k]:=by rw[o];exact cB l
 have e:C4 w a[i]=(w.2.2.2.2.1[k]).2.2.2.2.2.2.2.2.2.2.2.1:=by unfold C4;rw[d,j];rfl
 rw[e];refine uL (Int.ofNat_lt.2 c) (bw (cB c) (bw (A _ _ d) (cl rfl (bw (cB c) (bw j ?_)))));cases (w.2.2.2.2.1[k]).2.2.2.2.2.2.2.2.2.2.2.1<;>rfl) (λs _=>by unfold Sj.b0;exact uM (Int.le_refl _) rfl);have D:=xL (S:=Int×(Int×Unit)) a (o6 w) (λi s=>s.2=(i:Int)/\∃m:Nat,m<=i/\s.1=(m:Int)) (f:=Vn.b0 (w,((a,()),()))) (λs k=>(s.1,(k,()))) (λs=>Sum.inl (s.1,((a.length:Int),()))) (0,0) ⟨rfl,0,Nat.le_refl _,rfl⟩ (λi c s g=>by
 refine⟨?_,p i c s g⟩;unfold Vn.b0 o6;rw[g.1,<-wG c n]
 cases d:Di (a[i]).1 0 (gS .i64 (w.2.2.2.2.1.length:Int) 1) with|false=>
 have e:C4 w a[i]=false:=by unfold C4;rw[d];rfl
 rw[e];exact uL (Int.ofNat_lt.2 c) (bw (cB c) (bw (u _ _ d) (uN rfl rfl)))|true=>
 obtain⟨k,l,o⟩:=JZ B.1 d;have j:bK w.2.2.2.2.1 (a[i]).1=some w.2.2.2.2.1[k]:=by rw[o];exact cB l
 have e:C4 w a[i]=(w.2.2.2.2.1[k]).2.2.2.2.2.2.2.2.2.2.2.1:=by unfold C4;rw[d,j];rfl
 rw[e];refine uL (Int.ofNat_lt.2 c) (bw (cB c) (bw (u _ _ d) (cl rfl (bw j ?_))));cases (w.2.2.2.2.1[k]).2.2.2.2.2.2.2.2.2.2.2.1<;>rfl) (λs _=>by unfold Vn.b0;exact uM (Int.le_refl _) rfl);obtain⟨_,m,z,t⟩:=y.2;have r:=y.1;have q:=D.1;rw[t]at r q;refine⟨m,z,?_,?_,t⟩;·unfold Sj;exact bw r rfl
 ·unfold Vn;exact bw q (CJ z rfl)
noncomputable def mb(w:ee)(n:ao):Bool:=match Sj (w,((n.2.2.2.2.2.2.2.2.2.2.2.2.2.2.2.2.2.1,()),()))with
 |some ((k,()),())=>match OL (w,((List.take ((Int.toNat k)-0) (List.drop 0 n.2.2.2.2.2.2.2.2.2.2.2.2.2.2.2.2.2.1),()),()))with|some (R,((c,()),()))=>c&&Js R (n.2.2.1,(n.2.2.2.1,()))|none=>false
 |none=>false
theorem Li(w:ee)(a:KG w)(f:ct w.2.1)(n:ao)(h:Ez n):∃(m:Nat)(R:ek)(c:Bool),m<=List.length n.2.2.2.2.2.2.2.2.2.2.2.2.2.2.2.2.2.1/\Sj (w,((n.2.2.2.2.2.2.2.2.2.2.2.2.2.2.2.2.2.1,()),()))=some (I1 (m:Int))/\Vn (w,((n.2.2.2.2.2.2.2.2.2.2.2.2.2.2.2.2.2.1,()),()))=some ((List.take ((Int.toNat (m:Int))-0) (List.drop 0 n.2.2.2.2.2.2.2.2.2.2.2.2.2.2.2.2.2.1),()),())/\OL (w,((List.take ((Int.toNat (m:Int))-0) (List.drop 0 n.2.2.2.2.2.2.2.2.2.2.2.2.2.2.2.2.2.1),()),()))=some (R,((c,()),()))/\Si (w,((List.take ((Int.toNat (m:Int))-0) (List.drop 0 n.2.2.2.2.2.2.2.2.2.2.2.2.2.2.2.2.2.1),()),()))=some (R,((c,()),()))/\ct R.2.1/\mb w n=(c&&Js R (n.2.2.1,(n.2.2.2.1,()))):=by have b:(Ty.sl (.cons (.int .i64) .nil)).Ok n.2.2.2.2.2.2.2.2.2.2.2.2.2.2.2.2.2.1:=h.2.2.2.2.2.2.2.2.2.2.2.2.2.2.2.2.2.1;obtain⟨m,k,d,g,_⟩:=Lh w n.2.2.2.2.2.2.2.2.2.2.2.2.2.2.2.2.2.1 a b.1;obtain⟨R,c,e,j,i,_⟩:=Lg w (List.take ((Int.toNat (m:Int))-0) (List.drop 0 n.2.2.2.2.2.2.2.2.2.2.2.2.2.2.2.2.2.1)) a f (Nat.le_trans (m:=List.length n.2.2.2.2.2.2.2.2.2.2.2.2.2.2.2.2.2.1) (by rw[List.length_take,List.length_drop];omega) b.1);refine⟨m,R,c,k,d,g,e,j,i,?_⟩;unfold mb;rw[d];show (match OL (w,((List.take ((Int.toNat (m:Int))-0) (List.drop 0 n.2.2.2.2.2.2.2.2.2.2.2.2.2.2.2.2.2.1),()),())) with|some (R,((c,()),()))=>c&&Js R (n.2.2.1,(n.2.2.2.1,()))|none=>false)=_;rw[e]
theorem J0(w:ee)(d:KG w)(e:ct w.2.1):SY (w,())=some (B1 (w.2.2.2.1.all (mb w))):=by have b:(Ty.sl Ln).Ok w.2.2.2.1:=d.2.2.2.1;have j:=BI (S:=Int×Unit) w.2.2.2.1 (mb w) (f:=SY.b0 (w,())) (λk=>(k,())) (Sum.inl ((w.2.2.2.1.length:Int),())) (Sum.inr (B1 false)) (λi a=>by obtain⟨m,R,c,n,g,p,o,q,l,h⟩:=Li w d e w.2.2.2.1[i] (Ae b.2 (List.getElem_mem a));unfold SY.b0;rw[h,<-wG a b.1];exact uL (Int.ofNat_lt.2 a) (bw (cB a) (bw g (CJ n (bw o (DT (bw (Zp R _ l) DU))))))) (by unfold SY.b0;exact uM (Int.le_refl _) rfl);unfold SY;refine bw j ?_;cases w.2.2.2.1.all (mb w)<;>rfl
theorem HB(w:ee)(d:KG w)(e:ct w.2.1):SV (w,())=some (B1 (w.2.2.2.1.all (mb w))):=by have b:(Ty.sl Ln).Ok w.2.2.2.1:=d.2.2.2.1;have j:=BI (S:=Int×Unit) w.2.2.2.1 (mb w) (f:=SV.b0 (w,())) (λk=>(k,())) (Sum.inl ((w.2.2.2.1.length:Int),())) (Sum.inr (B1 false)) (λi a=>by obtain⟨m,R,c,p,o,g,q,n,l,h⟩:=Li w d e w.2.2.2.1[i] (Ae b.2 (List.getElem_mem a));unfold SV.b0;rw[h,<-wG a b.1];exact uL (Int.ofNat_lt.2 a) (bw (cB a) (bw g (bw n (DT (bw (Zq R _ l) DU)))))) (by unfold SV.b0;exact uM (Int.le_refl _) rfl);unfold SV;refine bw j ?_;cases w.2.2.2.1.all (mb w)<;>rfl
def l6(a b:tb):Bool:=gA a.1 1&&(gA b.1 1&&(gA a.2.1 b.2.1&&(gA a.2.2.1 b.2.2.1&&(ko a.2.2.2.2.1 b.2.2.2.2.1&&!gA a.2.2.2.1 b.2.2.2.1))))
def yr(xs:List tb):Bool:=iK (λi y=>iK (λ_ z=>!l6 y z) 0 (xs.take i)) 0 xs
theorem Pp{A:Type}{a b:tb}{r n:A}:(bif gA a.1 1 then bif gA b.1 1 then bif gA a.2.1 b.2.1 then bif gA a.2.2.1 b.2.2.1 then bif ko a.2.2.2.2.1 b.2.2.2.2.1 then bif !gA a.2.2.2.1 b.2.2.2.1 then r else n else n else n else n else n else n)=bif !l6 a b then n else r:=by unfold l6;cases gA a.1 1<;>cases gA b.1 1<;>cases gA a.2.1 b.2.1<;>cases gA a.2.2.1 b.2.2.1<;>cases ko a.2.2.2.2.1 b.2.2.2.2.1<;>cases gA a.2.2.2.1 b.2.2.2.1<;>rfl
theorem Pq{A:Type}{a b:tb}{r n:A}:(bif gA a.1 1 then bif gA b.1 1 then bif ko a.2.2.2.2.1 b.2.2.2.2.1 then bif gA a.2.1 b.2.1 then bif gA a.2.2.1 b.2.2.1 then bif !gA a.2.2.2.1 b.2.2.2.1 then r else n else n else n else n else n else n)=bif !l6 a b then n else r:=by unfold l6;cases gA a.1 1<;>cases gA b.1 1<;>cases gA a.2.1 b.2.1<;>cases gA a.2.2.1 b.2.2.1<;>cases ko a.2.2.2.2.1 b.2.2.2.2.1<;>cases gA a.2.2.2.1 b.2.2.2.1<;>rfl
theorem Lj(w:ee)(h:List.length w.2.2.2.2.2.1<=1048576):Og (w,())=some (B1 (yr w.2.2.2.2.2.1)):=by
 obtain⟨a,b,c,d,e,xs,g,u⟩:=w;have h:List.length xs<=1048576:=h;show Og ((a,(b,(c,(d,(e,(xs,(g,u))))))),())=some (B1 (yr xs));have l:∀i (f:i<xs.length),aR (Og.b1 ((i:Int),()) ((a,(b,(c,(d,(e,(xs,(g,u))))))),())) ((0:Int),())=some (bif iK (λ_ z=>!l6 xs[i] z) 0 (xs.take i)then Sum.inl ((i:Int),())else Sum.inr (.inr (.inr (B1 false)))):=by
  intro i f;refine yW (S:=Int×Unit) (xs.take i) (λ_ z=>!l6 xs[i] z) (λk=>(k,())) _ _ (λk m=>?_) ?_
  · have n:k<i:=by simp at m;omega
    unfold Og.b1;dsimp only;rw[gQ (by omega),cond_true,cB f,Option.bind_some,cB (show k<xs.length by omega),Option.bind_some,ed (by omega) (by omega),List.getElem_take];exact Pp
  · have :(xs.take i).length=i:=by simp;omega
    rw[this];unfold Og.b1;dsimp only;rw[dD (Int.le_refl _),cond_false]
 have j:aR (Og.b0 ((a,(b,(c,(d,(e,(xs,(g,u))))))),())) ((0:Int),())=some (bif yr xs then Sum.inl ((xs.length:Int),()) else Sum.inr (B1 false)):=by
  refine yW (S:=Int×Unit) xs (λi y=>iK (λ_ z=>!l6 y z) 0 (xs.take i)) (λk=>(k,())) _ _ (λi f=>?_) ?_;· unfold Og.b0;dsimp only;rw[gQ (by omega),cond_true,l i f,Option.bind_some,ed (by omega) (by omega)];cases iK (λ_ z=>!l6 xs[i] z) 0 (xs.take i)<;>rfl
  · unfold Og.b0;dsimp only;rw[dD (Int.le_refl _),cond_false];try rfl
 unfold Og;rw[j];cases yr xs<;>rfl
theorem H4(w:ee)(h:List.length w.2.2.2.2.2.1<=1048576):Oe (w,())=some (B1 (yr w.2.2.2.2.2.1)):=by
 obtain⟨a,b,c,d,e,xs,g,u⟩:=w;have h:List.length xs<=1048576:=h;show Oe ((a,(b,(c,(d,(e,(xs,(g,u))))))),())=some (B1 (yr xs));have l:∀i (f:i<xs.length),aR (Oe.b1 ((i:Int),()) ((a,(b,(c,(d,(e,(xs,(g,u))))))),()) xs[i]) ((0:Int),())=some (bif iK (λ_ z=>!l6 xs[i] z) 0 (xs.take i) then Sum.inl ((i:Int),()) else Sum.inr (.inr (.inr (B1 false)))):=by
  intro i f;have m:(xs.take i).length=i:=by simp;omega
  refine yW (S:=Int×Unit) (xs.take i) (λ_ z=>!l6 xs[i] z) (λk=>(k,())) _ _ (λk o=>?_) ?_;·unfold Oe.b1;dsimp only;rw[Int.toNat_natCast,Nat.sub_zero,List.drop_zero,gQ (by omega),cond_true,cB o,Option.bind_some,ed (by omega) (by omega)];exact Pq
  ·rw[m];unfold Oe.b1;dsimp only;rw[Int.toNat_natCast,Nat.sub_zero,List.drop_zero,dD (by omega),cond_false]
 have j:aR (Oe.b0 ((a,(b,(c,(d,(e,(xs,(g,u))))))),())) ((0:Int),())=some (bif yr xs then Sum.inl ((xs.length:Int),()) else Sum.inr (B1 false)):=by
  refine yW (S:=Int×Unit) xs (λi y=>iK (λ_ z=>!l6 y z) 0 (xs.take i)) (λk=>(k,())) _ _ (λi f=>?_) ?_
  · unfold Oe.b0;dsimp only;have n:mX (i:Int) (List.length xs)=true:=by unfold mX;simp only[decide_eq_true_eq];omega
    rw[gQ (by omega),cond_true,cB f,Option.bind_some,n,cond_true,l i f,Option.bind_some,ed (by omega) (by omega)];cases iK (λ_ z=>!l6 xs[i] z) 0 (xs.take i)<;>rfl
  · unfold Oe.b0;dsimp only;rw[dD (Int.le_refl _),cond_false];try rfl
 unfold Oe;rw[j];cases yr xs<;>rfl
def De(a b:List D3):Bool:=iK (λ_ p=>gA p.1.1 p.2.1) 0 (a.zip b)
theorem U8{A:Type}{b:Bool}{r n:A}:(bif !b then r else n)=bif b then n else r:=by cases b<;>rfl
theorem ZV(a b:List D3)(f:a.length<=9223372036854775807):Wk ((a,()),((b,()),()))=some (B1 (De a b)):=by
 have e:aR (Wk.b0 ((a,()),((b,()),()))) ((0:Int),())=some (bif De a b then Sum.inl (((a.zip b).length:Int),())else Sum.inr (B1 false)):=by
  refine yW (S:=Int×Unit) (a.zip b) (λ_ p=>gA p.1.1 p.2.1) (λk=>(k,())) _ _ (λi d=>?_) ?_
  · have c:i<a.length/\i<b.length:=by rw[List.length_zip]at d;omega
    unfold Wk.b0;dsimp only;rw[gQ (by omega),cond_true,gQ (by omega),cond_true,cB c.1,Option.bind_some,cB c.2,Option.bind_some,ed (by omega) (by omega),List.getElem_zip,U8];try rfl
  · unfold Wk.b0;dsimp only;rw[List.length_zip];by_cases h:a.length<=b.length;· rw[Nat.min_eq_left h,dD (Int.le_refl _),cond_false];try rfl
    · rw[Nat.min_eq_right (by omega),gQ (by omega),cond_true,dD (Int.le_refl _),cond_false];try rfl
 unfold Wk;rw[e];cases De a b<;>rfl
theorem ZW(a b:List D3)(d:a.length=b.length)(j:a.length<=9223372036854775807):Py ((a,()),((b,()),()))=some (B1 (De a b)):=by
 have g:(a.zip b).length=a.length:=by rw[List.length_zip];omega
 have h:aR (Py.b0 ((a,()),((b,()),()))) ((0:Int),())=some (bif De a b then Sum.inl (((a.zip b).length:Int),())else Sum.inr (B1 false)):=by
  refine yW (S:=Int×Unit) (a.zip b) (λ_ p=>gA p.1.1 p.2.1) (λk=>(k,())) _ _ (λi f=>?_) ?_
  · have c:i<a.length/\i<b.length:=by rw[List.length_zip]at f;omega
    unfold Py.b0;dsimp only;rw[gQ (by omega),cond_true,cB c.1,Option.bind_some,cB c.2,Option.bind_some,ed (by omega) (by omega),List.getElem_zip,U8];try rfl
  · unfold Py.b0;dsimp only;rw[g,dD (Int.le_refl _),cond_false];try rfl
 unfold Py;dsimp only;have e:gA (a.length:Int) (b.length:Int)=true:=by unfold gA;rw[d];exact decide_eq_true rfl
 rw[e,Bool.not_true,cond_false,h];cases De a b<;>rfl
theorem U9{d e:Type}(a:List d)(b:List e)(k:Nat):(a.take k).zip (b.take k)=(a.zip b).take k:=by induction k generalizing a b with|zero=>simp|succ k c=>cases a<;>cases b<;>simp[c]
theorem R5(a b:List D3)(k:Nat)(c:k=min a.length b.length):De (a.take k) (b.take k)=De a b:=by
 unfold De;have :(a.take k).zip (b.take k)=a.zip b:=by rw[U9,List.take_of_length_le];rw[List.length_zip];omega
 rw[this]
theorem Va{a b:Nat}:AU (a:Int) (b:Int)=((min a b:Nat):Int):=by
 unfold AU dO;by_cases h:b<a;·rw[decide_eq_true (by omega),cond_true,Nat.min_eq_right (by omega)]
 ·rw[decide_eq_false (by omega),cond_false,Nat.min_eq_left (by omega)]
def fa(y:ao):List D3:=y.2.2.2.2.2.2.2.2.2.2.2.2.2.2.2.2.2.1
def y0(xs:List ao):Bool:=iK (λi y=>iK (λ_ z=>De (fa y) (fa z)) 0 (xs.take i)) 0 xs
theorem Vb(w:ee)(j:List.length w.2.2.2.1<=1048576)(h:∀y∈w.2.2.2.1,(fa y).length<=9223372036854775807):Oh (w,())=some (B1 (y0 w.2.2.2.1)):=by
 obtain⟨a,b,c,xs,d,e,g,u⟩:=w;have j:List.length xs<=1048576:=j;have h:∀y∈xs,(fa y).length<=9223372036854775807:=h;show Oh ((a,(b,(c,(xs,(d,(e,(g,u))))))),())=some (B1 (y0 xs));have m:∀i (f:i<xs.length),aR (Oh.b1 ((i:Int),()) ((a,(b,(c,(xs,(d,(e,(g,u))))))),())) ((0:Int),())=some (bif iK (λ_ z=>De (fa xs[i]) (fa z)) 0 (xs.take i)then Sum.inl ((i:Int),())else Sum.inr (.inr (.inr (B1 false)))):=by
  intro i f;refine yW (S:=Int×Unit) (xs.take i) (λ_ z=>De (fa xs[i]) (fa z)) (λk=>(k,())) _ _ (λk n=>?_) ?_
  · have p:k<i:=by simp at n;omega
    unfold Oh.b1;dsimp only;rw[gQ (by omega),cond_true,cB f,Option.bind_some,cB (show k<xs.length by omega),Option.bind_some,ed (by omega) (by omega),List.getElem_take];refine (congrArg (λo=>Option.bind o _) (ZV (fa xs[i]) (fa xs[k]) (h _ (List.getElem_mem f)))).trans ?_;cases De (fa xs[i]) (fa xs[k])<;>rfl
  · have :(xs.take i).length=i:=by simp;omega
    rw[this];unfold Oh.b1;dsimp only;rw[dD (Int.le_refl _),cond_false]
 have l:aR (Oh.b0 ((a,(b,(c,(xs,(d,(e,(g,u))))))),())) ((0:Int),())=some (bif y0 xs then Sum.inl ((xs.length:Int),()) else Sum.inr (B1 false)):=by
  refine yW (S:=Int×Unit) xs (λi y=>iK (λ_ z=>De (fa y) (fa z)) 0 (xs.take i)) (λk=>(k,())) _ _ (λi f=>?_) ?_;· unfold Oh.b0;dsimp only;rw[gQ (by omega),cond_true,m i f,Option.bind_some,ed (by omega) (by omega)];cases iK (λ_ z=>De (fa xs[i]) (fa z)) 0 (xs.take i)<;>rfl
  · unfold Oh.b0;dsimp only;rw[dD (Int.le_refl _),cond_false];try rfl
 unfold Oh;rw[l];cases y0 xs<;>rfl
theorem Ps(w:ee)(l:List.length w.2.2.2.1<=1048576)(h:∀y∈w.2.2.2.1,(fa y).length<=9223372036854775807):Of (w,())=some (B1 (y0 w.2.2.2.1)):=by
 obtain⟨a,b,c,xs,d,e,g,u⟩:=w;have l:List.length xs<=1048576:=l;have h:∀y∈xs,(fa y).length<=9223372036854775807:=h;show Of ((a,(b,(c,(xs,(d,(e,(g,u))))))),())=some (B1 (y0 xs));have n:∀i (f:i<xs.length),aR (Of.b1 ((i:Int),()) ((a,(b,(c,(xs,(d,(e,(g,u))))))),()) xs[i]) ((0:Int),())=some (bif iK (λ_ z=>De (fa xs[i]) (fa z)) 0 (xs.take i) then Sum.inl ((i:Int),()) else Sum.inr (.inr (.inr (B1 false)))):=by
  intro i f;have p:(xs.take i).length=i:=by simp;omega
  refine yW (S:=Int×Unit) (xs.take i) (λ_ z=>De (fa xs[i]) (fa z)) (λk=>(k,())) _ _ (λk r=>?_) ?_
  · unfold Of.b1;dsimp only;rw[Int.toNat_natCast,Nat.sub_zero,List.drop_zero,gQ (by omega),cond_true,cB r,Option.bind_some,Va,ed (by omega) (by omega)];generalize A:(xs.take i)[k]=z;have x:=h _ (List.getElem_mem f);have v:mX ((min (fa xs[i]).length (fa z).length:Nat):Int) (fa xs[i]).length=true:=by unfold mX;exact decide_eq_true (by omega)
    have s:mX ((min (fa xs[i]).length (fa z).length:Nat):Int) (fa z).length=true:=by unfold mX;exact decide_eq_true (by omega)
    refine (congrArg (λt=>bif t then _ else none) v).trans ((congrArg (λt=>bif t then _ else none) s).trans ?_);have j:=ZW ((fa xs[i]).take (min (fa xs[i]).length (fa z).length)) ((fa z).take (min (fa xs[i]).length (fa z).length)) (by rw[List.length_take,List.length_take];omega) (by rw[List.length_take];omega);rw[R5 _ _ _ rfl]at j;refine (congrArg (λo=>Option.bind o _) j).trans ?_;cases De (fa xs[i]) (fa z)<;>rfl
  · rw[p];unfold Of.b1;dsimp only;rw[Int.toNat_natCast,Nat.sub_zero,List.drop_zero,dD (by omega),cond_false]
 have m:aR (Of.b0 ((a,(b,(c,(xs,(d,(e,(g,u))))))),())) ((0:Int),())=some (bif y0 xs then Sum.inl ((xs.length:Int),()) else Sum.inr (B1 false)):=by
  refine yW (S:=Int×Unit) xs (λi y=>iK (λ_ z=>De (fa y) (fa z)) 0 (xs.take i)) (λk=>(k,())) _ _ (λi f=>?_) ?_
  · unfold Of.b0;dsimp only;have q:mX (i:Int) (List.length xs)=true:=by unfold mX;simp only[decide_eq_true_eq];omega
    rw[gQ (by omega),cond_true,cB f,Option.bind_some,q,cond_true,n i f,Option.bind_some,ed (by omega) (by omega)];cases iK (λ_ z=>De (fa xs[i]) (fa z)) 0 (xs.take i)<;>rfl
  · unfold Of.b0;dsimp only;rw[dD (Int.le_refl _),cond_false];try rfl
 unfold Of;rw[m];cases y0 xs<;>rfl
def J1(a b c d:Bool):Int:=bif a then bif b then bif c then bif d then 0 else 4 else 3 else 2 else 1
theorem ZX(l:List D4)(s:Bool)(d:Al l.length):Vo ((l,()),((s,()),()))=some (I1 (nY l (λv=>wo s v.1))):=by
 have e:=Ck (S:=Int×Unit) l (λv=>wo s v.1) (f:=Vo.b0 ((l,()),((s,()),()))) (λk=>(k,())) (Sum.inl ((l.length:Int),())) (λi=>Sum.inr (I1 i)) (λi a=>?_) ?_;·unfold Vo;refine bw e ?_;rcases mA l (λv=>wo s v.1) with⟨c,_,b⟩|⟨j,g,_,_,c,_,b⟩<;>rw[c,b]<;>rfl
 ·unfold Vo.b0;refine uL (Int.ofNat_lt.2 a) (bw (cB a) ?_);rw[<-wG a d]
 ·unfold Vo.b0;exact uM (Int.le_refl _) rfl
theorem Qv(a b c d:Bool):(Vo ((([(a,()),(b,()),(c,()),(d,())]:List D4),()),((false,()),()))).bind (λe=>some ((cM .i64 (1:Int) e.1.1,()),()))=some (I1 (J1 a b c d)):=by refine bw (ZX _ _ (show (4:Nat)<=9223372036854775807 by decide)) ?_;cases a<;>cases b<;>cases c<;>cases d<;>rfl
theorem Qw(w:ee)(a b c d:Bool)(g:OK (w,())=some (B1 a))(f:Og (w,())=some (B1 b))(e:Oh (w,())=some (B1 c))(h:SY (w,())=some (B1 d)):Z7 (w,())=some (I1 (J1 a b c d)):=by
 unfold Z7;refine bw g ?_;cases a;·rfl
 refine uN rfl (bw f ?_);cases b;·rfl
 refine uN rfl (bw e ?_);cases c;·rfl
 refine uN rfl (bw h ?_);cases d<;>rfl
theorem R6(w:ee)(a:Se.Ok w)(d:ct w.2.1)(e:List.length w.2.2.2.2.2.1<=1048576)(c:List.length w.2.2.2.1<=1048576):Z7 (w,())=some (I1 (J1 (Em w) (yr w.2.2.2.2.2.1) (y0 w.2.2.2.1) (w.2.2.2.1.all (mb w))))/\Z6 (w,())=some (I1 (J1 (Em w) (yr w.2.2.2.2.2.1) (y0 w.2.2.2.1) (w.2.2.2.1.all (mb w)))):=by
 have f:(Ty.sl Ln).Ok w.2.2.2.1:=a.2.2.2.1;have b:∀y∈w.2.2.2.1,(fa y).length<=9223372036854775807:=λy g=>by have h:=Ae f.2 g;have b:(Ty.sl (.cons (.int .i64) .nil)).Ok y.2.2.2.2.2.2.2.2.2.2.2.2.2.2.2.2.2.1:=h.2.2.2.2.2.2.2.2.2.2.2.2.2.2.2.2.2.1;exact b.1
 refine⟨Qw w _ _ _ _ (PH w a) (Lj w e) (Vb w c b) (J0 w a d),?_⟩;unfold Z6;exact bw (L7 w a) (bw (H4 w e) (bw (Ps w c b) (bw (HB w a d) (Qv _ _ _ _))))
theorem PW.Oa{R:Int}{w:ee}(h:PW R w){n:ao}(c:n∈aa w){P:List HC}{S:List e6}{L:ek}{d:List D3}(b:P<+:bb n)(a:u5 (ab w) (GW w) (fk w) P S L d):Eh R w (P.length:Int) S:=⟨h.bl,h.vw,h.Hr,a.set h.bl h.set,a.xg h.XY (λx o=>h.XZ n c x (b.subset o)),λk j g f i m l p e=>(h.N6 P.length k j n c g P f S i L m d l b (by omega) rfl e a).1⟩
theorem PW.Gb{R:Int}{w:ee}(h:PW R w){n:ao}(Z:n∈aa w):∀(k:Nat)(P e:List HC)(S:List e6)(L:ek)(d:List D3),P.length=k->P<+:bb n->u5 (ab w) (GW w) (fk w) P S L d->e<+:P->e.length<P.length->∃m t o i x q l a b r,u5 (ab w) (GW w) (fk w) e m t o/\o++fv (i++[x])<+:d/\hu x=true/\RQ (ab w) (GW w) m (e.length:Int) q l a b/\l++[a]=i++x::r:=by intro k;induction k with|zero=>intro P e S L d β _ _ _ v;omega|succ k α=>
 intro P e S L d β Q F U v;rcases F.U7 with⟨g,_⟩|⟨f,C,z,u,θ,q,l,a,b,p,c,r,g,j,T,a3,a4,B,K,δ,ε,G⟩;·rw[g]at v;simp at v
 have A:f<+:bb n:=(List.prefix_append _ _).trans (by rw[<-g];exact Q);have γ:P.length=f.length+1:=by rw[g];simp
 have N:=h.Oa Z A j;have O:=HA N j.dr T a3 a4 B K;have D:d=u++fv (p++[c]):=by rw[G,O]
 have s:e<+:f:=List.prefix_of_prefix_length_le U (by rw[g];exact List.prefix_append _ _) (by omega);by_cases y:e.length=f.length;·have :e=f:=s.eq_of_length y;subst this;exact⟨C,z,u,p,c,q,l,a,b,r,j,by rw[D];exact List.prefix_refl _,B,a3,a4⟩
 ·have E:e.length<f.length:=Nat.lt_of_le_of_ne s.length_le y;obtain⟨m,t,o,i,x,H,V,Y,M,W,J,I,X⟩:=α f e C z u (by omega) A j s E;exact⟨m,t,o,i,x,H,V,Y,M,W,J,I.trans (by rw[D];exact List.prefix_append _ _),X⟩
theorem Mu{a b:List an}(h:a<+:b):fv a<+:fv b:=by obtain⟨r,rfl⟩:=h;rw[Hz];exact List.prefix_append _ _
theorem Mw{A:Type}{d a b:List A}(h:a<+:b):d++a<+:d++b:=(List.prefix_append_right_inj d).2 h
theorem Ob{R:Int}{w:ee}(h:PW R w){n m:ao}(t:n∈aa w)(f:m∈aa w)(N:NW n)(Y:NW m)(M:SI (ab w) (GW w) (fk w) n) (U:SI (ab w) (GW w) (fk w) m) (Z:(bb n).length<=(bb m).length):j9 n<+:j9 m\/j9 m<+:j9 n:=by
 obtain⟨δ,g,G⟩:=M.Ga;obtain⟨β,e,y⟩:=U.Ga;have p:=h.Oa t (List.prefix_refl _) g;rw[<-N.pa]at G;rw[<-Y.pa]at y;obtain⟨j,E,H,F⟩:=G.Xr p g.dr;have P:=h.Oa f (List.prefix_refl _) e;obtain⟨u,v,α,L⟩:=y.Xr P e.dr;by_cases A:(bb n).length=(bb m).length
 · obtain⟨o,X,s⟩:=h.N6 (bb n).length n t m f (bb n) (bb m) _ _ _ _ _ _ (List.prefix_refl _) (List.prefix_refl _) rfl A.symm g e;rw[E,v,<-s];have c:j<+:u\/u<+:j:=by
    rcases F with rfl|⟨q,l,a,b,k,rfl⟩;· exact .inl (List.nil_prefix ..)
    · rcases L with rfl|⟨O,V,W,Q,D,rfl⟩;· exact .inr (List.nil_prefix ..)
      · rw[<-o,<-A]at D;exact p.cmp k D
   rcases c with c|c;· exact .inl (Mw (Mu c))
   · exact .inr (Mw (Mu c))
 · have J:(bb n).length<(bb m).length:=by omega
   have i:((bb m).take (bb n).length).length=(bb n).length:=by rw[List.length_take];omega
   obtain⟨ε,γ,θ,B,x,q,l,a,b,r,T,S,z,C,I⟩:=h.Gb f (bb m).length (bb m) ((bb m).take (bb n).length) _ _ _ rfl (List.prefix_refl _) e (List.take_prefix ..) (by rw[i];exact J);obtain⟨o,X,s⟩:=h.N6 (bb n).length n t m f (bb n) ((bb m).take (bb n).length) _ _ _ _ _ _ (List.prefix_refl _) (List.take_prefix ..) rfl i g T;left;rw[i,<-o]at C;have K:j<+:B:=by
    rcases F with rfl|⟨O,V,W,Q,k,rfl⟩;· exact List.nil_prefix ..
    · rcases p.cmp k C with d|d;· rw[I]at d;exact N8 H z d
      · exfalso;have :=H x (d.subset (by rw[I];simp));rw[z]at this;cases this
   rw[E,v,s];exact ((Mw (Mu (K.trans (List.prefix_append B [x])))).trans S).trans (List.prefix_append _ _)
theorem R7:∀(a b:List D3),(a<+:b\/b<+:a)->De a b=true:=by
 intro a b h;unfold De;refine ns (λi c=>?_);rw[List.length_zip]at c;rw[List.getElem_zip];rw[Cr];rcases h with⟨r,rfl⟩|⟨r,rfl⟩;·rw[List.getElem_append_left]
 ·rw[List.getElem_append_left]
theorem Xu{R:Int}{w:ee}(h:PW R w)(d:∀n∈aa w,NW n)(c:SW w):y0 (aa w)=true:=by
 unfold y0;refine ns (λi g=>ns (λj k=>?_));have f:j<(aa w).length:=by rw[List.length_take]at k;omega
 rw[List.getElem_take];have b:=List.getElem_mem g;have a:=List.getElem_mem f;refine R7 _ _ ?_;rcases Nat.le_total (bb (aa w)[i]).length (bb (aa w)[j]).length with e|e;·exact Ob h b a (d _ b) (d _ a) (c.nd _ b) (c.nd _ a) e
 ·exact (Ob h a b (d _ a) (d _ b) (c.nd _ a) (c.nd _ b) e).symm
theorem Ll:∀(p:List an)(L:ek),(∀b∈p,hu b=false)->md L p=p.foldl C9 L
 |[],L,_=>rfl|b::r,L,h=>by
  have c:md L (b::r)=md (C8 L (po b)).2 r:=rfl;have a:C9 L b=(C8 L (po b)).2:=by unfold C9;have :=h b (List.mem_cons_self ..);rw[show b.2.2.2.2.2.2.2.2.2.2.2.1=false from this];rfl
  rw[c,List.foldl_cons,a];exact Ll r _ (λx d=>h x (List.mem_cons_of_mem _ d))
theorem R8{p:List an}{c:an}{L:ek}(h:∀b∈p,hu b=false)(a:hu c=true):j0 (md L (p++[c]))=(p++[c]).foldl C9 L:=by
 have d:md L (p++[c])=(C8 (md L p) (po c)).2:=by unfold md;rw[List.foldl_append];rfl
 rw[d,List.foldl_append,Ll p L h];show _=C9 (p.foldl C9 L) c;unfold C9;rw[show c.2.2.2.2.2.2.2.2.2.2.2.1=true from a];rfl
theorem PW.bv0{R:Int}{w:ee}(h:PW R w){n:ao}(G:n∈aa w):∀(k:Nat)(P:List HC)(S:List e6)(L:ek)(d:List D3),P.length=k->P<+:bb n->u5 (ab w) (GW w) (fk w) P S L d->∃X,d=fv X/\(∀b∈X,b∈ab w)/\L=X.foldl C9 (fk w)/\(X=[]\/∃Y c,X=Y++[c]/\hu c=true):=by
 intro k;induction k with|zero=>
 intro P S L d g z j;rcases j.U7 with⟨_,_,t,o⟩|⟨i,B,u,A,I,q,l,a,b,p,c,r,f,_⟩;·exact⟨[],o,λb J=>(by cases J),t,.inl rfl⟩
 · rw [f] at g; simp at g|succ k K=>
 intro P S L d g z j;rcases j.U7 with⟨f,_⟩|⟨i,B,u,A,I,q,l,a,b,p,c,r,f,m,F,a3,a4,s,v,N,H,C⟩;· rw [f] at g; simp at g
 have x:i<+:bb n:=(List.prefix_append _ _).trans (by rw [<-f]; exact z);have M:P.length=i.length+1:=by rw [f]; simp
 obtain⟨X,D,t,o,_⟩:=K i B u A (by omega) x m;have E:=HA (h.Oa G x m) m.dr F a3 a4 s v;refine⟨X++(p++[c]),by rw [C,E,D,Hz X],λy e=>?_,by rw [H,R8 v s,o,<-List.foldl_append],.inr ⟨X++p,c,by simp,s⟩⟩;rcases List.mem_append.1 e with e|e;· exact t y e
 · refine (a3.ch.dr y ?_).1;rw [a4];rcases List.mem_append.1 e with e|e;· exact List.mem_append_left _ e
   · rw [List.mem_singleton.1 e]; exact List.mem_append_right _ (List.mem_cons_self ..)
def EN(xs:List e6)(bF:List D9):Bool:=dO (zJ .i64 3 (Gz xs bF)) (I6 xs)
theorem Oc{S:List e6}{bF:List D9}(h:S=[]\/u9 S=true):EN S bF=true↔Gm bF S:=by obtain⟨a,d⟩:=pn h;have c:=E8 (p:=ke bF) (S:=S) (λv b=>(a v b).2);unfold EN Gm;rw[Cp,Lb h,N3 h,Ar (by omega) (by omega)]
def sv(bF:List D9)(b:an):Bool:=bif hu b then EN (p7 b) bF else true
def Gn(bF:List D9)(y:ao):Bool:=EN (ar y) bF&&iK (λ_ p=>iK (λ_ b=>sv bF b) 0 (D1 p)) 0 (bb y)
def J2(w:ee):Bool:=EN (o0 (fk w)) (df w)&&iK (λ_ y=>Gn (df w) y) 0 (aa w)
theorem Pt(xs:List e6)(bF:List D9)(a:Al xs.length)(b:Al bF.length):Z3 ((xs,()),((bF,()),()))=some (B1 (EN xs bF)):=by unfold Z3;exact bw (MW xs bF a b) (bw (Pz xs a) rfl)
theorem Pu(w:ee)(xs:List e6)(a:Al xs.length)(b:Al (df w).length):Z2 (w,((xs,()),()))=some (B1 (EN xs (df w))):=by unfold Z2;exact bw (MX xs (df w) a b) (bw (PA xs a) rfl)
structure X0(y:ao):Prop where
 s:Al (ar y).length
 p:Al (bb y).length
 b:∀p∈bb y,Al (D1 p).length/\∀b∈D1 p,Al (List.length (p7 b))
theorem X0.of{n:ao}(h:J5 n):X0 n:=by have l:=h.l;refine⟨Nat.le_trans l.2.1 (by decide),Nat.le_trans l.2.2.2.2.2.2.2.2.2.2.2.1 (by decide),λp d=>?_⟩;have a:HN p:=l.2.2.2.2.2.2.2.2.2.2.2.2 p d;exact⟨Nat.le_trans a.1 (by decide),λb c=>Nat.le_trans (a.2.1 b c).2.2.2.2 (by decide)⟩
theorem Xv(w:ee)(e:Al (df w).length)(a:ao)(i:Nat)(d:i<(bb a).length)(g:Al (D1 (bb a)[i]).length)(f:∀b∈D1 (bb a)[i],Al (List.length (p7 b))):aR (LM.b2 a ((i:Int),()) (w,())) ((0:Int),())=some (bif iK (λ_ b=>sv (df w) b) 0 (D1 (bb a)[i]) then Sum.inl (((D1 (bb a)[i]).length:Int),()) else Sum.inr (.inr (.inr (.inr (.inr (B1 false)))))):=by
 refine yW (S:=Int×Unit) (D1 (bb a)[i]) (λ_ b=>sv (df w) b) (λk=>(k,())) _ _ (λk c=>?_) ?_;·unfold LM.b2;refine bw (cB (xs:=bb a) d) (uL (Int.ofNat_lt.2 c) (bw (cB (xs:=bb a) d) (bw (cB (xs:=D1 (bb a)[i]) c) ?_)));rw[<-wG c g];unfold sv;show (bif hu (D1 (bb a)[i])[k]then _ else _)=_;cases hu (D1 (bb a)[i])[k]with|false=>rfl|true=>refine bw (Pt (p7 (D1 (bb a)[i])[k]) (df w) (f _ (List.getElem_mem c)) e) ?_;cases EN (p7 (D1 (bb a)[i])[k]) (df w)<;>rfl
 ·unfold LM.b2;exact bw (cB (xs:=bb a) d) (uM (Int.le_refl _) rfl)
theorem Xw(w:ee)(f:Al (df w).length)(a:ao)(e:X0 a):aR (LM.b1 a (w,())) ((0:Int),())=some (bif iK (λ_ p=>iK (λ_ b=>sv (df w) b) 0 (D1 p)) 0 (bb a) then Sum.inl (((bb a).length:Int),()) else Sum.inr (.inr (.inr (B1 false)))):=by
 refine yW (S:=Int×Unit) (bb a) (λ_ p=>iK (λ_ b=>sv (df w) b) 0 (D1 p)) (λk=>(k,())) _ _ (λk c=>?_) ?_;·unfold LM.b1;have d:=e.b _ (List.getElem_mem c);refine uL (Int.ofNat_lt.2 c) (bw (Xv w f a k c d.1 d.2) ?_);rw[<-wG c e.p];cases iK (λ_ b=>sv (df w) b) 0 (D1 (bb a)[k])<;>rfl
 ·unfold LM.b1;exact uM (Int.le_refl _) rfl
theorem ZY(w:ee)(c:Al (df w).length)(g:Al (aa w).length)(h:∀y∈aa w,X0 y)(e:W1 (fk w).2.1.length)(j:(Ty.sl cf).Ok (fk w).2.1):LM (w,())=some (B1 (J2 w)):=by
 have i:aR (LM.b0 (w,())) ((0:Int),())=some (bif iK (λ_ y=>Gn (df w) y) 0 (aa w) then Sum.inl (((aa w).length:Int),()) else Sum.inr (B1 false)):=by
  refine yW (S:=Int×Unit) (aa w) (λ_ y=>Gn (df w) y) (λk=>(k,())) _ _ (λk a=>?_) ?_;·unfold LM.b0;have d:=h _ (List.getElem_mem a);refine uL (Int.ofNat_lt.2 a) (bw (cB (xs:=aa w) a) (bw (Pt (ar (aa w)[k]) (df w) d.s c) ?_));unfold Gn;cases EN (ar (aa w)[k]) (df w) with|false=>rfl|true=>refine uN rfl (bw (Xw w c (aa w)[k] d) ?_);rw[<-wG a g];cases iK (λ_ p=>iK (λ_ b=>sv (df w) b) 0 (D1 p)) 0 (bb (aa w)[k])<;>rfl
  ·unfold LM.b0;exact uM (Int.le_refl _) rfl
 have f:Al (o0 (fk w)).length:=by have l:=Ex (fk w).2.1;unfold o0 Al;unfold W1 at e;cases bk (fk w) with|true=>show (va (fk w).2.1).length<=_;omega|false=>exact Nat.zero_le _
 unfold LM J2;refine bw (L1 (fk w) e j) (bw (Pt (o0 (fk w)) (df w) f c) ?_);cases EN (o0 (fk w)) (df w) with|false=>rfl|true=>refine uN rfl (bw i ?_);cases iK (λ_ y=>Gn (df w) y) 0 (aa w)<;>rfl
theorem Xx(w:ee)(d:Al (df w).length)(a:HC)(f:Al (D1 a).length)(e:∀b∈D1 a,Al (List.length (p7 b))):aR (F9.b2 a (w,())) ((0:Int),())=some (bif iK (λ_ b=>sv (df w) b) 0 (D1 a) then Sum.inl (((D1 a).length:Int),()) else Sum.inr (.inr (.inr (.inr (.inr (B1 false)))))):=by
 refine yW (S:=Int×Unit) (D1 a) (λ_ b=>sv (df w) b) (λk=>(k,())) _ _ (λk c=>?_) ?_;·unfold F9.b2;refine uL (Int.ofNat_lt.2 c) (bw (cB (xs:=D1 a) c) ?_);rw[<-wG c f];unfold sv;show (bif hu (D1 a)[k]then _ else _)=_;cases hu (D1 a)[k]with|false=>rfl|true=>refine bw (Pu w (p7 (D1 a)[k]) (e _ (List.getElem_mem c)) d) ?_;cases EN (p7 (D1 a)[k]) (df w)<;>rfl
 ·unfold F9.b2;exact uM (Int.le_refl _) rfl
theorem Xy(w:ee)(f:Al (df w).length)(a:ao)(e:X0 a):aR (F9.b1 a (w,())) ((0:Int),())=some (bif iK (λ_ p=>iK (λ_ b=>sv (df w) b) 0 (D1 p)) 0 (bb a) then Sum.inl (((bb a).length:Int),()) else Sum.inr (.inr (.inr (B1 false)))):=by
 refine yW (S:=Int×Unit) (bb a) (λ_ p=>iK (λ_ b=>sv (df w) b) 0 (D1 p)) (λk=>(k,())) _ _ (λk c=>?_) ?_;·unfold F9.b1;have d:=e.b _ (List.getElem_mem c);refine uL (Int.ofNat_lt.2 c) (bw (cB (xs:=bb a) c) (bw (Xx w f (bb a)[k] d.1 d.2) ?_));rw[<-wG c e.p];cases iK (λ_ b=>sv (df w) b) 0 (D1 (bb a)[k])<;>rfl
 ·unfold F9.b1;exact uM (Int.le_refl _) rfl
theorem ZZ(w:ee)(c:Al (df w).length)(g:Al (aa w).length)(h:∀y∈aa w,X0 y)(e:W1 (fk w).2.1.length)(j:(Ty.sl cf).Ok (fk w).2.1):F9 (w,())=some (B1 (J2 w)):=by
 have i:aR (F9.b0 (w,())) ((0:Int),())=some (bif iK (λ_ y=>Gn (df w) y) 0 (aa w) then Sum.inl (((aa w).length:Int),()) else Sum.inr (B1 false)):=by
  refine yW (S:=Int×Unit) (aa w) (λ_ y=>Gn (df w) y) (λk=>(k,())) _ _ (λk a=>?_) ?_;·unfold F9.b0;have d:=h _ (List.getElem_mem a);refine uL (Int.ofNat_lt.2 a) (bw (cB (xs:=aa w) a) (bw (Pu w (ar (aa w)[k]) d.s c) ?_));unfold Gn;cases EN (ar (aa w)[k]) (df w) with|false=>rfl|true=>refine uN rfl (bw (Xy w c (aa w)[k] d) ?_);rw[<-wG a g];cases iK (λ_ p=>iK (λ_ b=>sv (df w) b) 0 (D1 p)) 0 (bb (aa w)[k])<;>rfl
  ·unfold F9.b0;exact uM (Int.le_refl _) rfl
 have f:Al (o0 (fk w)).length:=by have l:=Ex (fk w).2.1;unfold o0 Al;unfold W1 at e;cases bk (fk w) with|true=>show (va (fk w).2.1).length<=_;omega|false=>exact Nat.zero_le _
 unfold F9 J2;refine bw (Wy (fk w) e j) (bw (Pu w (o0 (fk w)) f c) ?_);cases EN (o0 (fk w)) (df w) with|false=>rfl|true=>refine uN rfl (bw i ?_);cases iK (λ_ y=>Gn (df w) y) 0 (aa w)<;>rfl
theorem Pv(xs:List dT):KO xs xs=true:=by unfold KO;rw[nV,Bool.true_and];refine ns (λi a=>?_);unfold Rf;rw[Nat.zero_add,List.getElem?_eq_getElem a];simp only[nV,Bool.and_true]
theorem R9(a:ek):Js a a=true:=by unfold Js;rw[nV,nV,Bool.true_and,Bool.true_and];refine ns (λi b=>?_);unfold O0;rw[Nat.zero_add,List.getElem?_eq_getElem b];unfold OZ;simp only[nV,xD,Pv,Bool.and_true]
theorem Vc(w:ee):∀(l:List D3)(s:Int×Int),(∀x∈l,C4 w x=false)->(l.foldl (o6 w) s).1=s.1|[],s,_=>rfl|x::r,s,h=>by rw[List.foldl_cons,Vc w r _ (λy a=>h y (List.mem_cons_of_mem _ a))];unfold o6;rw[h x (List.mem_cons_self ..)];rfl
theorem Qx(w:ee):∀(l:List D3)(s:Int×Int),0<=s.2->s.2+(l.length:Int)<=1000000000->(l.foldl (o6 w) s).2=s.2+(l.length:Int)
 |[],s,_,_=>by simp|x::r,s,b,h=>by
  have a:(((x::r).length:Nat):Int)=(r.length:Int)+1:=by simp
  rw[a]at h;have e:(o6 w s x).2=s.2+1:=ed (by omega) (by omega);rw[List.foldl_cons,Qx w r _ (by rw[e];omega) (by rw[e];omega),e,a];omega
theorem Vd(w:ee){d c:List D3}(a:d.length<=1000000)(f:∀x∈c,C4 w x=false)(b:d=[]\/∃y x,d=y++[x]/\C4 w x=true):((d++c).foldl (o6 w) (0,0)).1=(d.length:Int):=by
 rw[List.foldl_append,Vc w c _ f];rcases b with rfl|⟨y,x,rfl,g⟩;·rfl
 · rw[List.foldl_append,List.foldl_cons,List.foldl_nil];rw[List.length_append]at a⊢;have e:=Qx w y (0,0) (Int.le_refl _) (by simp at a;show (0:Int)+_<=_;omega);unfold o6;rw[g];show cM .i64 (y.foldl (o6 w) (0,0)).2 1=_;rw[e];have :cM .i64 ((0:Int)+(y.length:Int)) 1=(y.length:Int)+1:=by rw[Int.zero_add];exact ed (by omega) (by simp at a;omega)
   rw[this];simp
theorem Od{R:Int}{w:ee}(g:BR R (ab w))(f:(ab w).length<=1000){b:an}(h:b∈ab w):Di b.1 0 (gS .i64 (w.2.2.2.2.1.length:Int) 1)=true/\bK w.2.2.2.2.1 b.1=some b:=by
 obtain⟨i,a,e⟩:=List.getElem_of_mem h;have c:=g.F2 i a;rw[e]at c;have d:i<w.2.2.2.2.1.length:=a;have j:w.2.2.2.2.1.length<=1000:=f;refine⟨?_,?_⟩;·rw[iz (by omega) (by omega)];exact gd.2 ⟨by omega,by omega⟩
 ·rw[c,cB d];exact congrArg some e
theorem Lm{R:Int}{w:ee}(d:BR R (ab w))(c:(ab w).length<=1000){b:an}(h:b∈ab w):C4 w (b.1,())=hu b:=by obtain⟨e,a⟩:=Od d c h;unfold C4;rw[e,a];rfl
theorem Sa{R:Int}{w:ee}(h:PW R w)(H:SW w)(p:KG w)(B:ct w.2.1)(i:(ab w).length<=1000){n:ao}(g:n∈aa w)(u:NW n):mb w n=true:=by
 have N:=H.nd n g;obtain⟨α,j,t⟩:=N.Ga;rw[<-u.pa]at t;have G:=h.Oa g (List.prefix_refl _) j;obtain⟨U,f,L,J⟩:=t.Xr G j.dr;obtain⟨X,e,s,F,I⟩:=h.bv0 g (bb n).length (bb n) _ _ _ rfl (List.prefix_refl _) j;have S:=u.v.dn.Rg;have o:Al (j9 n).length:=by unfold Al;omega
 obtain⟨m,V,O,_,Q⟩:=Lh w (j9 n) p o;have Z:(m:Int)=((fv X).length:Int):=by
  rw[<-Q,f,e];have T:(fv X).length<=(j9 n).length:=by rw[f,e,List.length_append];omega
  refine Vd w (by omega) (λx r=>?_) ?_
  · unfold fv at r;obtain⟨b,d,rfl⟩:=List.mem_map.1 r;have z:b∈ab w:=by
     rcases J with rfl|⟨q,l,a,W,k,rfl⟩;· cases d
     · exact (k.ch.dr b d).1
    rw[Lm h.bl i z];exact L b d
  · rcases I with rfl|⟨Y,c,rfl,C⟩;· exact .inl rfl
    · refine .inr ⟨fv Y,(c.1,()),by rw[Hz];rfl,?_⟩;rw[Lm h.bl i (s c (by simp))];exact C
 have A:m=(fv X).length:=by omega
 have v:List.take (Int.toNat (m:Int)-0) (List.drop 0 (j9 n))=fv X:=by rw[Int.toNat_natCast,Nat.sub_zero,List.drop_zero,f,e,A,List.take_left'];rfl
 obtain ⟨R',c,E,_,_,P⟩:=Lg w (fv X) p B (Nat.le_trans (m:=(j9 n).length) (by rw[f,e,List.length_append];omega) o);obtain ⟨K,M⟩:=P X rfl (λb d=>Od h.bl i (s b d));have D:R'=ft n:=K.trans F.symm;have y:mb w n=(c&&Js R' (n.2.2.1,(n.2.2.2.1,()))):=by unfold mb;rw[show Sj (w,((n.2.2.2.2.2.2.2.2.2.2.2.2.2.2.2.2.2.1,()),()))=some (I1 (m:Int)) from O];show (match OL (w,((List.take (Int.toNat (m:Int)-0) (List.drop 0 (j9 n)),()),())) with|some (R,((c,()),()))=>c&&Js R (n.2.2.1,(n.2.2.2.1,()))|none=>false)=_;rw[v,E]
 rw[y,M,D];exact R9 _
theorem Ve{R:Int}{bl:List an}{n:ao}(z:BR R bl)(h:NR R bl n)(a:NW n)(E:R<=9998)(F:bl.length<=200):Gf n=true:=by
 have d:=h.rd;have i:=h.vo;have c:=h.ld;have D:=a.pa;have B:=NJ z h a;have C:(j9 n).length<=bl.length:=by have :=FZ bl.length ((j9 n).map (λx=>x.1)) a.v.dn.nd (λx l=>by obtain⟨y,p,rfl⟩:=List.mem_map.1 l;exact h.kf y p);rwa[List.length_map]at this
 have A:gA (ft n).1 n.2.1=true:=Cr.2 a.v.ep.symm;have q:(!dO 0 (List.length (ar n):Int)||u9 (ar n))=true:=by
  rcases h.set with e|e;·rw[e];rfl
  ·rw[e,Bool.or_true]
 have k:KF (ag n) n.2.1=true:=by cases v:ag n with|nil=>rfl|cons b r=>exact Cr.2 (h.K6 b (by rw[v];exact List.mem_cons_self ..)).2
 have u:Di (ad n) 1 10000=true:=gd.2 ⟨d.1,by omega⟩;have t:dO (bx n).1 (ad n)=true:=Cp.2 h.hr;have s:dO (Fa n).1 (ad n)=true:=Cp.2 h.tr;have w:Di (fl n) 0 10000=true:=gd.2 ⟨i.1,by omega⟩;have o:Di (L5 n) 0 10000=true:=gd.2 ⟨c.1,by omega⟩;have m:km (List.length (ec n):Int) 1000=true:=Cq.2 (by have :=a.v.vo;omega);have g:km (List.length (ei n):Int) 1000=true:=Cq.2 (by have :=a.v.go;omega);have f:km (List.length (j9 n):Int) 200=true:=Cq.2 (by omega);have j:km (List.length (bb n):Int) 200=true:=Cq.2 (by omega);unfold Gf;rw[h.nm,a.v.Hg,A,h.kB,q,h.kA,k,u,t,s,w,o,h.hq,h.tq,m,g,f,j];rfl
theorem Sb{E S:Nat}{R:Int}{w:ee}(h:WI E S w)(a:WR R w)(s:R<=9998)(D:(ab w).length<=200):Em w=true:=by have G:bk (w.1,(w.2.1,()))=true:=h.Hg;have u:nx w.2.2.1=true:=a.fo;have H:(aa w).length<=12:=h.nl;have I:(gl w).length<=400:=h.nt;have r:km (w.2.2.2.1.length:Int) 12=true:=Cq.2 (by show ((aa w).length:Int)<=12;omega);have B:km (w.2.2.2.2.1.length:Int) 1000=true:=Cq.2 (by show ((ab w).length:Int)<=1000;omega);have A:km (w.2.2.2.2.2.2.1.length:Int) 400=true:=Cq.2 (by show ((gl w).length:Int)<=400;omega);have v:iK Ib 0 w.2.2.2.2.1=true:=ns (λi g=>by unfold Ib;have c:i<(ab w).length:=g;have d:gA ((ab w)[i]).1 ((0+i:Nat):Int)=true:=Cr.2 (by rw[Nat.zero_add];exact a.bl.F2 i c);have f:gq (ab w)[i]=true:=a.bl.kp _ (List.getElem_mem c);show (gA ((ab w)[i]).1 ((0+i:Nat):Int)&&gq (ab w)[i])=true;rw[d,f];rfl);have C:iK (EW w) 0 w.2.2.2.1=true:=ns (λi g=>by
 have c:i<(aa w).length:=g;have e:=List.getElem_mem c;have q:=a.nd _ e;have d:=Ve a.bl q (h.nd _ e).1 s D;have f:ke w.2.2.1 ((aa w)[i]).1=false:=a.nm.nf _ e;have x:lO (λz y=>ob z.1 y.1) w.2.2.2.1 (0+i) (aa w)[i]=true:=by rw[Nat.zero_add];cases i with|zero=>rfl|succ j=>
  have p:j<(aa w).length:=by omega
  rw[show lO (λ(z y:ao)=>ob z.1 y.1) w.2.2.2.1 (j+1) (aa w)[j+1]=ob ((aa w)[j]).1 ((aa w)[j+1]).1 from mz (lt:=λ(z y:ao)=>ob z.1 y.1) (xs:=aa w) p];exact a.nm.up j (j+1) p c (Nat.lt_succ_self j)
 have F:(ag (aa w)[i]).all (w6 w.2.2.2.2.1)=true:=List.all_eq_true.2 (λb k=>NK a.bl (q.K6 b k).1);unfold EW;show (Gf (aa w)[i]&&(!ke w.2.2.1 ((aa w)[i]).1&&(lO (λz y=>ob z.1 y.1) w.2.2.2.1 (0+i) (aa w)[i]&&(ag (aa w)[i]).all (w6 w.2.2.2.2.1))))=true;rw[d,f,x,F];rfl);have t:w.2.2.2.2.2.2.1.all (Ia w)=true:=List.all_eq_true.2 (λm e=>by have l:m∈gl w:=e;have o:=a.As m l;have d:w.2.2.2.1.any (λn=>ko n.1 m.2.1)=true:=(h.nm m l).2;have f:(n6 m).all (w6 w.2.2.2.2.1)=true:=List.all_eq_true.2 (λb k=>NK a.bl (o.bs b k));unfold Ia;rw[o.ok,d,f];rfl);unfold Em;rw[G,u,r,B,A,v,C,t];rfl
theorem Z0{E S:Nat}{R:Int}{w:ee}(h:WI E S w)(c:WR R w):KG w:=by have a:(aa w).length<=12:=h.nl;have b:(gl w).length<=400:=h.nt;refine⟨?_,h.Ic,h.fo,Dk (Nat.le_trans a (by decide)) (λn d=>(h.nd n d).1.v.h.ok),h.bo,h.so,Dk (Nat.le_trans b (by decide)) (λm e=>(h.nm m e).1.ok),trivial⟩;rw[c.b0];rfl
theorem Vf{w:ee}(h:AS w):yr (hH w)=true:=by
 unfold yr;refine ns (λi d=>ns (λj g=>?_));have c:j<(hH w).length:=by rw[List.length_take]at g;omega
 rw[List.getElem_take];cases a:l6 (hH w)[i] (hH w)[j]with|false=>rfl|true=>exfalso;unfold l6 at a;simp only[Bool.and_eq_true,Bool.not_eq_true',Cr,n7]at a;obtain⟨l,k,m,e,f,b⟩:=a;have :=h.Hr _ (List.getElem_mem d) _ (List.getElem_mem c) l k m e f;simp only[gA,decide_eq_false_iff_not]at b;exact b this
theorem Sc{E S:Nat}{w:ee}(h:WI E S w):va (fk w).2.1=[]\/u9 (va (fk w).2.1)=true:=by have a:=h.Hg;unfold bk at a;simp only[Bool.and_eq_true]at a;exact N0 a.2
theorem PW.of{E S:Nat}{R:Int}{w:ee}(h:WI E S w)(f:WR R w)(u:AS w)(B:SW w)(A:VW w)(a:J2 w=true):PW R w:=by
 have m:=Sc h;unfold J2 at a;simp only[Bool.and_eq_true]at a;have e:o0 (fk w)=va (fk w).2.1:=by unfold o0;rw[h.Hg];rfl
 rw[e]at a;refine⟨f.bl,A,u,m,(Oc m).1 a.1,λn q p t b r l=>?_⟩;obtain⟨i,z,rfl⟩:=List.getElem_of_mem q;have g:=xJ a.2 i z;unfold Gn at g;simp only[Bool.and_eq_true]at g;obtain⟨j,o,rfl⟩:=List.getElem_of_mem t;have x:=xJ g.2 j o;obtain⟨k,y,rfl⟩:=List.getElem_of_mem r;have d:=xJ x k y;unfold sv at d;rw[l]at d;have v:=f.nd _ q;have s:=((v.eD j _ (List.getElem?_eq_getElem o)).bs _ r).1;have c:=(Mm (f.bl.kp _ s)).bo;unfold Jb at c;rw[l]at c;simp only[cond_true,Bool.and_eq_true]at c;exact (Oc (.inr c.1)).1 d
theorem L_Top(b:List D5):F3 ((b,()),())=some ((true,()),()):=by unfold F3;refine bw (show F7 ((b,()),())=some (B1 (dO 1048576 (List.length b:Int)))from rfl) ?_;cases D:dO (1048576:Int) (List.length b:Int)with|true=>rfl|false=>
 have N:=Au.1 D;obtain⟨I,J,fs,e,bF,K,L,M,a⟩:=Xs b (by omega);refine uN rfl (bw J ?_);obtain⟨w,u⟩:=I;have a:DI fs e bF K w:=a;have g:(hH w).length<=1048576:=Nat.le_trans a.wi.sl (by omega);have j:Al (df w).length:=by have :(df w).length<=20:=a.wi.Vr;unfold Al;omega
 have h:Al (aa w).length:=by have :(aa w).length<=12:=a.wi.nl;unfold Al;omega
 have i:(aa w).length<=1048576:=by have :(aa w).length<=12:=a.wi.nl;omega
 have t:∀y∈aa w,X0 y:=λy f=>X0.of (a.wi.nd y f).1.v.h;have F:(ab w).length<=200:=Nat.le_trans a.bl (by omega);have G:(14*(K:Int))<=9998:=by omega
 have c:=Z0 a.wi a.wr;have B:=Vf a.Hr;have E:=ZZ w j h t a.wi.HV.1 a.wi.Ic;have p:=ZY w j h t a.wi.HV.1 a.wi.Ic;refine bw E ?_;cases q:J2 w with|false=>rw[q]at p;refine cl rfl (bw p ?_);refine cl rfl (bw (H4 w g) ?_);show (some ((yr (hH w),()),()):Option ((Bool×Unit)×Unit))=_;rw[B]|true=>
 have k:=PW.of a.wi a.wr a.Hr a.sw a.vw q;have l:=Sb a.wi a.wr G F;have m:=Xu k (λn d=>(a.wi.nd n d).1) a.sw;have o:(aa w).all (mb w)=true:=List.all_eq_true.2 (λn d=>Sa k a.sw c a.wi.HV (by omega) d (a.wi.nd n d).1);obtain⟨r,A⟩:=R6 w c a.wi.HV g i;have C:J1 (Em w) (yr w.2.2.2.2.2.1) (y0 w.2.2.2.1) (w.2.2.2.1.all (mb w))=0:=by rw[l,show yr w.2.2.2.2.2.1=true from B,show y0 w.2.2.2.1=true from m,show w.2.2.2.1.all (mb w)=true from o];rfl
 rw[C]at r A;have H:∀y∈w.2.2.2.1,(fa y).length<=9223372036854775807:=λy f=>by have O:=(a.wi.nd y f).1.v.dn.Rg;show (j9 y).length<=_;omega
 have z:=L7 w c;have s:=Ps w i H;have x:=HB w c a.wi.HV;rw[l]at z;rw[show y0 w.2.2.2.1=true from m]at s;rw[show w.2.2.2.1.all (mb w)=true from o]at x;refine uN rfl (bw A (cl rfl (bw r (cl rfl (bw z (cl rfl (bw s (cl rfl (bw x rfl)))))))))
end Go.Proofs.YthjkikiepdnimaaGreat
