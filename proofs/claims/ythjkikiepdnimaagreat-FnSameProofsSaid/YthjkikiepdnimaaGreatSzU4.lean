/- Plain laws, part 4: what the program's functions and the reference's compute, told as plain words. Conditions: none. -/
import Derived.Test.YthjkikiepdnimaaGreatSzU3
set_option linter.unusedVariables false
set_option linter.unusedSimpArgs false
set_option linter.constructorNameAsVariable false
namespace Go.Proofs.YthjkikiepdnimaaGreat
open Go Go.Tm
set_option maxRecDepth 100000
section
variable{fs:List Int}{e:Bool}{an:List D9}
theorem IU{S:Nat}{R:Int}{B:Nat}{w:ek}(h:DJ fs e an S R B w)(α:fs.length<=4)(hS:S+25000<=900000)(Z:B<=889):Y (FX (w,())) (λy=>DJ fs e an (S+25000) R B y.1):=by
 have hN:=SD (e:=e) (an:=an) α;unfold FX;refine Y.DZ (P:=λ(v:Int×ek)=>DJ fs e an (S+25000) R B v.2) (R:=λ_=>False) (Y.loop (I:=λ(v:Int×ek)=>0<=v.1/\v.1<=(K2 fs e an:Int)/\DJ fs e an (S+5000*v.1.toNat) R B v.2) (λv=>((K2 fs e an:Int)-v.1).toNat) (λv c=>?_) _ ⟨Int.le_refl _,Int.natCast_nonneg _,h⟩) (λv c=>Y.mk c) (λ_ h=>h.elim);obtain ⟨k,w⟩:=v;obtain ⟨M,θ,m⟩:=c;dsimp only at M θ m;have o:=m.K4;unfold FX.b0;refine Y.DY (λx=>?_) (λ_=>Y.rl (m.up (by omega) (Int.le_refl _) (Nat.le_refl _)));have x:k<((aa w).length:Int):=Cp.1 x;rw[o]at x;have e1:cM .i64 k 1=k+1:=ed (by omega) (by omega);generalize ψ:S+5000*k.toNat=C at m;refine Y.DZ (P:=λ(v:Int×ek)=>DJ fs e an (C+5000) R B v.2) (R:=SE (λ_=>False) (λ_=>False)) (Y.loop (I:=λ(v:Int×ek)=>0<=v.1/\v.1<=(K2 fs e an:Int)/\DJ fs e an (C+900*v.1.toNat) R B v.2) (λv=>((K2 fs e an:Int)-v.1).toNat) (λv c=>?_) _ ⟨Int.le_refl _,Int.natCast_nonneg _,m⟩) (λv c=>Y.l ⟨⟨?_,?_,?_⟩,?_⟩) (λr h=>?_)
 · obtain ⟨i,w⟩:=v;obtain ⟨K,W,j⟩:=c;dsimp only at K W j;have o:=j.K4;unfold FX.b1;refine Y.DY (λz=>?_) (λ_=>Y.rl (j.up (by omega) (Int.le_refl _) (Nat.le_refl _)));have z:i<((aa w).length:Int):=Cp.1 z;rw[o]at z;have e2:cM .i64 i 1=i+1:=ed (by omega) (by omega);generalize σ:C+900*i.toNat=t at j;obtain ⟨a,p⟩:=Int.eq_ofNat_of_zero_le M;obtain ⟨s,D⟩:=Int.eq_ofNat_of_zero_le K;refine Y.DZ (P:=λ(v:Bool×ek)=>DJ fs e an (t+900) R B v.2) (R:=SE (λ_=>False) (SE (λ_=>False) (SE (λ_=>False) (λ_=>False)))) (Y.loop (I:=λ(v:Bool×ek)=>∃T:Nat,DJ fs e an T R B v.2/\T<=t+900/\(v.1=true->∀n,(aa v.2)[a]?=some n->(T:Int)+(890-n.2.1)<=(t:Int)+890)) (λv=>match v.1 with|false=>0|true=>match (aa v.2)[a]? with|some n=>(891-n.2.1).toNat|none=>0) (λv c=>?_) _ ⟨t,j,by omega,λ_ n b=>?_⟩) (λv c=>Y.l ⟨⟨?_,?_,?_⟩,?_⟩) (λr h=>?_)
   · obtain ⟨β,w⟩:=v;obtain ⟨T,d,L,H⟩:=c;dsimp only at d L H;have o:=d.K4;unfold FX.b2;refine Y.DY (λu=>?_) (λ_=>Y.rl (d.up L (Int.le_refl _) (Nat.le_refl _)));have u:β=true:=u;subst u;have f:a<(aa w).length:=by omega
     have q:s<(aa w).length:=by omega
     have G:bK (aa w) k=some (aa w)[a]:=by rw[p];exact cB f
     have F:aC (aa w) (Int.toNat k)=some (aa w)[a]:=by rw[p];exact qn f
     have Q:bK (aa w) i=some (aa w)[s]:=by rw[D];exact cB q
     have l:aC (aa w) (Int.toNat i)=some (aa w)[s]:=by rw[D];exact qn q
     obtain ⟨κ,_⟩:=d.wi.nd _ (List.getElem_mem q);obtain ⟨N,ρ⟩:=d.wi.nd _ (List.getElem_mem f);have ht:=H rfl _ (List.getElem?_eq_getElem f);have ab:=N.e0;refine Y.eq G (Y.eq F (Y.eq Q (Y.eq l (Y.eq G (Y.eq F (Y.eq l (Y.eq l (Y.eq l (Y.eq l (Y.eq (LU (aa w)[s] (aa w)[a].2.1 (aa w)[a].1 κ.v.h) ?_))))))))));refine Y.DZ (P:=λv=>DJ fs e an (T+1) R B v/\∀n,(aa v)[a]?=some n->(aa w)[a].2.1<=n.2.1) (R:=λ_=>False) (Y.DY (λU=>?_) (λ_=>Y.l ⟨d.up (Nat.le_succ _) (Int.le_refl _) (Nat.le_refl _),λn b=>?_⟩)) (λv c=>?_) (λ_ h=>h.elim);· obtain ⟨J,X,μ⟩:=d.Gv (by omega) Z q f U;exact Y.eq (KS d.wi (by decide) (by omega) J X) (Y.l ⟨μ,λn b=>SF d.wi (by decide) J (List.getElem?_eq_getElem f) b⟩)
     · grind
     · obtain ⟨A,δ⟩:=c;have ω:=A.K4;have g:a<(aa v).length:=by omega
       have O:bK (aa v) k=some (aa v)[a]:=by rw[p];exact cB g
       have V:aC (aa v) (Int.toNat k)=some (aa v)[a]:=by rw[p];exact qn g
       have τ:=δ _ (List.getElem?_eq_getElem g);obtain ⟨φ,π⟩:=A.wi.nd _ (List.getElem_mem g);refine Y.eq O (Y.eq V (Y.l ⟨⟨T+1,A,by omega,λE n b=>?_⟩,?_⟩))
       · have b:(aa v)[a]?=some n:=b;rw[List.getElem?_eq_getElem g]at b;cases b;have E:gA (aa v)[a].2.1 (aa w)[a].2.1=false:=by grind
         have :=CN.1 E;omega
       · show (match !gA (aa v)[a].2.1 (aa w)[a].2.1 with|false=>0|true=>match (aa v)[a]? with|some n=>(891-n.2.1).toNat|none=>0)<(match (aa w)[a]? with|some n=>(891-n.2.1).toNat|none=>0);rw[List.getElem?_eq_getElem f,List.getElem?_eq_getElem g];dsimp only;cases ε:gA (aa v)[a].2.1 (aa w)[a].2.1 with|true=>grind|false=>have :=CN.1 ε;grind
   · have b:(aa w)[a]?=some n:=b;have γ:=List.mem_of_getElem? b;have :=(j.wi.nd _ γ).1.e0;omega
   · grind
   · grind
   · grind
   · grind
   · rcases r with r|r|r|r<;>exact h.elim
 · grind
 · grind
 · grind
 · grind
 · rcases r with r|r<;>exact h.elim
end
section
variable{fs:List Int}{e:Bool}{an:List D9}
theorem UH{S:Nat}{R:Int}{B:Nat}{w:ek}(h:DJ fs e an S R B w)(t:fs.length<=4)(τ:S+60000<=900000)(σ:B+5<=889)(φ:R+10<=9990):Y (GO (w,())) (λy=>DJ fs e an (S+60000) (R+10) (B+5) y.1):=by
 have ω:=SD (e:=e) (an:=an) t;unfold GO;refine Y.bind (K3 h (by omega) (by omega)) λρ L=>Y.bind (IU L t (by omega) (by omega)) λO o=>?_;obtain⟨m,π⟩:=O;have o:DJ fs e an (S+3000+25000) R B m:=o;have T:=o.K4;refine Y.DZ (P:=λ(v:List D3×(List D3×(Int×Unit)))=>v.1.length=K2 fs e an/\v.2.1.length=K2 fs e an) (R:=λ_=>False) (Y.loop (I:=λ(v:List D3×(List D3×(Int×Unit)))=>0<=v.2.2.1/\v.2.2.1<=(K2 fs e an:Int)/\(v.1.length:Int)=v.2.2.1/\(v.2.1.length:Int)=v.2.2.1) (λv=>((K2 fs e an:Int)-v.2.2.1).toNat) (λv b=>?_) _ ⟨Int.le_refl _,Int.natCast_nonneg _,rfl,rfl⟩) (λN Q=>?_) (λ_ h=>h.elim)
 · obtain ⟨r,s,i,ab⟩:=v;obtain ⟨c,n,a,J⟩:=b;dsimp only at c n a J;unfold GO.b0;refine Y.DY (λd=>?_) (λx=>Y.rl ?_)
   · have d:i<((aa m).length:Int):=Cp.1 d;have U:i<(K2 fs e an:Int):=by omega
     have z:cM .i64 i 1=i+1:=ed (by omega) (by omega);refine Y.Eb (xs:=aa m) c d λκ _=>Y.dE (by grind) (by decide) (by decide) (Y.Eb (xs:=aa m) c d λx5 _=>Y.dE (by grind) (by decide) (by decide) (Y.l ⟨⟨?_,?_,?_,?_⟩,?_⟩));· grind
     · grind
     · show ((r++[_]).length:Int)=cM .i64 i 1;grind
     · show ((s++[_]).length:Int)=cM .i64 i 1;grind
     grind
   · have x:((aa m).length:Int)<=i:=Au.1 x;grind
 obtain ⟨r,s,ψ,μ⟩:=N;obtain ⟨H,M⟩:=Q;dsimp only at H M;generalize γ:S+3000+25000=f at o;refine Y.DZ (P:=λ(v:Int×ek)=>DJ fs e an (f+5) (R+5) (B+5) v.2) (R:=λ_=>False) (Y.loop (I:=λ(v:Int×ek)=>0<=v.1/\v.1<=(K2 fs e an:Int)/\DJ fs e an (f+v.1.toNat) (R+v.1) (B+v.1.toNat) v.2) (λv=>((K2 fs e an:Int)-v.1).toNat) (λv b=>?_) _ ⟨Int.le_refl _,Int.natCast_nonneg _,o.up (Nat.le_refl _) (by omega) (Nat.le_refl _)⟩) (λv b=>?_) (λ_ h=>h.elim)
 · obtain ⟨i,w⟩:=v;obtain ⟨c,n,a⟩:=b;dsimp only at c n a;have A:=a.K4;unfold GO.b1;refine Y.DY (λd=>?_) (λ_=>Y.rl (a.up (by omega) (by omega) (by omega)));have d:i<((aa w).length:Int):=Cp.1 d;have z:cM .i64 i 1=i+1:=ed (by omega) (by omega);obtain ⟨g,p⟩:=Int.eq_ofNat_of_zero_le c;have l:g<(aa w).length:=by omega
   have δ:=a.bl;have k:=N8 a.wi (by decide) (by omega) l (by omega);rw[<-p]at k;refine Y.eq k (Y.l ⟨⟨?_,?_,?_⟩,?_⟩);· grind
   · grind
   · show DJ fs e an (f+(cM .i64 i 1).toNat) (R+cM .i64 i 1) (B+(cM .i64 i 1).toNat) (Fp w g (aa w)[g]);exact (a.Jx (by omega) (by omega) l).up (by omega) (by omega) (by omega)
   grind
 obtain ⟨i8,K⟩:=v;have b:DJ fs e an (f+5) (R+5) (B+5) K:=b;refine Y.bind (K3 b (by omega) (by omega)) λC q=>?_;obtain ⟨G,X⟩:=C;have q:DJ fs e an (f+5+3000) (R+5) (B+5) G:=q;refine Y.DZ (P:=λ(v:Int×ek)=>DJ fs e an (f+5+3000+5) (R+5+5) (B+5) v.2) (R:=λ_=>False) (Y.loop (I:=λ(v:Int×ek)=>0<=v.1/\v.1<=(K2 fs e an:Int)/\DJ fs e an (f+5+3000+v.1.toNat) (R+5+v.1) (B+5) v.2) (λv=>((K2 fs e an:Int)-v.1).toNat) (λv b=>?_) _ ⟨Int.le_refl _,Int.natCast_nonneg _,q.up (Nat.le_refl _) (by omega) (Nat.le_refl _)⟩) (λv b=>?_) (λ_ h=>h.elim)
 · obtain ⟨i,w⟩:=v;obtain ⟨c,n,a⟩:=b;dsimp only at c n a;have A:=a.K4;unfold GO.b2;refine Y.DY (λd=>?_) (λ_=>Y.rl (a.up (by omega) (by omega) (by omega)));have d:i<((aa w).length:Int):=Cp.1 d;have z:cM .i64 i 1=i+1:=ed (by omega) (by omega);obtain ⟨g,p⟩:=Int.eq_ofNat_of_zero_le c;have l:g<(aa w).length:=by omega
   have k:=L5 a.wi (by decide) (by omega) l;rw[<-p]at k;have u:SE (λj:Int×ek=>(0<=j.1/\j.1<=(K2 fs e an:Int)/\DJ fs e an (f+5+3000+j.1.toNat) (R+5+j.1) (B+5) j.2)/\((K2 fs e an:Int)-j.1).toNat<((K2 fs e an:Int)-i).toNat) (SE (λ(v:Int×ek)=>DJ fs e an (f+5+3000+5) (R+5+5) (B+5) v.2) (λ_:ek×Unit=>False)) (Sum.inl (cM .i64 i 1,w)):=⟨⟨by omega,by omega,a.up (by omega) (by omega) (Nat.le_refl _)⟩,by omega⟩;refine Y.Eb (xs:=aa w) c d λZ _=>Y.Eb (xs:=r) c (by omega) λV _=>Y.DY (λ_=>Y.Eb (xs:=aa w) c d λθ _=>Y.Eb (xs:=s) c (by omega) λα _=>Y.DY (λ_=>Y.eq k (Y.l ⟨⟨?_,?_,?_⟩,?_⟩)) (λ_=>Y.mk u)) (λ_=>Y.mk u);· grind
   · grind
   · show DJ fs e an (f+5+3000+(cM .i64 i 1).toNat) (R+5+cM .i64 i 1) (B+5) (B5 w g (aa w)[g]);exact (a.Fq (by omega) (by omega) (by omega) l).up (by omega) (by omega) (Nat.le_refl _)
   grind
 obtain ⟨β,D⟩:=v;have b:DJ fs e an (f+5+3000+5) (R+5+5) (B+5) D:=b;refine Y.bind (K3 b (by omega) (by omega)) λε F=>Y.bind (IU F t (by omega) (by omega)) λW E=>Y.mk ?_;exact E.up (by omega) (by omega) (Nat.le_refl _)
end
theorem UI(b:List D5)(m:Int)(e:List.length b<=1048576)(d:3<=m):Y (ZI ((b,()),((m,()),()))) (λy=>3<=y.1.1/\y.1.1<=m):=by
 unfold ZI;refine Y.ff rfl ?_;have a:AV .i64 (List.length b:Int) (12:Int)=((List.length b/12:Nat):Int):=by unfold AV;have :((List.length b:Int).tdiv 12)=((List.length b/12:Nat):Int):=rfl;rw[this,nU (by omega) (by omega)]
 have c:cM .i64 (3:Int) ((List.length b/12:Nat):Int)=3+((List.length b/12:Nat):Int):=ed (by omega) (by omega);dsimp only;rw[a,c];refine Y.DY (λ_=>Y.mk ⟨d,Int.le_refl _⟩) (λh=>Y.mk ?_);have h:3+((List.length b/12:Nat):Int)<=m:=by have :=Au.1 h;omega
 grind
theorem ZF(c:Nh)(b:List D5)(s:vc c)(m:List.length b<=1048576):Y (VR (c,((b,()),()))) (λy=>∃fs e an,(fs.length<=4/\(∀f∈fs,f=3\/f=20))/\DJ fs e an 560020 370 65 y.1/\vc y.2.1):=by
 unfold VR;refine Y.bind (UI b 20 m (by decide)) λp r=>?_;obtain⟨G,J⟩:=r;refine Y.bind (UF c p.1.1 s ⟨by omega,by omega⟩) λt x=>?_;obtain ⟨fs,e,an,K,k,C,n,A,D⟩:=x;refine Y.bind (JM _ _ A (by simp)) λa o=>?_;obtain ⟨H,z,E⟩:=o;have l:0<=a.1.1/\a.1.1<=9:=by grind
 have q:DJ fs e an (20+60000*(9-a.1.1).toNat) (280+10*(9-a.1.1)) (20+5*(9-a.1.1).toNat) t.1:=n.dj.up (by omega) (by omega) (by omega);refine Y.DZ (P:=λ(v:Int×ek)=>DJ fs e an 560020 370 65 v.2) (R:=λ_=>False) (Y.loop (I:=λ(v:Int×ek)=>0<=v.1/\v.1<=9/\DJ fs e an (20+60000*(9-v.1).toNat) (280+10*(9-v.1)) (20+5*(9-v.1).toNat) v.2) (λv=>v.1.toNat) (λv d=>?_) _ ⟨l.1,l.2,q⟩) (λv d=>Y.mk ⟨fs,e,an,k,d,z⟩) (λ_ h=>h.elim);obtain ⟨i,w⟩:=v;obtain ⟨B,u,g⟩:=d;dsimp only at B u g;unfold VR.b0;refine Y.DY (λj=>?_) (λ_=>Y.rl (g.up (by omega) (by omega) (by omega)));have j:0<i:=Cp.1 j;have M:gS .i64 i 1=i-1:=iz (by omega) (by omega);refine Y.bind (UH g k.1 (by omega) (by omega) (by omega)) λL F=>Y.l ⟨⟨?_,?_,?_⟩,?_⟩;·grind
 ·grind
 ·grind
 grind
theorem SG(a:List D5)(b:List.length a<=1048576):Y (ZN ((a,()),())) (λy=>∃fs e an,(fs.length<=4/\(∀f∈fs,f=3\/f=20))/\DJ fs e an 560020 370 65 y.1):=by unfold ZN;refine Y.bind (Zm a b) λd c=>Y.bind (ZF d.1 a c.1 b) λg h=>Y.mk ?_;grind
theorem j6.aW7{R:Int}{bl:List ao}{G:fv->Prop}{S:List ds}{n k:Int}{l:List ao}(e:BR R bl)(h:j6 bl G S n k l):∀(i:Nat)(f:i+1<l.length),(ia l[i+1]).2.1=l[i].1/\(ia l[i+1]).1=l[i].2.2.1/\uf S (ia l[i+1])=true:=by induction h with|G0 k h=>grind|dp b l y u d t z=>
 intro i f;have x:i<l.length:=by grind
 rcases Nat.lt_or_ge (i+1) l.length with q|q;·grind
 · rcases List.eq_nil_or_concat l with h|⟨a,c,h⟩;· grind
   · rw[List.concat_eq_append]at h;subst h;have m:i=a.length:=by grind
     subst m;obtain⟨j,g,_⟩:=t.UG;have v:((a++[c])++[b])[a.length+1]'f=b:=by simp
     have r:((a++[c])++[b])[a.length]'(by simp)=c:=by simp
     rw[v,r];rcases d with d|⟨p,w,s,o⟩;· have :=(p5 d).2.1;have :=(e.lt g).1;omega
     · have :=e.Fg w g (s.trans j.symm);subst this;exact⟨j.symm,o.symm,u.qc⟩
theorem OD{R:Int}{bl:List ao}{G:fv->Prop}{S:List ds}{f:Int}{q:j8}{l:List ao}{a b:ao}(e:BR R bl)(h:On bl G S f q l a b)(g:S=[]\/pv S=true):pv S=true:=by
 rcases g with rfl|d
 · exfalso;have c:=h.qc;unfold uf at c;simp only[Bool.or_eq_true,Bool.and_eq_true]at c;rcases c with c|c;· have d:=(p5 c).2.1;have i:=(e.lt h.Zz).1;have j:=h.id;omega
   · have d:mw ([]:List ds) q.2.2.1=false:=rfl;grind
 omega
theorem IV{R:Int}{bl:List ao}{G:fv->Prop}{S:List ds}{k:Nat}{q:j8}{l:List ao}{a b:ao}{p:List ao}{c:ao}{r:List ao}(g:BR R bl)(y:pv S=true)(K:k<=890)(h:On bl G S (k:Int) q l a b)(v:l++[a]=p++c::r)(L:fi c=true)(J:∀x∈p,fi x=false):kr ((k:Int),(S,())) ((k:Int),((l++[a])++[b],(q.1,(q.2.1,(q.2.2.1,())))))=(((((k+1:Nat):Int),(j9 c,())),((true,()),())):I3×((Bool×Unit)×Unit)):=by
 have u:=h.ch.UG;have f:j6 bl G S (k:Int) b.1 ((l++[a])++[b]):=.dp b _ h.Zz h.ba (.inr ⟨a,u.2.1,h.ME.symm,h.WZ.symm⟩) (by rw[h.ME];exact h.ch);have o:=f.dr;have m:=f.aW7 g;have H:=KU h.qc;have N:cM .i64 (k:Int) 1=((k+1:Nat):Int):=wG (n:=1000) (by omega) (by omega);have e:((l++[a])++[b]).length=l.length+2:=by simp
 have E:rm ((k:Int),(S,())) ((k:Int),((l++[a])++[b],(q.1,(q.2.1,(q.2.2.1,())))))=true:=by
  unfold rm;rw[Bool.and_eq_true,Bool.and_eq_true,Bool.and_eq_true,Bool.and_eq_true];refine ⟨y,Cr.2 rfl,?_,?_,?_⟩;·have :dO (((l++[a])++[b]).length:Int) 2=false:=Au.2 (by omega);grind
  ·unfold Lw;refine wc (λi d=>?_);have d:i<((l++[a])++[b]).length:=d;obtain ⟨B,z⟩:=o _ (List.getElem_mem d);show H8 (k:Int) S ((l++[a])++[b]) (0+i) ((l++[a])++[b])[i]=true;unfold H8;rw[Bool.and_eq_true,Bool.and_eq_true,Nat.zero_add];refine ⟨g.kp _ B,Cr.2 z.eq,?_⟩;match i,d with|0,_=>rfl|j+1,d=>obtain ⟨D,F,t⟩:=m j d;rw[mz (by omega),Bool.and_eq_true,Bool.and_eq_true];exact ⟨Cr.2 D,Cr.2 F,t⟩
  · unfold QY;have s:(i5 ((k:Int),((l++[a])++[b],(q.1,(q.2.1,(q.2.2.1,()))))))=(l++[a])++[b]:=rfl;rw[s,e];have w:((l++[a])++[b])[l.length+2-1]?=some b:=by simp
    have C:((l++[a])++[b])[l.length+2-2]?=some a:=by simp
    rw[w,C];dsimp only;have A:=h.rd;have I:=h.ard;rw[Bool.and_eq_true,Bool.and_eq_true,Bool.and_eq_true];refine ⟨Cr.2 ?_,h.qc,Cr.2 A.symm,Cr.2 h.id.symm⟩;rw[ed (by omega) (by omega)];omega
 unfold kr;rw[E];have M:(((l++[a])++[b]).take (((l++[a])++[b]).length-1)).find? (λb=>fi b)=some c:=by rw[e,List.take_append_of_le_length (by simp)];rw[List.take_of_length_le (by simp),v];grind
 grind
theorem OE{b:List tB}(h:∀(k:Nat)(p:tB),b[k]?=some p->p.1=(k:Int))(m:Nat):b.find? (λp=>gA p.1 (m:Int))=b[m]?:=by
 rcases Nat.lt_or_ge m b.length with a|a;·rw[List.getElem?_eq_getElem a];rw[List.find?_eq_some_iff_getElem];refine⟨Cr.2 (h m _ (List.getElem?_eq_getElem a)),m,a,rfl,λj c=>?_⟩;have :=h j _ (List.getElem?_eq_getElem (Nat.lt_trans c a));rw[Bool.not_eq_true',CN];omega
 ·rw[List.getElem?_eq_none a,List.find?_eq_none];intro p d;obtain⟨j,c,rfl⟩:=List.getElem_of_mem d;have :=h j _ (List.getElem?_eq_getElem c);intro e;have :=Cr.1 e;omega
theorem P4(xs:List ds)(b:Al xs.length):TG ((xs,()),((xs,()),()))=some (B1 true):=by unfold TG;refine uN (by simp_all[gA,ds,Cr]) ?_;have c:=cK (f:=TG.b0 ((xs,()),((xs,()),()))) (λk=>((k:Int),())) xs.length (e:=Sum.inl ((xs.length:Int),())) (λk a=>by unfold TG.b0;refine uL (Int.ofNat_lt.2 a) (bw (cB a) (bw (cB a) ?_));rw[<-wG (n:=xs.length) a b];exact uN (by rw[xD,Cr.2 rfl];rfl) rfl) (by unfold TG.b0;exact uM (Int.le_refl _) rfl);grind
theorem IW{E S:Nat}{w:ek}(h:WI E S w):k8 (ev w).2.1=[]\/pv (k8 (ev w).2.1)=true:=by have :=h.Gj;unfold bm at this;simp only[Bool.and_eq_true]at this;exact IS this.2
def GF(xs:List ds)(an:List D9):Bool:=dO (zJ .i64 3 (FE xs an)) (H5 xs)
theorem MC{S:List ds}{an:List D9}(h:S=[]\/pv S=true):GF S an=true↔Fv an S:=by obtain⟨a,d⟩:=l5 h;have c:=El (p:=j0 an) (S:=S) (λv b=>(a v b).2);unfold GF Fv;rw[Cp,J4 h,Mw h,Ar (by omega) (by omega)]
def u9(an:List D9)(b:ao):Bool:=bif fi b then GF (j9 b) an else true
def Hp(an:List D9)(y:a0):Bool:=GF (bb y) an&&iK (λ_ p=>iK (λ_ b=>u9 an b) 0 (i5 p)) 0 (bk y)
def IX(w:ek):Bool:=GF (mo (ev w)) (c8 w)&&iK (λ_ y=>Hp (c8 w) y) 0 (aa w)
theorem Nx(xs:List ds)(an:List D9)(a:Al xs.length)(b:Al an.length):Xf ((xs,()),((an,()),()))=some (B1 (GF xs an)):=by unfold Xf;exact bw (Lq xs an a b) (bw (NC xs a) rfl)
theorem Ny(w:ek)(xs:List ds)(a:Al xs.length)(b:Al (c8 w).length):Xe (w,((xs,()),()))=some (B1 (GF xs (c8 w))):=by unfold Xe;exact bw (Lr xs (c8 w) a b) (bw (ND xs a) rfl)
structure Vd(y:a0):Prop where
 s:Al (bb y).length
 p:Al (bk y).length
 b:∀p∈bk y,Al (i5 p).length/\∀b∈i5 p,Al (List.length (j9 b))
theorem Vd.of{n:a0}(h:I4 n):Vd n:=by have l:=h.l;refine⟨Nat.le_trans l.2.1 (by decide),Nat.le_trans l.2.2.2.2.2.2.2.2.2.2.2.1 (by decide),λp c=>?_⟩;have a:B0 p:=l.2.2.2.2.2.2.2.2.2.2.2.2 p c;exact⟨Nat.le_trans a.1 (by decide),λb d=>Nat.le_trans (a.2.1 b d).2.2.2.2 (by decide)⟩
theorem UJ(w:ek)(f:Al (c8 w).length)(a:a0)(i:Nat)(d:i<(bk a).length)(e:Al (i5 (bk a)[i]).length)(g:∀b∈i5 (bk a)[i],Al (List.length (j9 b))):aR (I2.b2 a ((i:Int),()) (w,())) ((0:Int),())=some (bif iK (λ_ b=>u9 (c8 w) b) 0 (i5 (bk a)[i]) then Sum.inl (((i5 (bk a)[i]).length:Int),()) else Sum.inr (.inr (.inr (.inr (.inr (B1 false)))))):=by
 refine yW (S:=Int×Unit) (i5 (bk a)[i]) (λ_ b=>u9 (c8 w) b) (λk=>(k,())) _ _ (λk c=>?_) ?_;·unfold I2.b2;refine bw (cB (xs:=bk a) d) (uL (Int.ofNat_lt.2 c) (bw (cB (xs:=bk a) d) (bw (cB (xs:=i5 (bk a)[i]) c) ?_)));rw[<-wG c e];unfold u9;show (bif fi (i5 (bk a)[i])[k]then _ else _)=_;cases fi (i5 (bk a)[i])[k]with|false=>rfl|true=>refine bw (Nx (j9 (i5 (bk a)[i])[k]) (c8 w) (g _ (List.getElem_mem c)) f) ?_;grind
 ·unfold I2.b2;exact bw (cB (xs:=bk a) d) (uM (Int.le_refl _) rfl)
theorem UK(w:ek)(f:Al (c8 w).length)(a:a0)(e:Vd a):aR (I2.b1 a (w,())) ((0:Int),())=some (bif iK (λ_ p=>iK (λ_ b=>u9 (c8 w) b) 0 (i5 p)) 0 (bk a) then Sum.inl (((bk a).length:Int),()) else Sum.inr (.inr (.inr (B1 false)))):=by
 refine yW (S:=Int×Unit) (bk a) (λ_ p=>iK (λ_ b=>u9 (c8 w) b) 0 (i5 p)) (λk=>(k,())) _ _ (λk c=>?_) ?_;·unfold I2.b1;have d:=e.b _ (List.getElem_mem c);refine uL (Int.ofNat_lt.2 c) (bw (UJ w f a k c d.1 d.2) ?_);rw[<-wG c e.p];grind
 ·unfold I2.b1;exact uM (Int.le_refl _) rfl
theorem W9(w:ek)(b:Al (c8 w).length)(d:Al (aa w).length)(f:∀y∈aa w,Vd y)(g:W1 (ev w).2.1.length)(h:(Ty.sl cz).Ok (ev w).2.1):I2 (w,())=some (B1 (IX w)):=by
 have j:aR (I2.b0 (w,())) ((0:Int),())=some (bif iK (λ_ y=>Hp (c8 w) y) 0 (aa w) then Sum.inl (((aa w).length:Int),()) else Sum.inr (B1 false)):=by
  refine yW (S:=Int×Unit) (aa w) (λ_ y=>Hp (c8 w) y) (λk=>(k,())) _ _ (λk a=>?_) ?_;·unfold I2.b0;have c:=f _ (List.getElem_mem a);refine uL (Int.ofNat_lt.2 a) (bw (cB (xs:=aa w) a) (bw (Nx (bb (aa w)[k]) (c8 w) c.s b) ?_));unfold Hp;cases GF (bb (aa w)[k]) (c8 w) with|false=>rfl|true=>refine uN rfl (bw (UK w b (aa w)[k] c) ?_);rw[<-wG a d];grind
  ·unfold I2.b0;exact uM (Int.le_refl _) rfl
 have e:Al (mo (ev w)).length:=by have i:=w9 (ev w).2.1;unfold mo Al;grind
 unfold I2 IX;refine bw (KD (ev w) g h) (bw (Nx (mo (ev w)) (c8 w) e b) ?_);grind
theorem UL(w:ek)(f:Al (c8 w).length)(a:tB)(d:Al (i5 a).length)(e:∀b∈i5 a,Al (List.length (j9 b))):aR (F9.b2 a (w,())) ((0:Int),())=some (bif iK (λ_ b=>u9 (c8 w) b) 0 (i5 a) then Sum.inl (((i5 a).length:Int),()) else Sum.inr (.inr (.inr (.inr (.inr (B1 false)))))):=by
 refine yW (S:=Int×Unit) (i5 a) (λ_ b=>u9 (c8 w) b) (λk=>(k,())) _ _ (λk c=>?_) ?_;·unfold F9.b2;refine uL (Int.ofNat_lt.2 c) (bw (cB (xs:=i5 a) c) ?_);rw[<-wG c d];unfold u9;show (bif fi (i5 a)[k]then _ else _)=_;cases fi (i5 a)[k]with|false=>rfl|true=>refine bw (Ny w (j9 (i5 a)[k]) (e _ (List.getElem_mem c)) f) ?_;grind
 ·unfold F9.b2;exact uM (Int.le_refl _) rfl
theorem UM(w:ek)(f:Al (c8 w).length)(a:a0)(e:Vd a):aR (F9.b1 a (w,())) ((0:Int),())=some (bif iK (λ_ p=>iK (λ_ b=>u9 (c8 w) b) 0 (i5 p)) 0 (bk a) then Sum.inl (((bk a).length:Int),()) else Sum.inr (.inr (.inr (B1 false)))):=by
 refine yW (S:=Int×Unit) (bk a) (λ_ p=>iK (λ_ b=>u9 (c8 w) b) 0 (i5 p)) (λk=>(k,())) _ _ (λk c=>?_) ?_;·unfold F9.b1;have d:=e.b _ (List.getElem_mem c);refine uL (Int.ofNat_lt.2 c) (bw (cB (xs:=bk a) c) (bw (UL w f (bk a)[k] d.1 d.2) ?_));rw[<-wG c e.p];grind
 ·unfold F9.b1;exact uM (Int.le_refl _) rfl
theorem Xa(w:ek)(b:Al (c8 w).length)(d:Al (aa w).length)(f:∀y∈aa w,Vd y)(g:W1 (ev w).2.1.length)(h:(Ty.sl cz).Ok (ev w).2.1):F9 (w,())=some (B1 (IX w)):=by
 have j:aR (F9.b0 (w,())) ((0:Int),())=some (bif iK (λ_ y=>Hp (c8 w) y) 0 (aa w) then Sum.inl (((aa w).length:Int),()) else Sum.inr (B1 false)):=by
  refine yW (S:=Int×Unit) (aa w) (λ_ y=>Hp (c8 w) y) (λk=>(k,())) _ _ (λk a=>?_) ?_;·unfold F9.b0;have c:=f _ (List.getElem_mem a);refine uL (Int.ofNat_lt.2 a) (bw (cB (xs:=aa w) a) (bw (Ny w (bb (aa w)[k]) c.s b) ?_));unfold Hp;cases GF (bb (aa w)[k]) (c8 w) with|false=>rfl|true=>refine uN rfl (bw (UM w b (aa w)[k] c) ?_);rw[<-wG a d];grind
  ·unfold F9.b0;exact uM (Int.le_refl _) rfl
 have e:Al (mo (ev w)).length:=by have i:=w9 (ev w).2.1;unfold mo Al;grind
 unfold F9 IX;refine bw (NF (ev w) g h) (bw (Ny w (mo (ev w)) e b) ?_);grind
theorem P5{E S:Nat}{w:ek}(h:WI E S w):k8 (ev w).2.1=[]\/pv (k8 (ev w).2.1)=true:=by have a:=h.Gj;unfold bm at a;simp only[Bool.and_eq_true]at a;exact IS a.2
theorem PW.of{E S:Nat}{R:Int}{w:ek}(h:WI E S w)(g:WR R w)(u:w4 w)(B:SW w)(y:VW w)(a:IX w=true):PW R w:=by
 have o:=P5 h;unfold IX at a;simp only[Bool.and_eq_true]at a;have e:mo (ev w)=k8 (ev w).2.1:=by unfold mo;rw[h.Gj];rfl
 rw[e]at a;refine⟨g.bl,y,u,o,(MC o).1 a.1,λn r p s b l m=>?_⟩;obtain⟨i,v,rfl⟩:=List.getElem_of_mem r;have f:=xJ a.2 i v;unfold Hp at f;simp only[Bool.and_eq_true]at f;obtain⟨j,q,rfl⟩:=List.getElem_of_mem s;have A:=xJ f.2 j q;obtain⟨k,x,rfl⟩:=List.getElem_of_mem l;have d:=xJ A k x;unfold u9 at d;rw[m]at d;have z:=g.nd _ r;have t:=((z.c5 j _ (List.getElem?_eq_getElem q)).bs _ l).1;have c:=(KT (g.bl.kp _ t)).bo;unfold H7 at c;rw[m]at c;simp only[cond_true,Bool.and_eq_true]at c;exact (MC (.inr c.1)).1 d
theorem q9.cut{bl:List ao}{G:fv->Prop}{base:fp}{P:List tB}{S:List ds}{L:fp}{d:List D3}(h:q9 bl G base P S L d):∀m:Nat,m<=P.length->∃t s g,q9 bl G base (P.take m) t s g:=by induction h with|nil=>intro m o;exact⟨k8 base.2.1,base,[],by rw[List.take_nil];exact .nil⟩|KW e S L v d q l a b p c r j f k w u i x=>
 intro m o;rcases Nat.lt_or_ge e.length m with n|n;·refine⟨j9 c,k0 (nr L (p++[c])),i4 d (ic (p++[c])),?_⟩;rw[List.take_of_length_le (by grind)];exact .KW e S L v d q l a b p c r j f k w u i
 grind
theorem P6(n:a0)(a:Int)(d:W1 (bk n).length)(f:∀p∈bk n,B0 p):Xg (n,((a,()),()))=some (MY (bk n) a):=by
 unfold Xg MY;rcases mA (bk n) (λp=>gA p.1 a) with⟨_,b,c⟩|⟨j,e,_,_,_,b,c⟩;·refine bw (JF n a d) ?_;rw[c,b];rfl
 ·refine bw (JF n a d) ?_;rw[c,b];exact xM (Int.natCast_nonneg j) (bw (cB (xs:=bk n) e) (bw (QX _ (f _ (List.getElem_mem e))) rfl))
def Xb(base:fp)(n:a0)(o:Option (List ds)):Prop:=∃p:tB,Xg (n,(((0:Int),()),()))=some (p,((o.isSome,()),()))/\VX ((((0:Int),(k8 base.2.1,())):I3),(p,()))=some (match o with|some S=>((1,(S,())),((true,()),()))|none=>((0,(k8 base.2.1,())),((false,()),())))
theorem J9{fs:List Int}{e:Bool}{an:List D9}{S:Nat}{R:Int}{B:Nat}{w:ek}(h:DJ fs e an S R B w){n:a0}(s:n∈aa w):∃o,Xb (ev w) n o/\∀i,o=some i->∃L d P,P<+:bk n/\P.length=1/\q9 (ab w) (GW w) (ev w) P i L d:=by obtain⟨F,ε⟩:=h.wi.nd n s;have W:=h.wr.nd n s;have C:=F.v.h.l;have N:W1 (bk n).length:=C.2.2.2.2.2.2.2.2.2.2.2.1;have u:∀p∈bk n,B0 p:=C.2.2.2.2.2.2.2.2.2.2.2.2;have y:∀p∈bk n,Hr.Ok p/\∀b∈i5 p,W1 (List.length (j9 b)):=λp g=>⟨Ae F.v.h.ok.2.2.2.2.2.2.2.2.2.2.2.2.2.2.2.2.2.2.2.1.2 g,λb m=>((u p g).2.1 b m).2.2.2.2⟩;have I:k8 (ev w).2.1=[]\/pv (k8 (ev w).2.1)=true:=IW h.wi;have t:=HH _ h.wi.GZ;have v:W1 (k8 (ev w).2.1).length:=Nat.le_trans (w9 _) h.wi.HG.1;obtain⟨τ,X,_⟩:=(h.sw.nd n s).Gz;have f:=P6 n 0 N u;have K:∀(k:Nat) (p:tB),(bk n)[k]?=some p->p.1=(k:Int):=λk p g=>(W.c5 k p g).ep;have j:=OE K 0;have j:(bk n).find? (λp=>gA p.1 0)=(bk n)[0]?:=j;unfold MY at f;rw[j]at f;cases G:bk n with
 |nil=>
 rw[G]at f;refine⟨none,⟨_,f,?_⟩,λi A=>by cases A⟩;refine (Ly ((0:Int),(k8 (ev w).2.1,())) (((0:Int),([],((0:Int),((0:Int),([],()))))):tB) t v ⟨rfl,CK,rfl,rfl,CK,trivial⟩ (λb m=>by cases m)).trans ?_;have hA:rm ((0:Int),(k8 (ev w).2.1,())) (((0:Int),([],((0:Int),((0:Int),([],()))))):tB)=false:=by unfold rm;have :dO ((i5 (((0:Int),([],((0:Int),((0:Int),([],()))))):tB)).length:Int) 2=true:=rfl;grind
 unfold kr;grind|cons p β=>
 have x:p∈bk n:=by grind
 obtain ⟨V,σ,π,D⟩:=X.cut 1 (by grind);have Q:(bk n).take 1=[p]:=by grind
 rw[Q]at D;rw[G]at f;refine ⟨some V,⟨p,f,?_⟩,λi A=>by grind⟩;refine (Ly _ _ t v (y p x).1 (y p x).2).trans ?_;rcases D.Va with ⟨O,_⟩|⟨H,ω,φ,κ,θ,q,l,a,b,pp,c,r,E,Y,ρ,z,T,Z,M,g8,μ,δ⟩;·cases O
 · have J:H=[]:=by have :=congrArg List.length E;grind
   subst J;simp only[List.nil_append,List.cons.injEq,and_true]at E;rcases Y.Va with ⟨_,U,_,_⟩|⟨α,_,_,_,_,_,_,_,_,_,_,_,ψ,_⟩;· subst U;have γ:=IV h.wr.bl (OD h.wr.bl z I) (by decide:0<=890) z T Z M;grind
   grind
theorem UN{fs:List Int}{e:Bool}{an:List D9}{S:Nat}{R:Int}{B:Nat}{w:ek}{u:Unit}(h:DJ fs e an S R B w)(g:PW R w){i:Nat}(b:i<(aa w).length):∀k,k<i->F6.b1 ((i:Int),()) (w,u) ((((0:Int),(k8 (ev w).2.1,())):I3),()) ((k:Int),())=some (.inl (((k+1:Nat):Int),())):=by
 intro k F;have a:k<(aa w).length:=by omega
 have N:(aa w).length<=12:=h.wi.nl;obtain⟨o,⟨p,L,D⟩,v⟩:=J9 h (List.getElem_mem b);obtain⟨d,⟨O,l,s⟩,M⟩:=J9 h (List.getElem_mem a);have I:cM .i64 (k:Int) 1=((k+1:Nat):Int):=wG (n:=100) (by omega) (by omega);unfold F6.b1;refine uL (Int.ofNat_lt.2 F) (bw (cB b) (bw (qn b) (bw (qn b) (bw (qn b) (bw (qn b) (bw (qn b) (bw L (bw (cB a) (bw (qn a) (bw (qn a) (bw (qn a) (bw (qn a) (bw (qn a) (bw l (bw D (bw s ?_))))))))))))))));rw[I];cases o with
 |none=>cases d with|none=>rfl|some P=>rfl
 |some c=>cases d with|none=>rfl|some H=>
 obtain⟨q,m,J,E,t,f⟩:=v _ rfl;obtain⟨y,G,A,x,r,C⟩:=M _ rfl;have z:=(g.Sy 1 _ (List.getElem_mem b) _ (List.getElem_mem a) J A c H q y m G E x t r f C).1;subst z;have j:Al c.length:=by have K:=f.set h.wr.bl (IW h.wi);have :=(l5 K).2;omega
 exact uN rfl (uN rfl (dd rfl (dd rfl (bw (P4 c j) rfl))))
theorem L_Same(b:List D5):F6 ((b,()),())=some ((true,()),()):=by unfold F6;refine bw (show F7 ((b,()),())=some (B1 (dO 1048576 (List.length b:Int)))from rfl) ?_;cases p:dO (1048576:Int) (List.length b:Int)with|true=>rfl|false=>
 have B:=Au.1 p;obtain⟨z,s,fs,e,an,D,a⟩:=SG b (by omega);refine uN rfl (bw s ?_);obtain⟨w,u⟩:=z;have a:DJ fs e an 560020 370 65 w:=a;have h:Al (c8 w).length:=by have :(c8 w).length<=20:=a.wi.SU;omega
 have A:(aa w).length<=12:=a.wi.nl;have d:Al (aa w).length:=by omega
 have o:∀y∈aa w,Vd y:=λy x=>Vd.of (a.wi.nd y x).1.v.h;have i:=Xa w h d o a.wi.HG.1 a.wi.GZ;have c:=W9 w h d o a.wi.HG.1 a.wi.GZ;refine bw i (bw c ?_);cases m:IX w with|false=>grind|true=>
 rw[m]at i c;have q:=PW.of a.wi a.wr a.Hm a.sw a.vw m;have r:AT (ev w)=((0:Int),(k8 (ev w).2.1,())):=by unfold AT;rw[a.wi.Gj];have :=a.ba;grind
 have l:=QZ (ev w) a.wi.HG.1 a.wi.GZ;rw[r]at l;refine uN rfl (bw c (uN rfl (bw l ?_)));have C:=cK (f:=F6.b0 (w,u) ((((0:Int),(k8 (ev w).2.1,())):I3),())) (λk=>((k:Int),())) (aa w).length (e:=Sum.inl (((aa w).length:Int),())) (λk g=>by unfold F6.b0;have t:=cK (f:=F6.b1 ((k:Int),()) (w,u) ((((0:Int),(k8 (ev w).2.1,())):I3),())) (λj=>((j:Int),())) k (e:=Sum.inl ((k:Int),())) (UN a q g) (by unfold F6.b1;exact uM (Int.le_refl _) rfl);refine uL (Int.ofNat_lt.2 g) (bw t ?_);rw[<-wG (n:=(aa w).length) g d];rfl) (by unfold F6.b0;exact uM (Int.le_refl _) rfl);grind
end Go.Proofs.YthjkikiepdnimaaGreat
