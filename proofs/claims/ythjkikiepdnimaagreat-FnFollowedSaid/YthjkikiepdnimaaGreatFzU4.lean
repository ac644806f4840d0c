/- Plain laws, part 4: what the program's functions and the reference's compute, told as plain words. Conditions: none. -/
import Derived.Test.YthjkikiepdnimaaGreatFzU3
set_option linter.unusedVariables false
set_option linter.unusedSimpArgs false
set_option linter.constructorNameAsVariable false
namespace Go.Proofs.YthjkikiepdnimaaGreat
open Go Go.Tm
set_option maxRecDepth 100000
section
variable{fs:List Int}{e:Bool}{an:List D9}
theorem IG{S:Nat}{R:Int}{B:Nat}{w:en}(h:DJ fs e an S R B w)(θ:fs.length<=4)(hS:S+25000<=900000)(Z:B<=889):Y (FM (w,())) (λy=>DJ fs e an (S+25000) R B y.1):=by
 have hN:=Sb (e:=e) (an:=an) θ;unfold FM;refine Y.DZ (P:=λ(v:Int×en)=>DJ fs e an (S+25000) R B v.2) (R:=λ_=>False) (Y.loop (I:=λ(v:Int×en)=>0<=v.1/\v.1<=(KM fs e an:Int)/\DJ fs e an (S+5000*v.1.toNat) R B v.2) (λv=>((KM fs e an:Int)-v.1).toNat) (λv b=>?_) _ ⟨Int.le_refl _,Int.natCast_nonneg _,h⟩) (λv b=>Y.mk b) (λ_ h=>h.elim);obtain ⟨k,w⟩:=v;obtain ⟨M,κ,m⟩:=b;dsimp only at M κ m;have o:=m.KP;unfold FM.b0;refine Y.DY (λx=>?_) (λ_=>Y.rl (m.up (by omega) (Int.le_refl _) (Nat.le_refl _)));have x:k<((aa w).length:Int):=Cp.1 x;rw[o]at x;have e1:cM .i64 k 1=k+1:=ed (by omega) (by omega);generalize τ:S+5000*k.toNat=C at m;refine Y.DZ (P:=λ(v:Int×en)=>DJ fs e an (C+5000) R B v.2) (R:=SE (λ_=>False) (λ_=>False)) (Y.loop (I:=λ(v:Int×en)=>0<=v.1/\v.1<=(KM fs e an:Int)/\DJ fs e an (C+900*v.1.toNat) R B v.2) (λv=>((KM fs e an:Int)-v.1).toNat) (λv b=>?_) _ ⟨Int.le_refl _,Int.natCast_nonneg _,m⟩) (λv b=>Y.l ⟨⟨?_,?_,?_⟩,?_⟩) (λr h=>?_)
 · obtain ⟨i,w⟩:=v;obtain ⟨H,γ,j⟩:=b;dsimp only at H γ j;have o:=j.KP;unfold FM.b1;refine Y.DY (λz=>?_) (λ_=>Y.rl (j.up (by omega) (Int.le_refl _) (Nat.le_refl _)));have z:i<((aa w).length:Int):=Cp.1 z;rw[o]at z;have e2:cM .i64 i 1=i+1:=ed (by omega) (by omega);generalize σ:C+900*i.toNat=s at j;obtain ⟨a,p⟩:=Int.eq_ofNat_of_zero_le M;obtain ⟨t,E⟩:=Int.eq_ofNat_of_zero_le H;refine Y.DZ (P:=λ(v:Bool×en)=>DJ fs e an (s+900) R B v.2) (R:=SE (λ_=>False) (SE (λ_=>False) (SE (λ_=>False) (λ_=>False)))) (Y.loop (I:=λ(v:Bool×en)=>∃T:Nat,DJ fs e an T R B v.2/\T<=s+900/\(v.1=true->∀n,(aa v.2)[a]?=some n->(T:Int)+(890-n.2.1)<=(s:Int)+890)) (λv=>match v.1 with|false=>0|true=>match (aa v.2)[a]? with|some n=>(891-n.2.1).toNat|none=>0) (λv b=>?_) _ ⟨s,j,by omega,λ_ n c=>?_⟩) (λv b=>Y.l ⟨⟨?_,?_,?_⟩,?_⟩) (λr h=>?_)
   · obtain ⟨X,w⟩:=v;obtain ⟨T,d,L,J⟩:=b;dsimp only at d L J;have o:=d.KP;unfold FM.b2;refine Y.DY (λu=>?_) (λ_=>Y.rl (d.up L (Int.le_refl _) (Nat.le_refl _)));have u:X=true:=u;subst u;have f:a<(aa w).length:=by omega
     have q:t<(aa w).length:=by omega
     have G:bK (aa w) k=some (aa w)[a]:=by rw[p];exact cB f
     have D:aC (aa w) (Int.toNat k)=some (aa w)[a]:=by rw[p];exact qn f
     have U:bK (aa w) i=some (aa w)[t]:=by rw[E];exact cB q
     have l:aC (aa w) (Int.toNat i)=some (aa w)[t]:=by rw[E];exact qn q
     obtain ⟨ε,_⟩:=d.wi.nd _ (List.getElem_mem q);obtain ⟨O,π⟩:=d.wi.nd _ (List.getElem_mem f);have ht:=J rfl _ (List.getElem?_eq_getElem f);have ab:=O.e0;refine Y.eq G (Y.eq D (Y.eq U (Y.eq l (Y.eq G (Y.eq D (Y.eq l (Y.eq l (Y.eq l (Y.eq l (Y.eq (LA (aa w)[t] (aa w)[a].2.1 (aa w)[a].1 ε.v.h) ?_))))))))));refine Y.DZ (P:=λv=>DJ fs e an (T+1) R B v/\∀n,(aa v)[a]?=some n->(aa w)[a].2.1<=n.2.1) (R:=λ_=>False) (Y.DY (λQ=>?_) (λ_=>Y.l ⟨d.up (Nat.le_succ _) (Int.le_refl _) (Nat.le_refl _),λn c=>?_⟩)) (λv b=>?_) (λ_ h=>h.elim);· obtain ⟨K,δ,W⟩:=d.Gi (by omega) Z q f Q;exact Y.eq (KD d.wi (by decide) (by omega) K δ) (Y.l ⟨W,λn c=>Sc d.wi (by decide) K (List.getElem?_eq_getElem f) c⟩)
     · grind
     · obtain ⟨A,μ⟩:=b;have ω:=A.KP;have g:a<(aa v).length:=by omega
       have N:bK (aa v) k=some (aa v)[a]:=by rw[p];exact cB g
       have V:aC (aa v) (Int.toNat k)=some (aa v)[a]:=by rw[p];exact qn g
       have φ:=μ _ (List.getElem?_eq_getElem g);obtain ⟨ψ,ρ⟩:=A.wi.nd _ (List.getElem_mem g);refine Y.eq N (Y.eq V (Y.l ⟨⟨T+1,A,by omega,λF n c=>?_⟩,?_⟩))
       · have c:(aa v)[a]?=some n:=c;rw[List.getElem?_eq_getElem g]at c;cases c;have F:gA (aa v)[a].2.1 (aa w)[a].2.1=false:=by grind
         have :=CN.1 F;omega
       · show (match !gA (aa v)[a].2.1 (aa w)[a].2.1 with|false=>0|true=>match (aa v)[a]? with|some n=>(891-n.2.1).toNat|none=>0)<(match (aa w)[a]? with|some n=>(891-n.2.1).toNat|none=>0);rw[List.getElem?_eq_getElem f,List.getElem?_eq_getElem g];dsimp only;cases α:gA (aa v)[a].2.1 (aa w)[a].2.1 with|true=>grind|false=>have :=CN.1 α;grind
   · have c:(aa w)[a]?=some n:=c;have β:=List.mem_of_getElem? c;have :=(j.wi.nd _ β).1.e0;omega
   · grind
   · grind
   · grind
   · grind
   · rcases r with r|r|r|r<;>exact h.elim
 · grind
 · grind
 · grind
 · grind
 · rcases r with r|r<;>exact h.elim
end
section
variable{fs:List Int}{e:Bool}{an:List D9}
theorem Uj{S:Nat}{R:Int}{B:Nat}{w:en}(h:DJ fs e an S R B w)(s:fs.length<=4)(ψ:S+60000<=900000)(ρ:B+5<=889)(τ:R+10<=9990):Y (GA (w,())) (λy=>DJ fs e an (S+60000) (R+10) (B+5) y.1):=by
 have σ:=Sb (e:=e) (an:=an) s;unfold GA;refine Y.bind (KN h (by omega) (by omega)) λπ N=>Y.bind (IG N s (by omega) (by omega)) λQ k=>?_;obtain⟨m,μ⟩:=Q;have k:DJ fs e an (S+3000+25000) R B m:=k;have T:=k.KP;refine Y.DZ (P:=λ(v:List D3×(List D3×(Int×Unit)))=>v.1.length=KM fs e an/\v.2.1.length=KM fs e an) (R:=λ_=>False) (Y.loop (I:=λ(v:List D3×(List D3×(Int×Unit)))=>0<=v.2.2.1/\v.2.2.1<=(KM fs e an:Int)/\(v.1.length:Int)=v.2.2.1/\(v.2.1.length:Int)=v.2.2.1) (λv=>((KM fs e an:Int)-v.2.2.1).toNat) (λv b=>?_) _ ⟨Int.le_refl _,Int.natCast_nonneg _,rfl,rfl⟩) (λM J=>?_) (λ_ h=>h.elim)
 · obtain ⟨t,r,i,ab⟩:=v;obtain ⟨c,o,a,L⟩:=b;dsimp only at c o a L;unfold GA.b0;refine Y.DY (λd=>?_) (λx=>Y.rl ?_)
   · have d:i<((aa m).length:Int):=Cp.1 d;have U:i<(KM fs e an:Int):=by omega
     have z:cM .i64 i 1=i+1:=ed (by omega) (by omega);refine Y.Eb (xs:=aa m) c d λx4 _=>Y.dE (by grind) (by decide) (by decide) (Y.Eb (xs:=aa m) c d λκ _=>Y.dE (by grind) (by decide) (by decide) (Y.l ⟨⟨?_,?_,?_,?_⟩,?_⟩));· grind
     · grind
     · show ((t++[_]).length:Int)=cM .i64 i 1;grind
     · show ((r++[_]).length:Int)=cM .i64 i 1;grind
     grind
   · have x:((aa m).length:Int)<=i:=Au.1 x;grind
 obtain ⟨t,r,φ,ω⟩:=M;obtain ⟨K,H⟩:=J;dsimp only at K H;generalize γ:S+3000+25000=f at k;refine Y.DZ (P:=λ(v:Int×en)=>DJ fs e an (f+5) (R+5) (B+5) v.2) (R:=λ_=>False) (Y.loop (I:=λ(v:Int×en)=>0<=v.1/\v.1<=(KM fs e an:Int)/\DJ fs e an (f+v.1.toNat) (R+v.1) (B+v.1.toNat) v.2) (λv=>((KM fs e an:Int)-v.1).toNat) (λv b=>?_) _ ⟨Int.le_refl _,Int.natCast_nonneg _,k.up (Nat.le_refl _) (by omega) (Nat.le_refl _)⟩) (λv b=>?_) (λ_ h=>h.elim)
 · obtain ⟨i,w⟩:=v;obtain ⟨c,o,a⟩:=b;dsimp only at c o a;have A:=a.KP;unfold GA.b1;refine Y.DY (λd=>?_) (λ_=>Y.rl (a.up (by omega) (by omega) (by omega)));have d:i<((aa w).length:Int):=Cp.1 d;have z:cM .i64 i 1=i+1:=ed (by omega) (by omega);obtain ⟨g,p⟩:=Int.eq_ofNat_of_zero_le c;have l:g<(aa w).length:=by omega
   have X:=a.bl;have n:=NO a.wi (by decide) (by omega) l (by omega);rw[<-p]at n;refine Y.eq n (Y.l ⟨⟨?_,?_,?_⟩,?_⟩);· grind
   · grind
   · show DJ fs e an (f+(cM .i64 i 1).toNat) (R+cM .i64 i 1) (B+(cM .i64 i 1).toNat) (Fc w g (aa w)[g]);exact (a.Jj (by omega) (by omega) l).up (by omega) (by omega) (by omega)
   grind
 obtain ⟨i8,O⟩:=v;have b:DJ fs e an (f+5) (R+5) (B+5) O:=b;refine Y.bind (KN b (by omega) (by omega)) λD q=>?_;obtain ⟨C,V⟩:=D;have q:DJ fs e an (f+5+3000) (R+5) (B+5) C:=q;refine Y.DZ (P:=λ(v:Int×en)=>DJ fs e an (f+5+3000+5) (R+5+5) (B+5) v.2) (R:=λ_=>False) (Y.loop (I:=λ(v:Int×en)=>0<=v.1/\v.1<=(KM fs e an:Int)/\DJ fs e an (f+5+3000+v.1.toNat) (R+5+v.1) (B+5) v.2) (λv=>((KM fs e an:Int)-v.1).toNat) (λv b=>?_) _ ⟨Int.le_refl _,Int.natCast_nonneg _,q.up (Nat.le_refl _) (by omega) (Nat.le_refl _)⟩) (λv b=>?_) (λ_ h=>h.elim)
 · obtain ⟨i,w⟩:=v;obtain ⟨c,o,a⟩:=b;dsimp only at c o a;have A:=a.KP;unfold GA.b2;refine Y.DY (λd=>?_) (λ_=>Y.rl (a.up (by omega) (by omega) (by omega)));have d:i<((aa w).length:Int):=Cp.1 d;have z:cM .i64 i 1=i+1:=ed (by omega) (by omega);obtain ⟨g,p⟩:=Int.eq_ofNat_of_zero_le c;have l:g<(aa w).length:=by omega
   have n:=LJ a.wi (by decide) (by omega) l;rw[<-p]at n;have u:SE (λj:Int×en=>(0<=j.1/\j.1<=(KM fs e an:Int)/\DJ fs e an (f+5+3000+j.1.toNat) (R+5+j.1) (B+5) j.2)/\((KM fs e an:Int)-j.1).toNat<((KM fs e an:Int)-i).toNat) (SE (λ(v:Int×en)=>DJ fs e an (f+5+3000+5) (R+5+5) (B+5) v.2) (λ_:en×Unit=>False)) (Sum.inl (cM .i64 i 1,w)):=⟨⟨by omega,by omega,a.up (by omega) (by omega) (Nat.le_refl _)⟩,by omega⟩;refine Y.Eb (xs:=aa w) c d λα _=>Y.Eb (xs:=t) c (by omega) λZ _=>Y.DY (λ_=>Y.Eb (xs:=aa w) c d λε _=>Y.Eb (xs:=r) c (by omega) λδ _=>Y.DY (λ_=>Y.eq n (Y.l ⟨⟨?_,?_,?_⟩,?_⟩)) (λ_=>Y.mk u)) (λ_=>Y.mk u);· grind
   · grind
   · show DJ fs e an (f+5+3000+(cM .i64 i 1).toNat) (R+5+cM .i64 i 1) (B+5) (A8 w g (aa w)[g]);exact (a.Fe (by omega) (by omega) (by omega) l).up (by omega) (by omega) (Nat.le_refl _)
   grind
 obtain ⟨W,G⟩:=v;have b:DJ fs e an (f+5+3000+5) (R+5+5) (B+5) G:=b;refine Y.bind (KN b (by omega) (by omega)) λβ F=>Y.bind (IG F s (by omega) (by omega)) λθ E=>Y.mk ?_;exact E.up (by omega) (by omega) (Nat.le_refl _)
end
theorem Uk(b:List D5)(m:Int)(e:List.length b<=1048576)(d:3<=m):Y (YU ((b,()),((m,()),()))) (λy=>3<=y.1.1/\y.1.1<=m):=by
 unfold YU;refine Y.ff rfl ?_;have a:AV .i64 (List.length b:Int) (12:Int)=((List.length b/12:Nat):Int):=by unfold AV;have :((List.length b:Int).tdiv 12)=((List.length b/12:Nat):Int):=rfl;rw[this,nU (by omega) (by omega)]
 have c:cM .i64 (3:Int) ((List.length b/12:Nat):Int)=3+((List.length b/12:Nat):Int):=ed (by omega) (by omega);dsimp only;rw[a,c];refine Y.DY (λ_=>Y.mk ⟨d,Int.le_refl _⟩) (λh=>Y.mk ?_);have h:3+((List.length b/12:Nat):Int)<=m:=by have :=Au.1 h;omega
 grind
theorem YQ(c:MY)(b:List D5)(p:tR c)(t:List.length b<=1048576):Y (Vk (c,((b,()),()))) (λy=>∃fs e an,(fs.length<=4/\(∀f∈fs,f=3\/f=20))/\DJ fs e an 560020 370 65 y.1/\tR y.2.1):=by
 unfold Vk;refine Y.bind (Uk b 20 t (by decide)) λm u=>?_;obtain⟨F,C⟩:=u;refine Y.bind (Uh c m.1.1 p ⟨by omega,by omega⟩) λx o=>?_;obtain ⟨fs,e,an,K,k,L,A,q,M⟩:=o;refine Y.bind (Jx _ _ q (by simp)) λa n=>?_;obtain ⟨G,r,D⟩:=n;have l:0<=a.1.1/\a.1.1<=9:=by grind
 have s:DJ fs e an (20+60000*(9-a.1.1).toNat) (280+10*(9-a.1.1)) (20+5*(9-a.1.1).toNat) x.1:=A.dj.up (by omega) (by omega) (by omega);refine Y.DZ (P:=λ(v:Int×en)=>DJ fs e an 560020 370 65 v.2) (R:=λ_=>False) (Y.loop (I:=λ(v:Int×en)=>0<=v.1/\v.1<=9/\DJ fs e an (20+60000*(9-v.1).toNat) (280+10*(9-v.1)) (20+5*(9-v.1).toNat) v.2) (λv=>v.1.toNat) (λv d=>?_) _ ⟨l.1,l.2,s⟩) (λv d=>Y.mk ⟨fs,e,an,k,d,r⟩) (λ_ h=>h.elim);obtain ⟨i,w⟩:=v;obtain ⟨B,z,g⟩:=d;dsimp only at B z g;unfold Vk.b0;refine Y.DY (λj=>?_) (λ_=>Y.rl (g.up (by omega) (by omega) (by omega)));have j:0<i:=Cp.1 j;have J:gS .i64 i 1=i-1:=iz (by omega) (by omega);refine Y.bind (Uj g k.1 (by omega) (by omega) (by omega)) λH E=>Y.l ⟨⟨?_,?_,?_⟩,?_⟩;·grind
 ·grind
 ·grind
 grind
theorem Sd(a:List D5)(b:List.length a<=1048576):Y (Y0 ((a,()),())) (λy=>∃fs e an,(fs.length<=4/\(∀f∈fs,f=3\/f=20))/\DJ fs e an 560020 370 65 y.1):=by unfold Y0;refine Y.bind (Yx a b) λd c=>Y.bind (YQ d.1 a c.1 b) λg h=>Y.mk ?_;grind
theorem j0.aP2{R:Int}{bl:List ao}{G:fl->Prop}{S:List df}{v e:Int}{l:List ao}(j:BR R bl)(h:j0 bl G S v e l):∀(i:Nat)(k:i+1<l.length),(gx l[i+1]).2.1=l[i].1/\(gx l[i+1]).1=l[i].2.2.1/\tm S (gx l[i+1])=true:=by induction h with|GM e h=>grind|dp b l z o d s y=>
 intro i k;have x:i<l.length:=by grind
 rcases Nat.lt_or_ge (i+1) l.length with r|r;·grind
 · rcases List.eq_nil_or_concat l with h|⟨a,c,h⟩;· grind
   · rw[List.concat_eq_append]at h;subst h;have m:i=a.length:=by grind
     subst m;obtain⟨g,f,_⟩:=s.Ui;have q:((a++[c])++[b])[a.length+1]'k=b:=by simp
     have t:((a++[c])++[b])[a.length]'(by simp)=c:=by simp
     rw[q,t];rcases d with d|⟨p,n,u,w⟩;· have :=(pn d).2.1;have :=(j.lt f).1;omega
     · have :=j.E5 n f (u.trans g.symm);subst this;exact⟨g.symm,w.symm,o.qc⟩
theorem Ul{R:Int}{bl:List ao}{G:fl->Prop}{S:List df}{g:Int}{q:j4}{l:List ao}{a b:ao}(f:BR R bl)(h:N5 bl G S g q l a b)(e:S=[]\/o9 S=true):o9 S=true:=by
 rcases e with rfl|d
 · exfalso;have c:=h.qc;unfold tm at c;simp only[Bool.or_eq_true,Bool.and_eq_true]at c;rcases c with c|c;· have d:=(pn c).2.1;have j:=(f.lt h.YK).1;have i:=h.id;omega
   · have d:md ([]:List df) q.2.2.1=false:=rfl;grind
 omega
theorem Ni{R:Int}{bl:List ao}{G:fl->Prop}{S:List df}{k:Nat}{q:j4}{l:List ao}{a b:ao}{p:List ao}{c:ao}{r:List ao}(g:BR R bl)(y:o9 S=true)(J:k<=890)(h:N5 bl G S (k:Int) q l a b)(t:l++[a]=p++c::r)(L:fa c=true)(K:∀x∈p,fa x=false):g8 ((k:Int),(S,())) ((k:Int),((l++[a])++[b],(q.1,(q.2.1,(q.2.2.1,())))))=(((((k+1:Nat):Int),(kB c,())),((true,()),())):Ko×((Bool×Unit)×Unit)):=by
 have F:=h.ch.Ui;have f:j0 bl G S (k:Int) b.1 ((l++[a])++[b]):=.dp b _ h.YK h.ba (.inr ⟨a,F.2.1,h.Mm.symm,h.Wl.symm⟩) (by rw[h.Mm];exact h.ch);have o:=f.dr;have m:=f.aP2 g;have I:=KF h.qc;have N:cM .i64 (k:Int) 1=((k+1:Nat):Int):=wG (n:=1000) (by omega) (by omega);have e:((l++[a])++[b]).length=l.length+2:=by simp
 have B:sM ((k:Int),(S,())) ((k:Int),((l++[a])++[b],(q.1,(q.2.1,(q.2.2.1,())))))=true:=by
  unfold sM;rw[Bool.and_eq_true,Bool.and_eq_true,Bool.and_eq_true,Bool.and_eq_true];refine ⟨y,Cr.2 rfl,?_,?_,?_⟩;·have :dO (((l++[a])++[b]).length:Int) 2=false:=Au.2 (by omega);grind
  ·unfold Lc;refine vc (λi d=>?_);have d:i<((l++[a])++[b]).length:=d;obtain ⟨u,z⟩:=o _ (List.getElem_mem d);show HU (k:Int) S ((l++[a])++[b]) (0+i) ((l++[a])++[b])[i]=true;unfold HU;rw[Bool.and_eq_true,Bool.and_eq_true,Nat.zero_add];refine ⟨g.kp _ u,Cr.2 z.eq,?_⟩;match i,d with|0,_=>rfl|j+1,d=>obtain ⟨C,D,w⟩:=m j d;rw[mz (by omega),Bool.and_eq_true,Bool.and_eq_true];exact ⟨Cr.2 C,Cr.2 D,w⟩
  · unfold Qy;have v:(kj ((k:Int),((l++[a])++[b],(q.1,(q.2.1,(q.2.2.1,()))))))=(l++[a])++[b]:=rfl;rw[v,e];have s:((l++[a])++[b])[l.length+2-1]?=some b:=by simp
    have A:((l++[a])++[b])[l.length+2-2]?=some a:=by simp
    rw[s,A];dsimp only;have E:=h.rd;have H:=h.ard;rw[Bool.and_eq_true,Bool.and_eq_true,Bool.and_eq_true];refine ⟨Cr.2 ?_,h.qc,Cr.2 E.symm,Cr.2 h.id.symm⟩;rw[ed (by omega) (by omega)];omega
 unfold g8;rw[B];have M:(((l++[a])++[b]).take (((l++[a])++[b]).length-1)).find? (λb=>fa b)=some c:=by rw[e,List.take_append_of_le_length (by simp)];rw[List.take_of_length_le (by simp),t];grind
 grind
theorem Oi{b:List A4}(h:∀(k:Nat)(p:A4),b[k]?=some p->p.1=(k:Int))(m:Nat):b.find? (λp=>gA p.1 (m:Int))=b[m]?:=by
 rcases Nat.lt_or_ge m b.length with a|a;·rw[List.getElem?_eq_getElem a];rw[List.find?_eq_some_iff_getElem];refine⟨Cr.2 (h m _ (List.getElem?_eq_getElem a)),m,a,rfl,λj c=>?_⟩;have :=h j _ (List.getElem?_eq_getElem (Nat.lt_trans c a));rw[Bool.not_eq_true',CN];omega
 ·rw[List.getElem?_eq_none a,List.find?_eq_none];intro p e;obtain⟨j,c,rfl⟩:=List.getElem_of_mem e;have :=h j _ (List.getElem?_eq_getElem c);intro d;have :=Cr.1 d;omega
theorem Mh{R:Int}{bl:List ao}{G:fl->Prop}{base:fk}(g:BR R bl)(z:ma base.2.1=[]\/o9 (ma base.2.1)=true){e:List A4}(y:∀(k:Nat)(p:A4),e[k]?=some p->p.1=(k:Int))(I:e.length<=890){P:List A4}{S:List df}{L:fk}{d:List D3}(h:te bl G base P S L d):P<+:e->∀f:Nat,n5 e (f+P.length) ((0:Int),(ma base.2.1,())) 0=n5 e f ((P.length:Int),(S,())) (P.length:Int):=by induction h with|nil=>grind|Na P S L D d q l a b p c r s H i o w v x=>
 intro m f;obtain⟨t,j⟩:=m;have C:P.length<e.length:=by grind
 rw[List.length_append];have u:f+(P.length+[(((P.length:Int),((l++[a])++[b],(q.1,(q.2.1,(q.2.2.1,()))))):A4)].length)=(f+1)+P.length:=by grind
 rw[u,x ((List.prefix_append _ _).trans ⟨t,j⟩) (f+1)];have E:e.find? (λp=>gA p.1 (P.length:Int))=some ((P.length:Int),((l++[a])++[b],(q.1,(q.2.1,(q.2.2.1,()))))):=by rw[Oi y,<-j,List.append_assoc,List.getElem?_append_right (Nat.le_refl _),Nat.sub_self];rfl
 have A:=s.set g z;have B:=Ni g (Ul g i A) (by omega) i o w v;have F:cM .i64 (P.length:Int) 1=((P.length+1:Nat):Int):=wG (n:=1000) (by omega) (by omega);show (match e.find? (λp=>gA p.1 (P.length:Int)) with|none=>_|some p=>bif (g8 ((P.length:Int),(S,())) p).2.1.1 then n5 e f (g8 ((P.length:Int),(S,())) p).1 (cM .i64 (P.length:Int) 1) else _)=_;grind
theorem Mi{a:List A4}{f:Nat}{c:Ko}{k:Int}(h:a.find? (λp=>gA p.1 c.1)=none):n5 a f c k=(c,((k,()),())):=by cases f with|zero=>rfl|succ f=>unfold n5;rw[h]
theorem JU(x:fk)(n:a0)(i:W1 (bm n).length)(q:∀p∈bm n,G2.Ok p/\∀b∈kj p,W1 (List.length (kB b))):∀(f:Nat)(c:Ko)(k:Int),Kp c<f->(Ty.sl s6).Ok c.2.1->W1 c.2.1.length->∀d:Int,aR (Sl.b0 (x,(n,()))) (d,(k,(c.1,(c.2.1,()))))=some (.inr (n5 (bm n) f c k))
 |0,c,k,t,_,_,d=>by omega|f+1,c,k,t,u,v,d=>by
  unfold n5;rcases mA (bm n) (λp=>gA p.1 c.1) with⟨_,a,h⟩|⟨j,r,_,_,_,a,h⟩;·rw[a];refine cS ?_;unfold Sl.b0;refine bw (Jq n c.1 i) ?_;rw[h];rfl
  · rw[a];have g:=q _ (List.getElem_mem r);have e:Sl.b0 (x,(n,())) (d,(k,(c.1,(c.2.1,()))))=bif (g8 c (bm n)[j]).2.1.1 then some (.inl (d,(cM .i64 k 1,((g8 c (bm n)[j]).1.1,((g8 c (bm n)[j]).1.2.1,()))))) else some (.inr (.inr (c,((k,()),())))):=by unfold Sl.b0;refine bw (Jq n c.1 i) ?_;rw[h];refine xM (Int.natCast_nonneg j) (bw (cB (xs:=bm n) r) (bw (Qz c _ u v g.1 g.2) ?_));grind
    dsimp only;cases l:(g8 c (bm n)[j]).2.1.1 with|false=>rw[l]at e;exact cS e|true=>
 rw[l]at e;rw[de e];have w:=Lf l;have o:(Ty.sl s6).Ok (g8 c (bm n)[j]).1.2.1/\W1 (g8 c (bm n)[j]).1.2.1.length:=by unfold g8;cases sM c (bm n)[j]with|false=>grind|true=>cases a:((kj (bm n)[j]).take ((kj (bm n)[j]).length-1)).find? (λb=>fa b) with|none=>grind|some b=>have m:b∈kj (bm n)[j]:=List.mem_of_mem_take (List.mem_of_find?_eq_some a);have s:De b:=Ae g.1.2.1.2 m;exact⟨s.Lb,g.2 b m⟩
 exact JU x n i q f (g8 c (bm n)[j]).1 _ (by omega) o.1 o.2 d
theorem PI(xs:List df)(b:Al xs.length):Td ((xs,()),((xs,()),()))=some (B1 true):=by unfold Td;refine uN (by simp_all[gA,df,Cr]) ?_;have c:=cK (f:=Td.b0 ((xs,()),((xs,()),()))) (λk=>((k:Int),())) xs.length (e:=Sum.inl ((xs.length:Int),())) (λk a=>by unfold Td.b0;refine uL (Int.ofNat_lt.2 a) (bw (cB a) (bw (cB a) ?_));rw[<-wG (n:=xs.length) a b];exact uN (by rw[xD,Cr.2 rfl];rfl) rfl) (by unfold Td.b0;exact uM (Int.le_refl _) rfl);grind
theorem Nj{E S:Nat}{w:en}(h:WI E S w):ma (fv w).2.1=[]\/o9 (ma (fv w).2.1)=true:=by have :=h.FG;unfold bk at this;simp only[Bool.and_eq_true]at this;exact IE this.2
def Mj(xs:List df)(an:List D9):Bool:=dO (zJ .i64 3 (Fu xs an)) (HR xs)
theorem Mk{S:List df}{an:List D9}(h:S=[]\/o9 S=true):Mj S an=true↔Fi an S:=by obtain⟨a,d⟩:=k9 h;have c:=Ec (p:=iv an) (S:=S) (λv b=>(a v b).2);unfold Mj Fi;rw[Cp,JP h,Ma h,Ar (by omega) (by omega)]
def Se(an:List D9)(b:ao):Bool:=bif fa b then Mj (kB b) an else true
def UG(an:List D9)(y:a0):Bool:=Mj (bb y) an&&iK (λ_ p=>iK (λ_ b=>Se an b) 0 (kj p)) 0 (bm y)
def UH(w:en):Bool:=Mj (ti (fv w)) (hu w)&&iK (λ_ y=>UG (hu w) y) 0 (aa w)
theorem KO{fs:List Int}{e:Bool}{an:List D9}{S:Nat}{R:Int}{B:Nat}{w:en}(h:DJ fs e an S R B w){n:a0}(c:n∈aa w):Sl (fv w,(n,()))=some ((n.2.1,(bb n,())),(((((bm n).length:Nat):Int),()),())):=by
 obtain⟨d,x⟩:=h.wi.nd n c;have q:=h.wr.nd n c;have i:=d.v.h.l;have l:=d.pa;have r:W1 (bm n).length:=i.2.2.2.2.2.2.2.2.2.2.2.1;have m:∀p∈bm n,G2.Ok p/\∀b∈kj p,W1 (List.length (kB b)):=λp a=>⟨Ae d.v.h.ok.2.2.2.2.2.2.2.2.2.2.2.2.2.2.2.2.2.2.2.1.2 a,λb s=>((i.2.2.2.2.2.2.2.2.2.2.2.2 p a).2.1 b s).2.2.2.2⟩;have j:ma (fv w).2.1=[]\/o9 (ma (fv w).2.1)=true:=Nj h.wi;obtain⟨y,o,_⟩:=(h.sw.nd n c).Gm;have f:∀(k:Nat)(p:A4),(bm n)[k]?=some p->p.1=(k:Int):=λk p a=>(q.c9 k p a).ep;have g:sT (fv w)=((0:Int),(ma (fv w).2.1,())):=by unfold sT;rw[h.wi.FG];have :=h.ba;grind
 have u:n5 (bm n) (902+(bm n).length) ((0:Int),(ma (fv w).2.1,())) 0=((n.2.1,(bb n,())),(((((bm n).length:Nat):Int),()),())):=by rw[Mh h.wr.bl j f (by omega) o (List.prefix_refl _) 902,Mi (by rw[Oi f];grind),l]
 have v:=Ev (fv w).2.1;have t:=h.wi.Ip.1;unfold Sl;refine bw (Le (fv w) h.wi.Ip.1 h.wi.G8) ?_;refine bw (JU (fv w) n r m (902+(bm n).length) (sT (fv w)) 0 (by rw[g];exact Nat.lt_of_lt_of_le (show (901-(0:Int)).toNat<902 by decide) (by omega)) (by rw[g];exact Hv _ h.wi.G8) (by grind) 0) ?_;grind
theorem L_Followed(c:List D5):F5 ((c,()),())=some ((true,()),()):=by unfold F5;refine bw (show F7 ((c,()),())=some (B1 (dO 1048576 (List.length c:Int)))from rfl) ?_;cases g:dO (1048576:Int) (List.length c:Int)with
 |true=>rfl|false=>have q:=Au.1 g;obtain⟨i,h,fs,e,an,p,b⟩:=Sd c (by omega);refine uN rfl (bw h ?_);obtain⟨w,u⟩:=i;have m:(aa w).length<=12:=b.wi.nl;have j:=cK (f:=F5.b0 (w,u)) (λk=>((k:Int),())) (aa w).length (e:=Sum.inl (((aa w).length:Int),())) (λk a=>by
 have d:=List.getElem_mem a;obtain⟨r,o⟩:=b.wi.nd _ d;have l:(bb (aa w)[k]).length<=12:=(k9 (b.wr.nd _ d).set).2;unfold F5.b0;refine uL (Int.ofNat_lt.2 a) (bw (cB a) (bw (qn a) (bw (qn a) (bw (qn a) (bw (qn a) (bw (qn a) (bw (KO b d) (bw (cB a) (bw (qn a) (uN ?_ (bw (cB a) (bw (qn a) (bw (PI (bb (aa w)[k]) (by omega)) (uN rfl (bw (cB a) (bw (qn a) (bw (qn a) (uN ?_ ?_))))))))))))))))));·show (!gA (aa w)[k].2.1 (aa w)[k].2.1)=false;rw[Cr.2 rfl];rfl
 ·show (!gA (((bm (aa w)[k]).length:Nat):Int) ((bm (aa w)[k]).length:Int))=false;rw[Cr.2 rfl];rfl
 ·rw[<-wG (n:=(aa w).length) a (by omega)]) (by unfold F5.b0;exact uM (Int.le_refl _) rfl);refine bw j (bw (Le (fv w) b.wi.Ip.1 b.wi.G8) ?_);unfold sT;rw[b.wi.FG];show some ((gA (fv w).1 (fv w).1,()),())=_;rw[Cr.2 rfl]
theorem PJ{E S:Nat}{w:en}(h:WI E S w):ma (fv w).2.1=[]\/o9 (ma (fv w).2.1)=true:=by have a:=h.FG;unfold bk at a;simp only[Bool.and_eq_true]at a;exact IE a.2
theorem PW.of{E S:Nat}{R:Int}{w:en}(h:WI E S w)(g:WR R w)(y:vv w)(B:SW w)(z:VW w)(a:UH w=true):PW R w:=by
 have o:=PJ h;unfold UH at a;simp only[Bool.and_eq_true]at a;have e:ti (fv w)=ma (fv w).2.1:=by unfold ti;rw[h.FG];rfl
 rw[e]at a;refine⟨g.bl,z,y,o,(Mk o).1 a.1,λn m p s b r q=>?_⟩;obtain⟨i,A,rfl⟩:=List.getElem_of_mem m;have f:=xJ a.2 i A;unfold UG at f;simp only[Bool.and_eq_true]at f;obtain⟨j,l,rfl⟩:=List.getElem_of_mem s;have u:=xJ f.2 j l;obtain⟨k,v,rfl⟩:=List.getElem_of_mem r;have d:=xJ u k v;unfold Se at d;rw[q]at d;have x:=g.nd _ m;have t:=((x.c9 j _ (List.getElem?_eq_getElem l)).bs _ r).1;have c:=(KE (g.bl.kp _ t)).bo;unfold HT at c;rw[q]at c;simp only[cond_true,Bool.and_eq_true]at c;exact (Mk (.inr c.1)).1 d
end Go.Proofs.YthjkikiepdnimaaGreat
