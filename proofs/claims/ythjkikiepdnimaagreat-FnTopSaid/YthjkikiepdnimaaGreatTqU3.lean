/- Plain laws, part 3: what the program's functions and the reference's compute, told as plain words. Conditions: none. -/
import Derived.Test.YthjkikiepdnimaaGreatTqU2
set_option linter.unusedVariables false
set_option linter.unusedSimpArgs false
set_option linter.constructorNameAsVariable false
namespace Go.Proofs.YthjkikiepdnimaaGreat
open Go Go.Tm
set_option maxRecDepth 100000
noncomputable def q9(w:ee)(m:ie):ee:=match(aa w)[(RE (aa w) m.2.1).toNat]? with|some n=>bif gA n.2.1 m.2.2.1 then Fc (lb w (RE (aa w) m.2.1).toNat (fz n m).1) (fz n m).2.1 (fz n m).2.2 else w|none=>w
theorem EJ{w:ee}{m:ie}(h:wt (aa w) m.2.1=true):∃(j:Nat)(b:j<(aa w).length),(aa w)[j].1=m.2.1/\RE (aa w) m.2.1=(j:Int)/\q9 w m=bif gA (aa w)[j].2.1 m.2.2.1 then Fc (lb w j (fz (aa w)[j] m).1) (fz (aa w)[j] m).2.1 (fz (aa w)[j] m).2.2 else w:=by
 rcases RF (aa w) m.2.1 with⟨a,_⟩|⟨j,b,a,_,c⟩;·grind
 ·refine⟨j,b,n7.1 a,c,?_⟩;unfold q9;simp_all
theorem WY{E S:Nat}{w:ee}{m:ie}(h:WI E S w)(o:E<890)(s:S<=900000)(b:GL m)(k:wt (aa w) m.2.1=true):VV (w,(m,()))=some (q9 w m,()):=by
 obtain⟨j,a,_,i,f⟩:=EJ k;have e:Al (aa w).length:=by have :=h.nl;omega
 obtain⟨c,u⟩:=h.nd _ (List.getElem_mem a);rw[f];unfold VV;have g:QL (w,((m.2.1,()),()))=some (I1 (j:Int)):=(G4 w m.2.1 e).trans (by rw[show nY w.2.2.2.1 (λn=>ko n.1 m.2.1)=(j:Int) from i]);refine bw g (bw (cB a) (bw (qn a) ?_));show (bif gA (aa w)[j].2.1 m.2.2.1 then _ else _)=_;cases l:gA (aa w)[j].2.1 m.2.2.1 with|false=>rfl|true=>
 have d:=Cr.1 l;obtain⟨r,q,p,t⟩:=Nw c b (by omega);refine cl rfl (bw (qn a) (bw (ZF (aa w)[j] m c b d.symm (by omega)) (bw rfl (bw (Ho (lb w j (fz (aa w)[j] m).1) (fz (aa w)[j] m).2.1 (fz (aa w)[j] m).2.2 ?_ ?_ ?_ h.nt ?_) rfl))));·simp_all[Al,ao,aa,lb,ie,tb,fz]
 ·omega
 ·omega
 ·have :=h.sl;show (hH w).length+_<=1000000;omega
theorem Nx{E S:Nat}{w:ee}{m:ie}(h:WI E S w)(q:E<890)(p:S<=900000)(a:GL m)(n:wt (aa w) m.2.1=true):WI (E+1) (S+1) (q9 w m):=by obtain⟨j,b,_,t,e⟩:=EJ n;obtain⟨c,r⟩:=h.nd _ (List.getElem_mem b);rw[e];cases i:gA (aa w)[j].2.1 m.2.2.1 with|false=>grind[WI.up]|true=>have d:=Cr.1 i;obtain⟨o,g,f,s⟩:=Nw c a (by omega);obtain⟨l,k,u,v⟩:=IP c a d.symm (by omega);exact FI (B7 (h.up (Nat.le_succ _) (Nat.le_refl _)) b k l (by omega)) o g p f
def Fe(w:ee)(k:Nat):ee:=IS w (aa w) (ab w) (hH w) ((gl w).take k++(gl w).drop (k+1))
theorem HX{w:ee}{k:Nat}{m:ie}(h:m∈gl (Fe w k)):m∈gl w:=by
 rcases List.mem_append.1 h with h|h;·grind
 grind
theorem RG(w:ee)(k:Nat):(gl (Fe w k)).length<=(gl w).length:=by show ((gl w).take k++(gl w).drop (k+1)).length<=_;grind
theorem u3{E S:Nat}{w:ee}(h:WI E S w)(k:Nat):WI E S (Fe w k):=⟨h.Ic,h.HV,h.Hg,h.fo,h.Vr,h.nl,h.nd,h.bo,h.bl,h.bL,h.so,h.sl,Nat.le_trans (RG w k) h.nt,λm a=>h.nm m (HX a)⟩
noncomputable def Hq(w:ee)(j:Nat)(n:ao):ee:=Fc (IS w ((aa w).set j (ej n ((ab w).length:Int)).1) (ab w++(ej n ((ab w).length:Int)).2.1) (hH w) (gl w)) (ej n ((ab w).length:Int)).2.2.1 (ej n ((ab w).length:Int)).2.2.2
noncomputable def E7(w:ee)(j:Nat)(n:ao):ee:=Fc (lb w j (fp n).1) (fp n).2.1 (fp n).2.2
def Es(w:ee)(n k:ao):ee:=bif(hM n k.2.1 k.1).2.1.1 then Fc w [(hM n k.2.1 k.1).1] []else w
theorem Et{n:Nat}(h:n<=1000000):(Lit.int .i64 (n:Int)).wf=true:=by grind[DX]
theorem RH(w:ee):Fc w [] []=w:=rfl
theorem WZ{E S:Nat}{w:ee}(h:WI E S w)(q:E<890)(s:S<=900000){j:Nat}(b:j<(aa w).length)(t:(ab w).length<1000):QP (w,(((j:Int),()),()))=some ((!gA ((ej (aa w)[j] ((ab w).length:Int)).2.1.length:Int) 0,()),(Hq w j (aa w)[j],())):=by
 obtain⟨f,u⟩:=h.nd _ (List.getElem_mem b);have c:=Et (n:=(ab w).length) (by omega);obtain⟨l,k,g,m,d⟩:=Hp f c (by omega);have p:=h.nl;unfold QP Hq;refine uN (by show km 1000 ((ab w).length:Int)=false;exact CM.2 (by omega)) (bw (cB b) (bw (qn b) (bw (ZH (aa w)[j] ((ab w).length:Int) f c (by omega)) (bw rfl ?_))));generalize i:ej (aa w)[j] ((ab w).length:Int)=r at l k g m d;show (bif gA (r.2.1.length:Int) 0 then _ else _)=_;rcases d with⟨a,o⟩|⟨a,_⟩
 · have e:r.2.2.1=[]/\r.2.2.2=[]:=by rw[<-i]at a⊢;unfold ej at a⊢;grind
   rw[a,o,e.1,e.2,RH,List.append_nil];rfl
 · rw[a];refine uN rfl (cl (BO (by grind) (by decide) (by decide)) (bw (Ho (IS w ((aa w).set j r.1) (ab w++[i4 (aa w)[j] ((ab w).length:Int)]) (hH w) (gl w)) r.2.2.1 r.2.2.2 ?_ ?_ ?_ h.nt ?_) rfl));· grind
   · omega
   · omega
   · have :=h.sl;grind
theorem Uw{E S:Nat}{w:ee}(h:WI E S w)(s:E<890)(r:S<=900000){j:Nat}(k:j<(aa w).length)(A:(ab w).length<1000):WI (E+1) (S+1) (Hq w j (aa w)[j]):=by
 obtain⟨f,t⟩:=h.nd _ (List.getElem_mem k);have d:=Et (n:=(ab w).length) (by omega);obtain⟨q,m,l,v,z⟩:=Hp f d (by omega);obtain⟨p,o,y,B⟩:=IQ f d (by omega);obtain⟨x,u⟩:=uf f.v.h d;have a:=B7 (h.up (Nat.le_succ E) (Nat.le_refl S)) k o p (by omega);refine FI (w:=IS w ((aa w).set j (ej (aa w)[j] ((ab w).length:Int)).1) (ab w++(ej (aa w)[j] ((ab w).length:Int)).2.1) (hH w) (gl w)) ?_ q m r l;have i:∀b∈ab w++(ej (aa w)[j] ((ab w).length:Int)).2.1,lf.Ok b/\e8 b:=λb c=>by
  rcases List.mem_append.1 c with e|e;·exact⟨Ae h.bo.2 e,h.bL b e⟩
  grind
 have g:(ab w++(ej (aa w)[j] ((ab w).length:Int)).2.1).length<=1000:=by grind
 exact⟨a.Ic,a.HV,a.Hg,a.fo,a.Vr,a.nl,a.nd,Dk (Nat.le_trans g (by decide)) (λb c=>(i b c).1),g,λb c=>(i b c).2,a.so,a.sl,a.nt,a.nm⟩
theorem Ux{E S:Nat}{w:ee}(h:WI E S w)(d:E<890)(i:S<=900000){j:Nat}(a:j<(aa w).length):SL (w,(((j:Int),()),()))=some ((dO 0 ((fp (aa w)[j]).2.2.length:Int),()),(E7 w j (aa w)[j],())):=by
 obtain⟨b,l⟩:=h.nd _ (List.getElem_mem a);obtain⟨g,f,e,k⟩:=K2 b;have c:=h.nl;unfold SL E7;refine bw (cB a) (bw (qn a) (bw (Un (aa w)[j] b (by omega)) (bw rfl (bw (Ho (lb w j (fp (aa w)[j]).1) (fp (aa w)[j]).2.1 (fp (aa w)[j]).2.2 ?_ ?_ ?_ h.nt ?_) rfl))));·show Al ((aa w).set j _).length;grind
 ·omega
 ·omega
 ·have :=h.sl;show (hH w).length+_<=1000000;omega
theorem RI{E S:Nat}{w:ee}(h:WI E S w)(k:E<890)(f:S<=900000){j:Nat}(a:j<(aa w).length):WI (E+1) (S+1) (E7 w j (aa w)[j]):=by obtain⟨b,o⟩:=h.nd _ (List.getElem_mem a);obtain⟨e,d,c,m⟩:=K2 b;obtain⟨g,i,l,n⟩:=Hk b (by omega);exact FI (B7 (h.up (Nat.le_succ E) (Nat.le_refl S)) a i g (by omega)) e d f c
theorem Uy{E S:Nat}{w:ee}(h:WI E S w)(g:S<=900000){j k:Nat}(a:j<(aa w).length)(b:k<(aa w).length):QQ (w,(((j:Int),()),(((k:Int),()),())))=some (((hM (aa w)[j] (aa w)[k].2.1 (aa w)[k].1).2.1.1,()),(Es w (aa w)[j] (aa w)[k],())):=by
 obtain⟨d,n⟩:=h.nd _ (List.getElem_mem a);have f:=h.nl;have e:Di (k:Int) 0 (gS .i64 ((aa w).length:Int) 1)=true:=by rw[iz (by omega) (by omega)];simp[Di,km];omega
 unfold QQ Es;refine bw (mh _ _ _) (uN (by grind) ?_);refine bw (cB a) (bw (qn a) (bw (cB b) (bw (qn b) (bw (cB b) (bw (qn b) (bw (qn a) (bw (qn a) (bw (qn a) (bw (qn a) (bw (Up (aa w)[j] (aa w)[k].2.1 (aa w)[k].1 d.v.h) ?_))))))))));generalize hM (aa w)[j] (aa w)[k].2.1 (aa w)[k].1=r;obtain⟨m,⟨c,u⟩,i⟩:=r;cases c with|false=>rfl|true=>have l:=Ho w [m] [] (by omega) (by grind) (by grind) h.nt (by have :=h.sl;grind);grind
theorem RJ{E S:Nat}{w:ee}(h:WI E S w)(d:S<=900000){j k:Nat}(b:j<(aa w).length)(e:k<(aa w).length):WI E (S+1) (Es w (aa w)[j] (aa w)[k]):=by obtain⟨i,l⟩:=h.nd _ (List.getElem_mem b);obtain⟨a,_⟩:=h.nd _ (List.getElem_mem e);unfold Es;cases c:(hM (aa w)[j] (aa w)[k].2.1 (aa w)[k].1).2.1.1 with|false=>grind[WI.up]|true=>exact FI h (λm g=>by rw[List.mem_singleton.1 g];exact s8 i a.v.h.ok.2.1 a.v.h.ok.1 c) (λs f=>by cases f) d (Nat.zero_le _)
theorem K3(l:List cp)(t:cp)(z:(Ty.sl iv).Ok l)(C:W1 l.length)(L:iv.Ok t):Y (MJ ((l,()),(t,()))) (λy=>(y.2.1.1=false/\y.1.1=l)\/(y.2.1.1=true/\rS l=true/\rS y.1.1=true/\(Ty.sl iv).Ok y.1.1/\List.length y.1.1<=20/\List.length y.1.1=l.length+1)):=by
 unfold W1 at C;unfold MJ;refine Y.dE (by grind) (by decide) (by decide) (Y.dE (by simp only[List.length_cons,List.length_nil,bV,List.nil_append];omega) (by decide) (by decide) ?_);have r:List.length (bV (bV ([]:List cp) l) [t])=l.length+1:=by simp_all[cp,bV]
 have A:∀x∈bV (bV ([]:List cp) l) [t],iv.Ok x:=λx d=>by
  unfold bV at d;rw[List.nil_append]at d;rcases List.mem_append.1 d with h|h;·exact Ae z.2 h
  grind
 have H:gS .i64 (List.length (bV (bV ([]:List cp) l) [t]):Int) 1=(l.length:Int):=by rw[r,iz]<;>omega
 refine Y.DZ (P:=λv=>0<=v.1/\v.1<(List.length v.2.1:Int)/\List.length v.2.1=l.length+1/\∀x∈v.2.1,iv.Ok x) (R:=λ_=>False) (Y.loop (I:=λv=>0<=v.1/\v.1<(List.length v.2.1:Int)/\List.length v.2.1=l.length+1/\∀x∈v.2.1,iv.Ok x) (λv=>v.1.toNat) (λv j=>?_) _ ?_) (λv j=>?_) (λ_ h=>h.elim)
 · obtain⟨k,o,u⟩:=v;obtain⟨c,b,f,a⟩:=j;dsimp only at c b f a;unfold MJ.b0;refine Y.DY (λp=>?_) (λ_=>Y.rl ⟨c,b,f,a⟩);have p:0<k:=Cp.1 p;have e:gS .i64 k 1=k-1:=iz (by omega) (by omega);refine Y.Eb (by grind) (by grind) λs B=>?_;have E:=a s B;refine Y.bind (Y.of (Q:=λ_=>True) (M4 t s) trivial) λF _=>Y.DY (λ_=>?_) (λ_=>Y.rl ⟨c,b,f,a⟩);refine Y.Eb (by grind) (by grind) λJ D=>Y.Eb c b λK _=>Y.so (Y.l ⟨⟨?_,?_,?_,?_⟩,?_⟩);· grind
   · grind
   · grind
   · intro x d;rcases List.mem_or_eq_of_mem_set d with i|rfl;· exact a x i
     · exact a _ D
   grind
 · refine⟨?_,?_,r,A⟩;· grind
   grind
 · obtain⟨k,o,u⟩:=v;obtain⟨c,b,f,a⟩:=j;dsimp only at c b f a;refine Y.Eb c b λG _=>Y.so ?_;have n:List.length (o.set k.toNat t)=l.length+1:=by grind
   have w:(Ty.sl iv).Ok (o.set k.toNat t):=Dk (Nat.le_trans (Nat.le_of_eq n) (show l.length+1<=9223372036854775807 by omega)) (λx d=>by
   rcases List.mem_or_eq_of_mem_set d with i|rfl;· exact a x i
   omega);have m:Y (bif dE (List.length ([]:List cp)+l.length) 56 then some ((bV ([]:List cp) l,()),((false,()),())) else none) (λy=>(y.2.1.1=false/\y.1.1=l)\/(y.2.1.1=true/\rS l=true/\rS y.1.1=true/\(Ty.sl iv).Ok y.1.1/\List.length y.1.1<=20/\List.length y.1.1=l.length+1)):=Y.dE (by grind) (by decide) (by decide) (Y.mk (.inl ⟨rfl,by simp[bV]⟩));refine Y.eq (OR l z) (Y.DY (λ_=>m) (λq=>Y.eq (OR (o.set k.toNat t) w) (Y.DY (λ_=>m) (λg=>Y.mk ?_))));have q:rS l=true:=by grind
   have g:rS (o.set k.toNat t)=true:=by grind
   refine .inr ⟨rfl,q,g,w,?_,n⟩;have :=g;unfold rS at this;simp only[Bool.and_eq_true]at this;have :=Cq.1 this.2;grind
def Ff(n:ao)(q:List cp):ao:=(n.1,(n.2.1,(n.2.2.1,(n.2.2.2.1,(n.2.2.2.2.1,(n.2.2.2.2.2.1,(n.2.2.2.2.2.2.1,(n.2.2.2.2.2.2.2.1,(n.2.2.2.2.2.2.2.2.1,(n.2.2.2.2.2.2.2.2.2.1,(n.2.2.2.2.2.2.2.2.2.2.1,(n.2.2.2.2.2.2.2.2.2.2.2.1,(n.2.2.2.2.2.2.2.2.2.2.2.2.1,(n.2.2.2.2.2.2.2.2.2.2.2.2.2.1,(n.2.2.2.2.2.2.2.2.2.2.2.2.2.2.1,(n.2.2.2.2.2.2.2.2.2.2.2.2.2.2.2.1,(n.2.2.2.2.2.2.2.2.2.2.2.2.2.2.2.2.1,(n.2.2.2.2.2.2.2.2.2.2.2.2.2.2.2.2.2.1,(q,(n.2.2.2.2.2.2.2.2.2.2.2.2.2.2.2.2.2.2.2.1,()))))))))))))))))))))
def Fl(n:ao):ao:=Ff (Fb (EB n []) []) []
theorem IT(n:ao):(Fl n).1=n.1:=rfl
theorem IU(n:ao):(Fl n).2.1=n.2.1:=rfl
theorem W0(n:ao):fl (Fl n)=fl n:=rfl
theorem W2(n:ao):ar (Fl n)=ar n:=rfl
theorem Ny{n:ao}(a:NW n){q:List cp}(c:(Ty.sl iv).Ok q)(b:W1 q.length):NW (Ff n q):=by have h:=a.v.h;have o:=h.ok;have l:=h.l;refine NW.So (E:=n.2.1.toNat) (P:=n.2.1.toNat) ⟨⟨⟨o.1,o.2.1,o.2.2.1,o.2.2.2.1,o.2.2.2.2.1,o.2.2.2.2.2.1,o.2.2.2.2.2.2.1,o.2.2.2.2.2.2.2.1,o.2.2.2.2.2.2.2.2.1,o.2.2.2.2.2.2.2.2.2.1,o.2.2.2.2.2.2.2.2.2.2.1,o.2.2.2.2.2.2.2.2.2.2.2.1,o.2.2.2.2.2.2.2.2.2.2.2.2.1,o.2.2.2.2.2.2.2.2.2.2.2.2.2.1,o.2.2.2.2.2.2.2.2.2.2.2.2.2.2.1,o.2.2.2.2.2.2.2.2.2.2.2.2.2.2.2.1,o.2.2.2.2.2.2.2.2.2.2.2.2.2.2.2.2.1,o.2.2.2.2.2.2.2.2.2.2.2.2.2.2.2.2.2.1,c,o.2.2.2.2.2.2.2.2.2.2.2.2.2.2.2.2.2.2.2.1,trivial⟩,?_,h.t,h.d,h.p⟩,a.v.Hg,a.v.ep,a.v.le,a.v.vo,a.v.go,a.v.dn,a.v.pa⟩ a.e0 a.pa;exact⟨l.1,l.2.1,l.2.2.1,l.2.2.2.1,l.2.2.2.2.1,l.2.2.2.2.2.1,l.2.2.2.2.2.2.1,l.2.2.2.2.2.2.2.1,l.2.2.2.2.2.2.2.2.1,l.2.2.2.2.2.2.2.2.2.1,b,l.2.2.2.2.2.2.2.2.2.2.2.1,l.2.2.2.2.2.2.2.2.2.2.2.2⟩
theorem W3{n:ao}(a:NW n):NW (Fl n):=Ny (Nq (EG a CK (Nat.zero_le _)) CK (Nat.zero_le _)) CK (Nat.zero_le _)
theorem gd{x a b:Int}:Di x a b=true↔a<=x/\x<=b:=by simp[Di,km]
structure ZL(b:an):Prop where
 id:0<=b.1/\b.1<=100000
 ep:0<=b.2.1/\b.2.1<=900
 rd:1<=b.2.2.1/\b.2.2.1<=10000
 by':fb b.2.2.2.1=true
 qc:H8 (i0 b) (gS .i64 b.2.2.1 1) (gS .i64 b.1 1)=true
 tc:Ks (re b) (gS .i64 b.2.2.1 1)=true
 tl:(po b).length<=4
 tx:(po b).all M1=true
 bo:Jb b=true
theorem Mm{b:an}(h:gq b=true):ZL b:=by unfold gq at h;simp only[Bool.and_eq_true,Bool.not_eq_true']at h;obtain⟨k,e,a,f,j,i,g,d,c⟩:=h;exact⟨gd.1 k,gd.1 e,gd.1 a,f,j,i,by have :=Au.1 g;omega,d,c⟩
theorem K4{l:List D9}(h:nx l=true):l.length<=20:=by unfold nx at h;simp only[Bool.and_eq_true]at h;have :=Cq.1 h.2;omega
theorem P7{q:k0}{r i:Int}(h:H8 q r i=true):List.length q.2.2.1<=20:=by
 unfold H8 ks at h;simp only[Bool.or_eq_true,Bool.and_eq_true]at h;rcases h with h|h;·simp_all[D9,gA,Cr]
 ·exact K4 h.2.2
theorem P8{t:vc}{r:Int}(h:Ks t r=true):List.length t.2.1<=20/\List.length t.2.2.1=List.length t.2.1:=by
 unfold Ks sU at h;simp only[Bool.or_eq_true,Bool.and_eq_true]at h;rcases h with h|h;·simp_all[D9,D3,gA,Cr]
 ·have a:=Cr.1 h.2.2.1;exact⟨K4 h.2.1,by omega⟩
structure W4(m:ie):Prop where
 to:fb m.2.1=true
 ep:0<=m.2.2.1/\m.2.2.1<=900
 q:H8 (mQ m) 10000 100000=true
 t:Ks (mT m) 10000=true
 bs:∀b∈n6 m,gq b=true/\b.2.1=m.2.2.1
 bl:(n6 m).length<=400
 kd:xC m.1 ((n6 m).length:Int) (mV0 m) (XK m) (WD m) (Zb m) (ks (mQ m)) (sU (mT m))=true
theorem ZM{m:ie}(h:C7 m=true):W4 m:=by unfold C7 D2 at h;simp only[Bool.and_eq_true,List.all_eq_true]at h;obtain⟨j,e,d,f,⟨c,i⟩,g⟩:=h;exact⟨j,gd.1 e,d,f,λb a=>⟨(c b a).1,Cr.1 (c b a).2⟩,by have :=Cq.1 i;omega,g⟩
theorem W4.s{m:ie}(h:W4 m):ZK m:=⟨Nat.le_trans (P7 h.q) (by decide),Nat.le_trans (P8 h.t).1 (by decide),h.bl,λb c=>by have a:=Mm (h.bs b c).1;exact⟨Nat.le_trans (P7 a.qc) (by decide),Nat.le_trans (P8 a.tc).1 (by decide)⟩⟩
structure GM(w:ee)(m:ie)(nb:List an):Prop where
 K5:GL m
 ok:C7 m=true
 to:wt (aa w) m.2.1=true
 sg:Hn (hH w) (df w) m=true
 Hr:(n6 m).length<=1
 nw:nb=[]\/∃b,n6 m=[b]/\nb=[b]/\b.1=((ab w).length:Int)/\ke (df w) b.2.2.2.1=true/\(ab w).length<1000
 bu2:nb=[]->∀b∈n6 m,b.1<((ab w).length:Int)/\w6 (ab w) b=true
def xx(w:ee)(m:ie)(a:List an):ee:=Fc (IS w (aa w) (ab w++a) (hH w) (gl w)) [m] []
structure W5(m:ie):Prop where
 ok:H9 m
 l:HR m
 Hr:(n6 m).length<=1
theorem W5.K5{m:ie}(h:W5 m)(b:C7 m=true):GL m:=⟨h.ok,h.l,λe c=>by unfold C7 at b;simp only[Bool.and_eq_true]at b;have a:=b.2.2.2.2.2;unfold xC at a;rw[e,c]at a;simp[gA]at a⟩
theorem W6{E S:Nat}{w:ee}(h:WI E S w)(ψ:S<=900000){m:ie}(d:W5 m):Y (zs (w,(m,()))) (λy=>(y.1.1=false/\y.2.1=w)\/(y.1.1=true/\∃a,GM w m a/\y.2.1=xx w m a)):=by
 have J:Al (aa w).length:=by have :=h.nl;omega
 have j:Al (df w).length:=by have :=h.Vr;omega
 have T:Al (hH w).length:=by have :=h.sl;omega
 have τ:(ab w).length<=1000:=h.bl;have g:Y (some ((((false,()),(w,())):(Bool×Unit)×(ee×Unit)))) (λy=>(y.1.1=false/\y.2.1=w)\/(y.1.1=true/\∃a,GM w m a/\y.2.1=xx w m a)):=Y.mk (.inl ⟨rfl,rfl⟩);have t:=d.Hr;have O:∀a:List an,zl (IS w (aa w) (ab w++a) (hH w) (gl w),((([m]:List ie),()),((([]:List gx),()),())))=some (xx w m a,()):=λa=>Ho (IS w (aa w) (ab w++a) (hH w) (gl w)) [m] [] J (by grind) (by grind) h.nt (by have :=h.sl;grind);have F:zl (w,((([m]:List ie),()),((([]:List gx),()),())))=some (xx w m [],()):=by grind
 unfold zs;refine Y.eq (XL m d.ok) (Y.DY (λ_=>g) (λf=>?_));have f:C7 m=true:=by grind
 refine Y.eq (G4 w m.2.1 J) (Y.DY (λ_=>g) (λi=>?_));have i:wt (aa w) m.2.1=true:=by have e:=Uu (aa w) m.2.1;rw [<-e];have :=Au.1 i;exact HQ this
 refine Y.eq (Ut (hH w) (df w) m (ZM f).s d.ok.bs.1 j T) (Y.DY (λ_=>g) (λk=>?_));have k:Hn (hH w) (df w) m=true:=by grind
 have x:=d.K5 f;have Q:∀b∈n6 m,gq b=true:=λb p=>by have :=f;unfold C7 D2 at this;grind
 match p:n6 m with
 |[]=>refine Y.eq (y:=Sum.inl ((0:Int),())) (cS ?_) (Y.eq (Jw m d.l) (Y.eq F (Y.mk (.inr ⟨rfl,[],⟨x,f,i,k,t,.inl rfl,λ_ b z=>(by grind)⟩,rfl⟩))));unfold zs.b0;exact uM (show ((n6 m).length:Int)<=0 by grind) rfl|[b]=>
 have z:b∈n6 m:=by grind
 have β:=d.ok.kp d.l b z;have θ:=Q b z;have W:=(TM θ).1;have v:(0:Int)<((n6 m).length:Int):=by grind
 have C:bK (n6 m) 0=some b:=by rw [p];rfl
 have N:zs.b0 (w,(m,())) ((1:Int),())=some (.inr (.inl ((1:Int),()))):=by unfold zs.b0;exact uM (show ((n6 m).length:Int)<=1 by omega) rfl
 by_cases l:b.1<((ab w).length:Int);·have I:=IH W l;have H:aC (ab w) (Int.toNat b.1)=some ((ab w)[b.1.toNat]'(by omega)):=qn (by omega);have K:=KC ((ab w)[b.1.toNat]'(by omega)) b (Ae h.bo.2 (List.getElem_mem _));cases φ:p8 ((ab w)[b.1.toNat]'(by omega)) b with|false=>refine Y.eq (y:=Sum.inr ((false,()),(w,()))) (cS ?_) g;unfold zs.b0;refine uL v (bw C (uL l (bw I (bw H (bw K (cl (by grind) rfl))))))|true=>
  refine Y.eq (y:=Sum.inl ((1:Int),())) ?_ (Y.eq (Jw m d.l) (Y.eq F (Y.mk (.inr ⟨rfl,[],⟨x,f,i,k,t,.inl rfl,λ_ c L=>?_⟩,rfl⟩))))
  · have Z:zs.b0 (w,(m,())) ((0:Int),())=some (.inl ((1:Int),())):=by unfold zs.b0;refine uL v (bw C (uL l (bw I (bw H (bw K (uN (by grind) rfl))))))
    rw [de Z];exact cS N
  · rw [p,List.mem_singleton] at L;rw [L];refine ⟨l,?_⟩;unfold w6;grind
 · have δ:dO b.1 ((ab w).length:Int)=false:=Au.2 (by omega);have u:∀r,(bif gA b.1 ((ab w).length:Int) then (Gq ((df w,()),((b.2.2.2.1,()),()))).bind λκ=>bif κ.1.1 then bif dO ((ab w).length:Int) (1000:Int) then bif dE (List.length ([]:List an)+(ab w).length) 208 then (I2 (b,())).bind λM=>bif dE (List.length (bV ([]:List an) (ab w))+List.length ([M.1]:List an)) 208 then Option.map (λq=>.inr (.inr q)) ((aR (zs.b1 (w,(m,()))) (bV (bV ([]:List an) (ab w)) ([M.1]:List an),(cM .i64 (0:Int) (1:Int),()))).bind λα=>Sum.elim (λγ=>(Kf (m,())).bind λA=>(zl (IS w (aa w) γ.1 (hH w) (gl w),((([A.1]:List ie),()),((([]:List gx),()),())))).bind λD=>some ((true,()),(D.1,()))) some α) else none else none else some (.inr (.inr ((false,()),(w,())))) else some (.inr (.inr ((false,()),(w,())))) else some (.inr (.inr ((false,()),(w,())))):Option (Sum (Int×Unit) (Sum (Int×Unit) ((Bool×Unit)×(ee×Unit)))))=r->zs.b0 (w,(m,())) ((0:Int),())=r:=λr μ=>by unfold zs.b0;exact uL v (bw C (uN δ μ))
   have G:zs.b0 (w,(m,())) ((0:Int),())=some (.inr (.inr ((false,()),(w,()))))->Y ((aR (zs.b0 (w,(m,()))) ((0:Int),())).bind λX=>Sum.elim (λσ=>(Kf (m,())).bind λV=>(zl (w,((([V.1]:List ie),()),((([]:List gx),()),())))).bind λU=>some ((true,()),(U.1,()))) some X) (λy=>(y.1.1=false/\y.2.1=w)\/(y.1.1=true/\∃a,GM w m a/\y.2.1=xx w m a)):=λe=>Y.eq (cS e) g;cases n:gA b.1 ((ab w).length:Int) with|false=>grind|true=>have ε:=Cr.1 n;cases o:ke (df w) b.2.2.2.1 with|false=>exact G (u _ (cl n (bw (I5 (df w) _ j) (uN o rfl))))|true=>cases B:dO ((ab w).length:Int) 1000 with|false=>exact G (u _ (cl n (bw (I5 (df w) _ j) (cl o (uN B rfl)))))|true=>
 have ρ:=Cp.1 B;have P:zs.b1 (w,(m,())) (ab w++[b],((1:Int),()))=some (.inr (.inl (ab w++[b],((1:Int),())))):=by unfold zs.b1;exact uM (show ((n6 m).length:Int)<=1 by omega) rfl
 have R:zs.b0 (w,(m,())) ((0:Int),())=some (.inr (.inr ((true,()),(xx w m [b],())))):=by refine u _ (cl n (bw (I5 (df w) _ j) (cl o (cl B (cl (BO (by grind) (by decide) (by decide)) (bw (HM b β.2) (cl (BO (by show (([]:List an)++ab w).length+1<=_;grind) (by decide) (by decide)) ?_)))))));have π:(aR (zs.b1 (w,(m,()))) (bV (bV ([]:List an) (ab w)) [b],(cM .i64 0 1,())))=some (Sum.inl (ab w++[b],((1:Int),()))):=cS P;show Option.map _ ((aR (zs.b1 (w,(m,()))) (bV (bV ([]:List an) (ab w)) [b],(cM .i64 0 1,()))).bind _)=_;rw [π];have ω:((Kf (m,())).bind λA=>(zl (IS w (aa w) (ab w++[b]) (hH w) (gl w),((([A.1]:List ie),()),((([]:List gx),()),())))).bind λD=>some (((true,()),(D.1,())):(Bool×Unit)×(ee×Unit)))=some ((true,()),(xx w m [b],())):=bw (Jw m d.l) (bw (O [b]) rfl);grind
 exact Y.eq (cS R) (Y.mk (.inr ⟨rfl,[b],⟨x,f,i,k,t,.inr ⟨b,p,rfl,ε,o,by omega⟩,λe=>by cases e⟩,rfl⟩))|b::c::r=>grind
theorem RK{E S:Nat}{w:ee}(h:WI E S w)(n:S<=900000){m:ie}{g:List an}(f:GM w m g):WI E (S+1) (xx w m g):=by
 have k:∀b∈g,lf.Ok b/\e8 b:=λb a=>by
  rcases f.nw with e|⟨c,l,j,_⟩;·grind
  ·rw[j,List.mem_singleton]at a;rw[a];exact f.K5.ok.kp f.K5.l c (by grind)
 have i:(ab w++g).length<=1000:=by
  rw[List.length_append];rcases f.nw with e|⟨c,l,j,_,_,q⟩;·rw[e];have :=h.bl;omega
  grind
 refine FI (w:=IS w (aa w) (ab w++g) (hH w) (gl w)) ⟨h.Ic,h.HV,h.Hg,h.fo,h.Vr,h.nl,h.nd,Dk (Nat.le_trans i (by decide)) (λb a=>?_),i,λb a=>?_,h.so,h.sl,h.nt,h.nm⟩ (λx p=>by rw[List.mem_singleton.1 p];exact f.K5) (λs o=>by cases o) n (Nat.zero_le _)
 · rcases List.mem_append.1 a with d|d;· exact Ae h.bo.2 d
   · exact (k b d).1
 · rcases List.mem_append.1 a with d|d;· exact h.bL b d
   grind
def FR(w:ee)(m:ie):Prop:=m.1≠4/\∃n∈aa w,((IE m).1<=1\/(IE m).1<=ad n\/∃b∈ag n,(IE m).1=b.2.2.1)/\((IF m).1=0\/(IF m).1=ad n)/\∀b∈n6 m,b.2.2.1<=ad n+((ar n).length:Int)
inductive qL(w:ee):ee->Prop|same:qL w w|Eb(m:ie):m∈gl w->(gl w).length<400->qL w (IS w (aa w) (ab w) (hH w) (gl w++[m]))|drop (k:Nat):qL w (Fe w k)|AN (k:Nat) (hk:k<(gl w).length):qL w (q9 (Fe w k) (gl w)[k])|Mn (j:Nat) (hj:j<(aa w).length):(ab w).length<1000->qL w (Hq w j (aa w)[j])|Hs (j:Nat) (hj:j<(aa w).length):qL w (E7 w j (aa w)[j])|JL (j:Nat) (hj:j<(aa w).length) (k:Nat) (hk:k<(aa w).length):qL w (Es w (aa w)[j] (aa w)[k])|FJ (j:Nat) (hj:j<(aa w).length) (q:List cp):(q=nr (aa w)[j]\/(rS (nr (aa w)[j])=true/\rS q=true))->(Ty.sl iv).Ok q->W1 q.length->qL w (lb w j (Ff (aa w)[j] q))|GN (j:Nat) (hj:j<(aa w).length):qL w (lb w j (Fl (aa w)[j]))|JM (m:ie) (nb:List an):GM w m nb->FR w m->qL w (xx w m nb)|Ii (j:Nat) (hj:j<(aa w).length) (k:Nat) (hk:k<(aa w).length):(hM (aa w)[j] (aa w)[k].2.1 (aa w)[k].1).2.1.1=true->qL w (q9 w (hM (aa w)[j] (aa w)[k].2.1 (aa w)[k].1).1)
theorem F1{a:List ao}{k:Nat}(b:k<a.length):wt a a[k].1=true:=by unfold wt;rw[List.any_eq_true];exact⟨a[k],List.getElem_mem b,xD _⟩
theorem A1(n:ao)(a:Int)(b:ByteArray)(h:(hM n a b).2.1.1=true):(hM n a b).1.2.1=b/\(hM n a b).1.2.2.1=a/\(hM n a b).1.1=4:=by unfold hM at h⊢;cases c:gA a n.2.1 with|true=>exact⟨rfl,rfl,rfl⟩|false=>rw[c]at h;cases d:(bb n).find? (λp=>gA p.1 a)with|none=>grind|some p=>exact⟨rfl,rfl,rfl⟩
theorem qL.wi{E S:Nat}{w r:ee}(s:qL w r)(h:WI E S w)(o:E<890)(f:S<=900000):WI (E+1) (S+1) r:=by
 cases s with|same=>grind[WI.up]|Eb m d p=>
 refine WI.up (E:=E) (S:=S) ⟨h.Ic,h.HV,h.Hg,h.fo,h.Vr,h.nl,h.nd,h.bo,h.bl,h.bL,h.so,h.sl,?_,λx v=>?_⟩ (Nat.le_succ _) (Nat.le_succ _);·grind
 · rcases List.mem_append.1 v with g|g;· exact h.nm x g
   · rw[List.mem_singleton.1 g];exact h.nm m d|drop k=>grind[WI.up,Fe,u3]|AN k b=>have d:=h.nm _ (List.getElem_mem b);exact Nx (u3 h k) o f d.1 d.2|Mn j a A=>grind[Uw]|Hs j a=>grind[RI]|JL j a k b=>exact (RJ h f a b).up (Nat.le_succ _) (Nat.le_refl _)|FJ j a q _ u p=>obtain⟨c,e⟩:=h.nd _ (List.getElem_mem a);exact (B7 (n:=Ff (aa w)[j] q) h a rfl (Ny c u p) e).up (Nat.le_succ _) (Nat.le_succ _)|GN j a=>obtain⟨c,e⟩:=h.nd _ (List.getElem_mem a);exact (B7 (n:=Fl (aa w)[j]) h a (IT _) (W3 c) (by rw[IU];exact e)).up (Nat.le_succ _) (Nat.le_succ _)|JM m z y _=>grind[WI.up,xx,RK]|Ii j a k b l=>obtain⟨c,_⟩:=h.nd _ (List.getElem_mem a);obtain⟨i,_⟩:=h.nd _ (List.getElem_mem b);have t:=A1 _ _ _ l;exact Nx h o f (s8 c i.v.h.ok.2.1 i.v.h.ok.1 l) (by rw[t.1];exact F1 b)
abbrev XT:Type:=Sp
def eT(e:XT):cp:=(e.2.2.2.1,(e.2.2.2.2.1,(e.2.2.2.2.2.1,(e.2.2.2.2.2.2.1,(e.2.2.2.2.2.2.2.1,())))))
def eM(e:XT):ie:=e.2.2.2.2.2.2.2.2
structure Pd(e:XT):Prop where t:iv.Ok (eT e)m:W5 (eM e)
theorem RL{w:ee}{k:Nat}(a:k<(gl w).length)(b:(gl w).length<=400):bV (bV ([]:List ie) (List.take (Int.toNat (k:Int)-0) (List.drop 0 (gl w)))) (List.take ((gl w).length-Int.toNat (cM .i64 (k:Int) 1)) (List.drop (Int.toNat (cM .i64 (k:Int) 1)) (gl w)))=(gl w).take k++(gl w).drop (k+1):=by have e:cM .i64 (k:Int) 1=((k+1:Nat):Int):=wG (n:=400) (by omega) (by omega);rw[e,BM,Int.toNat_natCast];unfold bV;rw[List.nil_append];congr 1;rw[List.take_of_length_le];grind
theorem am6{E S:Nat}{w:ee}(h:WI E S w)(p:E<890)(x:S<=900000)(e:XT):Y (VX (w,(e,()))) (λy=>qL w y.2.1):=by
 have j:=h.nt;have t:gS .i64 ((gl w).length:Int) 1=((gl w).length:Int)-1:=iz (by omega) (by omega);unfold VX;refine Y.eq (mh _ _ _) (Y.DY (λ_=>Y.mk .same) (λc=>?_));have c:Di e.2.1 0 (gS .i64 ((gl w).length:Int) 1)=true:=by grind
 rw[t]at c;have c:0<=e.2.1/\e.2.1<=((gl w).length:Int)-1:=by simpa[Di,km]using c
 obtain⟨k,f⟩:=Int.eq_ofNat_of_zero_le c.1;have b:k<(gl w).length:=by omega
 have d:=h.nm _ (List.getElem_mem b);have r:bK (gl w) e.2.1=some (gl w)[k]:=by rw[f];exact cB b
 have q:aC (gl w) (Int.toNat e.2.1)=some (gl w)[k]:=by rw[f];exact qn b
 refine Y.eq r (Y.eq q (Y.DY (λ_=>?_) (λ_=>?_)))
 · refine Y.DZ (P:=λv=>v.1=gl w\/((gl w).length<400/\v.1=gl w++[(gl w)[k]])) (R:=λ_=>False) (Y.DY (λi=>Y.eq (Jw _ d.1.l) (Y.dE (by grind) (by decide) (by decide) (Y.l (.inr ⟨by have z:((gl w).length:Int)<400:=Cp.1 i;omega,rfl⟩)))) (λ_=>Y.l (.inl rfl))) (λv a=>Y.mk ?_) (λ_ h=>h.elim);rcases a with a|⟨i,a⟩;· show qL w (IS w (aa w) (ab w) (hH w) v.1);rw[a];exact .same
   · show qL w (IS w (aa w) (ab w) (hH w) v.1);rw[a];exact .Eb _ (List.getElem_mem b) i
 · have B:cM .i64 (k:Int) 1=((k+1:Nat):Int):=wG (n:=400) (by omega) (by omega);have u:mX e.2.1 (gl w).length=true:=by unfold mX;grind
   have s:mX (cM .i64 e.2.1 1) (gl w).length=true:=by unfold mX;grind
   have o:=RL b j;refine Y.tt u (Y.dE (by grind) (by decide) (by decide) (Y.tt s (Y.dE ?_ (by decide) (by decide) ?_)));· have A:List.length w.2.2.2.2.2.2.1<=400:=j;unfold bV;grind
   · have g:(IS w (aa w) (ab w) (hH w) (bV (bV ([]:List ie) (List.take (Int.toNat e.2.1-0) (List.drop 0 (gl w)))) (List.take ((gl w).length-Int.toNat (cM .i64 e.2.1 1)) (List.drop (Int.toNat (cM .i64 e.2.1 1)) (gl w)))))=Fe w k:=by rw[f];show IS w (aa w) (ab w) (hH w) (bV (bV ([]:List ie) (List.take (Int.toNat (k:Int)-0) (List.drop 0 (gl w)))) (List.take ((gl w).length-Int.toNat (cM .i64 (k:Int) 1)) (List.drop (Int.toNat (cM .i64 (k:Int) 1)) (gl w))))=_;rw[o];rfl
     have m:=WY (u3 h k) p x d.1 d.2;rw[<-g]at m;refine Y.DZ (P:=λv=>qL w v) (R:=λ_=>False) (Y.DY (λ_=>Y.eq m (Y.l ?_)) (λ_=>Y.l ?_)) (λv a=>Y.mk a) (λ_ h=>h.elim);· show qL w (q9 _ _);rw[g];exact .AN k b
     · show qL w (IS w (aa w) (ab w) (hH w) _);rw[g];exact .drop k
theorem RM(n:ao):YG (n,())=some (Fl n,()):=rfl
theorem bu3{E S:Nat}{w:ee}(h:WI E S w)(l:E<890)(d:S<=900000){e:XT}(t:Pd e)(C:gA e.1 9=true->FR w (eM e)):Y (F63 (w,(e,()))) (λy=>qL w y.2.1):=by
 have K:=h.nl;have u:gS .i64 ((aa w).length:Int) 1=((aa w).length:Int)-1:=iz (by omega) (by omega);unfold F63;refine Y.DZ (P:=λ_=>True) (R:=λ_=>False) (Y.DY (λ_=>Y.l trivial) (λ_=>Y.DY (λ_=>Y.l trivial) (λ_=>Y.l trivial))) (λv _=>Y.DY (λ_=>Y.bind (am6 h l d e) λy b=>Y.mk b) (λ_=>Y.DY (λD=>Y.bind (W6 h d t.m) λy b=>Y.mk ?_) (λ_=>Y.eq (mh _ _ _) (Y.DY (λ_=>Y.mk .same) (λf=>?_))))) (λ_ h=>h.elim)
 · rcases b with⟨_,b⟩|⟨_,G,o,b⟩;· rw[b];exact .same
   · rw[b];exact .JM _ G o (C D)
 · have f:Di e.2.1 0 (gS .i64 ((aa w).length:Int) 1)=true:=by grind
   rw[u]at f;have f:0<=e.2.1/\e.2.1<=((aa w).length:Int)-1:=by simpa[Di,km]using f
   obtain⟨j,c⟩:=Int.eq_ofNat_of_zero_le f.1;have a:j<(aa w).length:=by omega
   obtain⟨i,L⟩:=h.nd _ (List.getElem_mem a);have n:bK (aa w) e.2.1=some (aa w)[j]:=by rw[c];exact cB a
   have m:aC (aa w) (Int.toNat e.2.1)=some (aa w)[j]:=by rw[c];exact qn a
   refine Y.DY (λ_=>?_) (λ_=>Y.DY (λ_=>?_) (λ_=>Y.DY (λ_=>?_) (λ_=>Y.DY (λ_=>?_) (λ_=>Y.DY (λ_=>?_) (λ_=>Y.mk .same)))))
   · show Y ((QP (w,((e.2.1,()),()))).bind _) _;rw[c];rcases Nat.lt_or_ge (ab w).length 1000 with p|p;· exact Y.eq (WZ h l d a p) (Y.mk (.Mn j a p))
     · refine Y.eq (y:=((false,()),(w,()))) ?_ (Y.mk .same);unfold QP;exact cl (by show km 1000 ((ab w).length:Int)=true;exact Cq.2 (by omega)) rfl
   · show Y ((SL (w,((e.2.1,()),()))).bind _) _;rw[c];exact Y.eq (Ux h l d a) (Y.mk (.Hs j a))
   · show Y ((QQ (w,((e.2.1,()),((e.2.2.1,()),())))).bind _) _;rw[c];by_cases g:0<=e.2.2.1/\e.2.2.1<=((aa w).length:Int)-1
     · obtain⟨k,F⟩:=Int.eq_ofNat_of_zero_le g.1;have s:k<(aa w).length:=by omega
       rw[F];exact Y.eq (Uy h d a s) (Y.mk (.JL j a k s))
     · refine Y.eq (y:=((false,()),(w,()))) ?_ (Y.mk .same);unfold QQ;have M:Di e.2.2.1 0 (gS .i64 ((aa w).length:Int) 1)=false:=by rw[u];cases o:Di e.2.2.1 0 (((aa w).length:Int)-1) with|false=>rfl|true=>exact absurd (by simpa[Di,km]using o) g
       exact bw (mh _ _ _) (cl (by grind) rfl)
   · show Y ((VZ (w,((e.2.1,()),(eT e,())))).bind _) _;have A:=K3 (nr (aa w)[j]) (eT e) i.v.h.ok.kB i.v.h.l.2.2.2.2.2.2.2.2.2.2.1 t.t;refine Y.bind (P:=λy=>qL w y.2.1) ?_ (λy b=>Y.mk b);unfold VZ;refine Y.eq n (Y.eq m (Y.bind A λx g=>Y.eq n (Y.eq m (Y.eq rfl (Y.mk ?_)))));have z:qL w (lb w j (Ff (aa w)[j] x.1.1)):=by
      rcases g with⟨_,q⟩|⟨_,I,B,J,H,_⟩;· exact .FJ j a _ (.inl q) (by rw[q];exact i.v.h.ok.kB) (by rw[q];exact i.v.h.l.2.2.2.2.2.2.2.2.2.2.1)
      · exact .FJ j a _ (.inr ⟨I,B⟩) J (Nat.le_trans H (by decide))
     have r:Int.toNat e.2.1=j:=by omega
     show qL w (IS w ((aa w).set (Int.toNat e.2.1) (Ff (aa w)[j] x.1.1)) (ab w) (hH w) (gl w));rw[r];exact z
   · refine Y.eq n (Y.eq m (Y.eq (RM _) (Y.eq rfl (Y.mk ?_))));have r:Int.toNat e.2.1=j:=by omega
     show qL w (IS w ((aa w).set (Int.toNat e.2.1) (Fl (aa w)[j])) (ab w) (hH w) (gl w));rw[r];exact .GN j a
theorem am7{t:cp}(h:txS t):iv.Ok t:=⟨DX (by have :=h.2.1;omega) (by have :=h.1;omega),Nat.le_trans h.2.2.1 (by decide),Nat.le_trans h.2.2.2.1 (by decide),DX (by have :=h.2.2.2.2.1;omega) (by have :=h.2.2.2.2.2.1;omega),DX (by have :=h.2.2.2.2.2.2.1;omega) (by have :=h.2.2.2.2.2.2.2;omega),trivial⟩
theorem Uz(c:PX)(a:Int)(r:A0 c)(u:a<=1000):Y (OB (c,((a,()),()))) (λy=>(Ty.sl iv).Ok y.1.1/\List.length y.1.1<=20/\A0 y.2.1/\y.2.1.1=c.1):=by
 unfold OB;refine Y.bind (la c a r) λw k=>?_;refine Y.DZ (P:=λv=>(Ty.sl iv).Ok v.1/\List.length v.1<=20/\A0 v.2.2/\v.2.2.1=c.1) (R:=λ_=>False) (Y.loop (I:=λv=>0<=v.2.1/\v.2.1<=1000/\(Ty.sl iv).Ok v.1/\List.length v.1<=20/\A0 v.2.2/\v.2.2.1=c.1) (λv=>v.2.1.toNat) (λv l=>?_) _ ⟨k.1,?_,CK,Nat.zero_le _,k.2.2.2.1,k.2.2.2.2⟩) (λv l=>Y.mk l) (λ_ h=>h.elim)
 · obtain ⟨o,i,s⟩:=v;obtain ⟨n,p,d,f,g,j⟩:=l;dsimp only at n p d f g j;unfold OB.b0;refine Y.DY (λm=>?_) (λ_=>Y.rl ⟨d,f,g,j⟩);have m:0<i:=Cp.1 m;have e:gS .i64 i 1=i-1:=iz (by omega) (by omega);refine Y.bind (XS s g) λq b=>Y.bind (K3 o q.1 d (Nat.le_trans f (by decide)) (am7 b.1)) λt x=>Y.l ⟨⟨?_,?_,?_,?_,b.2.1,b.2.2.trans j⟩,?_⟩;· grind
   · grind
   · grind
   · grind
   grind
 grind
theorem Nz{b:List e6}{d:ByteArray}{a r:Int}(q:0<=a)(c:F6 b d=true)(f:∀s,a<=s->s<r->rf b s≠d):r<=a+(b.length:Int):=by
 rcases Int.lt_or_le (a+(b.length:Int)) r with n|m
 · exfalso;unfold F6 at c;rw[List.any_eq_true]at c;obtain⟨v,k,h⟩:=c;obtain⟨i,w,rfl⟩:=List.getElem_of_mem k;have l:=n7.1 h;have e:(0:Int)<(b.length:Int):=by omega
   have g:∃s:Int,a<=s/\s<a+(b.length:Int)/\s%(b.length:Int)=(i:Int):=by
    refine⟨a+((i:Int)-a)%(b.length:Int),?_,?_,?_⟩;· have :=Int.emod_nonneg ((i:Int)-a) (show(b.length:Int)≠0 by omega);omega
    · have :=Int.emod_lt_of_pos ((i:Int)-a) e;omega
    · rw[Int.add_emod,Int.emod_emod_of_dvd _ (Int.dvd_refl _),<-Int.add_emod];rw[show a+((i:Int)-a)=(i:Int) by omega];exact Int.emod_eq_of_lt (by omega) (by omega)
   obtain⟨s,j,t,o⟩:=g;refine f s j (by omega) ?_;unfold rf;have p:gA (b.length:Int) 0=false:=CN.2 (by omega);have u:dO s 0=false:=Au.2 (by omega);have a3:ph s (b.length:Int)=(i:Int):=by unfold ph;grind
   grind
 omega
abbrev FvT:Type:=List D5×(Int×(Int×(Int×(Int×(Int×(ByteArray×(Int×(Int×(List D9×(Int×(Int×(ByteArray×(List an×Unit)))))))))))))
def XU(b:ByteArray)(a:Int)(v:FvT):ie:=(v.2.2.2.1,(b,(a,(v.2.2.2.2.2.2.2.2.2.2.2.2.2.1,(v.2.2.2.2.1,(v.2.2.2.2.2.1,(v.2.2.2.2.2.2.1,(v.2.2.2.2.2.2.2.2.2.2.1,(v.2.2.2.2.2.2.2.2.2.2.2.1,(v.2.2.2.2.2.2.2.2.2.2.2.2.1,(v.2.2.2.2.2.2.2.1,(v.2.2.2.2.2.2.2.2.1,(v.2.2.2.2.2.2.2.2.2.1,(0,([],([],()))))))))))))))))
theorem JN{k f m h g o i j:Int}{e n l:ByteArray}{c:List an}{a:List D9}(x:(Lit.int .i64 k).wf=true)(q:Al e.size)(p:(Lit.int .i64 f).wf=true)(r:∀b∈c,lf.Ok b/\e8 b)(d:c.length<=1)(D:(Lit.int .i64 m).wf=true)(w:(Lit.int .i64 h).wf=true)(t:Al n.size)(A:(Lit.int .i64 g).wf=true)(z:(Lit.int .i64 o).wf=true)(y:Al l.size)(B:(Lit.int .i64 i).wf=true)(u:(Lit.int .i64 j).wf=true)(v:(Ty.sl e9).Ok a)(s:W1 a.length):W5 ((k,(e,(f,(c,(m,(h,(n,(g,(o,(l,(i,(j,(a,(0,([],([],())))))))))))))))):ie):=⟨⟨x,q,p,Dk (Nat.le_trans d (by decide)) (λb C=>(r b C).1),D,w,t,A,z,y,B,u,v,rfl,CK,CK,trivial⟩,⟨by grind,by grind,s,Nat.zero_le _,Nat.zero_le _⟩,d⟩
def XV(n:ao)(a:ByteArray)(r:Int)(q:k0)(kB:List cp):ao:=(a,(n.2.1,(n.2.2.1,(n.2.2.2.1,(n.2.2.2.2.1,(n.2.2.2.2.2.1,(r,(n.2.2.2.2.2.2.2.1,(q.1,(q.2.1,(q.2.2.1,(n.2.2.2.2.2.2.2.2.2.2.2.1,(n.2.2.2.2.2.2.2.2.2.2.2.2.1,(n.2.2.2.2.2.2.2.2.2.2.2.2.2.1,(n.2.2.2.2.2.2.2.2.2.2.2.2.2.2.1,(n.2.2.2.2.2.2.2.2.2.2.2.2.2.2.2.1,(n.2.2.2.2.2.2.2.2.2.2.2.2.2.2.2.2.1,(n.2.2.2.2.2.2.2.2.2.2.2.2.2.2.2.2.2.1,(kB,(n.2.2.2.2.2.2.2.2.2.2.2.2.2.2.2.2.2.2.2.1,()))))))))))))))))))))
theorem UA{n:ao}(h:J5 n){b:ByteArray}{r:Int}{q:k0}{kB:List cp}(f:Al b.size)(e:(Lit.int .i64 r).wf=true)(a:GO q)(d:(Ty.sl iv).Ok kB)(c:W1 kB.length):J5 (XV n b r q kB):=by have o:=h.ok;have l:=h.l;refine⟨⟨f,o.2.1,o.2.2.1,o.2.2.2.1,o.2.2.2.2.1,o.2.2.2.2.2.1,e,o.2.2.2.2.2.2.2.1,a.i1,a.i2,a.ok,o.2.2.2.2.2.2.2.2.2.2.2.1,o.2.2.2.2.2.2.2.2.2.2.2.2.1,o.2.2.2.2.2.2.2.2.2.2.2.2.2.1,o.2.2.2.2.2.2.2.2.2.2.2.2.2.2.1,o.2.2.2.2.2.2.2.2.2.2.2.2.2.2.2.1,o.2.2.2.2.2.2.2.2.2.2.2.2.2.2.2.2.1,o.2.2.2.2.2.2.2.2.2.2.2.2.2.2.2.2.2.1,d,o.2.2.2.2.2.2.2.2.2.2.2.2.2.2.2.2.2.2.2.1,trivial⟩,?_,h.t,h.d,h.p⟩;exact⟨l.1,l.2.1,l.2.2.1,l.2.2.2.1,a.w,l.2.2.2.2.2.1,l.2.2.2.2.2.2.1,l.2.2.2.2.2.2.2.1,l.2.2.2.2.2.2.2.2.1,l.2.2.2.2.2.2.2.2.2.1,c,l.2.2.2.2.2.2.2.2.2.2.2.1,l.2.2.2.2.2.2.2.2.2.2.2.2⟩
theorem UB{E S:Nat}{w:ee}(h:WI E S w)(hE:E<890)(ao:aa w≠[])(az:df w≠[])(c:PX)(hc:A0 c)(ak:∀n∈aa w,0<=ad n/\ad n<=100000/\(ar n).length<=12):Y (OF (c,(w,()))) (λy=>W5 y.1/\FR w y.1/\A0 y.2.1/\y.2.1.1=c.1/\y.2.2.1=w):=by
 have ax:(0:Int)<((aa w).length:Int):=by have :=List.length_pos_iff.2 ao;omega
 have ay:(0:Int)<((df w).length:Int):=by have :=List.length_pos_iff.2 az;omega
 have aN:=h.bl;unfold OF;refine Y.bind (la c _ hc) λμ z=>?_;have aM:=z.2.1 ax;obtain⟨j,σ⟩:=Int.eq_ofNat_of_zero_le z.1;have N:j<(aa w).length:=by grind
 have κ:bK (aa w) μ.1.1=some (aa w)[j]:=by rw[σ];exact cB N
 have o:aC (aa w) (Int.toNat μ.1.1)=some (aa w)[j]:=by rw[σ];exact qn N
 have g:(aa w)[j]∈aa w:=List.getElem_mem N;refine Y.eq κ (Y.eq o ?_);generalize (aa w)[j]=n at κ o g;obtain⟨u,aL⟩:=h.nd n g;obtain⟨ψ,ai,aD⟩:=ak n g;have d:=u.v.h.ok;have W:=u.v.h.l;have X:=d.EO W;refine Y.bind (la _ _ z.2.2.2.1) λy3 L=>?_;refine Y.bind (Y.gi (xs:=df w) (Q:=λx=>x∈df w) L.1 (L.2.1 ay) λ_ h=>h) λm aw=>?_;have B:Al m.1.size:=(Ae h.fo.2 aw).1;refine Y.bind (la _ _ L.2.2.2.1) λU V=>?_;have aB:U.2.1.1=c.1:=V.2.2.2.2.trans (L.2.2.2.2.trans z.2.2.2.2);have aI:=V.2.1 (by decide);have e7:gS .i64 (ad n) U.1.1=ad n-U.1.1:=iz (by omega) (by omega);refine Y.DZ (P:=λv=>(Lit.int .i64 v.1).wf=true/\(v.1<=1\/v.1<=ad n)) (R:=λ_=>False) (Y.DY (λ_=>Y.l ⟨rfl,.inl (Int.le_refl _)⟩) (λ_=>Y.l ⟨Dm _ _,.inr ?_⟩)) (λv6 π=>?_) (λ_ h=>h.elim);·grind
 refine Y.DZ (P:=λv=>A0 (v.1,(v.2.1,(v.2.2.1,())))/\v.1=c.1/\W5 (XU n.1 n.2.1 v)/\FR w (XU n.1 n.2.1 v)) (R:=λ_=>False) ?_ (λv f=>Y.mk ⟨f.2.2.1,f.2.2.2,f.1,f.2.1,rfl⟩) (λ_ h=>h.elim);refine Y.bind (la _ _ V.2.2.2.1) λy8 K=>?_;have l:y8.2.1.1=c.1:=K.2.2.2.2.trans aB;refine Y.DZ (P:=λ_=>True) (R:=λ_=>False) (Y.DY (λ_=>Y.l trivial) (λ_=>Y.l trivial)) (λv9 _=>?_) (λ_ h=>h.elim);refine Y.DY (λ_=>?_) (λ_=>Y.DY (λ_=>?_) (λ_=>?_))
 · have af:cM .i64 ((ab w).length:Int) 1=((ab w).length:Int)+1:=ed (by omega) (by omega);refine Y.bind (la _ _ K.2.2.2.1) λγ t=>?_;have φ:γ.1.1<cM .i64 ((ab w).length:Int) 1:=t.2.1 (by grind);rw[af]at φ;have ae:(Lit.int .i64 γ.1.1).wf=true:=DX (by omega) (by omega);refine Y.DY (λZ=>?_) (λ_=>Y.l ⟨t.2.2.2.1,t.2.2.2.2.trans l,JN rfl d.1 d.2.1 (λb a=>by cases a) (Nat.zero_le _) π.1 ae B rfl rfl (Nat.zero_le _) rfl rfl CK (Nat.zero_le _),⟨(by show (2:Int)≠4;decide),n,g,?_,.inl rfl,λb a=>by cases a⟩⟩)
   · have Z:(0:Int)<((ag n).length:Int):=Cp.1 Z;have aP:=u.v.h.t.Rg;refine Y.bind (la _ _ t.2.2.2.1) λp D=>Y.ff rfl ?_;have aE:p.1.1<((ag n).length:Int):=D.2.1 Z;have τ:=D.1;have eq:AV .i64 p.1.1 2=p.1.1/2:=by unfold AV;rw[Int.tdiv_eq_ediv_of_nonneg τ,nU (by omega) (by omega)]
     have es:gS .i64 ((ag n).length:Int) 1=((ag n).length:Int)-1:=iz (by omega) (by omega);have aH:gS .i64 (((ag n).length:Int)-1) (p.1.1/2)=((ag n).length:Int)-1-p.1.1/2:=iz (by omega) (by omega);refine Y.gT (xs:=ag n) (by grind) (by grind) λb a=>Y.l ?_;have θ:lf.Ok b:=Ae d.kA.2 a;exact⟨D.2.2.2.1,D.2.2.2.2.trans (t.2.2.2.2.trans l),JN rfl d.1 d.2.1 (λb a=>by cases a) (Nat.zero_le _) θ.2.2.1 θ.1 B rfl rfl (Nat.zero_le _) rfl rfl CK (Nat.zero_le _),⟨(by show (2:Int)≠4;decide),n,g,.inr (.inr ⟨b,a,rfl⟩),.inl rfl,λb a=>by cases a⟩⟩
   · rcases π.2 with h|h;· exact .inl h
     · exact .inr (.inl h)
 ·refine Y.eq (Fz (bx n) X.w) ?_;refine Y.DZ (P:=λv=>A0 (v.1,(v.2.1,(v.2.2.1,())))/\v.1=c.1/\GO ((v.2.2.2.1,(v.2.2.2.2.1,(v.2.2.2.2.2.1,()))):k0)) (R:=λ_=>False) (Y.bind (FD _ _ K.2.2.2.1) λω e=>Y.DY (λ_=>Y.l ⟨e.1,e.2.trans l,GO.ID⟩) (λ_=>Y.l ⟨e.1,e.2.trans l,X⟩)) (λv f=>Y.l ?_) (λ_ h=>h.elim);obtain ⟨T,J,i⟩:=f;exact ⟨T,J,JN rfl d.1 d.2.1 (λb a=>by cases a) (Nat.zero_le _) rfl rfl (Nat.zero_le _) u.v.h.round i.i1 B i.i1 i.i2 i.ok i.w,⟨(by show (3:Int)≠4;decide),n,g,.inl (by show (0:Int)<=1;decide),.inr rfl,λb a=>by cases a⟩⟩
 · refine Y.eq o (Y.eq o (Y.eq o (Y.eq o (Y.eq (WG n W) ?_))));refine Y.DZ (P:=λv=>A0 (v.1,(v.2.1,(v.2.2.1,())))/\v.1=c.1/\GO ((v.2.2.2.1,(v.2.2.2.2.1,(v.2.2.2.2.2.1,()))):k0)) (R:=λ_=>False) (Y.bind (FD _ _ K.2.2.2.1) λω e=>Y.DY (λ_=>Y.l ⟨e.1,e.2.trans l,GO.ID⟩) (λ_=>Y.l ⟨e.1,e.2.trans l,X⟩)) (λM au=>?_) (λ_ h=>h.elim);obtain ⟨T,J,i⟩:=au;refine Y.DZ (P:=λv=>A0 (v.1,(v.2.1,(v.2.2.1,())))/\v.1=c.1/\(Ty.sl iv).Ok v.2.2.2.1/\W1 (List.length v.2.2.2.1)) (R:=λ_=>False) (Y.bind (FD _ _ T) λaF C=>Y.DY (λ_=>Y.bind (Uz _ 3 C.1 (by decide)) λaG H=>Y.l ⟨H.2.2.1,H.2.2.2.trans (C.2.trans J),H.1,Nat.le_trans H.2.1 (by decide)⟩) (λ_=>Y.l ⟨C.1,C.2.trans J,d.kB,W.2.2.2.2.2.2.2.2.2.2.1⟩)) (λδ aq=>?_) (λ_ h=>h.elim);obtain ⟨p1,p2,p3,p4⟩:=aq;refine Y.DZ (P:=λv=>A0 (v.1,(v.2.1,(v.2.2.1,())))/\v.1=c.1/\(Lit.int .i64 v.2.2.2.1).wf=true/\v.2.2.2.1<=ad n+((ar n).length:Int)) (R:=λ_=>False) (Y.loop (I:=λv=>A0 (v.1,(v.2.1,(v.2.2.1,())))/\v.1=c.1/\ad n<=v.2.2.2.1/\v.2.2.2.1<=100000/\(ad n<v.2.2.2.1->F6 (ar n) m.1=true)/\∀s,ad n<=s->s<v.2.2.2.1->rf (ar n) s≠m.1) (λv=>(9990-v.2.2.2.1).toNat) (λv f=>?_) _ ⟨p1,p2,Int.le_refl _,ai,λh=>absurd h (Int.lt_irrefl _),λs z h2=>absurd h2 (by grind)⟩) (λaA av=>?_) (λ_ h=>h.elim)
   · obtain ⟨b0,aJ,aK,r,aR⟩:=v;obtain ⟨q,k,ah,aj,ε,β⟩:=f;dsimp only at q k ah aj ε β;have A:(Lit.int .i64 r).wf=true/\r<=ad n+((ar n).length:Int):=by
      refine ⟨DX (by omega) (by omega),?_⟩;rcases Int.lt_or_le (ad n) r with F|aQ;· exact Nz ψ (ε F) β
      · omega
     unfold OF.b0;refine Y.DY (λF=>?_) (λ_=>Y.rl ⟨q,k,A⟩);have F:r<9990:=Cp.1 F;refine Y.eq (tR (ar n) r) (Y.DY (λρ=>?_) (λ_=>Y.rl ⟨q,k,A⟩));have ρ:ko (rf (ar n) r) m.1=false:=by grind
     refine Y.eq (HK (ar n) m.1 d.set.1) (Y.DY (λal=>?_) (λ_=>Y.rl ⟨q,k,A⟩));refine Y.bind (FD _ _ q) λaO G=>Y.DY (λ_=>Y.l ?_) (λ_=>Y.rl ⟨G.1,G.2.trans k,A⟩);have e1:cM .i64 r 1=r+1:=ed (by omega) (by omega);refine ⟨⟨G.1,G.2.trans k,?_,?_,λ_=>al,λs s1 O=>?_⟩,?_⟩;· grind
     · grind
     · have O:s<cM .i64 r 1:=O;rw[e1]at O;rcases Int.lt_or_le s r with h|h;· grind
       · have :s=r:=by omega
         rw[this];exact ZJ.1 ρ
     grind
   · obtain ⟨r1,r2,r3,r4⟩:=av;have an:=Et (n:=(ab w).length) (by omega);have α:=UA u.v.h (kB:=δ.2.2.2.1) B r3 i p3 p4;obtain ⟨m1,m2⟩:=uf α an;refine Y.eq (P6 (XV n m.1 aA.2.2.2.1 (M.2.2.2.1,(M.2.2.2.2.1,(M.2.2.2.2.2.1,()))) δ.2.2.2.1) ((ab w).length:Int) α) (Y.l ⟨r1,r2,JN rfl d.1 d.2.1 (λb a=>?_) (Nat.le_refl _) rfl rfl (Nat.zero_le _) rfl rfl (Nat.zero_le _) rfl rfl CK (Nat.zero_le _),⟨(by show (1:Int)≠4;decide),n,g,.inl (by show (0:Int)<=1;decide),.inl rfl,λb a=>?_⟩⟩);· grind
     · rw[List.mem_singleton.1 a];exact r4
theorem NA{l:List cp}:rS l=true↔(∀t∈l,M1 t=true)/\l.Pairwise (λa b=>sH a b=true)/\l.length<=20:=by
 unfold rS;rw[Bool.and_eq_true];constructor
 · rintro⟨d,e⟩;have k:=Q8 d;refine⟨λt g=>?_,?_,by have :=Cq.1 e;omega⟩;· obtain⟨i,c,rfl⟩:=List.getElem_of_mem g;have :=xJ d i c;unfold G3 at this;grind
   · rw[List.pairwise_iff_getElem];intro i j c h f;exact k i j _ _ (List.getElem?_eq_getElem c) (List.getElem?_eq_getElem h) f
 · rintro⟨d,e,m⟩;refine⟨ns (λi c=>?_),Cq.2 (by omega)⟩;unfold G3;rw[Bool.and_eq_true,Nat.zero_add];refine⟨d _ (List.getElem_mem c),?_⟩;match i,c with|0,_=>rfl|j+1,c=>rw[mz (lt:=sH) (xs:=l) (j:=j) (y:=l[j+1]) (by omega)];rw[List.pairwise_iff_getElem]at e;grind
theorem Ij{l:List cp}(p:cp->Bool)(h:rS l=true):rS (l.filter p)=true:=by obtain⟨d,c,a⟩:=NA.1 h;exact NA.2 ⟨λt b=>d t (List.mem_filter.1 b).1,c.filter p,Nat.le_trans (List.length_filter_le _ _) a⟩
structure P9(R:Int)(bl:List an)(p:HC)(k:Nat):Prop where
 ep:p.1=(k:Int)ne:D1 p≠[]bs:∀b∈D1 p,b∈bl/\b.2.1=p.1
 le:(D1 p).length<=400
 q:H8 (pQ p) 10000 100000=true
 r:(pQ p).1<=R
structure NR(R:Int)(bl:List an)(n:ao):Prop where
 nm:fb n.1=true
 rd:1<=ad n/\ad n<=R+1
 vo:0<=fl n/\fl n<=ad n
 ld:0<=L5 n/\L5 n<=ad n
 hq:C5 (ar n) (bx n)=true
 hr:(bx n).1<ad n
 tq:Gd (ar n) (Fa n)=true
 tr:(Fa n).1<ad n
 vt:∀v∈ec n,v.1<=R
 gn:∀g∈ei n,g.1<=R
 kA:A6 (ag n)=true
 K6:∀b∈ag n,b∈bl/\b.2.1=n.2.1
 kB:rS (nr n)=true
 set:ar n=[]\/u9 (ar n)=true
 kf:∀x∈j9 n,0<=x.1/\x.1<(bl.length:Int)eD:∀(k:Nat) (p:HC),(bb n)[k]?=some p->P9 R bl p k
theorem P9.mono{R R':Int}{bl a:List an}{p:HC}{k:Nat}(h:P9 R bl p k)(d:R<=R')(e:∀b∈bl,b∈a):P9 R' a p k:=⟨h.ep,h.ne,λb c=>⟨e b (h.bs b c).1,(h.bs b c).2⟩,h.le,h.q,Int.le_trans h.r d⟩
theorem NR.mono{R R':Int}{bl a:List an}{n:ao}(h:NR R bl n)(c:R<=R')(d:∀b∈bl,b∈a)(m:bl.length<=a.length):NR R' a n:=⟨h.nm,⟨h.rd.1,by have :=h.rd.2;omega⟩,h.vo,h.ld,h.hq,h.hr,h.tq,h.tr,λv l=>Int.le_trans (h.vt v l) c,λg j=>Int.le_trans (h.gn g j) c,h.kA,λb e=>⟨d b (h.K6 b e).1,(h.K6 b e).2⟩,h.kB,h.set,λx f=>⟨(h.kf x f).1,by have :=(h.kf x f).2;omega⟩,λk p i=>(h.eD k p i).mono c d⟩
structure BR(R:Int)(bl:List an):Prop where
 F2:∀(i:Nat)(hi:i<bl.length),bl[i].1=(i:Int)kp:∀b∈bl,gq b=true
 rd:∀b∈bl,b.2.2.1<=R
theorem BR.lt{R:Int}{bl:List an}(h:BR R bl){b:an}(a:b∈bl):0<=b.1/\b.1<(bl.length:Int):=by obtain⟨i,c,rfl⟩:=List.getElem_of_mem a;have :=h.F2 i c;omega
theorem BR.GG{R:Int}{bl:List an}(h:BR R bl){a b:an}(g:a∈bl)(f:b∈bl)(e:a.1=b.1):a=b:=by obtain⟨i,c,rfl⟩:=List.getElem_of_mem g;obtain⟨j,d,rfl⟩:=List.getElem_of_mem f;have l:=h.F2 i c;have k:=h.F2 j d;grind
theorem B8{q:k0}(h:ks q=true):q.1=0/\q.2.1=-1/\List.length q.2.2.1=0:=by unfold ks at h;simp_all[D9,gA,Cr]
theorem wS{t:vc}(h:sU t=true):t.1=0/\List.length t.2.1=0/\List.length t.2.2.1=0:=by unfold sU at h;simp_all[D9,D3,gA,Cr]
theorem Pe{l:List e6}{q:k0}(h:C5 l q=true):0<=q.1/\q.1<=10000:=by
 unfold C5 at h;simp only[Bool.or_eq_true,Bool.and_eq_true]at h;rcases h with h|h;·simp_all[D9,B8]
 ·have :=gd.1 h.1;omega
theorem Mo{l:List e6}{q:k0}(h:C5 l q=true):H8 q 10000 100000=true:=by unfold C5 at h;unfold H8;grind
theorem ZN{l:List e6}{t:vc}(h:Gd l t=true):0<=t.1/\t.1<=10000:=by
 unfold Gd at h;simp only[Bool.or_eq_true,Bool.and_eq_true]at h;rcases h with h|h;·have :=(wS h).1;omega
 ·have :=gd.1 h.1;omega
theorem W7{l:List e6}{t:vc}(h:Gd l t=true):Ks t 10000=true:=by unfold Gd at h;unfold Ks;grind
theorem UC{q:k0}{r i:Int}(h:H8 q r i=true):0<=q.1/\(q.1<=r\/q.1=0):=by
 unfold H8 at h;simp only[Bool.or_eq_true,Bool.and_eq_true]at h;rcases h with h|h;·simp_all[D9,B8]
 ·have :=gd.1 h.1;omega
theorem ZO{t:vc}{r:Int}(h:Ks t r=true):0<=t.1/\(t.1<=r\/t.1=0):=by
 unfold Ks at h;simp only[Bool.or_eq_true,Bool.and_eq_true]at h;rcases h with h|h;·have :=(wS h).1;omega
 ·have :=gd.1 h.1;omega
theorem Ht{l:List e6}:C5 l ((0,(-1,([],()))):k0)=true:=rfl
theorem Hu{l:List e6}:Gd l ((0,([],([],()))):vc)=true:=rfl
theorem Qa{r x:Int}(b:0<=x)(a:x<=10000):Kw r x=if r<x+1 then x+1 else r:=by grind[Kw,dO,cM,ed,Cp,Au]
theorem UD{R:Int}{bl:List an}{n:ao}{q:k0}(h:NR R bl n)(d:C5 (ar n) q=true)(k:q.1<=R):NR R bl (oj n q):=by
 have b:=Pe d;have f:ad (oj n q)=if ad n<q.1+1 then q.1+1 else ad n:=Qa b.1 b.2;have j:ad n<=ad (oj n q):=by omega
 have i:q.1<ad (oj n q):=by omega
 have g:ad (oj n q)<=R+1:=by rw[f];have :=h.rd.2;omega
 have c:bx (oj n q)=BE n q:=rfl;have a:BE n q=q\/BE n q=bx n:=by unfold BE;grind
 refine⟨h.nm,⟨by omega,g⟩,⟨h.vo.1,by have :=h.vo.2;show fl n<=_;omega⟩,⟨h.ld.1,by have :=h.ld.2;show L5 n<=_;omega⟩,?_,?_,h.tq,by have :=h.tr;show (Fa n).1<_;omega,h.vt,h.gn,h.kA,h.K6,h.kB,h.set,h.kf,h.eD⟩
 · rw[c];rcases a with e|e<;>rw[e];· exact d
   · exact h.hq
 · rw[c];rcases a with e|e<;>rw[e];· omega
   · have :=h.hr;omega
theorem F4{x:D3}:∀{a d:List D3},x∈kn d a->x∈d\/x∈a
 |[],d,h=>.inl h|y::r,d,h=>by
  have c:kn d (y::r)=kn (w8 d y.1) r:=rfl;rw[c]at h;rcases F4 h with b|b;·unfold w8 at b;grind
  grind
theorem Pf{R:Int}{bl:List an}{n:ao}{q:k0}(i:BR R bl)(h:NR R bl n)(s:NW n)(N:n.2.1<890)(L:0<=R)(H:H8 q 10000 100000=true)(F:q.1<=R):NR R bl (l9 n q):=by
 have d:j8 (ag n):=KP h.kA;have Q:=s.e0;have t:∀(l:List an),(∀b∈l,b∈ag n)->∀x∈kn (j9 n) (fv l),0<=x.1/\x.1<(bl.length:Int):=λl g x I=>by
  rcases F4 I with j|j;·exact h.kf x j
  ·unfold fv at j;obtain⟨b,D,rfl⟩:=List.mem_map.1 j;exact i.lt (h.K6 b (g b D)).1
 rcases AL n.2.1.toNat n.2.1.toNat n q s.v (by omega)with⟨_,e⟩|⟨B,⟨_,e⟩|⟨p,b,r,J,O,P,K,e,m⟩⟩;·grind
 ·rw[e];exact⟨h.nm,h.rd,h.vo,h.ld,h.hq,h.hr,h.tq,h.tr,h.vt,h.gn,h.kA,h.K6,Ij _ h.kB,h.set,t _ (λb i=>mo d _ b i),h.eD⟩
 · rw[e];obtain⟨S,A,z,_⟩:=Gi B;have G:=Mm (i.kp b (h.K6 b K).1);have y:u9 (p7 b)=true:=by have :=G.bo;unfold Jb at this;grind
   have C:∀c∈p++[b],c∈ag n:=λc u=>mo d _ c (by rw[J];grind);refine⟨h.nm,⟨Int.le_refl _,by show (1:Int)<=R+1;omega⟩,⟨Int.le_refl _,by show (0:Int)<=1;decide⟩,⟨Int.le_refl _,by show (0:Int)<=1;decide⟩,Ht,by show (0:Int)<1;decide,Hu,by show (0:Int)<1;decide,(λv f=>by cases f),(λv f=>by cases f),rfl,(λv f=>by cases f),Ij _ h.kB,.inr y,t _ C,λk w a=>?_⟩;have a:(bb n++[Eo n q])[k]?=some w:=a;rcases Nat.lt_or_ge k (bb n).length with o|o;· rw[List.getElem?_append_left o]at a;grind[NR.eD]
   · rw[List.getElem?_append_right o]at a;have E:k-(bb n).length=0:=by grind
     rw[E]at a;have a:Eo n q=w:=by grind
     subst a;have M:=s.pa;have g:=Jz d q.2.1;refine⟨?_,?_,λc u=>h.K6 c (g.subset u),Nat.le_trans g.length_le d.Rg,H,F⟩;· show n.2.1=(k:Int);omega
     · show dc (ag n) q.2.1≠[];rw[<-z,l5 d A];simp
theorem FK{R:Int}{bl:List an}{n:ao}{q:k0}(i:BR R bl)(h:NR R bl n)(a:NW n)(e:n.2.1<890)(d:0<=R)(f:GO q)(c:C5 (ar n) q=true)(b:q.1<=R):NR R bl (ea n q):=by have g:NW (oj n q):=NW.So (Hh a.v f) a.e0 a.pa;exact Pf i (UD h c b) g e d (Mo c) b
theorem Pg{R:Int}{bl:List an}{n:ao}{t:vc}(h:NR R bl n)(c:Gd (ar n) t=true)(k:t.1<=R):NR R bl (Me n t):=by
 have b:=ZN c;have f:ad (Me n t)=if ad n<t.1+1 then t.1+1 else ad n:=Qa b.1 b.2;have j:ad n<=ad (Me n t):=by omega
 have i:t.1<ad (Me n t):=by omega
 have g:ad (Me n t)<=R+1:=by rw[f];have :=h.rd.2;omega
 have d:Fa (Me n t)=Rp n t:=rfl;have a:Rp n t=t\/Rp n t=Fa n:=by unfold Rp;grind
 refine⟨h.nm,⟨by omega,g⟩,⟨h.vo.1,by have :=h.vo.2;show fl n<=_;omega⟩,⟨h.ld.1,by have :=h.ld.2;show L5 n<=_;omega⟩,h.hq,by have :=h.hr;show (bx n).1<_;omega,?_,?_,h.vt,h.gn,h.kA,h.K6,h.kB,h.set,h.kf,h.eD⟩
 · rw[d];rcases a with e|e<;>rw[e];· exact c
   · exact h.tq
 · rw[d];rcases a with e|e<;>rw[e];· omega
   · have :=h.tr;omega
theorem Ph{R:Int}{bl:List an}{n:ao}{t:List an}(h:NR R bl n)(c:A6 t=true)(a:∀b∈t,b∈bl/\b.2.1=n.2.1):NR R bl (ma n t):=⟨h.nm,h.rd,h.vo,h.ld,h.hq,h.hr,h.tq,h.tr,h.vt,h.gn,c,a,h.kB,h.set,h.kf,h.eD⟩
theorem NB{R:Int}{bl:List an}{n:ao}{t:List u6}(h:NR R bl n)(a:∀v∈t,v.1<=R):NR R bl (EB n t):=⟨h.nm,h.rd,h.vo,h.ld,h.hq,h.hr,h.tq,h.tr,a,h.gn,h.kA,h.K6,h.kB,h.set,h.kf,h.eD⟩
theorem NC{R:Int}{bl:List an}{n:ao}{t:List sd}(h:NR R bl n)(a:∀v∈t,v.1<=R):NR R bl (Fb n t):=⟨h.nm,h.rd,h.vo,h.ld,h.hq,h.hr,h.tq,h.tr,h.vt,a,h.kA,h.K6,h.kB,h.set,h.kf,h.eD⟩
theorem ND{R:Int}{bl:List an}{n:ao}{v:Int}(h:NR R bl n)(b:0<=v)(a:v<=ad n):NR R bl (sb n v):=⟨h.nm,h.rd,⟨b,a⟩,h.ld,h.hq,h.hr,h.tq,h.tr,h.vt,h.gn,h.kA,h.K6,h.kB,h.set,h.kf,h.eD⟩
theorem RN{R:Int}{bl:List an}{n:ao}{v:Int}(h:NR R bl n)(b:0<=v)(a:v<=ad n):NR R bl (qf n v):=⟨h.nm,h.rd,h.vo,⟨b,a⟩,h.hq,h.hr,h.tq,h.tr,h.vt,h.gn,h.kA,h.K6,h.kB,h.set,h.kf,h.eD⟩
theorem NF{R:Int}{bl:List an}{n:ao}{q:List cp}(h:NR R bl n)(a:rS q=true):NR R bl (Ff n q):=⟨h.nm,h.rd,h.vo,h.ld,h.hq,h.hr,h.tq,h.tr,h.vt,h.gn,h.kA,h.K6,a,h.set,h.kf,h.eD⟩
theorem Qb{R:Int}{bl:List an}{n:ao}{b:an}(r:BR R bl)(h:NR R bl n)(p:NW n)(k:n.2.1<890)(t:0<=R)(s:b∈bl)(j:lf.Ok b)(i:e8 b):NR R bl (cv n b):=by unfold cv;cases q:s7 n b with|false=>exact h|true=>
 have d:=P2 p.v.h.t q;have l:=Mm d.kp;have B:=r.rd b s;have C:=l.rd;have z:gS .i64 b.2.2.1 1=b.2.2.1-1:=iz (by omega) (by omega);have w:=UC l.qc;have x:=ZO l.tc;rw[z]at w x;obtain⟨y,D,A⟩:=FE p j i k q;obtain⟨o,E⟩:=FF p j i k q;have f:NR R bl (ma n (qm (ag n) b)):=Ph h d.tr (λc g=>by
 rcases B2.1 g with f|f;·exact h.K6 c f
 ·rw[f];exact⟨s,d.ep⟩);have u:NR R bl (qu n b):=FK r f y k t (Fk.EO j i) d.qc (by omega);have a:NR R bl (kr n b):=by unfold kr;cases m:gA (qu n b).2.1 n.2.1 with|false=>exact u|true=>
  have m:=Cr.1 m;have v:ar (qu n b)=ar n:=by
   rcases A.a.ca with⟨_,_,e⟩|e;·exact e
   ·omega
  exact Pg u (by rw[v];exact d.tc) (by omega)
 unfold B4;cases g:(gA (kr n b).2.1 n.2.1&&gA (bx (kr n b)).2.1 b.1) with|false=>exact a|true=>simp only[Bool.and_eq_true]at g;have m:=Cr.1 g.1;exact FK r a o (by omega) t (o.v.h.ok.EO o.v.h.l) a.hq (by have :=a.hr;have :=a.rd.2;omega)
theorem pn{l:List e6}(h:l=[]\/u9 l=true):(∀v∈l,fb v.1=true/\1<=v.2.1/\v.2.1<=1000000)/\l.length<=12:=by
 rcases h with rfl|h;·grind
 ·unfold u9 at h;simp only[Bool.and_eq_true]at h;refine⟨λv b=>?_,by have :=gd.1 h.2;omega⟩;obtain⟨i,a,rfl⟩:=List.getElem_of_mem b;have :=xJ h.1 i a;unfold LZ at this;simp only[Bool.and_eq_true]at this;exact⟨this.1,gd.1 this.2.1⟩
theorem UE{c name:ByteArray}{r b a d:Int}(f:fb c=true)(e:0<=a/\a<=900)(h:1<=r/\r<=10000)(g:0<=b/\b<=100000)(m:fb name=true):C7 (EC (Ed name r b d) c a)=true:=by
 have i:Di a 0 900=true:=gd.2 e;have l:Di r 1 10000=true:=gd.2 h;have k:Di b 0 100000=true:=gd.2 g;have j:WD (EC (Ed name r b d) c a)=true:=by grind[WD,EC,Ed,Di,fb]
 unfold C7;show (fb c&&(Di a 0 900&&(true&&(true&&((true&&true)&&(true&&(WD (EC (Ed name r b d) c a)&&(XK (EC (Ed name r b d) c a)&&(true&&true)))))))))=true;rw[f,i,j];show (ko ⟨#[]⟩ ⟨#[]⟩&&true)=true;rw[xD];rfl
theorem UF{n:ao}{b:ByteArray}{a d:Int}(f:fb b=true)(c:0<=a/\a<=900)(h:1<=ad n/\ad n<=10000)(k:0<=(bx n).1/\(bx n).1<ad n)(l:H8 (bx n) 10000 100000=true)(j:fb n.1=true):C7 (EC (FY n d) b a)=true:=by
 have m:Di a 0 900=true:=gd.2 c;have i:Di (ad n) 1 10000=true:=gd.2 h;have e:gS .i64 (ad n) 1=ad n-1:=iz (by omega) (by omega);have g:Di (bx n).1 0 (gS .i64 (ad n) 1)=true:=by rw[e];exact gd.2 ⟨k.1,by omega⟩
 unfold C7;show (fb b&&(Di a 0 900&&(H8 (bx n) 10000 100000&&(true&&((true&&true)&&(true&&(((true)&&(true&&ko ⟨#[]⟩ ⟨#[]⟩))&&((Di (ad n) 1 10000&&(Di (bx n).1 0 (gS .i64 (ad n) 1)&&(gA (bx n).1 (bx n).1&&fb n.1)))&&true))))))))=true;rw[f,m,l,i,g,j,xD,nV];rfl
theorem UG{b:an}{c:ByteArray}{a e:Int}(f:fb c=true)(d:0<=a/\a<=900)(h:gq b=true)(g:b.2.1=a):C7 (EC (rm b e) c a)=true:=by have i:Di a 0 900=true:=gd.2 d;unfold C7;show (fb c&&(Di a 0 900&&(true&&(true&&((((gq b&&gA b.2.1 a)&&true)&&true)&&(true&&((true&&(true&&ko ⟨#[]⟩ ⟨#[]⟩))&&((true&&(true&&ko ⟨#[]⟩ ⟨#[]⟩))&&(true&&true)))))))))=true;rw[f,i,h,g,nV,xD];rfl
theorem K7{d:ByteArray}{a:Int}{c:List an}{q:k0}{t:vc}(h:fb d=true)(g:0<=a/\a<=900)(e:∀b∈c,gq b=true/\b.2.1=a)(n:c.length<=400)(l:H8 q 10000 100000=true)(j:Ks t 10000=true):C7 (Hl d a c q t)=true:=by
 have m:Di a 0 900=true:=gd.2 g;have k:D2 c a=true:=by unfold D2;rw[List.all_eq_true];intro b f;rw[(e b f).1,(e b f).2,nV];rfl
 have i:km (c.length:Int) 400=true:=Cq.2 (by omega);unfold C7;show (fb d&&(Di a 0 900&&(H8 q 10000 100000&&(Ks t 10000&&((D2 c a&&km (c.length:Int) 400)&&((true&&(true&&ko ⟨#[]⟩ ⟨#[]⟩))&&(true&&(true&&ko ⟨#[]⟩ ⟨#[]⟩))))))))=true;rw[h,m,k,i,l,j,xD];rfl
structure MR(R:Int)(bl:List an)(m:ie):Prop where
 ok:C7 m=true
 bs:∀b∈n6 m,b∈bl
 v:(IE m).1<=R
 g:(IF m).1<=R
 q:(mQ m).1<=R
 t:(mT m).1<=R
theorem MR.mono{R R':Int}{bl c:List an}{m:ie}(h:MR R bl m)(a:R<=R')(d:∀b∈bl,b∈c):MR R' c m:=⟨h.ok,λb e=>d b (h.bs b e),Int.le_trans h.v a,Int.le_trans h.g a,Int.le_trans h.q a,Int.le_trans h.t a⟩
theorem JO{R:Int}{bl:List an}{a:List e6}{name:ByteArray}{m:ie}{b:Int}(h:∀v∈a,MR R bl (EC m v.1 b)):∀x∈pt a name m b,MR R bl x:=by intro x c;unfold pt at c;grind
theorem NG{l:List u6}{v x:u6}(h:x∈th l v):x∈l\/x=v:=by unfold th at h;grind
theorem NH{l:List sd}{v x:sd}(h:x∈vx l v):x∈l\/x=v:=by unfold vx at h;grind
theorem JP{a:List e6}{b:List u6}{r c:Int}(h:tS a b r c=true):C5 a (ED a b r c)=true/\ks (ED a b r c)=false:=by unfold tS at h;grind
theorem Qc{R:Int}{bl:List an}{n:ao}{v:u6}(k:BR R bl)(h:NR R bl n)(a:NW n)(g:n.2.1<890)(e:0<=R)(b:H5.Ok v)(f:v.1<=R):NR R bl (w9 n v):=by
 have j:=Hi a.v.vo a.v.h.ok.fi b;have d:NR R bl (EB n (th (ec n) v)):=NB h (λx m=>by
 rcases NG m with c|c;·exact h.vt x c
 grind);have i:=EG a j (F0 a.v.vo);unfold w9;cases F6 (ar n) v.2.2.1 with|false=>exact h|true=>cases l:tS (ar n) (th (ec n) v) v.1 v.2.1 with|false=>exact d|true=>exact FK k d i g e (EF (ar n) (th (ec n) v) v.1 v.2.1 a.v.h.ok.set a.v.h.l.2.1 b.1 b.2.1) (JP l).1 f
theorem RO{R:Int}{bl:List an}{n:ao}{g:sd}(h:NR R bl n)(f:g.1<=R):NR R bl (xd n g):=by
 have c:NR R bl (Fb n (vx (ei n) g)):=NC h (λx i=>by
 rcases NH i with a|a;·exact h.gn x a
 grind);unfold xd;dsimp only;cases d:(wb (ar n) (vx (ei n) g) g.1).2.1.1 with|false=>exact c|true=>obtain⟨_,b,e⟩:=FX d;rw[e]at b⊢;exact Pg c b f
theorem Qd{R:Int}{bl:List an}{n:ao}{g:sd}{q:k0}(f:BR R bl)(h:NR R bl n)(k:NW n)(d:n.2.1<890)(c:0<=R)(e:GO q)(i:g.1<=R)(j:q.1<=R):NR R bl (j6 n g q):=by unfold j6;cases a:(F6 (ar n) g.2.2.1&&C5 (ar n) q) with|false=>exact h|true=>simp only[Bool.and_eq_true]at a;have b:=FK f h k d c e a.2 j;cases gA (ea n q).2.1 n.2.1 with|false=>exact b|true=>exact RO b i
theorem Qe{R:Int}{bl:List an}{n:ao}{b:an}(d:BR R bl)(h:NR R bl n)(p:NW n)(l:n.2.1<890)(a:0<=R)(e:b∈bl)(c:lf.Ok b)(j:e8 b):NR R bl (hW n b).1/\∀m∈(hW n b).2.1,MR R bl m:=by have i:=Qb d h p l a e c j;obtain⟨g,w⟩:=py p c j l;have f:=Mm (d.kp b e);have k:=d.rd b e;unfold hW;cases r:Ee n b with|false=>grind|true=>have o:=KW r;have y:=o.ep;have q:=pf g c.2.2.1;have t:NR R bl (sb (cv n b) b.2.2.1):=ND i (by have :=f.rd.1;omega) (Int.le_of_eq o.rd);refine⟨Qc d t q (by show (cv n b).2.1<890;omega) a ⟨c.2.2.1,c.1,g.v.h.ok.1,trivial⟩ k,JO λv u=>⟨UE ((pn i.set).1 v u).1 ⟨g.e0,by omega⟩ f.rd f.id i.nm,(λx s=>by cases s),k,a,a,a⟩⟩
theorem UH{R:Int}{bl:List an}{n:ao}{m:ie}(o:BR R bl)(h:NR R bl n)(l:NW n)(t:n.2.1<890)(k:0<=R)(c:GL m)(i:MR R bl m)(w:m.2.2.1=n.2.1):NR R bl (xr n m):=by
 obtain⟨⟨x,B⟩,⟨D,C⟩,_⟩:=EH l c.ok c.l w t;have q:∀(f:List an)(s:ao),(∀b∈f,b∈bl/\lf.Ok b/\e8 b)->NW s->lh n s->NR R bl s->NR R bl (f.foldl (kk m.2.2.1) s):=by intro f;induction f with|nil=>grind|cons b r E=>
  intro s p e g y;rw[List.foldl_cons];have d:=p b (by simp);have z:NW (kk m.2.2.1 s b)/\lh n (kk m.2.2.1 s b)/\NR R bl (kk m.2.2.1 s b):=by unfold kk;cases a:gA s.2.1 m.2.2.1 with|false=>grind|true=>have a:=Cr.1 a;obtain⟨v,u⟩:=py e d.2.1 d.2.2 (by omega);exact⟨v,g.trans u (by omega),Qb o y e (by omega) k d.1 d.2.1 d.2.2⟩
  simp_all
 have e:NR R bl (ti n m):=q (n6 m) n (λb j=>⟨i.bs b j,c.ok.kp c.l b j⟩) l (lh.gj n) h;have g:NR R bl (GK n m):=by unfold GK;cases a:(gA (ti n m).2.1 m.2.2.1&&C5 (ar (ti n m)) (mQ m)) with|false=>exact e|true=>simp only[Bool.and_eq_true]at a;have A:=Cr.1 a.1;exact FK o e x (by omega) k (c.ok.EO c.l) a.2 i.q
 unfold xr;cases a:(gA (GK n m).2.1 m.2.2.1&&Gd (ar (GK n m)) (mT m)) with|false=>exact g|true=>simp only[Bool.and_eq_true]at a;exact Pg g a.2 i.t
theorem W8{R:Int}{bl:List an}{n:ao}{m:ie}(g:BR R bl)(h:NR R bl n)(i:NW n)(f:n.2.1<890)(e:0<=R)(a:GL m)(c:MR R bl m)(k:m.2.2.1=n.2.1):NR R bl (fz n m).1/\∀x∈(fz n m).2.1,MR R bl x:=by unfold fz;cases l:gA m.1 1 with
 |true=>have p:=a.pr (Cr.1 l);cases o:n6 m with|nil=>grind|cons b r=>have j:=a.ok.kp a.l b (by grind);exact Qe g h i f e (c.bs b (by grind)) j.1 j.2
 |false=>cases gA m.1 2 with|true=>exact⟨Qc g h i f e a.ok.vo c.v,λx d=>by cases d⟩|false=>cases gA m.1 3 with|true=>exact⟨Qd g h i f e (a.ok.EO a.l) c.g c.q,λx d=>by cases d⟩|false=>exact⟨UH g h i f e a c k,λx d=>by cases d⟩
theorem NI{R:Int}{bl:List an}{n:ao}(a:BR R bl)(h:NR R bl n)(c:NW n)(i:n.2.1<890)(q:0<=R)(p:R<=9990):NR (R+1) bl (fp n).1/\∀x∈(fp n).2.1,MR (R+1) bl x:=by have f:BR (R+1) bl:=⟨a.F2,a.kp,λb l=>by have :=a.rd b l;omega⟩;have k:=h.mono (R':=R+1) (by omega) (λb a=>a) (Nat.le_refl bl.length);have d:=h.rd;unfold fp;cases (F6 (ar n) n.1&&!dO (ad n) (fl n)) with|false=>grind|true=>have j:NR (R+1) bl (sb n (ad n)):=ND k (by omega) (Int.le_refl _);have g:=h.hr;have e:=Pe h.hq;refine⟨Qd f j (pf c c.v.h.round) i (by omega) (c.v.h.ok.EO c.v.h.l) d.2 (by omega),JO λv m=>⟨UF ((pn h.set).1 v m).1 ⟨c.e0,by omega⟩ ⟨d.1,by omega⟩ ⟨e.1,g⟩ (Mo h.hq) h.nm,(λx o=>by cases o),by show (0:Int)<=R+1;omega,d.2,by show (bx n).1<=R+1;omega,by show (0:Int)<=R+1;omega⟩⟩
theorem Qf{R:Int}{bl:List an}{n:ao}(c:BR R bl)(h:NR R bl n)(f:NW n)(l:n.2.1<890)(A:0<=R)(z:bl.length<=1000):BR (R+1) (bl++(ej n (bl.length:Int)).2.1)/\NR (R+1) (bl++(ej n (bl.length:Int)).2.1) (ej n (bl.length:Int)).1/\∀x∈(ej n (bl.length:Int)).2.2.1,MR (R+1) (bl++(ej n (bl.length:Int)).2.1) x:=by have j:=Et (n:=bl.length) (by omega);obtain⟨u,q⟩:=uf f.v.h j;unfold ej;cases o:Gj n (bl.length:Int) with|false=>simp only[cond_false,List.append_nil];exact⟨⟨c.F2,c.kp,λb e=>by have :=c.rd b e;omega⟩,h.mono (by omega) (λb c=>c) (Nat.le_refl _),λx d=>by cases d⟩|true=>
 simp only[cond_true];have p:gq (i4 n (bl.length:Int))=true:=by unfold Gj at o;grind
 have k:=h.rd;have g:BR (R+1) (bl++[i4 n (bl.length:Int)]):=by
  refine⟨λi C=>?_,λb e=>?_,λb e=>?_⟩
  · rcases Nat.lt_or_ge i bl.length with a|a;· rw[List.getElem_append_left a];grind[BR.F2]
    · have :i=bl.length:=by grind
      simp_all[an,i4,D9,D3,cp,e6]
  · rcases List.mem_append.1 e with a|a;· grind[BR.kp]
    grind
  · rcases List.mem_append.1 e with a|a;· have :=c.rd b a;omega
    · rw[List.mem_singleton.1 a];exact k.2
 have a:NR (R+1) (bl++[i4 n (bl.length:Int)]) n:=h.mono (by omega) (λb c=>List.mem_append_left _ c) (by grind);have t:=RN a (v:=ad n) (by omega) (Int.le_refl _);obtain⟨r,B⟩:=Qe g t (wc f f.v.h.round) l (by omega) (List.mem_append_right _ (List.mem_cons_self ..)) u q;refine⟨g,r,λx d=>?_⟩;rcases List.mem_append.1 d with d|d;· refine JO (m:=rm (i4 n (bl.length:Int)) n.2.1) (λv w=>?_) x d;exact⟨UG ((pn h.set).1 v w).1 ⟨f.e0,by omega⟩ p rfl,λy s=>by rw[List.mem_singleton.1 s];grind,by show (0:Int)<=R+1;omega,by show (0:Int)<=R+1;omega,by show (0:Int)<=R+1;omega,by show (0:Int)<=R+1;omega⟩
 grind
theorem EK{R:Int}{bl:List an}{n:ao}{e:Int}{i:ByteArray}(q:BR R bl)(h:NR R bl n)(o:NW n)(x:n.2.1<890)(d:0<=R)(j:fb i=true)(l:(hM n e i).2.1.1=true):MR R bl (hM n e i).1:=by have t:=h.rd;have w:=h.hr;have u:=h.tr;have y:=o.e0;unfold hM at l⊢;cases f:gA e n.2.1 with|true=>have f:=Cr.1 f;exact⟨K7 j (by omega) (λb a=>⟨q.kp b (h.K6 b a).1,by rw[f];exact (h.K6 b a).2⟩) (KP h.kA).Rg (Mo h.hq) (W7 h.tq),λb a=>(h.K6 b a).1,d,d,by show (bx n).1<=R;omega,by show (Fa n).1<=R;omega⟩|false=>rw[f]at l;cases m:(bb n).find? (λp=>gA p.1 e)with|none=>grind|some p=>have a:=List.mem_of_find?_eq_some m;have g:=List.find?_some m;have g:p.1=e:=Cr.1 g;obtain⟨k,z,v⟩:=List.getElem_of_mem a;have c:=h.eD k p (by grind);have s:=o.pa;simp only[cond_false];have r:p.1=(k:Int):=c.ep;exact⟨K7 j (by omega) (λb a=>⟨q.kp b (c.bs b a).1,by rw[<-g];exact (c.bs b a).2⟩) c.le c.q rfl,λb a=>(c.bs b a).1,d,d,c.r,d⟩
structure RP(bF:List D9)(nodes:List ao):Prop where
 nf:∀n∈nodes,ke bF n.1=false
 up:∀(i j:Nat)(hi:i<nodes.length)(hj:j<nodes.length),i<j->ob nodes[i].1 nodes[j].1=true
structure WR(R:Int)(w:ee):Prop where
 r0:0<=R
 b0:w.1=0
 fo:nx (df w)=true
 bl:BR R (ab w)nd:∀n∈aa w,NR R (ab w) n
 nm:RP (df w) (aa w)As:∀m∈gl w,MR R (ab w) m
theorem RP.set{bF:List D9}{a:List ao}(h:RP bF a){j:Nat}(g:j<a.length){n:ao}(e:n.1=a[j].1):RP bF (a.set j n):=by
 have d:∀(i:Nat)(c:i<(a.set j n).length)(b:i<a.length),(a.set j n)[i].1=a[i].1:=λi c b=>by grind
 refine⟨λx m=>?_,λi k c l o=>?_⟩
 · rcases List.mem_or_eq_of_mem_set m with p|rfl;· grind[nf]
   · rw[e];exact h.nf _ (List.getElem_mem g)
 · have b:i<a.length:=by grind
   have f:k<a.length:=by grind
   rw[d i c b,d k l f];grind[up]
theorem B9{R:Int}{w:ee}(h:WR R w){j:Nat}(a:j<(aa w).length){n:ao}(e:n.1=(aa w)[j].1)(b:NR R (ab w) n):WR R (lb w j n):=⟨h.r0,h.b0,h.fo,h.bl,λx d=>by
 rcases List.mem_or_eq_of_mem_set d with c|rfl;·exact h.nd x c
 ·exact b,h.nm.set a e,h.As⟩
theorem CV{R:Int}{w:ee}(h:WR R w){ms:List ie}{b:List gx}(c:∀m∈ms,MR R (ab w) m):WR R (Fc w ms b):=⟨h.r0,h.b0,h.fo,h.bl,h.nd,h.nm,λm d=>by
 rcases ow d with a|a;·exact h.As m a
 ·exact c m a.1⟩
theorem WR.up{R R':Int}{w:ee}(h:WR R w)(c:R<=R'):WR R' w:=⟨by have :=h.r0;omega,h.b0,h.fo,⟨h.bl.F2,h.bl.kp,λb a=>Int.le_trans (h.bl.rd b a) c⟩,λn d=>(h.nd n d).mono c (λb a=>a) (Nat.le_refl _),h.nm,λm e=>(h.As m e).mono c (λb a=>a)⟩
theorem FL{R:Int}{w:ee}(h:WR R w)(k:Nat):WR R (Fe w k):=⟨h.r0,h.b0,h.fo,h.bl,h.nd,h.nm,λm a=>h.As m (HX a)⟩
theorem Hv{E S:Nat}{R:Int}{w:ee}{m:ie}(h:WI E S w)(p:E<890)(a:WR R w)(d:GL m)(f:MR R (ab w) m)(o:wt (aa w) m.2.1=true):WR R (q9 w m):=by obtain⟨j,b,_,s,g⟩:=EJ o;obtain⟨e,r⟩:=h.nd _ (List.getElem_mem b);rw[g];cases i:gA (aa w)[j].2.1 m.2.2.1 with|false=>exact a|true=>have c:=Cr.1 i;obtain⟨q,k,t,u⟩:=IP e d c.symm (by omega);obtain⟨n,l⟩:=W8 a.bl (a.nd _ (List.getElem_mem b)) e (by omega) a.r0 d f c.symm;exact CV (B9 a b k n) l
theorem NJ{R:Int}{bl:List an}{n:ao}(t:BR R bl)(h:NR R bl n)(A:NW n):n.2.1<=(bl.length:Int):=by
 have B:=A.pa;let f:Nat->Int:=λk=>match(bb n)[k]? with
 |some p=>match D1 p with|b::_=>b.1|[]=>0
 |none=>0;have j:∀k,k<(bb n).length->∃b∈bl,f k=b.1/\b.2.1=(k:Int):=λk d=>by have l:=h.eD k (bb n)[k] (List.getElem?_eq_getElem d);cases g:D1 (bb n)[k]with|nil=>exact absurd g l.ne|cons b r=>have q:=l.bs b (by rw[g];simp);refine⟨b,q.1,?_,by rw[q.2,l.ep]⟩;show (match (bb n)[k]? with|some p=>(match D1 p with|b::_=>b.1|[]=>0)|none=>0)=b.1;rw[List.getElem?_eq_getElem d];dsimp only;rw[g]
 have v:((List.range (bb n).length).map f).Nodup:=by rw[List.nodup_iff_pairwise_ne,List.pairwise_map];refine List.Pairwise.imp_of_mem ?_ (List.nodup_iff_pairwise_ne.1 (List.nodup_range));intro a c u s w e;rw[List.mem_range]at u s;obtain⟨x,i,z,C⟩:=j a u;obtain⟨y,m,o,D⟩:=j c s;have :x=y:=t.GG i m (by rw[<-z,<-o,e]);subst this;exact w (by omega)
 have :=FZ bl.length _ v (λx i=>by obtain⟨k,d,rfl⟩:=List.mem_map.1 i;rw[List.mem_range]at d;obtain⟨y,m,o,_⟩:=j k d;rw[o];exact t.lt m);rw[List.length_map,List.length_range]at this;omega
theorem WI.yN{E S:Nat}{R:Int}{w:ee}(h:WI E S w)(b:WR R w){c:Nat}(d:(ab w).length<=c):WI c S w:=⟨h.Ic,h.HV,h.Hg,h.fo,h.Vr,h.nl,λn a=>⟨(h.nd n a).1,by have :=NJ b.bl (b.nd n a) (h.nd n a).1;omega⟩,h.bo,h.bl,h.bL,h.so,h.sl,h.nt,h.nm⟩
theorem Ik{a b:an}:p8 a b=true↔a=b:=by
 have t:∀x y:D9,ko x.1 y.1=true↔x=y:=λx y=>by
  rw[n7];constructor;·intro h;exact Prod.ext h rfl
  ·rintro rfl;rfl
 have A:∀x y:D3,gA x.1 y.1=true↔x=y:=λx y=>by
  rw[Cr];constructor;·intro h;exact Prod.ext h rfl
  ·rintro rfl;rfl
 have D:∀x y:e6,Ge x y=true↔x=y:=λx y=>by obtain⟨z,s,u⟩:=x;obtain⟨w,C,v⟩:=y;unfold Ge;simp only[Bool.and_eq_true,n7,Cr,Prod.mk.injEq,and_true]
 have B:∀x y:cp,Kt x y=true↔x=y:=λx y=>by obtain⟨z,s,T,Z,α,u⟩:=x;obtain⟨w,C,Q,X,π,v⟩:=y;unfold Kt;simp only[Bool.and_eq_true,n7,Cr,Prod.mk.injEq,and_true]
 obtain⟨U,γ,a3,a4,θ,W,β,μ,O,F,E,H,J,K,u⟩:=a;obtain⟨ε,δ,κ,Y,ρ,P,V,R,S,I,M,G,L,N,v⟩:=b;unfold p8 G1 FU;simp only[Bool.and_eq_true,Cr,n7,i0,re,FT t,FT A,FT D,FT B];have r:∀x y:Bool,wo x y=true↔x=y:=λx y=>by cases x<;>cases y<;>simp[wo]
 simp only[r,Prod.mk.injEq];constructor;·rintro⟨q,l,i,o,⟨n,m,p⟩,⟨k,j,e⟩,d,f,g,c⟩;exact⟨q,l,i,o,n,m,p,k,j,e,d,f,g,c,trivial⟩
 ·rintro⟨q,l,i,o,n,m,p,k,j,e,d,f,g,c,_⟩;exact⟨q,l,i,o,⟨n,m,p⟩,⟨k,j,e⟩,d,f,g,c⟩
theorem UI{bl:List an}{b:an}(h:w6 bl b=true):b∈bl:=by unfold w6 at h;unfold bK at h;cases a:(if 0<=b.1 then bl[b.1.toNat]? else none)with|none=>simp only[a]at h;cases h|some z=>
 simp only[a]at h;rw[<-Ik.1 h];split at a;·exact List.mem_of_getElem? a
 ·cases a
theorem NK{R:Int}{bl:List an}(c:BR R bl){b:an}(h:b∈bl):w6 bl b=true:=by obtain⟨i,a,rfl⟩:=List.getElem_of_mem h;unfold w6;rw[c.F2 i a,cB a];exact Ik.2 rfl
theorem am8{m:ie}(h:W4 m)(g:m.1≠4):(m.1=1\/m.1=2\/m.1=3)/\(mT m).1=0/\((mQ m).1=0\/(mQ m).1<(IF m).1):=by have a:=h.kd;unfold xC at a;cases f:gA m.1 1 with|true=>rw[f]at a;simp only[cond_true,Bool.and_eq_true]at a;exact⟨.inl (Cr.1 f),(wS a.2.2.2.2).1,.inl (B8 a.2.2.2.1).1⟩|false=>rw[f]at a;cases d:gA m.1 2 with|true=>rw[d]at a;simp only[cond_true,cond_false,Bool.and_eq_true]at a;exact⟨.inr (.inl (Cr.1 d)),(wS a.2.2.2.2).1,.inl (B8 a.2.2.2.1).1⟩|false=>rw[d]at a;cases c:gA m.1 3 with|true=>rw[c]at a;simp only[cond_true,cond_false,Bool.and_eq_true]at a;refine⟨.inr (.inr (Cr.1 c)),(wS a.2.2.2).1,.inr ?_⟩;have b:=a.2.2.1;unfold Zb at b;simp only[Bool.and_eq_true]at b;have l:=gd.1 b.1;have e:gS .i64 m.2.2.2.2.2.2.2.1 1=m.2.2.2.2.2.2.2.1-1:=iz (by omega) (by omega);rw[e]at b;have j:=gd.1 b.2.1;have k:=Cr.1 b.2.2.1;show m.2.2.2.2.2.2.2.2.2.2.1<m.2.2.2.2.2.2.2.1;omega|false=>rw[c]at a;have i:gA m.1 4=false:=CN.2 g;rw[i]at a;cases a
theorem u4{a:List ao}{j:Nat}{b n:ao}(h:a[j]?=some b)(e:n.1=b.1):(a.set j n).map (λn=>n.1)=a.map (λn=>n.1):=by
 rw[List.map_set,e];apply List.ext_getElem?;intro i;rw[List.getElem?_set];split;·next c=>
  subst c;split;·rw[List.getElem?_map,h];rfl
  ·next d=>rw[List.getElem?_eq_none (by omega)]
 ·rfl
theorem UJ{R:Int}{w:ee}(a:WR R w){m:ie}{g:List an}(j:GM w m g)(y:FR w m):WR (R+14) (xx w m g):=by
 have s:=ZM j.ok;obtain⟨D,n,F,z,B,A⟩:=y;obtain⟨J,I,E⟩:=am8 s D;have o:=a.nd n F;have L:=a.r0;have H:=o.rd;have G:=(pn o.set).2;have N:(IE m).1<=R+1:=by
  rcases z with h|h|⟨b,d,h⟩;·omega
  ·omega
  ·have :=a.bl.rd b (o.K6 b d).1;omega
 have M:(IF m).1<=R+1:=by rcases B with h|h<;>omega
 have K:(mQ m).1<=R+1:=by rcases E with h|h<;>omega
 have v:∀b∈n6 m,b∈ab w++g:=λb d=>by
  rcases j.nw with e|⟨c,l,p,_⟩;·rw[e,List.append_nil];exact UI (j.bu2 e b d).2
  ·rw[l,List.mem_singleton]at d;rw[p,d];exact List.mem_append_right _ (List.mem_cons_self ..)
 have u:BR (R+14) (ab w++g):=by
  rcases j.nw with e|⟨c,l,p,C,_⟩;·rw[e,List.append_nil];exact⟨a.bl.F2,a.bl.kp,λb d=>by have :=a.bl.rd b d;omega⟩
  · rw[p];have r:c∈n6 m:=by rw[l];simp
    refine⟨λi t=>?_,λb d=>?_,λb d=>?_⟩
    · rcases Nat.lt_or_ge i (ab w).length with f|f;· rw[List.getElem_append_left f];exact a.bl.F2 i f
      · have :i=(ab w).length:=by rw[List.length_append]at t;simp at t;omega
        subst this;rw[List.getElem_append_right (Nat.le_refl _)];simp only[Nat.sub_self,List.getElem_cons_zero];exact C
    · rcases List.mem_append.1 d with f|f;· exact a.bl.kp b f
      · rw[List.mem_singleton.1 f];exact (s.bs c r).1
    · rcases List.mem_append.1 d with f|f;· have :=a.bl.rd b f;omega
      · rw[List.mem_singleton.1 f];have :=A c r;omega
 have q:∀b∈ab w,b∈ab w++g:=λb d=>List.mem_append_left _ d;refine CV (w:=IS w (aa w) (ab w++g) (hH w) (gl w)) ⟨by omega,a.b0,a.fo,u,λx k=>(a.nd x k).mono (by omega) q (by rw[List.length_append];omega),a.nm,λx k=>(a.As x k).mono (by omega) q⟩ (λx k=>?_);rw[List.mem_singleton.1 k];exact⟨j.ok,v,by omega,by omega,by omega,by omega⟩
theorem qL.wr{E S:Nat}{R:Int}{w G:ee}(s:qL w G)(h:WI E S w)(D:E<890)(a:WR R w)(N:R<=9970):WR (R+14) G:=by have l:=a.r0;cases s with
 |same=>exact a.up (by omega)|Eb m g P=>
 refine WR.up (R:=R) ⟨a.r0,a.b0,a.fo,a.bl,a.nd,a.nm,λx i=>?_⟩ (by omega);rcases List.mem_append.1 i with f|f;·exact a.As x f
 ·rw[List.mem_singleton.1 f];exact a.As m g|drop k=>exact (FL a k).up (by omega)|AN k e=>have g:=h.nm _ (List.getElem_mem e);exact (Hv (u3 h k) D (FL a k) g.1 (a.As _ (List.getElem_mem e)) g.2).up (by omega)|Mn j c F=>
 obtain⟨d,u⟩:=h.nd _ (List.getElem_mem c);obtain⟨y,z,M⟩:=Qf a.bl (a.nd _ (List.getElem_mem c)) d (by omega) l h.bl;have B:∀b∈ab w,b∈ab w++(ej (aa w)[j] ((ab w).length:Int)).2.1:=λb F=>List.mem_append_left _ F;have I:=Et (n:=(ab w).length) (by omega);have r:=(IQ d I (by omega)).2.1;have H:=a.nm.set c r;refine WR.up (R:=R+1) ?_ (by omega);refine CV (w:=IS w ((aa w).set j (ej (aa w)[j] ((ab w).length:Int)).1) (ab w++(ej (aa w)[j] ((ab w).length:Int)).2.1) (hH w) (gl w)) ⟨by omega,a.b0,a.fo,y,λx i=>?_,H,λx i=>(a.As x i).mono (by omega) B⟩ M;rcases List.mem_or_eq_of_mem_set i with f|rfl;·exact (a.nd x f).mono (by omega) B (by rw[List.length_append];omega)
 ·exact z|Hs j c=>obtain⟨d,u⟩:=h.nd _ (List.getElem_mem c);obtain⟨y,z⟩:=NI a.bl (a.nd _ (List.getElem_mem c)) d (by omega) l (by omega);have r:=(Hk d (by omega)).2.1;exact (CV (B9 (a.up (R':=R+1) (by omega)) c r y) z).up (by omega)|JL j c k e=>obtain⟨d,u⟩:=h.nd _ (List.getElem_mem c);unfold Es;cases t:(hM (aa w)[j] (aa w)[k].2.1 (aa w)[k].1).2.1.1 with|false=>exact a.up (by omega)|true=>refine WR.up (R:=R) (CV a λm g=>?_) (by omega);rw[List.mem_singleton.1 g];exact EK a.bl (a.nd _ (List.getElem_mem c)) d (by omega) l (a.nd _ (List.getElem_mem e)).nm t
 |FJ j c q K _ _=>
 have o:=a.nd _ (List.getElem_mem c);refine WR.up (R:=R) (B9 (n:=Ff (aa w)[j] q) a c rfl (NF o ?_)) (by omega);rcases K with rfl|⟨_,f⟩;·exact o.kB
 ·exact f|GN j c=>have o:=a.nd _ (List.getElem_mem c);refine WR.up (R:=R) (B9 (n:=Fl (aa w)[j]) a c (IT _) ?_) (by omega);unfold Fl;exact NF (NC (NB o (λv A=>by cases A)) (λv A=>by cases A)) rfl|JM m O t L=>exact UJ a t L|Ii j c k e p=>obtain⟨d,u⟩:=h.nd _ (List.getElem_mem c);obtain⟨C,_⟩:=h.nd _ (List.getElem_mem e);have J:=A1 _ _ _ p;exact (Hv h D a (s8 d C.v.h.ok.2.1 C.v.h.ok.1 p) (EK a.bl (a.nd _ (List.getElem_mem c)) d (by omega) l (a.nd _ (List.getElem_mem e)).nm p) (by rw[J.1];exact F1 e)).up (by omega)
theorem JQ(w:ee)(m:ie)(c:∀n∈aa w,(fz n m).1.1=n.1\/n.2.1≠m.2.2.1):ab (q9 w m)=ab w/\(aa (q9 w m)).map (λn=>n.1)=(aa w).map (λn=>n.1)/\(q9 w m).1=w.1/\(q9 w m).2.1=w.2.1/\df (q9 w m)=df w:=by unfold q9;cases a:(aa w)[(RE (aa w) m.2.1).toNat]? with|none=>exact⟨rfl,rfl,rfl,rfl,rfl⟩|some n=>dsimp only;cases e:gA n.2.1 m.2.2.1 with|false=>exact⟨rfl,rfl,rfl,rfl,rfl⟩|true=>
 refine⟨rfl,?_,rfl,rfl,rfl⟩;have b:=List.mem_of_getElem? a;have d:(fz n m).1.1=n.1:=by
  rcases c n b with h|h;·exact h
  ·exact absurd (Cr.1 e) h
 show ((aa w).set _ (fz n m).1).map (λn=>n.1)=_;exact u4 a d
theorem qL.CB{E S:Nat}{w g:ee}(s:qL w g)(h:WI E S w)(D:E<890):(∃f,ab g=ab w++f/\f.length<=1)/\(aa g).map (λn=>n.1)=(aa w).map (λn=>n.1)/\g.1=w.1/\g.2.1=w.2.1/\df g=df w:=by
 have t:∀(v:ee)(m:ie),WI E S v->GL m->∀n∈aa v,(fz n m).1.1=n.1\/n.2.1≠m.2.2.1:=λv m B l n A=>by
  by_cases i:n.2.1=m.2.2.1;·obtain⟨d,C⟩:=B.nd n A;exact .inl (IP d l i.symm (by omega)).2.1
  ·exact .inr i
 have c:∃f,ab w=ab w++f/\f.length<=1:=⟨[],by simp,Nat.zero_le _⟩;cases s with|same=>exact⟨c,rfl,rfl,rfl,rfl⟩|Eb m l F=>exact⟨c,rfl,rfl,rfl,rfl⟩|drop k=>exact⟨c,rfl,rfl,rfl,rfl⟩|AN k o=>have l:=h.nm _ (List.getElem_mem o);obtain⟨r,p⟩:=JQ (Fe w k) (gl w)[k] (t (Fe w k) _ (u3 h k) l.1);rw[r];exact⟨c,p⟩|Mn j a G=>obtain⟨d,i⟩:=h.nd _ (List.getElem_mem a);have u:=Et (n:=(ab w).length) (by omega);refine⟨⟨(ej (aa w)[j] ((ab w).length:Int)).2.1,rfl,?_⟩,u4 (List.getElem?_eq_getElem a) (IQ d u (by omega)).2.1,rfl,rfl,rfl⟩;rcases (Hp d u (by omega)).2.2.2.2 with⟨e,_⟩|⟨e,_⟩<;>rw[e]<;>simp|Hs j a=>obtain⟨d,i⟩:=h.nd _ (List.getElem_mem a);exact⟨c,u4 (List.getElem?_eq_getElem a) (Hk d (by omega)).2.1,rfl,rfl,rfl⟩|JL j a k o=>unfold Es;cases (hM (aa w)[j] (aa w)[k].2.1 (aa w)[k].1).2.1.1<;>exact⟨c,rfl,rfl,rfl,rfl⟩|FJ j a q _ _ _=>exact⟨c,u4 (n:=Ff (aa w)[j] q) (List.getElem?_eq_getElem a) rfl,rfl,rfl,rfl⟩|GN j a=>exact⟨c,u4 (n:=Fl (aa w)[j]) (List.getElem?_eq_getElem a) (IT _),rfl,rfl,rfl⟩|JM m f z _=>refine⟨⟨f,rfl,?_⟩,rfl,rfl,rfl,rfl⟩;rcases z.nw with e|⟨b,_,e,_⟩<;>rw[e]<;>simp|Ii j a k o y=>obtain⟨d,i⟩:=h.nd _ (List.getElem_mem a);obtain⟨x,_⟩:=h.nd _ (List.getElem_mem o);obtain⟨r,p⟩:=JQ w (hM (aa w)[j] (aa w)[k].2.1 (aa w)[k].1).1 (t w _ h (s8 d x.v.h.ok.2.1 x.v.h.ok.1 y));rw[r];exact⟨c,p⟩
structure s9(n n':ao)(sg:List gx):Prop where
 nm:n'.1=n.1
 mon:n.2.1<n'.2.1\/(n'.2.1=n.2.1/\fl n<=fl n')Hr:sg.length<=1
 HD:∀s∈sg,s.2.2.2.2.1=n.1/\s.2.1=n.2.1
 new:∀s∈sg,s.1=1->fl n<s.2.2.1/\(n.2.1<n'.2.1\/(n'.2.1=n.2.1/\s.2.2.1<=fl n'))
theorem s9.none{n n':ao}(h:lh n n'):s9 n n' []:=⟨h.a.nm,by
 rcases h.a.ca with⟨b,c,_⟩|b;·exact .inr ⟨b,Int.le_of_eq c.symm⟩
 ·exact .inl b,Nat.zero_le _,λs a=>(by cases a),λs a=>(by cases a)⟩
theorem Qg{n:ao}{b:an}(r:NW n)(f:lf.Ok b)(m:e8 b)(o:n.2.1<890):s9 n (hW n b).1 (hW n b).2.2:=by obtain⟨j,d⟩:=py r f m o;unfold hW;cases p:Ee n b with|false=>exact s9.none d|true=>
 have i:=KW p;have l:=i.ep;have u:fl (cv n b)=fl n:=by
  rcases d.a.ca with⟨_,e,_⟩|e;·exact e
  ·omega
 have q:=pf j f.2.2.1;obtain⟨w,k⟩:=IN (v:=(b.2.2.1,(b.1,((cv n b).1,())))) q ⟨f.2.2.1,f.1,j.v.h.ok.1,trivial⟩ (by show (cv n b).2.1<890;omega);have t:=i.vo;have h:(w9 (sb (cv n b) b.2.2.1) (b.2.2.1,(b.1,((cv n b).1,())))).2.1=(cv n b).2.1/\fl (w9 (sb (cv n b) b.2.2.1) (b.2.2.1,(b.1,((cv n b).1,()))))=b.2.2.1\/(cv n b).2.1<(w9 (sb (cv n b) b.2.2.1) (b.2.2.1,(b.1,((cv n b).1,())))).2.1:=by
  rcases k.a.ca with ⟨a,c,_⟩|e;·exact .inl ⟨a,c⟩
  ·exact .inr e
 simp only[cond_true];refine ⟨k.a.nm.trans d.a.nm,?_,Nat.le_refl _,λs g=>?_,λs g _=>?_⟩
 · rcases h with ⟨a,c⟩|e;· exact .inr ⟨a.trans l,by rw[c];omega⟩
   · exact .inl (by omega)
 · rw[List.mem_singleton.1 g];exact ⟨d.a.nm,rfl⟩
 · rw[List.mem_singleton.1 g];refine ⟨by show fl n<b.2.2.1;omega,?_⟩;rcases h with ⟨a,c⟩|e;· exact .inr ⟨a.trans l,by rw[c];exact Int.le_refl _⟩
   · exact .inl (by omega)
theorem Qh{n:ao}{m:ie}(d:NW n)(a:GL m)(g:m.2.2.1=n.2.1)(c:n.2.1<890):s9 n (fz n m).1 (fz n m).2.2:=by unfold fz;cases i:gA m.1 1 with
 |true=>have h:=a.pr (Cr.1 i);cases f:n6 m with|nil=>exact absurd f h|cons b r=>have e:=a.ok.kp a.l b (by rw[f];simp);exact Qg d e.1 e.2 c
 |false=>cases gA m.1 2 with|true=>exact s9.none (IN d a.ok.vo c).2|false=>cases gA m.1 3 with|true=>exact s9.none (Hj d (a.ok.EO a.l) a.ok.go c).2|false=>exact s9.none (EH d a.ok a.l g c).2.2.2
theorem NL{n:ao}(a:NW n)(f:n.2.1<890)(i:fl n<=ad n):s9 n (fp n).1 (fp n).2.2:=by unfold fp;cases (F6 (ar n) n.1&&!dO (ad n) (fl n)) with|false=>exact s9.none (lh.gj n)|true=>
 obtain⟨j,c⟩:=Hj (g:=E3 n) (pf a a.v.h.round) (a.v.h.ok.EO a.v.h.l) (IM a.v.h.ok) f;refine⟨c.a.nm,?_,Nat.le_refl _,λs b=>?_,λs b e=>?_⟩
 · rcases c.a.ca with⟨h,d,_⟩|e;· exact .inr ⟨h,by have d:fl (j6 (sb n (ad n)) (E3 n) (bx n))=ad n:=d;show fl n<=fl (j6 (sb n (ad n)) (E3 n) (bx n));omega⟩
   · exact .inl e
 · rw[List.mem_singleton.1 b];exact ⟨rfl,rfl⟩
 · rw[List.mem_singleton.1 b]at e;have :(2:Int)=1:=e;omega
theorem Qi{n:ao}{a:Int}(b:NW n)(c:(Lit.int .i64 a).wf=true)(e:n.2.1<890):s9 n (ej n a).1 (ej n a).2.2.2:=by obtain⟨f,d⟩:=uf b.v.h c;unfold ej;cases Gj n a with|false=>exact s9.none (lh.gj n)|true=>have h:=Qg (wc b b.v.h.round) f d e;exact⟨h.nm,h.mon,h.Hr,h.HD,h.new⟩
structure AS(w:ee):Prop where
 HD:∀s∈hH w,∃n∈aa w,s.2.2.2.2.1=n.1
 old:∀s∈hH w,s.1=1->∀n∈aa w,s.2.2.2.2.1=n.1->s.2.1<n.2.1\/(s.2.1=n.2.1/\s.2.2.1<=fl n)Hr:∀s∈hH w,∀t∈hH w,s.1=1->t.1=1->s.2.1=t.2.1->s.2.2.1=t.2.2.1->s.2.2.2.2.1=t.2.2.2.2.1->s.2.2.2.1=t.2.2.2.1
theorem RP.GG{bF:List D9}{a:List ao}(h:RP bF a){i j:Nat}(c:i<a.length)(d:j<a.length)(e:a[i].1=a[j].1):i=j:=by
 rcases Nat.lt_trichotomy i j with b|b|b;·have :=h.up i j c d b;rw[e,GA (xD _)]at this;cases this
 ·exact b
 ·have :=h.up j i d c b;rw[e,GA (xD _)]at this;cases this
theorem FM{w g:ee}{bF:List D9}(h:AS w)(S:RP bF (aa w)){j:Nat}(B:j<(aa w).length){n':ao}{C:List gx}(c:s9 (aa w)[j] n' C)(p:aa g=(aa w).set j n')(o:∀s,s∈hH g↔s∈hH w\/s∈C):AS g:=by
 have G:∀x∈aa g,x=n'\/(x∈aa w/\x.1≠n'.1):=λx r=>by
  rw[p] at r;obtain⟨i,u,rfl⟩:=List.getElem_of_mem r;rw[List.getElem_set];split;·exact .inl rfl
  ·next A=>
  have E:i<(aa w).length:=by rw[List.length_set] at u;exact u
  refine .inr ⟨List.getElem_mem E,λe=>A ?_⟩;rw[c.nm] at e;exact (S.GG E B e).symm
 have J:n'∈aa g:=by rw[p,List.mem_iff_getElem];exact ⟨j,by rw[List.length_set];exact B,by rw[List.getElem_set_self]⟩
 have F:∀x∈aa w,∃y∈aa g,y.1=x.1:=λx r=>by
  obtain ⟨i,u,rfl⟩:=List.getElem_of_mem r;refine ⟨(aa g)[i]'(by rw[p,List.length_set];exact u),List.getElem_mem _,?_⟩;simp only[p,List.getElem_set];split;·next e=>subst e;exact c.nm
  ·rfl
 have z:∀s∈hH w,s.1=1->s.2.2.2.2.1=(aa w)[j].1->s.2.1<(aa w)[j].2.1\/(s.2.1=(aa w)[j].2.1/\s.2.2.1<=fl (aa w)[j]):=λs O d e=>h.old s O d _ (List.getElem_mem B) e;refine ⟨λs k=>?_,λs k d n N e=>?_,λs k t K d f Q T D=>?_⟩
 · rcases (o s).1 k with d|d;· obtain ⟨n,M,P⟩:=h.HD s d;obtain ⟨y,R,e⟩:=F n M;exact ⟨y,R,P.trans e.symm⟩
   · exact ⟨n',J,(c.HD s d).1.trans c.nm.symm⟩
 · rcases G n N with rfl|⟨L,A⟩
   · rcases (o s).1 k with f|f
     · have :=z s f d (e.trans c.nm);rcases c.mon with m|⟨W,U⟩
       · rcases this with q|⟨q,_⟩;· exact .inl (by omega)
         · exact .inl (by omega)
       · rcases this with q|⟨q,v⟩;· exact .inl (by omega)
         · exact .inr ⟨by omega,by omega⟩
     · have l:=c.HD s f;rcases (c.new s f d).2 with q|⟨V,v⟩;· exact .inl (by omega)
       · exact .inr ⟨by omega,v⟩
   · rcases (o s).1 k with f|f;· exact h.old s f d n L e
     · have l:=c.HD s f;exact absurd (by rw[<-e,l.1,c.nm]) A
 · have H:=c.Hr;rcases (o s).1 k with a|a<;>rcases (o t).1 K with b|b;· exact h.Hr s a t b d f Q T D
   · have l:=c.HD t b;have I:=(c.new t b f).1;rcases z s a d (by rw[D,l.1]) with q|⟨q,v⟩<;>omega
   · have l:=c.HD s a;have I:=(c.new s a d).1;rcases z t b f (by rw[<-D,l.1]) with q|⟨q,v⟩<;>omega
   · match C,H,a,b with|[x],_,a,b=>rw[List.mem_singleton.1 a,List.mem_singleton.1 b]
theorem EL{w b:ee}(h:AS w)(c:aa b=aa w)(a:hH b=hH w):AS b:=by
 refine⟨?_,?_,?_⟩;·rw[c,a];exact h.HD
 ·rw[c,a];exact h.old
 ·rw[a];exact h.Hr
theorem K8{E S:Nat}{R:Int}{w:ee}{m:ie}(h:WI E S w)(l:E<890)(e:WR R w)(i:GL m)(f:wt (aa w) m.2.1=true)(b:AS w):AS (q9 w m):=by obtain⟨j,a,_,n,d⟩:=EJ f;obtain⟨k,o⟩:=h.nd _ (List.getElem_mem a);rw[d];cases g:gA (aa w)[j].2.1 m.2.2.1 with|false=>exact b|true=>have c:=Cr.1 g;exact FM b e.nm a (Qh k i c.symm (by omega)) rfl (λs=>ev)
theorem Gk(w:ee)(j:Nat)(n:ao):aa (lb w j n)=(aa w).set j n:=rfl
theorem FN(w:ee)(j:Nat)(n:ao)(s:gx):s∈hH (lb w j n)↔s∈hH w\/s∈([]:List gx):=⟨.inl,λh=>by rcases h with h|h;exact h;cases h⟩
theorem UK(n:ao):lh n (Fl n):=⟨⟨IT n,.inl ⟨IU n,W0 n,W2 n⟩⟩,Int.le_of_eq (IU n).symm,by rw[IU];omega⟩
theorem UL(n:ao):s9 n (Fl n) []:=s9.none (UK n)
theorem W9{w:ee}(b:AS w){bF:List D9}(c:RP bF (aa w)){j:Nat}(d:j<(aa w).length)(n:ao)(e:n=(aa w)[j]):AS (lb w j (Fl n)):=by have a:=UL n;generalize Fl n=m at a⊢;rw[e]at a;exact FM b c d a (Gk w j m) (FN w j m)
theorem NM(n:ao)(q:List cp):s9 n (Ff n q) []:=s9.none ⟨⟨rfl,.inl ⟨rfl,rfl,rfl⟩⟩,Int.le_refl _,by show n.2.1<=n.2.1+1;omega⟩
theorem UM{w:ee}(a:AS w){bF:List D9}(b:RP bF (aa w)){j:Nat}(c:j<(aa w).length)(m:ao)(d:s9 (aa w)[j] m []):AS (lb w j m):=FM a b c d (Gk w j m) (FN w j m)
theorem qL.Hr{E S:Nat}{R:Int}{w o:ee}(s:qL w o)(h:WI E S w)(l:E<890)(c:WR R w)(b:AS w):AS o:=by cases s with|same=>exact b|Eb m f v=>exact EL b rfl rfl|drop k=>exact EL b rfl rfl|AN k d=>have f:=h.nm _ (List.getElem_mem d);exact K8 (u3 h k) l (FL c k) f.1 f.2 (EL b rfl rfl)|Mn j a x=>obtain⟨e,p⟩:=h.nd _ (List.getElem_mem a);have r:=Et (n:=(ab w).length) (by omega);exact FM b c.nm a (Qi e r (by omega)) rfl (λs=>ev)|Hs j a=>obtain⟨e,p⟩:=h.nd _ (List.getElem_mem a);exact FM b c.nm a (NL e (by omega) (c.nd _ (List.getElem_mem a)).vo.2) rfl (λs=>ev)|JL j a k d=>unfold Es;cases (hM (aa w)[j] (aa w)[k].2.1 (aa w)[k].1).2.1.1<;>exact EL b rfl rfl|FJ j a q _ _ _=>exact UM b c.nm a _ (NM _ q)|GN j a=>exact W9 b c.nm a _ rfl|JM m y u _=>exact EL b rfl rfl|Ii j a k d i=>obtain⟨e,p⟩:=h.nd _ (List.getElem_mem a);obtain⟨g,_⟩:=h.nd _ (List.getElem_mem d);have t:=A1 _ _ _ i;exact K8 h l c (s8 e g.v.h.ok.2.1 g.v.h.ok.1 i) (by rw[t.1];exact F1 d) b
structure BA(G:gx->Prop)(S:List e6)(ep:Int)(b:an):Prop where
 eq:b.2.1=ep
 qc:C5 S (i0 b)=true
 tc:Gd S (re b)=true
 fo:oi b=true
 qa:∀s∈p0 ep (i0 b),G s
 ta:∀s∈sT ep (re b),G s
inductive mm(bl:List an)(G:gx->Prop)(S:List e6)(ep:Int):Int->List an->Prop|ID(id:Int):id<0->mm bl G S ep id []|dp(b:an)(l:List an):b∈bl->BA G S ep b->(ks (i0 b)=true\/∃p∈bl,p.1=(i0 b).2.1/\p.2.2.1=(i0 b).1)->mm bl G S ep (i0 b).2.1 l->mm bl G S ep b.1 (l++[b])
theorem BA.mono{G d:gx->Prop}{S:List e6}{c:Int}{b:an}(h:BA G S c b)(e:∀s,G s->d s):BA d S c b:=⟨h.eq,h.qc,h.tc,h.fo,λs a=>e s (h.qa s a),λs a=>e s (h.ta s a)⟩
theorem mm.mono{bl d:List an}{G f:gx->Prop}{S:List e6}{e a:Int}{l:List an}(h:mm bl G S e a l)(g:∀b∈bl,b∈d)(k:∀s,G s->f s):mm d f S e a l:=by induction h with|ID a h=>exact .ID a h|dp b l o i c q j=>
 refine .dp b l (g b o) (i.mono k) ?_ j;rcases c with c|⟨p,n,m⟩;·exact .inl c
 ·exact .inr ⟨p,g p n,m⟩
theorem Qj{l bl:List an}{G:gx->Prop}{S:List e6}{i:Int}(h:j8 l)(j:∀b∈l,b∈bl/\BA G S i b):∀c,(c<0\/∃b∈l,b.1=c)->mm bl G S i c (dc l c):=by
 refine AT h (λc n m=>?_) (λb e g _=>?_)
 · rcases m with a|⟨b,a,d⟩;· rw[KQ h a];exact .ID c a
   · exact absurd d (n b a)
 · rw[l5 h e];obtain⟨a,d⟩:=j b e;rcases h.PM b e with⟨r,o⟩|⟨_,_,_,p,f,k,q⟩;· exact .dp b _ a d (.inl o) (g (.inl (by omega)))
   · exact .dp b _ a d (.inr ⟨p,(j p f).1,k,q⟩) (g (.inr ⟨p,f,k⟩))
theorem mm.dr{bl:List an}{G:gx->Prop}{S:List e6}{d a:Int}{l:List an}(h:mm bl G S d a l):∀b∈l,b∈bl/\BA G S d b:=by induction h with|ID a h=>intro b g;cases g|dp b l j e k m i=>
 intro c f;rcases List.mem_append.1 f with h|h;·exact i c h
 ·rw[List.mem_singleton.1 h];exact⟨j,e⟩
structure RQ(bl:List an)(G:gx->Prop)(S:List e6)(ep:Int)(q:k0)(l:List an)(a b:an):Prop where
 ch:mm bl G S ep a.1 (l++[a])inb:b∈bl
 ba:BA G S ep b
 id:b.1=q.2.1
 rd:b.2.2.1=q.1
 PM:(i0 b).2.1=a.1
 prd:(i0 b).1=a.2.2.1
 ard:a.2.2.1=q.1-1
 qc:C5 S q=true
 qa:∀s∈p0 ep q,G s
theorem RQ.mono{bl d:List an}{G f:gx->Prop}{S:List e6}{e:Int}{q:k0}{l:List an}{a b:an}(h:RQ bl G S e q l a b)(g:∀b∈bl,b∈d)(c:∀s,G s->f s):RQ d f S e q l a b:=⟨h.ch.mono g c,g b h.inb,h.ba.mono c,h.id,h.rd,h.PM,h.prd,h.ard,h.qc,λs i=>c s (h.qa s i)⟩
theorem JR{l bl:List an}{G:gx->Prop}{S:List e6}{e:Int}{q:k0}(h:j8 l)(i:∀b∈l,b∈bl/\BA G S e b)(j:C5 S q=true)(n:∀s∈p0 e q,G s)(o:dt l q≠-1):∃k a b,dc l (dt l q)=k++[a]/\dc l q.2.1=(k++[a])++[b]/\RQ bl G S e q k a b:=by
 obtain⟨b,c,m,x,p,d,g,y,u⟩:=Gi o;have B:=Pe j;have r:p.2.2.1=q.1-1:=by rw[y];exact iz (by omega) (by omega)
 have z:=h.nn p d;have f:dc l p.1=dc l (i0 p).2.1++[p]:=l5 h d;refine⟨dc l (i0 p).2.1,p,b,by rw[<-u,f],by rw[<-m,l5 h c,<-g,f],?_⟩;refine⟨by rw[<-f];exact Qj h i p.1 (.inr ⟨p,d,rfl⟩),(i b c).1,(i b c).2,m,x,g.symm,?_,r,j,n⟩;rcases h.PM b c with ⟨A,_⟩|⟨_,_,_,C,t,w,v⟩;·omega
 ·have :=h.TN d t (g.trans w.symm);rw[this];exact v.symm
inductive Oi(bl:List an)(G:gx->Prop)(S:List e6)(ep:Int)(d0:List D3):List D3->Prop|nil:Oi bl G S ep d0 d0|ZC(d:List D3)(q:k0)(l:List an)(a b:an):Oi bl G S ep d0 d->RQ bl G S ep q l a b->(∀c∈l++[a],hu c=false)->Oi bl G S ep d0 (kn d (fv (l++[a])))
inductive u5(bl:List an)(G:gx->Prop)(base:ek):List HC->List e6->ek->List D3->Prop|nil:u5 bl G base [] (va base.2.1) base []|RR(eD:List HC)(S:List e6)(L:ek)(d0 d:List D3)(q:k0)(l:List an)(a b:an)(p:List an)(c:an)(r:List an):u5 bl G base eD S L d0->Oi bl G S (eD.length:Int) d0 d->RQ bl G S (eD.length:Int) q l a b->l++[a]=p++c::r->hu c=true->(∀x∈p,hu x=false)->u5 bl G base (eD++[((eD.length:Int),((l++[a])++[b],(q.1,(q.2.1,(q.2.2.1,())))))]) (p7 c) (j0 (md L (p++[c]))) (kn d (fv (p++[c])))
theorem Oi.mono{bl c:List an}{G f:gx->Prop}{S:List e6}{e:Int}{g d:List D3}(h:Oi bl G S e g d)(j:∀b∈bl,b∈c)(k:∀s,G s->f s):Oi c f S e g d:=by induction h with|nil=>exact .nil|ZC d q l a b _ n i m=>exact .ZC d q l a b m (n.mono j k) i
theorem u5.mono{bl f:List an}{G g:gx->Prop}{base:ek}{e:List HC}{S:List e6}{L:ek}{d:List D3}(h:u5 bl G base e S L d)(i:∀b∈bl,b∈f)(j:∀s,G s->g s):u5 f g base e S L d:=by induction h with|nil=>exact .nil|RR e S L n d q l a b p c r _ u m k v o t=>exact .RR e S L n d q l a b p c r t (u.mono i j) (m.mono i j) k v o
structure SI(bl:List an)(G:gx->Prop)(base:ek)(n:ao):Prop where
 Ga:∃d0,u5 bl G base (bb n) (ar n) (ft n) d0/\Oi bl G (ar n) n.2.1 d0 (j9 n)kA:∀b∈ag n,b∈bl/\BA G (ar n) n.2.1 b
 hq:C5 (ar n) (bx n)=true/\∀s∈p0 n.2.1 (bx n),G s
 tq:Gd (ar n) (Fa n)=true/\∀s∈sT n.2.1 (Fa n),G s
 vt:∀v∈ec n,G (B5 v.2.2.1 n.2.1 v.1 v.2.1)gn:∀g∈ei n,G ((2,(n.2.1,(g.1,(g.2.1,(g.2.2.1,()))))):gx)
theorem SI.mono{bl e:List an}{G f:gx->Prop}{base:ek}{n:ao}(h:SI bl G base n)(c:∀b∈bl,b∈e)(a:∀s,G s->f s):SI e f base n:=by obtain⟨k,m,j⟩:=h.Ga;exact⟨⟨k,m.mono c a,j.mono c a⟩,λb i=>⟨c b (h.kA b i).1,(h.kA b i).2.mono a⟩,⟨h.hq.1,λs d=>a s (h.hq.2 s d)⟩,⟨h.tq.1,λs d=>a s (h.tq.2 s d)⟩,λv o=>a _ (h.vt v o),λg l=>a _ (h.gn g l)⟩
theorem UN{bl:List an}{G:gx->Prop}{base:ek}{n:ao}{q:k0}(h:SI bl G base n)(d:C5 (ar n) q=true)(a:∀s∈p0 n.2.1 q,G s):SI bl G base (oj n q):=by
 have c:bx (oj n q)=BE n q:=rfl;have b:BE n q=q\/BE n q=bx n:=by unfold BE;cases dO (bx n).1 q.1<;>simp
 refine⟨h.Ga,h.kA,?_,h.tq,h.vt,h.gn⟩;rw[c];rcases b with e|e<;>rw[e];·exact⟨d,a⟩
 ·exact h.hq
theorem Pj{bl:List an}{G:gx->Prop}{base:ek}{n:ao}{q:k0}(j:NW n)(h:SI bl G base n)(L:n.2.1<890)(w:C5 (ar n) q=true)(o:∀s∈p0 n.2.1 q,G s):SI bl G base (l9 n q):=by
 have A:j8 (ag n):=j.v.h.t;obtain⟨z,B,y⟩:=h.Ga;rcases AL n.2.1.toNat n.2.1.toNat n q j.v (by omega) with⟨_,e⟩|⟨t,⟨F,e⟩|⟨p,c,r,I,C,E,M,e,m⟩⟩;·rw[e];exact h
 ·obtain⟨k,a,b,f,u,l⟩:=JR A h.kA w o t;rw[e];refine⟨⟨z,B,?_⟩,h.kA,h.hq,h.tq,h.vt,h.gn⟩;have :=Oi.ZC (j9 n) q k a b y l (by rw[<-f];exact F);rw[f];exact this
 ·obtain⟨k,a,b,f,u,l⟩:=JR A h.kA w o t;rw[e];have i:=j.pa;have K:(j0 (md (ft n) (p++[c]))).1=n.2.1+1:=m;refine⟨⟨kn (j9 n) (fv (p++[c])),?_,.nil⟩,λx D=>(by cases D),⟨Ht,λs d=>(by cases d)⟩,⟨Hu,λs d=>(by cases d)⟩,λv J=>(by cases J),λg H=>(by cases H)⟩;have d:=u5.RR (bb n) (ar n) (ft n) z (j9 n) q k a b p c r B (by rw[i];exact y) (by rw[i];exact l) (by rw[<-f];exact I) C E;rw[i,<-u]at d;exact d
theorem FO{bl:List an}{G:gx->Prop}{base:ek}{n:ao}{q:k0}(a:NW n)(h:SI bl G base n)(e:n.2.1<890)(f:GO q)(c:C5 (ar n) q=true)(b:∀s∈p0 n.2.1 q,G s):SI bl G base (ea n q):=by have d:NW (oj n q):=NW.So (Hh a.v f) a.e0 a.pa;exact Pj d (UN h c b) e c b
theorem Pk{bl:List an}{G:gx->Prop}{base:ek}{n:ao}{t:vc}(h:SI bl G base n)(c:Gd (ar n) t=true)(a:∀s∈sT n.2.1 t,G s):SI bl G base (Me n t):=by
 have d:Fa (Me n t)=Rp n t:=rfl;have b:Rp n t=t\/Rp n t=Fa n:=by unfold Rp;cases dO (Fa n).1 t.1<;>simp
 refine⟨h.Ga,h.kA,h.hq,?_,h.vt,h.gn⟩;rw[d];rcases b with e|e<;>rw[e];·exact⟨c,a⟩
 ·exact h.tq
theorem NN{bl:List an}{G:gx->Prop}{base:ek}{n:ao}{l:List u6}(h:SI bl G base n)(a:∀v∈l,G (B5 v.2.2.1 n.2.1 v.1 v.2.1)):SI bl G base (EB n l):=⟨h.Ga,h.kA,h.hq,h.tq,a,h.gn⟩
theorem NO{bl:List an}{G:gx->Prop}{base:ek}{n:ao}{v:Int}(h:SI bl G base n):SI bl G base (sb n v):=⟨h.Ga,h.kA,h.hq,h.tq,h.vt,h.gn⟩
theorem K9{bl:List an}{G:gx->Prop}{base:ek}{n:ao}{v:Int}(h:SI bl G base n):SI bl G base (qf n v):=⟨h.Ga,h.kA,h.hq,h.tq,h.vt,h.gn⟩
theorem UO{G:gx->Prop}{d:List e6}{c:List u6}{r i f:Int}(h:∀v∈c,G (B5 v.2.2.1 f v.1 v.2.1)):∀s∈p0 f (ED d c r i),G s:=by intro s g;unfold p0 at g;obtain⟨w,b,rfl⟩:=List.mem_map.1 g;have b:w∈JI d c r i:=b;unfold JI at b;obtain⟨v,m,rfl⟩:=List.mem_map.1 b;have e:=(List.mem_filter.1 m).2;unfold Ec at e;obtain⟨x,n,a⟩:=List.any_eq_true.1 e;unfold Ml at a;simp only[Bool.and_eq_true]at a;have j:=Cr.1 a.1;have k:=Cr.1 a.2.1;have l:=n7.1 a.2.2;have :=h x n;rw[j,k,l]at this;exact this
theorem Qk{bl:List an}{G:gx->Prop}{base:ek}{n:ao}{v:u6}(a:NW n)(h:SI bl G base n)(f:n.2.1<890)(c:H5.Ok v)(k:G (B5 v.2.2.1 n.2.1 v.1 v.2.1)):SI bl G base (w9 n v):=by
 have i:=Hi a.v.vo a.v.h.ok.fi c;have e:∀x∈th (ec n) v,G (B5 x.2.2.1 n.2.1 x.1 x.2.1):=λx l=>by
  rcases NG l with b|b;·exact h.vt x b
  ·rw[b];exact k
 have d:SI bl G base (EB n (th (ec n) v)):=NN h e;have g:=EG a i (F0 a.v.vo);unfold w9;cases F6 (ar n) v.2.2.1 with|false=>exact h|true=>cases j:tS (ar n) (th (ec n) v) v.1 v.2.1 with|false=>exact d|true=>exact FO g d f (EF (ar n) (th (ec n) v) v.1 v.2.1 a.v.h.ok.set a.v.h.l.2.1 c.1 c.2.1) (JP j).1 (UO e)
theorem NP{round:Int}{name:ByteArray}:∀(a:List sd)(s:Int),a.foldl (G9 round name) s=s\/∃g∈a,g.1=round/\g.2.2.1=name/\g.2.1=a.foldl (G9 round name) s
 |[],s=>.inl rfl|x::r,s=>by
  rw[List.foldl_cons];rcases NP r (G9 round name s x) with h|⟨g,d,c⟩;·rw[h];unfold G9;cases b:(gA x.1 round&&(ko x.2.2.1 name&&dO s x.2.1)) with|false=>exact .inl rfl|true=>simp only[Bool.and_eq_true]at b;exact .inr ⟨x,List.mem_cons_self ..,Cr.1 b.1,n7.1 b.2.1,rfl⟩
  ·exact .inr ⟨g,List.mem_cons_of_mem _ d,c⟩
theorem NQ(a:List sd)(round:Int):∀(c:List e6)(s:List D9×List D3),s.1.length=s.2.length->∀p∈List.zip (c.foldl (ik a round) s).1 (c.foldl (ik a round) s).2,p∈List.zip s.1 s.2\/∃v∈c,0<=BY a round v.1/\p.1.1=v.1/\p.2.1=BY a round v.1
 |[],s,_,p,b=>.inl b|v::r,s,e,p,b=>by
  rw[List.foldl_cons]at b;have f:(ik a round s v).1.length=(ik a round s v).2.length:=by unfold ik;cases km 0 (BY a round v.1) with|false=>exact e|true=>simp[e]
  rcases NQ a round r (ik a round s v) f p b with h|⟨x,g,h⟩;·unfold ik at h;cases d:km 0 (BY a round v.1) with|false=>rw[d]at h;exact .inl h|true=>
   rw[d]at h;simp only[cond_true]at h;rw[List.zip_append e]at h;rcases List.mem_append.1 h with h|h;·exact .inl h
   ·simp only[List.zip_cons_cons,List.zip_nil_left,List.mem_singleton]at h;exact .inr ⟨v,List.mem_cons_self ..,Cq.1 d,by rw[h],by rw[h]⟩
  ·exact .inr ⟨x,List.mem_cons_of_mem _ g,h⟩
theorem UP{G:gx->Prop}{c:List e6}{a:List sd}{r d:Int}(h:∀g∈a,G ((2,(d,(g.1,(g.2.1,(g.2.2.1,()))))):gx)):∀s∈sT d (Gh c a r),G s:=by
 intro s e;unfold sT at e;obtain⟨p,j,rfl⟩:=List.mem_map.1 e;rcases NQ a r c ([],[]) rfl p j with f|⟨v,_,f,k,i⟩;·cases f
 · rcases NP (round:=r) (name:=v.1) a (-1) with b|⟨g,b,n,m,l⟩;· have :BY a r v.1=-1:=b;omega
   · have :=h g b;rw[n,m,show g.2.1=BY a r v.1 from l,<-i,<-k]at this;exact this
theorem RS{bl:List an}{G:gx->Prop}{base:ek}{n:ao}{g:sd}(h:SI bl G base n)(i:G ((2,(n.2.1,(g.1,(g.2.1,(g.2.2.1,()))))):gx)):SI bl G base (xd n g):=by
 have d:∀x∈vx (ei n) g,G ((2,(n.2.1,(x.1,(x.2.1,(x.2.2.1,()))))):gx):=λx j=>by
  rcases NH j with a|a;·exact h.gn x a
  ·rw[a];exact i
 have c:SI bl G base (Fb n (vx (ei n) g)):=⟨h.Ga,h.kA,h.hq,h.tq,h.vt,d⟩;unfold xd;dsimp only;cases f:(wb (ar n) (vx (ei n) g) g.1).2.1.1 with|false=>exact c|true=>obtain⟨_,b,e⟩:=FX f;rw[e]at b⊢;exact Pk c b (UP d)
theorem Ql{bl:List an}{G:gx->Prop}{base:ek}{n:ao}{g:sd}{q:k0}(j:NW n)(h:SI bl G base n)(e:n.2.1<890)(f:GO q)(i:G ((2,(n.2.1,(g.1,(g.2.1,(g.2.2.1,()))))):gx))(c:∀s∈p0 n.2.1 q,G s):SI bl G base (j6 n g q):=by unfold j6;cases a:(F6 (ar n) g.2.2.1&&C5 (ar n) q) with|false=>exact h|true=>simp only[Bool.and_eq_true]at a;have b:=FO j h e f a.2 c;cases d:gA (ea n q).2.1 n.2.1 with|false=>exact b|true=>exact RS b (by rw[Cr.1 d];exact i)
theorem Mp{bl:List an}{G:gx->Prop}{base:ek}{n:ao}{b:an}(m:NW n)(h:SI bl G base n)(j:n.2.1<890)(p:lf.Ok b)(i:e8 b)(v:b∈bl)(t:∀s∈sG n.2.1 b,G s):SI bl G base (cv n b):=by unfold cv;cases o:s7 n b with|false=>exact h|true=>
 have d:=P2 m.v.h.t o;have r:∀s∈p0 n.2.1 (i0 b),G s:=λs k=>t s (by unfold sG;exact List.mem_append_left _ k);have q:∀s∈sT n.2.1 (re b),G s:=λs k=>t s (by unfold sG;exact List.mem_append_right _ k);obtain⟨w,z,y⟩:=FE m p i j o;have x:SI bl G base (ma n (qm (ag n) b)):=⟨h.Ga,λc a=>by
 rcases B2.1 a with f|f;·exact h.kA c f
 ·rw[f];exact⟨v,d.ep,d.qc,d.tc,d.fo,r,q⟩,h.hq,h.tq,h.vt,h.gn⟩;have f:SI bl G base (qu n b):=FO w x j (Fk.EO p i) d.qc r;have g:SI bl G base (kr n b):=by unfold kr;cases a:gA (qu n b).2.1 n.2.1 with|false=>exact f|true=>
  have a:=Cr.1 a;have u:ar (qu n b)=ar n:=by
   rcases y.a.ca with⟨_,_,e⟩|e;·exact e
   ·omega
  exact Pk f (by rw[u];exact d.tc) (by rw[a];exact q)
 obtain⟨l,B⟩:=FF m p i j o;show SI bl G base (B4 n b);unfold B4;cases a:(gA (kr n b).2.1 n.2.1&&gA (bx (kr n b)).2.1 b.1) with|false=>exact g|true=>simp only[Bool.and_eq_true]at a;have A:=Cr.1 a.1;exact FO l g (by omega) (l.v.h.ok.EO l.v.h.l) g.hq.1 g.hq.2
structure MG(G:gx->Prop)(m:ie):Prop where
 v:m.1=2->G (B5 (IE m).2.2.1 m.2.2.1 (IE m).1 (IE m).2.1)g:m.1=3->G ((2,(m.2.2.1,((IF m).1,((IF m).2.1,((IF m).2.2.1,()))))):gx)q:∀s∈p0 m.2.2.1 (mQ m),G s
 t:∀s∈sT m.2.2.1 (mT m),G s
 b:∀b∈n6 m,∀s∈sG m.2.2.1 b,G s
theorem MG.mono{G d:gx->Prop}{m:ie}(h:MG G m)(c:∀s,G s->d s):MG d m:=⟨λe=>c _ (h.v e),λe=>c _ (h.g e),λs a=>c s (h.q s a),λs a=>c s (h.t s a),λb f s a=>c s (h.b b f s a)⟩
theorem JS{G:gx->Prop}{a:List e6}{name:ByteArray}{m:ie}{b:Int}(h:∀v∈a,MG G (EC m v.1 b)):∀x∈pt a name m b,MG G x:=by intro x c;unfold pt at c;obtain⟨v,d,rfl⟩:=List.mem_map.1 c;exact h v (List.mem_filter.1 d).1
theorem Qm{bl:List an}{G:gx->Prop}{base:ek}{n:ao}{b:an}(o:NW n)(h:SI bl G base n)(g:n.2.1<890)(a:lf.Ok b)(f:e8 b)(q:b∈bl)(c:∀s∈sG n.2.1 b,G s)(d:∀s∈(hW n b).2.2,G s):SI bl G base (hW n b).1/\∀m∈(hW n b).2.1,MG G m:=by have j:=Mp o h g a f q c;obtain⟨k,u⟩:=py o a f g;unfold hW at d⊢;cases i:Ee n b with|false=>exact⟨j,λm t=>by cases t⟩|true=>rw[i]at d;simp only[cond_true,List.mem_singleton,forall_eq]at d;have r:=KW i;have l:=r.ep;have p:=pf k a.2.2.1;refine⟨Qk p (NO j) (by show (cv n b).2.1<890;omega) ⟨a.2.2.1,a.1,k.v.h.ok.1,trivial⟩ (by show G (B5 (cv n b).1 (cv n b).2.1 b.2.2.1 b.1);rw[l];exact d),JS λv w=>⟨λ_=>(by show G (B5 (cv n b).1 (cv n b).2.1 b.2.2.1 b.1);rw[l];exact d),λe=>absurd (show (2:Int)=3 from e) (by decide),λs c=>(by cases c),λs c=>(by cases c),λb a=>(by cases a)⟩⟩
theorem UQ{bl:List an}{G:gx->Prop}{base:ek}{n:ao}{m:ie}(q:NW n)(h:SI bl G base n)(w:n.2.1<890)(d:GL m)(t:∀b∈n6 m,b∈bl)(o:MG G m)(z:m.2.2.1=n.2.1):SI bl G base (xr n m):=by
 obtain⟨⟨A,D⟩,⟨F,E⟩,_⟩:=EH q d.ok d.l z w;have u:∀(j:List an)(s:ao),(∀b∈j,b∈n6 m)->NW s->lh n s->SI bl G base s->SI bl G base (j.foldl (kk m.2.2.1) s):=by intro j;induction j with|nil=>intro s _ _ _ i;exact i|cons b r C=>
  intro s p e f i;rw[List.foldl_cons];have l:=p b (by simp);have g:=d.ok.kp d.l b l;have k:NW (kk m.2.2.1 s b)/\lh n (kk m.2.2.1 s b)/\SI bl G base (kk m.2.2.1 s b):=by unfold kk;cases a:gA s.2.1 m.2.2.1 with|false=>exact⟨e,f,i⟩|true=>have a:=Cr.1 a;obtain⟨y,x⟩:=py e g.1 g.2 (by omega);exact⟨y,f.trans x (by omega),Mp e i (by omega) g.1 g.2 (t b l) (by rw[a];exact o.b b l)⟩
  exact C _ (λc a=>p c (by simp[a])) k.1 k.2.1 k.2.2
 have e:SI bl G base (ti n m):=u (n6 m) n (λb B=>B) q (lh.gj n) h;have f:SI bl G base (GK n m):=by unfold GK;cases a:(gA (ti n m).2.1 m.2.2.1&&C5 (ar (ti n m)) (mQ m)) with|false=>exact e|true=>simp only[Bool.and_eq_true]at a;have v:=Cr.1 a.1;exact FO A e (by omega) (d.ok.EO d.l) a.2 (by rw[v];exact o.q)
 unfold xr;cases a:(gA (GK n m).2.1 m.2.2.1&&Gd (ar (GK n m)) (mT m)) with|false=>exact f|true=>simp only[Bool.and_eq_true]at a;exact Pk f a.2 (by rw[Cr.1 a.1];exact o.t)
theorem Xa{bl:List an}{G:gx->Prop}{base:ek}{n:ao}{m:ie}(i:NW n)(h:SI bl G base n)(g:n.2.1<890)(a:GL m)(o:∀b∈n6 m,b∈bl)(d:MG G m)(c:m.2.2.1=n.2.1)(f:∀s∈(fz n m).2.2,G s):SI bl G base (fz n m).1/\∀x∈(fz n m).2.1,MG G x:=by unfold fz at f⊢;cases p:gA m.1 1 with
 |true=>rw[p]at f;have t:=a.pr (Cr.1 p);cases k:n6 m with|nil=>exact absurd k t|cons b r=>
 rw[k]at f;have j:b∈n6 m:=by rw[k];simp
 have l:=a.ok.kp a.l b j;exact Qm i h g l.1 l.2 (o b j) (by rw[<-c];exact d.b b j) f
 |false=>cases u:gA m.1 2 with|true=>exact⟨Qk i h g a.ok.vo (by rw[<-c];exact d.v (Cr.1 u)),λx e=>by cases e⟩|false=>cases q:gA m.1 3 with|true=>exact⟨Ql i h g (a.ok.EO a.l) (by rw[<-c];exact d.g (Cr.1 q)) (by rw[<-c];exact d.q),λx e=>by cases e⟩|false=>exact⟨UQ i h g a o d c,λx e=>by cases e⟩
theorem UR{bl:List an}{G:gx->Prop}{base:ek}{n:ao}(c:NW n)(h:SI bl G base n)(d:n.2.1<890)(a:∀s∈(fp n).2.2,G s):SI bl G base (fp n).1/\∀x∈(fp n).2.1,MG G x:=by unfold fp at a⊢;cases f:(F6 (ar n) n.1&&!dO (ad n) (fl n)) with|false=>exact⟨h,λx j=>by cases j⟩|true=>rw[f]at a;simp only[cond_true,List.mem_singleton,forall_eq]at a;refine⟨Ql (pf c c.v.h.round) (NO h) d (c.v.h.ok.EO c.v.h.l) a h.hq.2,JS λv k=>⟨λe=>absurd (show (3:Int)=2 from e) (by decide),λ_=>a,h.hq.2,λs g=>(by cases g),λb i=>(by cases i)⟩⟩
theorem Qn{bl:List an}{G:gx->Prop}{base:ek}{n:ao}(h:SI bl G base n)(d:Int):∀s∈sG n.2.1 (i4 n d),G s:=by
 intro s c;unfold sG at c;rcases List.mem_append.1 c with a|a;·exact h.hq.2 s a
 ·have e:re (i4 n d)=E5 n:=rfl;rw[e]at a;unfold E5 at a;cases b:!gA (bx n).1 (gS .i64 (ad n) 1)with|true=>rw[b]at a;exact h.tq.2 s a|false=>rw[b]at a;cases a
theorem Xb{bl:List an}{G:gx->Prop}{base:ek}{n:ao}{a:Int}(i:NW n)(h:SI bl G base n)(p:n.2.1<890)(l:(Lit.int .i64 a).wf=true)(g:∀b∈(ej n a).2.1,b∈bl)(f:∀s∈(ej n a).2.2.2,G s):SI bl G base (ej n a).1/\∀x∈(ej n a).2.2.1,MG G x:=by obtain⟨r,o⟩:=uf i.v.h l;unfold ej at g f⊢;cases t:Gj n a with|false=>exact⟨h,λx c=>by cases c⟩|true=>
 rw[t]at g f;have k:i4 n a∈bl:=g _ (List.mem_cons_self ..);have j:=Qn h a;obtain⟨w,q⟩:=Qm (wc i i.v.h.round) (K9 (v:=ad n) h) p r o k j f;refine⟨w,λx c=>?_⟩;rcases List.mem_append.1 c with c|c;·refine JS (m:=rm (i4 n a) n.2.1) (λv y=>?_) x c;exact⟨λe=>absurd (show (1:Int)=2 from e) (by decide),λe=>absurd (show (1:Int)=3 from e) (by decide),λs d=>(by cases d),λs d=>(by cases d),λb u s d=>by rw[List.mem_singleton.1 u]at d;exact j s d⟩
 ·exact q x c
def GW(w:ee)(s:gx):Prop:=ke (df w) s.2.2.2.2.1=true\/s∈hH w
structure SW(w:ee):Prop where
 nd:∀n∈aa w,SI (ab w) (GW w) (fk w) n
 As:∀m∈gl w,MG (GW w) m
theorem u5.eD{bl:List an}{G:gx->Prop}{base:ek}{f:List HC}{S:List e6}{L:ek}{d:List D3}(h:u5 bl G base f S L d):∀p∈f,(∀b∈D1 p,∃k,BA G k p.1 b)/\∀s∈p0 p.1 (pQ p),G s:=by induction h with|nil=>intro p i;cases i|RR f S L o d q l a b p c r _ u g n v t m=>
 intro x e;rcases List.mem_append.1 e with e|e;·exact m x e
 · rw[List.mem_singleton.1 e];refine⟨λy j=>?_,g.qa⟩;rcases List.mem_append.1 j with h|h;· exact⟨S,(g.ch.dr y h).2⟩
   · rw[List.mem_singleton.1 h];exact⟨S,g.ba⟩
theorem NS{G:gx->Prop}{S:List e6}{c:Int}{b:an}(h:BA G S c b):∀s∈sG c b,G s:=by
 intro s d;unfold sG at d;rcases List.mem_append.1 d with a|a;·exact h.qa s a
 ·exact h.ta s a
theorem JT{bl:List an}{G:gx->Prop}{base:ek}{n:ao}(h:SI bl G base n)(a:Int)(k:ByteArray)(f:(hM n a k).2.1.1=true):MG G (hM n a k).1:=by unfold hM at f⊢;cases d:gA a n.2.1 with|true=>have d:=Cr.1 d;refine⟨λe=>absurd (show (4:Int)=2 from e) (by decide),λe=>absurd (show (4:Int)=3 from e) (by decide),λs c=>h.hq.2 s (by rw[<-d];exact c),λs c=>h.tq.2 s (by rw[<-d];exact c),λb j=>?_⟩;show∀s∈sG a b,G s;rw[d];exact NS (h.kA b j).2|false=>rw[d]at f;cases i:(bb n).find? (λp=>gA p.1 a)with|none=>rw[i]at f;cases f|some p=>have o:=List.mem_of_find?_eq_some i;have g:=List.find?_some i;have g:p.1=a:=Cr.1 g;obtain⟨t,r,_⟩:=h.Ga;obtain⟨m,q⟩:=r.eD p o;simp only[cond_false];refine⟨λe=>absurd (show (4:Int)=2 from e) (by decide),λe=>absurd (show (4:Int)=3 from e) (by decide),λs c=>q s (by rw[g];exact c),λs c=>(by cases c),λb j=>?_⟩;obtain⟨u,l⟩:=m b j;show∀s∈sG a b,G s;rw[<-g];exact NS l
theorem US{w:ee}{m:ie}{L:List an}(q:GM w m L):MG (GW w) m:=by
 have u:=ZM q.ok;have a:=u.kd;have p:=q.sg;unfold Hn at p;have f:∀s∈Ef m,GW w s:=λs c=>by
  have :=List.all_eq_true.1 p s c;simp only[Bool.or_eq_true]at this;rcases this with h|h;·exact .inl h
  ·refine .inr ?_;unfold Er at h;obtain⟨x,r,l⟩:=List.any_eq_true.1 h;unfold Nr at l;simp only[Bool.and_eq_true]at l;obtain⟨C,Q,g,R,F⟩:=l;obtain⟨H,D,B,E,G,_⟩:=x;obtain⟨t,v,y,O,A,_⟩:=s;have I:H=t:=Cr.1 C;have K:D=v:=Cr.1 Q;have J:B=y:=Cr.1 g;have z:E=O:=Cr.1 R;have M:G=A:=n7.1 F;rw[I,K,J,z,M]at r;exact r
 unfold Ef at f;refine⟨λe=>?_,λe=>?_,λs c=>f s ?_,λs c=>f s ?_,λb P s c=>f s ?_⟩
 · unfold xC at a;rw[e]at a;have o:gA (2:Int) 1=false:=rfl;have n:gA (2:Int) 2=true:=rfl;rw[o,n]at a;simp only[cond_true,cond_false,Bool.and_eq_true]at a;have d:=a.2.1;unfold WD at d;simp only[Bool.and_eq_true]at d;have k:ko (IE m).2.2.1 ⟨#[]⟩=false:=by cases j:ko (IE m).2.2.1 ⟨#[]⟩with|false=>rfl|true=>have g:m.2.2.2.2.2.2.1=⟨#[]⟩:=n7.1 j;have i:=d.2.2;rw[g]at i;exact absurd i (by decide)
   refine f _ (List.mem_append_left _ ?_);rw[k];exact List.mem_cons_self ..
 · unfold xC at a;rw[e]at a;have o:gA (3:Int) 1=false:=rfl;have n:gA (3:Int) 2=false:=rfl;have N:gA (3:Int) 3=true:=rfl;rw[o,n,N]at a;simp only[cond_true,cond_false,Bool.and_eq_true]at a;have d:=a.2.2.1;unfold Zb at d;simp only[Bool.and_eq_true]at d;have k:ko (IF m).2.2.1 ⟨#[]⟩=false:=by cases j:ko (IF m).2.2.1 ⟨#[]⟩with|false=>rfl|true=>have g:m.2.2.2.2.2.2.2.2.2.1=⟨#[]⟩:=n7.1 j;have i:=d.2.2.2;rw[g]at i;exact absurd i (by decide)
   refine f _ (List.mem_append_right _ (List.mem_append_left _ ?_));rw[k];exact List.mem_cons_self ..
 · exact List.mem_append_right _ (List.mem_append_right _ (List.mem_append_left _ c))
 · exact List.mem_append_right _ (List.mem_append_right _ (List.mem_append_right _ (List.mem_append_left _ c)))
 · exact List.mem_append_right _ (List.mem_append_right _ (List.mem_append_right _ (List.mem_append_right _ (List.mem_flatMap.2 ⟨b,P,c⟩))))
theorem Mq{w a:ee}{n':ao}{ms:List ie}{j:Nat}(h:SW w)(r:j<(aa w).length)(f:aa a=(aa w).set j n')(l:df a=df w)(n:fk a=fk w)(k:∀b∈ab w,b∈ab a)(i:∀s∈hH w,s∈hH a)(o:SI (ab a) (GW a) (fk w) n') (q:∀m∈ms,MG (GW a) m) (g:∀m∈gl a,m∈gl w\/m∈ms):SW a:=by
 have e:∀s,GW w s->GW a s:=λs p=>by
  rcases p with c|c;·exact .inl (by rw[l];exact c)
  ·exact .inr (i s c)
 refine⟨λx d=>?_,λm d=>?_⟩
 · rw[f]at d;rw[n];rcases List.mem_or_eq_of_mem_set d with c|rfl;· exact (h.nd x c).mono k e
   · exact o
 · rcases g m d with c|c;· exact (h.As m c).mono e
   · exact q m c
theorem NT{E S:Nat}{R:Int}{w:ee}{m:ie}(h:WI E S w)(A:E<890)(d:SW w)(u:GL m)(n:MR R (ab w) m)(y:wt (aa w) m.2.1=true)(t:MG (GW w) m):SW (q9 w m):=by obtain⟨j,e,_,C,p⟩:=EJ y;obtain⟨v,B⟩:=h.nd _ (List.getElem_mem e);rw[p];cases q:gA (aa w)[j].2.1 m.2.2.1 with|false=>exact d|true=>
 have o:=Cr.1 q;simp only[cond_true];generalize c:Fc (lb w j (fz (aa w)[j] m).1) (fz (aa w)[j] m).2.1 (fz (aa w)[j] m).2.2=g;have l:∀s,GW w s->GW g s:=λs a=>by
  rw[<-c];rcases a with a|a;·exact .inl a
  ·exact .inr (ev.2 (.inl a))
 have z:∀s∈(fz (aa w)[j] m).2.2,GW g s:=λs a=>by rw[<-c];exact .inr (ev.2 (.inr a))
 obtain⟨i,r⟩:=Xa (bl:=ab w) (G:=GW g) v ((d.nd _ (List.getElem_mem e)).mono (λb f=>f) l) (by omega) u n.bs (t.mono l) o.symm z;refine Mq (ms:=(fz (aa w)[j] m).2.1) (n':=(fz (aa w)[j] m).1) d e (by rw[<-c];rfl) (by rw[<-c];rfl) (by rw[<-c];rfl) (λb f=>by rw[<-c];exact f) (λs a=>by rw[<-c];exact ev.2 (.inl a)) (by rw[<-c] at i⊢;exact i) r (λx k=>?_);rw[<-c] at k;rcases ow k with a|a;·exact .inl a
 ·exact .inr a.1
theorem JU{w:ee}(h:SW w)(k:Nat):SW (Fe w k):=⟨h.nd,λm a=>h.As m (HX a)⟩
theorem Xc{E S:Nat}{w:ee}(h:WI E S w)(v:E<890)(k:SW w){j:Nat}(e:j<(aa w).length):SW (Hq w j (aa w)[j]):=by
 obtain⟨r,y⟩:=h.nd _ (List.getElem_mem e);have u:=h.bl;have l:=Et (n:=(ab w).length) (by omega);generalize c:Hq w j (aa w)[j]=d;have g:∀b∈ab w,b∈ab d:=λb f=>by rw[<-c];exact List.mem_append_left _ f
 have q:∀s,GW w s->GW d s:=λs a=>by
  rw[<-c];rcases a with a|a;·exact .inl a
  ·exact .inr (ev.2 (.inl a))
 have t:∀s∈(ej (aa w)[j] ((ab w).length:Int)).2.2.2,GW d s:=λs a=>by rw[<-c];exact .inr (ev.2 (.inr a))
 have m:∀b∈(ej (aa w)[j] ((ab w).length:Int)).2.1,b∈ab d:=λb f=>by rw[<-c];exact List.mem_append_right _ f
 obtain⟨p,o⟩:=Xb (bl:=ab d) (G:=GW d) r ((k.nd _ (List.getElem_mem e)).mono g q) (by omega) l m t;refine Mq (ms:=(ej (aa w)[j] ((ab w).length:Int)).2.2.1) (n':=(ej (aa w)[j] ((ab w).length:Int)).1) k e (by rw[<-c];rfl) (by rw[<-c];rfl) (by rw[<-c];rfl) g (λs a=>by rw[<-c];exact ev.2 (.inl a)) p o (λx i=>?_);rw[<-c]at i;rcases ow i with a|a;·exact .inl a
 ·exact .inr a.1
theorem UT{E S:Nat}{w:ee}(h:WI E S w)(r:E<890)(g:SW w){j:Nat}(e:j<(aa w).length):SW (E7 w j (aa w)[j]):=by
 obtain⟨p,q⟩:=h.nd _ (List.getElem_mem e);generalize c:E7 w j (aa w)[j]=d;have f:∀b∈ab w,b∈ab d:=λb l=>by rw[<-c];exact l
 have m:∀s,GW w s->GW d s:=λs a=>by
  rw[<-c];rcases a with a|a;·exact .inl a
  ·exact .inr (ev.2 (.inl a))
 have k:∀s∈(fp (aa w)[j]).2.2,GW d s:=λs a=>by rw[<-c];exact .inr (ev.2 (.inr a))
 obtain⟨n,o⟩:=UR (bl:=ab d) (G:=GW d) p ((g.nd _ (List.getElem_mem e)).mono f m) (by omega) k;refine Mq (ms:=(fp (aa w)[j]).2.1) (n':=(fp (aa w)[j]).1) g e (by rw[<-c];rfl) (by rw[<-c];rfl) (by rw[<-c];rfl) f (λs a=>by rw[<-c];exact ev.2 (.inl a)) n o (λx i=>?_);rw[<-c]at i;rcases ow i with a|a;·exact .inl a
 ·exact .inr a.1
theorem Qo{w:ee}(a:SW w){j:Nat}(e:j<(aa w).length){n:ao}(b:SI (ab w) (GW w) (fk w) n):SW (lb w j n):=⟨λx d=>by
 rcases List.mem_or_eq_of_mem_set d with c|rfl;·exact a.nd x c
 ·exact b,a.As⟩
theorem NU{bl:List an}{G:gx->Prop}{base:ek}{n:ao}{q:List cp}(h:SI bl G base n):SI bl G base (Ff n q):=⟨h.Ga,h.kA,h.hq,h.tq,h.vt,h.gn⟩
theorem UU{bl:List an}{G:gx->Prop}{base:ek}{n:ao}(h:SI bl G base n):SI bl G base (Fb n []):=⟨h.Ga,h.kA,h.hq,h.tq,h.vt,λv a=>(by cases a)⟩
theorem Xd{bl:List an}{G:gx->Prop}{base:ek}{n:ao}(h:SI bl G base n):SI bl G base (Fl n):=NU (UU (NN h (λv a=>by cases a)))
theorem qL.sw{E S:Nat}{R:Int}{w v:ee}(s:qL w v)(h:WI E S w)(l:E<890)(g:WR R w)(a:SW w):SW v:=by cases s with
 |same=>exact a|Eb m n B=>
 refine⟨a.nd,λx f=>?_⟩;rcases List.mem_append.1 f with d|d;·exact a.As x d
 ·rw[List.mem_singleton.1 d];exact a.As m n|drop k=>exact JU a k|AN k e=>have n:=h.nm _ (List.getElem_mem e);exact NT (u3 h k) l (JU a k) n.1 (g.As _ (List.getElem_mem e)) n.2 (a.As _ (List.getElem_mem e))|Mn j c u=>exact Xc h l a c|Hs j c=>exact UT h l a c|JL j c k e=>unfold Es;cases o:(hM (aa w)[j] (aa w)[k].2.1 (aa w)[k].1).2.1.1 with|false=>exact a|true=>
 refine⟨a.nd,λx f=>?_⟩;rcases ow f with d|d;·exact a.As x d
 ·rw[List.mem_singleton.1 d.1];exact JT (a.nd _ (List.getElem_mem c)) _ _ o|FJ j c q _ _ _=>exact Qo a c (NU (a.nd _ (List.getElem_mem c)))|GN j c=>exact Qo a c (Xd (a.nd _ (List.getElem_mem c)))|JM m z o _=>
 have p:∀s,GW w s->GW (xx w m z) s:=λs d=>d;refine⟨λx f=>(a.nd x f).mono (λb u=>List.mem_append_left _ u) p,λx f=>?_⟩;rcases ow f with d|d;·exact (a.As x d).mono p
 ·rw[List.mem_singleton.1 d.1];exact (US o).mono p|Ii j c k e i=>obtain⟨t,A⟩:=h.nd _ (List.getElem_mem c);obtain⟨r,_⟩:=h.nd _ (List.getElem_mem e);have y:=A1 _ _ _ i;exact NT h l a (s8 t r.v.h.ok.2.1 r.v.h.ok.1 i) (EK g.bl (g.nd _ (List.getElem_mem c)) t (by omega) g.r0 (g.nd _ (List.getElem_mem e)).nm i) (by rw[y.1];exact F1 e) (JT (a.nd _ (List.getElem_mem c)) _ _ i)
structure Mv(n m:ao):Prop where
 le:n.2.1<=m.2.1
 pa:bb n<+:bb m
 hi:m.2.1=n.2.1->(bx n).1<=(bx m).1
 tr:m.2.1=n.2.1->∀b∈ag n,b∈ag m
theorem Mv.gj(n:ao):Mv n n:=⟨Int.le_refl _,List.prefix_refl _,λ_=>Int.le_refl _,λ_ b a=>a⟩
theorem Mv.trans{a b c:ao}(h:Mv a b)(k:Mv b c):Mv a c:=by have i:=h.le;have g:=k.le;refine⟨by omega,h.pa.trans k.pa,λe=>?_,λe x d=>k.tr (by omega) x (h.tr (by omega) x d)⟩;have f:=h.hi (by omega);have j:=k.hi (by omega);omega
theorem Xe(n:ao)(q:k0)(g:ek)(d:List D3)(b:an):(Kv n q g d b).2.1=(j0 g).1:=by unfold Kv TR;rfl
theorem Xf(n:ao)(q:k0)(g:ek)(d:List D3)(b:an):bb (Kv n q g d b)=bb n++[Eo n q]:=by unfold Kv TR;rfl
theorem RT{n:ao}{q:k0}(d:NW n)(j:n.2.1<890):Mv n (l9 n q)/\((l9 n q).2.1=n.2.1->bx (l9 n q)=bx n):=by
 have s:=d.e0;rcases AL n.2.1.toNat n.2.1.toNat n q d.v (by omega)with⟨_,e⟩|⟨i,⟨l,e⟩|⟨p,c,r,u,o,t,k,e,m⟩⟩;·rw[e];exact⟨Mv.gj _,λ_=>rfl⟩
 ·rw[e];exact⟨⟨Int.le_refl _,List.prefix_refl _,λ_=>Int.le_refl _,λ_ b f=>f⟩,λ_=>rfl⟩
 ·rw[e];have g:=(Xe n q (md (ft n) (p++[c])) (kn (j9 n) (fv (p++[c]))) c).trans m;have a:=Xf n q (md (ft n) (p++[c])) (kn (j9 n) (fv (p++[c]))) c;generalize Kv n q (md (ft n) (p++[c])) (kn (j9 n) (fv (p++[c]))) c=x at g a;refine⟨⟨by omega,by rw[a];exact List.prefix_append _ _,λh=>?_,λh=>?_⟩,λh=>?_⟩<;>omega
theorem EM{n:ao}{q:k0}(a:NW n)(j:GO q)(i:n.2.1<890):Mv n (ea n q)/\((ea n q).2.1=n.2.1->q.1<=(bx (ea n q)).1):=by
 have g:NW (oj n q):=NW.So (Hh a.v j) a.e0 a.pa;have c:(bx n).1<=(bx (oj n q)).1/\q.1<=(bx (oj n q)).1:=by have e:bx (oj n q)=BE n q:=rfl;rw[e];unfold BE;cases d:dO (bx n).1 q.1 with|true=>have :=Cp.1 d;exact⟨by show (bx n).1<=q.1;omega,Int.le_refl _⟩|false=>have :=Au.1 d;exact⟨Int.le_refl _,this⟩
 have l:Mv n (oj n q):=⟨Int.le_refl _,List.prefix_refl _,λ_=>c.1,λ_ b k=>k⟩;have o:(oj n q).2.1=n.2.1:=rfl;obtain⟨m,f⟩:=RT (q:=q) g i;unfold ea;rw[o]at f;exact⟨l.trans m,λh=>by rw[f h];exact c.2⟩
theorem UW(n:ao)(t:vc):Mv n (Me n t):=⟨Int.le_refl _,List.prefix_refl _,λ_=>Int.le_refl _,λ_ b a=>a⟩
theorem NX(n:ao)(v:Int):Mv n (sb n v):=⟨Int.le_refl _,List.prefix_refl _,λ_=>Int.le_refl _,λ_ b a=>a⟩
theorem RU(n:ao)(v:Int):Mv n (qf n v):=⟨Int.le_refl _,List.prefix_refl _,λ_=>Int.le_refl _,λ_ b a=>a⟩
theorem JV(n:ao)(v:List u6):Mv n (EB n v):=⟨Int.le_refl _,List.prefix_refl _,λ_=>Int.le_refl _,λ_ b a=>a⟩
theorem JW(n:ao)(v:List sd):Mv n (Fb n v):=⟨Int.le_refl _,List.prefix_refl _,λ_=>Int.le_refl _,λ_ b a=>a⟩
theorem NY(n:ao)(v:List cp):Mv n (Ff n v):=⟨Int.le_refl _,List.prefix_refl _,λ_=>Int.le_refl _,λ_ b a=>a⟩
theorem Mr{n:ao}{b:an}(l:NW n)(k:lf.Ok b)(f:e8 b)(i:n.2.1<890):Mv n (cv n b)/\(s7 n b=true->(cv n b).2.1=n.2.1->(i0 b).1<=(bx (cv n b)).1/\b∈ag (cv n b)):=by unfold cv;cases m:s7 n b with|false=>exact⟨Mv.gj n,λh=>by cases h⟩|true=>
 obtain⟨r,u,B⟩:=FE l k f i m;have t:Mv n (ma n (qm (ag n) b)):=⟨Int.le_refl _,List.prefix_refl _,λ_=>Int.le_refl _,λ_ c a=>B2.2 (.inl a)⟩;obtain⟨s,o⟩:=EM r (Fk.EO k f) i;have p:Mv (qu n b) (kr n b):=by unfold kr;cases gA (qu n b).2.1 n.2.1 with|false=>exact Mv.gj _|true=>exact UW _ _
 obtain⟨j,x⟩:=FF l k f i m;have q:Mv (kr n b) (B4 n b):=by unfold B4;cases a:(gA (kr n b).2.1 n.2.1&&gA (bx (kr n b)).2.1 b.1) with|false=>exact Mv.gj _|true=>simp only[Bool.and_eq_true]at a;have v:=Cr.1 a.1;exact (EM j (j.v.h.ok.EO j.v.h.l) (by omega)).1
 have d:Mv (qu n b) (B4 n b):=p.trans q;have g:Mv (ma n (qm (ag n) b)) (qu n b):=s;refine⟨(t.trans g).trans d,λ_ e=>?_⟩;have A:=g.le;have z:=d.le;have y:(ma n (qm (ag n) b)).2.1=n.2.1:=rfl;have e:(B4 n b).2.1=n.2.1:=e;have w:(i0 b).1<=(bx (qu n b)).1:=o (by show (qu n b).2.1=n.2.1;omega);have C:=d.hi (by omega);refine⟨by show (i0 b).1<=(bx (B4 n b)).1;omega,d.tr (by omega) b (g.tr (by omega) b (B2.2 (.inr rfl)))⟩
theorem Qp{n:ao}{v:u6}(a:NW n)(c:n.2.1<890)(b:H5.Ok v):Mv n (w9 n v):=by have e:=Hi a.v.vo a.v.h.ok.fi b;have d:=EG a e (F0 a.v.vo);unfold w9;cases F6 (ar n) v.2.2.1 with|false=>exact Mv.gj n|true=>cases f:tS (ar n) (th (ec n) v) v.1 v.2.1 with|false=>exact JV _ _|true=>exact (JV n (th (ec n) v)).trans (EM d (EF (ar n) (th (ec n) v) v.1 v.2.1 a.v.h.ok.set a.v.h.l.2.1 b.1 b.2.1) c).1
theorem RV(n:ao)(g:sd):Mv n (xd n g):=by unfold xd;dsimp only;cases (wb (ar n) (vx (ei n) g) g.1).2.1.1 with|false=>exact JW _ _|true=>exact (JW n (vx (ei n) g)).trans (UW _ _)
theorem Qq{n:ao}{g:sd}{q:k0}(c:NW n)(a:n.2.1<890)(b:GO q):Mv n (j6 n g q):=by unfold j6;cases (F6 (ar n) g.2.2.1&&C5 (ar n) q) with|false=>exact Mv.gj n|true=>cases gA (ea n q).2.1 n.2.1 with|false=>exact (EM c b a).1|true=>exact (EM c b a).1.trans (RV _ _)
theorem Xg{n:ao}{b:an}(g:NW n)(a:lf.Ok b)(c:e8 b)(e:n.2.1<890):Mv n (hW n b).1/\(Ee n b=true->Mv (cv n b) (hW n b).1):=by obtain⟨f,k⟩:=py g a c e;have j:=(Mr g a c e).1;unfold hW;cases i:Ee n b with|false=>grind|true=>have h:=KW i;have l:=h.ep;have d:Mv (cv n b) (w9 (sb (cv n b) b.2.2.1) (b.2.2.1,(b.1,((cv n b).1,())))):=(NX (cv n b) b.2.2.1).trans (Qp (pf f a.2.2.1) (by show (cv n b).2.1<890;omega) ⟨a.2.2.1,a.1,f.v.h.ok.1,trivial⟩);exact⟨j.trans d,λ_=>d⟩
theorem UX{n:ao}{m:ie}(h:NW n)(k:n.2.1<890)(c:GL m)(p:m.2.2.1=n.2.1):Mv n (xr n m):=by
 obtain⟨⟨q,x⟩,⟨z,y⟩,_⟩:=EH h c.ok c.l p k;have j:∀(f:List an)(s:ao),(∀b∈f,b∈n6 m)->NW s->lh n s->Mv n s->Mv n (f.foldl (kk m.2.2.1) s):=by intro f;induction f with|nil=>grind|cons b r A=>
  intro s i d g t;rw[List.foldl_cons];have e:=c.ok.kp c.l b (i b (by simp));have v:NW (kk m.2.2.1 s b)/\lh n (kk m.2.2.1 s b)/\Mv n (kk m.2.2.1 s b):=by unfold kk;cases a:gA s.2.1 m.2.2.1 with|false=>grind|true=>have a:=Cr.1 a;obtain⟨o,l⟩:=py d e.1 e.2 (by omega);exact⟨o,g.trans l (by omega),t.trans (Mr d e.1 e.2 (by omega)).1⟩
  simp_all
 have d:Mv n (ti n m):=j (n6 m) n (λb u=>u) h (lh.gj n) (Mv.gj n);have g:Mv n (GK n m):=by unfold GK;cases a:(gA (ti n m).2.1 m.2.2.1&&C5 (ar (ti n m)) (mQ m)) with|false=>exact d|true=>simp only[Bool.and_eq_true]at a;have w:=Cr.1 a.1;exact d.trans (EM q (c.ok.EO c.l) (by omega)).1
 unfold xr;cases a:(gA (GK n m).2.1 m.2.2.1&&Gd (ar (GK n m)) (mT m)) with|false=>exact g|true=>exact g.trans (UW _ _)
structure Eg(bl:List an)(G:gx->Prop)(base:ek)(n n':ao)(sg:List gx):Prop where
 mv:Mv n n'
 Pl:∀s∈sg,s.1=1->∃eD S L d l b,eD<+:bb n'/\(eD.length:Int)=s.2.1/\u5 bl G base eD S L d/\mm bl G S s.2.1 b.1 (l++[b])/\b.1=s.2.2.2.1/\b.2.2.1=s.2.2.1/\(n'.2.1=n.2.1->(i0 b).1<=(bx n').1)ZP:∀s∈sg,s.1=2->s.2.2.2.1=(bx n).1/\(n.2.1<n'.2.1\/(n'.2.1=n.2.1/\s.2.2.1<=fl n'))
theorem Eg.none{bl:List an}{G:gx->Prop}{base:ek}{n n':ao}(h:Mv n n'):Eg bl G base n n' []:=⟨h,by grind,by grind⟩
theorem Qr{bl:List an}{G:gx->Prop}{base:ek}{n:ao}{b:an}(d:NW n)(h:SI bl G base n)(c:n.2.1<890)(f:lf.Ok b)(a:e8 b)(u:b∈bl)(x:∀s∈sG n.2.1 b,G s):Eg bl G base n (hW n b).1 (hW n b).2.2:=by
 obtain⟨q,w⟩:=Xg d f a c;have j:=Mp d h c f a u x;obtain⟨m,B⟩:=py d f a c;have y:=(Mr d f a c).2
 cases l:Ee n b with|false=>
 have e:(hW n b).2.2=[]:=by unfold hW;grind
 rw[e];exact Eg.none q|true=>
 have k:=KW l;have i:=k.ep;have o:=w l;obtain⟨C,t⟩:=y k.tk i;have e:(hW n b).2.2=[B5 (cv n b).1 n.2.1 b.2.2.1 b.1]:=by unfold hW;grind
 rw[e];refine⟨q,λs g _=>?_,λs g p=>?_⟩
 · rw[List.mem_singleton.1 g];obtain⟨z,A,_⟩:=j.Ga;have r:=m.v.h.t;have v:=l5 r t;refine⟨bb (cv n b),ar (cv n b),ft (cv n b),z,dc (ag (cv n b)) (i0 b).2.1,b,o.pa,?_,A,?_,rfl,rfl,λD=>?_⟩;· rw[m.pa];exact i
   · have :=Qj r j.kA b.1 (.inr ⟨b,t,rfl⟩);rw[v,i]at this;exact this
   · have :=o.hi (by omega);omega
 · rw[List.mem_singleton.1 g]at p;exact absurd (show (1:Int)=2 from p) (by decide)
theorem Xh{bl:List an}{G:gx->Prop}{base:ek}{n:ao}{m:ie}(d:NW n)(h:SI bl G base n)(c:n.2.1<890)(a:GL m)(i:∀b∈n6 m,b∈bl)(q:MG G m)(g:m.2.2.1=n.2.1):Eg bl G base n (fz n m).1 (fz n m).2.2:=by unfold fz;cases j:gA m.1 1 with
 |true=>have l:=a.pr (Cr.1 j);cases p:n6 m with|nil=>grind|cons b r=>
 have e:b∈n6 m:=by grind
 have f:=a.ok.kp a.l b e;exact Qr d h c f.1 f.2 (i b e) (by rw[<-g];grind[MG.b])
 |false=>cases o:gA m.1 2 with|true=>exact Eg.none (Qp d c a.ok.vo)|false=>cases k:gA m.1 3 with|true=>exact Eg.none (Qq d c (a.ok.EO a.l))|false=>exact Eg.none (UX d c a g)
theorem UY{bl:List an}{G:gx->Prop}{base:ek}{n:ao}(a:NW n)(d:n.2.1<890):Eg bl G base n (fp n).1 (fp n).2.2:=by unfold fp;cases l:(F6 (ar n) n.1&&!dO (ad n) (fl n)) with|false=>exact Eg.none (Mv.gj n)|true=>
 have c:=pf a a.v.h.round;have i:Mv n (j6 (sb n (ad n)) (E3 n) (bx n)):=(NX n (ad n)).trans (Qq c d (a.v.h.ok.EO a.v.h.l));refine⟨i,λs b f=>?_,λs b _=>?_⟩;·rw[List.mem_singleton.1 b]at f;exact absurd (show (2:Int)=1 from f) (by decide)
 · rw[List.mem_singleton.1 b];refine⟨rfl,?_⟩;obtain⟨m,j⟩:=Hj (g:=E3 n) c (a.v.h.ok.EO a.v.h.l) (IM a.v.h.ok) d;rcases j.a.ca with⟨h,k,_⟩|e;· exact .inr ⟨h,Int.le_of_eq k.symm⟩
   · exact .inl e
theorem Xi{bl:List an}{G:gx->Prop}{base:ek}{n:ao}{a:Int}(e:NW n)(h:SI bl G base n)(j:n.2.1<890)(g:(Lit.int .i64 a).wf=true)(c:∀b∈(ej n a).2.1,b∈bl):Eg bl G base n (ej n a).1 (ej n a).2.2.2:=by obtain⟨k,i⟩:=uf e.v.h g;unfold ej at c⊢;cases l:Gj n a with|false=>exact Eg.none (Mv.gj n)|true=>rw[l]at c;have f:i4 n a∈bl:=c _ (List.mem_cons_self ..);have d:=Qr (wc e e.v.h.round) (K9 (v:=ad n) h) j k i f (Qn h a);exact⟨(RU n (ad n)).trans d.mv,d.Pl,d.ZP⟩
def Qs(w:ee)(s:gx):Prop:=∃n∈aa w,s.2.2.2.2.1=n.1/\∃a S L d l b,a<+:bb n/\(a.length:Int)=s.2.1/\u5 (ab w) (GW w) (fk w) a S L d/\mm (ab w) (GW w) S s.2.1 b.1 (l++[b])/\b.1=s.2.2.2.1/\b.2.2.1=s.2.2.1
structure VW(w:ee):Prop where
 Pl:∀s∈hH w,s.1=1->Qs w s
 hi:∀n∈aa w,∀s∈hH w,s.1=1->s.2.2.2.2.1=n.1->s.2.1=n.2.1->∃b∈ab w,b.1=s.2.2.2.1/\(i0 b).1<=(bx n).1
 go:∀n∈aa w,∀s∈hH w,s.1=2->s.2.2.2.2.1=n.1->s.2.1<n.2.1\/(s.2.1=n.2.1/\s.2.2.1<=fl n)ZQ:∀s∈hH w,∀t∈hH w,s.1=1->t.1=2->s.2.2.2.2.1=t.2.2.2.2.1->s.2.1=t.2.1->s.2.2.1<=t.2.2.1->∃b∈ab w,b.1=s.2.2.2.1/\(i0 b).1<=t.2.2.2.1
theorem RP.Xj{bF:List D9}{a:List ao}(h:RP bF a){j:Nat}(k:j<a.length){n':ao}(e:n'.1=a[j].1){x:ao}(f:x∈a.set j n'):x=n'\/(x∈a/\x.1≠n'.1):=by
 obtain⟨i,g,rfl⟩:=List.getElem_of_mem f;rw[List.getElem_set];split;·grind
 ·next b=>
 have c:i<a.length:=by grind
 refine .inr ⟨List.getElem_mem c,λd=>b ?_⟩;rw[e]at d;grind[GG]
theorem Qs.dp{w a:ee}{n':ao}{j:Nat}{s:gx}(h:Qs w s)(B:j<(aa w).length)(o:Mv (aa w)[j] n')(A:n'.1=(aa w)[j].1)(k:aa a=(aa w).set j n')(q:fk a=fk w)(c:∀b∈ab w,b∈ab a)(g:∀s,GW w s->GW a s):Qs a s:=by
 obtain⟨n,y,e,m,S,L,d,l,b,z,t,r,x,v,u⟩:=h;obtain⟨i,C,rfl⟩:=List.getElem_of_mem y;have p:i<(aa a).length:=by grind
 have f:=r.mono c g;rw[<-q] at f;refine⟨(aa a)[i],List.getElem_mem p,?_,m,S,L,d,l,b,?_,t,f,x.mono c g,v,u⟩;·grind
 · simp only[k,List.getElem_set];split;· next h=>subst h;exact z.trans o.pa
   omega
theorem IV{w g:ee}{n':ao}{B:List gx}{bF:List D9}{j:Nat}(h:VW w)(γ:AS w)(Z:RP bF (aa w))(H:j<(aa w).length)(e:s9 (aa w)[j] n' B)(y:Eg (ab g) (GW g) (fk w) (aa w)[j] n' B)(C:aa g=(aa w).set j n') (κ:df g=df w) (P:fk g=fk w) (R:∀b∈ab w,b∈ab g) (o:∀s,s∈hH g↔s∈hH w\/s∈B):VW g:=by
 have ε:∀s,GW w s->GW g s:=λs e=>by
  rcases e with f|f;·exact .inl (by grind)
  ·exact .inr ((o s).2 (.inl f))
 have D:=y.mv;have p:=List.getElem_mem H;have V:n'∈aa g:=by rw[C];exact List.mem_iff_getElem.2 ⟨j,by grind,by simp⟩
 have W:∀{M:Int}{r:Int},(∃b∈ab w,b.1=M/\(i0 b).1<=r)->∃b∈ab g,b.1=M/\(i0 b).1<=r:=λ⟨b,f,c⟩=>⟨b,R b f,c⟩;have N:∀x∈aa g,x=n'\/(x∈aa w/\x.1≠n'.1):=λx T=>by rw[C] at T;exact Z.Xj H e.nm T
 refine⟨λs k f=>?_,λn I s k f i J=>?_,λn I s k f i=>?_,λs k t Y f c i J τ=>?_⟩
 · rcases (o s).1 k with c|c;· exact (h.Pl s c f).dp H D e.nm C P R ε
   · obtain⟨O,S,L,d,l,b,A,z,v,K,G,U,_⟩:=y.Pl s c f;rw[<-P] at v;exact⟨n',V,by rw[(e.HD s c).1,e.nm],O,S,L,d,l,b,A,z,v,K,G,U⟩
 · rcases N n I with rfl|⟨E,F⟩
   · rcases (o s).1 k with c|c
     · have Q:=i.trans e.nm;have μ:=γ.old s c f _ p Q;have θ:=D.le;have β:s.2.1=(aa w)[j].2.1:=by omega
       obtain⟨b,A,z,v⟩:=h.hi _ p s c f Q β;have :=D.hi (by omega);grind
     · obtain⟨O,S,L,d,l,b,A,z,v,K,G,U,α⟩:=y.Pl s c f;have :=(e.HD s c).2;exact⟨b,(K.dr b (by simp)).1,G,α (by omega)⟩
   · rcases (o s).1 k with c|c;· exact W (h.hi n E s c f i J)
     · exact absurd (by rw[<-i,(e.HD s c).1,e.nm]) F
 · rcases N n I with rfl|⟨E,F⟩
   · rcases (o s).1 k with c|c
     · have δ:=h.go _ p s c f (i.trans e.nm);rcases e.mon with m|⟨σ,π⟩;· omega
       omega
     · have u:=(e.HD s c).2;rcases (y.ZP s c f).2 with q|⟨ρ,φ⟩;· omega
       omega
   · rcases (o s).1 k with c|c;· exact h.go n E s c f i
     · exact absurd (by rw[<-i,(e.HD s c).1,e.nm]) F
 · rcases (o s).1 k with a|a<;>rcases (o t).1 Y with b|b;· grind[VW.ZQ]
   · have u:=e.HD t b;have δ:=(y.ZP t b c).1;obtain⟨x,A,z,v⟩:=h.hi _ p s a f (i.trans u.1) (J.trans u.2);grind
   · have u:=e.HD s a;have ψ:=(e.new s a f).1;rcases h.go _ p t b c (i.symm.trans u.1) with q|⟨_,q⟩;· omega
     · omega
   · have X:=e.Hr;match B,X,a,b with|[x],_,a,b=>grind
theorem Hw{w c:ee}(h:VW w)(m:aa c=aa w)(i:hH c=hH w)(H:df c=df w)(z:fk c=fk w)(k:∀b∈ab w,b∈ab c):VW c:=by
 have u:∀s,GW w s->GW c s:=λs a=>by simp_all[ke,df,gx,hH,GW,D9]
 have y:∀{o:Int}{r:Int},(∃b∈ab w,b.1=o/\(i0 b).1<=r)->∃b∈ab c,b.1=o/\(i0 b).1<=r:=λ⟨b,f,q⟩=>⟨b,k b f,q⟩;refine⟨λs a f=>?_,λn g s a f j v=>?_,λn g s a f j=>?_,λs a t F f q j v I=>?_⟩;·rw[i]at a;obtain⟨n,g,e,x,S,L,d,l,b,B,A,E,G,C,D⟩:=h.Pl s a f;have p:=E.mono k u;rw[<-z]at p;exact⟨n,by grind,e,x,S,L,d,l,b,B,A,p,G.mono k u,C,D⟩
 ·rw[i]at a;rw[m]at g;exact y (h.hi n g s a f j v)
 ·rw[i]at a;rw[m]at g;exact h.go n g s a f j
 ·rw[i]at a F;grind[VW.ZQ]
theorem NZ{E S:Nat}{R:Int}{w:ee}{m:ie}(h:WI E S w)(z:E<890)(t:WR R w)(u:AS w)(v:SW w)(o:VW w)(i:GL m)(p:MR R (ab w) m)(y:wt (aa w) m.2.1=true)(x:MG (GW w) m):VW (q9 w m):=by obtain⟨j,d,_,B,q⟩:=EJ y;obtain⟨l,A⟩:=h.nd _ (List.getElem_mem d);rw[q];cases r:gA (aa w)[j].2.1 m.2.2.1 with|false=>exact o|true=>
 have f:=Cr.1 r;simp only[cond_true];generalize a:Fc (lb w j (fz (aa w)[j] m).1) (fz (aa w)[j] m).2.1 (fz (aa w)[j] m).2.2=n;have k:∀s,GW w s->GW n s:=λs c=>by
  rw[<-a];rcases c with c|c;·exact .inl c
  ·exact .inr (ev.2 (.inl c))
 have g:=Xh (bl:=ab w) (G:=GW n) l ((v.nd _ (List.getElem_mem d)).mono (λb e=>e) k) (by omega) i p.bs (x.mono k) f.symm;exact IV o u t.nm d (Qh l i f.symm (by omega)) (by rw[<-a] at g⊢;exact g) (by rw[<-a];rfl) (by rw[<-a];rfl) (by rw[<-a];rfl) (λb e=>by rw[<-a];exact e) (λs=>by rw[<-a];exact ev)
theorem Xk{E S:Nat}{R:Int}{w:ee}(h:WI E S w)(v:E<890)(o:WR R w)(p:AS w)(q:SW w)(t:VW w){j:Nat}(e:j<(aa w).length):VW (Hq w j (aa w)[j]):=by
 obtain⟨k,x⟩:=h.nd _ (List.getElem_mem e);have u:=h.bl;have i:=Et (n:=(ab w).length) (by omega);generalize a:Hq w j (aa w)[j]=c;have g:∀b∈ab w,b∈ab c:=λb f=>by rw[<-a];exact List.mem_append_left _ f
 have r:∀s,GW w s->GW c s:=λs d=>by
  rw[<-a];rcases d with d|d;·exact .inl d
  ·exact .inr (ev.2 (.inl d))
 have l:∀b∈(ej (aa w)[j] ((ab w).length:Int)).2.1,b∈ab c:=λb f=>by rw[<-a];exact List.mem_append_right _ f
 have m:=Xi (bl:=ab c) (G:=GW c) k ((q.nd _ (List.getElem_mem e)).mono g r) (by omega) i l;exact IV t p o.nm e (Qi k i (by omega)) m (by rw[<-a];rfl) (by rw[<-a];rfl) (by rw[<-a];rfl) g (λs=>by rw[<-a];exact ev)
theorem UZ{E S:Nat}{R:Int}{w:ee}(h:WI E S w)(m:E<890)(d:WR R w)(g:AS w)(l:VW w){j:Nat}(c:j<(aa w).length):VW (E7 w j (aa w)[j]):=by obtain⟨f,n⟩:=h.nd _ (List.getElem_mem c);generalize a:E7 w j (aa w)[j]=e;have k:=UY (bl:=ab e) (G:=GW e) (base:=fk w) f (by omega);exact IV l g d.nm c (NL f (by omega) (d.nd _ (List.getElem_mem c)).vo.2) k (by rw[<-a];rfl) (by rw[<-a];rfl) (by rw[<-a];rfl) (λb i=>by rw[<-a];exact i) (λs=>by rw[<-a];exact ev)
theorem Qt{w:ee}{bF:List D9}(h:VW w)(d:AS w)(a:RP bF (aa w)){j:Nat}(c:j<(aa w).length){m:ao}(e:s9 (aa w)[j] m [])(g:Mv (aa w)[j] m):VW (lb w j m):=IV h d a c e (Eg.none g) rfl rfl rfl (λb f=>f) (FN w j m)
theorem ZR(n:ao):Mv n (Fl n):=(JV n []).trans ((JW _ []).trans (NY _ []))
theorem qL.vw{E S:Nat}{R:Int}{w t:ee}(s:qL w t)(h:WI E S w)(p:E<890)(e:WR R w)(i:AS w)(l:SW w)(d:VW w):VW t:=by cases s with
 |same=>exact d|Eb m n z=>exact Hw d rfl rfl rfl rfl (λb c=>c)|drop k=>exact Hw d rfl rfl rfl rfl (λb c=>c)|AN k f=>have n:=h.nm _ (List.getElem_mem f);exact NZ (u3 h k) p (FL e k) (EL i rfl rfl) (JU l k) (Hw d rfl rfl rfl rfl (λb c=>c)) n.1 (e.As _ (List.getElem_mem f)) n.2 (l.As _ (List.getElem_mem f))|Mn j a c=>grind[Xk]|Hs j a=>grind[UZ]|JL j a k f=>unfold Es;cases v:(hM (aa w)[j] (aa w)[k].2.1 (aa w)[k].1).2.1.1 with|false=>exact d|true=>exact Hw d rfl rfl rfl rfl (λb c=>c)
 |FJ j a q _ _ _=>exact Qt d i e.nm a (NM _ q) (NY _ q)|GN j a=>exact Qt d i e.nm a (UL _) (ZR _)|JM m y v _=>exact Hw d rfl rfl rfl rfl (λb c=>List.mem_append_left _ c)|Ii j a k f g=>obtain⟨r,x⟩:=h.nd _ (List.getElem_mem a);obtain⟨o,_⟩:=h.nd _ (List.getElem_mem f);have u:=A1 _ _ _ g;exact NZ h p e i l d (s8 r o.v.h.ok.2.1 o.v.h.ok.1 g) (EK e.bl (e.nd _ (List.getElem_mem a)) r (by omega) e.r0 (e.nd _ (List.getElem_mem f)).nm g) (by rw[u.1];exact F1 f) (JT (l.nd _ (List.getElem_mem a)) _ _ g)
theorem HY{l:List bm}:sM l=true↔(∀a∈l,rv a=true)/\l.Pairwise (λa b=>ob a.1 b.1=true)/\l.length<=12/\EV l<=1000000:=by
 unfold sM;rw[Bool.and_eq_true,Bool.and_eq_true];constructor
 · rintro⟨f,e,h⟩;have o:∀i(c:i<l.length),rv l[i]=true/\lO (λz y=>ob z.1 y.1) l i l[i]=true:=λi c=>by have :=xJ f i c;simp_all[rv,bm,lO,ob,dT,D0]
   refine⟨λa q=>?_,?_,by have :=Cq.1 e;omega,Cq.1 h⟩;· obtain⟨i,c,rfl⟩:=List.getElem_of_mem q;grind
   · have k:∀i (c:i+1<l.length),ob l[i].1 l[i+1].1=true:=λi c=>by have :=(o (i+1) c).2;rw[mz (lt:=λz y=>ob z.1 y.1) (xs:=l) (j:=i) (y:=l[i+1]) (by omega)]at this;omega
     rw[List.pairwise_iff_getElem];intro i j c s r;have :∀d,(m:i+d+1<l.length)->ob l[i].1 l[i+d+1].1=true:=by intro d;induction d with|zero=>grind|succ d n=>intro m;have g:=n (by omega);have p:=k (i+d+1) (by omega);exact (EX).tr _ _ _ g p
     have t:=this (j-i-1) (by omega);grind
 · rintro⟨f,e,h,g⟩;refine⟨ns (λi c=>?_),Cq.2 (by omega),Cq.2 g⟩;unfold D0;rw[Bool.and_eq_true,Nat.zero_add];refine⟨f _ (List.getElem_mem c),?_⟩;match i,c with|0,_=>rfl|j+1,c=>rw[mz (lt:=λz y=>ob z.1 y.1) (xs:=l) (j:=j) (y:=l[j+1]) (by omega)];rw[List.pairwise_iff_getElem]at e;grind
theorem Xl{l:List e6}(e:∀v∈l,fb v.1=true/\Di v.2.1 1 1000000=true)(d:l.Pairwise (λa b=>ob a.1 b.1=true))(f:1<=l.length)(g:l.length<=12):u9 l=true:=by unfold u9;rw[Bool.and_eq_true];refine⟨ns (λi c=>?_),gd.2 (by omega)⟩;unfold LZ;have :=e _ (List.getElem_mem c);rw[Bool.and_eq_true,Bool.and_eq_true,Nat.zero_add];refine⟨this.1,this.2,?_⟩;match i,c with|0,_=>rfl|j+1,c=>rw[mz (lt:=λz y=>ob z.1 y.1) (xs:=l) (j:=j) (y:=l[j+1]) (by omega)];rw[List.pairwise_iff_getElem]at d;grind
theorem JX{a:bm}(h:rv a=true):fb a.1=true/\0<=a.2.2.2.1/\a.2.2.2.1<=1000000:=by unfold rv at h;simp_all[fb,dT,Di,km,tv,gd]
theorem N0{l:List bm}(h:sM l=true):va l=[]\/u9 (va l)=true:=by
 obtain⟨g,j,e,_⟩:=HY.1 h;rcases Nat.eq_zero_or_pos (va l).length with c|c;·grind
 · refine .inr (Xl (λv d=>?_) ?_ c (Nat.le_trans (Ex l) e));· rw[GZ]at d;obtain⟨a,i,rfl⟩:=List.mem_map.1 d;obtain⟨f,b⟩:=List.mem_filter.1 i;have :=JX (g a f);have b:=Cq.1 b;exact⟨this.1,gd.2 ⟨by grind,this.2.2⟩⟩
   · rw[GZ,List.pairwise_map];grind
def RW:ByteArray:=⟨#[97]⟩
def RX:ByteArray:=⟨#[98]⟩
def Xm:ByteArray:=⟨#[99]⟩
def Xn:ByteArray:=⟨#[100]⟩
def XW:ByteArray:=⟨#[101]⟩
def Hx(a:ByteArray)(f s:Int):bm:=(a,(f,(0,(s,([],())))))
def HZ:List ByteArray:=[RW,RX,Xm,Xn]
def dd(fs:List Int)(e:Bool):List bm:=List.zipWith (λa f=>Hx a f 10) HZ fs++(bif e then[Hx XW 7 0]else[])
theorem XX:ob RW RX=true/\ob RW Xm=true/\ob RW Xn=true/\ob RW XW=true/\ob RX Xm=true/\ob RX Xn=true/\ob RX XW=true/\ob Xm Xn=true/\ob Xm XW=true/\ob Xn XW=true:=by unfold ob;simp only[FG];exact⟨rfl,rfl,rfl,rfl,rfl,rfl,rfl,rfl,rfl,rfl⟩
theorem am9:RW≠RX:=by intro h;have :=XX.1;grind[ob,RX,GA,xD,RW]
theorem ZS{a:ByteArray}{f s:Int}(b:a=RW\/a=RX\/a=Xm\/a=Xn\/a=XW)(e:0<=f/\f<=20)(g:0<=s/\s<=10):rv (Hx a f s)=true:=by
 have c:fb a=true:=by rcases b with rfl|rfl|rfl|rfl|rfl<;>decide
 have h:Di f 0 1000000=true:=gd.2 (by omega);have d:Di s 0 1000000=true:=gd.2 (by omega);show (fb a&&(Di f 0 1000000&&(true&&(Di s 0 1000000&&(true&&true)))))=true;grind
theorem Hy:∀(l:List bm)(s:Int),(∀a∈l,∃d f c,a=Hx d f c/\0<=f/\f<=20/\0<=c/\c<=10)->0<=s->s+30*l.length<=1000000->l.foldl (λs y=>cM .i64 s (IC y)) s<=s+30*l.length|[],s,_,_,_=>by simp|a::r,s,h,p,i=>by obtain⟨d,f,c,rfl,k,n,j,m⟩:=h a (by simp);have e:IC (Hx d f c)=f+c:=(show cM .i64 f c=f+c from ed (by omega) (by omega));simp only[List.length_cons]at i⊢;have g:cM .i64 s (f+c)=s+(f+c):=ed (by omega) (by omega);rw[List.foldl_cons,e,g];have :=Hy r (s+(f+c)) (λb o=>h b (by grind)) (by omega) (by omega);omega
theorem N1{fs:List Int}{e:Bool}(l:∀f∈fs,f=3\/f=20):∀a∈dd fs e,∃b f c,a=Hx b f c/\(b=RW\/b=RX\/b=Xm\/b=Xn\/b=XW)/\0<=f/\f<=20/\0<=c/\c<=10:=by
 intro a d;unfold dd at d;rcases List.mem_append.1 d with h|h
 · obtain⟨i,k,rfl⟩:=List.getElem_of_mem h;rw[List.getElem_zipWith];have g:i<fs.length:=by grind
   have j:i<4:=by rw[List.length_zipWith]at k;grind[HZ]
   have m:=l _ (List.getElem_mem g);refine⟨_,fs[i],10,rfl,?_,by omega,by omega,by decide,by decide⟩;match i,j with|0,_=>exact .inl rfl|1,_=>exact .inr (.inl rfl)|2,_=>exact .inr (.inr (.inl rfl))|3,_=>exact .inr (.inr (.inr (.inl rfl)))
 grind
theorem C0(fs:List Int)(e:Bool)(h:fs.length<=4):(dd fs e).length=fs.length+(bif e then 1 else 0):=by unfold dd;rw[List.length_append,List.length_zipWith];have :HZ.length=4:=rfl;grind
theorem N2{fs:List Int}{e:Bool}(h:fs.length<=4)(l:∀f∈fs,f=3\/f=20):bk ((0,(dd fs e,())):ek)=true:=by
 have m:=N1 (e:=e) l;have o:=C0 fs e h;have n:(dd fs e).length<=5:=by grind
 unfold bk;rw[Bool.and_eq_true];refine⟨rfl,HY.2 ⟨λa j=>?_,?_,(show (dd fs e).length<=12 by omega),?_⟩⟩;·obtain⟨t,f,u,rfl,A,v,q,z,w⟩:=m a j;grind[ZS]
 · have d:=XX;have p:(dd fs e).Pairwise (λa b=>ob a.1 b.1=true):=by match fs,h with|[],_=>cases e<;>simp[dd,HZ]|[c],_=>cases e<;>simp[dd,HZ,Hx,d]|[c,g],_=>cases e<;>simp[dd,HZ,Hx,d]|[c,g,i],_=>cases e<;>simp[dd,HZ,Hx,d]|[c,g,i,k],_=>cases e<;>simp[dd,HZ,Hx,d]|c::g::i::k::x::r,h=>grind
   omega
 · have :=Hy (dd fs e) 0 (λa j=>by grind) (Int.le_refl _) (by omega);show (dd fs e).foldl (λs y=>cM .i64 s (IC y)) 0<=1000000;omega
theorem Xo(c:PX)(F:A0 c):Y (Yr (c,())) (λy=>∃fs e,1<=fs.length/\fs.length<=4/\(∀f∈fs,f=3\/f=20)/\y.1=((0,(dd fs e,())):ek)/\A0 y.2.1/\y.2.1.1=c.1):=by
 unfold Yr;refine Y.bind (No c _ F (by simp)) λq B=>?_;have O:1<=q.1.1/\q.1.1<=4:=by grind
 refine Y.DZ (P:=λv=>A0 (v.2.1,(v.2.2.1,(v.2.2.2.1,())))/\v.2.1=c.1/\∃fs,1<=fs.length/\fs.length<=4/\(∀f∈fs,f=3\/f=20)/\v.2.2.2.2.1=dd fs false) (R:=λ_=>False) (Y.loop (I:=λv=>A0 (v.2.1,(v.2.2.1,(v.2.2.2.1,())))/\v.2.1=c.1/\∃fs:List Int,v.1=(fs.length:Int)/\fs.length<=4/\(∀f∈fs,f=3\/f=20)/\v.2.2.2.2.1=dd fs false) (λv=>(4-v.1).toNat) (λv p=>?_) _ ⟨B.2.1,B.2.2,[],rfl,Nat.zero_le _,λf j=>(by cases j),rfl⟩) (λv p=>?_) (λ_ h=>h.elim)
 · obtain ⟨i,b,K,h,G,u⟩:=v;obtain ⟨d,a,fs,w,m,j,o⟩:=p;dsimp only at d a w o;subst w o;unfold Yr.b0;refine Y.DY (λs=>?_) (λA=>?_)
   · have s:(fs.length:Int)<q.1.1:=Cp.1 s;have g:fs.length<4:=by omega
     have E:fs.length<HZ.length:=g;have t:([(⟨#[97]⟩,()),(⟨#[98]⟩,()),(⟨#[99]⟩,()),(⟨#[100]⟩,())]:List D9)[fs.length]?=some (HZ[fs.length],()):=by generalize fs.length=k at g E;match k,g with|0,_=>rfl|1,_=>rfl|2,_=>rfl|3,_=>rfl
     refine Y.eq (D6 t) (Y.eq (D7 t) ?_);refine Y.bind (No _ _ d (by simp)) λl z=>?_;have M:l.1.1=3\/l.1.1=20:=by grind
     have T:cM .i64 (fs.length:Int) (1:Int)=((fs.length+1:Nat):Int):=wG (n:=4) g (by omega);have C:=C0 fs false m;refine Y.tt (BO (by grind) (by decide) (by decide)) (Y.l ⟨⟨z.2.1,z.2.2.trans a,fs++[l.1.1],?_,?_,?_,?_⟩,?_⟩);· grind
     · grind
     · grind
     · show bV (dd fs false) [(HZ[fs.length],(l.1.1,(0,(10,([],())))))]=dd (fs++[l.1.1]) false;match fs,g with|[],_=>rfl|[x],_=>rfl|[x,J],_=>rfl|[x,J,N],_=>rfl
     grind
   · have A:q.1.1<=(fs.length:Int):=Au.1 A;exact Y.rl ⟨d,a,fs,by omega,m,j,rfl⟩
 · obtain ⟨i,b,K,h,G,u⟩:=v;obtain ⟨d,a,fs,D,m,j,o⟩:=p;dsimp only at d a o;subst o;have C:=C0 fs false m;refine Y.DZ (P:=λv=>A0 (v.1,(v.2.1,(v.2.2.1,())))/\v.1=c.1/\∃e,v.2.2.2.1=dd fs e) (R:=λ_=>False) (Y.bind (FD _ _ d) λQ r=>Y.DY (λ_=>Y.tt (BO (by grind) (by decide) (by decide)) (Y.l ⟨r.1,r.2.trans a,true,?_⟩)) (λ_=>Y.l ⟨r.1,r.2.trans a,false,rfl⟩)) (λv p=>?_) (λ_ h=>h.elim);· show dd fs false++[Hx XW 7 0]=dd fs true;unfold dd;simp
   · obtain ⟨H,L,e,S⟩:=p;exact Y.mk ⟨fs,e,D,m,j,by grind,H,L⟩
def Pm(fs:List Int)(e:Bool)(bF:List D9):ee:=FQ ((0,(dd fs e,())):ek) bF
def H0(bF:List D9):Prop:=bF=[]\/∃a,(a=RW\/a=RX\/a=Xm\/a=Xn)/\bF=[(a,())]
theorem Ms{bF:List D9}(h:H0 bF):nx bF=true/\(Ty.sl e9).Ok bF/\bF.length<=1:=by
 rcases h with rfl|⟨a,d,rfl⟩;·exact⟨rfl,CK,Nat.zero_le _⟩
 · have b:fb a=true:=by rcases d with rfl|rfl|rfl|rfl<;>decide
   have c:=GI b;refine⟨?_,Dk (by decide:1<=9223372036854775807) (λx e=>?_),Nat.le_refl _⟩;· unfold nx;show (((fb a&&true)&&true)&&true)=true;grind
   · rw[List.mem_singleton.1 e];exact⟨Nat.le_trans c (by decide),trivial⟩
theorem Qu{fs:List Int}{e:Bool}(o:fs.length<=4)(m:∀f∈fs,f=3\/f=20):(Ty.sl cf).Ok (dd fs e)/\ct (dd fs e):=by
 have h:=N1 (e:=e) m;have q:=C0 fs e o;have d:(dd fs e).length<=5:=by grind
 refine⟨Dk (Nat.le_trans d (by decide)) (λa c=>?_),⟨Nat.le_trans d (by decide),λa c=>?_⟩⟩
 · obtain⟨g,f,b,rfl,i,l,k,n,p⟩:=h a c;have j:g.size<=1:=by rcases i with rfl|rfl|rfl|rfl|rfl<;>decide
   exact⟨Nat.le_trans j (by decide),DX (by show _<=f;omega) (by show f<=_;omega),rfl,DX (by show _<=b;omega) (by show b<=_;omega),CK,trivial⟩
 · obtain⟨g,f,b,rfl,i,l,k,n,p⟩:=h a c;exact Nat.zero_le _
theorem RY{fs:List Int}{e:Bool}{bF:List D9}(d:fs.length<=4)(c:∀f∈fs,f=3\/f=20)(b:H0 bF):Pm fs e bF=(0,(dd fs e,(bF,(((dd fs e).filter (λa=>!ke bF a.1)).map (λa=>m9 a.1 ((0,(dd fs e,())):ek)),([],([],([],()))))))):=by unfold Pm FQ;rw[N2 d c,(Ms b).1];show (0,(dd fs e,(bF,(L2 ((0,(dd fs e,())):ek) bF,([],([],([],())))))))=_;rw[Q2]
def Gl(a:ByteArray)(x:ek):ao:=(a,(x.1,(x.1,(x.2.1,(va x.2.1,([],(1,(0,(0,(-1,([],(0,([],([],(0,([],([],([],([],([],()))))))))))))))))))))
theorem JY{a:ByteArray}{x:ek}(c:fb a=true)(b:bk x=true):m9 a x=Gl a x:=by unfold m9 Gl;grind
theorem U0{e:ByteArray}{L:List bm}(i:fb e=true)(h:bk ((0,(L,())):ek)=true)(a:(Ty.sl cf).Ok L)(d:ct L):NW (Gl e (0,(L,()))):=by have g:=GI i;have f:W1 (va L).length:=Nat.le_trans (Ex L) d.1;exact NW.So (E:=0) (P:=0) ⟨⟨⟨Nat.le_trans g (by decide),rfl,rfl,a,PB _ a,CK,rfl,rfl,rfl,rfl,CK,rfl,CK,CK,rfl,CK,CK,CK,CK,CK,trivial⟩,⟨d,f,Nat.zero_le _,(λb c=>by cases c),Nat.zero_le _,Nat.zero_le _,Nat.zero_le _,Nat.zero_le _,Nat.zero_le _,Nat.zero_le _,Nat.zero_le _,Nat.zero_le _,(λb c=>by cases c)⟩,KP rfl,Nat.zero_le _,Nat.zero_le _⟩,h,rfl,Int.le_refl _,Nat.zero_le _,Nat.zero_le _,⟨List.nodup_nil,λx a=>by cases a⟩,Nat.zero_le _⟩ (Int.le_refl _) rfl
theorem U1{b:ByteArray}{L:List bm}(d:fb b=true)(c:sM L=true):NR 0 [] (Gl b (0,(L,()))):=⟨d,by simp_all[ad,Gl,bm],by simp_all[fl,Gl,bm,ad],by simp_all[L5,Gl,bm,ad],Ht,by show (0:Int)<1;decide,Hu,by show (0:Int)<1;decide,(λv a=>by cases a),(λv a=>by cases a),rfl,(λv a=>by cases a),rfl,N0 c,(λv a=>by cases a),by simp_all[HC,bb,Gl,bm,an]⟩
structure DI(fs:List Int)(e:Bool)(bF:List D9)(K:Nat)(w:ee):Prop where
 wi:WI 889 K w
 wr:WR (14*(K:Int)) w
 Hr:AS w
 sw:SW w
 vw:VW w
 bl:(ab w).length<=K
 ne:aa w≠[]fo:H0 bF/\df w=bF
 ba:fk w=(0,(dd fs e,()))nms:(aa w).map (λn=>n.1)=((dd fs e).filter (λa=>!ke bF a.1)).map (λa=>a.1)
theorem RZ{fs:List Int}{e:Bool}(h:1<=fs.length):∃f,Hx RW f 10∈dd fs e:=by match fs,h with|f::r,_=>exact⟨f,by unfold dd;simp[HZ]⟩
theorem R0{fs:List Int}{e:Bool}(h:3<=fs.length):∃f,Hx RX f 10∈dd fs e:=by match fs,h with|f::g::r,_=>exact⟨g,by unfold dd;simp[HZ]⟩
theorem U2{bl:List an}{G:gx->Prop}{c:ByteArray}{L:List bm}:SI bl G ((0,(L,())):ek) (Gl c (0,(L,()))):=⟨⟨[],u5.nil,Oi.nil⟩,(λb a=>by cases a),⟨Ht,(λb a=>by cases a)⟩,⟨Hu,(λb a=>by cases a)⟩,(λb a=>by cases a),(λb a=>by cases a)⟩
theorem R1{fs:List Int}{e:Bool}{bF:List D9}(E:1<=fs.length)(u:fs.length<=4)(v:∀f∈fs,f=3\/f=20)(r:H0 bF)(F:bF=[]\/3<=fs.length):DI fs e bF 0 (Pm fs e bF):=by
 have t:=Qu (e:=e) u v;have q:=N2 (e:=e) u v;obtain⟨I,K,J⟩:=Ms r;have M:=C0 fs e u;have L:(dd fs e).length<=5:=by grind
 have z:sM (dd fs e)=true:=by unfold bk at q;grind
 have w:=HY.1 z;have p:∀n∈((dd fs e).filter (λa=>!ke bF a.1)).map (λa=>m9 a.1 ((0,(dd fs e,())):ek)),∃a∈dd fs e,fb a.1=true/\ke bF a.1=false/\n=Gl a.1 (0,(dd fs e,())):=λn g=>by obtain⟨a,k,rfl⟩:=List.mem_map.1 g;obtain⟨A,P⟩:=List.mem_filter.1 k;have d:=(JX (w.1 a A)).1;exact⟨a,A,d,by grind,JY d q⟩
 have y:(((dd fs e).filter (λa=>!ke bF a.1)).map (λa=>m9 a.1 ((0,(dd fs e,())):ek))).map (λn=>n.1)=((dd fs e).filter (λa=>!ke bF a.1)).map (λa=>a.1):=by rw[List.map_map];refine List.map_congr_left (λa k=>?_);have d:=(JX (w.1 a (List.mem_filter.1 k).1)).1;show (m9 a.1 ((0,(dd fs e,())):ek)).1=a.1;rw[JY d q];rfl
 rw[RY u v r];generalize Q:((dd fs e).filter (λa=>!ke bF a.1)).map (λa=>m9 a.1 ((0,(dd fs e,())):ek))=l at p y;have C:l.length<=5:=by grind
 refine⟨⟨t.1,t.2,q,K,Nat.le_trans J (by decide),Nat.le_trans C (by decide),λn g=>?_,CK,Nat.zero_le _,(λb c=>by cases c),CK,Nat.zero_le _,Nat.zero_le _,(λb c=>by cases c)⟩,⟨Int.le_refl _,rfl,I,⟨λi B=>absurd B (Nat.not_lt_zero _),(λb c=>by cases c),(λb c=>by cases c)⟩,λn g=>?_,⟨λn g=>?_,?_⟩,(λb c=>by cases c)⟩,⟨(λb c=>by cases c),(λb c=>by cases c),(λb c=>by cases c)⟩,⟨λn g=>?_,(λb c=>by cases c)⟩,⟨(λs m=>by cases m),(λn g s m=>by cases m),(λn g s m=>by cases m),(λs m=>by cases m)⟩,Nat.zero_le _,?_,⟨r,rfl⟩,rfl,y⟩;·obtain⟨a,k,d,o,rfl⟩:=p n g;exact⟨U0 d q t.1 t.2,by show (0:Int)<=(889:Nat);decide⟩
 ·obtain⟨a,k,d,o,rfl⟩:=p n g;exact U1 d z
 ·obtain⟨a,k,d,o,rfl⟩:=p n g;exact o
 · show∀(i j:Nat)(B:i<l.length)(S:j<l.length),i<j->ob l[i].1 l[j].1=true;have G:(l.map (λn=>n.1)).Pairwise (λa b=>ob a b=true):=by grind
   rw[List.pairwise_map,List.pairwise_iff_getElem]at G;omega
 · obtain⟨a,k,d,o,rfl⟩:=p n g;exact U2
 · show l≠[];intro R;have x:∀a∈dd fs e,ke bF a.1=true:=λa k=>by cases N:ke bF a.1 with|true=>rfl|false=>have :a∈(dd fs e).filter (λa=>!ke bF a.1):=List.mem_filter.2 ⟨k,by grind⟩;grind
   obtain⟨U,H⟩:=RZ (e:=e) E;have d:=x _ H;rcases F with h|h;· rw[h]at d;cases d
   · obtain⟨T,D⟩:=R0 (e:=e) h;have o:=x _ D;rcases r with rfl|⟨O,_,rfl⟩;· cases d
     · unfold ke at d o;simp_all[am9,dT,Hx,RW,RX,ko,n7,D9]
theorem DI.dp{fs:List Int}{e:Bool}{bF:List D9}{K:Nat}{w b:ee}(h:DI fs e bF K w)(q:K<=700)(s:qL w b):DI fs e bF (K+1) b:=by
 have l:=s.wi h.wi (by decide) (by omega);have c:=s.wr h.wi (by decide) h.wr (by omega);have f:=s.Hr h.wi (by decide) h.wr h.Hr;obtain⟨⟨t,i,o⟩,a,r,p,g⟩:=s.CB h.wi (by decide);have d:(ab b).length<=K+1:=by rw[i,List.length_append];have :=h.bl;omega
 have m:=s.sw h.wi (by decide) h.wr h.sw;have k:=s.vw h.wi (by decide) h.wr h.Hr h.sw h.vw;refine⟨l.yN c (by omega),c.up (by omega),f,m,k,d,λj=>?_,⟨h.fo.1,g.trans h.fo.2⟩,?_,a.trans h.nms⟩;·rw[j]at a;have :(aa w).map (λn=>n.1)=[]:=a.symm;rw[List.map_eq_nil_iff]at this;grind[ne]
 ·have :=h.ba;grind
end Go.Proofs.YthjkikiepdnimaaGreat
