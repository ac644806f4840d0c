/- Plain laws, part 2: what the program's functions and the reference's compute, told as plain words. Conditions: none. -/
import Derived.Test.YthjkikiepdnimaaGreatTqU1
set_option linter.unusedVariables false
set_option linter.unusedSimpArgs false
set_option linter.constructorNameAsVariable false
namespace Go.Proofs.YthjkikiepdnimaaGreat
open Go Go.Tm
set_option maxRecDepth 100000
noncomputable def Rm:List an->ek->List D3->ek×(List D3×Option an)|[],g,d=>(g,(d,none))|b::r,g,d=>bif hu b then((C8 g (po b)).2,(w8 d b.1,some b))else Rm r (C8 g (po b)).2 (w8 d b.1)
def j7:List an->List an|[]=>[]|b::r=>bif hu b then[b]else b::j7 r
theorem IL:∀(a:List an)(g:ek)(d:List D3),Rm a g d=(md g (j7 a),(kn d (fv (j7 a)),a.find? (λb=>hu b)))|[],g,d=>rfl|b::r,g,d=>by unfold Rm j7;cases h:hu b with|true=>simp only[cond_true,List.find?_cons_of_pos h];rfl|false=>simp only[cond_false,List.find?_cons_of_neg (show¬hu b=true by grind)];rw[IL r];rfl
theorem E1:∀(a:List an),(a.find? (λb=>hu b)=none/\nY a (λb=>hu b)=-1/\j7 a=a)\/∃p b r,a=p++b::r/\hu b=true/\a.find? (λb=>hu b)=some b/\nY a (λb=>hu b)=(p.length:Int)/\j7 a=p++[b]|[]=>.inl ⟨rfl,rfl,rfl⟩|b::r=>by cases h:hu b with|true=>exact .inr ⟨[],b,r,rfl,h,by grind,by unfold nY;grind,by unfold j7;grind⟩|false=>
 have j:(b::r).find? (λb=>hu b)=r.find? (λb=>hu b):=List.find?_cons_of_neg (by simp[h]);have i:(b::r).findIdx? (λb=>hu b)=(r.findIdx? (λb=>hu b)).map (·+1):=by grind
 have k:j7 (b::r)=b::j7 r:=by rw[j7,h];rfl
 rcases E1 r with ⟨f,d,e⟩|⟨p,c,s,f,d,e,g,l⟩;·refine .inl ⟨by grind,?_,by grind⟩;unfold nY at d⊢;grind
 ·refine .inr ⟨b::p,c,s,by grind,d,by grind,?_,by grind⟩;unfold nY at g⊢;grind
theorem By{a:List an}{b:an}(h:b∈j7 a):b∈a:=by
 rcases E1 a with⟨_,_,d⟩|⟨p,c,s,f,_,_,_,e⟩;·grind
 grind
def PN(n:ao)(d:List D3)(q:List cp):ao:=(n.1,(n.2.1,(n.2.2.1,(n.2.2.2.1,(n.2.2.2.2.1,(n.2.2.2.2.2.1,(n.2.2.2.2.2.2.1,(n.2.2.2.2.2.2.2.1,(n.2.2.2.2.2.2.2.2.1,(n.2.2.2.2.2.2.2.2.2.1,(n.2.2.2.2.2.2.2.2.2.2.1,(n.2.2.2.2.2.2.2.2.2.2.2.1,(n.2.2.2.2.2.2.2.2.2.2.2.2.1,(n.2.2.2.2.2.2.2.2.2.2.2.2.2.1,(n.2.2.2.2.2.2.2.2.2.2.2.2.2.2.1,(n.2.2.2.2.2.2.2.2.2.2.2.2.2.2.2.1,(n.2.2.2.2.2.2.2.2.2.2.2.2.2.2.2.2.1,(d,(q,(bb n,()))))))))))))))))))))
def TR(n:ao)(g:ek)(a:List e6)(d:List D3)(q:List cp)(b:List HC):ao:=(n.1,(g.1,(g.1,(g.2.1,(a,([],(1,(0,(0,(-1,([],(0,([],([],(0,([],([],(d,(q,(b,()))))))))))))))))))))
def Eo(n:ao)(q:k0):HC:=(n.2.1,(dc (ag n) q.2.1,(q.1,(q.2.1,(q.2.2.1,())))))
noncomputable def Kv(n:ao)(q:k0)(g:ek)(d:List D3)(b:an):ao:=TR n (j0 g) (p7 b) d (Bk (nr n) g) (bb n++[Eo n q])
noncomputable def AI(n:ao)(a:Int)(q:k0):ao:=match Rm (dc (ag n) a) (ft n) (j9 n) with|(g,(d,none))=>PN n d (Bk (nr n) g)|(g,(d,some b))=>Kv n q g d b
theorem Rn{S E A b:Type}(xs:List A)(g:b->A->Sum b E)(I:Nat->b->Prop){f:S->Option (Sum S E)}(mk:b->Int->S)(k:b->E)(j:b)(t:I 0 j)(n:∀i (h:i<xs.length)s,I i s->(∃d,g s xs[i]=.inl d/\I (i+1) d/\f (mk s (i:Int))=some (.inl (mk d ((i+1:Nat):Int))))\/∃e,g s xs[i]=.inr e/\f (mk s (i:Int))=some (.inr e))(v:∀s,I xs.length s->f (mk s (xs.length:Int))=some (.inr (k s))):aR f (mk j 0)=some (EY g k xs j):=by
 have p:∀(c a:List A)(s:b),a++c=xs->I a.length s->aR f (mk s (a.length:Int))=some (EY g k c s):=by intro c;induction c with|nil=>grind[aR,EY,cS]|cons x c u=>
  intro a s w r;have o:a.length<xs.length:=by grind
  have q:xs[a.length]=x:=by grind
  rcases n a.length o s r with⟨d,l,y,m⟩|⟨e,l,m⟩;·rw[q]at l;rw[de m];simp only[EY,l];have :=u (a++[x]) d (by grind) (by grind);grind
  grind[aR,EY,cS]
 simpa using p xs [] j rfl t
structure J5(n:ao):Prop where
 ok:Ez n
 l:KH n
 t:j8 (ag n)d:(j9 n).length<=800000
 p:(bb n).length<=800000
theorem J5.bl{n:ao}(h:J5 n):∀b∈ag n,e8 b:=h.l.2.2.2.1
theorem J5.Ic{n:ao}(h:J5 n):ct (ft n).2.1:=h.l.1
abbrev CmS:Type:=Int×(List an×(Int×(List bm×(List D3×Unit))))
noncomputable def Ju(n:ao)(q:k0)(s:ek×List D3)(b:an):Sum (ek×List D3) (Sum CmS (ao×Unit)):=bif hu b then .inr (.inr (Kv n q (C8 s.1 (po b)).2 (w8 s.2 b.1) b,())) else .inl ((C8 s.1 (po b)).2,w8 s.2 b.1)
theorem KR(n:ao)(q:k0)(a:ek×List D3->Sum CmS (ao×Unit)):∀(f:List an)(g:ek)(d:List D3),EY (Ju n q) a f (g,d)=(match Rm f g d with|(c,(e,none))=>a (c,e)|(c,(e,some b))=>.inr (Kv n q c e b,()))|[],g,d=>rfl|b::r,g,d=>by unfold EY Rm Ju;cases h:hu b with|true=>rfl|false=>exact KR n q a r _ _
theorem TS(n:ao)(a:Int)(q:k0)(h:J5 n)(x:W1 (List.length q.2.2.1)):Kk (n,((a,()),(q,())))=some (AI n a q,()):=by have d:=h.ok.kA;have G:=E0 h.t a;have F:=Ni (ag n) a d h.t h.bl;have y:=Ni (ag n) q.2.1 d h.t h.bl;let u:ek×List D3->Sum CmS (ao×Unit):=λs=>Sum.inl (((dc (ag n) a).length:Int),(dc (ag n) a,(s.1.1,(s.1.2.1,(s.2,())))));let I:ek×List D3->Prop:=λs=>(Ty.sl cf).Ok s.1.2.1/\ct s.1.2.1;have z:=Rn (S:=CmS) (dc (ag n) a) (Ju n q) (λi s=>(Ty.sl cf).Ok s.1.2.1/\ct s.1.2.1/\s.2.length<=800000+i) (f:=Kk.b0 (n,((a,()),(q,())))) (λs k=>(k,(dc (ag n) a,(s.1.1,(s.1.2.1,(s.2,())))))) u (ft n,j9 n) ⟨h.ok.base,h.Ic,h.d⟩ (λi c s o=>by
 have p:=mo h.t a _ (List.getElem_mem c);have w:Fk (dc (ag n) a)[i]:=Ae d.2 p;have t:=h.bl _ p;obtain⟨j,a3,a4⟩:=EA s.1 (po (dc (ag n) a)[i]) o.1 o.2.1 w.Fm;have r:Al s.2.length:=by omega
 have e:∀(R:Type),((bK (dc (ag n) a) (i:Int)).bind λD=>(Ki ((s.2,()),((D.1,()),()))).bind λC=>bif (!C.1.1) then (bK (dc (ag n) a) (i:Int)).bind λm=>bif dE (List.length s.2+List.length ([(m.1,())]:List D3)) 8 then some (.inl (bV s.2 ([(m.1,())]:List D3),())) else none else some (.inl (s.2,())))=some (Sum.inl (w8 s.2 (dc (ag n) a)[i].1,()):Sum (List D3×Unit) R):=by intro R;refine bw (cB c) (bw (TP s.2 _ r) ?_);unfold w8;cases Mc s.2 (dc (ag n) a)[i].1 with|true=>rfl|false=>exact bw (cB c) (Cm (by grind) (by decide) (by decide) rfl)
 cases g:hu (dc (ag n) a)[i]with|false=>refine .inl ⟨((C8 s.1 (po (dc (ag n) a)[i])).2,w8 s.2 (dc (ag n) a)[i].1),by unfold Ju;grind,⟨a3,a4,Nat.le_trans (Nj _ _) (by omega)⟩,?_⟩;unfold Kk.b0;refine uL (Int.ofNat_lt.2 c) (bw (cB c) (bw j ?_));refine bw (e _) (bw (cB c) (uN g ?_));rw[<-wG (n:=(dc (ag n) a).length) c (by omega)]|true=>refine .inr ⟨.inr (Kv n q (C8 s.1 (po (dc (ag n) a)[i])).2 (w8 s.2 (dc (ag n) a)[i].1) (dc (ag n) a)[i],()),by unfold Ju;grind,?_⟩;obtain ⟨B,H,A⟩:=G6 _ a3 a4;unfold Kk.b0;refine uL (Int.ofNat_lt.2 c) (bw (cB c) (bw j ?_));refine bw (e _) (bw (cB c) (cl g (bw y (bw (Fz q x) (Cm (by show (bb n).length+1<=1048577;have :=h.p;omega) (by decide) (by decide) (bw B (bw (TQ (nr n) _ h.l.2.2.2.2.2.2.2.2.2.2.1 A.1.l) (bw (cB c) (vP t.2.2.2.2 (by decide) (by decide) ?_)))))))));rw[Rl _ _ a3 a4];rfl) (λs _=>by unfold Kk.b0;exact uM (Int.le_refl _) rfl);unfold Kk;refine bw F (bw (kb (ft n) h.Ic) (bw z ?_));rw[KR];unfold AI;have v:=G8 (j7 (dc (ag n) a)) (ft n) h.ok.base h.Ic (λb E=>(show Fk b from Ae d.2 (mo h.t a b (By E))).Fm);rw[IL];cases (dc (ag n) a).find? (λb=>hu b) with|none=>exact bw (TQ (nr n) _ h.l.2.2.2.2.2.2.2.2.2.2.1 v.2.1.l) rfl|some b=>rfl
noncomputable def l9(n:ao)(q:k0):ao:=bif gA (dt (ag n) q) (-1) then n else AI n (dt (ag n) q) q
structure GO(q:k0):Prop where
 i1:(Lit.int .i64 q.1).wf=true
 i2:(Lit.int .i64 q.2.1).wf=true
 ok:Vp q
 w:W1 (List.length q.2.2.1)
structure PO(t:vc):Prop where
 i1:(Lit.int .i64 t.1).wf=true
 ok:(Ty.sl e9).Ok t.2.1
 hi:(Ty.sl e3).Ok t.2.2.1
 w:W1 (List.length t.2.1)wh:W1 (List.length t.2.2.1)
theorem PO.tok{t:vc}(h:PO t):Vq t:=⟨h.ok,h.hi.1⟩
theorem GO.ID:GO ((0,(-1,([],()))):k0):=⟨rfl,rfl,CK,Nat.zero_le _⟩
theorem Ez.EO{n:ao}(h:Ez n)(l:KH n):GO (bx n):=⟨h.2.2.2.2.2.2.2.2.1,h.2.2.2.2.2.2.2.2.2.1,h.Y8,l.2.2.2.2.1⟩
theorem Ez.Sm{n:ao}(h:Ez n)(l:KH n):PO (Fa n):=⟨h.2.2.2.2.2.2.2.2.2.2.2.1,h.2.2.2.2.2.2.2.2.2.2.2.2.1,h.2.2.2.2.2.2.2.2.2.2.2.2.2.1,l.2.2.2.2.2.1,l.2.2.2.2.2.2.1⟩
def XP(n:ao)(r:Int)(q:k0):ao:=(n.1,(n.2.1,(n.2.2.1,(n.2.2.2.1,(n.2.2.2.2.1,(n.2.2.2.2.2.1,(r,(n.2.2.2.2.2.2.2.1,(q.1,(q.2.1,(q.2.2.1,(n.2.2.2.2.2.2.2.2.2.2.2.1,(n.2.2.2.2.2.2.2.2.2.2.2.2.1,(n.2.2.2.2.2.2.2.2.2.2.2.2.2.1,(n.2.2.2.2.2.2.2.2.2.2.2.2.2.2.1,(n.2.2.2.2.2.2.2.2.2.2.2.2.2.2.2.1,(n.2.2.2.2.2.2.2.2.2.2.2.2.2.2.2.2.1,(n.2.2.2.2.2.2.2.2.2.2.2.2.2.2.2.2.2.1,(n.2.2.2.2.2.2.2.2.2.2.2.2.2.2.2.2.2.2.1,(n.2.2.2.2.2.2.2.2.2.2.2.2.2.2.2.2.2.2.2.1,()))))))))))))))))))))
theorem TU{n:ao}{r:Int}{q:k0}(h:Ez n)(b:(Lit.int .i64 r).wf=true)(a:GO q):Ez (XP n r q):=⟨h.1,h.2.1,h.2.2.1,h.2.2.2.1,h.2.2.2.2.1,h.2.2.2.2.2.1,b,h.2.2.2.2.2.2.2.1,a.i1,a.i2,a.ok,h.2.2.2.2.2.2.2.2.2.2.2.1,h.2.2.2.2.2.2.2.2.2.2.2.2.1,h.2.2.2.2.2.2.2.2.2.2.2.2.2.1,h.2.2.2.2.2.2.2.2.2.2.2.2.2.2.1,h.2.2.2.2.2.2.2.2.2.2.2.2.2.2.2.1,h.2.2.2.2.2.2.2.2.2.2.2.2.2.2.2.2.1,h.2.2.2.2.2.2.2.2.2.2.2.2.2.2.2.2.2.1,h.2.2.2.2.2.2.2.2.2.2.2.2.2.2.2.2.2.2.1,h.2.2.2.2.2.2.2.2.2.2.2.2.2.2.2.2.2.2.2.1,trivial⟩
def XQ(n:ao)(r:Int)(t:vc):ao:=(n.1,(n.2.1,(n.2.2.1,(n.2.2.2.1,(n.2.2.2.2.1,(n.2.2.2.2.2.1,(r,(n.2.2.2.2.2.2.2.1,(n.2.2.2.2.2.2.2.2.1,(n.2.2.2.2.2.2.2.2.2.1,(n.2.2.2.2.2.2.2.2.2.2.1,(t.1,(t.2.1,(t.2.2.1,(n.2.2.2.2.2.2.2.2.2.2.2.2.2.2.1,(n.2.2.2.2.2.2.2.2.2.2.2.2.2.2.2.1,(n.2.2.2.2.2.2.2.2.2.2.2.2.2.2.2.2.1,(n.2.2.2.2.2.2.2.2.2.2.2.2.2.2.2.2.2.1,(n.2.2.2.2.2.2.2.2.2.2.2.2.2.2.2.2.2.2.1,(n.2.2.2.2.2.2.2.2.2.2.2.2.2.2.2.2.2.2.2.1,()))))))))))))))))))))
theorem TV{n:ao}{r:Int}{t:vc}(h:Ez n)(b:(Lit.int .i64 r).wf=true)(a:PO t):Ez (XQ n r t):=⟨h.1,h.2.1,h.2.2.1,h.2.2.2.1,h.2.2.2.2.1,h.2.2.2.2.2.1,b,h.2.2.2.2.2.2.2.1,h.2.2.2.2.2.2.2.2.1,h.2.2.2.2.2.2.2.2.2.1,h.2.2.2.2.2.2.2.2.2.2.1,a.i1,a.ok,a.hi,h.2.2.2.2.2.2.2.2.2.2.2.2.2.2.1,h.2.2.2.2.2.2.2.2.2.2.2.2.2.2.2.1,h.2.2.2.2.2.2.2.2.2.2.2.2.2.2.2.2.1,h.2.2.2.2.2.2.2.2.2.2.2.2.2.2.2.2.2.1,h.2.2.2.2.2.2.2.2.2.2.2.2.2.2.2.2.2.2.1,h.2.2.2.2.2.2.2.2.2.2.2.2.2.2.2.2.2.2.2.1,trivial⟩
def Fb(n:ao)(g:List sd):ao:=(n.1,(n.2.1,(n.2.2.1,(n.2.2.2.1,(n.2.2.2.2.1,(n.2.2.2.2.2.1,(n.2.2.2.2.2.2.1,(n.2.2.2.2.2.2.2.1,(n.2.2.2.2.2.2.2.2.1,(n.2.2.2.2.2.2.2.2.2.1,(n.2.2.2.2.2.2.2.2.2.2.1,(n.2.2.2.2.2.2.2.2.2.2.2.1,(n.2.2.2.2.2.2.2.2.2.2.2.2.1,(n.2.2.2.2.2.2.2.2.2.2.2.2.2.1,(n.2.2.2.2.2.2.2.2.2.2.2.2.2.2.1,(n.2.2.2.2.2.2.2.2.2.2.2.2.2.2.2.1,(g,(n.2.2.2.2.2.2.2.2.2.2.2.2.2.2.2.2.2.1,(n.2.2.2.2.2.2.2.2.2.2.2.2.2.2.2.2.2.2.1,(n.2.2.2.2.2.2.2.2.2.2.2.2.2.2.2.2.2.2.2.1,()))))))))))))))))))))
theorem TW{n:ao}{g:List sd}(h:Ez n)(a:(Ty.sl GP).Ok g):Ez (Fb n g):=⟨h.1,h.2.1,h.2.2.1,h.2.2.2.1,h.2.2.2.2.1,h.2.2.2.2.2.1,h.2.2.2.2.2.2.1,h.2.2.2.2.2.2.2.1,h.2.2.2.2.2.2.2.2.1,h.2.2.2.2.2.2.2.2.2.1,h.2.2.2.2.2.2.2.2.2.2.1,h.2.2.2.2.2.2.2.2.2.2.2.1,h.2.2.2.2.2.2.2.2.2.2.2.2.1,h.2.2.2.2.2.2.2.2.2.2.2.2.2.1,h.2.2.2.2.2.2.2.2.2.2.2.2.2.2.1,h.2.2.2.2.2.2.2.2.2.2.2.2.2.2.2.1,a,h.2.2.2.2.2.2.2.2.2.2.2.2.2.2.2.2.2.1,h.2.2.2.2.2.2.2.2.2.2.2.2.2.2.2.2.2.2.1,h.2.2.2.2.2.2.2.2.2.2.2.2.2.2.2.2.2.2.2.1,trivial⟩
def sb(n:ao)(v:Int):ao:=(n.1,(n.2.1,(n.2.2.1,(n.2.2.2.1,(n.2.2.2.2.1,(n.2.2.2.2.2.1,(n.2.2.2.2.2.2.1,(v,(n.2.2.2.2.2.2.2.2.1,(n.2.2.2.2.2.2.2.2.2.1,(n.2.2.2.2.2.2.2.2.2.2.1,(n.2.2.2.2.2.2.2.2.2.2.2.1,(n.2.2.2.2.2.2.2.2.2.2.2.2.1,(n.2.2.2.2.2.2.2.2.2.2.2.2.2.1,(n.2.2.2.2.2.2.2.2.2.2.2.2.2.2.1,(n.2.2.2.2.2.2.2.2.2.2.2.2.2.2.2.1,(n.2.2.2.2.2.2.2.2.2.2.2.2.2.2.2.2.1,(n.2.2.2.2.2.2.2.2.2.2.2.2.2.2.2.2.2.1,(n.2.2.2.2.2.2.2.2.2.2.2.2.2.2.2.2.2.2.1,(n.2.2.2.2.2.2.2.2.2.2.2.2.2.2.2.2.2.2.2.1,()))))))))))))))))))))
theorem TX{n:ao}{v:Int}(h:Ez n)(a:(Lit.int .i64 v).wf=true):Ez (sb n v):=⟨h.1,h.2.1,h.2.2.1,h.2.2.2.1,h.2.2.2.2.1,h.2.2.2.2.2.1,h.2.2.2.2.2.2.1,a,h.2.2.2.2.2.2.2.2.1,h.2.2.2.2.2.2.2.2.2.1,h.2.2.2.2.2.2.2.2.2.2.1,h.2.2.2.2.2.2.2.2.2.2.2.1,h.2.2.2.2.2.2.2.2.2.2.2.2.1,h.2.2.2.2.2.2.2.2.2.2.2.2.2.1,h.2.2.2.2.2.2.2.2.2.2.2.2.2.2.1,h.2.2.2.2.2.2.2.2.2.2.2.2.2.2.2.1,h.2.2.2.2.2.2.2.2.2.2.2.2.2.2.2.2.1,h.2.2.2.2.2.2.2.2.2.2.2.2.2.2.2.2.2.1,h.2.2.2.2.2.2.2.2.2.2.2.2.2.2.2.2.2.2.1,h.2.2.2.2.2.2.2.2.2.2.2.2.2.2.2.2.2.2.2.1,trivial⟩
def EB(n:ao)(v:List u6):ao:=(n.1,(n.2.1,(n.2.2.1,(n.2.2.2.1,(n.2.2.2.2.1,(n.2.2.2.2.2.1,(n.2.2.2.2.2.2.1,(n.2.2.2.2.2.2.2.1,(n.2.2.2.2.2.2.2.2.1,(n.2.2.2.2.2.2.2.2.2.1,(n.2.2.2.2.2.2.2.2.2.2.1,(n.2.2.2.2.2.2.2.2.2.2.2.1,(n.2.2.2.2.2.2.2.2.2.2.2.2.1,(n.2.2.2.2.2.2.2.2.2.2.2.2.2.1,(n.2.2.2.2.2.2.2.2.2.2.2.2.2.2.1,(v,(n.2.2.2.2.2.2.2.2.2.2.2.2.2.2.2.2.1,(n.2.2.2.2.2.2.2.2.2.2.2.2.2.2.2.2.2.1,(n.2.2.2.2.2.2.2.2.2.2.2.2.2.2.2.2.2.2.1,(n.2.2.2.2.2.2.2.2.2.2.2.2.2.2.2.2.2.2.2.1,()))))))))))))))))))))
theorem TY{n:ao}{v:List u6}(h:Ez n)(a:(Ty.sl H5).Ok v):Ez (EB n v):=⟨h.1,h.2.1,h.2.2.1,h.2.2.2.1,h.2.2.2.2.1,h.2.2.2.2.2.1,h.2.2.2.2.2.2.1,h.2.2.2.2.2.2.2.1,h.2.2.2.2.2.2.2.2.1,h.2.2.2.2.2.2.2.2.2.1,h.2.2.2.2.2.2.2.2.2.2.1,h.2.2.2.2.2.2.2.2.2.2.2.1,h.2.2.2.2.2.2.2.2.2.2.2.2.1,h.2.2.2.2.2.2.2.2.2.2.2.2.2.1,h.2.2.2.2.2.2.2.2.2.2.2.2.2.2.1,a,h.2.2.2.2.2.2.2.2.2.2.2.2.2.2.2.2.1,h.2.2.2.2.2.2.2.2.2.2.2.2.2.2.2.2.2.1,h.2.2.2.2.2.2.2.2.2.2.2.2.2.2.2.2.2.2.1,h.2.2.2.2.2.2.2.2.2.2.2.2.2.2.2.2.2.2.2.1,trivial⟩
def ma(n:ao)(t:List an):ao:=(n.1,(n.2.1,(n.2.2.1,(n.2.2.2.1,(n.2.2.2.2.1,(t,(n.2.2.2.2.2.2.1,(n.2.2.2.2.2.2.2.1,(n.2.2.2.2.2.2.2.2.1,(n.2.2.2.2.2.2.2.2.2.1,(n.2.2.2.2.2.2.2.2.2.2.1,(n.2.2.2.2.2.2.2.2.2.2.2.1,(n.2.2.2.2.2.2.2.2.2.2.2.2.1,(n.2.2.2.2.2.2.2.2.2.2.2.2.2.1,(n.2.2.2.2.2.2.2.2.2.2.2.2.2.2.1,(n.2.2.2.2.2.2.2.2.2.2.2.2.2.2.2.1,(n.2.2.2.2.2.2.2.2.2.2.2.2.2.2.2.2.1,(n.2.2.2.2.2.2.2.2.2.2.2.2.2.2.2.2.2.1,(n.2.2.2.2.2.2.2.2.2.2.2.2.2.2.2.2.2.2.1,(n.2.2.2.2.2.2.2.2.2.2.2.2.2.2.2.2.2.2.2.1,()))))))))))))))))))))
theorem O3{n:ao}{t:List an}(h:Ez n)(a:(Ty.sl lf).Ok t):Ez (ma n t):=⟨h.1,h.2.1,h.2.2.1,h.2.2.2.1,h.2.2.2.2.1,a,h.2.2.2.2.2.2.1,h.2.2.2.2.2.2.2.1,h.2.2.2.2.2.2.2.2.1,h.2.2.2.2.2.2.2.2.2.1,h.2.2.2.2.2.2.2.2.2.2.1,h.2.2.2.2.2.2.2.2.2.2.2.1,h.2.2.2.2.2.2.2.2.2.2.2.2.1,h.2.2.2.2.2.2.2.2.2.2.2.2.2.1,h.2.2.2.2.2.2.2.2.2.2.2.2.2.2.1,h.2.2.2.2.2.2.2.2.2.2.2.2.2.2.2.1,h.2.2.2.2.2.2.2.2.2.2.2.2.2.2.2.2.1,h.2.2.2.2.2.2.2.2.2.2.2.2.2.2.2.2.2.1,h.2.2.2.2.2.2.2.2.2.2.2.2.2.2.2.2.2.2.1,h.2.2.2.2.2.2.2.2.2.2.2.2.2.2.2.2.2.2.2.1,trivial⟩
def qf(n:ao)(v:Int):ao:=(n.1,(n.2.1,(n.2.2.1,(n.2.2.2.1,(n.2.2.2.2.1,(n.2.2.2.2.2.1,(n.2.2.2.2.2.2.1,(n.2.2.2.2.2.2.2.1,(n.2.2.2.2.2.2.2.2.1,(n.2.2.2.2.2.2.2.2.2.1,(n.2.2.2.2.2.2.2.2.2.2.1,(n.2.2.2.2.2.2.2.2.2.2.2.1,(n.2.2.2.2.2.2.2.2.2.2.2.2.1,(n.2.2.2.2.2.2.2.2.2.2.2.2.2.1,(v,(n.2.2.2.2.2.2.2.2.2.2.2.2.2.2.2.1,(n.2.2.2.2.2.2.2.2.2.2.2.2.2.2.2.2.1,(n.2.2.2.2.2.2.2.2.2.2.2.2.2.2.2.2.2.1,(n.2.2.2.2.2.2.2.2.2.2.2.2.2.2.2.2.2.2.1,(n.2.2.2.2.2.2.2.2.2.2.2.2.2.2.2.2.2.2.2.1,()))))))))))))))))))))
theorem Ro{n:ao}{v:Int}(h:Ez n)(a:(Lit.int .i64 v).wf=true):Ez (qf n v):=⟨h.1,h.2.1,h.2.2.1,h.2.2.2.1,h.2.2.2.2.1,h.2.2.2.2.2.1,h.2.2.2.2.2.2.1,h.2.2.2.2.2.2.2.1,h.2.2.2.2.2.2.2.2.1,h.2.2.2.2.2.2.2.2.2.1,h.2.2.2.2.2.2.2.2.2.2.1,h.2.2.2.2.2.2.2.2.2.2.2.1,h.2.2.2.2.2.2.2.2.2.2.2.2.1,h.2.2.2.2.2.2.2.2.2.2.2.2.2.1,a,h.2.2.2.2.2.2.2.2.2.2.2.2.2.2.2.1,h.2.2.2.2.2.2.2.2.2.2.2.2.2.2.2.2.1,h.2.2.2.2.2.2.2.2.2.2.2.2.2.2.2.2.2.1,h.2.2.2.2.2.2.2.2.2.2.2.2.2.2.2.2.2.2.1,h.2.2.2.2.2.2.2.2.2.2.2.2.2.2.2.2.2.2.2.1,trivial⟩
def BE(n:ao)(q:k0):k0:=bif dO (bx n).1 q.1 then q else bx n
def Kw(r x:Int):Int:=bif dO r (cM .i64 x 1)then cM .i64 x 1 else r
def Rp(n:ao)(t:vc):vc:=bif dO (Fa n).1 t.1 then t else Fa n
theorem TZ{r x:Int}(h:(Lit.int .i64 r).wf=true):(Lit.int .i64 (Kw r x)).wf=true:=by grind[Kw,dO,cM,Dm]
theorem T0{n:ao}{q:k0}(h:GO (bx n))(a:GO q):GO (BE n q):=by unfold BE;grind
theorem Zx{n:ao}{t:vc}(h:PO (Fa n))(a:PO t):PO (Rp n t):=by unfold Rp;grind
def oj(n:ao)(q:k0):ao:=XP n (Kw (ad n) q.1) (BE n q)
noncomputable def ea(n:ao)(q:k0):ao:=l9 (oj n q) q
def Me(n:ao)(t:vc):ao:=XQ n (Kw (ad n) t.1) (Rp n t)
theorem J5.round{n:ao}(h:J5 n):(Lit.int .i64 (ad n)).wf=true:=h.ok.2.2.2.2.2.2.1
theorem Jv{n:ao}{q:k0}(h:J5 n)(b:GO q):J5 (oj n q):=by have a:=T0 (h.ok.EO h.l) b;refine⟨TU h.ok (TZ h.round) a,?_,h.t,h.d,h.p⟩;have l:=h.l;exact⟨l.1,l.2.1,l.2.2.1,l.2.2.2.1,a.w,l.2.2.2.2.2.1,l.2.2.2.2.2.2.1,l.2.2.2.2.2.2.2.1,l.2.2.2.2.2.2.2.2.1,l.2.2.2.2.2.2.2.2.2.1,l.2.2.2.2.2.2.2.2.2.2.1,l.2.2.2.2.2.2.2.2.2.2.2.1,l.2.2.2.2.2.2.2.2.2.2.2.2⟩
theorem Kx{l:List an}(h:j8 l)(q:k0):km 0 (dt l q)=!gA (dt l q) (-1):=by cases a:gA (dt l q) (-1)with|true=>grind[dt,gA,km]|false=>obtain⟨p,c,b⟩:=Nh a;have :=(h.nn p c).1;rw[<-b];exact HQ this
theorem E2(n:ao)(q:k0)(h:J5 n)(b:GO q):Kl (n,(q,()))=some (ea n q,()):=by
 have e:=Jv h b;have d:∀(R:Type),(bif dO (bx n).1 q.1 then (Gr (q,())).bind λa=>some (.inl (a.1.1,(a.1.2.1,(a.1.2.2.1,()))))else some (.inl (bx n)))=some (Sum.inl (BE n q):Sum k0 R):=by intro R;unfold BE;cases dO (bx n).1 q.1 with|true=>exact bw (Fz q b.w) rfl|false=>rfl
 have f:∀(R:Type),(bif dO (ad n) (cM .i64 q.1 1) then some (.inl (cM .i64 q.1 1,())) else some (.inl (ad n,())))=some (Sum.inl (Kw (ad n) q.1,()):Sum (Int×Unit) R):=by intro R;unfold Kw;grind
 unfold Kl;refine bw (d _) (bw (f _) (bw (O2 (ag n) q h.ok.kA.1 h.t) ?_));have c:=Kx h.t q;unfold ea l9;show (bif km 0 (dt (ag n) q) then _ else _)=some ((bif gA (dt (ag n) q) (-1) then oj n q else AI (oj n q) (dt (ag n) q) q),());rw[c];cases gA (dt (ag n) q) (-1) with|true=>rfl|false=>exact bw (TS (oj n q) (dt (ag n) q) q e b.w) rfl
theorem FW(n:ao)(t:vc)(b:PO t):OH (n,(t,()))=some (Me n t,()):=by
 have c:∀(R:Type),(bif dO (Fa n).1 t.1 then (I0 (t,())).bind λa=>some (.inl (a.1.1,(a.1.2.1,(a.1.2.2.1,()))))else some (.inl (Fa n)))=some (Sum.inl (Rp n t):Sum vc R):=by intro R;unfold Rp;cases dO (Fa n).1 t.1 with|true=>exact bw (KB t b.w b.wh) rfl|false=>rfl
 unfold OH;refine bw (c _) ?_;unfold Me Kw;show (bif dO (ad n) (cM .i64 t.1 1) then _ else _)=_;cases dO (ad n) (cM .i64 t.1 1)<;>rfl
def HR(m:ie):Prop:=W1 (n6 m).length/\(∀b∈n6 m,e8 b)/\W1 (List.length (mQ m).2.2.1)/\W1 (List.length (mT m).2.1)/\W1 (List.length (mT m).2.2.1)
theorem Jw(m:ie)(h:HR m):Kf (m,())=some (m,()):=by unfold Kf;exact bw (An (n6 m) h.1 h.2.1) (bw (Fz (mQ m) h.2.2.1) (bw (KB (mT m) h.2.2.2.1 h.2.2.2.2) rfl))
def EC(m:ie)(b:ByteArray)(a:Int):ie:=(m.1,(b,(a,m.2.2.2)))
def pt(a:List e6)(name:ByteArray)(m:ie)(b:Int):List ie:=(a.filter (λv=>!ko v.1 name)).map (λv=>EC m v.1 b)
theorem PQ{A B:Type}(p:A->Bool)(f:A->B)(l:List A){i:Nat}(a:i<l.length):((l.take (i+1)).filter p).map f=((l.take i).filter p).map f++(bif p l[i]then[f l[i]]else[]):=by grind[D8]
theorem Zy{A B:Type}(p:A->Bool)(f:A->B)(l:List A)(i:Nat):(((l.take i).filter p).map f).length<=l.length:=by grind
theorem Mf(n:ao)(m:ie)(d:W1 (ar n).length)(g:HR m):Iw (n,(m,()))=some ((pt (ar n) n.1 m m.2.2.1,()),()):=by have c:Al (ar n).length:=d.l;unfold W1 at d;have i:=cK (f:=Iw.b0 (n,(m,()))) (λk=>((((ar n).take k).filter (λv=>!ko v.1 n.1)).map (λv=>EC m v.1 m.2.2.1),((k:Int),()))) (ar n).length (e:=Sum.inl (pt (ar n) n.1 m m.2.2.1,(((ar n).length:Int),()))) (λk a=>by have h:=Zy (λv:e6=>!ko v.1 n.1) (λv=>EC m v.1 m.2.2.1) (ar n) k;unfold Iw.b0;refine uL (Int.ofNat_lt.2 a) (bw (cB a) ?_);cases b:(!ko (ar n)[k].1 n.1) with|true=>refine cl rfl (bw (Jw m g) (bw (cB a) (Cm (by grind) (by decide) (by decide) (DQ ?_ (wG a c)))));rw[PQ _ _ _ a,b];rfl|false=>refine uN rfl (DQ ?_ (wG a c));rw[PQ _ _ _ a,b];simp) (by unfold Iw.b0;refine uM (Int.le_refl _) ?_;rw[List.take_length];rfl);unfold Iw;grind
def Mg(a b:sd):Bool:=gA a.1 b.1&&(gA a.2.1 b.2.1&&ko a.2.2.1 b.2.2.1)
def Rq(l:List sd)(g:sd):Bool:=l.any (λx=>Mg x g)
def vx(l:List sd)(g:sd):List sd:=bif !Rq l g&&dO (l.length:Int) 1000 then l++[g]else l
def G9(round:Int)(name:ByteArray)(s:Int)(x:sd):Int:=bif gA x.1 round&&(ko x.2.2.1 name&&dO s x.2.1)then x.2.1 else s
def BY(a:List sd)(round:Int)(name:ByteArray):Int:=a.foldl (G9 round name) (-1)
def ik(a:List sd)(round:Int)(s:List D9×List D3)(v:e6):List D9×List D3:=bif km 0 (BY a round v.1)then(s.1++[(v.1,())],s.2++[(BY a round v.1,())])else s
def XR(b:List e6)(a:List sd)(round:Int):List D9×List D3:=b.foldl (ik a round) ([],[])
def Gh(b:List e6)(a:List sd)(round:Int):vc:=(round,((XR b a round).1,((XR b a round).2,())))
def wb(a:List e6)(b:List sd)(round:Int):vc×((Bool×Unit)×Unit):=bif Gd a (Gh a b round)&&!sU (Gh a b round)then (Gh a b round,((true,()),()))else ((0,([],([],()))),((false,()),()))
theorem Nk(a:List sd)(round:Int):∀(b:List e6)(s:List D9×List D3),(b.foldl (ik a round) s).1.length<=s.1.length+b.length/\(b.foldl (ik a round) s).2.length<=s.2.length+b.length
 |[],s=>⟨Nat.le_refl _,Nat.le_refl _⟩|v::r,s=>by
  have h:=Nk a round r (ik a round s v);have c:(ik a round s v).1.length<=s.1.length+1/\(ik a round s v).2.length<=s.2.length+1:=by unfold ik;grind
  grind
theorem PR(b:List sd)(round:Int)(f:∀x∈b,GP.Ok x):∀(c:List e6)(s:List D9×List D3),(∀v∈c,Fp.Ok v)->(∀x∈s.1,e9.Ok x)->(∀x∈s.2,e3.Ok x)->(∀x∈(c.foldl (ik b round) s).1,e9.Ok x)/\(∀x∈(c.foldl (ik b round) s).2,e3.Ok x)
 |[],s,_,e,d=>⟨e,d⟩|v::r,s,g,e,d=>by
  have m:(Lit.int .i64 (BY b round v.1)).wf=true:=by
   unfold BY;have h:∀(l:List sd)(s:Int),(∀x∈l,GP.Ok x)->(Lit.int .i64 s).wf=true->(Lit.int .i64 (l.foldl (G9 round v.1) s)).wf=true:=by intro l;induction l with|nil=>grind|cons x r j=>
    intro s a i;refine j _ (λy k=>a y (by grind)) ?_;unfold G9;cases (gA x.1 round&&(ko x.2.2.1 v.1&&dO s x.2.1));·exact i
    ·exact (a x (by simp)).2.1
   exact h b (-1) f rfl
  refine PR b round f r _ (λx a=>g x (by grind)) ?_ ?_
  · unfold ik;cases km 0 (BY b round v.1);· exact e
    · intro x a;rcases List.mem_append.1 a with a|a;· grind
      · rw[List.mem_singleton.1 a];exact⟨(g v (by simp)).1,trivial⟩
  · unfold ik;cases km 0 (BY b round v.1);· exact d
    · intro x a;rcases List.mem_append.1 a with a|a;· grind
      simp_all[af.Ok,e3,BY,D3,Ty.Ok,Ty.D,af.D]
theorem Jx(b:List e6)(e:List sd)(round:Int)(c:W1 b.length)(g:(Ty.sl Fp).Ok b)(i:(Ty.sl GP).Ok e)(h:(Lit.int .i64 round).wf=true):PO (Gh b e round):=by have d:=Nk e round b ([],[]);have f:=PR e round (λx a=>Ae i.2 a) b ([],[]) (λx a=>Ae g.2 a) (λx a=>by cases a) (λx a=>by cases a);simp only[List.length_nil,Nat.zero_add]at d;unfold W1 at c;exact⟨h,Dk (Nat.le_trans d.1 (Nat.le_trans c (by decide))) f.1,Dk (Nat.le_trans d.2 (Nat.le_trans c (by decide))) f.2,Nat.le_trans d.1 c,Nat.le_trans d.2 c⟩
theorem O4(b:List e6)(a:List sd)(round:Int)(d:Int×(List D9×(List D3×Unit))){i:Nat}(e:i<b.length)(j:d.1=(i:Int))(h:Al a.length):aR (Gx.b1 ((b,()),((a,()),((round,()),()))) d) ((-1:Int),((0:Int),()))=some (.inl (BY a round b[i].1,((a.length:Int),()))):=by
 refine AJ (S:=Int×(Int×Unit)) a (G9 round b[i].1) (f:=Gx.b1 ((b,()),((a,()),((round,()),()))) d) (λs k=>(s,(k,()))) (λs=>Sum.inl (s,((a.length:Int),()))) (-1) (λk c s=>?_) (λs=>?_)
 · have g:bK b d.1=some b[i]:=by rw[j];exact cB e
   unfold Gx.b1 G9;refine uL (Int.ofNat_lt.2 c) (bw (cB c) ?_);rw[<-wG c h];cases gA a[k].1 round with|false=>rfl|true=>refine cl rfl (bw (cB c) (bw g ?_));cases ko a[k].2.2.1 b[i].1 with|false=>rfl|true=>refine cl rfl (bw (cB c) ?_);cases dO s a[k].2.1 with|false=>rfl|true=>exact cl rfl (bw (cB c) rfl)
 · unfold Gx.b1;exact uM (Int.le_refl _) rfl
theorem O5(a:List e6)(b:List sd)(round:Int)(d:W1 a.length)(j:(Ty.sl Fp).Ok a)(h:(Ty.sl GP).Ok b)(m:(Lit.int .i64 round).wf=true):Gx ((a,()),((b,()),((round,()),())))=some (wb a b round):=by
 have e:Al a.length:=d.l;have l:=Jx a b round d j h m;unfold W1 at d;have n:=xL (S:=Int×(List D9×(List D3×Unit))) a (ik b round) (λi s=>s.1.length<=i/\s.2.length<=i) (f:=Gx.b0 ((a,()),((b,()),((round,()),())))) (λs k=>(k,(s.1,(s.2,())))) (λs=>Sum.inl ((a.length:Int),(s.1,(s.2,())))) ([],[]) ⟨Nat.le_refl _,Nat.le_refl _⟩ (λi c s p=>by
 refine⟨?_,?_⟩;·unfold Gx.b0 ik;refine uL (Int.ofNat_lt.2 c) (bw (O4 a b round _ c rfl h.1) ?_);cases g:km 0 (BY b round a[i].1) with|false=>exact uN g (by rw[<-wG c e];rfl)|true=>exact cl g (bw (cB c) (Cm (by grind) (by decide) (by decide) (Cm (by grind) (by decide) (by decide) (by rw[<-wG c e];rfl))))
 ·unfold ik;grind) (λs _=>by unfold Gx.b0;exact uM (Int.le_refl _) rfl);unfold Gx wb;refine bw n.1 (bw (Q0 a (Gh a b round) e l.tok) ?_);cases o:Gd a (Gh a b round) with|false=>rfl|true=>refine uN rfl (bw (Fy (Gh a b round)) ?_);cases sU (Gh a b round)<;>rfl
noncomputable def xd(n:ao)(g:sd):ao:=let a:=Fb n (vx (ei n) g)
 let t:=wb (ar n) (vx (ei n) g) g.1
 bif t.2.1.1 then Me a t.1 else a
noncomputable def j6(n:ao)(g:sd)(q:k0):ao:=bif F6 (ar n) g.2.2.1&&C5 (ar n) q then (bif gA (ea n q).2.1 n.2.1 then xd (ea n q) g else ea n q) else n
theorem T1(l:List sd)(g:sd):(vx l g).length<=l.length+1:=by unfold vx;grind
theorem PS{l:List sd}{g:sd}(c:(Ty.sl GP).Ok l)(d:W1 l.length)(e:GP.Ok g):(Ty.sl GP).Ok (vx l g):=by have f:=T1 l g;unfold W1 at d;refine Dk (Nat.le_trans f (by omega)) (λy a=>?_);unfold vx at a;cases b:(!Rq l g&&dO (l.length:Int) 1000)with|false=>rw[b]at a;exact Ae c.2 a|true=>
 rw[b]at a;rcases List.mem_append.1 a with a|a;·exact Ae c.2 a
 ·rw[List.mem_singleton.1 a];exact e
structure GIn(n:ao):Prop where
 s:W1 (ar n).length
 so:(Ty.sl Fp).Ok (ar n)g:(ei n).length<=1048575
 go:(Ty.sl GP).Ok (ei n)
theorem FX{a:List e6}{b:List sd}{round:Int}(h:(wb a b round).2.1.1=true):sU (wb a b round).1=false/\Gd a (wb a b round).1=true/\(wb a b round).1=Gh a b round:=by unfold wb at h⊢;grind
theorem Rr(l:List sd)(g:sd)(c:ao×Unit)(a:ao×(sd×(k0×Unit)))(e:ei c.1=l)(j:a.2.1=g)(h:Al l.length):aR (Ix.b0 c a) (false,((0:Int),()))=some (.inl (Rq l g,((l.length:Int),()))):=by
 subst e j;have i:=AJ (S:=Bool×(Int×Unit)) (ei c.1) (λs x=>s||Mg x a.2.1) (f:=Ix.b0 c a) (λs k=>(s,(k,()))) (λs=>Sum.inl (s,(((ei c.1).length:Int),()))) false (λk d s=>by unfold Ix.b0;refine uL (Int.ofNat_lt.2 d) ?_;rw[<-wG d h];cases s with|true=>rfl|false=>exact uN rfl (bw (cB d) (bw (qn d) rfl))) (λs=>by unfold Ix.b0;exact uM (Int.le_refl _) rfl);refine i.trans ?_;have :∀(l:List sd) (b:Bool),l.foldl (λs x=>s||Mg x a.2.1) b=(b||l.any (λx=>Mg x a.2.1)):=by intro l;induction l with|nil=>grind|cons x r m=>grind
 rw[this];rfl
theorem Jy(n:ao)(g:sd)(q:k0)(h:J5 n)(f:GO q)(b:GP.Ok g)(a:GIn (ea n q)):Ix (n,(g,(q,())))=some (j6 n g q,()):=by unfold Ix j6;refine bw (HK (ar n) g.2.2.1 h.ok.set.1) ?_;cases F6 (ar n) g.2.2.1 with|false=>rfl|true=>refine uN rfl (bw (ON (ar n) q h.ok.set.1 f.ok) ?_);cases C5 (ar n) q with|false=>rfl|true=>refine uN rfl (bw (E2 n q h f) ?_);cases l:gA (ea n q).2.1 n.2.1 with|false=>rfl|true=>
 have i:Al (ei (ea n q)).length:=a.go.1;refine uN rfl (bw (Rr (ei (ea n q)) g _ _ rfl rfl i) ?_);have j:∀(R:Type),(bif (!Rq (ei (ea n q)) g) then bif dO (List.length (ei (ea n q)):Int) (1000:Int) then bif dE (List.length (ei (ea n q))+List.length ([g]:List sd)) 32 then some (.inl (bV (ei (ea n q)) ([g]:List sd),())) else none else some (.inl (ei (ea n q),())) else some (.inl (ei (ea n q),())))=some (Sum.inl (vx (ei (ea n q)) g,()):Sum (List sd×Unit) R):=by intro R;unfold vx;cases Rq (ei (ea n q)) g with|true=>rfl|false=>refine cl rfl ?_;cases dO (List.length (ei (ea n q)):Int) (1000:Int) with|false=>rfl|true=>exact cl rfl (Cm (by show (ei (ea n q)).length+1<=1048577;have :=a.g;omega) (by decide) (by decide) rfl)
 have c:=PS a.go (Nat.le_trans a.g (by decide)) b;refine bw (j _) (bw (O5 (ar (ea n q)) (vx (ei (ea n q)) g) g.1 a.s a.so c b.1) ?_);unfold xd;have k:=Jx (ar (ea n q)) (vx (ei (ea n q)) g) g.1 a.s a.so c b.1;cases d:(wb (ar (ea n q)) (vx (ei (ea n q)) g) g.1).2.1.1 with|false=>exact uN rfl (by simp only[cond_true,d,cond_false,Bool.and_true];rfl)|true=>obtain⟨_,_,e⟩:=FX d;refine cl rfl (bw (FW (Fb (ea n q) (vx (ei (ea n q)) g)) _ (by grind)) (by grind))
def E3(n:ao):sd:=(ad n,((bx n).1,(n.1,())))
def FY(n:ao)(a:Int):ie:=(3,(⟨#[]⟩,(a,([],(0,(0,(⟨#[]⟩,(ad n,((bx n).1,(n.1,((bx n).1,((bx n).2.1,((bx n).2.2.1,(0,([],([],()))))))))))))))))
def T2(n:ao):tb:=(2,(n.2.1,(ad n,((bx n).1,(n.1,())))))
noncomputable def fp(n:ao):ao×(List ie×List tb):=bif F6 (ar n) n.1&&!dO (ad n) (fl n) then(j6 (sb n (ad n)) (E3 n) (bx n),(pt (ar n) n.1 (FY n 0) n.2.1,[T2 n])) else (n,([],[]))
theorem Nl{n:ao}(h:J5 n){v:Int}(a:(Lit.int .i64 v).wf=true):J5 (sb n v):=⟨TX h.ok a,h.l,h.t,h.d,h.p⟩
theorem al6{n:ao}(l:KH n)(a:Int):HR (FY n a):=⟨Nat.zero_le _,(λb c=>by cases c),l.2.2.2.2.1,Nat.zero_le _,Nat.zero_le _⟩
theorem IM{n:ao}(h:Ez n):GP.Ok (E3 n):=⟨h.2.2.2.2.2.2.1,h.2.2.2.2.2.2.2.2.1,h.1,trivial⟩
theorem T3(n:ao)(h:J5 n)(b:GIn (ea (sb n (ad n)) (bx n))):SK (n,())=some (((fp n).2.1,()),(((fp n).2.2,()),((fp n).1,()))):=by have a:=h.ok.EO h.l;unfold SK fp;refine bw (HK (ar n) n.1 h.ok.set.1) ?_;cases F6 (ar n) n.1 with|false=>rfl|true=>refine uN rfl ?_;show (bif dO (ad n) (fl n) then _ else _)=_;cases dO (ad n) (fl n) with|true=>rfl|false=>refine uN rfl (bw (Fz (bx n) a.w) (bw (Mf (sb n (ad n)) (FY n n.2.1) h.l.2.1 (al6 h.l _)) (bw (show SJ ((n.2.1,()),(E3 n,()))=some (T2 n,()) from rfl) (bw (Jy (sb n (ad n)) (E3 n) (bx n) (Nl h h.round) a (IM h.ok) b) rfl))))
theorem Rs{l:List an}(h:j8 l):∀(d:Int)(j:Nat)(a:j<l.length),l[j].1=d->(dc l d).Sublist (l.take (j+1)):=by
 refine AT h (λd r j a e=>absurd e (r _ (List.getElem_mem a))) (λb f q j a e=>?_);rw[l5 h f,List.take_succ_eq_append_getElem a];have m:l[j]=b:=h.TN (List.getElem_mem a) f e;rw[m];refine List.Sublist.append ?_ (List.Sublist.refl _);rcases h.PM b f with⟨v,_⟩|⟨_,t,_,p,o,n,_⟩;·rw[KQ h (by omega)];grind
 · obtain⟨i,g,rfl⟩:=List.getElem_of_mem o;have s:i<j:=by
    rcases Nat.lt_or_ge i j with c|c;· exact c
    · exfalso;have u:l[j].1<=l[i].1:=by
       rcases Nat.eq_or_lt_of_le c with k|k;· grind
       · exact Int.le_of_lt (h.Zs j i a g k)
      omega
   exact (q i g n).trans (List.take_sublist_take_left (by omega))
theorem Jz{l:List an}(h:j8 l)(a:Int):(dc l a).Sublist l:=by
 rcases nv h a with⟨_,_,c⟩|⟨b,e,f,_,_,_⟩;·rw[p9 c];grind
 ·obtain⟨j,d,rfl⟩:=List.getElem_of_mem e;exact(Rs h a j d f).trans (List.take_sublist _ _)
theorem Zz{L:ek}(h:bk L=true):(Lit.int .i64 L.1).wf=true:=by unfold bk at h;simp only[Bool.and_eq_true]at h;have :=h.1;simp only[Di,km,Bool.and_eq_true,decide_eq_true_eq]at this;exact DX (by omega) (by omega)
theorem HS:∀(e:List an)(L:ek),(Ty.sl cf).Ok L.2.1->ct L.2.1->(∀b∈e,(Ty.sl iv).Ok (po b))->bk L=true->bk (md L e)=true|[],L,_,_,_,h=>h|b::r,L,f,d,a,h=>by obtain⟨_,j,i⟩:=EA L (po b) f d (a b (by simp));exact HS r _ j i (λc k=>a c (by grind)) (Nd (po b) (0,L) f d (λt g=>Ae (a b (by simp)).2 g) h)
theorem Nn:∀(a d:List D3),(∀x∈d,e3.Ok x)->(∀x∈a,e3.Ok x)->∀x∈kn d a,e3.Ok x|[],d,h,_=>h|y::r,d,h,c=>by refine Nn r (w8 d y.1) (λx b=>?_) (λx b=>c x (by grind));unfold w8 at b;grind
theorem PT(x y:Int):cM .i64 x y=cM .i64 y x:=by grind[cM]
theorem Ru(n:Int)(xs:List dT)(x:dT):El n (xs++[x])=cM .i64 (El n xs) x.1:=by simp_all[El,dT,cM]
theorem T5(e a:Int):∀(xs:List dT)(s:List dT×Int),El (cM .i64 (xs.foldl (i5 e) s).2 a) (xs.foldl (i5 e) s).1=El (El (cM .i64 s.2 a) s.1) xs|[],s=>rfl|x::r,s=>by simp only[List.foldl_cons];rw[T5 e a r (i5 e s x)];show _=El (cM .i64 (El (cM .i64 s.2 a) s.1) x.1) r;unfold i5;cases km x.2.1 e with|true=>simp only[cond_true];rw[show cM .i64 (cM .i64 s.2 x.1) a=cM .i64 x.1 (cM .i64 s.2 a) by rw[PT s.2 x.1,Ak],I7,PT]|false=>simp_all[El,cM,dT,Ru]
theorem T6(e:Int)(a:bm):IC (ds e a)=IC a:=T5 e a.2.2.2.1 a.2.2.2.2.1 ([],a.2.1)
theorem Rv(e:Int)(xs:List bm):EV (xs.map (ds e))=EV xs:=by
 unfold EV;rw[List.foldl_map];have :(λ(s:Int)(y:bm)=>cM .i64 s (IC (ds e y)))=λs y=>cM .i64 s (IC y):=by funext s y;rw[T6]
 grind
theorem Ha{xs:List dT}(h:tv xs=true):∀y∈xs,1<=y.1/\y.1<=1000000/\0<=y.2.1/\y.2.1<=1000:=by intro y a;obtain⟨i,b,rfl⟩:=List.getElem_of_mem a;unfold tv at h;have :=xJ h i b;rw[Nat.zero_add]at this;unfold GY at this;simp only[Bool.and_eq_true,Di,km,decide_eq_true_eq]at this;omega
theorem JA:∀(xs:List dT)(n:Int)(k:Nat),(∀y∈xs,1<=y.1/\y.1<=1000000)->0<=n->n<=1000000*k->xs.length+k<=1000->n<=El n xs/\El n xs<=1000000*((xs.length+k:Nat):Int)|[],n,k,_,d,a,_=>⟨Int.le_refl _,by simpa[El]using a⟩|x::r,n,k,h,d,a,c=>by have g:=h x (List.mem_cons_self ..);simp only[List.length_cons]at c⊢;have e:cM .i64 n x.1=n+x.1:=ed (by omega) (by omega);have f:=JA r (n+x.1) (k+1) (λy b=>h y (List.mem_cons_of_mem _ b)) (by omega) (by omega) (by omega);show n<=El (cM .i64 n x.1) r/\El (cM .i64 n x.1) r<=_;grind
theorem T7{a:bm}(h:rv a=true):0<=a.2.1/\a.2.1<=1000000/\0<=a.2.2.2.1/\a.2.2.2.1<=1000000/\List.length a.2.2.2.2.1<=4/\tv a.2.2.2.2.1=true/\a.2.1<=IC a/\IC a<=6000000:=by
 unfold rv at h;simp only[Bool.and_eq_true]at h;obtain⟨_,l,_,f,i,d⟩:=h;have c:0<=a.2.1/\a.2.1<=1000000:=by simpa[Di,km]using l
 have b:0<=a.2.2.2.1/\a.2.2.2.1<=1000000:=by simpa[Di,km]using f
 have j:List.length a.2.2.2.2.1<=4:=by simp only[km,decide_eq_true_eq]at i;omega
 have e:cM .i64 a.2.1 a.2.2.2.1=a.2.1+a.2.2.2.1:=ed (by omega) (by omega);have k:=JA a.2.2.2.2.1 (a.2.1+a.2.2.2.1) 2 (λy g=>by have :=Ha d y g;omega) (by omega) (by omega) (by omega);refine⟨c.1,c.2,b.1,b.2,j,d,?_,?_⟩;·unfold IC;grind
 ·unfold IC;grind
theorem KS{A:Type}{lt:A->A->Bool}{xs:List A}(h:xs.Pairwise (λz y=>lt z y=true))(i:Nat)(a:i<xs.length):lO lt xs i xs[i]=true:=by cases i with|zero=>rfl|succ j=>show(match xs[j]? with|some z=>lt z xs[j+1]|none=>true)=true;rw[List.getElem?_eq_getElem (show j<xs.length by omega)];exact(List.pairwise_iff_getElem.1 h) j (j+1) (by omega) a (by omega)
theorem T8{A:Type}{lt:A->A->Bool}{xs:List A}(h:TC lt xs):xs.Pairwise (λz y=>lt z y=true):=List.pairwise_iff_getElem.2 λi j b c a=>h i j b c a
theorem PU(e:Int):∀(xs:List dT)(s:List dT×Int),(xs.foldl (i5 e) s).1=s.1++xs.filter (λx=>!km x.2.1 e)|[],s=>by simp|x::r,s=>by simp only[List.foldl_cons];rw[PU e r (i5 e s x)];unfold i5;grind
theorem O6{xs ys:List dT}(b:ys.Sublist xs)(h:tv xs=true)(d:TC (λ(z y:dT)=>dO z.2.1 y.2.1) xs):tv ys=true:=by have c:=(T8 d).sublist b;unfold tv;refine ns λi a=>?_;have e:=Ha h ys[i] (b.subset (List.getElem_mem a));rw[Nat.zero_add];unfold GY;rw[KS (lt:=λz y=>dO z.2.1 y.2.1) c i a];simp only[Di,km,Bool.and_true,Bool.and_eq_true,decide_eq_true_eq];omega
theorem PV(e:Int):∀(xs:List dT)(s:List dT×Int)(k:Nat),(∀y∈xs,1<=y.1/\y.1<=1000000)->0<=s.2->s.2<=1000000*(k:Int)->xs.length+k<=1000->0<=(xs.foldl (i5 e) s).2/\(xs.foldl (i5 e) s).2<=1000000*((xs.length+k:Nat):Int)
 |[],s,k,_,b,f,_=>⟨b,by grind⟩|x::r,s,k,h,b,f,d=>by
  have j:=h x (List.mem_cons_self ..);simp only[List.length_cons]at d⊢;simp only[List.foldl_cons];have g:cM .i64 s.2 x.1=s.2+x.1:=ed (by omega) (by omega);have a:0<=(i5 e s x).2/\(i5 e s x).2<=1000000*((k+1:Nat):Int):=by unfold i5;grind
  have i:=PV e r (i5 e s x) (k+1) (λy c=>h y (List.mem_cons_of_mem _ c)) a.1 a.2 (by omega);omega
theorem JB:∀(xs:List bm)(s:Int)(k:Nat),(∀a∈xs,0<=IC a/\IC a<=6000000)->0<=s->s<=6000000*(k:Int)->xs.length+k<=1000->s<=xs.foldl (λs y=>cM .i64 s (IC y)) s/\∀a∈xs,IC a<=xs.foldl (λs y=>cM .i64 s (IC y)) s|[],s,_,_,_,_,_=>⟨Int.le_refl _,λa e=>by cases e⟩|x::r,s,k,h,f,i,d=>by have j:=h x (List.mem_cons_self ..);simp only[List.length_cons]at d;simp only[List.foldl_cons];have c:cM .i64 s (IC x)=s+IC x:=ed (by omega) (by omega);rw[c];have g:=JB r (s+IC x) (k+1) (λy b=>h y (List.mem_cons_of_mem _ b)) (by omega) (by omega) (by omega);grind
theorem Rw(L:ek)(h:bk L=true)(K:L.1<900):bk (cM .i64 L.1 1,(L.2.1.map (ds (cM .i64 L.1 1)),()))=true:=by
 obtain⟨A,o,p⟩:=n5 h;unfold bk sM at h;simp only[Bool.and_eq_true]at h;obtain⟨m,v,H,l⟩:=h;have j:∀a∈L.2.1,rv a=true:=λa b=>by obtain⟨i,e,rfl⟩:=List.getElem_of_mem b;have :=xJ v i e;simp_all[rv,bm,lO,ob,dT,D0]
 have w:=λa b=>T7 (j a b);have t:=JB L.2.1 0 0 (λa b=>by grind) (Int.le_refl _) (by omega) (by omega);have m:0<=L.1/\L.1<=900:=by simpa[Di,km]using m
 have u:cM .i64 L.1 1=L.1+1:=ed (by omega) (by omega);have D:EV L.2.1<=1000000:=by simpa[km]using l
 generalize I:cM .i64 L.1 1=E at u;have J:∀a∈L.2.1,rv (ds E a)=true:=λa b=>by
  have q:=j a b;have n:=w a b;have c:=PV E a.2.2.2.2.1 ([],a.2.1) 1 (λy d=>by have :=Ha n.2.2.2.2.2.1 y d;omega) n.1 (by omega) (by omega);have M:(kj E a).1=a.2.2.2.2.1.filter (λx=>!km x.2.1 E):=by unfold kj;rw[PU];rfl
  have f:(kj E a).1.Sublist a.2.2.2.2.1:=by simp_all
  have g:=O6 f n.2.2.2.2.2.1 (o a b).2;have G:=f.length_le;have F:=T6 E a;have C:(kj E a).2<=IC (ds E a):=by have P:cM .i64 (kj E a).2 a.2.2.2.1=(kj E a).2+a.2.2.2.1:=ed (by have :=c.1;unfold kj;omega) (by have :=c.2;unfold kj;omega);have k:=JA (kj E a).1 ((kj E a).2+a.2.2.2.1) 10 (λy d=>by have :=Ha g y d;omega) (by have :=c.1;unfold kj;omega) (by have :=c.2;unfold kj;omega) (by omega);show _<=El (cM .i64 (kj E a).2 a.2.2.2.1) (kj E a).1;grind
  have B:(kj E a).2<=1000000:=by have :=t.2 a b;have O:IC a<=EV L.2.1:=this;omega
  unfold rv at q⊢;simp only[Bool.and_eq_true]at q⊢;refine⟨q.1,?_,q.2.2.1,q.2.2.2.1,?_,g⟩;·show Di (kj E a).2 0 1000000=true;have N:0<=(kj E a).2:=c.1;simp[Di,km];omega
  ·show km (List.length (kj E a).1:Int) 4=true;have :=n.2.2.2.2.1;simp[km];omega
 unfold bk sM;simp only[Bool.and_eq_true];refine⟨?_,?_,?_,?_⟩;·simp[Di,km];omega
 · refine ns λi e=>?_;rw[List.length_map]at e;rw[Nat.zero_add];unfold D0;have s:=T8 p;have r:(L.2.1.map (ds E)).Pairwise (λz y=>ob z.1 y.1=true):=by rw[List.pairwise_map];exact s
   rw[KS (lt:=λ(z y:bm)=>ob z.1 y.1) r i (by omega),Bool.and_true,List.getElem_map];grind
 · grind
 · rw[Rv];exact l
theorem JC(L:ek)(b:(Ty.sl cf).Ok L.2.1)(c:ct L.2.1)(h:bk L=true)(f:L.1<900):(j0 L).1=L.1+1/\bk (j0 L)=true:=by
 obtain⟨R,g,l,k,j,d⟩:=HP L b c;have e:j0 L=R:=by unfold j0;rw[g]
 have a:=Rw L h f;have i:=d h a;have m:0<=L.1:=by unfold bk at h;simp only[Bool.and_eq_true,Di,km,decide_eq_true_eq]at h;omega
 rw[e,i];exact⟨ed (by omega) (by omega),a⟩
theorem JD:∀(f:List an)(L:ek),(Ty.sl cf).Ok L.2.1->ct L.2.1->(∀b∈f,(Ty.sl iv).Ok (po b))->(md L f).1=L.1|[],L,_,_,_=>rfl|b::r,L,g,d,a=>by obtain⟨_,j,i⟩:=EA L (po b) g d (a b (by simp));have e:=PL (po b) (0,L) g d (λt h=>Ae (a b (by simp)).2 h);exact (JD r _ j i (λc k=>a c (by grind))).trans e
abbrev PX:Type:=List D5×(Int×(Int×Unit))
def A0(c:PX):Prop:=List.length c.1<=1048576/\0<=c.2.1/\c.2.1<=(List.length c.1:Int)
theorem al7(b:List D5)(d:List.length b<=1048576):Y (Yp ((b,()),())) (λy=>A0 y.1/\y.1.1=b):=by unfold Yp;refine Y.DZ (P:=λ_=>True) (R:=λ_=>False) (Y.loop (I:=λs=>0<=s.2.1/\s.2.1<=(List.length b:Int)) (λs=>((List.length b:Int)-s.2.1).toNat) (λs c=>?_) _ ⟨Int.le_refl _,Int.natCast_nonneg _⟩) (λv _=>Y.mk ⟨⟨d,Int.le_refl _,Int.natCast_nonneg _⟩,rfl⟩) (λ_ h=>h.elim);unfold Yp.b0;refine Y.DY (λa=>Y.DY (λf=>?_) (λ_=>Y.rl trivial)) (λ_=>Y.rl trivial);have a:=Cp.1 a;refine Y.bind (Y.gi (Q:=λ_=>True) c.1 a λ_ _=>trivial) (λx _=>Y.l ?_);have e:(cM .i64 s.2.1 (1:Int))=s.2.1+1:=ed (by omega) (by omega);grind
theorem Mh(c:PX)(a:A0 c):Y (Ox (c,())) (λy=>0<=y.1.1/\y.1.1<=255/\A0 y.2.1/\y.2.1.1=c.1):=by unfold Ox;refine Y.ff rfl (Y.ff rfl ?_);refine Y.DZ (P:=λv=>0<=v.1/\v.1<=255/\0<=v.2.1/\v.2.1<=(List.length c.1:Int)) (R:=λ_=>False) (Y.DY (λb=>?_) (λb=>Y.l ⟨(BN _).1,(BN _).2,a.2.1,a.2.2⟩)) (λv d=>Y.mk ⟨d.1,d.2.1,⟨a.1,d.2.2.1,d.2.2.2⟩,rfl⟩) (λ_ h=>h.elim);have b:=Cp.1 b;refine Y.bind (Y.gi (Q:=λ_=>True) a.2.1 b λ_ _=>trivial) (λx _=>Y.l ⟨(BN _).1,(BN _).2,?_⟩);have e:(cM .i64 c.2.1 (1:Int))=c.2.1+1:=ed (by have :=a.2.1;omega) (by have :=a.2.2;have :=a.1;omega);have f:=a.2.1;grind
theorem la(c:PX)(n:Int)(m:A0 c):Y (J4 (c,((n,()),()))) (λy=>0<=y.1.1/\(0<n->y.1.1<n)/\(n<=0->y.1.1=0)/\A0 y.2.1/\y.2.1.1=c.1):=by
 unfold J4;refine Y.DY (λi=>?_) (λi=>?_);·simp_all[km,Cq,Y.mk,J6,A0,D5]
 · have i:0<n:=CM.1 i;refine Y.DY (λ_=>Y.bind (Mh c m) λy q=>?_) (λ_=>Y.bind (Mh c m) λh k=>Y.bind (Mh _ k.2.2.1) λg j=>Y.bind (Mh _ j.2.2.1) λl o=>?_);· refine Y.ff (CN.2 (show n≠0 by omega)) (Y.mk ?_);have p:=Co q.1 i;grind
   · refine Y.ff (CN.2 (show n≠0 by omega)) (Y.mk ?_);have a:=k.1;have b:=k.2.1;have v:=j.1;have d:=j.2.1;have e:=o.1;have f:=o.2.1;have s:zJ .i64 h.1.1 (65536:Int)=h.1.1*65536:=Ar (by omega) (by omega);have r:zJ .i64 g.1.1 (256:Int)=g.1.1*256:=Ar (by omega) (by omega);have t:cM .i64 (h.1.1*65536) (g.1.1*256)=h.1.1*65536+g.1.1*256:=ed (by omega) (by omega);have u:cM .i64 (h.1.1*65536+g.1.1*256) l.1.1=h.1.1*65536+g.1.1*256+l.1.1:=ed (by omega) (by omega);have p:=Co (x:=h.1.1*65536+g.1.1*256+l.1.1) (by omega) i;grind
theorem No(c:PX)(l:List D3)(d:A0 c)(f:l≠[]):Y (MI (c,((l,()),()))) (λy=>y.1∈l/\A0 y.2.1/\y.2.1.1=c.1):=by
 unfold MI;have e:(0:Int)<(List.length l:Int):=by have :=List.length_pos_iff.2 f;omega
 refine Y.bind (la c _ d) λy a=>Y.bind (Y.gi (Q:=λx=>x∈l) a.1 (a.2.1 e) λx b=>b) λx b=>Y.mk ⟨b,a.2.2.2.1,a.2.2.2.2⟩
theorem al8(c:PX)(l:List D9)(d:A0 c)(f:l≠[]):Y (VH (c,((l,()),()))) (λy=>y.1∈l/\A0 y.2.1/\y.2.1.1=c.1):=by
 unfold VH;have e:(0:Int)<(List.length l:Int):=by have :=List.length_pos_iff.2 f;omega
 refine Y.bind (la c _ d) λy a=>Y.bind (Y.gi (Q:=λx=>x∈l) a.1 (a.2.1 e) λx b=>b) λx b=>Y.mk ⟨b,a.2.2.2.1,a.2.2.2.2⟩
theorem FD(c:PX)(n:Int)(b:A0 c):Y (Sw (c,((n,()),()))) (λy=>A0 y.2.1/\y.2.1.1=c.1):=by unfold Sw;exact Y.bind (la c _ b) λy a=>Y.mk ⟨a.2.2.2.1,a.2.2.2.2⟩
theorem T9(c:PX)(b:A0 c):Y (Sx (c,())) (λy=>y.1.1.size<=8/\A0 y.2.1/\y.2.1.1=c.1):=by unfold Sx;refine Y.bind (al8 c _ b (by simp)) λy a=>Y.mk ⟨?_,a.2⟩;have h:=a.1;simp only[List.mem_cons,List.not_mem_nil,or_false]at h;rcases h with h|h|h|h|h|h<;>rw[h]<;>decide
theorem ZA(b:List D5)(m:Int)(e:List.length b<=1048576)(c:0<=m):Y (F27 ((b,()),((m,()),()))) (λy=>0<=y.1.1/\y.1.1<=m):=by
 unfold F27;refine Y.ff rfl ?_;have d:AV .i64 (List.length b:Int) (12:Int)=((List.length b/12:Nat):Int):=by unfold AV;have :((List.length b:Int).tdiv 12)=((List.length b/12:Nat):Int):=rfl;rw[this,nU (by omega) (by omega)]
 have a:cM .i64 (3:Int) ((List.length b/12:Nat):Int)=3+((List.length b/12:Nat):Int):=ed (by omega) (by omega);dsimp only;rw[d,a];refine Y.DY (λ_=>Y.mk ⟨c,Int.le_refl _⟩) (λh=>Y.mk ?_);have h:3+((List.length b/12:Nat):Int)<=m:=by have :=Au.1 h;omega
 grind
def txS(t:cp):Prop:=t.1<=3/\1<=t.1/\t.2.1.size<=8/\t.2.2.1.size<=8/\0<=t.2.2.2.1/\t.2.2.2.1<=200/\0<=t.2.2.2.2.1/\t.2.2.2.2.1<=3
theorem XS(c:PX)(m:A0 c):Y (Sy (c,())) (λy=>txS y.1/\A0 y.2.1/\y.2.1.1=c.1):=by
 unfold Sy;refine Y.bind (la c _ m) λk b=>Y.bind (T9 _ b.2.2.2.1) λr d=>Y.bind (No _ _ d.2.1 (by simp)) λj i=>Y.bind (la _ _ i.2.1) λn a=>?_;have e:n.2.1.1=c.1:=a.2.2.2.2.trans (i.2.2.trans (d.2.2.trans b.2.2.2.2));have l:0<=j.1.1/\j.1.1<=200:=by grind
 refine Y.DZ (P:=λv=>A0 (v.1,(v.2.1,(v.2.2.1,())))/\v.1=c.1/\v.2.2.2.1.size<=8) (R:=λ_=>False) (Y.DY (λ_=>Y.bind (T9 _ a.2.2.2.1) λs f=>Y.l ⟨f.2.1,f.2.2.trans e,f.1⟩) (λ_=>Y.l ⟨a.2.2.2.1,e,Nat.zero_le 8⟩)) (λv g=>Y.mk ⟨?_,g.1,g.2.1⟩) (λ_ h=>h.elim);have q:=b.1;have o:=b.2.1 (by decide);have p:cM .i64 (1:Int) k.1.1=1+k.1.1:=ed (by omega) (by omega);exact⟨by grind,by grind,d.1,g.2.2,l.1,l.2,a.1,by grind⟩
theorem al9(c:PX)(l:Fo)(k:A0 c)(j:∀a∈l.2.1,a.1.size<=8)(q:List.length l.2.1<=1000000):Y (VI (c,(l,()))) (λy=>y.1.1<=3/\1<=y.1.1/\y.1.2.1.size<=8/\y.1.2.2.1.size<=8/\0<=y.1.2.2.2.1/\y.1.2.2.2.1<=200/\((0<=y.1.2.2.2.2.1/\y.1.2.2.2.2.1<=3)\/∃a∈l.2.1,y.1.2.2.2.2.1=a.2.2.1)/\A0 y.2.1/\y.2.1.1=c.1):=by unfold VI;refine Y.bind (XS c k) λp b=>?_;refine Y.DZ (P:=λv=>A0 (v.1,(v.2.1,(v.2.2.1,())))/\v.1=c.1/\v.2.2.2.1.size<=8/\((0<=v.2.2.2.2.1/\v.2.2.2.2.1<=3)\/∃a∈l.2.1,v.2.2.2.2.1=a.2.2.1)) (R:=λ_=>False) (Y.DY (λi=>Y.bind (FD _ _ b.2.1) λr e=>Y.DY (λ_=>Y.bind (la _ _ e.1) λo d=>Y.bind (Y.gi (Q:=λx=>x∈l.2.1) d.1 (d.2.1 (Cp.1 i)) λx n=>n) λm g=>Y.l ⟨d.2.2.2.1,d.2.2.2.2.trans (e.2.trans b.2.2),j _ g,.inr ⟨m,g,rfl⟩⟩) (λ_=>Y.l ⟨e.1,e.2.trans b.2.2,b.1.2.2.1,.inl b.1.2.2.2.2.2.2⟩)) (λ_=>Y.l ⟨b.2.1,b.2.2,b.1.2.2.1,.inl b.1.2.2.2.2.2.2⟩)) (λv f=>Y.mk ⟨b.1.1,b.1.2.1,f.2.2.1,b.1.2.2.2.1,b.1.2.2.2.2.1,b.1.2.2.2.2.2.1,f.2.2.2,f.1,f.2.1⟩) (λ_ h=>h.elim)
theorem Ep(x:D3)(n:Int):Y (HI (x,((n,()),()))) (λ_=>True):=by unfold HI;exact Y.ff (zH _) (Y.ff (zH _) (Y.mk trivial))
theorem WN(b:List D5)(p:List.length b=64):Y (Kd ((b,()),())) (λy=>List.length y.1.1=64):=by
 unfold Kd;refine Y.DZ (P:=λv=>List.length v.1=16) (R:=λ_=>False) (Y.loop (I:=λs=>0<=s.2.1/\s.2.1<=16/\(List.length s.1:Int)=s.2.1) (λs=>(16-s.2.1).toNat) (λs f=>?_) _ ⟨Int.le_refl _,by grind,rfl⟩) (λv d=>?_) (λ_ h=>h.elim)
 · obtain ⟨w,i,u⟩:=s;obtain ⟨g,j,e⟩:=f;dsimp only at g j e;unfold Kd.b0;refine Y.DY (λa=>?_) (λc=>Y.rl ?_)
   · have a:i<16:=Cp.1 a;have o:zJ .i64 (4:Int) i=4*i:=Ar (by omega) (by omega);have k:cM .i64 (zJ .i64 (4:Int) i) 1=4*i+1:=by grind[cM,zJ,ed]
     have l:cM .i64 (zJ .i64 (4:Int) i) 2=4*i+2:=by grind[cM,zJ,ed]
     have n:cM .i64 (zJ .i64 (4:Int) i) 3=4*i+3:=by grind[cM,zJ,ed]
     have m:cM .i64 i 1=i+1:=ed (by omega) (by omega);refine Y.gT (by grind) (by grind) λ_ _=>Y.ff rfl (Y.gT (by grind) (by grind) λ_ _=>Y.ff rfl (Y.gT (by grind) (by grind) λ_ _=>Y.ff rfl (Y.gT (by grind) (by grind) λ_ _=>Y.dE (by grind) (by decide) (by decide) (Y.l ?_))));show (0<=cM .i64 i 1/\cM .i64 i 1<=16/\(List.length (w++[_]):Int)=cM .i64 i 1)/\(16-cM .i64 i 1).toNat<(16-i).toNat;grind
   · have c:16<=i:=Au.1 c;grind
 · have d:List.length v.1=16:=d;refine Y.DZ (P:=λv=>List.length v.1=64) (R:=λ_=>False) (Y.loop (I:=λs=>16<=s.2.1/\s.2.1<=64/\(List.length s.1:Int)=s.2.1) (λs=>(64-s.2.1).toNat) (λs f=>?_) _ ⟨Int.le_refl _,by grind,by grind⟩) (λv d=>Y.mk d) (λ_ h=>h.elim);obtain ⟨w,i,u⟩:=s;obtain ⟨g,j,e⟩:=f;dsimp only at g j e;unfold Kd.b1;refine Y.DY (λa=>?_) (λc=>Y.rl ?_);· have a:i<64:=Cp.1 a;have k:gS .i64 i 15=i-15:=iz (by omega) (by omega);have l:gS .i64 i 2=i-2:=iz (by omega) (by omega);have n:gS .i64 i 16=i-16:=iz (by omega) (by omega);have q:gS .i64 i 7=i-7:=iz (by omega) (by omega);have m:cM .i64 i 1=i+1:=ed (by omega) (by omega);refine Y.Eb (by grind) (by grind) λ_ _=>Y.Eb (by grind) (by grind) λ_ _=>Y.bind (Ep _ _) λ_ _=>Y.bind (Ep _ _) λ_ _=>Y.ff rfl (Y.bind (Ep _ _) λ_ _=>Y.bind (Ep _ _) λ_ _=>Y.ff rfl (Y.Eb (by grind) (by grind) λ_ _=>Y.Eb (by grind) (by grind) λ_ _=>Y.dE (by grind) (by decide) (by decide) (Y.l ?_)));show (16<=cM .i64 i 1/\cM .i64 i 1<=64/\(List.length (w++[_]):Int)=cM .i64 i 1)/\(64-cM .i64 i 1).toNat<(64-i).toNat;grind
   · have c:64<=i:=Au.1 c;grind
theorem WO(h:List D3)(b:List D5)(k:List D3)(l:List.length h=8)(m:List.length b=64)(p:List.length k=64):Y (Ke ((h,()),((b,()),((k,()),())))) (λy=>List.length y.1.1=8):=by
 unfold Ke;refine Y.bind (WN b m) λo g=>Y.dE (by grind) (by decide) (by decide) ?_;refine Y.DZ (P:=λv=>List.length v.1=8) (R:=λ_=>False) (Y.loop (I:=λs=>0<=s.2.1/\List.length s.1=8) (λs=>(64-s.2.1).toNat) (λs e=>?_) _ ⟨Int.le_refl _,l⟩) (λv d=>?_) (λ_ h=>h.elim)
 · obtain ⟨v,i,u⟩:=s;obtain ⟨f,c⟩:=e;dsimp only at f c;unfold Ke.b0;refine Y.DY (λa=>?_) (λj=>Y.rl c);have a:i<64:=Cp.1 a;have n:cM .i64 i 1=i+1:=ed (by omega) (by omega);have q:(o.1.1).length=64:=g;refine Y.Eb (by decide) (by grind) λ_ _=>Y.bind (Ep _ _) λ_ _=>Y.bind (Ep _ _) λ_ _=>Y.bind (Ep _ _) λ_ _=>?_;refine Y.Eb (by decide) (by grind) λ_ _=>Y.Eb (by decide) (by grind) λ_ _=>Y.Eb (by decide) (by grind) λ_ _=>?_;refine Y.gT (by omega) (by grind) λ_ _=>Y.Eb (by omega) (by grind) λ_ _=>?_;refine Y.Eb (by decide) (by grind) λ_ _=>Y.bind (Ep _ _) λ_ _=>Y.bind (Ep _ _) λ_ _=>Y.bind (Ep _ _) λ_ _=>?_;refine Y.Eb (by decide) (by grind) λ_ _=>Y.Eb (by decide) (by grind) λ_ _=>Y.Eb (by decide) (by grind) λ_ _=>Y.Eb (by decide) (by grind) λ_ _=>Y.Eb (by decide) (by grind) λ_ _=>Y.Eb (by decide) (by grind) λ_ _=>Y.Eb (by decide) (by grind) λ_ _=>Y.Eb (by decide) (by grind) λ_ _=>Y.Eb (by decide) (by grind) λ_ _=>Y.l ⟨⟨?_,rfl⟩,?_⟩;· grind
   grind
 · have d:List.length v.1=8:=d;refine Y.DZ (P:=λv=>List.length v.2.1=8) (R:=λ_=>False) (Y.loop (I:=λs=>0<=s.1/\List.length s.2.1=8) (λs=>(8-s.1).toNat) (λs e=>?_) _ ⟨Int.le_refl _,d⟩) (λv d=>Y.mk d) (λ_ h=>h.elim);obtain ⟨i,v,u⟩:=s;obtain ⟨f,c⟩:=e;dsimp only at f c;unfold Ke.b1;refine Y.DY (λa=>?_) (λj=>Y.rl c);have a:i<8:=Cp.1 a;have n:cM .i64 i 1=i+1:=ed (by omega) (by omega);refine Y.Eb (by omega) (by grind) λ_ _=>Y.gT (by omega) (by grind) λ_ _=>Y.Eb (by omega) (by grind) λ_ _=>Y.l ⟨⟨?_,?_⟩,?_⟩;· grind
   · grind
   grind
theorem Ua(b:List D5)(r:List.length b<=1000000000):Y (Kc ((b,()),())) (λy=>List.length y.1.1%64=0/\List.length y.1.1<=1000000100):=by
 unfold Kc;refine Y.dE (by grind) (by decide) (by decide) (Y.dE (by show List.length ([]++b)+1<=_;grind) (by decide) (by decide) ?_);refine Y.DZ (P:=λv=>List.length v.1%64=56/\List.length v.1<=List.length b+65) (R:=λ_=>False) (Y.loop (I:=λs=>List.length s.1+(120-List.length s.1%64)%64<=List.length b+65) (λs=>(120-List.length s.1%64)%64) (λs a=>?_) _ ?_) (λv e=>?_) (λ_ h=>h.elim)
 · obtain⟨o,u⟩:=s;dsimp only at a;unfold Kc.b0;have p:ph (List.length o:Int) (64:Int)=((List.length o%64:Nat):Int):=rfl;refine Y.ff rfl (Y.DY (λf=>?_) (λg=>Y.rl ?_));· have f:((List.length o%64:Nat):Int)≠56:=CN.1 (by grind);refine Y.dE (by grind) (by decide) (by decide) (Y.l ?_);show (List.length (o++[_])+(120-List.length (o++[_])%64)%64<=List.length b+65)/\(120-List.length (o++[_])%64)%64<(120-List.length o%64)%64;grind
   · have g:((List.length o%64:Nat):Int)=56:=Cr.1 (by grind);grind
 · show List.length (([]++b)++[_])+(120-List.length (([]++b)++[_])%64)%64<=List.length b+65;grind
 · obtain⟨o,u⟩:=v;obtain⟨n,l⟩:=e;dsimp only at n l;refine Y.DZ (P:=λv=>List.length v.1=List.length o+8) (R:=λ_=>False) (Y.loop (I:=λs=>-8<=s.2.1/\8*(List.length s.1:Int)+s.2.1=8*(List.length o:Int)+56/\(List.length s.1)<=List.length o+8) (λs=>(s.2.1+8).toNat) (λs a=>?_) _ ⟨by grind,rfl,by grind⟩) (λv e=>Y.mk ?_) (λ_ h=>h.elim)
   · obtain ⟨q,k,u⟩:=s;obtain ⟨m,i,j⟩:=a;dsimp only at m i j;unfold Kc.b1;refine Y.DY (λc=>?_) (λd=>Y.rl ?_);· have c:0<=k:=Cq.1 c;have t:gS .i64 k 8=k-8:=iz (by omega) (by omega);refine Y.ff (zH _) (Y.dE (by grind) (by decide) (by decide) (Y.l ?_));show (-8<=gS .i64 k 8/\8*(List.length (q++[_]):Int)+gS .i64 k 8=8*(List.length o:Int)+56/\List.length (q++[_])<=List.length o+8)/\(gS .i64 k 8+8).toNat<(k+8).toNat;grind
     · have d:k<0:=CM.1 d;grind
   grind
theorem Hb(b:List D5)(x:List.length b<=1000000000):Y (Iu ((b,()),())) (λy=>y.1.1.size=32):=by
 unfold Iu;refine Y.bind (Ua b x) λm d=>Y.bind (Y.of (Q:=λy=>List.length y.1.1=64) rfl rfl) λt n=>?_;have d:List.length m.1.1%64=0/\List.length m.1.1<=1000000100:=d;have n:List.length t.1.1=64:=n;generalize m.1.1=p at d;refine Y.DZ (P:=λv=>List.length v.1=8) (R:=λ_=>False) (Y.loop (I:=λs=>List.length s.1=8/\0<=s.2.1/\s.2.1%64=0/\s.2.1<=(List.length p:Int)/\s.2.2.1=p) (λs=>((List.length p:Int)-s.2.1).toNat) (λs l=>?_) _ ⟨rfl,Int.le_refl _,rfl,Int.natCast_nonneg _,rfl⟩) (λv f=>?_) (λ_ h=>h.elim);·obtain ⟨h,g,q,u⟩:=s;obtain ⟨c,j,k,w,rfl⟩:=l;dsimp only at c j k w d;unfold Iu.b0;refine Y.DY (λa=>?_) (λ_=>Y.rl c);have a:g<(List.length q:Int):=Cp.1 a;have e:cM .i64 g 64=g+64:=ed (by omega) (by omega);refine Y.tt (by unfold wq;grind) (Y.bind (WO h _ t.1.1 c (by grind) n) λz A=>Y.l ?_);grind
 · have f:List.length v.1=8:=f;refine Y.DZ (P:=λv=>List.length v.1=32) (R:=λ_=>False) (Y.loop (I:=λs=>0<=s.2.1/\s.2.1<=8/\(List.length s.1:Int)=4*s.2.1) (λs=>(8-s.2.1).toNat) (λs l=>?_) _ ⟨Int.le_refl _,by grind,rfl⟩) (λv f=>Y.mk ((xZ _).trans f)) (λ_ h=>h.elim);obtain ⟨o,i,u⟩:=s;obtain ⟨c,j,k⟩:=l;dsimp only at c j k;unfold Iu.b1;refine Y.DY (λa=>?_) (λr=>Y.rl ?_);· have a:i<8:=Cp.1 a;have e:cM .i64 i 1=i+1:=ed (by omega) (by omega);refine Y.Eb (by omega) (by grind) λ_ _=>Y.ff rfl (Y.Eb (by omega) (by grind) λ_ _=>Y.ff rfl (Y.Eb (by omega) (by grind) λ_ _=>Y.ff rfl (Y.Eb (by omega) (by grind) λ_ _=>Y.dE (by grind) (by decide) (by decide) (Y.l ?_))));show (0<=cM .i64 i 1/\cM .i64 i 1<=8/\(List.length (o++[_,_,_,_]):Int)=4*cM .i64 i 1)/\(8-cM .i64 i 1).toNat<(8-i).toNat;grind
   · have r:8<=i:=Au.1 r;grind
theorem Hc(s:ByteArray)(a:s.size<=100000000):Y (VP ((s,()),())) (λy=>y.1.1.size=32):=by unfold VP;have e:List.length (eo s)=s.size:=ze s;refine Y.dE (by grind) (by decide) (by decide) (Y.bind (Hb _ ?_) λy h=>Y.mk h);exact Cs (n:=1) (m:=s.size) (Nat.le_refl _) (Nat.le_of_eq e) (by omega)
theorem Hd(a b:ByteArray)(g:a.size<=100000000)(f:b.size<=100000000):Y (VQ ((a,()),((b,()),()))) (λy=>y.1.1.size=32):=by unfold VQ;have e:List.length (eo a)=a.size:=ze a;have d:List.length (eo b)=b.size:=ze b;have c:(bV ([((1:Int),())]:List D5) (eo a)).length<=1+a.size:=Cs (n:=1) (m:=a.size) (Nat.le_refl _) (Nat.le_of_eq e) (Nat.le_refl _);refine Y.dE (by grind) (by decide) (by decide) (Y.dE (Nat.le_trans (Nat.add_le_add c (Nat.le_of_eq d)) (by omega)) (by decide) (by decide) (Y.bind (Hb _ ?_) λy h=>Y.mk h));exact Cs (n:=1+a.size) (m:=b.size) c (Nat.le_of_eq d) (by omega)
theorem ZB(n:Int)(g:2<=n)(i:n<=1000000):Y (OE ((n,()),())) (λy=>1<=y.1.1/\y.1.1<n):=by unfold OE;refine Y.DZ (P:=λv=>1<=v.1/\v.1<n) (R:=λ_=>False) (Y.loop (I:=λs=>1<=s.1/\s.1<n) (λs=>(n-s.1).toNat) (λs c=>?_) _ ⟨Int.le_refl _,by omega⟩) (λv d=>Y.mk d) (λ_ h=>h.elim);obtain ⟨v,u⟩:=s;obtain ⟨b,a⟩:=c;dsimp only at b a;unfold OE.b0;have e:zJ .i64 (2:Int) v=2*v:=Ar (by omega) (by omega);refine Y.DY (λf=>Y.l ?_) (λ_=>Y.rl ⟨b,a⟩);grind[zJ,dO,Cp]
theorem Mi:∀(k:Nat)(l:List D9),List.length l<=k->List.length l<=1000->(∀s∈l,s.1.size<=100000000)->Y (MM (k+1) ((l,()),())) (λy=>y.1.1.size=32)
 |k,l,c,n,i=>by
  show Y (SE (MM k) ((l,()),())) _;unfold SE;refine Y.DY (λ_=>Y.bind (Hb _ (Nat.zero_le _)) λy h=>Y.mk h) (λe=>Y.DY (λa=>?_) (λa=>?_));·have a:(List.length l:Int)=1:=Cr.1 a;exact Y.bind (Y.gi (Q:=λx=>x∈l) (Int.le_refl _) (by grind) λ_ h=>h) λx m=>Y.bind (Hc x.1 (i x m)) λy h=>Y.mk h
  ·have e:(List.length l:Int)≠0:=CN.1 e;have a:(List.length l:Int)≠1:=CN.1 a;match k,c with
 |0,c=>omega|k+1,c=>
 refine Y.bind (ZB (List.length l:Int) (by omega) (by omega)) λb f=>?_;have f:1<=b.1.1/\b.1.1<(List.length l:Int):=f;have d:mX b.1.1 (List.length l)=true:=by unfold mX;grind
 refine Y.tt d (Y.bind (Mi k _ ?_ ?_ ?_) λj p=>Y.tt d (Y.bind (Mi k _ ?_ ?_ ?_) λg o=>Y.bind (Hd j.1.1 g.1.1 ?_ ?_) λy h=>Y.mk h));·grind
 ·grind
 ·grind
 ·grind
 ·grind
 ·grind
 ·omega
 omega
theorem He{A:Type}{c:Bool}{t e:Option A}{y:A}(h:(bif c then t else e)=some y):(c=true/\t=some y)\/(c=false/\e=some y):=by grind
theorem E4{A B:Type}{o:Option A}{K:A->Option B}{y:B}(h:o.bind K=some y):∃a,o=some a/\K a=some y:=Option.bind_eq_some_iff.1 h
theorem Mj:∀(k:Nat)(l:List D9)(y:(ByteArray×Unit)×Unit),List.length l<=1000->(∀s∈l,s.1.size<=100000000)->MM k ((l,()),())=some y->y.1.1.size=32
 |0,l,y,_,_,h=>by cases h|k+1,l,y,r,e,h=>by
  change SE (MM k) ((l,()),())=some y at h;unfold SE at h;rcases He h with⟨_,h⟩|⟨t,h⟩;·obtain⟨a,d,h⟩:=E4 h;have :=Y.get (Hb _ (Nat.zero_le _)) d;grind
  · rcases He h with⟨f,h⟩|⟨f,h⟩;· obtain⟨x,n,h⟩:=E4 h;obtain⟨a,d,h⟩:=E4 h;have f:(List.length l:Int)=1:=Cr.1 f;have m:x∈l:=Y.get (Y.gi (xs:=l) (i:=0) (Q:=λx=>x∈l) (Int.le_refl _) (by omega) λ_ h=>h) n;have :=Y.get (Hc x.1 (e x m)) d;grind
    · obtain⟨q,u,h⟩:=E4 h;rcases He h with⟨_,h⟩|⟨_,h⟩
      · obtain⟨a,d,h⟩:=E4 h;rcases He h with⟨_,h⟩|⟨_,h⟩;· obtain⟨b,j,h⟩:=E4 h;obtain⟨c,g,h⟩:=E4 h;have o:=Mj k _ a (by grind) (λs h=>e s (List.mem_of_mem_drop (List.mem_of_mem_take h))) d;have p:=Mj k _ b (by grind) (λs h=>e s (List.mem_of_mem_drop (List.mem_of_mem_take h))) j;have :=Y.get (Hd a.1.1 b.1.1 (by omega) (by omega)) g;grind
        grind
      grind
theorem Ub(l:List D9)(b:List.length l<=1000)(a:∀s∈l,s.1.size<=100000000):Y (VR ((l,()),())) (λy=>y.1.1.size<=32):=by unfold VR;refine Y.DY (λ_=>Y.mk (Nat.zero_le _)) (λ_=>?_);obtain⟨y,d,_⟩:=Mi (List.length l) l (Nat.le_refl _) b a;obtain⟨z,c⟩:=yh (R:=MM) ⟨_,y,d⟩;obtain⟨k,e⟩:=oA c;have :=Mj k l z b a e;simp_all[Y.bind,YB,D9,Y.of,Y.mk]
theorem bt9(n:Int)(h:0<=n):zL .i64 n 7=n/128:=by unfold zL;show n.fdiv 128=n/128;grind
theorem B0(b:List D5)(n:Int)(r:List.length b<=1000000000):Y (HH ((b,()),((n,()),()))) (λy=>List.length y.1.1<=List.length b+6):=by
 unfold HH;refine Y.dE (by grind) (by decide) (by decide) ?_;refine Y.DZ (P:=λv=>v.1<=1000000000) (R:=λ_=>False) (Y.DY (λ_=>Y.l (Int.le_refl _)) (λh=>Y.l (Au.1 h))) (λl k=>?_) (λ_ h=>h.elim);refine Y.DZ (P:=λv=>v.1<=1000000000/\-1000000000<=v.1) (R:=λ_=>False) (Y.DY (λ_=>Y.l ⟨by decide,Int.le_refl _⟩) (λh=>Y.l ⟨k,Au.1 h⟩)) (λp q=>?_) (λ_ h=>h.elim);refine Y.DZ (P:=λv=>0<=v.1/\v.1<=2000000000) (R:=λ_=>False) (Y.DY (λh=>Y.l ?_) (λh=>Y.l ?_)) (λv3 g=>?_) (λ_ h=>h.elim);·grind[dO,Cp,gS,zJ,Ar,iz]
 ·grind[dO,Au,zJ,Ar]
 · refine Y.DZ (P:=λv=>List.length v.1<=List.length b+5) (R:=λ_=>False) (Y.loop (I:=λs=>0<=s.2.1/\((List.length s.1<=List.length b/\s.2.1<=17179869184)\/(List.length s.1<=List.length b+1/\s.2.1<=134217728)\/(List.length s.1<=List.length b+2/\s.2.1<=1048576)\/(List.length s.1<=List.length b+3/\s.2.1<=8192)\/(List.length s.1<=List.length b+4/\s.2.1<=64))) (λs=>s.2.1.toNat) (λs j=>?_) _ ?_) (λv f=>?_) (λ_ h=>h.elim);· obtain⟨o,m,u⟩:=s;obtain⟨e,i⟩:=j;dsimp only at e i;unfold HH.b0;refine Y.DY (λd=>?_) (λ_=>Y.rl (by grind));have d:127<m:=Cp.1 d;refine Y.dE (by grind) (by decide) (by decide) (Y.ff rfl (Y.l ?_));show (0<=zL .i64 m 7/\((List.length (o++[_])<=List.length b/\zL .i64 m 7<=17179869184)\/(List.length (o++[_])<=List.length b+1/\zL .i64 m 7<=134217728)\/(List.length (o++[_])<=List.length b+2/\zL .i64 m 7<=1048576)\/(List.length (o++[_])<=List.length b+3/\zL .i64 m 7<=8192)\/(List.length (o++[_])<=List.length b+4/\zL .i64 m 7<=64)))/\(zL .i64 m 7).toNat<m.toNat;rw[bt9 m e,List.length_append];grind
   · obtain⟨a,c⟩:=g;refine⟨a,.inl ⟨?_,by grind⟩⟩;simp_all[D5,bV]
   · have f:List.length v.1<=List.length b+5:=f;refine Y.dE (by grind) (by decide) (by decide) (Y.mk ?_);simp_all[D5,bV]
theorem Rx(b:List D5)(s:ByteArray)(f:List.length b<=100000000)(d:s.size<=100000000):Y (VO ((b,()),((s,()),()))) (λy=>List.length y.1.1<=List.length b+6+s.size):=by unfold VO;refine Y.bind (B0 b _ (by omega)) λc a=>?_;have a:List.length c.1.1<=List.length b+6:=a;have e:List.length (eo s)=s.size:=ze s;refine Y.dE (by grind) (by decide) (by decide) (Y.mk ?_);exact Cs (n:=List.length b+6) (m:=s.size) a (Nat.le_of_eq e) (Nat.le_refl _)
theorem WQ(a:bm)(F:a.1.size<=1000000)(G:List.length a.2.2.2.2.1<=1048576):Y (OD (a,())) (λy=>y.1.1.size<=100000000):=by
 unfold OD;refine Y.bind (Rx [] a.1 (Nat.zero_le _) (by omega)) λg t=>?_;have t:List.length g.1.1<=0+6+a.1.size:=t;refine Y.bind (B0 g.1.1 _ (by omega)) λj p=>?_;have p:List.length j.1.1<=List.length g.1.1+6:=p;refine Y.bind (B0 j.1.1 _ (by omega)) λc l=>?_;have l:List.length c.1.1<=List.length j.1.1+6:=l;refine Y.bind (B0 c.1.1 _ (by omega)) λf r=>?_;have r:List.length f.1.1<=List.length c.1.1+6:=r;refine Y.bind (B0 f.1.1 _ (by omega)) λB q=>?_;have q:List.length B.1.1<=List.length f.1.1+6:=q;refine Y.DZ (P:=λv=>List.length v.1<=20000000) (R:=λ_=>False) (Y.loop (I:=λs=>0<=s.2.1/\s.2.1<=(List.length a.2.2.2.2.1:Int)/\(List.length s.1:Int)<=2000000+12*s.2.1) (λs=>((List.length a.2.2.2.2.1:Int)-s.2.1).toNat) (λs A=>?_) _ ⟨Int.le_refl _,Int.natCast_nonneg _,by grind⟩) (λv k=>Y.mk ?_) (λ_ h=>h.elim);·obtain ⟨o,i,u⟩:=s;obtain ⟨d,w,z⟩:=A;dsimp only at d w z;unfold OD.b0;refine Y.DY (λb=>?_) (λ_=>Y.rl (by grind));have b:i<(List.length a.2.2.2.2.1:Int):=Cp.1 b;have e:cM .i64 i 1=i+1:=ed (by omega) (by omega);refine Y.gT d b λx _=>Y.bind (B0 o _ (by omega)) λn m=>Y.gT d b λD _=>?_;have m:List.length n.1.1<=List.length o+6:=m;refine Y.bind (B0 n.1.1 _ (by omega)) λE C=>Y.l ?_;grind
 ·have k:List.length v.1<=20000000:=k;exact Nat.le_trans (Nat.le_of_eq (xZ v.1)) (Nat.le_trans k (by decide))
theorem GI{s:ByteArray}(h:fb s=true):s.size<=8:=by unfold fb at h;simp only[Bool.and_eq_true]at h;have :=h.2;simp only[Di,km,Bool.and_eq_true,decide_eq_true_eq]at this;omega
theorem Hf{x:ek}(h:bk x=true):∀a∈x.2.1,a.1.size<=8:=by unfold bk sM at h;simp only[Bool.and_eq_true]at h;intro a b;obtain⟨i,c,rfl⟩:=List.getElem_of_mem b;have :=xJ h.2.1 i c;rw[Nat.zero_add]at this;unfold D0 rv at this;simp only[Bool.and_eq_true]at this;exact GI this.1.1
theorem Ie(L:ek)(l:(Ty.sl cf).Ok L.2.1):Y (MN (L,())) (λy=>y.1.1.size<=32):=by unfold MN;refine Y.eq (mw L l) ?_;cases d:bk L with|false=>exact Y.mk (Nat.zero_le _)|true=>obtain⟨r,k,_⟩:=n5 d;have m:=Hf d;refine Y.ff rfl (Y.DZ (P:=λv=>List.length v.1<=12/\∀s∈v.1,s.1.size<=100000000) (R:=λ_=>False) (Y.loop (I:=λv=>0<=v.2.1/\(List.length v.1:Int)<=v.2.1/\v.2.1<=(List.length L.2.1:Int)/\∀s∈v.1,s.1.size<=100000000) (λv=>((List.length L.2.1:Int)-v.2.1).toNat) (λv b=>?_) _ ⟨Int.le_refl _,Int.le_refl _,Int.natCast_nonneg _,λs q=>by cases q⟩) (λv b=>Y.bind (Ub v.1 (by omega) b.2) λ_ h=>Y.mk h) (λ_ h=>h.elim));obtain ⟨o,i,u⟩:=v;obtain ⟨c,n,p,j⟩:=b;dsimp only at c n p j;unfold MN.b0;refine Y.DY (λa=>?_) (λ_=>Y.rl ⟨by grind,j⟩);have a:i<(List.length L.2.1:Int):=Cp.1 a;have e:cM .i64 i 1=i+1:=ed (by omega) (by omega);refine Y.gT c a λx f=>Y.bind (WQ x (Nat.le_trans (m x f) (by decide)) (Nat.le_trans (k x f).1 (by decide))) λg t=>Y.dE (by grind) (by decide) (by decide) (Y.l ?_);show (0<=cM .i64 i 1/\(List.length (o++[g.1]):Int)<=cM .i64 i 1/\cM .i64 i 1<=(List.length L.2.1:Int)/\∀s∈o++[g.1],s.1.size<=100000000)/\((List.length L.2.1:Int)-cM .i64 i 1).toNat<((List.length L.2.1:Int)-i).toNat;grind
theorem KT{l:List an}(h:j8 l)(a:Int):(List.length (se l (dc l a))<=100001)/\∀x∈se l (dc l a),0<=x.1/\x.1<(List.length l:Int):=by refine⟨by unfold se;rw[List.length_map];grind[E0],λx c=>?_⟩;unfold se at c;obtain⟨b,e,rfl⟩:=List.mem_map.1 c;obtain⟨j,d,rfl⟩:=List.getElem_of_mem (mo h a b e);have :=Ng h d;omega
theorem PY(l:List an)(b:Int)(a:(Ty.sl lf).Ok l):Y (SD ((l,()),((b,()),()))) (λ_=>True):=by unfold SD;exact Y.eq (L4 l a) (Y.DY (λ_=>Y.DY (λ_=>Y.mk trivial) (λ_=>Y.eq (w4 l b a.1) (Y.mk trivial))) (λ_=>Y.mk trivial))
theorem PZ(l:List an)(a:Int)(j:(Ty.sl lf).Ok l)(h:j8 l):Y (MK ((l,()),((a,()),()))) (λ_=>True):=by unfold MK;obtain⟨k,c⟩:=KT h a;refine Y.eq (G7 l a j h) ?_;generalize se l (dc l a)=f at k c;refine Y.DZ (P:=λ_=>True) (R:=λ_=>True) (Y.loop (I:=λv=>0<=v.1) (λv=>((List.length f:Int)-v.1).toNat) (λv d=>?_) _ (Int.le_refl _)) (λv _=>Y.mk trivial) (λ_ _=>Y.mk trivial);obtain⟨i,u⟩:=v;have d:0<=i:=d;unfold MK.b0;refine Y.DY (λb=>?_) (λ_=>Y.rl trivial);have b:i<(List.length f:Int):=Cp.1 b;have e:cM .i64 i 1=i+1:=ed (by omega) (by omega);refine Y.Eb d b λx g=>Y.gT (c x g).1 (c x g).2 λ_ _=>Y.DY (λ_=>Y.rr trivial) (λ_=>Y.l ?_);grind
theorem WS{l:List an}(a:(Ty.sl lf).Ok l){b:an}(c:b∈l):(Ty.sl iv).Ok (po b):=(Ae a.2 c).2.2.2.2.2.2.2.2.2.2.1
theorem am0(L:ek)(l:List an)(a:Int)(s:(Ty.sl cf).Ok L.2.1)(p:ct L.2.1)(k:(Ty.sl lf).Ok l)(h:j8 l):Y (ML (L,((l,()),((a,()),())))) (λy=>(Ty.sl cf).Ok y.1.2.1/\ct y.1.2.1):=by
 unfold ML;obtain⟨w,g⟩:=KT h a;refine Y.eq (kb L p) (Y.eq (G7 l a k h) ?_);generalize se l (dc l a)=m at w g;refine Y.DZ (P:=λv=>(Ty.sl cf).Ok v.2.2.1/\ct v.2.2.1) (R:=λ_=>False) (Y.loop (I:=λv=>0<=v.1/\(Ty.sl cf).Ok v.2.2.1/\ct v.2.2.1) (λv=>((List.length m:Int)-v.1).toNat) (λv j=>?_) _ ⟨Int.le_refl _,s,p⟩) (λv j=>Y.mk j) (λ_ h=>h.elim);obtain ⟨i,q,r,u⟩:=v;obtain ⟨n,d,f⟩:=j;dsimp only at n d f;unfold ML.b0;refine Y.DY (λc=>?_) (λ_=>Y.rl ⟨d,f⟩);have c:i<(List.length m:Int):=Cp.1 c;have e:cM .i64 i 1=i+1:=ed (by omega) (by omega);refine Y.Eb n c λx o=>Y.gT (g x o).1 (g x o).2 λb A=>?_;obtain ⟨t,z,a3⟩:=EA (q,(r,())) (po b) d f (WS k A);refine Y.eq t (Y.l ⟨⟨?_,z,a3⟩,?_⟩);·grind
 grind
theorem Ue(L:ek)(l:List an)(b:an)(j:(Ty.sl cf).Ok L.2.1)(f:ct L.2.1)(a:(Ty.sl lf).Ok l)(h:j8 l)(d:lf.Ok b):Y (QM (L,((l,()),(b,())))) (λ_=>True):=by unfold QM;refine Y.bind (PY l _ a) λp _=>Y.DY (λ_=>Y.mk trivial) (λ_=>Y.bind (PZ l _ a h) λo _=>Y.DY (λ_=>Y.DY (λ_=>Y.DY (λ_=>Y.DY (λ_=>Y.mk trivial) (λ_=>Y.mk trivial)) (λ_=>Y.mk trivial)) (λ_=>Y.mk trivial)) (λ_=>?_));refine Y.bind (am0 L l _ j f a h) λi c=>?_;obtain⟨n,m,a3⟩:=EA i.1 (po b) c.1 c.2 d.2.2.2.2.2.2.2.2.2.2.1;refine Y.eq n (Y.eq (G7 l _ a h) (Y.DY (λ_=>Y.mk trivial) (λ_=>Y.DY (λ_=>Y.mk trivial) (λ_=>Y.DY (λ_=>Y.DY (λ_=>Y.mk trivial) (λ_=>Y.mk trivial)) (λ_=>?_)))));obtain⟨k,e,g⟩:=G6 _ m a3;refine Y.eq k (Y.eq (L1 _ g.1 e) (Y.eq (PE _ _ d.2.2.2.2.2.2.2.2.2.2.2.2.1.1) (Y.DY (λ_=>Y.bind (Ie _ e) λ_ _=>Y.mk trivial) (λ_=>Y.mk trivial))))
theorem FZ:∀(N:Nat)(xs:List Int),xs.Nodup->(∀x∈xs,0<=x/\x<(N:Int))->xs.length<=N
 |0,xs,_,h=>by cases xs with|nil=>grind|cons x r=>have :=h x (List.mem_cons_self ..);omega
 |N+1,xs,a,h=>by have b:=FZ N (xs.erase (N:Int)) (a.erase _) (λx c=>by grind);grind
structure Sn(d:List D3):Prop where
 nd:(d.map (λx=>x.1)).Nodup
 rg:∀x∈d,0<=x.1/\x.1<=100000
theorem Sn.Rg{d:List D3}(h:Sn d):d.length<=100001:=by have :=FZ 100001 (d.map (λx=>x.1)) h.nd (λx b=>by obtain⟨y,a,rfl⟩:=List.mem_map.1 b;have :=h.rg y a;omega);grind
theorem Sn.ZC{d:List D3}(h:Sn d){c:Int}(m:0<=c/\c<=100000):Sn (w8 d c):=by unfold w8;cases f:Mc d c with|true=>exact h|false=>
 refine⟨?_,λx k=>?_⟩;·show ((d++[(c,())]).map (λx=>x.1)).Nodup;rw[List.map_append,List.nodup_append];refine⟨h.nd,by simp,λa j b g=>?_⟩;obtain⟨y,l,rfl⟩:=List.mem_map.1 j;simp only[List.map_cons,List.map_nil,List.mem_singleton]at g;subst g;intro e;unfold Mc at f;rw[List.any_eq_false]at f;grind[gA]
 · rcases List.mem_append.1 k with i|i;· exact h.rg x i
   grind
theorem Sn.am1:∀(a d:List D3),Sn d->(∀x∈a,0<=x.1/\x.1<=100000)->Sn (kn d a)|[],d,h,_=>h|x::r,d,h,b=>Sn.am1 r (w8 d x.1) (h.ZC (b x (List.mem_cons_self ..))) (λy c=>b y (List.mem_cons_of_mem _ c))
structure NV(E P:Nat)(n:ao):Prop where
 h:J5 n
 Hg:bk (ft n)=true
 ep:n.2.1=n.2.2.1
 le:n.2.1<=(E:Int)vo:(ec n).length<=1000
 go:(ei n).length<=1000
 dn:Sn (j9 n)pa:(bb n).length<=P
theorem NV.up{E P b a:Nat}{n:ao}(h:NV E P n)(d:E<=b)(c:P<=a):NV b a n:=⟨h.h,h.Hg,h.ep,by have :=h.le;omega,h.vo,h.go,h.dn,Nat.le_trans h.pa c⟩
structure JE(n m:ao):Prop where
 nm:m.1=n.1
 ca:(m.2.1=n.2.1/\fl m=fl n/\ar m=ar n)\/n.2.1<m.2.1
theorem JE.gj(n:ao):JE n n:=⟨rfl,by grind⟩
theorem O7(E P:Nat)(n:ao)(q:k0)(c:NV E P n)(s:GO q)(γ:E<900)(δ:P<800000):NV (E+1) (P+1) (l9 n q)/\JE n (l9 n q):=by have h:=c.h;have J:=c.Hg;unfold l9;cases Z:gA (dt (ag n) q) (-1) with|true=>exact⟨c.up (Nat.le_succ _) (Nat.le_succ _),JE.gj n⟩|false=>
 show NV (E+1) (P+1) (AI n (dt (ag n) q) q)/\JE n (AI n (dt (ag n) q) q);generalize dt (ag n) q=a;have k:=h.ok.kA;have v:∀b∈j7 (dc (ag n) a),(Ty.sl iv).Ok (po b):=λb m=>(show Fk b from Ae k.2 (mo h.t a b (By m))).Fm;have r:=G8 (j7 (dc (ag n) a)) (ft n) h.ok.base h.Ic v;have M:=HS (j7 (dc (ag n) a)) (ft n) h.ok.base h.Ic v J;have I:=JD (j7 (dc (ag n) a)) (ft n) h.ok.base h.Ic v;have Q:(Ty.sl e3).Ok (j9 n):=h.ok.2.2.2.2.2.2.2.2.2.2.2.2.2.2.2.2.2.1;have N:∀x∈fv (j7 (dc (ag n) a)),e3.Ok x:=λx f=>by obtain⟨b,m,rfl⟩:=List.mem_map.1 f;exact⟨(show Fk b from Ae k.2 (mo h.t a b (By m))).1,trivial⟩
 have u:Sn (kn (j9 n) (fv (j7 (dc (ag n) a)))):=Sn.am1 _ _ c.dn (λx f=>by obtain⟨b,m,rfl⟩:=List.mem_map.1 f;exact h.t.nn b (mo h.t a b (By m)));have j:=u.Rg;have C:(Ty.sl e3).Ok (kn (j9 n) (fv (j7 (dc (ag n) a)))):=Dk (Nat.le_trans j (by decide)) (Nn _ _ (λx f=>Ae Q.2 f) N);have t:(Bk (nr n) (md (ft n) (j7 (dc (ag n) a)))).Sublist (nr n):=List.filter_sublist;have z:(Ty.sl iv).Ok (Bk (nr n) (md (ft n) (j7 (dc (ag n) a)))):=Dk (Nat.le_trans t.length_le h.ok.kB.1) (λy e=>Ae h.ok.kB.2 (t.subset e));have l:=h.l;unfold AI;rw[IL];generalize β:md (ft n) (j7 (dc (ag n) a))=g at*;generalize α:kn (j9 n) (fv (j7 (dc (ag n) a)))=d at*;generalize D:Bk (nr n) g=V at*;have F:V.length<=(nr n).length:=t.length_le
 cases S:(dc (ag n) a).find? (λb=>hu b) with|none=>
 show NV (E+1) (P+1) (PN n d (Bk (nr n) g))/\JE n (PN n d (Bk (nr n) g));rw[D];refine⟨⟨⟨⟨h.ok.1,h.ok.2.1,h.ok.2.2.1,h.ok.2.2.2.1,h.ok.2.2.2.2.1,h.ok.2.2.2.2.2.1,h.ok.2.2.2.2.2.2.1,h.ok.2.2.2.2.2.2.2.1,h.ok.2.2.2.2.2.2.2.2.1,h.ok.2.2.2.2.2.2.2.2.2.1,h.ok.2.2.2.2.2.2.2.2.2.2.1,h.ok.2.2.2.2.2.2.2.2.2.2.2.1,h.ok.2.2.2.2.2.2.2.2.2.2.2.2.1,h.ok.2.2.2.2.2.2.2.2.2.2.2.2.2.1,h.ok.2.2.2.2.2.2.2.2.2.2.2.2.2.2.1,h.ok.2.2.2.2.2.2.2.2.2.2.2.2.2.2.2.1,h.ok.2.2.2.2.2.2.2.2.2.2.2.2.2.2.2.2.1,C,z,h.ok.2.2.2.2.2.2.2.2.2.2.2.2.2.2.2.2.2.2.2⟩,?_,h.t,Nat.le_trans j (by decide),h.p⟩,J,c.ep,?_,c.vo,c.go,u,Nat.le_trans c.pa (Nat.le_succ _)⟩,⟨rfl,.inl ⟨rfl,rfl,rfl⟩⟩⟩;·exact ⟨l.1,l.2.1,l.2.2.1,l.2.2.2.1,l.2.2.2.2.1,l.2.2.2.2.2.1,l.2.2.2.2.2.2.1,l.2.2.2.2.2.2.2.1,l.2.2.2.2.2.2.2.2.1,Nat.le_trans j (by decide),Nat.le_trans F l.2.2.2.2.2.2.2.2.2.2.1,l.2.2.2.2.2.2.2.2.2.2.2.1,l.2.2.2.2.2.2.2.2.2.2.2.2⟩
 ·have :=c.le;show n.2.1<=((E+1 :Nat):Int);omega|some b=>
 have A:b∈ag n:=mo h.t a b (List.mem_of_find?_eq_some S);have R:Fk b:=Ae k.2 A;obtain ⟨_,U,T⟩:=G6 g r.1 r.2;have Y:=c.le;have X:=c.ep;have I:g.1=n.2.2.1:=I;obtain ⟨ε,B⟩:=JC g r.1 r.2 M (by omega);have G:=Zz B;have w:=Jz h.t q.2.1;have H:=w.length_le;have O:(ag n).length<=400:=h.t.Rg;have W:Mz.Ok (Eo n q):=⟨h.ok.2.1,Dk (Nat.le_trans H k.1) (λy e=>Ae k.2 (w.subset e)),s.i1,s.i2,s.ok,trivial⟩;have K:=h.ok.2.2.2.2.2.2.2.2.2.2.2.2.2.2.2.2.2.2.2.1;have i:=c.pa;have o:(bb n++[Eo n q]).length<=P+1:=by grind
 have L:(Ty.sl Mz).Ok (bb n++[Eo n q]):=Dk (Nat.le_trans o (Nat.le_trans (show P+1<=800000 by omega) (by decide))) (λy e=>by
 rcases List.mem_append.1 e with e|e;·exact Ae K.2 e
 ·rw[List.mem_singleton.1 e];omega);show NV (E+1) (P+1) (TR n (j0 g) (p7 b) d (Bk (nr n) g) (bb n++[Eo n q]))/\JE n (TR n (j0 g) (p7 b) d (Bk (nr n) g) (bb n++[Eo n q]));rw[D];refine ⟨⟨⟨⟨h.ok.1,G,G,U,R.OO,CK,rfl,rfl,rfl,rfl,CK,rfl,CK,CK,rfl,CK,CK,C,z,L,trivial⟩,?_,KP rfl,Nat.le_trans j (by decide),Nat.le_trans o (show P+1<=800000 by omega)⟩,B,rfl,?_,Nat.zero_le _,Nat.zero_le _,u,o⟩,⟨rfl,.inr ?_⟩⟩
 · refine ⟨T,(h.bl b A).2.2.2.2,Nat.zero_le _,(λx f=>by cases f),Nat.zero_le _,Nat.zero_le _,Nat.zero_le _,Nat.zero_le _,Nat.zero_le _,Nat.le_trans j (by decide),Nat.le_trans F l.2.2.2.2.2.2.2.2.2.2.1,Nat.le_trans o (Nat.le_trans (show P+1<=800000 by omega) (by decide)),λp i=>?_⟩;rcases List.mem_append.1 i with i|i;· exact l.2.2.2.2.2.2.2.2.2.2.2.2 p i
   · rw[List.mem_singleton.1 i];exact ⟨Nat.le_trans H (Nat.le_trans O (by decide)),λy e=>h.bl y (w.subset e),s.w⟩
 · show (j0 g).1<=((E+1 :Nat):Int);omega
 · show n.2.1<(j0 g).1;omega
theorem JE.trans{a b c:ao}(h:JE a b)(k:JE b c):JE a c:=by
 refine⟨k.nm.trans h.nm,?_⟩;rcases h.ca with⟨e,i,f⟩|e
 · rcases k.ca with⟨d,j,g⟩|d;· grind
   omega
 · rcases k.ca with⟨d,_,_⟩|d;· omega
   omega
theorem HT(E P:Nat)(n:ao)(q:k0)(a:NV E P n)(c:GO q)(e:E<900)(g:P<800000):NV (E+1) (P+1) (ea n q)/\JE n (ea n q):=by have h:NV E P (oj n q):=⟨Jv a.h c,a.Hg,a.ep,a.le,a.vo,a.go,a.dn,a.pa⟩;obtain⟨f,d⟩:=O7 E P (oj n q) q h c e g;exact⟨f,JE.trans (b:=oj n q) ⟨rfl,.inl ⟨rfl,rfl,rfl⟩⟩ d⟩
theorem Uf(E P:Nat)(n:ao)(t:vc)(a:NV E P n)(c:PO t):NV E P (Me n t)/\JE n (Me n t):=by have h:=a.h;have l:=h.l;have b:=Zx (h.ok.Sm h.l) c;refine⟨⟨⟨TV h.ok (TZ h.round) b,?_,h.t,h.d,h.p⟩,a.Hg,a.ep,a.le,a.vo,a.go,a.dn,a.pa⟩,⟨rfl,.inl ⟨rfl,rfl,rfl⟩⟩⟩;exact ⟨l.1,l.2.1,l.2.2.1,l.2.2.2.1,l.2.2.2.2.1,b.w,b.wh,l.2.2.2.2.2.2.2.1,l.2.2.2.2.2.2.2.2.1,l.2.2.2.2.2.2.2.2.2.1,l.2.2.2.2.2.2.2.2.2.2.1,l.2.2.2.2.2.2.2.2.2.2.2.1,l.2.2.2.2.2.2.2.2.2.2.2.2⟩
theorem JF{E P:Nat}{n:ao}(a:NV E P n){t:List an}(b:j8 t)(e:(Ty.sl lf).Ok t)(f:∀c∈t,e8 c):NV E P (ma n t):=by have h:=a.h;have l:=h.l;have d:=b.Rg;refine⟨⟨O3 h.ok e,?_,b,h.d,h.p⟩,a.Hg,a.ep,a.le,a.vo,a.go,a.dn,a.pa⟩;exact⟨l.1,l.2.1,Nat.le_trans d (by decide),f,l.2.2.2.2.1,l.2.2.2.2.2.1,l.2.2.2.2.2.2.1,l.2.2.2.2.2.2.2.1,l.2.2.2.2.2.2.2.2.1,l.2.2.2.2.2.2.2.2.2.1,l.2.2.2.2.2.2.2.2.2.2.1,l.2.2.2.2.2.2.2.2.2.2.2.1,l.2.2.2.2.2.2.2.2.2.2.2.2⟩
theorem Fk.EO{b:an}(h:lf.Ok b)(l:e8 b):GO (i0 b):=⟨h.2.2.2.2.1,h.2.2.2.2.2.1,h.2.2.2.2.2.2.1,l.1⟩
theorem Fk.Sm{b:an}(h:lf.Ok b)(l:e8 b):PO (re b):=⟨h.2.2.2.2.2.2.2.1,h.2.2.2.2.2.2.2.2.1,h.2.2.2.2.2.2.2.2.2.1,l.2.1,l.2.2.1⟩
theorem NV.yN{E P a:Nat}{n:ao}(h:NV E P n)(b:n.2.1<=(a:Int)):NV a P n:=⟨h.h,h.Hg,h.ep,b,h.vo,h.go,h.dn,h.pa⟩
theorem Ug{E P:Nat}{n:ao}(a:NV E P n){b:List u6}(d:(Ty.sl H5).Ok b)(c:b.length<=1000):NV E P (EB n b):=by have h:=a.h;have l:=h.l;refine⟨⟨TY h.ok d,?_,h.t,h.d,h.p⟩,a.Hg,a.ep,a.le,c,a.go,a.dn,a.pa⟩;exact⟨l.1,l.2.1,l.2.2.1,l.2.2.2.1,l.2.2.2.2.1,l.2.2.2.2.2.1,l.2.2.2.2.2.2.1,Nat.le_trans c (by decide),l.2.2.2.2.2.2.2.2.1,l.2.2.2.2.2.2.2.2.2.1,l.2.2.2.2.2.2.2.2.2.2.1,l.2.2.2.2.2.2.2.2.2.2.2.1,l.2.2.2.2.2.2.2.2.2.2.2.2⟩
def rf(l:List e6)(r:Int):ByteArray:=bif gA (l.length:Int) 0 then⟨#[]⟩else bif dO r 0 then⟨#[]⟩else match l[(ph r (l.length:Int)).toNat]? with|some v=>v.1|none=>⟨#[]⟩
theorem tR(l:List e6)(r:Int):Lv ((l,()),((r,()),()))=some ((rf l r,()),()):=by unfold Lv rf;cases c:gA (l.length:Int) 0 with|true=>grind|false=>refine uN rfl ?_;cases b:dO r 0 with|true=>grind|false=>refine uN rfl ?_;have d:(List.length l:Int)≠0:=CN.1 c;have a:0<=r:=Au.1 b;have e:=Co (x:=r) (n:=(List.length l:Int)) a (by omega);simp_all[uN,e6,bK,ph,bw,cB]
def KU(t:vc):Int:=List.foldl (λ(n:Int)(x:D3)=>bif dO n x.1 then x.1 else n) 0 t.2.2.1
theorem Uh(t:vc)(c:Al (List.length t.2.2.1)):HJ (t,())=some (I1 (KU t)):=by have b:=AJ (S:=Int×(Int×Unit)) t.2.2.1 (λ(n:Int)(x:D3)=>bif dO n x.1 then x.1 else n) (f:=HJ.b0 (t,())) (λs k=>(s,(k,()))) (λs=>Sum.inl (s,((List.length t.2.2.1:Int),()))) 0 (λk a s=>by unfold HJ.b0;refine uL (Int.ofNat_lt.2 a) (bw (cB a) ?_);rw[<-wG a c];cases h:dO s (t.2.2.1)[k].1 with|true=>exact cl rfl (bw (cB a) rfl)|false=>grind) (λs=>by unfold HJ.b0;exact uM (Int.le_refl _) rfl);unfold HJ;exact bw b rfl
def oi(b:an):Bool:=(gA (i0 b).1 (gS .i64 b.2.2.1 1)&&sU (re b))||(gA (re b).1 (gS .i64 b.2.2.1 1)&&(dO 0 (re b).1&&km (KU (re b)) (i0 b).1))
theorem GJ(b:an)(f:e8 b):MO (b,())=some (B1 (oi b)):=by have e:Al (List.length (re b).2.2.1):=f.2.2.1.l;have c:(bif gA (re b).1 (gS .i64 b.2.2.1 1)then bif dO 0 (re b).1 then (HJ (re b,())).bind (λy=>some (B1 (km y.1.1 (i0 b).1)))else some (B1 false)else some (B1 false))=some (B1 (gA (re b).1 (gS .i64 b.2.2.1 1)&&(dO 0 (re b).1&&km (KU (re b)) (i0 b).1))):=Dy (Dy (bw (Uh _ e) rfl));unfold MO oi;cases a:gA (i0 b).1 (gS .i64 b.2.2.1 1) with|false=>exact Eq.trans (bw (uN a rfl) c) rfl|true=>cases d:sU (re b) with|false=>exact Eq.trans (bw (cl a (bw (Fy (re b)) (uN d rfl))) c) rfl|true=>exact bw (cl a (bw (Fy (re b)) (cl d rfl))) rfl
noncomputable def JG(L:ek)(l:List an)(b:an):Bool:=((QM (L,((l,()),(b,())))).map (λy=>y.1.1)).getD false
theorem P0(L:ek)(l:List an)(b:an)(f:(Ty.sl cf).Ok L.2.1)(c:ct L.2.1)(a:(Ty.sl lf).Ok l)(h:j8 l)(d:lf.Ok b):QM (L,((l,()),(b,())))=some (B1 (JG L l b)):=by obtain⟨y,e,_⟩:=Ue L l b f c a h d;unfold JG;grind
def qm(l:List an)(b:an):List an:=l.filter (λc=>dO c.1 b.1)++b::l.filter (λc=>!dO c.1 b.1)
def KV(l:List an)(b:an):Bool:=dO (n8 l b.1) 0&&A6 (qm l b)
theorem B2{l:List an}{b c:an}:c∈qm l b↔c∈l\/c=b:=by unfold qm;grind
theorem Np(l:List an)(b:an):(qm l b).length=l.length+1:=by
 unfold qm;have :∀l:List an,(l.filter (λc=>dO c.1 b.1)).length+(l.filter (λc=>!dO c.1 b.1)).length=l.length:=by intro l;induction l with|nil=>rfl|cons c r a=>grind
 grind
theorem JH{p s:List an}{b:an}(d:∀c∈p,c.1<b.1)(e:∀c∈s,b.1<c.1):qm (p++s) b=p++b::s:=by
 unfold qm;have f:(p++s).filter (λc=>dO c.1 b.1)=p:=by rw[List.filter_append,List.filter_eq_self.2 (λc a=>Cp.2 (d c a)),List.filter_eq_nil_iff.2 (λc a=>by rw[Au.2 (Int.le_of_lt (e c a))];simp),List.append_nil]
 have g:(p++s).filter (λc=>!dO c.1 b.1)=s:=by rw[List.filter_append,List.filter_eq_nil_iff.2 (λc a=>by grind),List.nil_append,List.filter_eq_self.2 (λc a=>by grind)]
 grind
theorem P1(l:List an)(b:an)(o:(Ty.sl lf).Ok l)(h:j8 l)(N:∀c∈l,e8 c)(ε:lf.Ok b)(C:e8 b):Gv ((l,()),(b,()))=some ((bif KV l b then qm l b else l,()),((KV l b,()),())):=by
 have w:=h.Rg;have D:W1 l.length:=by omega
 have K:=An l D N;unfold Gv KV;refine bw (w4 l b.1 o.1) ?_;rcases nv h b.1 with⟨_,q,F⟩|⟨c,f,β,_,u,_⟩
 · have A:dO (n8 l b.1) 0=true:=by rw[q];rfl
   refine uN (by show km 0 (n8 l b.1)=false;rw[q];rfl) (bw K (bw (HM b C) (Cm (by grind) (by decide) (by decide) ?_)));have J:∀(p s:List an),l=p++s->(∀c∈s,b.1<c.1)->∃k,aR (Gv.b0 ((l,()),(b,()))) ((p.length:Int),(p++b::s,()))=some (Sum.inl (k,(qm l b,()))):=by intro p;induction S:p.length generalizing p with|zero=>intro s e m;have :p=[]:=List.length_eq_zero_iff.1 S;subst this;refine⟨0,cS ?_⟩;unfold Gv.b0;refine uN rfl ?_;rw[e,JH (p:=[]) (λc f=>by cases f) m];rfl|succ n θ=>
    intro s e m;rcases List.eq_nil_or_concat p with rfl|⟨a,z,rfl⟩;· grind
    · have j:a.length=n:=by grind
      have O:z∈l:=by grind
      have Y:z.1≠b.1:=F z O;have t:gS .i64 ((n+1:Nat):Int) 1=(n:Int):=by
       have :n+1<=l.length:=by grind
       grind[gS,iz]
      have d:∀(x:an) (r:List an),bK (a++x::r) (n:Int)=some x/\aC (a++x::r) (Int.toNat (n:Int))=some x:=λx r=>by simp_all[an,bK,aC,D6,D7]
      have g:∀(x y:an) (r:List an),bK (a++x::y::r) ((n+1:Nat):Int)=some y/\aC (a++x::y::r) (Int.toNat ((n+1:Nat):Int))=some y:=λx y r=>by
       have :(a++x::y::r)[n+1]?=some y:=by rw[<-j];simp
       exact⟨D6 this,D7 (by omega)⟩
      have α:a++[z]++b::s=a++z::b::s:=by simp
      have E:a.concat z++b::s=a++z::b::s:=by simp
      rw[E];by_cases G:b.1<z.1
      · have H:Gv.b0 ((l,()),(b,())) (((n+1:Nat):Int),(a++z::b::s,()))=some (.inl ((n:Int),(a++b::z::s,()))):=by
         unfold Gv.b0;refine cl (show dO 0 ((n+1:Nat):Int)=true from Cp.2 (by omega)) ?_;dsimp only;rw[t];refine bw (d z _).1 (bw (d z _).2 (cl (show dO b.1 z.1=true from Cp.2 G) ?_));refine bw (d z _).1 (bw (d z _).2 (bw (g z b _).1 (bw (g z b _).2 (bw (d z _).1 (bw (d z _).2 (bw rfl ?_))))));have L:List.set (a++z::b::s) (Int.toNat (n:Int)) b=a++b::b::s:=by rw[Int.toNat_natCast,<-j];simp
         rw[L];refine bw (g b b _).1 (bw (g b b _).2 (bw rfl ?_));have M:List.set (a++b::b::s) (Int.toNat ((n+1:Nat):Int)) z=a++b::z::s:=by rw[Int.toNat_natCast,<-j];simp
         rw[M]
        rw[de H];grind
      · refine⟨((n+1:Nat):Int),cS ?_⟩;unfold Gv.b0;refine cl (show dO 0 ((n+1:Nat):Int)=true from Cp.2 (by omega)) ?_;dsimp only;rw[t];refine bw (d z _).1 (bw (d z _).2 (uN (show dO b.1 z.1=false from Au.2 (by omega)) ?_));have V:qm l b=a++z::b::s:=by
         rw[e,show a.concat z++s=(a++[z])++s by simp,JH (λc f=>?_) m];· simp
         · have Z:c∈a.concat z:=by grind
           obtain⟨i,δ,rfl⟩:=List.getElem_of_mem f;have X:i<n+1:=by grind
           have R:l=(a++[z])++s:=by grind
           have U:(a++[z]).length=n+1:=by grind
           have B:i<l.length:=by grind
           have I:n<l.length:=by grind
           have gi:l[i]=(a++[z])[i]:=by grind
           have γ:l[n]=z:=by
            have :l[n]?=some z:=by rw[R,<-j];simp
            grind
           rcases Nat.lt_or_ge i n with v|v;· have :=h.Zs i n B I v;grind
           grind
        grind
   obtain⟨k,Q⟩:=J l [] (by simp) (λc f=>by cases f);have T:gS .i64 ((List.length (bV l [b]):Nat):Int) 1=(l.length:Int):=by show gS .i64 ((List.length (l++[b]):Nat):Int) 1=_;rw [List.length_append,iz]<;>simp<;>omega
   refine bw (y:=.inl (k,(qm l b,()))) ?_ ?_;· show aR (Gv.b0 ((l,()),(b,()))) (gS .i64 ((List.length (bV l [b]):Nat):Int) 1,(bV l [b],()))=_;rw [T];exact Q
   · have P:(Ty.sl lf).Ok (qm l b):=Dk (Nat.le_trans (Nat.le_of_eq (Np l b)) (Nat.le_trans (Nat.succ_le_succ w) (by decide))) (λc f=>by
 rcases B2.1 f with h|h;· exact Ae o.2 h
 grind);refine bw (L4 _ P) ?_;grind
 · have W:km 0 (n8 l b.1)=true:=HQ u;have A:dO (n8 l b.1) 0=false:=dD u;grind
theorem Gi{l:List an}{q:k0}(h:dt l q≠-1):∃b∈l,b.1=q.2.1/\b.2.2.1=q.1/\∃p∈l,p.1=(i0 b).2.1/\p.2.2.1=gS .i64 q.1 1/\p.1=dt l q:=by unfold dt at h⊢;cases c:l.find? (λb=>gA b.1 q.2.1)with|none=>grind|some b=>rw[c]at h;have i:=List.mem_of_find?_eq_some c;have d:=List.find?_some c;simp only[gA,decide_eq_true_eq]at d;dsimp only at h⊢;cases e:gA b.2.2.1 q.1 with|false=>grind|true=>rw[e]at h;have g:=Cr.1 e;cases a:l.find? (λz=>gA z.1 (i0 b).2.1)with|none=>grind|some p=>rw[a]at h;have j:=List.mem_of_find?_eq_some a;have f:=List.find?_some a;simp only[gA,decide_eq_true_eq]at f;dsimp only at h⊢;cases k:gA p.2.2.1 (gS .i64 q.1 1)with|false=>grind|true=>exact⟨b,i,d,g,p,j,f,Cr.1 k,rfl⟩
theorem Ig:∀a:List an,((∀b∈a,hu b=false)/\j7 a=a/\a.find? (λb=>hu b)=none)\/∃p b r,a=p++b::r/\hu b=true/\(∀c∈p,hu c=false)/\j7 a=p++[b]/\a.find? (λb=>hu b)=some b|[]=>.inl ⟨λb g=>(by cases g),rfl,rfl⟩|b::r=>by cases h:hu b with|true=>exact .inr ⟨[],b,r,rfl,h,λc d=>(by cases d),(by unfold j7;grind),(by grind)⟩|false=>
 have j:(b::r).find? (λb=>hu b)=r.find? (λb=>hu b):=List.find?_cons_of_neg (by simp[h]);have d:j7 (b::r)=b::j7 r:=by rw[j7,h];rfl
 rcases Ig r with ⟨i,f,e⟩|⟨p,c,s,i,f,e,l,k⟩;·grind
 grind
theorem AL(E P:Nat)(n:ao)(q:k0)(a:NV E P n)(v:E<900):(dt (ag n) q=-1/\l9 n q=n)\/(dt (ag n) q≠-1/\(((∀b∈dc (ag n) (dt (ag n) q),hu b=false)/\l9 n q=PN n (kn (j9 n) (fv (dc (ag n) (dt (ag n) q)))) (Bk (nr n) (md (ft n) (dc (ag n) (dt (ag n) q)))))\/∃p b r,dc (ag n) (dt (ag n) q)=p++b::r/\hu b=true/\(∀c∈p,hu c=false)/\b∈ag n/\l9 n q=Kv n q (md (ft n) (p++[b])) (kn (j9 n) (fv (p++[b]))) b/\(j0 (md (ft n) (p++[b]))).1=n.2.1+1)):=by have h:=a.h;cases g:gA (dt (ag n) q) (-1) with|true=>exact .inl ⟨Cr.1 g,by unfold l9;grind⟩|false=>
 refine .inr ⟨CN.1 g,?_⟩;have e:l9 n q=AI n (dt (ag n) q) q:=by unfold l9;grind
 rw[e];generalize dt (ag n) q=f;have s:=h.ok.kA;unfold AI;rw[IL];rcases Ig (dc (ag n) f) with ⟨k,l,j⟩|⟨p,b,r,k,l,j,w,y⟩;·grind
 ·refine .inr ⟨p,b,r,k,l,j,mo h.t f b (by grind),by grind,?_⟩;have d:∀c∈p++[b],(Ty.sl iv).Ok (po c):=λc x=>(show Fk c from Ae s.2 (mo h.t f c (By (by grind)))).Fm;have m:=G8 (p++[b]) (ft n) h.ok.base h.Ic d;have o:=HS (p++[b]) (ft n) h.ok.base h.Ic d a.Hg;have i:=JD (p++[b]) (ft n) h.ok.base h.Ic d;have u:=a.le;have t:=a.ep;have i:(md (ft n) (p++[b])).1=n.2.2.1:=i;have :=(JC _ m.1 m.2 o (by omega)).1;omega
structure NW(n:ao):Prop where
 v:NV n.2.1.toNat n.2.1.toNat n
 e0:0<=n.2.1
 pa:((bb n).length:Int)=n.2.1
theorem NW.So{E P:Nat}{n:ao}(v:NV E P n)(b:0<=n.2.1)(a:((bb n).length:Int)=n.2.1):NW n:=⟨⟨v.h,v.Hg,v.ep,by omega,v.vo,v.go,v.dn,by omega⟩,b,a⟩
structure lh(n m:ao):Prop where
 a:JE n m
 le:n.2.1<=m.2.1
 up:m.2.1<=n.2.1+1
theorem lh.gj(n:ao):lh n n:=⟨JE.gj n,Int.le_refl _,by omega⟩
theorem lh.trans{a b c:ao}(h:lh a b)(k:lh b c)(d:b.2.1=a.2.1):lh a c:=⟨h.a.trans k.a,by have :=k.le;omega,by have :=k.up;omega⟩
theorem lh.Mk{a b c:ao}(h:lh a b)(k:lh b c)(d:c.2.1=b.2.1):lh a c:=⟨h.a.trans k.a,by have :=h.le;omega,by have :=h.up;omega⟩
theorem O8(E P:Nat)(n:ao)(q:k0)(c:NV E P n)(a:E<900):((bb (l9 n q)).length:Int)-(l9 n q).2.1=((bb n).length:Int)-n.2.1:=by
 rcases AL E P n q c a with⟨_,e⟩|⟨_,⟨_,e⟩|⟨p,b,r,_,_,_,_,e,m⟩⟩;·rw[e]
 ·rw[e];rfl
 ·rw[e];show ((bb n++[Eo n q]).length:Int)-(j0 (md (ft n) (p++[b]))).1=_;grind
theorem Hh{E P:Nat}{n:ao}{q:k0}(a:NV E P n)(b:GO q):NV E P (oj n q):=⟨Jv a.h b,a.Hg,a.ep,a.le,a.vo,a.go,a.dn,a.pa⟩
theorem B3{n:ao}{q:k0}(a:NW n)(d:GO q)(i:n.2.1<890):NW (ea n q)/\lh n (ea n q):=by
 have j:=a.e0;have b:n.2.1.toNat<900:=by omega
 obtain⟨f,c⟩:=HT n.2.1.toNat n.2.1.toNat n q a.v d b (by omega);have h:((bb (ea n q)).length:Int)-(ea n q).2.1=((bb n).length:Int)-n.2.1:=O8 n.2.1.toNat n.2.1.toNat (oj n q) q (Hh a.v d) b;have l:=f.le;have k:=a.pa;have g:n.2.1<=(ea n q).2.1:=by rcases c.ca with⟨e,_⟩|e<;>omega
 exact⟨NW.So f (by omega) (by omega),c,g,by omega⟩
theorem Ui{n:ao}{t:vc}(a:NW n)(d:PO t):NW (Me n t)/\lh n (Me n t)/\(Me n t).2.1=n.2.1:=by obtain⟨c,b⟩:=Uf _ _ n t a.v d;exact⟨NW.So c a.e0 a.pa,⟨b,Int.le_refl _,(by show n.2.1<=n.2.1+1;omega)⟩,rfl⟩
noncomputable def s7(n:ao)(b:an):Bool:=gq b&&(gA b.2.1 n.2.1&&(ko b.2.2.2.1 (rf (ar n) b.2.2.1)&&(C5 (ar n) (i0 b)&&(Gd (ar n) (re b)&&(oi b&&(JG (ft n) (ag n) b&&KV (ag n) b))))))
noncomputable def qu(n:ao)(b:an):ao:=ea (ma n (qm (ag n) b)) (i0 b)
noncomputable def kr(n:ao)(b:an):ao:=bif gA (qu n b).2.1 n.2.1 then Me (qu n b) (re b)else qu n b
noncomputable def B4(n:ao)(b:an):ao:=bif gA (kr n b).2.1 n.2.1&&gA (bx (kr n b)).2.1 b.1 then ea (kr n b) (bx (kr n b))else kr n b
noncomputable def cv(n:ao)(b:an):ao:=bif s7 n b then B4 n b else n
theorem WU{l:List an}{b:an}(e:(Ty.sl lf).Ok l)(a:l.length<=400)(f:lf.Ok b):(Ty.sl lf).Ok (qm l b):=Dk (Nat.le_trans (Nat.le_of_eq (Np l b)) (Nat.le_trans (Nat.succ_le_succ a) (by decide))) (λc d=>by
 rcases B2.1 d with h|h;·exact Ae e.2 h
 grind)
structure am3(n:ao)(b:an):Prop where
 kp:gq b=true
 ep:b.2.1=n.2.1
 by':ko b.2.2.2.1 (rf (ar n) b.2.2.1)=true
 qc:C5 (ar n) (i0 b)=true
 tc:Gd (ar n) (re b)=true
 fo:oi b=true
 bo:JG (ft n) (ag n) b=true
 new:∀c∈ag n,c.1≠b.1
 tr:A6 (qm (ag n) b)=true
theorem P2{n:ao}{b:an}(f:j8 (ag n))(h:s7 n b=true):am3 n b:=by unfold s7 at h;simp only[Bool.and_eq_true]at h;obtain⟨m,g,d,o,l,k,j,a⟩:=h;unfold KV at a;simp only[Bool.and_eq_true]at a;refine⟨m,Cr.1 g,d,o,l,k,j,λc i e=>?_,a.2⟩;have :=(EZ f i).2;grind
theorem FE{n:ao}{b:an}(a:NW n)(f:lf.Ok b)(g:e8 b)(j:n.2.1<890)(k:s7 n b=true):NW (ma n (qm (ag n) b))/\NW (qu n b)/\lh n (qu n b):=by
 have l:=P2 a.v.h.t k;have o:NV n.2.1.toNat n.2.1.toNat (ma n (qm (ag n) b)):=JF a.v (KP l.tr) (WU a.v.h.ok.kA a.v.h.t.Rg f) (λc m=>by
 rcases B2.1 m with h|h;·exact a.v.h.bl c h
 grind);have e:NW (ma n (qm (ag n) b)):=NW.So o a.e0 a.pa;obtain⟨i,d⟩:=B3 e (Fk.EO f g) j;exact⟨e,i,⟨(show JE n (ma n (qm (ag n) b)) from⟨rfl,.inl ⟨rfl,rfl,rfl⟩⟩).trans d.a,d.le,d.up⟩⟩
theorem FF{n:ao}{b:an}(j:NW n)(c:lf.Ok b)(a:e8 b)(e:n.2.1<890)(g:s7 n b=true):NW (kr n b)/\lh n (kr n b):=by obtain⟨_,d,k⟩:=FE j c a e g;unfold kr;cases gA (qu n b).2.1 n.2.1 with|false=>grind|true=>obtain⟨i,h,f⟩:=Ui d (Fk.Sm c a);exact⟨i,k.Mk h f⟩
theorem Uj{n:ao}{b:an}(k:NW n)(h:lf.Ok b)(d:e8 b)(e:n.2.1<890)(f:s7 n b=true):NW (B4 n b)/\lh n (B4 n b):=by obtain⟨a,l⟩:=FF k h d e f;unfold B4;cases c:(gA (kr n b).2.1 n.2.1&&gA (bx (kr n b)).2.1 b.1)with|false=>grind|true=>simp only[Bool.and_eq_true]at c;have j:=Cr.1 c.1;obtain⟨i,g⟩:=B3 a (a.v.h.ok.EO a.v.h.l) (by omega);exact⟨i,l.trans g j⟩
theorem py{n:ao}{b:an}(a:NW n)(f:lf.Ok b)(c:e8 b)(d:n.2.1<890):NW (cv n b)/\lh n (cv n b):=by unfold cv;cases e:s7 n b with|false=>exact⟨a,lh.gj n⟩|true=>grind[Uj]
theorem Uk(n:ao)(b:an)(j:NW n)(c:lf.Ok b)(d:e8 b)(m:n.2.1<890):Km (n,(b,()))=some ((s7 n b,()),(cv n b,())):=by
 have h:=j.v.h;have f:=h.ok.set;have g:=Fk.EO c d;have k:=Fk.Sm c d;have B:s7 n b=true->Km (n,(b,()))=some ((true,()),(B4 n b,())):=λa=>by
  have e:=P2 h.t a;obtain⟨r,D,F⟩:=FE j c d m a;obtain⟨i,E⟩:=FF j c d m a;unfold Km;refine bw (Jc b c) (uN (by rw[e.kp];rfl) (uN (by rw[e.ep,nV];rfl) (bw (tR (ar n) _) (uN (by show (!ko b.2.2.2.1 (rf (ar n) b.2.2.1))=false;rw[e.by'];rfl) ?_))));refine bw (ON (ar n) (i0 b) f.1 g.ok) (uN (by show (!C5 (ar n) (i0 b))=false;rw[e.qc];rfl) (bw (Q0 (ar n) (re b) f.1 k.tok) (uN (by show (!Gd (ar n) (re b))=false;rw[e.tc];rfl) ?_)));refine bw (GJ b d) (uN (by show (!oi b)=false;rw[e.fo];rfl) (bw (P0 (ft n) (ag n) b h.ok.base h.Ic h.ok.kA h.t c) (uN (by show (!JG (ft n) (ag n) b)=false;rw[e.bo];rfl) ?_)));have p:KV (ag n) b=true:=by unfold s7 at a;grind
  have l:=P1 (ag n) b h.ok.kA h.t h.bl c d;rw[p]at l;refine bw l (uN rfl (bw (E2 (ma n (qm (ag n) b)) (i0 b) r.v.h g) ?_));have t:∀(R:Type),((bif gA (qu n b).2.1 n.2.1 then (OH (qu n b,(re b,()))).bind λy=>some (Sum.inl y.1) else some (Sum.inl (qu n b))):Option (Sum ao R))=some (Sum.inl (kr n b)):=by intro R;unfold kr;cases gA (qu n b).2.1 n.2.1 with|false=>rfl|true=>exact bw (FW (qu n b) (re b) k) rfl
  have s:∀(R:Type),((bif gA (kr n b).2.1 n.2.1 then bif gA (bx (kr n b)).2.1 b.1 then (Kl (kr n b,(bx (kr n b),()))).bind λo=>some (Sum.inl o.1) else some (Sum.inl (kr n b)) else some (Sum.inl (kr n b))):Option (Sum ao R))=some (Sum.inl (B4 n b)):=by intro R;unfold B4;cases gA (kr n b).2.1 n.2.1 with|false=>rfl|true=>cases gA (bx (kr n b)).2.1 b.1 with|false=>rfl|true=>exact bw (E2 (kr n b) (bx (kr n b)) i.v.h (i.v.h.ok.EO i.v.h.l)) rfl
  exact bw (t _) (bw (s _) rfl)
 have C:s7 n b=false->Km (n,(b,()))=some ((false,()),(n,())):=λa=>by unfold s7 at a;unfold Km;refine bw (Jc b c) ?_;cases A:gq b with|false=>rfl|true=>rw[A,Bool.true_and]at a;refine uN rfl ?_;show (bif !gA b.2.1 n.2.1 then _ else _)=_;cases u:gA b.2.1 n.2.1 with|false=>rfl|true=>rw[u,Bool.true_and]at a;refine uN rfl (bw (tR (ar n) _) ?_);show (bif !ko b.2.2.2.1 (rf (ar n) b.2.2.1) then _ else _)=_;cases q:ko b.2.2.2.1 (rf (ar n) b.2.2.1) with|false=>rfl|true=>rw[q,Bool.true_and]at a;refine uN rfl (bw (ON (ar n) (i0 b) f.1 g.ok) ?_);show (bif !C5 (ar n) (i0 b) then _ else _)=_;cases x:C5 (ar n) (i0 b) with|false=>rfl|true=>rw[x,Bool.true_and]at a;refine uN rfl (bw (Q0 (ar n) (re b) f.1 k.tok) ?_);show (bif !Gd (ar n) (re b) then _ else _)=_;cases w:Gd (ar n) (re b) with|false=>rfl|true=>rw[w,Bool.true_and]at a;refine uN rfl (bw (GJ b d) ?_);show (bif !oi b then _ else _)=_;cases v:oi b with|false=>rfl|true=>rw[v,Bool.true_and]at a;refine uN rfl (bw (P0 (ft n) (ag n) b h.ok.base h.Ic h.ok.kA h.t c) ?_);show (bif !JG (ft n) (ag n) b then _ else _)=_;cases z:JG (ft n) (ag n) b with|false=>rfl|true=>rw[z,Bool.true_and]at a;have l:=P1 (ag n) b h.ok.kA h.t h.bl c d;grind
 unfold cv;grind
def Ml(x:u6)(r b:Int)(a:ByteArray):Bool:=gA x.1 r&&(gA x.2.1 b&&ko x.2.2.1 a)
def Ec(a:List u6)(r c:Int)(b:ByteArray):Bool:=a.any (λx=>Ml x r c b)
def JI(b:List e6)(a:List u6)(r c:Int):List D9:=(b.filter (λv=>Ec a r c v.1)).map (λv=>((v.1,()):D9))
def ED(c:List e6)(b:List u6)(r a:Int):k0:=(r,(a,(JI c b r a,())))
def tS(a:List e6)(b:List u6)(r c:Int):Bool:=C5 a (ED a b r c)&&!ks (ED a b r c)
theorem Rz(a:List e6)(b:List u6)(r c:Int):(JI a b r c).length<=a.length:=by unfold JI;grind
theorem EF(a:List e6)(d:List u6)(r c:Int)(h:(Ty.sl Fp).Ok a)(b:W1 a.length)(g:(Lit.int .i64 r).wf=true)(i:(Lit.int .i64 c).wf=true):GO (ED a d r c):=by have e:=Rz a d r c;unfold W1 at b;refine⟨g,i,Dk (Nat.le_trans e (Nat.le_trans b (by decide))) (λx f=>?_),Nat.le_trans e b⟩;unfold JI at f;obtain⟨v,j,rfl⟩:=List.mem_map.1 f;exact⟨(Ae h.2 (List.mem_filter.1 j).1).1,trivial⟩
theorem HU{A:Type}(p:A->Bool):∀(l:List A)(b:Bool),l.foldl (λs x=>s||p x) b=(b||l.any p)|[],b=>by simp|x::r,b=>by rw[List.foldl_cons,HU p r,List.any_cons,Bool.or_assoc]
theorem O9(b:List e6)(a:List u6)(r d:Int)(c:Int×(List D9×Unit)){i:Nat}(g:i<b.length)(l:c.1=(i:Int))(m:Al a.length):aR (Gw.b1 ((b,()),((a,()),((r,()),((d,()),())))) c) (false,((0:Int),()))=some (.inl (Ec a r d b[i].1,((a.length:Int),()))):=by
 have h:=AJ (S:=Bool×(Int×Unit)) a (λs x=>s||Ml x r d b[i].1) (f:=Gw.b1 ((b,()),((a,()),((r,()),((d,()),())))) c) (λs k=>(s,(k,()))) (λs=>Sum.inl (s,((a.length:Int),()))) false (λk e s=>by
 have j:bK b c.1=some b[i]:=by rw[l];exact cB g
 unfold Gw.b1;refine uL (Int.ofNat_lt.2 e) ?_;rw[<-wG e m];cases s with|true=>rfl|false=>exact uN rfl (bw (cB e) (bw j rfl))) (λs=>by unfold Gw.b1;exact uM (Int.le_refl _) rfl);refine h.trans ?_;rw[HU];rfl
theorem Pa(b:List e6)(c:List u6)(r d:Int)(p:(Ty.sl Fp).Ok b)(g:W1 b.length)(x:Al c.length)(m:(Lit.int .i64 r).wf=true)(u:(Lit.int .i64 d).wf=true):Gw ((b,()),((c,()),((r,()),((d,()),()))))=some (bif tS b c r d then ED b c r d else ((0,(0,([],()))):k0),((tS b c r d,()),())):=by
 have l:Al b.length:=g.l;have w:=EF b c r d p g m u;unfold W1 at g;have q:=xL (S:=Int×(List D9×Unit)) b (λs v=>bif Ec c r d v.1 then s++[((v.1,()):D9)]else s) (λi s=>s.length<=i) (f:=Gw.b0 ((b,()),((c,()),((r,()),((d,()),()))))) (λs k=>(k,(s,()))) (λs=>Sum.inl ((b.length:Int),(s,()))) [] (Nat.le_refl _) (λi e s n=>by refine⟨?_,PC n _ rfl⟩;unfold Gw.b0;refine uL (Int.ofNat_lt.2 e) (bw (O9 b c r d _ e rfl x) ?_);rw[<-wG e l];dsimp only;cases y:Ec c r d b[i].1 with|false=>rfl|true=>simp only[Sum.elim_inl,cond_true];exact (bw (cB e) (Cm (by grind) (by decide) (by decide) rfl))) (λs _=>by unfold Gw.b0;exact uM (Int.le_refl _) rfl);have o:b.foldl (λs v=>bif Ec c r d v.1 then s++[((v.1,()):D9)]else s) []=JI b c r d:=by
  have :∀(xs:List e6) (s:List D9),xs.foldl (λs v=>bif Ec c r d v.1 then s++[((v.1,()):D9)]else s) s=s++(xs.filter (λv=>Ec c r d v.1)).map (λv=>((v.1,()):D9)):=by intro xs;induction xs with|nil=>grind|cons a t A=>grind
  have h:=this b [];rw [List.nil_append]at h;exact h
 have j:=q.1;rw [o]at j;unfold Gw tS;refine bw j (bw (ON b (ED b c r d) l w.ok) ?_);cases z:C5 b (ED b c r d) with|false=>rfl|true=>refine uN rfl (bw (HL (ED b c r d)) ?_);cases ks (ED b c r d)<;>rfl
def th(l:List u6)(v:u6):List u6:=bif !Ec l v.1 v.2.1 v.2.2.1&&dO (l.length:Int) 1000 then l++[v]else l
noncomputable def w9(n:ao)(v:u6):ao:=bif F6 (ar n) v.2.2.1 then(bif tS (ar n) (th (ec n) v) v.1 v.2.1 then ea (EB n (th (ec n) v)) (ED (ar n) (th (ec n) v) v.1 v.2.1) else EB n (th (ec n) v)) else n
theorem F0{l:List u6}{v:u6}(h:l.length<=1000):(th l v).length<=1000:=by unfold th;cases a:(!Ec l v.1 v.2.1 v.2.2.1&&dO (l.length:Int) 1000)with|false=>exact h|true=>simp only[Bool.and_eq_true]at a;have :=Cp.1 a.2;grind
theorem Hi{l:List u6}{v:u6}(h:l.length<=1000)(d:(Ty.sl H5).Ok l)(e:H5.Ok v):(Ty.sl H5).Ok (th l v):=by refine Dk (Nat.le_trans (F0 h) (by decide)) (λy a=>?_);unfold th at a;cases c:(!Ec l v.1 v.2.1 v.2.2.1&&dO (l.length:Int) 1000)with|false=>rw[c]at a;exact Ae d.2 a|true=>
 rw[c]at a;rcases List.mem_append.1 a with b|b;·exact Ae d.2 b
 ·rw[List.mem_singleton.1 b];exact e
theorem Ez.fi{n:ao}(h:Ez n):(Ty.sl H5).Ok (ec n):=h.2.2.2.2.2.2.2.2.2.2.2.2.2.2.2.1
theorem EG{n:ao}(b:NW n){a:List u6}(d:(Ty.sl H5).Ok a)(c:a.length<=1000):NW (EB n a):=NW.So (Ug b.v d c) b.e0 b.pa
theorem IN{n:ao}{v:u6}(a:NW n)(b:H5.Ok v)(c:n.2.1<890):NW (w9 n v)/\lh n (w9 n v):=by have h:=a.v.h;have e:=Hi a.v.vo h.ok.fi b;have d:=EG a e (F0 a.v.vo);have i:lh n (EB n (th (ec n) v)):=⟨⟨rfl,.inl ⟨rfl,rfl,rfl⟩⟩,Int.le_refl _,by show n.2.1<=n.2.1+1;omega⟩;unfold w9;cases F6 (ar n) v.2.2.1 with|false=>exact ⟨a,lh.gj n⟩|true=>cases tS (ar n) (th (ec n) v) v.1 v.2.1 with|false=>grind|true=>obtain ⟨g,f⟩:=B3 d (EF (ar n) (th (ec n) v) v.1 v.2.1 h.ok.set h.l.2.1 b.1 b.2.1) c;exact ⟨g,i.trans f rfl⟩
theorem RA(n:ao)(v:u6)(b:Al (ec n).length):aR (I4.b0 (n,(v,()))) (false,((0:Int),()))=some (.inl (Ec (ec n) v.1 v.2.1 v.2.2.1,(((ec n).length:Int),()))):=by have c:=AJ (S:=Bool×(Int×Unit)) (ec n) (λs x=>s||Ml x v.1 v.2.1 v.2.2.1) (f:=I4.b0 (n,(v,()))) (λs k=>(s,(k,()))) (λs=>Sum.inl (s,(((ec n).length:Int),()))) false (λk a s=>by unfold I4.b0;refine uL (Int.ofNat_lt.2 a) ?_;rw[<-wG a b];cases s with|true=>rfl|false=>exact uN rfl (bw (cB a) (bw (qn a) rfl))) (λs=>by unfold I4.b0;exact uM (Int.le_refl _) rfl);refine c.trans ?_;rw[HU];rfl
theorem Ul(n:ao)(v:u6)(b:NW n)(a:H5.Ok v)(g:n.2.1<890):I4 (n,(v,()))=some (w9 n v,()):=by have h:=b.v.h;have c:=Hi b.v.vo h.ok.fi a;have f:=b.v.vo;have e:=EG b c (F0 b.v.vo);unfold I4 w9;refine bw (HK (ar n) v.2.2.1 h.ok.set.1) ?_;cases F6 (ar n) v.2.2.1 with|false=>rfl|true=>
 have d:∀(R:Type),(bif (!Ec (ec n) v.1 v.2.1 v.2.2.1) then bif dO (List.length (ec n):Int) (1000:Int) then bif dE (List.length (ec n)+List.length ([v]:List u6)) 32 then some (.inl (bV (ec n) ([v]:List u6),())) else none else some (.inl (ec n,())) else some (.inl (ec n,())))=some (Sum.inl (th (ec n) v,()):Sum (List u6×Unit) R):=by intro R;unfold th;cases Ec (ec n) v.1 v.2.1 v.2.2.1 with|true=>rfl|false=>refine cl rfl ?_;cases dO (List.length (ec n):Int) (1000:Int) with|false=>rfl|true=>exact cl rfl (Cm (by grind) (by decide) (by decide) rfl)
 refine uN rfl (bw (RA n v h.ok.fi.1) (bw (d _) (bw (Pa (ar n) (th (ec n) v) v.1 v.2.1 h.ok.set h.l.2.1 c.1 a.1 a.2.1) ?_)));cases i:tS (ar n) (th (ec n) v) v.1 v.2.1 with|false=>rfl|true=>exact cl rfl (bw (E2 (EB n (th (ec n) v)) (ED (ar n) (th (ec n) v) v.1 v.2.1) e.v.h (EF (ar n) (th (ec n) v) v.1 v.2.1 h.ok.set h.l.2.1 a.1 a.2.1)) rfl)
def Ed(name:ByteArray)(r b a:Int):ie:=(2,(⟨#[]⟩,(a,([],(r,(b,(name,(0,(0,(⟨#[]⟩,(0,(-1,([],(0,([],([],()))))))))))))))))
def B5(name:ByteArray)(a r b:Int):tb:=(1,(a,(r,(b,(name,())))))
noncomputable def Ee(n:ao)(b:an):Bool:=s7 n b&&(gA (cv n b).2.1 n.2.1&&(gA b.2.2.1 (ad (cv n b))&&(!km b.2.2.1 (fl (cv n b))&&F6 (ar (cv n b)) (cv n b).1)))
noncomputable def hW(n:ao)(b:an):ao×(List ie×List tb):=bif Ee n b then(w9 (sb (cv n b) b.2.2.1) (b.2.2.1,(b.1,((cv n b).1,()))),(pt (ar (cv n b)) (cv n b).1 (Ed (cv n b).1 b.2.2.1 b.1 0) (cv n b).2.1,[B5 (cv n b).1 n.2.1 b.2.2.1 b.1])) else (cv n b,([],[]))
theorem pf{n:ao}(a:NW n){v:Int}(b:(Lit.int .i64 v).wf=true):NW (sb n v):=NW.So (E:=n.2.1.toNat) (P:=n.2.1.toNat) ⟨Nl a.v.h b,a.v.Hg,a.v.ep,a.v.le,a.v.vo,a.v.go,a.v.dn,a.v.pa⟩ a.e0 a.pa
structure am4(n:ao)(b:an):Prop where
 tk:s7 n b=true
 ep:(cv n b).2.1=n.2.1
 rd:b.2.2.1=ad (cv n b)vo:fl (cv n b)<b.2.2.1
 me:F6 (ar (cv n b)) (cv n b).1=true
theorem KW{n:ao}{b:an}(h:Ee n b=true):am4 n b:=by unfold Ee at h;simp only[Bool.and_eq_true,Bool.not_eq_true']at h;exact⟨h.1,Cr.1 h.2.1,Cr.1 h.2.2.1,CM.1 h.2.2.2.1,h.2.2.2.2⟩
theorem P3{n:ao}{b:an}(m:NW n)(c:lf.Ok b)(f:e8 b)(g:n.2.1<890):NW (hW n b).1/\(hW n b).1.1=n.1/\n.2.1<=(hW n b).1.2.1/\(hW n b).1.2.1<=n.2.1+1:=by obtain⟨d,a⟩:=py m c f g;unfold hW;cases i:Ee n b with|false=>exact⟨d,a.a.nm,a.le,a.up⟩|true=>
 have h:=KW i;have l:=h.ep;have j:=pf d c.2.2.1;obtain⟨k,e⟩:=IN (v:=(b.2.2.1,(b.1,((cv n b).1,())))) j ⟨c.2.2.1,c.1,d.v.h.ok.1,trivial⟩ (by show (cv n b).2.1<890;omega);refine ⟨k,e.a.nm.trans a.a.nm,?_,?_⟩;·have :=e.le;show n.2.1<=_;exact Int.le_trans (Int.le_of_eq l.symm) this
 ·have :=e.up;exact Int.le_trans this (by show (cv n b).2.1+1<=_;omega)
theorem Um(n:ao)(b:an)(f:NW n)(a:lf.Ok b)(d:e8 b)(e:n.2.1<890):QN (n,(b,()))=some (((hW n b).2.1,()),(((hW n b).2.2,()),((hW n b).1,()))):=by obtain⟨c,q⟩:=py f a d e;have g:=c.v.h.ok.set;unfold QN hW Ee;refine bw (Uk n b f a d e) ?_;show (bif !s7 n b then _ else _)=_;cases o:s7 n b with|false=>rfl|true=>refine uN rfl ?_;show (bif !gA (cv n b).2.1 n.2.1 then _ else _)=_;cases j:gA (cv n b).2.1 n.2.1 with|false=>rfl|true=>have l:=Cr.1 j;refine uN rfl ?_;show (bif !gA b.2.2.1 (ad (cv n b))then _ else _)=_;cases p:gA b.2.2.1 (ad (cv n b))with|false=>rfl|true=>refine uN rfl ?_;show (bif km b.2.2.1 (fl (cv n b))then _ else _)=_;cases r:km b.2.2.1 (fl (cv n b))with|true=>rfl|false=>refine uN rfl (bw (HK (ar (cv n b)) (cv n b).1 g.1) ?_);cases m:F6 (ar (cv n b)) (cv n b).1 with|false=>rfl|true=>have i:=pf c a.2.2.1;have h:HR (Ed (cv n b).1 b.2.2.1 b.1 (cv n b).2.1):=⟨Nat.zero_le _,(λx k=>by cases k),Nat.zero_le _,Nat.zero_le _,Nat.zero_le _⟩;exact uN rfl (bw (Mf (sb (cv n b) b.2.2.1) (Ed (cv n b).1 b.2.2.1 b.1 (cv n b).2.1) c.v.h.l.2.1 h) (bw (Ul (sb (cv n b) b.2.2.1) (b.2.2.1,(b.1,((cv n b).1,()))) i ⟨a.2.2.1,a.1,c.v.h.ok.1,trivial⟩ (by show (cv n b).2.1<890;omega)) (bw (show SG _=some (B5 (cv n b).1 n.2.1 b.2.2.1 b.1,()) from rfl) rfl)))
noncomputable def kk(a:Int)(s:ao)(b:an):ao:=bif gA s.2.1 a then cv s b else s
noncomputable def ti(n:ao)(m:ie):ao:=(n6 m).foldl (kk m.2.2.1) n
noncomputable def GK(n:ao)(m:ie):ao:=bif gA (ti n m).2.1 m.2.2.1&&C5 (ar (ti n m)) (mQ m)then ea (ti n m) (mQ m)else ti n m
noncomputable def xr(n:ao)(m:ie):ao:=bif gA (GK n m).2.1 m.2.2.1&&Gd (ar (GK n m)) (mT m)then Me (GK n m) (mT m)else GK n m
theorem KX(a:Int)(d:ao)(k:a<890)(m:d.2.1=a):∀(e:List an)(s:ao),(∀b∈e,lf.Ok b/\e8 b)->NW s->lh d s->NW (e.foldl (kk a) s)/\lh d (e.foldl (kk a) s)
 |[],s,_,f,g=>⟨f,g⟩|b::r,s,h,f,g=>by
  rw[List.foldl_cons];have i:NW (kk a s b)/\lh d (kk a s b):=by unfold kk;cases j:gA s.2.1 a with|false=>grind|true=>have j:=Cr.1 j;obtain⟨n,l⟩:=py f (h b (by simp)).1 (h b (by simp)).2 (by omega);exact⟨n,g.trans l (by omega)⟩
  exact KX a d k m r _ (λc o=>h c (by grind)) i.1 i.2
theorem H9.EO{m:ie}(h:H9 m)(l:HR m):GO (mQ m):=⟨h.2.2.2.2.2.2.2.2.2.2.1,h.2.2.2.2.2.2.2.2.2.2.2.1,h.q,l.2.2.1⟩
theorem H9.Sm{m:ie}(h:H9 m)(l:HR m):PO (mT m):=⟨h.2.2.2.2.2.2.2.2.2.2.2.2.2.1,h.2.2.2.2.2.2.2.2.2.2.2.2.2.2.1,h.2.2.2.2.2.2.2.2.2.2.2.2.2.2.2.1,l.2.2.2.1,l.2.2.2.2⟩
theorem H9.kp{m:ie}(h:H9 m)(l:HR m):∀b∈n6 m,lf.Ok b/\e8 b:=λb a=>⟨Ae h.bs.2 a,l.2.1 b a⟩
theorem EH{n:ao}{m:ie}(j:NW n)(g:H9 m)(e:HR m)(h:m.2.2.1=n.2.1)(k:n.2.1<890):(NW (ti n m)/\lh n (ti n m))/\(NW (GK n m)/\lh n (GK n m))/\NW (xr n m)/\lh n (xr n m):=by
 have c:NW (ti n m)/\lh n (ti n m):=KX m.2.2.1 n (by omega) h.symm (n6 m) n (g.kp e) j (lh.gj n);have a:NW (GK n m)/\lh n (GK n m):=by unfold GK;cases b:(gA (ti n m).2.1 m.2.2.1&&C5 (ar (ti n m)) (mQ m)) with|false=>exact c|true=>simp only[Bool.and_eq_true]at b;have b:=Cr.1 b.1;obtain⟨f,d⟩:=B3 c.1 (g.EO e) (by omega);exact⟨f,c.2.trans d (by omega)⟩
 refine⟨c,a,?_⟩;unfold xr;cases b:(gA (GK n m).2.1 m.2.2.1&&Gd (ar (GK n m)) (mT m)) with|false=>exact a|true=>obtain⟨f,d,i⟩:=Ui a.1 (g.Sm e);exact⟨f,a.2.Mk d i⟩
theorem P4(a:Int):∀(c:List an)(s:ao),gA s.2.1 a=false->c.foldl (kk a) s=s
 |[],s,_=>rfl|b::r,s,h=>by
  rw[List.foldl_cons];have :kk a s b=s:=by unfold kk;grind
  rw[this];exact P4 a r s h
theorem ZD(n:ao)(m:ie)(v:NW n)(i:H9 m)(w:HR m)(A:m.2.2.1=n.2.1)(z:n.2.1<890):∃k,aR (Iy.b0 (n,(m,()))) ((0:Int),n)=some (.inl (k,ti n m)):=by
 have l:Al (n6 m).length:=i.bs.1;have q:∀(c a:List an) (s:ao),a++c=n6 m->NW s->lh n s->∃k,aR (Iy.b0 (n,(m,()))) ((a.length:Int),s)=some (.inl (k,c.foldl (kk m.2.2.1) s)):=by intro c;induction c with|nil=>intro a s h g j;rw[List.append_nil]at h;refine⟨(a.length:Int),cS ?_⟩;unfold Iy.b0;exact uM (show ((n6 m).length:Int)<=(a.length:Int) by grind) rfl|cons b c x=>
  intro a s h g j;have e:a.length<(n6 m).length:=by grind
  have u:(n6 m)[a.length]=b:=by grind
  have d:=i.kp w b (by grind);cases f:gA s.2.1 m.2.2.1 with|false=>refine⟨(a.length:Int),?_⟩;rw[P4 _ _ _ f];refine cS ?_;unfold Iy.b0;grind|true=>
  have y:=Cr.1 f;obtain⟨t,r⟩:=py g d.1 d.2 (by omega);have p:Iy.b0 (n,(m,())) ((a.length:Int),s)=some (.inl (((a.length+1:Nat):Int),cv s b)):=by unfold Iy.b0;refine uL (Int.ofNat_lt.2 e) (cl f (bw (cB e) ?_));rw[u];refine bw (Uk s b g d.1 d.2 (by omega)) ?_;rw[<-wG e l]
  rw[de p];have o:kk m.2.2.1 s b=cv s b:=by unfold kk;grind
  rw[List.foldl_cons,o];have :=x (a++[b]) (cv s b) (by grind) t (j.trans r (by omega));grind
 unfold ti;simpa using q (n6 m) [] n rfl v (lh.gj n)
theorem WV(n:ao)(m:ie)(d:NW n)(a:H9 m)(b:HR m)(e:m.2.2.1=n.2.1)(c:n.2.1<890):Iy (n,(m,()))=some (xr n m,()):=by
 obtain⟨⟨f,o⟩,⟨g,p⟩,_⟩:=EH d a b e c;obtain⟨k,j⟩:=ZD n m d a b e c;have i:∀(R:Type),((bif gA (ti n m).2.1 m.2.2.1 then (LC ((ar (ti n m),()),(mQ m,()))).bind λh=>bif h.1.1 then (Kl (ti n m,(mQ m,()))).bind λl=>some (Sum.inl l.1)else some (Sum.inl (ti n m))else some (Sum.inl (ti n m))):Option (Sum ao R))=some (Sum.inl (GK n m)):=by intro R;unfold GK;cases gA (ti n m).2.1 m.2.2.1 with|false=>rfl|true=>refine cl rfl (bw (ON (ar (ti n m)) (mQ m) f.v.h.ok.set.1 a.q) ?_);cases C5 (ar (ti n m)) (mQ m)with|false=>rfl|true=>exact cl rfl (bw (E2 (ti n m) (mQ m) f.v.h (a.EO b)) rfl)
 unfold Iy;refine bw j (bw (i _) ?_);unfold xr;show (bif gA (GK n m).2.1 m.2.2.1 then _ else _)=_;cases gA (GK n m).2.1 m.2.2.1 with|false=>rfl|true=>refine cl rfl (bw (Q0 (ar (GK n m)) (mT m) g.v.h.ok.set.1 a.t) ?_);show (bif Gd (ar (GK n m)) (mT m) then _ else _)=_;cases Gd (ar (GK n m)) (mT m) with|false=>rfl|true=>exact cl rfl (bw (FW (GK n m) (mT m) (a.Sm b)) rfl)
theorem Ez.cz{n:ao}(h:Ez n):(Ty.sl GP).Ok (ei n):=h.2.2.2.2.2.2.2.2.2.2.2.2.2.2.2.2.1
theorem NW.gin{n:ao}(h:NW n):GIn n:=⟨h.v.h.l.2.1,h.v.h.ok.set,Nat.le_trans h.v.go (by decide),h.v.h.ok.cz⟩
theorem WW{l:List sd}{g:sd}(h:l.length<=1000):(vx l g).length<=1000:=by unfold vx;cases a:(!Rq l g&&dO (l.length:Int) 1000)with|false=>exact h|true=>simp only[Bool.and_eq_true]at a;have :=Cp.1 a.2;grind
theorem Nq{n:ao}(a:NW n){g:List sd}(c:(Ty.sl GP).Ok g)(b:g.length<=1000):NW (Fb n g):=by have h:=a.v.h;have l:=h.l;refine NW.So (E:=n.2.1.toNat) (P:=n.2.1.toNat) ⟨⟨TW h.ok c,?_,h.t,h.d,h.p⟩,a.v.Hg,a.v.ep,a.v.le,a.v.vo,b,a.v.dn,a.v.pa⟩ a.e0 a.pa;exact⟨l.1,l.2.1,l.2.2.1,l.2.2.2.1,l.2.2.2.2.1,l.2.2.2.2.2.1,l.2.2.2.2.2.2.1,l.2.2.2.2.2.2.2.1,Nat.le_trans b (by decide),l.2.2.2.2.2.2.2.2.2.1,l.2.2.2.2.2.2.2.2.2.2.1,l.2.2.2.2.2.2.2.2.2.2.2.1,l.2.2.2.2.2.2.2.2.2.2.2.2⟩
theorem RB{n:ao}(b:NW n){g:sd}(f:GP.Ok g):NW (xd n g)/\lh n (xd n g)/\(xd n g).2.1=n.2.1:=by have a:=b.gin;have c:=PS a.go (Nat.le_trans a.g (by decide)) f;have h:NW (Fb n (vx (ei n) g)):=Nq b c (WW b.v.go);have i:lh n (Fb n (vx (ei n) g)):=⟨⟨rfl,.inl ⟨rfl,rfl,rfl⟩⟩,Int.le_refl _,by show n.2.1<=n.2.1+1;omega⟩;have j:=Jx (ar n) (vx (ei n) g) g.1 a.s a.so c f.1;unfold xd;dsimp only;cases k:(wb (ar n) (vx (ei n) g) g.1).2.1.1 with|false=>exact ⟨h,i,rfl⟩|true=>obtain ⟨_,_,e⟩:=FX k;rw[e];obtain ⟨m,l,d⟩:=Ui h j;exact ⟨m,i.Mk l d,d⟩
theorem Hj{n:ao}{g:sd}{q:k0}(a:NW n)(j:GO q)(i:GP.Ok g)(c:n.2.1<890):NW (j6 n g q)/\lh n (j6 n g q):=by obtain⟨h,f⟩:=B3 a j c;unfold j6;cases (F6 (ar n) g.2.2.1&&C5 (ar n) q) with|false=>exact⟨a,lh.gj n⟩|true=>cases gA (ea n q).2.1 n.2.1 with|false=>grind|true=>obtain⟨d,b,e⟩:=RB h i;exact⟨d,f.Mk b e⟩
theorem ZE(n:ao)(g:sd)(q:k0)(a:NW n)(b:GO q)(c:GP.Ok g)(d:n.2.1<890):Ix (n,(g,(q,())))=some (j6 n g q,()):=Jy n g q a.v.h b c (B3 a b d).1.gin
theorem Hk{n:ao}(a:NW n)(c:n.2.1<890):NW (fp n).1/\(fp n).1.1=n.1/\n.2.1<=(fp n).1.2.1/\(fp n).1.2.1<=n.2.1+1:=by unfold fp;cases (F6 (ar n) n.1&&!dO (ad n) (fl n)) with|false=>grind|true=>obtain⟨d,b⟩:=Hj (pf a a.v.h.round) (a.v.h.ok.EO a.v.h.l) (IM a.v.h.ok) c;exact⟨d,b.a.nm,b.le,b.up⟩
theorem Un(n:ao)(a:NW n)(b:n.2.1<890):SK (n,())=some (((fp n).2.1,()),(((fp n).2.2,()),((fp n).1,()))):=T3 n a.v.h (B3 (pf a a.v.h.round) (a.v.h.ok.EO a.v.h.l) b).1.gin
def IE(m:ie):u6:=(m.2.2.2.2.1,(m.2.2.2.2.2.1,(m.2.2.2.2.2.2.1,())))
def IF(m:ie):sd:=(m.2.2.2.2.2.2.2.1,(m.2.2.2.2.2.2.2.2.1,(m.2.2.2.2.2.2.2.2.2.1,())))
theorem H9.vo{m:ie}(h:H9 m):H5.Ok (IE m):=⟨h.2.2.2.2.1,h.2.2.2.2.2.1,h.2.2.2.2.2.2.1,trivial⟩
theorem H9.go{m:ie}(h:H9 m):GP.Ok (IF m):=⟨h.2.2.2.2.2.2.2.1,h.2.2.2.2.2.2.2.2.1,h.2.2.2.2.2.2.2.2.2.1,trivial⟩
noncomputable def fz(n:ao)(m:ie):ao×(List ie×List tb):=bif gA m.1 1 then(match n6 m with|b::_=>hW n b|[]=>(n,([],[])))else bif gA m.1 2 then(w9 n (IE m),([],[]))else bif gA m.1 3 then (j6 n (IF m) (mQ m),([],[]))else (xr n m,([],[]))
structure GL(m:ie):Prop where
 ok:H9 m
 l:HR m
 pr:m.1=1->n6 m≠[]
theorem IP{n:ao}{m:ie}(f:NW n)(c:GL m)(h:m.2.2.1=n.2.1)(e:n.2.1<890):NW (fz n m).1/\(fz n m).1.1=n.1/\n.2.1<=(fz n m).1.2.1/\(fz n m).1.2.1<=n.2.1+1:=by unfold fz;cases i:gA m.1 1 with
 |true=>have j:=c.pr (Cr.1 i);cases k:n6 m with|nil=>grind|cons b r=>have g:=c.ok.kp c.l b (by grind);exact P3 f g.1 g.2 e
 |false=>cases gA m.1 2 with|true=>obtain⟨d,a⟩:=IN f c.ok.vo e;exact⟨d,a.a.nm,a.le,a.up⟩|false=>cases gA m.1 3 with|true=>obtain⟨d,a⟩:=Hj f (c.ok.EO c.l) c.ok.go e;exact⟨d,a.a.nm,a.le,a.up⟩|false=>obtain⟨_,_,d,a⟩:=EH f c.ok c.l h e;exact⟨d,a.a.nm,a.le,a.up⟩
theorem ZF(n:ao)(m:ie)(d:NW n)(a:GL m)(f:m.2.2.1=n.2.1)(c:n.2.1<890):VU (n,(m,()))=some (((fz n m).2.1,()),(((fz n m).2.2,()),((fz n m).1,()))):=by unfold VU fz;cases h:gA m.1 1 with
 |true=>have j:=a.pr (Cr.1 h);cases g:n6 m with|nil=>grind|cons b r=>have e:=a.ok.kp a.l b (by grind);exact bw (cl rfl (bw (show bK (n6 m) 0=some b by rw[g];rfl) (bw (Um n b d e.1 e.2 c) rfl))) rfl
 |false=>cases k:gA m.1 2 with|true=>exact bw (uN rfl (cl rfl (bw (Ul n (IE m) d a.ok.vo c) rfl))) rfl|false=>cases i:gA m.1 3 with|true=>exact bw (uN rfl (uN rfl (cl rfl (bw (ZE n (IF m) (mQ m) d (a.ok.EO a.l) a.ok.go c) rfl)))) rfl|false=>exact bw (uN rfl (uN rfl (uN rfl (bw (WV n m d a.ok a.l f c) rfl)))) rfl
theorem ZG(L:ek)(l:List an)(p:Int)(a:List cp)(G:(Ty.sl cf).Ok L.2.1)(K:ct L.2.1)(n:(Ty.sl lf).Ok l)(h:j8 l)(F:(Ty.sl iv).Ok a):Y (LB (L,((l,()),((p,()),((a,()),()))))) (λy=>(∀t∈y.1.1,t∈a)/\List.length y.1.1<=4/\(Ty.sl Fp).Ok y.2.2.1.1/\W1 (List.length y.2.2.1.1)/\y.2.2.2.1.1.size<=32):=by
 have U:Al a.length:=F.1;unfold LB;have q:∀{xs:List cp}{e:Bool},(∀t∈xs,t∈a)->List.length xs<=4->Y (some (((xs,()),((e,()),((([]:List e6),()),((⟨#[]⟩,()),())))):(List cp×Unit)×((Bool×Unit)×((List e6×Unit)×((ByteArray×Unit)×Unit))))) (λy=>(∀t∈y.1.1,t∈a)/\List.length y.1.1<=4/\(Ty.sl Fp).Ok y.2.2.1.1/\W1 (List.length y.2.2.1.1)/\y.2.2.2.1.1.size<=32):=λT M=>Y.mk ⟨T,M,CK,Nat.zero_le _,Nat.zero_le _⟩;refine Y.bind (PY l p n) λX _=>Y.DY (λ_=>q (λt h=>by cases h) (Nat.zero_le _)) λ_=>Y.bind (PZ l p n h) λZ _=>Y.DY (λ_=>q (λt h=>by cases h) (Nat.zero_le _)) λ_=>?_;refine Y.bind (am0 L l p G K n h) λW A=>?_;refine Y.DZ (P:=λv=>(∀t∈v.1,t∈a)/\List.length v.1<=4/\(Ty.sl cf).Ok v.2.2.2.1/\ct v.2.2.2.1) (R:=λ_=>False) (Y.loop (I:=λv=>0<=v.2.1/\(∀t∈v.1,t∈a)/\List.length v.1<=4/\(Ty.sl cf).Ok v.2.2.2.1/\ct v.2.2.2.1) (λv=>((List.length a:Int)-v.2.1).toNat) (λv w=>?_) _ ⟨Int.le_refl _,(λt h=>by cases h),Nat.zero_le _,A.1,A.2⟩) (λv w=>?_) (λ_ h=>h.elim)
 · obtain ⟨o,i,j,k,u⟩:=v;obtain ⟨r,b,d,f,g⟩:=w;dsimp only at r b d f g;unfold LB.b0;refine Y.DY (λm=>Y.DY (λE=>?_) (λ_=>Y.rl ⟨b,d,f,g⟩)) (λ_=>Y.rl ⟨b,d,f,g⟩);have m:i<(List.length a:Int):=Cp.1 m;have E:(List.length o:Int)<4:=Cp.1 E;have e:cM .i64 i 1=i+1:=ed (by omega) (by omega);have C:((List.length a:Int)-cM .i64 i 1).toNat<((List.length a:Int)-i).toNat:=by omega
   have B:0<=cM .i64 i 1:=by omega
   refine Y.gT r m λx H=>?_;obtain ⟨R,c,S,O,J,_⟩:=Jt (j,(k,())) x f g (Ae F.2 H);refine Y.eq S (Y.DY (λ_=>Y.gT r m λN V=>Y.dE (by grind) (by decide) (by decide) (Y.l ⟨⟨B,λt h=>?_,?_,O,J⟩,C⟩)) (λ_=>Y.l ⟨⟨B,b,d,f,g⟩,C⟩))
   · rcases List.mem_append.1 h with h|h;· grind
     grind
   · show List.length (o++[N])<=4;grind
 · obtain ⟨o,i,j,k,u⟩:=v;obtain ⟨b,d,f,g⟩:=w;dsimp only at b d f g;refine Y.eq (G7 l p n h) (Y.DY (λ_=>q b d) λ_=>?_);obtain ⟨Q,s,D⟩:=G6 (j,(k,())) f g;refine Y.eq Q (Y.eq (L1 _ D.1 s) (Y.bind (Ie _ s) λy h=>Y.mk ⟨b,d,Ta _ s,?_,h⟩));show W1 (List.length (o0 (j0 (j,(k,())))));have z:=D.1;unfold W1 at z⊢;unfold o0;cases bk (j0 (j,(k,()))) with|false=>grind|true=>exact Nat.le_trans (Ex _) z
abbrev MkT:Type:=(List cp×Unit)×((Bool×Unit)×((List e6×Unit)×((ByteArray×Unit)×Unit)))
noncomputable def WX(L:ek)(l:List an)(p:Int)(a:List cp):MkT:=(LB (L,((l,()),((p,()),((a,()),()))))).getD (([],()),((false,()),(([],()),((⟨#[]⟩,()),()))))
theorem Uo(L:ek)(l:List an)(p:Int)(a:List cp)(f:(Ty.sl cf).Ok L.2.1)(c:ct L.2.1)(b:(Ty.sl lf).Ok l)(h:j8 l)(d:(Ty.sl iv).Ok a):LB (L,((l,()),((p,()),((a,()),()))))=some (WX L l p a)/\(∀t∈(WX L l p a).1.1,t∈a)/\List.length (WX L l p a).1.1<=4/\(Ty.sl Fp).Ok (WX L l p a).2.2.1.1/\W1 (List.length (WX L l p a).2.2.1.1)/\(WX L l p a).2.2.2.1.1.size<=32:=by
 obtain⟨y,e,g⟩:=ZG L l p a f c b h d;have :WX L l p a=y:=by unfold WX;grind
 grind
def E5(n:ao):vc:=bif !gA (bx n).1 (gS .i64 (ad n) 1)then Fa n else ((0,([],([],()))):vc)
noncomputable def P5(n:ao):MkT:=WX (ft n) (ag n) (bx n).2.1 (nr n)
noncomputable def i4(n:ao)(a:Int):an:=(a,(n.2.1,(ad n,(n.1,((bx n).1,((bx n).2.1,((bx n).2.2.1,((E5 n).1,((E5 n).2.1,((E5 n).2.2.1,((P5 n).1.1,((P5 n).2.1.1,((P5 n).2.2.1.1,((P5 n).2.2.2.1.1,()))))))))))))))
theorem RC{n:ao}(h:J5 n):PO (E5 n):=by unfold E5;cases (!gA (bx n).1 (gS .i64 (ad n) 1))with|true=>exact h.ok.Sm h.l|false=>exact⟨rfl,CK,CK,Nat.zero_le _,Nat.zero_le _⟩
theorem uf{n:ao}(h:J5 n){c:Int}(e:(Lit.int .i64 c).wf=true):lf.Ok (i4 n c)/\e8 (i4 n c):=by have b:=h.ok.EO h.l;have a:=RC h;obtain⟨_,g,d,i,j,f⟩:=Uo (ft n) (ag n) (bx n).2.1 (nr n) h.ok.base h.Ic h.ok.kA h.t h.ok.kB;refine⟨⟨e,h.ok.2.1,h.round,h.ok.1,b.i1,b.i2,b.ok,a.i1,a.ok,a.hi,Dk (Nat.le_trans d (by decide)) (λt k=>Ae h.ok.kB.2 (g t k)),trivial,i,?_,trivial⟩,b.w,a.w,a.wh,Nat.le_trans d (by decide),j⟩;exact Nat.le_trans f (by decide)
theorem P6(n:ao)(b:Int)(h:J5 n):QK (n,((b,()),()))=some (i4 n b,()):=by
 have f:=h.ok.EO h.l;have a:=h.ok.Sm h.l;obtain⟨c,_⟩:=Uo (ft n) (ag n) (bx n).2.1 (nr n) h.ok.base h.Ic h.ok.kA h.t h.ok.kB;have d:∀(R:Type),(bif !gA (bx n).1 (gS .i64 (ad n) 1)then (I0 (Fa n,())).bind λe=>some (Sum.inl e.1)else some (Sum.inl ((0:Int),([],([],())))))=some (Sum.inl (E5 n):Sum vc R):=by intro R;unfold E5;cases (!gA (bx n).1 (gS .i64 (ad n) 1))with|true=>exact bw (KB (Fa n) a.w a.wh) rfl|false=>rfl
 unfold QK;exact bw (Fz (bx n) f.w) (bw (d _) (bw c rfl))
def rm(b:an)(a:Int):ie:=(1,(⟨#[]⟩,(a,([b],(0,(0,(⟨#[]⟩,(0,(0,(⟨#[]⟩,(0,(-1,([],(0,([],([],()))))))))))))))))
noncomputable def Gj(n:ao)(a:Int):Bool:=ko (rf (ar n) (ad n)) n.1&&(!km (ad n) (L5 n)&&((gA (bx n).2.1 (-1)||!dO (n8 (ag n) (bx n).2.1) 0)&&(gq (i4 n a)&&oi (i4 n a))))
noncomputable def ej(n:ao)(a:Int):ao×(List an×(List ie×List tb)):=bif Gj n a then((hW (qf n (ad n)) (i4 n a)).1,([i4 n a],(pt (ar n) n.1 (rm (i4 n a) n.2.1) n.2.1++(hW (qf n (ad n)) (i4 n a)).2.1,(hW (qf n (ad n)) (i4 n a)).2.2))) else (n,([],([],[])))
theorem wc{n:ao}(a:NW n){v:Int}(b:(Lit.int .i64 v).wf=true):NW (qf n v):=by have h:=a.v.h;exact NW.So (E:=n.2.1.toNat) (P:=n.2.1.toNat) ⟨⟨Ro h.ok b,h.l,h.t,h.d,h.p⟩,a.v.Hg,a.v.ep,a.v.le,a.v.vo,a.v.go,a.v.dn,a.v.pa⟩ a.e0 a.pa
theorem IQ{n:ao}{a:Int}(b:NW n)(c:(Lit.int .i64 a).wf=true)(e:n.2.1<890):NW (ej n a).1/\(ej n a).1.1=n.1/\n.2.1<=(ej n a).1.2.1/\(ej n a).1.2.1<=n.2.1+1:=by obtain⟨f,d⟩:=uf b.v.h c;unfold ej;cases Gj n a with|false=>grind|true=>exact P3 (wc b b.v.h.round) f d e
theorem E6(a:List e6)(name:ByteArray)(m:ie)(b:Int):(pt a name m b).length<=a.length:=by unfold pt;grind
theorem KY(n:ao)(b:an)(h:W1 (ar (cv n b)).length):(hW n b).2.1.length<=1048576/\(hW n b).2.2.length<=1:=by unfold hW;cases Ee n b with|false=>grind|true=>exact⟨Nat.le_trans (E6 _ _ _ _) h,Nat.le_refl _⟩
theorem ZH(n:ao)(a:Int)(l:NW n)(p:(Lit.int .i64 a).wf=true)(i:n.2.1<890):VY (n,((a,()),()))=some (((ej n a).2.1,()),(((ej n a).2.2.1,()),(((ej n a).2.2.2,()),((ej n a).1,())))):=by
 have h:=l.v.h;obtain⟨e,b⟩:=uf h p;have k:=wc l h.round;have s:=KY (qf n (ad n)) (i4 n a) (py k e b i).1.v.h.l.2.1;have C:=E6 (ar n) n.1 (rm (i4 n a) n.2.1) n.2.1;have D:(ar n).length<=1048576:=h.l.2.1;have o:HR (rm (i4 n a) n.2.1):=⟨(by decide:1<=1048576),(λx w=>by rw[List.mem_singleton.1 w];exact b),Nat.zero_le _,Nat.zero_le _,Nat.zero_le _⟩;unfold VY ej Gj;have B:∀{S R:Type}{g:S->Option R}{r:R},Option.bind (some (Sum.inr r:Sum S R)) (λq=>Sum.elim g some q)=some r:=λ{S R g r}=>rfl;have f:((QK (n,((a,()),()))).bind λc=>(Px (c.1,())).bind λu=>bif (!u.1.1) then some ((([]:List an),()),((([]:List ie),()),((([]:List tb),()),(n,())))) else (MO (c.1,())).bind λz=>bif (!z.1.1) then some ((([]:List an),()),((([]:List ie),()),((([]:List tb),()),(n,())))) else (Iw (qf n (ad n),(rm c.1 n.2.1,()))).bind λj=>(QN (qf n (ad n),(c.1,()))).bind λd=>(I2 (c.1,())).bind λt=>bif dE (List.length j.1.1+List.length d.1.1) 216 then some ((([t.1]:List an),()),((bV j.1.1 d.1.1,()),(d.2.1,(d.2.2.1,())))) else none)=some (bif (gq (i4 n a)&&oi (i4 n a)) then ((([i4 n a]:List an),()),((pt (ar n) n.1 (rm (i4 n a) n.2.1) n.2.1++(hW (qf n (ad n)) (i4 n a)).2.1,()),(((hW (qf n (ad n)) (i4 n a)).2.2,()),((hW (qf n (ad n)) (i4 n a)).1,())))) else ((([]:List an),()),((([]:List ie),()),((([]:List tb),()),(n,()))))):=by refine bw (P6 n a h) (bw (Jc _ e) ?_);cases A:gq (i4 n a) with|false=>grind|true=>refine uN rfl (bw (GJ _ b) ?_);cases y:oi (i4 n a) with|false=>grind|true=>refine uN rfl (bw (Mf (qf n (ad n)) (rm (i4 n a) n.2.1) h.l.2.1 o) (bw (Um (qf n (ad n)) (i4 n a) k e b i) (bw (HM _ b) (cl ?_ rfl))));refine BO (Nat.le_trans (Nat.add_le_add (show List.length (pt (ar n) n.1 (rm (i4 n a) n.2.1) n.2.1)<=1048576 by omega) s.1) (by decide)) (by decide) (by decide)
 cases A:ko (rf (ar n) (ad n)) n.1 with|false=>exact bw (bw (tR (ar n) (ad n)) (cl (by grind) rfl)) rfl|true=>cases y:km (ad n) (L5 n) with|true=>exact bw (bw (tR (ar n) (ad n)) (uN (by grind) (cl rfl rfl))) rfl|false=>cases E:gA (bx n).2.1 (-1) with|true=>refine bw (bw (tR (ar n) (ad n)) (uN (by grind) (uN rfl (uN (by show (!gA (bx n).2.1 (-1))=false;grind) rfl)))) (f.trans ?_);grind|false=>cases m:dO (n8 (ag n) (bx n).2.1) 0 with|true=>refine bw (bw (tR (ar n) (ad n)) (uN (by grind) (uN rfl (cl (by show (!gA (bx n).2.1 (-1))=true;grind) (bw (w4 (ag n) (bx n).2.1 h.ok.kA.1) (cl m rfl)))))) rfl|false=>refine bw (bw (tR (ar n) (ad n)) (uN (by grind) (uN rfl (cl (by show (!gA (bx n).2.1 (-1))=true;grind) (bw (w4 (ag n) (bx n).2.1 h.ok.kA.1) (uN m rfl)))))) (f.trans ?_);grind
def Hl(c:ByteArray)(a:Int)(b:List an)(q:k0)(t:vc):ie:=(4,(c,(a,(b,(0,(0,(⟨#[]⟩,(0,(0,(⟨#[]⟩,(q.1,(q.2.1,(q.2.2.1,(t.1,(t.2.1,(t.2.2.1,()))))))))))))))))
def tc0:vc:=((0,([],([],()))):vc)
def ZI:ie:=(0,(⟨#[]⟩,(0,([],(0,(0,(⟨#[]⟩,(0,(0,(⟨#[]⟩,(0,(0,([],(0,([],([],()))))))))))))))))
def hM(n:ao)(a:Int)(b:ByteArray):ie×((Bool×Unit)×Unit):=bif gA a n.2.1 then(Hl b a (ag n) (bx n) (Fa n),((true,()),()))else match (bb n).find? (λp=>gA p.1 a)with|some p=>(Hl b a (D1 p) (pQ p) tc0,((true,()),()))|none=>(ZI,((false,()),()))
theorem Up(n:ao)(a:Int)(c:ByteArray)(h:J5 n):LK (n,((a,()),((c,()),())))=some (hM n a c):=by have l:=h.l;have o:=h.ok.EO h.l;have e:=h.ok.Sm h.l;unfold LK hM;cases r:gA a n.2.1 with
 |true=>exact cl rfl (bw (An (ag n) l.2.2.1 l.2.2.2.1) (bw (Fz (bx n) o.w) (bw (KB (Fa n) e.w e.wh) rfl)))
 |false=>have m:W1 (bb n).length:=l.2.2.2.2.2.2.2.2.2.2.2.1;have j:∀p∈bb n,HN p:=l.2.2.2.2.2.2.2.2.2.2.2.2;have q:=AH (S:=Int×Unit) (bb n) (λp=>gA p.1 a) (f:=LK.b0 (n,((a,()),((c,()),())))) (λk=>(k,())) (Sum.inl (((bb n).length:Int),())) (λp=>Sum.inr (Hl c a (D1 p) (pQ p) tc0,((true,()),()))) (λi b=>by
     unfold LK.b0;have d:=j _ (List.getElem_mem b);refine uL (Int.ofNat_lt.2 b) (bw (cB (xs:=bb n) b) ?_);rw[<-wG b m.l];refine Cg (λg=>?_) (λg=>?_);·rw[show gA (bb n)[i].1 a=true from g];exact bw (cB (xs:=bb n) b) (bw (An _ d.1 d.2.1) (bw (cB (xs:=bb n) b) (bw (Fz (pQ (bb n)[i]) d.2.2) rfl)))
     grind) (by unfold LK.b0;exact uM (Int.le_refl _) rfl);refine uN rfl (bw q ?_);cases (bb n).find? (λp=>gA p.1 a)<;>rfl
theorem RD(b:ByteArray):∀(k i:Nat)(r:List UInt8),k+i=b.size->ByteArray.toList.loop b i r=r.reverse++b.data.toList.drop i:=by intro k;induction k with|zero=>intro i r h;unfold ByteArray.toList.loop;simp_all|succ k d=>
 intro i r h;unfold ByteArray.toList.loop;have a:i<b.size:=by omega
 rw[if_pos a,d (i+1) _ (by omega)];have f:b.data.toList.drop i=b.get! i::b.data.toList.drop (i+1):=by have c:i<b.data.toList.length:=a;rw[List.drop_eq_getElem_cons c];congr 1;have e:i<b.data.size:=a;simp only[ByteArray.get!];grind
 grind
theorem FG(b:ByteArray):b.toList=b.data.toList:=by unfold ByteArray.toList;simp_all[RD]
theorem n7{a b:ByteArray}:ko a b=true↔a=b:=by
 constructor
 · intro h;have c:a.toList=b.toList:=by unfold ko at h;grind
   rw[FG,FG]at c;cases a with|mk x=>simp_all
 grind[ko,xD]
theorem ZJ{a b:ByteArray}:ko a b=false↔a≠b:=by grind[ko,n7]
abbrev gx:Type:=tb
def Nr(a b:gx):Bool:=gA a.1 b.1&&(gA a.2.1 b.2.1&&(gA a.2.2.1 b.2.2.1&&(gA a.2.2.2.1 b.2.2.2.1&&ko a.2.2.2.2.1 b.2.2.2.2.1)))
theorem KZ{a b:gx}:Nr a b=true↔a=b:=by obtain⟨j,f,a3,a4,d,u⟩:=a;obtain⟨c,g,e,h,i,v⟩:=b;unfold Nr;simp only[Bool.and_eq_true,Cr,n7];grind
def Er(a:List gx)(s:gx):Bool:=a.any (λx=>Nr x s)
theorem Pb{a:List gx}{s:gx}:Er a s=true↔s∈a:=by
 unfold Er;rw[List.any_eq_true];constructor;·rintro⟨x,b,e⟩;rw[<-KZ.1 e];exact b
 ·intro h;exact⟨s,h,KZ.2 rfl⟩
def B6(a:List gx)(s:gx):List gx:=bif !Er a s then a++[s]else a
theorem Pc{a:List gx}{s x:gx}:x∈B6 a s↔x∈a\/x=s:=by unfold B6;cases h:Er a s with|true=>have :=Pb.1 h;grind|false=>simp
theorem ev:∀{l a:List gx}{x:gx},x∈l.foldl B6 a↔x∈a\/x∈l|[],a,x=>by simp|s::r,a,x=>by rw[List.foldl_cons,ev,Pc,List.mem_cons];grind
theorem JJ(a:List gx)(s:gx):(B6 a s).length<=a.length+1:=by unfold B6;grind
theorem Ih:∀(l a:List gx),(l.foldl B6 a).length<=a.length+l.length|[],a=>by simp|s::r,a=>by have c:=Ih r (B6 a s);have b:=JJ a s;grind
theorem Ns(a:List gx)(s:gx)(d:Al a.length):Kn ((a,()),(s,()))=some (B1 (Er a s)):=by have c:=Cj (S:=Int×Unit) a (λx=>Nr x s) (f:=Kn.b0 ((a,()),(s,()))) (λk=>(k,())) (Sum.inl ((a.length:Int),())) (Sum.inr (B1 true)) (λi b=>by unfold Kn.b0;refine uL (Int.ofNat_lt.2 b) (bw (cB b) ?_);rw[<-wG b d];rfl) (by unfold Kn.b0;exact uM (Int.le_refl _) rfl);unfold Kn;refine bw c ?_;unfold Er;grind
def p0(a:Int)(q:k0):List gx:=q.2.2.1.map (λw=>((1,(a,(q.1,(q.2.1,(w.1,()))))):gx))
def sT(a:Int)(t:vc):List gx:=(List.zip t.2.1 t.2.2.1).map (λp=>((2,(a,(t.1,(p.2.1,(p.1.1,()))))):gx))
def sG(a:Int)(b:an):List gx:=p0 a (i0 b)++sT a (re b)
def Ef(m:ie):List gx:=(bif !ko (IE m).2.2.1 ⟨#[]⟩then[((1,(m.2.2.1,((IE m).1,((IE m).2.1,((IE m).2.2.1,()))))):gx)]else[])++((bif !ko (IF m).2.2.1 ⟨#[]⟩then[((2,(m.2.2.1,((IF m).1,((IF m).2.1,((IF m).2.2.1,()))))):gx)]else[])++(p0 m.2.2.1 (mQ m)++(sT m.2.2.1 (mT m)++(n6 m).flatMap (sG m.2.2.1))))
theorem EI(a:Int)(q:k0):(p0 a q).length=List.length q.2.2.1:=by simp_all[gx,p0,D9]
theorem Hm(a:Int)(t:vc):(sT a t).length=min (List.length t.2.1) (List.length t.2.2.1):=by simp_all[gx,sT,D9,D3]
theorem Uq(a:Int)(q:k0)(k:Nat)(h:k<(p0 a q).length)(b:k<List.length q.2.2.1):(p0 a q)[k]=((1,(a,(q.1,(q.2.1,((q.2.2.1[k]).1,()))))):gx):=List.getElem_map ..
theorem Ur(a:Int)(t:vc)(k:Nat)(h:k<(sT a t).length)(c:k<List.length t.2.1)(b:k<List.length t.2.2.1):(sT a t)[k]=((2,(a,(t.1,((t.2.2.1[k]).1,((t.2.1[k]).1,()))))):gx):=by simp_all[D9,D3,gx,sT]
theorem K0(a:Int){b:an}{k:Nat}(d:List.length (i0 b).2.2.1<=k)(c:List.length (re b).2.1<=k):(sG a b).length<=2*k:=by unfold sG;rw[List.length_append,EI,Hm];omega
theorem Nt(b:List gx)(a:Int)(q:k0)(h:b.length+List.length q.2.2.1<=1000000):Ko ((b,()),((a,()),(q,())))=some ((b++p0 a q,()),()):=by
 have g:=EI a q;have i:=cK (f:=Ko.b0 ((b,()),((a,()),(q,())))) (λk=>(b++(p0 a q).take k,((k:Int),()))) (List.length q.2.2.1) (e:=Sum.inl (b++p0 a q,((List.length q.2.2.1:Int),()))) (λk c=>by
 unfold Ko.b0;refine uL (Int.ofNat_lt.2 c) (bw (cB c) (Cm ?_ (by decide) (by decide) (DQ ?_ (wG (n:=List.length q.2.2.1) c (by omega)))));·grind
 · have d:k<(p0 a q).length:=by omega
   show (b++(p0 a q).take k)++[_]=b++(p0 a q).take (k+1);rw[List.take_succ_eq_append_getElem d,<-List.append_assoc];rw[Uq a q k d c]) (by unfold Ko.b0;refine uM (Int.le_refl _) ?_;grind);unfold Ko;grind
theorem Nu(b:List gx)(a:Int)(t:vc)(j:b.length+List.length t.2.1<=1000000):Kp ((b,()),((a,()),(t,())))=some ((b++sT a t,()),()):=by
 have i:=Hm a t;have l:=cK (f:=Kp.b0 ((b,()),((a,()),(t,())))) (λk=>(b++(sT a t).take k,((k:Int),()))) (sT a t).length (e:=Sum.inl (b++sT a t,(((sT a t).length:Int),()))) (λk g=>by
 have c:k<List.length t.2.1:=by omega
 have d:k<List.length t.2.2.1:=by omega
 unfold Kp.b0;refine uL (Int.ofNat_lt.2 c) (uL (Int.ofNat_lt.2 d) (bw (cB d) (bw (cB c) (Cm ?_ (by decide) (by decide) (DQ ?_ (wG (n:=List.length t.2.1) c (by omega)))))));·grind
 ·show (b++(sT a t).take k)++[_]=b++(sT a t).take (k+1);rw[List.take_succ_eq_append_getElem g,<-List.append_assoc];rw[Ur a t k g c d]) (by
 unfold Kp.b0;have e:b++(sT a t).take (sT a t).length=b++sT a t:=by grind
 rcases Nat.lt_or_ge (sT a t).length (List.length t.2.1) with h|h;·refine uL (Int.ofNat_lt.2 h) (uM (Int.ofNat_le.2 (show List.length t.2.2.1<=(sT a t).length by omega)) ?_);rw[e]
 ·refine uM (Int.ofNat_le.2 h) ?_;rw[e]);unfold Kp;grind
def ZK(m:ie):Prop:=List.length (mQ m).2.2.1<=1000/\List.length (mT m).2.1<=1000/\(n6 m).length<=400/\∀b∈n6 m,List.length (i0 b).2.2.1<=1000/\List.length (re b).2.1<=1000
theorem ri(d:Int):∀(a:List an),(∀b∈a,List.length (i0 b).2.2.1<=1000/\List.length (re b).2.1<=1000)->(a.flatMap (sG d)).length<=2000*a.length|[],_=>Nat.zero_le _|b::r,h=>by rw[List.flatMap_cons,List.length_append,List.length_cons];have g:=ri d r (λc f=>h c (by grind));have e:=K0 d (h b (by simp)).1 (h b (by simp)).2;omega
theorem Us(m:ie)(h:ZK m)(t:Al (n6 m).length):LH (m,())=some ((Ef m,()),()):=by
 obtain⟨E,z,v,q⟩:=h;let A:List gx:=(bif !ko (IE m).2.2.1 ⟨#[]⟩then[((1,(m.2.2.1,((IE m).1,((IE m).2.1,((IE m).2.2.1,()))))):gx)]else[]);let B:List gx:=(bif !ko (IF m).2.2.1 ⟨#[]⟩then[((2,(m.2.2.1,((IF m).1,((IF m).2.1,((IF m).2.2.1,()))))):gx)]else[]);have y:A.length<=1:=by grind
 have w:B.length<=1:=by grind
 have l:∀(R:Type),(bif !ko (IE m).2.2.1 ⟨#[]⟩then (SG ((m.2.2.1,()),(IE m,()))).bind λg=>bif dE (List.length ([]:List gx)+List.length ([g.1]:List gx)) 48 then some (.inl (bV ([]:List gx) ([g.1]:List gx),()))else none else some (.inl (([]:List gx),())))=some (Sum.inl (A,()):Sum (List gx×Unit) R):=by intro R;show _=some (Sum.inl ((bif !ko (IE m).2.2.1 ⟨#[]⟩then[_]else[]),()));cases ko (IE m).2.2.1 ⟨#[]⟩<;>rfl
 have p:∀(R:Type),(bif !ko (IF m).2.2.1 ⟨#[]⟩then (SJ ((m.2.2.1,()),(IF m,()))).bind λe=>bif dE (List.length A+List.length ([e.1]:List gx)) 48 then some (.inl (bV A ([e.1]:List gx),())) else none else some (.inl (A,())))=some (Sum.inl (A++B,()):Sum (List gx×Unit) R):=by intro R;show _=some (Sum.inl (A++(bif !ko (IF m).2.2.1 ⟨#[]⟩then[_]else[]),()));cases ko (IF m).2.2.1 ⟨#[]⟩with|true=>simp|false=>exact bw rfl (Cm (by grind) (by decide) (by decide) rfl)
 unfold LH;refine bw (l _) (bw (p _) (bw (Nt (A++B) m.2.2.1 (mQ m) (by grind)) (bw (Nu (A++B++p0 m.2.2.1 (mQ m)) m.2.2.1 (mT m) (by rw[List.length_append,List.length_append,EI];omega)) ?_)));generalize d:A++B++p0 m.2.2.1 (mQ m)++sT m.2.2.1 (mT m)=O;have u:O.length<=3000:=by rw[<-d,List.length_append,List.length_append,List.length_append,EI,Hm];omega
 have o:=xL (S:=List gx×(Int×Unit)) (n6 m) (λs b=>s++sG m.2.2.1 b) (λi s=>s.length<=3000+2000*i) (f:=LH.b0 (m,())) (λs k=>(s,(k,()))) (λs=>Sum.inl (s,(((n6 m).length:Int),()))) O (by omega) (λi a s x=>by have j:=q _ (List.getElem_mem a);have C:=K0 m.2.2.1 j.1 j.2;refine⟨?_,by grind⟩;unfold LH.b0;refine uL (Int.ofNat_lt.2 a) (bw (cB a) (bw (Nt s m.2.2.1 (i0 (n6 m)[i]) (by omega)) (bw (cB a) (bw (Nu (s++p0 m.2.2.1 (i0 (n6 m)[i])) m.2.2.1 (re (n6 m)[i]) (by rw[List.length_append,EI];omega)) ?_))));refine DQ ?_ (wG a t);unfold sG;grind) (λs _=>by unfold LH.b0;exact uM (Int.le_refl _) rfl);refine bw o.1 ?_;have n:∀(c:List an) (s:List gx),c.foldl (λs b=>s++sG m.2.2.1 b) s=s++c.flatMap (sG m.2.2.1):=by intro c;induction c with|nil=>grind|cons b r D=>grind
 rw[n,<-d];show some ((_,()),())=some ((Ef m,()),());have :A++B++p0 m.2.2.1 (mQ m)++sT m.2.2.1 (mT m)++(n6 m).flatMap (sG m.2.2.1)=Ef m:=by unfold Ef;grind
 grind
def Hn(a:List gx)(bF:List D9)(m:ie):Bool:=(Ef m).all (λs=>ke bF s.2.2.2.2.1||Er a s)
theorem Ut(a:List gx)(bF:List D9)(m:ie)(h:ZK m)(e:Al (n6 m).length)(d:Al bF.length)(c:Al a.length):LI ((a,()),((bF,()),(m,())))=some (B1 (Hn a bF m)):=by
 have l:(Ef m).length<=1000000:=by obtain⟨q,p,o,j⟩:=h;have :=ri m.2.2.1 (n6 m) j;unfold Ef;rw[List.length_append,List.length_append,List.length_append,List.length_append,EI,Hm];grind
 have g:=BI (S:=Int×Unit) (Ef m) (λs=>ke bF s.2.2.2.2.1||Er a s) (f:=LI.b0 ((Ef m,()),()) ((a,()),((bF,()),(m,())))) (λk=>(k,())) (Sum.inl (((Ef m).length:Int),())) (Sum.inr (B1 false)) (λi b=>by unfold LI.b0;refine uL (Int.ofNat_lt.2 b) (bw (cB b) (bw (qn b) (bw (I5 bF _ d) ?_)));rw[<-wG b (n:=(Ef m).length) (by omega)];dsimp only;cases ke bF (Ef m)[i].2.2.2.2.1 with|true=>rfl|false=>refine cl rfl (bw (cB b) (bw (qn b) (bw (Ns a _ c) ?_)));grind) (by unfold LI.b0;exact uM (Int.le_refl _) rfl);unfold LI Hn;refine bw (Us m h e) (bw g ?_);grind
abbrev fk(w:ee):ek:=(w.1,(w.2.1,()))
abbrev df(w:ee):List D9:=w.2.2.1
abbrev aa(w:ee):List ao:=w.2.2.2.1
abbrev ab(w:ee):List an:=w.2.2.2.2.1
abbrev hH(w:ee):List gx:=w.2.2.2.2.2.1
abbrev gl(w:ee):List ie:=w.2.2.2.2.2.2.1
abbrev IS(w:ee)(b:List ao)(a:List an)(d:List gx)(c:List ie):ee:=(w.1,(w.2.1,(w.2.2.1,(b,(a,(d,(c,())))))))
def wt(a:List ao)(s:ByteArray):Bool:=a.any (λn=>ko n.1 s)
def RE(a:List ao)(s:ByteArray):Int:=nY a (λn=>ko n.1 s)
def FH(b:List ao)(a:List ie)(m:ie):List ie:=bif wt b m.2.1&&dO (a.length:Int) 400 then a++[m]else a
def Fc(w:ee)(ms:List ie)(a:List gx):ee:=IS w (aa w) (ab w) (a.foldl B6 (hH w)) (ms.foldl (FH (aa w)) (gl w))
theorem Uu(a:List ao)(s:ByteArray):km 0 (RE a s)=wt a s:=AG
theorem RF(a:List ao)(s:ByteArray):(wt a s=false/\RE a s=-1)\/∃(j:Nat)(c:j<a.length),ko a[j].1 s=true/\wt a s=true/\RE a s=(j:Int):=by
 unfold wt RE;rcases mA a (λn=>ko n.1 s)with⟨d,_,b⟩|⟨j,c,e,_,d,_,b⟩;·grind
 grind
theorem K1{b:List ao}{a:List ie}{m:ie}(h:a.length<=400):(FH b a m).length<=400:=by unfold FH;cases c:(wt b m.2.1&&dO (a.length:Int) 400)with|false=>exact h|true=>simp only[Bool.and_eq_true]at c;have :=Cp.1 c.2;grind
theorem JK{b:List ao}:∀{ms a:List ie},a.length<=400->(ms.foldl (FH b) a).length<=400|[],a,h=>h|m::r,a,h=>by rw[List.foldl_cons];exact JK (K1 h)
theorem ow{b:List ao}:∀{ms a:List ie}{x:ie},x∈ms.foldl (FH b) a->x∈a\/(x∈ms/\wt b x.2.1=true)
 |[],a,x,h=>.inl h|m::r,a,x,h=>by
  rw[List.foldl_cons]at h;rcases ow h with h|h;·unfold FH at h;grind
  grind
theorem Ho(w:ee)(ms:List ie)(a:List gx)(j:Al (aa w).length)(e:Al ms.length)(g:Al a.length)(d:(gl w).length<=400)(m:(hH w).length+a.length<=1000000):zl (w,((ms,()),((a,()),())))=some (Fc w ms a,()):=by have h:=xL (S:=Int×(List ie×Unit)) ms (FH (aa w)) (λ_ s=>s.length<=400) (f:=zl.b0 (w,((ms,()),((a,()),())))) (λs k=>(k,(s,()))) (λs=>Sum.inl ((ms.length:Int),(s,()))) (gl w) d (λi b s c=>by refine⟨?_,K1 c⟩;unfold zl.b0 FH;refine uL (Int.ofNat_lt.2 b) (bw (cB b) (bw (G4 _ ms[i].2.1 j) ?_));rw[<-wG b e];show (bif km 0 (RE (aa w) ms[i].2.1) then _ else _)=_;rw[Uu];cases wt (aa w) ms[i].2.1 with|false=>rfl|true=>refine cl rfl ?_;show (bif dO (s.length:Int) 400 then _ else _)=_;cases dO (s.length:Int) 400 with|false=>rfl|true=>exact cl rfl (bw (cB b) (Cm (by grind) (by decide) (by decide) rfl))) (λs _=>by unfold zl.b0;exact uM (Int.le_refl _) rfl);have l:=xL (S:=Int×(List gx×Unit)) a B6 (λi s=>s.length<=(hH w).length+i) (f:=zl.b1 (w,((ms,()),((a,()),())))) (λs k=>(k,(s,()))) (λs=>Sum.inl ((a.length:Int),(s,()))) (hH w) (Nat.le_refl _) (λi b s c=>by refine⟨?_,Nat.le_trans (JJ _ _) (by omega)⟩;unfold zl.b1 B6;refine uL (Int.ofNat_lt.2 b) (bw (cB b) (bw (Ns s a[i] (by omega)) ?_));rw[<-wG b g];dsimp only;cases Er s a[i]with|true=>rfl|false=>exact cl rfl (bw (cB b) (Cm (by grind) (by decide) (by decide) rfl))) (λs _=>by unfold zl.b1;exact uM (Int.le_refl _) rfl);unfold zl;exact bw h.1 (bw l.1 rfl)
structure WI(E S:Nat)(w:ee):Prop where
 Ic:(Ty.sl cf).Ok (fk w).2.1
 HV:ct (fk w).2.1
 Hg:bk (fk w)=true
 fo:(Ty.sl e9).Ok (df w)Vr:(df w).length<=20
 nl:(aa w).length<=12
 nd:∀n∈aa w,NW n/\n.2.1<=(E:Int)bo:(Ty.sl lf).Ok (ab w)bl:(ab w).length<=1000
 bL:∀b∈ab w,e8 b
 so:(Ty.sl J3).Ok (hH w)sl:(hH w).length<=S
 nt:(gl w).length<=400
 nm:∀m∈gl w,GL m/\wt (aa w) m.2.1=true
theorem WI.up{E S c b:Nat}{w:ee}(h:WI E S w)(e:E<=c)(d:S<=b):WI c b w:=⟨h.Ic,h.HV,h.Hg,h.fo,h.Vr,h.nl,λn a=>⟨(h.nd n a).1,by have :=(h.nd n a).2;omega⟩,h.bo,h.bl,h.bL,h.so,Nat.le_trans h.sl d,h.nt,h.nm⟩
theorem Uv{a:List ao}{j:Nat}{n:ao}(c:j<a.length)(e:n.1=a[j].1)(s:ByteArray):wt (a.set j n) s=wt a s:=by
 have h:(a.set j n).map (λx=>x.1)=a.map (λx=>x.1):=by
  rw[List.map_set,e];apply List.ext_getElem;·simp
  grind
 have b:∀l:List ao,wt l s=(l.map (λx=>x.1)).any (λx=>ko x s):=λl=>by unfold wt;grind
 grind
def lb(w:ee)(j:Nat)(n:ao):ee:=IS w ((aa w).set j n) (ab w) (hH w) (gl w)
theorem B7{E S:Nat}{w:ee}(h:WI E S w){j:Nat}(c:j<(aa w).length){n:ao}(e:n.1=(aa w)[j].1)(f:NW n)(g:n.2.1<=(E:Int)):WI E S (lb w j n):=by
 refine⟨h.Ic,h.HV,h.Hg,h.fo,h.Vr,?_,λx d=>?_,h.bo,h.bl,h.bL,h.so,h.sl,h.nt,λm a=>⟨(h.nm m a).1,?_⟩⟩;·show ((aa w).set j n).length<=12;rw[List.length_set];exact h.nl
 · rcases List.mem_or_eq_of_mem_set d with b|rfl;· exact h.nd x b
   grind
 · show wt ((aa w).set j n) m.2.1=true;rw[Uv c e];exact (h.nm m a).2
theorem FI{E S:Nat}{w:ee}(h:WI E S w){ms:List ie}{b:List gx}(e:∀m∈ms,GL m)(i:∀s∈b,J3.Ok s)(g:S<=900000)(j:b.length<=1):WI E (S+1) (Fc w ms b):=by
 have d:=Ih b (hH w);have f:=h.sl;refine⟨h.Ic,h.HV,h.Hg,h.fo,h.Vr,h.nl,h.nd,h.bo,h.bl,h.bL,?_,?_,JK h.nt,λm c=>?_⟩
 · refine Dk (Nat.le_trans d (show (hH w).length+b.length<=9223372036854775807 by omega)) (λs c=>?_);rcases ev.1 c with a|a;· exact Ae h.so.2 a
   grind
 · show (b.foldl B6 (hH w)).length<=S+1;omega
 · rcases ow c with a|a;· exact h.nm m a
   · exact⟨e m a.1,a.2⟩
theorem HW{a:List e6}{name:ByteArray}{m:ie}{b:Int}(d:(Ty.sl Fp).Ok a)(h:∀v∈a,GL (EC m v.1 b)):∀x∈pt a name m b,GL x:=by intro x c;unfold pt at c;grind
theorem Nv{n:ao}{b:an}(e:NW n)(c:lf.Ok b)(f:e8 b)(g:n.2.1<890):(∀m∈(hW n b).2.1,GL m)/\(∀s∈(hW n b).2.2,J3.Ok s)/\(hW n b).2.2.length<=1/\(hW n b).2.1.length<=1048576:=by
 obtain⟨a,l⟩:=py e c f g;have d:=KY n b a.v.h.l.2.1;refine⟨?_,?_,d.2,d.1⟩;·unfold hW;cases Ee n b with|false=>grind|true=>exact HW a.v.h.ok.set (λv j=>⟨⟨rfl,(Ae a.v.h.ok.set.2 j).1,a.v.h.ok.2.1,CK,c.2.2.1,c.1,a.v.h.ok.1,rfl,rfl,Nat.zero_le _,rfl,rfl,CK,rfl,CK,CK,trivial⟩,⟨Nat.zero_le _,(λx k=>by cases k),Nat.zero_le _,Nat.zero_le _,Nat.zero_le _⟩,λh=>by cases h⟩)
 ·unfold hW;cases Ee n b with|false=>grind|true=>intro s i;rw[List.mem_singleton.1 i];exact⟨rfl,e.v.h.ok.2.1,c.2.2.1,c.1,a.v.h.ok.1,trivial⟩
theorem Nw{n:ao}{m:ie}(f:NW n)(a:GL m)(d:n.2.1<890):(∀x∈(fz n m).2.1,GL x)/\(∀s∈(fz n m).2.2,J3.Ok s)/\(fz n m).2.2.length<=1/\(fz n m).2.1.length<=1048576:=by have g:(∀x∈([]:List ie),GL x)/\(∀s∈([]:List gx),J3.Ok s)/\([]:List gx).length<=1/\([]:List ie).length<=1048576:=⟨(λx h=>by cases h),(λx h=>by cases h),Nat.zero_le _,Nat.zero_le _⟩;unfold fz;cases e:gA m.1 1 with
 |true=>have i:=a.pr (Cr.1 e);cases j:n6 m with|nil=>grind|cons b r=>have c:=a.ok.kp a.l b (by grind);exact Nv f c.1 c.2 d
 |false=>grind
theorem K2{n:ao}(a:NW n):(∀x∈(fp n).2.1,GL x)/\(∀s∈(fp n).2.2,J3.Ok s)/\(fp n).2.2.length<=1/\(fp n).2.1.length<=1048576:=by have b:=a.v.h.ok.EO a.v.h.l;have d:=a.v.h.ok.set;have c:=a.v.h.ok;unfold fp;cases(F6 (ar n) n.1&&!dO (ad n) (fl n)) with|false=>grind|true=>refine⟨HW d (λv f=>⟨⟨rfl,(Ae d.2 f).1,c.2.1,CK,rfl,rfl,Nat.zero_le _,a.v.h.round,b.i1,c.1,b.i1,b.i2,b.ok,rfl,CK,CK,trivial⟩,⟨Nat.zero_le _,(λx g=>by cases g),b.w,Nat.zero_le _,Nat.zero_le _⟩,λh=>by cases h⟩),λs e=>?_,Nat.le_refl _,Nat.le_trans (E6 _ _ _ _) a.v.h.l.2.1⟩;rw[List.mem_singleton.1 e];exact⟨rfl,c.2.1,a.v.h.round,b.i1,c.1,trivial⟩
theorem Hp{n:ao}{a:Int}(f:NW n)(g:(Lit.int .i64 a).wf=true)(i:n.2.1<890):(∀x∈(ej n a).2.2.1,GL x)/\(∀s∈(ej n a).2.2.2,J3.Ok s)/\(ej n a).2.2.2.length<=1/\(ej n a).2.2.1.length<=2097152/\((ej n a).2.1=[]/\(ej n a).1=n\/(ej n a).2.1=[i4 n a]/\gq (i4 n a)=true):=by have h:=f.v.h;obtain⟨e,d⟩:=uf h g;have k:=wc f h.round;obtain⟨t,l,o,u⟩:=Nv k e d i;have c:=h.ok.set;have q:=h.ok;unfold ej;cases j:Gj n a with|false=>grind|true=>
 refine⟨λx b=>?_,l,o,?_,.inr ⟨rfl,?_⟩⟩
 · rcases List.mem_append.1 b with b|b;· exact HW (m:=rm (i4 n a) n.2.1) c (λv r=>⟨⟨rfl,(Ae c.2 r).1,q.2.1,Dk (by decide:1<=9223372036854775807) (λy p=>by rw[List.mem_singleton.1 p];exact e),rfl,rfl,Nat.zero_le _,rfl,rfl,Nat.zero_le _,rfl,rfl,CK,rfl,CK,CK,trivial⟩,⟨(by decide:1<=1048576),(λx b=>by rw[List.mem_singleton.1 b];exact d),Nat.zero_le _,Nat.zero_le _,Nat.zero_le _⟩,λ_ h=>by cases h⟩) x b
   grind
 · show (pt (ar n) n.1 (rm (i4 n a) n.2.1) n.2.1++(hW (qf n (ad n)) (i4 n a)).2.1).length<=2097152;rw[List.length_append];have z:=E6 (ar n) n.1 (rm (i4 n a) n.2.1) n.2.1;have w:(ar n).length<=1048576:=h.l.2.1;omega
 · unfold Gj at j;grind
theorem s8{n:ao}{b:Int}{g:ByteArray}(m:NW n)(j:(Lit.int .i64 b).wf=true)(k:Al g.size)(h:(hM n b g).2.1.1=true):GL (hM n b g).1:=by have e:=m.v.h.ok;have c:=m.v.h.l;have f:=e.EO c;have a:=e.Sm c;unfold hM at h⊢;cases q:gA b n.2.1 with|true=>exact⟨⟨rfl,k,j,e.kA,rfl,rfl,Nat.zero_le _,rfl,rfl,Nat.zero_le _,f.i1,f.i2,f.ok,a.i1,a.ok,a.hi,trivial⟩,⟨c.2.2.1,c.2.2.2.1,f.w,a.w,a.wh⟩,λh=>by cases h⟩|false=>rw[q]at h;cases o:(bb n).find? (λp=>gA p.1 b)with|none=>grind|some p=>have l:=List.mem_of_find?_eq_some o;have i:HN p:=c.2.2.2.2.2.2.2.2.2.2.2.2 p l;have d:Mz.Ok p:=Ae e.2.2.2.2.2.2.2.2.2.2.2.2.2.2.2.2.2.2.2.1.2 l;simp only[cond_false];exact⟨⟨rfl,k,j,d.2.1,rfl,rfl,Nat.zero_le _,rfl,rfl,Nat.zero_le _,d.2.2.1,d.2.2.2.1,d.2.2.2.2.1,rfl,CK,CK,trivial⟩,⟨i.1,i.2.1,i.2.2,Nat.zero_le _,Nat.zero_le _⟩,λh=>by cases h⟩
end Go.Proofs.YthjkikiepdnimaaGreat
