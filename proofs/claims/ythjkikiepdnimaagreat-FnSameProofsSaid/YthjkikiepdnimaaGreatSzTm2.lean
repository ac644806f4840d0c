/- A machine over plain data, part 2: what it gives is shown to be what the program's functions return. Conditions: none. -/
import Derived.Test.YthjkikiepdnimaaGreatSzTm1
import Derived.Calls
import Derived.LoopN
import Derived.ChangeArms
import Derived.ChangeShapes
import Derived.WideShapes
import Derived.Below
set_option linter.unusedVariables false
set_option linter.unusedSimpArgs false
set_option linter.constructorNameAsVariable false
namespace Go.Tm
open Go
section
variable{P:Program}{C:Ctx}{env:Nat->TV}{mu mu':Mu}{a:Act}{w w':World}{g g':Gh}{o o':Nat->Nat->ax}{idb:Nat}{R:Type}{Q:Exit->Act->World->Prop}
theorem iE{t b ty e:TypeId}{i:TypeInfo}(l:P.underlying t=some (.slice e)){a:TypeDesc}(f:P.underlying b=some a)(g:(∃d,a=.slice d)\/a=.string)(m:P.info? e=some i){x:Value}{n c:Nat}{ad:Option Addr}(k:(Builtin.lenOf x).run P w=.ok 0 w)(j:(Builtin.firstCells i.size 0 x).run P w=.ok #[] w)(h:n<=c):(Builtin.append_ #[t,b] ty #[.slice ad n c,x]).run P w=.ok (.slice ad n c) w:=by cases ad<;>rcases g with⟨d,rfl⟩|rfl<;>simp[Builtin.append_,run_underlying l,run_underlying f,sizeOf,typeInfo,m,k,j,h,storeCells]
theorem jY(s:bG P C env mu a w g idb){t Y ty e:TypeId}{c:TI}(τ:cN C t=some (e,c)){N:TypeDesc}(B:P.underlying Y=some N)(A:(∃ψ,N=.slice ψ)\/N=.string){es:af}(ae:es.len=c.size){ms:List Md}{f:List (Nat×av)}{x:CV}{vx:Value}{xs ys:List es.D}{r:List Value}(b:Src P w g mu es ms f x vx ys r){sid J:Option Nat}(T:∀L,x=.own L->f≠[]->J=some L/\sid≠some L)(U:∀id b',(id,b')∈f->b'=.aB/\J=some id)(α:∀id,J=some id->(id,av.aB)∈f){ad:Option Addr}{cap:Nat}(ab:xs.length<=cap){olds:List Value}(D:olds.length=xs.length*es.len)(S:∀i y,aC xs i=some y->∃id,sid=some id/\es.Vs P w g.o ms (λj=>.o [id,i,j]) 0 y ((olds.drop (i*es.len)).take es.len))(M:(xs=[]/\cap=0)\/∃p id,ad=some p/\nc p cap/\sid=some id/\(∀k,k<cap*es.len->g.o p.block (p.off+k)=.o [id])/\∀k v,olds[k]?=some v->w.cell? ⟨p.block,p.off+k,none⟩=some v)(q:dE (xs.length+ys.length) c.bytes=true):∃v w' g',(Builtin.append_ #[t,Y] ty #[.slice ad xs.length cap,vx]).run P w=.ok v w'/\eL P w g mu w' g' (au mu (dw f sid idb (.row es ms (bV xs ys) 0)))/\(CV.own idb).R P w' g' (au mu (dw f sid idb (.row es ms (bV xs ys) 0))) v:=by
 obtain⟨F,δ,_,_⟩:=fe s.ty τ;obtain⟨V,d,z,E,h2,φ,h4,aa,ω,h7,h8,_⟩:=cH (s.ty e c δ);have I:V.size=es.len:=by omega
 have q:(xs.length+ys.length)*c.bytes<=70368744177664/\0<c.bytes:=of_decide_eq_true q;have G:=b.cells;have ρ:=b.size;by_cases W:xs.length+ys.length<=cap
 · have γ:(bV xs ys=[]/\cap=0)\/∃p id,ad=some p/\nc p cap/\sid=some id/\(∀k,k<cap*es.len->g.o p.block (p.off+k)=.o [id])/\∀k v,olds[k]?=some v->w.cell? ⟨p.block,p.off+k,none⟩=some v:=by
    rcases M with⟨h,Z⟩|h;· simp_all [af.D,bV,nc,af.len,Gh.o]
    grind
   obtain⟨b0,off,g',hb,ai,X,K,O⟩:=zY s b T U α D S W γ;refine⟨_,_,g',?_,K,O⟩;rcases M with⟨κ,Z⟩|⟨p,id,hp,Q,aj,_,_⟩
   · have m:ys.length=0:=by omega
     have u:xs.length=0:=by omega
     have H:=X Z;have l:=b.len;have n:=G w λ_ _ _ h=>h;rw [m] at l n;rw [H] at n⊢;rw [m,u,Nat.add_zero];exact iE F B A E l (by grind) (by omega)
   · subst hp;have ε:=hb p rfl;cases ε;by_cases π:cap=0
     · have m:ys.length=0:=by omega
       have u:xs.length=0:=by omega
       have H:=X π;have l:=b.len;have n:=G w λ_ _ _ h=>h;rw [m] at l n;rw [H] at n⊢;rw [m,Nat.add_zero];exact iE F B A E l (by grind) (by omega)
     · exact jI F B A E b.len (by rw [I];exact G w λ_ _ _ h=>h) W Q.1 (by grind)
 · have θ:=grownCap_ge w (xs.length+ys.length) cap e;have σ:(olds++r++(Builtin.zeroCells z.cells (grownCap w (xs.length+ys.length) cap e-(xs.length+ys.length))).toList).length=grownCap w (xs.length+ys.length) cap e*es.len:=by simp only [List.length_append,Array.length_toList,size_zeroCells,D,ρ,ω,I];rw [<-Nat.add_mul,<-Nat.add_mul];grind
   have ag:xs.length+ys.length<=(xs.length+ys.length)*c.bytes:=Nat.le_mul_of_pos_right _ q.2;have μ:grownCap w (xs.length+ys.length) cap e<=9223372036854775807:=by have :=grownCap_le_maxLen w (xs.length+ys.length) cap e (by unfold maxLen;omega);unfold maxLen at this;omega
   obtain⟨g',K,O⟩:=yF s b T U α D S θ μ σ e;refine⟨_,_,g',?_,K,O⟩;have e1:(olds++r++(Builtin.zeroCells z.cells (grownCap w (xs.length+ys.length) cap e-(xs.length+ys.length))).toList).toArray=olds.toArray++(r.toArray++Builtin.zeroCells z.cells (grownCap w (xs.length+ys.length) cap e-(xs.length+ys.length))):=by simp_all
   rw [e1];have ah:xs.length+ys.length<=(xs.length+ys.length)*c.bytes:=Nat.le_mul_of_pos_right _ q.2;refine nC F B A E φ ?_ b.len (by simp_all) (by omega) (by omega) ?_
   · rcases M with⟨κ,_⟩|⟨p,id,hp,Q,_,_,β⟩
     · have u:xs.length=0:=by omega
       have ho:olds=[]:=List.eq_nil_of_length_eq_zero (by grind);rw [ho,u];cases ad with|none=>simp [Builtin.firstCells]|some p=>have :=run_firstCells_some (P:=P) w.drew V.size 0 p 0 cap [] (by simp) (by simp);omega
     · subst hp;rw [I];exact fU Q.1 D λk v hk=>β k v hk
   · refine growslice_fits (by omega) ?_;grind
theorem vd(s:bG P C env mu a w g idb){o:Oper}{c:Call}(ho:o.op=.call c)(hc:c.callee=.builtin .append){K:TV->List (Nat×av)->Option R}{y:R}{rid i:Nat}(h:aZ C mu idb rid i .append c.argTypes.toList (c.args.toList.map (ae env)) K=some y):o.wp P a w (bt P w g mu a o.dst K y) Q:=by
 unfold aZ at h;split at h;·grind
 ·grind
 ·grind
 · rename_i Y l _ ab;split at h
   · rename_i t T ah;split at h;· rename_i e γ Z E aa;cases N:yg Z.k with|false=>grind|true=>
      rw[N,cond_true]at h;obtain⟨ht,aj,J,_⟩:=fe s.ty E;obtain⟨ag,U,z2,_,S,_,_,_,_,_,_,δ,_⟩:=cH (s.ty T Z aa);have O:(∃e2,U=.slice e2)\/U=.string:=by rw[δ]at N;cases U<;>simp[cP,yg]at N⊢
      have ω:c.argTypes=#[t,T]:=by grind
      obtain⟨b,m,π,ρ,σ⟩:∃b m,c.args=#[b,m]/\ae env b=.c Y/\ae env m=.c l:=by cases hl:c.args.toList with|nil=>grind|cons b r=>cases r with|nil=>grind|cons m r=>cases r with|cons _ _=>grind|nil=>grind
      have F:=aw s.env b;rw[ρ]at F;have L:=aw s.env m;rw[σ]at L;have M:∀{v w' g' ms},(Builtin.append_ #[t,T] o.type #[a.eval b,a.eval m]).run P w=.ok v w'->K (.c (.own idb)) ms=some y->eL P w g mu w' g' (au mu ms)->(CV.own idb).R P w' g' (au mu ms) v->o.wp P a w (bt P w g mu a o.dst K y) Q:=by intro v w' g' ms ε hK hn q;refine ja (v:=v) (w':=w') ?_ ⟨.c (.own idb),ms,v,g',rfl,hK,hn,q⟩;simp[execOp,ho,resolve,hc,π,ω,invoke,builtin,ε]
      have W:∀{es:af}{ms:List Md}{d:List (Nat×av)}{ys:List es.D}{D:List Value}{sid:Option Nat},Src P w g mu es ms d l (a.eval m) ys D->(∀f,l=.own f->d≠[]->sid≠some f)->∃u:Option Nat,(∀f,l=.own f->d≠[]->u=some f/\sid≠some f)/\(∀id b',(id,b')∈d->b'=.aB/\u=some id)/\(∀id,u=some id->(id,av.aB)∈d):=by
       intro es ms d ys D sid hs an;rcases hs.CR with ⟨_,rfl,_⟩|⟨f,aF,hx,_,rfl,_⟩;· exact ⟨none,λ_ _ h=>absurd rfl h,by simp,by simp⟩
       simp_all
      unfold gU at h;cases Y<;>simp only at h<;>try grind
      case cg=>cases z:iC mu (C.iL rid i) l with|none=>grind|some d=>simp only[z]at h;obtain ⟨ys,D,h,n⟩:=wX s.dr L z h;cases q:dE ys.length γ.bytes with|false=>grind|true=>rw[q,cond_true]at h;obtain ⟨u,I,H,G⟩:=W (sid:=none) n (λ_ _ _ h=>by cases h);obtain ⟨v,w',g',β,x,A⟩:=jY s (ty:=o.type) E S O J n I H G (xs:=[]) (ad:=none) (cap:=0) (olds:=[]) (Nat.le_refl _) (by simp) (by simp[aC]) (.inl ⟨rfl,rfl⟩) (by grind);have F:a.eval b=.slice none 0 0:=F;exact M (by grind) h x A
      case own id=>obtain ⟨_,ak,_⟩:=F;cases α:mu id with|none=>grind|some bl=>
      have ψ:=s.dr id bl α;cases bl<;>simp only[α]at h<;>try grind
      case row τ X xs aF=>cases he:af.eq? τ (C.es e) with|none=>grind|some p=>obtain ⟨p⟩:=p;subst p;simp only[he]at h;cases z:iC mu X l with|none=>grind|some d=>simp only[z]at h;cases hg:mI id l with|true=>grind|false=>rw[hg,cond_false]at h;obtain ⟨ys,D,h,n⟩:=wX s.dr L z h;cases q:dE (xs.length+ys.length) γ.bytes with|false=>grind|true=>
      have aq:=q;have h:K (.c (.own idb)) (d++[(id,.aB),(idb,.row (C.es e) X (bV xs ys) 0)])=some y:=by simp_all[Ctx.es,bV,af.D,cX,dE,TI.bytes]
      obtain ⟨u,I,H,G⟩:=W (sid:=some id) n (λf h1 _ h2=>by simp_all[mI]);obtain ⟨v',ao,B⟩:=ψ;have al:v'=a.eval b:=by grind
      obtain ⟨ad,V,hv,κ,B⟩:=bI.1 B;have ai:a.eval b=.slice ad xs.length V:=by grind
      rcases B with ⟨rfl,μ⟩|⟨p,hp,φ,θ,B⟩;· obtain ⟨v,w',g',β,x,A⟩:=jY s (ty:=o.type) E S O J n I H G (xs:=[]) (ad:=ad) (cap:=V) (olds:=[]) (Nat.zero_le _) (by simp) (by simp[aC]) (.inl ⟨rfl,μ⟩) (by omega);exact M (by grind) h x A
      · obtain ⟨vals,r1,r2,r3,r4⟩:=ez (qf:=λi j=>.o ([id]++[i,j])) xs p.off 0 (by simpa using B);obtain ⟨v,w',g',β,x,A⟩:=jY s (ty:=o.type) E S O J n I H G (xs:=xs) (ad:=ad) (cap:=V) (olds:=vals) κ r1 (λi y hy=>⟨id,rfl,by simp_all⟩) (.inr ⟨p,id,hp,φ,rfl,θ,λk v hk=>(r2 k v hk).1⟩) q;exact M (by grind) h x A
     grind
   grind
 grind
end
end Go.Tm
namespace Go.Tm
open Go
section
variable{P:Program}{C:Ctx}{env:Nat->TV}{mu mu':Mu}{a:Act}{w w':World}{g g':Gh}{o o':Nat->Nat->ax}{idb:Nat}{R:Type}{Q:Exit->Act->World->Prop}
theorem rj(s:bG P C env mu a w g idb){o:Oper}{t e:Nat}{x:Operand}(ho:o.op=.convert t e x){K:TV->List (Nat×av)->Option R}{y:R}{m i:TI}(u:C.ty t=some m)(B:C.ty e=some i){k b:IntKind}{n:Int}(D:i.k=.int b)(A:ae env x=.c (.int k n))(h:K (.c (.int b (b.wrap n))) []=some y):o.wp P a w (bt P w g mu a o.dst K y) Q:=by
 obtain⟨F,d,z,_,G,_,_,_,_,_,_,I,_⟩:=cH (s.ty t m u);obtain⟨E,l,H,_,r,_,_,_,_,_,_,j,_⟩:=cH (s.ty e i B);have q:l=.int b:=by rw[D]at j;cases l<;>simp[cP]at j⊢;grind
 subst q;have f:=aw s.env x;rw[A]at f;have f:a.eval x=.int k n:=f;have p:P.intKind e=b:=by simp[Program.intKind,r]
 have :=run_convert_int (P:=P) w t e k n (by grind) (by grind);rw[p]at this;refine aJ s (v:=.int b (b.wrap n)) (tv:=.c (.int b (b.wrap n))) ?_ h rfl;simp[execOp,ho,f,this]
theorem rk(s:bG P C env mu a w g idb){o:Oper}{t i:Nat}{x:Operand}(ho:o.op=.convert t i x){K:TV->List (Nat×av)->Option R}{y:R}{k f:TI}(r:C.ty t=some k)(u:C.ty i=some f){b:ByteArray}(A:f.k=.str)(q:ae env x=.c (.str b))(h:K (.c (.str b)) []=some y):o.wp P a w (bt P w g mu a o.dst K y) Q:=by
 obtain⟨D,d,z,_,p,_,_,_,_,_,_,F,_⟩:=cH (s.ty t k r);obtain⟨B,l,E,_,m,_,_,_,_,_,_,j,_⟩:=cH (s.ty i f u);have n:l=.string:=by rw[A]at j;cases l<;>simp[cP]at j⊢
 subst n;have e:=aw s.env x;rw[q]at e;have e:a.eval x=.string b:=e;refine aJ s (v:=.string b) (tv:=.c (.str b)) ?_ h rfl;simp[execOp,ho,e,convert,run_underlying p,run_underlying m]
theorem nD:∀(a:List Int)(s:ByteArray),a.foldl (λr n=>r.push (UInt8.ofNat n.toNat)) s=⟨s.data++(a.map λn=>UInt8.ofNat n.toNat).toArray⟩|[],s=>by simp|n::a,s=>by rw[List.foldl_cons,nD a];simp_all
theorem jJ(s:bG P C env mu a w g idb){o:Oper}{t l e:Nat}{x:Operand}(ho:o.op=.convert t l x){K:TV->List (Nat×av)->Option R}{y:R}{D A B:TI}(b:C.ty t=some D)(κ:C.ty l=some A)(Z:D.k=.slice e)(δ:C.ty e=some B)(Y:B.k=.int .u8)(r:A.k=.str){cv:CV}(hx:ae env x=.c cv){xs:List aY.D}{ms:Md}{q:ax}(n:(Ty.sl aY).H P w g.o ms q xs (a.eval x))(h:K (.c (.str (bQ xs))) []=some y):o.wp P a w (bt P w g mu a o.dst K y) Q:=by
 obtain⟨σ,d,z,_,α,_,_,_,_,_,_,L,_⟩:=cH (s.ty t D b);obtain⟨ρ,I,τ,_,X,_,_,_,_,_,_,F,_⟩:=cH (s.ty l A κ);obtain⟨μ,J,z3,_,m,_,_,_,_,_,_,E,_⟩:=cH (s.ty e B δ);have T:I=.string:=by rw[r]at F;cases I<;>simp[cP]at F⊢
 have W:d=.slice e:=by rw[Z]at L;cases d<;>simp[cP]at L⊢;grind
 have O:J=.int .u8:=by rw[Y]at E;cases J<;>simp[cP]at E⊢;grind
 subst T;subst W;subst O;have U:∃ad c,a.eval x=.slice ad xs.length c/\(xs=[]\/∃p:Addr,ad=some p/\p.spot=none/\∀k v,(xs.map λu=>Value.int .u8 (ku u))[k]?=some v->w.cell? ⟨p.block,p.off+k,none⟩=some v):=by
  have cells:∀(p:Addr)(ms:List Md)(M:ax)(qf:Nat->Nat->ax),(∀i u,aC xs i=some u->aY.Hs P w g.o ms M (qf i) 0 u p.block (p.off+i*aY.len))->∀k v,(xs.map λu=>Value.int .u8 (ku u))[k]?=some v->w.cell? ⟨p.block,p.off+k,none⟩=some v:=by intro p ms M qf V k v r;rw[List.getElem?_map]at r;cases G:xs[k]? with|none=>grind|some u=>simp only[G,Option.map_some,Option.some.injEq]at r;obtain⟨⟨β,φ,_,m⟩,_⟩:=V k u G;have m:β=.int .u8 u.1:=m;grind[ku,af.len,aY,Ty.D,af.D]
  cases q with
 |o π=>cases ms with|own ms=>
 obtain⟨ad,c,f,_,h⟩:=bI.1 n;rcases h with h|⟨p,hp,b,_,h⟩;·grind
 ·exact⟨ad,c,f,.inr ⟨p,hp,b.1,cells p _ _ (λi j=>.o (π++[i,j])) h⟩⟩|sh=>
 obtain ⟨ad,c,f,_,h⟩:=gD.1 n;rcases h with h|⟨p,hp,b,h⟩;·grind
 ·exact ⟨ad,c,f,.inr ⟨p,hp,b,cells p _ _ (λ_ _=>.p) h⟩⟩
 |x=>
  obtain ⟨ad,c,f,_,h⟩:=(zm (by simp)).1 n;rcases h with h|⟨p,hp,b,h⟩;·grind
  ·exact ⟨ad,c,f,.inr ⟨p,hp,b,cells p _ _ (λ_ _=>.p) h⟩⟩|p=>
  obtain ⟨ad,c,f,_,h⟩:=(zm (by simp)).1 n;rcases h with h|⟨p,hp,b,h⟩;·grind
  ·exact ⟨ad,c,f,.inr ⟨p,hp,b,cells p _ _ (λ_ _=>.p) h⟩⟩
 obtain ⟨ad,c,f,ε⟩:=U;have N:(Conv.bytesToString (.slice ad xs.length c)).run P w=.ok (.string (bQ xs)) w:=by
  cases ad with|none=>
  have S:xs=[]:=by grind
  subst S;simp[Conv.bytesToString,bQ];rfl|some p=>
  have γ:(loadCells p xs.length).run P w=.ok ((xs.map ku).map (Value.int .u8)).toArray w:=by
   have θ:(xs.map ku).map (Value.int .u8)=xs.map λu=>Value.int .u8 (ku u):=by simp_all
   rw[θ];have :=run_loadCells_list (P:=P) w p (xs.map λu=>Value.int .u8 (ku u)) (λj v ψ=>by
  rcases ε with h|⟨ω,hp,b,h⟩;·grind
  grind[af.D,aY,ku,ew]);grind
  rw[run_bytesToString w p xs.length c _ γ,nD];congr 3;simp_all
 refine aJ s (v:=.string (bQ xs)) (tv:=.c (.str (bQ xs))) ?_ h rfl;have :=run_convert_bytes_string (P:=P) w t l e ad xs.length c α m X;simp only[execOp,ho,f,Sem.run_bind,this,N];rfl
end
end Go.Tm
namespace Go.Tm
open Go
section
variable{P:Program}{C:Ctx}{env:Nat->TV}{mu mu':Mu}{a:Act}{w w':World}{g g':Gh}{o o':Nat->Nat->ax}{idb:Nat}{R:Type}{Q:Exit->Act->World->Prop}
theorem rq{α:Type}{n:Nat}{vs:List α}(a:vs.length=n):∀(k i:Nat),i<k->(((List.replicate k vs).flatten.drop (i*n)).take n)=vs|0,i,h=>by omega|k+1,0,_=>by grind|k+1,i+1,h=>by rw[List.replicate_succ,List.flatten_cons,Nat.add_mul,Nat.one_mul,List.drop_append,List.drop_eq_nil_of_le (by omega),List.nil_append,show i*n+n-vs.length=i*n by omega];exact rq a k i (by omega)
theorem pN{α:Type}{n:Nat}{vs:List α}(a:vs.length=n):∀k,(List.replicate k vs).flatten.length=k*n|0=>by simp|k+1=>by simp_all
theorem uz{n:Nat}{vs:List Value}(a:vs.length=n)(b:0<n):∀(k j:Nat),j<k*n->(List.replicate k vs).flatten[j]?=vs[j%n]?
 |0,j,h=>by omega|k+1,j,h=>by
  rw[List.replicate_succ,List.flatten_cons];by_cases d:j<n;·rw[List.getElem?_append_left (by omega),Nat.mod_eq_of_lt d]
  ·have e:(k+1)*n=k*n+n:=Nat.succ_mul k n;have c:j%n=(j-n)%n:=Nat.mod_eq_sub_mod (by omega);rw[List.getElem?_append_right (by omega),a,uz a b k (j-n) (by omega),c]
theorem pO{z:Array Value}{n k:Nat}(b:z.size=n)(d:0<n):madeCells z (k*n)=(List.replicate k z.toList).flatten.toArray:=by
 apply Array.ext_getElem?;intro j;have f:=pN (vs:=z.toList) (n:=n) (by omega) k;by_cases a:j<k*n
 · have c:=uz (vs:=z.toList) (n:=n) (by omega) d k j a;simp only[List.getElem?_toArray,c];have e:j%n<z.size:=by grind
   simp[madeCells,a,b,Array.getElem?_eq_getElem e];grind
 · rw[Array.getElem?_eq_none (by simp[madeCells];omega),List.getElem?_toArray,List.getElem?_eq_none (by omega)]
theorem pP(s:bG P C env mu a w g idb){o:Oper}{t e:Nat}{b:TI}{l c:Operand}(ho:o.op=.makeSlice t l c){K:TV->List (Nat×av)->Option R}{y:R}(L:cN C t=some (e,b)){n:Int}(M:ae env l=.c (.int .i64 n))(X:ae env c=.c (.int .i64 n))(p:0<=n)(π:n*b.bytes<=70368744177664/\0<b.bytes)(α:0<b.size){ms:List Md}(h:(aQ bM mu (C.es e) ms 0 b.zero [] λz m us=>match m,us with|[],[]=>K (.c (.own idb)) [(idb,.row (C.es e) ms (List.replicate n.toNat z) 0)]|_,_=>none)=some y):o.wp P a w (bt P w g mu a o.dst K y) Q:=by obtain⟨T,D,Z,_⟩:=fe s.ty L;obtain⟨j,d,z,O,κ,N,U,Y,S,μ,φ,ρ,G,_⟩:=cH (s.ty e b D);have k:=aw s.env l;rw[M] at k;have k:a.eval l=.int .i64 n:=k;have f:=aw s.env c;rw[X] at f;have f:a.eval c=.int .i64 n:=f;obtain⟨W,m,H,δ,F,h,B,u,β,σ⟩:=lz s.dr s.wf (eQ (P:=P) (w:=w) (g:=g) (mu:=mu)) (C.es e) (by rw[G];exact dY U) h;cases m with|cons _ _=>cases h|nil=>cases F with|cons _ _=>exact u.elim|nil=>simp only[List.append_nil] at B h;cases H with|cons _ _=>cases h|nil=>
 have τ:((n.toNat:Nat):Int)=n:=Int.toNat_of_nonneg p;have γ:n<=n*b.bytes:=by
  have :(1:Int)<=b.bytes:=by omega
  have :=Int.mul_le_mul_of_nonneg_left this p;omega
 have A:=run_make (P:=P) w t e j z T O N .i64 .i64 n n p (Int.le_refl _) (by grind) (by omega);have E:0<j.size:=by omega
 have θ:z.cells.toList.length=j.size:=by omega
 have ε:(C.es e).len=j.size:=by omega
 rw[pO S E] at A;have q:=uw (P:=P) (w:=w) (g:=g) (mu:=mu) (idb:=idb) s.dr s.wf s.own (s.bB idb (Nat.le_refl _) (by omega)) (us:=[]) rfl (es:=C.es e) (ms:=ms) (xs:=List.replicate n.toNat W) (vals:=(List.replicate n.toNat z.cells.toList).flatten) (t:=e) (destL:=λ_=>[idb]) (λto=>⟨_,rfl⟩) (v:=.slice (some ⟨w.heap.size,0,none⟩) n.toNat n.toNat) (λ_ hp=>pH s.wf (cap:=n.toNat) (by simp) (by omega) (by simp) (by simp_all) λi x V=>by have I:=List.getElem?_eq_some_iff.1 V;obtain ⟨J,r⟩:=I;simp only[List.length_replicate] at J;simp only[List.getElem_replicate] at r;subst r;simp_all[af.Vs,Ctx.es,Gh.o,cr,cd,af.len,rq,br]);refine ja (v:=.slice (some ⟨w.heap.size,0,none⟩) n.toNat n.toNat) ?_ ⟨.c (.own idb),_,_,_,rfl,h,q.1,q.2⟩;simp only[execOp,ho,k,f,Sem.run_bind];simp_all
end
end Go.Tm
namespace Go.Tm
open Go
section
variable{P:Program}{C:Ctx}{env:Nat->TV}{mu mu':Mu}{a:Act}{w w':World}{g g':Gh}{o o':Nat->Nat->ax}{idb:Nat}{R:Type}{Q:Exit->Act->World->Prop}
theorem wY(s:bG P C env mu a w g idb){o:Oper}{c:Call}{f:Operand}{fn:Nat}(ho:o.op=.call c)(l:c.callee=.value f)(k:ae env f=.c (.uQ fn)){K:TV->List (Nat×av)->Option R}{y:R}(h:jF C mu idb fn (c.args.toList.map (ae env)) K=some y):o.wp P a w (bt P w g mu a o.dst K y) Q:=by
 have b:=aw s.env f;rw[k]at b;have b:a.eval f=.func (.func fn) #[] #[]:=b;have e:iU P fn:=by cases i:C.bg fn with|none=>unfold jF at h;grind|some j=>exact (s.bg fn j i).2
 have m:(execOp a.eval o).run P w=.ok (.enter fn (c.args.map a.eval)) w:=by have :=e (c.args.map a.eval) w;simp[execOp,ho,resolve,l,b,Deferred.ofValue,invoke,this]
 have d:=wN s.bg s.dr s.wf s.own s.bB (js s.env c.args.toList) h;rw[show (c.args.toList.map a.eval).toArray=c.args.map a.eval by grind]at d;unfold Oper.wp;grind[bt,Oper.upon_enter,Calls.mono,eL,au,TV.R]
end
end Go.Tm
namespace Go.Tm
open Go
section
variable{P:Program}{C:Ctx}{env:Nat->TV}{mu mu':Mu}{a:Act}{w w':World}{g g':Gh}{o o':Nat->Nat->ax}{idb:Nat}{R:Type}{Q:Exit->Act->World->Prop}
theorem lI:∀(sh:List Nat)(args:List TV)(vals:List Value){d:List CV},gC.cells sh args=some d->aq (TV.R P w g mu) args vals->pj sh vals/\cc P w g mu d (vals.flatMap λv=>v.cells.toList)
 |[],[],[],d,h,_=>by simp only[gC.cells,Option.some.injEq]at h;subst h;exact⟨trivial,trivial⟩|[],[],_::_,_,_,a=>a.elim|[],_::_,_,_,h,_=>by simp[gC.cells]at h|_::_,[],_,_,h,_=>by simp[gC.cells]at h|_::_,_::_,[],_,_,a=>a.elim|0::sh,tv::args,v::vals,d,h,a=>by cases tv with
  |c cv=>simp only[gC.cells]at h;cases b:gC.cells sh args with|none=>simp[b]at h|some r=>simp only[b,Option.map_some,Option.some.injEq]at h;subst h;obtain⟨i,e⟩:=lI sh args vals b a.2;have j:=(CV.jr cv a.1).cells;refine⟨⟨j,i⟩,?_⟩;rw[List.flatMap_cons,j];exact⟨a.1,e⟩
  |_=>simp[gC.cells]at h
 |(n+1)::sh,tv::args,v::vals,d,h,a=>by cases tv with
 |agg vs=>simp only[gC.cells]at h;cases f:Nat.beq vs.length n with|false=>simp[f]at h|true=>simp only[f,cond_true]at h;cases b:gC.cells sh args with|none=>simp[b]at h|some r=>simp only[b,Option.map_some,Option.some.injEq]at h;subst h;obtain⟨i,e⟩:=lI sh args vals b a.2;obtain⟨l,rfl,k⟩:=a.1;have m:=Nat.eq_of_beq_eq_true f;have :=k.length;simp only[Array.length_toList]at this;refine⟨⟨⟨l,rfl,by omega⟩,i⟩,?_⟩;rw[List.flatMap_cons];exact aq.append k e
 |_=>simp[gC.cells]at h
theorem aq.r0:∀{a:List CV}{vs:List Value},cc P w g mu a vs->aq (CV.R0 P w g.o) a vs:=λh=>aq.imp (λ_ _ k=>CV.R.r0 k) h
theorem zZ(s:bG P C env mu a w g idb){o:Oper}{c:Call}{f:Operand}{sh:List Nat}{i d:af}{k:i.D->Option d.D}(ho:o.op=.call c)(α:c.callee=.value f)(Z:ae env f=.c (.qy sh i d k)){K:TV->List (Nat×av)->Option R}{y:R}(h:gC mu sh i d k (c.args.toList.map (ae env)) K=some y):o.wp P a w (bt P w g mu a o.dst K y) Q:=by have n:=aw s.env f;rw[Z]at n;obtain⟨fn,A,n,N,I⟩:=(AX (md:=.sh) (q:=.p)).1 n;unfold gC at h;cases r:gC.cells sh (c.args.toList.map (ae env)) with|none=>simp[r]at h|some ε=>simp only[r]at h;obtain⟨W,V⟩:=lI sh _ _ r (js s.env c.args.toList);obtain⟨x,J,θ,O,h,B,H,δ,β⟩:=gG i (ms:=[]) rfl (aq.r0 V) h;cases J with|cons _ _=>cases h|nil=>cases O with|cons _ _=>exact H.elim|nil=>simp only[List.append_nil]at B h;cases z:k x with|none=>simp[z]at h|some F=>
 simp only[z,Option.bind_some]at h;have E:=I w (sN g.o) nj wE x F (c.args.toList.map a.eval) z W (by rw[B];exact kF nj s.wf i (β _ _));have L:(execOp a.eval o).run P w=.ok (.enter fn (c.args.map a.eval++A)) w:=by have :=N (c.args.map a.eval++A) w;simp[execOp,ho,resolve,α,n,Deferred.ofValue,invoke,this]
 rw[show (c.args.toList.map a.eval).toArray=c.args.map a.eval by apply Array.ext';simp]at E;unfold Oper.wp;rw[L,Oper.upon_enter];refine Calls.mono E λe w' Y=>?_;obtain⟨X,u,rfl,m,S,U⟩:=Y;have M:=qO m;have hp:=nk m;have t:=jR (g:=⟨gH w g.o u,g.c⟩) (mu:=mu) d (kF hp S d U);have T:eL P w g mu w' ⟨gH w g.o u,g.c⟩ mu:=by
  refine ⟨λ_=>False,⟨λb j v D _=>⟨(m.cell b j v D λ_=>jS).1,by simp[gH,D]⟩,λ_ _=>rfl,λ_ h=>h,λ_ _ _=>rfl,λ_ _ _ _ _ h=>h.elim⟩,M,qP m s.wf,λb j id l e=>?_,λid b h G=>?_⟩
  · have e:gH w g.o u b j=.o (id::l):=e;unfold gH at e;split at e;· exact s.own b j id l e
    · split at e;· cases e
      · rename_i γ;exact absurd e (λe=>γ _ e)
  · rcases h with h|h;· exact h.elim
    · rw[h]at G;cases G
 match κ:d.sL F,t,h with|[cv],t,h=>exact ⟨.c cv,[],X,_,rfl,h,T,t.1⟩
end
end Go.Tm
namespace Go.Tm
open Go
section
variable{P:Program}{C:Ctx}{env:Nat->TV}{mu mu':Mu}{a:Act}{w w':World}{g g':Gh}{o o':Nat->Nat->ax}{idb:Nat}{R:Type}{Q:Exit->Act->World->Prop}
def lJ(a:List Value)(off:Nat)(b:List Value):List Value:=a.take off++b++a.drop (off+b.length)
theorem ig(s:cR P w g mu)(hw:Wf w g.o){qf:Nat->ax}:∀(ts:af){ms:List Md}{j off:Nat}{vs:List CV}{x:ts.D}{us:List aI}{a f:List Value}(_:ts.Vs P w g.o ms qf j x a)(_:cc P w g mu vs f)(_:off+vs.length<=ts.len){K:ts.D->List aI->Option R}{y:R}(_:bj mu ts ms j off vs x us K=some y),∃z i,K z (i++us)=some y/\∀(d:Nat->ax)w' o',aj w g.o w' o'->(∀u∈i,br d w g.o w' o' u)->(∀n,Rl w g.o w' o' (qf n) (d n))->ts.Vs P w' o' ms d j z (lJ a off f)
 |.nil,ms,j,off,[],x,us,a,[],b,_,_,K,y,h=>⟨(),[],h,λ_ _ _ _ _ _=>by simp_all[af.Vs,Gh.o,lJ]⟩|.nil,ms,j,off,[],x,us,a,_::_,b,h,_,K,y,_=>h.elim|.nil,ms,j,off,_::_,x,us,a,f,b,_,k,K,y,h=>by simp[af.len]at k|.cons t ts,ms,j,off,[],x,us,a,_::_,b,h,k,K,y,_=>h.elim|.cons t ts,ms,j,off,[],x,us,a,[],b,_,k,K,y,h=>by
  simp only[bj]at h;refine⟨x,[],h,λd w' o' hp _ l=>?_⟩;have e:lJ a off []=a:=by simp [lJ]
  rw [e];exact jH hp hw (.cons t ts) ms l b|.cons t ts,ms,j,off,c::vs,x,us,a,[],b,h,k,K,y,_=>h.elim|.cons t ts,ms,j,0,c::vs,x,us,a,n::f,b,m,k,K,y,h=>by obtain⟨v0,r,rfl,v,p⟩:=b;simp only [bj]at h;obtain⟨D,A,h,B⟩:=gX s hw (eQ (P:=P) (w:=w) (g:=g) (mu:=mu)) m.1 h;obtain⟨z,i,h,q⟩:=ig s hw ts (off:=0) p m.2 (by grind [af.len]) h;refine⟨(D,z),i++A,by grind,λd w' o' hp o l=>⟨n,lJ r 0 f,?_,B d w' o' hp λu C=>o u (by grind),q d w' o' hp (λu C=>o u (by grind)) l⟩⟩;simp [lJ]|.cons t ts,ms,j,off+1,c::vs,x,us,a,n::f,b,m,k,K,y,h=>by obtain⟨v0,r,rfl,v,p⟩:=b;simp only [bj]at h;obtain⟨z,i,h,q⟩:=ig s hw ts (off:=off) p m (by grind [af.len]) h;refine⟨(x.1,z),i,h,λd w' o' hp o l=>⟨v0,lJ r off (n::f),?_,ck hp hw t _ _ _ x.1 v0 (l j) v,q d w' o' hp o l⟩⟩;grind [lJ]
end
end Go.Tm
namespace Go.Tm
open Go
section
variable{P:Program}{C:Ctx}{env:Nat->TV}{mu mu':Mu}{a:Act}{w w':World}{g g':Gh}{o o':Nat->Nat->ax}{idb:Nat}{R:Type}{Q:Exit->Act->World->Prop}
theorem wZ{a b:List Value}{off:Nat}(h:off+b.length<=a.length):(lJ a off b).length=a.length:=by grind[lJ]
theorem xa{b a:List Value}{off k:Nat}(h:off+a.length<=b.length):(lJ b off a)[k]?=if off<=k/\k<off+a.length then a[k-off]? else b[k]?:=by
 unfold lJ;by_cases c:k<off;·grind
 grind
theorem oL{us:List aI}{a:Nat->List Nat}{id:Nat}(h:dQ id us=false)(s:List Nat):cd us a id s=.o (id::s):=by
 have :aS id us=none:=by cases b:aS id us with|none=>rfl|some u=>obtain⟨d,c⟩:=dL b;grind[aH,eW]
 simp[cd,this]
theorem ru(s:bG P C env mu a w g idb){o:Oper}{t:Nat}{x v:Operand}(ho:o.op=.store t x v){K:TV->List (Nat×av)->Option R}{y:R}{γ:TI}(ht:C.ty t=some γ){id i off:Nat}{es:af}{ms:List Md}{xs:List es.D}{aF:Nat}(hx:ae env x=.c (.dF id es.len i off)){vs:List CV}(hv:cellsOf (ae env v)=some vs)(aQ:vs.length=γ.size)(G:mu id=some (.row es ms xs aF))(aG:off+vs.length<=es.len){β:es.D}(φ:aC xs i=some β)(h:(bj mu es ms 0 off vs β [] λz us=>bif aP us&&!dQ id us then K .kl (iM mu us++[(id,.row es ms (xs.set i z) (aF+1))])else none)=some y):o.wp P a w (bt P w g mu a o.dst K y) Q:=by
 obtain⟨aL,d,z,B,f,h3,h4,aR,h6,h7,_⟩:=cH (s.ty t γ ht);have S:=aw s.env x;rw[hx] at S;obtain⟨_,ad,n,M,ω,bd,S⟩:=S;have δ:=dZ hv (aw s.env v);have aV:=δ.length;obtain⟨v',σ,N⟩:=s.dr id _ G;rw[ω] at σ;cases σ;obtain⟨aX,ba,he,ak,N⟩:=bI.1 N;cases he;have hi:i<xs.length:=(List.getElem?_eq_some_iff.1 φ).1;rcases N with⟨rfl,_⟩|⟨p,hp,aa,aj,N⟩;·omega
 ·cases hp;obtain⟨vals,r1,r2,r3,ψ⟩:=ez (qf:=λi j=>.o ([id]++[i,j])) xs ad.off 0 (by simpa using N);have al:(i+1)*es.len<=xs.length*es.len:=Nat.mul_le_mul_right _ hi;rw[Nat.add_mul,Nat.one_mul] at al;have μ:=ψ i β φ;simp only[Nat.zero_add] at μ;obtain⟨z1,us,h,hz⟩:=ig s.dr s.wf es μ δ aG h;simp only[List.append_nil] at h;cases D:(aP us&&!dQ id us) with|false=>grind|true=>
 rw[D,cond_true] at h;simp only[Bool.and_eq_true,Bool.not_eq_true'] at D;obtain⟨U,Z⟩:=D;let r:=(a.eval v).cells.toList;let destL:Nat->List Nat:=λj=>[id,i,j];have bh:vals.length=xs.length*es.len:=r1;have ε:∀k,k<r.length->∃u,w.cell? ⟨ad.block,ad.off+i*es.len+off+k,none⟩=some u/\g.o ad.block (ad.off+i*es.len+off+k)=.o [id]:=by
  intro k q;have q:k<vs.length:=by grind
  have L:i*es.len+off+k<vals.length:=by omega
  have :=r2 _ _ (List.getElem?_eq_getElem L);grind
 have O:∀k,k<r.length->g.o ad.block (ad.off+i*es.len+off+k)=.o [id]:=λk q=>(ε k q).elim λ_ h=>h.2;have bg:∀k,k<r.length->∃u,w.cell? ⟨ad.block,ad.off+i*es.len+off+k,none⟩=some u:=λk q=>(ε k q).elim λu h=>⟨u,h.1⟩;let w':=w.setCells ad.block (ad.off+i*es.len+off) r;let g':Gh:=⟨λb k=>re (cd us destL) (g.o b k),g.c⟩;have E:oc w g w' g' (cd us destL) (λb k=>b=ad.block/\ad.off+i*es.len+off<=k/\k<ad.off+i*es.len+off+r.length):=jt (id0:=id) s.wf O;have X:∀b k,(b=ad.block/\ad.off+i*es.len+off<=k/\k<ad.off+i*es.len+off+r.length)->g.o b k=.o [id]:=by rintro b k⟨rfl,B,f⟩;have :=O (k-(ad.off+i*es.len+off)) (by omega);grind
 have π:∀u∈us,aH u≠id:=eW Z;have aA:∀u∈us,br (λto=>.o (destL to)) w g.o w' g'.o u:=by intro u A;have D:=π u A;cases u with|mv aK to=>exact E.rl (l:=[]) (by simp) (λs=>by simp [uv U A,wR]) (λb k G s e=>by rw [X b k G] at e;simp at e;exact D e.1.symm)|pm aK=>exact E.rl (l:=[]) (by simp) (λs=>by simp [kM U A,wR]) (λb k G s e=>by rw [X b k G] at e;simp at e;exact D e.1.symm)
 have κ:∀k n,Rl w g.o w' g'.o (.o [id,k,n]) (.o [id,k,n]):=λk n=>E.rl (l:=[k,n]) (by simp) (λs=>by rw [oL Z];simp [wR]) (λb k G s e=>by grind);have θ:∀k,k<M*es.len->g'.o ad.block (ad.off+k)=.o [id]:=λk q=>by show re _ (g.o ad.block (ad.off+k))=_;rw [aj k q];exact oL Z []
 have aN:xs.length*es.len<=M*es.len:=Nat.mul_le_mul_right _ ak;have ab:∀m u,vals[m]?=some u->(m<i*es.len+off\/i*es.len+off+r.length<=m)->w'.cell? ⟨ad.block,ad.off+m,none⟩=some u:=by intro m u A aO;show (w.setCells _ _ _).cell? _=_;rw [World.cell?_setCells_out ad.block r (ad.off+i*es.len+off) w ⟨ad.block,ad.off+m,none⟩ (λ_ _=>by grind)];grind
 have ah:∀m,m<vals.length->m<M*es.len:=λm A=>by omega
 have hH:(Ty.sl es).H P w' g'.o (.own ms) (.o [id]) (xs.set i z1) (.slice (some ad) xs.length M):=by
  refine bI.2 ⟨some ad,M,by grind,by grind,.inr ⟨ad,rfl,aa,θ,λk y' q=>?_⟩⟩;unfold aC at q;by_cases Y:k=i
  · subst Y;rw [List.getElem?_set_self hi] at q;cases q;have hV:=hz (λto=>.o (destL to)) w' g'.o E.dK aA (λn=>κ k n);have aZ:((vals.drop (k*es.len)).take es.len).length=es.len:=by grind
    have ax:off+r.length<=((vals.drop (k*es.len)).take es.len).length:=by grind
    refine eK es hV λm u A=>?_;have aB:m<es.len:=by grind [lJ,af.len,wZ]
    rw [xa ax] at A;refine ⟨?_,by rw [Nat.add_assoc];exact θ _ (ah _ (by omega))⟩;by_cases ay:off<=m/\m<off+r.length
    · rw [if_pos ay] at A;have L:m-off<r.length:=by omega
      have :=World.cell?_setCells_in ad.block r (ad.off+k*es.len+off) w (λj V=>by grind) (m-off) L;grind
    grind
  · rw [List.getElem?_set_ne (Ne.symm Y)] at q;have aD:k<xs.length:=(List.getElem?_eq_some_iff.1 q).1;have ar:(k+1)*es.len<=xs.length*es.len:=Nat.mul_le_mul_right _ aD;rw [Nat.add_mul,Nat.one_mul] at ar;have hV:=ψ k y' q;simp only [Nat.zero_add] at hV;refine eK es (jH E.dK s.wf es ms (λn=>κ k n) hV) λm u A=>?_;have aB:m<es.len:=by grind
    refine ⟨?_,by grind⟩;rw [Nat.add_assoc];refine ab _ u (aq.bD A) ?_;rcases Nat.lt_or_gt_of_ne Y with L|aE;· have :(k+1)*es.len<=i*es.len:=Nat.mul_le_mul_right _ L;grind
    · have :(i+1)*es.len<=k*es.len:=Nat.mul_le_mul_right _ aE;grind
 have ai:mu id≠none:=by omega
 have ρ:∀b k,(b=ad.block/\ad.off+i*es.len+off<=k/\k<ad.off+i*es.len+off+r.length)->∀id' s,aI.pm id'∈us->g.o b k≠.o (id'::s):=by intro b k an id' l A e;rw [X b k an] at e;simp at e;exact π _ A e.1.symm
 have aJ:eL P w g mu w' g' (au mu (iM mu us++[(id,.row es ms (xs.set i z1) (aF+1))])):=by
  refine kL (T:=λk=>k=id\/∃u∈us,aH u=k) (id0:=id) s.wf s.own (λ_=>.inl rfl) O (λ_ _=>rfl) (λk l α=>?_) (λk l=>?_) (λk l p l' B f=>?_) (λk α B b F=>?_) (λk aY aU bc aT α B f=>?_) (λk b B f=>?_)
  · have :aS k us=none:=by cases hf:aS k us with|none=>rfl|some u=>obtain ⟨B,f⟩:=dL hf;grind
    simp [cd,this]
  · unfold cd;grind
  · unfold cd at f;split at f;· cases f;exact aM ai
    · cases f
    · cases f;exact aM B
  · rcases List.mem_append.1 F with F|F
    · rcases fR F with ⟨_,to,h⟩|⟨h,_⟩;· grind [aH]
      grind [aH]
    grind
  · rcases aW f with f|⟨W,f⟩
    · rcases List.mem_append.1 f with f|f;· rcases fR f with ⟨h,_⟩|⟨_,⟨_,_,_,_,_,h⟩|⟨h,_⟩⟩<;>cases h
      grind
    · rcases α with rfl|⟨u,I,J⟩;· grind
      · cases u with|mv j to=>cases J;exact absurd (List.mem_append_left _ (dX I)) (W _)|pm j=>cases J;obtain ⟨b',h'⟩:=cG I _ f (.inl ⟨_,_,_,_,rfl⟩);grind [iM,af.D,aH]
  · rcases aW f with f|⟨W,f⟩
    · rcases List.mem_append.1 f with f|f;· exact pI s.dr s.wf U E ρ (λ_ _=>rfl) (.inl f)
      · simp only [List.mem_singleton] at f;cases f;exact ⟨_,ω,hH⟩
    · rcases B with (rfl|⟨u,I,J⟩)|B;· grind
      · cases u with|mv j to=>cases J;exact absurd (List.mem_append_left _ (dX I)) (W _)|pm j=>cases J;exact pI s.dr s.wf U E ρ (λ_ _=>rfl) (.inr ⟨I,λb' F=>W b' (List.mem_append_left _ F),f⟩)
      grind
 have τ:=run_storeCells_cells (P:=P) ad.block (ad.off+i*es.len+off) r 0 w (λj V=>by grind) (λj V=>by exact (s.wf.cell _ _ _ (O j V)).2 _) (λu D=>by
 obtain ⟨j,V,rfl⟩:=List.getElem_of_mem D;have ao:j<vs.length:=by grind
 obtain ⟨u',bb,bf⟩:=aq.get j vs[j] δ (List.getElem?_eq_getElem ao);grind [CV.R,ey,CV.jr]);simp only [Nat.add_zero] at τ;have az:(a.eval v).cells.size=aL.size:=by grind
 have ag:(execOp a.eval o).run P w=.ok .skip w':=by simp only [execOp,ho,Instr.storeAt,S,Instr.sureAddr,storeVar,Sem.run_bind,Sem.run_pure,Result.andThen_ok,sizeOf,run_typeInfo w B,az,ne_eq,not_true_eq_false,if_false];rw [show (storeCells ⟨ad.block,ad.off+i*es.len+off,none⟩ (a.eval v).cells.toList).run P w=.ok () w' from τ];rfl
 unfold Oper.wp;rw [ag];exact ⟨.kl,_,undef,g',rfl,h,aJ,rfl⟩
end
end Go.Tm
namespace Go.Tm
open Go
section
variable{P:Program}{C:Ctx}{env:Nat->TV}{mu mu':Mu}{a:Act}{w w':World}{g g':Gh}{idb:Nat}{R:Type}{Q:Exit->Act->World->Prop}
theorem eL.trans{t y:World}{x u:Gh}{o mu2:Mu}(I:cR P w g mu)(hw:Wf w g.o)(h:eL P w g mu t x o)(k:eL P t x o y u mu2):eL P w g mu y u mu2:=by
 have C:=iX I hw h;obtain⟨n,c,H,W1,W,V⟩:=h;have B:=iX C W1 k;obtain⟨r,f,J,K,L,X⟩:=k;refine⟨λi=>n i\/r i,⟨λb k v F q=>?_,λi a=>(f.c i (c.kD i a)).trans (c.c i a),λi a=>f.kD i (c.kD i a),λi l a=>(f.same i (λh=>l (.inr h)) (c.kD i a)).trans (c.same i (λh=>l (.inl h)) a),λi es ms xs aF l a m=>?_⟩,H.trans W1 J,K,L,λi b _ G=>B i b G⟩;·obtain⟨d,j⟩:=c.cell b k v F (λid s e h=>q id s e (.inl h));obtain⟨U,Y⟩:=f.cell b k v d (λid s e h=>q id s (by grind) (.inr h));grind
 · by_cases j:r i
   · obtain⟨E,D,A,z,p,S⟩:=f.aF i es ms xs aF j (c.kD i a) m;by_cases d:n i;· obtain⟨Q,O,T,M,R,N⟩:=c.aF i E D A z d a p;grind
     · rw[c.same i d a]at p;grind
   · have d:n i:=l.resolve_right j;rw[f.same i j (c.kD i a)]at m;exact c.aF i es ms xs aF d a m
theorem eL.oM(m:cR P w g mu)(hw:Wf w g.o)(r:∀b k id s,g.o b k=.o (id::s)->mu id≠none){id0:Nat}{cs:List CV}{es:af}{x:es.D}(j:mu id0=some (.box cs))(hp:aQ (R:=es.D×List aI) bM mu es [] 0 cs [] bN=some (x,[])):∃g',eL P w g mu w g' (au mu [(id0,.eE es x)]):=by let us:List aI:=[.pm id0];have N:aP us=true:=rfl;have J:∀id,id≠id0->aS id us=none:=λid h=>if_neg (λe=>h (Eq.symm e));have C:oc w g (w.setCells 0 0 []) ⟨λb k=>re (cd us λ_=>[0]) (g.o b k),g.c⟩ (cd us λ_=>[0]) (λb k=>b=0/\0<=k/\k<0+([]:List Value).length):=jt (id0:=0) hw (by simp);obtain⟨b,base,H,z⟩:=m _ _ j;obtain⟨vs,D,n⟩:=jU cs z;obtain⟨y,t,M,O,B,d,f,q,I,A⟩:=fx m hw (λ_=>.p) eQ es D hp;cases t with|cons _ _=>cases d|nil=>simp only [bN,Option.some.injEq,Prod.mk.injEq,List.append_nil] at d;obtain⟨rfl,rfl⟩:=d;cases B with|cons _ _=>exact q.elim|nil=>
 rw [List.append_nil] at f;subst f;have hV:=A w (λb k=>re (cd us λ_=>[0]) (g.o b k)) C.dK (λu G=>by cases G);have F:es.Hs P w (λb k=>re (cd us λ_=>[0]) (g.o b k)) [] .p (λ_=>.p) 0 y b base:=eK es (kE es hV) (λk v E=>by obtain⟨c,a⟩:=n k v E;refine⟨c,?_⟩;show re _ (g.o b (base+k))=.p;rw [a];grind [re,cd,kM]);refine⟨⟨λb k=>re (cd us λ_=>[0]) (g.o b k),g.c⟩,kL (T:=λid=>id=id0) (vs:=[]) (b0:=0) (off:=0) (id0:=0) hw r (by simp) (by simp) (λ_ _=>rfl) (λid s h=>by grind [cd,aS]) (λid s=>?_) (λid s p l c a=>?_) (λid c a b j=>?_) (λid S Q L K c a i=>?_) (λid bl c a=>?_)⟩;·unfold cd;grind
 · have :cd us (λ_=>[0]) id s=.o (p::l):=a;unfold cd at this;split at this;· rename_i e;obtain⟨_,i⟩:=dL e;grind
   · grind
   · cases this;exact aM c
 · grind
 · subst c;simp [au,bW,Nat.beq_refl] at i
 · rcases c with c|c;· subst c;simp [au,bW,Nat.beq_refl] at a;subst a;exact⟨b,base,H,F⟩
   · rcases aW a with a|⟨_,a⟩;· grind
     grind
theorem ry(s:bG P C env mu a w g idb){o:Oper}{t:Nat}{x v:Operand}(ho:o.op=.store t x v){K:TV->List (Nat×av)->Option R}{y:R}{i:TI}(L:C.ty t=some i){id:Nat}(J:ae env x=.c (.ptr id 0)){vs cs:List CV}(D:cellsOf (ae env v)=some vs)(N:vs.length=i.size)(G:mu id=some (.box cs))(O:vs.length=cs.length){es:af}{l:es.D}(hp:aQ (R:=es.D×List aI) bM (au mu [(id,.box vs)]) es [] 0 vs [] bN=some (l,[]))(h:K .kl [(id,.box vs),(id,.eE es l)]=some y):o.wp P a w (bt P w g mu a o.dst K y) Q:=by
 obtain⟨A,d,z,F,S,U,Z,M,W,V,_⟩:=cH (s.ty t i L);have e:=aw s.env x;rw [J] at e;obtain⟨_,b,base,I,e⟩:=e;have k:=dZ D (aw s.env v);obtain⟨p,f⟩:=oH s G I (off:=0) k (by omega);have n:bO cs 0 vs=vs:=by refine List.ext_getElem? (λj=>?_);grind [bO,ib]
 rw [n] at f;have q:(a.eval v).cells.size=A.size:=by have :=k.length;grind
 have m:(execOp a.eval o).run P w=.ok .skip (w.setCells b (base+0) (a.eval v).cells.toList):=by simp only [execOp,ho,Instr.storeAt,e,Instr.sureAddr,storeVar,Sem.run_bind,Sem.run_pure,Result.andThen_ok,sizeOf,run_typeInfo w F,q,ne_eq,not_true_eq_false,if_false,p]
 have u:=iX s.dr s.wf f;have B:=f;obtain⟨T,S0,Y,E,H,α⟩:=B;obtain⟨X,r⟩:=eL.oM u E H (id0:=id) (cs:=vs) (by simp [au,bW,Nat.beq_refl]) hp;unfold Oper.wp;rw [m];exact⟨.kl,_,undef,_,rfl,h,eL.trans s.dr s.wf f r,rfl⟩
theorem tC{R:Type}{ty:Ty}{to:Nat}{cv:CV}{us:List aI}{K:ty.D->List aI->Option R}{y:R}(h:ak bM (λ_=>none) ty .sh to cv us K=some y):∃x b,K x b=some y/\∀(R':Type)(a:ty.D->List aI->Option R'),ak bM mu ty .sh to cv us a=a x b:=by
 cases ty with|int k=>
 cases cv<;>simp only[ak]at h<;>try grind
 grind[Ty.D,ak,bM]|bool=>
 cases cv<;>simp only[ak]at h<;>try grind
 grind[Ty.D,ak,bM]|str=>
 cases cv<;>simp only[ak]at h<;>try grind
 grind[Ty.D,ak,bM]|sl es=>
 cases cv<;>simp only[ak,cC]at h<;>try grind
 case cg=>exact⟨[],us,h,λR' a=>by simp[ak,cC]⟩
 case ro d xs=>cases c:af.eq? d es with|none=>grind|some q=>obtain⟨q⟩:=q;simp only[c]at h;exact⟨cX q xs,us,h,λR' a=>by simp[ak,cC,c]⟩
 all_goals simp[aE]at h|fn sh j l=>
 cases cv<;>simp only[ak,bM]at h<;>try grind
 case qy f e i g=>grind[Ty.eq?,Ty.D,ak,bM,zj]
 all_goals (split at h<;>cases h)
theorem mf:∀(ts:af){to:Nat}{a:List CV}{us:List aI}{R:Type}{K:ts.D->List CV->List aI->Option R}{y:R},aQ bM (λ_=>none) ts [] to a us K=some y->∃x b e,K x b e=some y/\∀(R':Type)(c:ts.D->List CV->List aI->Option R'),aQ bM mu ts [] to a us c=c x b e|.nil,_,a,us,_,_,_,h=>⟨(),a,us,h,λ_ _=>rfl⟩|.cons t ts,to,[],us,R,K,y,h=>by simp [aQ] at h|.cons t ts,to,cv::a,us,R,K,y,h=>by simp only [aQ] at h;obtain⟨x,k,g,d⟩:=tC (mu:=mu) h;obtain⟨xs,b,f,i,j⟩:=mf ts g;refine⟨(x,xs),b,f,i,λR' c=>?_⟩;simp only [aQ];have d:=d R' (λx us=>aQ bM mu ts [] (to+1) a us λr a us=>c (x,r) a us);exact d.trans (j _ _)
theorem ve(s:bG P C env mu a w g idb){o:Oper}{e:TypeId}{x:Operand}(ho:o.op=.box e x){K:TV->List (Nat×av)->Option R}{y:R}{cs:List CV}(D:cellsOf (ae env x)=some cs){es:af}{f:es.D}(hp:aQ (R:=es.D×List aI) bM (λ_=>none) es [] 0 cs [] bN=some (f,[]))(h:K (.c (.ptr idb 0)) [(idb,.box cs),(idb,.eE es f)]=some y):o.wp P a w (bt P w g mu a o.dst K y) Q:=by
 obtain⟨g',d,l,_⟩:=eL.box s (dZ D (aw s.env x)) e;have m:=iX s.dr s.wf d;have n:=d;obtain⟨T,S0,L,p,t,O⟩:=n;obtain⟨I,G,H,z,q⟩:=mf (mu:=au mu [(idb,.box cs)]) es hp;obtain⟨u,i⟩:=eL.oM m p t (id0:=idb) (cs:=cs) (by simp [au,bW,Nat.beq_refl]) ((q _ bN).trans z);obtain⟨j,b,base,B,E⟩:=l;have k:=i;obtain⟨J,A,N,S,U,M⟩:=k;refine ja (v:=.pointer (some ⟨w.heap.size,0,none⟩)) (w':=w.alloc (.cells (a.eval x).cells e)) ?_ ⟨.c (.ptr idb 0),_,_,u,rfl,h,?_,?_⟩;·simp [execOp,ho,Instr.box,newVar,newRow]
 ·have r:=eL.trans s.dr s.wf d i;exact r
 ·have F:au (au mu [(idb,.box cs)]) [(idb,.eE es f)] idb≠none:=aM j;exact TV.sO ⟨F,b,base,(A.c idb j).trans B,E⟩
end
end Go.Tm
namespace Go.Tm
open Go
section
variable{P:Program}{C:Ctx}{env:Nat->TV}{mu:Mu}{a:Act}{w:World}{g:Gh}{idb:Nat}{R:Type}{Q:Exit->Act->World->Prop}
theorem vg(s:bG P C env mu a w g idb){o:Oper}{rid i:Nat}{K:TV->List (Nat×av)->Option R}{y:R}(h:bE C env mu idb rid i o K=some y){j:UnOp}{t:TypeId}{x:Operand}(f:o.op=.unOp j t x):o.wp P a w (bt P w g mu a o.dst K y) Q:=by
 simp only[bE,f]at h;have d:=aw s.env x;split at h;·rename_i b e;rw[e]at d;have d:a.eval x=.bool b:=d;exact pB s f (tv:=.c (.bool (!b))) (v:=.bool (!b)) (by rw[d];simp[Op.unary]) rfl h
 ·rename_i k n e;rw[e]at d;have d:a.eval x=.int k n:=d;exact pB s f (tv:=.c (.int k (gS k 0 n))) (v:=.int k (gS k 0 n)) (by rw[d];simp[Op.unary,Op.intArith,gS,Int.zero_sub]) rfl h
 ·rename_i k n e;rw[e]at d;have d:a.eval x=.int k n:=d;exact pB s f (tv:=.c (.int k (qC k (if k.signed then-1 else k.max) n))) (v:=.int k (qC k (if k.signed then-1 else k.max) n)) (by rw[d];simp[Op.unary,Op.intBits,qC]) rfl h
 grind
theorem vh(s:bG P C env mu a w g idb){o:Oper}{rid i:Nat}{K:TV->List (Nat×av)->Option R}{y:R}(h:bE C env mu idb rid i o K=some y){t:TypeId}{x:Operand}{f j:Option Operand}(l:o.op=.slice t x f j none):o.wp P a w (bt P w g mu a o.dst K y) Q:=by simp only[bE,l]at h;cases q:C.ty t with|none=>grind|some d=>
 cases m:ae env x<;>simp only[q,m]at h<;>try grind
 case c cv=>
 cases v:d.k<;>simp only[v]at h<;>try grind
 case str=>
  cases cv<;>simp only at h<;>try grind
  grind[pE]
 case slice e0=>cases D:cN C t with|none=>grind|some p=>
  obtain⟨e,A⟩:=p;have u:(∀b,cv≠.str b)->(bif dP mu (C.es e).len cv then bq mu cv (f.map (ae env)) (j.map (ae env)) K else none)=some y->o.wp P a w (bt P w g mu a o.dst K y) Q:=by intro z h;cases r:dP mu (C.es e).len cv with|false=>grind|true=>rw[r]at h;grind[pF]
  grind
 case struct=>
 have u:(bif d.uR.isEmpty&&!d.dS.isEmpty&&f.isNone&&j.isNone then bR mu d.size cv K else none)=some y->o.wp P a w (bt P w g mu a o.dst K y) Q:=by intro n;clear h;cases k:(d.uR.isEmpty&&!d.dS.isEmpty&&f.isNone&&j.isNone) with|false=>grind|true=>rw[k]at n;simp only[Bool.and_eq_true,Bool.not_eq_true',List.isEmpty_iff,Option.isNone_iff_eq_none]at k;obtain⟨⟨⟨c1,B⟩,rfl⟩,rfl⟩:=k;exact pG s l q c1 (by grind) m n
 grind
theorem xb(s:bG P C env mu a w g idb){o:Oper}{rid i:Nat}{K:TV->List (Nat×av)->Option R}{y:R}(h:bE C env mu idb rid i o K=some y){t u:TypeId}{x:Operand}(l:o.op=.convert t u x):o.wp P a w (bt P w g mu a o.dst K y) Q:=by simp only[bE,l]at h;have f:=aw s.env x;cases B:C.ty t with|none=>grind|some A=>cases m:C.ty u with|none=>grind|some E=>
 cases k:ae env x<;>simp only[B,m,k]at h<;>try grind
 case c cv=>
 rw[k]at f;cases D:E.k<;>simp only[D]at h<;>try (cases h;done)
 case int N=>
  cases cv<;>simp only at h<;>try grind
  grind[rj]
 case str=>
 by_cases I:∃b,cv=.str b;·obtain⟨b,rfl⟩:=I;grind[rk]
 · have d:(match A.k with
   |.slice e=>match C.ty e with
    |some j=>match j.k with
     |.int .u8=>match cv with|.cg=>K (.c (.str ⟨#[]⟩)) []|v=>aE mu v λes xs=>match af.eq? es aY with|some ⟨h⟩=>K (.c (.str (bQ (cX h xs)))) []|none=>none
     |_=>none
    |none=>none
   |_=>none)=some y:=by cases cv<;>first|exact h|grind
   cases r:A.k<;>simp only[r]at d<;>try grind
   case slice e=>cases z:C.ty e with|none=>grind|some j=>
 simp only[z]at d;cases n:j.k<;>simp only[n]at d<;>try (cases d;done)
 case int G=>
 cases G<;>simp only at d<;>try grind
 case u8=>
 by_cases H:cv=.cg;· subst H;have f:a.eval x=.slice none 0 0:=f;exact jJ s l B m r z n D k (xs:=[]) (ms:=.sh) (q:=.p) (gD.2 ⟨none,0,f,Nat.le_refl _,.inl rfl⟩) d
 · have F:(aE mu cv λes xs=>match af.eq? es aY with|some ⟨h⟩=>K (.c (.str (bQ (cX h xs)))) []|none=>none)=some y:=by cases cv<;>first|exact d|grind
   obtain ⟨es,xs,L,⟨ms,q,J⟩,_⟩:=fw s.dr s.wf f F;cases M:af.eq? es aY with|none=>grind|some p=>obtain ⟨p⟩:=p;subst p;grind[jJ,aY,af.eq?,bQ,cX]
theorem xc(s:bG P C env mu a w g idb){o:Oper}{rid i:Nat}{K:TV->List (Nat×av)->Option R}{y:R}(h:bE C env mu idb rid i o K=some y){c:Call}(j:o.op=.call c):o.wp P a w (bt P w g mu a o.dst K y) Q:=by simp only[bE,j]at h;cases d:c.callee with
 |value f=>
 simp only[d]at h;cases k:ae env f<;>simp only[k]at h<;>try grind
 case c cv=>
 cases cv<;>simp only at h<;>try grind
 case uQ fn=>grind[wY]
 grind[zZ]|invoke _ _=>grind|builtin b=>
 simp only[d]at h;cases b<;>try (simp[aZ]at h;done)
 case len=>grind[zV]
 case append=>grind[vd]
 case max=>generalize e:c.args.toList.map (ae env)=args at h;cases args with|nil=>simp[aZ]at h|cons x r=>
  cases x<;>simp only[aZ]at h<;>try grind
  case c cv=>
  cases cv<;>simp only at h<;>try grind
  grind[cU,bt,oF]
 case min=>generalize e:c.args.toList.map (ae env)=args at h;cases args with|nil=>simp[aZ]at h|cons x r=>
 cases x<;>simp only[aZ]at h<;>try grind
 case c cv=>
 cases cv<;>simp only at h<;>try grind
 grind[cU,bt,oF]
theorem vi(s:bG P C env mu a w g idb){o:Oper}{rid i:Nat}{K:TV->List (Nat×av)->Option R}{y:R}(h:bE C env mu idb rid i o K=some y){t:TypeId}{x v:Operand}(k:o.op=.store t x v):o.wp P a w (bt P w g mu a o.dst K y) Q:=by simp only[bE,k]at h;cases q:C.ty t with|none=>grind|some z=>
 cases m:ae env x<;>simp only[q,m]at h<;>try grind
 case c cv=>cases l:cellsOf (ae env v) with|none=>grind|some vs=>simp only[l]at h;cases f:Nat.beq vs.length z.size with|false=>grind|true=>simp only[f,cond_true]at h;have f:=Nat.eq_of_beq_eq_true f;cases j:(C.iL rid i).isEmpty with
 |false=>simp only[j,cond_false]at h;cases cv with
  |ptr id off=>cases off with|succ n=>simp[dx]at h|zero=>simp only[dx]at h;cases e:mu id with|none=>grind|some b=>
  cases b<;>simp only[e]at h<;>try (cases h;done)
  case box cs=>cases d:Nat.beq vs.length cs.length with|false=>grind|true=>simp only[d,cond_true]at h;cases hp:aQ (R:=(C.es t).D×List aI) bM (au mu [(id,.box vs)]) (C.es t) [] 0 vs [] bN with|none=>grind|some p=>obtain⟨A,us⟩:=p;rw [hp] at h;simp only [Option.bind_some] at h;cases us with|cons _ _=>cases h|nil=>exact ry s k q m l f e (Nat.eq_of_beq_eq_true d) hp h
  |_=>simp [dx] at h
 |true=>
 simp only [j,cond_true] at h;cases cv<;>simp only [iQ] at h<;>try grind
 case ptr id off=>cases e:mu id with|none=>grind|some b=>
  cases b<;>simp only [e] at h<;>try (cases h;done)
  case box cs=>cases d:Nat.ble (off+vs.length) cs.length with|false=>grind|true=>simp only [d,cond_true] at h;grind [pK,Nat.le_of_ble_eq_true]
 case dF id sz i off=>cases e:mu id with|none=>grind|some b=>
 cases b<;>simp only [e] at h<;>try grind
 case row es ms xs aF=>cases d:(Nat.ble (off+vs.length) es.len&&Nat.beq sz es.len) with|false=>grind|true=>simp only [d,cond_true] at h;simp only [Bool.and_eq_true] at d;have r:=Nat.eq_of_beq_eq_true d.2;subst r;cases u:aC xs i with|none=>grind|some B=>simp only [u,Option.bind_some] at h;grind [ru,Nat.le_of_ble_eq_true,af.len]
theorem yG(s:bG P C env mu a w g idb){o:Oper}{rid i:Nat}{K:TV->List (Nat×av)->Option R}{y:R}(h:bE C env mu idb rid i o K=some y){x:Operand}(e:o.op=.nilCheck x):o.wp P a w (bt P w g mu a o.dst K y) Q:=by
 simp only[bE,e]at h;cases f:ae env x<;>simp only[f]at h<;>try grind
 case c cv=>
 cases cv<;>simp only at h<;>try grind
 case ptr id off=>exact jb s e f (λv d=>by obtain⟨_,b,base,_,d⟩:=d;grind) h
 case dF id sz i off=>exact jb s e f (λv d=>by obtain⟨_,a,n,c,_,_,d⟩:=d;grind) h
 case eO es z off=>exact jb s e f (λv d=>by obtain⟨b,base,d,_⟩:=d;grind) h
theorem oh(s:bG P C env mu a w g idb){o:Oper}{rid i:Nat}{K:TV->List (Nat×av)->Option R}{y:R}(h:bE C env mu idb rid i o K=some y){t:TypeId}{x:Operand}{f:Nat}(e:o.op=.fieldAddr t x f):o.wp P a w (bt P w g mu a o.dst K y) Q:=by simp only[bE,e]at h;cases j:dg C t f with|none=>grind|some p=>
 obtain⟨off,n⟩:=p;cases k:ae env x<;>simp only[j,k]at h<;>try grind
 case c cv=>
 cases cv<;>simp only at h<;>try grind
 case ptr id o'=>exact hZ s e j k (cv':=.ptr id (o'+off)) (λv d=>by obtain⟨l,b,base,m,rfl⟩:=d;exact⟨b,base+o',rfl,l,b,base,m,by grind⟩) h
 case dF id sz i o'=>exact hZ s e j k (cv':=.dF id sz i (o'+off)) (λv d=>by obtain⟨l,ad,n,c,m,q,rfl⟩:=d;exact⟨ad.block,ad.off+i*sz+o',rfl,l,ad,n,c,m,q,by grind⟩) h
 case eO es z o'=>exact hZ s e j k (cv':=.eO es z (o'+off)) (λv d=>by obtain⟨b,base,rfl,q⟩:=d;exact⟨b,base+o',rfl,b,base,by grind,q⟩) h
theorem vj(s:bG P C env mu a w g idb){o:Oper}{rid i:Nat}{K:TV->List (Nat×av)->Option R}{y:R}(h:bE C env mu idb rid i o K=some y){t:TypeId}{x z:Operand}(c:o.op=.index t x z):o.wp P a w (bt P w g mu a o.dst K y) Q:=by
 simp only[bE,c]at h;split at h
 · rename_i d b k n l j f;cases e:d.k<;>simp only[e]at h<;>try grind
   grind[bK,bt,wP]
 grind
theorem om(s:bG P C env mu a w g idb){o:Oper}{rid i:Nat}{K:TV->List (Nat×av)->Option R}{y:R}(h:bE C env mu idb rid i o K=some y){t:TypeId}{x z:Operand}(b:o.op=.indexAddr t x z):o.wp P a w (bt P w g mu a o.dst K y) Q:=by simp only[bE,b]at h;cases l:cN C t with|none=>grind|some p=>
 obtain⟨e,q⟩:=p;cases j:ae env x<;>simp only[l,j]at h<;>try grind
 case c cv=>
 cases f:ae env z<;>simp only[f]at h<;>try grind
 case c m=>
 cases m<;>simp only at h<;>try grind
 case int k n=>cases d:dP mu (C.es e).len cv with|false=>grind|true=>simp only[d,cond_true]at h;grind[pC]
theorem oo(s:bG P C env mu a w g idb){o:Oper}{rid i:Nat}{K:TV->List (Nat×av)->Option R}{y:R}(h:bE C env mu idb rid i o K=some y){t:TypeId}{l c:Operand}(d:o.op=.makeSlice t l c):o.wp P a w (bt P w g mu a o.dst K y) Q:=by
 simp only[bE,d]at h;split at h
 · rename_i e f k n z n' v p r;split at h;· rename_i x;obtain⟨rfl,rfl⟩:=x;cases b:(Nat.blt 0 f.size&&sR n n' f.bytes) with|false=>grind|true=>simp only[b,cond_true]at h;simp only[sR,Bool.and_eq_true,decide_eq_true_eq,Nat.blt_eq]at b;obtain⟨u,rfl,j,q,m⟩:=b;exact pP s d v p r j ⟨q,m⟩ u h
   grind
 grind
theorem xe(s:bG P C env mu a w g idb){o:Oper}{rid i:Nat}{K:TV->List (Nat×av)->Option R}{y:R}(h:bE C env mu idb rid i o K=some y):o.wp P a w (bt P w g mu a o.dst K y) Q:=by cases b:o.op with
 |move x=>simp only[bE,b]at h;grind[ur]|assign x=>simp only[bE,b]at h;exact ur s (.inr b) h|pick c x z=>simp only[bE,b]at h;grind[ae,bt,yz]|alloc e=>
 simp only[bE,b]at h;split at h;·grind[wO]
 grind|box e x=>
 simp only[bE,b]at h;split at h;·rename_i cs q;cases d:(C.iL rid i).isEmpty with|true=>rw[d]at h;grind[zU]|false=>simp only[d,cond_false]at h;cases hp:(aQ (R:=(C.es e).D×List aI) bM (λ_=>none) (C.es e) [] 0 cs [] bN) with|none=>grind|some p=>obtain⟨I,us⟩:=p;simp only [hp,Option.bind_some] at h;cases us with|nil=>exact ve s b q hp h|cons u us=>cases h
 grind|build t j=>
 simp only [bE,b] at h;split at h
 · rename_i G L;split at h
   · rename_i H;split at h;· grind [wW]
     grind
   grind
 grind|buildSlice t len j=>
 simp only [bE,b] at h;split at h;· rename_i e J r;exact og s b r h
 grind|load t x=>
 simp only [bE,b] at h;split at h;· grind [yA]
 grind|store t x v=>grind [vi]|nilCheck x=>grind [yG]|binOp k t x y n=>simp only [bE,b] at h;grind [zW]|unOp k t x=>grind [vg]|convert t n x=>grind [xb]|makeFunc f E B=>
 cases f<;>simp only [bE,b] at h<;>try (cases h;done)
 grind [bt,fm,qV]|makeSlice t l c=>grind [oo]|slice t x F M A=>cases A with|none=>grind [vh]|some m=>simp [bE,b] at h
 |fieldAddr t x f=>grind [oh]|field t x f=>simp only [bE,b] at h;grind [dg,ae,iS,bt,wQ]|indexAddr t x z=>grind [om]|index t x z=>grind [vj]|extract x i=>simp only [bE,b] at h;grind [ae,wm,bt,tj]|call c=>grind [xc]|_=>simp [bE,b] at h
end
end Go.Tm
namespace Go.Tm
open Go
def CV.In(mu:Mu):CV->Prop|.own id|.ptr id _|.dF id _ _ _=>mu id≠none|.nref id aF _ _=>mu id≠none/\∀es ms xs a,mu id=some (.row es ms xs a)->aF<=a|.ua _ b=>∀id∈b,mu id≠none|_=>True
def tD(mu:Mu):Bool×List CV->Prop|(true,vs)=>∀cv∈vs,cv.In mu|(false,cv::_)=>cv.In mu|(false,[])=>True
def TV.In(mu:Mu):TV->Prop|.c cv=>cv.In mu|.agg vs=>∀cv∈vs,cv.In mu|.we l=>∀x∈l,tD mu x|_=>True
section
variable{P:Program}{w:World}{g g':Gh}{mu cY muF:Mu}
theorem aq.jd{α β:Type}{R:α->β->Prop}:∀{x:List α}{y:List β}{a:α},aq R x y->a∈x->∃b,R a b
 |_::_,_::_,a,h,c=>by
  rcases List.mem_cons.1 c with rfl|c;·grind[aq]
  ·exact aq.jd h.2 c|[],_,_,_,c=>by cases c|_::_,[],_,h,_=>h.elim
theorem CV.R.xX{cv:CV}{v:Value}(h:cv.R P w g mu v):cv.In mu:=by cases cv with|own id=>exact h.1|nref id aF i j=>exact⟨h.1,λes ms xs d e=>(h.2.2 _ _ _ _ e).1⟩|ptr id off=>exact h.1|dF id sz i off=>exact h.1|ua f k=>obtain⟨c,_,b⟩:=h;intro id a;obtain⟨u,l⟩:=aq.jd b a;grind|_=>trivial
theorem TV.R.xX{tv:TV}{v:Value}(h:tv.R P w g mu v):tv.In mu:=by
 cases tv with|c cv=>exact CV.R.xX h|agg vs=>obtain⟨a,_,d⟩:=h;intro cv e;obtain⟨u,b⟩:=aq.jd d e;exact CV.R.xX b|we l=>
 obtain⟨a,_,d⟩:=h;intro x f;obtain⟨u,b⟩:=aq.jd d f;rcases x with⟨_|_,vs⟩
 · rcases vs with _|⟨cv,_⟩;· trivial
   · exact CV.R.xX (v:=u) b
 · obtain⟨a,_,d⟩:=b;intro cv e;obtain⟨u,b⟩:=aq.jd d e;exact CV.R.xX b|_=>trivial
structure yH(w:World)(g:Gh)(mu cY:Mu)(g':Gh)(muF:Mu):Prop where
 hp:aj w g.o w g'.o
 hw:Wf w g.o
 hD:∀id,cY id≠none->muF id≠none/\g'.c id=g.c id
 hV:∀id es ms xs ver',cY id≠none->muF id=some (.row es ms xs ver')->(∃es0 ms0 xs0 ver0,cY id=some (.row es0 ms0 xs0 ver0)/\ver0<ver')\/(mu id=muF id/\∀b k,g.o b k=.o [id]->g'.o b k=.o [id])
theorem CV.vk(h:yH w g mu cY g' muF){cv:CV}{v:Value}(l:cv.In cY)(d:cv.R P w g mu v):cv.R P w g' muF v:=by
 cases cv with|un=>exact d|int k n=>exact d|bool b=>exact d|str s=>exact d|cg=>exact d|ro es xs=>exact ck h.hp h.hw (.sl es) .sh .p .p xs v rfl d|own id=>exact⟨(h.hD _ l).1,(h.hD _ l).2.trans d.2.1,d.2.2⟩|nref id aF i j=>
 obtain⟨l,K⟩:=l;refine⟨(h.hD _ l).1,d.2.1,λes ms xs y A=>?_⟩;rcases h.hV id es ms xs y l A with⟨L,ms0,N,J,z,M⟩|⟨e,ho⟩;·grind
 ·obtain⟨H,F⟩:=d.2.2 es ms xs y (e.trans A);refine⟨H,λe=>?_⟩;obtain⟨a,n,c,q,m,C⟩:=F e;exact⟨a,n,c,(h.hD _ l).2.trans q,m,ho _ _ C⟩|ptr id off=>obtain⟨z,b,base,q,m⟩:=d;exact⟨(h.hD _ l).1,b,base,(h.hD _ l).2.trans q,m⟩|dF id sz i off=>obtain⟨z,a,n,c,q,t,m⟩:=d;exact⟨(h.hD _ l).1,a,n,c,(h.hD _ l).2.trans q,t,m⟩|eO es x off=>obtain⟨b,base,m,t⟩:=d;exact⟨b,base,m,fu h.hp h.hw es [] .p .p (λ_=>.p) (λ_=>.p) 0 x b base rfl (λ_=>rfl) t⟩|uQ f=>exact d|ua f o=>
 obtain⟨B,m,r⟩:=d;refine⟨B,m,?_⟩;have D:∀(o:List Nat) (vs:List Value),(∀id∈o,cY id≠none)->aq (λid u=>mu id≠none/\∃b base,g.c id=.box b base/\u=.pointer (some ⟨b,base,none⟩)) o vs->aq (λid u=>muF id≠none/\∃b base,g'.c id=.box b base/\u=.pointer (some ⟨b,base,none⟩)) o vs:=by intro o;induction o with|nil=>intro vs _ h;cases vs;trivial;exact h.elim|cons id o Q=>intro vs E r;cases vs with|nil=>exact r.elim|cons u vs=>obtain ⟨⟨_,b,base,q,O⟩,r⟩:=r;have :=h.hD id (E id (by simp));simp_all [Gh.c,aq]
 exact D _ _ l r|qy sh G I k=>exact ck h.hp h.hw (.fn sh G I) .sh .p .p k v rfl d
theorem nE(h:yH w g mu cY g' muF):∀{b:List CV}{vs:List Value},(∀cv∈b,cv.In cY)->cc P w g mu b vs->cc P w g' muF b vs|[],[],_,_=>trivial|_::_,_::_,c,a=>⟨CV.vk h (c _ (by simp)) a.1,nE h (λcv d=>c cv (by grind)) a.2⟩|[],_::_,_,a=>a.elim|_::_,[],_,a=>a.elim
theorem TV.vk(h:yH w g mu cY g' muF){tv:TV}{v:Value}(j:tv.In cY)(f:tv.R P w g mu v):tv.R P w g' muF v:=by cases tv with|un=>trivial|kl=>exact f|c cv=>exact CV.vk h j f|agg vs=>obtain⟨a,i,d⟩:=f;exact⟨a,i,nE h j d⟩|we l=>
 obtain⟨a,i,d⟩:=f;refine⟨a,i,?_⟩;have n:∀(l:List (Bool×List CV))(vs:List Value),(∀x∈l,tD cY x)->aq (iD P w g mu) l vs->aq (iD P w g' muF) l vs:=by intro l;induction l with|nil=>grind[tD,aq,iD]|cons x l o=>intro vs k d;cases vs with|nil=>exact d.elim|cons u vs=>
  obtain⟨e,d⟩:=d;have m:=k x (by simp);refine⟨?_,o vs (λy r=>k y (by grind)) d⟩;rcases x with⟨_|_,q⟩
  · rcases q with _|⟨cv,_⟩;· trivial
    · exact CV.vk h m e
  · obtain⟨b,p,e⟩:=e;exact⟨b,p,nE h m e⟩
 exact n _ _ j d
structure Bn(st:St):Prop where
 env:∀n,(st.env n).In st.mu
 box:∀id cs cv,st.mu id=some (.box cs)->cv∈cs->cv.In st.mu
theorem Rel.xX{nt:Nat}{w0:World}{o0:Nat->Nat->ax}{st:St}{tmps:Array Value}(r:Rel P nt w0 o0 st.env st.mu tmps w g):Bn st where
 env n:=TV.R.xX (r.env n)
 box id cs cv d a:=by obtain⟨j,f,e⟩:=List.mem_iff_getElem.1 a;obtain⟨b,base,_,h⟩:=r.dr id _ d;obtain⟨v,_,_,c⟩:=h j cv (by grind);exact CV.R.xX c
def zw(P:Program)(w:World)(g:Gh)(st:St)(tmps:Array Value):cL->Value->Prop|.t n _ _,v=>v=tmps.getD n undef|.b id j _ _,v=>∃cs b base,st.mu id=some (.box cs)/\g.c id=.box b base/\w.cell? ⟨b,base+j,none⟩=some v/\g.o b (base+j)=.o [id]|.r id _ _,v=>g.c id=.row v/\∃es ms xs aF,st.mu id=some (.row es ms xs aF)
def pR(P:Program)(w:World)(o:Nat->Nat->ax)(nx:Nat)(a:Nat->ax):(c:List cL)->Nat->(ay c).D->List Value->Prop|[],_,_,vs=>vs=[]|x::r,k,d,vs=>∃v b,vs=v::b/\(cF x).H P w o (fq x) (a (aN nx k x)) d.1 v/\pR P w o nx a r (k+1) d.2 b
def rz(mu:Mu)(a:Nat->Prop)(bx:Prop):aI->Prop|.mv id to=>(∃es ms xs aF,mu id=some (.row es ms xs aF))/\a to|.pm id=>(∃es ms xs aF,mu id=some (.row es ms xs aF))\/(∃es xs,mu id=some (.fz es xs))\/(bx/\mu id≠none)
def Le(mu mu':Mu):Prop:=∀id b,mu id=some b->mu' id=some b
theorem fV{mu':Mu}(a:Le mu mu'):∀{b:List Nat}{cs:List (List CV)},cD mu b=some cs->cD mu' b=some cs/\∀id∈b,mu id≠none
 |[],cs,h=>⟨h,by simp⟩|id::r,cs,h=>by
  simp only[cD]at h⊢;split at h;·rename_i l1 g d c;obtain⟨e,f⟩:=fV a c;rw[a _ _ d,e];grind
  ·rename_i es x l d c;obtain⟨e,f⟩:=fV a c;rw[a _ _ d,e];grind
  grind
theorem ij{R:Type}{app:vW}{ty:Ty}{md:Md}{to:Nat}{cv:CV}{us:List aI}{K:ty.D->List aI->Option R}{y:R}(h:ak app mu ty md to cv us K=some y):∃x q,K x (q++us)=some y/\(∀u∈q,rz mu (λt=>t=to/\∃es ms,ty=.sl es/\md=.own ms) (app≠bM) u)/\∀mu',Le mu mu'->∀(R':Type) (g:ty.D->List aI->Option R'),ak app mu' ty md to cv us g=g x (q++us):=by cases ty with
 |int k=>
  cases cv<;>simp only[ak]at h<;>try grind
  case int N n=>
  split at h;·rename_i e;exact⟨n,[],h,by simp,λmu' a R' g=>by simp[ak,e]⟩
  grind|bool=>
  cases cv<;>simp only[ak]at h<;>try grind
  case bool b=>exact⟨b,[],h,by simp,λmu' a R' g=>by simp[ak]⟩|str=>
  cases cv<;>simp only[ak]at h<;>try grind
  case str b=>exact⟨b,[],h,by simp,λmu' a R' g=>by simp[ak]⟩|sl es=>simp only[ak]at h;cases md with
  |own ms=>
  cases cv<;>simp only[cC]at h<;>try grind
  case cg=>exact⟨[],[],h,by simp,λmu' a R' g=>by simp[ak,cC]⟩
  case own id=>cases c:mu id with|none=>grind|some b=>
  cases b<;>simp only[c]at h<;>try grind
  case row m r xs aF=>cases d:af.eq? m es with|none=>grind|some p=>simp only[d]at h;cases A:dG r ms with|false=>grind|true=>simp only[A,cond_true]at h;exact⟨_,[.mv id to],h,by simp[rz,c],λmu' a R' g=>by simp[ak,cC,a _ _ c,d,A]⟩
  |sh=>
 cases cv<;>simp only[cC]at h<;>try grind
 case cg=>exact⟨[],[],h,by simp,λmu' a R' g=>by simp[ak,cC]⟩
 case ro m xs=>cases d:af.eq? m es with|none=>grind|some p=>simp only[d]at h;exact⟨_,[],h,by simp,λmu' a R' g=>by simp[ak,cC,d]⟩
 case own id=>simp only[aE]at h;cases c:mu id with|none=>grind|some b=>
  cases b<;>simp only[c]at h<;>try grind
  case row m r xs aF=>cases d:af.eq? m es with|none=>grind|some p=>simp only[d]at h;exact⟨_,[.pm id],h,by simp[rz,c],λmu' a R' g=>by simp[ak,cC,aE,a _ _ c,d]⟩
  case fz m xs=>cases d:af.eq? m es with|none=>grind|some p=>simp only[d]at h;exact⟨_,[.pm id],h,by simp[rz,c],λmu' a R' g=>by simp[ak,cC,aE,a _ _ c,d]⟩
 case nref id aF i j=>simp only[aE]at h;cases c:mu id with|none=>grind|some b=>
 cases b<;>simp only[c]at h<;>try grind
 case row m r xs E=>cases w:Nat.beq aF E with|false=>grind|true=>simp only[w,cond_true]at h;cases C:aC xs i with|none=>grind|some x=>simp only[C,Option.bind_some]at h;cases z:m.leaf j x with|none=>grind|some l=>
 obtain⟨lt,M⟩:=l;cases lt<;>simp only[z]at h<;>try grind
 case sl H=>cases d:af.eq? H es with|none=>grind|some p=>simp only[d]at h;exact⟨_,[.pm id],h,by simp[rz,c],λmu' a R' g=>by simp[ak,cC,aE,a _ _ c,w,C,z,d]⟩
 |fn sh s v=>
 cases cv<;>simp only[ak]at h<;>try grind
 case qy F J G k=>cases d:Ty.eq? (.fn F J G) (.fn sh s v) with|none=>grind|some p=>simp only[d]at h;exact⟨_,[],h,by simp,λmu' a R' g=>by simp[ak,d]⟩
 case uQ f=>cases o:app f sh [] s v with|none=>grind|some k=>simp only [o] at h;exact⟨_,[],h,by simp,λmu' a R' g=>by simp [ak,o]⟩
 case ua f B=>cases c:cD mu B with|none=>grind|some D=>simp only [c] at h;cases o:app f sh D s v with|none=>grind|some k=>simp only [o] at h;refine⟨_,B.map .pm,h,λu L=>?_,λmu' a R' g=>by simp [ak,(fV a c).1,o]⟩;obtain⟨id,I,rfl⟩:=List.mem_map.1 L;exact .inr (.inr ⟨λe=>(by rw [e] at o;cases o),(fV (mu':=mu) (λ_ _ h=>h) c).2 id I⟩)
theorem xf{st:St}{tmps:Array Value}(l:∀t,(st.env t).R P w g st.mu (tmps.getD t undef))(i:cR P w g st.mu){x:cL}{R:Type}{to:Nat}{us:List aI}{K:(cF x).D->List aI->Option R}{y:R}(h:ak bM st.mu (cF x) (fq x) to (ly st x) us K=some y):∃v,(ly st x).R P w g st.mu v/\zw P w g st tmps x v:=by
 have m:∀{t:Ty}{md:Md}{K:t.D->List aI->Option R},ak bM st.mu t md to .un us K=some y->False:=by intro t md K h;cases t<;>simp[ak]at h;case sl es=>cases md<;>simp[cC]at h
 cases x with
 |t n ty md=>
 refine⟨tmps.getD n undef,?_,rfl⟩;have :=l n;simp only[ly]at h⊢;split;·rename_i v e;rw[e]at this;exact this
 grind|b id j ty md=>simp only[ly]at h⊢;cases d:st.mu id with|none=>grind|some bl=>
 cases bl<;>simp only[d]at h⊢<;>try exact (m h).elim
 case box cs=>obtain⟨b,base,f,k⟩:=i id _ d;cases q:cs[j]? with|none=>grind|some cv=>
 have e:cs.getD j .un=cv:=by grind
 obtain⟨v,p,o,s⟩:=k j cv q;rw[e];exact⟨v,s,cs,b,base,d,f,p,o⟩
 |r id es ms=>simp only[ly,cF,fq,ak,cC]at h⊢;cases d:st.mu id with|none=>grind|some bl=>
 cases bl<;>simp only[d]at h<;>try grind
 case row A z xs aF=>obtain⟨v,f,u⟩:=i id _ d;obtain⟨a,c,B,_⟩:=bI.1 u;simp_all[CV.R,St.mu,zw,Gh.c,af.D]
theorem rA{mu:Mu}{es:af}{ms:List Md}{to id:Nat}{us:List aI}{R:Type}{K:List es.D->List aI->Option R}{y:R}(h:ak bM mu (.sl es) (.own ms) to (.own id) us K=some y):ak bM mu (.sl es) (.own ms) to (.own id) us (λ_ u=>some u)=some (.mv id to::us):=by simp only[ak,cC]at h⊢;grind
theorem im{st:St}{tmps:Array Value}(o:∀t,(st.env t).R P w g st.mu (tmps.getD t undef))(a:cR P w g st.mu)(hw:Wf w g.o){nx:Nat}:∀(c:List cL)(k:Nat){us:List aI}{R:Type}{K:(ay c).D->List aI->Option R}{y:R}(_:dh st nx c k us K=some y),∃d j vals,K d (j++us)=some y/\aq (zw P w g st tmps) c vals/\(∀u∈j,rz st.mu (λt=>∃i x es ms,c[i]?=some x/\t=aN nx (k+i) x/\cF x=.sl es/\fq x=.own ms) False u)/\(∀(f:Nat->ax) w' o',aj w g.o w' o'->(∀u∈j,br f w g.o w' o' u)->pR P w' o' nx f c k d vals)/\∀id es ms,.r id es ms∈c->.mv id id∈j
 |[],k,us,R,K,y,h=>⟨(),[],[],h,trivial,by simp,λ_ _ _ _ _=>rfl,by simp⟩|x::r,k,us,R,K,y,h=>by
  simp only[dh]at h;obtain⟨v,H,E⟩:=xf o a h;obtain⟨d,j,M,G,p⟩:=ij h;have I:=p st.mu (λ_ _ h=>h) ((cF x).D×List aI) (λd u=>some (d,u));obtain⟨N,q,e,L⟩:=gX a hw eQ H I;simp only[Option.some.injEq,Prod.mk.injEq]at e;obtain⟨rfl,e⟩:=e;have e:=List.append_cancel_right e;subst e;obtain⟨J,C,vals,Q,B,A,F,O⟩:=im o a hw r (k+1) M;refine⟨(N,J),C++q,v::vals,by grind,⟨E,B⟩,λu b=>?_,λf w' o' hp z=>⟨v,vals,rfl,L f w' o' hp λu b=>z u (by grind),F f w' o' hp λu b=>z u (by grind)⟩,λid es ms a=>?_⟩;rotate_left
  · rcases List.mem_cons.1 a with a|a;· subst a;have :=rA h;have m:=p st.mu (λ_ _ h=>h) (List aI) (λ_ u=>some u);have l:some (q++us)=some ([aI.mv id id]++us):=m.symm.trans this;simp only[Option.some.injEq]at l;simp[List.append_cancel_right l]
    grind
  rcases List.mem_append.1 b with b|b;· have :=A u b;cases u with|mv id to=>obtain⟨m,i,x',es,ms,l,s,n⟩:=this;exact⟨m,i+1,x',es,ms,by grind,by grind,n⟩|pm id=>exact this
  · have :=G u b;cases u with|mv id to=>obtain⟨m,l,es,ms,s,n⟩:=this;exact⟨m,0,x,es,ms,rfl,l,s,n⟩|pm id=>simp_all[af.D,St.mu,vW,bM,rz,aN,cF,fq]
end
end Go.Tm
namespace Go.Tm
open Go
section
variable{P:Program}{w:World}{g g':Gh}{mu cY muF:Mu}{tmps:Array Value}
theorem aT{α:Type}(f:Nat->α)(k:Nat)(v:α):bW f k v k=v:=by simp_all[bW]
theorem bu{α:Type}(f:Nat->α){k n:Nat}(v:α)(h:n≠k):bW f k v n=f n:=by have :Nat.beq n k=false:=Bool.eq_false_iff.2 λe=>h (Nat.eq_of_beq_eq_true e);grind[bW]
def Ax(w:World)(g':Gh)(nx:Nat)(tmps:Array Value):cL->Value->Prop|.t n ty md,v=>v=tmps.getD n undef/\qI ty md=true|.b id j ty md,v=>id<nx*2048/\(∃b base,g'.c id=.box b base/\w.cell? ⟨b,base+j,none⟩=some v/\g'.o b (base+j)=.o [id])/\qI ty md=true|.r id _ _,v=>id<nx*2048/\g'.c id=.row v
def uA(P:Program)(w:World)(g':Gh)(muF:Mu)(tmps:Array Value)(a:List cL)(env:Nat->TV):Prop:=∀n,(∀ty md,.t n ty md∉a)->(env n).R P w g' muF (tmps.getD n undef)
def oN(P:Program)(w:World)(g':Gh)(muF:Mu)(a:List cL)(id:Nat)(b:av):Prop:=match b with|.box cs=>∃b base,g'.c id=.box b base/\∀j cv,cs[j]?=some cv->(∀ty md,.b id j ty md∉a)->∃v,w.cell? ⟨b,base+j,none⟩=some v/\g'.o b (base+j)=.o [id]/\cv.R P w g' muF v|b=>b.R P w g' muF id
def uB(P:Program)(w:World)(g':Gh)(muF:Mu)(a:List cL)(mu:Mu):Prop:=∀id b,mu id=some b->(∀es ms,.r id es ms∉a)->oN P w g' muF a id b
def tE(mu:Mu):cL->Prop|.t _ _ _=>True|.b id j _ _=>∃cs,mu id=some (.box cs)/\j<cs.length|.r id _ _=>∃es ms xs aF,mu id=some (.row es ms xs aF)
theorem rB{k:Nat}{s:St}{n:Nat}{ty:Ty}{d:ty.D}:aG k s (.t n ty .sh) d={s with env:=bW s.env n (.c (ty.ro d))}:=rfl
theorem eS{k:Nat}{s:St}{n:Nat}{es:af}{ms:List Md}(d:List es.D):aG k s (.t n (.sl es) (.own ms)) d={s with env:=bW s.env n (.c (.own k)),mu:=bW s.mu k (some (.row es ms d 0))}:=rfl
theorem fW{k:Nat}{s:St}{id j:Nat}{ty:Ty}(d:ty.D){cs:List CV}(h:s.mu id=some (.box cs)):aG k s (.b id j ty .sh) d={s with mu:=bW s.mu id (some (.box (cs.set j (ty.ro d))))}:=by simp_all[aG,St.env,bW,St.mu,Ty.ro,St.tw,St.mw,St.nx]
theorem dN{k:Nat}{s:St}{id j:Nat}{es:af}{ms:List Md}(d:List es.D){cs:List CV}(h:s.mu id=some (.box cs)):aG k s (.b id j (.sl es) (.own ms)) d={s with mu:=bW (bW s.mu id (some (.box (cs.set j (.own k))))) k (some (.row es ms d 0))}:=by show ({(match s.mu id with|some (.box cs)=>({s with mu:=bW s.mu id (some (.box (cs.set j (.own k))))}:St)|_=>s) with mu:=au (match s.mu id with|some (.box cs)=>({s with mu:=bW s.mu id (some (.box (cs.set j (.own k))))}:St)|_=>s).mu [(k,.row es ms d 0)]}:St)=_;rw [h];rfl
theorem je{k:Nat}{s:St}{id:Nat}{es:af}{ms:List Md}(d:List es.D){a:af}{ms0:List Md}{b:List a.D}{aF:Nat}(h:s.mu id=some (.row a ms0 b aF)):aG k s (.r id es ms) d={s with mu:=bW s.mu id (some (.row es ms d (aF+1)))}:=by simp_all[aG,St.env,bW,St.mu,St.tw,St.mw,St.nx,af.D]
theorem fE{s s':St}{id:Nat}{b:Option av}(h:s=s')(a:s'.mu id=b):s.mu id=b:=h▸a
theorem ju{nx k:Nat}{s:St}{x:cL}{d:(cF x).D}{v:Value}(i:Ax w g' nx tmps x v)(h:tE s.mu x):∀id,((aG (aN nx k x) s x d).mu id=s.mu id)\/(id=nx*2048+k/\∃es ms xs,(aG (aN nx k x) s x d).mu id=some (.row es ms xs 0))\/(∃j ty md cs cv,x=.b id j ty md/\s.mu id=some (.box cs)/\(aG (aN nx k x) s x d).mu id=some (.box (cs.set j cv)))\/(∃es ms c ms0 f xs aF,x=.r id es ms/\s.mu id=some (.row c ms0 f aF)/\(aG (aN nx k x) s x d).mu id=some (.row es ms xs (aF+1))):=by intro id;cases x with
 |t n ty md=>cases md with|sh=>exact .inl rfl|own ms=>obtain⟨_,hty⟩:=i;cases ty<;>simp[qI]at hty;case sl es=>
 by_cases e:id=nx*2048+k;·exact .inr (.inl ⟨e,es,ms,d,fE (eS (es:=es) d) (by subst e;exact aT _ _ _)⟩)
 ·exact .inl (fE (eS (es:=es) d) (bu _ _ e))
 |b id' j ty md=>
 obtain ⟨m,_,hty⟩:=i
 obtain ⟨cs,a,o⟩:=h;cases md with|sh=>
 by_cases e:id=id';·subst e;exact .inr (.inr (.inl ⟨j,ty,_,cs,_,rfl,a,fE (fW (ty:=ty) d a) (aT _ _ _)⟩))
 ·exact .inl (fE (fW (ty:=ty) d a) (bu _ _ e))|own ms=>cases ty<;>simp[qI]at hty;case sl es=>
 by_cases e:id=nx*2048+k;·exact .inr (.inl ⟨e,es,ms,d,fE (dN (es:=es) d a) (by subst e;exact aT _ _ _)⟩)
 · by_cases l:id=id';· subst l;exact .inr (.inr (.inl ⟨j,_,_,cs,_,rfl,a,fE (dN (es:=es) d a) ((bu _ _ e).trans (aT _ _ _))⟩))
   · exact .inl (fE (dN (es:=es) d a) ((bu _ _ e).trans (bu _ _ l)))
 |r id' es ms=>
 obtain ⟨c,ms0,f,aF,g⟩:=h;by_cases e:id=id';· subst e;exact .inr (.inr (.inr ⟨es,ms,c,ms0,f,_,aF,rfl,g,fE (je (es:=es) d g) (aT _ _ _)⟩))
 · exact .inl (fE (je (es:=es) d g) (bu _ _ e))
theorem oO{nx k:Nat}{s:St}{x y:cL}{d:(cF x).D}{v:Value}(g:Ax w g' nx tmps x v)(e:tE s.mu x)(u:∀id,nx*2048+k<=id->s.mu id=none)(i:tE s.mu y):tE (aG (aN nx k x) s x d).mu y:=by cases y with
 |t=>trivial|b id j ty md=>
 obtain⟨cs,f,n⟩:=i;rcases ju (k:=k) (d:=d) g e id with h|⟨h,_⟩|⟨o,_,_,l,cv,_,a,c⟩|⟨_,_,_,_,_,_,_,_,a,_⟩;·exact⟨cs,h.trans f,n⟩
 ·grind
 ·rw[f]at a;cases a;exact⟨_,c,by grind⟩
 grind|r id es ms=>
 obtain⟨p,ms0,q,aF,m⟩:=i;rcases ju (k:=k) (d:=d) g e id with h|⟨h,_⟩|⟨o,_,_,l,cv,_,a,c⟩|⟨_,_,_,_,_,_,_,_,a,c⟩;·exact⟨_,_,_,_,h.trans m⟩
 ·grind
 ·grind
 ·exact⟨_,_,_,_,c⟩
theorem jZ{nx:Nat}:∀(a:List cL)(k:Nat){s:St}{d:(ay a).D}{vals:List Value},aq (Ax w g' nx tmps) a vals->(∀x∈a,tE s.mu x)->(∀id,nx*2048+k<=id->s.mu id=none)->(∀id,s.mu id≠none->(bP nx a k s d).mu id≠none)/\(∀id es ms xs aF,s.mu id≠none->(bP nx a k s d).mu id=some (.row es ms xs aF)->((bP nx a k s d).mu id=s.mu id/\∀es ms,.r id es ms∉a)\/∃l ms0 m f,s.mu id=some (.row l ms0 m f)/\f<aF)/\(∀id,nx*2048+(k+a.length)<=id->(bP nx a k s d).mu id=none)/\(∀i x es ms,a[i]?=some x->cF x=.sl es->fq x=.own ms->(bP nx a k s d).mu (aN nx (k+i) x)≠none)
 |[],k,s,d,vals,g,u,B=>⟨λid h=>h,λid es ms xs aF h F=>.inl ⟨rfl,by simp⟩,λid h=>B id (by omega),by simp⟩|x::r,k,s,d,[],g,u,B=>g.elim|x::r,k,s,d,v::vals,g,u,B=>by
  have q:=u x (by simp);have L:=ju (k:=k) (d:=d.1) g.1 q;have I:∀id,nx*2048+(k+1)<=id->(aG (aN nx k x) s x d.1).mu id=none:=by grind
  have E:∀id,s.mu id≠none->(aG (aN nx k x) s x d.1).mu id≠none:=by grind
  obtain ⟨G,F,M,P⟩:=jZ r (k+1) (s:=aG (aN nx k x) s x d.1) (d:=d.2) g.2 (λy V=>oO g.1 q B (u y (by grind))) I;refine ⟨λid z=>G id (E id z),λid es ms xs aF z C=>?_,λid z=>M id (by grind),λi x' es ms H p o=>?_⟩
  · have C:(bP nx r (k+1) (aG (aN nx k x) s x d.1) d.2).mu id=some (.row es ms xs aF):=C;rcases L id with h|⟨h,_⟩|⟨W,S,U,R,cv,K,p,o⟩|⟨c,e,l,ms0,m,T,f,K,p,o⟩
    · rcases F id es ms xs aF (E id z) C with ⟨N,Q⟩|⟨l,ms0,m,f,N,Q⟩
      · by_cases O:∃c e,x=.r id c e;· obtain ⟨c,e,rfl⟩:=O;obtain ⟨l,ms0,m,f,A⟩:=q;have :=(fE (je (k:=aN nx k (.r id c e)) (es:=c) d.1 A) (aT s.mu id (some (av.row c e d.1 (f+1))))).symm.trans (h.trans A);grind
        grind
      grind
    · grind
    · grind
    grind
  · cases i with
 |zero=>simp only[List.getElem?_cons_zero,Option.some.injEq]at H;subst H;refine G _ ?_;cases x with|t n ty md=>cases (p:ty=.sl es);cases (o:md=.own ms);intro h;have :=(fE (eS (k:=nx*2048+k) (s:=s) (n:=n) (es:=es) d.1) (aT _ _ _)).symm.trans h;grind|b id j ty md=>cases (p:ty=.sl es);cases (o:md=.own ms);obtain ⟨cs,J,_⟩:=q;intro h;have :=(fE (dN (k:=nx*2048+k) (j:=j) (ms:=ms) (es:=es) d.1 J) (aT _ _ _)).symm.trans h;grind|r id c e=>obtain ⟨l,ms0,m,aF,A⟩:=q;intro h;have :=(fE (je (k:=id) (ms:=e) (es:=c) d.1 A) (aT _ _ _)).symm.trans h;grind
 |succ i=>have :=P i x' es ms (by grind) p o;rw[show k+(i+1)=k+1+i by omega];exact this
end
end Go.Tm
namespace Go.Tm
open Go
section
variable{P:Program}{w:World}{g g':Gh}{mu cY muF:Mu}{tmps:Array Value}
theorem oN.xg{c a:List cL}{id:Nat}{b:av}(h:oN P w g' muF c id b)(i:∀j ty md,.b id j ty md∈c->.b id j ty md∈a):oN P w g' muF a id b:=by cases b with|box cs=>obtain⟨b,base,d,h⟩:=h;exact⟨b,base,d,λj cv g e=>h j cv g λty md f=>e ty md (i j ty md f)⟩|_=>exact h
theorem nF{s s':St}{n:Nat}{v:TV}(h:s=s')(a:s'.env n=v):s.env n=v:=h▸a
theorem nG{es:af}{ms:List Md}{k:Nat}{d:List es.D}{v:Value}(b:(Ty.sl es).H P w g'.o (.own ms) (.o [k]) d v) (g:muF k≠none) (e:g'.c k=.row v):(CV.own k).R P w g' muF v:=by obtain⟨a,c,f,_⟩:=bI.1 b;exact⟨g,e,a,_,c,f⟩
theorem uC{r:List cL}{id j:Nat}{ty:Ty}{md:Md}{cs:List CV}{cv:CV}{v:Value}(d:oN P w g' muF (.b id j ty md::r) id (.box cs))(e:∃b base,g'.c id=.box b base/\w.cell? ⟨b,base+j,none⟩=some v/\g'.o b (base+j)=.o [id])(i:cv.R P w g' muF v):oN P w g' muF r id (.box (cs.set j cv)):=by obtain⟨b,base,c,h⟩:=d;obtain⟨b',f,a,l,k⟩:=e;rw [c]at a;cases a;refine⟨b,base,c,λn cv' g m=>?_⟩;grind
theorem nH{nx:Nat}:∀(p:List cL)(k:Nat){s:St}{d:(ay p).D}{vals:List Value},pR P w g'.o nx (λto=>.o [to]) p k d vals->aq (Ax w g' nx tmps) p vals->(∀x∈p,tE s.mu x)->(∀id,nx*2048+k<=id->s.mu id=none)->(∀i v,vals[i]?=some v->g'.c (nx*2048+(k+i))=.row v)->muF=(bP nx p k s d).mu->uA P w g' muF tmps p s.env->uB P w g' muF p s.mu->uA P w g' muF tmps [] (bP nx p k s d).env/\uB P w g' muF [] (bP nx p k s d).mu
 |[],k,s,d,vals,L,l,F,G,J,M,B,g=>⟨B,g⟩|x::r,k,s,d,[],L,l,F,G,J,M,B,g=>l.elim|x::r,k,s,d,v::vals,L,l,F,G,J,M,B,g=>by
  obtain⟨κ,β,e,C,Y⟩:=L;simp only [List.cons.injEq]at e;obtain⟨rfl,rfl⟩:=e;have H:=F x (by simp);have O:∀es ms,cF x=.sl es->fq x=.own ms->muF (aN nx k x)≠none:=λes ms N T=>by have :=(jZ (k:=k) (s:=s) (d:=d) (x::r) l F G).2.2.2 0 x es ms rfl N T;grind
  have I:g'.c (nx*2048+k)=.row v:=by have :=J 0 v rfl;omega
  have W:∀id,nx*2048+(k+1)<=id->(aG (aN nx k x) s x d.1).mu id=none:=by
   intro id ε;rcases ju (k:=k) (d:=d.1) l.1 H id with h|⟨h,_⟩|⟨σ,_,_,γ,cv,_,N,T⟩|⟨_,_,_,_,_,_,_,_,N,_⟩;·grind
   ·omega
   ·grind
   grind
  have α:s.mu (nx*2048+k)=none:=G _ (Nat.le_refl _);have R:uA P w g' muF tmps r (aG (aN nx k x) s x d.1).env/\uB P w g' muF r (aG (aN nx k x) s x d.1).mu:=by cases x with
  |t m ty md=>obtain⟨rfl,hty⟩:=l.1;cases md with|sh=>
  have a:=rB (k:=nx*2048+k) (s:=s) (n:=m) (ty:=ty) (d:=d.1);refine⟨λn A=>?_,λid b f A=>?_⟩
  · by_cases e:n=m;· subst e;rw [show (aG (aN nx k (.t n ty .sh)) s (.t n ty .sh) d.1).env n=.c (ty.ro d.1) from nF a (aT _ _ _)];exact wD ty (mE ty C)
    · rw [show (aG (aN nx k (.t m ty .sh)) s (.t m ty .sh) d.1).env n=s.env n from nF a (bu _ _ e)];exact B n λq z g=>by grind
  · exact (g id b f λes ms E=>by grind).xg λj q z h=>by grind|own ms=>cases ty<;>simp [qI]at hty;case sl es=>
  have a:=eS (k:=nx*2048+k) (s:=s) (n:=m) (es:=es) (ms:=ms) d.1;refine⟨λn A=>?_,λid b f A=>?_⟩
  · by_cases e:n=m;· subst e;rw [show (aG (aN nx k (.t n (.sl es) (.own ms))) s (.t n (.sl es) (.own ms)) d.1).env n=.c (.own (nx*2048+k)) from nF a (aT _ _ _)];exact nG (es:=es) (ms:=ms) (d:=d.1) C (O es ms rfl rfl) I
    · rw [show (aG (aN nx k (.t m (.sl es) (.own ms))) s (.t m (.sl es) (.own ms)) d.1).env n=s.env n from nF a (bu _ _ e)];exact B n λq z g=>by grind
  · by_cases e:id=nx*2048+k;· subst e;have :=(fE a (aT _ _ _)).symm.trans f;simp only [Option.some.injEq]at this;subst this;exact⟨_,I,C⟩
    · exact (g id b ((fE a (bu _ _ e)).symm.trans f) λes ms E=>by grind).xg λj q z h=>by grind
  |b id0 j ty md=>
  obtain⟨X,Q,hty⟩:=l.1;obtain⟨cs,K,π⟩:=H;have S:=g id0 _ K λes ms E=>by obtain⟨_,_,_,_,h⟩:=F _ E;grind
  cases md with|sh=>
  have a:=fW (k:=nx*2048+k) (j:=j) (ty:=ty) d.1 K;refine⟨λn A=>?_,λid b f A=>?_⟩;· rw [show (aG (aN nx k (.b id0 j ty .sh)) s (.b id0 j ty .sh) d.1).env n=s.env n from nF a rfl];exact B n λq z g=>by grind
  · by_cases e:id=id0;· subst e;have :=(fE a (aT _ _ _)).symm.trans f;simp only [Option.some.injEq]at this;subst this;exact uC S Q (wD ty (mE ty C))
    · exact (g id b ((fE a (bu _ _ e)).symm.trans f) λes ms E=>by grind).xg λj q z h=>by grind|own ms=>cases ty<;>simp [qI]at hty;case sl es=>
  have a:=dN (k:=nx*2048+k) (j:=j) (ms:=ms) (es:=es) d.1 K;refine⟨λn A=>?_,λid b f A=>?_⟩;· rw [show (aG (aN nx k (.b id0 j (.sl es) (.own ms))) s (.b id0 j (.sl es) (.own ms)) d.1).env n=s.env n from nF a rfl];exact B n λq z g=>by grind
  · by_cases e:id=nx*2048+k;· subst e;have :=(fE a (aT _ _ _)).symm.trans f;simp only [Option.some.injEq]at this;subst this;exact⟨_,I,C⟩
    · by_cases U:id=id0;· subst U;have :=(fE a ((bu _ _ e).trans (aT _ _ _))).symm.trans f;simp only [Option.some.injEq]at this;subst this;exact uC S Q (nG (es:=es) (ms:=ms) (d:=d.1) C (O es ms rfl rfl) I)
      · exact (g id b ((fE a ((bu _ _ e).trans (bu _ _ U))).symm.trans f) λes ms E=>by grind).xg λj q z h=>by grind
  |r id0 es ms=>
   obtain⟨X,V⟩:=l.1;obtain⟨δ,ms0,θ,aF,Z⟩:=H;have a:=je (k:=aN nx k (.r id0 es ms)) (ms:=ms) (es:=es) d.1 Z;refine⟨λn A=>?_,λid b f A=>?_⟩;· rw [show (aG (aN nx k (.r id0 es ms)) s (.r id0 es ms) d.1).env n=s.env n from nF a rfl];exact B n λq z g=>by grind
   · by_cases e:id=id0;· subst e;have :=(fE a (aT _ _ _)).symm.trans f;simp only [Option.some.injEq]at this;subst this;exact⟨_,V,C⟩
     · exact (g id b ((fE a (bu _ _ e)).symm.trans f) λes ms E=>by grind).xg λj q z h=>by grind
  exact nH r (k+1) (s:=aG (aN nx k x) s x d.1) (d:=d.2) Y l.2 (λy μ=>oO l.1 H G (F y (by grind))) W (λi u ρ=>by have :=J (i+1) u (by grind);grind) M R.1 R.2
end
end Go.Tm
namespace Go.Tm
open Go
def nI(b:St)(cA:List aI)(a:jP):Mu:=au (au b.mu (iG b.mu cA)) (a.aB.map λn=>(n,.aB))
structure tF(st0 st:St)(cA us:List aI)(a:jP):Prop where
 env:∀n,a.fh.any (Nat.beq n)=false->(∀ty md,.t n ty md∉a.ah)->st.env n=st0.env n
 dr:∀id b,nI st0 cA a id=some b->(∀es ms,.r id es ms∉a.ah)->b=.aB\/(∃cs cs',b=.box cs/\st0.mu id=some (.box cs)/\st.mu id=some (.box cs')/\∀j cv,cs[j]?=some cv->(∀ty md,.b id j ty md∉a.ah)->cs'[j]?=some cv)\/(st.mu id=some b/\(∀cs,b≠.box cs)/\∀u∈us,aH u=id->∃es xs,b=.fz es xs)\/(∃es xs ms aF,b=.fz es xs/\st.mu id=some (.row es ms xs aF)/\.pm id∈us)Bo:∀id,id<st0.nx*2048->st.mu id≠none->nI st0 cA a id≠none
 pS:∀id es ms,.r id es ms∈a.ah->nI st0 cA a id=st0.mu id
 zx:∀id j ty md,.b id j ty md∈a.ah->nI st0 cA a id=st0.mu id
 cA:∀u∈cA,st0.mu (aH u)≠none
theorem jf{mu:Mu}{id:Nat}{b:av}:∀{us:List aI},(id,b)∈iG mu us->(b=.aB\/∃es ms xs aF,mu id=some (.row es ms xs aF)/\b=.fz es xs/\.pm id∈us)/\∃u∈us,aH u=id/\∀to,u=.mv id to->id≠to
 |[],h=>by cases h|u::r,h=>by
  have f:(id,b)∈iG mu r->(b=.aB\/∃es ms xs aF,mu id=some (.row es ms xs aF)/\b=.fz es xs/\.pm id∈u::r)/\∃x∈u::r,aH x=id/\∀to,x=.mv id to->id≠to:=λh=>by obtain⟨i,x,j,g⟩:=jf h;grind
  cases u with
 |mv id' to=>
 simp only[iG]at h;rcases List.mem_append.1 h with h|h;·cases d:Nat.beq id' to with|true=>grind|false=>simp only[d,cond_false,List.mem_singleton,Prod.mk.injEq]at h;obtain⟨rfl,rfl⟩:=h;exact⟨.inl rfl,.mv id to,List.mem_cons_self,rfl,λc e=>by cases e;exact λe=>by simp_all⟩
 grind|pm id'=>
 simp only[iG]at h;rcases List.mem_append.1 h with h|h;·cases a:mu id' with|none=>grind|some bl=>
  cases bl<;>simp only[a]at h<;>try (cases h;done)
  case row es ms xs aF=>simp only[List.mem_singleton,Prod.mk.injEq]at h;obtain⟨rfl,rfl⟩:=h;exact⟨.inr ⟨es,ms,xs,aF,a,rfl,List.mem_cons_self⟩,.pm id,List.mem_cons_self,rfl,λc e=>by cases e⟩
  simp_all[af.D,aH,iG,aI.ctorIdx]
 grind
theorem nJ{mu:Mu}{id to:Nat}(a:id≠to):∀{us:List aI},.mv id to∈us->(id,.aB)∈iG mu us
 |u::r,h=>by
  rcases List.mem_cons.1 h with rfl|h;·have :Nat.beq id to=false:=Bool.eq_false_iff.2 λe=>a (Nat.eq_of_beq_eq_true e);grind[iG]
  ·have :=nJ (mu:=mu) a h;cases u<;>exact List.mem_append_right _ this
theorem nK{mu:Mu}{id:Nat}{es:af}{ms:List Md}{xs:List es.D}{aF:Nat}(a:mu id=some (.row es ms xs aF)):∀{us:List aI},.pm id∈us->(id,.fz es xs)∈iG mu us
 |u::r,h=>by
  rcases List.mem_cons.1 h with rfl|h;·simp[iG,a]
  ·have :=nK a h;cases u<;>exact List.mem_append_right _ this
theorem kN{l:List Nat}{id:Nat}{b:av}(h:(id,b)∈l.map λn=>(n,av.aB)):b=.aB/\id∈l:=by grind
theorem fg{c:St}{cA:List aI}{a:jP}{id:Nat}{b:av}(h:nI c cA a id=some b):(c.mu id=some b/\id∉a.aB/\∀b',(id,b')∉iG c.mu cA)\/(b=.aB/\id∈a.aB)\/(id∉a.aB/\∃u∈cA,aH u=id/\(∀to,u=.mv id to->id≠to)/\(b=.aB\/∃es ms xs aF,c.mu id=some (.row es ms xs aF)/\b=.fz es xs/\.pm id∈cA)):=by
 rcases aW h with h|⟨e,h⟩;·grind
 · have d:id∉a.aB:=λd=>e .aB (List.mem_map.2 ⟨id,d,rfl⟩);rcases aW h with h|⟨i,h⟩;· obtain⟨f,u,g,j,k⟩:=jf h;grind
   grind
def fF(n:Nat)(us:List aI):Nat->List Nat->ax:=λid s=>match aS id us with|some (.mv _ to)=>.o (to::s)|some (.pm _)=>.p|none=>if n<=id then .x else .o (id::s)
open Classical in noncomputable def iF(n:Nat)(us:List aI)(vals:List Value)(g:Gh):Gh:=⟨λb k=>re (fF n us) (g.o b k),λid=>if n<=id then .row (vals.getD (id-n) undef) else g.c id⟩
section
variable{P:Program}{w w0:World}{o0:Nat->Nat->ax}{g:Gh}{tmps:Array Value}{nt:Nat}
theorem yI{n:Nat}{us:List aI}{id to:Nat}(a:aP us=true)(h:aI.mv id to∈us)(s:List Nat):fF n us id s=.o (to::s):=by simp[fF,fy a h]
theorem yJ{n:Nat}{us:List aI}{id:Nat}(a:aP us=true)(h:aI.pm id∈us)(s:List Nat):fF n us id s=.p:=by simp[fF,gI a h]
theorem oP{n:Nat}{us:List aI}{id:Nat}(h:∀u∈us,aH u≠id)(b:id<n)(s:List Nat):fF n us id s=.o (id::s):=by
 have :aS id us=none:=by cases e:aS id us with|none=>rfl|some u=>obtain⟨c,a⟩:=dL e;grind
 simp[fF,this];omega
theorem oQ{n:Nat}{us:List aI}{vals:List Value}:aj w g.o w (iF n us vals g).o:=λb k v a ho=>⟨a,by simp[iF,ho,re]⟩
theorem mg{n:Nat}{us:List aI}{vals:List Value}(d:aP us=true):∀u∈us,br (λto=>.o [to]) w g.o w (iF n us vals g).o u:=by intro u c;cases u with|mv id to=>exact .inl ⟨[to],rfl,λb k s v a ho=>⟨a,by simp only [List.cons_append,List.nil_append]at ho⊢;simp [iF,ho,re,yI d c]⟩⟩|pm id=>exact .inr ⟨rfl,λb k s v a ho=>⟨a,by simp only [List.cons_append,List.nil_append]at ho⊢;simp [iF,ho,re,yJ d c]⟩⟩
theorem vp{n:Nat}{us:List aI}{vals:List Value}{id:Nat}(h:∀u∈us,aH u≠id)(a:id<n):Rl w g.o w (iF n us vals g).o (.o [id]) (.o [id]):=.inl ⟨[id],rfl,λb k s v c ho=>⟨c,by simp only [List.cons_append,List.nil_append]at ho⊢;simp [iF,ho,re,oP h a]⟩⟩
theorem ka{n:Nat}{us:List aI}{vals:List Value}{id:Nat}(h:∀u∈us,aH u≠id)(a:id<n){b k:Nat}(ho:g.o b k=.o [id]):(iF n us vals g).o b k=.o [id]:=by simp [iF,ho,re,oP h a]
theorem xh{c st:St}{a:jP}{cA us:List aI}{d:(ay a.ah).D}{vals:List Value}(hI:Bn c)(aA:∀id,c.nx*2048<=id->c.mu id=none)(z:Rel P nt w0 o0 st.env st.mu tmps w g)(au:gW c a=true)(aE:aq (zw P w g st tmps) a.ah vals)(ω:∀u∈us,rz st.mu (λt=>∃i x es ms,a.ah[i]?=some x/\t=aN c.nx (0+i) x/\cF x=.sl es/\fq x=.own ms) False u)(hH:∀(φ:Nat->ax) w' o',aj w g.o w' o'->(∀u∈us,br φ w g.o w' o' u)->pR P w' o' c.nx φ a.ah 0 d vals)(ao:aP us=true)(L:tF c st cA us a):∃g',Rel P nt w0 o0 (ai c cA a d).env (ai c cA a d).mu tmps w g'/\(∀id,id<c.nx*2048->g'.c id=g.c id)/\(∀id,(c.nx+1)*2048<=id->(ai c cA a d).mu id=none)/\(∀id,id<c.nx*2048->st.mu id≠none->(ai c cA a d).mu id≠none):=by
 have ψ:=au;simp only[gW,Bool.and_eq_true,List.all_eq_true]at ψ;obtain⟨⟨κ,az⟩,ρ⟩:=ψ;have ρ:=Nat.le_of_ble_eq_true ρ;have T:∀id,c.mu id≠none->id<c.nx*2048:=λid h=>by grind
 have aC:∀id∈a.aB,id<c.nx*2048:=λid h=>by simp_all
 have U:∀id b,nI c cA a id=some b->id<c.nx*2048:=λid b h=>by
  rcases fg h with⟨h,_⟩|⟨_,h⟩|⟨_,u,M,e,_⟩;·grind
  ·grind
  ·exact T id (e▸L.cA u M)
 have μ:∀id,c.mu id≠none->nI c cA a id≠none:=λid h=>aM (aM h);have θ:∀id,c.nx*2048+0<=id->nI c cA a id=none:=λid h=>by cases e:nI c cA a id with|none=>rfl|some b=>grind
 let n:=c.nx*2048;let g':=iF n us vals g;let s:St:={env:=λn=>bif a.fh.any (Nat.beq n) then .un else c.env n,mu:=nI c cA a,nx:=c.nx+1,tw:=a.ah.flatMap mZ++(a.fh++c.tw),mw:=a.ah.flatMap dI++(cA.map (λu=>.all (aH u))++(a.aB.map .all++c.mw))};have hS:ai c cA a d=bP c.nx a.ah 0 s d:=rfl;have F:∀id,id<n->g'.c id=g.c id:=λid h=>if_neg (Nat.not_le.2 h);have N:∀x∈a.ah,tE s.mu x:=by intro x I;have h:=κ x I;cases x with
 |t=>trivial|b id j ty md=>
  have e:s.mu id=c.mu id:=L.zx id j ty md I;simp only[Bool.and_eq_true]at h;have h:=h.2;split at h;·rename_i cs G;simp only[Bool.and_eq_true]at h;exact⟨cs,e.trans G,by simp_all⟩
  grind|r id es ms=>
  have e:s.mu id=c.mu id:=L.pS id es ms I;dsimp only at h;split at h;·rename_i α ms0 W aF C;exact⟨α,ms0,W,aF,e.trans C⟩
  grind
 have ε:∀id,(∃cs,st.mu id=some (.box cs))->∀u∈us,aH u≠id:=by rintro id⟨cs,G⟩u M e;have :=ω u M;cases u with|mv id' to=>cases (e:id'=id);obtain⟨⟨es,ms,xs,aF,h⟩,_⟩:=this;cases h.symm.trans G|pm id'=>
  cases (e:id'=id);rcases this with⟨es,ms,xs,aF,h⟩|⟨es,xs,h⟩|⟨h,_⟩;·cases h.symm.trans G
  ·cases h.symm.trans G
  omega
 have V:aq (Ax w g' c.nx tmps) a.ah vals:=by
  have aJ:∀(K:List cL)(vals:List Value),(∀x∈K,x∈a.ah)->aq (zw P w g st tmps) K vals->aq (Ax w g' c.nx tmps) K vals:=by intro K;induction K with|nil=>intro vals _ h;cases vs:vals<;>simp_all[aq]|cons x r ih=>intro vals σ h;cases vals with|nil=>exact h.elim|cons v vals=>refine⟨?_,ih vals (λy hy=>σ y (by grind)) h.2⟩;have I:=σ x (by simp);have ho:=κ x I;have H:=h.1;cases x with|t m ty md=>exact⟨H,ho⟩|b id j ty md=>obtain⟨cs,b,base,G,q,R,ak⟩:=H;obtain⟨aK,ag,_⟩:=N _ I;have A:id<n:=U id _ ag;simp only[Bool.and_eq_true]at ho;exact⟨A,⟨b,base,(F id A).trans q,R,ka (ε id ⟨cs,G⟩) A ak⟩,ho.1⟩|r id es ms=>obtain ⟨q,_⟩:=H;obtain ⟨_,_,_,_,an⟩:=N _ I;have A:id<n:=U id _ an;exact ⟨A,(F id A).trans q⟩
  grind
 have X:=jZ (g':=g') (w:=w) (tmps:=tmps) (nx:=c.nx) a.ah 0 (s:=s) (d:=d) V N θ;have J:aj w g.o w g'.o:=oQ;have δ:∀u∈us,br (λto=>.o [to]) w g.o w g'.o u:=mg ao;have ah:∀id,c.mu id≠none->(ai c cA a d).mu id≠none:=λid h=>X.1 id (μ id h);have hT:yH w g st.mu c.mu g' (ai c cA a d).mu:=by
  refine ⟨J,z.wf,λid h=>⟨ah id h,F id (T id h)⟩,λid es ms xs τ h S=>?_⟩;rcases X.2.1 id es ms xs τ (μ id h) S with ⟨f,B⟩|⟨α,ms0,W,ae,f,B⟩
  · right;have aa:nI c cA a id=some (.row es ms xs τ):=f.symm.trans S;rcases L.dr id _ aa B with E|⟨_,_,E,_⟩|⟨E,_,γ⟩|⟨_,_,_,_,E,_⟩;· cases E
    · cases E
    · refine ⟨E.trans S.symm,λb k ho=>ka (λu M e=>?_) (T id h) ho⟩;grind
    grind
  · left;have f:nI c cA a id=some (.row α ms0 W ae):=f;rcases fg f with ⟨f,_⟩|⟨f,_⟩|⟨_,_,_,_,_,f|⟨_,_,_,_,_,f,_⟩⟩;· grind
    · cases f
    · cases f
    grind
 have al:uA P w g' (ai c cA a d).mu tmps a.ah s.env:=by intro m hm;show TV.R P w g' _ (bif a.fh.any (Nat.beq m) then .un else c.env m) _;cases q:a.fh.any (Nat.beq m) with|true=>trivial|false=>have :=z.env m;rw [L.env m q hm]at this;exact TV.vk hT (hI.env m) this
 have ad:uB P w g' (ai c cA a d).mu a.ah s.mu:=by
  intro id b O C;have A:id<n:=U id b O;rcases L.dr id b O C with rfl|⟨cs,ar,rfl,f,B,E⟩|⟨f,B,E⟩|⟨es,xs,ms,aF,rfl,f,B⟩;· trivial
  · obtain ⟨b,base,q,R⟩:=z.dr id _ B;refine ⟨b,base,(F id A).trans q,λj cv Q hn=>?_⟩;obtain ⟨v,γ,h5,h6⟩:=R j cv (E j cv Q hn);exact ⟨v,γ,ka (ε id ⟨ar,B⟩) A h5,CV.vk hT (hI.box id cs cv f (List.mem_of_getElem? Q)) h6⟩
  · have Y:=z.dr id b f;cases b with|box cs=>grind|aB=>trivial|eE es x=>obtain ⟨b,base,q,C⟩:=Y;exact ⟨b,base,(F id A).trans q,fu J z.wf es [] .p .p (λ_=>.p) (λ_=>.p) 0 x b base rfl (λ_=>rfl) C⟩|row es ms xs aF=>obtain ⟨v,q,C⟩:=Y;exact ⟨v,(F id A).trans q,ck J z.wf (.sl es) (.own ms) _ _ xs v (vp (λu M e=>by grind) A) C⟩|fz es xs=>obtain ⟨v,q,C⟩:=Y;exact ⟨v,(F id A).trans q,ck J z.wf (.sl es) .sh .p .p xs v rfl C⟩
  · obtain ⟨v,q,C⟩:=z.dr id _ f;exact ⟨v,(F id A).trans q,mE _ (qK _ _ .sh _ _ (ck J z.wf (.sl es) (.own ms) (.o [id]) .p xs v (δ (.pm id) B) C))⟩
 have aw:vals.length=a.ah.length:=(aq.length V).symm;obtain ⟨hE,hM⟩:=nH (g':=g') (muF:=(ai c cA a d).mu) a.ah 0 (s:=s) (d:=d) (hH _ w g'.o J δ) V N θ (λi v hi=>by
 have f:i<vals.length:=by grind
 show (if n<=c.nx*2048+(0+i) then fM.row (vals.getD (c.nx*2048+(0+i)-n) undef) else _)=_;grind) rfl al ad;have ab:∀id,id<n->st.mu id≠none->(ai c cA a d).mu id≠none:=λid f B=>X.1 id (L.Bo id f B);have af:∀id s,fF n us id s≠.o []:=by grind [fF,aS,ax.o.injEq,ax.ctorIdx]
 refine ⟨g',⟨z.sz,λt=>hE t (by simp),λid b O=>?_,⟨λb k π h=>?_,λb k=>uu af⟩,λb k id l h=>?_,z.fr.trans z.wf ?_⟩,F,λid aG=>?_,ab⟩;· have :=hM id b O (by simp);cases b with|box cs=>obtain ⟨b,base,q,h⟩:=this;exact ⟨b,base,q,λj cv Q=>h j cv Q (by simp)⟩|_=>exact this
 · obtain ⟨id,s,β,_⟩:=tu h;exact z.wf.cell b k _ β
 · obtain ⟨id',s,β,Z⟩:=tu h;have av:=z.own b k id' s β;unfold fF at Z;split at Z;· rename_i aD to e;simp only [ax.o.injEq,List.cons.injEq]at Z;obtain ⟨f,B⟩:=dL e;obtain ⟨_,i,x,es,ms,E,γ,h5,h6⟩:=ω _ B;grind
   · grind
   grind
 · refine ⟨rfl,rfl,rfl,Nat.le_refl _,λ_ _ _=>rfl,λb k v H hn=>⟨H,?_⟩,λb k v H=>⟨v,H⟩,λ_ _ _=>rfl⟩;show re (fF n us) (g.o b k)=_;simp_all [ax.casesOn,Gh.o,re,fF]
 grind
end
end Go.Tm
namespace Go.Tm
open Go
def Wr.pT:Wr->Nat->Nat->Prop|.all i,id,_=>i=id|.cell i off n,id,j=>i=id/\off<=j/\j<off+n
def jE(mw:List Wr)(id:Nat)(b b':Option av):Prop:=b'=b\/.all id∈mw\/∃cs a,b=some (.box cs)/\b'=some (.box a)/\∀j,(∀wr∈mw,¬wr.pT id j)->a[j]?=cs[j]?
theorem jE.trans{m1 m2:List Wr}{id:Nat}{a b c:Option av}(h:jE m1 id a b)(k:jE m2 id b c):jE (m2++m1) id a c:=by
 rcases h with rfl|h|⟨cs,d,rfl,rfl,h⟩;·grind[Wr.pT,jE]
 ·exact .inr (.inl (List.mem_append_right _ h))
 · rcases k with rfl|k|⟨c1,i,g,f,k⟩;· exact .inr (.inr ⟨cs,d,rfl,rfl,λj e=>h j λwr hw=>e wr (List.mem_append_right _ hw)⟩)
   · exact .inr (.inl (List.mem_append_left _ k))
   simp_all[jE,av.box.noConfusion,Wr.pT]
theorem jE.gj{m:List Wr}{id:Nat}{a:Option av}:jE m id a a:=.inl rfl
structure oR(e:Nat->TV)(m:Mu)(N:Nat)(st:St):Prop where
 env:∀n,n∉st.tw->st.env n=e n
 dr:∀id,id<N->jE st.mw id (m id) (st.mu id)nx:N<=st.nx*2048
theorem oR.xi{st:St}:oR st.env st.mu (st.nx*2048) {st with tw:=[],mw:=[]}:=⟨by grind,λ_ _=>.gj,Nat.le_refl _⟩
theorem oR.trans{e:Nat->TV}{m:Mu}{N:Nat}{st a:St}(h:oR e m N st)(k:oR st.env st.mu (st.nx*2048) a):oR e m N {a with tw:=a.tw++st.tw,mw:=a.mw++st.mw}where
 env n b:=by simp only[List.mem_append,not_or]at b;exact(k.env n b.1).trans (h.env n b.2)
 dr id c:=(h.dr id c).trans (k.dr id (Nat.lt_of_lt_of_le c h.nx))
 nx:=Nat.le_trans h.nx k.nx
def fG(mu:Mu)(ms:List (Nat×av))(wr:List Wr):Prop:=∀id,jE wr id (mu id) (au mu ms id)
theorem fG.all(mu:Mu)(ms:List (Nat×av)):fG mu ms (ms.map λx=>.all x.1):=by intro id;grind[jE,au,Wr.pT,aD]
theorem fG.nil(mu:Mu):fG mu [] []:=λ_=>.gj
theorem oR.put{e:Nat->TV}{m:Mu}{N:Nat}{st:St}(h:oR e m N st){b:Option Nat}{v:TV}{ms:List (Nat×av)}{wr:List Wr}(hp:fG st.mu ms wr):oR e m N (st.put b v ms wr)where
 env n a:=by cases b with|none=>exact h.env n a|some d=>simp only[St.put,List.mem_cons,not_or]at a;exact (bu _ _ a.1).trans (h.env n a.2)
 dr id c:=(h.dr id c).trans (hp id)
 nx:=h.nx
theorem mi:∀(vs cells:List CV)(off j:Nat),(j<off\/off+vs.length<=j)->(bO cells off vs)[j]?=cells[j]?|[],_,_,_,_=>rfl|v::vs,cells,off,j,h=>by simp only[bO];simp only[List.length_cons]at h;rw[mi vs _ (off+1) j (by omega),List.getElem?_set_ne (by omega)]
open Classical in theorem uD{C:Ctx}{env:Nat->TV}{mu:Mu}{idb rid i:Nat}{o:Oper}{R:Type}{K:TV->List (Nat×av)->Option R}{y:R}(h:bE C env mu idb rid i o K=some y):bE C env mu idb rid i o (λv ms=>if fG mu ms (lq env o ms)then K v ms else none)=some y:=by
 by_cases l:∀ms,lq env o ms=ms.map λx=>.all x.1
 · have :(λv ms=>if fG mu ms (lq env o ms)then K v ms else none)=K:=by funext v ms;rw[if_pos (by rw[l ms];exact fG.all mu ms)]
   rw[this];exact h
 · cases d:o.op<;>(try (refine absurd ?_ l;intro ms;simp[lq,d];done));case store t x v=>simp only[bE,d]at h⊢;cases s:C.ty t with|none=>simp[s]at h|some u=>
 cases k:ae env x<;>simp only[s,k]at h⊢<;>try (cases h;done)
 case c cv=>cases g:cellsOf (ae env v)with|none=>simp[g]at h|some vs=>simp only[g]at h⊢;cases cv<;>(try (refine absurd ?_ l;intro ms;simp[lq,d,k,g];done));case ptr id off=>cases q:Nat.beq vs.length u.size with|false=>simp[q]at h|true=>simp only[q,cond_true]at h⊢;cases m:(C.iL rid i).isEmpty with
 |false=>simp only[m,cond_false]at h⊢;cases off with|succ n=>simp[dx]at h|zero=>simp only[dx]at h⊢;cases a:mu id with|none=>simp[a]at h|some b=>
 cases b<;>simp only[a]at h⊢<;>try (cases h;done)
 case box cs=>cases f:Nat.beq vs.length cs.length with|false=>simp[f]at h|true=>simp only[f,cond_true]at h⊢;cases hp:aQ (R:=(C.es t).D×List aI) bM (au mu [(id,.box vs)]) (C.es t) [] 0 vs [] bN with|none=>rw [hp] at h;cases h|some p=>obtain⟨r,us⟩:=p;rw [hp] at h;simp only [Option.bind_some] at h⊢;cases us with|cons _ _=>cases h|nil=>
 dsimp only at h⊢;rw [if_pos,h];have e:lq env o [(id,av.box vs),(id,av.eE (C.es t) r)]=[(id,av.box vs),(id,av.eE (C.es t) r)].map (λx=>.all x.1):=by simp [lq,d,k,g]
 rw [e];exact fG.all mu _|true=>simp only [m,cond_true,iQ] at h⊢;cases a:mu id with|none=>simp [a] at h|some b=>
 cases b<;>simp only [a] at h⊢<;>try (cases h;done)
 case box cs=>cases f:Nat.ble (off+vs.length) cs.length with|false=>simp [f] at h|true=>
 simp only [f,cond_true] at h⊢;rw [if_pos,h];intro id';by_cases e:id'=id;· subst e;refine .inr (.inr ⟨cs,bO cs off vs,a,by simp [au,bW,Nat.beq_refl],λj w=>mi _ _ _ _ ?_⟩);have :=w (.cell id' off vs.length) (by simp [lq,d,k,g]);simp only [Wr.pT,true_and,not_and] at this;omega
 · exact .inl (by simp only [au];exact bu _ _ e)
end Go.Tm
namespace Go.Tm
open Go
theorem rD{k:Nat}{s:St}{x:cL}{d:(cF x).D}:(aG k s x d).tw=s.tw/\(aG k s x d).mw=s.mw/\(aG k s x d).nx=s.nx:=by cases x with
 |t n ty md=>cases md<;>exact⟨rfl,rfl,rfl⟩|b id j ty md=>cases a:s.mu id with|none=>cases md<;>(refine⟨?_,?_,?_⟩<;>simp only[aG,a])|some b=>cases b<;>cases md<;>(refine⟨?_,?_,?_⟩<;>simp only[aG,a])
 |r id es ms=>cases a:s.mu id with|none=>refine⟨?_,?_,?_⟩<;>simp only[aG,a]|some b=>cases b<;>(refine⟨?_,?_,?_⟩<;>simp only[aG,a])
theorem tG{k:Nat}{s:St}{x:cL}{d:(cF x).D}{n:Nat}(h:∀ty md,x≠.t n ty md):(aG k s x d).env n=s.env n:=by cases x with
 |t m ty md=>have c:n≠m:=λe=>h ty md (by rw[e]);cases md<;>exact bu _ _ c|b id j ty md=>cases a:s.mu id with|none=>cases md<;>(simp only[aG,a])|some b=>cases b<;>cases md<;>(simp only[aG,a])
 |r id es ms=>cases a:s.mu id with|none=>simp only[aG,a]|some b=>cases b<;>(simp only[aG,a])
theorem jv{ty:Ty}{md:Md}{k:Nat}{d:ty.D}{id:Nat}{b:av}(h:(id,b)∈cZ ty md k d):id=k:=by cases md with|sh=>cases h|own ms=>
 cases ty<;>simp only[cZ]at h<;>try(cases h;done)
 case sl es=>simp only[List.mem_singleton,Prod.mk.injEq]at h;exact h.1
theorem vq{nx k:Nat}{s:St}{x:cL}{d:(cF x).D}{id:Nat}(f:id<nx*2048):jE (dI x) id (s.mu id) ((aG (aN nx k x) s x d).mu id):=by cases x with
 |t n ty md=>left;cases md with|sh=>rfl|own ms=>show au s.mu (cZ ty (.own ms) (nx*2048+k) d) id=_;exact aD λb a=>by grind[jv]
 |b id0 j ty md=>
  have box:∀(cs:List CV) (cv:CV),s.mu id0=some (.box cs)->jE [.cell id0 j 1] id (s.mu id) (bW s.mu id0 (some (.box (cs.set j cv))) id):=by
   intro cs cv a;by_cases e:id=id0;·subst e;refine .inr (.inr ⟨cs,cs.set j cv,a,aT _ _ _,λg c=>?_⟩);have :=c (.cell id j 1) (by simp);grind [Wr.pT]
   ·exact .inl (bu _ _ e)
  cases a:s.mu id0 with
  |none=>left;cases md with|sh=>simp only [aG,a]|own ms=>simp only [aG,a];exact aD λb a=>by grind [aN,jv]
  |some b=>cases b with|box cs=>cases md with|sh=>have :=box cs (ty.ro d) a;rw [show (aG (aN nx k (.b id0 j ty .sh)) s (.b id0 j ty .sh) d).mu id=bW s.mu id0 (some (.box (cs.set j (ty.ro d)))) id from fE (fW (ty:=ty) d a) rfl];exact this|own ms=>
       have :=box cs (.own (nx*2048+k)) a;have e:(aG (aN nx k (.b id0 j ty (.own ms))) s (.b id0 j ty (.own ms)) d).mu id=bW s.mu id0 (some (.box (cs.set j (.own (nx*2048+k))))) id:=by simp only [aG,a];exact aD λb a=>by grind [aN,jv]
       rw [e];exact this|_=>left;cases md with|sh=>simp only [aG,a]|own ms=>simp only [aG,a];exact aD λb a=>by grind [aN,jv]
 |r id0 es ms=>
 by_cases e:id=id0;·subst e;exact .inr (.inl (by simp [dI]))
 ·left;cases a:s.mu id0 with|none=>simp only [aG,a]|some b=>cases b<;>simp only [aG,a]<;>exact bu _ _ e
theorem eU{nx:Nat}:∀(a:List cL)(k:Nat){s:St}{d:(ay a).D},(bP nx a k s d).tw=s.tw/\(bP nx a k s d).mw=s.mw/\(bP nx a k s d).nx=s.nx/\(∀n,(∀ty md,.t n ty md∉a)->(bP nx a k s d).env n=s.env n)/\(∀id,id<nx*2048->jE (a.flatMap dI) id (s.mu id) ((bP nx a k s d).mu id))
 |[],k,s,d=>⟨rfl,rfl,rfl,λ_ _=>rfl,λ_ _=>.gj⟩|x::r,k,s,d=>by
  obtain⟨m,i,p,q,u⟩:=eU (nx:=nx) r (k+1) (s:=aG (aN nx k x) s x d.1) (d:=d.2);obtain⟨h,w,l⟩:=rD (k:=aN nx k x) (s:=s) (x:=x) (d:=d.1);refine⟨m.trans h,i.trans w,p.trans l,λn f=>(q n λty md z=>f ty md (by grind)).trans (tG λty md e=>f ty md (by simp[e])),λid c=>?_⟩;have b:=(vq (k:=k) (s:=s) (x:=x) (d:=d.1) c).trans (u id c);rcases b with b|b|⟨cs,g,b,v,y⟩;·exact .inl b
  ·exact .inr (.inl (by grind))
  ·exact .inr (.inr ⟨cs,g,b,v,λj o=>y j λwr hw=>o wr (by grind)⟩)
theorem Aa{c:St}{cA:List aI}{a:jP}{id:Nat}:jE (cA.map (λu=>.all (aH u))++a.aB.map .all) id (c.mu id) (nI c cA a id):=by
 by_cases g:id∈a.aB;·exact .inr (.inl (List.mem_append_right _ (List.mem_map.2 ⟨id,g,rfl⟩)))
 · have h:nI c cA a id=au c.mu (iG c.mu cA) id:=aD λb d=>g (kN d).2;by_cases f:∃b,(id,b)∈iG c.mu cA;· obtain⟨b,d⟩:=f;obtain⟨_,u,f,e,_⟩:=jf d;exact .inr (.inl (List.mem_append_left _ (List.mem_map.2 ⟨u,f,by rw[e]⟩)))
   · exact .inl (h.trans (aD λb d=>f ⟨b,d⟩))
theorem oR.ai{e:Nat->TV}{m:Mu}{N:Nat}{st:St}(h:oR e m N st){us:List aI}{a:jP}{d:(ay a.ah).D}:oR e m N (ai st us a d):=by
 let s:St:={env:=λn=>bif a.fh.any (Nat.beq n)then .un else st.env n,mu:=nI st us a,nx:=st.nx+1,tw:=a.ah.flatMap mZ++(a.fh++st.tw),mw:=a.ah.flatMap dI++(us.map (λu=>.all (aH u))++(a.aB.map .all++st.mw))};have hS:Go.Tm.ai st us a d=bP st.nx a.ah 0 s d:=rfl;obtain⟨g,f,l,k,o⟩:=eU (nx:=st.nx) a.ah 0 (s:=s) (d:=d);rw[hS];refine⟨λn b=>?_,λid c=>?_,?_⟩
 · rw[g]at b;simp only[s,List.mem_append,not_or]at b;rw[k n λty md j=>b.1 (List.mem_flatMap.2 ⟨_,j,by simp[mZ]⟩)];have i:a.fh.any (Nat.beq n)=false:=by rw[List.any_eq_false];intro x p e;simp_all
   show (bif a.fh.any (Nat.beq n)then TV.un else st.env n)=e n;rw[i];exact h.env n b.2.2
 · rw[f];have :=((h.dr id c).trans (Aa (cA:=us) (a:=a))).trans (o id (Nat.lt_of_lt_of_le c h.nx));grind
 · rw[l];exact Nat.le_trans h.nx (Nat.mul_le_mul_right _ (Nat.le_succ _))
structure pU(st0 hd:St)(cA:List aI)(a:jP):Prop where
 env:∀n,a.fh.any (Nat.beq n)=false->(∀ty md,.t n ty md∉a.ah)->hd.env n=st0.env n
 dr:∀id,id<st0.nx*2048->id∉a.aB->(∀es ms,.r id es ms∉a.ah)->hd.mu id=nI st0 cA a id\/∃cs cs',nI st0 cA a id=some (.box cs)/\hd.mu id=some (.box cs')/\∀j,(∀ty md,.b id j ty md∉a.ah)->cs'[j]?=cs[j]?
theorem pU.Bp{c:St}{a:jP}:pU c {c with tw:=[],mw:=[]} [] a where
 env _ _ _:=rfl
 dr id _ d _:=.inl (by show c.mu id=au (au c.mu []) _ id;rw[aD λb e=>d (kN e).2];rfl)
theorem tH{a:List cL}{id:Nat}(h:Wr.all id∈a.flatMap dI):∃es ms,.r id es ms∈a:=by obtain⟨x,c,h⟩:=List.mem_flatMap.1 h;cases x with|t n ty md=>grind[dI]|b i j ty md=>simp[dI]at h|r i es ms=>grind[dI,Wr.all.injEq]
theorem pU.loop{c:St}{cA:List aI}{a:jP}{d:(ay a.ah).D}:pU c {ai c cA a d with tw:=[],mw:=[]} cA a:=by
 let s:St:={env:=λn=>bif a.fh.any (Nat.beq n)then .un else c.env n,mu:=nI c cA a,nx:=c.nx+1,tw:=a.ah.flatMap mZ++(a.fh++c.tw),mw:=a.ah.flatMap dI++(cA.map (λu=>.all (aH u))++(a.aB.map .all++c.mw))};have hS:ai c cA a d=bP c.nx a.ah 0 s d:=rfl;obtain⟨v,p,q,A,m⟩:=eU (nx:=c.nx) a.ah 0 (s:=s) (d:=d);refine⟨λn C w=>?_,λid f B y=>?_⟩;·grind
 · show (ai c cA a d).mu id=_\/_;rcases m id f with h|h|⟨cs,e,k,g,o⟩;· grind
   · obtain⟨es,ms,h⟩:=tH h;grind
   · refine .inr ⟨cs,e,k,g,λj z=>o j λwr hw l=>?_⟩;obtain ⟨x,E,hw⟩:=List.mem_flatMap.1 hw;cases x with|t n ty md=>grind[dI]|b i F ty md=>simp[dI]at hw;subst hw;simp only[Wr.pT]at l;grind|r i es ms=>simp_all[dI,jP.ah,Wr.pT]
theorem vu{a:List cL}{id:Nat}(h:wB a id=true):∃es ms,.r id es ms∈a:=by
 obtain⟨x,b,h⟩:=List.any_eq_true.1 h;cases x<;>simp only at h<;>try grind
 grind[Nat.eq_of_beq_eq_true]
theorem vy{a:List cL}{id j:Nat}(h:wA a id j=true):∃ty md,.b id j ty md∈a:=by
 obtain⟨x,c,h⟩:=List.any_eq_true.1 h;cases x<;>simp only at h<;>try grind
 case b i k ty md=>simp only[Bool.and_eq_true]at h;grind[Nat.eq_of_beq_eq_true]
theorem kc{a:List cL}{id:Nat}:∀{n off:Nat},kC a id off n=true->∀j,off<=j->j<off+n->∃ty md,.b id j ty md∈a
 |0,off,h,j,d,c=>by omega|n+1,off,h,j,d,c=>by
  simp only[kC,Bool.and_eq_true]at h;by_cases e:j=off;·subst e;exact vy h.1
  ·exact kc h.2 j (by omega) (by omega)
theorem mO{l:List Nat}{n:Nat}(h:l.any (Nat.beq n)=true):n∈l:=by simp_all
theorem nL{l:List Nat}{n:Nat}(h:n∈l):l.any (Nat.beq n)=true:=by simp_all
section
variable{P:Program}{w:World}{g:Gh}{tmps:Array Value}
theorem iq{c:St}{a:jP}(h:gW c a=true):(∀id j ty md,.b id j ty md∈a.ah->id∉a.aB/\∃cs,c.mu id=some (.box cs)/\j<cs.length)/\(∀id es ms,.r id es ms∈a.ah->id∉a.aB/\∃es ms xs aF,c.mu id=some (.row es ms xs aF))/\(∀id∈a.aB,id<c.nx*2048):=by
 simp only[gW,Bool.and_eq_true,List.all_eq_true]at h;obtain⟨⟨h,i⟩,_⟩:=h;refine⟨λid j ty md d=>?_,λid es ms d=>?_,λid g=>by simp_all⟩
 · have :=h _ d;simp only[Bool.and_eq_true]at this;have :=this.2;split at this;· rename_i cs e;simp only[Bool.and_eq_true,Bool.not_eq_true']at this;exact⟨λf=>by simp_all[jP.aB,nL],cs,e,by simp_all⟩
   grind
 · have :=h _ d;dsimp only at this;split at this;· rename_i es ms xs aF e;simp only[Bool.not_eq_true']at this;exact⟨λf=>(by simp_all[jP.aB,nL]),es,ms,xs,aF,e⟩
   grind
structure vZ(st0:St)(cA:List aI)(a:jP):Prop where
 ok:aP cA=true
 us:∀u∈cA,∃tos,rz st0.mu tos False u
 pS:cA=[]\/∀id es ms,.r id es ms∈a.ah->.mv id id∈cA
theorem vZ.row{c:St}{cA:List aI}{a:jP}(U:vZ c cA a)(g:gW c a=true){id:Nat}{es:af}{ms:List Md}(f:.r id es ms∈a.ah):nI c cA a id=c.mu id:=by
 obtain⟨n,_⟩:=(iq g).2.1 id es ms f;have m:nI c cA a id=au c.mu (iG c.mu cA) id:=aD λb d=>n (kN d).2;rw[m];refine aD λb d=>?_;obtain⟨_,u,l,k,o⟩:=jf d;rcases U.pS with e|h;·grind
 ·have j:=h id es ms f;have p:=fy U.ok j;cases u with|mv id' to=>have i:id=id':=(show id'=id from k).symm;subst i;have q:=fy U.ok l;grind|pm id'=>grind[aH,aS,gI,ok,aI.ctorIdx]
theorem vZ.box{c:St}{cA:List aI}{a:jP}(U:vZ c cA a)(e:gW c a=true){id j:Nat}{ty:Ty}{md:Md}(f:.b id j ty md∈a.ah):nI c cA a id=c.mu id:=by obtain⟨i,cs,l,_⟩:=(iq e).1 id j ty md f;have h:nI c cA a id=au c.mu (iG c.mu cA) id:=aD λb d=>i (kN d).2;rw[h];refine aD λb d=>?_;obtain⟨_,u,g,n,m⟩:=jf d;obtain⟨k,o⟩:=U.us u g;cases u with|mv id' to=>simp_all[aH,rz,St.mu,af.D,av.ctorIdx]|pm id'=>simp_all[aH,rz,St.mu,af.D,av.ctorIdx]
theorem vZ.db{b:St}{cA:List aI}{a:jP}(U:vZ b cA a):∀u∈cA,b.mu (aH u)≠none:=by intro u c;obtain⟨d,h⟩:=U.us u c;cases u with|mv id to=>obtain⟨⟨_,_,_,_,h⟩,_⟩:=h;simp[aH,h]|pm id=>
 rcases h with⟨_,_,_,_,h⟩|⟨_,_,h⟩|⟨h,_⟩;·simp[aH,h]
 ·simp[aH,h]
 grind
theorem uE{st:St}:∀{c:List cL}{vals:List Value}{id j:Nat}{ty:Ty}{md:Md},aq (zw P w g st tmps) c vals->.b id j ty md∈c->∃cs,st.mu id=some (.box cs)
 |x::r,v::vals,id,j,ty,md,h,a=>by
  rcases List.mem_cons.1 a with a|a;·subst a;simp_all[St.mu,Gh.c,Gh.o,zw,aq]
  ·exact uE h.2 a|[],_,_,_,_,_,_,a=>by cases a|_::_,[],_,_,_,_,h,_=>h.elim
theorem tF.Bq{st:St}{us:List aI}{a:jP}(o:gW st a=true)(U:vZ st us a)(C:∀id es ms,.r id es ms∈a.ah->.mv id id∈us)(s:∀id,st.nx*2048<=id->st.mu id=none)(w:∀u∈us,rz st.mu (λt=>∃i x es ms,a.ah[i]?=some x/\t=aN st.nx (0+i) x/\cF x=.sl es/\fq x=.own ms) False u):tF st st us us a where
 env n I G:=rfl
 dr id b A B:=by
  rcases fg A with⟨g,z,f⟩|⟨h,_⟩|⟨_,u,d,g,z,f|⟨es,ms,xs,aF,f,p,c⟩⟩;·cases b with|box cs=>grind|aB=>grind|_=>
   refine .inr (.inr (.inl ⟨g,by simp,λu d e=>?_⟩))
   have m:=w u d;cases u with|mv id' to=>
   have k:id=id':=(show id'=id from e).symm;subst k;by_cases q:id=to
   · exfalso;obtain ⟨_,i,x,es,ms,p,c,H,F⟩:=m;have D:id<st.nx*2048:=by
      rcases Nat.lt_or_ge id (st.nx*2048) with h|h;· exact h
      · rw[s id h]at g;cases g
     cases x with|t=>simp only[aN]at c;omega|b=>simp only[aN]at c;omega|r E y v=>simp only[aN]at c;exact B y v (by rw[q,c];exact List.mem_of_getElem? p)
   · exact absurd (nJ q d) (f _)|pm id'=>
   have k:id=id':=(show id'=id from e).symm;subst k;rcases m with ⟨es,ms,xs,aF,h⟩|⟨es,xs,h⟩|⟨h,_⟩;· exact absurd (nK h d) (f _)
   · grind
   grind
  · grind
  · grind
  grind
 Bo id _ h:=aM (aM h)
 pS id es ms l:=U.row o l
 zx id j ty md l:=U.box o l
 cA:=U.db
theorem tF.Cz{c st hS:St}{cA us:List aI}{a:jP}{vals:List Value}(D:gW c a=true)(U:vZ c cA a)(H:pU c hS cA a)(B:oR hS.env hS.mu (c.nx*2048) st)(μ:st.tw.all (sW a)=true)(S:st.mw.all (qH c a)=true)(φ:us.all (wC c st a)=true)(π:aq (zw P w g st tmps) a.ah vals)(β:∀id,c.nx*2048<=id->c.mu id=none)(σ:∀u∈us,rz st.mu (λt=>∃i x es ms,a.ah[i]?=some x/\t=aN c.nx (0+i) x/\cF x=.sl es/\fq x=.own ms) False u):tF c st cA us a:=by
 have ε:∀id b,nI c cA a id=some b->id<c.nx*2048:=λid b h=>by
  have V:∀id,c.mu id≠none->id<c.nx*2048:=λid h=>by
   rcases Nat.lt_or_ge id (c.nx*2048) with N|N;·exact N
   ·exact absurd (β id N) h
  rcases fg h with⟨h,_⟩|⟨_,h⟩|⟨_,u,J,e,_⟩;·exact V id (by simp[h])
  ·exact (iq D).2.2 id h
  ·exact V id (e▸U.db u J)
 have Q:∀id,id<c.nx*2048->.all id∈st.mw->id∉a.aB->(∀es ms,.r id es ms∉a.ah)->∃cs,c.mu id=some (.box cs)/\0<cs.length/\∀j,j<cs.length->∃ty md,.b id j ty md∈a.ah:=by
  intro id l f d q;have :=List.all_eq_true.1 S _ f;simp only[qH,Bool.or_eq_true]at this;rcases this with ((h|h)|h)|h;·have :=Nat.le_of_ble_eq_true h;omega
  ·exact absurd (mO h) d
  ·obtain⟨es,ms,h⟩:=vu h;exact absurd h (q es ms)
  · split at h;· rename_i cs e;simp only[Bool.and_eq_true,Nat.blt_eq]at h;exact⟨cs,e,h.1,λj o=>kc h.2 j (by omega) (by omega)⟩
    · cases h
 have α:∀id off n j,id<c.nx*2048->.cell id off n∈st.mw->id∉a.aB->off<=j->j<off+n->∃ty md,.b id j ty md∈a.ah:=by
  intro id off n j l f d k z;have :=List.all_eq_true.1 S _ f;simp only[qH,Bool.or_eq_true]at this;rcases this with (h|h)|h;· have :=Nat.le_of_ble_eq_true h;omega
  · exact absurd (mO h) d
  · exact kc h j k z
 have Z:∀id b,id<c.nx*2048->id∉a.aB->(∀es ms,.r id es ms∉a.ah)->st.mu id=some b->∀u∈us,aH u=id->∃es xs,b=.fz es xs:=by intro id b l d q A u J e;have L:=List.all_eq_true.1 φ u J;cases u with
 |mv id' to=>
 have M:id=id':=(show id'=id from e).symm;subst M;simp only[wC,Bool.or_eq_true]at L;rcases L with (h|h)|h;· have :=Nat.le_of_ble_eq_true h;omega
 · exact absurd (mO h) d
 · cases Nat.eq_of_beq_eq_true h;obtain⟨_,i,x,es,ms,s,v,K,h7⟩:=σ _ J;cases x with|t=>simp only[aN]at v;omega|b=>simp only[aN]at v;omega|r ad τ ρ=>simp only[aN]at v;exact absurd (List.mem_of_getElem? s) (by rw[<-v];exact q τ ρ)
 |pm id'=>
  have M:id=id':=(show id'=id from e).symm;subst M;simp only[wC,Bool.or_eq_true]at L;rcases L with (h|h)|h;· have :=Nat.le_of_ble_eq_true h;omega
  · exact absurd (mO h) d
  · rw[A]at h;split at h;· rename_i es xs e;cases e;exact⟨es,xs,rfl⟩
    · cases h
 refine⟨λn Y p=>?_,λid b A q=>?_,λid l W=>?_,λid es ms f=>U.row D f,λid j ty md f=>U.box D f,U.db⟩
 · rw[<-H.env n Y p];refine B.env n λf=>?_;have :=List.all_eq_true.1 μ _ f;simp only[sW,Bool.or_eq_true,Y,Bool.false_eq_true,false_or]at this;obtain⟨x,ω,h⟩:=List.any_eq_true.1 this;cases x<;>simp only at h<;>try (cases h;done)
   case t m ty md=>cases Nat.eq_of_beq_eq_true h;exact p _ _ ω
 · have l:=ε id b A;by_cases d:id∈a.aB
   · rcases fg A with⟨_,h,_⟩|⟨h,_⟩|⟨h,_⟩;· exact absurd d h
     · exact .inl h
     · exact absurd d h
   · have ψ:=H.dr id l d q;have δ:(∃cs F,b=.box cs/\c.mu id=some (.box cs)/\st.mu id=some (.box F)/\∀j cv,cs[j]?=some cv->(∀ty md,.b id j ty md∉a.ah)->F[j]?=some cv)\/(st.mu id=some b/\∀cs,b≠.box cs):=by
      have G:∀cs,b=.box cs->c.mu id=some (.box cs):=by
       rintro cs rfl;rcases fg A with⟨h,_⟩|⟨h,_⟩|⟨_,_,_,_,_,h|⟨_,_,_,_,_,h,_⟩⟩;· exact h
       · cases h
       · cases h
       · cases h
      by_cases C:Wr.all id∈st.mw
      · obtain⟨cs,k,z,E⟩:=Q id l C d q;obtain⟨ty,md,f⟩:=E 0 z;obtain⟨F,γ⟩:=uE π f;have :b=.box cs:=by have :=(U.box D f).symm.trans A;rw[k]at this;simpa using this.symm
        refine .inl ⟨cs,F,this,k,γ,λj cv o p=>?_⟩;have θ:j<cs.length:=by
         rcases Nat.lt_or_ge j cs.length with h|h;· exact h
         · simp[List.getElem?_eq_none h]at o
        obtain ⟨ty,md,f⟩:=E j θ;exact absurd f (p ty md)
      · have O:jE st.mw id (hS.mu id) (st.mu id):=B.dr id l;have R:∀j,(∀ty md,.b id j ty md∉a.ah)->∀wr∈st.mw,¬wr.pT id j:=by intro j o wr hw X;cases wr with|all i=>cases (X:i=id);exact C hw|cell i off n=>obtain ⟨rfl,k,z⟩:=X;obtain ⟨ty,md,h⟩:=α i off n j l hw d k z;exact o _ _ h
        rcases ψ with e|⟨c0,c1,k,z,E⟩
        · rw[A]at e;rcases O with h|h|⟨c1,I,s,v,K⟩;· rw[e]at h;cases b with|box cs=>exact .inl ⟨cs,cs,rfl,G cs rfl,h,λj cv o _=>o⟩|_=>exact .inr ⟨h,by simp⟩
          · exact absurd h C
          · rw[e]at s;cases s;exact .inl ⟨c1,I,rfl,G c1 rfl,v,λj cv o p=>(K j (R j p)).trans o⟩
        · rw[A]at k;cases k;rcases O with h|h|⟨aa,I,s,v,K⟩;· exact .inl ⟨c0,c1,rfl,G c0 rfl,h.trans z,λj cv o p=>(E j p).trans o⟩
          · exact absurd h C
          · rw[z]at s;cases s;exact .inl ⟨c0,I,rfl,G c0 rfl,v,λj cv o p=>(K j (R j p)).trans ((E j p).trans o)⟩
     rcases δ with h|⟨h,κ⟩;· exact .inr (.inl h)
     · exact .inr (.inr (.inl ⟨h,κ,Z id b l d q h⟩))
 · intro y;by_cases d:id∈a.aB;· exact dv (List.mem_map.2 ⟨id,d,rfl⟩) y
   · by_cases q:∃es ms,.r id es ms∈a.ah;· obtain ⟨es,ms,f⟩:=q;obtain ⟨_,ab,ms0,ae,aF,h⟩:=(iq D).2.1 id es ms f;rw[U.row D f,h]at y;cases y
     · have T:∀es ms,.r id es ms∉a.ah:=λes ms h=>q ⟨es,ms,h⟩;by_cases C:Wr.all id∈st.mw;· obtain ⟨cs,k,_⟩:=Q id l C d T;exact aM (aM (by rw[k];simp)) y
       · rcases H.dr id l d T with e|⟨c0,c1,k,_⟩
         · rcases B.dr id l with h|h|⟨c1,I,s,v,_⟩;· rw[h,e]at W;exact W y
           · exact C h
           · rw[e,y]at s;cases s
         · rw[k]at y;cases y
end
end Go.Tm
namespace Go.Tm
open Go
structure bz(P:Program)(nt:Nat)(w0:World)(o0:Nat->Nat->ax)(io:List Nat)(c0:Nat->fM)(nx:Nat)(st:St)(a:Act)(w:World)(g:Gh):Prop where
 dB:Rel P nt w0 o0 st.env st.mu a.tmps w g
 df:a.defers=[]bB:∀id,nx*2048<=id->st.mu id=none
 io:∀id∈io,g.c id=c0 id/\st.mu id≠none
def Ext(st a:St):Prop:=∀e m N,oR e m N st->oR e m N a
theorem Ext.gj(st:St):Ext st st:=λ_ _ _ h=>h
theorem Ext.trans{a b c:St}(h:Ext a b)(k:Ext b c):Ext a c:=λe m N x=>k e m N (h e m N x)
theorem jg{st:St}{d:Nat}{b:Bool}(h:st.env d=.c (.bool b)):st.refine d b=st:=by
 have :bW st.env d (.c (.bool b))=st.env:=by
  funext n;by_cases e:n=d;·subst e;rw[aT,h]
  ·exact bu _ _ e
 unfold St.refine;rw[this]
section
variable{P:Program}{C:Ctx}{nt:Nat}{w0:World}{o0:Nat->Nat->ax}{io:List Nat}{c0:Nat->fM}{R:Type}{Q:Exit->Act->World->Prop}
theorem rE{ops:Array Oper}{st:St}{a:Act}{w:World}{g:Gh}{mu:Mu}(m:∀t,(st.env t).R P w g mu (a.tmps.getD t undef)){o:Oper}{run skip:St->Option R}{y:R}(h:(match o.guard with|none=>run st|some (j,i)=>match (ops.toList[j]?).bind (·.dst)with|none=>none|some d=>match st.env d with|.c (.bool b)=>bif b then (bif i then run (st.refine d true)else skip (st.refine d true))else (bif i then skip (st.refine d false)else run (st.refine d false))|.kl=>skip st|_=>none)=some y):(Region.wanted o (yielded ops a.tmps)=true/\run st=some y)\/(Region.wanted o (yielded ops a.tmps)=false/\skip st=some y):=by unfold Region.wanted;cases n:o.guard with|none=>grind|some p=>obtain⟨j,i⟩:=p;simp only[n]at h⊢;cases r:(ops.toList[j]?).bind (·.dst)with|none=>grind|some d=>
 rw[r]at h;dsimp only at h;have k:(ops[j]?).bind (·.dst)=some d:=by grind
 have e:=m d;cases f:st.env d<;>simp only[f]at h<;>try grind
 case kl=>
  rw[f]at e;have e:a.tmps.getD d undef=undef:=e;right;refine⟨?_,h⟩;have :yielded ops a.tmps j=none:=by unfold yielded;rw[k];simp only[Option.bind_some];cases l:a.tmps[d]? with|none=>rfl|some v=>
   have :v=undef:=by simp_all
   rw[this];rfl
  grind
 case c cv=>
 cases cv<;>simp only at h<;>try grind
 case bool b=>
 rw[f]at e;have e:a.tmps.getD d undef=.bool b:=e;have q:yielded ops a.tmps j=some b:=by unfold yielded;rw[k];simp only[Option.bind_some];cases l:a.tmps[d]? with|none=>simp[Array.getD_eq_getD_getElem?,l,undef]at e|some v=>simp_all
 rw[q];have s:=jg f;grind
theorem bz.CA{nx:Nat}{st:St}{a:Act}{w:World}{g:Gh}(r:bz P nt w0 o0 io c0 nx st a w g)(hty:∀t b,C.ty t=some b->fL P t=some b)(c:gF P C):bG P C st.env st.mu a w g (nx*2048)where
 ty:=hty
 bg:=c
 env:=r.dB.env
 dr:=r.dB.dr
 wf:=r.dB.wf
 own:=r.dB.own
 bB n h _:=r.bB n h
theorem bz.put{nx:Nat}{st:St}{a:Act}{w w':World}{g g':Gh}(r:bz P nt w0 o0 io c0 nx st a w g){c:Option Nat}{tv:TV}{ms:List (Nat×av)}{wr:List Wr}{v:Value}(k:jG nt c=true)(f:eL P w g st.mu w' g' (au st.mu ms))(h:tv.R P w' g' (au st.mu ms) v)(l:∀x∈ms,x.1<(nx+1)*2048):bz P nt w0 o0 io c0 (nx+1) (st.put c tv ms wr) (a.put c v) w' g' where
 dB:=by have :=(r.dB.wG f).put (a:=a) k h;cases c<;>exact this
 df:=by cases c<;>exact r.df
 bB id d:=by show au st.mu ms id=none;rw[aD λb m=>by grind];grind[bB]
 io id d:=by obtain⟨i,e⟩:=r.io id d;obtain⟨_,j,_⟩:=f;exact⟨(j.c id e).trans i,aM e⟩
theorem bz.skip{nx:Nat}{st:St}{a:Act}{w:World}{g:Gh}(r:bz P nt w0 o0 io c0 nx st a w g){b:Option Nat}(d:jG nt b=true):bz P nt w0 o0 io c0 (nx+1) (st.put b .kl [] []) (a.put b undef) w g where
 dB:=by have :=r.dB.put (a:=a) (tv:=.kl) (v:=undef) d rfl;cases b<;>exact this
 df:=by cases b<;>exact r.df
 bB id c:=r.bB id (Nat.le_trans (Nat.mul_le_mul_right _ (Nat.le_succ _)) c)
 io:=r.io
theorem bz.CB{nx b:Nat}{st:St}{a:Act}{w:World}{g:Gh}(r:bz P nt w0 o0 io c0 nx st a w g)(h:nx<=b):bz P nt w0 o0 io c0 b st a w g:=⟨r.dB,r.df,by grind[bB],r.io⟩
open Classical in theorem uF{rid nx:Nat}{ops:Array Oper}(hty:∀t u,C.ty t=some u->fL P t=some u)(A:gF P C)(s:C.nt=nt){K:St->Option R}{y:R}:∀(l:List Oper)(i:Nat){st:St}{a:Act}{w:World}{g:Gh},ops.toList.drop i=l->qE C rid ops.toList nx l i st K=some y->bz P nt w0 o0 io c0 (nx+i) st a w g->(∀b d w' g',K b=some y->bz P nt w0 o0 io c0 (nx+(i+l.length)) b d w' g'->Ext st b->b.nx=st.nx->Q .normal d w')->wpOps P ops Q (List.range' i l.length) a w
 |[],i,st,a,w,g,z,h,r,n=>n st a w g h (by omega) (.gj st) rfl|o::l,i,st,a,w,g,z,h,r,n=>by
  have M:ops[i]?=some o:=by
   have B:(ops.toList.drop i)[0]?=some o:=by grind
   grind
  have G:ops.toList.drop (i+1)=l:=by have :=congrArg (List.drop 1) z;simpa[List.drop_drop]using this
  have F:(o::l).length=l.length+1:=rfl;rw[F,List.range'_succ];unfold qE at h;cases j:jG C.nt o.dst with|false=>grind|true=>
 rw[j]at h;rw[s]at j;simp only[cond_true]at h;simp only[wpOps,M];have q:∀{f:St}{D:Act}{E:World}{S:Gh},qE C rid ops.toList nx l (i+1) f K=some y->bz P nt w0 o0 io c0 (nx+(i+1)) f D E S->Ext st f->f.nx=st.nx->wpOps P ops Q (List.range' (i+1) l.length) D E:=λB T V O=>uF hty A s l (i+1) G B T λb d w' g' c W J n'=>n b d w' g' c (by grind) (V.trans J) (n'.trans O);rcases rE (ops:=ops) (st:=st) (run:=λst=>bE C st.env st.mu ((nx+i)*2048) rid i o λv ms=>bif wu ((nx+i)*2048+2048) ms then qE C rid ops.toList nx l (i+1) (st.put o.dst v ms (lq st.env o ms)) K else none) (skip:=λst=>qE C rid ops.toList nx l (i+1) (st.put o.dst .kl [] []) K) r.dB.env h with⟨hw,h⟩|⟨hw,h⟩
 · rw [if_pos hw];left;have H:=uD h;refine Oper.wp_mono ?_ (xe (Q:=Q) (r.CA hty A) H);rintro d w'⟨tv,ms,v,g',rfl,c,L,I⟩;dsimp only at c;split at c;· rename_i hp;cases p:wu ((nx+i)*2048+2048) ms with|false=>grind|true=>simp only [p,cond_true]at c;refine q c (r.put j L I λx U=>?_) (λe m N k=>k.put hp) rfl;have :=List.all_eq_true.1 p x U;simp only [Nat.blt_eq]at this;omega
   grind
 · rw [if_neg (by grind)];exact q h (r.skip j) (λe m N k=>k.put (fG.nil _)) rfl
theorem pV{rid:Nat}{ops:Array Oper}(hty:∀t f,C.ty t=some f->fL P t=some f)(l:gF P C)(j:C.nt=nt){st:St}{a:Act}{w:World}{g:Gh}{K:St->Option R}{y:R}(h:kz C rid ops false st K=some y)(r:bz P nt w0 o0 io c0 st.nx st a w g)(o:∀b d w' g',K b=some y->bz P nt w0 o0 io c0 b.nx b d w' g'->Ext st b->Q .normal d w'):(Code.region rid ops false).wp P Q a w:=by
 refine wp_region ?_;have :=uF (Q:=Q) (K:=λb=>K {b with nx:=st.nx+ops.size}) hty l j ops.toList 0 (by simp) h r λb d w' g' k c n n'=>o _ d w' g' k ?_ λe m N i=>?_;·grind[List.range_eq_range']
 · have :(0+ops.toList.length)=ops.size:=by simp
   rw[this]at c;exact⟨c.dB,c.df,c.bB,c.io⟩
 · have :=n e m N i;refine⟨this.env,this.dr,Nat.le_trans i.nx (Nat.mul_le_mul_right _ (Nat.le_add_right _ _))⟩
end
end Go.Tm
namespace Go.Tm
open Go
section
variable{C:Ctx}{env:Nat->TV}{mu:Mu}{R:Type}
def eA(mu:Mu)(us:List aI):Prop:=∀u∈us,mu (aH u)≠none
theorem eA.app{mu:Mu}{a b:List aI}(h:eA mu a)(k:eA mu b):eA mu (a++b):=λu c=>(List.mem_append.1 c).elim (h u) (k u)
theorem eA.nil{mu:Mu}:eA mu []:=λu a=>by cases a
theorem eA.one{mu:Mu}{u:aI}(h:mu (aH u)≠none):eA mu [u]:=λv a=>by grind
theorem rz.Bo{a:Nat->Prop}{bx:Prop}{u:aI}(h:rz mu a bx u):mu (aH u)≠none:=by cases u with|mv id to=>grind[af.D,rz,aH]|pm id=>grind[af.D,rz,aH]
theorem nM{mu':Mu}(a:Le mu mu'):∀{us:List aI},eA mu us->iM mu' us=iM mu us|[],_=>rfl|.mv id to::r,h=>by simp only[iM];rw[nM a λu d=>h u (by grind)]|.pm id::r,h=>by simp only[iM];rw[nM a λu d=>h u (by grind)];have :=h (.pm id) (by simp);cases c:mu id with|none=>exact absurd c this|some b=>rw[a _ _ c]
theorem jh{v:CV}{K:(es:af)->List es.D->Option R}{y:R}(h:aE mu v K=some y):∃es xs,K es xs=some y/\∀mu',Le mu mu'->∀(R':Type)(d:(es:af)->List es.D->Option R'),aE mu' v d=d es xs:=by
 cases v<;>simp only[aE]at h<;>try grind
 case ro es xs=>exact⟨es,xs,h,λ_ _ _ _=>rfl⟩
 case own id=>cases a:mu id with|none=>grind|some b=>
  cases b<;>simp only[a]at h<;>try grind
  case row es ms xs aF=>exact⟨es,xs,h,λmu' c R' d=>by simp[aE,c _ _ a]⟩
  case fz es xs=>exact⟨es,xs,h,λmu' c R' d=>by simp[aE,c _ _ a]⟩
 case nref id aF i j=>cases a:mu id with|none=>grind|some b=>
 cases b<;>simp only[a]at h<;>try grind
 case row es ms xs k=>cases e:Nat.beq aF k with|false=>grind|true=>simp only[e,cond_true]at h;cases g:aC xs i with|none=>grind|some x=>simp only[g,Option.bind_some]at h;cases f:es.leaf j x with|none=>grind|some l=>
 obtain⟨lt,n⟩:=l;cases lt<;>simp only[f]at h<;>try grind
 case sl m=>exact⟨m,n,h,λmu' c R' d=>by simp[aE,c _ _ a,e,g,f]⟩
theorem eb{app:vW}:∀(ts:af){ms:List Md}{to:Nat}{a:List CV}{us:List aI}{R:Type}{K:ts.D->List CV->List aI->Option R}{y:R},aQ app mu ts ms to a us K=some y->∃x c b,K x c (b++us)=some y/\eA mu b/\∀mu',Le mu mu'->∀(R':Type)(d:ts.D->List CV->List aI->Option R'),aQ app mu' ts ms to a us d=d x c (b++us)|.nil,ms,to,a,us,R,K,y,h=>⟨(),a,[],h,.nil,λ_ _ _ _=>rfl⟩|.cons t ts,ms,to,[],us,R,K,y,h=>by simp[aQ]at h|.cons t ts,ms,to,cv::a,us,R,K,y,h=>by simp only[aQ]at h;obtain⟨x,b,g,f,l⟩:=ij h;obtain⟨xs,c,e,m,j,n⟩:=eb ts g;refine⟨(x,xs),c,e++b,by grind,j.app λu i=>(f u i).Bo,λmu' k R' d=>?_⟩;grind[aQ,Ty.D,af.D,ak,cy,cW]
theorem pW{v:CV}{n:Nat}{us:List aI}{K:List CV->List aI->Option R}{y:R}(h:dH mu v n us K=some y):∃cs e,K cs (e++us)=some y/\eA mu e/\∀mu',Le mu mu'->∀(R':Type)(d:List CV->List aI->Option R'),dH mu' v n us d=d cs (e++us):=by
 cases v<;>simp only[dH]at h<;>try grind
 case ptr id off=>cases c:mu id with|none=>grind|some b=>
  cases b<;>simp only[c]at h<;>try (cases h;done)
  case box cs=>exact⟨_,[.pm id],h,.one (by grind[aH]),λmu' a R' d=>by simp[dH,a _ _ c]⟩
  case eE es x=>exact⟨_,[],h,.nil,λmu' a R' d=>by simp[dH,a _ _ c]⟩
 case eO es x off=>exact⟨_,[],h,.nil,λmu' a R' d=>rfl⟩
 case dF id sz i off=>cases c:mu id with|none=>grind|some b=>
 cases b<;>simp only[c]at h<;>try grind
 case row es ms xs aF=>cases g:Nat.beq sz es.len with|false=>grind|true=>simp only[g,cond_true]at h;cases f:aC xs i with|none=>grind|some x=>simp only[f,Option.bind_some]at h;exact⟨_,[.pm id],h,.one (by grind[aH]),λmu' a R' d=>by simp[dH,a _ _ c,g,f]⟩
theorem mj:∀(f:List bX)(m:Nat){args:List TV}{us:List aI}{R:Type}{K:GD f->List aI->Option R}{y:R},bA C mu f m args us K=some y->∃x d,K x (d++us)=some y/\eA mu d/\∀mu',Le mu mu'->∀(R':Type)(e:GD f->List aI->Option R'),bA C mu' f m args us e=e x (d++us)
 |[],m,[],us,R,K,y,h=>⟨(),[],h,.nil,λ_ _ _ _=>rfl⟩|[],m,_::_,us,R,K,y,h=>by simp[bA]at h|g::f,m,[],us,R,K,y,h=>by simp[bA]at h|g::f,m,a::args,us,R,K,y,h=>by
  have go:∀(i:List CV)(n j:List aI),n=j++us->eA mu j->(aQ (uS C) mu g.ts g.ms (64*m+1) i n λx i us=>match i with|[]=>bA C mu f (m+1) args us λr us=>K (x,r) us|_=>none)=some y->∃x d,K x (d++us)=some y/\eA mu d/\∀mu',Le mu mu'->∀(R':Type)(e:GD (g::f)->List aI->Option R'),(aQ (uS C) mu' g.ts g.ms (64*m+1) i n λx i us=>match i with|[]=>bA C mu' f (m+1) args us λr us=>e (x,r) us|_=>none)=e x (d++us):=by rintro i n j rfl E h;obtain⟨x,z,d,o,s,t⟩:=eb g.ts h;cases z with|cons _ _=>cases o|nil=>obtain⟨r,A,q,l,p⟩:=mj f (m+1) o;refine⟨(x,r),A++(d++j),by grind,l.app (s.app E),λmu' k R' e=>?_⟩;grind
  obtain⟨D,F,B⟩:=g;cases D with
 |c=>
 cases a<;>simp only[bA]at h<;>try grind
 case c v=>exact go [v] us [] rfl .nil h|agg=>
 cases a<;>simp only [bA] at h<;>try grind
 case agg vs=>exact go vs us [] rfl .nil h|rp=>
 cases a<;>simp only [bA] at h<;>try grind
 case c v=>cases w:cJ B with|false=>grind|true=>simp only [w,cond_true] at h;obtain⟨cs,j,o,s,t⟩:=pW h;obtain⟨x,d,q,l,p⟩:=go cs _ j rfl s o;refine⟨x,d,q,l,λmu' k R' e=>?_⟩;simp only [bA,w,cond_true];rw [t mu' k];exact p mu' k R' e
 |io=>
 cases a<;>simp only [bA] at h<;>try grind
 case c v=>
 cases v<;>simp only at h<;>try grind
 case ptr id off=>cases u:mu id with|none=>grind|some b=>
 cases b<;>simp only [u] at h<;>try (cases h;done)
 case box cs=>cases ho:Nat.beq off 0 with|false=>grind|true=>simp only [ho,cond_true] at h;obtain⟨x,d,q,l,p⟩:=go cs _ [.mv id (64*m)] rfl (.one (by grind [aH])) h;refine⟨x,d,q,l,λmu' k R' e=>?_⟩;simp only [bA,k _ _ u,ho,cond_true];exact p mu' k R' e
 |np=>cases a<;>simp [bA] at h|wc=>
 cases a<;>simp only [bA] at h<;>try grind
 case c v=>exact go [v] us [] rfl .nil h|wa=>
 cases a<;>simp only [bA] at h<;>try grind
 case agg vs=>exact go vs us [] rfl .nil h
theorem yK{mu mu':Mu}(d:Le mu mu'){t:Tg}(h:mW mu t=true):mW mu' t=true:=by cases t with|bx _=>rfl|cv cs=>
 simp only[mW,List.all_eq_true]at h⊢;intro c a;have :=h c a;cases c<;>try rfl
 case own id=>obtain⟨b,e⟩:=Option.isSome_iff_exists.1 this;simp[d _ _ e]
theorem ml{mu mu':Mu}(a:Le mu mu'):∀(ts:af){ms:List Md}{cs:List CV}{x:ts.D},mW mu (.cv cs)=true->bd mu' ts ms cs x=bd mu ts ms cs x|.nil,_,_,_,_=>by simp[bd]|.cons t ts,ms,[],x,_=>by simp[bd]|.cons t ts,ms,c::cs,x,h=>by simp only[mW,List.all_cons,Bool.and_eq_true]at h;simp only[bd];rw[ml a ts (cs:=cs) (by grind[mW])];refine congrArg (·++_) ?_;unfold mG;cases cy ms with|sh=>rfl|own m=>
 cases c<;>try rfl
 case own id=>obtain⟨b,d⟩:=Option.isSome_iff_exists.1 h.1;simp only[d,a _ _ d]
theorem jw{mu mu':Mu}(c:Le mu mu'){idb:Nat}:∀(a:List bX)(r b:Nat){io:List Tg}{y:GD a},io.all (mW mu)=true->az mu' idb a r b io y=az mu idb a r b io y
 |[],_,_,_,_,_=>by simp[az]|g::a,r,0,[],y,h=>by simp only[az];exact jw c a (r+1) 0 h|g::a,r,0,t::io,y,h=>by simp only[List.all_cons,Bool.and_eq_true]at h;simp only[az];rw[jw c a (r+1) 0 (io:=io) h.2];cases t with|bx id=>rfl|cv cs=>simp only[ml c g.ts h.1]
 |g::a,r,b+1,io,y,h=>by simp only[az];rw[jw c a (r+1) b h]
theorem lK{idb f:Nat}{args:List TV}{K:TV->List (Nat×av)->Option R}{y:R}(h:kt C mu idb f args K=some y):∃v ms,K v ms=some y/\∀mu',Le mu mu'->∀(R':Type)(e:TV->List (Nat×av)->Option R'),kt C mu' idb f args e=e v ms:=by unfold kt at h;cases g:C.bg f with|none=>grind|some a=>simp only[g]at h;obtain⟨x,l,d,o,m⟩:=mj a.ins 0 h;cases j:(aP (l++[])&&sQ a.aX&&(da a.ins args).all (mW mu))with|false=>grind|true=>rw[j]at d;simp only[cond_true]at d;cases i:a.f x with|none=>grind|some z=>simp only[i,Option.bind_some]at d;refine⟨_,_,d,λmu' c R' e=>?_⟩;unfold kt;simp only[g];have b:=j;simp only[Bool.and_eq_true]at b;have k:(da a.ins args).all (mW mu')=true:=List.all_eq_true.2 λt n=>yK c (List.all_eq_true.1 b.2 t n);rw[m mu' c,b.1.1,b.1.2,k];simp only[Bool.and_self,cond_true,i,Option.bind_some];rw[nM c (by grind),jw c a.aX 0 _ b.2]
theorem tI{mu mu':Mu}(a:Le mu mu'){k:Nat}{b:av}:Le (bW mu k (some b)) (bW mu' k (some b)):=λn c h=>by
 unfold bW at h⊢;cases e:Nat.beq n k;·rw[e]at h;exact a _ _ h
 grind
theorem vz{idb f:Nat}{args:List TV}{K:TV->List (Nat×av)->Option R}{y:R}(h:lS C mu idb f args K=some y):∃v ms,K v ms=some y/\∀mu',Le mu mu'->∀(R':Type)(b:TV->List (Nat×av)->Option R'),lS C mu' idb f args b=b v ms:=by unfold lS at h;cases d:C.bg f with|none=>grind|some A=>simp only[d]at h;cases c:iN A.ins args 0 with|none=>simp only[c]at h;obtain⟨v,ms,a,q⟩:=lK h;refine⟨v,ms,a,λmu' r R' b=>?_⟩;unfold lS;grind|some p=>obtain⟨n,id,aF,i,j⟩:=p;simp only[c]at h;cases s:mu id with|none=>grind|some bl=>
 cases bl<;>simp only[s]at h<;>try grind
 case row es ms xs w=>cases e:Nat.beq aF w with|false=>grind|true=>simp only[e,cond_true]at h;cases t:aC xs i with|none=>grind|some x=>
 simp only[t,Option.bind_some]at h;split at h
 · rename_i o B m r D;obtain⟨v,l,a,q⟩:=lK h;split at a
   · rename_i E g ys u I;split at a;· rename_i z J;cases F:dG g m with|false=>grind|true=>simp only[F,cond_true]at a;cases G:es.eP j x (.sl o) (cX z ys)with|none=>grind|some x'=>
      rw[G]at a;simp only[Option.bind_some]at a;refine⟨v,_,a,λmu' k R' b=>?_⟩;unfold lS;simp only[d,c,k _ _ s,e,cond_true,t,Option.bind_some,r,D];rw[q _ (tI (tI k))];have H:au (bW (bW mu' id (some .aB)) (idb+2047) (some (.row o m B 0))) l (idb+2047)=some (.row E g ys u):=by grind[au,bW,jV,fS]
      grind
     grind
   grind
 grind
theorem mP:∀(l:List (Nat×av)){mu mu':Mu},Le mu mu'->Le (au mu l) (au mu' l)|[],_,_,h=>h|(k,b)::l,mu,mu',h=>mP l (mu:=bW mu k (some b)) (mu':=bW mu' k (some b)) (tI h)
theorem vA{idb f:Nat}{args:List TV}{K:TV->List (Nat×av)->Option R}{y:R}(h:jF C mu idb f args K=some y):∃v ms,K v ms=some y/\∀mu',Le mu mu'->∀(R':Type)(b:TV->List (Nat×av)->Option R'),jF C mu' idb f args b=b v ms:=by unfold jF at h;cases e:C.bg f with|none=>grind|some r=>simp only[e]at h;cases c:iO r.ins args 0 with|none=>simp only[c]at h;obtain⟨v,ms,a,k⟩:=vz h;refine⟨v,ms,a,λmu' B R' b=>?_⟩;unfold jF;grind|some p=>obtain⟨n,id,sz,i⟩:=p;simp only[c]at h;cases m:mu id with|none=>grind|some bl=>
 cases bl<;>simp only[m]at h<;>try grind
 case row es ms xs aF=>cases d:(Nat.beq sz es.len&&(Nat.ble es.len 62&&gb es ms))with|false=>grind|true=>simp only[d,cond_true]at h;cases o:aC xs i with|none=>grind|some x=>
 simp only[o,Option.bind_some]at h;obtain⟨v,l,a,k⟩:=lK h;split at a;·rename_i cs s;cases hp:(aQ (R:=es.D×List aI) bM (au (au mu (dU id (idb+1984) es ms x)) l) es ms 0 cs [] bN) with|none=>grind|some p=>obtain⟨x',us⟩:=p;rw [hp] at a;simp only [Option.bind_some] at a;cases t:(aP us&&(us.all sP&&(!dQ id us&&!dQ (idb+1984) us))) with|false=>grind|true=>rw [t,cond_true] at a;obtain⟨z,u,w,D,_,A⟩:=eb _ hp;refine⟨v,_,a,λmu' j R' b=>?_⟩;have g:=mP (dU id (idb+1984) es ms x) j;have q:=mP l g;unfold jF;simp only [e,c,j _ _ m,d,cond_true,o,Option.bind_some];rw [k _ g,q _ _ s];grind
 grind
theorem kO{es:af}{ms:List Md}:∀(c:List (Nat×TV))(i:Nat){us:List aI}{R:Type}{K:List es.D->List aI->Option R}{y:R},cE mu es ms c i us K=some y->∃xs a,K xs (a++us)=some y/\eA mu a/\∀mu',Le mu mu'->∀(R':Type)(b:List es.D->List aI->Option R'),cE mu' es ms c i us b=b xs (a++us)|[],i,us,R,K,y,h=>⟨[],[],h,.nil,λ_ _ _ _=>rfl⟩|p::r,i,us,R,K,y,h=>by simp only[cE]at h;cases hp:Nat.beq p.1 i with|false=>grind|true=>simp only[hp,cond_true]at h;cases j:cellsOf p.2 with|none=>grind|some l=>simp only[j]at h;obtain⟨x,f,a,d,g,n⟩:=eb es h;cases f with|cons _ _=>cases d|nil=>obtain⟨xs,e,o,k,q⟩:=kO r (i+1) d;refine⟨x::xs,e++a,by grind,k.app g,λmu' m R' b=>?_⟩;grind[cE,af.D,aQ,bM,cellsOf]
theorem gp:∀(ts:af){ms:List Md}{j off:Nat}{vs:List CV}{x:ts.D}{us:List aI}{R:Type}{K:ts.D->List aI->Option R}{y:R},bj mu ts ms j off vs x us K=some y->∃z a,K z (a++us)=some y/\eA mu a/\∀mu',Le mu mu'->∀(R':Type)(b:ts.D->List aI->Option R'),bj mu' ts ms j off vs x us b=b z (a++us)|.nil,ms,j,off,[],x,us,R,K,y,h=>⟨(),[],h,.nil,λ_ _ _ _=>rfl⟩|.nil,ms,j,off,_::_,x,us,R,K,y,h=>by simp[bj]at h|.cons t ts,ms,j,off,[],x,us,R,K,y,h=>⟨x,[],h,.nil,λ_ _ _ _=>by simp[bj]⟩|.cons t ts,ms,j,0,v::vs,x,us,R,K,y,h=>by simp only[bj]at h;obtain⟨d,a,k,g,n⟩:=ij h;obtain⟨z,c,f,e,m⟩:=gp ts k;refine⟨(d,z),c++a,by grind,e.app λu l=>(g u l).Bo,λmu' i R' b=>?_⟩;grind[bj,Ty.D,af.D,ak,bM,cy,cW]|.cons t ts,ms,j,off+1,v::vs,x,us,R,K,y,h=>by simp only[bj]at h;obtain⟨z,c,f,e,m⟩:=gp ts h;refine⟨(x.1,z),c,f,e,λmu' i R' b=>?_⟩;grind[bj,Ty.D,af.D,cW]
theorem rF{es:af}{a:CV}{vs:List CV}{K:List (Nat×av)->Option R}{y:R}(h:dx mu es a vs K=some y):∃ms,K ms=some y/\∀mu',Le mu mu'->∀(R':Type)(c:List (Nat×av)->Option R'),dx mu' es a vs c=c ms:=by cases a with
 |ptr id off=>cases off with|succ n=>simp[dx]at h|zero=>simp only[dx]at h;cases e:mu id with|none=>grind|some b=>
 cases b<;>simp only[e]at h<;>try (cases h;done)
 case box cs=>cases d:Nat.beq vs.length cs.length with|false=>grind|true=>simp only[d,cond_true]at h;cases hp:aQ (R:=es.D×List aI) bM (au mu [(id,.box vs)]) es [] 0 vs [] bN with|none=>grind|some p=>obtain⟨l,us⟩:=p;rw [hp] at h;simp only [Option.bind_some] at h;cases us with|cons _ _=>cases h|nil=>obtain⟨z,g,j,k,_,i⟩:=eb _ hp;refine⟨_,h,λmu' f R' c=>?_⟩;simp only [dx,f _ _ e,d,cond_true];grind [af.D,aQ,bM,au,bN,mP]
 |_=>simp [dx] at h
theorem tJ{a:CV}{vs:List CV}{K:List (Nat×av)->Option R}{y:R}(h:iQ mu a vs K=some y):∃ms,K ms=some y/\∀mu',Le mu mu'->∀(R':Type)(e:List (Nat×av)->Option R'),iQ mu' a vs e=e ms:=by
 cases a<;>simp only[iQ]at h<;>try grind
 case ptr id off=>cases d:mu id with|none=>grind|some b=>
  cases b<;>simp only[d]at h<;>try (cases h;done)
  case box cs=>cases c:Nat.ble (off+vs.length) cs.length with|false=>grind|true=>simp only[c,cond_true]at h;exact⟨_,h,λmu' f R' e=>by simp[iQ,f _ _ d,c]⟩
 case dF id sz i off=>cases d:mu id with|none=>grind|some b=>
 cases b<;>simp only[d]at h<;>try grind
 case row es ms xs aF=>cases c:(Nat.ble (off+vs.length) es.len&&Nat.beq sz es.len)with|false=>grind|true=>simp only[c,cond_true]at h;cases k:aC xs i with|none=>grind|some x=>simp only[k,Option.bind_some]at h;obtain⟨z,j,g,m,n⟩:=gp es h;cases l:(aP (j++[])&&!dQ id (j++[]))with|false=>grind|true=>rw[l]at g;simp only[cond_true]at g;refine⟨_,g,λmu' f R' e=>?_⟩;simp only[iQ,f _ _ d,c,cond_true,k,Option.bind_some];grind[bj,af.D,aP,dQ,iM,nM,eA]
theorem oS{v:CV}{n:Nat}{K:List CV->Option R}{y:R}(h:et mu v n K=some y):∃cs,K cs=some y/\∀mu',Le mu mu'->∀(R':Type)(e:List CV->Option R'),et mu' v n e=e cs:=by
 cases v<;>simp only[et]at h<;>try grind
 case ptr id off=>cases d:mu id with|none=>grind|some b=>
  cases b<;>simp only[d]at h<;>try(cases h;done)
  case box cs=>cases a:Nat.ble (off+n) cs.length with|false=>grind|true=>simp only[a,cond_true]at h;exact⟨_,h,λmu' c R' e=>by simp[et,c _ _ d,a]⟩
  case eE es x=>cases a:Nat.ble (off+n) es.len with|false=>grind|true=>simp only[a,cond_true]at h;exact⟨_,h,λmu' c R' e=>by simp[et,c _ _ d,a]⟩
 case eO es x off=>cases a:Nat.ble (off+n) es.len with|false=>grind|true=>simp only[a,cond_true]at h;exact⟨_,h,λmu' c R' e=>by simp[et,a]⟩
 case dF id sz i off=>cases d:mu id with|none=>grind|some b=>
 cases b<;>simp only[d]at h<;>try grind
 case row es ms xs aF=>cases a:(Nat.ble (off+n) es.len&&Nat.beq sz es.len)with|false=>grind|true=>simp only[a,cond_true]at h;cases f:aC xs i with|none=>grind|some x=>simp only[f,Option.bind_some]at h;exact⟨_,h,λmu' c R' e=>by simp[et,c _ _ d,a,f]⟩
 case fz es xs=>cases a:(Nat.ble (off+n) es.len&&Nat.beq sz es.len)with|false=>grind|true=>simp only[a,cond_true]at h;cases f:aC xs i with|none=>grind|some x=>simp only[f,Option.bind_some]at h;exact⟨_,h,λmu' c R' e=>by simp[et,c _ _ d,a,f]⟩
theorem eB{α:Type}{a b:Option TV}{n:Nat}{xs:α}{f:Nat->Nat->α->Option R}{y:R}(h:iR a b n xs f=some y):∃l m,f l m xs=some y/\∀(R':Type)(c:Nat->Nat->α->Option R'),iR a b n xs c=c l m xs:=by unfold iR at h;grind[mX,wq,iR]
theorem nN{v:CV}{g i:Option TV}{K:TV->List (Nat×av)->Option R}{y:R}(h:bq mu v g i K=some y):∃tv ms,K tv ms=some y/\∀mu',Le mu mu'->∀(R':Type)(d:TV->List (Nat×av)->Option R'),bq mu' v g i d=d tv ms:=by
 cases v<;>simp only[bq]at h<;>try grind
 case str s=>obtain⟨l,m,a,c⟩:=eB h;exact⟨_,_,a,λmu' e R' d=>by grind[bq,iR]⟩
 case ro es xs=>obtain⟨l,m,a,c⟩:=eB h;exact⟨_,_,a,λmu' e R' d=>by simp only[bq];rw[c]⟩
 case cg=>obtain⟨l,m,a,c⟩:=eB h;exact⟨_,_,a,λmu' e R' d=>by grind[bq,iR]⟩
 case own id=>cases f:mu id with|none=>grind|some b=>
 cases b<;>simp only[f]at h<;>try grind
 case row es ms xs aF=>obtain⟨l,m,a,c⟩:=eB h;exact⟨_,_,a,λmu' e R' d=>by simp only[bq,e _ _ f];rw[c]⟩
 case fz es xs=>obtain⟨l,m,a,c⟩:=eB h;exact⟨_,_,a,λmu' e R' d=>by simp only[bq,e _ _ f];rw[c]⟩
theorem uG{mu':Mu}(c:Le mu mu'){n:Nat}{v:CV}(h:dP mu n v=true):dP mu' n v=true:=by
 cases v<;>simp only[dP]at h⊢<;>try omega
 case own id=>cases a:mu id with|none=>grind|some b=>rw[a]at h;rw[c _ _ a];exact h
 case nref id aF i j=>cases a:mu id with|none=>grind|some b=>rw[a]at h;rw[c _ _ a];exact h
theorem rG{v:CV}{n:Int}{K:CV->Option R}{y:R}(h:lj mu v n K=some y):∃p,K p=some y/\∀mu',Le mu mu'->∀(R':Type)(c:CV->Option R'),lj mu' v n c=c p:=by
 cases v<;>simp only[lj]at h<;>try grind
 case ro es xs=>cases a:bK xs n with|none=>grind|some x=>simp only[a,Option.bind_some]at h;exact⟨_,h,λmu' d R' c=>by simp[lj,a]⟩
 case own id=>cases e:mu id with|none=>grind|some b=>
 cases b<;>simp only[e]at h<;>try grind
 case row es ms xs aF=>cases a:bK xs n with|none=>grind|some x=>simp only[a,Option.bind_some]at h;exact⟨_,h,λmu' d R' c=>by simp[lj,d _ _ e,a]⟩
 case fz es xs=>cases a:bK xs n with|none=>grind|some x=>simp only[a,Option.bind_some]at h;exact⟨_,h,λmu' d R' c=>by simp[lj,d _ _ e,a]⟩
theorem rH{v:CV}{K:Int->Option R}{y:R}(h:mD mu v K=some y):∃n,K n=some y/\∀mu',Le mu mu'->∀(R':Type)(a:Int->Option R'),mD mu' v a=a n:=by
 by_cases b:v=.cg;·subst b;exact⟨0,h,λ_ _ _ _=>rfl⟩
 · have e:∀(mu:Mu)(R:Type)(K:Int->Option R),mD mu v K=aE mu v λ_ xs=>K xs.length:=by simp_all[Mu,CV.casesOn,mD,aE,af.D]
   rw[e]at h;obtain⟨es,xs,d,c⟩:=jh h;grind
theorem kP{es:af}{v:CV}{K:List es.D->Option R}{y:R}(h:cQ mu es v K=some y):∃xs,K xs=some y/\∀mu',Le mu mu'->∀(R':Type)(a:List es.D->Option R'),cQ mu' es v a=a xs:=by
 by_cases c:v=.cg;·subst c;exact⟨[],h,λ_ _ _ _=>rfl⟩
 · by_cases f:∃s,v=.str s;· obtain⟨s,rfl⟩:=f;simp only[cQ]at h;cases d:af.eq? aY es with|none=>grind|some p=>simp only[d]at h;exact⟨_,h,λmu' i R' a=>by simp[cQ,d]⟩
   · have e:∀(mu:Mu)(R:Type)(K:List es.D->Option R),cQ mu es v K=aE mu v λb ys=>match af.eq? b es with|some ⟨h⟩=>K (cX h ys)|none=>none:=by intro mu R K;cases v<;>first|rfl|exact absurd rfl c|grind
     rw[e]at h;obtain ⟨b,xs,j,g⟩:=jh h;grind
theorem rI{mu':Mu}(d:Le mu mu'){ms:List Md}{v:CV}{a:List (Nat×av)}(h:iC mu ms v=some a):iC mu' ms v=some a:=by
 cases v<;>simp only[iC]at h⊢<;>try omega
 case own id=>cases c:mu id with|none=>grind|some b=>rw[c]at h;rw[d _ _ c];exact h
theorem rJ{idb:Nat}{es:af}{ms:List Md}{bytes:Nat}{s x:CV}{K:TV->List (Nat×av)->Option R}{y:R}(h:gU mu idb es ms bytes s x K=some y):∃tv c,K tv c=some y/\∀mu',Le mu mu'->∀(R':Type)(e:TV->List (Nat×av)->Option R'),gU mu' idb es ms bytes s x e=e tv c:=by
 cases s<;>simp only[gU]at h<;>try grind
 case cg=>cases d:iC mu ms x with|none=>grind|some n=>simp only[d]at h;obtain⟨ys,a,m⟩:=kP h;cases g:dE ys.length bytes with|false=>grind|true=>simp only[g,cond_true]at a;refine⟨_,_,a,λmu' f R' e=>?_⟩;grind[gU,cQ,af.D,dE,iC,rI]
 case own id=>cases k:mu id with|none=>grind|some b=>
 cases b<;>simp only[k]at h<;>try grind
 case row l c xs aF=>cases j:af.eq? l es with|none=>grind|some p=>simp only[j]at h;cases d:iC mu c x with|none=>grind|some n=>simp only[d]at h;cases i:mI id x with|true=>grind|false=>simp only[i,cond_false]at h;obtain⟨ys,a,m⟩:=kP h;cases g:dE (xs.length+ys.length) bytes with|false=>grind|true=>simp only[g,cond_true]at a;refine⟨_,_,a,λmu' f R' e=>?_⟩;simp only[gU,f _ _ k,j,rI f d,i,cond_false];grind
end
end Go.Tm
namespace Go.Tm
open Go
section
variable{C:Ctx}{env:Nat->TV}{mu:Mu}{R:Type}
theorem rK{j:TK}{eq:Option (List TK)}{g:BinOp}{x y:TV}{K:TV->Option R}{r:R}(q:∀e,j≠.slice e)(h:iP mu j eq g x y K=some r):∃v,K v=some r/\∀(mu':Mu)(R':Type)(f:TV->Option R'),iP mu' j eq g x y f=f v:=by
 unfold iP at h;split at h
 · rename_i k a p b;split at h;· cases d:dO b 0 with|true=>grind|false=>simp only[d,cond_false]at h;exact⟨_,h,λmu' R' f=>by simp[iP,d]⟩
   · cases d:dO b 0 with|true=>grind|false=>simp only[d,cond_false]at h;exact⟨_,h,λmu' R' f=>by simp[iP,d]⟩
   · rename_i o n;split at h
     · rename_i l;cases g<;>simp only at h<;>try (cases h;done)
       case quo=>cases d:gA b 0 with|true=>grind|false=>simp only[d,cond_false]at h;exact⟨_,h,λmu' R' f=>by simp[iP,d,l]⟩
       case rem=>cases d:gA b 0 with|true=>grind|false=>simp only[d,cond_false]at h;exact⟨_,h,λmu' R' f=>by simp[iP,d,l]⟩
       all_goals exact⟨_,h,λmu' R' f=>by simp[iP,l]⟩
     grind
 · rename_i a b;cases g<;>simp only at h<;>try (cases h;done)
   case add=>cases d:qB a b with|false=>grind|true=>simp only[d,cond_true]at h;exact⟨_,h,λmu' R' f=>by simp[iP,d]⟩
   all_goals exact⟨_,h,λmu' R' f=>by simp[iP]⟩
 · rename_i a b;cases j<;>simp only at h<;>try grind
   case bool=>
  cases g<;>simp only at h<;>try grind
  all_goals exact⟨_,h,λmu' R' f=>by simp[iP]⟩
 · rename_i a b;cases eq with|none=>cases h|some m=>
  cases g<;>simp only at h<;>try grind
  case eql=>cases i:eI m a b with|none=>grind|some c=>simp only[i]at h;exact⟨_,h,λmu' R' f=>by simp[iP,i]⟩
  case neq=>cases i:eI m a b with|none=>grind|some c=>simp only[i]at h;exact⟨_,h,λmu' R' f=>by simp[iP,i]⟩
 · grind
 grind
theorem pX{idb rid i:Nat}{b:Builtin}{ts:List Nat}{args:List TV}{K:TV->List (Nat×av)->Option R}{y:R}(h:aZ C mu idb rid i b ts args K=some y):∃v ms,K v ms=some y/\∀mu',Le mu mu'->∀(R':Type)(c:TV->List (Nat×av)->Option R'),aZ C mu' idb rid i b ts args c=c v ms:=by
 unfold aZ at h;split at h
 · rename_i v;split at h
   · rename_i t;split at h
     · rename_i z m;split at h;· rename_i s j;exact⟨_,_,h,λmu' d R' c=>by simp[aZ,m,j]⟩
       · cases h
       · rename_i e o j;obtain⟨n,f,u⟩:=rH h;refine⟨_,_,f,λmu' d R' c=>?_⟩;simp only[aZ,m,o];grind
       grind
     grind
   grind
 · rename_i k a r;split at h;· rename_i n g;exact⟨_,_,h,λmu' d R' c=>by simp[aZ,g]⟩
   grind
 · rename_i k a r;split at h;· rename_i n g;exact⟨_,_,h,λmu' d R' c=>by simp[aZ,g]⟩
   grind
 · rename_i s x;split at h
   · rename_i t A;split at h;· rename_i e B q w p;cases l:yg q.k with|false=>grind|true=>simp only[l,cond_true]at h;obtain⟨tv,ms,f,u⟩:=rJ h;exact⟨_,_,f,λmu' d R' c=>by simp only[aZ,w,p,l,cond_true];grind⟩
     grind
   grind
 grind
theorem xj{sh:List Nat}{a c:af}{g:a.D->Option c.D}{args:List TV}{K:TV->List (Nat×av)->Option R}{y:R}(h:gC mu sh a c g args K=some y):∃v ms,K v ms=some y/\∀mu',Le mu mu'->∀(R':Type)(b:TV->List (Nat×av)->Option R'),gC mu' sh a c g args b=b v ms:=by
 unfold gC at h;split at h;·cases h
 ·rename_i k i;have :∀(R':Type)(b:TV->List (Nat×av)->Option R')(mu':Mu),gC mu' sh a c g args b=gC mu sh a c g args b:=λ_ _ _=>rfl;obtain⟨x,e,l,d,_,j⟩:=eb a h;cases e with|cons _ _=>cases d|nil=>cases f:g x with|none=>grind|some z=>
 simp only[f,Option.bind_some]at d;split at d;·rename_i v n;refine⟨_,_,d,λmu' m R' b=>?_⟩;unfold gC;rw[i];dsimp only;rw[j cY (λ_ _ h=>h)];grind
 grind
theorem rL{a:Nat->TV}{xs:Array Operand}(h:∀x∈xs,ae a x=ae env x):xs.toList.map (ae a)=xs.toList.map (ae env):=by simp_all
theorem nO{b:Nat->TV}{a:Array (Nat×Operand)}(h:∀x∈a.map (·.2),ae b x=ae env x):(a.toList.map λp=>(p.1,ae b p.2))=a.toList.map λp=>(p.1,ae env p.2):=List.map_congr_left λp hp=>by grind
theorem mn{a:Nat->TV}:∀{xs:List Operand},(∀x∈xs,ae a x=ae env x)->fm a xs=fm env xs|[],_=>rfl|x::r,h=>by simp only[fm];rw[h x (by simp),mn λy b=>h y (by grind)]
theorem rM{a:Nat->TV}{x:Option Operand}(h:∀y,x=some y->ae a y=ae env y):x.map (ae a)=x.map (ae env):=by cases x with|none=>rfl|some y=>grind
theorem xk{d:Nat->TV}{idb rid i:Nat}{o:Oper}{K:TV->List (Nat×av)->Option R}(h:∀x∈o.op.operands,ae d x=ae env x):bE C d mu idb rid i o K=bE C env mu idb rid i o K:=by
 cases e:o.op<;>simp only[e,Op.operands]at h<;>simp only[bE,e];case build t j=>rw[nO λx a=>h x (by simp_all)]
 case buildSlice t n j=>rw[nO λx a=>h x (by simp_all)]
 case makeFunc fn s r=>cases fn<;>simp only;grind[fm,mn]
 case call c=>cases k:c.callee with|builtin b=>simp only;rw[rL λx a=>h x (by simp[Call.operands,a])]|value f=>simp only;rw[rL λx a=>h x (by simp[Call.operands,a]),h f (by simp[Call.operands,k])]|invoke _ _=>rfl
 case slice t x g q p=>cases p with|some m=>rfl|none=>simp only;rw[rM (x:=g) λy l=>h y (by grind),rM (x:=q) λy l=>h y (by grind),h x (by simp)]
 case unOp u t x=>grind
 all_goals grind
theorem pY{mu:Mu}{size:Nat}{v:CV}{K:TV->List (Nat×av)->Option R}{y:R}(h:bR mu size v K=some y):∃tv,K tv []=some y/\∀mu',Le mu mu'->∀(R':Type)(a:TV->List (Nat×av)->Option R'),bR mu' size v a=a tv []:=by
 unfold bR at h;split at h;·rename_i id off;cases b:Nat.beq off 0 with|false=>grind|true=>
  rw [b,cond_true]at h;split at h;·rename_i es g e;cases c:Nat.beq es.len size with|false=>grind|true=>rw [c,cond_true]at h;cases es with|nil=>cases h|cons t ts=>
   simp only at h;split at h;·rename_i l f;exact⟨_,h,λmu' d R' a=>by simp [bR,b,d id _ e,c,f]⟩
   grind
  grind
 grind
theorem ir{app:vW}{mu:Mu}:∀(ts:af),gV ts=true->∀{ms:List Md}{to:Nat}{d:List CV}{us:List aI}{R:Type}{K:ts.D->List CV->List aI->Option R}{y:R},aQ app mu ts ms to d us K=some y->∃x a,K x a us=some y/\∀mu'(R':Type)(e:ts.D->List CV->List aI->Option R'),aQ app mu' ts ms to d us e=e x a us
 |.nil,_,ms,to,d,us,R,K,y,h=>⟨(),d,h,λ_ _ _=>rfl⟩|.cons t ts,_,ms,to,[],us,R,K,y,h=>by simp[aQ]at h|.cons t ts,c,ms,to,cv::d,us,R,K,y,h=>by
  simp only[gV,Bool.and_eq_true]at c;simp only[aQ]at h;cases t<;>simp only[wv]at c<;>try(cases c.1;done)
  case int k=>
   cases cv<;>simp only[ak]at h<;>try grind
   rename_i j n;by_cases i:k=j;·simp only[i,if_true]at h;obtain⟨xs,a,f,g⟩:=ir ts c.2 h;exact⟨(n,xs),a,f,λmu' R' e=>by simp only[aQ,ak,i,if_true];rw[g]⟩
   grind
  case bool=>
   cases cv<;>simp only[ak]at h<;>try grind
   rename_i b;obtain⟨xs,a,f,g⟩:=ir ts c.2 h;exact⟨(b,xs),a,f,λmu' R' e=>by simp only[aQ,ak];rw[g]⟩
  case str=>
 cases cv<;>simp only[ak]at h<;>try grind
 rename_i b;obtain⟨xs,a,f,g⟩:=ir ts c.2 h;exact⟨(b,xs),a,f,λmu' R' e=>by simp only[aQ,ak];rw[g]⟩
theorem gu{mu:Mu}{es:af}{ms:List Md}(b:gV es=true):∀(a:List (Nat×TV))(i:Nat){us:List aI}{R:Type}{K:List es.D->List aI->Option R}{y:R},cE mu es ms a i us K=some y->∃xs,K xs us=some y/\∀mu' (R':Type)(d:List es.D->List aI->Option R'),cE mu' es ms a i us d=d xs us|[],i,us,R,K,y,h=>⟨[],h,λ_ _ _=>rfl⟩|p::r,i,us,R,K,y,h=>by simp only[cE]at h;cases hp:Nat.beq p.1 i with|false=>grind|true=>simp only[hp,cond_true]at h;cases f:cellsOf p.2 with|none=>grind|some g=>simp only[f]at h;obtain⟨x,e,c,j⟩:=ir es b h;cases e with|cons _ _=>cases c|nil=>obtain⟨xs,k,l⟩:=gu b r (i+1) c;grind[af.D,cE,aQ,bM,cellsOf]
theorem yL{idb rid i:Nat}{o:Oper}{K:TV->List (Nat×av)->Option R}{y:R}(β:ox C o.op=true)(h:bE C env mu idb rid i o K=some y):∃v ms,K v ms=some y/\∀mu',(bH C o.op=true->Le mu mu')->∀(R':Type)(a:TV->List (Nat×av)->Option R'),bE C env mu' idb rid i o a=a v ms:=by
 cases g:o.op<;>simp only[bE,g]at h<;>try (cases h;done)
 case move x=>exact⟨_,_,h,λmu' _ R' a=>by simp only[bE,g]⟩
 case assign x=>exact⟨_,_,h,λmu' _ R' a=>by simp only[bE,g]⟩
 case pick c x z=>
  split at h
  · rename_i b G;cases b;· exact⟨_,_,h,λmu' _ R' a=>by simp only[bE,g,G];rfl⟩
    · exact⟨_,_,h,λmu' _ R' a=>by simp only[bE,g,G];rfl⟩
  grind
 case alloc e=>
  split at h;· rename_i r u;exact⟨_,_,h,λmu' _ R' a=>by simp only[bE,g,u]⟩
  grind
 case box e x=>
  split at h;· rename_i cs d;cases S:(C.iL rid i).isEmpty with|true=>rw[S]at h;exact⟨_,_,h,λmu' _ R' a=>by simp only[bE,g,d,S,cond_true]⟩|false=>simp only[S,cond_false]at h;cases hp:(aQ (R:=(C.es e).D×List aI) bM (λ_=>none) (C.es e) [] 0 cs [] bN) with|none=>grind|some p=>obtain⟨xd,us⟩:=p;simp only [hp,Option.bind_some] at h;cases us with|nil=>exact⟨_,_,h,λmu' _ R' a=>by simp only [bE,g,d,S,cond_false,hp,Option.bind_some]⟩|cons aa us=>cases h
  grind
 case build t α=>
  split at h
  · rename_i r u;split at h
    · rename_i w;split at h;· rename_i cs O;exact⟨_,_,h,λmu' _ R' a=>by simp only [bE,g,u,w,O]⟩
      grind
    grind
  grind
 case buildSlice t len α=>
  split at h;· rename_i e A F;cases O:(Nat.ble (len*A.size) 16777216&&Nat.beq α.size len&&Nat.blt 0 A.size&&Nat.ble A.size 62) with|false=>grind|true=>rw [O] at h;simp only [cond_true] at h;cases σ:gV (C.es e) with|true=>obtain⟨xs,j,N⟩:=gu σ _ _ h;have j:K (.c (.own idb)) (iM mu []++[(idb,.row (C.es e) (C.iL rid i) xs 0)])=some y:=j;exact⟨_,_,j,λmu' q R' a=>by simp only [bE,g,F,O,cond_true];rw [N];rfl⟩|false=>obtain⟨xs,W,j,E,N⟩:=kO _ _ h;cases M:aP (W++[]) with|false=>grind|true=>rw [M] at j;simp only [cond_true] at j;refine⟨_,_,j,λmu' q R' a=>?_⟩;have q:=q (by simp_all [bH,cN,gV,Ctx.es]);simp only [bE,g,F,O,cond_true];rw [N mu' q,M];simp only [cond_true];rw [nM q (by grind)]
  grind
 case load t x=>
  split at h;· rename_i r cv u d;obtain⟨cs,j,E⟩:=oS h;exact⟨_,_,j,λmu' q R' a=>by have q:=q rfl;simp only [bE,g,u,d];grind⟩
  grind
 case store t x v=>
  split at h;· rename_i r cv vs u d T;cases V:Nat.beq vs.length r.size with|false=>grind|true=>simp only [V,cond_true] at h;cases Q:(C.iL rid i).isEmpty with|true=>simp only [Q,cond_true] at h;obtain⟨ms,j,E⟩:=tJ h;exact⟨_,_,j,λmu' q R' a=>by have q:=q rfl;simp only [bE,g,u,d,T,V,Q,cond_true];grind⟩|false=>simp only [Q,cond_false] at h;obtain⟨ms,j,E⟩:=rF h;exact⟨_,_,j,λmu' q R' a=>by have q:=q rfl;simp only [bE,g,u,d,T,V,Q,cond_true,cond_false];grind⟩
  grind
 case nilCheck x=>
  split at h;· rename_i id off d;exact⟨_,_,h,λmu' _ R' a=>by simp only [bE,g,d]⟩
  · rename_i id sz i off d;exact⟨_,_,h,λmu' _ R' a=>by simp only [bE,g,d]⟩
  · rename_i es z off d;exact⟨_,_,h,λmu' _ R' a=>by simp only [bE,g,d]⟩
  grind
 case binOp τ t x z κ=>
  have w:∀e,(match C.ty t with|some r=>r.k|none=>.eH)≠TK.slice e:=by intro e F;rw [g] at β;simp only [ox] at β;grind
  obtain⟨v,j,E⟩:=rK w h;exact⟨v,_,j,λmu' _ R' a=>by simp only [bE,g];grind⟩
 case unOp τ t x=>
  split at h;· rename_i b d;exact⟨_,_,h,λmu' _ R' a=>by simp only [bE,g,d]⟩
  · rename_i k n d;exact⟨_,_,h,λmu' _ R' a=>by simp only [bE,g,d]⟩
  · rename_i k n d;exact⟨_,_,h,λmu' _ R' a=>by simp only [bE,g,d]⟩
  grind
 case convert t κ x=>cases u:C.ty t with|none=>grind|some Z=>cases L:C.ty κ with|none=>grind|some r=>
  cases d:ae env x<;>simp only [u,L,d] at h<;>try grind
  case c cv=>
  cases w:r.k<;>simp only [w] at h<;>try (cases h;done)
  case int U=>
   cases cv<;>simp only at h<;>try grind
   case int k n=>exact⟨_,_,h,λmu' _ R' a=>by simp only [bE,g,u,L,d,w]⟩
  case str=>
  by_cases hs:∃b,cv=.str b;· obtain⟨b,rfl⟩:=hs;exact⟨_,_,h,λmu' _ R' a=>by simp only [bE,g,u,L,d,w]⟩
  · have e:∀(mu:Mu) (R:Type) (K:TV->List (Nat×av)->Option R),(match (generalizing:=false)TK.str,cv with
    |.int U,.int _ n=>K (.c (.int U (U.wrap n))) []|.str,.str s=>K (.c (.str s)) []|.str,v=>match (generalizing:=false)Z.k with
     |.slice e=>match C.ty e with
      |some A=>match A.k with
       |.int .u8=>match (generalizing:=false) v with|.cg=>K (.c (.str ⟨#[]⟩)) []|v=>aE mu v λes xs=>match af.eq? es aY with|some ⟨h⟩=>K (.c (.str (bQ (cX h xs)))) []|none=>none
       |_=>none
      |none=>none
     |_=>none
    |_,_=>none)=(match (generalizing:=false)Z.k with
    |.slice e=>match C.ty e with
     |some A=>match A.k with
      |.int .u8=>match (generalizing:=false) cv with|.cg=>K (.c (.str ⟨#[]⟩)) []|v=>aE mu v λes xs=>match af.eq? es aY with|some ⟨h⟩=>K (.c (.str (bQ (cX h xs)))) []|none=>none
      |_=>none
     |none=>none
    |_=>none):=by grind
    have h:=(e mu R K).symm.trans h;cases θ:Z.k<;>simp only [θ] at h<;>try grind
    case slice el=>cases F:C.ty el with|none=>grind|some A=>
  simp only [F] at h;cases ε:A.k<;>simp only [ε] at h<;>try (cases h;done)
  case int ω=>
  cases ω<;>simp only at h<;>try grind
  case u8=>
  by_cases X:cv=.cg;· subst X;exact ⟨_,_,h,λmu' _ R' a=>by simp only [bE,g,u,L,d,w];grind⟩
  · have φ:∀(mu:Mu) (R:Type) (K:TV->List (Nat×av)->Option R),(match (generalizing:=false) cv with|.cg=>K (.c (.str ⟨#[]⟩)) []|v=>aE mu v λes xs=>match af.eq? es aY with|some ⟨h⟩=>K (.c (.str (bQ (cX h xs)))) []|none=>none)=aE mu cv λes xs=>match af.eq? es aY with|some ⟨h⟩=>K (.c (.str (bQ (cX h xs)))) []|none=>none:=by grind
    have h:=(φ mu R K).symm.trans h;obtain ⟨es,xs,j,E⟩:=jh h;cases hq:af.eq? es aY with|none=>grind|some p=>simp only [hq] at j;refine ⟨_,_,j,λmu' q R' a=>?_⟩;simp only [bE,g,u,L,d,w];refine (e mu' R' a).trans ?_;simp only [θ,F,ε];grind [aE,af.D,aY,af.eq?,bQ,cX,bH]
 case makeFunc f π ab=>
  cases f<;>simp only at h<;>try (cases h;done)
  case func f=>cases B:π.isEmpty with|false=>grind|true=>
  simp only [B,cond_true] at h;split at h;· rename_i l G;exact ⟨_,_,h,λmu' _ R' a=>by simp only [bE,g,B,cond_true,G]⟩
  grind
 case makeSlice t l c=>
  split at h
  · rename_i e A k n U n' F q G;split at h;· rename_i w;cases μ:(Nat.blt 0 A.size&&sR n n' A.bytes) with|false=>grind|true=>simp only [μ,cond_true] at h;obtain ⟨z,ρ,W,j,E,N⟩:=eb _ h;cases ρ with|cons _ _=>cases j|nil=>cases X:W++[] with|cons _ _=>grind|nil=>rw [X] at j N;refine ⟨_,_,j,λmu' δ R' a=>?_⟩;have δ:=δ rfl;simp only [bE,g,F,q,G,w,and_self,if_true,μ,cond_true];grind
    grind
  grind
 case slice t x H I mx=>cases mx with|some m=>grind|none=>simp only at h;cases u:C.ty t with|none=>grind|some r=>
  cases d:ae env x<;>simp only [u,d] at h<;>try grind
  case c cv=>
  cases w:r.k<;>simp only [w] at h<;>try grind
  case str=>
   cases cv<;>simp only at h<;>try grind
   case str b=>obtain ⟨tv,ms,j,E⟩:=nN h;exact ⟨_,_,j,λmu' q R' a=>by simp only [bE,g,u,d,w];grind [bH]⟩
  case slice e0=>cases F:cN C t with|none=>grind|some p=>
   obtain ⟨e,A⟩:=p;have ad:∀b,cv≠.str b:=by grind
   have P:∀(mu:Mu) (R:Type) (K:TV->List (Nat×av)->Option R),(match (generalizing:=false)TK.slice e0,cv with
   |.str,.str s=>bq mu (.str s) (H.map (ae env)) (I.map (ae env)) K|.slice _,v=>match (generalizing:=false) cN C t,v with|_,.str _=>none|some (e,_),v=>bif dP mu (C.es e).len v then bq mu v (H.map (ae env)) (I.map (ae env)) K else none|none,_=>none
   |.struct,v=>bif r.uR.isEmpty&&!r.dS.isEmpty&&H.isNone&&I.isNone then bR mu r.size v K else none|_,_=>none)=bif dP mu (C.es e).len cv then bq mu cv (H.map (ae env)) (I.map (ae env)) K else none:=by grind
   have h:=(P mu R K).symm.trans h;cases J:dP mu (C.es e).len cv with|false=>grind|true=>simp only [J,cond_true] at h;obtain ⟨tv,ms,j,E⟩:=nN h;refine ⟨_,_,j,λmu' q R' a=>?_⟩;simp only [bE,g,u,d,w];refine (P mu' R' a).trans ?_;rw [uG (q rfl) J];grind [bH]
  case struct=>
  have P:∀(mu:Mu) (R:Type) (K:TV->List (Nat×av)->Option R),(match (generalizing:=false)TK.struct,cv with
  |.str,.str s=>bq mu (.str s) (H.map (ae env)) (I.map (ae env)) K|.slice _,v=>match (generalizing:=false) cN C t,v with|_,.str _=>none|some (e,_),v=>bif dP mu (C.es e).len v then bq mu v (H.map (ae env)) (I.map (ae env)) K else none|none,_=>none
  |.struct,v=>bif r.uR.isEmpty&&!r.dS.isEmpty&&H.isNone&&I.isNone then bR mu r.size v K else none|_,_=>none)=bif r.uR.isEmpty&&!r.dS.isEmpty&&H.isNone&&I.isNone then bR mu r.size cv K else none:=by grind
  have h:=(P mu R K).symm.trans h;cases J:(r.uR.isEmpty&&!r.dS.isEmpty&&H.isNone&&I.isNone) with|false=>grind|true=>simp only [J,cond_true] at h;obtain ⟨tv,j,E⟩:=pY h;refine ⟨_,_,j,λmu' q R' a=>?_⟩;simp only [bE,g,u,d,w];refine (P mu' R' a).trans ?_;rw [J];grind [bH]
 case fieldAddr t x f=>cases B:dg C t f with|none=>grind|some p=>
  obtain ⟨off,n⟩:=p;cases d:ae env x<;>simp only [B,d] at h<;>try grind
  case c cv=>
  cases cv<;>simp only at h<;>try grind
  case ptr id o'=>exact ⟨_,_,h,λmu' _ R' a=>by simp only [bE,g,B,d]⟩
  case dF id sz i o'=>exact ⟨_,_,h,λmu' _ R' a=>by simp only [bE,g,B,d]⟩
  case eO es z o'=>exact ⟨_,_,h,λmu' _ R' a=>by simp only [bE,g,B,d]⟩
 case field t x f=>
  split at h;· rename_i off n vs ψ B d γ;cases ψ with|true=>exact ⟨_,_,h,λmu' _ R' a=>by simp only [bE,g,B,d,γ];rfl⟩|false=>
   simp only [cond_false] at h;split at h;· rename_i v T;exact ⟨_,_,h,λmu' _ R' a=>by simp only [bE,g,B,d,γ,cond_false,T]⟩
   grind
  grind
 case indexAddr t x z=>
  split at h;· rename_i e A cv k n F d Y;cases J:dP mu (C.es e).len cv with|false=>grind|true=>simp only [J,cond_true] at h;obtain ⟨p,j,E⟩:=rG h;refine ⟨_,_,j,λmu' q R' a=>?_⟩;have q:=q rfl;simp only [bE,g,F,d,Y,uG q J,cond_true];grind
  grind
 case index t x z=>
  split at h
  · rename_i r b k n u d Y;cases w:r.k<;>simp only [w] at h<;>try grind
    case str=>cases M:bK b.data.toList n with|none=>grind|some aa=>simp only [M,Option.bind_some] at h;exact ⟨_,_,h,λmu' _ R' a=>by simp only [bE,g,u,d,Y,w,M,Option.bind_some]⟩
  grind
 case extract x i=>
  split at h
  · rename_i vs d;split at h;· rename_i e F;exact ⟨_,_,h,λmu' _ R' a=>by simp only [bE,g,d,F]⟩
    grind
  grind
 case call c=>cases G:c.callee with|value f=>
 simp only [G] at h;cases B:ae env f<;>simp only [B] at h<;>try grind
 case c cv=>
 cases cv<;>simp only at h<;>try grind
 case uQ fn=>obtain ⟨v,ms,j,E⟩:=vA h;exact ⟨v,ms,j,λmu' q R' a=>by simp only [bE,g,G,B];grind [bH]⟩
 case qy sh as rs k=>obtain ⟨v,ms,j,E⟩:=xj h;exact ⟨v,ms,j,λmu' q R' a=>by simp only [bE,g,G,B];grind [bH]⟩|invoke _ _=>grind|builtin b=>simp only [G] at h;obtain ⟨v,ms,j,E⟩:=pX h;exact ⟨v,ms,j,λmu' q R' a=>by simp only [bE,g,G];grind [bH]⟩
def yM(C:Ctx)(rid i:Nat)(mu mu':Mu):Prop:=∀id b,wx C rid i id=true->mu id=some b->mu' id=some b
section
variable{l:List Nat}{m1 m2:Mu}
theorem vB(h:∀id,l.any (Nat.beq id)=true->m1 id=m2 id){v:CV}(a:jQ l v=true)(n:Nat){R':Type}(b:List CV->Option R'):et m1 v n b=et m2 v n b:=by cases v<;>simp only[jQ]at a<;>first|rfl|(cases a;done)|(simp only[et];grind)
theorem rN(h:∀id,l.any (Nat.beq id)=true->m1 id=m2 id){v:CV}(a:jQ l v=true){R':Type}(b:(es:af)->List es.D->Option R'):aE m1 v b=aE m2 v b:=by cases v<;>simp only[jQ]at a<;>first|rfl|(cases a;done)|grind[aE,af.D]
theorem xl(h:∀id,l.any (Nat.beq id)=true->m1 id=m2 id){v:CV}(b:jQ l v=true){R':Type}(a:Int->Option R'):mD m1 v a=mD m2 v a:=by cases v<;>simp only[mD]<;>exact rN h b _
theorem xm(h:∀id,l.any (Nat.beq id)=true->m1 id=m2 id){v:CV}(a:jQ l v=true)(n:Int){R':Type}(b:CV->Option R'):lj m1 v n b=lj m2 v n b:=by cases v<;>simp only[jQ]at a<;>first|rfl|(cases a;done)|(simp only[lj];grind)
theorem rO(h:∀id,l.any (Nat.beq id)=true->m1 id=m2 id){v:CV}(a:jQ l v=true)(n:Nat):dP m1 n v=dP m2 n v:=by cases v<;>simp only[jQ]at a<;>first|rfl|(cases a;done)|grind[dP,af.D,af.len]
theorem tK(h:∀id,l.any (Nat.beq id)=true->m1 id=m2 id){v:CV}(c:jQ l v=true)(a b:Option TV){R':Type}(d:TV->List (Nat×av)->Option R'):bq m1 v a b d=bq m2 v a b d:=by cases v<;>simp only[jQ]at c<;>first|rfl|(cases c;done)|grind[bq,af.D,iR]
theorem iu{v:CV}(a:wy m2 v=true)(n:Nat){R':Type}(b:TV->List (Nat×av)->Option R'):bR m1 n v b=none:=by cases v<;>simp only[wy]at a<;>first|rfl|grind
end
theorem vC{mu:Mu}{v:CV}{n:Nat}{z:List (Nat×av)}{K:List CV->TV}(h:et mu v n (λcs=>(λ(_:TV)(ms:List (Nat×av))=>some ms) (K cs) [])=some z):z=[]:=by obtain⟨cs,a,_⟩:=oS h;grind
theorem xn{mu:Mu}{v:CV}{z:List (Nat×av)}{K:Int->TV}(h:mD mu v (λn=>(λ(_:TV)(ms:List (Nat×av))=>some ms) (K n) [])=some z):z=[]:=by obtain⟨cs,a,_⟩:=rH h;grind
theorem xo{mu:Mu}{v:CV}{n:Int}{z:List (Nat×av)}{K:CV->TV}(h:lj mu v n (λp=>(λ(_:TV)(ms:List (Nat×av))=>some ms) (K p) [])=some z):z=[]:=by obtain⟨cs,a,_⟩:=rG h;grind
theorem tL{mu:Mu}{v:CV}(a:wy mu v=true){d c:Option TV}{z:List (Nat×av)}(h:bq mu v d c (λ_ ms=>some ms)=some z):z=[]:=by
 cases v<;>simp only[wy]at a<;>try grind
 case cg=>simp only[bq]at h;grind[iR,eB]
 case ro es xs=>simp only[bq]at h;grind[af.D,iR,eB]
 case own id=>simp only[bq]at h;cases e:mu id with|none=>grind|some b=>
 cases b<;>simp only[e]at a h<;>try grind
 grind[af.D,iR,eB]
theorem Ab{idb rid i:Nat}{o:Oper}{K:TV->List (Nat×av)->Option R}{y:R}(P:ox C o.op=true)(a:wz C rid i env mu o.op=true)(h:bE C env mu idb rid i o K=some y):∃v ms,K v ms=some y/\(qF C rid i≠none->ms=[])/\∀mu',(bH C o.op=true->yM C rid i mu mu')->∀(R':Type)(d:TV->List (Nat×av)->Option R'),bE C env mu' idb rid i o d=d v ms:=by obtain⟨v,ms,L,E⟩:=yL P h;cases M:qF C rid i with|none=>exact⟨v,ms,L,λe=>absurd rfl e,λmu' F=>E mu' λho id b s=>F ho id b (by simp[wx,M]) s⟩|some l=>
 unfold wz at a;rw[M]at a;have I:(∀(m1 m2:Mu),(∀id,l.any (Nat.beq id)=true->m1 id=m2 id)->∀(R':Type)(d:TV->List (Nat×av)->Option R'),bE C env m1 idb rid i o d=bE C env m2 idb rid i o d)/\(∀z,bE C env mu idb rid i o (λ_ ms=>some ms)=some z->z=[]):=by
  cases j:o.op<;>rw[j]at a<;>simp only at a<;>try grind
  case load t x=>
   cases g:ae env x<;>rw[g]at a<;>simp only at a<;>try grind
   rename_i cv;refine⟨λm1 m2 r R' d=>?_,λz f=>?_⟩;·simp only[bE,j,g];cases C.ty t with|none=>rfl|some w=>exact vB r a _ _
   ·simp only[bE,j,g]at f;cases H:C.ty t with|none=>grind|some w=>simp only[H]at f;exact vC (K:=λcs=>TV.kv (match w.k with|.struct=>true|_=>false) cs) f
  case indexAddr t x z=>
   cases g:ae env x<;>rw[g]at a<;>simp only at a<;>try grind
   rename_i cv;refine⟨λm1 m2 r R' d=>?_,λA f=>?_⟩
   · simp only[bE,j,g];split;· rename_i O D N;cases D;rw[rO r a,xm r a]
     · rfl
   · simp only[bE,j,g]at f;split at f;· rename_i e V cv' k n O D N;cases D;cases U:dP mu (C.es e).len cv with|false=>grind|true=>simp only[U,cond_true]at f;exact xo (K:=λp=>.c p) f
     grind
  case slice t x m q T=>
   cases T<;>simp only at a<;>try (cases a;done)
   cases g:ae env x<;>rw[g]at a<;>simp only[Bool.and_eq_true]at a<;>try grind
   rename_i cv;obtain⟨J,u⟩:=a;refine⟨λm1 m2 r R' d=>?_,λA f=>?_⟩;· simp only[bE,j,g];cases C.ty t with|none=>rfl|some w=>dsimp only;have α:∀n,dP m1 n cv=dP m2 n cv:=λn=>rO r J n;have Y:∀m q,bq m1 cv m q d=bq m2 cv m q d:=λm q=>tK r J m q d;have W:∀n,bR m1 n cv d=bR m2 n cv d:=λn=>(iu (m2:=mu) u n d).trans (iu (m2:=mu) u n d).symm;grind
   · simp only[bE,j,g]at f;cases H:C.ty t with|none=>grind|some w=>simp only[H]at f;have X:∀n,bR mu n cv (λ(_:TV)(ms:List (Nat×av))=>some ms)=none:=λn=>iu u n _;have Z:∀m q,bq mu cv m q (λ(_:TV)(ms:List (Nat×av))=>some ms)=some A->A=[]:=λm q=>tL u;grind
  case call c=>
  cases G:c.callee<;>rw[G]at a<;>try grind
  rename_i b;cases b<;>try grind
  dsimp only at a;cases B:c.args.toList.map (ae env) with|nil=>grind|cons tv S=>
  cases tv<;>cases S<;>rw[B]at a<;>dsimp only at a<;>try grind
  rename_i cv;refine⟨λm1 m2 r R' d=>?_,λA f=>?_⟩
  · simp only[bE,j,G,B,aZ];split
    · split;· split<;>first|rfl|grind[xl]
      · rfl
    · rfl
  · simp only[bE,j,G,B,aZ]at f;split at f
    · split at f;· split at f;all_goals first|(cases f;done)|exact xn (K:=λn=>.c (.int .i64 n)) f|(cases f;rfl)
      grind
    grind
 refine⟨v,ms,L,λ_=>I.2 ms (E mu (λ_ _ _ s=>s) _ (λ_ ms=>some ms)),λmu' F R' d=>?_⟩;let m2:Mu:=λid=>bif l.any (Nat.beq id) then mu' id else mu id;rw[I.1 mu' m2 (λid Q=>by grind) R' d];refine E m2 (λho id b s=>?_) R' d;show (bif l.any (Nat.beq id) then mu' id else mu id)=some b;cases Q:l.any (Nat.beq id) with|false=>exact s|true=>exact F ho id b (by grind[wx,qF]) s
end
end Go.Tm
namespace Go.Tm
open Go
theorem gM(m i:Nat):aL m i=m.testBit i:=by unfold aL Nat.testBit;show Nat.beq ((m>>>i)&&&1) 1=((1&&&(m>>>i))!=0);rw[Nat.and_comm (m>>>i) 1,Nat.and_comm 1,Nat.and_one_is_mod];rcases Nat.mod_two_eq_zero_or_one (m>>>i)with h|h<;>rw[h]<;>rfl
def aV(ops:Array Oper)(i:Nat):Nat:=(cj ops.toList []).getD i 0
def rP(a:List Nat)(o:Oper):Nat:=o.after.toList.foldl (λs e=>bif Region.binds .any e then Nat.lor (Nat.lor s (Nat.pow 2 e.on)) (a.getD e.on 0)else s) 0
theorem gN(o:Oper)(r:List Oper)(a:List Nat):cj (o::r) a=cj r (a++[rP a o]):=rfl
theorem rQ:∀(l:List Oper)(a:List Nat)(k:Nat),k<a.length->(cj l a).getD k 0=a.getD k 0|[],a,k,h=>rfl|o::r,a,k,h=>by rw[gN,rQ r _ k (by grind)];grind
theorem oT:∀(l:List Oper)(a:List Nat),(cj l a).take a.length=a|[],a=>by grind[cj]|o::r,a=>by rw[gN];have :=congrArg (List.take a.length) (oT r (a++[rP a o]));grind
theorem rR:∀(l:List Oper)(a:List Nat)(j:Nat)(o:Oper),l[j]?=some o->(cj l a).getD (a.length+j) 0=rP ((cj l a).take (a.length+j)) o|[],a,j,o,h=>by grind|x::r,a,0,o,h=>by grind[cj,rP,gN,rQ,oT]|x::r,a,j+1,o,h=>by rw[gN];have :=rR r (a++[rP a x]) j o (by grind);grind
theorem xq{ops:Array Oper}{i:Nat}{o:Oper}(h:ops[i]?=some o):aV ops i=rP ((cj ops.toList []).take i) o:=by have :=rR ops.toList [] i o (by grind);simpa[aV] using this
theorem vD{l:List Nat}{i k:Nat}:(l.take i).getD k 0=if k<i then l.getD k 0 else 0:=by grind
theorem xt{a:List Nat}{o:Oper}{k:Nat}:aL (rP a o) k=true↔∃e∈o.after.toList,Region.binds .any e=true/\(e.on=k\/aL (a.getD e.on 0) k=true):=by
 have c:∀(l:List Edge)(s:Nat),aL (l.foldl (λs e=>bif Region.binds .any e then Nat.lor (Nat.lor s (Nat.pow 2 e.on)) (a.getD e.on 0) else s) s) k=true↔aL s k=true\/∃e∈l,Region.binds .any e=true/\(e.on=k\/aL (a.getD e.on 0) k=true):=by intro l;induction l with|nil=>grind|cons e l b=>intro s;rw[List.foldl_cons,b];cases f:Region.binds .any e with|false=>grind|true=>
  have d:aL (Nat.lor (Nat.lor s (Nat.pow 2 e.on)) (a.getD e.on 0)) k=(aL s k||decide (e.on=k)||aL (a.getD e.on 0) k):=by rw[gM,gM,gM];show ((s|||2^e.on)|||a.getD e.on 0).testBit k=_;grind
  grind
 grind[aL,gM,rP]
structure qx(C:Ctx)(ops:Array Oper):Prop where
 CS:∀(i:Nat)(o:Oper),ops[i]?=some o->ox C o.op=true
 yN:∀(i:Nat)(o:Oper)(k:Nat),ops[i]?=some o->aL (aV ops i) k=true->k<i
 row:∀(i j:Nat)(oi oj:Oper),ops[i]?=some oi->ops[j]?=some oj->i<j->aL (aV ops j) i=true\/oi.apart ops oj=true
theorem nP{all:Array Oper}{o:Oper}{m:Nat}:∀(l:List Oper)(i j:Nat),kx all o m l i j=true->∀k x,l[k]?=some x->i+k<j->aL m (i+k)=true\/x.apart all o=true|[],i,j,h,k,x,a,_=>by grind|y::r,i,j,h,k,x,a,b=>by simp only[kx,Bool.and_eq_true]at h;cases k with
 |zero=>
 simp at a;subst a;have :Nat.blt i j=true:=by simp_all
 grind|succ k=>have :=nP r (i+1) j h.2 k x (by grind) (by omega);grind
theorem jx{C:Ctx}{all:Array Oper}{ops:List Oper}:∀(l:List Oper)(a:List Nat)(j:Nat),lr C all ops l a j=true->∀k o,l[k]?=some o->ox C o.op=true/\a.getD k 0<2^(j+k)/\kx all o (a.getD k 0) ops 0 (j+k)=true
 |[],a,j,h,k,o,b=>by grind|x::r,a,j,h,k,o,b=>by
  simp only[lr,Bool.and_eq_true]at h;have c:a.headD 0=a.getD 0 0:=by cases a<;>rfl
  cases k with|zero=>simp_all|succ k=>have :=jx r a.tail (j+1) h.2 k o (by grind);grind
theorem qx.of{C:Ctx}{ops:Array Oper}(h:lr C ops ops.toList ops.toList (cj ops.toList []) 0=true):qx C ops where
 CS i o c:=(jx _ _ _ h i o (by grind)).1
 yN i o k c b:=by
  have :=(jx _ _ _ h i o (by grind)).2.1;rw[Nat.zero_add]at this;rcases Nat.lt_or_ge k i with a|a;·exact a
  ·exfalso;rw[gM]at b;have e:aV ops i<2^k:=Nat.lt_of_lt_of_le this (Nat.pow_le_pow_right (by omega) a);rw[Nat.testBit_lt_two_pow e]at b;cases b
 row i j oi d c g f:=by have :=(jx _ _ _ h j d (by grind)).2.2;rw[Nat.zero_add]at this;have :=nP _ _ _ this i oi (by grind) (by omega);rw[Nat.zero_add]at this;exact this
theorem nQ{ops:Array Oper}{i k:Nat}{o:Oper}(a:ops[i]?=some o):aL (aV ops i) k=true↔∃e∈o.after.toList,Region.binds .any e=true/\(e.on=k\/(e.on<i/\aL (aV ops e.on) k=true)):=by rw[xq a,xt];grind[aL,cj,aV,gM,vD]
theorem vE{C:Ctx}{ops:Array Oper}(D:qx C ops):∀(i k c:Nat),i<ops.size->aL (aV ops i) k=true->aL (aV ops k) c=true->aL (aV ops i) c=true:=by intro i;induction i using Nat.strongRecOn with|_ i d=>intro k c a e b;have f:ops[i]?=some ops[i]:=Array.getElem?_eq_getElem a;grind[aL,aV,nQ,qx.yN]
end Go.Tm
namespace Go.Tm
open Go
structure fH where
 v:TV
 ms:List (Nat×av)
def dC(ops:Array Oper)(k:Nat):Option Nat:=(ops[k]?).bind (·.dst)
def pZ(env:Nat->TV)(d:Option Nat)(v:TV):Nat->TV:=match d with|some d=>bW env d v|none=>env
def cw(ops:Array Oper)(p:Nat->Bool)(e0:Nat->TV):List fH->Nat->TV|[]=>e0|e::r=>bif p r.length then pZ (cw ops p e0 r) (dC ops r.length) e.v else cw ops p e0 r
def gB(p:Nat->Bool)(m0:Mu):List fH->Mu|[]=>m0|e::r=>bif p r.length then au (gB p m0 r) e.ms else gB p m0 r
def gv:List fH->List (Nat×List (Nat×av))|[]=>[]|e::r=>(r.length,e.ms)::gv r
theorem rT(m0:Mu)(m:Nat):∀(H:List fH),ky m0 m (gv H)=gB (aL m) m0 H|[]=>rfl|e::r=>by simp only[gv,ky,gB,rT m0 m r]
def bT(H:List fH)(k:Nat):Option fH:=H.reverse[k]?
theorem bC{e:fH}{r:List fH}{k:Nat}:bT (e::r) k=if k=r.length then some e else bT r k:=by grind[bT]
theorem cq{H:List fH}{k:Nat}{e:fH}(h:bT H k=some e):k<H.length:=by unfold bT at h;grind
theorem fI{ops:Array Oper}{p q:Nat->Bool}{e0:Nat->TV}{t:Nat}:∀{H:List fH},(∀k,k<H.length->dC ops k=some t->p k=q k)->cw ops p e0 H t=cw ops q e0 H t|[],_=>rfl|e::r,h=>by have c:=fI (e0:=e0) (H:=r) λk l=>h k (by grind);simp only[cw];cases j:dC ops r.length with|none=>simp_all[pZ,cw,fH.v]|some d=>
 by_cases g:d=t
 · subst g;have :=h r.length (by simp) j;rw[this];cases q r.length;· exact c
   simp_all[pZ,cw,fH.v,bW,aT]
 · have i:t≠d:=λx=>g x.symm;simp only[pZ];have a:∀(f:Nat->TV) (b:Bool),(bif b then bW f d e.v else f) t=f t:=λf b=>by cases b;rfl;exact bu _ _ i
   rw[a,a];exact c
theorem gO{p q:Nat->Bool}{m0:Mu}{x:Nat}:∀{H:List fH},(∀k e b,bT H k=some e->(x,b)∈e.ms->p k=q k)->gB p m0 H x=gB q m0 H x
 |[],_=>rfl|e::r,h=>by
  have g:=gO (m0:=m0) (H:=r) λk n b t=>h k n b (by grind[bT,bC,cq]);simp only[gB];by_cases i:∃b,(x,b)∈e.ms
  · obtain⟨b,d⟩:=i;have :=h r.length e b (by rw[bC,if_pos rfl]) d;rw[this];cases q r.length;· exact g
    · show au _ e.ms x=au _ e.ms x;have s:∀(l:List (Nat×av)) (m c:Mu),m x=c x->au m l x=au c l x:=by intro l;induction l with|nil=>intro m c h;exact h|cons a l o=>intro m c h;obtain⟨k,b⟩:=a;simp only[au];grind[bW]
      grind
  · have j:∀b,(x,b)∉e.ms:=λb d=>i ⟨b,d⟩;have f:∀(m:Mu) (b:Bool),(bif b then au m e.ms else m) x=m x:=λm b=>by cases b;rfl;exact aD j
    rw[f,f];exact g
theorem ji{p:Nat->Bool}{m0:Mu}{x:Nat}:∀{H:List fH},gB p m0 H x≠none->m0 x=none->∃k e b,bT H k=some e/\(x,b)∈e.ms/\p k=true|[],h,a=>absurd a h|e::r,h,a=>by simp only[gB]at h;cases hp:p r.length with|false=>rw[hp]at h;obtain⟨k,f,b,j,c,d⟩:=ji (H:=r) h a;exact⟨k,f,b,by grind[bT,bC,cq],c,d⟩|true=>
 rw[hp]at h;by_cases i:∃b,(x,b)∈e.ms;·obtain⟨b,g⟩:=i;exact⟨r.length,e,b,by rw[bC,if_pos rfl],g,hp⟩
 ·simp only[cond_true]at h;rw[aD λb g=>i ⟨b,g⟩]at h;obtain ⟨k,f,b,j,c,d⟩:=ji (H:=r) h a;exact ⟨k,f,b,by grind[bT,bC,cq],c,d⟩
def iI(p:Nat->Bool)(i:Nat):Nat->Bool:=λk=>p k||Nat.beq k i
theorem jy{p:Nat->Bool}{i k:Nat}(h:k≠i):iI p i k=p k:=by simp_all[iI]
theorem jz{p:Nat->Bool}{i:Nat}:iI p i i=true:=by simp_all[iI]
theorem rU{ops:Array Oper}{p:Nat->Bool}{e0:Nat->TV}{i:Nat}{f:fH}(hp:p i=false):∀{H:List fH},bT H i=some f->(∀k d,i<k->p k=true->dC ops i=some d->dC ops k≠some d)->cw ops (iI p i) e0 H=pZ (cw ops p e0 H) (dC ops i) f.v
 |[],h,_=>by simp[bT]at h|e::r,h,g=>by
  rw[bC]at h;simp only[cw];by_cases c:i=r.length;·rw[if_pos c]at h;cases h;subst c;rw[jz,hp];simp only[cond_true,cond_false];congr 1;grind[cw,iI,fI,dC,jy]
  ·rw[if_neg c]at h;have j:=cq h;rw[rU hp h g,jy (by omega)];cases o:p r.length with|false=>rfl|true=>simp only[cond_true];cases m:dC ops i with|none=>rfl|some d=>have l:=g r.length d j o m;cases q:dC ops r.length with|none=>rfl|some n=>
 simp only[pZ];funext t;by_cases a:t=n;·subst a;have :t≠d:=λx=>l (by grind);rw[aT,bu _ _ this,aT]
 · by_cases b:t=d;· subst b;rw[bu _ _ a,aT,aT]
   · rw[bu _ _ a,bu _ _ b,bu _ _ b,bu _ _ a]
theorem qd{x:Nat}:∀(l:List (Nat×av)){m a:Mu},(∃b,(x,b)∈l)->au m l x=au a l x
 |[],_,_,⟨_,h⟩=>by cases h|(k,b)::r,m,a,h=>by
  simp only[au];by_cases c:∃b,(x,b)∈r;·exact qd r c
  grind[au,bW,aD,aT]
theorem qe{p:Nat->Bool}{m0:Mu}{i:Nat}{c:fH}(hp:p i=false):∀{H:List fH},bT H i=some c->(∀k e x b b',i<k->p k=true->bT H k=some e->(x,b)∈c.ms->(x,b')∉e.ms)->gB (iI p i) m0 H=au (gB p m0 H) c.ms
 |[],h,_=>by simp[bT]at h|e::r,h,n=>by
  have q:=h;rw[bC]at h;simp only[gB];by_cases g:i=r.length;·rw[if_pos g]at h;cases h;subst g;rw[jz,hp];simp only[cond_true,cond_false];congr 1;funext t;exact gO λk m b j _=>jy (by have :=cq j;omega)
  ·rw[if_neg g]at h;have o:=cq h;rw[qe hp h λk m x b b' d a l=>n k m x b b' d a (by grind[bT,bC,cq]),jy (by omega)];cases j:p r.length with|false=>rfl|true=>
 simp only[cond_true];funext x;by_cases d:∃b,(x,b)∈c.ms;·obtain⟨b,f⟩:=d;have a:∀b',(x,b')∉e.ms:=λb'=>n r.length e x b b' o j (by rw[bC,if_pos rfl]) f;rw[aD a];exact qd _ ⟨b,f⟩
 · have a:∀b,(x,b)∉c.ms:=λb f=>d ⟨b,f⟩;rw[aD a];by_cases l:∃b,(x,b)∈e.ms;· exact qd _ l
   simp_all[fH.ms,au,gB,aD]
theorem rV{C:Ctx}{rid i x:Nat}{o:Op}(h:iT C rid i x o=false):bH C o=false\/qF C rid i≠none:=by unfold iT wx at h;grind
theorem nR{C:Ctx}{rid x m i:Nat}{q:Nat->Bool}:∀{ops:List Oper}{a:List Nat}{j:Nat},oy C rid x m i q ops a j=true->∀k o,ops[k]?=some o->i=j+k\/aL m (j+k)=true\/aL (a.getD k 0) i=true\/iT C rid (j+k) x o.op=false\/q (a.getD k 0)=false
 |[],a,j,h,k,o,b=>by grind|x::r,a,j,h,k,o,b=>by
  simp only[oy,Bool.and_eq_true,Bool.or_eq_true,Bool.not_eq_true']at h;have c:a.headD 0=a.getD 0 0:=by cases a<;>rfl
  cases k with|zero=>simp at b;grind[aL,iT,oy,Nat.eq_of_beq_eq_true]|succ k=>have :=nR h.2 k o (by grind);grind
theorem fX{C:Ctx}{ops:Array Oper}{rid nx i:Nat}{ms:List (Nat×av)}(h:lu C rid ops.toList (cj ops.toList []) nx (aV ops i) i ms=true){x:Nat}{b:av}(f:(x,b)∈ms):x/2048=nx+i\/(x/2048<nx/\∀(k:Nat)(o:Oper),ops[k]?=some o->i=k\/aL (aV ops i) k=true\/aL (aV ops k) i=true\/iT C rid k x o.op=false)\/(nx<=x/2048/\aL (aV ops i) (x/2048-nx)=true/\∀(k:Nat) (o:Oper),ops[k]?=some o->i=k\/aL (aV ops i) k=true\/aL (aV ops k) i=true\/iT C rid k x o.op=false\/aL (aV ops k) (x/2048-nx)=false):=by
 have :=List.all_eq_true.1 h _ f;simp only[Bool.or_eq_true]at this;have d:Nat.div x 2048=x/2048:=rfl;rw[d]at this;rcases this with a|a;·simp_all
 ·cases c:Nat.blt (x/2048) nx with|true=>rw[c]at a;rw[Nat.blt_eq]at c;refine .inr (.inl ⟨c,λk o g=>?_⟩);have :=nR a k o (by grind);grind[aL,aV,cj,iT]|false=>
 rw[c]at a;simp only[cond_false,Bool.and_eq_true]at a;have e:nx<=x/2048:=by
  rcases Nat.lt_or_ge (x/2048) nx with h|h;·rw[<-Nat.blt_eq]at h;grind
  omega
 refine .inr (.inr ⟨e,a.1,λk o g=>?_⟩);have :=nR a.2 k o (by grind);grind[aL,aV,cj,iT]
structure CT(C:Ctx)(ops:Array Oper)(rid nx:Nat)(e0:Nat->TV)(m0:Mu)(i:Nat)(o:Oper)(r:List fH)(e:fH):Prop where
 ms:lu C rid ops.toList (cj ops.toList []) nx (aV ops i) i e.ms=true
 own:bH C o.op=false->∀x∈e.ms,x.1/2048=nx+i
variable{C:Ctx}{ops:Array Oper}{rid nx:Nat}{e0:Nat->TV}{m0:Mu}{H:List fH}{p:Nat->Bool}{i:Nat}{oi:Oper}
def fJ(ops:Array Oper)(p:Nat->Bool):Prop:=∀i k,p i=true->i<ops.size->aL (aV ops i) k=true->p k=true
structure Ay(C:Ctx)(ops:Array Oper)(rid nx:Nat)(m0:Mu)(H:List fH):Prop where
 qu:∀(k:Nat)(e:fH),bT H k=some e->qF C rid k≠none->e.ms=[]ms:∀(k:Nat)(e:fH),bT H k=some e->lu C rid ops.toList (cj ops.toList []) nx (aV ops k) k e.ms=true
 own:∀(k:Nat)(e:fH)(o:Oper),bT H k=some e->ops[k]?=some o->bH C o.op=false->∀x∈e.ms,x.1/2048=nx+k
 le:H.length<=ops.size
 bB:∀id,nx*2048<=id->m0 id=none
theorem rW{C:Ctx}{ops:Array Oper}(D:qx C ops)(b:fJ ops p)(d:ops[i]?=some oi)(hp:p i=false){k:Nat}(c:p k=true)(a:k<ops.size):aL (aV ops k) i=false:=by cases h:aL (aV ops k) i with|false=>rfl|true=>have :=b k i c a h;grind
theorem xu(D:qx C ops)(a:Ay C ops rid nx m0 H)(m:fJ ops p)(d:ops[i]?=some oi)(hp:p i=false)(v:∀k,aL (aV ops i) k=true->p k=true)(F:bH C oi.op=true):yM C rid i (gB (aL (aV ops i)) m0 H) (gB p m0 H):=by
 intro x b I q;have z:iT C rid i x oi.op=true:=by unfold iT;grind
 have w:i<ops.size:=(Array.getElem?_eq_some_iff.1 d).1;rw[<-q];refine gO λk e b' f s=>?_;cases l:p k with|false=>grind|true=>cases B:aL (aV ops i) k with|true=>rfl|false=>
 exfalso;have g:k<ops.size:=Nat.lt_of_lt_of_le (cq f) a.le;have A:k≠i:=λe=>by grind
 have y:=rW D m d hp l g;have u:nx<=x/2048->aL (aV ops i) (x/2048-nx)=false->False:=by
  intro j J;have r:m0 x=none:=a.bB x (by omega);obtain⟨t,n,G,o,c,E⟩:=ji (p:=aL (aV ops i)) (H:=H) (by grind) r;rcases fX (a.ms t n o) c with h|⟨h,_⟩|⟨_,h,_⟩;·grind
  ·omega
  grind[aL,aV,vE]
 rcases fX (a.ms k e f) s with h|⟨h,c⟩|⟨j,_,c⟩;·grind
 ·grind
 grind
theorem vF(D:qx C ops)(a:Ay C ops rid nx m0 H)(g:fJ ops p)(l:ops[i]?=some oi)(hp:p i=false){x:Nat}(n:x/2048=nx+i):gB p m0 H x=none:=by cases h:gB p m0 H x with|none=>rfl|some b=>
 exfalso;obtain⟨k,e,b',c,f,j⟩:=ji (p:=p) (H:=H) (by grind) (a.bB x (by omega));have d:k<ops.size:=Nat.lt_of_lt_of_le (cq c) a.le;have m:=rW D g l hp j d;rcases fX (a.ms k e c) f with h|⟨h,_⟩|⟨_,h,_⟩;·grind
 ·omega
 grind
theorem rX(D:qx C ops)(c:Ay C ops rid nx m0 H)(s:fJ ops p)(n:ops[i]?=some oi)(hp:p i=false){m:fH}(r:bT H i=some m):∀k e x b b',i<k->p k=true->bT H k=some e->(x,b)∈m.ms->(x,b')∉e.ms:=by
 intro k e x b b' y q d u f;have o:k<ops.size:=Nat.lt_of_lt_of_le (cq d) c.le;have j:ops[k]?=some ops[k]:=Array.getElem?_eq_getElem o;have w:=rW D s n hp q o;have v:aL (aV ops i) k=false:=by cases h:aL (aV ops i) k with|false=>rfl|true=>have :=D.yN i oi k n h;omega
 rcases fX (c.ms i m r) u with h|⟨h,l⟩|⟨z,t,l⟩
 · rcases fX (c.ms k e d) f with g|⟨g,_⟩|⟨_,g,_⟩;· omega
   · omega
   grind
 · rcases l k _ j with a|a|a|a;· omega
   · grind
   · grind
   · rcases rV a with a|a;· have :=c.own k e _ d j a _ f;omega
     · rw[c.qu k e d a]at f;grind
 · have A:=D.yN i oi _ n t;rcases l k _ j with a|a|a|a|a;· omega
   · grind
   · grind
   · rcases rV a with a|a;· have :=c.own k e _ d j a _ f;omega
     · rw[c.qu k e d a]at f;grind
   · rcases fX (c.ms k e d) f with g|⟨g,_⟩|⟨_,g,_⟩;· omega
     · omega
     grind
theorem vG(D:qx C ops)(r:fJ ops p)(f:ops[i]?=some oi)(hp:p i=false)(m:∀k,aL (aV ops i) k=true->p k=true)(j:H.length<=ops.size){t:Nat}(d:t∈oi.looksAt ops):cw ops p e0 H t=cw ops (λk=>Nat.blt k i) e0 H t:=by
 refine fI λk l s=>?_;have g:k<ops.size:=Nat.lt_of_lt_of_le l j;have c:ops[k]?=some ops[k]:=Array.getElem?_eq_getElem g;have b:(ops[k]).dst=some t:=by grind[dC]
 cases o:p k with
 |true=>cases a:Nat.blt k i with|true=>rfl|false=>
 exfalso;have q:i<=k:=by
  rcases Nat.lt_or_ge k i with h|h;·rw[<-Nat.blt_eq]at h;grind
  omega
 have n:k≠i:=λe=>by grind
 rcases D.row i k oi _ f c (by omega) with h|h;·grind[aL,aV,rW]
 ·exact (Oper.apart_spec h).2.2 t b d
 |false=>cases a:Nat.blt k i with|false=>rfl|true=>
 exfalso;rw[Nat.blt_eq]at a;rcases D.row k i _ oi c f a with h|h;·grind
 ·exact (Oper.apart_spec h).1 t b d
theorem yO(D:qx C ops)(j:fJ ops p)(e:ops[i]?=some oi)(hp:p i=false):∀k d,i<k->p k=true->dC ops i=some d->dC ops k≠some d:=by
 intro k d c g l f;have a:k<ops.size:=by grind[dC]
 have b:ops[k]?=some ops[k]:=Array.getElem?_eq_getElem a;rcases D.row i k oi _ e b c with h|h;·grind[aL,aV,rW]
 ·exact(Oper.apart_spec h).2.1 d (by grind[dC]) (by grind[dC])
end Go.Tm
namespace Go.Tm
open Go
def eF(ops:Array Oper)(env:Nat->TV)(o:Oper):Option Bool:=match o.guard with|none=>some true|some (j,a)=>match (ops.toList[j]?).bind (·.dst)with|none=>none|some d=>match env d with|.c (.bool b)=>some (b==a)|.kl=>some false|_=>none
section
variable{P:Program}{C:Ctx}{nt:Nat}{w0:World}{o0:Nat->Nat->ax}{io:List Nat}{c0:Nat->fM}{R:Type}{Q:Exit->Act->World->Prop}
variable{ops:Array Oper}{rid nx:Nat}{e0:Nat->TV}{m0:Mu}
theorem vH{st:St}{o:Oper}{run skip:St->Option R}{y:R}(h:(match o.guard with|none=>run st|some (j,a)=>match (ops.toList[j]?).bind (·.dst)with|none=>none|some d=>match st.env d with|.c (.bool b)=>bif b then (bif a then run (st.refine d true)else skip (st.refine d true))else (bif a then skip (st.refine d false)else run (st.refine d false))|.kl=>skip st|_=>none)=some y):(eF ops st.env o=some true/\run st=some y)\/(eF ops st.env o=some false/\skip st=some y):=by unfold eF;cases e:o.guard with|none=>rw[e]at h;exact .inl ⟨rfl,h⟩|some p=>obtain ⟨j,a⟩:=p;simp only[e]at h⊢;cases g:(ops.toList[j]?).bind (·.dst)with|none=>rw[g]at h;cases h|some d=>
 rw[g]at h;dsimp only at h⊢;cases f:st.env d<;>simp only[f]at h⊢<;>try (cases h;done)
 case kl=>exact .inr ⟨trivial,h⟩
 case c cv=>
 cases cv<;>simp only at h⊢<;>try (cases h;done)
 case bool b=>
 have i:=jg f;cases b<;>cases a<;>simp only[cond_true,cond_false,i]at h;·exact .inl ⟨rfl,h⟩
 ·exact .inr ⟨rfl,h⟩
 ·exact .inr ⟨rfl,h⟩
 ·exact .inl ⟨rfl,h⟩
theorem jK{env:Nat->TV}{a:Act}{w:World}{g:Gh}{mu:Mu}(m:∀t,(env t).R P w g mu (a.tmps.getD t undef)){o:Oper}{b:Bool}(h:eF ops env o=some b):Region.wanted o (yielded ops a.tmps)=b:=by
 let st:St:={env:=env,mu:=mu,tw:=[],mw:=[],nx:=0};rcases rE (P:=P) (ops:=ops) (st:=st) (run:=λ_=>some true) (skip:=λ_=>some false) m (o:=o) (y:=b) (by unfold eF at h;cases k:o.guard with|none=>rw[k]at h;exact h|some p=>obtain⟨j,e⟩:=p;simp only[k]at h⊢;cases l:(ops.toList[j]?).bind (·.dst) with|none=>rw[l]at h;cases h|some d=>
 rw[l]at h;dsimp only at h⊢;show (match env d with|.c (.bool b)=>bif b then (bif e then some true else some false) else (bif e then some false else some true)|.kl=>some false|_=>none)=some b;cases n:env d<;>simp only[n]at h⊢<;>try (cases h;done)
 case kl=>exact h
 case c cv=>
 cases cv<;>simp only at h⊢<;>try (cases h;done)
 case bool c=>cases c<;>cases e<;>exact h) with⟨i,f⟩|⟨i,f⟩;·cases f;exact i
 ·cases f;exact i
theorem rY{env a:Nat->TV}{o:Oper}(h:∀t∈o.looksAt ops,a t=env t):eF ops a o=eF ops env o:=by unfold eF;cases c:o.guard with|none=>rfl|some p=>obtain⟨j,e⟩:=p;dsimp only;cases f:(ops.toList[j]?).bind (·.dst)with|none=>rfl|some d=>dsimp only;rw[h d (by
 have b:(ops[j]?).bind (·.dst)=some d:=by grind
 simp[Oper.looksAt,c,b])]
theorem vI{env:Nat->TV}{mu:Mu}{idb i:Nat}{o:Oper}{K:TV->List (Nat×av)->Option R}{y:R}(a:bH C o.op=false)(h:bE C env mu idb rid i o K=some y):∃v ms,K v ms=some y/\∀x∈ms,x.1=idb:=by
 cases j:o.op<;>rw[j]at a<;>simp only[bH]at a<;>try (cases a;done)
 all_goals simp only[bE,j]at h
 case move x=>grind
 case assign x=>grind
 case pick c x z=>grind
 case alloc e=>grind
 case box e x=>
  split at h;·rename_i cs q;cases k:(C.iL rid i).isEmpty with|true=>grind|false=>simp only[k,cond_false]at h;cases hp:(aQ (R:=(C.es e).D×List aI) bM (λ_=>none) (C.es e) [] 0 cs [] bN) with|none=>grind|some p=>grind
  grind
 case build t g=>grind
 case buildSlice t len g=>
  split at h;·rename_i e d r;simp only [r,Bool.not_eq_false'] at a;cases s:(Nat.ble (len*d.size) 16777216&&Nat.beq g.size len&&Nat.blt 0 d.size&&Nat.ble d.size 62) with|false=>grind|true=>rw [s] at h;simp only [cond_true] at h;obtain⟨xs,b,B⟩:=gu a _ _ h;have b:K (.c (.own idb)) (iM mu []++[(idb,.row (C.es e) (C.iL rid i) xs 0)])=some y:=b;exact⟨_,_,b,λx q=>by simp_all [Ctx.es,Ctx.iL,iM]⟩
  grind
 case nilCheck x=>grind
 case binOp n t x z A=>
  have l:∀e,(match C.ty t with|some m=>m.k|none=>.eH)≠TK.slice e:=by grind
  obtain⟨v,b,_⟩:=rK l h;grind
 case unOp n t x=>grind
 case makeFunc f w u=>grind
 case fieldAddr t x f=>grind
 case field t x f=>grind
 grind
def qg(k:Nat):Nat->Bool:=λj=>Nat.blt j k
def gP:Nat->Bool:=λ_=>true
def rZ(C:Ctx)(ops:Array Oper)(rid nx:Nat)(e0:Nat->TV)(m0:Mu)(H:List fH)(k:Nat)(o:Oper)(e:fH):Prop:=jG C.nt o.dst=true/\((eF ops (cw ops (qg k) e0 H) o=some true/\∀a mu',(∀x∈o.op.operands,ae a x=ae (cw ops (qg k) e0 H) x)->(bH C o.op=true->yM C rid k (gB (aL (aV ops k)) m0 H) mu')->∀(R':Type)(b:TV->List (Nat×av)->Option R'),bE C a mu' ((nx+k)*2048) rid k o b=b e.v e.ms)\/(eF ops (cw ops (qg k) e0 H) o=some false/\e.v=.kl/\e.ms=[]))
theorem xv{j k:Nat}(h:k<=j):qg k j=false:=by grind[qg,Nat.blt_eq]
theorem tM{j k:Nat}(h:j<k):qg k j=true:=by simp_all[qg]
theorem qh{e:fH}{H:List fH}{k:Nat}(h:k<=H.length):cw ops (qg k) e0 (e::H)=cw ops (qg k) e0 H:=by simp[cw,xv h]
theorem qi(D:qx C ops){e:fH}{H:List fH}{k:Nat}{o:Oper}(b:ops[k]?=some o)(h:k<=H.length):gB (aL (aV ops k)) m0 (e::H)=gB (aL (aV ops k)) m0 H:=by
 have :aL (aV ops k) H.length=false:=by cases a:aL (aV ops k) H.length with|false=>rfl|true=>have :=D.yN k o _ b a;omega
 simp[gB,this]
theorem rZ.cons(D:qx C ops){e a:fH}{H:List fH}{k:Nat}{o:Oper}(b:ops[k]?=some o)(h:k<=H.length)(g:rZ C ops rid nx e0 m0 H k o e):rZ C ops rid nx e0 m0 (a::H) k o e:=by unfold rZ at g⊢;rw[qh h,qi D b h];exact g
theorem sf:∀{H:List fH}{k:Nat},H.length=k->cw ops (qg k) e0 H=cw ops gP e0 H:=by grind[cw,qg,gP,fI,dC,tM]
theorem yP:∀{H:List fH}{k:Nat},H.length=k->gB (qg k) m0 H=gB gP m0 H:=by intro H k h;funext t;exact gO λj e b a _=>by grind[qg,gP,tM,cq]
structure Az(C:Ctx)(ops:Array Oper)(rid nx:Nat)(e0:Nat->TV)(m0:Mu)(H:List fH):Prop where
 ok:Ay C ops rid nx m0 H
 go:∀(k:Nat)(o:Oper)(e:fH),ops[k]?=some o->bT H k=some e->rZ C ops rid nx e0 m0 H k o e
theorem fJ.lt(D:qx C ops)(n:Nat):fJ ops (qg n):=by intro i k a b c;have d:=D.yN i _ k (Array.getElem?_eq_getElem b) c;unfold qg at a⊢;rw[Nat.blt_eq]at a⊢;omega
theorem uH(D:qx C ops)(F:∀id,nx*2048<=id->m0 id=none){K:St->Option R}{y:R}:∀(l:List Oper)(H:List fH){st:St},ops.toList.drop H.length=l->st.env=cw ops gP e0 H->st.mu=gB gP m0 H->Az C ops rid nx e0 m0 H->sV C rid ops.toList (cj ops.toList []) nx m0 l H.length (gv H) st K=some y->H.length<=ops.size->∃c b,K b=some y/\c.length=ops.size/\b.env=cw ops gP e0 c/\b.mu=gB gP m0 c/\Az C ops rid nx e0 m0 c/\Ext st b/\b.nx=st.nx
 |[],H,st,w,p,r,j,h,t=>by refine⟨H,st,h,?_,p,r,j,.gj _,rfl⟩;have :=congrArg List.length w;grind|o::l,H,st,w,p,r,j,h,t=>by
  have q:ops[H.length]?=some o:=by
   have f:(ops.toList.drop H.length)[0]?=some o:=by grind
   grind
  have G:H.length<ops.size:=(Array.getElem?_eq_some_iff.1 q).1;have T:ops.toList.drop (H.length+1)=l:=by have :=congrArg (List.drop 1) w;simpa[List.drop_drop]using this
  unfold sV at h;cases B:jG C.nt o.dst with|false=>grind|true=>
 rw[B]at h;simp only[cond_true]at h;have P:dC ops H.length=o.dst:=by grind[dC]
 have hp:qg H.length H.length=false:=xv (Nat.le_refl _);have J:∀(e:fH)(wr:List Wr),(qF C rid H.length≠none->e.ms=[])->lu C rid ops.toList (cj ops.toList []) nx (aV ops H.length) H.length e.ms=true->(bH C o.op=false->∀x∈e.ms,x.1/2048=nx+H.length)->rZ C ops rid nx e0 m0 H H.length o e->fG st.mu e.ms wr->sV C rid ops.toList (cj ops.toList []) nx m0 l (H.length+1) ((H.length,e.ms)::gv H) (st.put o.dst e.v e.ms wr) K=some y->∃c b,K b=some y/\c.length=ops.size/\b.env=cw ops gP e0 c/\b.mu=gB gP m0 c/\Az C ops rid nx e0 m0 c/\Ext st b/\b.nx=st.nx:=by
  intro e wr I d Y γ Q h;have S:Az C ops rid nx e0 m0 (e::H):=by
   refine⟨⟨λk i a=>?_,λk i a=>?_,λk i o' a L=>?_,G,F⟩,λk o' i L a=>?_⟩
   · rw[bC]at a;split at a;· grind
     · exact j.ok.qu k i a
   · rw[bC]at a;split at a;· grind
     · exact j.ok.ms k i a
   · rw[bC]at a;split at a;· grind
     · exact j.ok.own k i o' a L
   grind[rZ,rZ.cons,cq,bT,bC,Az.go]
  obtain⟨c,b,f,g,n,A,O,W,U⟩:=uH D F l (e::H) (st:=st.put o.dst e.v e.ms wr) T (by simp only[St.put,cw,gP,cond_true,P,pZ];grind) (by simp only[St.put,gB,gP,cond_true,r]) S h G;exact⟨c,b,f,g,n,A,O,Ext.trans (λe m N X=>X.put Q) W,U⟩
 rcases vH (ops:=ops) (st:=st) (run:=λst=>bif wz C rid H.length st.env (ky m0 ((cj ops.toList []).getD H.length 0) (gv H)) o.op then bE C st.env (ky m0 ((cj ops.toList []).getD H.length 0) (gv H)) ((nx+H.length)*2048) rid H.length o λv ms=>bif lu C rid ops.toList (cj ops.toList []) nx ((cj ops.toList []).getD H.length 0) H.length ms then sV C rid ops.toList (cj ops.toList []) nx m0 l (H.length+1) ((H.length,ms)::gv H) (st.put o.dst v ms (lq st.env o ms)) K else none else none) (skip:=λst=>bif lu C rid ops.toList (cj ops.toList []) nx ((cj ops.toList []).getD H.length 0) H.length []then sV C rid ops.toList (cj ops.toList []) nx m0 l (H.length+1) ((H.length,[])::gv H) (st.put o.dst .kl [] []) K else none) h with⟨M,h⟩|⟨M,h⟩;· cases s:wz C rid H.length st.env (ky m0 ((cj ops.toList []).getD H.length 0) (gv H)) o.op with|false=>grind|true=>rw [s]at h;simp only [cond_true]at h;rw [rT]at h s;obtain⟨v,ms,f,I,g⟩:=Ab (D.CS _ o q) s h;cases d:lu C rid ops.toList (cj ops.toList []) nx (aV ops H.length) H.length ms with|false=>rw [show lu C rid ops.toList (cj ops.toList []) nx ((cj ops.toList []).getD H.length 0) H.length ms=false from d]at f;cases f|true=>
  rw [show lu C rid ops.toList (cj ops.toList []) nx ((cj ops.toList []).getD H.length 0) H.length ms=true from d]at f;simp only [cond_true]at f;have α:st.env=cw ops (qg H.length) e0 H:=by rw [p,sf rfl]
  have u:(bH C o.op=true->yM C rid H.length (gB (aL (aV ops H.length)) m0 H) st.mu):=λz=>by rw [r,<-yP rfl];exact xu D j.ok (fJ.lt D _) q hp (λk a=>tM (D.yN _ o k q a)) z
  refine J ⟨v,ms⟩ _ I d (λz x E=>?_) ⟨B,.inl ⟨by grind,λZ mu' δ t R' V=>?_⟩⟩ ?_ f;· have n:=g st.mu u (TV×List (Nat×av)) (λv ms=>some (v,ms));obtain ⟨ε,β,A,O⟩:=vI z n;grind
  · rw [xk (env:=st.env) (λx E=>by grind)];exact g mu' t R' V
  · have n:=uD (g st.mu u (TV×List (Nat×av)) (λv ms=>some (v,ms)));have A:=g st.mu u _ (λv ms=>@ite _ (fG st.mu ms (lq st.env o ms)) (Classical.propDecidable _) (some (v,ms)) none);grind
 · cases d:lu C rid ops.toList (cj ops.toList []) nx (aV ops H.length) H.length []with|false=>rw [show lu C rid ops.toList (cj ops.toList []) nx ((cj ops.toList []).getD H.length 0) H.length []=false from d]at h;cases h|true=>rw [show lu C rid ops.toList (cj ops.toList []) nx ((cj ops.toList []).getD H.length 0) H.length []=true from d]at h;simp only [cond_true]at h;exact J ⟨.kl,[]⟩ [] (λ_=>rfl) d (λ_ x E=>by cases E) ⟨B,.inr ⟨by rw [sf rfl,<-p];exact M,rfl,rfl⟩⟩ (fG.nil _) h
end
end Go.Tm
namespace Go.Tm
open Go
theorem tN{α:Type}{p q:α->Bool}:∀{l:List α},(∀x∈l,p x=true->q x=true)->l.countP p<=l.countP q:=λh=>List.countP_mono_left h
theorem nS{α:Type}{p q:α->Bool}:∀{l:List α}{x:α},(∀x∈l,p x=true->q x=true)->x∈l->q x=true->p x=false->l.countP p<l.countP q
 |y::l,x,h,a,b,hp=>by
  rcases List.mem_cons.1 a with rfl|a;·rw[List.countP_cons,List.countP_cons,b,hp];have :=tN (l:=l) λz c=>h z (by grind);grind
  ·rw[List.countP_cons,List.countP_cons];have :=nS (l:=l) (λz c=>h z (by grind)) a b hp;grind
def bh(listed:Array Bool):Nat->Bool:=λk=>listed.getD k false
section
variable{P:Program}{C:Ctx}{nt:Nat}{w0:World}{o0:Nat->Nat->ax}{io:List Nat}{c0:Nat->fM}{R:Type}{Q:Exit->Act->World->Prop}
variable{ops:Array Oper}{rid nx:Nat}{e0:Nat->TV}{m0:Mu}
theorem Rel.Br{env:Nat->TV}{mu:Mu}{a:Act}{w:World}{g:Gh}(r:Rel P nt w0 o0 env mu a.tmps w g){b:Option Nat}{tv:TV}{v:Value}(c:jG nt b=true)(d:tv.R P w g mu v):Rel P nt w0 o0 (pZ env b tv) mu (a.put b v).tmps w g:=by have :=r.put c d;cases b<;>exact this
def xY(ops:Array Oper)(p:Nat->Bool)(e0:Nat->TV)(m0:Mu)(H:List fH):St:={env:=cw ops p e0 H,mu:=gB p m0 H,tw:=[],mw:=[],nx:=0}
theorem vJ{listed:Array Bool}{i:Nat}(h:i<listed.size):bh (listed.setIfInBounds i true)=iI (bh listed) i:=by
 funext k;unfold bh;by_cases e:k=i;·simp_all[iI,jz]
 ·rw[jy e];simp[Array.getD_eq_getD_getElem?,Array.getElem?_setIfInBounds_ne (Ne.symm e)]
theorem Ac(D:qx C ops){H:List fH}(a:Ay C ops rid nx m0 H){p:Nat->Bool}{id:Nat}(h:(nx+ops.size)*2048<=id):gB p m0 H id=none:=by cases e:gB p m0 H id with|none=>rfl|some b=>
 exfalso;obtain⟨k,g,b',c,f,j⟩:=ji (p:=p) (H:=H) (by grind) (a.bB id (Nat.le_trans (Nat.mul_le_mul_right _ (Nat.le_add_right _ _)) h));have l:=cq c;have i:=a.le;have d:k<ops.size:=by omega
 rcases fX (a.ms k g c) f with h|⟨h,_⟩|⟨_,h,_⟩;·omega
 ·omega
 ·have :=D.yN k _ _ (Array.getElem?_eq_getElem d) h;omega
theorem vK(hty:∀t V,C.ty t=some V->fL P t=some V)(ω:gF P C)(θ:C.nt=nt)(D:qx C ops){H:List fH}(hH:H.length=ops.size)(y:Az C ops rid nx e0 m0 H)(hQ:∀f w' g',bz P nt w0 o0 io c0 (nx+ops.size) (xY ops gP e0 m0 H) f w' g'->Q .normal f w'):∀(m:Nat) (listed:Array Bool){a:Act}{w:World}{g:Gh},listed.size=ops.size->(List.range ops.size).countP (λk=>!bh listed k)<=m->fJ ops (bh listed)->bz P nt w0 o0 io c0 (nx+ops.size) (xY ops (bh listed) e0 m0 H) a w g->wpAny P .any ops Q m listed a w:=by
 have T:∀(listed:Array Bool){a:Act}{w:World}{g:Gh},listed.size=ops.size->Region.ready .any ops listed=[]->bz P nt w0 o0 io c0 (nx+ops.size) (xY ops (bh listed) e0 m0 H) a w g->Q .normal a w:=by
  intro listed a w g E z r;have ad:∀k,k<ops.size->bh listed k=true:=by intro k;induction k using Nat.strongRecOn with|_ k K=>intro c;cases ψ:bh listed k with|true=>rfl|false=>
   exfalso;have :k∈Region.ready .any ops listed:=by
    rw[mem_ready];refine⟨?_,ops[k],Array.getElem?_eq_getElem c,λe he B=>?_⟩;·unfold bh at ψ;grind
    ·have κ:=D.yN k _ e.on (Array.getElem?_eq_getElem c) ((nQ (Array.getElem?_eq_getElem c)).2 ⟨e,by grind,B,.inl rfl⟩);exact K e.on κ (by omega)
   grind
  have e1:cw ops (bh listed) e0 H=cw ops gP e0 H:=funext λt=>fI λk c _=>by grind[bh,gP]
  have e2:gB (bh listed) m0 H=gB gP m0 H:=funext λt=>gO λk e b c _=>by grind[bh,gP,cq]
  refine hQ a w g ?_;simp_all[xY,gP,cw,gB,bh,Mu]
 intro m;induction m with|zero=>
 intro listed a w g E δ d r;have z:Region.ready .any ops listed=[]:=by rw[List.eq_nil_iff_forall_not_mem];intro k c;rw[mem_ready]at c;obtain⟨h0,o,ho,_⟩:=c;have τ:k<ops.size:=(Array.getElem?_eq_some_iff.1 ho).1;simp_all[bh]
 exact ⟨z,T listed E z r⟩|succ m K=>
 intro listed a w g E δ d r;refine ⟨λz=>T listed E z r,λi Y=>?_⟩;rw[mem_ready]at Y;obtain ⟨h0,o,ho,α⟩:=Y;have τ:i<ops.size:=(Array.getElem?_eq_some_iff.1 ho).1;have hp:bh listed i=false:=by grind[bh]
 have R:∀k,aL (aV ops i) k=true->bh listed k=true:=by
  intro k c;obtain ⟨e,he,B,h⟩:=(nQ ho).1 c;have u:bh listed e.on=true:=α e (by grind) B;rcases h with h|⟨F,h⟩;·grind
  ·exact d e.on k u (by omega) h
 obtain ⟨A,s⟩:∃e,bT H i=some e:=by simp_all[bT]
 have ab:=vJ (listed:=listed) (i:=i) (by omega);have ae:fJ ops (iI (bh listed) i):=by
  intro j k X φ B;by_cases e:j=i;·grind[bh,aL,aV,bT,iI]
  ·rw[jy e]at X;have :=d j k X φ B;simp[iI,this]
 have aa:(List.range ops.size).countP (λk=>!iI (bh listed) i k)<=m:=by have :=nS (l:=List.range ops.size) (x:=i) (p:=λk=>!iI (bh listed) i k) (q:=λk=>!bh listed k) (λk _ c=>by grind[bh,iI]) (by grind) (by grind) (by simp[jz]);omega
 obtain ⟨L,σ⟩:=y.go i o A ho s;have β:dC ops i=o.dst:=by grind[dC]
 have μ:H.length<=ops.size:=by omega
 have S:xY ops (iI (bh listed) i) e0 m0 H={env:=pZ (cw ops (bh listed) e0 H) o.dst A.v,mu:=au (gB (bh listed) m0 H) A.ms,tw:=[],mw:=[],nx:=0}:=by unfold xY;rw[rU hp s (yO D d ho hp),qe hp s (rX D y.ok d ho hp s),β]
 have N:∀{f:Act}{w':World}{g':Gh},bz P nt w0 o0 io c0 (nx+ops.size) (xY ops (iI (bh listed) i) e0 m0 H) f w' g'->wpAny P .any ops Q m (listed.setIfInBounds i true) f w':=by
  intro f w' g' r';have u:bz P nt w0 o0 io c0 (nx+ops.size) (xY ops (bh (listed.setIfInBounds i true)) e0 m0 H) f w' g':=by grind
  exact K (listed.setIfInBounds i true) (by grind) (by simp_all) (by grind) u
 show wpOp P ops Q i _ a w;unfold wpOp;simp only[ho];have M:∀t∈o.looksAt ops,cw ops (bh listed) e0 H t=cw ops (qg i) e0 H t:=λt ht=>vG D d ho hp R μ ht;have U:eF ops (cw ops (bh listed) e0 H) o=eF ops (cw ops (qg i) e0 H) o:=rY M;have O:=r.dB.env;rw[θ]at L;rcases σ with ⟨J,γ⟩|⟨J,I,ρ⟩
 · rw[if_pos (jK (env:=cw ops (bh listed) e0 H) O (U.trans J))];left;have ε:bE C (cw ops (bh listed) e0 H) (gB (bh listed) m0 H) ((nx+i)*2048) rid i o (λv ms=>some (v,ms))=some (A.v,A.ms):=by refine γ _ _ (λx hx=>?_) (λhr=>xu D y.ok d ho hp R hr) _ _;cases x with|tmp t=>exact M t (List.mem_append_left _ (List.mem_filterMap.2 ⟨.tmp t,by grind,rfl⟩))|_=>rfl
   have π:bG P C (cw ops (bh listed) e0 H) (gB (bh listed) m0 H) a w g ((nx+i)*2048):=⟨hty,ω,r.dB.env,r.dB.dr,r.dB.wf,r.dB.own,λn u F=>vF D y.ok d ho hp (by omega)⟩;refine Oper.wp_mono ?_ (xe (Q:=Q) π ε);rintro f w' ⟨tv,ms,v,g',rfl,Z,W,I⟩;simp only[Option.some.injEq,Prod.mk.injEq]at Z;obtain ⟨rfl,rfl⟩:=Z;refine N (g':=g') ?_;rw[S];refine ⟨?_,by cases o.dst<;>exact r.df,λid G=>?_,λid G=>?_⟩;· exact (r.dB.wG W).Br (a:=a) L I
   · have :=Ac D y.ok (p:=iI (bh listed) i) G;rw[qe hp s (rX D y.ok d ho hp s)]at this;omega
   · obtain ⟨u,F⟩:=r.io id G;obtain ⟨_,hs,_⟩:=W;exact ⟨(hs.c id F).trans u,aM F⟩
 · rw[if_neg (by rw[jK (env:=cw ops (bh listed) e0 H) O (U.trans J)];simp)];refine N (g':=g) ?_;rw[S,I,ρ];refine ⟨?_,by cases o.dst<;>exact r.df,r.bB,r.io⟩;exact r.dB.Br (a:=a) (tv:=.kl) (v:=undef) L rfl
theorem bz.drawn{n k:Nat}{st:St}{a:Act}{w:World}{g:Gh}(r:bz P nt w0 o0 io c0 n st a w g):bz P nt w0 o0 io c0 n st a {w with drawn:=k} g:=by have d:eL P w g st.mu {w with drawn:=k} g st.mu:=⟨λ_=>False,⟨λb j v c _=>⟨c,rfl⟩,λ_ _=>rfl,λ_ h=>h,λ_ _ _=>rfl,λ_ _ _ _ _ h=>h.elim⟩,⟨rfl,rfl,rfl,Nat.le_refl _,λ_ _ _=>rfl,λ_ _ _ c _=>⟨c,rfl⟩,λ_ _ v c=>⟨v,c⟩,λ_ _ _=>rfl⟩,⟨r.dB.wf.cell,r.dB.wf.ne⟩,r.dB.own,λid b h e=>by grind⟩;exact⟨r.dB.wG d,r.df,r.bB,r.io⟩
theorem qj(J:P.follows .mixedOrders=true)(hty:∀t q,C.ty t=some q->fL P t=some q)(z:gF P C)(v:C.nt=nt){st:St}{a:Act}{w:World}{g:Gh}{K:St->Option R}{y:R}(h:kz C rid ops true st K=some y)(r:bz P nt w0 o0 io c0 st.nx st a w g)(E:∀f l w' g',K f=some y->bz P nt w0 o0 io c0 f.nx f l w' g'->Ext st f->Q .normal l w'):(Code.region rid ops true).wp P Q a w:=by unfold kz at h;simp only[cond_true]at h;cases u:lr C ops ops.toList ops.toList (cj ops.toList []) 0 with|false=>grind|true=>
 rw[u]at h;simp only[cond_true]at h;have D:=qx.of u;obtain⟨H,p,B,x,A,F,G,I,L⟩:=uH (e0:=st.env) (m0:=st.mu) (nx:=st.nx) D r.bB ops.toList [] (st:=st) (by simp) rfl rfl ⟨⟨λk e b=>by simp[bT]at b,λk e b=>by simp[bT]at b,λk e o b=>by simp[bT]at b,Nat.zero_le _,r.bB⟩,λk o e ho b=>by simp[bT]at b⟩ h (Nat.zero_le _);refine wp_region_any J ?_;have d:bh (Array.replicate ops.size false)=λ_=>false:=by funext k;unfold bh;by_cases e:k<ops.size<;>simp[Array.getD_eq_getD_getElem?,e]
 refine vK (w0:=w0) (o0:=o0) (io:=io) (c0:=c0) hty z v D x G (λl w' g' j=>?_) ops.size (Array.replicate ops.size false) (a:=a) (g:=g) (by simp) ?_ ?_ ?_
 · refine E _ l w' g' B ?_ (λe m N s=>?_)
   · have :(xY ops gP st.env st.mu H).env=p.env/\(xY ops gP st.env st.mu H).mu=p.mu:=⟨A.symm,F.symm⟩;refine ⟨?_,j.df,?_,?_⟩;· have :=j.dB;grind
     · have :=j.bB;grind
     · have :=j.io;grind
   · have :=I e m N s;exact ⟨this.env,this.dr,Nat.le_trans s.nx (Nat.mul_le_mul_right _ (Nat.le_add_right _ _))⟩
 · simp_all
 · rw[d];intro i k h;cases h
 · have c:∀(H:List fH),cw ops (λ_=>false) st.env H=st.env/\gB (λ_=>false) st.mu H=st.mu:=by intro H;induction H with|nil=>exact ⟨rfl,rfl⟩|cons e r M=>simp_all[cw,St.env,Mu,gB,St.mu]
   have n:=(r.drawn (k:=w.drawn+1)).CB (Nat.le_add_right st.nx ops.size);refine ⟨?_,n.df,?_,?_⟩;· show Rel P nt w0 o0 (cw ops _ st.env H) (gB _ st.mu H) _ _ _;rw[d,(c H).1,(c H).2];exact n.dB
   · show∀id,_->gB _ st.mu H id=none;rw[d,(c H).2];exact n.bB
   · show∀id∈io,_/\gB _ st.mu H id≠none;rw[d,(c H).2];exact n.io
end
end Go.Tm
namespace Go.Tm
open Go
section
variable{P:Program}{C:Ctx}{nt:Nat}{w0:World}{o0:Nat->Nat->ax}{io:List Nat}{c0:Nat->fM}
theorem bz.zy{st:St}{a:Act}{w:World}{g:Gh}(r:bz P nt w0 o0 io c0 st.nx st a w g){id:Nat}(h:st.mu id≠none):id<st.nx*2048:=by
 rcases Nat.lt_or_ge id (st.nx*2048)with b|b;·exact b
 ·exact absurd (r.bB id b) h
theorem lL{R:Type}{b st hS:St}{cA:List aI}{c:jP}{a a0:Act}{w x:World}{g z:Gh}{K:(ay c.ah).D->Option R}{y:R}(h:bY b st c K=some y)(r0:bz P nt w0 o0 io c0 b.nx b a0 x z)(r:bz P nt w0 o0 io c0 st.nx st a w g)(n:gW b c=true)(U:vZ b cA c)(H:pU b hS cA c)(B:oR hS.env hS.mu (b.nx*2048) st):∃v g',K v=some y/\bz P nt w0 o0 io c0 (b.nx+1) (ai b cA c v) a w g':=by unfold bY at h;cases i:(st.tw.all (sW c)&&st.mw.all (qH b c)) with|false=>grind|true=>rw[i]at h;simp only[cond_true]at h;simp only[Bool.and_eq_true]at i;obtain⟨d,l,vals,f,k,m,u,_⟩:=im r.dB.env r.dB.dr r.dB.wf c.ah 0 h;rw[List.append_nil]at f;cases e:(aP l&&l.all (wC b st c)) with|false=>grind|true=>rw[e]at f;simp only[cond_true]at f;simp only[Bool.and_eq_true]at e;have L:=tF.Cz n U H B i.1 i.2 e.2 k r0.bB m;obtain⟨g',q,t,s,p⟩:=xh (cA:=cA) r0.dB.xX r0.bB r.dB n k m u e.1 L;refine⟨d,g',f,q,r.df,s,λid j=>?_⟩;have o:=r0.zy (r0.io id j).2;exact⟨(t id o).trans (r.io id j).1,p id o (r.io id j).2⟩
theorem qk{R:Type}{st:St}{b:jP}{a:Act}{w:World}{g:Gh}{K:(ay b.ah).D->List aI->Option R}{y:R}(h:(dh st st.nx b.ah 0 [] λv0 us=>bif aP us&&gW st b then K v0 us else none)=some y)(r:bz P nt w0 o0 io c0 st.nx st a w g):∃v us g',K v us=some y/\gW st b=true/\vZ st us b/\bz P nt w0 o0 io c0 (st.nx+1) (ai st us b v) a w g':=by obtain⟨d,e,vals,f,q,i,s,l⟩:=im r.dB.env r.dB.dr r.dB.wf b.ah 0 h;rw[List.append_nil] at f;cases c:(aP e&&gW st b) with|false=>grind|true=>rw[c] at f;simp only[cond_true] at f;simp only[Bool.and_eq_true] at c;have U:vZ st e b:=⟨c.1,λu t=>⟨_,i u t⟩,.inr l⟩;have L:=tF.Bq c.2 U l r.bB i;obtain⟨g',n,p,o,m⟩:=xh (cA:=e) r.dB.xX r.bB r.dB c.2 q i s c.1 L;refine⟨d,e,g',f,c.2,U,n,r.df,o,λid j=>?_⟩;have k:=r.zy (r.io id j).2;exact⟨(p id k).trans (r.io id j).1,m id k (r.io id j).2⟩
theorem iw{b:St}{us:List aI}{a:jP}{d:(ay a.ah).D}:(ai b us a d).nx=b.nx+1:=(eU (nx:=b.nx) a.ah 0).2.2.1
theorem bz.ql{n:Nat}{st:St}{a:Act}{w:World}{g:Gh}{tw:List Nat}{mw:List Wr}(r:bz P nt w0 o0 io c0 n st a w g):bz P nt w0 o0 io c0 n {st with tw:=tw,mw:=mw} a w g:=⟨r.dB,r.df,r.bB,r.io⟩
def oU{Y R:Type}(P:Program)(nt:Nat)(w0:World)(o0:Nat->Nat->ax)(io:List Nat)(c0:Nat->fM)(eN:Y->Act->World->Prop)(c:Y->R)(b:St)(d:St->Option R)(e:Nat->St->Option R)(y:R):Exit->Act->World->Prop|.normal,a,w=>∃st g,d st=some y/\bz P nt w0 o0 io c0 st.nx st a w g/\Ext b st|.exit id,a,w=>∃st g,e id st=some y/\bz P nt w0 o0 io c0 st.nx st a w g/\Ext b st|.ret,a,w=>∃z,c z=y/\eN z a w|_,_,_=>False
theorem kg{S E:Type}{f:S->Option (Sum S E)}{s:S}{e:E}(h:aR f s=some e):∃n,bn f n s=some e:=by
 unfold aR at h;split at h;·grind
 grind
def sj(P:Program)(c:Code)(Q:Exit->Act->World->Prop)(a:Act)(w:World):Prop:=∀b k cs,∃e d w',Q e d w'/\Arrives P (lone (b.at a (.code c::.inLoop c::k)) cs w) b k cs e d w'
theorem oV{c:Code}{Q:Exit->Act->World->Prop}{a:Act}{w:World}(h:sj P c Q a w):(Code.loop c).wp P Q a w:=by intro b k cs;obtain⟨e,g,w',f,d⟩:=h b k cs;exact⟨e,g,w',f,.of_steps (.one step_loop) d⟩
theorem tO{c:Code}{Q:Exit->Act->World->Prop}{a:Act}{w:World}(h:c.wp P (Exit.then (sj P c Q) Q) a w):sj P c Q a w:=by intro b k cs;obtain⟨e,i,g,f,d⟩:=h b (.inLoop c::k) cs;cases e with|normal=>obtain⟨n,o,p,m,j⟩:=f b k cs;exact⟨n,o,p,m,.of_steps (Steps.trans d (.one step_inLoop)) j⟩|exit id=>exact⟨_,i,g,f,.pass (x:=.inLoop c) rfl (λ_ _=>.inl (by simp)) d⟩|goto l=>exact⟨_,i,g,f,.pass (x:=.inLoop c) rfl (λ_ _=>.inl (by simp)) d⟩|ret=>exact⟨_,i,g,f,.pass (x:=.inLoop c) rfl (λ_ _=>.inl (by simp)) d⟩|panic q=>exact⟨_,i,g,f,.pass (x:=.inLoop c) rfl (λ_ _=>.inl (by simp)) d⟩|outgrown=>exact⟨_,i,g,f,.pass (x:=.inLoop c) rfl (λ_ _=>.inl (by simp)) d⟩
theorem lM{Y:Type}{B:{R:Type}->St->(Y->Option R)->Option R}{eN:Y->Act->World->Prop}{id:Nat}{o:Code}(T:∀{R:Type}(d:Y->R)(st:St)(l:St->Option R)(t:Nat->St->Option R)(y:R)(a:Act)(w:World)(g:Gh),di C B o d st l t=some y->bz P nt w0 o0 io c0 st.nx st a w g->o.wp P (oU P nt w0 o0 io c0 eN d st l t y) a w){R:Type}(d:Y->R)(st F:St)(l:St->Option R)(t:Nat->St->Option R)(y:R)(a0:Act)(W:World)(X:Gh)(b:jP)(us:List aI)(x:Sum (ay b.ah).D R)(G:(ay b.ah).D->St->Option (Sum (ay b.ah).D (Sum (ay b.ah).D R)))(δ:Ext F st)(r:bz P nt w0 o0 io c0 st.nx st a0 W X)(K:gW st b=true)(U:vZ st us b)(k:Sum.elim (λv=>l (ai st us b v)) some x=some y)(S:∀v c z,G v c=some z->bY st c b (λv=>some (.inl v))=some z\/∃q,z=.inr (.inr q)/\∀s w' g',q=y->bz P nt w0 o0 io c0 c.nx c s w' g'->Ext {ai st us b v with tw:=[],mw:=[]} c->sj P o (Exit.inBlock id (oU P nt w0 o0 io c0 eN d F l t y)) s w'):∀(n:Nat)(v:(ay b.ah).D)(a:Act)(w:World)(g:Gh),bn (E:=Sum (ay b.ah).D R) (λv=>di C B o (R:=Sum (ay b.ah).D (Sum (ay b.ah).D R)) (λy=>.inr (.inr (d y))) {ai st us b v with tw:=[],mw:=[]} (G v) (λid' c=>bif Nat.beq id' id then bY st c b λv=>some (.inr (.inl v)) else none)) n v=some x->bz P nt w0 o0 io c0 (st.nx+1) (ai st us b v) a w g->sj P o (Exit.inBlock id (oU P nt w0 o0 io c0 eN d F l t y)) a w:=by intro n;induction n with|zero=>intro v a w g h _;cases h|succ n β=>intro v a w g h γ;refine tO ?_;simp only[bn]at h;cases O:di C B o (R:=Sum (ay b.ah).D (Sum (ay b.ah).D R)) (λy=>.inr (.inr (d y))) {ai st us b v with tw:=[],mw:=[]} (G v) (λid' c=>bif Nat.beq id' id then bY st c b λv=>some (.inr (.inl v)) else none) with|none=>grind|some f=>
 rw[O]at h;have V:bz P nt w0 o0 io c0 ({ai st us b v with tw:=[],mw:=[]}:St).nx {ai st us b v with tw:=[],mw:=[]} a w g:=by show bz P nt w0 o0 io c0 (ai st us b v).nx _ a w g;rw[iw];exact γ.ql
 refine Code.wp_mono ?_ (T _ _ _ _ f a w g O V);have M:oR (ai st us b v).env (ai st us b v).mu (st.nx*2048) {ai st us b v with tw:=[],mw:=[]}:=by refine⟨λ_ _=>rfl,λ_ _=>.gj,?_⟩;show st.nx*2048<=(ai st us b v).nx*2048;rw[iw];omega
 rintro e s w' j;cases e with
 |normal=>
 obtain⟨c,g',i,u,A⟩:=j;rcases S v c f i with i|⟨q,rfl,j⟩;·obtain⟨I,H,p,J⟩:=lL (hS:={ai st us b v with tw:=[],mw:=[]}) i r u K U pU.loop (A _ _ _ M);simp only[Option.some.injEq]at p;subst p;exact β I s w' H h J
 ·simp only[Option.some.injEq]at h;subst h;exact j s w' g' (Option.some.inj k) u A|exit id'=>obtain⟨c,g',i,u,A⟩:=j;dsimp only at i;show (if id'=id then _ else _);cases L:Nat.beq id' id with|false=>grind|true=>rw[L]at i;simp only[cond_true]at i;rw[if_pos (Nat.eq_of_beq_eq_true L)];obtain⟨I,H,p,J⟩:=lL (hS:={ai st us b v with tw:=[],mw:=[]}) i r u K U pU.loop (A _ _ _ M);simp only[Option.some.injEq]at p;subst p;simp only[Option.some.injEq]at h;subst h;have k:l (ai st us b I)=some y:=k;exact⟨_,H,k,by rw[iw];exact J,λe m N Z=>(δ e m N Z).ai⟩
 |ret=>obtain⟨z,α,Q⟩:=j;subst α;simp only[Option.some.injEq]at h;subst h;have k:some (d z)=some y:=k;cases k;exact⟨z,rfl,Q⟩|goto _=>exact j.elim|panic _=>exact j.elim|outgrown=>exact j.elim
theorem yQ{Y:Type}{u:{R:Type}->St->(Y->Option R)->Option R}{eN:Y->Act->World->Prop}{id:Nat}{l:Code}(B:∀{R:Type}(i:Y->R)(st:St)(j:St->Option R)(s:Nat->St->Option R)(y:R)(a:Act)(w:World)(g:Gh),di C u l i st j s=some y->bz P nt w0 o0 io c0 st.nx st a w g->l.wp P (oU P nt w0 o0 io c0 eN i st j s y) a w){R:Type}(i:Y->R)(st:St)(j:St->Option R)(s:Nat->St->Option R)(y:R)(a:Act)(w:World)(g:Gh)(h:di C u (.block id (.loop l)) i st j s=some y)(r:bz P nt w0 o0 io c0 st.nx st a w g):(Code.block id (.loop l)).wp P (oU P nt w0 o0 io c0 eN i st j s y) a w:=by unfold di at h;cases O:C.lp id with|none=>simp only[O]at h;simp only[di]at h;cases h|some b=>simp only[O]at h;cases Q:C.jn (id+2000000) with|none=>simp only[Q]at h;obtain⟨d,us,J,G,A,U,L⟩:=qk (K:=λv0 us=>(aR (E:=Sum (ay b.ah).D R) (λv=>di C u l (R:=Sum (ay b.ah).D (Sum (ay b.ah).D R)) (λy=>.inr (.inr (i y))) {ai st us b v with tw:=[],mw:=[]} (λc=>bY st c b λv=>some (.inl v)) (λid' c=>bif Nat.beq id' id then bY st c b λv=>some (.inr (.inl v)) else none)) v0).bind λr=>Sum.elim (λv=>j (ai st us b v)) some r) h r;obtain⟨x,M,F⟩:=Option.bind_eq_some_iff.1 G;obtain⟨n,H⟩:=kg M;exact wp_block (oV (lM B i st st j s y a w g b us x (λ_ c=>bY st c b λv=>some (.inl v)) (.gj st) r A U F (λv c z p=>.inl p) n d a w J H L))|some f=>simp only[Q]at h;obtain⟨d,us,J,G,A,U,L⟩:=qk (K:=λv0 us=>(aR (E:=Sum (ay b.ah).D R) (λv=>di C u l (R:=Sum (ay b.ah).D (Sum (ay b.ah).D R)) (λy=>.inr (.inr (i y))) {ai st us b v with tw:=[],mw:=[]} (λc=>bif c.tw.all (sW b)&&c.mw.all (qH st b) then bY st c b λv=>some (.inl v) else Option.map (λr=>.inr (.inr r)) (dh (du (ai st us b v) c) c.nx f.ah 0 [] λv0 o=>bif aP o&&gW (du (ai st us b v) c) f then(aR (E:=Sum (ay f.ah).D R) (λt=>di C u l (R:=Sum (ay f.ah).D (Sum (ay f.ah).D R)) (λy=>.inr (.inr (i y))) {ai (du (ai st us b v) c) o f t with tw:=[],mw:=[]} (λk=>bY (du (ai st us b v) c) k f λv=>some (.inl v)) (λid' k=>bif Nat.beq id' id then bY (du (ai st us b v) c) k f λv=>some (.inr (.inl v)) else none)) v0).bind λr=>Sum.elim (λt=>j (ai (du (ai st us b v) c) o f t)) some r else none)) (λid' c=>bif Nat.beq id' id then bY st c b λv=>some (.inr (.inl v)) else none)) v0).bind λr=>Sum.elim (λv=>j (ai st us b v)) some r) h r;obtain⟨x,M,F⟩:=Option.bind_eq_some_iff.1 G;obtain⟨n,H⟩:=kg M;refine wp_block (oV (lM B i st st j s y a w g b us x _ (.gj st) r A U F (λv c z p=>?_) n d a w J H L));dsimp only at p;cases σ:(c.tw.all (sW b)&&c.mw.all (qH st b)) with|true=>grind|false=>rw[σ] at p;simp only[cond_false] at p;obtain⟨q,ε,rfl⟩:=Option.map_eq_some_iff.1 p;refine .inr ⟨q,rfl,λI w' g' W β φ=>?_⟩;subst W;have S:bz P nt w0 o0 io c0 (du (ai st us b v) c).nx (du (ai st us b v) c) I w' g':=β.ql;obtain ⟨α,o,μ,κ,T,π,ρ⟩:=qk (st:=du (ai st us b v) c) (K:=λv0 o=>(aR (E:=Sum (ay f.ah).D R) (λt=>di C u l (R:=Sum (ay f.ah).D (Sum (ay f.ah).D R)) (λy=>.inr (.inr (i y))) {ai (du (ai st us b v) c) o f t with tw:=[],mw:=[]} (λk=>bY (du (ai st us b v) c) k f λv=>some (.inl v)) (λid' k=>bif Nat.beq id' id then bY (du (ai st us b v) c) k f λv=>some (.inr (.inl v)) else none)) v0).bind λr=>Sum.elim (λt=>j (ai (du (ai st us b v) c) o f t)) some r) ε S;obtain ⟨γ,Z,V⟩:=Option.bind_eq_some_iff.1 κ;obtain ⟨δ,X⟩:=kg Z;have τ:Ext st (du (ai st us b v) c):=λe m N θ=>(θ.ai (us:=us) (a:=b) (d:=v)).trans (φ _ _ _ oR.xi);exact lM B i _ st j s q I w' g' f o γ (λ_ k=>bY (du (ai st us b v) c) k f λv=>some (.inl v)) τ S T π V (λv c z p=>.inl p) δ α I w' μ X ρ
theorem yR{st:St}{a:Act}{w:World}{g:Gh}(r:bz P nt w0 o0 io c0 st.nx st a w g)(id:Nat):∃g',bz P nt w0 o0 io c0 (qG st id).nx (qG st id) a w g'/\Ext st (qG st id):=by
 unfold qG;split
 · rename_i es ms xs aF n;obtain⟨g',h,_⟩:=eL.wT r.dB.dr r.dB.wf r.dB.own n;have i:fG st.mu [(id,av.fz es xs)] [.all id]:=fG.all st.mu [(id,.fz es xs)];refine⟨g',⟨r.dB.wG h,r.df,λj c=>?_,λj c=>?_⟩,λe m N d=>d.put i⟩
   · show au st.mu [(id,_)] j=none;rw[aD];· exact r.bB j c
     · intro b d;simp only[List.mem_singleton,Prod.mk.injEq] at d;have :=r.bB j c;grind
   · obtain⟨k,f⟩:=r.io j c;obtain⟨_,l,_⟩:=h;exact⟨(l.c j f).trans k,aM f⟩
 · exact⟨g,r,.gj _⟩
theorem yS(l:List Nat){st:St}{a:Act}{w:World}{g:Gh}(r:bz P nt w0 o0 io c0 st.nx st a w g):∃g',bz P nt w0 o0 io c0 (l.foldl qG st).nx (l.foldl qG st) a w g'/\Ext st (l.foldl qG st):=by induction l generalizing st g with|nil=>exact⟨g,r,.gj _⟩|cons id l c=>obtain⟨i,d,f⟩:=yR r id;obtain⟨b,e,h⟩:=c d;exact⟨b,e,f.trans h⟩
theorem xw{rid:Nat}{st:St}{a:Act}{w:World}{g:Gh}(r:bz P nt w0 o0 io c0 st.nx st a w g):∃g',bz P nt w0 o0 io c0 (oz C rid st).nx (oz C rid st) a w g'/\Ext st (oz C rid st):=by
 unfold oz;split;·exact⟨g,r,.gj _⟩
 ·exact yS _ r
theorem eV{Y:Type}{S:{R:Type}->St->(Y->Option R)->Option R}{eN:Y->Act->World->Prop}(E:P.follows .mixedOrders=true)(hty:∀t β,C.ty t=some β->fL P t=some β)(q:gF P C)(o:C.nt=nt)(s:∀{R:Type}(st:St)(K:Y->Option R)(y:R)(a:Act)(w:World)(g:Gh),bz P nt w0 o0 io c0 st.nx st a w g->S st K=some y->∃z,K z=some y/\eN z a w):∀(c:Code){R:Type}(i:Y->R)(st:St)(j:St->Option R)(k:Nat->St->Option R)(y:R)(a:Act)(w:World)(g:Gh),di C S c i st j k=some y->bz P nt w0 o0 io c0 st.nx st a w g->c.wp P (oU P nt w0 o0 io c0 eN i st j k y) a w
 |.skip,R,i,st,j,k,y,a,w,g,h,r=>wp_skip ⟨st,g,h,r,.gj st⟩|.region rid ops Z,R,i,st,j,k,y,a,w,g,h,r=>by have h:kz C rid ops Z (oz C rid st) j=some y:=h;obtain ⟨π,r0,e0⟩:=xw (C:=C) (rid:=rid) r;cases Z with|false=>exact pV hty q o h r0 λp L w' g' l n V=>⟨p,g',l,n,e0.trans V⟩|true=>exact qj E hty q o h r0 λp L w' g' l n V=>⟨p,g',l,n,e0.trans V⟩
 |.seq c d,R,i,st,j,k,y,a,w,g,h,r=>by simp only[di]at h;refine wp_seq ?_;cases γ:C.jn (dA d) with
  |none=>simp only[γ]at h;refine Code.wp_mono ?_ (eV E hty q o s c i st _ k y a w g h r);rintro e L w' f;cases e with
   |normal=>obtain ⟨p,g',l,G,F⟩:=f;refine Code.wp_mono ?_ (eV E hty q o s d i p j k y L w' g' l G);rintro e θ μ f;cases e with|normal=>obtain ⟨I,A,n,D,H⟩:=f;exact ⟨I,A,n,D,F.trans H⟩|exit id=>obtain ⟨I,A,n,D,H⟩:=f;exact ⟨I,A,n,D,F.trans H⟩|ret=>exact f|goto _=>exact f.elim|panic _=>exact f.elim|outgrown=>exact f.elim
   |exit id=>exact f|ret=>exact f|goto _=>exact f.elim|panic _=>exact f.elim|outgrown=>exact f.elim
  |some M=>simp only[γ]at h;cases α:gW st M with|false=>grind|true=>rw[α]at h;simp only[cond_true]at h;obtain ⟨x,κ,u⟩:=Option.bind_eq_some_iff.1 h;refine Code.wp_mono ?_ (eV E hty q o s c (λy=>.inr (i y)) {st with tw:=[],mw:=[]} _ _ x a w g κ r.ql);rintro e L w' f;cases e with
  |normal=>obtain ⟨p,g',l,G,F⟩:=f;have B:=F st.env st.mu (st.nx*2048) oR.xi;obtain ⟨v,A,n,D⟩:=lL (cA:=[]) (hS:={st with tw:=[],mw:=[]}) l r G α ⟨rfl,by simp,.inl rfl⟩ pU.Bp B;simp only[Option.some.injEq]at n;subst n;have u:di C S d i (ai st [] M v) j k=some y:=u;refine Code.wp_mono ?_ (eV E hty q o s d i (ai st [] M v) j k y L w' A u (by rw [iw];exact D));rintro e θ μ f;have e0:Ext st (ai st [] M v):=λe m N W=>W.ai;cases e with|normal=>obtain ⟨I,A,n,D,H⟩:=f;exact ⟨I,A,n,D,e0.trans H⟩|exit id=>obtain ⟨I,A,n,D,H⟩:=f;exact ⟨I,A,n,D,e0.trans H⟩|ret=>exact f|goto _=>exact f.elim|panic _=>exact f.elim|outgrown=>exact f.elim
  |exit id=>obtain ⟨p,g',l,G,F⟩:=f;obtain ⟨z,J,T⟩:=Option.map_eq_some_iff.1 l;subst T;have u:some z=some y:=u;cases u;exact ⟨_,g',J,G.ql,λe m N W=>W.trans (F st.env st.mu (st.nx*2048) oR.xi)⟩|ret=>obtain ⟨z,J,T⟩:=f;subst J;have u:some (i z)=some y:=u;cases u;exact ⟨z,rfl,T⟩|goto _=>exact f.elim|panic _=>exact f.elim|outgrown=>exact f.elim
 |.cond c x z,R,i,st,j,k,y,a,w,g,h,r=>by
  simp only [di] at h;cases c<;>simp only at h<;>try (cases h;done)
  case tmp t=>
 have O:=r.dB.env t;cases X:st.env t<;>simp only [X] at h<;>try grind
 case c cv=>
 cases cv<;>simp only at h<;>try grind
 case bool b=>rw [X] at O;have O:a.eval (.tmp t)=.bool b:=O;refine wp_cond O ?_;have Q:=jg X;cases b with|true=>simp only [cond_true,Q] at h;exact eV E hty q o s x i st j k y a w g h r|false=>simp only [cond_false,Q] at h;exact eV E hty q o s z i st j k y a w g h r
 |.block id c,R,i,st,j,k,y,a,w,g,h,r=>by cases ε:C.lp id with
  |none=>unfold di at h;simp only [ε] at h;refine wp_block (Code.wp_mono ?_ (eV E hty q o s c i st j _ y a w g h r));rintro e L w' f;cases e with
   |normal=>exact f|exit id'=>obtain ⟨p,g',l,G,F⟩:=f;dsimp only at l;show (if id'=id then _ else _);cases U:Nat.beq id' id with|true=>rw [if_pos (Nat.eq_of_beq_eq_true U)];rw [U] at l;exact ⟨p,g',l,G,F⟩|false=>rw [if_neg (λe=>by simp_all)];rw [U] at l;exact ⟨p,g',l,G,F⟩
   |ret=>exact f|goto _=>exact f.elim|panic _=>exact f.elim|outgrown=>exact f.elim
  |some M=>cases c with|loop δ=>exact yQ (λi st j k y a w g h r=>eV E hty q o s δ i st j k y a w g h r) i st j k y a w g h r|_=>unfold di at h;grind
 |.exit id,R,i,st,j,k,y,a,w,g,h,r=>wp_exit ⟨st,g,h,r,.gj st⟩|.ret,R,i,st,j,k,y,a,w,g,h,r=>by obtain ⟨z,J,Q⟩:=s st _ y a w g r h;simp only [Option.some.injEq] at J;exact wp_ret ⟨z,J,Q⟩|.loop _,_,_,_,_,_,_,_,_,_,h,_=>by simp [di] at h|.rangeFunc _ _ _ _,_,_,_,_,_,_,_,_,_,h,_=>by simp [di] at h|.scope _,_,_,_,_,_,_,_,_,_,h,_=>by simp [di] at h|.label _,_,_,_,_,_,_,_,_,_,h,_=>by simp [di] at h|.goto _,_,_,_,_,_,_,_,_,_,h,_=>by simp [di] at h|.refuse _,_,_,_,_,_,_,_,_,_,h,_=>by simp [di] at h
end
end Go.Tm
namespace Go.Tm
open Go
def jj(P:Program)(tmps:Array Value)(w:World)(b:ResultVar)(v:Value):Prop:=(match b with|.tmp t=>pure (tmps.getD t undef)|.cell a t=>do loadVar t (<-asAddr (tmps.getD a undef)):Sem Value).run P w=.ok v w
theorem tP{P:Program}{fn:Func}{tmps:Array Value}{w:World}{vs:List Value}(h:aq (jj P tmps w) fn.results.toList vs):(results fn tmps).run P w=.ok (lU vs) w:=by
 have d:∀(b:List ResultVar)(vs:List Value),aq (jj P tmps w) b vs->(b.mapM λc=>(match c with|.tmp t=>pure (tmps.getD t undef)|.cell a t=>do loadVar t (<-asAddr (tmps.getD a undef)):Sem Value)).run P w=.ok vs w:=by intro b;induction b with|nil=>intro vs h;cases vs;rfl;exact h.elim|cons c b e=>intro vs h;cases vs with|nil=>exact h.elim|cons v vs=>have f:=e vs h.2;simp_all[jj,aq]
 unfold results;rw[Sem.run_bind];have :(fn.results.mapM λc=>(match c with|.tmp t=>pure (tmps.getD t undef)|.cell a t=>do loadVar t (<-asAddr (tmps.getD a undef)):Sem Value)).run P w=.ok vs.toArray w:=by rw[Array.mapM_eq_mapM_toList,Sem.run_map,d _ _ h];rfl
 refine (congrArg (λr=>Result.andThen r (λ(a:Array Value) w'=>Sem.run P (pure (if h:a.size=1 then a[0]else Value.tuple a)) w')) this).trans ?_;simp only[Result.andThen_ok];match vs with|[]=>rfl|[v]=>rfl|_::_::_=>rfl
section
variable{P:Program}{C:Ctx}{w:World}{g:Gh}{st:St}{a:Act}{R:Type}
theorem yT(hty:∀t m,C.ty t=some m->fL P t=some m)(M:∀t,(st.env t).R P w g st.mu (a.tmps.getD t undef))(T:cR P w g st.mu){f:bX}{to:Nat}{I:ResultVar}{us:List aI}{K:List CV->List aI->Option R}{y:R}(h:yi C st f to I us K=some y):∃p vs D v,K p (D++us)=some y/\cc P w g st.mu p vs/\jj P a.tmps w I v/\((f.k=.c/\vs=[v]/\D=[])\/(f.k=.agg/\v=.agg vs.toArray/\D=[])\/(f.k=.np/\∃id b base,D=[.mv id to]/\v=.pointer (some ⟨b,base,none⟩)/\∀k u,vs[k]?=some u->w.cell? ⟨b,base+k,none⟩=some u/\g.o b (base+k)=.o [id])):=by cases I with
 |tmp t=>
 have l:=M t;simp only [yi]at h;split at h;·rename_i v e n;rw [n]at l;exact ⟨_,[a.tmps.getD t undef],[],_,h,⟨l,trivial⟩,rfl,.inl ⟨e,rfl,rfl⟩⟩
 ·rename_i vs e n;rw [n]at l;obtain ⟨γ,β,Y⟩:=l;exact ⟨_,γ.toList,[],_,h,Y,rfl,.inr (.inl ⟨e,by rw [β],rfl⟩)⟩
 ·rename_i id e n;rw [n]at l;obtain ⟨_,b,base,δ,hp⟩:=l;cases S:st.mu id with|none=>grind|some bl=>
  have W:=T id bl S;cases bl<;>simp only [S]at h<;>try (cases h;done)
  case box cs=>obtain ⟨b',θ,O,Z⟩:=W;rw [δ]at O;cases O;obtain ⟨vs,E,r⟩:=jU (P:=P) (mu:=st.mu) cs Z;exact ⟨cs,vs,[.mv id to],_,h,E,rfl,.inr (.inr ⟨e,id,b,base,rfl,by omega,r⟩)⟩
 grind|cell x t=>
 simp only [yi]at h;split at h;·rename_i m cv ε n;have l:=M x;rw [n]at l;cases i:qJ f.k m.k with|false=>grind|true=>
  simp only [i,cond_true]at h;obtain ⟨σ,d,z,E,r,φ,h4,V,ψ,H,h8,J,μ,α⟩:=cH (hty t m ε);obtain ⟨p,vs,b,base,h,G,B,F,U⟩:=qW T l h;have A:=run_loadCells_list (P:=P) w ⟨b,base,none⟩ vs (λj v ω=>by rw [Addr.add_lit];grind);rcases α with ⟨fs,L,π,κ,N,_⟩|⟨ρ,X,_,_,V⟩|⟨n0,e0,τ,L,_⟩
  · subst L;have e:m.k=.struct:=J;have q:f.k=.agg:=by rw [e]at i;cases s:f.k<;>rw [s]at i<;>simp [qJ]at i⊢
    rw [B,H]at A;exact ⟨p,vs,[],.agg vs.toArray,h,G,by simp [jj,F,asAddr,loadVar,isAgg,run_underlying r,sizeOf,run_typeInfo w E,A],.inr (.inl ⟨q,rfl,rfl⟩)⟩
  · have q:f.k=.c:=by cases s:f.k<;>rw [s]at i<;>cases e:m.k<;>rw [e]at i<;>simp [qJ]at i⊢;rw [e]at J;grind [lR,cP,jW]
    rw [H,X]at B;obtain ⟨u,rfl⟩:=List.length_eq_one_iff.1 B;have Q:=U 0 u rfl;have N:(isAgg t).run P w=.ok false w:=by simp only [isAgg,Sem.run_bind,run_underlying r,Result.andThen_ok];cases d<;>first|rfl|grind [lR]|grind
    simp only [Nat.add_zero]at Q;exact ⟨p,[u],[],u,h,G,by simp [jj,F,asAddr,loadVar,N,Q],.inl ⟨q,rfl,rfl⟩⟩
  · subst L;have e:m.k=.struct:=J;have q:f.k=.agg:=by rw [e]at i;cases s:f.k<;>rw [s]at i<;>simp [qJ]at i⊢
    rw [B,H]at A;exact ⟨p,vs,[],.agg vs.toArray,h,G,by simp [jj,F,asAddr,loadVar,isAgg,run_underlying r,sizeOf,run_typeInfo w E,A],.inr (.inl ⟨q,rfl,rfl⟩)⟩
 grind
def CD(P:Program)(w:World)(g:Gh)(mu:Mu):Tg->Bk->Prop|.bx id,.bx b off=>g.c id=.box b off|.cv cs,.vs l=>cc P w g mu cs l|_,_=>False
theorem mR(hty:∀t T,C.ty t=some T->fL P t=some T)(I:∀t,(st.env t).R P w g st.mu (a.tmps.getD t undef))(n:cR P w g st.mu)(hw:Wf w g.o):∀(aX:List bX)(r:Nat)(E:List ResultVar)(io:List Tg){d:List Bk}{us:List aI}{R:Type}{K:GD aX->List aI->Option R}{y:R},na C st aX r E io us K=some y->aq (CD P w g st.mu) io d->∃z Q vs,K z (Q++us)=some y/\aq (jj P a.tmps w) E vs/\E.length+io.length=aX.length/\∀w' o',aj w g.o w' o'->(∀u∈Q,br (λto=>.o [to]) w g.o w' o' u)->iW P w' o' aX r z vs d
 |[],r,[],[],d,us,R,K,y,h,c=>by cases d with|cons _ _=>exact c.elim|nil=>exact⟨(),[],[],h,trivial,rfl,λ_ _ _ _=>⟨rfl,rfl⟩⟩
 |[],r,_::_,_,d,us,R,K,y,h,c=>by simp [na]at h|[],r,[],_::_,d,us,R,K,y,h,c=>by simp [na]at h|i::j,r,τ::E,io,d,us,R,K,y,h,c=>by simp only [na]at h;obtain⟨σ,vs,X,v,h,β,Y,W⟩:=yT (a:=a) hty I n h;obtain⟨x,s,A,S,D,h,m,p,O,hV⟩:=fx n hw (λto=>.o [to]) eQ i.ts β h;cases s with|cons _ _=>cases h|nil=>cases D with|cons _ _=>exact p.elim|nil=>
 rw [List.append_nil]at m;subst m;obtain⟨z,B,F,h,q,U,H⟩:=mR hty I n hw j (r+1) E io h c;refine⟨(x,z),B++(A++X),v::F,by grind,⟨Y,q⟩,by grind,λw' o' hp f=>⟨?_,H w' o' hp λu G=>f u (by grind)⟩⟩;have M:=hV w' o' hp λu G=>f u (by grind);unfold yk;rcases W with⟨N,rfl,_⟩|⟨N,rfl,_⟩|⟨N,id,b,base,rfl,rfl,π⟩;·grind
 ·grind
 · simp only [N];refine⟨b,base,rfl,eK i.ts M λk u J=>?_⟩;obtain⟨δ,κ⟩:=π k u J;rcases br.mv (f (.mv id (64*r)) (by simp)) with⟨_,e,f⟩|⟨e,_⟩;· simp_all
   grind|i::j,r,[],[],d,us,R,K,y,h,c=>by simp [na]at h|i::j,r,[],id::io,[],us,R,K,y,h,c=>c.elim|i::j,r,[],.bx _::io,.vs _::d,us,R,K,y,h,c=>c.1.elim|i::j,r,[],.cv _::io,.bx _ _::d,us,R,K,y,h,c=>c.1.elim|i::j,r,[],.cv cs::io,.vs l::d,us,R,K,y,h,c=>by simp only [na]at h;have L:cc P w g st.mu cs l:=c.1;obtain⟨x,s,A,S,D,h,m,p,O,hV⟩:=fx n hw (λto=>.o [to]) eQ i.ts L h;cases s with|cons _ _=>cases h|nil=>cases D with|cons _ _=>exact p.elim|nil=>rw [List.append_nil]at m;subst m;obtain⟨z,B,F,h,q,U,H⟩:=mR hty I n hw j (r+1) [] io h c.2;cases F with|cons _ _=>exact q.elim|nil=>refine⟨(x,z),B++A,[],by grind,trivial,by grind,λw' o' hp f=>⟨?_,H w' o' hp λu G=>f u (by grind)⟩⟩;exact hV w' o' hp λu G=>f u (by grind)
 |i::j,r,[],.bx id::io,.bx θ μ::d,us,R,K,y,h,c=>by simp only [na] at h;cases V:st.mu id with|none=>grind|some bl=>
 have Z:=n id bl V;cases bl<;>simp only [V] at h<;>try (cases h;done)
 case box cs=>obtain⟨b',ρ,α,L⟩:=Z;have e:g.c id=.box θ μ:=c.1;rw [α] at e;simp only [fM.box.injEq] at e;obtain⟨vs,ε,γ⟩:=jU (P:=P) (mu:=st.mu) cs L;obtain⟨x,s,A,S,D,h,m,p,O,hV⟩:=fx n hw (λto=>.o [to]) eQ i.ts ε h;cases s with|cons _ _=>cases h|nil=>cases D with|cons _ _=>exact p.elim|nil=>rw [List.append_nil] at m;subst m;obtain⟨z,B,F,h,q,U,H⟩:=mR hty I n hw j (r+1) [] io h c.2;cases F with|cons _ _=>exact q.elim|nil=>
 refine⟨(x,z),B++(A++[.mv id (64*r)]),[],by grind,trivial,by grind,λw' o' hp f=>⟨?_,H w' o' hp λu G=>f u (by grind)⟩⟩;have M:=hV w' o' hp λu G=>f u (by grind);rw [<-e.1,<-e.2];refine eK i.ts M λk u J=>?_;obtain⟨δ,κ⟩:=γ k u J;rcases br.mv (f (.mv id (64*r)) (by simp)) with⟨_,e,f⟩|⟨e,_⟩;· simp_all
 grind
variable{nt:Nat}{w0:World}{o0:Nat->Nat->ax}{c0:Nat->fM}
def eN(P:Program)(fn:Func)(aX:List bX)(b:List Bk)(w0:World)(o0:Nat->Nat->ax)(z:GD aX)(a:Act)(w:World):Prop:=a.defers=[]/\∃vs o',(results fn a.tmps).run P w=.ok (lU vs) w/\vs.length+b.length=aX.length/\Fr w0 o0 w o'/\Wf w o'/\iW P w o' aX 0 z vs b
def CV.S0(P:Program)(w:World)(o:Nat->Nat->ax)(c0:Nat->fM):CV->Value->Prop|.int k n,v=>v=.int k n|.bool b,v=>v=.bool b|.str s,v=>v=.string s|.ro es xs,v=>(Ty.sl es).H P w o .sh .p xs v|.qy sh e d h,v=>(Ty.fn sh e d).H P w o .sh .p h v|.own id,v=>c0 id=.row v/\∃a n c,v=.slice a n c|_,_=>False
def CE(P:Program)(w:World)(o:Nat->Nat->ax)(c0:Nat->fM):Tg->Bk->Prop|.bx id,.bx b off=>c0 id=.box b off|.cv cs,.vs l=>aq (CV.S0 P w o c0) cs l|_,_=>False
def jL:List CV->List Nat|[]=>[]|.own id::r=>id::jL r|_::r=>jL r
def fK:List Tg->List Nat|[]=>[]|.bx id::r=>id::fK r|.cv cs::r=>jL cs++fK r
theorem Bs{mu:Mu}{e:List Nat}(hp:aj w0 o0 w g.o)(hw:Wf w0 o0)(b:∀id∈e,g.c id=c0 id/\mu id≠none):∀{cs:List CV}{l:List Value},(∀id∈jL cs,id∈e)->aq (CV.S0 P w0 o0 c0) cs l->cc P w g mu cs l
 |[],[],_,_=>trivial|[],_::_,_,h=>h.elim|_::_,[],_,h=>h.elim|c::cs,v::l,d,h=>by
  have f:cc P w g mu cs l:=Bs hp hw b (λid o=>d id (by cases c<;>simp[jL,o])) h.2;refine⟨?_,f⟩;have a:=h.1;cases c<;>try (exact a.elim;done)
  case int=>exact a
  case bool=>exact a
  case str=>exact a
  case ro es xs=>exact ck hp hw (.sl es) .sh .p .p xs v rfl a
  case qy sh m n k=>exact ck hp hw (.fn sh m n) .sh .p .p k v rfl a
  case own id=>obtain⟨i,j⟩:=b id (d id (by simp[jL]));exact⟨j,i.trans a.1,a.2⟩
theorem xy{mu:Mu}{f:List Nat}(hp:aj w0 o0 w g.o)(hw:Wf w0 o0)(d:∀id∈f,g.c id=c0 id/\mu id≠none):∀{io:List Tg}{c:List Bk},(∀id∈fK io,id∈f)->aq (CE P w0 o0 c0) io c->aq (CD P w g mu) io c|[],[],_,_=>trivial|[],_::_,_,h=>h.elim|_::_,[],_,h=>h.elim|.bx id::io,.bx b off::c,a,h=>⟨(d id (a id (by simp[fK]))).1.trans h.1,xy hp hw d (λid e=>a id (by grind[fK])) h.2⟩|.cv cs::io,.vs l::c,a,h=>⟨Bs hp hw d (λid e=>a id (by simp[fK,e])) h.1,xy hp hw d (λid e=>a id (by simp[fK,e])) h.2⟩|.bx _::_,.vs _::_,_,h=>h.1.elim|.cv _::_,.bx _ _::_,_,h=>h.1.elim
theorem xz(hty:∀t j,C.ty t=some j->fL P t=some j)(p:Wf w0 o0){fn:Func}{ins aX:List bX}{x:GD ins}{c:List Bk}(n:aq (CE P w0 o0 c0) (bZ ins 0 x) c){R:Type}(st:St) (K:GD aX->Option R) (y:R) (a:Act) (w:World) (g:Gh)(r:bz P nt w0 o0 (fK (bZ ins 0 x)) c0 st.nx st a w g) (h:yj C fn ins aX x st K=some y):∃z,K z=some y/\eN P fn aX c w0 o0 z a w:=by have i:aq (CD P w g st.mu) (bZ ins 0 x) c:=xy r.dB.fr.dK p (λid m=>r.io id m) (λ_ h=>h) n;unfold yj at h;obtain⟨z,d,vs,h,f,u,B⟩:=mR (a:=a) hty r.dB.env r.dB.dr r.dB.wf aX 0 _ _ h i;rw[List.append_nil]at h;cases l:aP d with|false=>grind|true=>
 rw[l]at h;have q:∀id s,fF 0 d id s≠.o []:=by grind [fF,aS,ax.o.injEq,ax.ctorIdx]
 refine⟨z,h,r.df,vs,(iF 0 d [] g).o,tP f,?_,r.dB.fr.trans r.dB.wf ?_,⟨λb k π h=>?_,λb k=>uu q⟩,B w _ oQ (mg l)⟩;·rw [<-u,<-f.length,i.length]
 ·refine⟨rfl,rfl,rfl,Nat.le_refl _,λ_ _ _=>rfl,λb k v e D=>⟨e,?_⟩,λb k v e=>⟨v,e⟩,λ_ _ _=>rfl⟩;simp_all [Gh.o,iF,ax.casesOn,re,fF]
 ·obtain⟨id,s,A,_⟩:=tu h;exact r.dB.wf.cell b k _ A
end
end Go.Tm
namespace Go.Tm
open Go
section
variable{P:Program}{C:Ctx}{w:World}{o:Nat->Nat->ax}
def kQ(P:Program)(w:World)(o:Nat->Nat->ax)(tv:Nat->List Value)(a:Nat->Nat×Nat):(d:List bX)->(m:Nat)->GD d->List Value->Prop|[],_,_,vs=>vs=[]|g::d,m,x,vs=>∃v r,vs=v::r/\(match g.k with|.c=>g.ts.Vs P w o g.ms (λj=>.o [j]) (64*m+1) x.1 (tv m)/\tv m=[v]|.agg=>g.ts.Vs P w o g.ms (λj=>.o [j]) (64*m+1) x.1 (tv m)/\v=.agg (tv m).toArray|.rp=>∃b base,v=.pointer (some ⟨b,base,none⟩)/\g.ts.Hs P w o [] .p (λ_=>.p) 0 x.1 b base|.io=>g.ts.Vs P w o g.ms (λj=>.o [j]) (64*m+1) x.1 (tv m)/\v=.pointer (some ⟨(a m).1,(a m).2,none⟩)/\∀k u,(tv m)[k]?=some u->w.cell? ⟨(a m).1,(a m).2+k,none⟩=some u/\o (a m).1 ((a m).2+k)=.o [64*m]|.np=>False|.wc=>g.ts.Vs P w o g.ms (λj=>.o [j]) (64*m+1) x.1 (tv m)/\tv m=[v]|.wa=>g.ts.Vs P w o g.ms (λj=>.o [j]) (64*m+1) x.1 (tv m)/\v=.agg (tv m).toArray)/\kQ P w o tv a d (m+1) x.2 r
theorem kQ.congr{tv b:Nat->List Value}{e c:Nat->Nat×Nat}:∀(a:List bX)(m:Nat){x:GD a}{vs:List Value},(∀i,m<=i->b i=tv i/\c i=e i)->kQ P w o tv e a m x vs->kQ P w o b c a m x vs|[],_,_,_,_,h=>h|g::a,m,x,vs,d,h=>by obtain⟨v,r,rfl,k,f⟩:=h;have j:=d m (Nat.le_refl _);refine⟨v,r,rfl,?_,kQ.congr a (m+1) (λi l=>d i (by omega)) f⟩;grind
theorem sk:∀(e:List bX)(m:Nat){x:GD e}{vs:List Value},lT P w o e m x vs->∃tv j,kQ P w o tv j e m x vs
 |[],_,_,_,h=>⟨λ_=>[],λ_=>(0,0),h⟩|g::e,m,x,vs,h=>by
  obtain⟨v,r,rfl,d,k⟩:=h;obtain⟨tv,j,q⟩:=sk e (m+1) k;have f:∀(l:List Value)(p:Nat×Nat),kQ P w o (λi=>if i=m then l else tv i) (λi=>if i=m then p else j i) e (m+1) x.2 r:=λl p=>kQ.congr e (m+1) (λi y=>⟨by grind,by grind⟩) q;unfold lA at d;cases s:g.k<;>simp only[s]at d;case c=>exact⟨_,_,v,r,rfl,by grind,f [v] (0,0)⟩
  case agg=>obtain⟨a,rfl,d⟩:=d;exact⟨_,_,_,r,rfl,by grind,f a.toList (0,0)⟩
  case wc=>exact⟨_,_,v,r,rfl,by grind,f [v] (0,0)⟩
  case wa=>obtain⟨a,rfl,d⟩:=d;exact⟨_,_,_,r,rfl,by grind,f a.toList (0,0)⟩
  case rp=>exact⟨_,_,v,r,rfl,by grind,f [] (0,0)⟩
  case io=>obtain⟨b,base,rfl,d⟩:=d;obtain⟨n,t,u⟩:=eJ _ d;exact⟨_,_,_,r,rfl,by grind,f n (b,base)⟩
def cO(mu:Mu)(o:Nat->Nat->ax):Nat->Nat->ax:=λb k=>match o b k with
 |.o (id::s)=>match mu id with|some _=>.o (id::s)|none=>.x
 |q=>q
theorem vL{mu:Mu}(hw:Wf w o){b k:Nat}:cO mu o b k≠.o []:=by cases e:o b k with|x=>simp [cO,e]|p=>simp [cO,e]|o π=>cases π with|nil=>exact absurd e (hw.ne b k)|cons id s=>cases a:mu id<;>simp [cO,e,a]
theorem oW{mu:Mu}{id:Nat}(h:mu id≠none):Rl w o w (cO mu o) (.o [id]) (.o [id]):=by refine .inl ⟨[id],rfl,λb k s v a ho=>⟨a,?_⟩⟩;grind [cO]
theorem mq{mu:Mu}:aj w o w (cO mu o):=λb k v a ho=>⟨a,by grind[cO]⟩
theorem mr:∀(a:List bX)(m:Nat){x:GD a}{id:Nat}{b:av},(∀g∈a,g.ts.len<=62)->(id,b)∈bU a m x->64*m<=id/\id<64*(m+a.length)
 |[],m,x,id,b,_,h=>by cases h|g::a,m,x,id,b,c,h=>by
  have d:=c g (by simp);simp only[bU]at h;rcases List.mem_append.1 h with h|h
  · have e:(id,b)∈aA g.ts g.ms (64*m+1) x.1->64*m<=id/\id<64*(m+(g::a).length):=λh=>by have :=cn _ h;grind
    unfold bf at h;grind
  · have :=mr a (m+1) (λg d=>c g (by grind)) h;grind
theorem lN{c0:Nat->fM}:∀(ts:af){ms:List Md}{k:Nat}{x:ts.D}{vs:List Value},gb ts ms=true->ts.Vs P w o ms (λj=>.o [j]) k x vs->(∀i,i<ts.len->c0 (k+i)=.row (vs.getD i undef))->aq (CV.S0 P w o c0) (bc ts ms k x) vs
 |.nil,_,_,_,_,_,h,_=>by cases (h:_=[]);trivial|.cons t ts,ms,k,x,vs,f,h,l=>by
  obtain⟨v,r,rfl,b,n⟩:=h;simp only [gb,Bool.and_eq_true]at f;simp only [bc];refine⟨?_,lN ts f.2 n λi q=>?_⟩;·have g:=l 0 (by simp [af.len]);simp only [Nat.add_zero,List.getD_cons_zero]at g;cases d:cy ms with
  |sh=>rw [d]at b;cases t with|int _=>exact b|bool=>exact b|str=>exact b|sl es=>exact mE _ b|fn _ _ _=>exact mE _ b
  |own m=>rw [d]at b;have p:=f.1;simp only [d]at p;cases t with|sl es=>obtain⟨a,c,e,_⟩:=bI.1 b;exact⟨g,a,_,c,e⟩|int _=>grind|bool=>grind|str=>grind|fn _ _ _=>grind
  ·have :=l (i+1) (by grind [af.len]);grind
theorem oX{mu:Mu}{g:Gh}{tv:Nat->List Value}{K:Nat->Nat×Nat}(hw:Wf w o)(ho:g.o=cO mu o):∀(n:List bX)(m:Nat){x:GD n}{vs:List Value},kQ P w o tv K n m x vs->(∀a∈n,a.ts.len<=62/\gb a.ts a.ms=true)->(∀id b,(id,b)∈bU n m x->mu id≠none)->(∀s i,m<=s->s<m+n.length->i<62->g.c (64*s+1+i)=.row ((tv s).getD i undef))->(∀s,m<=s->s<m+n.length->g.c (64*s)=.box (K s).1 (K s).2)->(∀id b,(id,b)∈bU n m x->b.R P w g mu id)/\(∀k v,vs[k]?=some v->(dJ n m x (m+k)).R P w g mu v)/\(∀k,vs.length<=k->dJ n m x (m+k)=.un)/\vs.length=n.length/\aq (CE P w o g.c) (bZ n m x) (aK n vs)
 |[],m,x,vs,h,_,_,_,_=>by cases (h:vs=[]);exact⟨by simp[bU],by simp,λ_ _=>rfl,rfl,trivial⟩|a::n,m,x,vs,h,M,Q,I,N=>by
  obtain⟨v,r,rfl,f,J⟩:=h;obtain⟨α,D⟩:=M a (by simp);have G:=N m (Nat.le_refl _) (by simp);obtain⟨κ,δ,μ,γ,B⟩:=oX hw ho n (m+1) J (λg ε=>M g (by grind)) (λid b q=>Q id b (by simp_all[bU,bf,af.D,bX.ts,GD])) (λs i f J=>I s i (by omega) (by grind)) (λs f J=>N s (by omega) (by grind));have C:a.ts.Vs P w o a.ms (λj=>.o [j]) (64*m+1) x.1 (tv m)->(∀id b,(id,b)∈aA a.ts a.ms (64*m+1) x.1->mu id≠none)->cc P w g mu (bc a.ts a.ms (64*m+1) x.1) (tv m)/\∀id b,(id,b)∈aA a.ts a.ms (64*m+1) x.1->b.R P w g mu id:=by
   intro hV β;have U:a.ts.Vs P w g.o a.ms (λj=>.o [0+j]) (64*m+1) x.1 (tv m):=by rw [ho];refine nq (cl:=false) hw (λ_=>mq) (pf:=λj=>[j]) (pf':=λj=>[0+j]) a.ts (by simp) (λi F L=>?_) hV;obtain⟨md,L⟩:=L;obtain⟨b,q⟩:=eu a.ts (k:=64*m+1) (x:=x.1) D F L;grind [Rl,cO,oW]
   have :=gJ (mu':=mu) (idb:=0) a.ts D U (by grind) (λi F=>by grind);grind
  have env:∀(H:TV),fO m a x.1=H->H.R P w g mu v->(∀k u,(v::r)[k]?=some u->(dJ (a::n) m x (m+k)).R P w g mu u):=by intro H e X k u d;simp only [dJ];cases k with|zero=>simp at d;subst d;show TV.R P w g mu (bW _ m _ m) v;rw [aT,e];exact X|succ k=>rw [bu _ _ (by omega),show m+(k+1)=m+1+k by omega];grind
  have z:∀k,(v::r).length<=k->dJ (a::n) m x (m+k)=.un:=by intro k d;simp only [dJ];simp only [List.length_cons]at d;rw [bu _ _ (by omega),show m+k=m+1+(k-1) by omega];grind
  have y:∀id b,(id,b)∈bf m a x.1->mu id≠none:=λid b q=>Q id b (by simp_all [bU,bf,af.D,bX.ts,GD]);have A:(∀id b,(id,b)∈bf m a x.1->b.R P w g mu id)->∀id b,(id,b)∈bU (a::n) m x->b.R P w g mu id:=λh id b q=>by simp only [bU]at q;grind
  cases d:a.k with
 |c=>
 simp only [d]at f;have t:bf m a x.1=aA a.ts a.ms (64*m+1) x.1:=by unfold bf;rw [d]
 obtain⟨l,E⟩:=C f.1 (λid b q=>y id b (by grind));rw [f.2]at l;refine⟨A (by grind),?_,z,by grind,by simp only [bZ,aK,d];exact B⟩;match T:bc a.ts a.ms (64*m+1) x.1,l with|[cv],l=>exact env (.c cv) (by unfold fO;grind) l.1|[],l=>exact l.elim|_::_::_,l=>exact l.2.elim
 |agg=>
 simp only [d]at f;have t:bf m a x.1=aA a.ts a.ms (64*m+1) x.1:=by unfold bf;rw [d]
 obtain⟨l,E⟩:=C f.1 (λid b q=>y id b (by grind));exact⟨A (by grind),env (.agg _) (by unfold fO;rw [d]) ⟨_,f.2,by omega⟩,z,by grind,by simp only [bZ,aK,d];exact B⟩|rp=>
 simp only [d]at f;obtain⟨b,base,rfl,f⟩:=f;have t:bf m a x.1=[]:=by unfold bf;rw [d]
 refine⟨A (by grind),env (.c (.eO a.ts x.1 0)) (by unfold fO;rw [d]) ⟨b,base,rfl,?_⟩,z,by grind,by simp only [bZ,aK,d];exact B⟩;rw [ho];exact fu mq hw a.ts [] .p .p (λ_=>.p) (λ_=>.p) 0 x.1 b base rfl (λ_=>rfl) f|io=>
 simp only [d]at f;obtain⟨hV,rfl,S⟩:=f;have t:bf m a x.1=(64*m,.box (bc a.ts a.ms (64*m+1) x.1))::aA a.ts a.ms (64*m+1) x.1:=by unfold bf;rw [d]
 obtain⟨l,E⟩:=C hV (λid b q=>y id b (by grind));have O:=y (64*m) _ (by rw [t];exact List.mem_cons_self);refine⟨A ?_,env (.c (.ptr (64*m) 0)) (by unfold fO;rw [d]) ⟨O,_,_,G,rfl⟩,z,by grind,by simp only [bZ,aK,d];exact⟨G,B⟩⟩;rw [t];intro id b q;rcases List.mem_cons.1 q with q|q
 · cases q;refine⟨_,_,G,λj cv Y=>?_⟩;obtain⟨u,W,V⟩:=aq.get j cv l Y;obtain⟨Z,θ⟩:=S j u W;refine⟨u,Z,?_,V⟩;rw [ho];rcases oW (w:=w) (o:=o) O with⟨_,e,h⟩|⟨e,_⟩;· simp_all
   grind
 grind|np=>grind|wc=>
 simp only [d]at f;have t:bf m a x.1=aA a.ts a.ms (64*m+1) x.1:=by unfold bf;rw [d]
 obtain⟨l,E⟩:=C f.1 (λid b q=>y id b (by grind));have hS:=lN (c0:=g.c) a.ts D f.1 (λi F=>I m i (Nat.le_refl _) (by simp) (by omega));rw [f.2]at l hS;refine⟨A (by grind),?_,z,by grind,by simp only [bZ,aK,d];exact⟨hS,B⟩⟩;match T:bc a.ts a.ms (64*m+1) x.1,l with|[cv],l=>exact env (.c cv) (by unfold fO;grind) l.1|[],l=>exact l.elim|_::_::_,l=>exact l.2.elim
 |wa=>
 simp only [d]at f;have t:bf m a x.1=aA a.ts a.ms (64*m+1) x.1:=by unfold bf;rw [d]
 obtain⟨l,E⟩:=C f.1 (λid b q=>y id b (by grind));have hS:=lN (c0:=g.c) a.ts D f.1 (λi F=>I m i (Nat.le_refl _) (by simp) (by omega));obtain⟨hV,rfl⟩:=f;exact⟨A (by grind),env (.agg _) (by unfold fO;rw [d]) ⟨_,rfl,by omega⟩,z,by grind,by simp only [bZ,aK,d];exact⟨(show aq (CV.S0 P w o g.c) _ (tv m).toArray.toList by omega),B⟩⟩
theorem BX{f:Nat}{fn:Func}{d:zi}(hm:P.follows .mixedOrders=true)(hty:∀t Z,C.ty t=some Z->fL P t=some Z)(φ:gF P C)(hf:P.funcs[f]?=some fn)(δ:∀x,AW C fn d.ins d.aX x=d.f x):nh P f d:=by intro w o args x y τ γ hw;have B:=(δ x).trans τ;unfold AW at B;cases l:fn.body with|none=>grind|some c=>rw[l]at B;dsimp only at B;cases u:(sQ d.ins&&Nat.ble d.ins.length fn.ntmps&&Nat.beq fn.ntmps C.nt)with|false=>grind|true=>
 rw[u]at B;simp only[cond_true]at B;simp only[Bool.and_eq_true]at u;obtain⟨⟨θ,X⟩,W⟩:=u;have X:=Nat.le_of_ble_eq_true X;have W:=Nat.eq_of_beq_eq_true W;obtain⟨ad,H⟩:=uj θ;obtain⟨tv,β,ht⟩:=sk d.ins 0 γ;let mu:Mu:=au cY (bU d.ins 0 x);let g:Gh:=⟨cO mu o,λid=>if id%64=0 then .box (β (id/64)).1 (β (id/64)).2 else .row ((tv (id/64)).getD (id%64-1) undef)⟩;obtain⟨s1,ψ,s3,s4,Q⟩:=oX (P:=P) (mu:=mu) (g:=g) hw rfl d.ins 0 ht (λn G=>⟨(H n G).1,(H n G).2⟩) (λid b l=>dv l) (λm' i _ α I=>by grind) (λm' _ _=>by grind);have ab:args.toArray.size=args.length:=by simp
 have r0:bz P C.nt w o (fK (bZ d.ins 0 x)) g.c (mJ d.ins x).nx (mJ d.ins x) {tmps:=args.toArray++Array.replicate (fn.ntmps-args.toArray.size) undef,defers:=[]} w g:=by
  refine⟨⟨?_,λt=>?_,λid b l=>?_,⟨λb k π h=>?_,λb k=>vL hw⟩,λb k id s h=>?_,?_⟩,rfl,λid N=>?_,λid N=>⟨rfl,?_⟩⟩;·grind
  · have M:(dJ d.ins 0 x (0+t)).R P w g mu ((args.toArray++Array.replicate (fn.ntmps-args.toArray.size) undef).getD t undef):=by
     rcases Nat.lt_or_ge t args.length with h|h;· refine ψ t _ ?_;rw[Array.getD_eq_getD_getElem?,Array.getElem?_append_left (by omega)];simp[h]
     · rw[s3 t h];trivial
    rw[Nat.zero_add]at M;exact M
  · rcases aW l with l|⟨_,l⟩;· exact s1 id b l
    · cases l
  · have h:cO mu o b k=.o π:=h;unfold cO at h;split at h
    · rename_i id s e;split at h;· cases h;exact hw.cell b k _ e
      grind
    · exact hw.cell b k _ h
  · have h:cO mu o b k=.o (id::s):=h;show mu id≠none;cases e:o b k with|x=>simp[cO,e]at h|p=>simp[cO,e]at h|o π=>grind[cO,ax.o.injEq,ax.ctorIdx]
  · refine⟨rfl,rfl,rfl,Nat.le_refl _,λ_ _ _=>rfl,λb k v O hn=>⟨O,?_⟩,λb k v O=>⟨v,O⟩,λ_ _ _=>rfl⟩;show cO mu o b k=o b k;grind[cO]
  · show mu id=none;have :mu id=cY id:=aD λb l=>by have E:1*2048<=id:=N;have :=mr d.ins 0 (λn G=>(H n G).1) l;omega
    grind[cY]
  · have ρ:∀(ts:af) (ms:List Md) (k:Nat) (y:ts.D) (id:Nat),gb ts ms=true->id∈jL (bc ts ms k y)->∃b,(id,b)∈aA ts ms k y:=by intro ts;induction ts using af.rec (motive_1:=λ_=>True) with
    |nil=>intro ms k y id _ h;cases h|cons t ts _ J=>
    intro ms k y id D h;simp only[gb,Bool.and_eq_true]at D;have U:id∈jL (bc ts (cW ms) (k+1) y.2)->∃b,(id,b)∈aA (.cons t ts) ms k y:=λh=>by grind[aA,cW,Ty.D,af.D,cy,gb,cZ]
    simp only[bc]at h;cases L:cy ms with|sh=>rw[L]at h;refine U ?_;cases t<;>exact h|own m=>
    rw[L]at h;simp only[jL]at h;rcases List.mem_cons.1 h with h|h;· subst h;have I:=D.1;simp only[L]at I;cases t with|sl es=>grind[aA,Ty.D,af.D,cW,cZ,cy]|int _=>grind|bool=>grind|str=>grind|fn _ _ _=>grind
    grind|_=>trivial
    have ε:∀(j:List bX) (m:Nat) (x:GD j) (id:Nat),(∀g∈j,gb g.ts g.ms=true)->id∈fK (bZ j m x)->∃b,(id,b)∈bU j m x:=by intro j;induction j with|nil=>intro m x id _ h;cases h|cons n j J=>
     intro m x id D h;have U:id∈fK (bZ j (m+1) x.2)->∃b,(id,b)∈bU (n::j) m x:=λh=>by obtain⟨b,l⟩:=J (m+1) x.2 id (λg u=>D g (by grind)) h;exact⟨b,by simp_all[bU,bf,af.D,bX.ts,GD]⟩
     have aa:n.k≠.rp->n.k≠.io->id∈jL (bc n.ts n.ms (64*m+1) x.1)->∃b,(id,b)∈bU (n::j) m x:=λE α h=>by obtain⟨b,l⟩:=ρ _ _ _ _ _ (D n (by simp)) h;refine⟨b,?_⟩;simp only[bU];refine List.mem_append_left _ ?_;simp_all[bf,af.D,bX.ts,GD,bX.k,bc,bX.ms,aA]
     simp only[bZ]at h;split at h
     · rename_i F;simp only[fK]at h;rcases List.mem_cons.1 h with h|h;· subst h;exact⟨_,by simp only[bU,bf,F];exact List.mem_append_left _ List.mem_cons_self⟩
       grind
     · rename_i F;simp only[fK]at h;grind
     · rename_i F;simp only[fK]at h;grind
     grind
    obtain⟨b,l⟩:=ε d.ins 0 x id (λg u=>(H g u).2) N;exact dv l
 have κ:=eV (Y:=GD d.aX) (eN:=eN P fn d.aX (aK d.ins args) w o) (w0:=w) (o0:=o) (io:=fK (bZ d.ins 0 x)) (c0:=g.c) hm hty φ rfl (λst K y a w' g' r h=>xz hty hw Q st K y a w' g' r h) c id (mJ d.ins x) _ _ y _ w g B r0;refine calls_of_wp hf l (Code.wp_mono ?_ κ);have V:∀(q:Act) (w':World),eN P fn d.aX (aK d.ins args) w o y q w'->q.defers=[]/\∃v,(results fn q.tmps).run P w'=.ok v w'/\∃vs o',Ending.returned v=.returned (lU vs)/\vs.length=gg d/\Fr w o w' o'/\Wf w' o'/\iW P w' o' d.aX 0 y vs (aK d.ins args):=by
  rintro q w'⟨hd,vs,o',E,α,I,ω,h5⟩;refine⟨hd,_,E,vs,o',rfl,?_,I,ω,h5⟩;have σ:(aK d.ins args).length=(d.ins.filter λg=>qz g.k).length:=by
   rw[<-Q.length];have M:∀(j:List bX) (m:Nat) (x:GD j),(bZ j m x).length=(j.filter λg=>qz g.k).length:=by intro j;induction j with|nil=>intro m x;rfl|cons n j J=>intro m x;simp only[bZ];cases F:n.k<;>simp[F,qz,J]
   grind
  have e:gg d=d.aX.length-(aK d.ins args).length:=congrArg (d.aX.length-·) σ.symm;omega
 rintro e q w' A;cases e with|normal=>obtain⟨μ,g',E,r1,_⟩:=A;obtain⟨z,T,S⟩:=xz hty hw Q μ some y q w' g' r1 E;cases T;exact V q w' S|ret=>obtain⟨z,T,S⟩:=A;cases (T:z=y);exact V q w' S|exit _=>obtain⟨_,_,h,_⟩:=A;cases h|goto _=>exact A.elim|panic _=>exact A.elim|outgrown=>exact A.elim
end
theorem AA{P:Program}{f:Nat}{ins aX:List bX}:nh P f ⟨ins,aX,λ_=>none⟩:=λw o args x y h=>by cases h
theorem Bt{P:Program}{f:Nat}{ins aX:List bX}{R:Nat->GD ins->Option (GD aX)}(h:∀k,nh P f ⟨ins,aX,R k⟩):nh P f ⟨ins,aX,sY R⟩:=by intro w o args x y a;obtain ⟨k,b⟩:=oA a;exact h k w o args x y b
end Go.Tm
namespace Go.Tm
open Go
def af.app:af->af->af|.nil,b=>b|.cons t ts,b=>.cons t (ts.app b)
def uI:(a b:af)->a.D->b.D->(a.app b).D|.nil,_,_,y=>y|.cons _ ts,b,x,y=>(x.1,uI ts b x.2 y)
def iy(P:Program)(r:TypeId->Option af):List Field->Nat->Option af|[],_=>some .nil|f::c,off=>match r f.type with|none=>none|some a=>match iy P r c (off+a.len)with|none=>none|some b=>bif Nat.beq f.offset off&&Nat.beq (P.cellsOf f.type) a.len then some (a.app b)else none
def dy(P:Program):Nat->TypeId->Option af|0,_=>none|n+1,t=>match P.underlying t with
 |some .bool=>some (.cons .bool .nil)|some (.int k)=>some (.cons (.int k) .nil)|some .string=>some (.cons .str .nil)|some (.slice e)=>match dy P n e with|some es=>bif Nat.beq (P.cellsOf e) es.len&&Nat.blt 0 es.len then some (.cons (.sl es) .nil)else none|none=>none
 |some (.struct a)=>match iy P (dy P n) a.toList 0 with|some ts=>bif Nat.beq (P.cellsOf t) ts.len then some ts else none|none=>none
 |_=>none
mutual def Ty.Ok:(t:Ty)->t.D->Prop|.int k,n=>(Lit.int k n).wf=true|.bool,_=>True|.str,s=>s.size<=maxLen|.sl es,xs=>List.length (α:=es.D) xs<=maxLen/\∀i x,aC (α:=es.D) xs i=some x->es.Ok x|.fn _ _ _,_=>False def af.Ok:(ts:af)->ts.D->Prop|.nil,_=>True|.cons t ts,x=>t.Ok x.1/\ts.Ok x.2 end
theorem uJ:∀(a b:af),(a.app b).len=a.len+b.len|.nil,b=>by simp[af.app,af.len]|.cons _ ts,b=>by simp[af.app,af.len,uJ ts b];omega
section
variable{P:Program}{w:World}
def iJ:Nat->Nat->ax:=λ_ _=>.p
theorem xA{qf:Nat->ax}:∀(a b:af){x:a.D}{y:b.D}{vs us:List Value},a.Vs P w iJ [] (λ_=>.p) 0 x vs->b.Vs P w iJ [] (λ_=>.p) 0 y us->(a.app b).Vs P w iJ [] (λ_=>.p) 0 (uI a b x y) (vs++us)|.nil,b,x,y,vs,us,h,k=>by cases(h:vs=[]);exact k|.cons t ts,b,x,y,vs,us,h,k=>by obtain⟨v,r,rfl,e,d⟩:=h;have c:ts.Vs P w iJ [] (λ_=>.p) 0 x.2 r:=kE ts d;have :=xA (qf:=qf) ts b c k;exact⟨v,r++us,rfl,e,kE _ this⟩
theorem xB:∀(a b:af){x:a.D}{y:b.D},a.Ok x->b.Ok y->(a.app b).Ok (uI a b x y)|.nil,_,_,_,_,k=>k|.cons _ ts,b,_,_,h,k=>⟨h.1,xB ts b h.2 k⟩
theorem my{α:Type}{p:Nat->α->Prop}:∀(n:Nat),(∀i,i<n->∃x,p i x)->∃xs:List α,xs.length=n/\∀i x,xs[i]?=some x->p i x|0,_=>⟨[],rfl,by simp⟩|n+1,h=>by obtain⟨xs,d,b⟩:=my n λi a=>h i (by omega);obtain⟨x,c⟩:=h n (by omega);refine⟨xs++[x],by grind,λi y a=>?_⟩;grind
theorem yU{H:Type}{enc:TypeId×Value->H}{E:Nat->Bool}{I:Bool}:∀(n:Nat)(t:TypeId)(ts:af)(C:Nat)(cs:List Value){y:DataW H×List MemPlace},dy P n t=some ts->DataW.trod enc P w 0 E I C t cs=some y->∃x:ts.D,ts.Vs P w iJ [] (λ_=>.p) 0 x cs/\ts.Ok x:=by intro n;induction n with|zero=>intro t ts C cs y h _;simp [dy]at h|succ n Q=>intro t ts C cs y h r;unfold dy at h;cases o:P.underlying t with|none=>grind|some d=>
 simp only [o]at h;cases d<;>simp only at h<;>try grind
 case bool=>cases h;obtain⟨b,rfl,_⟩:=DataW.trod_bool o r;exact⟨(b,()),⟨_,[],rfl,rfl,rfl⟩,trivial,trivial⟩
 case int k=>cases h;obtain⟨m,rfl,_,hw⟩:=DataW.trod_int o r;exact⟨(m,()),⟨_,[],rfl,rfl,rfl⟩,hw,trivial⟩
 case string=>cases h;obtain⟨s,rfl,_,τ⟩:=DataW.trod_string o r;exact⟨(s,()),⟨_,[],rfl,rfl,rfl⟩,τ,trivial⟩
 case slice e=>cases R:dy P n e with|none=>grind|some es=>simp only [R]at h;cases q:(Nat.beq (P.cellsOf e) es.len&&Nat.blt 0 es.len)with|false=>grind|true=>
  rw [q]at h;cases h;simp only [Bool.and_eq_true,Nat.blt_eq]at q;have W:=Nat.eq_of_beq_eq_true q.1;rcases DataW.trod_slice o r with⟨rfl,_⟩|⟨a,len,cap,aa,ab,m,_,rfl,_,_,L,φ,ag,G,_⟩;·exact⟨(([]:List es.D),()),⟨_,[],rfl,gD.2 ⟨none,0,rfl,Nat.le_refl _,.inl rfl⟩,rfl⟩,⟨Nat.zero_le _,by intro i x h;simp [aC]at h⟩,trivial⟩
  · have V:∀i,i<len->∃x:es.D,es.Ok x/\a.spot=none/\∃vs,es.Vs P w iJ [] (λ_=>.p) 0 x vs/\∀k u,vs[k]?=some u->w.cell? ⟨a.block,a.off+i*es.len+k,none⟩=some u:=by
     intro i j;have c:=G i j;rw [List.getElem?_eq_getElem (by omega),Option.bind_eq_some_iff]at c;obtain⟨α,β,δ⟩:=c;obtain⟨x,hx,ae⟩:=Q e es m α R δ;obtain⟨_,ε,U⟩:=World.cells?_some β;have F:a.spot=none:=by
      have v:=U 0 (by omega);rw [List.getElem?_eq_getElem (by omega)]at v;have :=World.cell?_spot v;unfold Addr.add at this;by_cases hz:i*P.cellsOf e=0;· grind
      ·have c:=G 0 (by omega);rw [List.getElem?_eq_getElem (by omega),Option.bind_eq_some_iff]at c;obtain⟨ah,X,_⟩:=c;obtain⟨_,ad,T⟩:=World.cells?_some X;have v:=T 0 (by omega);rw [List.getElem?_eq_getElem (by omega)]at v;have :=World.cell?_spot v;simpa [Addr.add]using this
     grind [af.D,af.Ok,af.Vs,iJ,af.len,ew]
    obtain⟨xs,K,z⟩:=my len V;subst K;refine⟨(xs,()),⟨_,[],rfl,gD.2 ⟨some a,cap,rfl,L,?_⟩,rfl⟩,⟨Nat.le_trans L φ,λi x j=>(z i x j).1⟩,trivial⟩;cases Y:xs with|nil=>grind|cons ψ xr=>obtain⟨_,F,_⟩:=z 0 ψ (by grind);refine .inr ⟨a,rfl,F,λi x j=>?_⟩;rw [<-Y]at j;obtain ⟨_,_,vs,c,D⟩:=z i x j;grind [eK,iJ,af.len]
 case struct S=>cases A:iy P (dy P n) S.toList 0 with|none=>grind|some θ=>rw [A]at h;dsimp only at h;cases q:Nat.beq (P.cellsOf t) θ.len with|false=>grind|true=>
 rw [q]at h;cases h;have W:=Nat.eq_of_beq_eq_true q;obtain ⟨xs,m,_,_,ε,K,z⟩:=DataW.trod_struct o r;have γ:∀(l:List Field)(off:Nat)(ts:af),iy P (dy P n) l off=some ts->(∀f∈l,∃y,DataW.trod enc P w 0 E I m f.type ((cs.drop f.offset).take (P.cellsOf f.type))=some y)->off+ts.len=cs.length->∃x:ts.D,ts.Vs P w iJ [] (λ_=>.p) 0 x (cs.drop off)/\ts.Ok x:=by intro l;induction l with|nil=>intro off ts h _ ho;simp only [iy,Option.some.injEq]at h;subst h;refine ⟨(),?_,trivial⟩;show cs.drop off=[];rw [List.drop_eq_nil_iff];simp [af.len]at ho;omega|cons f l Z=>intro off ts h J ho;simp only [iy]at h;cases O:dy P n f.type with|none=>grind|some a=>simp only [O]at h;cases N:iy P (dy P n) l (off+a.len) with|none=>grind|some b=>simp only [N]at h;cases B:(Nat.beq f.offset off&&Nat.beq (P.cellsOf f.type) a.len) with|false=>grind|true=>rw [B]at h;cases h;simp only [Bool.and_eq_true]at B;have ω:=Nat.eq_of_beq_eq_true B.1;have π:=Nat.eq_of_beq_eq_true B.2;rw [uJ]at ho;obtain ⟨y,M⟩:=J f (by simp);rw [ω,π]at M;obtain ⟨μ,c,σ⟩:=Q f.type a m _ O M;obtain ⟨κ,D,ρ⟩:=Z (off+a.len) b N (λg hg=>J g (by grind)) (by omega);refine ⟨uI a b μ κ,?_,xB a b σ ρ⟩;have :=xA (qf:=λ_=>.p) a b c D;rwa [<-List.drop_drop,List.take_append_drop]at this
 obtain ⟨x,c,D⟩:=γ S.toList 0 ts A (λf A=>by obtain ⟨i,j⟩:=List.getElem?_of_mem A;grind) (by omega);grind
def jk(P:Program)(t:Nat->Option zi):Prop:=∀n a,t n=some a->nh P n a/\iU P n
theorem jk.nil:jk P (λ_=>Option.none):=λ_ _ h=>by cases h
theorem jk.leaf{k:Nat}{c:zi}(h:nh P k c/\iU P k):jk P (λn=>bif Nat.beq n k then some c else none):=λn a b=>by cases e:Nat.beq n k with|false=>grind|true=>simp_all
theorem AB{f:Nat}{fn:Func}(b:P.funcs[f]?=some fn)(h:(!(fn.name== "runtime.NumGoroutine")&&fn.body.isSome)=true):iU P f:=by
 intro args w;simp only[Bool.and_eq_true,Bool.not_eq_true']at h;obtain⟨a,d⟩:=h;obtain⟨c,e⟩:=Option.isSome_iff_exists.1 d;have a:fn.name≠ "runtime.NumGoroutine":=by grind
 simp[callFunc,b,a,e]
theorem Bu{L:List (Nat×TI)}(h:L.map (λp=>fL P p.1)=L.map (λp=>some p.2)):∀t a,wj L t=some a->fL P t=some a:=by induction L with|nil=>intro t a h;cases h|cons p L b=>grind[wj,fL,Nat.eq_of_beq_eq_true]
end
end Go.Tm
namespace Go.Tm
open Go
open Go.RowKit(Below)
abbrev zz:bX:=⟨.c,.cons .bool .nil,[]⟩
def OkG:(a:List bX)->GD a->Prop|[],_=>True|g::a,x=>g.ts.Ok x.1/\OkG a x.2
def xC:PK->TypeDesc->Bool|.agg,.struct _=>true|.c,.bool=>true|.c,.int _=>true|.c,.string=>true|.c,.slice _=>true|_,_=>false
def qm(P:Program):List bX->List TypeId->Bool|[],[]=>true|g::a,t::ts=>(match dy P 30 t with|some l=>(af.eq? l g.ts).isSome|none=>false)&&(match g.ms with|[]=>true|_=>false)&&(match P.underlying t with|some d=>xC g.k d|none=>false)&&qm P a ts|_,_=>false
section
variable{P:Program}{W:World}
theorem uK{H:Type}{enc:TypeId×Value->H}{C:Nat->Bool}{E:Bool}:∀(r:List bX)(ts:List TypeId)(m:Nat){vs:List Value}{s:List (DataW H)}{u:List MemPlace},qm P r ts=true->DataW.TrodAll enc P W 0 C E ts vs s u->(∀(j:Nat)t v,ts[j]?=some t->vs[j]?=some v->Value.okWide P W .any 0 t v\/∃base,Value.okWide P W .any base t v)->∃x:GD r,lT P W iJ r m x vs/\OkG r x|[],[],m,vs,s,u,_,h,_=>by obtain⟨rfl,_,_⟩:=ChangeShapes.trodAll_nil h;exact⟨(),rfl,trivial⟩|[],_::_,m,vs,s,u,i,_,_=>by simp[qm]at i|_::_,[],m,vs,s,u,i,_,_=>by simp[qm]at i|g::r,t::ts,m,vs,s,u,i,h,B=>by obtain⟨v,G,d,T,p,q,rfl,rfl,rfl,Q,N⟩:=ChangeShapes.trodAll_cons h;simp only[qm,Bool.and_eq_true]at i;obtain⟨⟨⟨w,U⟩,y⟩,i⟩:=i;obtain⟨O,K,M⟩:=uK r ts (m+1) i N (λj t v V X=>B (j+1) t v (by grind) (by grind));cases A:dy P 30 t with|none=>grind|some l=>rw[A]at w;dsimp only at w;cases R:af.eq? l g.ts with|none=>grind|some e=>obtain⟨e⟩:=e;obtain⟨D,S⟩:=Q;obtain⟨k,J,L⟩:=yU 30 t l D _ A S;obtain⟨z,F,I⟩:=g;cases I with|cons _ _=>grind|nil=>
 clear R w;have e:l=F:=e;subst e;refine⟨(k,O),⟨v,G,rfl,?_,K⟩,L,M⟩;have f:∃base,Value.okWide P W .any base t v:=by
  rcases B 0 t v rfl rfl with h|h;·grind
  omega
 obtain⟨base,f⟩:=f;cases n:P.underlying t with|none=>grind|some d=>
 rw[n]at y;dsimp only at y;unfold lA;have one:v.cells=#[v]->z=.c->(match z with|.c=>l.Vs P W iJ [] (λj=>.o [j]) (64*m+1) k [v]|.agg=>∃a,v=.agg a/\l.Vs P W iJ [] (λj=>.o [j]) (64*m+1) k a.toList|.rp=>∃b base,v=.pointer (some ⟨b,base,none⟩)/\l.Hs P W iJ [] .p (λ_=>.p) 0 k b base|.io=>∃b base,v=.pointer (some ⟨b,base,none⟩)/\l.Hs P W iJ [] (.o [64*m]) (λj=>.o [j]) (64*m+1) k b base|.np=>False|.wc=>l.Vs P W iJ [] (λj=>.o [j]) (64*m+1) k [v]|.wa=>∃a,v=.agg a/\l.Vs P W iJ [] (λj=>.o [j]) (64*m+1) k a.toList):=by rintro Y rfl;grind [kE,iJ,af.Vs]
 cases z<;>cases d<;>simp only [xC]at y<;>try grind
 ·obtain ⟨b,rfl⟩:=WideShapes.okWide_bool n f;exact one rfl rfl
 ·obtain ⟨b,rfl⟩:=WideShapes.okWide_int n f;exact one rfl rfl
 ·obtain ⟨b,rfl⟩:=WideShapes.okWide_string n f;exact one rfl rfl
 ·obtain ⟨_,_,_,rfl⟩:=WideShapes.okWide_slice n f;exact one rfl rfl
 ·simp only [Value.okWide,n]at f;obtain ⟨cs,rfl,_⟩:=f;exact ⟨cs,rfl,kE l J⟩
theorem law_calls{H:Type}{enc:TypeId×Value->H}{s:Nat->Bool}{w:Bool}{f:Nat}{ins:List bX}{F:GD ins->Option (GD [zz])}(E:nh P f ⟨ins,[zz],F⟩){ts:List TypeId}(c:qm P ins ts=true)(D:∀x,OkG ins x->F x=some ((true,()),())){args:Array Value}{A:List (DataW H)}{G:List MemPlace}(h:DataW.TrodAll enc P W 0 s w ts args.toList A G){base:Nat}(B:∀(j:Nat)t v,ts[j]?=some t->args[j]?=some v->Value.okWide P W .any base t v):Calls P f args W λe K=>e=.returned (.bool true)/\Below W.heap.size W K:=by
 obtain ⟨x,J,y⟩:=uK ins ts 0 c h (λj t v l p=>.inr ⟨base,B j t v l (by grind)⟩);have :=E W iJ args.toList x _ (D x y) J ⟨λb k π h=>(by cases h),λb k h=>(by cases h)⟩;have e0:args.toList.toArray=args:=by simp
 rw [e0]at this;refine Calls.mono this λe w' I=>?_;obtain ⟨vs,o',rfl,_,d,_,m⟩:=I;refine ⟨?_,d.os,d.tape,d.output,d.size,λk n=>d.kp k n λj π h=>by cases h⟩;cases vs with
 |nil=>cases o:aK ins args.toList with|nil=>rw [o]at m;exact m.elim|cons a io=>
 rw [o]at m;exfalso;have L:∀(i:List bX)(ts:List TypeId)(vs:List Value),qm P i ts=true->aK i vs=[]:=by intro i;induction i with|nil=>intro ts vs _;rfl|cons g i q=>intro ts vs c;cases ts with|nil=>simp [qm]at c|cons t ts=>simp only [qm,Bool.and_eq_true]at c;obtain ⟨⟨_,n⟩,c⟩:=c;cases vs with|nil=>rfl|cons v vs=>
  have q:=q ts vs c;have M:qz g.k=false:=by
   cases e:g.k<;>first|rfl|skip
   all_goals rw [e]at n
   all_goals exfalso
   all_goals grind [xC]
  simp only [aK];split;·simp_all [qz,bX.k,aK]
  ·simp_all [qz,bX.k,aK]
  ·simp_all [qz,bX.k,aK]
  omega
 grind|cons v vs=>obtain ⟨l,p⟩:=m;have z:vs=[]:=p.1;subst z;have l:∃u r,[v]=u::r/\u=.bool true/\_:=l;obtain ⟨u,r,e,C,_⟩:=l;cases e;rw [C];rfl
end
end Go.Tm
namespace Go.Tm
open Go
section loops
variable{S E:Type}
theorem gy{f:S->Option (Sum S E)}:∀{n m:Nat}{s:S}{e:E},n<=m->bn f n s=some e->bn f m s=some e
 |0,_,_,_,_,h=>by cases h|n+1,0,_,_,h,_=>by omega|n+1,m+1,s,e,a,h=>by
  simp only[bn]at h⊢;split at h;·cases h
  ·exact gy (by omega) h
  omega
theorem kR{f:S->Option (Sum S E)}{n:Nat}{s:S}{e:E}(h:bn f n s=some e):aR f s=some e:=by have a:∃n e,bn f n s=some e:=⟨n,e,h⟩;unfold aR;rw[dif_pos a];have c:=Classical.choose_spec (Classical.choose_spec a);have b:=gy (Nat.le_max_left n (Classical.choose a)) h;grind[bn,Classical.choose_spec,gy,Nat.le_max_right]
theorem cK{f:S->Option (Sum S E)}(g:Nat->S)(m:Nat){e:E}(h:∀i,i<m->f (g i)=some (.inl (g (i+1))))(b:f (g m)=some (.inr e)):aR f (g 0)=some e:=by
 have a:∀k i,i+k=m->bn f (k+1) (g i)=some e:=by intro k;induction k with|zero=>grind[bn]|succ k c=>grind[bn,bn.eq_2]
 exact kR (a m 0 (by omega))
end loops
abbrev AD:Int:=1048576
theorem nU{n:Int}(b:-9223372036854775808<=n)(a:n<=9223372036854775807):IntKind.i64.wrap n=n:=by simp[IntKind.wrap,IntKind.signed,IntKind.bits];omega
theorem ed{a b:Int}(d:-9223372036854775808<=a+b)(c:a+b<=9223372036854775807):cM .i64 a b=a+b:=nU d c
theorem iz{a b:Int}(d:-9223372036854775808<=a-b)(c:a-b<=9223372036854775807):gS .i64 a b=a-b:=nU d c
theorem gQ{a b:Int}(h:a<b):dO a b=true:=by simp[dO,h]
theorem dD{a b:Int}(h:b<=a):dO a b=false:=by grind[dO]
theorem nV(a:Int):gA a a=true:=by simp[gA]
theorem xD(a:ByteArray):ko a a=true:=by simp[ko]
theorem cB{α:Type}{xs:List α}{i:Nat}(h:i<xs.length):bK xs (i:Int)=some xs[i]:=by grind[bK]
theorem qn{α:Type}{xs:List α}{i:Nat}(h:i<xs.length):aC xs i=some xs[i]:=by simp[aC,h]
def aO{α:Type}(f:α->Nat):List α->Nat|[]=>0|x::r=>f x+aO f r
mutual def Ty.w:(t:Ty)->t.D->Nat|.int _,_=>0|.bool,_=>0|.str,s=>s.size|.sl es,xs=>List.length (α:=es.D) xs+aO (λx=>es.w x) xs|.fn _ _ _,_=>0 def af.w:(ts:af)->ts.D->Nat|.nil,_=>0|.cons t ts,x=>t.w x.1+ts.w x.2 end
theorem nW{α:Type}{f:α->Nat}{x:α}:∀{xs:List α},x∈xs->f x<=aO f xs
 |y::r,h=>by
  simp only[aO];rcases List.mem_cons.1 h with rfl|h;·omega
  ·have :=nW (f:=f) h;omega
def xF(n:Nat)(l:Int):Int:=if(n:Int)<=l then l-n else-1
abbrev I1(n:Int):(Int×Unit)×Unit:=((n,()),())
abbrev B1(b:Bool):(Bool×Unit)×Unit:=((b,()),())
def Sz(n:Nat)(K:Int->Option ((Int×Unit)×Unit)):Prop:=∀l,0<=l->l<=AD->K l=some (I1 (xF n l))
def xG(n:Nat)(K:Int->Option ((Int×Unit)×Unit)):Int->Option ((Int×Unit)×Unit):=λl=>bif dO (gS .i64 l (n:Int)) 0 then some (I1 (-1))else K (gS .i64 l (n:Int))
def gz(T K:Int->Option ((Int×Unit)×Unit)):Int->Option ((Int×Unit)×Unit):=λl=>(T l).bind λy=>bif dO y.1.1 0 then some (I1 (-1))else K y.1.1
def zB:Int->Option ((Int×Unit)×Unit):=λl=>some (I1 l)
theorem Sz.nil:Sz 0 zB:=λl a _=>by simp[zB,xF,a]
theorem Sz.to{n m:Nat}{K:Int->Option ((Int×Unit)×Unit)}(h:Sz n K)(e:n=m):Sz m K:=e▸h
theorem Sz.str{a n:Nat}{K:Int->Option ((Int×Unit)×Unit)}(c:a<=maxLen)(h:Sz n K):Sz (a+n) (xG a K):=by
 intro l d b;unfold maxLen at c;have f:l<=1048576:=b;unfold xG;rw[iz (by omega) (by omega)];by_cases e:(a:Int)<=l;·rw[dD (by omega),cond_false,h _ (by omega) (by omega)];simp only[xF];grind
 ·rw[gQ (by omega),cond_true];simp only[xF];grind
theorem Sz.call{a n:Nat}{T K:Int->Option ((Int×Unit)×Unit)}(e:Sz a T)(h:Sz n K):Sz (a+n) (gz T K):=by
 intro l d c;have f:l<=1048576:=c;unfold gz;rw[e l d c];simp only[Option.bind_some,xF];by_cases b:(a:Int)<=l;·rw[if_pos b,dD (by omega),cond_false,h _ (by omega) (by omega)];simp only[xF];grind
 ·rw[if_neg b,if_neg (by omega)];rfl
theorem Sz.int{n:Nat}{K:Int->Option ((Int×Unit)×Unit)}(h:Sz n K):Sz (0+n) K:=by grind
theorem Du{t:Ty}{ts:af}{x:(af.cons t ts).D}{n:Nat}(h:(af.cons t ts).w x<=n):ts.w x.2<=n:=Nat.le_trans (Nat.le_add_left _ _) h
theorem Ae{es:af}{xs:List es.D}(h:∀i x,aC (α:=es.D) xs i=some x->es.Ok x){y:es.D}(a:y∈xs):es.Ok y:=by obtain⟨i,b⟩:=List.getElem?_of_mem a;exact h i y b
def kT{A B C:Type}{Y:Type}(xs:List A)(T:A->Option C)(π:C->B):Int×(List B×Unit)->Option (Sum (Int×(List B×Unit)) (Sum (Int×(List B×Unit)) Y)):=λv=>bif dO v.1 (List.length xs:Int) then (bK xs v.1).bind λx=>(T x).bind λy=>(bK v.2.1 v.1).bind λ_=>(aC v.2.1 (Int.toNat v.1)).bind λ_=>some (.inl (cM .i64 v.1 1,(List.set v.2.1 (Int.toNat v.1) (π y),()))) else some (.inr (.inl (v.1,(v.2.1,()))))
theorem Af{A B C Y:Type}{xs:List A}{T:A->Option C}{π:C->B}{a:A->B}(z:B)(j:xs.length<=maxLen)(m:∀x∈xs,∃c,T x=some c/\π c=a x):aR (kT (Y:=Y) xs T π) ((0:Int),(List.replicate xs.length z,()))=some (.inl ((xs.length:Int),(xs.map a,()))):=by
 unfold maxLen at j;let g:Nat->Int×(List B×Unit):=λi=>((i:Int),((xs.take i).map a++List.replicate (xs.length-i) z,()));have d:((0:Int),(List.replicate xs.length z,()))=g 0:=by simp[g]
 rw[d];refine cK g xs.length (λi b=>?_) ?_
 · obtain⟨c,k,f⟩:=m xs[i] (List.getElem_mem b);have n:((xs.take i).map a++List.replicate (xs.length-i) z).length=xs.length:=by grind
   show kT xs T π ((i:Int),((xs.take i).map a++List.replicate (xs.length-i) z,()))=_;unfold kT;dsimp only;rw[gQ (by omega),cond_true,cB b,Option.bind_some,k,Option.bind_some,cB (by omega),Option.bind_some,Int.toNat_natCast,qn (by omega),Option.bind_some,f,ed (by omega) (by omega)];show some (Sum.inl _)=some (Sum.inl ((((i+1:Nat):Int)),((xs.take (i+1)).map a++List.replicate (xs.length-(i+1)) z,())));congr 4;have e:xs.length-i=(xs.length-(i+1))+1:=by omega
   have h:((xs.take i).map a).length=i:=by grind
   have l:(xs.take (i+1)).map a=(xs.take i).map a++[a xs[i]]:=by rw[<-List.take_append_getElem b,List.map_append];rfl
   rw[e,List.replicate_succ,List.set_append_right _ _ (by omega),h,Nat.sub_self,List.set_cons_zero,l,List.append_assoc];rfl
 grind[kT,dO,bK,aC,cM,dD]
theorem tQ{n bytes:Nat}(h:n<=1048576)(b:0<bytes)(a:bytes<=65536):sR (n:Int) (n:Int) bytes=true:=by unfold sR;have c:(n:Int)*(bytes:Int)<=1048576*65536:=Int.mul_le_mul (by omega) (by omega) (by omega) (by omega);grind
theorem toList{A B C:Type}{xs:List A}{T:A->Option C}{π:C->B}{a:A->B}{z:B}{bytes:Nat}(f:0<bytes)(b:bytes<=65536)(d:xs.length<=1048576)(e:∀x∈xs,∃c,T x=some c/\π c=a x):(bif sR (List.length xs:Int) (List.length xs:Int) bytes then (aR (kT (Y:=(List B×Unit)×Unit) xs T π) ((0:Int),(List.replicate (Int.toNat (List.length xs:Int)) z,()))).bind λr=>Sum.elim (λv=>some ((v.2.1,()),())) some r else none)=some ((xs.map a,()),()):=by rw[tQ d f b,cond_true,Int.toNat_natCast,Af z (by unfold maxLen;omega) e];rfl
section steps
variable{R:Type}
theorem bw{A:Type}{T:Option A}{y:A}{K:A->Option R}{r:Option R}(a:T=some y)(h:K y=r):T.bind K=r:=by grind
end steps
end Go.Tm
namespace Go.Tm
open Go
section
variable{S E:Type}
theorem cS{f:S->Option (Sum S E)}{s:S}{e:E}(h:f s=some (.inr e)):aR f s=some e:=kR (n:=1) (by simp[bn,h])
theorem de{f:S->Option (Sum S E)}{s s':S}(h:f s=some (.inl s')):aR f s=aR f s':=by
 by_cases b:∃n e,bn f n s'=some e;·obtain⟨n,e,a⟩:=b;rw[kR a,kR (n:=n+1) (by simp only[bn,h];exact a)]
 · have c:¬∃n e,bn f n s=some e:=by rintro⟨n,e,a⟩;cases n with|zero=>cases a|succ n=>simp only[bn,h]at a;exact b ⟨n,e,a⟩
   unfold aR;rw[dif_neg b,dif_neg c]
def iK{A:Type}(p:Nat->A->Bool):Nat->List A->Bool|_,[]=>true|k,x::r=>p k x&&iK p (k+1) r
theorem yW{A:Type}(xs:List A)(p:Nat->A->Bool){f:S->Option (Sum S E)}(mk:Int->S)(e r:E)(j:∀i (h:i<xs.length),f (mk (i:Int))=bif p i xs[i]then some (.inl (mk ((i+1:Nat):Int)))else some (.inr r))(l:f (mk (xs.length:Int))=some (.inr e)):aR f (mk 0)=some (bif iK p 0 xs then e else r):=by
 have m:∀(a:List A)(k:Nat),xs.drop k=a->k+a.length=xs.length->aR f (mk (k:Int))=some (bif iK p k a then e else r):=by intro a;induction a with|nil=>intro k _ c;rw[show k=xs.length by simpa using c,cS l];rfl|cons x a n=>
  intro k g c;have d:k<xs.length:=by simp at c;omega
  have o:xs[k]=x:=by
   have :(xs.drop k)[0]?=some x:=by rw[g];rfl
   rw[List.getElem?_drop]at this;simpa[d]using this
  have b:=j k d;rw[o]at b;simp only[iK];cases hp:p k x with|true=>rw[hp]at b;rw[de b];refine (n (k+1) ?_ (by simp at c;omega)).trans (by simp);have :=congrArg (List.drop 1) g;simpa[List.drop_drop]using this|false=>rw[hp]at b;rw[cS b];rfl
 have :=m xs 0 rfl (by simp);exact this
theorem tT{A:Type}{p q:Nat->A->Bool}:∀{k:Nat}{xs:List A},(∀i x,xs[i]?=some x->p (k+i) x=q (k+i) x)->iK p k xs=iK q k xs
 |_,[],_=>rfl|k,x::r,h=>by
  simp only[iK];have a:=h 0 x rfl;rw[Nat.add_zero]at a;have c:iK p (k+1) r=iK q (k+1) r:=tT (k:=k+1) (xs:=r) λi y b=>by have :=h (i+1) y (by simpa using b);rwa[show k+(i+1)=k+1+i by omega]at this
  rw[a,c]
end
end Go.Tm
namespace Go.Tm
open Go
theorem nX:∀(x:List UInt8),Op.bytesLess x x=false|[]=>rfl|a::x=>by simp only[Op.bytesLess,nX x,Bool.and_false,Bool.or_false,decide_eq_false_iff_not];grind
theorem jM:∀(x y:List UInt8),(!(Op.bytesLess x y||x==y))=Op.bytesLess y x
 |[],[]=>rfl|[],_::_=>rfl|_::_,[]=>rfl|a::x,b::y=>by
  have f:=jM x y;simp only[Op.bytesLess,List.cons_beq_cons];rcases Nat.lt_trichotomy a.toNat b.toNat with h|h|h;·have c:a<b:=UInt8.lt_iff_toNat_lt.2 h;grind
  ·have c:a=b:=UInt8.toNat_inj.1 h;grind
  · have c:b<a:=UInt8.lt_iff_toNat_lt.2 h;have g:¬a<b:=λe=>by grind
    have d:(a==b)=false:=by grind
    grind
theorem yX(a b:ByteArray):(ob a b||ko a b)=!ob b a:=by grind[ob,ko,jM]
def Di(n a b:Int):Bool:=km a n&&km n b
theorem Cb{n a b:Int}:(bif km a n then some ((km n b,()),())else some ((false,()),()))=some (B1 (Di n a b)):=by unfold Di;grind
theorem Aj{a b:Int}:km a b=!dO b a:=by grind[km,dO]
theorem Ak(a b c:Int):cM .i64 (cM .i64 a b) c=cM .i64 a (cM .i64 b c):=by simp[cM,IntKind.wrap,IntKind.signed,IntKind.bits];omega
section
variable{S E:Type}
def cI{A:Type}(c:A->Nat)(m:Int->A->A):List A->Int->List A|[],_=>[]|x::r,k=>m k x::cI c m r (k+c x)
end
end Go.Tm
namespace Go.Tm
open Go
theorem BB{A:Type}{xs:List A}{i:Nat}{a:A}(h:i<xs.length):aC (List.set xs (Int.toNat (i:Int)) a) (Int.toNat (i:Int))=some a:=by grind[aC,qn]
theorem DP{A B C F:Type}{a e:A}{b b':B}{c d:C}(g:a=e)(f:b=b')(h:c=d):(some (Sum.inl (a,(b,(c,())))):Option (Sum (A×(B×(C×Unit))) F))=some (Sum.inl (e,(b',(d,())))):=by grind
theorem uL{A:Type}{a b:Int}{t e r:A}(h:a<b)(c:t=r):(bif dO a b then t else e)=r:=by grind[dO,gQ]
theorem uM{A:Type}{a b:Int}{t e r:A}(h:b<=a)(c:e=r):(bif dO a b then t else e)=r:=by grind[dO,dD]
theorem uN{A:Type}{b:Bool}{t e r:A}(h:b=false)(a:e=r):(bif b then t else e)=r:=by grind
theorem nx{i n:Nat}(h:i<n)(a:n<=9223372036854775807):cM .i64 (i:Int) 1=((i+1:Nat):Int):=by grind[ed]
mutual def Ty.ct:(t:Ty)->t.D->Nat|.int _,_=>1|.bool,_=>1|.str,_=>1|.sl es,xs=>aO (λx=>es.ct x) xs|.fn _ _ _,_=>0 def af.ct:(ts:af)->ts.D->Nat|.nil,_=>0|.cons t ts,x=>t.ct x.1+ts.ct x.2 end
mutual def Ty.mt(mt:Int->ByteArray):(t:Ty)->Int->t.D->t.D|.int _,k,_=>k|.bool,k,_=>gA (ph k 3) 0|.str,k,_=>mt k|.sl es,k,xs=>cI (λx=>es.ct x) (λk x=>es.mt mt k x) xs k|.fn _ _ _,_,g=>g def af.mt(mt:Int->ByteArray):(ts:af)->Int->ts.D->ts.D|.nil,_,_=>()|.cons t ts,k,x=>(t.mt mt k x.1,ts.mt mt (k+((t.ct x.1:Nat):Int)) x.2)end
section
variable{S E:Type}
theorem DQ{A B F:Type}{a c:A}{b b':B}(e:a=c)(d:b=b'):(some (Sum.inl (a,(b,()))):Option (Sum (A×(B×Unit)) F))=some (Sum.inl (c,(b',()))):=by grind
end
mutual def Ty.fits(M:Nat):Ty->Bool|.sl es=>Nat.ble es.len M&&es.fits M|_=>true def af.fits(M:Nat):af->Bool|.nil=>true|.cons t ts=>t.fits M&&ts.fits M end
theorem ss{A:Type}{c f:A->Nat}{a b:Nat}(h:∀x,c x<=a+b*f x):∀xs:List A,aO c xs<=a*xs.length+b*aO f xs|[]=>by simp[aO]|x::r=>by have :=ss h r;have d:=h x;simp only[aO,List.length_cons,Nat.mul_add,Nat.mul_one];omega
mutual theorem xH{M:Nat}:∀(t:Ty)(x:t.D),t.fits M=true->t.ct x<=1+M*t.w x|.int _,_,_=>Nat.le_add_right _ _|.bool,_,_=>Nat.le_add_right _ _|.str,_,_=>Nat.le_add_right _ _|.sl es,xs,h=>by simp only[Ty.fits,Bool.and_eq_true]at h;have b:=Nat.le_of_ble_eq_true h.1;have c:aO (λx=>es.ct x) xs<=es.len*List.length (α:=es.D) xs+M*aO (λx=>es.w x) xs:=ss (λx=>zC es x h.2) xs;have a:es.len*List.length (α:=es.D) xs<=M*List.length (α:=es.D) xs:=Nat.mul_le_mul_right _ b;grind[Ty.ct,Ty.w,aO,af.D,af.ct,af.w,Nat.mul_add]|.fn _ _ _,_,_=>Nat.zero_le _ theorem zC{M:Nat}:∀(ts:af)(x:ts.D),ts.fits M=true->ts.ct x<=ts.len+M*ts.w x|.nil,_,_=>Nat.zero_le _|.cons t ts,x,h=>by simp only[af.fits,Bool.and_eq_true]at h;have c:=xH t x.1 h.1;have a:=zC ts x.2 h.2;grind[af.ct,af.len,af.w,Ty.ct,Ty.D,af.D,Ty.w,Nat.mul_add]end
end Go.Tm
namespace Go.Tm
open Go
abbrev Al(n:Nat):Prop:=n<=9223372036854775807
abbrev W1(n:Nat):Prop:=n<=1048576
theorem CG{A:Type}{a b:Int}{r n:A}:(bif km a b then r else n)=bif dO b a then n else r:=by grind[km,dO,Aj]
theorem Cf{A:Type}{a b:ByteArray}{r n:A}:(bif(ob a b||ko a b)then r else n)=bif ob b a then n else r:=by grind[ob,ko,yX]
theorem Cg{A:Type}{b:Bool}{t e r:A}(c:b=true->t=r)(a:b=false->e=r):(bif b then t else e)=r:=by grind
theorem Ch{b c:Bool}:(bif b then some (B1 c)else some (B1 false))=some (B1 (b&&c)):=by grind
theorem Dx{b c:Bool}{K:Option ((Bool×Unit)×Unit)}(h:K=some (B1 c)):(bif !b then some (B1 false)else K)=some (B1 (b&&c)):=by grind
theorem Dy{b c:Bool}{K:Option ((Bool×Unit)×Unit)}(h:K=some (B1 c)):(bif b then K else some (B1 false))=some (B1 (b&&c)):=by grind
theorem DR{b c:Bool}{K:Option ((Bool×Unit)×Unit)}(h:K=some (B1 c)):(bif b then some (B1 true)else K)=some (B1 (b||c)):=by grind
theorem DS{b c:Bool}{K:Option ((Bool×Unit)×Unit)}(h:K=some (B1 c)):(bif b then some (B1 false)else K)=some (B1 (!b&&c)):=by grind
theorem DT{b c:Bool}{R:Type}{K g x:R}(h:K=bif c then g else x):(bif !b then x else K)=bif(b&&c)then g else x:=by grind
theorem DU{b:Bool}{R:Type}{g x:R}:(bif !b then x else g)=bif b then g else x:=by grind
theorem Dz{b:Bool}{R:Type}{K g x:R}(h:K=g):(bif !b then x else K)=bif b then g else x:=by grind
def lO{A:Type}(lt:A->A->Bool)(xs:List A)(i:Nat)(y:A):Bool:=match i with|0=>true|j+1=>match xs[j]? with|some z=>lt z y|none=>true
theorem mz{A:Type}{lt:A->A->Bool}{xs:List A}{j:Nat}{y:A}(h:j<xs.length):lO lt xs (j+1) y=lt xs[j] y:=by grind[lO]
theorem xI{A:Type}{xs:List A}{j:Nat}(a:Al xs.length)(h:j<xs.length):bK xs (gS .i64 ((j+1:Nat):Int) 1)=some xs[j]:=by grind[bK,gS,iz,cB]
theorem BD{A R:Type}{xs:List A}{i:Nat}{lt:A->A->Bool}{y:A}{C X:Option R}{T:A->Option R}(c:i<xs.length)(a:Al xs.length)(b:∀z,T z=bif lt z y then C else X):(bif dO 0 (i:Int)then(bK xs (gS .i64 (i:Int) 1)).bind T else C)=bif lO lt xs i y then C else X:=by cases i with|zero=>rfl|succ j=>grind[dO,bK,gS,lO,gQ,xI,mz]
theorem BG(a b:ByteArray):ko a b=ko b a:=by grind[ko]
theorem su{A:Type}{p:A->Bool}:∀{k:Nat}{xs:List A},iK (λ_ x=>p x) k xs=xs.all p|_,[]=>rfl|k,x::r=>by simp only[iK,List.all_cons];rw[su]
theorem xJ{A:Type}{p:Nat->A->Bool}:∀{k:Nat}{xs:List A},iK p k xs=true->∀i(h:i<xs.length),p (k+i) xs[i]=true|k,x::r,h,0,_=>by grind[iK]|k,x::r,h,i+1,a=>by simp only[iK,Bool.and_eq_true]at h;have :=xJ h.2 i (by grind);grind
theorem xK{A:Type}{p q:Nat->A->Bool}:∀{k:Nat}{xs:List A},iK (λi x=>p i x&&q i x) k xs=(iK p k xs&&iK q k xs)|_,[]=>rfl|k,x::r=>by simp only[iK];rw[xK];grind
theorem Ci{R:Type}{b c:Bool}{A:Option (Sum Unit R)}{B g:Option R}{x:R}(h:A=bif b then some (.inl ())else some (.inr x))(a:B=bif c then g else some x):Option.bind A (λr=>Sum.elim (λ_=>B) some r)=bif (b&&c) then g else some x:=by grind
theorem Am{A:Type}{f:A->Int}{l:List A}(h:∀i(b:i<l.length),lO (λz y=>dO (f z) (f y)) l i l[i]=true):∀(k i:Nat) (a:i+k<l.length),f l[i]<=f l[i+k]|0,i,a=>Int.le_refl _|k+1,i,a=>by have c:=Am h k i (by omega);grind[lO,dO,mz]
section
variable{S E A σ:Type}
theorem qo(xs:List A)(p:A->Bool){f:S->Option (Sum S E)}(mk:Int->S)(e:E)(R:Nat->A->E)(b:∀i (h:i<xs.length),f (mk (i:Int))=bif p xs[i]then some (.inr (R i xs[i]))else some (.inl (mk ((i+1:Nat):Int))))(g:f (mk (xs.length:Int))=some (.inr e)):aR f (mk 0)=some (match xs.findIdx? p with|some j=>(match xs[j]? with|some x=>R j x|none=>e)|none=>e):=by
 have o:∀(k:Nat),k<=xs.length->(∀j,j<k->∀h:j<xs.length,p xs[j]=false)->aR f (mk (k:Int))=some (match xs.findIdx? p with|some j=>(match xs[j]? with|some x=>R j x|none=>e)|none=>e):=by intro k;induction r:xs.length-k generalizing k with|zero=>grind[aR,cS,List.findIdx?_eq_none_iff,List.getElem_of_mem]|succ n d=>
  intro l m;have c:k<xs.length:=by omega
  have a:=b k c;cases hp:p xs[k]with
 |true=>
 rw[hp]at a;rw[cS a];have :xs.findIdx? p=some k:=by rw[List.findIdx?_eq_some_iff_getElem];simp_all
 grind|false=>rw[hp]at a;rw[de a];exact d (k+1) (by omega) (by omega) (λj q h=>by grind)
 grind
theorem sy{xs:List A}{p:A->Bool}{R e:E}:(match xs.findIdx? p with|some j=>(match xs[j]? with|some x=>R|none=>e)|none=>e)=bif xs.any p then R else e:=by cases h:xs.findIdx? p with|none=>grind|some j=>rw[List.findIdx?_eq_some_iff_getElem]at h;grind
theorem Cj(xs:List A)(p:A->Bool){f:S->Option (Sum S E)}(mk:Int->S)(e r:E)(a:∀i (h:i<xs.length),f (mk (i:Int))=bif p xs[i]then some (.inr r)else some (.inl (mk ((i+1:Nat):Int))))(b:f (mk (xs.length:Int))=some (.inr e)):aR f (mk 0)=some (bif xs.any p then r else e):=(qo xs p mk e (λ_ _=>r) a b).trans (congrArg some sy)
theorem BI(xs:List A)(p:A->Bool){f:S->Option (Sum S E)}(mk:Int->S)(e r:E)(a:∀i (h:i<xs.length),f (mk (i:Int))=bif p xs[i]then some (.inl (mk ((i+1:Nat):Int)))else some (.inr r))(b:f (mk (xs.length:Int))=some (.inr e)):aR f (mk 0)=some (bif xs.all p then e else r):=(yW xs (λ_ x=>p x) mk e r a b).trans (by rw[su])
def nY(xs:List A)(p:A->Bool):Int:=match xs.findIdx? p with|some j=>(j:Int)|none=>-1
theorem AG{xs:List A}{p:A->Bool}:km 0 (nY xs p)=xs.any p:=by grind[km,nY]
theorem mA(xs:List A)(p:A->Bool):(xs.any p=false/\xs.find? p=none/\nY xs p=-1)\/∃j,∃h:j<xs.length,p xs[j]=true/\(∀k(_:k<j)(b:k<xs.length),p xs[k]=false)/\xs.any p=true/\xs.find? p=some xs[j]/\nY xs p=(j:Int):=by unfold nY;cases h:xs.findIdx? p with|none=>simp_all|some j=>rw[List.findIdx?_eq_some_iff_getElem]at h;obtain⟨a,hp,d⟩:=h;refine .inr ⟨j,a,hp,λk b c=>by grind,List.any_eq_true.2 ⟨xs[j],List.getElem_mem a,hp⟩,?_,rfl⟩;rw[List.find?_eq_some_iff_getElem];grind
theorem Ck(xs:List A)(p:A->Bool){f:S->Option (Sum S E)}(mk:Int->S)(e:E)(R:Int->E)(a:∀i (h:i<xs.length),f (mk (i:Int))=bif p xs[i]then some (.inr (R (i:Int)))else some (.inl (mk ((i+1:Nat):Int))))(b:f (mk (xs.length:Int))=some (.inr e)):aR f (mk 0)=some (bif xs.any p then R (nY xs p)else e):=by refine (qo xs p mk e (λi _=>R (i:Int)) a b).trans ?_;grind[nY,mA]
theorem AH(xs:List A)(p:A->Bool){f:S->Option (Sum S E)}(mk:Int->S)(e:E)(R:A->E)(a:∀i (h:i<xs.length),f (mk (i:Int))=bif p xs[i]then some (.inr (R xs[i]))else some (.inl (mk ((i+1:Nat):Int))))(b:f (mk (xs.length:Int))=some (.inr e)):aR f (mk 0)=some (match xs.find? p with|some x=>R x|none=>e):=by
 refine (qo xs p mk e (λ_ x=>R x) a b).trans ?_;rcases mA xs p with⟨d,c,_⟩|⟨j,k,hp,g,_,c,_⟩;·grind
 · have :xs.findIdx? p=some j:=by rw[List.findIdx?_eq_some_iff_getElem];grind
   grind
theorem xL(xs:List A)(b:σ->A->σ)(I:Nat->σ->Prop){f:S->Option (Sum S E)}(mk:σ->Int->S)(e:σ->E)(d:σ)(m:I 0 d)(j:∀i (h:i<xs.length)s,I i s->f (mk s (i:Int))=some (.inl (mk (b s xs[i]) ((i+1:Nat):Int)))/\I (i+1) (b s xs[i])) (r:∀s,I xs.length s->f (mk s (xs.length:Int))=some (.inr (e s))):aR f (mk d 0)=some (e (xs.foldl b d))/\I xs.length (xs.foldl b d):=by
 have l:∀(c a:List A) (s:σ),a++c=xs->I a.length s->aR f (mk s (a.length:Int))=some (e (c.foldl b s))/\I xs.length (c.foldl b s):=by intro c;induction c with|nil=>grind[aR,cS]|cons x c o=>
  intro a s hp q;have k:a.length<xs.length:=by grind
  have p:xs[a.length]=x:=by grind
  obtain⟨g,n⟩:=j a.length k s q;rw[p]at g n;rw[de g];have :=o (a++[x]) (b s x) (by grind) (by grind);grind
 simpa using l xs [] d rfl m
theorem AJ(xs:List A)(a:σ->A->σ){f:S->Option (Sum S E)}(mk:σ->Int->S)(b:σ->E)(c:σ)(d:∀i (h:i<xs.length)s,f (mk s (i:Int))=some (.inl (mk (a s xs[i]) ((i+1:Nat):Int)))) (e:∀s,f (mk s (xs.length:Int))=some (.inr (b s))):aR f (mk c 0)=some (b (xs.foldl a c)):=(xL xs a (λ_ _=>True) mk b c trivial (λi h s _=>⟨d i h s,trivial⟩) (λs _=>e s)).1
theorem BJ(xs:List A){f:S->Option (Sum S E)}(mk:List A->Int->S)(e:E)(a:∀i (h:i<xs.length),f (mk (xs.take i) (i:Int))=some (.inl (mk (xs.take i++[xs[i]]) ((i+1:Nat):Int)))) (b:f (mk xs (xs.length:Int))=some (.inr e)):aR f (mk [] 0)=some e:=by have :=cK (f:=f) (λi=>mk (xs.take i) (i:Int)) xs.length (e:=e) (λi c=>by simp_all) (by grind);grind
end
theorem qp{n b:Nat}(d:n<=1048577)(c:b<=1000)(a:0<b):dE n b=true:=by unfold dE;refine decide_eq_true ⟨?_,a⟩;have :n*b<=1048577*1000:=Nat.mul_le_mul d c;omega
theorem vP{A R:Type}{xs:List A}{b:Nat}{t e r:R}(h:xs.length<=1048576)(c:b<=1000)(a:0<b)(d:t=r):(bif dE (List.length ([]:List A)+xs.length) b then t else e)=r:=by grind[dE,qp]
theorem Cm{R:Type}{n b:Nat}{t e r:R}(h:n<=1048577)(c:b<=1000)(a:0<b)(d:t=r):(bif dE n b then t else e)=r:=by grind[dE,qp]
theorem BK{A R:Type}{xs:List A}{x:A}{i b:Nat}{t e r:R}(h:i<xs.length)(f:W1 xs.length)(c:b<=1000)(a:0<b)(d:t=r):(bif dE (List.length (xs.take i)+List.length [x]) b then t else e)=r:=by grind[dE,qp]
theorem vQ{R:Type}{a b:Option R}(h:a=b):mU a b=a:=by grind[mU]
theorem BL{A:Type}{b:Nat}(xs:List A)(h:xs.length<=1048576)(c:b<=1000)(a:0<b):(bif xs.isEmpty then mU (some ((([]:List A),()),())) (bif dE (List.length ([]:List A)+List.length xs) b then some ((bV ([]:List A) xs,()),()) else none) else bif dE (List.length ([]:List A)+List.length xs) b then some ((bV ([]:List A) xs,()),()) else none)=some ((xs,()),()):=by have d:(bif dE (List.length ([]:List A)+List.length xs) b then some ((bV ([]:List A) xs,()),()) else none)=some ((xs,()),()):=vP h c a rfl;grind[mU,dE,bV,vQ]
theorem DA{n:Nat}(h:1<=n)(a:Al n):gS .i64 (n:Int) 1=((n-1:Nat):Int):=by grind[gS,iz]
theorem CJ{h n:Nat}{R:Type}{t e r:R}(a:h<=n)(b:t=r):(bif mX (h:Int) n then t else e)=r:=by grind[mX]
theorem BM{A:Type}{xs:List A}{h:Nat}:List.take (Int.toNat (h:Int)-0) (List.drop 0 xs)=xs.take h:=by simp
theorem wG{i n:Nat}(h:i<n)(a:Al n):cM .i64 (i:Int) 1=((i+1:Nat):Int):=by grind[ed]
theorem W1.l{n:Nat}(h:W1 n):Al n:=by omega
theorem xM{R:Type}{k:Int}{a b r:R}(h:0<=k)(c:b=r):(bif dO k 0 then a else b)=r:=by grind[dO,dD]
theorem pn{k:Int}{c:Nat}(h:0<=k):0<=k+((c:Nat):Int):=by omega
theorem Dk{es:af}{xs:List es.D}(a:xs.length<=9223372036854775807)(h:∀y,y∈xs->es.Ok y):(Ty.sl es).Ok xs:=⟨a,by grind[af.D,aC]⟩
theorem CK{es:af}:(Ty.sl es).Ok []:=⟨Nat.zero_le _,by grind [af.D,aC,af.Ok]⟩
theorem Dl{es:af}{xs:List es.D}{y:es.D}{n:Nat}(h:(Ty.sl es).w xs<=n)(a:y∈xs):es.w y<=n:=by have h:List.length xs+aO (λz=>es.w z) xs<=n:=h;grind[af.w,aO,af.D,nW]
theorem DC{t:Ty}{ts:af}{x:(af.cons t ts).D}{n:Nat}(h:(af.cons t ts).w x<=n):t.w x.1<=n:=Nat.le_trans (Nat.le_add_right _ _) h
theorem Dm(k:IntKind)(n:Int):(Lit.int k (k.wrap n)).wf=true:=by cases k<;>simp[Lit.wf,IntKind.wrap,IntKind.min,IntKind.max,IntKind.signed,IntKind.bits]<;>omega
theorem DW{n:Int}(h:(Lit.int .i64 n).wf=true):-9223372036854775808<=n/\n<=9223372036854775807:=by simp[Lit.wf,IntKind.min,IntKind.max,IntKind.signed,IntKind.bits]at h;omega
theorem DX{n:Int}(b:-9223372036854775808<=n)(a:n<=9223372036854775807):(Lit.int .i64 n).wf=true:=by simp[Lit.wf,IntKind.min,IntKind.max,IntKind.signed,IntKind.bits];omega
theorem CL{a b:Int}(c:-9223372036854775808<=a/\a<=9223372036854775807)(d:-9223372036854775808<=b/\b<=9223372036854775807):gA a (cM .i64 b 1)=gA b (gS .i64 a 1):=by unfold gA cM gS;rw[Bool.eq_iff_iff];simp[IntKind.wrap,IntKind.signed,IntKind.bits];omega
theorem AM(b:UInt8):IntKind.wrap .i64 (UInt8.toNat b:Int)=(UInt8.toNat b:Int):=by have :=UInt8.toNat_lt b;grind[nU]
end Go.Tm
namespace Go.Tm
open Go
abbrev zD:=((Int×Unit)×Unit)->Option ((ByteArray×Unit)×Unit)
abbrev nZ(es:af):=((List es.D×Unit)×((Int×Unit)×Unit))->Option ((Int×Unit)×((List es.D×Unit)×Unit))
abbrev sA(es:af):=((List es.D×Unit)×((Int×Unit)×Unit))->Option ((Int×Unit)×Unit)
section
variable{W:Int->ByteArray}{mt:zD}
def MH(es:af)(M:nZ es)(H:sA es):Prop:=∀(x:List es.D×Unit)(k:Int),1<=k->k<=1125900000000000->(Ty.sl es).Ok x.1->(Ty.sl es).w x.1<=67108864->∃a x',M (x,((k,()),()))=some ((a,()),(x',()))/\H (x',((k,()),()))=some ((a,()),())/\1<=a/\a<=k+8589934592
def MO(es:af)(M:nZ es):Prop:=∀(x:List es.D×Unit)(k:Int),1<=k->k<=1125900000000000->(Ty.sl es).Ok x.1->(Ty.sl es).w x.1<=67108864->∃a x',M (x,((k,()),()))=some ((a,()),(x',()))/\1<=a/\a<=k+8589934592
end
end Go.Tm
namespace Go.Tm
open Go
def Y{A:Type}(o:Option A)(Q:A->Prop):Prop:=∃y,o=some y/\Q y
def SE{A B:Type}(P:A->Prop)(Q:B->Prop):Sum A B->Prop|.inl a=>P a|.inr b=>Q b
section
variable{A B S E:Type}
theorem Y.mk{Q:A->Prop}{y:A}(h:Q y):Y (some y) Q:=⟨y,rfl,h⟩
theorem Y.of{Q:A->Prop}{o:Option A}{y:A}(e:o=some y)(h:Q y):Y o Q:=⟨y,e,h⟩
theorem Y.l{P:A->Prop}{Q:B->Prop}{a:A}(h:P a):Y (some (Sum.inl a)) (SE P Q):=⟨_,rfl,h⟩
theorem Y.r{P:A->Prop}{Q:B->Prop}{b:B}(h:Q b):Y (some (Sum.inr b)) (SE P Q):=⟨_,rfl,h⟩
theorem Y.rl{P:A->Prop}{Q:B->Prop}{R:E->Prop}{b:B}(h:Q b):Y (some (Sum.inr (Sum.inl b))) (SE P (SE Q R)):=⟨_,rfl,h⟩
theorem Y.rr{P:A->Prop}{Q:B->Prop}{R:E->Prop}{b:E}(h:R b):Y (some (Sum.inr (Sum.inr b))) (SE P (SE Q R)):=⟨_,rfl,h⟩
theorem Y.mono{P Q:A->Prop}{o:Option A}(h:Y o P)(k:∀y,P y->Q y):Y o Q:=by grind[Y]
theorem Y.bind{P:A->Prop}{Q:B->Prop}{o:Option A}{K:A->Option B}(h:Y o P)(k:∀y,P y->Y (K y) Q):Y (o.bind K) Q:=by grind[Y]
theorem Y.eq{Q:B->Prop}{o:Option A}{y:A}{K:A->Option B}(e:o=some y)(h:Y (K y) Q):Y (o.bind K) Q:=by grind
theorem Y.so{Q:B->Prop}{y:A}{K:A->Option B}(h:Y (K y) Q):Y ((some y).bind K) Q:=h
theorem Y.DY{Q:A->Prop}{c:Bool}{t e:Option A}(b:c=true->Y t Q)(a:c=false->Y e Q):Y (bif c then t else e) Q:=by grind
theorem Y.tt{Q:A->Prop}{c:Bool}{t e:Option A}(a:c=true)(h:Y t Q):Y (bif c then t else e) Q:=by grind
theorem Y.ff{Q:A->Prop}{c:Bool}{t e:Option A}(a:c=false)(h:Y e Q):Y (bif c then t else e) Q:=by grind
theorem Y.elim{P:A->Prop}{R:B->Prop}{Q:E->Prop}{f:A->Option E}{g:B->Option E}{r:Sum A B}(h:SE P R r)(a:∀v,P v->Y (f v) Q)(b:∀v,R v->Y (g v) Q):Y (Sum.elim f g r) Q:=by grind[Y,SE]
theorem Y.DZ{P:A->Prop}{R:B->Prop}{Q:E->Prop}{o:Option (Sum A B)}{f:A->Option E}{g:B->Option E}(h:Y o (SE P R))(a:∀v,P v->Y (f v) Q)(b:∀v,R v->Y (g v) Q):Y (o.bind λr=>Sum.elim f g r) Q:=by grind[bind,SE,elim]
theorem Y.loop{I:S->Prop}{Q:E->Prop}{f:S->Option (Sum S E)}(m:S->Nat)(h:∀s,I s->Y (f s) (SE (λs'=>I s'/\m s'<m s) Q)):∀s,I s->Y (aR f s) Q:=by intro s b;generalize a:m s=n;induction n using Nat.strongRecOn generalizing s with|ind n c=>grind[SE,Y,aR,de,cS]
theorem Y.gi{xs:List A}{i:Int}{Q:A->Prop}(a:0<=i)(b:i<xs.length)(h:∀x∈xs,Q x):Y (bK xs i) Q:=by grind[Y,bK,cB]
theorem Y.gx{xs:List A}{i:Int}{Q:A->Prop}(a:0<=i)(b:i<xs.length)(h:∀(k:Nat)(c:k<xs.length),i=(k:Int)->Q xs[k]):Y (bK xs i) Q:=by grind[Y,bK,cB]
theorem Y.gn{xs:List A}{n:Nat}{Q:A->Prop}(a:n<xs.length)(h:∀x∈xs,Q x):Y (aC xs n) Q:=⟨xs[n],List.getElem?_eq_getElem a,by grind⟩
theorem Y.gT{Q:B->Prop}{xs:List A}{i:Int}{K:A->Option B}(a:0<=i)(b:i<xs.length)(h:∀x∈xs,Y (K x) Q):Y ((Go.Tm.bK xs i).bind K) Q:=by grind[bind,bK,gi]
theorem Y.nT{Q:B->Prop}{xs:List A}{n:Nat}{K:A->Option B}(a:n<xs.length)(h:∀x∈xs,Y (K x) Q):Y ((Go.Tm.aC xs n).bind K) Q:=by grind[bind,aC,gn]
theorem Y.Eb{Q:B->Prop}{xs:List A}{i:Int}{K:A->Option B}(a:0<=i)(b:i<xs.length)(h:∀x∈xs,Y (K x) Q):Y ((Go.Tm.bK xs i).bind λ_=>(Go.Tm.aC xs i.toNat).bind K) Q:=by grind[gT,aC,nT]
theorem Y.dE{Q:B->Prop}{n b:Nat}{t:Option B}(d:n<=1073741824)(c:b<=1000)(a:0<b)(h:Y t Q):Y (bif Go.Tm.dE n b then t else none) Q:=Y.tt (by unfold Go.Tm.dE;exact decide_eq_true ⟨Nat.le_trans (Nat.mul_le_mul d c) (by decide),a⟩) h
theorem Y.and{P Q:A->Prop}{o:Option A}(h:Y o P)(k:Y o Q):Y o λy=>P y/\Q y:=by grind[Y]
theorem Y.get{P:A->Prop}{o:Option A}{y:A}(h:Y o P)(e:o=some y):P y:=by grind[Y]
end
theorem BN(x:Int):0<=sS .i64 x 255/\sS .i64 x 255<=255:=by
 unfold sS;have h:(BitVec.ofInt IntKind.i64.bits x&&&BitVec.ofInt IntKind.i64.bits 255).toNat<=255:=by rw[BitVec.toNat_and];exact Nat.le_trans Nat.and_le_right (by decide)
 grind[nU]
theorem Ar{a b:Int}(d:-9223372036854775808<=a*b)(c:a*b<=9223372036854775807):zJ .i64 a b=a*b:=nU d c
theorem Co{x n:Int}(a:0<=x)(b:0<n):0<=ph x n/\ph x n<n:=⟨Int.tmod_nonneg n a,Int.tmod_lt_of_pos x b⟩
theorem Cp{a b:Int}:dO a b=true↔a<b:=by simp[dO]
theorem Au{a b:Int}:dO a b=false↔b<=a:=by simp[dO]
theorem Cq{a b:Int}:km a b=true↔a<=b:=by simp[km]
theorem CM{a b:Int}:km a b=false↔b<a:=by simp[km]
theorem Cr{a b:Int}:gA a b=true↔a=b:=by simp[gA]
theorem CN{a b:Int}:gA a b=false↔a≠b:=by simp[gA]
theorem zH(x:Int):dO (IntKind.wrap .u64 x) 0=false:=by rw[Au];show 0<=x%_;omega
theorem xZ(xs:List aY.D):(bQ xs).size=xs.length:=by show(List.map _ xs).toArray.size=xs.length;simp
theorem ze(s:ByteArray):(eo s).length=s.size:=by unfold eo;simp_all
theorem Cs{A:Type}{a b:List A}{n m k:Nat}(d:a.length<=n)(c:b.length<=m)(h:n+m<=k):(bV a b).length<=k:=by grind[bV]
theorem BO{n b:Nat}(d:n<=1073741824)(c:b<=1000)(a:0<b):dE n b=true:=by unfold dE;exact decide_eq_true ⟨Nat.le_trans (Nat.mul_le_mul d c) (by decide),a⟩
end Go.Tm
namespace Go.Tm
open Go
def ya:ax->ax|.o (_::_::_)=>.p|q=>q
def fZ(o:Nat->Nat->ax):Nat->Nat->ax:=λb k=>ya (o b k)
def sD:Md->Md|.own _=>.own []|.sh=>.sh
def DD(g:bX):bX:=⟨g.k,g.ts,g.ms.map sD⟩
def tY:List bX->List bX|[]=>[]|g::a=>DD g::tY a
def CO:(a:List bX)->GD a->GD (tY a)|[],x=>x|_::a,x=>(x.1,CO a x.2)
theorem sE:∀a:List bX,(tY a).length=a.length|[]=>rfl|g::a=>by simp[tY,sE a]
theorem sI(ms:List Md):cy (ms.map sD)=sD (cy ms):=by cases ms<;>rfl
theorem sJ(ms:List Md):cW (ms.map sD)=(cW ms).map sD:=by cases ms<;>rfl
section
variable{P:Program}{w:World}{o:Nat->Nat->ax}
theorem lP:aj w o w (fZ o):=λb k v a ho=>⟨a,by grind[fZ,ya]⟩
theorem zf(hw:Wf w o):Wf w (fZ o):=by
 refine⟨λb k π h=>?_,λb k h=>?_⟩;·have h:ya (o b k)=.o π:=h;cases c:o b k with|x=>rw[c]at h;cases h|p=>rw[c]at h;cases h|o π'=>exact hw.cell b k π' c
 ·have h:ya (o b k)=.o []:=h;cases c:o b k with|x=>rw [c]at h;cases h|p=>rw [c]at h;cases h|o π'=>rw [c]at h;cases π' with|nil=>exact hw.ne b k c|cons a s=>cases s<;>cases h
theorem zg(id i q:Nat):Rl w o w (fZ o) (.o [id,i,q]) .p:=.inr ⟨rfl,λb k s v a ho=>⟨a,by grind [fZ,ya]⟩⟩
theorem xQ:∀(ts:af){ms:List Md}{j:Nat}{x:ts.D}{vs:List Value},ts.Vs P w o ms (λ_=>.p) j x vs->ts.Vs P w o [] (λ_=>.p) j x vs|.nil,_,_,_,_,h=>h|.cons t ts,_,_,_,_,h=>by obtain⟨v,r,rfl,b,a⟩:=h;exact⟨v,r,rfl,qK t _ _ _ _ b,xQ ts a⟩
theorem xR(hw:Wf w o){md:Md}{id:Nat}:∀(t:Ty){x:t.D}{v:Value},t.H P w o md (.o [id]) x v->t.H P w (fZ o) (sD md) (.o [id]) x v:=by intro t x v h;cases md with|sh=>exact mE t (ck lP hw t .sh .p .p _ _ rfl (mE t h))|own ms=>cases t with|int k=>exact h|bool=>exact h|str=>exact h|fn sh l n=>exact ck lP hw (.fn sh l n) (.own ms) .p .p _ _ rfl h|sl es=>
 obtain⟨a,c,g,f,d⟩:=bI.1 h;refine bI.2 ⟨a,c,g,f,?_⟩;rcases d with b|⟨ad,j,r,C,e⟩;·grind
 · refine .inr ⟨ad,j,r,λk z=>?_,λi y s=>?_⟩;· grind [fZ,ya]
   · obtain ⟨vs,b,A⟩:=eJ es (e i y s);have m:=jH lP hw es ms (qf':=λ_=>.p) (λq=>zg id i q) b;refine eK es (kE es (xQ es m)) (λk u B=>?_);grind [af.len,fZ,ya]
theorem mS(hw:Wf w o):∀(ts:af){ms:List Md}{j:Nat}{x:ts.D}{vs:List Value},ts.Vs P w o ms (λj=>.o [j]) j x vs->ts.Vs P w (fZ o) (ms.map sD) (λj=>.o [j]) j x vs
 |.nil,_,_,_,_,h=>h|.cons t ts,ms,_,_,_,h=>by
  obtain⟨v,r,rfl,b,a⟩:=h;refine⟨v,r,rfl,?_,?_⟩;·rw [sI];exact xR hw t b
  ·rw [sJ];exact mS hw ts a
theorem qs(hw:Wf w o){id:Nat}:∀(ts:af){ms:List Md}{j:Nat}{x:ts.D}{b off:Nat},ts.Hs P w o ms (.o [id]) (λj=>.o [j]) j x b off->ts.Hs P w (fZ o) (ms.map sD) (.o [id]) (λj=>.o [j]) j x b off
 |.nil,_,_,_,_,_,_=>trivial|.cons t ts,ms,_,_,_,_,h=>by
  obtain⟨⟨v,c,ho,d⟩,a⟩:=h;refine⟨⟨v,c,by grind [fZ,ya],?_⟩,?_⟩;·rw [sI];exact xR hw t d
  ·rw [sJ];exact qs hw ts a
theorem lQ(hw:Wf w o):∀(e:List bX){r:Nat}{y:GD e}{vs:List Value}{io:List Bk},iW P w o e r y vs io->iW P w (fZ o) (tY e) r (CO e y) vs io
 |[],_,_,_,_,h=>h|g::e,r,y,v::vs,io,h=>by obtain⟨d,f⟩:=h;refine⟨?_,lQ hw e f⟩;obtain⟨k,ts,ms⟩:=g;cases k with|c=>exact mS hw ts d|agg=>obtain⟨a,i,d⟩:=d;exact⟨a,i,mS hw ts d⟩|np=>obtain⟨b,base,j,d⟩:=d;exact⟨b,base,j,qs hw ts d⟩|rp=>exact d|io=>exact d|wc=>exact d|wa=>exact d
 |g::e,r,y,[],a::io,h=>by obtain⟨d,f⟩:=h;refine⟨?_,lQ hw e f⟩;cases a with|bx b off=>exact qs hw g.ts d|vs l=>exact mS hw g.ts d
 |_::_,_,_,[],[],h=>h.elim
end
theorem AQ{P:Program}{f:Nat}{ins aX:List bX}{F:GD ins->Option (GD aX)}{F':GD ins->Option (GD (tY aX))}(h:nh P f ⟨ins,aX,F⟩)(i:∀x,F' x=(F x).map (CO aX)):nh P f ⟨ins,tY aX,F'⟩:=by intro w o args x y c m hw;have c:F' x=some y:=c;rw[i]at c;cases d:F x with|none=>grind|some r=>
 rw[d]at c;have c:=Option.some.inj c;subst c;refine Calls.mono (h w o args x r d m hw) λe w' q=>?_;obtain ⟨vs,o',n,j,a,g,s⟩:=q;refine ⟨vs,fZ o',n,?_,⟨a.os,a.tape,a.output,a.size,a.kp,λb k v l p=>?_,a.db,a.uc⟩,zf g,lQ g aX s⟩;·rw[j];show gg _=gg _;unfold gg;simp[sE]
 ·obtain ⟨t,u⟩:=a.cell b k v l p;simp_all[fZ,ya,ax.casesOn]
end Go.Tm
