/- A machine over plain data, part 3: what it gives is shown to be what the program's functions return. Conditions: none. -/
import Derived.Test.YthjkikiepdnimaaGreatTm2
import Derived.Calls
import Derived.LoopN
import Derived.ChangeArms
import Derived.ChangeShapes
import Derived.WideShapes
import Derived.Below
set_option linter.unusedVariables false
/- The pure machine, 37: regions in the text's order. -/
namespace Go.Tm
open Go
structure RelS (P:Program) (nt:Nat) (w0:World) (o0:Nat→Nat→Own) (io:List Nat) (c0:Nat→Conc) (nx:Nat) (st:St) (a:Act) (w:World) (g:Gh):Prop where
 rel:Rel P nt w0 o0 st.env st.mu a.tmps w g
 df:a.defers= []
 fresh:∀id,nx*2048≤id→st.mu id=none
 io:∀id∈io,g.c id=c0 id∧st.mu id≠none
def Ext (st st':St):Prop:=∀e m N,Bas e m N st→Bas e m N st'
theorem Ext.refl (st:St):Ext st st:=fun _ _ _ h=>h
theorem Ext.trans {a b c:St} (h:Ext a b) (k:Ext b c):Ext a c:=fun e m N x=>k e m N (h e m N x)
theorem refine_self {st:St} {d:Nat} {b:Bool} (h:st.env d= .c (.bool b)):st.refine d b=st:=by
 have:upd st.env d (.c (.bool b))=st.env:=by
  funext n
  by_cases e:n=d
  ·subst e;rw [upd_same,h]
  ·exact upd_ne _ _ e
 unfold St.refine
 rw [this]
section
variable {P:Program} {C:Ctx} {nt:Nat} {w0:World} {o0:Nat→Nat→Own} {io:List Nat} {c0:Nat→Conc} {R:Type} {Q:Exit→Act→World→Prop}
theorem guard_ok {ops:Array Oper} {st:St} {a:Act} {w:World} {g:Gh} {mu:Mu} (henv:∀t,(st.env t).R P w g mu (a.tmps.getD t undef)) {o:Oper} {run skip:St→Option R} {y:R}
  (h:(match o.guard with
   |none=>run st
   |some (j,want)=>match (ops.toList[j]?).bind (·.dst) with
    |none=>none
    |some d=>match st.env d with
     | .c (.bool b)=>bif b then (bif want then run (st.refine d true) else skip (st.refine d true)) else (bif want then skip (st.refine d false) else run (st.refine d false))
     | .und=>skip st
     |_=>none)=some y) :
  (Region.wanted o (yielded ops a.tmps)=true∧run st=some y)∨(Region.wanted o (yielded ops a.tmps)=false∧skip st=some y):=by
 unfold Region.wanted
 cases hg:o.guard with
 |none=>rw [hg] at h;exact .inl ⟨rfl,h⟩
 |some p =>
  obtain ⟨j,want⟩:=p
  simp only [hg] at h ⊢
  cases hd:(ops.toList[j]?).bind (·.dst) with
  |none=>rw [hd] at h;cases h
  |some d =>
   rw [hd] at h
   dsimp only at h
   have hd':(ops[j]?).bind (·.dst)=some d:=by rw [←hd];simp
   have hv:=henv d
   cases he:st.env d<;>simp only [he] at h<;>try (cases h;done)
   case und =>
    rw [he] at hv
    have hv:a.tmps.getD d undef=undef:=hv
    right
    refine ⟨?_,h⟩
    have:yielded ops a.tmps j=none:=by
     unfold yielded
     rw [hd']
     simp only [Option.bind_some]
     cases ht:a.tmps[d]? with
     |none=>rfl
     |some v =>
      have:v=undef:=by rw [←hv];simp [Array.getD_eq_getD_getElem?,ht]
      rw [this];rfl
    rw [this];rfl
   case c cv =>
    cases cv<;>simp only at h<;>try (cases h;done)
    case bool b =>
     rw [he] at hv
     have hv:a.tmps.getD d undef= .bool b:=hv
     have hy:yielded ops a.tmps j=some b:=by
      unfold yielded
      rw [hd']
      simp only [Option.bind_some]
      cases ht:a.tmps[d]? with
      |none=>simp [Array.getD_eq_getD_getElem?,ht,undef] at hv
      |some v =>
       have:v= .bool b:=by rw [←hv];simp [Array.getD_eq_getD_getElem?,ht]
       rw [this]
     rw [hy]
     have hr:=refine_self he
     cases b<;>cases want<;>simp only [cond_true,cond_false,hr] at h
     ·exact .inl ⟨rfl,h⟩
     ·exact .inr ⟨rfl,h⟩
     ·exact .inr ⟨rfl,h⟩
     ·exact .inl ⟨rfl,h⟩
theorem RelS.opSt {nx:Nat} {st:St} {a:Act} {w:World} {g:Gh} (r:RelS P nt w0 o0 io c0 nx st a w g) (hty:∀t ti,C.ty t=some ti→tiOf P t=some ti) (hC:CtxOk P C):OpSt P C st.env st.mu a w g (nx*2048) where
 ty:=hty
 con:=hC
 env:=r.rel.env
 mem:=r.rel.mem
 wf:=r.rel.wf
 own:=r.rel.own
 fresh n h _:=r.fresh n h
theorem RelS.put {nx:Nat} {st:St} {a:Act} {w w':World} {g g':Gh} (r:RelS P nt w0 o0 io c0 nx st a w g) {dst:Option Nat} {tv:TV} {ms:List (Nat×Blk)} {wr:List Wr} {v:Value} (hd:dstOk nt dst=true)
  (hn:Nxt P w g st.mu w' g' (updL st.mu ms)) (hv:tv.R P w' g' (updL st.mu ms) v) (hids:∀x∈ms,x.1<(nx+1)*2048):RelS P nt w0 o0 io c0 (nx+1) (st.put dst tv ms wr) (a.put dst v) w' g' where
 rel:=by
  have:=(r.rel.nxt hn).put (a:=a) hd hv
  cases dst<;>exact this
 df:=by cases dst<;>exact r.df
 fresh id hid:=by
  show updL st.mu ms id=none
  rw [updL_none fun b hb=>by have:=hids _ hb;dsimp only at this;omega]
  exact r.fresh id (Nat.le_trans (Nat.mul_le_mul_right _ (Nat.le_succ _)) hid)
 io id hid:=by
  obtain ⟨h1,h2⟩:=r.io id hid
  obtain ⟨_,hs,_⟩:=hn
  exact ⟨(hs.c id h2).trans h1,updL_some h2⟩
theorem RelS.skip {nx:Nat} {st:St} {a:Act} {w:World} {g:Gh} (r:RelS P nt w0 o0 io c0 nx st a w g) {dst:Option Nat} (hd:dstOk nt dst=true):RelS P nt w0 o0 io c0 (nx+1) (st.put dst .und [] []) (a.put dst undef) w g where
 rel:=by
  have:=r.rel.put (a:=a) (tv:= .und) (v:=undef) hd rfl
  cases dst<;>exact this
 df:=by cases dst<;>exact r.df
 fresh id hid:=r.fresh id (Nat.le_trans (Nat.mul_le_mul_right _ (Nat.le_succ _)) hid)
 io:=r.io
theorem RelS.grow {nx nx':Nat} {st:St} {a:Act} {w:World} {g:Gh} (r:RelS P nt w0 o0 io c0 nx st a w g) (h:nx≤nx'):RelS P nt w0 o0 io c0 nx' st a w g :=
 ⟨r.rel,r.df,fun id hid=>r.fresh id (Nat.le_trans (Nat.mul_le_mul_right _ h) hid),r.io⟩
open Classical in
theorem opsU_ok {rid nx:Nat} {ops:Array Oper} (hty:∀t ti,C.ty t=some ti→tiOf P t=some ti) (hC:CtxOk P C) (hnt:C.nt=nt) {K:St→Option R} {y:R}:∀(l:List Oper) (i:Nat) {st:St} {a:Act} {w:World} {g:Gh},ops.toList.drop i=l →
  opsU C rid ops.toList nx l i st K=some y→RelS P nt w0 o0 io c0 (nx+i) st a w g →
  (∀st' a' w' g',K st'=some y→RelS P nt w0 o0 io c0 (nx+(i+l.length)) st' a' w' g'→Ext st st'→st'.nx=st.nx→Q .normal a' w')→wpOps P ops Q (List.range' i l.length) a w
 | [],i,st,a,w,g,hl,h,r,hQ=>hQ st a w g h (by simpa using r) (.refl st) rfl
 |o::l,i,st,a,w,g,hl,h,r,hQ=>by
  have hi:ops[i]?=some o:=by
   have h1:(ops.toList.drop i)[0]?=some o:=by rw [hl];rfl
   rw [List.getElem?_drop] at h1
   simpa using h1
  have hl':ops.toList.drop (i+1)=l:=by
   have:=congrArg (List.drop 1) hl
   simpa [List.drop_drop] using this
  have hlen:(o::l).length=l.length+1:=rfl
  rw [hlen,List.range'_succ]
  unfold opsU at h
  cases hd:dstOk C.nt o.dst with
  |false=>rw [hd] at h;cases h
  |true =>
   rw [hd] at h
   rw [hnt] at hd
   simp only [cond_true] at h
   simp only [wpOps,hi]
   have fin:∀{st1:St} {a1:Act} {w1:World} {g1:Gh},opsU C rid ops.toList nx l (i+1) st1 K=some y→RelS P nt w0 o0 io c0 (nx+(i+1)) st1 a1 w1 g1→Ext st st1→st1.nx=st.nx→wpOps P ops Q (List.range' (i+1) l.length) a1 w1 :=
    fun h1 r1 e1 n1=>opsU_ok hty hC hnt l (i+1) hl' h1 r1 fun st' a' w' g' hK r' e' n'=>hQ st' a' w' g' hK (by rw [hlen,show i+(l.length+1)=i+1+l.length by omega];exact r') (e1.trans e') (n'.trans n1)
   rcases guard_ok (ops:=ops) (st:=st) (run:=fun st=>opU C st.env st.mu ((nx+i)*2048) rid i o fun v ms=>bif idsOk ((nx+i)*2048+2048) ms then opsU C rid ops.toList nx l (i+1) (st.put o.dst v ms (wrOf st.env o ms)) K else none) (skip:=fun st=>opsU C rid ops.toList nx l (i+1) (st.put o.dst .und [] []) K) r.rel.env h with ⟨hw,h⟩|⟨hw,h⟩
   ·rw [if_pos hw]
    left
    have h2:=opU_put h
    refine Oper.wp_mono ?_ (opU_ok (Q:=Q) (r.opSt hty hC) h2)
    rintro a' w' ⟨tv,ms,v,g',rfl,hK,hn,hv⟩
    dsimp only at hK
    split at hK
    ·rename_i hp
     cases hids:idsOk ((nx+i)*2048+2048) ms with
     |false=>simp [hids] at hK
     |true =>
      simp only [hids,cond_true] at hK
      refine fin hK (r.put hd hn hv fun x hx=>?_) (fun e m N hb=>hb.put hp) rfl
      have:=List.all_eq_true.1 hids x hx
      simp only [Nat.blt_eq] at this
      omega
    ·cases hK
   ·rw [if_neg (by rw [hw];simp)]
    exact fin h (r.skip hd) (fun e m N hb=>hb.put (PutOk.nil _)) rfl
theorem regionU_text {rid:Nat} {ops:Array Oper} (hty:∀t ti,C.ty t=some ti→tiOf P t=some ti) (hC:CtxOk P C) (hnt:C.nt=nt) {st:St} {a:Act} {w:World} {g:Gh} {K:St→Option R} {y:R}
  (h:regionU C rid ops false st K=some y) (r:RelS P nt w0 o0 io c0 st.nx st a w g) (hQ:∀st' a' w' g',K st'=some y→RelS P nt w0 o0 io c0 st'.nx st' a' w' g'→Ext st st'→Q .normal a' w') :
  (Code.region rid ops false).wp P Q a w:=by
 refine wp_region ?_
 have:=opsU_ok (Q:=Q) (K:=fun st'=>K {st' with nx:=st.nx+ops.size}) hty hC hnt ops.toList 0 (by simp) h r fun st' a' w' g' hK r' e' n'=>hQ _ a' w' g' hK ?_ fun e m N hb=>?_
 ·rwa [←List.range_eq_range',show ops.toList.length=ops.size by simp] at this
 ·have:(0+ops.toList.length)=ops.size:=by simp
  rw [this] at r'
  exact ⟨r'.rel,r'.df,r'.fresh,r'.io⟩
 ·have:=e' e m N hb
  refine ⟨this.env,this.mem,Nat.le_trans hb.nx (Nat.mul_le_mul_right _ (Nat.le_add_right _ _))⟩
end
end Go.Tm
/- The pure machine, 38: an operation comes to one thing, whatever is known besides. -/
namespace Go.Tm
open Go
section
variable {C:Ctx} {env:Nat→TV} {mu:Mu} {R:Type}
def UsDom (mu:Mu) (us:List Use):Prop:=∀u∈us,mu (useId u)≠none
theorem UsDom.app {mu:Mu} {a b:List Use} (h:UsDom mu a) (k:UsDom mu b):UsDom mu (a++b):=fun u hu=>(List.mem_append.1 hu).elim (h u) (k u)
theorem UsDom.nil {mu:Mu}:UsDom mu []:=fun u hu=>by cases hu
theorem UsDom.one {mu:Mu} {u:Use} (h:mu (useId u)≠none):UsDom mu [u]:=fun v hv=>by rw [List.mem_singleton.1 hv];exact h
theorem UsR.dom {tos:Nat→Prop} {bx:Prop} {u:Use} (h:UsR mu tos bx u):mu (useId u)≠none:=by
 cases u with
 |mv id to=>obtain ⟨⟨_,_,_,_,h⟩,_⟩:=h;simp [useId,h]
 |pm id =>
  rcases h with ⟨_,_,_,_,h⟩|⟨_,_,h⟩|⟨_,h⟩
  ·simp [useId,h]
  ·simp [useId,h]
  ·exact h
theorem fzs_le {mu':Mu} (hl:Le mu mu'):∀{us:List Use},UsDom mu us→fzs mu' us=fzs mu us
 | [],_=>rfl
 | .mv id to::r,h=>by simp only [fzs];rw [fzs_le hl fun u hu=>h u (by simp [hu])]
 | .pm id::r,h=>by
  simp only [fzs]
  rw [fzs_le hl fun u hu=>h u (by simp [hu])]
  have:=h (.pm id) (by simp)
  cases hm:mu id with
  |none=>exact absurd hm this
  |some b=>rw [hl _ _ hm]
theorem content_out {v:CV} {K:(es:Tys)→List es.D→Option R} {y:R} (h:content mu v K=some y):∃es xs,K es xs=some y∧∀mu',Le mu mu'→∀(R':Type) (K':(es:Tys)→List es.D→Option R'),content mu' v K'=K' es xs:=by
 cases v<;>simp only [content] at h<;>try (cases h;done)
 case ro es xs=>exact ⟨es,xs,h,fun _ _ _ _=>rfl⟩
 case own id =>
  cases hb:mu id with
  |none=>simp [hb] at h
  |some b =>
   cases b<;>simp only [hb] at h<;>try (cases h;done)
   case row es ms xs ver=>exact ⟨es,xs,h,fun mu' hl R' K'=>by simp [content,hl _ _ hb]⟩
   case fz es xs=>exact ⟨es,xs,h,fun mu' hl R' K'=>by simp [content,hl _ _ hb]⟩
 case nref id ver i j =>
  cases hb:mu id with
  |none=>simp [hb] at h
  |some b =>
   cases b<;>simp only [hb] at h<;>try (cases h;done)
   case row es ms xs ver' =>
    cases hver:Nat.beq ver ver' with
    |false=>simp [hver] at h
    |true =>
     simp only [hver,cond_true] at h
     cases hx:getN xs i with
     |none=>simp [hx] at h
     |some x =>
      simp only [hx,Option.bind_some] at h
      cases hlf:es.leaf j x with
      |none=>simp [hlf] at h
      |some l =>
       obtain ⟨lt,lx⟩:=l
       cases lt<;>simp only [hlf] at h<;>try (cases h;done)
       case sl es'=>exact ⟨es',lx,h,fun mu' hl R' K'=>by simp [content,hl _ _ hb,hver,hx,hlf]⟩
theorem packs_out {app:App}:∀(ts:Tys) {ms:List Md} {to:Nat} {cvs:List CV} {us:List Use} {R:Type} {K:ts.D→List CV→List Use→Option R} {y:R},packs app mu ts ms to cvs us K=some y →
  ∃x rest new,K x rest (new++us)=some y∧UsDom mu new∧∀mu',Le mu mu'→∀(R':Type) (K':ts.D→List CV→List Use→Option R'),packs app mu' ts ms to cvs us K'=K' x rest (new++us)
 | .nil,ms,to,cvs,us,R,K,y,h=>⟨(),cvs,[],h,.nil,fun _ _ _ _=>rfl⟩
 | .cons t ts,ms,to,[],us,R,K,y,h=>by simp [packs] at h
 | .cons t ts,ms,to,cv::cvs,us,R,K,y,h=>by
  simp only [packs] at h
  obtain ⟨x,new,h1,h2,h3⟩:=packLeaf_out h
  obtain ⟨xs,rest,new',h4,h5,h6⟩:=packs_out ts h1
  refine ⟨(x,xs),rest,new'++new,by rw [List.append_assoc];exact h4,h5.app fun u hu=>(h2 u hu).dom,fun mu' hl R' K'=>?_⟩
  simp only [packs]
  rw [h3 mu' hl,h6 mu' hl,List.append_assoc]
theorem ptrCells_out {v:CV} {n:Nat} {us:List Use} {K:List CV→List Use→Option R} {y:R} (h:ptrCells mu v n us K=some y) :
  ∃cs new,K cs (new++us)=some y∧UsDom mu new∧∀mu',Le mu mu'→∀(R':Type) (K':List CV→List Use→Option R'),ptrCells mu' v n us K'=K' cs (new++us):=by
 cases v<;>simp only [ptrCells] at h<;>try (cases h;done)
 case ptr id off =>
  cases hb:mu id with
  |none=>simp [hb] at h
  |some b =>
   cases b<;>simp only [hb] at h<;>try (cases h;done)
   case box cs=>exact ⟨_,[.pm id],h,.one (by simp [useId,hb]),fun mu' hl R' K'=>by simp [ptrCells,hl _ _ hb]⟩
   case rbox es x=>exact ⟨_,[],h,.nil,fun mu' hl R' K'=>by simp [ptrCells,hl _ _ hb]⟩
 case rptr es x off=>exact ⟨_,[],h,.nil,fun mu' hl R' K'=>rfl⟩
 case eptr id sz i off =>
  cases hb:mu id with
  |none=>simp [hb] at h
  |some b =>
   cases b<;>simp only [hb] at h<;>try (cases h;done)
   case row es ms xs ver =>
    cases hs:Nat.beq sz es.len with
    |false=>simp [hs] at h
    |true =>
     simp only [hs,cond_true] at h
     cases hx:getN xs i with
     |none=>simp [hx] at h
     |some x =>
      simp only [hx,Option.bind_some] at h
      exact ⟨_,[.pm id],h,.one (by simp [useId,hb]),fun mu' hl R' K'=>by simp [ptrCells,hl _ _ hb,hs,hx]⟩
theorem packIns_out:∀(gs:List Grp) (m:Nat) {args:List TV} {us:List Use} {R:Type} {K:GD gs→List Use→Option R} {y:R},packIns C mu gs m args us K=some y →
  ∃x new,K x (new++us)=some y∧UsDom mu new∧∀mu',Le mu mu'→∀(R':Type) (K':GD gs→List Use→Option R'),packIns C mu' gs m args us K'=K' x (new++us)
 | [],m,[],us,R,K,y,h=>⟨(),[],h,.nil,fun _ _ _ _=>rfl⟩
 | [],m,_::_,us,R,K,y,h=>by simp [packIns] at h
 |g::gs,m,[],us,R,K,y,h=>by simp [packIns] at h
 |g::gs,m,a::args,us,R,K,y,h=>by
  have go:∀(cvs:List CV) (us1 new1:List Use),us1=new1++us→UsDom mu new1→(packs (appC C) mu g.ts g.ms (64*m+1) cvs us1 fun x cvs us=>match cvs with
    | []=>packIns C mu gs (m+1) args us fun r us=>K (x,r) us
    |_=>none)=some y→∃x new,K x (new++us)=some y∧UsDom mu new∧∀mu',Le mu mu'→∀(R':Type) (K':GD (g::gs)→List Use→Option R'),(packs (appC C) mu' g.ts g.ms (64*m+1) cvs us1 fun x cvs us=>match cvs with
    | []=>packIns C mu' gs (m+1) args us fun r us=>K' (x,r) us
    |_=>none)=K' x (new++us):=by
   rintro cvs us1 new1 rfl hd h
   obtain ⟨x,rest,new,h1,h2,h3⟩:=packs_out g.ts h
   cases rest with
   |cons _ _=>cases h1
   |nil =>
    obtain ⟨r,new2,h4,h5,h6⟩:=packIns_out gs (m+1) h1
    refine ⟨(x,r),new2++(new++new1),by rw [List.append_assoc,List.append_assoc];exact h4,h5.app (h2.app hd),fun mu' hl R' K'=>?_⟩
    rw [h3 mu' hl]
    dsimp only
    rw [h6 mu' hl,List.append_assoc,List.append_assoc]
  obtain ⟨gk,gts,gms⟩:=g
  cases gk with
  |c =>
   cases a<;>simp only [packIns] at h<;>try (cases h;done)
   case c v=>exact go [v] us [] rfl .nil h
  |agg =>
   cases a<;>simp only [packIns] at h<;>try (cases h;done)
   case agg vs=>exact go vs us [] rfl .nil h
  |rp =>
   cases a<;>simp only [packIns] at h<;>try (cases h;done)
   case c v =>
    cases hs:allSh gms with
    |false=>simp [hs] at h
    |true =>
     simp only [hs,cond_true] at h
     obtain ⟨cs,new1,h1,h2,h3⟩:=ptrCells_out h
     obtain ⟨x,new,h4,h5,h6⟩:=go cs _ new1 rfl h2 h1
     refine ⟨x,new,h4,h5,fun mu' hl R' K'=>?_⟩
     simp only [packIns,hs,cond_true]
     rw [h3 mu' hl]
     exact h6 mu' hl R' K'
  |io =>
   cases a<;>simp only [packIns] at h<;>try (cases h;done)
   case c v =>
    cases v<;>simp only at h<;>try (cases h;done)
    case ptr id off =>
     cases hb:mu id with
     |none=>simp [hb] at h
     |some b =>
      cases b<;>simp only [hb] at h<;>try (cases h;done)
      case box cs =>
       cases ho:Nat.beq off 0 with
       |false=>simp [ho] at h
       |true =>
        simp only [ho,cond_true] at h
        obtain ⟨x,new,h4,h5,h6⟩:=go cs _ [.mv id (64*m)] rfl (.one (by simp [useId,hb])) h
        refine ⟨x,new,h4,h5,fun mu' hl R' K'=>?_⟩
        simp only [packIns,hl _ _ hb,ho,cond_true]
        exact h6 mu' hl R' K'
  |np =>
   cases a<;>simp [packIns] at h
  |wc =>
   cases a<;>simp only [packIns] at h<;>try (cases h;done)
   case c v=>exact go [v] us [] rfl .nil h
  |wa =>
   cases a<;>simp only [packIns] at h<;>try (cases h;done)
   case agg vs=>exact go vs us [] rfl .nil h
theorem tgOk_le {mu mu':Mu} (hl:Le mu mu') {t:Tg} (h:tgOk mu t=true):tgOk mu' t=true:=by
 cases t with
 |bx _=>rfl
 |cv cs =>
  simp only [tgOk,List.all_eq_true] at h ⊢
  intro c hc
  have:=h c hc
  cases c<;>try rfl
  case own id =>
   obtain ⟨b,hb⟩:=Option.isSome_iff_exists.1 this
   simp [hl _ _ hb]
theorem backRows_le {mu mu':Mu} (hl:Le mu mu'):∀(ts:Tys) {ms:List Md} {cs:List CV} {x:ts.D},tgOk mu (.cv cs)=true→backRows mu' ts ms cs x=backRows mu ts ms cs x
 | .nil,_,_,_,_=>by simp [backRows]
 | .cons t ts,ms,[],x,_=>by simp [backRows]
 | .cons t ts,ms,c::cs,x,h=>by
  simp only [tgOk,List.all_cons,Bool.and_eq_true] at h
  simp only [backRows]
  rw [backRows_le hl ts (cs:=cs) (by simp only [tgOk];exact h.2)]
  refine congrArg (· ++_) ?_
  unfold backRow
  cases mdHd ms with
  |sh=>rfl
  |own m =>
   cases c<;>try rfl
   case own id =>
    obtain ⟨b,hb⟩:=Option.isSome_iff_exists.1 h.1
    simp only [hb,hl _ _ hb]
theorem unOuts_le {mu mu':Mu} (hl:Le mu mu') {idb:Nat}:∀(gs:List Grp) (r nr:Nat) {io:List Tg} {y:GD gs},io.all (tgOk mu)=true→unOuts mu' idb gs r nr io y=unOuts mu idb gs r nr io y
 | [],_,_,_,_,_=>by simp [unOuts]
 |g::gs,r,0,[],y,h=>by simp only [unOuts];exact unOuts_le hl gs (r+1) 0 h
 |g::gs,r,0,t::io,y,h=>by
  simp only [List.all_cons,Bool.and_eq_true] at h
  simp only [unOuts]
  rw [unOuts_le hl gs (r+1) 0 (io:=io) h.2]
  cases t with
  |bx id=>rfl
  |cv cs=>simp only [backRows_le hl g.ts h.1]
 |g::gs,r,nr+1,io,y,h=>by
  simp only [unOuts]
  rw [unOuts_le hl gs (r+1) nr h]
theorem callU_out {idb f:Nat} {args:List TV} {K:TV→List (Nat×Blk)→Option R} {y:R} (h:callU C mu idb f args K=some y):∃v ms,K v ms=some y∧∀mu',Le mu mu'→∀(R':Type) (K':TV→List (Nat×Blk)→Option R'),callU C mu' idb f args K'=K' v ms:=by
 unfold callU at h
 cases hf:C.con f with
 |none=>simp [hf] at h
 |some con =>
  simp only [hf] at h
  obtain ⟨x,new,h1,h2,h3⟩:=packIns_out con.ins 0 h
  cases hu:(usesOk (new++ [])&&gsOk con.outs&&(ioIds con.ins args).all (tgOk mu)) with
  |false=>rw [hu] at h1;cases h1
  |true =>
   rw [hu] at h1
   simp only [cond_true] at h1
   cases hy:con.f x with
   |none=>simp [hy] at h1
   |some z =>
    simp only [hy,Option.bind_some] at h1
    refine ⟨_,_,h1,fun mu' hl R' K'=>?_⟩
    unfold callU
    simp only [hf]
    have hu':=hu
    simp only [Bool.and_eq_true] at hu'
    have hall:(ioIds con.ins args).all (tgOk mu')=true:=List.all_eq_true.2 fun t ht=>tgOk_le hl (List.all_eq_true.1 hu'.2 t ht)
    rw [h3 mu' hl,hu'.1.1,hu'.1.2,hall]
    simp only [Bool.and_self,cond_true,hy,Option.bind_some]
    rw [fzs_le hl (by simpa using h2),unOuts_le hl con.outs 0 _ hu'.2]
theorem upd_le {mu mu':Mu} (hl:Le mu mu') {k:Nat} {b:Blk}:Le (upd mu k (some b)) (upd mu' k (some b)):=fun n c h=>by
 unfold upd at h ⊢
 cases e:Nat.beq n k
 ·rw [e] at h;exact hl _ _ h
 ·rw [e] at h;exact h
theorem callN_out {idb f:Nat} {args:List TV} {K:TV→List (Nat×Blk)→Option R} {y:R} (h:callN C mu idb f args K=some y):∃v ms,K v ms=some y∧∀mu',Le mu mu'→∀(R':Type) (K':TV→List (Nat×Blk)→Option R'),callN C mu' idb f args K'=K' v ms:=by
 unfold callN at h
 cases hcon:C.con f with
 |none=>simp [hcon] at h
 |some con =>
  simp only [hcon] at h
  cases hn:nestAt con.ins args 0 with
  |none =>
   simp only [hn] at h
   obtain ⟨v,ms,h1,h2⟩:=callU_out h
   refine ⟨v,ms,h1,fun mu' hl R' K'=>?_⟩
   unfold callN
   simp only [hcon,hn]
   exact h2 mu' hl R' K'
  |some p =>
   obtain ⟨n,id,ver,i,j⟩:=p
   simp only [hn] at h
   cases hb:mu id with
   |none=>simp [hb] at h
   |some bl =>
    cases bl<;>simp only [hb] at h<;>try (cases h;done)
    case row es ms xs ver' =>
     cases hver:Nat.beq ver ver' with
     |false=>simp [hver] at h
     |true =>
      simp only [hver,cond_true] at h
      cases hx:getN xs i with
      |none=>simp [hx] at h
      |some x =>
       simp only [hx,Option.bind_some] at h
       split at h
       ·rename_i es' xs' ms' hl hmd
        obtain ⟨v,l,h1,h2⟩:=callU_out h
        split at h1
        ·rename_i es2 ms2 ys ver2 hrow
         split at h1
         ·rename_i hes heq
          cases hms:mdsBeq ms2 ms' with
          |false=>simp [hms] at h1
          |true =>
           simp only [hms,cond_true] at h1
           cases hs:es.setLeaf j x (.sl es') (castL hes ys) with
           |none=>rw [hs] at h1;cases h1
           |some x' =>
            rw [hs] at h1
            simp only [Option.bind_some] at h1
            refine ⟨v,_,h1,fun mu' hle R' K'=>?_⟩
            unfold callN
            simp only [hcon,hn,hle _ _ hb,hver,cond_true,hx,Option.bind_some,hl,hmd]
            rw [h2 _ (upd_le (upd_le hle))]
            have hrow':updL (upd (upd mu' id (some .dead)) (idb+2047) (some (.row es' ms' xs' 0))) l (idb+2047)=some (.row es2 ms2 ys ver2):=by
             rw [←hrow]
             exact updL_congr (by rw [updAt,updAt])
            rw [hrow']
            dsimp only
            rw [heq]
            dsimp only
            rw [hms,cond_true,hs,Option.bind_some]
         ·cases h1
        ·cases h1
       ·cases h
theorem updL_le:∀(l:List (Nat×Blk)) {mu mu':Mu},Le mu mu'→Le (updL mu l) (updL mu' l)
 | [],_,_,h=>h
 |(k,b)::l,mu,mu',h=>updL_le l (mu:=upd mu k (some b)) (mu':=upd mu' k (some b)) (upd_le h)
theorem callE_out {idb f:Nat} {args:List TV} {K:TV→List (Nat×Blk)→Option R} {y:R} (h:callE C mu idb f args K=some y):∃v ms,K v ms=some y∧∀mu',Le mu mu'→∀(R':Type) (K':TV→List (Nat×Blk)→Option R'),callE C mu' idb f args K'=K' v ms:=by
 unfold callE at h
 cases hcon:C.con f with
 |none=>simp [hcon] at h
 |some con =>
  simp only [hcon] at h
  cases hn:elemAt con.ins args 0 with
  |none =>
   simp only [hn] at h
   obtain ⟨v,ms,h1,h2⟩:=callN_out h
   refine ⟨v,ms,h1,fun mu' hl R' K'=>?_⟩
   unfold callE
   simp only [hcon,hn]
   exact h2 mu' hl R' K'
  |some p =>
   obtain ⟨n,id,sz,i⟩:=p
   simp only [hn] at h
   cases hb:mu id with
   |none=>simp [hb] at h
   |some bl =>
    cases bl<;>simp only [hb] at h<;>try (cases h;done)
    case row es ms xs ver =>
     cases hcond:(Nat.beq sz es.len&&(Nat.ble es.len 62&&mdOk es ms)) with
     |false=>simp [hcond] at h
     |true =>
      simp only [hcond,cond_true] at h
      cases hx:getN xs i with
      |none=>simp [hx] at h
      |some x =>
       simp only [hx,Option.bind_some] at h
       obtain ⟨v,l,h1,h2⟩:=callU_out h
       split at h1
       ·rename_i cs hbx
        cases hp:(packs (R:=es.D×List Use) app0 (updL (updL mu (outE id (idb+1984) es ms x)) l) es ms 0 cs [] packEnd) with
        |none=>rw [hp] at h1;cases h1
        |some p =>
         obtain ⟨x',us⟩:=p
         rw [hp] at h1
         simp only [Option.bind_some] at h1
         cases hu:(usesOk us&&(us.all isMv&&(!hasId id us&& !hasId (idb+1984) us))) with
         |false=>rw [hu] at h1;cases h1
         |true =>
          rw [hu,cond_true] at h1
          obtain ⟨z,rest,new,hz,_,hpm⟩:=packs_out _ hp
          refine ⟨v,_,h1,fun mu' hle R' K'=>?_⟩
          have hle1:=updL_le (outE id (idb+1984) es ms x) hle
          have hle2:=updL_le l hle1
          unfold callE
          simp only [hcon,hn,hle _ _ hb,hcond,cond_true,hx,Option.bind_some]
          rw [h2 _ hle1,hle2 _ _ hbx]
          dsimp only
          rw [(hpm _ hle2 _ _).trans hz]
          simp only [Option.bind_some]
          rw [hu,cond_true]
       ·cases h1
theorem litElems_out {es:Tys} {ms:List Md}:∀(parts:List (Nat×TV)) (i:Nat) {us:List Use} {R:Type} {K:List es.D→List Use→Option R} {y:R},litElems mu es ms parts i us K=some y →
  ∃xs new,K xs (new++us)=some y∧UsDom mu new∧∀mu',Le mu mu'→∀(R':Type) (K':List es.D→List Use→Option R'),litElems mu' es ms parts i us K'=K' xs (new++us)
 | [],i,us,R,K,y,h=>⟨[],[],h,.nil,fun _ _ _ _=>rfl⟩
 |p::r,i,us,R,K,y,h=>by
  simp only [litElems] at h
  cases hp:Nat.beq p.1 i with
  |false=>simp [hp] at h
  |true =>
   simp only [hp,cond_true] at h
   cases hc:cellsOf p.2 with
   |none=>simp [hc] at h
   |some cvs =>
    simp only [hc] at h
    obtain ⟨x,rest,new,h1,h2,h3⟩:=packs_out es h
    cases rest with
    |cons _ _=>cases h1
    |nil =>
     obtain ⟨xs,new2,h4,h5,h6⟩:=litElems_out r (i+1) h1
     refine ⟨x::xs,new2++new,by rw [List.append_assoc];exact h4,h5.app h2,fun mu' hl R' K'=>?_⟩
     simp only [litElems,hp,cond_true,hc]
     rw [h3 mu' hl]
     dsimp only
     rw [h6 mu' hl,List.append_assoc]
theorem setLeaves_out:∀(ts:Tys) {ms:List Md} {j off:Nat} {vs:List CV} {x:ts.D} {us:List Use} {R:Type} {K:ts.D→List Use→Option R} {y:R},setLeaves mu ts ms j off vs x us K=some y →
  ∃z new,K z (new++us)=some y∧UsDom mu new∧∀mu',Le mu mu'→∀(R':Type) (K':ts.D→List Use→Option R'),setLeaves mu' ts ms j off vs x us K'=K' z (new++us)
 | .nil,ms,j,off,[],x,us,R,K,y,h=>⟨(),[],h,.nil,fun _ _ _ _=>rfl⟩
 | .nil,ms,j,off,_::_,x,us,R,K,y,h=>by simp [setLeaves] at h
 | .cons t ts,ms,j,off,[],x,us,R,K,y,h=>⟨x,[],h,.nil,fun _ _ _ _=>by simp [setLeaves]⟩
 | .cons t ts,ms,j,0,v::vs,x,us,R,K,y,h=>by
  simp only [setLeaves] at h
  obtain ⟨d,new,h1,h2,h3⟩:=packLeaf_out h
  obtain ⟨z,new2,h4,h5,h6⟩:=setLeaves_out ts h1
  refine ⟨(d,z),new2++new,by rw [List.append_assoc];exact h4,h5.app fun u hu=>(h2 u hu).dom,fun mu' hl R' K'=>?_⟩
  simp only [setLeaves]
  rw [h3 mu' hl,h6 mu' hl,List.append_assoc]
 | .cons t ts,ms,j,off+1,v::vs,x,us,R,K,y,h=>by
  simp only [setLeaves] at h
  obtain ⟨z,new2,h4,h5,h6⟩:=setLeaves_out ts h
  refine ⟨(x.1,z),new2,h4,h5,fun mu' hl R' K'=>?_⟩
  simp only [setLeaves]
  rw [h6 mu' hl]
theorem freezeU_out {es:Tys} {a:CV} {vs:List CV} {K:List (Nat×Blk)→Option R} {y:R} (h:freezeU mu es a vs K=some y):∃ms,K ms=some y∧∀mu',Le mu mu'→∀(R':Type) (K':List (Nat×Blk)→Option R'),freezeU mu' es a vs K'=K' ms:=by
 cases a with
 |ptr id off =>
  cases off with
  |succ n=>simp [freezeU] at h
  |zero =>
   simp only [freezeU] at h
   cases hb:mu id with
   |none=>simp [hb] at h
   |some b =>
    cases b<;>simp only [hb] at h<;>try (cases h;done)
    case box cs =>
     cases hle:Nat.beq vs.length cs.length with
     |false=>simp [hle] at h
     |true =>
      simp only [hle,cond_true] at h
      cases hp:packs (R:=es.D×List Use) app0 (updL mu [(id,.box vs)]) es [] 0 vs [] packEnd with
      |none=>rw [hp] at h;cases h
      |some p =>
       obtain ⟨xd,us⟩:=p
       rw [hp] at h
       simp only [Option.bind_some] at h
       cases us with
       |cons _ _=>cases h
       |nil =>
        obtain ⟨z,rest,new,hz,_,hpm⟩:=packs_out _ hp
        refine ⟨_,h,fun mu' hl R' K'=>?_⟩
        simp only [freezeU,hl _ _ hb,hle,cond_true]
        rw [(hpm _ (updL_le [(id,.box vs)] hl) _ _).trans hz]
        simp only [Option.bind_some]
 |_=>simp [freezeU] at h
theorem storeU_out {a:CV} {vs:List CV} {K:List (Nat×Blk)→Option R} {y:R} (h:storeU mu a vs K=some y):∃ms,K ms=some y∧∀mu',Le mu mu'→∀(R':Type) (K':List (Nat×Blk)→Option R'),storeU mu' a vs K'=K' ms:=by
 cases a<;>simp only [storeU] at h<;>try (cases h;done)
 case ptr id off =>
  cases hb:mu id with
  |none=>simp [hb] at h
  |some b =>
   cases b<;>simp only [hb] at h<;>try (cases h;done)
   case box cs =>
    cases hle:Nat.ble (off+vs.length) cs.length with
    |false=>simp [hle] at h
    |true =>
     simp only [hle,cond_true] at h
     exact ⟨_,h,fun mu' hl R' K'=>by simp [storeU,hl _ _ hb,hle]⟩
 case eptr id sz i off =>
  cases hb:mu id with
  |none=>simp [hb] at h
  |some b =>
   cases b<;>simp only [hb] at h<;>try (cases h;done)
   case row es ms xs ver =>
    cases hle:(Nat.ble (off+vs.length) es.len&&Nat.beq sz es.len) with
    |false=>simp [hle] at h
    |true =>
     simp only [hle,cond_true] at h
     cases hx:getN xs i with
     |none=>simp [hx] at h
     |some x =>
      simp only [hx,Option.bind_some] at h
      obtain ⟨z,new,h1,h2,h3⟩:=setLeaves_out es h
      cases hu:(usesOk (new++ [])&& !hasId id (new++ [])) with
      |false=>rw [hu] at h1;cases h1
      |true =>
       rw [hu] at h1
       simp only [cond_true] at h1
       refine ⟨_,h1,fun mu' hl R' K'=>?_⟩
       simp only [storeU,hl _ _ hb,hle,cond_true,hx,Option.bind_some]
       rw [h3 mu' hl,hu]
       simp only [cond_true]
       rw [fzs_le hl (by simpa using h2)]
theorem loadU_out {v:CV} {n:Nat} {K:List CV→Option R} {y:R} (h:loadU mu v n K=some y):∃cs,K cs=some y∧∀mu',Le mu mu'→∀(R':Type) (K':List CV→Option R'),loadU mu' v n K'=K' cs:=by
 cases v<;>simp only [loadU] at h<;>try (cases h;done)
 case ptr id off =>
  cases hb:mu id with
  |none=>simp [hb] at h
  |some b =>
   cases b<;>simp only [hb] at h<;>try (cases h;done)
   case box cs =>
    cases hle:Nat.ble (off+n) cs.length with
    |false=>simp [hle] at h
    |true=>simp only [hle,cond_true] at h;exact ⟨_,h,fun mu' hl R' K'=>by simp [loadU,hl _ _ hb,hle]⟩
   case rbox es x =>
    cases hle:Nat.ble (off+n) es.len with
    |false=>simp [hle] at h
    |true=>simp only [hle,cond_true] at h;exact ⟨_,h,fun mu' hl R' K'=>by simp [loadU,hl _ _ hb,hle]⟩
 case rptr es x off =>
  cases hle:Nat.ble (off+n) es.len with
  |false=>simp [hle] at h
  |true=>simp only [hle,cond_true] at h;exact ⟨_,h,fun mu' hl R' K'=>by simp [loadU,hle]⟩
 case eptr id sz i off =>
  cases hb:mu id with
  |none=>simp [hb] at h
  |some b =>
   cases b<;>simp only [hb] at h<;>try (cases h;done)
   case row es ms xs ver =>
    cases hle:(Nat.ble (off+n) es.len&&Nat.beq sz es.len) with
    |false=>simp [hle] at h
    |true =>
     simp only [hle,cond_true] at h
     cases hx:getN xs i with
     |none=>simp [hx] at h
     |some x=>simp only [hx,Option.bind_some] at h;exact ⟨_,h,fun mu' hl R' K'=>by simp [loadU,hl _ _ hb,hle,hx]⟩
   case fz es xs =>
    cases hle:(Nat.ble (off+n) es.len&&Nat.beq sz es.len) with
    |false=>simp [hle] at h
    |true =>
     simp only [hle,cond_true] at h
     cases hx:getN xs i with
     |none=>simp [hx] at h
     |some x=>simp only [hx,Option.bind_some] at h;exact ⟨_,h,fun mu' hl R' K'=>by simp [loadU,hl _ _ hb,hle,hx]⟩
theorem cutU_out {α:Type} {lo hi:Option TV} {n:Nat} {xs:α} {f:Nat→Nat→α→Option R} {y:R} (h:cutU lo hi n xs f=some y):∃l m,f l m xs=some y∧∀(R':Type) (f':Nat→Nat→α→Option R'),cutU lo hi n xs f'=f' l m xs:=by
 unfold cutU at h
 split at h
 ·exact ⟨_,_,h,fun R' f'=>by simp [cutU]⟩
 ·rename_i k l
  cases hc:cutHi l n with
  |false=>simp [hc] at h
  |true=>simp only [hc,cond_true] at h;exact ⟨_,_,h,fun R' f'=>by simp [cutU,hc]⟩
 ·rename_i k l
  cases hc:cutHi l n with
  |false=>simp [hc] at h
  |true=>simp only [hc,cond_true] at h;exact ⟨_,_,h,fun R' f'=>by simp [cutU,hc]⟩
 ·rename_i k l k' m
  cases hc:cutLH l m n with
  |false=>simp [hc] at h
  |true=>simp only [hc,cond_true] at h;exact ⟨_,_,h,fun R' f'=>by simp [cutU,hc]⟩
 ·cases h
theorem sliceU_out {v:CV} {lo hi:Option TV} {K:TV→List (Nat×Blk)→Option R} {y:R} (h:sliceU mu v lo hi K=some y):∃tv ms,K tv ms=some y∧∀mu',Le mu mu'→∀(R':Type) (K':TV→List (Nat×Blk)→Option R'),sliceU mu' v lo hi K'=K' tv ms:=by
 cases v<;>simp only [sliceU] at h<;>try (cases h;done)
 case str s=>obtain ⟨l,m,h1,h2⟩:=cutU_out h;exact ⟨_,_,h1,fun mu' hl R' K'=>by simp only [sliceU];rw [h2]⟩
 case ro es xs=>obtain ⟨l,m,h1,h2⟩:=cutU_out h;exact ⟨_,_,h1,fun mu' hl R' K'=>by simp only [sliceU];rw [h2]⟩
 case nils=>obtain ⟨l,m,h1,h2⟩:=cutU_out h;exact ⟨_,_,h1,fun mu' hl R' K'=>by simp only [sliceU];rw [h2]⟩
 case own id =>
  cases hb:mu id with
  |none=>simp [hb] at h
  |some b =>
   cases b<;>simp only [hb] at h<;>try (cases h;done)
   case row es ms xs ver=>obtain ⟨l,m,h1,h2⟩:=cutU_out h;exact ⟨_,_,h1,fun mu' hl R' K'=>by simp only [sliceU,hl _ _ hb];rw [h2]⟩
   case fz es xs=>obtain ⟨l,m,h1,h2⟩:=cutU_out h;exact ⟨_,_,h1,fun mu' hl R' K'=>by simp only [sliceU,hl _ _ hb];rw [h2]⟩
theorem esOk_le {mu':Mu} (hl:Le mu mu') {n:Nat} {v:CV} (h:esOk mu n v=true):esOk mu' n v=true:=by
 cases v<;>simp only [esOk] at h ⊢ <;>try (first|exact h|(cases h;done))
 case own id =>
  cases hb:mu id with
  |none=>simp [hb] at h
  |some b=>rw [hb] at h;rw [hl _ _ hb];exact h
 case nref id ver i j =>
  cases hb:mu id with
  |none=>simp [hb] at h
  |some b=>rw [hb] at h;rw [hl _ _ hb];exact h
theorem idxU_out {v:CV} {n:Int} {K:CV→Option R} {y:R} (h:idxU mu v n K=some y):∃p,K p=some y∧∀mu',Le mu mu'→∀(R':Type) (K':CV→Option R'),idxU mu' v n K'=K' p:=by
 cases v<;>simp only [idxU] at h<;>try (cases h;done)
 case ro es xs =>
  cases hx:getI xs n with
  |none=>simp [hx] at h
  |some x=>simp only [hx,Option.bind_some] at h;exact ⟨_,h,fun mu' hl R' K'=>by simp [idxU,hx]⟩
 case own id =>
  cases hb:mu id with
  |none=>simp [hb] at h
  |some b =>
   cases b<;>simp only [hb] at h<;>try (cases h;done)
   case row es ms xs ver =>
    cases hx:getI xs n with
    |none=>simp [hx] at h
    |some x=>simp only [hx,Option.bind_some] at h;exact ⟨_,h,fun mu' hl R' K'=>by simp [idxU,hl _ _ hb,hx]⟩
   case fz es xs =>
    cases hx:getI xs n with
    |none=>simp [hx] at h
    |some x=>simp only [hx,Option.bind_some] at h;exact ⟨_,h,fun mu' hl R' K'=>by simp [idxU,hl _ _ hb,hx]⟩
theorem lenU_out {v:CV} {K:Int→Option R} {y:R} (h:lenU mu v K=some y):∃n,K n=some y∧∀mu',Le mu mu'→∀(R':Type) (K':Int→Option R'),lenU mu' v K'=K' n:=by
 by_cases hn:v= .nils
 ·subst hn;exact ⟨0,h,fun _ _ _ _=>rfl⟩
 ·have e:∀(mu:Mu) (R:Type) (K:Int→Option R),lenU mu v K=content mu v fun _ xs=>K xs.length:=by
   intro mu R K
   cases v<;>first|rfl|exact absurd rfl hn
  rw [e] at h
  obtain ⟨es,xs,h1,h2⟩:=content_out h
  exact ⟨_,h1,fun mu' hl R' K'=>by rw [e,h2 mu' hl]⟩
theorem appended_out {es:Tys} {v:CV} {K:List es.D→Option R} {y:R} (h:appended mu es v K=some y):∃xs,K xs=some y∧∀mu',Le mu mu'→∀(R':Type) (K':List es.D→Option R'),appended mu' es v K'=K' xs:=by
 by_cases hn:v= .nils
 ·subst hn;exact ⟨[],h,fun _ _ _ _=>rfl⟩
 ·by_cases hs:∃s,v= .str s
  ·obtain ⟨s,rfl⟩:=hs
   simp only [appended] at h
   cases he:Tys.eq? tyBytes es with
   |none=>simp [he] at h
   |some p=>simp only [he] at h;exact ⟨_,h,fun mu' hl R' K'=>by simp [appended,he]⟩
  ·have e:∀(mu:Mu) (R:Type) (K:List es.D→Option R),appended mu es v K=content mu v fun es' ys=>match Tys.eq? es' es with
     |some ⟨h⟩=>K (castL h ys)
     |none=>none:=by
    intro mu R K
    cases v<;>first|rfl|exact absurd rfl hn|exact absurd ⟨_,rfl⟩ hs
   rw [e] at h
   obtain ⟨es',xs,h1,h2⟩:=content_out h
   cases he:Tys.eq? es' es with
   |none=>simp [he] at h1
   |some p =>
    simp only [he] at h1
    exact ⟨_,h1,fun mu' hl R' K'=>by rw [e,h2 mu' hl];simp [he]⟩
theorem srcOk_le {mu':Mu} (hl:Le mu mu') {ms:List Md} {v:CV} {dd:List (Nat×Blk)} (h:srcOk mu ms v=some dd):srcOk mu' ms v=some dd:=by
 cases v<;>simp only [srcOk] at h ⊢ <;>try (first|exact h|(cases h;done))
 case own id =>
  cases hb:mu id with
  |none=>simp [hb] at h
  |some b=>rw [hb] at h;rw [hl _ _ hb];exact h
theorem appendU_out {idb:Nat} {es:Tys} {ms:List Md} {bytes:Nat} {s x:CV} {K:TV→List (Nat×Blk)→Option R} {y:R} (h:appendU mu idb es ms bytes s x K=some y):∃tv ms',K tv ms'=some y∧∀mu',Le mu mu'→∀(R':Type) (K':TV→List (Nat×Blk)→Option R'),appendU mu' idb es ms bytes s x K'=K' tv ms':=by
 cases s<;>simp only [appendU] at h<;>try (cases h;done)
 case nils =>
  cases hs:srcOk mu ms x with
  |none=>simp [hs] at h
  |some dd =>
   simp only [hs] at h
   obtain ⟨ys,h1,h2⟩:=appended_out h
   cases hr:room ys.length bytes with
   |false=>simp [hr] at h1
   |true =>
    simp only [hr,cond_true] at h1
    refine ⟨_,_,h1,fun mu' hl R' K'=>?_⟩
    simp only [appendU,srcOk_le hl hs]
    rw [h2 mu' hl,hr];rfl
 case own id =>
  cases hb:mu id with
  |none=>simp [hb] at h
  |some b =>
   cases b<;>simp only [hb] at h<;>try (cases h;done)
   case row es' ms' xs ver =>
    cases he:Tys.eq? es' es with
    |none=>simp [he] at h
    |some p =>
     simp only [he] at h
     cases hs:srcOk mu ms' x with
     |none=>simp [hs] at h
     |some dd =>
      simp only [hs] at h
      cases hsr:sameRow id x with
      |true=>simp [hsr] at h
      |false =>
       simp only [hsr,cond_false] at h
       obtain ⟨ys,h1,h2⟩:=appended_out h
       cases hr:room (xs.length+ys.length) bytes with
       |false=>simp [hr] at h1
       |true =>
        simp only [hr,cond_true] at h1
        refine ⟨_,_,h1,fun mu' hl R' K'=>?_⟩
        simp only [appendU,hl _ _ hb,he,srcOk_le hl hs,hsr,cond_false]
        rw [h2 mu' hl,hr];rfl
end
end Go.Tm
/- The pure machine, 39: an operation's outcome. -/
namespace Go.Tm
open Go
section
variable {C:Ctx} {env:Nat→TV} {mu:Mu} {R:Type}
theorem binU_out {tk:TK} {eq:Option (List TK)} {op:BinOp} {x y:TV} {K:TV→Option R} {r:R} (hk:∀e,tk≠ .slice e) (h:binU mu tk eq op x y K=some r) :
  ∃v,K v=some r∧∀(mu':Mu) (R':Type) (K':TV→Option R'),binU mu' tk eq op x y K'=K' v:=by
 unfold binU at h
 split at h
 ·rename_i k a k' b
  split at h
  ·cases hb:iLt b 0 with
   |true=>simp [hb] at h
   |false=>simp only [hb,cond_false] at h;exact ⟨_,h,fun mu' R' K'=>by simp [binU,hb]⟩
  ·cases hb:iLt b 0 with
   |true=>simp [hb] at h
   |false=>simp only [hb,cond_false] at h;exact ⟨_,h,fun mu' R' K'=>by simp [binU,hb]⟩
  ·rename_i h1 h2
   split at h
   ·rename_i hkk
    cases op<;>simp only at h<;>try (cases h;done)
    case quo =>
     cases hb:iEq b 0 with
     |true=>simp [hb] at h
     |false=>simp only [hb,cond_false] at h;exact ⟨_,h,fun mu' R' K'=>by simp [binU,hb,hkk]⟩
    case rem =>
     cases hb:iEq b 0 with
     |true=>simp [hb] at h
     |false=>simp only [hb,cond_false] at h;exact ⟨_,h,fun mu' R' K'=>by simp [binU,hb,hkk]⟩
    all_goals exact ⟨_,h,fun mu' R' K'=>by simp [binU,hkk]⟩
   ·cases h
 ·rename_i a b
  cases op<;>simp only at h<;>try (cases h;done)
  case add =>
   cases hb:sRoom a b with
   |false=>simp [hb] at h
   |true=>simp only [hb,cond_true] at h;exact ⟨_,h,fun mu' R' K'=>by simp [binU,hb]⟩
  all_goals exact ⟨_,h,fun mu' R' K'=>by simp [binU]⟩
 ·rename_i a b
  cases tk<;>simp only at h<;>try (cases h;done)
  case bool =>
   cases op<;>simp only at h<;>try (cases h;done)
   all_goals exact ⟨_,h,fun mu' R' K'=>by simp [binU]⟩
 ·rename_i a b
  cases eq with
  |none=>cases h
  |some ks =>
   cases op<;>simp only at h<;>try (cases h;done)
   case eql =>
    cases he:eqCVs ks a b with
    |none=>simp [he] at h
    |some c=>simp only [he] at h;exact ⟨_,h,fun mu' R' K'=>by simp [binU,he]⟩
   case neq =>
    cases he:eqCVs ks a b with
    |none=>simp [he] at h
    |some c=>simp only [he] at h;exact ⟨_,h,fun mu' R' K'=>by simp [binU,he]⟩
 ·cases tk<;>simp only at h<;>try (cases h;done)
  case slice e=>exact absurd rfl (hk e)
 ·cases h
theorem builtinU_out {idb rid i:Nat} {b:Builtin} {ts:List Nat} {args:List TV} {K:TV→List (Nat×Blk)→Option R} {y:R} (h:builtinU C mu idb rid i b ts args K=some y) :
  ∃v ms,K v ms=some y∧∀mu',Le mu mu'→∀(R':Type) (K':TV→List (Nat×Blk)→Option R'),builtinU C mu' idb rid i b ts args K'=K' v ms:=by
 unfold builtinU at h
 split at h
 ·rename_i v
  split at h
  ·rename_i t
   split at h
   ·rename_i ti ht
    split at h
    ·rename_i s hk;exact ⟨_,_,h,fun mu' hl R' K'=>by simp [builtinU,ht,hk]⟩
    ·cases h
    ·rename_i e hne hk
     obtain ⟨n,h1,h2⟩:=lenU_out h
     refine ⟨_,_,h1,fun mu' hl R' K'=>?_⟩
     simp only [builtinU,ht,hne]
     exact h2 mu' hl R' _
    ·cases h
   ·cases h
  ·cases h
 ·rename_i k a r
  split at h
  ·rename_i n hn;exact ⟨_,_,h,fun mu' hl R' K'=>by simp [builtinU,hn]⟩
  ·cases h
 ·rename_i k a r
  split at h
  ·rename_i n hn;exact ⟨_,_,h,fun mu' hl R' K'=>by simp [builtinU,hn]⟩
  ·cases h
 ·rename_i s x
  split at h
  ·rename_i t t2
   split at h
   ·rename_i e te ti2 he ht2
    cases ha:apTy ti2.k with
    |false=>simp [ha] at h
    |true =>
     simp only [ha,cond_true] at h
     obtain ⟨tv,ms,h1,h2⟩:=appendU_out h
     exact ⟨_,_,h1,fun mu' hl R' K'=>by simp only [builtinU,he,ht2,ha,cond_true];exact h2 mu' hl R' K'⟩
   ·cases h
  ·cases h
 ·cases h
theorem fndU_out {sh:List Nat} {as rs:Tys} {g:as.D→Option rs.D} {args:List TV} {K:TV→List (Nat×Blk)→Option R} {y:R} (h:fndU mu sh as rs g args K=some y) :
  ∃v ms,K v ms=some y∧∀mu',Le mu mu'→∀(R':Type) (K':TV→List (Nat×Blk)→Option R'),fndU mu' sh as rs g args K'=K' v ms:=by
 unfold fndU at h
 split at h
 ·cases h
 ·rename_i cvs hc
  have:∀(R':Type) (K':TV→List (Nat×Blk)→Option R') (mu':Mu),fndU mu' sh as rs g args K'=fndU mu sh as rs g args K':=fun _ _ _=>rfl
  obtain ⟨x,rest,new,h1,_,h3⟩:=packs_out as h
  cases rest with
  |cons _ _=>cases h1
  |nil =>
   cases hg:g x with
   |none=>simp [hg] at h1
   |some z =>
    simp only [hg,Option.bind_some] at h1
    split at h1
    ·rename_i v hv
     refine ⟨_,_,h1,fun mu' hl R' K'=>?_⟩
     unfold fndU
     rw [hc]
     dsimp only
     rw [h3 mu0 (fun _ _ h=>h)]
     simp [hg,hv]
    ·cases h1
theorem map_eval {env':Nat→TV} {xs:Array Operand} (h:∀x∈xs,evalTV env' x=evalTV env x):xs.toList.map (evalTV env')=xs.toList.map (evalTV env) :=
 List.map_congr_left fun x hx=>h x (by simpa using hx)
theorem parts_eval {env':Nat→TV} {ps:Array (Nat×Operand)} (h:∀x∈ps.map (·.2),evalTV env' x=evalTV env x):(ps.toList.map fun p=>(p.1,evalTV env' p.2))=ps.toList.map fun p=>(p.1,evalTV env p.2) :=
 List.map_congr_left fun p hp=>by rw [h p.2 (Array.mem_map.2 ⟨p,by simpa using hp,rfl⟩)]
theorem capIds_eval {env':Nat→TV}:∀{xs:List Operand},(∀x∈xs,evalTV env' x=evalTV env x)→capIds env' xs=capIds env xs
 | [],_=>rfl
 |x::r,h=>by simp only [capIds];rw [h x (by simp),capIds_eval fun y hy=>h y (by simp [hy])]
theorem opt_eval {env':Nat→TV} {x:Option Operand} (h:∀y,x=some y→evalTV env' y=evalTV env y):x.map (evalTV env')=x.map (evalTV env):=by
 cases x with
 |none=>rfl
 |some y=>simp [h y rfl]
theorem opU_eval {env':Nat→TV} {idb rid i:Nat} {o:Oper} {K:TV→List (Nat×Blk)→Option R} (h:∀x∈o.op.operands,evalTV env' x=evalTV env x) :
  opU C env' mu idb rid i o K=opU C env mu idb rid i o K:=by
 cases hop:o.op<;>simp only [hop,Op.operands] at h<;>simp only [opU,hop]
 case build t ps=>rw [parts_eval fun x hx=>h x (by simpa using hx)]
 case buildSlice t n ps=>rw [parts_eval fun x hx=>h x (by simpa using hx)]
 case makeFunc fn first captured =>
  cases fn<;>simp only
  case func f=>rw [capIds_eval fun x hx=>h x (by simp at hx ⊢;exact .inr hx)]
 case call c =>
  cases hc:c.callee with
  |builtin b=>simp only;rw [map_eval fun x hx=>h x (by simp [Call.operands,hx])]
  |value f=>simp only;rw [map_eval fun x hx=>h x (by simp [Call.operands,hx]),h f (by simp [Call.operands,hc])]
  |invoke _ _=>rfl
 case slice t x lo hi mx =>
  cases mx with
  |some m=>rfl
  |none =>
   simp only
   rw [opt_eval (x:=lo) fun y hy=>h y (by subst hy;simp),opt_eval (x:=hi) fun y hy=>h y (by subst hy;simp),h x (by simp)]
 case unOp op t x=>rw [h x (by simp)]
 all_goals (first|rfl|(simp_all;done))
theorem sliceArr_out {mu:Mu} {size:Nat} {v:CV} {K:TV→List (Nat×Blk)→Option R} {y:R} (h:sliceArr mu size v K=some y) :
  ∃tv,K tv []=some y∧∀mu',Le mu mu'→∀(R':Type) (K':TV→List (Nat×Blk)→Option R'),sliceArr mu' size v K'=K' tv []:=by
 unfold sliceArr at h
 split at h
 ·rename_i id off
  cases h0:Nat.beq off 0 with
  |false=>simp [h0] at h
  |true =>
   rw [h0,cond_true] at h
   split at h
   ·rename_i es xd hb
    cases hl:Nat.beq es.len size with
    |false=>simp [hl] at h
    |true =>
     rw [hl,cond_true] at h
     cases es with
     |nil=>cases h
     |cons t ts =>
      simp only at h
      split at h
      ·rename_i l hr
       exact ⟨_,h,fun mu' hle R' K'=>by simp [sliceArr,h0,hle id _ hb,hl,hr]⟩
      ·cases h
   ·cases h
 ·cases h
theorem packs_flat {app:App} {mu:Mu}:∀(ts:Tys),flatTys ts=true→∀{ms:List Md} {to:Nat} {cvs:List CV} {us:List Use} {R:Type} {K:ts.D→List CV→List Use→Option R} {y:R},packs app mu ts ms to cvs us K=some y →
  ∃x rest,K x rest us=some y∧∀mu' (R':Type) (K':ts.D→List CV→List Use→Option R'),packs app mu' ts ms to cvs us K'=K' x rest us
 | .nil,_,ms,to,cvs,us,R,K,y,h=>⟨(),cvs,h,fun _ _ _=>rfl⟩
 | .cons t ts,_,ms,to,[],us,R,K,y,h=>by simp [packs] at h
 | .cons t ts,hf,ms,to,cv::cvs,us,R,K,y,h=>by
  simp only [flatTys,Bool.and_eq_true] at hf
  simp only [packs] at h
  cases t<;>simp only [flatTy] at hf<;>try (cases hf.1;done)
  case int k =>
   cases cv<;>simp only [packLeaf] at h<;>try (cases h;done)
   rename_i k' n
   by_cases hk:k=k'
   ·simp only [hk,if_true] at h
    obtain ⟨xs,rest,h4,h6⟩:=packs_flat ts hf.2 h
    exact ⟨(n,xs),rest,h4,fun mu' R' K'=>by simp only [packs,packLeaf,hk,if_true];rw [h6]⟩
   ·rw [if_neg hk] at h;cases h
  case bool =>
   cases cv<;>simp only [packLeaf] at h<;>try (cases h;done)
   rename_i b
   obtain ⟨xs,rest,h4,h6⟩:=packs_flat ts hf.2 h
   exact ⟨(b,xs),rest,h4,fun mu' R' K'=>by simp only [packs,packLeaf];rw [h6]⟩
  case str =>
   cases cv<;>simp only [packLeaf] at h<;>try (cases h;done)
   rename_i b
   obtain ⟨xs,rest,h4,h6⟩:=packs_flat ts hf.2 h
   exact ⟨(b,xs),rest,h4,fun mu' R' K'=>by simp only [packs,packLeaf];rw [h6]⟩
theorem litElems_flat {mu:Mu} {es:Tys} {ms:List Md} (hf:flatTys es=true):∀(parts:List (Nat×TV)) (i:Nat) {us:List Use} {R:Type} {K:List es.D→List Use→Option R} {y:R},litElems mu es ms parts i us K=some y →
  ∃xs,K xs us=some y∧∀mu' (R':Type) (K':List es.D→List Use→Option R'),litElems mu' es ms parts i us K'=K' xs us
 | [],i,us,R,K,y,h=>⟨[],h,fun _ _ _=>rfl⟩
 |p::r,i,us,R,K,y,h=>by
  simp only [litElems] at h
  cases hp:Nat.beq p.1 i with
  |false=>simp [hp] at h
  |true =>
   simp only [hp,cond_true] at h
   cases hc:cellsOf p.2 with
   |none=>simp [hc] at h
   |some cvs =>
    simp only [hc] at h
    obtain ⟨x,rest,h1,h3⟩:=packs_flat es hf h
    cases rest with
    |cons _ _=>cases h1
    |nil =>
     obtain ⟨xs,h4,h6⟩:=litElems_flat hf r (i+1) h1
     refine ⟨x::xs,h4,fun mu' R' K'=>?_⟩
     simp only [litElems,hp,cond_true,hc]
     rw [h3 mu']
     dsimp only
     rw [h6 mu']
theorem opU_out {idb rid i:Nat} {o:Oper} {K:TV→List (Nat×Blk)→Option R} {y:R} (hdet:opDet C o.op=true) (h:opU C env mu idb rid i o K=some y) :
  ∃v ms,K v ms=some y∧∀mu',(opReads C o.op=true→Le mu mu')→∀(R':Type) (K':TV→List (Nat×Blk)→Option R'),opU C env mu' idb rid i o K'=K' v ms:=by
 cases hop:o.op<;>simp only [opU,hop] at h<;>try (cases h;done)
 case move x=>exact ⟨_,_,h,fun mu' _ R' K'=>by simp only [opU,hop]⟩
 case assign x=>exact ⟨_,_,h,fun mu' _ R' K'=>by simp only [opU,hop]⟩
 case pick c x z =>
  split at h
  ·rename_i b hc
   cases b
   ·exact ⟨_,_,h,fun mu' _ R' K'=>by simp only [opU,hop,hc];rfl⟩
   ·exact ⟨_,_,h,fun mu' _ R' K'=>by simp only [opU,hop,hc];rfl⟩
  ·cases h
 case alloc e =>
  split at h
  ·rename_i ti ht;exact ⟨_,_,h,fun mu' _ R' K'=>by simp only [opU,hop,ht]⟩
  ·cases h
 case box e x =>
  split at h
  ·rename_i cs hx
   cases hsi:(C.site rid i).isEmpty with
   |true=>rw [hsi] at h;exact ⟨_,_,h,fun mu' _ R' K'=>by simp only [opU,hop,hx,hsi,cond_true]⟩
   |false =>
    simp only [hsi,cond_false] at h
    cases hp:(packs (R:=(C.es e).D×List Use) app0 (fun _=>none) (C.es e) [] 0 cs [] packEnd) with
    |none=>simp [hp] at h
    |some p =>
     obtain ⟨xd,us⟩:=p
     simp only [hp,Option.bind_some] at h
     cases us with
     |nil=>exact ⟨_,_,h,fun mu' _ R' K'=>by simp only [opU,hop,hx,hsi,cond_false,hp,Option.bind_some]⟩
     |cons u us=>cases h
  ·cases h
 case build t parts =>
  split at h
  ·rename_i ti ht
   split at h
   ·rename_i hk
    split at h
    ·rename_i cs hb;exact ⟨_,_,h,fun mu' _ R' K'=>by simp only [opU,hop,ht,hk,hb]⟩
    ·cases h
   ·cases h
  ·cases h
 case buildSlice t len parts =>
  split at h
  ·rename_i e te he
   cases hb:(Nat.ble (len*te.size) 16777216&&Nat.beq parts.size len&&Nat.blt 0 te.size&&Nat.ble te.size 62) with
   |false=>rw [hb] at h;cases h
   |true =>
    rw [hb] at h
    simp only [cond_true] at h
    cases hfl:flatTys (C.es e) with
    |true =>
     obtain ⟨xs,h1,h3⟩:=litElems_flat hfl _ _ h
     have h1:K (.c (.own idb)) (fzs mu []++ [(idb,.row (C.es e) (C.site rid i) xs 0)])=some y:=h1
     exact ⟨_,_,h1,fun mu' hl R' K'=>by simp only [opU,hop,he,hb,cond_true];rw [h3];rfl⟩
    |false =>
    obtain ⟨xs,new,h1,h2,h3⟩:=litElems_out _ _ h
    cases hu:usesOk (new++ []) with
    |false=>rw [hu] at h1;cases h1
    |true =>
     rw [hu] at h1
     simp only [cond_true] at h1
     refine ⟨_,_,h1,fun mu' hl R' K'=>?_⟩
     have hl:=hl (by simp only [opReads,hop,he,hfl,Bool.not_false])
     simp only [opU,hop,he,hb,cond_true]
     rw [h3 mu' hl,hu]
     simp only [cond_true]
     rw [fzs_le hl (by simpa using h2)]
  ·cases h
 case load t x =>
  split at h
  ·rename_i ti cv ht hx
   obtain ⟨cs,h1,h2⟩:=loadU_out h
   exact ⟨_,_,h1,fun mu' hl R' K'=>by
    have hl:=hl rfl
    simp only [opU,hop,ht,hx]
    exact h2 mu' hl R' _⟩
  ·cases h
 case store t x v =>
  split at h
  ·rename_i ti cv vs ht hx hv
   cases hlen:Nat.beq vs.length ti.size with
   |false=>simp [hlen] at h
   |true =>
    simp only [hlen,cond_true] at h
    cases hsite:(C.site rid i).isEmpty with
    |true =>
     simp only [hsite,cond_true] at h
     obtain ⟨ms,h1,h2⟩:=storeU_out h
     exact ⟨_,_,h1,fun mu' hl R' K'=>by
      have hl:=hl rfl
      simp only [opU,hop,ht,hx,hv,hlen,hsite,cond_true]
      exact h2 mu' hl R' _⟩
    |false =>
     simp only [hsite,cond_false] at h
     obtain ⟨ms,h1,h2⟩:=freezeU_out h
     exact ⟨_,_,h1,fun mu' hl R' K'=>by
      have hl:=hl rfl
      simp only [opU,hop,ht,hx,hv,hlen,hsite,cond_true,cond_false]
      exact h2 mu' hl R' _⟩
  ·cases h
 case nilCheck x =>
  split at h
  ·rename_i id off hx;exact ⟨_,_,h,fun mu' _ R' K'=>by simp only [opU,hop,hx]⟩
  ·rename_i id sz i off hx;exact ⟨_,_,h,fun mu' _ R' K'=>by simp only [opU,hop,hx]⟩
  ·rename_i es z off hx;exact ⟨_,_,h,fun mu' _ R' K'=>by simp only [opU,hop,hx]⟩
  ·cases h
 case binOp op t x z t2 =>
  have hk:∀e,(match C.ty t with|some ti=>ti.k|none=> .other)≠TK.slice e:=by
   intro e he
   rw [hop] at hdet
   simp only [opDet] at hdet
   cases ht:C.ty t with
   |none=>rw [ht] at he;cases he
   |some ti =>
    rw [ht] at he hdet
    have he:ti.k= .slice e:=he
    simp [he] at hdet
  obtain ⟨v,h1,h2⟩:=binU_out hk h
  exact ⟨v,_,h1,fun mu' _ R' K'=>by simp only [opU,hop];exact h2 mu' R' _⟩
 case unOp op t x =>
  split at h
  ·rename_i b hx;exact ⟨_,_,h,fun mu' _ R' K'=>by simp only [opU,hop,hx]⟩
  ·rename_i k n hx;exact ⟨_,_,h,fun mu' _ R' K'=>by simp only [opU,hop,hx]⟩
  ·rename_i k n hx;exact ⟨_,_,h,fun mu' _ R' K'=>by simp only [opU,hop,hx]⟩
  ·cases h
 case convert t t2 x =>
  cases ht:C.ty t with
  |none=>simp [ht] at h
  |some si =>
   cases ht2:C.ty t2 with
   |none=>simp [ht,ht2] at h
   |some ti =>
    cases hx:evalTV env x<;>simp only [ht,ht2,hx] at h<;>try (cases h;done)
    case c cv =>
     cases hk:ti.k<;>simp only [hk] at h<;>try (cases h;done)
     case int k' =>
      cases cv<;>simp only at h<;>try (cases h;done)
      case int k n=>exact ⟨_,_,h,fun mu' _ R' K'=>by simp only [opU,hop,ht,ht2,hx,hk]⟩
     case str =>
      by_cases hs:∃b,cv= .str b
      ·obtain ⟨b,rfl⟩:=hs
       exact ⟨_,_,h,fun mu' _ R' K'=>by simp only [opU,hop,ht,ht2,hx,hk]⟩
      ·have e:∀(mu:Mu) (R:Type) (K:TV→List (Nat×Blk)→Option R),(match (generalizing:=false) TK.str,cv with
        | .int k',.int _ n=>K (.c (.int k' (k'.wrap n))) []
        | .str,.str s=>K (.c (.str s)) []
        | .str,v=>match (generalizing:=false) si.k with
         | .slice e=>match C.ty e with
          |some te=>match te.k with
           | .int .u8=>match (generalizing:=false) v with
            | .nils=>K (.c (.str ⟨#[]⟩)) []
            |v=>content mu v fun es xs=>match Tys.eq? es tyBytes with
             |some ⟨h⟩=>K (.c (.str (bytesStr (castL h xs)))) []
             |none=>none
           |_=>none
          |none=>none
         |_=>none
        |_,_=>none)=(match (generalizing:=false) si.k with
         | .slice e=>match C.ty e with
          |some te=>match te.k with
           | .int .u8=>match (generalizing:=false) cv with
            | .nils=>K (.c (.str ⟨#[]⟩)) []
            |v=>content mu v fun es xs=>match Tys.eq? es tyBytes with
             |some ⟨h⟩=>K (.c (.str (bytesStr (castL h xs)))) []
             |none=>none
           |_=>none
          |none=>none
         |_=>none):=by
        intro mu R K
        cases cv<;>first|rfl|exact absurd ⟨_,rfl⟩ hs
       have h:=(e mu R K).symm.trans h
       cases hsk:si.k<;>simp only [hsk] at h<;>try (cases h;done)
       case slice el =>
        cases he:C.ty el with
        |none=>simp [he] at h
        |some te =>
         simp only [he] at h
         cases hek:te.k<;>simp only [hek] at h<;>try (cases h;done)
         case int ik =>
          cases ik<;>simp only at h<;>try (cases h;done)
          case u8 =>
           by_cases hn:cv= .nils
           ·subst hn
            exact ⟨_,_,h,fun mu' _ R' K'=>by simp only [opU,hop,ht,ht2,hx,hk];refine (e mu' R' K').trans ?_;simp only [hsk,he,hek]⟩
           ·have e2:∀(mu:Mu) (R:Type) (K:TV→List (Nat×Blk)→Option R),(match (generalizing:=false) cv with
             | .nils=>K (.c (.str ⟨#[]⟩)) []
             |v=>content mu v fun es xs=>match Tys.eq? es tyBytes with
              |some ⟨h⟩=>K (.c (.str (bytesStr (castL h xs)))) []
              |none=>none)=content mu cv fun es xs=>match Tys.eq? es tyBytes with
              |some ⟨h⟩=>K (.c (.str (bytesStr (castL h xs)))) []
              |none=>none:=by
             intro mu R K
             cases cv<;>first|rfl|exact absurd rfl hn
            have h:=(e2 mu R K).symm.trans h
            obtain ⟨es,xs,h1,h2⟩:=content_out h
            cases hq:Tys.eq? es tyBytes with
            |none=>simp [hq] at h1
            |some p =>
             simp only [hq] at h1
             refine ⟨_,_,h1,fun mu' hl R' K'=>?_⟩
             simp only [opU,hop,ht,ht2,hx,hk]
             refine (e mu' R' K').trans ?_
             simp only [hsk,he,hek]
             first|refine (e2 mu' R' K').trans ?_|skip
             rw [h2 mu' (hl rfl)]
             simp only [hq]
 case makeFunc f first captured =>
  cases f<;>simp only at h<;>try (cases h;done)
  case func f =>
   cases hf:first.isEmpty with
   |false=>simp [hf] at h
   |true =>
    simp only [hf,cond_true] at h
    split at h
    ·rename_i l hc;exact ⟨_,_,h,fun mu' _ R' K'=>by simp only [opU,hop,hf,cond_true,hc]⟩
    ·cases h
 case makeSlice t l c =>
  split at h
  ·rename_i e te k n k' n' he hl hc
   split at h
   ·rename_i hk
    cases hm:(Nat.blt 0 te.size&&mkOk n n' te.bytes) with
    |false=>simp [hm] at h
    |true =>
     simp only [hm,cond_true] at h
     obtain ⟨z,rest,new,h1,h2,h3⟩:=packs_out _ h
     cases rest with
     |cons _ _=>cases h1
     |nil =>
      cases hn:new++ [] with
      |cons _ _=>rw [hn] at h1;cases h1
      |nil =>
       rw [hn] at h1 h3
       refine ⟨_,_,h1,fun mu' hle R' K'=>?_⟩
       have hle:=hle rfl
       simp only [opU,hop,he,hl,hc,hk,and_self,if_true,hm,cond_true]
       rw [h3 mu' hle]
   ·cases h
  ·cases h
 case slice t x lo hi mx =>
  cases mx with
  |some m=>simp at h
  |none =>
   simp only at h
   cases ht:C.ty t with
   |none=>simp [ht] at h
   |some ti =>
    cases hx:evalTV env x<;>simp only [ht,hx] at h<;>try (cases h;done)
    case c cv =>
     cases hk:ti.k<;>simp only [hk] at h<;>try (cases h;done)
     case str =>
      cases cv<;>simp only at h<;>try (cases h;done)
      case str b =>
       obtain ⟨tv,ms,h1,h2⟩:=sliceU_out h
       exact ⟨_,_,h1,fun mu' hl R' K'=>by simp only [opU,hop,ht,hx,hk];exact h2 mu' (hl rfl) R' K'⟩
     case slice e0 =>
      cases he:elemTI C t with
      |none=>cases cv<;>simp [he] at h
      |some p =>
       obtain ⟨e,te⟩:=p
       have hns:∀b,cv≠ .str b:=by
        rintro b rfl
        simp at h
       have ee:∀(mu:Mu) (R:Type) (K:TV→List (Nat×Blk)→Option R),(match (generalizing:=false) TK.slice e0,cv with
        | .str,.str s=>sliceU mu (.str s) (lo.map (evalTV env)) (hi.map (evalTV env)) K
        | .slice _,v=>match (generalizing:=false) elemTI C t,v with
         |_,.str _=>none
         |some (e,_),v=>bif esOk mu (C.es e).len v then sliceU mu v (lo.map (evalTV env)) (hi.map (evalTV env)) K else none
         |none,_=>none
        | .struct,v=>bif ti.ags.isEmpty&& !ti.flds.isEmpty&&lo.isNone&&hi.isNone then sliceArr mu ti.size v K else none
        |_,_=>none)=bif esOk mu (C.es e).len cv then sliceU mu cv (lo.map (evalTV env)) (hi.map (evalTV env)) K else none:=by
        intro mu R K
        rw [he]
        cases cv<;>first|rfl|exact absurd rfl (hns _)
       have h:=(ee mu R K).symm.trans h
       cases hes:esOk mu (C.es e).len cv with
       |false=>simp [hes] at h
       |true =>
        simp only [hes,cond_true] at h
        obtain ⟨tv,ms,h1,h2⟩:=sliceU_out h
        refine ⟨_,_,h1,fun mu' hl R' K'=>?_⟩
        simp only [opU,hop,ht,hx,hk]
        refine (ee mu' R' K').trans ?_
        rw [esOk_le (hl rfl) hes]
        exact h2 mu' (hl rfl) R' K'
     case struct =>
      have ee:∀(mu:Mu) (R:Type) (K:TV→List (Nat×Blk)→Option R),(match (generalizing:=false) TK.struct,cv with
        | .str,.str s=>sliceU mu (.str s) (lo.map (evalTV env)) (hi.map (evalTV env)) K
        | .slice _,v=>match (generalizing:=false) elemTI C t,v with
         |_,.str _=>none
         |some (e,_),v=>bif esOk mu (C.es e).len v then sliceU mu v (lo.map (evalTV env)) (hi.map (evalTV env)) K else none
         |none,_=>none
        | .struct,v=>bif ti.ags.isEmpty&& !ti.flds.isEmpty&&lo.isNone&&hi.isNone then sliceArr mu ti.size v K else none
        |_,_=>none)=bif ti.ags.isEmpty&& !ti.flds.isEmpty&&lo.isNone&&hi.isNone then sliceArr mu ti.size cv K else none:=by
       intro mu R K
       cases cv<;>rfl
      have h:=(ee mu R K).symm.trans h
      cases hes:(ti.ags.isEmpty&& !ti.flds.isEmpty&&lo.isNone&&hi.isNone) with
      |false=>simp [hes] at h
      |true =>
       simp only [hes,cond_true] at h
       obtain ⟨tv,h1,h2⟩:=sliceArr_out h
       refine ⟨_,_,h1,fun mu' hl R' K'=>?_⟩
       simp only [opU,hop,ht,hx,hk]
       refine (ee mu' R' K').trans ?_
       rw [hes]
       exact h2 mu' (hl rfl) R' K'
 case fieldAddr t x f =>
  cases hf:structFld C t f with
  |none=>simp [hf] at h
  |some p =>
   obtain ⟨off,n⟩:=p
   cases hx:evalTV env x<;>simp only [hf,hx] at h<;>try (cases h;done)
   case c cv =>
    cases cv<;>simp only at h<;>try (cases h;done)
    case ptr id o'=>exact ⟨_,_,h,fun mu' _ R' K'=>by simp only [opU,hop,hf,hx]⟩
    case eptr id sz i o'=>exact ⟨_,_,h,fun mu' _ R' K'=>by simp only [opU,hop,hf,hx]⟩
    case rptr es z o'=>exact ⟨_,_,h,fun mu' _ R' K'=>by simp only [opU,hop,hf,hx]⟩
 case field t x f =>
  split at h
  ·rename_i off n vs ag hf hx hga
   cases ag with
   |true=>exact ⟨_,_,h,fun mu' _ R' K'=>by simp only [opU,hop,hf,hx,hga];rfl⟩
   |false =>
    simp only [cond_false] at h
    split at h
    ·rename_i v hv;exact ⟨_,_,h,fun mu' _ R' K'=>by simp only [opU,hop,hf,hx,hga,cond_false,hv]⟩
    ·cases h
  ·cases h
 case indexAddr t x z =>
  split at h
  ·rename_i e te cv k n he hx hz
   cases hes:esOk mu (C.es e).len cv with
   |false=>simp [hes] at h
   |true =>
    simp only [hes,cond_true] at h
    obtain ⟨p,h1,h2⟩:=idxU_out h
    refine ⟨_,_,h1,fun mu' hl R' K'=>?_⟩
    have hl:=hl rfl
    simp only [opU,hop,he,hx,hz,esOk_le hl hes,cond_true]
    exact h2 mu' hl R' _
  ·cases h
 case index t x z =>
  split at h
  ·rename_i ti b k n ht hx hz
   cases hk:ti.k<;>simp only [hk] at h<;>try (cases h;done)
   case str =>
    cases hu:getI b.data.toList n with
    |none=>simp [hu] at h
    |some u=>simp only [hu,Option.bind_some] at h;exact ⟨_,_,h,fun mu' _ R' K'=>by simp only [opU,hop,ht,hx,hz,hk,hu,Option.bind_some]⟩
  ·cases h
 case extract x i =>
  split at h
  ·rename_i vs hx
   split at h
   ·rename_i e he;exact ⟨_,_,h,fun mu' _ R' K'=>by simp only [opU,hop,hx,he]⟩
   ·cases h
  ·cases h
 case call c =>
  cases hc:c.callee with
  |value f =>
   simp only [hc] at h
   cases hf:evalTV env f<;>simp only [hf] at h<;>try (cases h;done)
   case c cv =>
    cases cv<;>simp only at h<;>try (cases h;done)
    case fnp fn =>
     obtain ⟨v,ms,h1,h2⟩:=callE_out h
     exact ⟨v,ms,h1,fun mu' hl R' K'=>by simp only [opU,hop,hc,hf];exact h2 mu' (hl rfl) R' K'⟩
    case fnd sh as rs k =>
     obtain ⟨v,ms,h1,h2⟩:=fndU_out h
     exact ⟨v,ms,h1,fun mu' hl R' K'=>by simp only [opU,hop,hc,hf];exact h2 mu' (hl rfl) R' K'⟩
  |invoke _ _=>simp [hc] at h
  |builtin b =>
   simp only [hc] at h
   obtain ⟨v,ms,h1,h2⟩:=builtinU_out h
   exact ⟨v,ms,h1,fun mu' hl R' K'=>by simp only [opU,hop,hc];exact h2 mu' (hl rfl) R' K'⟩
def LeOn (C:Ctx) (rid i:Nat) (mu mu':Mu):Prop:=∀id b,sees C rid i id=true→mu id=some b→mu' id=some b
section
variable {l:List Nat} {m1 m2:Mu}
theorem loadU_dep (h:∀id,l.any (Nat.beq id)=true→m1 id=m2 id) {v:CV} (hv:cvIn l v=true) (n:Nat) {R':Type} (K':List CV→Option R'):loadU m1 v n K'=loadU m2 v n K':=by
 cases v<;>simp only [cvIn] at hv<;>first|rfl|(cases hv;done)|(simp only [loadU];rw [h _ hv])
theorem content_dep (h:∀id,l.any (Nat.beq id)=true→m1 id=m2 id) {v:CV} (hv:cvIn l v=true) {R':Type} (K':(es:Tys)→List es.D→Option R'):content m1 v K'=content m2 v K':=by
 cases v<;>simp only [cvIn] at hv<;>first|rfl|(cases hv;done)|(simp only [content];rw [h _ hv])
theorem lenU_dep (h:∀id,l.any (Nat.beq id)=true→m1 id=m2 id) {v:CV} (hv:cvIn l v=true) {R':Type} (K':Int→Option R'):lenU m1 v K'=lenU m2 v K':=by
 cases v<;>simp only [lenU]<;>exact content_dep h hv _
theorem idxU_dep (h:∀id,l.any (Nat.beq id)=true→m1 id=m2 id) {v:CV} (hv:cvIn l v=true) (n:Int) {R':Type} (K':CV→Option R'):idxU m1 v n K'=idxU m2 v n K':=by
 cases v<;>simp only [cvIn] at hv<;>first|rfl|(cases hv;done)|(simp only [idxU];rw [h _ hv])
theorem esOk_dep (h:∀id,l.any (Nat.beq id)=true→m1 id=m2 id) {v:CV} (hv:cvIn l v=true) (n:Nat):esOk m1 n v=esOk m2 n v:=by
 cases v<;>simp only [cvIn] at hv<;>first|rfl|(cases hv;done)|(simp only [esOk];rw [h _ hv])
theorem sliceU_dep (h:∀id,l.any (Nat.beq id)=true→m1 id=m2 id) {v:CV} (hv:cvIn l v=true) (lo hi:Option TV) {R':Type} (K':TV→List (Nat×Blk)→Option R'):sliceU m1 v lo hi K'=sliceU m2 v lo hi K':=by
 cases v<;>simp only [cvIn] at hv<;>first|rfl|(cases hv;done)|(simp only [sliceU];rw [h _ hv])
theorem sliceArr_dep {v:CV} (h1:cvFz m2 v=true) (n:Nat) {R':Type} (K':TV→List (Nat×Blk)→Option R'):sliceArr m1 n v K'=none:=by
 cases v<;>simp only [cvFz] at h1<;>first|rfl|(cases h1;done)
end
theorem loadU_nil {mu:Mu} {v:CV} {n:Nat} {z:List (Nat×Blk)} {K:List CV→TV} (h:loadU mu v n (fun cs=>(fun (_:TV) (ms:List (Nat×Blk))=>some ms) (K cs) [])=some z):z= []:=by
 obtain ⟨cs,h1,_⟩:=loadU_out h
 cases h1;rfl
theorem lenU_nil {mu:Mu} {v:CV} {z:List (Nat×Blk)} {K:Int→TV} (h:lenU mu v (fun n=>(fun (_:TV) (ms:List (Nat×Blk))=>some ms) (K n) [])=some z):z= []:=by
 obtain ⟨cs,h1,_⟩:=lenU_out h
 cases h1;rfl
theorem idxU_nil {mu:Mu} {v:CV} {n:Int} {z:List (Nat×Blk)} {K:CV→TV} (h:idxU mu v n (fun p=>(fun (_:TV) (ms:List (Nat×Blk))=>some ms) (K p) [])=some z):z= []:=by
 obtain ⟨cs,h1,_⟩:=idxU_out h
 cases h1;rfl
theorem sliceU_nil {mu:Mu} {v:CV} (hf:cvFz mu v=true) {lo hi:Option TV} {z:List (Nat×Blk)} (h:sliceU mu v lo hi (fun _ ms=>some ms)=some z):z= []:=by
 cases v<;>simp only [cvFz] at hf<;>try (cases hf;done)
 case nils=>simp only [sliceU] at h;obtain ⟨l,m,h1,_⟩:=cutU_out h;cases h1;rfl
 case ro es xs=>simp only [sliceU] at h;obtain ⟨l,m,h1,_⟩:=cutU_out h;cases h1;rfl
 case own id =>
  simp only [sliceU] at h
  cases hb:mu id with
  |none=>simp [hb] at hf
  |some b =>
   cases b<;>simp only [hb] at hf h<;>try (cases hf;done)
   case fz es xs=>obtain ⟨l,m,h1,_⟩:=cutU_out h;cases h1;rfl
theorem sl_nil {α:Type} {z:List α} {b:Bool} {o:Option (List α)} (h:o=some z→z= []) (hz:(bif b then o else none)=some z):z= []:=by
 cases b
 ·cases hz
 ·exact h hz
theorem opU_rd {idb rid i:Nat} {o:Oper} {K:TV→List (Nat×Blk)→Option R} {y:R} (hdet:opDet C o.op=true) (hrd:rdOk C rid i env mu o.op=true) (h:opU C env mu idb rid i o K=some y) :
  ∃v ms,K v ms=some y∧(rdOf C rid i≠none→ms= [])∧∀mu',(opReads C o.op=true→LeOn C rid i mu mu')→∀(R':Type) (K':TV→List (Nat×Blk)→Option R'),opU C env mu' idb rid i o K'=K' v ms:=by
 obtain ⟨v,ms,h1,h2⟩:=opU_out hdet h
 cases hr:rdOf C rid i with
 |none=>exact ⟨v,ms,h1,fun e=>absurd rfl e,fun mu' hl=>h2 mu' fun ho id b hb=>hl ho id b (by simp [sees,hr]) hb⟩
 |some l =>
  unfold rdOk at hrd
  rw [hr] at hrd
  have key:(∀(m1 m2:Mu),(∀id,l.any (Nat.beq id)=true→m1 id=m2 id)→∀(R':Type) (K':TV→List (Nat×Blk)→Option R'),opU C env m1 idb rid i o K'=opU C env m2 idb rid i o K')∧(∀z,opU C env mu idb rid i o (fun _ ms=>some ms)=some z→z= []):=by
   cases hop:o.op<;>rw [hop] at hrd<;>simp only at hrd<;>try (cases hrd;done)
   case load t x =>
    cases hx:evalTV env x<;>rw [hx] at hrd<;>simp only at hrd<;>try (cases hrd;done)
    rename_i cv
    refine ⟨fun m1 m2 hm R' K'=>?_,fun z hz=>?_⟩
    ·simp only [opU,hop,hx]
     cases C.ty t with
     |none=>rfl
     |some ti=>exact loadU_dep hm hrd _ _
    ·simp only [opU,hop,hx] at hz
     cases ht:C.ty t with
     |none=>simp [ht] at hz
     |some ti=>simp only [ht] at hz;exact loadU_nil (K:=fun cs=>TV.ofCells (match ti.k with| .struct=>true|_=>false) cs) hz
   case indexAddr t x z =>
    cases hx:evalTV env x<;>rw [hx] at hrd<;>simp only at hrd<;>try (cases hrd;done)
    rename_i cv
    refine ⟨fun m1 m2 hm R' K'=>?_,fun z' hz=>?_⟩
    ·simp only [opU,hop,hx]
     split
     ·rename_i heq1 heq2 heq3
      cases heq2
      rw [esOk_dep hm hrd,idxU_dep hm hrd]
     ·rfl
    ·simp only [opU,hop,hx] at hz
     split at hz
     ·rename_i e fst cv' k n heq1 heq2 heq3
      cases heq2
      cases he:esOk mu (C.es e).len cv with
      |false=>simp [he] at hz
      |true=>simp only [he,cond_true] at hz;exact idxU_nil (K:=fun p=> .c p) hz
     ·cases hz
   case slice t x lo hi mx =>
    cases mx<;>simp only at hrd<;>try (cases hrd;done)
    cases hx:evalTV env x<;>rw [hx] at hrd<;>simp only [Bool.and_eq_true] at hrd<;>try (cases hrd;done)
    rename_i cv
    obtain ⟨hin,hfz⟩:=hrd
    refine ⟨fun m1 m2 hm R' K'=>?_,fun z' hz=>?_⟩
    ·simp only [opU,hop,hx]
     cases C.ty t with
     |none=>rfl
     |some ti =>
      dsimp only
      have e1:∀n,esOk m1 n cv=esOk m2 n cv:=fun n=>esOk_dep hm hin n
      have e2:∀lo hi,sliceU m1 cv lo hi K'=sliceU m2 cv lo hi K':=fun lo hi=>sliceU_dep hm hin lo hi K'
      have e3:∀n,sliceArr m1 n cv K'=sliceArr m2 n cv K':=fun n=>(sliceArr_dep (m2:=mu) hfz n K').trans (sliceArr_dep (m2:=mu) hfz n K').symm
      cases cv<;>simp only [cvFz] at hfz<;>try (cases hfz;done)
      all_goals
       cases ti.k<;>first|rfl|(cases elemTI C t<;>simp only [e1,e2,e3])|(simp only [e1,e2,e3])
    ·simp only [opU,hop,hx] at hz
     cases ht:C.ty t with
     |none=>simp [ht] at hz
     |some ti =>
      simp only [ht] at hz
      have h3:∀n,sliceArr mu n cv (fun (_:TV) (ms:List (Nat×Blk))=>some ms)=none:=fun n=>sliceArr_dep hfz n _
      have h4:∀lo hi,sliceU mu cv lo hi (fun (_:TV) (ms:List (Nat×Blk))=>some ms)=some z'→z'= []:=fun lo hi=>sliceU_nil hfz
      cases cv<;>simp only [cvFz] at hfz<;>try (cases hfz;done)
      all_goals
       cases hk:ti.k<;>simp only [hk] at hz<;>first
        |(cases hz;done)
        |(rw [h3] at hz;simp at hz;done)
        |skip
      all_goals
       cases hel:elemTI C t with
       |none=>simp [hel] at hz
       |some et =>
        simp only [hel] at hz
        exact sl_nil (h4 _ _) hz
   case call c =>
    cases hc:c.callee<;>rw [hc] at hrd<;>try (cases hrd;done)
    rename_i b
    cases b<;>try (cases hrd;done)
    dsimp only at hrd
    cases hargs:c.args.toList.map (evalTV env) with
    |nil=>rw [hargs] at hrd;cases hrd
    |cons tv l2 =>
     cases tv<;>cases l2<;>rw [hargs] at hrd<;>dsimp only at hrd<;>try (cases hrd;done)
     rename_i cv
     refine ⟨fun m1 m2 hm R' K'=>?_,fun z' hz=>?_⟩
     ·simp only [opU,hop,hc,hargs,builtinU]
      split
      ·split
       ·split<;>first|rfl|exact lenU_dep hm hrd _
       ·rfl
      ·rfl
     ·simp only [opU,hop,hc,hargs,builtinU] at hz
      split at hz
      ·split at hz
       ·split at hz
        all_goals first
         |(cases hz;done)
         |exact lenU_nil (K:=fun n=> .c (.int .i64 n)) hz
         |(cases hz;rfl)
       ·cases hz
      ·cases hz
  refine ⟨v,ms,h1,fun _=>key.2 ms (h2 mu (fun _ _ _ hb=>hb) _ (fun _ ms=>some ms)),fun mu' hl R' K'=>?_⟩
  let m2:Mu:=fun id=>bif l.any (Nat.beq id) then mu' id else mu id
  rw [key.1 mu' m2 (fun id hid=>by simp only [m2,hid,cond_true]) R' K']
  refine h2 m2 (fun ho id b hb=>?_) R' K'
  show (bif l.any (Nat.beq id) then mu' id else mu id)=some b
  cases hid:l.any (Nat.beq id) with
  |false=>exact hb
  |true=>exact hl ho id b (by simp only [sees,hr];exact hid) hb
end
end Go.Tm
/- The pure machine, 40: regions that draw their order: which operations come before which. -/
namespace Go.Tm
open Go
theorem bitOf_eq (m i:Nat):bitOf m i=m.testBit i:=by
 unfold bitOf Nat.testBit
 show Nat.beq ((m >>> i) &&& 1) 1=((1 &&& (m >>> i)) != 0)
 rw [Nat.and_comm (m >>> i) 1,Nat.and_comm 1,Nat.and_one_is_mod]
 rcases Nat.mod_two_eq_zero_or_one (m >>> i) with h|h<;>rw [h]<;>rfl
def preAt (ops:Array Oper) (i:Nat):Nat:=(preL ops.toList []).getD i 0
def preF (acc:List Nat) (o:Oper):Nat:=o.after.toList.foldl (fun s e=>bif Region.binds .any e then Nat.lor (Nat.lor s (Nat.pow 2 e.on)) (acc.getD e.on 0) else s) 0
theorem preL_cons (o:Oper) (r:List Oper) (acc:List Nat):preL (o::r) acc=preL r (acc++ [preF acc o]):=rfl
theorem preL_acc:∀(l:List Oper) (acc:List Nat) (k:Nat),k<acc.length→(preL l acc).getD k 0=acc.getD k 0
 | [],acc,k,h=>rfl
 |o::r,acc,k,h=>by
  rw [preL_cons,preL_acc r _ k (by simp;omega)]
  simp [List.getD,List.getElem?_append_left h]
theorem preL_take:∀(l:List Oper) (acc:List Nat),(preL l acc).take acc.length=acc
 | [],acc=>by show acc.take acc.length=acc;simp
 |o::r,acc=>by
  rw [preL_cons]
  have:=congrArg (List.take acc.length) (preL_take r (acc++ [preF acc o]))
  simpa [List.take_take] using this
theorem preL_get:∀(l:List Oper) (acc:List Nat) (j:Nat) (o:Oper),l[j]?=some o→(preL l acc).getD (acc.length+j) 0=preF ((preL l acc).take (acc.length+j)) o
 | [],acc,j,o,h=>by simp at h
 |x::r,acc,0,o,h=>by
  simp at h
  subst h
  rw [preL_cons,Nat.add_zero,preL_acc r _ acc.length (by simp)]
  have h1:=congrArg (List.take acc.length) (preL_take r (acc++ [preF acc x]))
  simp only [List.take_take,List.length_append,List.length_singleton,Nat.min_eq_left (Nat.le_succ _),List.take_left'] at h1
  have h2:List.take acc.length (preL r (acc++ [preF acc x]))=acc:=by simpa using h1
  rw [h2]
  simp [List.getD]
 |x::r,acc,j+1,o,h=>by
  rw [preL_cons]
  have:=preL_get r (acc++ [preF acc x]) j o (by simpa using h)
  rwa [show (acc++ [preF acc x]).length+j=acc.length+(j+1) by simp;omega] at this
theorem preAt_eq {ops:Array Oper} {i:Nat} {o:Oper} (h:ops[i]?=some o):preAt ops i=preF ((preL ops.toList []).take i) o:=by
 have:=preL_get ops.toList [] i o (by simpa using h)
 simpa [preAt] using this
theorem getD_take {l:List Nat} {i k:Nat}:(l.take i).getD k 0=if k<i then l.getD k 0 else 0:=by
 simp only [List.getD,List.getElem?_take]
 split<;>rfl
theorem preF_bit {acc:List Nat} {o:Oper} {k:Nat}:bitOf (preF acc o) k=true↔∃e∈o.after.toList,Region.binds .any e=true∧(e.on=k∨bitOf (acc.getD e.on 0) k=true):=by
 have key:∀(l:List Edge) (s:Nat),bitOf (l.foldl (fun s e=>bif Region.binds .any e then Nat.lor (Nat.lor s (Nat.pow 2 e.on)) (acc.getD e.on 0) else s) s) k=true ↔
   bitOf s k=true∨∃e∈l,Region.binds .any e=true∧(e.on=k∨bitOf (acc.getD e.on 0) k=true):=by
  intro l
  induction l with
  |nil=>intro s;simp
  |cons e l ih =>
   intro s
   rw [List.foldl_cons,ih]
   cases hb:Region.binds .any e with
   |false =>
    simp only [cond_false,List.mem_cons,exists_eq_or_imp,hb,Bool.false_eq_true,false_and,false_or]
   |true =>
    have h1:bitOf (Nat.lor (Nat.lor s (Nat.pow 2 e.on)) (acc.getD e.on 0)) k=(bitOf s k||decide (e.on=k)||bitOf (acc.getD e.on 0) k):=by
     rw [bitOf_eq,bitOf_eq,bitOf_eq]
     show ((s ||| 2 ^ e.on) ||| acc.getD e.on 0).testBit k=_
     rw [Nat.testBit_or,Nat.testBit_or,Nat.testBit_two_pow]
    simp only [cond_true,h1,Bool.or_eq_true,decide_eq_true_eq,List.mem_cons,exists_eq_or_imp,hb,true_and]
    constructor
    ·rintro (((h|h)|h)|h)
     ·exact .inl h
     ·exact .inr (.inl (.inl h))
     ·exact .inr (.inl (.inr h))
     ·exact .inr (.inr h)
    ·rintro (h|(h|h)|h)
     ·exact .inl (.inl (.inl h))
     ·exact .inl (.inl (.inr h))
     ·exact .inl (.inr h)
     ·exact .inr h
 have h0:bitOf 0 k=false:=by rw [bitOf_eq];simp
 unfold preF
 rw [key o.after.toList 0,h0]
 simp
structure Drw (C:Ctx) (ops:Array Oper):Prop where
 det:∀(i:Nat) (o:Oper),ops[i]?=some o→opDet C o.op=true
 low:∀(i:Nat) (o:Oper) (k:Nat),ops[i]?=some o→bitOf (preAt ops i) k=true→k<i
 row:∀(i j:Nat) (oi oj:Oper),ops[i]?=some oi→ops[j]?=some oj→i<j→bitOf (preAt ops j) i=true∨oi.apart ops oj=true
theorem drawRow_ok {all:Array Oper} {o:Oper} {m:Nat}:∀(l:List Oper) (i j:Nat),drawRow all o m l i j=true→∀k x,l[k]?=some x→i+k<j→bitOf m (i+k)=true∨x.apart all o=true
 | [],i,j,h,k,x,hx,_=>by simp at hx
 |y::r,i,j,h,k,x,hx,hlt=>by
  simp only [drawRow,Bool.and_eq_true] at h
  cases k with
  |zero =>
   simp at hx;subst hx
   have:Nat.blt i j=true:=by rw [Nat.blt_eq];omega
   rw [this] at h
   simpa using h.1
  |succ k =>
   have:=drawRow_ok r (i+1) j h.2 k x (by simpa using hx) (by omega)
   rwa [show i+1+k=i+(k+1) by omega] at this
theorem drawOk_ok {C:Ctx} {all:Array Oper} {ops:List Oper}:∀(l:List Oper) (pre:List Nat) (j:Nat),drawOk C all ops l pre j=true→∀k o,l[k]?=some o →
  opDet C o.op=true∧pre.getD k 0<2 ^ (j+k)∧drawRow all o (pre.getD k 0) ops 0 (j+k)=true
 | [],pre,j,h,k,o,hk=>by simp at hk
 |x::r,pre,j,h,k,o,hk=>by
  simp only [drawOk,Bool.and_eq_true] at h
  have hd:pre.headD 0=pre.getD 0 0:=by cases pre<;>rfl
  cases k with
  |zero =>
   simp at hk;subst hk
   rw [hd] at h
   refine ⟨h.1.1.1,?_,h.1.2⟩
   have:=h.1.1.2
   rw [Nat.blt_eq] at this
   exact this
  |succ k =>
   have:=drawOk_ok r pre.tail (j+1) h.2 k o (by simpa using hk)
   have ht:pre.tail.getD k 0=pre.getD (k+1) 0:=by cases pre<;>simp [List.getD]
   rwa [ht,show j+1+k=j+(k+1) by omega] at this
theorem Drw.of {C:Ctx} {ops:Array Oper} (h:drawOk C ops ops.toList ops.toList (preL ops.toList []) 0=true):Drw C ops where
 det i o hi:=(drawOk_ok _ _ _ h i o (by simpa using hi)).1
 low i o k hi hk:=by
  have:=(drawOk_ok _ _ _ h i o (by simpa using hi)).2.1
  rw [Nat.zero_add] at this
  rcases Nat.lt_or_ge k i with h'|h'
  ·exact h'
  ·exfalso
   rw [bitOf_eq] at hk
   have h2:preAt ops i<2 ^ k:=Nat.lt_of_lt_of_le this (Nat.pow_le_pow_right (by omega) h')
   rw [Nat.testBit_lt_two_pow h2] at hk
   cases hk
 row i j oi oj hi hj hlt:=by
  have:=(drawOk_ok _ _ _ h j oj (by simpa using hj)).2.2
  rw [Nat.zero_add] at this
  have:=drawRow_ok _ _ _ this i oi (by simpa using hi) (by omega)
  rw [Nat.zero_add] at this
  exact this
theorem pre_step {ops:Array Oper} {i k:Nat} {o:Oper} (hi:ops[i]?=some o):bitOf (preAt ops i) k=true↔∃e∈o.after.toList,Region.binds .any e=true∧(e.on=k∨(e.on<i∧bitOf (preAt ops e.on) k=true)):=by
 rw [preAt_eq hi,preF_bit]
 constructor
 ·rintro ⟨e,he,hb,h⟩
  refine ⟨e,he,hb,h.imp id fun h=>?_⟩
  rw [getD_take] at h
  split at h
  ·exact ⟨‹_›,h⟩
  ·rw [bitOf_eq] at h;simp at h
 ·rintro ⟨e,he,hb,h⟩
  refine ⟨e,he,hb,h.imp id fun h=>?_⟩
  rw [getD_take,if_pos h.1]
  exact h.2
theorem pre_trans {C:Ctx} {ops:Array Oper} (D:Drw C ops):∀(i k c:Nat),i<ops.size→bitOf (preAt ops i) k=true→bitOf (preAt ops k) c=true→bitOf (preAt ops i) c=true:=by
 intro i
 induction i using Nat.strongRecOn with
 |_ i ih =>
  intro k c hlt h1 h2
  have hi:ops[i]?=some ops[i]:=Array.getElem?_eq_getElem hlt
  obtain ⟨e,he,hb,h⟩:=(pre_step hi).1 h1
  have hon:e.on<i:=D.low i _ e.on hi ((pre_step hi).2 ⟨e,he,hb,.inl rfl⟩)
  refine (pre_step hi).2 ⟨e,he,hb,.inr ⟨hon,?_⟩⟩
  rcases h with h|⟨_,h⟩
  ·rw [h];exact h2
  ·exact ih e.on hon k c (by omega) h h2
end Go.Tm
/- The pure machine, 41: regions that draw their order: what is known in whatever order. -/
namespace Go.Tm
open Go
structure Ent where
 v:TV
 ms:List (Nat×Blk)
def dstAt (ops:Array Oper) (k:Nat):Option Nat:=(ops[k]?).bind (·.dst)
def updD (env:Nat→TV) (d:Option Nat) (v:TV):Nat→TV:=match d with|some d=>upd env d v|none=>env
def envP (ops:Array Oper) (p:Nat→Bool) (e0:Nat→TV):List Ent→Nat→TV
 | []=>e0
 |e::r=>bif p r.length then updD (envP ops p e0 r) (dstAt ops r.length) e.v else envP ops p e0 r
def muP (p:Nat→Bool) (m0:Mu):List Ent→Mu
 | []=>m0
 |e::r=>bif p r.length then updL (muP p m0 r) e.ms else muP p m0 r
def histOf:List Ent→List (Nat×List (Nat×Blk))
 | []=> []
 |e::r=>(r.length,e.ms)::histOf r
theorem muPre_eq (m0:Mu) (m:Nat):∀(H:List Ent),muPre m0 m (histOf H)=muP (bitOf m) m0 H
 | []=>rfl
 |e::r=>by simp only [histOf,muPre,muP,muPre_eq m0 m r]
def entAt (H:List Ent) (k:Nat):Option Ent:=H.reverse[k]?
theorem entAt_cons {e:Ent} {r:List Ent} {k:Nat}:entAt (e::r) k=if k=r.length then some e else entAt r k:=by
 unfold entAt
 rw [List.reverse_cons,List.getElem?_append]
 by_cases h:k<r.length
 ·simp [h];omega
 ·by_cases e:k=r.length
  ·subst e;simp
  ·simp [h,e];omega
theorem entAt_lt {H:List Ent} {k:Nat} {e:Ent} (h:entAt H k=some e):k<H.length:=by
 unfold entAt at h
 rcases Nat.lt_or_ge k H.length with h'|h'
 ·exact h'
 ·rw [List.getElem?_eq_none (by simpa using h')] at h;cases h
theorem envP_congr {ops:Array Oper} {p q:Nat→Bool} {e0:Nat→TV} {t:Nat}:∀{H:List Ent},(∀k,k<H.length→dstAt ops k=some t→p k=q k)→envP ops p e0 H t=envP ops q e0 H t
 | [],_=>rfl
 |e::r,h=>by
  have ih:=envP_congr (e0:=e0) (H:=r) fun k hk=>h k (by simp;omega)
  simp only [envP]
  cases hd:dstAt ops r.length with
  |none=>simp only [updD];cases p r.length<;>cases q r.length<;>exact ih
  |some d =>
   by_cases e':d=t
   ·subst e'
    have:=h r.length (by simp) hd
    rw [this]
    cases q r.length
    ·exact ih
    ·show upd _ d e.v d=upd _ d e.v d
     rw [upd_same,upd_same]
   ·have hne:t≠d:=fun x=>e' x.symm
    simp only [updD]
    have h1:∀(f:Nat→TV) (b:Bool),(bif b then upd f d e.v else f) t=f t:=fun f b=>by cases b;rfl;exact upd_ne _ _ hne
    rw [h1,h1];exact ih
theorem muP_congr {p q:Nat→Bool} {m0:Mu} {x:Nat}:∀{H:List Ent},(∀k e b,entAt H k=some e→(x,b)∈e.ms→p k=q k)→muP p m0 H x=muP q m0 H x
 | [],_=>rfl
 |e::r,h=>by
  have ih:=muP_congr (m0:=m0) (H:=r) fun k e' b hk=>h k e' b (by rw [entAt_cons,if_neg (by have:=entAt_lt hk;omega)];exact hk)
  simp only [muP]
  by_cases hx:∃b,(x,b)∈e.ms
  ·obtain ⟨b,hb⟩:=hx
   have:=h r.length e b (by rw [entAt_cons,if_pos rfl]) hb
   rw [this]
   cases q r.length
   ·exact ih
   ·show updL _ e.ms x=updL _ e.ms x
    have key:∀(l:List (Nat×Blk)) (m m':Mu),m x=m' x→updL m l x=updL m' l x:=by
     intro l
     induction l with
     |nil=>intro m m' h;exact h
     |cons a l ih2 =>
      intro m m' h
      obtain ⟨k,b⟩:=a
      simp only [updL]
      refine ih2 _ _ ?_
      unfold upd
      cases Nat.beq x k
      ·exact h
      ·rfl
    exact key _ _ _ ih
  ·have hn:∀b,(x,b)∉e.ms:=fun b hb=>hx ⟨b,hb⟩
   have h1:∀(m:Mu) (b:Bool),(bif b then updL m e.ms else m) x=m x:=fun m b=>by cases b;rfl;exact updL_none hn
   rw [h1,h1];exact ih
theorem muP_some {p:Nat→Bool} {m0:Mu} {x:Nat}:∀{H:List Ent},muP p m0 H x≠none→m0 x=none→∃k e b,entAt H k=some e∧(x,b)∈e.ms∧p k=true
 | [],h,h0=>absurd h0 h
 |e::r,h,h0=>by
  simp only [muP] at h
  cases hp:p r.length with
  |false =>
   rw [hp] at h
   obtain ⟨k,e',b,h1,h2,h3⟩:=muP_some (H:=r) h h0
   exact ⟨k,e',b,by rw [entAt_cons,if_neg (by have:=entAt_lt h1;omega)];exact h1,h2,h3⟩
  |true =>
   rw [hp] at h
   by_cases hx:∃b,(x,b)∈e.ms
   ·obtain ⟨b,hb⟩:=hx
    exact ⟨r.length,e,b,by rw [entAt_cons,if_pos rfl],hb,hp⟩
   ·simp only [cond_true] at h
    rw [updL_none fun b hb=>hx ⟨b,hb⟩] at h
    obtain ⟨k,e',b,h1,h2,h3⟩:=muP_some (H:=r) h h0
    exact ⟨k,e',b,by rw [entAt_cons,if_neg (by have:=entAt_lt h1;omega)];exact h1,h2,h3⟩
def addP (p:Nat→Bool) (i:Nat):Nat→Bool:=fun k=>p k||Nat.beq k i
theorem addP_ne {p:Nat→Bool} {i k:Nat} (h:k≠i):addP p i k=p k:=by
 have:Nat.beq k i=false:=Bool.eq_false_iff.2 fun e=>h (Nat.eq_of_beq_eq_true e)
 simp [addP,this]
theorem addP_self {p:Nat→Bool} {i:Nat}:addP p i i=true:=by simp [addP,Nat.beq_refl]
theorem envP_add {ops:Array Oper} {p:Nat→Bool} {e0:Nat→TV} {i:Nat} {ei:Ent} (hp:p i=false):∀{H:List Ent},entAt H i=some ei→(∀k d,i<k→p k=true→dstAt ops i=some d→dstAt ops k≠some d) →
  envP ops (addP p i) e0 H=updD (envP ops p e0 H) (dstAt ops i) ei.v
 | [],h,_=>by simp [entAt] at h
 |e::r,h,hd=>by
  rw [entAt_cons] at h
  simp only [envP]
  by_cases hi:i=r.length
  ·rw [if_pos hi] at h
   cases h
   subst hi
   rw [addP_self,hp]
   simp only [cond_true,cond_false]
   congr 1
   funext t
   exact envP_congr fun k hk _=>addP_ne (by omega)
  ·rw [if_neg hi] at h
   have hlt:=entAt_lt h
   rw [envP_add hp h hd,addP_ne (by omega)]
   cases hk:p r.length with
   |false=>rfl
   |true =>
    simp only [cond_true]
    cases hdi:dstAt ops i with
    |none=>rfl
    |some d =>
     have hne:=hd r.length d hlt hk hdi
     cases hdk:dstAt ops r.length with
     |none=>rfl
     |some d' =>
      simp only [updD]
      funext t
      by_cases h1:t=d'
      ·subst h1
       have:t≠d:=fun x=>hne (by rw [hdk,x])
       rw [upd_same,upd_ne _ _ this,upd_same]
      ·by_cases h2:t=d
       ·subst h2;rw [upd_ne _ _ h1,upd_same,upd_same]
       ·rw [upd_ne _ _ h1,upd_ne _ _ h2,upd_ne _ _ h2,upd_ne _ _ h1]
theorem updL_at {x:Nat}:∀(l:List (Nat×Blk)) {m m':Mu},(∃b,(x,b)∈l)→updL m l x=updL m' l x
 | [],_,_,⟨_,h⟩=>by cases h
 |(k,b)::r,m,m',h=>by
  simp only [updL]
  by_cases hr:∃b,(x,b)∈r
  ·exact updL_at r hr
  ·have hn:∀b,(x,b)∉r:=fun b hb=>hr ⟨b,hb⟩
   rw [updL_none hn,updL_none hn]
   obtain ⟨b',hb'⟩:=h
   rcases List.mem_cons.1 hb' with h|h
   ·cases h;rw [upd_same,upd_same]
   ·exact absurd h (hn _)
theorem muP_add {p:Nat→Bool} {m0:Mu} {i:Nat} {ei:Ent} (hp:p i=false):∀{H:List Ent},entAt H i=some ei→(∀k e x b b',i<k→p k=true→entAt H k=some e→(x,b)∈ei.ms→(x,b')∉e.ms) →
  muP (addP p i) m0 H=updL (muP p m0 H) ei.ms
 | [],h,_=>by simp [entAt] at h
 |e::r,h,hd=>by
  have h':=h
  rw [entAt_cons] at h
  simp only [muP]
  by_cases hi:i=r.length
  ·rw [if_pos hi] at h
   cases h
   subst hi
   rw [addP_self,hp]
   simp only [cond_true,cond_false]
   congr 1
   funext t
   exact muP_congr fun k e' b hk _=>addP_ne (by have:=entAt_lt hk;omega)
  ·rw [if_neg hi] at h
   have hlt:=entAt_lt h
   rw [muP_add hp h fun k e' x b b' h1 h2 h3=>hd k e' x b b' h1 h2 (by rw [entAt_cons,if_neg (by have:=entAt_lt h3;omega)];exact h3),addP_ne (by omega)]
   cases hk:p r.length with
   |false=>rfl
   |true =>
    simp only [cond_true]
    funext x
    by_cases h1:∃b,(x,b)∈ei.ms
    ·obtain ⟨b,hb⟩:=h1
     have h2:∀b',(x,b')∉e.ms:=fun b'=>hd r.length e x b b' hlt hk (by rw [entAt_cons,if_pos rfl]) hb
     rw [updL_none h2]
     exact updL_at _ ⟨b,hb⟩
    ·have h2:∀b,(x,b)∉ei.ms:=fun b hb=>h1 ⟨b,hb⟩
     rw [updL_none h2]
     by_cases h3:∃b,(x,b)∈e.ms
     ·exact updL_at _ h3
     ·have h4:∀b,(x,b)∉e.ms:=fun b hb=>h3 ⟨b,hb⟩
      rw [updL_none h4,updL_none h4,updL_none h2]
theorem looks_no {C:Ctx} {rid i x:Nat} {o:Op} (h:looks C rid i x o=false):opReads C o=false∨rdOf C rid i≠none:=by
 unfold looks sees at h
 cases hr:rdOf C rid i with
 |none=>rw [hr] at h;simp at h;exact .inl h
 |some l=>exact .inr (by simp)
theorem loneW_ok {C:Ctx} {rid x m i:Nat} {q:Nat→Bool}:∀{ops:List Oper} {pre:List Nat} {j:Nat},loneW C rid x m i q ops pre j=true→∀k o,ops[k]?=some o →
  i=j+k∨bitOf m (j+k)=true∨bitOf (pre.getD k 0) i=true∨looks C rid (j+k) x o.op=false∨q (pre.getD k 0)=false
 | [],pre,j,h,k,o,hk=>by simp at hk
 |x::r,pre,j,h,k,o,hk=>by
  simp only [loneW,Bool.and_eq_true,Bool.or_eq_true,Bool.not_eq_true'] at h
  have hd:pre.headD 0=pre.getD 0 0:=by cases pre<;>rfl
  cases k with
  |zero =>
   simp at hk;subst hk
   rw [hd] at h
   rcases h.1 with (((h|h)|h)|h)|h
   ·exact .inl (Nat.eq_of_beq_eq_true h)
   ·exact .inr (.inl h)
   ·exact .inr (.inr (.inl h))
   ·exact .inr (.inr (.inr (.inl h)))
   ·exact .inr (.inr (.inr (.inr h)))
  |succ k =>
   have:=loneW_ok h.2 k o (by simpa using hk)
   have ht:pre.tail.getD k 0=pre.getD (k+1) 0:=by cases pre<;>simp [List.getD]
   rw [ht,show j+1+k=j+(k+1) by omega] at this
   exact this
theorem msOk_ok {C:Ctx} {ops:Array Oper} {rid nx i:Nat} {ms:List (Nat×Blk)} (h:msOk C rid ops.toList (preL ops.toList []) nx (preAt ops i) i ms=true) {x:Nat} {b:Blk} (hx:(x,b)∈ms) :
  x / 2048=nx+i∨(x / 2048<nx∧∀(k:Nat) (o:Oper),ops[k]?=some o→i=k∨bitOf (preAt ops i) k=true∨bitOf (preAt ops k) i=true∨looks C rid k x o.op=false) ∨
  (nx≤x / 2048∧bitOf (preAt ops i) (x / 2048 - nx)=true∧∀(k:Nat) (o:Oper),ops[k]?=some o→i=k∨bitOf (preAt ops i) k=true∨bitOf (preAt ops k) i=true∨looks C rid k x o.op=false∨bitOf (preAt ops k) (x / 2048 - nx)=false):=by
 have:=List.all_eq_true.1 h _ hx
 simp only [Bool.or_eq_true] at this
 have hdiv:Nat.div x 2048=x / 2048:=rfl
 rw [hdiv] at this
 rcases this with h1|h1
 ·exact .inl (Nat.eq_of_beq_eq_true h1)
 ·cases hlt:Nat.blt (x / 2048) nx with
  |true =>
   rw [hlt] at h1
   rw [Nat.blt_eq] at hlt
   refine .inr (.inl ⟨hlt,fun k o hk=>?_⟩)
   have:=loneW_ok h1 k o (by simpa using hk)
   rw [Nat.zero_add] at this
   rcases this with h|h|h|h|h
   ·exact .inl h
   ·exact .inr (.inl h)
   ·exact .inr (.inr (.inl h))
   ·exact .inr (.inr (.inr h))
   ·cases h
  |false =>
   rw [hlt] at h1
   simp only [cond_false,Bool.and_eq_true] at h1
   have hge:nx≤x / 2048:=by
    rcases Nat.lt_or_ge (x / 2048) nx with h|h
    ·rw [←Nat.blt_eq] at h;rw [h] at hlt;cases hlt
    ·exact h
   refine .inr (.inr ⟨hge,h1.1,fun k o hk=>?_⟩)
   have:=loneW_ok h1.2 k o (by simpa using hk)
   rw [Nat.zero_add] at this
   exact this
structure EntOk (C:Ctx) (ops:Array Oper) (rid nx:Nat) (e0:Nat→TV) (m0:Mu) (i:Nat) (o:Oper) (r:List Ent) (e:Ent):Prop where
 ms:msOk C rid ops.toList (preL ops.toList []) nx (preAt ops i) i e.ms=true
 own:opReads C o.op=false→∀x∈e.ms,x.1 / 2048=nx+i
variable {C:Ctx} {ops:Array Oper} {rid nx:Nat} {e0:Nat→TV} {m0:Mu} {H:List Ent} {p:Nat→Bool} {i:Nat} {oi:Oper}
def Closed (ops:Array Oper) (p:Nat→Bool):Prop:=∀i k,p i=true→i<ops.size→bitOf (preAt ops i) k=true→p k=true
structure HOk (C:Ctx) (ops:Array Oper) (rid nx:Nat) (m0:Mu) (H:List Ent):Prop where
 qu:∀(k:Nat) (e:Ent),entAt H k=some e→rdOf C rid k≠none→e.ms= []
 ms:∀(k:Nat) (e:Ent),entAt H k=some e→msOk C rid ops.toList (preL ops.toList []) nx (preAt ops k) k e.ms=true
 own:∀(k:Nat) (e:Ent) (o:Oper),entAt H k=some e→ops[k]?=some o→opReads C o.op=false→∀x∈e.ms,x.1 / 2048=nx+k
 le:H.length≤ops.size
 fresh:∀id,nx*2048≤id→m0 id=none
theorem notin {C:Ctx} {ops:Array Oper} (D:Drw C ops) (hC:Closed ops p) (hi:ops[i]?=some oi) (hp:p i=false) {k:Nat} (hk:p k=true) (hlt:k<ops.size):bitOf (preAt ops k) i=false:=by
 cases h:bitOf (preAt ops k) i with
 |false=>rfl
 |true=>have:=hC k i hk hlt h;rw [hp] at this;cases this
theorem le_any (D:Drw C ops) (hH:HOk C ops rid nx m0 H) (hC:Closed ops p) (hi:ops[i]?=some oi) (hp:p i=false) (hpre:∀k,bitOf (preAt ops i) k=true→p k=true) (hr:opReads C oi.op=true) :
  LeOn C rid i (muP (bitOf (preAt ops i)) m0 H) (muP p m0 H):=by
 intro x b hs hb
 have hlk:looks C rid i x oi.op=true:=by unfold looks;rw [hr,hs];rfl
 have hisz:i<ops.size:=(Array.getElem?_eq_some_iff.1 hi).1
 rw [←hb]
 refine muP_congr fun k e b' hk hx=>?_
 cases hpk:p k with
 |false =>
  cases h:bitOf (preAt ops i) k with
  |false=>rfl
  |true=>rw [hpre k h] at hpk;cases hpk
 |true =>
  cases hbk:bitOf (preAt ops i) k with
  |true=>rfl
  |false =>
   exfalso
   have hklt:k<ops.size:=Nat.lt_of_lt_of_le (entAt_lt hk) hH.le
   have hne:k≠i:=fun e=>by rw [e,hp] at hpk;cases hpk
   have hki:=notin D hC hi hp hpk hklt
   have hnone:nx≤x / 2048→bitOf (preAt ops i) (x / 2048 - nx)=false→False:=by
    intro hge hc
    have h0:m0 x=none:=hH.fresh x (by omega)
    obtain ⟨k',e',b2,h1,h2,h3⟩:=muP_some (p:=bitOf (preAt ops i)) (H:=H) (by rw [hb];simp) h0
    rcases msOk_ok (hH.ms k' e' h1) h2 with h|⟨h,_⟩|⟨_,h,_⟩
    ·rw [show x / 2048 - nx=k' by omega,h3] at hc;cases hc
    ·omega
    ·rw [pre_trans D i k' _ hisz h3 h] at hc;cases hc
   rcases msOk_ok (hH.ms k e hk) hx with h|⟨h,h2⟩|⟨hge,_,h2⟩
   ·exact hnone (by omega) (by rw [show x / 2048 - nx=k by omega];exact hbk)
   ·rcases h2 i oi hi with h|h|h|h
    ·exact hne h
    ·rw [hki] at h;cases h
    ·rw [hbk] at h;cases h
    ·rw [hlk] at h;cases h
   ·rcases h2 i oi hi with h|h|h|h|h
    ·exact hne h
    ·rw [hki] at h;cases h
    ·rw [hbk] at h;cases h
    ·rw [hlk] at h;cases h
    ·exact hnone hge h
theorem fresh_any (D:Drw C ops) (hH:HOk C ops rid nx m0 H) (hC:Closed ops p) (hi:ops[i]?=some oi) (hp:p i=false) {x:Nat} (hx:x / 2048=nx+i):muP p m0 H x=none:=by
 cases h:muP p m0 H x with
 |none=>rfl
 |some b =>
  exfalso
  obtain ⟨k,e,b',h1,h2,h3⟩:=muP_some (p:=p) (H:=H) (by rw [h];simp) (hH.fresh x (by omega))
  have hklt:k<ops.size:=Nat.lt_of_lt_of_le (entAt_lt h1) hH.le
  have hki:=notin D hC hi hp h3 hklt
  rcases msOk_ok (hH.ms k e h1) h2 with h|⟨h,_⟩|⟨_,h,_⟩
  ·have:k=i:=by omega
   rw [this,hp] at h3;cases h3
  ·omega
  ·rw [show x / 2048 - nx=i by omega,hki] at h;cases h
theorem disj_any (D:Drw C ops) (hH:HOk C ops rid nx m0 H) (hC:Closed ops p) (hi:ops[i]?=some oi) (hp:p i=false) {ei:Ent} (hei:entAt H i=some ei) :
  ∀k e x b b',i<k→p k=true→entAt H k=some e→(x,b)∈ei.ms→(x,b')∉e.ms:=by
 intro k e x b b' hik hpk hk hx hx'
 have hklt:k<ops.size:=Nat.lt_of_lt_of_le (entAt_lt hk) hH.le
 have hko:ops[k]?=some ops[k]:=Array.getElem?_eq_getElem hklt
 have hki:=notin D hC hi hp hpk hklt
 have hik':bitOf (preAt ops i) k=false:=by
  cases h:bitOf (preAt ops i) k with
  |false=>rfl
  |true=>have:=D.low i oi k hi h;omega
 rcases msOk_ok (hH.ms i ei hei) hx with h|⟨h,h2⟩|⟨hge,hc,h2⟩
 ·rcases msOk_ok (hH.ms k e hk) hx' with h'|⟨h',_⟩|⟨_,h',_⟩
  ·omega
  ·omega
  ·rw [show x / 2048 - nx=i by omega,hki] at h';cases h'
 ·rcases h2 k _ hko with h3|h3|h3|h3
  ·omega
  ·rw [hik'] at h3;cases h3
  ·rw [hki] at h3;cases h3
  ·rcases looks_no h3 with h3|h3
   ·have:=hH.own k e _ hk hko h3 _ hx'
    simp only at this;omega
   ·rw [hH.qu k e hk h3] at hx';cases hx'
 ·have hci:=D.low i oi _ hi hc
  rcases h2 k _ hko with h3|h3|h3|h3|h3
  ·omega
  ·rw [hik'] at h3;cases h3
  ·rw [hki] at h3;cases h3
  ·rcases looks_no h3 with h3|h3
   ·have:=hH.own k e _ hk hko h3 _ hx'
    simp only at this;omega
   ·rw [hH.qu k e hk h3] at hx';cases hx'
  ·rcases msOk_ok (hH.ms k e hk) hx' with h'|⟨h',_⟩|⟨_,h',_⟩
   ·omega
   ·omega
   ·rw [h3] at h';cases h'
theorem looks_any (D:Drw C ops) (hC:Closed ops p) (hi:ops[i]?=some oi) (hp:p i=false) (hpre:∀k,bitOf (preAt ops i) k=true→p k=true) (hle:H.length≤ops.size) {t:Nat} (ht:t∈oi.looksAt ops) :
  envP ops p e0 H t=envP ops (fun k=>Nat.blt k i) e0 H t:=by
 refine envP_congr fun k hk hd=>?_
 have hklt:k<ops.size:=Nat.lt_of_lt_of_le hk hle
 have hko:ops[k]?=some ops[k]:=Array.getElem?_eq_getElem hklt
 have hdk:(ops[k]).dst=some t:=by simpa [dstAt,hko] using hd
 cases hpk:p k with
 |true =>
  cases hb:Nat.blt k i with
  |true=>rfl
  |false =>
   exfalso
   have hge:i≤k:=by
    rcases Nat.lt_or_ge k i with h|h
    ·rw [←Nat.blt_eq] at h;rw [h] at hb;cases hb
    ·exact h
   have hne:k≠i:=fun e=>by rw [e,hp] at hpk;cases hpk
   rcases D.row i k oi _ hi hko (by omega) with h|h
   ·rw [notin D hC hi hp hpk hklt] at h;cases h
   ·exact (Oper.apart_spec h).2.2 t hdk ht
 |false =>
  cases hb:Nat.blt k i with
  |false=>rfl
  |true =>
   exfalso
   rw [Nat.blt_eq] at hb
   rcases D.row k i _ oi hko hi hb with h|h
   ·rw [hpre k h] at hpk;cases hpk
   ·exact (Oper.apart_spec h).1 t hdk ht
theorem dst_any (D:Drw C ops) (hC:Closed ops p) (hi:ops[i]?=some oi) (hp:p i=false):∀k d,i<k→p k=true→dstAt ops i=some d→dstAt ops k≠some d:=by
 intro k d hik hpk hd hd'
 have hklt:k<ops.size:=by
  rcases Nat.lt_or_ge k ops.size with h|h
  ·exact h
  ·simp [dstAt,Array.getElem?_eq_none h] at hd'
 have hko:ops[k]?=some ops[k]:=Array.getElem?_eq_getElem hklt
 rcases D.row i k oi _ hi hko hik with h|h
 ·rw [notin D hC hi hp hpk hklt] at h;cases h
 ·exact (Oper.apart_spec h).2.1 d (by simpa [dstAt,hi] using hd) (by simpa [dstAt,hko] using hd')
end Go.Tm
/- The pure machine, 42: regions that draw their order. -/
namespace Go.Tm
open Go
def guardB (ops:Array Oper) (env:Nat→TV) (o:Oper):Option Bool :=
 match o.guard with
 |none=>some true
 |some (j,want)=>match (ops.toList[j]?).bind (·.dst) with
  |none=>none
  |some d=>match env d with
   | .c (.bool b)=>some (b==want)
   | .und=>some false
   |_=>none
section
variable {P:Program} {C:Ctx} {nt:Nat} {w0:World} {o0:Nat→Nat→Own} {io:List Nat} {c0:Nat→Conc} {R:Type} {Q:Exit→Act→World→Prop}
variable {ops:Array Oper} {rid nx:Nat} {e0:Nat→TV} {m0:Mu}
theorem guardB_ok {st:St} {o:Oper} {run skip:St→Option R} {y:R}
  (h:(match o.guard with
   |none=>run st
   |some (j,want)=>match (ops.toList[j]?).bind (·.dst) with
    |none=>none
    |some d=>match st.env d with
     | .c (.bool b)=>bif b then (bif want then run (st.refine d true) else skip (st.refine d true)) else (bif want then skip (st.refine d false) else run (st.refine d false))
     | .und=>skip st
     |_=>none)=some y) :
  (guardB ops st.env o=some true∧run st=some y)∨(guardB ops st.env o=some false∧skip st=some y):=by
 unfold guardB
 cases hg:o.guard with
 |none=>rw [hg] at h;exact .inl ⟨rfl,h⟩
 |some p =>
  obtain ⟨j,want⟩:=p
  simp only [hg] at h ⊢
  cases hd:(ops.toList[j]?).bind (·.dst) with
  |none=>rw [hd] at h;cases h
  |some d =>
   rw [hd] at h
   dsimp only at h ⊢
   cases he:st.env d<;>simp only [he] at h ⊢ <;>try (cases h;done)
   case und=>exact .inr ⟨trivial,h⟩
   case c cv =>
    cases cv<;>simp only at h ⊢ <;>try (cases h;done)
    case bool b =>
     have hr:=refine_self he
     cases b<;>cases want<;>simp only [cond_true,cond_false,hr] at h
     ·exact .inl ⟨rfl,h⟩
     ·exact .inr ⟨rfl,h⟩
     ·exact .inr ⟨rfl,h⟩
     ·exact .inl ⟨rfl,h⟩
theorem guardB_wanted {env:Nat→TV} {a:Act} {w:World} {g:Gh} {mu:Mu} (henv:∀t,(env t).R P w g mu (a.tmps.getD t undef)) {o:Oper} {b:Bool} (h:guardB ops env o=some b):Region.wanted o (yielded ops a.tmps)=b:=by
 let st:St:={env:=env,mu:=mu,tw:= [],mw:= [],nx:=0}
 rcases guard_ok (P:=P) (ops:=ops) (st:=st) (run:=fun _=>some true) (skip:=fun _=>some false) henv (o:=o) (y:=b) (by
  unfold guardB at h
  cases hg:o.guard with
  |none=>rw [hg] at h;exact h
  |some p =>
   obtain ⟨j,want⟩:=p
   simp only [hg] at h ⊢
   cases hd:(ops.toList[j]?).bind (·.dst) with
   |none=>rw [hd] at h;cases h
   |some d =>
    rw [hd] at h
    dsimp only at h ⊢
    show (match env d with
     | .c (.bool b)=>bif b then (bif want then some true else some false) else (bif want then some false else some true)
     | .und=>some false
     |_=>none)=some b
    cases he:env d<;>simp only [he] at h ⊢ <;>try (cases h;done)
    case und=>exact h
    case c cv =>
     cases cv<;>simp only at h ⊢ <;>try (cases h;done)
     case bool c=>cases c<;>cases want<;>exact h) with ⟨h1,h2⟩|⟨h1,h2⟩
 ·cases h2;exact h1
 ·cases h2;exact h1
theorem guardB_eval {env env':Nat→TV} {o:Oper} (h:∀t∈o.looksAt ops,env' t=env t):guardB ops env' o=guardB ops env o:=by
 unfold guardB
 cases hg:o.guard with
 |none=>rfl
 |some p =>
  obtain ⟨j,want⟩:=p
  dsimp only
  cases hd:(ops.toList[j]?).bind (·.dst) with
  |none=>rfl
  |some d =>
   dsimp only
   rw [h d (by
    have hd':(ops[j]?).bind (·.dst)=some d:=by rw [←hd];simp
    simp [Oper.looksAt,hg,hd'])]
theorem noread_ms {env:Nat→TV} {mu:Mu} {idb i:Nat} {o:Oper} {K:TV→List (Nat×Blk)→Option R} {y:R} (hr:opReads C o.op=false) (h:opU C env mu idb rid i o K=some y):∃v ms,K v ms=some y∧∀x∈ms,x.1=idb:=by
 cases hop:o.op<;>rw [hop] at hr<;>simp only [opReads] at hr<;>try (cases hr;done)
 all_goals simp only [opU,hop] at h
 case move x=>exact ⟨_,_,h,by simp⟩
 case assign x=>exact ⟨_,_,h,by simp⟩
 case pick c x z =>
  split at h
  ·rename_i b hc
   cases b
   ·exact ⟨_,_,h,by simp⟩
   ·exact ⟨_,_,h,by simp⟩
  ·cases h
 case alloc e =>
  split at h
  ·exact ⟨_,_,h,by simp⟩
  ·cases h
 case box e x =>
  split at h
  ·rename_i cs hx
   cases hsi:(C.site rid i).isEmpty with
   |true=>rw [hsi] at h;exact ⟨_,_,h,by simp⟩
   |false =>
    simp only [hsi,cond_false] at h
    cases hp:(packs (R:=(C.es e).D×List Use) app0 (fun _=>none) (C.es e) [] 0 cs [] packEnd) with
    |none=>simp [hp] at h
    |some p =>
     obtain ⟨xd,us⟩:=p
     simp only [hp,Option.bind_some] at h
     cases us with
     |nil=>exact ⟨_,_,h,by simp⟩
     |cons u us=>cases h
  ·cases h
 case build t parts =>
  split at h
  ·split at h
   ·split at h
    ·exact ⟨_,_,h,by simp⟩
    ·cases h
   ·cases h
  ·cases h
 case buildSlice t len parts =>
  split at h
  ·rename_i e te he
   simp only [he,Bool.not_eq_false'] at hr
   cases hb:(Nat.ble (len*te.size) 16777216&&Nat.beq parts.size len&&Nat.blt 0 te.size&&Nat.ble te.size 62) with
   |false=>rw [hb] at h;cases h
   |true =>
    rw [hb] at h
    simp only [cond_true] at h
    obtain ⟨xs,h1,h3⟩:=litElems_flat hr _ _ h
    have h1:K (.c (.own idb)) (fzs mu []++ [(idb,.row (C.es e) (C.site rid i) xs 0)])=some y:=h1
    exact ⟨_,_,h1,fun x hx=>by simp only [fzs,List.filterMap_nil,List.map_nil,List.nil_append,List.mem_singleton] at hx;rw [hx]⟩
  ·cases h
 case nilCheck x =>
  split at h
  ·exact ⟨_,_,h,by simp⟩
  ·exact ⟨_,_,h,by simp⟩
  ·exact ⟨_,_,h,by simp⟩
  ·cases h
 case binOp op t x z t2 =>
  have hk:∀e,(match C.ty t with|some ti=>ti.k|none=> .other)≠TK.slice e:=by
   intro e he
   cases ht:C.ty t with
   |none=>rw [ht] at he;cases he
   |some ti =>
    rw [ht] at he hr
    have he:ti.k= .slice e:=he
    simp [he] at hr
  obtain ⟨v,h1,_⟩:=binU_out hk h
  exact ⟨v,_,h1,by simp⟩
 case unOp op t x =>
  split at h
  ·exact ⟨_,_,h,by simp⟩
  ·exact ⟨_,_,h,by simp⟩
  ·exact ⟨_,_,h,by simp⟩
  ·cases h
 case makeFunc f first captured =>
  cases f<;>simp only at h<;>try (cases h;done)
  case func f =>
   cases hf:first.isEmpty with
   |false=>simp [hf] at h
   |true =>
    simp only [hf,cond_true] at h
    split at h
    ·exact ⟨_,_,h,by simp⟩
    ·cases h
 case fieldAddr t x f =>
  cases hf:structFld C t f with
  |none=>simp [hf] at h
  |some p =>
   obtain ⟨off,n⟩:=p
   cases hx:evalTV env x<;>simp only [hf,hx] at h<;>try (cases h;done)
   case c cv =>
    cases cv<;>simp only at h<;>try (cases h;done)
    all_goals exact ⟨_,_,h,by simp⟩
 case field t x f =>
  split at h
  ·rename_i off n vs ag hf hx hga
   cases ag with
   |true=>exact ⟨_,_,h,by simp⟩
   |false =>
    simp only [cond_false] at h
    split at h
    ·exact ⟨_,_,h,by simp⟩
    ·cases h
  ·cases h
 case extract x i =>
  split at h
  ·split at h
   ·exact ⟨_,_,h,by simp⟩
   ·cases h
  ·cases h
def ltP (k:Nat):Nat→Bool:=fun j=>Nat.blt j k
def topP:Nat→Bool:=fun _=>true
def GoOk (C:Ctx) (ops:Array Oper) (rid nx:Nat) (e0:Nat→TV) (m0:Mu) (H:List Ent) (k:Nat) (o:Oper) (e:Ent):Prop :=
 dstOk C.nt o.dst=true ∧
 ((guardB ops (envP ops (ltP k) e0 H) o=some true∧∀env' mu',(∀x∈o.op.operands,evalTV env' x=evalTV (envP ops (ltP k) e0 H) x)→(opReads C o.op=true→LeOn C rid k (muP (bitOf (preAt ops k)) m0 H) mu') →
   ∀(R':Type) (K':TV→List (Nat×Blk)→Option R'),opU C env' mu' ((nx+k)*2048) rid k o K'=K' e.v e.ms) ∨
  (guardB ops (envP ops (ltP k) e0 H) o=some false∧e.v= .und∧e.ms= []))
theorem ltP_ge {j k:Nat} (h:k≤j):ltP k j=false:=by
 unfold ltP
 cases e:Nat.blt j k with
 |false=>rfl
 |true=>rw [Nat.blt_eq] at e;omega
theorem ltP_lt {j k:Nat} (h:j<k):ltP k j=true:=by unfold ltP;rw [Nat.blt_eq];exact h
theorem envP_lt_cons {e:Ent} {H:List Ent} {k:Nat} (h:k≤H.length):envP ops (ltP k) e0 (e::H)=envP ops (ltP k) e0 H:=by simp [envP,ltP_ge h]
theorem muP_pre_cons (D:Drw C ops) {e:Ent} {H:List Ent} {k:Nat} {o:Oper} (hk:ops[k]?=some o) (h:k≤H.length):muP (bitOf (preAt ops k)) m0 (e::H)=muP (bitOf (preAt ops k)) m0 H:=by
 have:bitOf (preAt ops k) H.length=false:=by
  cases hb:bitOf (preAt ops k) H.length with
  |false=>rfl
  |true=>have:=D.low k o _ hk hb;omega
 simp [muP,this]
theorem GoOk.cons (D:Drw C ops) {e e':Ent} {H:List Ent} {k:Nat} {o:Oper} (hk:ops[k]?=some o) (h:k≤H.length) (g:GoOk C ops rid nx e0 m0 H k o e):GoOk C ops rid nx e0 m0 (e'::H) k o e:=by
 unfold GoOk at g ⊢
 rw [envP_lt_cons h,muP_pre_cons D hk h]
 exact g
theorem envP_top:∀{H:List Ent} {k:Nat},H.length=k→envP ops (ltP k) e0 H=envP ops topP e0 H:=by
 intro H k h
 funext t
 exact envP_congr fun j hj _=>by rw [ltP_lt (by omega)];rfl
theorem muP_top:∀{H:List Ent} {k:Nat},H.length=k→muP (ltP k) m0 H=muP topP m0 H:=by
 intro H k h
 funext t
 exact muP_congr fun j e b hj _=>by rw [ltP_lt (by have:=entAt_lt hj;omega)];rfl
structure All (C:Ctx) (ops:Array Oper) (rid nx:Nat) (e0:Nat→TV) (m0:Mu) (H:List Ent):Prop where
 ok:HOk C ops rid nx m0 H
 go:∀(k:Nat) (o:Oper) (e:Ent),ops[k]?=some o→entAt H k=some e→GoOk C ops rid nx e0 m0 H k o e
theorem Closed.lt (D:Drw C ops) (n:Nat):Closed ops (ltP n):=by
 intro i k hi hlt hb
 have h1:=D.low i _ k (Array.getElem?_eq_getElem hlt) hb
 unfold ltP at hi ⊢
 rw [Nat.blt_eq] at hi ⊢
 omega
theorem opsD_ok (D:Drw C ops) (hfresh:∀id,nx*2048≤id→m0 id=none) {K:St→Option R} {y:R}:∀(l:List Oper) (H:List Ent) {st:St},ops.toList.drop H.length=l→st.env=envP ops topP e0 H→st.mu=muP topP m0 H→All C ops rid nx e0 m0 H →
  opsD C rid ops.toList (preL ops.toList []) nx m0 l H.length (histOf H) st K=some y→H.length≤ops.size →
  ∃H' stF,K stF=some y∧H'.length=ops.size∧stF.env=envP ops topP e0 H'∧stF.mu=muP topP m0 H'∧All C ops rid nx e0 m0 H'∧Ext st stF∧stF.nx=st.nx
 | [],H,st,hl,he,hm,hA,h,hle=>by
  refine ⟨H,st,h,?_,he,hm,hA,.refl _,rfl⟩
  have:=congrArg List.length hl
  simp at this
  omega
 |o::l,H,st,hl,he,hm,hA,h,hle=>by
  have hi:ops[H.length]?=some o:=by
   have h1:(ops.toList.drop H.length)[0]?=some o:=by rw [hl];rfl
   rw [List.getElem?_drop] at h1
   simpa using h1
  have hisz:H.length<ops.size:=(Array.getElem?_eq_some_iff.1 hi).1
  have hl':ops.toList.drop (H.length+1)=l:=by
   have:=congrArg (List.drop 1) hl
   simpa [List.drop_drop] using this
  unfold opsD at h
  cases hd:dstOk C.nt o.dst with
  |false=>rw [hd] at h;cases h
  |true =>
   rw [hd] at h
   simp only [cond_true] at h
   have hdst:dstAt ops H.length=o.dst:=by simp [dstAt,hi]
   have hp:ltP H.length H.length=false:=ltP_ge (Nat.le_refl _)
   have fin:∀(e:Ent) (wr:List Wr),(rdOf C rid H.length≠none→e.ms= [])→msOk C rid ops.toList (preL ops.toList []) nx (preAt ops H.length) H.length e.ms=true→(opReads C o.op=false→∀x∈e.ms,x.1 / 2048=nx+H.length)→GoOk C ops rid nx e0 m0 H H.length o e→PutOk st.mu e.ms wr →
     opsD C rid ops.toList (preL ops.toList []) nx m0 l (H.length+1) ((H.length,e.ms)::histOf H) (st.put o.dst e.v e.ms wr) K=some y →
     ∃H' stF,K stF=some y∧H'.length=ops.size∧stF.env=envP ops topP e0 H'∧stF.mu=muP topP m0 H'∧All C ops rid nx e0 m0 H'∧Ext st stF∧stF.nx=st.nx:=by
    intro e wr hqu hms hown hgo hput h
    have hA':All C ops rid nx e0 m0 (e::H):=by
     refine ⟨⟨fun k e' hk=>?_,fun k e' hk=>?_,fun k e' o' hk ho'=>?_,hisz,hfresh⟩,fun k o' e' ho' hk=>?_⟩
     ·rw [entAt_cons] at hk
      split at hk
      ·rename_i ek;cases hk;rw [ek];exact hqu
      ·exact hA.ok.qu k e' hk
     ·rw [entAt_cons] at hk
      split at hk
      ·rename_i ek;cases hk;rw [ek];exact hms
      ·exact hA.ok.ms k e' hk
     ·rw [entAt_cons] at hk
      split at hk
      ·rename_i ek;cases hk;subst ek;rw [hi] at ho';cases ho';exact hown
      ·exact hA.ok.own k e' o' hk ho'
     ·rw [entAt_cons] at hk
      split at hk
      ·rename_i ek;cases hk;subst ek;rw [hi] at ho';cases ho';exact hgo.cons D hi (Nat.le_refl _)
      ·exact (hA.go k o' e' ho' hk).cons D ho' (Nat.le_of_lt (entAt_lt hk))
    obtain ⟨H',stF,h1,h2,h3,h4,h5,h6,h7⟩:=opsD_ok D hfresh l (e::H) (st:=st.put o.dst e.v e.ms wr) hl' (by
      simp only [St.put,envP,topP,cond_true,hdst,updD]
      cases o.dst<;>simp only [he]<;>rfl) (by simp only [St.put,muP,topP,cond_true,hm]) hA' h hisz
    exact ⟨H',stF,h1,h2,h3,h4,h5,Ext.trans (fun e m N hb=>hb.put hput) h6,h7⟩
   rcases guardB_ok (ops:=ops) (st:=st) (run:=fun st=>bif rdOk C rid H.length st.env (muPre m0 ((preL ops.toList []).getD H.length 0) (histOf H)) o.op then opU C st.env (muPre m0 ((preL ops.toList []).getD H.length 0) (histOf H)) ((nx+H.length)*2048) rid H.length o fun v ms=>bif msOk C rid ops.toList (preL ops.toList []) nx ((preL ops.toList []).getD H.length 0) H.length ms then opsD C rid ops.toList (preL ops.toList []) nx m0 l (H.length+1) ((H.length,ms)::histOf H) (st.put o.dst v ms (wrOf st.env o ms)) K else none else none)
     (skip:=fun st=>bif msOk C rid ops.toList (preL ops.toList []) nx ((preL ops.toList []).getD H.length 0) H.length [] then opsD C rid ops.toList (preL ops.toList []) nx m0 l (H.length+1) ((H.length,[])::histOf H) (st.put o.dst .und [] []) K else none) h with ⟨hg,h⟩|⟨hg,h⟩
   ·cases hrd:rdOk C rid H.length st.env (muPre m0 ((preL ops.toList []).getD H.length 0) (histOf H)) o.op with
    |false=>rw [hrd] at h;cases h
    |true =>
    rw [hrd] at h
    simp only [cond_true] at h
    rw [muPre_eq] at h hrd
    obtain ⟨v,ms,h1,hqu,h2⟩:=opU_rd (D.det _ o hi) hrd h
    cases hms:msOk C rid ops.toList (preL ops.toList []) nx (preAt ops H.length) H.length ms with
    |false=>rw [show msOk C rid ops.toList (preL ops.toList []) nx ((preL ops.toList []).getD H.length 0) H.length ms=false from hms] at h1;cases h1
    |true =>
     rw [show msOk C rid ops.toList (preL ops.toList []) nx ((preL ops.toList []).getD H.length 0) H.length ms=true from hms] at h1
     simp only [cond_true] at h1
     have henv:st.env=envP ops (ltP H.length) e0 H:=by rw [he,envP_top rfl]
     have hmu:(opReads C o.op=true→LeOn C rid H.length (muP (bitOf (preAt ops H.length)) m0 H) st.mu):=fun hr=>by
      rw [hm,←muP_top rfl]
      exact le_any D hA.ok (Closed.lt D _) hi hp (fun k hk=>ltP_lt (D.low _ o k hi hk)) hr
     refine fin ⟨v,ms⟩ _ hqu hms (fun hr x hx=>?_) ⟨hd,.inl ⟨by rw [←henv];exact hg,fun env' mu' hev hle R' K'=>?_⟩⟩ ?_ h1
     ·have h3:=h2 st.mu hmu (TV×List (Nat×Blk)) (fun v ms=>some (v,ms))
      obtain ⟨v',ms',h4,h5⟩:=noread_ms hr h3
      cases h4
      have:=h5 x hx
      rw [this]
      omega
     ·rw [opU_eval (env:=st.env) (fun x hx=>by rw [hev x hx,henv])]
      exact h2 mu' hle R' K'
     ·have h3:=opU_put (h2 st.mu hmu (TV×List (Nat×Blk)) (fun v ms=>some (v,ms)))
      have h4:=h2 st.mu hmu _ (fun v ms=> @ite _ (PutOk st.mu ms (wrOf st.env o ms)) (Classical.propDecidable _) (some (v,ms)) none)
      rw [h4] at h3
      split at h3
      ·assumption
      ·cases h3
   ·cases hms:msOk C rid ops.toList (preL ops.toList []) nx (preAt ops H.length) H.length [] with
    |false=>rw [show msOk C rid ops.toList (preL ops.toList []) nx ((preL ops.toList []).getD H.length 0) H.length []=false from hms] at h;cases h
    |true =>
     rw [show msOk C rid ops.toList (preL ops.toList []) nx ((preL ops.toList []).getD H.length 0) H.length []=true from hms] at h
     simp only [cond_true] at h
     exact fin ⟨.und,[]⟩ [] (fun _=>rfl) hms (fun _ x hx=>by cases hx) ⟨hd,.inr ⟨by rw [envP_top rfl,←he];exact hg,rfl,rfl⟩⟩ (PutOk.nil _) h
end
end Go.Tm
/- The pure machine, 43: regions that draw their order: any order. -/
namespace Go.Tm
open Go
theorem countP_le' {α:Type} {p q:α→Bool}:∀{l:List α},(∀x∈l,p x=true→q x=true)→l.countP p≤l.countP q:=fun h=>List.countP_mono_left h
theorem countP_lt' {α:Type} {p q:α→Bool}:∀{l:List α} {x:α},(∀x∈l,p x=true→q x=true)→x∈l→q x=true→p x=false→l.countP p<l.countP q
 |y::l,x,h,hx,hq,hp=>by
  rcases List.mem_cons.1 hx with rfl|hx
  ·rw [List.countP_cons,List.countP_cons,hq,hp]
   have:=countP_le' (l:=l) fun z hz=>h z (by simp [hz])
   simp
   omega
  ·rw [List.countP_cons,List.countP_cons]
   have:=countP_lt' (l:=l) (fun z hz=>h z (by simp [hz])) hx hq hp
   have h2:=h y (by simp)
   cases hy:p y with
   |false=>simp;split<;>omega
   |true=>simp [h2 hy];omega
def listP (listed:Array Bool):Nat→Bool:=fun k=>listed.getD k false
section
variable {P:Program} {C:Ctx} {nt:Nat} {w0:World} {o0:Nat→Nat→Own} {io:List Nat} {c0:Nat→Conc} {R:Type} {Q:Exit→Act→World→Prop}
variable {ops:Array Oper} {rid nx:Nat} {e0:Nat→TV} {m0:Mu}
theorem Rel.put' {env:Nat→TV} {mu:Mu} {a:Act} {w:World} {g:Gh} (r:Rel P nt w0 o0 env mu a.tmps w g) {dst:Option Nat} {tv:TV} {v:Value} (hd:dstOk nt dst=true) (hv:tv.R P w g mu v) :
  Rel P nt w0 o0 (updD env dst tv) mu (a.put dst v).tmps w g:=by
 have:=r.put hd hv
 cases dst<;>exact this
def stP (ops:Array Oper) (p:Nat→Bool) (e0:Nat→TV) (m0:Mu) (H:List Ent):St:={env:=envP ops p e0 H,mu:=muP p m0 H,tw:= [],mw:= [],nx:=0}
theorem listP_set {listed:Array Bool} {i:Nat} (h:i<listed.size):listP (listed.setIfInBounds i true)=addP (listP listed) i:=by
 funext k
 unfold listP
 by_cases e:k=i
 ·subst e;rw [addP_self];simp [Array.getD_eq_getD_getElem?,h]
 ·rw [addP_ne e];simp [Array.getD_eq_getD_getElem?,Array.getElem?_setIfInBounds_ne (Ne.symm e)]
theorem mu_top (D:Drw C ops) {H:List Ent} (hA:HOk C ops rid nx m0 H) {p:Nat→Bool} {id:Nat} (h:(nx+ops.size)*2048≤id):muP p m0 H id=none:=by
 cases e:muP p m0 H id with
 |none=>rfl
 |some b =>
  exfalso
  obtain ⟨k,en,b',h1,h2,h3⟩:=muP_some (p:=p) (H:=H) (by rw [e];simp) (hA.fresh id (Nat.le_trans (Nat.mul_le_mul_right _ (Nat.le_add_right _ _)) h))
  have hk:=entAt_lt h1
  have hle:=hA.le
  have hksz:k<ops.size:=by omega
  rcases msOk_ok (hA.ms k en h1) h2 with h|⟨h,_⟩|⟨_,h,_⟩
  ·omega
  ·omega
  ·have:=D.low k _ _ (Array.getElem?_eq_getElem hksz) h
   omega
theorem drawn_dyn (hty:∀t ti,C.ty t=some ti→tiOf P t=some ti) (hC:CtxOk P C) (hnt:C.nt=nt) (D:Drw C ops) {H:List Ent} (hH:H.length=ops.size) (hA:All C ops rid nx e0 m0 H)
  (hQ:∀a' w' g',RelS P nt w0 o0 io c0 (nx+ops.size) (stP ops topP e0 m0 H) a' w' g'→Q .normal a' w'):∀(fuel:Nat) (listed:Array Bool) {a:Act} {w:World} {g:Gh},listed.size=ops.size →
  (List.range ops.size).countP (fun k=> !listP listed k)≤fuel→Closed ops (listP listed)→RelS P nt w0 o0 io c0 (nx+ops.size) (stP ops (listP listed) e0 m0 H) a w g→wpAny P .any ops Q fuel listed a w:=by
 have fin:∀(listed:Array Bool) {a:Act} {w:World} {g:Gh},listed.size=ops.size→Region.ready .any ops listed= []→RelS P nt w0 o0 io c0 (nx+ops.size) (stP ops (listP listed) e0 m0 H) a w g→Q .normal a w:=by
  intro listed a w g hsz hready r
  have hall:∀k,k<ops.size→listP listed k=true:=by
   intro k
   induction k using Nat.strongRecOn with
   |_ k ih =>
    intro hk
    cases hl:listP listed k with
    |true=>rfl
    |false =>
     exfalso
     have:k∈Region.ready .any ops listed:=by
      rw [mem_ready]
      refine ⟨?_,ops[k],Array.getElem?_eq_getElem hk,fun e he hb=>?_⟩
      ·unfold listP at hl
       have hk':k<listed.size:=by omega
       simpa [Array.getD_eq_getD_getElem?,hk'] using hl
      ·have hon:=D.low k _ e.on (Array.getElem?_eq_getElem hk) ((pre_step (Array.getElem?_eq_getElem hk)).2 ⟨e,by simpa using he,hb,.inl rfl⟩)
       exact ih e.on hon (by omega)
     rw [hready] at this
     cases this
  have e1:envP ops (listP listed) e0 H=envP ops topP e0 H:=funext fun t=>envP_congr fun k hk _=>by rw [hall k (by omega)];rfl
  have e2:muP (listP listed) m0 H=muP topP m0 H:=funext fun t=>muP_congr fun k e b hk _=>by rw [hall k (by have:=entAt_lt hk;omega)];rfl
  refine hQ a w g ?_
  unfold stP at r ⊢
  rw [e1,e2] at r
  exact r
 intro fuel
 induction fuel with
 |zero =>
  intro listed a w g hsz hcnt hcl r
  have hready:Region.ready .any ops listed= []:=by
   rw [List.eq_nil_iff_forall_not_mem]
   intro k hk
   rw [mem_ready] at hk
   obtain ⟨h0,o,ho,_⟩:=hk
   have hlt:k<ops.size:=(Array.getElem?_eq_some_iff.1 ho).1
   have h1:=Nat.le_zero.1 hcnt
   rw [List.countP_eq_zero] at h1
   have:=h1 k (by simpa using hlt)
   unfold listP at this
   have hk':k<listed.size:=by omega
   simp [Array.getD_eq_getD_getElem?,hk'] at this h0
   rw [h0] at this;cases this
  exact ⟨hready,fin listed hsz hready r⟩
 |succ fuel ih =>
  intro listed a w g hsz hcnt hcl r
  refine ⟨fun hready=>fin listed hsz hready r,fun i hi=>?_⟩
  rw [mem_ready] at hi
  obtain ⟨h0,o,ho,hedges⟩:=hi
  have hlt:i<ops.size:=(Array.getElem?_eq_some_iff.1 ho).1
  have hp:listP listed i=false:=by
   unfold listP
   have hk':i<listed.size:=by omega
   simpa [Array.getD_eq_getD_getElem?,hk'] using h0
  have hpre:∀k,bitOf (preAt ops i) k=true→listP listed k=true:=by
   intro k hk
   obtain ⟨e,he,hb,h⟩:=(pre_step ho).1 hk
   have h1:listP listed e.on=true:=hedges e (by simpa using he) hb
   rcases h with h|⟨h2,h⟩
   ·rw [←h];exact h1
   ·exact hcl e.on k h1 (by omega) h
  obtain ⟨ei,hei⟩:∃e,entAt H i=some e:=by
   unfold entAt
   exact ⟨_,List.getElem?_eq_getElem (by rw [List.length_reverse];omega)⟩
  have hset:=listP_set (listed:=listed) (i:=i) (by omega)
  have hcl':Closed ops (addP (listP listed) i):=by
   intro j k hj hjs hb
   by_cases e:j=i
   ·subst e
    have:=hpre k hb
    simp [addP,this]
   ·rw [addP_ne e] at hj
    have:=hcl j k hj hjs hb
    simp [addP,this]
  have hcnt':(List.range ops.size).countP (fun k=> !addP (listP listed) i k)≤fuel:=by
   have:=countP_lt' (l:=List.range ops.size) (x:=i) (p:=fun k=> !addP (listP listed) i k) (q:=fun k=> !listP listed k) (fun k _ hk=>by
    simp only [addP,Bool.not_or,Bool.and_eq_true] at hk;exact hk.1) (by simpa using hlt) (by simp [hp]) (by simp [addP_self])
   omega
  obtain ⟨hd,hgo⟩:=hA.go i o ei ho hei
  have hdst:dstAt ops i=o.dst:=by simp [dstAt,ho]
  have hle:H.length≤ops.size:=by omega
  have hadd:stP ops (addP (listP listed) i) e0 m0 H={env:=updD (envP ops (listP listed) e0 H) o.dst ei.v,mu:=updL (muP (listP listed) m0 H) ei.ms,tw:= [],mw:= [],nx:=0}:=by
   unfold stP
   rw [envP_add hp hei (dst_any D hcl ho hp),muP_add hp hei (disj_any D hA.ok hcl ho hp hei),hdst]
  have next:∀{a':Act} {w':World} {g':Gh},RelS P nt w0 o0 io c0 (nx+ops.size) (stP ops (addP (listP listed) i) e0 m0 H) a' w' g'→wpAny P .any ops Q fuel (listed.setIfInBounds i true) a' w':=by
   intro a' w' g' r'
   have h1:RelS P nt w0 o0 io c0 (nx+ops.size) (stP ops (listP (listed.setIfInBounds i true)) e0 m0 H) a' w' g':=by rw [hset];exact r'
   exact ih (listed.setIfInBounds i true) (by simpa using hsz) (by rw [hset];exact hcnt') (by rw [hset];exact hcl') h1
  show wpOp P ops Q i _ a w
  unfold wpOp
  simp only [ho]
  have hlook:∀t∈o.looksAt ops,envP ops (listP listed) e0 H t=envP ops (ltP i) e0 H t:=fun t ht=>looks_any D hcl ho hp hpre hle ht
  have hgd:guardB ops (envP ops (listP listed) e0 H) o=guardB ops (envP ops (ltP i) e0 H) o:=guardB_eval hlook
  have henv:=r.rel.env
  rw [hnt] at hd
  rcases hgo with ⟨hg,hout⟩|⟨hg,hv,hms⟩
  ·rw [if_pos (guardB_wanted (env:=envP ops (listP listed) e0 H) henv (hgd.trans hg))]
   left
   have hop:opU C (envP ops (listP listed) e0 H) (muP (listP listed) m0 H) ((nx+i)*2048) rid i o (fun v ms=>some (v,ms))=some (ei.v,ei.ms):=by
    refine hout _ _ (fun x hx=>?_) (fun hr=>le_any D hA.ok hcl ho hp hpre hr) _ _
    cases x with
    |tmp t =>
     exact hlook t (List.mem_append_left _ (List.mem_filterMap.2 ⟨.tmp t,by simpa using hx,rfl⟩))
    |_=>rfl
   have hst:OpSt P C (envP ops (listP listed) e0 H) (muP (listP listed) m0 H) a w g ((nx+i)*2048) :=
    ⟨hty,hC,r.rel.env,r.rel.mem,r.rel.wf,r.rel.own,fun n h1 h2=>fresh_any D hA.ok hcl ho hp (by omega)⟩
   refine Oper.wp_mono ?_ (opU_ok (Q:=Q) hst hop)
   rintro a' w' ⟨tv,ms,v,g',rfl,hK,hn,hv⟩
   simp only [Option.some.injEq,Prod.mk.injEq] at hK
   obtain ⟨rfl,rfl⟩:=hK
   refine next (g':=g') ?_
   rw [hadd]
   refine ⟨?_,by cases o.dst<;>exact r.df,fun id hid=>?_,fun id hid=>?_⟩
   ·exact (r.rel.nxt hn).put' (a:=a) hd hv
   ·have:=mu_top D hA.ok (p:=addP (listP listed) i) hid
    rw [muP_add hp hei (disj_any D hA.ok hcl ho hp hei)] at this
    exact this
   ·obtain ⟨h1,h2⟩:=r.io id hid
    obtain ⟨_,hs,_⟩:=hn
    exact ⟨(hs.c id h2).trans h1,updL_some h2⟩
  ·rw [if_neg (by rw [guardB_wanted (env:=envP ops (listP listed) e0 H) henv (hgd.trans hg)];simp)]
   refine next (g':=g) ?_
   rw [hadd,hv,hms]
   refine ⟨?_,by cases o.dst<;>exact r.df,r.fresh,r.io⟩
   exact r.rel.put' (a:=a) (tv:= .und) (v:=undef) hd rfl
theorem RelS.drawn {n k:Nat} {st:St} {a:Act} {w:World} {g:Gh} (r:RelS P nt w0 o0 io c0 n st a w g):RelS P nt w0 o0 io c0 n st a {w with drawn:=k} g:=by
 have hn:Nxt P w g st.mu {w with drawn:=k} g st.mu :=
  ⟨fun _=>False,⟨fun b j v hv _=>⟨hv,rfl⟩,fun _ _=>rfl,fun _ h=>h,fun _ _ _=>rfl,fun _ _ _ _ _ h=>h.elim⟩,
   ⟨rfl,rfl,rfl,Nat.le_refl _,fun _ _ _=>rfl,fun _ _ _ hv _=>⟨hv,rfl⟩,fun _ _ v hv=>⟨v,hv⟩,fun _ _ _=>rfl⟩,⟨r.rel.wf.cell,r.rel.wf.ne⟩,r.rel.own,fun id b h hb=>by rcases h with h|h;exact h.elim;rw [h] at hb;cases hb⟩
 exact ⟨r.rel.nxt hn,r.df,r.fresh,r.io⟩
theorem regionU_draw (hm:P.follows .mixedOrders=true) (hty:∀t ti,C.ty t=some ti→tiOf P t=some ti) (hC:CtxOk P C) (hnt:C.nt=nt) {st:St} {a:Act} {w:World} {g:Gh} {K:St→Option R} {y:R}
  (h:regionU C rid ops true st K=some y) (r:RelS P nt w0 o0 io c0 st.nx st a w g) (hQ:∀st' a' w' g',K st'=some y→RelS P nt w0 o0 io c0 st'.nx st' a' w' g'→Ext st st'→Q .normal a' w') :
  (Code.region rid ops true).wp P Q a w:=by
 unfold regionU at h
 simp only [cond_true] at h
 cases hd:drawOk C ops ops.toList ops.toList (preL ops.toList []) 0 with
 |false=>rw [hd] at h;cases h
 |true =>
  rw [hd] at h
  simp only [cond_true] at h
  have D:=Drw.of hd
  obtain ⟨H,stF,h1,h2,h3,h4,hA,hE,hnx⟩:=opsD_ok (e0:=st.env) (m0:=st.mu) (nx:=st.nx) D r.fresh ops.toList [] (st:=st) (by simp) rfl rfl ⟨⟨fun k e hk=>by simp [entAt] at hk,fun k e hk=>by simp [entAt] at hk,fun k e o hk=>by simp [entAt] at hk,Nat.zero_le _,r.fresh⟩,fun k o e ho hk=>by simp [entAt] at hk⟩ h (Nat.zero_le _)
  refine wp_region_any hm ?_
  have hl0:listP (Array.replicate ops.size false)=fun _=>false:=by
   funext k
   unfold listP
   by_cases e:k<ops.size<;>simp [Array.getD_eq_getD_getElem?,e]
  refine drawn_dyn (w0:=w0) (o0:=o0) (io:=io) (c0:=c0) hty hC hnt D h2 hA (fun a' w' g' r'=>?_) ops.size (Array.replicate ops.size false) (a:=a) (g:=g) (by simp) ?_ ?_ ?_
  ·refine hQ _ a' w' g' h1 ?_ (fun e m N hb=>?_)
   ·have:(stP ops topP st.env st.mu H).env=stF.env∧(stP ops topP st.env st.mu H).mu=stF.mu:=⟨h3.symm,h4.symm⟩
    refine ⟨?_,r'.df,?_,?_⟩
    ·have:=r'.rel;unfold stP at this;rw [←h3,←h4] at this;exact this
    ·have:=r'.fresh;unfold stP at this;rw [←h4] at this;exact this
    ·have:=r'.io;unfold stP at this;rw [←h4] at this;exact this
   ·have:=hE e m N hb
    exact ⟨this.env,this.mem,Nat.le_trans hb.nx (Nat.mul_le_mul_right _ (Nat.le_add_right _ _))⟩
  ·refine Nat.le_trans List.countP_le_length ?_
   simp
  ·rw [hl0];intro i k h;cases h
  ·have hnone:∀(H:List Ent),envP ops (fun _=>false) st.env H=st.env∧muP (fun _=>false) st.mu H=st.mu:=by
    intro H
    induction H with
    |nil=>exact ⟨rfl,rfl⟩
    |cons e r ih=>exact ⟨by simp only [envP,cond_false];exact ih.1,by simp only [muP,cond_false];exact ih.2⟩
   have r1:=(r.drawn (k:=w.drawn+1)).grow (Nat.le_add_right st.nx ops.size)
   refine ⟨?_,r1.df,?_,?_⟩
   ·show Rel P nt w0 o0 (envP ops _ st.env H) (muP _ st.mu H) _ _ _
    rw [hl0,(hnone H).1,(hnone H).2];exact r1.rel
   ·show ∀id,_→muP _ st.mu H id=none
    rw [hl0,(hnone H).2];exact r1.fresh
   ·show ∀id∈io,_∧muP _ st.mu H id≠none
    rw [hl0,(hnone H).2];exact r1.io
end
end Go.Tm
/- The pure machine, 44: code does as the pure machine says. -/
namespace Go.Tm
open Go
section
variable {P:Program} {C:Ctx} {nt:Nat} {w0:World} {o0:Nat→Nat→Own} {io:List Nat} {c0:Nat→Conc}
theorem RelS.io_lt {st:St} {a:Act} {w:World} {g:Gh} (r:RelS P nt w0 o0 io c0 st.nx st a w g) {id:Nat} (h:st.mu id≠none):id<st.nx*2048:=by
 rcases Nat.lt_or_ge id (st.nx*2048) with h'|h'
 ·exact h'
 ·exact absurd (r.fresh id h') h
theorem repack_ok {R:Type} {st0 st hS:St} {us0:List Use} {an:Ann} {a a0:Act} {w wS:World} {g g0:Gh} {K:(itemsTy an.items).D→Option R} {y:R} (h:repack st0 st an K=some y)
  (r0:RelS P nt w0 o0 io c0 st0.nx st0 a0 wS g0) (r:RelS P nt w0 o0 io c0 st.nx st a w g) (hst:stOk st0 an=true) (U:Us0 st0 us0 an) (H:HdOk st0 hS us0 an) (B:Bas hS.env hS.mu (st0.nx*2048) st) :
  ∃v g',K v=some y∧RelS P nt w0 o0 io c0 (st0.nx+1) (reState st0 us0 an v) a w g':=by
 unfold repack at h
 cases hc:(st.tw.all (twOk an)&&st.mw.all (mwOk st0 an)) with
 |false=>rw [hc] at h;cases h
 |true =>
  rw [hc] at h
  simp only [cond_true] at h
  simp only [Bool.and_eq_true] at hc
  obtain ⟨d,new,vals,h1,hit,hus,hH,_⟩:=packItems_ok r.rel.env r.rel.mem r.rel.wf an.items 0 h
  rw [List.append_nil] at h1
  cases hu:(usesOk new&&new.all (usOk st0 st an)) with
  |false=>rw [hu] at h1;cases h1
  |true =>
   rw [hu] at h1
   simp only [cond_true] at h1
   simp only [Bool.and_eq_true] at hu
   have L:=Link.back hst U H B hc.1 hc.2 hu.2 hit r0.fresh hus
   obtain ⟨g',hrel,hcc,hfr,hdom⟩:=retell (us0:=us0) r0.rel.inn r0.fresh r.rel hst hit hus hH hu.1 L
   refine ⟨d,g',h1,hrel,r.df,hfr,fun id hid=>?_⟩
   have hlt:=r0.io_lt (r0.io id hid).2
   exact ⟨(hcc id hlt).trans (r.io id hid).1,hdom id hlt (r.io id hid).2⟩
theorem pack_ok {R:Type} {st:St} {an:Ann} {a:Act} {w:World} {g:Gh} {K:(itemsTy an.items).D→List Use→Option R} {y:R} (h:(packItems st st.nx an.items 0 [] fun v0 us=>bif usesOk us&&stOk st an then K v0 us else none)=some y)
  (r:RelS P nt w0 o0 io c0 st.nx st a w g):∃v us g',K v us=some y∧stOk st an=true∧Us0 st us an∧RelS P nt w0 o0 io c0 (st.nx+1) (reState st us an v) a w g':=by
 obtain ⟨d,new,vals,h1,hit,hus,hH,hr⟩:=packItems_ok r.rel.env r.rel.mem r.rel.wf an.items 0 h
 rw [List.append_nil] at h1
 cases hu:(usesOk new&&stOk st an) with
 |false=>rw [hu] at h1;cases h1
 |true =>
  rw [hu] at h1
  simp only [cond_true] at h1
  simp only [Bool.and_eq_true] at hu
  have U:Us0 st new an:=⟨hu.1,fun u hm=>⟨_,hus u hm⟩,.inr hr⟩
  have L:=Link.entry hu.2 U hr r.fresh hus
  obtain ⟨g',hrel,hcc,hfr,hdom⟩:=retell (us0:=new) r.rel.inn r.fresh r.rel hu.2 hit hus hH hu.1 L
  refine ⟨d,new,g',h1,hu.2,U,hrel,r.df,hfr,fun id hid=>?_⟩
  have hlt:=r.io_lt (r.io id hid).2
  exact ⟨(hcc id hlt).trans (r.io id hid).1,hdom id hlt (r.io id hid).2⟩
theorem reState_nx {st0:St} {us:List Use} {a:Ann} {d:(itemsTy a.items).D}:(reState st0 us a d).nx=st0.nx+1:=(unItems_flds (nx:=st0.nx) a.items 0).2.2.1
theorem RelS.forget {n:Nat} {st:St} {a:Act} {w:World} {g:Gh} {tw:List Nat} {mw:List Wr} (r:RelS P nt w0 o0 io c0 n st a w g):RelS P nt w0 o0 io c0 n {st with tw:=tw,mw:=mw} a w g:=⟨r.rel,r.df,r.fresh,r.io⟩
def PostX {Y R:Type} (P:Program) (nt:Nat) (w0:World) (o0:Nat→Nat→Own) (io:List Nat) (c0:Nat→Conc) (RetOk:Y→Act→World→Prop) (inj:Y→R) (st0:St) (kn:St→Option R) (ke:Nat→St→Option R) (y:R):Exit→Act→World→Prop
 | .normal,a,w=>∃st g,kn st=some y∧RelS P nt w0 o0 io c0 st.nx st a w g∧Ext st0 st
 | .exit id,a,w=>∃st g,ke id st=some y∧RelS P nt w0 o0 io c0 st.nx st a w g∧Ext st0 st
 | .ret,a,w=>∃z,inj z=y∧RetOk z a w
 |_,_,_=>False
theorem loopF_some {S E:Type} {f:S→Option (Sum S E)} {s:S} {e:E} (h:loopF f s=some e):∃n,loopIter f n s=some e:=by
 unfold loopF at h
 split at h
 ·rename_i hx
  have:=Classical.choose_spec (Classical.choose_spec hx)
  rw [Option.some.inj h] at this
  exact ⟨_,this⟩
 ·cases h
def LoopW (P:Program) (c:Code) (Q:Exit→Act→World→Prop) (a:Act) (w:World):Prop :=
 ∀b k cs,∃e a' w',Q e a' w'∧Arrives P (lone (b.at a (.code c:: .inLoop c::k)) cs w) b k cs e a' w'
theorem wp_loop_w {c:Code} {Q:Exit→Act→World→Prop} {a:Act} {w:World} (h:LoopW P c Q a w):(Code.loop c).wp P Q a w:=by
 intro b k cs
 obtain ⟨e,a',w',hq,harr⟩:=h b k cs
 exact ⟨e,a',w',hq,.of_steps (.one step_loop) harr⟩
theorem loopW_step {c:Code} {Q:Exit→Act→World→Prop} {a:Act} {w:World} (h:c.wp P (Exit.then (LoopW P c Q) Q) a w):LoopW P c Q a w:=by
 intro b k cs
 obtain ⟨e,a₁,w₁,hq,harr⟩:=h b (.inLoop c::k) cs
 cases e with
 |normal =>
  obtain ⟨e₂,a₂,w₂,hq₂,harr₂⟩:=hq b k cs
  exact ⟨e₂,a₂,w₂,hq₂,.of_steps (Steps.trans harr (.one step_inLoop)) harr₂⟩
 |exit id=>exact ⟨_,a₁,w₁,hq,.pass (x:= .inLoop c) rfl (fun _ _=> .inl (by simp)) harr⟩
 |goto l=>exact ⟨_,a₁,w₁,hq,.pass (x:= .inLoop c) rfl (fun _ _=> .inl (by simp)) harr⟩
 |ret=>exact ⟨_,a₁,w₁,hq,.pass (x:= .inLoop c) rfl (fun _ _=> .inl (by simp)) harr⟩
 |panic ch=>exact ⟨_,a₁,w₁,hq,.pass (x:= .inLoop c) rfl (fun _ _=> .inl (by simp)) harr⟩
 |outgrown=>exact ⟨_,a₁,w₁,hq,.pass (x:= .inLoop c) rfl (fun _ _=> .inl (by simp)) harr⟩
theorem rounds_ok {Y:Type} {fin:{R:Type}→St→(Y→Option R)→Option R} {RetOk:Y→Act→World→Prop} {id:Nat} {body:Code}
  (IH:∀{R:Type} (inj:Y→R) (st:St) (kn:St→Option R) (ke:Nat→St→Option R) (y:R) (a:Act) (w:World) (g:Gh),exec C fin body inj st kn ke=some y→RelS P nt w0 o0 io c0 st.nx st a w g→body.wp P (PostX P nt w0 o0 io c0 RetOk inj st kn ke y) a w)
  {R:Type} (inj:Y→R) (st stB:St) (kn:St→Option R) (ke:Nat→St→Option R) (y:R) (a0:Act) (wS:World) (g0:Gh) (an:Ann) (us:List Use) (x:Sum (itemsTy an.items).D R)
  (kr:(itemsTy an.items).D→St→Option (Sum (itemsTy an.items).D (Sum (itemsTy an.items).D R))) (hE:Ext stB st)
  (r:RelS P nt w0 o0 io c0 st.nx st a0 wS g0) (hst:stOk st an=true) (U:Us0 st us an) (hy:Sum.elim (fun v=>kn (reState st us an v)) some x=some y)
  (hkr:∀v st' z,kr v st'=some z→repack st st' an (fun v=>some (.inl v))=some z∨∃q,z= .inr (.inr q)∧∀a' w' g',q=y→RelS P nt w0 o0 io c0 st'.nx st' a' w' g'→Ext {reState st us an v with tw:= [],mw:= []} st'→LoopW P body (Exit.inBlock id (PostX P nt w0 o0 io c0 RetOk inj stB kn ke y)) a' w') :
  ∀(n:Nat) (v:(itemsTy an.items).D) (a:Act) (w:World) (g:Gh),loopIter (E:=Sum (itemsTy an.items).D R) (fun v=>exec C fin body (R:=Sum (itemsTy an.items).D (Sum (itemsTy an.items).D R)) (fun y=> .inr (.inr (inj y)))
      {reState st us an v with tw:= [],mw:= []} (kr v)
      (fun id' st'=>bif Nat.beq id' id then repack st st' an fun v=>some (.inr (.inl v)) else none)) n v=some x →
    RelS P nt w0 o0 io c0 (st.nx+1) (reState st us an v) a w g→LoopW P body (Exit.inBlock id (PostX P nt w0 o0 io c0 RetOk inj stB kn ke y)) a w:=by
 intro n
 induction n with
 |zero=>intro v a w g h _;cases h
 |succ n ih =>
  intro v a w g h r2
  refine loopW_step ?_
  simp only [loopIter] at h
  cases hf:exec C fin body (R:=Sum (itemsTy an.items).D (Sum (itemsTy an.items).D R)) (fun y=> .inr (.inr (inj y)))
    {reState st us an v with tw:= [],mw:= []} (kr v)
    (fun id' st'=>bif Nat.beq id' id then repack st st' an fun v=>some (.inr (.inl v)) else none) with
  |none=>rw [hf] at h;cases h
  |some f =>
   rw [hf] at h
   have r3:RelS P nt w0 o0 io c0 ({reState st us an v with tw:= [],mw:= []}:St).nx {reState st us an v with tw:= [],mw:= []} a w g:=by
    show RelS P nt w0 o0 io c0 (reState st us an v).nx _ a w g
    rw [reState_nx];exact r2.forget
   refine Code.wp_mono ?_ (IH _ _ _ _ f a w g hf r3)
   have hB:Bas (reState st us an v).env (reState st us an v).mu (st.nx*2048) {reState st us an v with tw:= [],mw:= []}:=by
    refine ⟨fun _ _=>rfl,fun _ _=> .refl,?_⟩
    show st.nx*2048≤(reState st us an v).nx*2048
    rw [reState_nx]
    exact Nat.mul_le_mul_right _ (Nat.le_succ _)
   rintro e a' w' hq
   cases e with
   |normal =>
    obtain ⟨st',g',h1,r1,e1⟩:=hq
    rcases hkr v st' f h1 with h1|⟨q,rfl,hq⟩
    ·obtain ⟨v2,g2,h2,r4⟩:=repack_ok (hS:={reState st us an v with tw:= [],mw:= []}) h1 r r1 hst U HdOk.loop (e1 _ _ _ hB)
     simp only [Option.some.injEq] at h2
     subst h2
     exact ih v2 a' w' g2 h r4
    ·simp only [Option.some.injEq] at h
     subst h
     exact hq a' w' g' (Option.some.inj hy) r1 e1
   |exit id' =>
    obtain ⟨st',g',h1,r1,e1⟩:=hq
    dsimp only at h1
    show (if id'=id then _ else _)
    cases hid:Nat.beq id' id with
    |false=>rw [hid] at h1;cases h1
    |true =>
     rw [hid] at h1
     simp only [cond_true] at h1
     rw [if_pos (Nat.eq_of_beq_eq_true hid)]
     obtain ⟨v2,g2,h2,r4⟩:=repack_ok (hS:={reState st us an v with tw:= [],mw:= []}) h1 r r1 hst U HdOk.loop (e1 _ _ _ hB)
     simp only [Option.some.injEq] at h2
     subst h2
     simp only [Option.some.injEq] at h
     subst h
     have hy:kn (reState st us an v2)=some y:=hy
     exact ⟨_,g2,hy,by rw [reState_nx];exact r4,fun e m N hb=>(hE e m N hb).reState⟩
   |ret =>
    obtain ⟨z,hz,hz2⟩:=hq
    subst hz
    simp only [Option.some.injEq] at h
    subst h
    have hy:some (inj z)=some y:=hy
    cases hy
    exact ⟨z,rfl,hz2⟩
   |goto _=>exact hq.elim
   |panic _=>exact hq.elim
   |outgrown=>exact hq.elim
theorem loop_ok {Y:Type} {fin:{R:Type}→St→(Y→Option R)→Option R} {RetOk:Y→Act→World→Prop} {id:Nat} {body:Code}
  (IH:∀{R:Type} (inj:Y→R) (st:St) (kn:St→Option R) (ke:Nat→St→Option R) (y:R) (a:Act) (w:World) (g:Gh),exec C fin body inj st kn ke=some y→RelS P nt w0 o0 io c0 st.nx st a w g→body.wp P (PostX P nt w0 o0 io c0 RetOk inj st kn ke y) a w)
  {R:Type} (inj:Y→R) (st:St) (kn:St→Option R) (ke:Nat→St→Option R) (y:R) (a:Act) (w:World) (g:Gh) (h:exec C fin (.block id (.loop body)) inj st kn ke=some y) (r:RelS P nt w0 o0 io c0 st.nx st a w g) :
  (Code.block id (.loop body)).wp P (PostX P nt w0 o0 io c0 RetOk inj st kn ke y) a w:=by
 unfold exec at h
 cases hl:C.lp id with
 |none =>
  simp only [hl] at h
  simp only [exec] at h
  cases h
 |some an =>
  simp only [hl] at h
  cases hj:C.jn (id+2000000) with
  |none =>
   simp only [hj] at h
   obtain ⟨d,us,g1,h1,hst,U,r1⟩:=pack_ok (K:=fun v0 us=>(loopF (E:=Sum (itemsTy an.items).D R) (fun v=>exec C fin body (R:=Sum (itemsTy an.items).D (Sum (itemsTy an.items).D R)) (fun y=> .inr (.inr (inj y)))
       {reState st us an v with tw:= [],mw:= []}
       (fun st'=>repack st st' an fun v=>some (.inl v))
       (fun id' st'=>bif Nat.beq id' id then repack st st' an fun v=>some (.inr (.inl v)) else none)) v0).bind fun r=>Sum.elim
      (fun v=>kn (reState st us an v)) some r) h r
   obtain ⟨x,hx,hy⟩:=Option.bind_eq_some_iff.1 h1
   obtain ⟨n,hn⟩:=loopF_some hx
   exact wp_block (wp_loop_w (rounds_ok IH inj st st kn ke y a w g an us x (fun _ st'=>repack st st' an fun v=>some (.inl v)) (.refl st) r hst U hy (fun v st' z hz=> .inl hz) n d a w g1 hn r1))
  |some a2 =>
   simp only [hj] at h
   obtain ⟨d,us,g1,h1,hst,U,r1⟩:=pack_ok (K:=fun v0 us=>(loopF (E:=Sum (itemsTy an.items).D R) (fun v=>exec C fin body (R:=Sum (itemsTy an.items).D (Sum (itemsTy an.items).D R)) (fun y=> .inr (.inr (inj y)))
       {reState st us an v with tw:= [],mw:= []}
       (fun st'=>bif st'.tw.all (twOk an)&&st'.mw.all (mwOk st an) then repack st st' an fun v=>some (.inl v) else
        Option.map (fun r=> .inr (.inr r)) (packItems (since (reState st us an v) st') st'.nx a2.items 0 [] fun v0 us2=>bif usesOk us2&&stOk (since (reState st us an v) st') a2 then
         (loopF (E:=Sum (itemsTy a2.items).D R) (fun v2=>exec C fin body (R:=Sum (itemsTy a2.items).D (Sum (itemsTy a2.items).D R)) (fun y=> .inr (.inr (inj y)))
           {reState (since (reState st us an v) st') us2 a2 v2 with tw:= [],mw:= []}
           (fun s3=>repack (since (reState st us an v) st') s3 a2 fun v=>some (.inl v))
           (fun id' s3=>bif Nat.beq id' id then repack (since (reState st us an v) st') s3 a2 fun v=>some (.inr (.inl v)) else none)) v0).bind fun r=>Sum.elim
          (fun v2=>kn (reState (since (reState st us an v) st') us2 a2 v2)) some r
         else none))
       (fun id' st'=>bif Nat.beq id' id then repack st st' an fun v=>some (.inr (.inl v)) else none)) v0).bind fun r=>Sum.elim
      (fun v=>kn (reState st us an v)) some r) h r
   obtain ⟨x,hx,hy⟩:=Option.bind_eq_some_iff.1 h1
   obtain ⟨n,hn⟩:=loopF_some hx
   refine wp_block (wp_loop_w (rounds_ok IH inj st st kn ke y a w g an us x _ (.refl st) r hst U hy (fun v st' z hz=>?_) n d a w g1 hn r1))
   dsimp only at hz
   cases hc:(st'.tw.all (twOk an)&&st'.mw.all (mwOk st an)) with
   |true=>rw [hc] at hz;exact .inl hz
   |false =>
    rw [hc] at hz
    simp only [cond_false] at hz
    obtain ⟨q,hq,rfl⟩:=Option.map_eq_some_iff.1 hz
    refine .inr ⟨q,rfl,fun a' w' g' hqy r3 e1=>?_⟩
    subst hqy
    have rS:RelS P nt w0 o0 io c0 (since (reState st us an v) st').nx (since (reState st us an v) st') a' w' g':=r3.forget
    obtain ⟨d2,us2,g2,k1,hst2,U2,r4⟩:=pack_ok (st:=since (reState st us an v) st') (K:=fun v0 us2=>(loopF (E:=Sum (itemsTy a2.items).D R) (fun v2=>exec C fin body (R:=Sum (itemsTy a2.items).D (Sum (itemsTy a2.items).D R)) (fun y=> .inr (.inr (inj y)))
           {reState (since (reState st us an v) st') us2 a2 v2 with tw:= [],mw:= []}
           (fun s3=>repack (since (reState st us an v) st') s3 a2 fun v=>some (.inl v))
           (fun id' s3=>bif Nat.beq id' id then repack (since (reState st us an v) st') s3 a2 fun v=>some (.inr (.inl v)) else none)) v0).bind fun r=>Sum.elim
          (fun v2=>kn (reState (since (reState st us an v) st') us2 a2 v2)) some r) hq rS
    obtain ⟨x2,hx2,hy2⟩:=Option.bind_eq_some_iff.1 k1
    obtain ⟨n2,hn2⟩:=loopF_some hx2
    have hE:Ext st (since (reState st us an v) st'):=fun e m N hb=>(hb.reState (us:=us) (a:=an) (d:=v)).trans (e1 _ _ _ Bas.start)
    exact rounds_ok IH inj _ st kn ke q a' w' g' a2 us2 x2 (fun _ s3=>repack (since (reState st us an v) st') s3 a2 fun v=>some (.inl v)) hE rS hst2 U2 hy2 (fun v st' z hz=> .inl hz) n2 d2 a' w' g2 hn2 r4
theorem frz1_ok {st:St} {a:Act} {w:World} {g:Gh} (r:RelS P nt w0 o0 io c0 st.nx st a w g) (id:Nat):∃g',RelS P nt w0 o0 io c0 (frz1 st id).nx (frz1 st id) a w g'∧Ext st (frz1 st id):=by
 unfold frz1
 split
 ·rename_i es ms xs ver hr
  obtain ⟨g',hn,_⟩:=Nxt.freeze r.rel.mem r.rel.wf r.rel.own hr
  have hput:PutOk st.mu [(id,Blk.fz es xs)] [.all id]:=PutOk.all st.mu [(id,.fz es xs)]
  refine ⟨g',⟨r.rel.nxt hn,r.df,fun j hj=>?_,fun j hj=>?_⟩,fun e m N hb=>hb.put hput⟩
  ·show updL st.mu [(id,_)] j=none
   rw [updL_none]
   ·exact r.fresh j hj
   ·intro b hb
    simp only [List.mem_singleton,Prod.mk.injEq] at hb
    have:=r.fresh j hj
    rw [hb.1,hr] at this;cases this
  ·obtain ⟨h1,h2⟩:=r.io j hj
   obtain ⟨_,hs,_⟩:=hn
   exact ⟨(hs.c j h2).trans h1,updL_some h2⟩
 ·exact ⟨g,r,.refl _⟩
theorem frzL_ok (l:List Nat) {st:St} {a:Act} {w:World} {g:Gh} (r:RelS P nt w0 o0 io c0 st.nx st a w g):∃g',RelS P nt w0 o0 io c0 (l.foldl frz1 st).nx (l.foldl frz1 st) a w g'∧Ext st (l.foldl frz1 st):=by
 induction l generalizing st g with
 |nil=>exact ⟨g,r,.refl _⟩
 |cons id l ih =>
  obtain ⟨g1,r1,e1⟩:=frz1_ok r id
  obtain ⟨g2,r2,e2⟩:=ih r1
  exact ⟨g2,r2,e1.trans e2⟩
theorem frzSt_ok {rid:Nat} {st:St} {a:Act} {w:World} {g:Gh} (r:RelS P nt w0 o0 io c0 st.nx st a w g):∃g',RelS P nt w0 o0 io c0 (frzSt C rid st).nx (frzSt C rid st) a w g'∧Ext st (frzSt C rid st):=by
 unfold frzSt
 split
 ·exact ⟨g,r,.refl _⟩
 ·exact frzL_ok _ r
theorem exec_ok {Y:Type} {fin:{R:Type}→St→(Y→Option R)→Option R} {RetOk:Y→Act→World→Prop} (hm:P.follows .mixedOrders=true) (hty:∀t ti,C.ty t=some ti→tiOf P t=some ti) (hC:CtxOk P C) (hnt:C.nt=nt)
  (hfin:∀{R:Type} (st:St) (K:Y→Option R) (y:R) (a:Act) (w:World) (g:Gh),RelS P nt w0 o0 io c0 st.nx st a w g→fin st K=some y→∃z,K z=some y∧RetOk z a w) :
  ∀(c:Code) {R:Type} (inj:Y→R) (st:St) (kn:St→Option R) (ke:Nat→St→Option R) (y:R) (a:Act) (w:World) (g:Gh),exec C fin c inj st kn ke=some y→RelS P nt w0 o0 io c0 st.nx st a w g →
   c.wp P (PostX P nt w0 o0 io c0 RetOk inj st kn ke y) a w
 | .skip,R,inj,st,kn,ke,y,a,w,g,h,r=>wp_skip ⟨st,g,h,r,.refl st⟩
 | .region rid ops draw,R,inj,st,kn,ke,y,a,w,g,h,r=>by
  have h:regionU C rid ops draw (frzSt C rid st) kn=some y:=h
  obtain ⟨g0,r0,e0⟩:=frzSt_ok (C:=C) (rid:=rid) r
  cases draw with
  |false=>exact regionU_text hty hC hnt h r0 fun st' a' w' g' h1 h2 h3=>⟨st',g',h1,h2,e0.trans h3⟩
  |true=>exact regionU_draw hm hty hC hnt h r0 fun st' a' w' g' h1 h2 h3=>⟨st',g',h1,h2,e0.trans h3⟩
 | .seq c d,R,inj,st,kn,ke,y,a,w,g,h,r=>by
  simp only [exec] at h
  refine wp_seq ?_
  cases hj:C.jn (firstRegion d) with
  |none =>
   simp only [hj] at h
   refine Code.wp_mono ?_ (exec_ok hm hty hC hnt hfin c inj st _ ke y a w g h r)
   rintro e a' w' hq
   cases e with
   |normal =>
    obtain ⟨st',g',h1,r1,e1⟩:=hq
    refine Code.wp_mono ?_ (exec_ok hm hty hC hnt hfin d inj st' kn ke y a' w' g' h1 r1)
    rintro e a2 w2 hq
    cases e with
    |normal=>obtain ⟨s2,g2,h2,r2,e2⟩:=hq;exact ⟨s2,g2,h2,r2,e1.trans e2⟩
    |exit id=>obtain ⟨s2,g2,h2,r2,e2⟩:=hq;exact ⟨s2,g2,h2,r2,e1.trans e2⟩
    |ret=>exact hq
    |goto _=>exact hq.elim
    |panic _=>exact hq.elim
    |outgrown=>exact hq.elim
   |exit id=>exact hq
   |ret=>exact hq
   |goto _=>exact hq.elim
   |panic _=>exact hq.elim
   |outgrown=>exact hq.elim
  |some an =>
   simp only [hj] at h
   cases hst:stOk st an with
   |false=>rw [hst] at h;cases h
   |true =>
    rw [hst] at h
    simp only [cond_true] at h
    obtain ⟨x,hx,hy⟩:=Option.bind_eq_some_iff.1 h
    refine Code.wp_mono ?_ (exec_ok hm hty hC hnt hfin c (fun y=> .inr (inj y)) {st with tw:= [],mw:= []} _ _ x a w g hx r.forget)
    rintro e a' w' hq
    cases e with
    |normal =>
     obtain ⟨st',g',h1,r1,e1⟩:=hq
     have B:=e1 st.env st.mu (st.nx*2048) Bas.start
     obtain ⟨v,g2,h2,r2⟩:=repack_ok (us0:= []) (hS:={st with tw:= [],mw:= []}) h1 r r1 hst ⟨rfl,by simp,.inl rfl⟩ HdOk.joint B
     simp only [Option.some.injEq] at h2
     subst h2
     have hy:exec C fin d inj (reState st [] an v) kn ke=some y:=hy
     refine Code.wp_mono ?_ (exec_ok hm hty hC hnt hfin d inj (reState st [] an v) kn ke y a' w' g2 hy (by rw [reState_nx];exact r2))
     rintro e a2 w2 hq
     have e0:Ext st (reState st [] an v):=fun e m N hb=>hb.reState
     cases e with
     |normal=>obtain ⟨s2,g2,h2,r2,e2⟩:=hq;exact ⟨s2,g2,h2,r2,e0.trans e2⟩
     |exit id=>obtain ⟨s2,g2,h2,r2,e2⟩:=hq;exact ⟨s2,g2,h2,r2,e0.trans e2⟩
     |ret=>exact hq
     |goto _=>exact hq.elim
     |panic _=>exact hq.elim
     |outgrown=>exact hq.elim
    |exit id =>
     obtain ⟨st',g',h1,r1,e1⟩:=hq
     obtain ⟨z,hz,hz2⟩:=Option.map_eq_some_iff.1 h1
     subst hz2
     have hy:some z=some y:=hy
     cases hy
     exact ⟨_,g',hz,r1.forget,fun e m N hb=>hb.trans (e1 st.env st.mu (st.nx*2048) Bas.start)⟩
    |ret =>
     obtain ⟨z,hz,hz2⟩:=hq
     subst hz
     have hy:some (inj z)=some y:=hy
     cases hy
     exact ⟨z,rfl,hz2⟩
    |goto _=>exact hq.elim
    |panic _=>exact hq.elim
    |outgrown=>exact hq.elim
 | .cond c x z,R,inj,st,kn,ke,y,a,w,g,h,r=>by
  simp only [exec] at h
  cases c<;>simp only at h<;>try (cases h;done)
  case tmp t =>
   have hv:=r.rel.env t
   cases ht:st.env t<;>simp only [ht] at h<;>try (cases h;done)
   case c cv =>
    cases cv<;>simp only at h<;>try (cases h;done)
    case bool b =>
     rw [ht] at hv
     have hv:a.eval (.tmp t)= .bool b:=hv
     refine wp_cond hv ?_
     have hr:=refine_self ht
     cases b with
     |true=>simp only [cond_true,hr] at h;exact exec_ok hm hty hC hnt hfin x inj st kn ke y a w g h r
     |false=>simp only [cond_false,hr] at h;exact exec_ok hm hty hC hnt hfin z inj st kn ke y a w g h r
 | .block id c,R,inj,st,kn,ke,y,a,w,g,h,r=>by
  cases hl:C.lp id with
  |none =>
   unfold exec at h
   simp only [hl] at h
   refine wp_block (Code.wp_mono ?_ (exec_ok hm hty hC hnt hfin c inj st kn _ y a w g h r))
   rintro e a' w' hq
   cases e with
   |normal=>exact hq
   |exit id' =>
    obtain ⟨st',g',h1,r1,e1⟩:=hq
    dsimp only at h1
    show (if id'=id then _ else _)
    cases hid:Nat.beq id' id with
    |true =>
     rw [if_pos (Nat.eq_of_beq_eq_true hid)]
     rw [hid] at h1
     exact ⟨st',g',h1,r1,e1⟩
    |false =>
     rw [if_neg (fun e=>by rw [e,Nat.beq_refl] at hid;cases hid)]
     rw [hid] at h1
     exact ⟨st',g',h1,r1,e1⟩
   |ret=>exact hq
   |goto _=>exact hq.elim
   |panic _=>exact hq.elim
   |outgrown=>exact hq.elim
  |some an =>
   cases c with
   |loop body=>exact loop_ok (fun inj st kn ke y a w g h r=>exec_ok hm hty hC hnt hfin body inj st kn ke y a w g h r) inj st kn ke y a w g h r
   |_ =>
    unfold exec at h
    simp only [hl] at h
    cases h
 | .exit id,R,inj,st,kn,ke,y,a,w,g,h,r=>wp_exit ⟨st,g,h,r,.refl st⟩
 | .ret,R,inj,st,kn,ke,y,a,w,g,h,r=>by
  obtain ⟨z,hz,hr⟩:=hfin st _ y a w g r h
  simp only [Option.some.injEq] at hz
  exact wp_ret ⟨z,hz,hr⟩
 | .loop _,_,_,_,_,_,_,_,_,_,h,_=>by simp [exec] at h
 | .rangeFunc _ _ _ _,_,_,_,_,_,_,_,_,_,h,_=>by simp [exec] at h
 | .scope _,_,_,_,_,_,_,_,_,_,h,_=>by simp [exec] at h
 | .label _,_,_,_,_,_,_,_,_,_,h,_=>by simp [exec] at h
 | .goto _,_,_,_,_,_,_,_,_,_,h,_=>by simp [exec] at h
 | .refuse _,_,_,_,_,_,_,_,_,_,h,_=>by simp [exec] at h
end
end Go.Tm
/- The pure machine, 45: a function's end. -/
namespace Go.Tm
open Go
def ResRun (P:Program) (tmps:Array Value) (w:World) (rv:ResultVar) (v:Value):Prop :=
 (match rv with
  | .tmp t=>pure (tmps.getD t undef)
  | .cell a t=>do loadVar t (←asAddr (tmps.getD a undef)):Sem Value).run P w= .ok v w
theorem results_ok {P:Program} {fn:Func} {tmps:Array Value} {w:World} {vs:List Value} (h:All2 (ResRun P tmps w) fn.results.toList vs):(results fn tmps).run P w= .ok (retOf vs) w:=by
 have key:∀(rvs:List ResultVar) (vs:List Value),All2 (ResRun P tmps w) rvs vs→(rvs.mapM fun rv=>(match rv with
  | .tmp t=>pure (tmps.getD t undef)
  | .cell a t=>do loadVar t (←asAddr (tmps.getD a undef)):Sem Value)).run P w= .ok vs w:=by
  intro rvs
  induction rvs with
  |nil=>intro vs h;cases vs;rfl;exact h.elim
  |cons rv rvs ih =>
   intro vs h
   cases vs with
   |nil=>exact h.elim
   |cons v vs =>
    have h1:=ih vs h.2
    have h0:_=_:=h.1
    rw [List.mapM_cons,Sem.run_bind,h0]
    simp only [Result.andThen_ok,Sem.run_bind,h1]
    rfl
 unfold results
 rw [Sem.run_bind]
 have:(fn.results.mapM fun rv=>(match rv with
  | .tmp t=>pure (tmps.getD t undef)
  | .cell a t=>do loadVar t (←asAddr (tmps.getD a undef)):Sem Value)).run P w= .ok vs.toArray w:=by
  rw [Array.mapM_eq_mapM_toList,Sem.run_map,key _ _ h]
  rfl
 refine (congrArg (fun r=>Result.andThen r (fun (a:Array Value) w'=>Sem.run P (pure (if h:a.size=1 then a[0] else Value.tuple a)) w')) this).trans ?_
 simp only [Result.andThen_ok]
 match vs with
 | []=>rfl
 | [v]=>rfl
 |_::_::_=>rfl
section
variable {P:Program} {C:Ctx} {w:World} {g:Gh} {st:St} {a:Act} {R:Type}
theorem resU_ok (hty:∀t ti,C.ty t=some ti→tiOf P t=some ti) (henv:∀t,(st.env t).R P w g st.mu (a.tmps.getD t undef)) (hm:MemR P w g st.mu) {gr:Grp} {to:Nat} {rv:ResultVar} {us:List Use} {K:List CV→List Use→Option R} {y:R}
  (h:resU C st gr to rv us K=some y):∃cvs vs new v,K cvs (new++us)=some y∧cvsR P w g st.mu cvs vs∧ResRun P a.tmps w rv v ∧
   ((gr.k= .c∧vs= [v]∧new= [])∨(gr.k= .agg∧v= .agg vs.toArray∧new= []) ∨
    (gr.k= .np∧∃id b base,new= [.mv id to]∧v= .pointer (some ⟨b,base,none⟩)∧∀k u,vs[k]?=some u→w.cell? ⟨b,base+k,none⟩=some u∧g.o b (base+k)= .o [id])):=by
 cases rv with
 |tmp t =>
  have hv:=henv t
  simp only [resU] at h
  split at h
  ·rename_i v hk he
   rw [he] at hv
   exact ⟨_,[a.tmps.getD t undef],[],_,h,⟨hv,trivial⟩,rfl,.inl ⟨hk,rfl,rfl⟩⟩
  ·rename_i vs hk he
   rw [he] at hv
   obtain ⟨ar,hav,har⟩:=hv
   exact ⟨_,ar.toList,[],_,h,har,rfl,.inr (.inl ⟨hk,by rw [hav],rfl⟩)⟩
  ·rename_i id hk he
   rw [he] at hv
   obtain ⟨_,b,base,hc,hp⟩:=hv
   cases hb:st.mu id with
   |none=>simp [hb] at h
   |some bl =>
    have hbr:=hm id bl hb
    cases bl<;>simp only [hb] at h<;>try (cases h;done)
    case box cs =>
     obtain ⟨b',base',hc',hcs⟩:=hbr
     rw [hc] at hc';cases hc'
     obtain ⟨vs,h1,h2⟩:=box_vs (P:=P) (mu:=st.mu) cs hcs
     exact ⟨cs,vs,[.mv id to],_,h,h1,rfl,.inr (.inr ⟨hk,id,b,base,rfl,by simpa using hp,h2⟩)⟩
  ·cases h
 |cell x t =>
  simp only [resU] at h
  split at h
  ·rename_i ti cv ht he
   have hv:=henv x
   rw [he] at hv
   cases hag:aggOk gr.k ti.k with
   |false=>simp [hag] at h
   |true =>
    simp only [hag,cond_true] at h
    obtain ⟨inf,d,z,h1,h2,h3,h4,harr,h6,h7,h8,h9,h10,h11⟩:=ti_ok (hty t ti ht)
    obtain ⟨cvs,vs,b,base,h,hcv,hlen,hvx,hcell⟩:=loadU_ok hm hv h
    have hrun:=run_loadCells_list (P:=P) w ⟨b,base,none⟩ vs (fun j v hj=>by rw [Addr.add_lit];exact hcell j v hj)
    rcases h11 with ⟨fs,hd,hfs,hfl,hagg,_⟩|⟨hns,hs1,_,_,harr⟩|⟨n0,e0,ie0,hd,_⟩
    ·subst hd
     have hk:ti.k= .struct:=h9
     have hgk:gr.k= .agg:=by rw [hk] at hag;cases hg:gr.k<;>rw [hg] at hag<;>simp [aggOk] at hag ⊢
     rw [hlen,h7] at hrun
     exact ⟨cvs,vs,[],.agg vs.toArray,h,hcv,by simp [ResRun,hvx,asAddr,loadVar,isAgg,run_underlying h2,sizeOf,run_typeInfo w h1,hrun],.inr (.inl ⟨hgk,rfl,rfl⟩)⟩
    ·have hgk:gr.k= .c:=by
      cases hg:gr.k<;>rw [hg] at hag<;>cases hk:ti.k<;>rw [hk] at hag<;>simp [aggOk] at hag ⊢
      rw [hk] at h9
      rcases struct_iff.1 h9.symm with h|h
      ·exact absurd h (by simpa using hns)
      ·rw [harr] at h;cases h
     rw [h7,hs1] at hlen
     obtain ⟨u,rfl⟩:=List.length_eq_one_iff.1 hlen
     have hc0:=hcell 0 u rfl
     have hagg:(isAgg t).run P w= .ok false w:=by
      simp only [isAgg,Sem.run_bind,run_underlying h2,Result.andThen_ok]
      cases d<;>first|rfl|(simp [isArr] at harr;done)|exact absurd rfl (hns _)
     simp only [Nat.add_zero] at hc0
     exact ⟨cvs,[u],[],u,h,hcv,by simp [ResRun,hvx,asAddr,loadVar,hagg,hc0],.inl ⟨hgk,rfl,rfl⟩⟩
    ·subst hd
     have hk:ti.k= .struct:=h9
     have hgk:gr.k= .agg:=by rw [hk] at hag;cases hg:gr.k<;>rw [hg] at hag<;>simp [aggOk] at hag ⊢
     rw [hlen,h7] at hrun
     exact ⟨cvs,vs,[],.agg vs.toArray,h,hcv,by simp [ResRun,hvx,asAddr,loadVar,isAgg,run_underlying h2,sizeOf,run_typeInfo w h1,hrun],.inr (.inl ⟨hgk,rfl,rfl⟩)⟩
  ·cases h
def TgE (P:Program) (w:World) (g:Gh) (mu:Mu):Tg→Bk→Prop
 | .bx id,.bx b off=>g.c id= .box b off
 | .cv cs,.vs l=>cvsR P w g mu cs l
 |_,_=>False
theorem finG_ok (hty:∀t ti,C.ty t=some ti→tiOf P t=some ti) (henv:∀t,(st.env t).R P w g st.mu (a.tmps.getD t undef)) (hm:MemR P w g st.mu) (hw:Wf w g.o):∀(outs:List Grp) (r:Nat) (rvs:List ResultVar) (io:List Tg) {ioa:List Bk} {us:List Use} {R:Type} {K:GD outs→List Use→Option R} {y:R},
  finG C st outs r rvs io us K=some y→All2 (TgE P w g st.mu) io ioa →
  ∃z new vs,K z (new++us)=some y∧All2 (ResRun P a.tmps w) rvs vs∧rvs.length+io.length=outs.length ∧
   ∀w' o',PermKeep w g.o w' o'→(∀u∈new,Served (fun to=> .o [to]) w g.o w' o' u)→OutsR P w' o' outs r z vs ioa
 | [],r,[],[],ioa,us,R,K,y,h,hio=>by
  cases ioa with
  |cons _ _=>exact hio.elim
  |nil=>exact ⟨(),[],[],h,trivial,rfl,fun _ _ _ _=>⟨rfl,rfl⟩⟩
 | [],r,_::_,_,ioa,us,R,K,y,h,hio=>by simp [finG] at h
 | [],r,[],_::_,ioa,us,R,K,y,h,hio=>by simp [finG] at h
 |gr::gs,r,rv::rvs,io,ioa,us,R,K,y,h,hio=>by
  simp only [finG] at h
  obtain ⟨cvs,vs,new0,v,h,hcv,hrun,hlink⟩:=resU_ok (a:=a) hty henv hm h
  obtain ⟨x,rest,new1,vs1,vs2,h,hspl,hrest,hlen,hV⟩:=packs_ok hm hw (fun to=> .o [to]) app0_ok gr.ts hcv h
  cases rest with
  |cons _ _=>cases h
  |nil =>
   cases vs2 with
   |cons _ _=>exact hrest.elim
   |nil =>
    rw [List.append_nil] at hspl
    subst hspl
    obtain ⟨z,new2,vss,h,hruns,hl,hO⟩:=finG_ok hty henv hm hw gs (r+1) rvs io h hio
    refine ⟨(x,z),new2++(new1++new0),v::vss,by rw [List.append_assoc,List.append_assoc];exact h,⟨hrun,hruns⟩,by simp only [List.length_cons];omega,fun w' o' hp hs=>⟨?_,hO w' o' hp fun u hu=>hs u (by simp [hu])⟩⟩
    have hV':=hV w' o' hp fun u hu=>hs u (by simp [hu])
    unfold OutR
    rcases hlink with ⟨hk,rfl,_⟩|⟨hk,rfl,_⟩|⟨hk,id,b,base,rfl,rfl,hc⟩
    ·simp only [hk];exact hV'
    ·simp only [hk];exact ⟨_,rfl,by simpa using hV'⟩
    ·simp only [hk]
     refine ⟨b,base,rfl,Vs_hs gr.ts hV' fun k u hku=>?_⟩
     obtain ⟨h3,h4⟩:=hc k u hku
     rcases Served.mv (hs (.mv id (64*r)) (by simp)) with ⟨_,e,hs⟩|⟨e,_⟩
     ·cases e;have:=hs b _ [] u h3 (by simpa using h4);simpa using this
     ·cases e
 |gr::gs,r,[],[],ioa,us,R,K,y,h,hio=>by simp [finG] at h
 |gr::gs,r,[],id::io,[],us,R,K,y,h,hio=>hio.elim
 |gr::gs,r,[],.bx _::io,.vs _::ioa,us,R,K,y,h,hio=>hio.1.elim
 |gr::gs,r,[],.cv _::io,.bx _ _::ioa,us,R,K,y,h,hio=>hio.1.elim
 |gr::gs,r,[],.cv cs::io,.vs l::ioa,us,R,K,y,h,hio=>by
  simp only [finG] at h
  have hcs:cvsR P w g st.mu cs l:=hio.1
  obtain ⟨x,rest,new1,vs1,vs2,h,hspl,hrest,hlen,hV⟩:=packs_ok hm hw (fun to=> .o [to]) app0_ok gr.ts hcs h
  cases rest with
  |cons _ _=>cases h
  |nil =>
   cases vs2 with
   |cons _ _=>exact hrest.elim
   |nil =>
    rw [List.append_nil] at hspl
    subst hspl
    obtain ⟨z,new2,vss,h,hruns,hl,hO⟩:=finG_ok hty henv hm hw gs (r+1) [] io h hio.2
    cases vss with
    |cons _ _=>exact hruns.elim
    |nil =>
     refine ⟨(x,z),new2++new1,[],by rw [List.append_assoc];exact h,trivial,by simp only [List.length_cons,List.length_nil] at hl ⊢;omega,fun w' o' hp hs=>⟨?_,hO w' o' hp fun u hu=>hs u (by simp [hu])⟩⟩
     exact hV w' o' hp fun u hu=>hs u (by simp [hu])
 |gr::gs,r,[],.bx id::io,.bx pb po::ioa,us,R,K,y,h,hio=>by
  simp only [finG] at h
  cases hb:st.mu id with
  |none=>simp [hb] at h
  |some bl =>
   have hbr:=hm id bl hb
   cases bl<;>simp only [hb] at h<;>try (cases h;done)
   case box cs =>
    obtain ⟨b',base',hc',hcs⟩:=hbr
    have e:g.c id= .box pb po:=hio.1
    rw [hc'] at e
    simp only [Conc.box.injEq] at e
    obtain ⟨vs,h1,h2⟩:=box_vs (P:=P) (mu:=st.mu) cs hcs
    obtain ⟨x,rest,new1,vs1,vs2,h,hspl,hrest,hlen,hV⟩:=packs_ok hm hw (fun to=> .o [to]) app0_ok gr.ts h1 h
    cases rest with
    |cons _ _=>cases h
    |nil =>
     cases vs2 with
     |cons _ _=>exact hrest.elim
     |nil =>
      rw [List.append_nil] at hspl
      subst hspl
      obtain ⟨z,new2,vss,h,hruns,hl,hO⟩:=finG_ok hty henv hm hw gs (r+1) [] io h hio.2
      cases vss with
      |cons _ _=>exact hruns.elim
      |nil =>
       refine ⟨(x,z),new2++(new1++ [.mv id (64*r)]),[],by rw [List.append_assoc,List.append_assoc];exact h,trivial,by simp only [List.length_cons,List.length_nil] at hl ⊢;omega,fun w' o' hp hs=>⟨?_,hO w' o' hp fun u hu=>hs u (by simp [hu])⟩⟩
       have hV':=hV w' o' hp fun u hu=>hs u (by simp [hu])
       rw [←e.1,←e.2]
       refine Vs_hs gr.ts hV' fun k u hku=>?_
       obtain ⟨h3,h4⟩:=h2 k u hku
       rcases Served.mv (hs (.mv id (64*r)) (by simp)) with ⟨_,e,hs⟩|⟨e,_⟩
       ·cases e;have:=hs b' _ [] u h3 (by simpa using h4);simpa using this
       ·cases e
variable {nt:Nat} {w0:World} {o0:Nat→Nat→Own} {c0:Nat→Conc}
def RetOk (P:Program) (fn:Func) (outs:List Grp) (ioa:List Bk) (w0:World) (o0:Nat→Nat→Own) (z:GD outs) (a:Act) (w:World):Prop :=
 a.defers= []∧∃vs o',(results fn a.tmps).run P w= .ok (retOf vs) w∧vs.length+ioa.length=outs.length∧Fr w0 o0 w o'∧Wf w o'∧OutsR P w o' outs 0 z vs ioa
def CV.S0 (P:Program) (w:World) (o:Nat→Nat→Own) (c0:Nat→Conc):CV→Value→Prop
 | .int k n,v=>v= .int k n
 | .bool b,v=>v= .bool b
 | .str s,v=>v= .string s
 | .ro es xs,v=>(Ty.sl es).H P w o .sh .p xs v
 | .fnd sh as rs h,v=>(Ty.fn sh as rs).H P w o .sh .p h v
 | .own id,v=>c0 id= .row v∧∃a n c,v= .slice a n c
 |_,_=>False
def TgS (P:Program) (w:World) (o:Nat→Nat→Own) (c0:Nat→Conc):Tg→Bk→Prop
 | .bx id,.bx b off=>c0 id= .box b off
 | .cv cs,.vs l=>All2 (CV.S0 P w o c0) cs l
 |_,_=>False
def cvIds:List CV→List Nat
 | []=> []
 | .own id::r=>id::cvIds r
 |_::r=>cvIds r
def tgIds:List Tg→List Nat
 | []=> []
 | .bx id::r=>id::tgIds r
 | .cv cs::r=>cvIds cs++tgIds r
theorem S0_R {mu:Mu} {l0:List Nat} (hp:PermKeep w0 o0 w g.o) (hw:Wf w0 o0) (hid:∀id∈l0,g.c id=c0 id∧mu id≠none):∀{cs:List CV} {l:List Value},(∀id∈cvIds cs,id∈l0)→All2 (CV.S0 P w0 o0 c0) cs l→cvsR P w g mu cs l
 | [],[],_,_=>trivial
 | [],_::_,_,h=>h.elim
 |_::_,[],_,h=>h.elim
 |c::cs,v::l,hs,h=>by
  have rest:cvsR P w g mu cs l:=S0_R hp hw hid (fun id hi=>hs id (by cases c<;>simp [cvIds,hi])) h.2
  refine ⟨?_,rest⟩
  have h1:=h.1
  cases c<;>try (exact h1.elim;done)
  case int=>exact h1
  case bool=>exact h1
  case str=>exact h1
  case ro es xs=>exact H_re hp hw (.sl es) .sh .p .p xs v rfl h1
  case fnd sh as rs k=>exact H_re hp hw (.fn sh as rs) .sh .p .p k v rfl h1
  case own id =>
   obtain ⟨h2,h3⟩:=hid id (hs id (by simp [cvIds]))
   exact ⟨h3,h2.trans h1.1,h1.2⟩
theorem TgS_E {mu:Mu} {l0:List Nat} (hp:PermKeep w0 o0 w g.o) (hw:Wf w0 o0) (hid:∀id∈l0,g.c id=c0 id∧mu id≠none):∀{io:List Tg} {ioa:List Bk},(∀id∈tgIds io,id∈l0)→All2 (TgS P w0 o0 c0) io ioa→All2 (TgE P w g mu) io ioa
 | [],[],_,_=>trivial
 | [],_::_,_,h=>h.elim
 |_::_,[],_,h=>h.elim
 | .bx id::io,.bx b off::ioa,hs,h=>⟨(hid id (hs id (by simp [tgIds]))).1.trans h.1,TgS_E hp hw hid (fun id hi=>hs id (by simp [tgIds,hi])) h.2⟩
 | .cv cs::io,.vs l::ioa,hs,h=>⟨S0_R hp hw hid (fun id hi=>hs id (by simp [tgIds,hi])) h.1,TgS_E hp hw hid (fun id hi=>hs id (by simp [tgIds,hi])) h.2⟩
 | .bx _::_,.vs _::_,_,h=>h.1.elim
 | .cv _::_,.bx _ _::_,_,h=>h.1.elim
theorem fin_ok (hty:∀t ti,C.ty t=some ti→tiOf P t=some ti) (hw0:Wf w0 o0) {fn:Func} {ins outs:List Grp} {x:GD ins} {ioa:List Bk} (hio:All2 (TgS P w0 o0 c0) (ioNums ins 0 x) ioa) {R:Type} (st:St) (K:GD outs→Option R) (y:R) (a:Act) (w:World) (g:Gh)
  (r:RelS P nt w0 o0 (tgIds (ioNums ins 0 x)) c0 st.nx st a w g) (h:finU C fn ins outs x st K=some y):∃z,K z=some y∧RetOk P fn outs ioa w0 o0 z a w:=by
 have hio':All2 (TgE P w g st.mu) (ioNums ins 0 x) ioa:=TgS_E r.rel.fr.perm hw0 (fun id hid=>r.io id hid) (fun _ h=>h) hio
 unfold finU at h
 obtain ⟨z,new,vs,h,hruns,hl,hO⟩:=finG_ok (a:=a) hty r.rel.env r.rel.mem r.rel.wf outs 0 _ _ h hio'
 rw [List.append_nil] at h
 cases hu:usesOk new with
 |false=>rw [hu] at h;cases h
 |true =>
  rw [hu] at h
  have hf:∀id s,tellF 0 new id s≠ .o []:=by
   intro id s
   unfold tellF
   split
   ·simp
   ·simp
   ·split<;>simp
  refine ⟨z,h,r.df,vs,(tellG 0 new [] g).o,results_ok hruns,?_,r.rel.fr.trans r.rel.wf ?_,⟨fun b k π h=>?_,fun b k=>re_ne hf⟩,hO w _ tell_perm (tell_served hu)⟩
  ·rw [←hl,←hruns.length,hio'.length]
  ·refine ⟨rfl,rfl,rfl,Nat.le_refl _,fun _ _ _=>rfl,fun b k v hv hn=>⟨hv,?_⟩,fun b k v hv=>⟨v,hv⟩,fun _ _ _=>rfl⟩
   show re (tellF 0 new) (g.o b k)=_
   cases hq:g.o b k with
   |x=>rfl
   |p=>rfl
   |o π=>exact absurd hq (hn π)
  ·obtain ⟨id,s,hq,_⟩:=re_o h
   exact r.rel.wf.cell b k _ hq
end
end Go.Tm
/- The pure machine, 46: a function's beginning; what the pure machine gives is what the function returns. -/
namespace Go.Tm
open Go
section
variable {P:Program} {C:Ctx} {w:World} {o:Nat→Nat→Own}
def ArgsT (P:Program) (w:World) (o:Nat→Nat→Own) (tv:Nat→List Value) (ta:Nat→Nat×Nat):(gs:List Grp)→(m:Nat)→GD gs→List Value→Prop
 | [],_,_,vs=>vs= []
 |g::gs,m,x,vs=>∃v r,vs=v::r∧(match g.k with
   | .c=>g.ts.Vs P w o g.ms (fun j=> .o [j]) (64*m+1) x.1 (tv m)∧tv m= [v]
   | .agg=>g.ts.Vs P w o g.ms (fun j=> .o [j]) (64*m+1) x.1 (tv m)∧v= .agg (tv m).toArray
   | .rp=>∃b base,v= .pointer (some ⟨b,base,none⟩)∧g.ts.Hs P w o [] .p (fun _=> .p) 0 x.1 b base
   | .io=>g.ts.Vs P w o g.ms (fun j=> .o [j]) (64*m+1) x.1 (tv m)∧v= .pointer (some ⟨(ta m).1,(ta m).2,none⟩)∧∀k u,(tv m)[k]?=some u→w.cell? ⟨(ta m).1,(ta m).2+k,none⟩=some u∧o (ta m).1 ((ta m).2+k)= .o [64*m]
   | .np=>False
   | .wc=>g.ts.Vs P w o g.ms (fun j=> .o [j]) (64*m+1) x.1 (tv m)∧tv m= [v]
   | .wa=>g.ts.Vs P w o g.ms (fun j=> .o [j]) (64*m+1) x.1 (tv m)∧v= .agg (tv m).toArray)∧ArgsT P w o tv ta gs (m+1) x.2 r
theorem ArgsT.congr {tv tv':Nat→List Value} {ta ta':Nat→Nat×Nat}:∀(gs:List Grp) (m:Nat) {x:GD gs} {vs:List Value},(∀i,m≤i→tv' i=tv i∧ta' i=ta i)→ArgsT P w o tv ta gs m x vs→ArgsT P w o tv' ta' gs m x vs
 | [],_,_,_,_,h=>h
 |g::gs,m,x,vs,hc,h=>by
  obtain ⟨v,r,rfl,h1,h2⟩:=h
  have h0:=hc m (Nat.le_refl _)
  refine ⟨v,r,rfl,?_,ArgsT.congr gs (m+1) (fun i hi=>hc i (by omega)) h2⟩
  rw [h0.1,h0.2];exact h1
theorem args_tab:∀(gs:List Grp) (m:Nat) {x:GD gs} {vs:List Value},ArgsR P w o gs m x vs→∃tv ta,ArgsT P w o tv ta gs m x vs
 | [],_,_,_,h=>⟨fun _=> [],fun _=>(0,0),h⟩
 |g::gs,m,x,vs,h=>by
  obtain ⟨v,r,rfl,h1,h2⟩:=h
  obtain ⟨tv,ta,ht⟩:=args_tab gs (m+1) h2
  have rest:∀(l:List Value) (p:Nat×Nat),ArgsT P w o (fun i=>if i=m then l else tv i) (fun i=>if i=m then p else ta i) gs (m+1) x.2 r :=
   fun l p=>ArgsT.congr gs (m+1) (fun i hi=>⟨by simp;omega,by simp;omega⟩) ht
  unfold ArgR at h1
  cases hk:g.k<;>simp only [hk] at h1
  case c=>exact ⟨_,_,v,r,rfl,by simp only [hk];exact ⟨by simpa using h1,by simp⟩,rest [v] (0,0)⟩
  case agg =>
   obtain ⟨a,rfl,h1⟩:=h1
   exact ⟨_,_,_,r,rfl,by simp only [hk];exact ⟨by simpa using h1,by simp⟩,rest a.toList (0,0)⟩
  case wc=>exact ⟨_,_,v,r,rfl,by simp only [hk];exact ⟨by simpa using h1,by simp⟩,rest [v] (0,0)⟩
  case wa =>
   obtain ⟨a,rfl,h1⟩:=h1
   exact ⟨_,_,_,r,rfl,by simp only [hk];exact ⟨by simpa using h1,by simp⟩,rest a.toList (0,0)⟩
  case rp=>exact ⟨_,_,v,r,rfl,by simp only [hk];exact h1,rest [] (0,0)⟩
  case io =>
   obtain ⟨b,base,rfl,h1⟩:=h1
   obtain ⟨vl,h3,h4⟩:=Hs_vs _ h1
   exact ⟨_,_,_,r,rfl,by simp only [hk];exact ⟨by simpa using h3,by simp,by simpa using h4⟩,rest vl (b,base)⟩
def startO (mu:Mu) (o:Nat→Nat→Own):Nat→Nat→Own:=fun b k =>
 match o b k with
 | .o (id::s)=>match mu id with
  |some _=> .o (id::s)
  |none=> .x
 |q=>q
theorem startO_ne {mu:Mu} (hw:Wf w o) {b k:Nat}:startO mu o b k≠ .o []:=by
 cases e:o b k with
 |x=>simp [startO,e]
 |p=>simp [startO,e]
 |o π=>cases π with
  |nil=>exact absurd e (hw.ne b k)
  |cons id s=>cases hm:mu id<;>simp [startO,e,hm]
theorem startO_rl {mu:Mu} {id:Nat} (h:mu id≠none):Rl w o w (startO mu o) (.o [id]) (.o [id]):=by
 refine .inl ⟨[id],rfl,fun b k s v hv ho=>⟨hv,?_⟩⟩
 simp only [List.cons_append,List.nil_append] at ho ⊢
 cases hm:mu id with
 |none=>exact absurd hm h
 |some b=>simp [startO,ho,hm]
theorem startO_perm {mu:Mu}:PermKeep w o w (startO mu o):=fun b k v hv ho=>⟨hv,by simp [startO,ho]⟩
theorem startMu_ids:∀(gs:List Grp) (m:Nat) {x:GD gs} {id:Nat} {b:Blk},(∀g∈gs,g.ts.len≤62)→(id,b)∈startMu gs m x→64*m≤id∧id<64*(m+gs.length)
 | [],m,x,id,b,_,h=>by cases h
 |g::gs,m,x,id,b,hl,h=>by
  have hg:=hl g (by simp)
  simp only [startMu] at h
  rcases List.mem_append.1 h with h|h
  ·have key:(id,b)∈outRows g.ts g.ms (64*m+1) x.1→64*m≤id∧id<64*(m+(g::gs).length):=fun h=>by
    have:=outRows_ids _ h
    simp only [List.length_cons];omega
   unfold startMem at h
   split at h
   ·cases h
   ·rcases List.mem_cons.1 h with h|h
    ·cases h;simp only [List.length_cons];omega
    ·exact key h
   ·exact key h
  ·have:=startMu_ids gs (m+1) (fun g hg=>hl g (by simp [hg])) h
   simp only [List.length_cons];omega
theorem outCVs_S0 {c0:Nat→Conc}:∀(ts:Tys) {ms:List Md} {k:Nat} {x:ts.D} {vs:List Value},mdOk ts ms=true→ts.Vs P w o ms (fun j=> .o [j]) k x vs→(∀i,i<ts.len→c0 (k+i)= .row (vs.getD i undef))→All2 (CV.S0 P w o c0) (outCVs ts ms k x) vs
 | .nil,_,_,_,_,_,h,_=>by cases (h:_= []);trivial
 | .cons t ts,ms,k,x,vs,hmo,h,hc=>by
  obtain ⟨v,r,rfl,h1,h2⟩:=h
  simp only [mdOk,Bool.and_eq_true] at hmo
  simp only [outCVs]
  refine ⟨?_,outCVs_S0 ts hmo.2 h2 fun i hi=>?_⟩
  ·have h0:=hc 0 (by simp [Tys.len])
   simp only [Nat.add_zero,List.getD_cons_zero] at h0
   cases hmd:mdHd ms with
   |sh =>
    rw [hmd] at h1
    cases t with
    |int _=>exact h1
    |bool=>exact h1
    |str=>exact h1
    |sl es=>exact H_q _ h1
    |fn _ _ _=>exact H_q _ h1
   |own m =>
    rw [hmd] at h1
    have h3:=hmo.1
    simp only [hmd] at h3
    cases t with
    |sl es =>
     obtain ⟨a,c,e,_⟩:=H_own.1 h1
     exact ⟨h0,a,_,c,e⟩
    |int _=>simp at h3
    |bool=>simp at h3
    |str=>simp at h3
    |fn _ _ _=>simp at h3
  ·have:=hc (i+1) (by simp [Tys.len,hi])
   rw [show k+(i+1)=k+1+i by omega] at this
   simpa using this
theorem start_rel {mu:Mu} {g:Gh} {tv:Nat→List Value} {ta:Nat→Nat×Nat} (hw:Wf w o) (ho:g.o=startO mu o):∀(gs:List Grp) (m:Nat) {x:GD gs} {vs:List Value},ArgsT P w o tv ta gs m x vs →
  (∀gr∈gs,gr.ts.len≤62∧mdOk gr.ts gr.ms=true)→(∀id b,(id,b)∈startMu gs m x→mu id≠none) →
  (∀m' i,m≤m'→m'<m+gs.length→i<62→g.c (64*m'+1+i)= .row ((tv m').getD i undef))→(∀m',m≤m'→m'<m+gs.length→g.c (64*m')= .box (ta m').1 (ta m').2) →
  (∀id b,(id,b)∈startMu gs m x→b.R P w g mu id)∧(∀k v,vs[k]?=some v→(startEnv gs m x (m+k)).R P w g mu v)∧(∀k,vs.length≤k→startEnv gs m x (m+k)= .un)∧vs.length=gs.length ∧
   All2 (TgS P w o g.c) (ioNums gs m x) (ioAddrs gs vs)
 | [],m,x,vs,h,_,_,_,_=>by
  cases (h:vs= [])
  exact ⟨by simp [startMu],by simp,fun _ _=>rfl,rfl,trivial⟩
 |gr::gs,m,x,vs,h,hgs,hid,hcr,hcb=>by
  obtain ⟨v,r,rfl,h1,h2⟩:=h
  obtain ⟨hlen,hmo⟩:=hgs gr (by simp)
  have hcb0:=hcb m (Nat.le_refl _) (by simp)
  obtain ⟨k1,k2,k3,k4,k5⟩:=start_rel hw ho gs (m+1) h2 (fun g hg=>hgs g (by simp [hg])) (fun id b hb=>hid id b (by simp only [startMu];exact List.mem_append_right _ hb))
   (fun m' i h1 h2=>hcr m' i (by omega) (by simp only [List.length_cons];omega)) (fun m' h1 h2=>hcb m' (by omega) (by simp only [List.length_cons];omega))
  have grp:gr.ts.Vs P w o gr.ms (fun j=> .o [j]) (64*m+1) x.1 (tv m)→(∀id b,(id,b)∈outRows gr.ts gr.ms (64*m+1) x.1→mu id≠none) →
    cvsR P w g mu (outCVs gr.ts gr.ms (64*m+1) x.1) (tv m)∧∀id b,(id,b)∈outRows gr.ts gr.ms (64*m+1) x.1→b.R P w g mu id:=by
   intro hV hin
   have hV':gr.ts.Vs P w g.o gr.ms (fun j=> .o [0+j]) (64*m+1) x.1 (tv m):=by
    rw [ho]
    refine Vs_out (cl:=false) hw (fun _=>startO_perm) (pf:=fun j=> [j]) (pf':=fun j=> [0+j]) gr.ts (by simp) (fun i hi hm=>?_) hV
    obtain ⟨md,hm⟩:=hm
    obtain ⟨b,hb⟩:=outRows_mem gr.ts (k:=64*m+1) (x:=x.1) hmo hi hm
    rw [Nat.zero_add]
    exact startO_rl (hin _ _ hb)
   have:=outRows_R (mu':=mu) (idb:=0) gr.ts hmo hV' (by rw [Nat.zero_add];exact hin) (fun i hi=>by
    rw [Nat.zero_add];exact hcr m i (Nat.le_refl _) (by simp) (by omega))
   rw [Nat.zero_add] at this
   exact this
  have env:∀(tv0:TV),startTV m gr x.1=tv0→tv0.R P w g mu v→(∀k u,(v::r)[k]?=some u→(startEnv (gr::gs) m x (m+k)).R P w g mu u):=by
   intro tv0 e hr k u hk
   simp only [startEnv]
   cases k with
   |zero =>
    simp at hk;subst hk
    show TV.R P w g mu (upd _ m _ m) v
    rw [upd_same,e];exact hr
   |succ k =>
    rw [upd_ne _ _ (by omega),show m+(k+1)=m+1+k by omega]
    exact k2 k u (by simpa using hk)
  have env3:∀k,(v::r).length≤k→startEnv (gr::gs) m x (m+k)= .un:=by
   intro k hk
   simp only [startEnv]
   simp only [List.length_cons] at hk
   rw [upd_ne _ _ (by omega),show m+k=m+1+(k - 1) by omega]
   exact k3 _ (by omega)
  have hsub:∀id b,(id,b)∈startMem m gr x.1→mu id≠none:=fun id b hb=>hid id b (by simp only [startMu];exact List.mem_append_left _ hb)
  have mem:(∀id b,(id,b)∈startMem m gr x.1→b.R P w g mu id)→∀id b,(id,b)∈startMu (gr::gs) m x→b.R P w g mu id:=fun h id b hb=>by
   simp only [startMu] at hb
   rcases List.mem_append.1 hb with hb|hb
   ·exact h id b hb
   ·exact k1 id b hb
  cases hk:gr.k with
  |c =>
   simp only [hk] at h1
   have hsm:startMem m gr x.1=outRows gr.ts gr.ms (64*m+1) x.1:=by unfold startMem;rw [hk]
   obtain ⟨g1,g2⟩:=grp h1.1 (fun id b hb=>hsub id b (by rw [hsm];exact hb))
   rw [h1.2] at g1
   refine ⟨mem (by rw [hsm];exact g2),?_,env3,by simp [k4],by simp only [ioNums,ioAddrs,hk];exact k5⟩
   match hoc:outCVs gr.ts gr.ms (64*m+1) x.1,g1 with
   | [cv],g1=>exact env (.c cv) (by unfold startTV;rw [hk,hoc]) g1.1
   | [],g1=>exact g1.elim
   |_::_::_,g1=>exact g1.2.elim
  |agg =>
   simp only [hk] at h1
   have hsm:startMem m gr x.1=outRows gr.ts gr.ms (64*m+1) x.1:=by unfold startMem;rw [hk]
   obtain ⟨g1,g2⟩:=grp h1.1 (fun id b hb=>hsub id b (by rw [hsm];exact hb))
   exact ⟨mem (by rw [hsm];exact g2),env (.agg _) (by unfold startTV;rw [hk]) ⟨_,h1.2,by simpa using g1⟩,env3,by simp [k4],by simp only [ioNums,ioAddrs,hk];exact k5⟩
  |rp =>
   simp only [hk] at h1
   obtain ⟨b,base,rfl,h1⟩:=h1
   have hsm:startMem m gr x.1= []:=by unfold startMem;rw [hk]
   refine ⟨mem (by rw [hsm];simp),env (.c (.rptr gr.ts x.1 0)) (by unfold startTV;rw [hk]) ⟨b,base,rfl,?_⟩,env3,by simp [k4],by simp only [ioNums,ioAddrs,hk];exact k5⟩
   rw [ho]
   exact Hs_re startO_perm hw gr.ts [] .p .p (fun _=> .p) (fun _=> .p) 0 x.1 b base rfl (fun _=>rfl) h1
  |io =>
   simp only [hk] at h1
   obtain ⟨hV,rfl,hcell⟩:=h1
   have hsm:startMem m gr x.1=(64*m,.box (outCVs gr.ts gr.ms (64*m+1) x.1))::outRows gr.ts gr.ms (64*m+1) x.1:=by unfold startMem;rw [hk]
   obtain ⟨g1,g2⟩:=grp hV (fun id b hb=>hsub id b (by rw [hsm];simp [hb]))
   have hm0:=hsub (64*m) _ (by rw [hsm];exact List.mem_cons_self)
   refine ⟨mem ?_,env (.c (.ptr (64*m) 0)) (by unfold startTV;rw [hk]) ⟨hm0,_,_,hcb0,rfl⟩,env3,by simp [k4],by simp only [ioNums,ioAddrs,hk];exact ⟨hcb0,k5⟩⟩
   rw [hsm]
   intro id b hb
   rcases List.mem_cons.1 hb with hb|hb
   ·cases hb
    refine ⟨_,_,hcb0,fun j cv hj=>?_⟩
    obtain ⟨u,hu,hcv⟩:=All2.get j cv g1 hj
    obtain ⟨h5,h6⟩:=hcell j u hu
    refine ⟨u,h5,?_,hcv⟩
    rw [ho]
    rcases startO_rl (w:=w) (o:=o) hm0 with ⟨_,e,h⟩|⟨e,_⟩
    ·cases e;have:=h _ _ [] u h5 (by simpa using h6);simpa using this.2
    ·cases e
   ·exact g2 id b hb
  |np=>simp only [hk] at h1
  |wc =>
   simp only [hk] at h1
   have hsm:startMem m gr x.1=outRows gr.ts gr.ms (64*m+1) x.1:=by unfold startMem;rw [hk]
   obtain ⟨g1,g2⟩:=grp h1.1 (fun id b hb=>hsub id b (by rw [hsm];exact hb))
   have hS:=outCVs_S0 (c0:=g.c) gr.ts hmo h1.1 (fun i hi=>hcr m i (Nat.le_refl _) (by simp) (by omega))
   rw [h1.2] at g1 hS
   refine ⟨mem (by rw [hsm];exact g2),?_,env3,by simp [k4],by simp only [ioNums,ioAddrs,hk];exact ⟨hS,k5⟩⟩
   match hoc:outCVs gr.ts gr.ms (64*m+1) x.1,g1 with
   | [cv],g1=>exact env (.c cv) (by unfold startTV;rw [hk,hoc]) g1.1
   | [],g1=>exact g1.elim
   |_::_::_,g1=>exact g1.2.elim
  |wa =>
   simp only [hk] at h1
   have hsm:startMem m gr x.1=outRows gr.ts gr.ms (64*m+1) x.1:=by unfold startMem;rw [hk]
   obtain ⟨g1,g2⟩:=grp h1.1 (fun id b hb=>hsub id b (by rw [hsm];exact hb))
   have hS:=outCVs_S0 (c0:=g.c) gr.ts hmo h1.1 (fun i hi=>hcr m i (Nat.le_refl _) (by simp) (by omega))
   obtain ⟨hV,rfl⟩:=h1
   exact ⟨mem (by rw [hsm];exact g2),env (.agg _) (by unfold startTV;rw [hk]) ⟨_,rfl,by simpa using g1⟩,env3,by simp [k4],by simp only [ioNums,ioAddrs,hk];exact ⟨(show All2 (CV.S0 P w o g.c) _ (tv m).toArray.toList by simpa using hS),k5⟩⟩
theorem good_of {f:Nat} {fn:Func} {con:Con} (hm:P.follows .mixedOrders=true) (hty:∀t ti,C.ty t=some ti→tiOf P t=some ti) (hC:CtxOk P C) (hf:P.funcs[f]?=some fn)
  (hrun:∀x,runF C fn con.ins con.outs x=con.f x):Good P f con:=by
 intro w o args x y hy hargs hw
 have hx:=(hrun x).trans hy
 unfold runF at hx
 cases hb:fn.body with
 |none=>rw [hb] at hx;cases hx
 |some c =>
  rw [hb] at hx
  dsimp only at hx
  cases hg:(gsOk con.ins&&Nat.ble con.ins.length fn.ntmps&&Nat.beq fn.ntmps C.nt) with
  |false=>rw [hg] at hx;cases hx
  |true =>
   rw [hg] at hx
   simp only [cond_true] at hx
   simp only [Bool.and_eq_true] at hg
   obtain ⟨⟨hgs,hle⟩,hnt⟩:=hg
   have hle:=Nat.le_of_ble_eq_true hle
   have hnt:=Nat.eq_of_beq_eq_true hnt
   obtain ⟨hgl,hgg⟩:=gsOk_ok hgs
   obtain ⟨tv,ta,ht⟩:=args_tab con.ins 0 hargs
   let mu:Mu:=updL mu0 (startMu con.ins 0 x)
   let g:Gh:=⟨startO mu o,fun id=>if id % 64=0 then .box (ta (id / 64)).1 (ta (id / 64)).2 else .row ((tv (id / 64)).getD (id % 64 - 1) undef)⟩
   obtain ⟨s1,s2,s3,s4,s5⟩:=start_rel (P:=P) (mu:=mu) (g:=g) hw rfl con.ins 0 ht (fun gr hgr=>⟨(hgg gr hgr).1,(hgg gr hgr).2⟩) (fun id b hb=>updL_mem hb)
    (fun m' i _ h2 h3=>by
     show (if (64*m'+1+i) % 64=0 then _ else _)=_
     rw [if_neg (by omega),show (64*m'+1+i) / 64=m' by omega,show (64*m'+1+i) % 64 - 1=i by omega])
    (fun m' _ _=>by
     show (if (64*m') % 64=0 then _ else _)=_
     rw [if_pos (by omega),show 64*m' / 64=m' by omega])
   have hsz:args.toArray.size=args.length:=by simp
   have r0:RelS P C.nt w o (tgIds (ioNums con.ins 0 x)) g.c (startSt con.ins x).nx (startSt con.ins x) {tmps:=args.toArray++Array.replicate (fn.ntmps - args.toArray.size) undef,defers:= []} w g:=by
    refine ⟨⟨?_,fun t=>?_,fun id b hb=>?_,⟨fun b k π h=>?_,fun b k=>startO_ne hw⟩,fun b k id s h=>?_,?_⟩,rfl,fun id hid=>?_,fun id hid=>⟨rfl,?_⟩⟩
    ·rw [Array.size_append,Array.size_replicate,hsz]
     omega
    ·have key:(startEnv con.ins 0 x (0+t)).R P w g mu ((args.toArray++Array.replicate (fn.ntmps - args.toArray.size) undef).getD t undef):=by
      rcases Nat.lt_or_ge t args.length with h|h
      ·refine s2 t _ ?_
       rw [Array.getD_eq_getD_getElem?,Array.getElem?_append_left (by simpa using h)]
       simp [h]
      ·rw [s3 t h];trivial
     rw [Nat.zero_add] at key
     exact key
    ·rcases updL_cases hb with hb|⟨_,hb⟩
     ·exact s1 id b hb
     ·cases hb
    ·have h:startO mu o b k= .o π:=h
     unfold startO at h
     split at h
     ·rename_i id s e
      split at h
      ·cases h;exact hw.cell b k _ e
      ·cases h
     ·exact hw.cell b k _ h
    ·have h:startO mu o b k= .o (id::s):=h
     show mu id≠none
     cases e:o b k with
     |x=>simp [startO,e] at h
     |p=>simp [startO,e] at h
     |o π=>cases π with
      |nil=>simp [startO,e] at h
      |cons id' s' =>
       cases hm':mu id' with
       |none=>simp [startO,e,hm'] at h
       |some bl =>
        simp only [startO,e,hm',Own.o.injEq,List.cons.injEq] at h
        rw [←h.1,hm'];simp
    ·refine ⟨rfl,rfl,rfl,Nat.le_refl _,fun _ _ _=>rfl,fun b k v hv hn=>⟨hv,?_⟩,fun b k v hv=>⟨v,hv⟩,fun _ _ _=>rfl⟩
     show startO mu o b k=o b k
     unfold startO
     split
     ·rename_i id s e;exact absurd e (hn _)
     ·rfl
    ·show mu id=none
     have:mu id=mu0 id:=updL_none fun b hb=>by
      have h1:1*2048≤id:=hid
      have:=startMu_ids con.ins 0 (fun gr hgr=>(hgg gr hgr).1) hb
      omega
     rw [this];rfl
    ·have hcv:∀(ts:Tys) (ms:List Md) (k:Nat) (y:ts.D) (id:Nat),mdOk ts ms=true→id∈cvIds (outCVs ts ms k y)→∃b,(id,b)∈outRows ts ms k y:=by
      intro ts
      induction ts using Tys.rec (motive_1:=fun _=>True) with
      |nil=>intro ms k y id _ h;cases h
      |cons t ts _ ih =>
       intro ms k y id hmo h
       simp only [mdOk,Bool.and_eq_true] at hmo
       have tail:id∈cvIds (outCVs ts (mdTl ms) (k+1) y.2)→∃b,(id,b)∈outRows (.cons t ts) ms k y:=fun h=>by
        obtain ⟨b,hb⟩:=ih _ _ _ _ hmo.2 h
        exact ⟨b,by simp only [outRows];exact List.mem_append_right _ hb⟩
       simp only [outCVs] at h
       cases hmd:mdHd ms with
       |sh =>
        rw [hmd] at h
        refine tail ?_
        cases t<;>exact h
       |own m =>
        rw [hmd] at h
        simp only [cvIds] at h
        rcases List.mem_cons.1 h with h|h
        ·subst h
         have h3:=hmo.1
         simp only [hmd] at h3
         cases t with
         |sl es=>exact ⟨_,by simp only [outRows,hmd,outRow];exact List.mem_append_left _ List.mem_cons_self⟩
         |int _=>simp at h3
         |bool=>simp at h3
         |str=>simp at h3
         |fn _ _ _=>simp at h3
        ·exact tail h
      |_=>trivial
     have hio:∀(gs:List Grp) (m:Nat) (x:GD gs) (id:Nat),(∀g∈gs,mdOk g.ts g.ms=true)→id∈tgIds (ioNums gs m x)→∃b,(id,b)∈startMu gs m x:=by
      intro gs
      induction gs with
      |nil=>intro m x id _ h;cases h
      |cons gr gs ih =>
       intro m x id hmo h
       have tail:id∈tgIds (ioNums gs (m+1) x.2)→∃b,(id,b)∈startMu (gr::gs) m x:=fun h=>by
        obtain ⟨b,hb⟩:=ih (m+1) x.2 id (fun g hg=>hmo g (by simp [hg])) h
        exact ⟨b,by simp only [startMu];exact List.mem_append_right _ hb⟩
       have here:gr.k≠ .rp→gr.k≠ .io→id∈cvIds (outCVs gr.ts gr.ms (64*m+1) x.1)→∃b,(id,b)∈startMu (gr::gs) m x:=fun h1 h2 h=>by
        obtain ⟨b,hb⟩:=hcv _ _ _ _ _ (hmo gr (by simp)) h
        refine ⟨b,?_⟩
        simp only [startMu]
        refine List.mem_append_left _ ?_
        unfold startMem
        split
        ·exact absurd (by assumption) h1
        ·exact absurd (by assumption) h2
        ·exact hb
       simp only [ioNums] at h
       split at h
       ·rename_i hk
        simp only [tgIds] at h
        rcases List.mem_cons.1 h with h|h
        ·subst h;exact ⟨_,by simp only [startMu,startMem,hk];exact List.mem_append_left _ List.mem_cons_self⟩
        ·exact tail h
       ·rename_i hk
        simp only [tgIds] at h
        rcases List.mem_append.1 h with h|h
        ·exact here (by rw [hk];simp) (by rw [hk];simp) h
        ·exact tail h
       ·rename_i hk
        simp only [tgIds] at h
        rcases List.mem_append.1 h with h|h
        ·exact here (by rw [hk];simp) (by rw [hk];simp) h
        ·exact tail h
       ·exact tail h
     obtain ⟨b,hb⟩:=hio con.ins 0 x id (fun g hg=>(hgg g hg).2) hid
     exact updL_mem hb
   have hex:=exec_ok (Y:=GD con.outs) (RetOk:=RetOk P fn con.outs (ioAddrs con.ins args) w o) (w0:=w) (o0:=o) (io:=tgIds (ioNums con.ins 0 x)) (c0:=g.c) hm hty hC rfl
    (fun st K y a w' g' r h=>fin_ok hty hw s5 st K y a w' g' r h) c id (startSt con.ins x) _ _ y _ w g hx r0
   refine calls_of_wp hf hb (Code.wp_mono ?_ hex)
   have done:∀(a':Act) (w':World),RetOk P fn con.outs (ioAddrs con.ins args) w o y a' w'→a'.defers= []∧∃v,(results fn a'.tmps).run P w'= .ok v w'∧∃vs o',Ending.returned v= .returned (retOf vs)∧vs.length=numRes con∧Fr w o w' o'∧Wf w' o'∧OutsR P w' o' con.outs 0 y vs (ioAddrs con.ins args):=by
    rintro a' w' ⟨hd,vs,o',h1,h2,h3,h4,h5⟩
    refine ⟨hd,_,h1,vs,o',rfl,?_,h3,h4,h5⟩
    have hl:(ioAddrs con.ins args).length=(con.ins.filter fun g=>isIo g.k).length:=by
     rw [←s5.length]
     have key:∀(gs:List Grp) (m:Nat) (x:GD gs),(ioNums gs m x).length=(gs.filter fun g=>isIo g.k).length:=by
      intro gs
      induction gs with
      |nil=>intro m x;rfl
      |cons gr gs ih =>
       intro m x
       simp only [ioNums]
       cases hk:gr.k<;>simp [hk,isIo,ih]
     exact key _ _ _
    have e:numRes con=con.outs.length - (ioAddrs con.ins args).length:=congrArg (con.outs.length - ·) hl.symm
    omega
   rintro e a' w' hq
   cases e with
   |normal =>
    obtain ⟨st',g',h1,r1,_⟩:=hq
    obtain ⟨z,hz,hr⟩:=fin_ok hty hw s5 st' some y a' w' g' r1 h1
    cases hz
    exact done a' w' hr
   |ret =>
    obtain ⟨z,hz,hr⟩:=hq
    cases (hz:z=y)
    exact done a' w' hr
   |exit _=>obtain ⟨_,_,h,_⟩:=hq;cases h
   |goto _=>exact hq.elim
   |panic _=>exact hq.elim
   |outgrown=>exact hq.elim
end
theorem good_none {P:Program} {f:Nat} {ins outs:List Grp}:Good P f ⟨ins,outs,fun _=>none⟩:=fun w o args x y h=>by cases h
theorem good_rec {P:Program} {f:Nat} {ins outs:List Grp} {R:Nat→GD ins→Option (GD outs)} (h:∀k,Good P f ⟨ins,outs,R k⟩):Good P f ⟨ins,outs,recF R⟩:=by
 intro w o args x y hy
 obtain ⟨k,hk⟩:=recF_some hy
 exact h k w o args x y hk
end Go.Tm
/- The pure machine, 47: arguments as they are read; contexts. -/
namespace Go.Tm
open Go
def Tys.app:Tys→Tys→Tys
 | .nil,b=>b
 | .cons t ts,b=> .cons t (ts.app b)
def joinD:(a b:Tys)→a.D→b.D→(a.app b).D
 | .nil,_,_,y=>y
 | .cons _ ts,b,x,y=>(x.1,joinD ts b x.2 y)
def fieldsP (P:Program) (r:TypeId→Option Tys):List Field→Nat→Option Tys
 | [],_=>some .nil
 |f::fs,off=>match r f.type with
  |none=>none
  |some a=>match fieldsP P r fs (off+a.len) with
   |none=>none
   |some b=>bif Nat.beq f.offset off&&Nat.beq (P.cellsOf f.type) a.len then some (a.app b) else none
def leavesP (P:Program):Nat→TypeId→Option Tys
 |0,_=>none
 |n+1,t=>match P.underlying t with
  |some .bool=>some (.cons .bool .nil)
  |some (.int k)=>some (.cons (.int k) .nil)
  |some .string=>some (.cons .str .nil)
  |some (.slice e)=>match leavesP P n e with
   |some es=>bif Nat.beq (P.cellsOf e) es.len&&Nat.blt 0 es.len then some (.cons (.sl es) .nil) else none
   |none=>none
  |some (.struct fs)=>match fieldsP P (leavesP P n) fs.toList 0 with
   |some ts=>bif Nat.beq (P.cellsOf t) ts.len then some ts else none
   |none=>none
  |_=>none
mutual
def Ty.Ok:(t:Ty)→t.D→Prop
 | .int k,n=>(Lit.int k n).wf=true
 | .bool,_=>True
 | .str,s=>s.size≤maxLen
 | .sl es,xs=>List.length (α:=es.D) xs≤maxLen∧∀i x,getN (α:=es.D) xs i=some x→es.Ok x
 | .fn _ _ _,_=>False
def Tys.Ok:(ts:Tys)→ts.D→Prop
 | .nil,_=>True
 | .cons t ts,x=>t.Ok x.1∧ts.Ok x.2
end
theorem len_app:∀(a b:Tys),(a.app b).len=a.len+b.len
 | .nil,b=>by simp [Tys.app,Tys.len]
 | .cons _ ts,b=>by simp [Tys.app,Tys.len,len_app ts b];omega
section
variable {P:Program} {w:World}
def allP:Nat→Nat→Own:=fun _ _=> .p
theorem Vs_app {qf:Nat→Own}:∀(a b:Tys) {x:a.D} {y:b.D} {vs us:List Value},a.Vs P w allP [] (fun _=> .p) 0 x vs→b.Vs P w allP [] (fun _=> .p) 0 y us→(a.app b).Vs P w allP [] (fun _=> .p) 0 (joinD a b x y) (vs++us)
 | .nil,b,x,y,vs,us,h,k=>by cases (h:vs= []);exact k
 | .cons t ts,b,x,y,vs,us,h,k=>by
  obtain ⟨v,r,rfl,h1,h2⟩:=h
  have h2':ts.Vs P w allP [] (fun _=> .p) 0 x.2 r:=Vs_q ts h2
  have:=Vs_app (qf:=qf) ts b h2' k
  exact ⟨v,r++us,rfl,h1,Vs_q _ this⟩
theorem Ok_app:∀(a b:Tys) {x:a.D} {y:b.D},a.Ok x→b.Ok y→(a.app b).Ok (joinD a b x y)
 | .nil,_,_,_,_,k=>k
 | .cons _ ts,b,_,_,h,k=>⟨h.1,Ok_app ts b h.2 k⟩
theorem list_choice {α:Type} {p:Nat→α→Prop}:∀(n:Nat),(∀i,i<n→∃x,p i x)→∃xs:List α,xs.length=n∧∀i x,xs[i]?=some x→p i x
 |0,_=>⟨[],rfl,by simp⟩
 |n+1,h=>by
  obtain ⟨xs,h1,h2⟩:=list_choice n fun i hi=>h i (by omega)
  obtain ⟨x,hx⟩:=h n (by omega)
  refine ⟨xs++ [x],by simp [h1],fun i y hi=>?_⟩
  rw [List.getElem?_append] at hi
  split at hi
  ·exact h2 i y hi
  ·rename_i hn
   have:i - xs.length=0:=by
    rcases Nat.eq_zero_or_pos (i - xs.length) with h|h
    ·exact h
    ·rw [List.getElem?_eq_none (by simp;omega)] at hi;cases hi
   rw [this] at hi
   simp at hi
   subst hi
   rw [show i=n by omega];exact hx
theorem read_ok {H:Type} {enc:TypeId×Value→H} {spare:Nat→Bool} {held:Bool}:∀(n:Nat) (t:TypeId) (ts:Tys) (fuel:Nat) (cs:List Value) {y:DataW H×List MemPlace},leavesP P n t=some ts→DataW.trod enc P w 0 spare held fuel t cs=some y →
  ∃x:ts.D,ts.Vs P w allP [] (fun _=> .p) 0 x cs∧ts.Ok x:=by
 intro n
 induction n with
 |zero=>intro t ts fuel cs y h _;simp [leavesP] at h
 |succ n ih =>
  intro t ts fuel cs y h hr
  unfold leavesP at h
  cases hu:P.underlying t with
  |none=>simp only [hu] at h;cases h
  |some d =>
   simp only [hu] at h
   cases d<;>simp only at h<;>try (cases h;done)
   case bool =>
    cases h
    obtain ⟨b,rfl,_⟩:=DataW.trod_bool hu hr
    exact ⟨(b,()),⟨_,[],rfl,rfl,rfl⟩,trivial,trivial⟩
   case int k =>
    cases h
    obtain ⟨m,rfl,_,hw⟩:=DataW.trod_int hu hr
    exact ⟨(m,()),⟨_,[],rfl,rfl,rfl⟩,hw,trivial⟩
   case string =>
    cases h
    obtain ⟨s,rfl,_,hs⟩:=DataW.trod_string hu hr
    exact ⟨(s,()),⟨_,[],rfl,rfl,rfl⟩,hs,trivial⟩
   case slice e =>
    cases he:leavesP P n e with
    |none=>simp [he] at h
    |some es =>
     simp only [he] at h
     cases hc:(Nat.beq (P.cellsOf e) es.len&&Nat.blt 0 es.len) with
     |false=>rw [hc] at h;cases h
     |true =>
      rw [hc] at h
      cases h
      simp only [Bool.and_eq_true,Nat.blt_eq] at hc
      have hlen:=Nat.eq_of_beq_eq_true hc.1
      rcases DataW.trod_slice hu hr with ⟨rfl,_⟩|⟨a,len,cap,elems,rest,m,_,rfl,_,_,hl,hm,hel,hels,_⟩
      ·exact ⟨(([]:List es.D),()),⟨_,[],rfl,H_sh.2 ⟨none,0,rfl,Nat.le_refl _,.inl rfl⟩,rfl⟩,⟨Nat.zero_le _,by intro i x h;simp [getN] at h⟩,trivial⟩
      ·have each:∀i,i<len→∃x:es.D,es.Ok x∧a.spot=none∧∃vs,es.Vs P w allP [] (fun _=> .p) 0 x vs∧∀k u,vs[k]?=some u→w.cell? ⟨a.block,a.off+i*es.len+k,none⟩=some u:=by
        intro i hi
        have h1:=hels i hi
        rw [List.getElem?_eq_getElem (by omega),Option.bind_eq_some_iff] at h1
        obtain ⟨cs',hcs,htr⟩:=h1
        obtain ⟨x,hx,hok⟩:=ih e es m cs' he htr
        obtain ⟨_,hcl,hcell⟩:=World.cells?_some hcs
        have hspot:a.spot=none:=by
         have h0:=hcell 0 (by omega)
         rw [List.getElem?_eq_getElem (by omega)] at h0
         have:=World.cell?_spot h0
         unfold Addr.add at this
         by_cases hz:i*P.cellsOf e=0
         ·simpa [hz] using this
         ·-- the first element's cell tells it
          have h1:=hels 0 (by omega)
          rw [List.getElem?_eq_getElem (by omega),Option.bind_eq_some_iff] at h1
          obtain ⟨cs0,hcs0,_⟩:=h1
          obtain ⟨_,hcl0,hcell0⟩:=World.cells?_some hcs0
          have h0:=hcell0 0 (by omega)
          rw [List.getElem?_eq_getElem (by omega)] at h0
          have:=World.cell?_spot h0
          simpa [Addr.add] using this
        refine ⟨x,hok,hspot,cs',hx,fun k u hk=>?_⟩
        have hkl:k<cs'.length:=by
         rcases Nat.lt_or_ge k cs'.length with h|h
         ·exact h
         ·rw [List.getElem?_eq_none h] at hk;cases hk
        have:=hcell k (by omega)
        rw [hk,hlen,add_none hspot,add_none rfl] at this
        exact this
       obtain ⟨xs,hxl,hxs⟩:=list_choice len each
       subst hxl
       refine ⟨(xs,()),⟨_,[],rfl,H_sh.2 ⟨some a,cap,rfl,hl,?_⟩,rfl⟩,⟨Nat.le_trans hl hm,fun i x hi=>(hxs i x hi).1⟩,trivial⟩
       cases hx0:xs with
       |nil=>exact .inl rfl
       |cons x0 xr =>
        obtain ⟨_,hspot,_⟩:=hxs 0 x0 (by rw [hx0];rfl)
        refine .inr ⟨a,rfl,hspot,fun i x hi=>?_⟩
        rw [←hx0] at hi
        obtain ⟨_,_,vs,h1,h2⟩:=hxs i x hi
        exact Vs_hs es h1 fun k u hk=>⟨h2 k u hk,rfl⟩
   case struct fs =>
    cases hf:fieldsP P (leavesP P n) fs.toList 0 with
    |none=>rw [hf] at h;cases h
    |some ts' =>
     rw [hf] at h
     dsimp only at h
     cases hc:Nat.beq (P.cellsOf t) ts'.len with
     |false=>rw [hc] at h;cases h
     |true =>
      rw [hc] at h
      cases h
      have hlen:=Nat.eq_of_beq_eq_true hc
      obtain ⟨xs,m,_,_,hcl,hxl,hxs⟩:=DataW.trod_struct hu hr
      have key:∀(l:List Field) (off:Nat) (ts:Tys),fieldsP P (leavesP P n) l off=some ts→(∀f∈l,∃y,DataW.trod enc P w 0 spare held m f.type ((cs.drop f.offset).take (P.cellsOf f.type))=some y)→off+ts.len=cs.length →
        ∃x:ts.D,ts.Vs P w allP [] (fun _=> .p) 0 x (cs.drop off)∧ts.Ok x:=by
       intro l
       induction l with
       |nil =>
        intro off ts h _ ho
        simp only [fieldsP,Option.some.injEq] at h
        subst h
        refine ⟨(),?_,trivial⟩
        show cs.drop off= []
        rw [List.drop_eq_nil_iff];simp [Tys.len] at ho;omega
       |cons f l ih2 =>
        intro off ts h hall ho
        simp only [fieldsP] at h
        cases ha:leavesP P n f.type with
        |none=>simp [ha] at h
        |some a =>
         simp only [ha] at h
         cases hb:fieldsP P (leavesP P n) l (off+a.len) with
         |none=>simp [hb] at h
         |some b =>
          simp only [hb] at h
          cases hk:(Nat.beq f.offset off&&Nat.beq (P.cellsOf f.type) a.len) with
          |false=>rw [hk] at h;cases h
          |true =>
           rw [hk] at h
           cases h
           simp only [Bool.and_eq_true] at hk
           have e1:=Nat.eq_of_beq_eq_true hk.1
           have e2:=Nat.eq_of_beq_eq_true hk.2
           rw [len_app] at ho
           obtain ⟨y,hy⟩:=hall f (by simp)
           rw [e1,e2] at hy
           obtain ⟨x1,h1,k1⟩:=ih f.type a m _ ha hy
           obtain ⟨x2,h2,k2⟩:=ih2 (off+a.len) b hb (fun g hg=>hall g (by simp [hg])) (by omega)
           refine ⟨joinD a b x1 x2,?_,Ok_app a b k1 k2⟩
           have:=Vs_app (qf:=fun _=> .p) a b h1 h2
           rwa [←List.drop_drop,List.take_append_drop] at this
      obtain ⟨x,h1,h2⟩:=key fs.toList 0 ts hf (fun f hf=>by
       obtain ⟨i,hi⟩:=List.getElem?_of_mem hf
       have hi':fs[i]?=some f:=by simpa using hi
       have:=hxs i f hi'
       rw [this]
       have hlt:i<fs.size:=(Array.getElem?_eq_some_iff.1 hi').1
       exact ⟨_,List.getElem?_eq_getElem (by omega)⟩) (by omega)
      exact ⟨x,by simpa using h1,h2⟩
def TreeOk (P:Program) (t:Nat→Option Con):Prop:=∀n con,t n=some con→Good P n con∧Enters P n
theorem TreeOk.nil:TreeOk P (fun _=>Option.none):=fun _ _ h=>by cases h
theorem TreeOk.leaf {k:Nat} {c:Con} (h:Good P k c∧Enters P k):TreeOk P (fun n=>bif Nat.beq n k then some c else none):=fun n con hn=>by
 cases e:Nat.beq n k with
 |false=>simp [e] at hn
 |true =>
  simp only [e,cond_true,Option.some.injEq] at hn
  subst hn
  rw [Nat.eq_of_beq_eq_true e];exact h
theorem TreeOk.node {k:Nat} {a b:Nat→Option Con} (ha:TreeOk P a) (hb:TreeOk P b):TreeOk P (fun n=>bif Nat.ble n k then a n else b n):=fun n con hn=>by
 cases e:Nat.ble n k with
 |false=>simp only [e,cond_false] at hn;exact hb n con hn
 |true=>simp only [e,cond_true] at hn;exact ha n con hn
theorem enters_of {f : Nat} {fn : Func} (hf : P.funcs[f]? = some fn) (h : (!(fn.name == "runtime.NumGoroutine") && fn.body.isSome) = true) : Enters P f := by
 intro args w
 simp only [Bool.and_eq_true,Bool.not_eq_true'] at h
 obtain ⟨h1,h2⟩:=h
 obtain ⟨c,hb⟩:=Option.isSome_iff_exists.1 h2
 have h1 : fn.name ≠ "runtime.NumGoroutine" := by simpa using h1
 simp [callFunc,hf,h1,hb]
theorem table_ok {L:List (Nat×TI)} (h:L.map (fun p=>tiOf P p.1)=L.map (fun p=>some p.2)):∀t ti,lookT L t=some ti→tiOf P t=some ti:=by
 induction L with
 |nil=>intro t ti h;cases h
 |cons p L ih =>
  intro t ti hl
  obtain ⟨k,x⟩:=p
  simp only [List.map_cons,List.cons.injEq] at h
  simp only [lookT] at hl
  cases e:Nat.beq k t with
  |true =>
   rw [e] at hl
   simp only [cond_true,Option.some.injEq] at hl
   subst hl
   rw [←Nat.eq_of_beq_eq_true e];exact h.1
  |false=>rw [e] at hl;exact ih h.2 t ti hl
end
end Go.Tm
/- The pure machine, 48: a law over what is read. -/
namespace Go.Tm
open Go
open Go.RowKit (Below)
abbrev boolG:Grp:=⟨.c,.cons .bool .nil,[]⟩
def OkG:(gs:List Grp)→GD gs→Prop
 | [],_=>True
 |g::gs,x=>g.ts.Ok x.1∧OkG gs x.2
def kindB:PK→TypeDesc→Bool
 | .agg,.struct _=>true
 | .c,.bool=>true
 | .c,.int _=>true
 | .c,.string=>true
 | .c,.slice _=>true
 |_,_=>false
def insB (P:Program):List Grp→List TypeId→Bool
 | [],[]=>true
 |g::gs,t::ts=>(match leavesP P 30 t with
   |some l=>(Tys.eq? l g.ts).isSome
   |none=>false)&&(match g.ms with| []=>true|_=>false)&&(match P.underlying t with
   |some d=>kindB g.k d
   |none=>false)&&insB P gs ts
 |_,_=>false
section
variable {P:Program} {W:World}
theorem args_ok {H:Type} {enc:TypeId×Value→H} {spare:Nat→Bool} {held:Bool}:∀(gs:List Grp) (ts:List TypeId) (m:Nat) {vs:List Value} {ds:List (DataW H)} {ps:List MemPlace},insB P gs ts=true→DataW.TrodAll enc P W 0 spare held ts vs ds ps →
  (∀(j:Nat) t v,ts[j]?=some t→vs[j]?=some v→Value.okWide P W .any 0 t v∨∃base,Value.okWide P W .any base t v)→∃x:GD gs,ArgsR P W allP gs m x vs∧OkG gs x
 | [],[],m,vs,ds,ps,_,h,_=>by
  obtain ⟨rfl,_,_⟩:=ChangeShapes.trodAll_nil h
  exact ⟨(),rfl,trivial⟩
 | [],_::_,m,vs,ds,ps,hb,_,_=>by simp [insB] at hb
 |_::_,[],m,vs,ds,ps,hb,_,_=>by simp [insB] at hb
 |g::gs,t::ts,m,vs,ds,ps,hb,h,hv=>by
  obtain ⟨v,vs',d,ds',p,q,rfl,rfl,rfl,h1,h2⟩:=ChangeShapes.trodAll_cons h
  simp only [insB,Bool.and_eq_true] at hb
  obtain ⟨⟨⟨hl,hms⟩,hk⟩,hb⟩:=hb
  obtain ⟨x2,hx2,ok2⟩:=args_ok gs ts (m+1) hb h2 (fun j t v h3 h4=>hv (j+1) t v (by simpa using h3) (by simpa using h4))
  cases hlp:leavesP P 30 t with
  |none=>rw [hlp] at hl;cases hl
  |some l =>
   rw [hlp] at hl
   dsimp only at hl
   cases he:Tys.eq? l g.ts with
   |none=>rw [he] at hl;cases hl
   |some e =>
    obtain ⟨e⟩:=e
    obtain ⟨fuel,hf⟩:=h1
    obtain ⟨x1,hx1,ok1⟩:=read_ok 30 t l fuel _ hlp hf
    obtain ⟨gk,gts,gms⟩:=g
    cases gms with
    |cons _ _=>cases hms
    |nil =>
     clear he hl
     have e:l=gts:=e
     subst e
     refine ⟨(x1,x2),⟨v,vs',rfl,?_,hx2⟩,ok1,ok2⟩
     have hv0:∃base,Value.okWide P W .any base t v:=by
      rcases hv 0 t v rfl rfl with h|h
      ·exact ⟨0,h⟩
      ·exact h
     obtain ⟨base,hv0⟩:=hv0
     cases hu:P.underlying t with
     |none=>rw [hu] at hk;cases hk
     |some d =>
      rw [hu] at hk
      dsimp only at hk
      unfold ArgR
      have one:v.cells= #[v]→gk= .c→(match gk with
        | .c=>l.Vs P W allP [] (fun j=> .o [j]) (64*m+1) x1 [v]
        | .agg=>∃a,v= .agg a∧l.Vs P W allP [] (fun j=> .o [j]) (64*m+1) x1 a.toList
        | .rp=>∃b base,v= .pointer (some ⟨b,base,none⟩)∧l.Hs P W allP [] .p (fun _=> .p) 0 x1 b base
        | .io=>∃b base,v= .pointer (some ⟨b,base,none⟩)∧l.Hs P W allP [] (.o [64*m]) (fun j=> .o [j]) (64*m+1) x1 b base
        | .np=>False
        | .wc=>l.Vs P W allP [] (fun j=> .o [j]) (64*m+1) x1 [v]
        | .wa=>∃a,v= .agg a∧l.Vs P W allP [] (fun j=> .o [j]) (64*m+1) x1 a.toList):=by
       rintro hc rfl
       rw [hc] at hx1
       exact Vs_q l hx1
      cases gk<;>cases d<;>simp only [kindB] at hk<;>try (cases hk;done)
      ·obtain ⟨b,rfl⟩:=WideShapes.okWide_bool hu hv0;exact one rfl rfl
      ·obtain ⟨b,rfl⟩:=WideShapes.okWide_int hu hv0;exact one rfl rfl
      ·obtain ⟨b,rfl⟩:=WideShapes.okWide_string hu hv0;exact one rfl rfl
      ·obtain ⟨_,_,_,rfl⟩:=WideShapes.okWide_slice hu hv0;exact one rfl rfl
      ·simp only [Value.okWide,hu] at hv0
       obtain ⟨cs,rfl,_⟩:=hv0
       exact ⟨cs,rfl,Vs_q l hx1⟩
theorem law_calls {H:Type} {enc:TypeId×Value→H} {spare:Nat→Bool} {held:Bool} {f:Nat} {ins:List Grp} {F:GD ins→Option (GD [boolG])} (hg:Good P f ⟨ins,[boolG],F⟩) {ts:List TypeId} (hb:insB P ins ts=true) (hF:∀x,OkG ins x→F x=some ((true,()),()))
  {args:Array Value} {ds:List (DataW H)} {ps:List MemPlace} (h:DataW.TrodAll enc P W 0 spare held ts args.toList ds ps) {base:Nat}
  (hv:∀(j:Nat) t v,ts[j]?=some t→args[j]?=some v→Value.okWide P W .any base t v):Calls P f args W fun e W'=>e= .returned (.bool true)∧Below W.heap.size W W':=by
 obtain ⟨x,hx,hok⟩:=args_ok ins ts 0 hb h (fun j t v h1 h2=> .inr ⟨base,hv j t v h1 (by simpa using h2)⟩)
 have:=hg W allP args.toList x _ (hF x hok) hx ⟨fun b k π h=>(by cases h),fun b k h=>(by cases h)⟩
 have e0:args.toList.toArray=args:=by simp
 rw [e0] at this
 refine Calls.mono this fun e w' he=>?_
 obtain ⟨vs,o',rfl,_,hfr,_,hout⟩:=he
 refine ⟨?_,hfr.os,hfr.tape,hfr.output,hfr.size,fun k hk=>hfr.blk k hk fun j π h=>by cases h⟩
 cases vs with
 |nil =>
  cases hio:ioAddrs ins args.toList with
  |nil=>rw [hio] at hout;exact hout.elim
  |cons a io =>
   rw [hio] at hout
   exfalso
   have key:∀(gs:List Grp) (ts:List TypeId) (vs:List Value),insB P gs ts=true→ioAddrs gs vs= []:=by
    intro gs
    induction gs with
    |nil=>intro ts vs _;rfl
    |cons g gs ih =>
     intro ts vs hb
     cases ts with
     |nil=>simp [insB] at hb
     |cons t ts =>
      simp only [insB,Bool.and_eq_true] at hb
      obtain ⟨⟨_,hk⟩,hb⟩:=hb
      cases vs with
      |nil=>rfl
      |cons v vs =>
       have ih:=ih ts vs hb
       have hne:isIo g.k=false:=by
        cases e:g.k<;>first|rfl|skip
        all_goals rw [e] at hk
        all_goals exfalso
        all_goals
         cases hu:P.underlying t with
         |none=>rw [hu] at hk;cases hk
         |some d=>rw [hu] at hk;cases d<;>cases hk
       simp only [ioAddrs]
       split
       ·rw [show g.k=PK.io by assumption] at hne;cases hne
       ·rw [show g.k=PK.wc by assumption] at hne;cases hne
       ·rw [show g.k=PK.wa by assumption] at hne;cases hne
       ·exact ih
   rw [key ins ts _ hb] at hio
   cases hio
 |cons v vs =>
  obtain ⟨h1,h2⟩:=hout
  have hvs:vs= []:=h2.1
  subst hvs
  have h1:∃u r,[v]=u::r∧u= .bool true∧_:=h1
  obtain ⟨u,r,e,hu,_⟩:=h1
  cases e
  rw [hu]
  rfl
end
end Go.Tm
/- Plain words about what the pure machine's functions compute: loops, sizes, copies, comparisons. -/
namespace Go.Tm
open Go
section loops
variable {S E:Type}
theorem loopIter_mono {f:S→Option (Sum S E)}:∀{n m:Nat} {s:S} {e:E},n≤m→loopIter f n s=some e→loopIter f m s=some e
 |0,_,_,_,_,h=>by cases h
 |n+1,0,_,_,h,_=>by omega
 |n+1,m+1,s,e,hle,h=>by
  simp only [loopIter] at h ⊢
  split at h
  ·cases h
  ·exact loopIter_mono (by omega) h
  ·exact h
theorem loopF_of {f:S→Option (Sum S E)} {n:Nat} {s:S} {e:E} (h:loopIter f n s=some e):loopF f s=some e:=by
 have hex:∃n e,loopIter f n s=some e:=⟨n,e,h⟩
 unfold loopF
 rw [dif_pos hex]
 have h2:=Classical.choose_spec (Classical.choose_spec hex)
 have h3:=loopIter_mono (Nat.le_max_left n (Classical.choose hex)) h
 have h4:=loopIter_mono (Nat.le_max_right n (Classical.choose hex)) h2
 rw [h3] at h4
 exact h4.symm
theorem loopF_trace {f:S→Option (Sum S E)} (g:Nat→S) (m:Nat) {e:E} (h:∀i,i<m→f (g i)=some (.inl (g (i+1)))) (hm:f (g m)=some (.inr e)):loopF f (g 0)=some e:=by
 have key:∀k i,i+k=m→loopIter f (k+1) (g i)=some e:=by
  intro k
  induction k with
  |zero=>intro i hi;simp only [loopIter,show i=m by omega,hm]
  |succ k ih =>
   intro i hi
   rw [loopIter,h i (by omega)]
   exact ih (i+1) (by omega)
 exact loopF_of (key m 0 (by omega))
end loops
abbrev big:Int:=1048576
theorem wrap64 {n:Int} (h1: -9223372036854775808≤n) (h2:n≤9223372036854775807):IntKind.i64.wrap n=n:=by
 simp [IntKind.wrap,IntKind.signed,IntKind.bits]
 omega
theorem iAdd_small {a b:Int} (h1: -9223372036854775808≤a+b) (h2:a+b≤9223372036854775807):iAdd .i64 a b=a+b:=wrap64 h1 h2
theorem iSub_small {a b:Int} (h1: -9223372036854775808≤a - b) (h2:a - b≤9223372036854775807):iSub .i64 a b=a - b:=wrap64 h1 h2
theorem iLt_true {a b:Int} (h:a<b):iLt a b=true:=by simp [iLt,h]
theorem iLt_false {a b:Int} (h:b≤a):iLt a b=false:=by simp [iLt];omega
theorem iEq_self (a:Int):iEq a a=true:=by simp [iEq]
theorem sEq_self (a:ByteArray):sEq a a=true:=by simp [sEq]
theorem getI_lt {α:Type} {xs:List α} {i:Nat} (h:i<xs.length):getI xs (i:Int)=some xs[i]:=by
 unfold getI
 rw [if_pos (by omega)]
 simp [h]
theorem getN_lt {α:Type} {xs:List α} {i:Nat} (h:i<xs.length):getN xs i=some xs[i]:=by simp [getN,h]
def sumW {α:Type} (f:α→Nat):List α→Nat
 | []=>0
 |x::r=>f x+sumW f r
mutual
def Ty.w:(t:Ty)→t.D→Nat
 | .int _,_=>0
 | .bool,_=>0
 | .str,s=>s.size
 | .sl es,xs=>List.length (α:=es.D) xs+sumW (fun x=>es.w x) xs
 | .fn _ _ _,_=>0
def Tys.w:(ts:Tys)→ts.D→Nat
 | .nil,_=>0
 | .cons t ts,x=>t.w x.1+ts.w x.2
end
def szR (n:Nat) (l:Int):Int:=if (n:Int)≤l then l - n else -1
abbrev I1 (n:Int):(Int×Unit)×Unit:=((n,()),())
abbrev B1 (b:Bool):(Bool×Unit)×Unit:=((b,()),())
def Sz (n:Nat) (K:Int→Option ((Int×Unit)×Unit)):Prop:=∀l,0≤l→l≤big→K l=some (I1 (szR n l))
def szStr (n:Nat) (K:Int→Option ((Int×Unit)×Unit)):Int→Option ((Int×Unit)×Unit):=fun l=>bif iLt (iSub .i64 l (n:Int)) 0 then some (I1 (-1)) else K (iSub .i64 l (n:Int))
def szCall (T K:Int→Option ((Int×Unit)×Unit)):Int→Option ((Int×Unit)×Unit):=fun l=>(T l).bind fun y=>bif iLt y.1.1 0 then some (I1 (-1)) else K y.1.1
def szEnd:Int→Option ((Int×Unit)×Unit):=fun l=>some (I1 l)
theorem Sz.nil:Sz 0 szEnd:=fun l h0 _=>by simp [szEnd,szR,h0]
theorem Sz.to {n m:Nat} {K:Int→Option ((Int×Unit)×Unit)} (h:Sz n K) (e:n=m):Sz m K:=e▸h
theorem Sz.str {a n:Nat} {K:Int→Option ((Int×Unit)×Unit)} (hs:a≤maxLen) (h:Sz n K):Sz (a+n) (szStr a K):=by
 intro l h0 h1
 unfold maxLen at hs
 have hb:l≤1048576:=h1
 unfold szStr
 rw [iSub_small (by omega) (by omega)]
 by_cases hl:(a:Int)≤l
 ·rw [iLt_false (by omega),cond_false,h _ (by omega) (by omega)]
  simp only [szR]
  by_cases h2:((a+n:Nat):Int)≤l
  ·rw [if_pos h2,if_pos (by omega)];simp only [Option.some.injEq,Prod.mk.injEq,and_true];omega
  ·rw [if_neg h2,if_neg (by omega)]
 ·rw [iLt_true (by omega),cond_true]
  simp only [szR]
  rw [if_neg (by omega)]
theorem Sz.call {a n:Nat} {T K:Int→Option ((Int×Unit)×Unit)} (hT:Sz a T) (h:Sz n K):Sz (a+n) (szCall T K):=by
 intro l h0 h1
 have hb:l≤1048576:=h1
 unfold szCall
 rw [hT l h0 h1]
 simp only [Option.bind_some,szR]
 by_cases hl:(a:Int)≤l
 ·rw [if_pos hl,iLt_false (by omega),cond_false,h _ (by omega) (by omega)]
  simp only [szR]
  by_cases h2:((a+n:Nat):Int)≤l
  ·rw [if_pos h2,if_pos (by omega)];simp only [Option.some.injEq,Prod.mk.injEq,and_true];omega
  ·rw [if_neg h2,if_neg (by omega)]
 ·rw [if_neg hl,if_neg (by omega)]
  rfl
theorem Sz.int {n:Nat} {K:Int→Option ((Int×Unit)×Unit)} (h:Sz n K):Sz (0+n) K:=by rw [Nat.zero_add];exact h
theorem Ok_mem {es:Tys} {xs:List es.D} (h:∀i x,getN (α:=es.D) xs i=some x→es.Ok x) {y:es.D} (hy:y∈xs):es.Ok y:=by
 obtain ⟨i,hi⟩:=List.getElem?_of_mem hy
 exact h i y hi
def toLoopB {A B C:Type} {Y:Type} (xs:List A) (T:A→Option C) (π:C→B):Int×(List B×Unit)→Option (Sum (Int×(List B×Unit)) (Sum (Int×(List B×Unit)) Y)):=fun v =>
 bif iLt v.1 (List.length xs:Int) then (getI xs v.1).bind fun x=>(T x).bind fun y=>(getI v.2.1 v.1).bind fun _=>(getN v.2.1 (Int.toNat v.1)).bind fun _=>some (.inl (iAdd .i64 v.1 1,(List.set v.2.1 (Int.toNat v.1) (π y),()))) else some (.inr (.inl (v.1,(v.2.1,()))))
theorem toLoop {A B C Y:Type} {xs:List A} {T:A→Option C} {π:C→B} {φ:A→B} (z:B) (hl:xs.length≤maxLen) (hT:∀x∈xs,∃c,T x=some c∧π c=φ x) :
  loopF (toLoopB (Y:=Y) xs T π) ((0:Int),(List.replicate xs.length z,()))=some (.inl ((xs.length:Int),(xs.map φ,()))):=by
 unfold maxLen at hl
 let g:Nat→Int×(List B×Unit):=fun i=>((i:Int),((xs.take i).map φ++List.replicate (xs.length - i) z,()))
 have hg0:((0:Int),(List.replicate xs.length z,()))=g 0:=by simp [g]
 rw [hg0]
 refine loopF_trace g xs.length (fun i hi=>?_) ?_
 ·obtain ⟨c,hc,hπ⟩:=hT xs[i] (List.getElem_mem hi)
  have hlen:((xs.take i).map φ++List.replicate (xs.length - i) z).length=xs.length:=by simp;omega
  show toLoopB xs T π ((i:Int),((xs.take i).map φ++List.replicate (xs.length - i) z,()))=_
  unfold toLoopB
  dsimp only
  rw [iLt_true (by omega),cond_true,getI_lt hi,Option.bind_some,hc,Option.bind_some,getI_lt (by omega),Option.bind_some,Int.toNat_natCast,getN_lt (by omega),Option.bind_some,hπ,iAdd_small (by omega) (by omega)]
  show some (Sum.inl _)=some (Sum.inl ((((i+1:Nat):Int)),((xs.take (i+1)).map φ++List.replicate (xs.length - (i+1)) z,())))
  congr 4
  have e:xs.length - i=(xs.length - (i+1))+1:=by omega
  have h2:((xs.take i).map φ).length=i:=by simp;omega
  have e3:(xs.take (i+1)).map φ=(xs.take i).map φ++ [φ xs[i]]:=by rw [←List.take_append_getElem hi,List.map_append];rfl
  rw [e,List.replicate_succ,List.set_append_right _ _ (by omega),h2,Nat.sub_self,List.set_cons_zero,e3,List.append_assoc]
  rfl
 ·show toLoopB xs T π ((xs.length:Int),((xs.take xs.length).map φ++List.replicate (xs.length - xs.length) z,()))=_
  unfold toLoopB
  dsimp only
  rw [iLt_false (Int.le_refl _),cond_false]
  simp
theorem mkOk_small {n bytes:Nat} (h:n≤1048576) (hb:0<bytes) (hb2:bytes≤65536):mkOk (n:Int) (n:Int) bytes=true:=by
 unfold mkOk
 have h1:(n:Int)*(bytes:Int)≤1048576*65536:=Int.mul_le_mul (by omega) (by omega) (by omega) (by omega)
 simp only [decide_eq_true_eq]
 refine ⟨trivial,by omega,by omega,hb⟩
theorem toList {A B C:Type} {xs:List A} {T:A→Option C} {π:C→B} {φ:A→B} {z:B} {bytes:Nat} (hb:0<bytes) (hb2:bytes≤65536) (hl:xs.length≤1048576) (hT:∀x∈xs,∃c,T x=some c∧π c=φ x) :
  (bif mkOk (List.length xs:Int) (List.length xs:Int) bytes then (loopF (toLoopB (Y:=(List B×Unit)×Unit) xs T π) ((0:Int),(List.replicate (Int.toNat (List.length xs:Int)) z,()))).bind fun r=>Sum.elim (fun v=>some ((v.2.1,()),())) some r else none)=some ((xs.map φ,()),()):=by
 rw [mkOk_small hl hb hb2,cond_true,Int.toNat_natCast,toLoop z (by unfold maxLen;omega) hT]
 rfl
section steps
variable {R:Type}
theorem bind_eq {A:Type} {T:Option A} {y:A} {K:A→Option R} {r:Option R} (hT:T=some y) (h:K y=r):T.bind K=r:=by rw [hT];exact h
end steps
end Go.Tm
/- Plain words about loops: values round by round, loops that ask something of each element. -/
namespace Go.Tm
open Go
section
variable {S E:Type}
theorem loopF_end {f:S→Option (Sum S E)} {s:S} {e:E} (h:f s=some (.inr e)):loopF f s=some e:=loopF_of (n:=1) (by simp [loopIter,h])
theorem loopF_step {f:S→Option (Sum S E)} {s s':S} (h:f s=some (.inl s')):loopF f s=loopF f s':=by
 by_cases hx:∃n e,loopIter f n s'=some e
 ·obtain ⟨n,e,he⟩:=hx
  rw [loopF_of he,loopF_of (n:=n+1) (by simp only [loopIter,h];exact he)]
 ·have h1:¬∃n e,loopIter f n s=some e:=by
   rintro ⟨n,e,he⟩
   cases n with
   |zero=>cases he
   |succ n=>simp only [loopIter,h] at he;exact hx ⟨n,e,he⟩
  unfold loopF
  rw [dif_neg hx,dif_neg h1]
def allI {A:Type} (p:Nat→A→Bool):Nat→List A→Bool
 |_,[]=>true
 |k,x::r=>p k x&&allI p (k+1) r
theorem loopAll {A:Type} (xs:List A) (p:Nat→A→Bool) {f:S→Option (Sum S E)} (mk:Int→S) (e r:E) (hstep:∀i (h:i<xs.length),f (mk (i:Int))=bif p i xs[i] then some (.inl (mk ((i+1:Nat):Int))) else some (.inr r)) (hend:f (mk (xs.length:Int))=some (.inr e)) :
  loopF f (mk 0)=some (bif allI p 0 xs then e else r):=by
 have key:∀(suf:List A) (k:Nat),xs.drop k=suf→k+suf.length=xs.length→loopF f (mk (k:Int))=some (bif allI p k suf then e else r):=by
  intro suf
  induction suf with
  |nil =>
   intro k _ hk
   rw [show k=xs.length by simpa using hk,loopF_end hend]
   rfl
  |cons x suf ih =>
   intro k hd hk
   have hlt:k<xs.length:=by simp at hk;omega
   have hx:xs[k]=x:=by
    have:(xs.drop k)[0]?=some x:=by rw [hd];rfl
    rw [List.getElem?_drop] at this
    simpa [hlt] using this
   have h1:=hstep k hlt
   rw [hx] at h1
   simp only [allI]
   cases hp:p k x with
   |true =>
    rw [hp] at h1
    rw [loopF_step h1]
    refine (ih (k+1) ?_ (by simp at hk;omega)).trans (by simp)
    have:=congrArg (List.drop 1) hd
    simpa [List.drop_drop] using this
   |false =>
    rw [hp] at h1
    rw [loopF_end h1]
    rfl
 have:=key xs 0 rfl (by simp)
 exact this
theorem allI_congr {A:Type} {p q:Nat→A→Bool}:∀{k:Nat} {xs:List A},(∀i x,xs[i]?=some x→p (k+i) x=q (k+i) x)→allI p k xs=allI q k xs
 |_,[],_=>rfl
 |k,x::r,h=>by
  simp only [allI]
  have h0:=h 0 x rfl
  rw [Nat.add_zero] at h0
  have ih:allI p (k+1) r=allI q (k+1) r:=allI_congr (k:=k+1) (xs:=r) fun i y hi=>by
   have:=h (i+1) y (by simpa using hi)
   rwa [show k+(i+1)=k+1+i by omega] at this
  rw [h0,ih]
end
end Go.Tm
/- Plain words: an order of strings, sums that wrap, loops with an invariant, marks. -/
namespace Go.Tm
open Go
theorem bytesLess_self:∀(x:List UInt8),Op.bytesLess x x=false
 | []=>rfl
 |a::x=>by
  simp only [Op.bytesLess,bytesLess_self x,Bool.and_false,Bool.or_false,decide_eq_false_iff_not]
  exact fun h=>by simp [UInt8.lt_iff_toNat_lt] at h
theorem bytesLess_tri:∀(x y:List UInt8),(!(Op.bytesLess x y||x==y))=Op.bytesLess y x
 | [],[]=>rfl
 | [],_::_=>rfl
 |_::_,[]=>rfl
 |a::x,b::y=>by
  have ih:=bytesLess_tri x y
  simp only [Op.bytesLess,List.cons_beq_cons]
  rcases Nat.lt_trichotomy a.toNat b.toNat with h|h|h
  ·have h1:a<b:=UInt8.lt_iff_toNat_lt.2 h
   have h2:¬b<a:=fun e=>by have:=UInt8.lt_iff_toNat_lt.1 e;omega
   have h3:(a==b)=false:=by
    rw [beq_eq_false_iff_ne];rintro rfl;omega
   have h4:(b==a)=false:=by
    rw [beq_eq_false_iff_ne];rintro rfl;omega
   simp [h1,h2,h4]
  ·have h1:a=b:=UInt8.toNat_inj.1 h
   subst h1
   have h2:¬a<a:=fun e=>by have:=UInt8.lt_iff_toNat_lt.1 e;omega
   simp only [decide_eq_false h2,Bool.false_or,beq_self_eq_true,Bool.true_and]
   exact ih
  ·have h1:b<a:=UInt8.lt_iff_toNat_lt.2 h
   have h2:¬a<b:=fun e=>by have:=UInt8.lt_iff_toNat_lt.1 e;omega
   have h3:(a==b)=false:=by
    rw [beq_eq_false_iff_ne];rintro rfl;omega
   simp [h1,h2,h3]
theorem sLt_tri (a b:ByteArray):(sLt a b||sEq a b)= !sLt b a:=by
 unfold sLt sEq
 rw [←bytesLess_tri a.toList b.toList,Bool.not_not]
def inR (n lo hi:Int):Bool:=iLe lo n&&iLe n hi
theorem inR_ite {n lo hi:Int}:(bif iLe lo n then some ((iLe n hi,()),()) else some ((false,()),()))=some (B1 (inR n lo hi)):=by
 unfold inR
 cases iLe lo n<;>rfl
theorem iLe_lt {a b:Int}:iLe a b= !iLt b a:=by
 unfold iLe iLt
 by_cases h:a≤b
 ·rw [decide_eq_true h,decide_eq_false (by omega)];rfl
 ·rw [decide_eq_false h,decide_eq_true (by omega)];rfl
theorem iAdd_assoc (a b c:Int):iAdd .i64 (iAdd .i64 a b) c=iAdd .i64 a (iAdd .i64 b c):=by
 simp [iAdd,IntKind.wrap,IntKind.signed,IntKind.bits]
 omega
section
variable {S E:Type}
def markL {A:Type} (c:A→Nat) (m:Int→A→A):List A→Int→List A
 | [],_=> []
 |x::r,k=>m k x::markL c m r (k+c x)
end
end Go.Tm
/- Plain words: marks of any kind of data. -/
namespace Go.Tm
open Go
theorem getN_set {A:Type} {xs:List A} {i:Nat} {a:A} (h:i<xs.length):getN (List.set xs (Int.toNat (i:Int)) a) (Int.toNat (i:Int))=some a:=by
 rw [Int.toNat_natCast,getN_lt (by rw [List.length_set];exact h)];simp
theorem st3 {A B C F:Type} {a a':A} {b b':B} {c c':C} (h1:a=a') (h2:b=b') (h3:c=c'):(some (Sum.inl (a,(b,(c,())))):Option (Sum (A×(B×(C×Unit))) F))=some (Sum.inl (a',(b',(c',())))):=by rw [h1,h2,h3]
theorem lt_then {A:Type} {a b:Int} {t e r:A} (h:a<b) (h2:t=r):(bif iLt a b then t else e)=r:=by rw [iLt_true h];exact h2
theorem lt_else {A:Type} {a b:Int} {t e r:A} (h:b≤a) (h2:e=r):(bif iLt a b then t else e)=r:=by rw [iLt_false h];exact h2
theorem no_then {A:Type} {b:Bool} {t e r:A} (h:b=false) (h2:e=r):(bif b then t else e)=r:=by rw [h];exact h2
theorem nx {i n:Nat} (h:i<n) (hn:n≤9223372036854775807):iAdd .i64 (i:Int) 1=((i+1:Nat):Int):=iAdd_small (by omega) (by omega)
mutual
def Ty.ct:(t:Ty)→t.D→Nat
 | .int _,_=>1
 | .bool,_=>1
 | .str,_=>1
 | .sl es,xs=>sumW (fun x=>es.ct x) xs
 | .fn _ _ _,_=>0
def Tys.ct:(ts:Tys)→ts.D→Nat
 | .nil,_=>0
 | .cons t ts,x=>t.ct x.1+ts.ct x.2
end
mutual
def Ty.mt (mt:Int→ByteArray):(t:Ty)→Int→t.D→t.D
 | .int _,k,_=>k
 | .bool,k,_=>iEq (iRem k 3) 0
 | .str,k,_=>mt k
 | .sl es,k,xs=>markL (fun x=>es.ct x) (fun k x=>es.mt mt k x) xs k
 | .fn _ _ _,_,g=>g
def Tys.mt (mt:Int→ByteArray):(ts:Tys)→Int→ts.D→ts.D
 | .nil,_,_=>()
 | .cons t ts,k,x=>(t.mt mt k x.1,ts.mt mt (k+((t.ct x.1:Nat):Int)) x.2)
end
section
variable {S E:Type}
theorem st2 {A B F:Type} {a a':A} {b b':B} (h1:a=a') (h2:b=b'):(some (Sum.inl (a,(b,()))):Option (Sum (A×(B×Unit)) F))=some (Sum.inl (a',(b',()))):=by rw [h1,h2]
end
end Go.Tm
/- Plain words, 5: tests one behind the other, order, loops that end early, folds, copies. -/
namespace Go.Tm
open Go
abbrev L63 (n:Nat):Prop:=n≤9223372036854775807
abbrev W1 (n:Nat):Prop:=n≤1048576
theorem le_ite {A:Type} {a b:Int} {r n:A}:(bif iLe a b then r else n)=bif iLt b a then n else r:=by rw [iLe_lt];cases iLt b a<;>rfl
theorem if_bool {A:Type} {b:Bool} {t e r:A} (h1:b=true→t=r) (h0:b=false→e=r):(bif b then t else e)=r:=by
 cases b
 ·exact h0 rfl
 ·exact h1 rfl
theorem and_no {b c:Bool}:(bif !b then some (B1 false) else some (B1 c))=some (B1 (b&&c)):=by cases b<;>rfl
theorem and_yes {b c:Bool}:(bif b then some (B1 c) else some (B1 false))=some (B1 (b&&c)):=by cases b<;>rfl
theorem or_yes {b c:Bool}:(bif b then some (B1 true) else some (B1 c))=some (B1 (b||c)):=by cases b<;>rfl
theorem andN {b c:Bool} {K:Option ((Bool×Unit)×Unit)} (h:K=some (B1 c)):(bif !b then some (B1 false) else K)=some (B1 (b&&c)):=by rw [h];exact and_no
theorem andY {b c:Bool} {K:Option ((Bool×Unit)×Unit)} (h:K=some (B1 c)):(bif b then K else some (B1 false))=some (B1 (b&&c)):=by rw [h];exact and_yes
theorem orY {b c:Bool} {K:Option ((Bool×Unit)×Unit)} (h:K=some (B1 c)):(bif b then some (B1 true) else K)=some (B1 (b||c)):=by rw [h];exact or_yes
theorem noT {b c:Bool} {K:Option ((Bool×Unit)×Unit)} (h:K=some (B1 c)):(bif b then some (B1 false) else K)=some (B1 (!b&&c)):=by rw [h];cases b<;>rfl
theorem goN {b c:Bool} {R:Type} {K g x:R} (h:K=bif c then g else x):(bif !b then x else K)=bif (b&&c) then g else x:=by rw [h];cases b<;>rfl
theorem goE {b:Bool} {R:Type} {g x:R}:(bif !b then x else g)=bif b then g else x:=by cases b<;>rfl
theorem goEq {b:Bool} {R:Type} {K g x:R} (h:K=g):(bif !b then x else K)=bif b then g else x:=by rw [h];cases b<;>rfl
def behind {A:Type} (lt:A→A→Bool) (xs:List A) (i:Nat) (y:A):Bool:=match i with
 |0=>true
 |j+1=>match xs[j]? with
  |some z=>lt z y
  |none=>true
theorem behind_succ {A:Type} {lt:A→A→Bool} {xs:List A} {j:Nat} {y:A} (h:j<xs.length):behind lt xs (j+1) y=lt xs[j] y:=by
 simp [behind,List.getElem?_eq_getElem h]
theorem prev_get {A:Type} {xs:List A} {j:Nat} (hl:L63 xs.length) (h:j<xs.length):getI xs (iSub .i64 ((j+1:Nat):Int) 1)=some xs[j]:=by
 rw [iSub_small (by omega) (by omega),show (((j+1:Nat):Int) - 1)=(j:Int) by omega]
 exact getI_lt h
theorem asc_step {A R:Type} {xs:List A} {i:Nat} {lt:A→A→Bool} {y:A} {C X:Option R} {T:A→Option R} (hi:i<xs.length) (hl:L63 xs.length) (hT:∀z,T z=bif lt z y then C else X) :
  (bif iLt 0 (i:Int) then (getI xs (iSub .i64 (i:Int) 1)).bind T else C)=bif behind lt xs i y then C else X:=by
 cases i with
 |zero=>rfl
 |succ j=>rw [iLt_true (by omega),cond_true,prev_get hl (by omega),Option.bind_some,hT,behind_succ (by omega)]
theorem st1 {A F:Type} {a a':A} (h1:a=a'):(some (Sum.inl (a,())):Option (Sum (A×Unit) F))=some (Sum.inl (a',())):=by rw [h1]
theorem allI_all {A:Type} {p:A→Bool}:∀{k:Nat} {xs:List A},allI (fun _ x=>p x) k xs=xs.all p
 |_,[]=>rfl
 |k,x::r=>by simp only [allI,List.all_cons];rw [allI_all]
theorem allI_get {A:Type} {p:Nat→A→Bool}:∀{k:Nat} {xs:List A},allI p k xs=true→∀i (h:i<xs.length),p (k+i) xs[i]=true
 |k,x::r,h,0,_=>by simp only [allI,Bool.and_eq_true] at h;exact h.1
 |k,x::r,h,i+1,hi=>by
  simp only [allI,Bool.and_eq_true] at h
  have:=allI_get h.2 i (by simpa using hi)
  rw [show k+(i+1)=k+1+i by omega]
  simpa using this
theorem allI_and {A:Type} {p q:Nat→A→Bool}:∀{k:Nat} {xs:List A},allI (fun i x=>p i x&&q i x) k xs=(allI p k xs&&allI q k xs)
 |_,[]=>rfl
 |k,x::r=>by
  simp only [allI]
  rw [allI_and]
  cases p k x<;>cases q k x<;>cases allI p (k+1) r<;>rfl
theorem join_go {R:Type} {b c:Bool} {A:Option (Sum Unit R)} {B g:Option R} {x:R} (h:A=bif b then some (.inl ()) else some (.inr x)) (h2:B=bif c then g else some x):Option.bind A (fun r=>Sum.elim (fun _=>B) some r)=bif (b&&c) then g else some x:=by
 rw [h,h2]
 cases b<;>rfl
theorem asc_le {A:Type} {f:A→Int} {l:List A} (h:∀i (hi:i<l.length),behind (fun z y=>iLt (f z) (f y)) l i l[i]=true):∀(k i:Nat) (hk:i+k<l.length),f l[i]≤f l[i+k]
 |0,i,hk=>Int.le_refl _
 |k+1,i,hk=>by
  have h1:=asc_le h k i (by omega)
  have h2:=h ((i+k)+1) (by omega)
  have h3:=behind_succ (lt:=fun z y=>iLt (f z) (f y)) (xs:=l) (j:=i+k) (y:=l[i+k+1]) (by omega)
  rw [h3] at h2
  have:f l[i+k]<f l[i+k+1]:=by simpa [iLt] using h2
  have e:l[i+(k+1)]=l[i+k+1]:=rfl
  rw [e]
  omega
section
variable {S E A σ:Type}
theorem loopAny (xs:List A) (p:A→Bool) {f:S→Option (Sum S E)} (mk:Int→S) (e:E) (R:Nat→A→E) (hstep:∀i (h:i<xs.length),f (mk (i:Int))=bif p xs[i] then some (.inr (R i xs[i])) else some (.inl (mk ((i+1:Nat):Int)))) (hend:f (mk (xs.length:Int))=some (.inr e)) :
  loopF f (mk 0)=some (match xs.findIdx? p with|some j=>(match xs[j]? with|some x=>R j x|none=>e)|none=>e):=by
 have key:∀(k:Nat),k≤xs.length→(∀j,j<k→∀h:j<xs.length,p xs[j]=false)→loopF f (mk (k:Int))=some (match xs.findIdx? p with|some j=>(match xs[j]? with|some x=>R j x|none=>e)|none=>e):=by
  intro k
  induction hk:xs.length - k generalizing k with
  |zero =>
   intro hle hno
   have:k=xs.length:=by omega
   subst this
   rw [loopF_end hend]
   have:xs.findIdx? p=none:=by
    rw [List.findIdx?_eq_none_iff]
    intro x hx
    obtain ⟨j,hj,rfl⟩:=List.getElem_of_mem hx
    exact hno j hj hj
   rw [this]
  |succ n ih =>
   intro hle hno
   have hlt:k<xs.length:=by omega
   have h1:=hstep k hlt
   cases hp:p xs[k] with
   |true =>
    rw [hp] at h1
    rw [loopF_end h1]
    have:xs.findIdx? p=some k:=by
     rw [List.findIdx?_eq_some_iff_getElem]
     exact ⟨hlt,hp,fun j hj=>by simp [hno j hj (by omega)]⟩
    rw [this]
    simp [hlt]
   |false =>
    rw [hp] at h1
    rw [loopF_step h1]
    exact ih (k+1) (by omega) (by omega) (fun j hj h=>by
     by_cases hjk:j=k
     ·subst hjk;exact hp
     ·exact hno j (by omega) h)
 exact key 0 (Nat.zero_le _) (fun j hj=>by omega)
theorem any_findIdx {xs:List A} {p:A→Bool} {R e:E}:(match xs.findIdx? p with|some j=>(match xs[j]? with|some x=>R|none=>e)|none=>e)=bif xs.any p then R else e:=by
 cases h:xs.findIdx? p with
 |none =>
  rw [List.findIdx?_eq_none_iff] at h
  have:xs.any p=false:=by rw [List.any_eq_false];intro x hx;simp [h x hx]
  rw [this];rfl
 |some j =>
  rw [List.findIdx?_eq_some_iff_getElem] at h
  obtain ⟨hj,hp,_⟩:=h
  have:xs.any p=true:=List.any_eq_true.2 ⟨xs[j],List.getElem_mem hj,hp⟩
  rw [this]
  simp [hj]
theorem loopHas (xs:List A) (p:A→Bool) {f:S→Option (Sum S E)} (mk:Int→S) (e r:E) (hstep:∀i (h:i<xs.length),f (mk (i:Int))=bif p xs[i] then some (.inr r) else some (.inl (mk ((i+1:Nat):Int)))) (hend:f (mk (xs.length:Int))=some (.inr e)) :
  loopF f (mk 0)=some (bif xs.any p then r else e):=(loopAny xs p mk e (fun _ _=>r) hstep hend).trans (congrArg some any_findIdx)
theorem loopAllP (xs:List A) (p:A→Bool) {f:S→Option (Sum S E)} (mk:Int→S) (e r:E) (hstep:∀i (h:i<xs.length),f (mk (i:Int))=bif p xs[i] then some (.inl (mk ((i+1:Nat):Int))) else some (.inr r)) (hend:f (mk (xs.length:Int))=some (.inr e)) :
  loopF f (mk 0)=some (bif xs.all p then e else r):=(loopAll xs (fun _ x=>p x) mk e r hstep hend).trans (by rw [allI_all])
def idxOf (xs:List A) (p:A→Bool):Int:=match xs.findIdx? p with
 |some j=>(j:Int)
 |none=> -1
theorem idxOf_any {xs:List A} {p:A→Bool}:iLe 0 (idxOf xs p)=xs.any p:=by
 unfold idxOf
 cases h:xs.findIdx? p with
 |none =>
  rw [List.findIdx?_eq_none_iff] at h
  have:xs.any p=false:=by rw [List.any_eq_false];intro x hx;simp [h x hx]
  rw [this];rfl
 |some j =>
  rw [List.findIdx?_eq_some_iff_getElem] at h
  obtain ⟨hj,hp,_⟩:=h
  have:xs.any p=true:=List.any_eq_true.2 ⟨xs[j],List.getElem_mem hj,hp⟩
  rw [this]
  simp [iLe]
theorem idxOf_cases (xs:List A) (p:A→Bool):(xs.any p=false∧xs.find? p=none∧idxOf xs p= -1)∨∃j,∃h:j<xs.length,p xs[j]=true∧(∀k (_:k<j) (hk:k<xs.length),p xs[k]=false)∧xs.any p=true∧xs.find? p=some xs[j]∧idxOf xs p=(j:Int):=by
 unfold idxOf
 cases h:xs.findIdx? p with
 |none =>
  rw [List.findIdx?_eq_none_iff] at h
  exact .inl ⟨by rw [List.any_eq_false];intro x hx;simp [h x hx],by rw [List.find?_eq_none];intro x hx;simp [h x hx],rfl⟩
 |some j =>
  rw [List.findIdx?_eq_some_iff_getElem] at h
  obtain ⟨hj,hp,hn⟩:=h
  refine .inr ⟨j,hj,hp,fun k hk hk2=>by simpa using hn k hk,List.any_eq_true.2 ⟨xs[j],List.getElem_mem hj,hp⟩,?_,rfl⟩
  rw [List.find?_eq_some_iff_getElem]
  exact ⟨hp,j,hj,rfl,fun k hk=>by simpa using hn k hk⟩
theorem loopIdx (xs:List A) (p:A→Bool) {f:S→Option (Sum S E)} (mk:Int→S) (e:E) (R:Int→E) (hstep:∀i (h:i<xs.length),f (mk (i:Int))=bif p xs[i] then some (.inr (R (i:Int))) else some (.inl (mk ((i+1:Nat):Int)))) (hend:f (mk (xs.length:Int))=some (.inr e)) :
  loopF f (mk 0)=some (bif xs.any p then R (idxOf xs p) else e):=by
 refine (loopAny xs p mk e (fun i _=>R (i:Int)) hstep hend).trans ?_
 rcases idxOf_cases xs p with ⟨h1,_,h3⟩|⟨j,hj,hp,hn,h1,_,h3⟩
 ·have:xs.findIdx? p=none:=by rw [List.findIdx?_eq_none_iff];intro x hx;rw [List.any_eq_false] at h1;simpa using h1 x hx
  rw [this,h1];rfl
 ·have:xs.findIdx? p=some j:=by rw [List.findIdx?_eq_some_iff_getElem];exact ⟨hj,hp,fun k hk=>by simp [hn k hk (by omega)]⟩
  rw [this,h1,h3]
  simp [hj]
theorem loopFindV (xs:List A) (p:A→Bool) {f:S→Option (Sum S E)} (mk:Int→S) (e:E) (R:A→E) (hstep:∀i (h:i<xs.length),f (mk (i:Int))=bif p xs[i] then some (.inr (R xs[i])) else some (.inl (mk ((i+1:Nat):Int)))) (hend:f (mk (xs.length:Int))=some (.inr e)) :
  loopF f (mk 0)=some (match xs.find? p with|some x=>R x|none=>e):=by
 refine (loopAny xs p mk e (fun _ x=>R x) hstep hend).trans ?_
 rcases idxOf_cases xs p with ⟨h1,h2,_⟩|⟨j,hj,hp,hn,_,h2,_⟩
 ·have:xs.findIdx? p=none:=by rw [List.findIdx?_eq_none_iff];intro x hx;rw [List.any_eq_false] at h1;simpa using h1 x hx
  rw [this,h2]
 ·have:xs.findIdx? p=some j:=by rw [List.findIdx?_eq_some_iff_getElem];exact ⟨hj,hp,fun k hk=>by rw [hn k hk (by omega)];decide⟩
  rw [this,h2]
  simp [hj]
theorem loopFold (xs:List A) (step:σ→A→σ) (I:Nat→σ→Prop) {f:S→Option (Sum S E)} (mk:σ→Int→S) (End:σ→E) (s0:σ) (h0:I 0 s0)
  (hstep:∀i (h:i<xs.length) s,I i s→f (mk s (i:Int))=some (.inl (mk (step s xs[i]) ((i+1:Nat):Int)))∧I (i+1) (step s xs[i])) (hend:∀s,I xs.length s→f (mk s (xs.length:Int))=some (.inr (End s))) :
  loopF f (mk s0 0)=some (End (xs.foldl step s0))∧I xs.length (xs.foldl step s0):=by
 have key:∀(suf pre:List A) (s:σ),pre++suf=xs→I pre.length s→loopF f (mk s (pre.length:Int))=some (End (suf.foldl step s))∧I xs.length (suf.foldl step s):=by
  intro suf
  induction suf with
  |nil =>
   intro pre s hp hI
   simp only [List.append_nil] at hp
   subst hp
   exact ⟨loopF_end (hend s hI),hI⟩
  |cons x suf ih =>
   intro pre s hp hI
   have hlt:pre.length<xs.length:=by rw [←hp];simp
   have hx:xs[pre.length]=x:=by
    have:xs[pre.length]?=some x:=by rw [←hp];simp
    rw [List.getElem?_eq_getElem hlt] at this
    simpa using this
   obtain ⟨h1,h2⟩:=hstep pre.length hlt s hI
   rw [hx] at h1 h2
   rw [loopF_step h1]
   have:=ih (pre++ [x]) (step s x) (by simpa using hp) (by simpa using h2)
   simpa using this
 simpa using key xs [] s0 rfl h0
theorem loopFold0 (xs:List A) (step:σ→A→σ) {f:S→Option (Sum S E)} (mk:σ→Int→S) (End:σ→E) (s0:σ)
  (hstep:∀i (h:i<xs.length) s,f (mk s (i:Int))=some (.inl (mk (step s xs[i]) ((i+1:Nat):Int)))) (hend:∀s,f (mk s (xs.length:Int))=some (.inr (End s))) :
  loopF f (mk s0 0)=some (End (xs.foldl step s0)):=(loopFold xs step (fun _ _=>True) mk End s0 trivial (fun i h s _=>⟨hstep i h s,trivial⟩) (fun s _=>hend s)).1
theorem loopCopy (xs:List A) {f:S→Option (Sum S E)} (mk:List A→Int→S) (e:E) (hstep:∀i (h:i<xs.length),f (mk (xs.take i) (i:Int))=some (.inl (mk (xs.take i++ [xs[i]]) ((i+1:Nat):Int)))) (hend:f (mk xs (xs.length:Int))=some (.inr e)):loopF f (mk [] 0)=some e:=by
 have:=loopF_trace (f:=f) (fun i=>mk (xs.take i) (i:Int)) xs.length (e:=e) (fun i hi=>by rw [hstep i hi,List.take_succ_eq_append_getElem hi]) (by rw [List.take_length];exact hend)
 simpa using this
end
theorem room_ok {n b:Nat} (h1:n≤1048577) (h2:b≤1000) (h3:0<b):room n b=true:=by
 unfold room
 refine decide_eq_true ⟨?_,h3⟩
 have:n*b≤1048577*1000:=Nat.mul_le_mul h1 h2
 omega
theorem room_then {A R:Type} {xs:List A} {b:Nat} {t e r:R} (h:xs.length≤1048576) (h2:b≤1000) (h3:0<b) (ht:t=r):(bif room (List.length ([]:List A)+xs.length) b then t else e)=r:=by
 rw [room_ok (by simp;omega) h2 h3];exact ht
theorem room_is {R:Type} {n b:Nat} {t e r:R} (h:n≤1048577) (h2:b≤1000) (h3:0<b) (ht:t=r):(bif room n b then t else e)=r:=by
 rw [room_ok h h2 h3];exact ht
theorem room_one {A R:Type} {xs:List A} {x:A} {i b:Nat} {t e r:R} (h:i<xs.length) (hl:W1 xs.length) (h2:b≤1000) (h3:0<b) (ht:t=r):(bif room (List.length (xs.take i)+List.length [x]) b then t else e)=r:=by
 rw [room_ok (by simp;unfold W1 at hl;omega) h2 h3];exact ht
theorem cut_hi {h n:Nat} {R:Type} {t e r:R} (hle:h≤n) (ht:t=r):(bif cutHi (h:Int) n then t else e)=r:=by
 have:cutHi (h:Int) n=true:=by simp [cutHi,hle]
 rw [this];exact ht
theorem take_nat {A:Type} {xs:List A} {h:Nat}:List.take (Int.toNat (h:Int) - 0) (List.drop 0 xs)=xs.take h:=by simp
theorem nxt {i n:Nat} (h:i<n) (hn:L63 n):iAdd .i64 (i:Int) 1=((i+1:Nat):Int):=iAdd_small (by omega) (by omega)
theorem W1.l {n:Nat} (h:W1 n):L63 n:=Nat.le_trans h (by decide)
theorem pos_else {R:Type} {k:Int} {a b r:R} (h:0≤k) (h2:b=r):(bif iLt k 0 then a else b)=r:=by rw [iLt_false h];exact h2
theorem Ok_of {es:Tys} {xs:List es.D} (hl:xs.length≤9223372036854775807) (h:∀y,y∈xs→es.Ok y):(Ty.sl es).Ok xs:=⟨hl,fun i x hi=>h x (List.mem_of_getElem? hi)⟩
theorem Ok_nil {es:Tys}:(Ty.sl es).Ok []:=⟨Nat.zero_le _,fun i x hi=>by simp [getN] at hi⟩
theorem okAdd (k:IntKind) (n:Int):(Lit.int k (k.wrap n)).wf=true:=by
 cases k<;>simp [Lit.wf,IntKind.wrap,IntKind.min,IntKind.max,IntKind.signed,IntKind.bits]<;>omega
theorem Rwf {n:Int} (h1: -9223372036854775808≤n) (h2:n≤9223372036854775807):(Lit.int .i64 n).wf=true:=by
 simp [Lit.wf,IntKind.min,IntKind.max,IntKind.signed,IntKind.bits]
 omega
theorem wrap_byte (b:UInt8):IntKind.wrap .i64 (UInt8.toNat b:Int)=(UInt8.toNat b:Int):=by
 have:=UInt8.toNat_lt b
 exact wrap64 (by omega) (by omega)
end Go.Tm
/- Marks of any kind: the loops that put them and look for them, as the laws have them, and what they do. -/
namespace Go.Tm
open Go
abbrev MtT:=((Int×Unit)×Unit)→Option ((ByteArray×Unit)×Unit)
section
variable {W:Int→ByteArray} {mt:MtT}
end
end Go.Tm
