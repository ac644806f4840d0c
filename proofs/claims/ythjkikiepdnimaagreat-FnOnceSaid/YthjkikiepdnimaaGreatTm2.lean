/- A machine over plain data, part 2: what it gives is shown to be what the program's functions return. Conditions: none. -/
import Derived.Test.YthjkikiepdnimaaGreatTm1
import Derived.Laws.StructEq
import Derived.Laws.BytesString
import Derived.Laws.Cover3
import Derived.Laws.Slices
import Derived.Great.BuildSlice
import Derived.Laws.MakeOwn
set_option linter.unusedVariables false
/- The pure machine, 13: loads, fields, lengths, numbers. -/
namespace Go.Tm
open Go
section
variable {P:Program} {C:Ctx} {env:Nat→TV} {mu:Mu} {a:Act} {w:World} {g:Gh} {idb:Nat} {R:Type} {Q:Exit→Act→World→Prop}
theorem loadU_ok (hm:MemR P w g mu) {cv:CV} {v:Value} (hv:cv.R P w g mu v) {n:Nat} {K:List CV→Option R} {y:R} (h:loadU mu cv n K=some y) :
  ∃cvs vs b base,K cvs=some y∧cvsR P w g mu cvs vs∧vs.length=n∧v= .pointer (some ⟨b,base,none⟩)∧∀k u,vs[k]?=some u→w.cell? ⟨b,base+k,none⟩=some u:=by
 have fin:∀(cs:List CV) (vs:List Value) (b base off:Nat),cvsR P w g mu cs vs→(∀k u,vs[k]?=some u→w.cell? ⟨b,base+k,none⟩=some u)→off+n≤cs.length→K ((cs.drop off).take n)=some y →
   v= .pointer (some ⟨b,base+off,none⟩) →
   ∃cvs vs b base,K cvs=some y∧cvsR P w g mu cvs vs∧vs.length=n∧v= .pointer (some ⟨b,base,none⟩)∧∀k u,vs[k]?=some u→w.cell? ⟨b,base+k,none⟩=some u:=by
  intro cs vs b base off h1 h2 h3 h4 h5
  have hl:=h1.length
  refine ⟨_,_,b,base+off,h4,All2.take n (All2.drop off h1),by simp;omega,h5,fun k u hk=>?_⟩
  have:=h2 _ _ (All2.getD_drop_take hk)
  rwa [show base+(off+k)=base+off+k by omega] at this
 cases cv<;>simp only [loadU] at h<;>try (cases h;done)
 case ptr id off =>
  obtain ⟨_,b,base,hc,rfl⟩:=hv
  cases hb:mu id with
  |none=>simp [hb] at h
  |some bl =>
   have hbr:=hm id bl hb
   cases bl<;>simp only [hb] at h<;>try (cases h;done)
   case box cs =>
    obtain ⟨b',base',hc',hcs⟩:=hbr
    rw [hc] at hc';cases hc'
    obtain ⟨vs,h1,h2⟩:=box_vs (P:=P) (mu:=mu) cs hcs
    cases hle:Nat.ble (off+n) cs.length with
    |false=>simp [hle] at h
    |true =>
     simp only [hle,cond_true] at h
     exact fin cs vs b base off h1 (fun k u hk=>(h2 k u hk).1) (Nat.le_of_ble_eq_true hle) h rfl
   case rbox es x =>
    obtain ⟨b',base',hc',hcs⟩:=hbr
    rw [hc] at hc';cases hc'
    obtain ⟨vs,h1,h2⟩:=Hs_vs es hcs
    cases hle:Nat.ble (off+n) es.len with
    |false=>simp [hle] at h
    |true =>
     simp only [hle,cond_true] at h
     have hr:=Vs_ros (mu:=mu) es h1
     refine fin _ vs b base off hr (fun k u hk=>(h2 k u hk).1) ?_ h rfl
     rw [hr.length,Vs_len es h1];exact Nat.le_of_ble_eq_true hle
 case rptr es x off =>
  obtain ⟨b,base,rfl,hcs⟩:=hv
  obtain ⟨vs,h1,h2⟩:=Hs_vs es hcs
  cases hle:Nat.ble (off+n) es.len with
  |false=>simp [hle] at h
  |true =>
   simp only [hle,cond_true] at h
   have hr:=Vs_ros (mu:=mu) es h1
   refine fin _ vs b base off hr (fun k u hk=>(h2 k u hk).1) ?_ h rfl
   rw [hr.length,Vs_len es h1];exact Nat.le_of_ble_eq_true hle
 case eptr id sz i off =>
  obtain ⟨_,ad,m,c,hc,hspot,rfl⟩:=hv
  cases hb:mu id with
  |none=>simp [hb] at h
  |some bl =>
   have hbr:=hm id bl hb
   cases bl<;>simp only [hb] at h<;>try (cases h;done)
   case row es ms xs ver =>
    cases hle:(Nat.ble (off+n) es.len&&Nat.beq sz es.len) with
    |false=>simp [hle] at h
    |true =>
     simp only [hle,cond_true] at h
     simp only [Bool.and_eq_true] at hle
     have hsz:=Nat.eq_of_beq_eq_true hle.2
     cases hx:getN xs i with
     |none=>simp [hx] at h
     |some x =>
      simp only [hx,Option.bind_some] at h
      obtain ⟨v',hc',hr⟩:=hbr
      rw [hc] at hc';cases hc'
      obtain ⟨a',c',he,_,hr⟩:=H_own.1 hr
      cases he
      rcases hr with ⟨rfl,_⟩|⟨ad',hea,_,_,hr⟩
      ·simp [getN] at hx
      ·cases hea
       obtain ⟨vs,h1,h2⟩:=Hs_vs es (hr i x hx)
       have h4:=cvs_R (P:=P) (w:=w) (ms0:=ms) hb hc (ad.off+i*es.len) rfl es h1 (by simpa using h2)
       refine fin _ vs ad.block (ad.off+i*es.len) off h4 (fun k u hk=>(h2 k u hk).1) ?_ h (by rw [hsz])
       rw [h4.length,Vs_len es h1];exact Nat.le_of_ble_eq_true hle.1
   case fz es xs =>
    cases hle:(Nat.ble (off+n) es.len&&Nat.beq sz es.len) with
    |false=>simp [hle] at h
    |true =>
     simp only [hle,cond_true] at h
     simp only [Bool.and_eq_true] at hle
     have hsz:=Nat.eq_of_beq_eq_true hle.2
     cases hx:getN xs i with
     |none=>simp [hx] at h
     |some x =>
      simp only [hx,Option.bind_some] at h
      obtain ⟨v',hc',hr⟩:=hbr
      rw [hc] at hc';cases hc'
      obtain ⟨a',c',he,_,hr2⟩:=H_sh.1 hr
      clear hr
      cases he
      rcases hr2 with rfl|⟨ad',hea,_,hr2⟩
      ·simp [getN] at hx
      ·cases hea
       obtain ⟨vs,h1,h2⟩:=Hs_vs es (hr2 i x hx)
       have h4:=Vs_ros (mu:=mu) es h1
       refine fin _ vs ad.block (ad.off+i*es.len) off h4 (fun k u hk=>(h2 k u hk).1) ?_ h (by rw [hsz])
       rw [h4.length,Vs_len es h1];exact Nat.le_of_ble_eq_true hle.1
theorem struct_iff {d:TypeDesc}:tkOf d= .struct↔(∃fs,d= .struct fs)∨isArr d=true:=by
 cases d<;>simp [tkOf,isArr]
theorem op_load (s:OpSt P C env mu a w g idb) {o:Oper} {t:TypeId} {x:Operand} (ho:o.op= .load t x) {K:TV→List (Nat×Blk)→Option R} {y:R} {ti:TI} (ht:C.ty t=some ti) {cv:CV} (hx:evalTV env x= .c cv)
  (h:(loadU mu cv ti.size fun cs=>K (TV.ofCells (match ti.k with| .struct=>true|_=>false) cs) [])=some y):o.wp P a w (Done P w g mu a o.dst K y) Q:=by
 obtain ⟨inf,d,z,h1,h2,h3,h4,harr,h6,h7,h8,h9,h10,h11⟩:=ti_ok (s.ty t ti ht)
 have hv:=evalTV_R s.env x
 rw [hx] at hv
 obtain ⟨cvs,vs,b,base,h,hcv,hlen,hvx,hcell⟩:=loadU_ok s.mem hv h
 have hrun:=run_loadCells_list (P:=P) w ⟨b,base,none⟩ vs (fun j v hj=>by rw [Addr.add_lit];exact hcell j v hj)
 rcases h11 with ⟨fs,hd,hfs,hfl,hag,_⟩|⟨hns,hs1,_,_,harr⟩|⟨n0,e0,ie,hd,_⟩
 ·subst hd
  have hk:ti.k= .struct:=h9
  simp only [hk,TV.ofCells,cond_true] at h
  refine done_pure s (v:= .agg vs.toArray) (tv:= .agg cvs) ?_ h ⟨_,rfl,by simpa using hcv⟩
  rw [hlen,h7] at hrun
  simp [execOp,ho,Instr.loadAt,hvx,Instr.sureAddr,loadVar,isAgg,run_underlying h2,sizeOf,run_typeInfo w h1,hrun]
 ·have hk:(match ti.k with| .struct=>true|_=>false)=false:=by
   rw [h9];cases hd:tkOf d<;>simp
   rcases struct_iff.1 hd with h|h
   ·exact absurd h (by simpa using hns)
   ·rw [harr] at h;cases h
  rw [hk] at h
  rw [h7,hs1] at hlen
  obtain ⟨u,rfl⟩:=List.length_eq_one_iff.1 hlen
  cases cvs with
  |nil=>exact hcv.elim
  |cons cv' r =>
   cases r with
   |cons _ _=>exact hcv.2.elim
   |nil =>
   refine done_pure s (v:=u) (tv:= .c cv') ?_ h hcv.1
   have hc0:=hcell 0 u rfl
   have hagg:(isAgg t).run P w= .ok false w:=by
    simp only [isAgg,Sem.run_bind,run_underlying h2,Result.andThen_ok]
    cases d<;>first|rfl|(simp [isArr] at harr;done)|exact absurd rfl (hns _)
   simp only [Nat.add_zero] at hc0
   simp [execOp,ho,Instr.loadAt,hvx,Instr.sureAddr,loadVar,hagg,hc0]
 ·subst hd
  have hk:ti.k= .struct:=h9
  simp only [hk,TV.ofCells,cond_true] at h
  refine done_pure s (v:= .agg vs.toArray) (tv:= .agg cvs) ?_ h ⟨_,rfl,by simpa using hcv⟩
  rw [hlen,h7] at hrun
  simp [execOp,ho,Instr.loadAt,hvx,Instr.sureAddr,loadVar,isAgg,run_underlying h2,sizeOf,run_typeInfo w h1,hrun]
theorem structFld_ok (hty:∀t ti,C.ty t=some ti→tiOf P t=some ti) {t f off n:Nat} (h:structFld C t f=some (off,n)) :
  ∃fs fd inf,P.underlying t=some (.struct fs)∧fs[f]?=some fd∧fd.offset=off∧P.info? fd.type=some inf∧inf.size=n∧n≠0∧∃d,P.underlying fd.type=some d∧structAg C t f=some (isAggD d):=by
 unfold structFld at h
 cases ht:C.ty t with
 |none=>simp [ht] at h
 |some ti =>
  simp only [ht] at h
  obtain ⟨inf,d,z,h1,h2,h3,h4,harr,h6,h7,h8,h9,h10,h11⟩:=ti_ok (hty t ti ht)
  cases hk:ti.k<;>simp only [hk] at h<;>try (cases h;done)
  rcases h11 with ⟨fs,rfl,hfs,hfl,hag,_⟩|⟨hns,_,hfl,_⟩|⟨_,_,_,_,_,_,_,hfl,hags,_⟩
  ·cases hf:ti.flds[f]? with
   |none=>simp [hf] at h
   |some p =>
    obtain ⟨off',n'⟩:=p
    cases hag0:ti.ags[f]? with
    |none=>simp [hf,hag0] at h
    |some _ =>
    simp only [hf,hag0] at h
    cases hn:Nat.beq n' 0 with
    |true=>simp [hn] at h
    |false =>
     simp only [hn,cond_false,Option.some.injEq,Prod.mk.injEq] at h
     obtain ⟨rfl,rfl⟩:=h
     rw [hfl,List.getElem?_map] at hf
     cases hfd:fs.toList[f]? with
     |none=>simp [hfd] at hf
     |some fd =>
      simp only [hfd,Option.map_some,Option.some.injEq,Prod.mk.injEq] at hf
      obtain ⟨hi,hu⟩:=hfs fd (List.mem_of_getElem? hfd)
      obtain ⟨i,hi⟩:=Option.isSome_iff_exists.1 hi
      obtain ⟨u,hu⟩:=Option.isSome_iff_exists.1 hu
      refine ⟨fs,fd,i,h2,by simpa using hfd,hf.1,hi,by simpa [hi] using hf.2,fun e=>by subst e;simp [Nat.beq_refl] at hn,u,hu,?_⟩
      simp [structAg,ht,hag,hfd,hu]
  ·simp [hfl] at h
  ·simp [hags] at h
theorem op_fieldAddr (s:OpSt P C env mu a w g idb) {o:Oper} {t f:Nat} {x:Operand} (ho:o.op= .fieldAddr t x f) {K:TV→List (Nat×Blk)→Option R} {y:R} {off n:Nat} (hf:structFld C t f=some (off,n)) {cv cv':CV} (hx:evalTV env x= .c cv)
  (hp:∀v,cv.R P w g mu v→∃b base,v= .pointer (some ⟨b,base,none⟩)∧cv'.R P w g mu (.pointer (some ⟨b,base+off,none⟩))) (h:K (.c cv') []=some y):o.wp P a w (Done P w g mu a o.dst K y) Q:=by
 obtain ⟨fs,fd,inf,h1,h2,h3,h4,h5,h6,_⟩:=structFld_ok s.ty hf
 have hv:=evalTV_R s.env x
 rw [hx] at hv
 obtain ⟨b,base,hvx,hr⟩:=hp _ hv
 refine done_pure s (v:= .pointer (some ⟨b,base+off,none⟩)) (tv:= .c cv') ?_ h hr
 have hsz:(sizeOf fd.type).run P w= .ok inf.size w:=by simp [sizeOf,run_typeInfo w h4]
 have hn:inf.size≠0:=by rw [h5];exact h6
 simp [execOp,ho,Instr.fieldAt,run_underlying h1,h2,hvx,Instr.sureAddr,fieldPlace,hsz,hn,h3,Addr.add_lit]
theorem toList_take_drop {α:Type} (xs:Array α) (off n:Nat):(xs.extract off (off+n)).toList=(xs.toList.drop off).take n:=by
 simp
theorem op_field (s:OpSt P C env mu a w g idb) {o:Oper} {t f:Nat} {x:Operand} (ho:o.op= .field t x f) {K:TV→List (Nat×Blk)→Option R} {y:R} {off n:Nat} {ag:Bool} (hf:structFld C t f=some (off,n))
  (hga:structAg C t f=some ag) {vs:List CV} (hx:evalTV env x= .agg vs)
  (h:(bif ag then K (.agg ((vs.drop off).take n)) [] else (match ((vs.drop off).take n) with| [v]=>K (.c v) []|_=>none))=some y):o.wp P a w (Done P w g mu a o.dst K y) Q:=by
 obtain ⟨fs,fd,inf,h1,h2,h3,h4,h5,h6,d,hd,hag⟩:=structFld_ok s.ty hf
 rw [hag] at hga
 cases hga
 have hv:=evalTV_R s.env x
 rw [hx] at hv
 obtain ⟨arr,hvx,hr⟩:=hv
 have hr':=All2.take n (All2.drop off hr)
 have hsz:(sizeOf fd.type).run P w= .ok n w:=by simp [sizeOf,run_typeInfo w h4,h5]
 have hag:(isAgg fd.type).run P w= .ok (isAggD d) w:=by
  simp only [isAgg,Sem.run_bind,run_underlying hd,Result.andThen_ok]
  cases d<;>rfl
 cases hb:isAggD d with
 |true =>
  rw [hb] at h hag
  refine done_pure s (v:= .agg (arr.extract off (off+n))) (tv:= .agg _) ?_ h ⟨_,rfl,by rw [toList_take_drop];exact hr'⟩
  simp [execOp,ho,Instr.field,run_underlying h1,h2,hvx,asAgg,part,hag,hsz,h3]
 |false =>
  rw [hb] at h hag
  simp only [cond_false] at h
  match hl:(vs.drop off).take n,hr',h with
  | [cv],hr',h =>
   match hu:(arr.toList.drop off).take n,hr' with
   | [u],hr' =>
    have h0:arr[off]?=some u:=by
     have:((arr.toList.drop off).take n)[0]?=some u:=by rw [hu];rfl
     have:=All2.getD_drop_take this
     simpa using this
    refine done_pure s (v:=u) (tv:= .c cv) ?_ h hr'.1
    simp [execOp,ho,Instr.field,run_underlying h1,h2,hvx,asAgg,part,hag,h3,h0]
theorem lenU_ok (hm:MemR P w g mu) (hw:Wf w g.o) {cv:CV} {v:Value} (hv:cv.R P w g mu v) {K:Int→Option R} {y:R} (h:lenU mu cv K=some y) (hs:∀s,cv≠ .str s) :
  ∃ad n c,v= .slice ad n c∧K n=some y:=by
 have key:content mu cv (fun _ xs=>K xs.length)=some y→∃ad n c,v= .slice ad n c∧K n=some y:=by
  intro h
  obtain ⟨es,xs,h,⟨ms,q,hh⟩,_⟩:=content_ok hm hw hv h
  cases q with
  |o π =>
   cases ms with
   |own ms=>obtain ⟨a,c,rfl,_⟩:=H_own.1 hh;exact ⟨a,_,c,rfl,h⟩
   |sh=>obtain ⟨a,c,rfl,_⟩:=H_sh.1 hh;exact ⟨a,_,c,rfl,h⟩
  |x=>obtain ⟨a,c,rfl,_⟩:=(H_p (by simp)).1 hh;exact ⟨a,_,c,rfl,h⟩
  |p=>obtain ⟨a,c,rfl,_⟩:=(H_p (by simp)).1 hh;exact ⟨a,_,c,rfl,h⟩
 unfold lenU at h
 split at h
 ·cases (hv:v= .slice none 0 0);exact ⟨none,0,0,rfl,h⟩
 ·exact key h
theorem op_len (s:OpSt P C env mu a w g idb) {o:Oper} {c:Call} (ho:o.op= .call c) (hc:c.callee= .builtin .len) {K:TV→List (Nat×Blk)→Option R} {y:R} {rid i:Nat}
  (h:builtinU C mu idb rid i .len c.argTypes.toList (c.args.toList.map (evalTV env)) K=some y):o.wp P a w (Done P w g mu a o.dst K y) Q:=by
 cases hargs:c.args.toList with
 |nil=>simp [hargs,builtinU] at h
 |cons x r =>
  cases r with
  |cons x2 r=>simp only [hargs,List.map_cons] at h;cases evalTV env x<;>simp [builtinU] at h
  |nil =>
  simp only [hargs,List.map_cons,List.map_nil] at h
  cases hx:evalTV env x<;>simp only [hx,builtinU] at h<;>try (cases h;done)
  case c cv =>
   cases htys:c.argTypes.toList with
   |nil=>simp [htys] at h
   |cons t r =>
    cases r with
    |cons _ _=>simp [htys] at h
    |nil =>
    simp only [htys] at h
    cases ht:C.ty t with
    |none=>simp [ht] at h
    |some ti =>
     simp only [ht] at h
     obtain ⟨inf,d,z,h1,h2,h3,h4,harr,h6,h7,h8,h9,h10,h11⟩:=ti_ok (s.ty t ti ht)
     have hv:=evalTV_R s.env x
     rw [hx] at hv
     have ha0:c.args= #[x]:=by rw [←Array.toList_inj,hargs]
     have ht0:c.argTypes= #[t]:=by rw [←Array.toList_inj,htys]
     have go:∀(n:Int),K (.c (.int .i64 n)) []=some y→(Builtin.len_ #[t] o.type #[a.eval x]).run P w= .ok (goInt n) w→o.wp P a w (Done P w g mu a o.dst K y) Q:=by
      intro n hk hrun
      refine done_pure s (v:=goInt n) (tv:= .c (.int .i64 n)) ?_ hk rfl
      simp [execOp,ho,resolve,hc,ha0,ht0,invoke,builtin,hrun]
     cases hk:ti.k<;>simp only [hk] at h<;>try (cases h;done)
     case str =>
      cases cv with
      |str b =>
       have hd:d= .string:=by rw [hk] at h9;cases d<;>simp [tkOf] at h9 ⊢
       subst hd
       have hv:a.eval x= .string b:=hv
       exact go _ h (by simp [Builtin.len_,run_underlying h2,hv])
      |_=>cases h
     case slice e =>
      have hd:d= .slice e:=by rw [hk] at h9;cases d<;>simp [tkOf] at h9 ⊢;exact h9.symm
      subst hd
      have key:lenU mu cv (fun n=>K (.c (.int .i64 n)) [])=some y→(∀s,cv≠ .str s)→o.wp P a w (Done P w g mu a o.dst K y) Q:=by
       intro h hns
       obtain ⟨ad,n,c',hv,h⟩:=lenU_ok s.mem s.wf hv h hns
       exact go _ h (by simp [Builtin.len_,run_underlying h2,hv])
      cases cv<;>simp only at h<;>first|(cases h;done)|exact key h (by simp)
theorem max_fold (gt:Bool) {k:IntKind}:∀(r:List TV) (vs:List Value) (x n:Int),All2 (TV.R P w g mu) r vs→maxInts k gt x r=some n →
  (vs.foldlM (if gt then Builtin.max2 else Builtin.min2) (.int k x)).run P w= .ok (.int k n) w
 | [],[],x,n,_,h=>by simp only [maxInts,Option.some.injEq] at h;subst h;cases gt<;>rfl
 | [],_::_,_,_,h,_=>h.elim
 |_::_,[],_,_,h,_=>h.elim
 |t::r,v::vs,x,n,hr,h=>by
  cases t with
  |un=>simp [maxInts] at h
  |und=>simp [maxInts] at h
  |agg _=>simp [maxInts] at h
  |tup _=>simp [maxInts] at h
  |c cv =>
   cases cv with
   |int k' b =>
    simp only [maxInts] at h
    split at h
    ·rename_i e
     subst e
     cases (hr.1:v= .int k b)
     have:=max_fold gt r vs _ n hr.2 h
     cases gt with
     |true =>
      simp only [List.foldlM_cons,if_true,Sem.run_bind,Builtin.max2,Sem.run_pure,Result.andThen_ok] at this ⊢
      have e:(if b>x then b else x)=iMax x b:=by unfold iMax iLt;by_cases hlt:x<b<;>simp [hlt]
      rw [e];simpa using this
     |false =>
      simp only [List.foldlM_cons,if_false,Sem.run_bind,Builtin.min2,Sem.run_pure,Result.andThen_ok,Bool.false_eq_true] at this ⊢
      have e:(if b<x then b else x)=iMin x b:=by unfold iMin iLt;by_cases hlt:b<x<;>simp [hlt]
      rw [e];simpa using this
    ·cases h
   |_=>simp [maxInts] at h
theorem evalTVs_R (henv:∀t,(env t).R P w g mu (a.tmps.getD t undef)):∀(xs:List Operand),All2 (TV.R P w g mu) (xs.map (evalTV env)) (xs.map a.eval)
 | []=>trivial
 |x::xs=>⟨evalTV_R henv x,evalTVs_R henv xs⟩
theorem op_maxmin (s:OpSt P C env mu a w g idb) (gt:Bool) {o:Oper} {c:Call} (ho:o.op= .call c) (hc:c.callee= .builtin (if gt then .max else .min)) {K:TV→List (Nat×Blk)→Option R} {y:R} {k:IntKind} {x n:Int} {r:List TV}
  (hargs:c.args.toList.map (evalTV env)= .c (.int k x)::r) (hn:maxInts k gt x r=some n) (h:K (.c (.int k n)) []=some y):o.wp P a w (Done P w g mu a o.dst K y) Q:=by
 have ha:=evalTVs_R s.env c.args.toList
 rw [hargs] at ha
 match hvs:c.args.toList.map a.eval,ha with
 |v::vs,ha =>
  cases (ha.1:v= .int k x)
  have hf:=max_fold (P:=P) (w:=w) gt r vs x n ha.2 hn
  refine done_pure s (v:= .int k n) (tv:= .c (.int k n)) ?_ h rfl
  have hl:(c.args.map a.eval).toList= .int k x::vs:=by simpa using hvs
  cases gt with
  |true=>simp at hc hf;simp [execOp,ho,resolve,hc,invoke,builtin,Builtin.max_,hvs,hf]
  |false=>simp at hc hf;simp [execOp,ho,resolve,hc,invoke,builtin,Builtin.min_,hvs,hf]
end
end Go.Tm
/- The pure machine, 14: numbers, texts, comparisons, conversions. -/
namespace Go.Tm
open Go
section
variable {P:Program} {C:Ctx} {env:Nat→TV} {mu:Mu} {a:Act} {w:World} {g:Gh} {idb:Nat} {R:Type} {Q:Exit→Act→World→Prop}
def BinRun (P:Program) (w:World) (op:BinOp) (t:TypeId) (u v z:Value):Prop :=
 ∀x y:Operand,(do eqGuard op t x y u v;binOp op t u v:Sem Value).run P w= .ok z w
theorem binInt_ok (op:BinOp) (t:TypeId) (k:IntKind) (x y:Int) {K:TV→Option R} {r:R}
  (h:(match op with
   | .add=>K (.c (.int k (iAdd k x y)))
   | .sub=>K (.c (.int k (iSub k x y)))
   | .mul=>K (.c (.int k (iMul k x y)))
   | .quo=>bif iEq y 0 then none else K (.c (.int k (iQuo k x y)))
   | .rem=>bif iEq y 0 then none else K (.c (.int k (iRem x y)))
   | .and=>K (.c (.int k (iAnd k x y)))
   | .or=>K (.c (.int k (iOr k x y)))
   | .xor=>K (.c (.int k (iXor k x y)))
   | .andNot=>K (.c (.int k (iAndNot k x y)))
   | .eql=>K (.c (.bool (iEq x y)))
   | .neq=>K (.c (.bool (!iEq x y)))
   | .lss=>K (.c (.bool (iLt x y)))
   | .leq=>K (.c (.bool (iLe x y)))
   | .gtr=>K (.c (.bool (iLt y x)))
   | .geq=>K (.c (.bool (iLe y x)))
   |_=>none)=some r):∃tv z,K tv=some r∧BinRun P w op t (.int k x) (.int k y) z∧tv.R P w g mu z:=by
 have fin:∀(cv:CV) (z:Value),K (.c cv)=some r→BinRun P w op t (.int k x) (.int k y) z→cv.R P w g mu z →
   ∃tv z,K tv=some r∧BinRun P w op t (.int k x) (.int k y) z∧tv.R P w g mu z:=fun cv z h1 h2 h3=>⟨.c cv,z,h1,h2,h3⟩
 cases op<;>simp only at h<;>try (cases h;done)
 case add=>exact fin _ _ h (fun _ _=>by simp [eqGuard_at_int,binOp,Op.intArith];rfl) rfl
 case sub=>exact fin _ _ h (fun _ _=>by simp [eqGuard_at_int,binOp,Op.intArith];rfl) rfl
 case mul=>exact fin _ _ h (fun _ _=>by simp [eqGuard_at_int,binOp,Op.intArith];rfl) rfl
 case quo =>
  cases hy:iEq y 0 with
  |true=>simp [hy] at h
  |false =>
   simp only [hy,cond_false] at h
   have hy:y≠0:=by simpa [iEq] using hy
   exact fin _ _ h (fun _ _=>by simp [eqGuard_at_int,binOp,Op.intDiv,hy];rfl) rfl
 case rem =>
  cases hy:iEq y 0 with
  |true=>simp [hy] at h
  |false =>
   simp only [hy,cond_false] at h
   have hy:y≠0:=by simpa [iEq] using hy
   exact fin _ _ h (fun _ _=>by simp [eqGuard_at_int,binOp,Op.intDiv,hy];rfl) rfl
 case and=>exact fin _ (.int k (iAnd k x y)) h (fun _ _=>by simp [eqGuard_at_int,binOp,Op.intBits,iAnd]) rfl
 case or=>exact fin _ (.int k (iOr k x y)) h (fun _ _=>by simp [eqGuard_at_int,binOp,Op.intBits,iOr]) rfl
 case xor=>exact fin _ (.int k (iXor k x y)) h (fun _ _=>by simp [eqGuard_at_int,binOp,Op.intBits,iXor]) rfl
 case andNot=>exact fin _ (.int k (iAndNot k x y)) h (fun _ _=>by simp [eqGuard_at_int,binOp,Op.intBits,iAndNot]) rfl
 case eql=>exact fin _ (.bool (iEq x y)) h (fun _ _=>by simp [eqGuard_at_int,binOp,Op.intCmp,iEq];rfl) rfl
 case neq=>exact fin _ (.bool (!iEq x y)) h (fun _ _=>by simp [eqGuard_at_int,binOp,Op.intCmp,iEq];rfl) rfl
 case lss=>exact fin _ (.bool (iLt x y)) h (fun _ _=>by simp [eqGuard_at_int,binOp,Op.intCmp,iLt]) rfl
 case leq=>exact fin _ (.bool (iLe x y)) h (fun _ _=>by simp [eqGuard_at_int,binOp,Op.intCmp,iLe]) rfl
 case gtr=>exact fin _ (.bool (iLt y x)) h (fun _ _=>by simp [eqGuard_at_int,binOp,Op.intCmp,iLt]) rfl
 case geq=>exact fin _ (.bool (iLe y x)) h (fun _ _=>by simp [eqGuard_at_int,binOp,Op.intCmp,iLe]) rfl
theorem binStr_ok (op:BinOp) (t:TypeId) (x y:ByteArray) {K:TV→Option R} {r:R}
  (h:(match op with
   | .add=>bif sRoom x y then K (.c (.str (sApp x y))) else none
   | .eql=>K (.c (.bool (sEq x y)))
   | .neq=>K (.c (.bool (!sEq x y)))
   | .lss=>K (.c (.bool (sLt x y)))
   | .leq=>K (.c (.bool (sLt x y||sEq x y)))
   | .gtr=>K (.c (.bool (!(sLt x y||sEq x y))))
   | .geq=>K (.c (.bool (!sLt x y)))
   |_=>none)=some r):∃tv z,K tv=some r∧BinRun P w op t (.string x) (.string y) z∧tv.R P w g mu z:=by
 have fin:∀(cv:CV) (z:Value),K (.c cv)=some r→BinRun P w op t (.string x) (.string y) z→cv.R P w g mu z →
   ∃tv z,K tv=some r∧BinRun P w op t (.string x) (.string y) z∧tv.R P w g mu z:=fun cv z h1 h2 h3=>⟨.c cv,z,h1,h2,h3⟩
 cases op<;>simp only at h<;>try (cases h;done)
 case add =>
  cases hr:sRoom x y with
  |false=>simp [hr] at h
  |true =>
   simp only [hr,cond_true] at h
   have hr:x.size+y.size≤1099511627776:=by simpa [sRoom] using hr
   have hn:¬(9223372036854775807:Int)<(x.size:Int)+y.size:=by omega
   exact fin _ (.string (sApp x y)) h (fun _ _=>by simp [eqGuard_at_string,binOp,Op.stringOp,hn,sApp]) rfl
 case eql=>exact fin _ (.bool (sEq x y)) h (fun _ _=>by simp [eqGuard_at_string,binOp,Op.stringOp,sEq]) rfl
 case neq=>exact fin _ (.bool (!sEq x y)) h (fun _ _=>by simp [eqGuard_at_string,binOp,Op.stringOp,sEq]) rfl
 case lss=>exact fin _ (.bool (sLt x y)) h (fun _ _=>by simp [eqGuard_at_string,binOp,Op.stringOp,sLt]) rfl
 case leq=>exact fin _ (.bool (sLt x y||sEq x y)) h (fun _ _=>by simp [eqGuard_at_string,binOp,Op.stringOp,sLt,sEq]) rfl
 case gtr=>exact fin _ (.bool (!(sLt x y||sEq x y))) h (fun _ _=>by simp [eqGuard_at_string,binOp,Op.stringOp,sLt,sEq]) rfl
 case geq=>exact fin _ (.bool (!sLt x y)) h (fun _ _=>by simp [eqGuard_at_string,binOp,Op.stringOp,sLt]) rfl
theorem bool_under {t:TypeId} (hty:∀t ti,C.ty t=some ti→tiOf P t=some ti) (h:(match C.ty t with|some ti=>ti.k|none=> .other)= .bool):P.underlying t=some .bool:=by
 cases ht:C.ty t with
 |none=>simp [ht] at h
 |some ti =>
  simp only [ht] at h
  obtain ⟨inf,d,z,h1,h2,h3,h4,harr,h6,h7,h8,h9,_⟩:=ti_ok (hty t ti ht)
  rw [h] at h9
  rw [h2]
  cases d<;>simp [tkOf] at h9 ⊢
theorem slice_under {t e:TypeId} (hty:∀t ti,C.ty t=some ti→tiOf P t=some ti) (h:(match C.ty t with|some ti=>ti.k|none=> .other)= .slice e):P.underlying t=some (.slice e):=by
 cases ht:C.ty t with
 |none=>simp [ht] at h
 |some ti =>
  simp only [ht] at h
  obtain ⟨inf,d,z,h1,h2,h3,h4,harr,h6,h7,h8,h9,_⟩:=ti_ok (hty t ti ht)
  rw [h] at h9
  rw [h2]
  cases d<;>simp [tkOf] at h9 ⊢
  exact h9.symm
theorem eqLeaf_ok {t:TypeId} {d:Nat} {k:TK} {x y:CV} {u v:Value} {c:Bool} (h:eqCV k x y=some c) (hx:x.R P w g mu u) (hy:y.R P w g mu v) {ty:TypeDesc} (ht:P.underlying t=some ty) (hk:tkOf ty=k) :
  (Op.equalIn (d+1) t u v).run P w= .ok c w:=by
 subst hk
 cases ty with
 |int q =>
  cases x with
  |int k1 a =>
   cases y with
   |int k2 b =>
    simp only [tkOf,eqCV] at h
    split at h
    ·rename_i e
     obtain ⟨rfl,rfl⟩:=e
     cases h
     cases (hx:u= .int q a);cases (hy:v= .int q b)
     rw [run_equalIn_int w d t q q a b ht]
     rfl
    ·cases h
   |_=>simp [tkOf,eqCV] at h
  |_=>simp [tkOf,eqCV] at h
 |bool =>
  cases x with
  |bool a =>
   cases y with
   |bool b =>
    simp only [tkOf,eqCV,Option.some.injEq] at h
    subst h
    cases (hx:u= .bool a);cases (hy:v= .bool b)
    rw [run_equalIn_bool' w d t a b ht];rfl
   |_=>simp [tkOf,eqCV] at h
  |_=>simp [tkOf,eqCV] at h
 |string =>
  cases x with
  |str a =>
   cases y with
   |str b =>
    simp only [tkOf,eqCV,Option.some.injEq] at h
    subst h
    cases (hx:u= .string a);cases (hy:v= .string b)
    rw [run_equalIn_string w d t a b ht];rfl
   |_=>simp [tkOf,eqCV] at h
  |_=>simp [tkOf,eqCV] at h
 |_=>simp [tkOf,eqCV] at h
theorem eqFields_ok {d:Nat}:∀(fs:List Field) (i:Nat) (ks:List TK) (A B:List CV) {xs ys:Array Value} {c:Bool},flatFs P fs i=true→ks=fs.map (fun f=>((P.underlying f.type).map tkOf).getD .other)→eqCVs ks A B=some c →
  (∀j cv,A[j]?=some cv→∃u,xs[i+j]?=some u∧cv.R P w g mu u)→(∀j cv,B[j]?=some cv→∃u,ys[i+j]?=some u∧cv.R P w g mu u) →
  (Op.eqFields (d+1) xs ys fs).run P w= .ok c w
 | [],i,ks,A,B,xs,ys,c,hf,hk,h,hA,hB=>by
  subst hk
  cases A<;>cases B<;>simp [eqCVs] at h
  subst h;simp [Op.eqFields]
 |f::fs,i,ks,A,B,xs,ys,c,hf,hk,h,hA,hB=>by
  subst hk
  simp only [flatFs,Bool.and_eq_true,Bool.not_eq_true',beq_eq_false_iff_ne] at hf
  obtain ⟨⟨⟨hname,hoff⟩,hty⟩,hfs⟩:=hf
  have hoff:=Nat.eq_of_beq_eq_true hoff
  cases hu:P.underlying f.type with
  |none=>simp [hu] at hty
  |some ty =>
   cases A with
   |nil=>simp [eqCVs] at h
   |cons x A =>
    cases B with
    |nil=>simp [eqCVs] at h
    |cons y B =>
     simp only [List.map_cons,eqCVs,hu,Option.map_some,Option.getD_some] at h
     obtain ⟨u,hxu,hxr⟩:=hA 0 x rfl
     obtain ⟨v,hyv,hyr⟩:=hB 0 y rfl
     simp only [Nat.add_zero] at hxu hyv
     have hpu:∀{zs:Array Value} {u:Value},zs[i]?=some u→(part f.type zs f.offset).run P w= .ok u w:=by
      intro zs u hz
      have hag:(isAgg f.type).run P w= .ok false w:=by
       simp only [isAgg,Sem.run_bind,run_underlying hu,Result.andThen_ok]
       cases ty<;>first|rfl|(simp [hu] at hty;done)
      simp [part,hag,hoff,hz]
     cases hc:eqCV (tkOf ty) x y with
     |none=>simp [hc] at h
     |some c0 =>
      simp only [hc] at h
      have heq:=eqLeaf_ok (d:=d) hc hxr hyr hu rfl
      have rest:∀c1,eqCVs (fs.map fun f=>((P.underlying f.type).map tkOf).getD .other) A B=some c1→(Op.eqFields (d+1) xs ys fs).run P w= .ok c1 w:=fun c1 h1 =>
       eqFields_ok fs (i+1) _ A B hfs rfl h1 (fun j cv hj=>by have:=hA (j+1) cv (by simpa using hj);rwa [show i+(j+1)=i+1+j by omega] at this)
        (fun j cv hj=>by have:=hB (j+1) cv (by simpa using hj);rwa [show i+(j+1)=i+1+j by omega] at this)
      have hstep:∀c1,eqCVs (fs.map fun f=>((P.underlying f.type).map tkOf).getD .other) A B=some c1→(Op.eqFields (d+1) xs ys (f::fs)).run P w= .ok (c0&&c1) w:=by
       intro c1 h1
       simp only [Op.eqFields,hname,ne_eq,not_false_eq_true,if_true,Sem.run_bind,hpu hxu,hpu hyv,Result.andThen_ok,heq]
       cases c0
       ·simp
       ·simpa using rest c1 h1
      cases fs with
      |nil =>
       cases A<;>cases B<;>simp at h
       subst h
       simpa using hstep true rfl
      |cons f2 fs =>
       simp only [List.map_cons] at h
       cases hr:eqCVs (((P.underlying f2.type).map tkOf).getD .other::fs.map fun f=>((P.underlying f.type).map tkOf).getD .other) A B with
       |none=>rw [hr] at h;cases h
       |some c1 =>
        rw [hr] at h
        cases h
        exact hstep c1 hr
theorem nilEq_ok {t e:TypeId} (hm:MemR P w g mu) (hw:Wf w g.o) (ht:P.underlying t=some (.slice e)) {cv:CV} {v:Value} (hv:cv.R P w g mu v) {K:Bool→Option R} {r:R} (h:nilEq mu cv K=some r) (hs:∀s,cv≠ .str s) :
  ∃b,K b=some r∧BinRun P w .eql t v (.slice none 0 0) (.bool b)∧BinRun P w .neq t v (.slice none 0 0) (.bool (!b)):=by
 have go:∀(ad:Option Addr) (n c:Nat),BinRun P w .eql t (.slice ad n c) (.slice none 0 0) (.bool ad.isNone)∧BinRun P w .neq t (.slice ad n c) (.slice none 0 0) (.bool (!ad.isNone)):=by
  intro ad n c
  have he:=run_equal_slice_nil (P:=P) w t e ad n c ht
  exact ⟨fun _ _=>by simp only [eqGuard_at_slice,binOp,Sem.run_bind,Sem.run_pure,Result.andThen_ok,he],
   fun _ _=>by simp only [eqGuard_at_slice,binOp,Sem.run_bind,Sem.run_pure,Result.andThen_ok,he]⟩
 have key:(content mu cv fun _ xs=>bif xs.isEmpty then both (K true) (K false) else K false)=some r →
   ∃b,K b=some r∧BinRun P w .eql t v (.slice none 0 0) (.bool b)∧BinRun P w .neq t v (.slice none 0 0) (.bool (!b)):=by
  intro h
  obtain ⟨es,xs,h,⟨ms,q,hh⟩,_⟩:=content_ok hm hw hv h
  have hsl:∃ad c,v= .slice ad xs.length c∧(xs≠ []→∃p,ad=some p):=by
   cases q with
   |o π =>
    cases ms with
    |own ms=>obtain ⟨a,c,rfl,_,h⟩:=H_own.1 hh;exact ⟨a,c,rfl,fun hne=>by rcases h with h|⟨p,h,_⟩;exact absurd h.1 hne;exact ⟨p,h⟩⟩
    |sh=>obtain ⟨a,c,rfl,_,h⟩:=H_sh.1 hh;exact ⟨a,c,rfl,fun hne=>by rcases h with h|⟨p,h,_⟩;exact absurd h hne;exact ⟨p,h⟩⟩
   |x=>obtain ⟨a,c,rfl,_,h⟩:=(H_p (by simp)).1 hh;exact ⟨a,c,rfl,fun hne=>by rcases h with h|⟨p,h,_⟩;exact absurd h hne;exact ⟨p,h⟩⟩
   |p=>obtain ⟨a,c,rfl,_,h⟩:=(H_p (by simp)).1 hh;exact ⟨a,c,rfl,fun hne=>by rcases h with h|⟨p,h,_⟩;exact absurd h hne;exact ⟨p,h⟩⟩
  obtain ⟨ad,c,rfl,had⟩:=hsl
  cases xs with
  |nil =>
   simp only [List.isEmpty_nil,cond_true] at h
   unfold both at h
   split at h
   ·rename_i e
    refine ⟨ad.isNone,?_,go ad _ c⟩
    cases ad with
    |none=>exact h
    |some _=>show K false=some r;rw [←e];exact h
   ·cases h
  |cons x xs =>
   simp only [List.isEmpty_cons,cond_false] at h
   obtain ⟨p,rfl⟩:=had (by simp)
   exact ⟨false,h,go (some p) _ c⟩
 unfold nilEq at h
 split at h
 ·cases (hv:v= .slice none 0 0);exact ⟨true,h,go none 0 0⟩
 ·exact key h
theorem binU_ok (hty:∀t ti,C.ty t=some ti→tiOf P t=some ti) (hm:MemR P w g mu) (hw:Wf w g.o) {t:TypeId} {op:BinOp} {tx ty:TV} {u v:Value} (hx:tx.R P w g mu u) (hy:ty.R P w g mu v) {K:TV→Option R} {r:R}
  (h:binU mu (match C.ty t with|some ti=>ti.k|none=> .other) (match C.ty t with|some ti=>ti.eq|none=>none) op tx ty K=some r):∃tv z,K tv=some r∧BinRun P w op t u v z∧tv.R P w g mu z:=by
 unfold binU at h
 split at h
 ·rename_i k x k' y
  cases (hx:u= .int k x)
  cases (hy:v= .int k' y)
  split at h
  ·cases hn:iLt y 0 with
   |true=>simp [hn] at h
   |false =>
    simp only [hn,cond_false] at h
    have hn:¬y<0:=by simpa [iLt] using hn
    exact ⟨_,.int k (iShl k x y),h,fun _ _=>by simp [eqGuard_at_int,binOp,Op.shift,hn,iShl],rfl⟩
  ·cases hn:iLt y 0 with
   |true=>simp [hn] at h
   |false =>
    simp only [hn,cond_false] at h
    have hn:¬y<0:=by simpa [iLt] using hn
    exact ⟨_,.int k (iShr k x y),h,fun _ _=>by simp [eqGuard_at_int,binOp,Op.shift,hn,iShr],rfl⟩
  ·split at h
   ·rename_i e
    subst e
    exact binInt_ok op t k x y h
   ·cases h
 ·rename_i x y
  cases (hx:u= .string x)
  cases (hy:v= .string y)
  exact binStr_ok op t x y h
 ·rename_i x y
  cases (hx:u= .bool x)
  cases (hy:v= .bool y)
  split at h
  ·rename_i hk
   have ht:=bool_under hty hk
   split at h
   ·exact ⟨_,.bool (bEq x y),h,fun _ _=>by simp only [eqGuard_at_bool,Sem.run_bind,Sem.run_pure,Result.andThen_ok,run_eql_bool w t x y ht];rfl,rfl⟩
   ·exact ⟨_,.bool (!bEq x y),h,fun _ _=>by simp only [eqGuard_at_bool,Sem.run_bind,Sem.run_pure,Result.andThen_ok,run_neq_bool w t x y ht];rfl,rfl⟩
   ·cases h
  ·cases h
 ·rename_i A B
  obtain ⟨as,rfl,hA⟩:=hx
  obtain ⟨bs,rfl,hB⟩:=hy
  cases ht:C.ty t with
  |none=>simp [ht] at h
  |some ti =>
   simp only [ht] at h
   cases hq:ti.eq with
   |none=>simp [hq] at h
   |some ks =>
    simp only [hq] at h
    obtain ⟨inf,d,z,h1,h2,h3,h4,harr,h6,h7,h8,h9,h10,h11⟩:=ti_ok (hty t ti ht)
    rcases h11 with ⟨fs,rfl,hfs,hfl,hag,heq⟩|⟨_,_,_,heq,_⟩|⟨_,_,_,_,_,_,_,_,_,heq⟩
    ·rw [hq] at heq
     cases hall:(flatFs P fs.toList 0&&Nat.beq fs.toList.length inf.size&& !P.stoodInHeld t&& !P.eqGuardType P.depth t) with
     |false=>rw [hall] at heq;cases heq
     |true =>
      rw [hall] at heq
      simp only [cond_true,Option.some.injEq] at heq
      simp only [Bool.and_eq_true,Bool.not_eq_true'] at hall
      obtain ⟨⟨⟨hflat,_⟩,hst⟩,hgd⟩:=hall
      have hfo:P.fieldsOf t=fs:=by simp [Program.fieldsOf,h2]
      have run:∀c,eqCVs ks A B=some c→(Op.equalIn 10000 t (.agg as) (.agg bs)).run P w= .ok c w:=by
       intro c hc
       rw [run_equalIn_agg w 9999 t as bs (by rw [hfo];exact h2) hst,hfo]
       refine eqFields_ok (g:=g) (mu:=mu) (d:=9998) fs.toList 0 ks A B hflat heq hc (fun j cv hj=>?_) (fun j cv hj=>?_)
       ·obtain ⟨u,hu,hr⟩:=All2.get j cv hA hj;exact ⟨u,by simpa using hu,hr⟩
       ·obtain ⟨u,hu,hr⟩:=All2.get j cv hB hj;exact ⟨u,by simpa using hu,hr⟩
      split at h
      ·cases hc:eqCVs ks A B with
       |none=>simp [hc] at h
       |some c =>
        simp only [hc] at h
        exact ⟨_,.bool c,h,fun x y=>by simp only [Sem.run_bind,run_eqGuard_agg w _ t x y as bs hgd,Result.andThen_ok,run_eql_struct,run c hc],rfl⟩
      ·cases hc:eqCVs ks A B with
       |none=>simp [hc] at h
       |some c =>
        simp only [hc] at h
        exact ⟨_,.bool (!c),h,fun x y=>by simp only [Sem.run_bind,run_eqGuard_agg w _ t x y as bs hgd,Result.andThen_ok,run_neq_struct,run c hc],rfl⟩
      ·cases h
    ·rw [hq] at heq;cases heq
    ·rw [hq] at heq;cases heq
 ·rename_i cv
  cases (hy:v= .slice none 0 0)
  split at h
  ·rename_i e hk
   have ht:=slice_under hty hk
   have hns:∀s,cv≠ .str s:=by
    intro s e;subst e
    split at h<;>first|(simp [nilEq,content] at h;done)|cases h
   split at h
   ·obtain ⟨b,h,h1,h2⟩:=nilEq_ok hm hw ht hx h hns
    exact ⟨_,_,h,h1,rfl⟩
   ·obtain ⟨b,h,h1,h2⟩:=nilEq_ok hm hw ht hx h hns
    exact ⟨_,_,h,h2,rfl⟩
   ·cases h
  ·cases h
 ·cases h
theorem op_bin (s:OpSt P C env mu a w g idb) {o:Oper} {t t2:TypeId} {op:BinOp} {x y:Operand} (ho:o.op= .binOp op t x y t2) {K:TV→List (Nat×Blk)→Option R} {r:R}
  (h:binU mu (match C.ty t with|some ti=>ti.k|none=> .other) (match C.ty t with|some ti=>ti.eq|none=>none) op (evalTV env x) (evalTV env y) (fun v=>K v [])=some r):o.wp P a w (Done P w g mu a o.dst K r) Q:=by
 obtain ⟨tv,z,h,hr,hz⟩:=binU_ok s.ty s.mem s.wf (evalTV_R s.env x) (evalTV_R s.env y) h
 refine done_pure s (v:=z) (tv:=tv) ?_ h hz
 have:=hr x y
 simp only [execOp,ho,Sem.run_bind] at this ⊢
 rw [this]
 rfl
end
end Go.Tm
/- The pure machine, 15: whose things are is told anew. -/
namespace Go.Tm
open Go
def re (f:Nat→List Nat→Own):Own→Own
 | .o (id::s)=>f id s
 | .o []=> .x
 |q=>q
def ext (q:Own) (s:List Nat):Own :=
 match q with
 | .o π=> .o (π++s)
 | .p=> .p
 | .x=> .x
section
variable {P:Program} {C:Ctx} {env:Nat→TV} {mu:Mu} {a:Act} {w w':World} {g g':Gh} {idb:Nat} {f:Nat→List Nat→Own} {T:Nat→Prop}
structure Mvd (w:World) (g:Gh) (w':World) (g':Gh) (f:Nat→List Nat→Own) (Wr:Nat→Nat→Prop):Prop where
 keep:∀b k v,w.cell? ⟨b,k,none⟩=some v→¬Wr b k→w'.cell? ⟨b,k,none⟩=some v
 there:∀b k v,w.cell? ⟨b,k,none⟩=some v→∃v',w'.cell? ⟨b,k,none⟩=some v'
 own:∀b k v,w.cell? ⟨b,k,none⟩=some v→g'.o b k=re f (g.o b k)
 wr:∀b k,Wr b k→∃id,g.o b k= .o [id]
theorem Mvd.perm {Wr:Nat→Nat→Prop} (h:Mvd w g w' g' f Wr):PermKeep w g.o w' g'.o:=fun b k v hv ho =>
 ⟨h.keep b k v hv (fun hw=>by obtain ⟨id,e⟩:=h.wr b k hw;rw [ho] at e;cases e),by rw [h.own b k v hv,ho];rfl⟩
theorem Mvd.rl {Wr:Nat→Nat→Prop} (h:Mvd w g w' g' f Wr) {id:Nat} {l:List Nat} {q:Own} (hq:q≠ .x) (hf:∀s,f id (l++s)=ext q s) (hw:∀b k,Wr b k→∀s,g.o b k≠ .o (id::l++s)) :
  Rl w g.o w' g'.o (.o (id::l)) q:=by
 have key:∀b k s v,w.cell? ⟨b,k,none⟩=some v→g.o b k= .o (id::l++s)→w'.cell? ⟨b,k,none⟩=some v∧g'.o b k=ext q s:=fun b k s v hv ho =>
  ⟨h.keep b k v hv (fun hw'=>hw b k hw' s ho),by rw [h.own b k v hv,ho,List.cons_append];exact hf s⟩
 cases q with
 |x=>exact absurd rfl hq
 |p=>exact .inr ⟨rfl,key⟩
 |o π=>exact .inl ⟨π,rfl,key⟩
open Classical in
noncomputable def allocG (w:World) (g:Gh) (idb n:Nat) (f:Nat→List Nat→Own) (v:Value):Gh :=
 ⟨fun b k=>if b=w.heap.size then (if k<n then .o [idb] else .x) else re f (g.o b k),fun id=>if id=idb then .row v else g.c id⟩
theorem alloc_mvd {vals:List Value} {t:TypeId} {v:Value}:Mvd w g (w.alloc (.cells vals.toArray t)) (allocG w g idb vals.length f v) f (fun _ _=>False) where
 keep b k v hv _:=by rw [World.cell?_alloc_lt w _ ⟨b,k,none⟩ (cell_lt hv)];exact hv
 there b k v hv:=⟨v,by rw [World.cell?_alloc_lt w _ ⟨b,k,none⟩ (cell_lt hv)];exact hv⟩
 own b k v hv:=by
  have:=cell_lt hv
  show (if b=w.heap.size then _ else _)=_
  rw [if_neg (by omega)]
 wr b k h:=h.elim
theorem re_ne (hf:∀id s,f id s≠ .o []) {q:Own}:re f q≠ .o []:=by
 cases q with
 |x=>intro h;cases h
 |p=>intro h;cases h
 |o π=>cases π with
  |nil=>intro h;cases h
  |cons id s=>exact hf id s
theorem re_o {q:Own} {π:List Nat} (h:re f q= .o π):∃id s,q= .o (id::s)∧f id s= .o π:=by
 cases q with
 |x=>cases h
 |p=>cases h
 |o p=>cases p with
  |nil=>cases h
  |cons id s=>exact ⟨id,s,rfl,h⟩
theorem alloc_nxt (hw:Wf w g.o) (hown:∀b k id s,g.o b k= .o (id::s)→mu id≠none) {vals:List Value} {t:TypeId} {v:Value} {ms:List (Nat×Blk)} (hidb:mu idb=none)
  (hT:∀id s,¬T id→f id s= .o (id::s)) (hf:∀id s,f id s≠ .o []) (hfo:∀id s p l,mu id≠none→f id s= .o (p::l)→updL mu ms p≠none) (hi:updL mu ms idb≠none)
  (hms:∀id,¬T id→mu id≠none→∀b,(id,b)∉ms) (hv:∀id es ms' xs ver,T id→mu id≠none→updL mu ms id≠some (.row es ms' xs ver))
  (hb:∀id b,(T id∨mu id=none)→updL mu ms id=some b→b.R P (w.alloc (.cells vals.toArray t)) (allocG w g idb vals.length f v) (updL mu ms) id) :
  Nxt P w g mu (w.alloc (.cells vals.toArray t)) (allocG w g idb vals.length f v) (updL mu ms):=by
 have hm:Mvd w g (w.alloc (.cells vals.toArray t)) (allocG w g idb vals.length f v) f (fun _ _=>False):=alloc_mvd
 refine ⟨T,⟨fun b k u hu hn=>⟨hm.keep b k u hu id,?_⟩,fun id h=>?_,fun id h=>updL_some h,fun id h h2=>updL_none fun b hb'=>hms id h h2 b hb',fun id es ms' xs ver h1 h2 h3=>absurd h3 (hv id es ms' xs ver h1 h2)⟩,?_,?_,?_,hb⟩
 ·rw [hm.own b k u hu]
  cases hq:g.o b k with
  |x=>rfl
  |p=>rfl
  |o π=>cases π with
   |nil=>exact absurd hq (hw.ne b k)
   |cons id s=>exact hT id s (hn id s hq)
 ·show (if id=idb then _ else _)=_
  rw [if_neg (fun (e:id=idb)=>h (e▸hidb))]
 ·refine ⟨rfl,rfl,rfl,by simp,fun b hlt _=>?_,fun b k u hu hn=>⟨hm.keep b k u hu id,?_⟩,hm.there,fun b k hlt=>World.frozen?_alloc_old w _ ⟨b,k,none⟩ (by simp;omega)⟩
  ·simp only [World.alloc,Array.getElem?_push]
   rw [if_neg (by omega)]
  ·rw [hm.own b k u hu]
   cases hq:g.o b k with
   |x=>rfl
   |p=>rfl
   |o π=>exact absurd hq (hn π)
 ·refine ⟨fun b k π h=>?_,fun b k h=>?_⟩
  ·have h':(if b=w.heap.size then (if k<vals.length then Own.o [idb] else .x) else re f (g.o b k))= .o π:=h
   clear h
   split at h'
   ·rename_i e;subst e
    split at h'
    ·rename_i hk
     refine ⟨⟨vals[k],?_⟩,fun j=>by simp⟩
     rw [World.cell?_alloc_new];simp [hk]
    ·cases h'
   ·rename_i hne
    obtain ⟨id,s,hq,_⟩:=re_o h'
    obtain ⟨⟨u,hu⟩,hfz⟩:=hw.cell b k _ hq
    exact ⟨⟨u,hm.keep b k u hu (fun x=>x)⟩,fun j=>by rw [World.frozen?_alloc_old w _ ⟨b,j,none⟩ hne];exact hfz j⟩
  ·have h':(if b=w.heap.size then (if k<vals.length then Own.o [idb] else .x) else re f (g.o b k))= .o []:=h
   split at h'
   ·split at h'<;>cases h'
   ·exact re_ne hf h'
 ·intro b k id l h
  have h':(if b=w.heap.size then (if k<vals.length then Own.o [idb] else .x) else re f (g.o b k))= .o (id::l):=h
  split at h'
  ·split at h'
   ·cases h';exact hi
   ·cases h'
  ·obtain ⟨id',s,hq,hfe⟩:=re_o h'
   exact hfo id' s id l (hown b k id' s hq) hfe
theorem set_mvd {b0 off:Nat} {vs:List Value} {c':Nat→Conc} (hw:Wf w g.o) {id0:Nat} (hown:∀k,k<vs.length→g.o b0 (off+k)= .o [id0]) :
  Mvd w g (w.setCells b0 off vs) ⟨fun b k=>re f (g.o b k),c'⟩ f (fun b k=>b=b0∧off≤k∧k<off+vs.length) where
 keep b k v hv hn:=by
  rw [World.cell?_setCells_out b0 vs off w ⟨b,k,none⟩ (fun h1 _=>by
   have h1:b=b0:=h1
   show k<off∨off+vs.length≤k
   have:=fun h2 h3=>hn ⟨h1,h2,h3⟩
   omega)]
  exact hv
 there b k v hv:=by
  by_cases h:b=b0∧off≤k∧k<off+vs.length
  ·obtain ⟨rfl,h1,h2⟩:=h
   have:=World.cell?_setCells_in b vs off w (fun j hj=>by
    obtain ⟨⟨u,hu⟩,_⟩:=hw.cell _ _ _ (hown j hj);simp [hu]) (k - off) (by omega)
   rw [show off+(k - off)=k by omega] at this
   exact ⟨_,this⟩
  ·exact ⟨v,by
    rw [World.cell?_setCells_out b0 vs off w ⟨b,k,none⟩ (fun h1 _=>by
     have h1:b=b0:=h1
     show k<off∨off+vs.length≤k
     have:=fun h2 h3=>h ⟨h1,h2,h3⟩
     omega)]
    exact hv⟩
 own b k v hv:=rfl
 wr b k h:=⟨id0,by
  obtain ⟨rfl,h1,h2⟩:=h
  have:=hown (k - off) (by omega)
  rwa [show off+(k - off)=k by omega] at this⟩
theorem setCells_facts (b0:Nat):∀(vs:List Value) (off:Nat) (w:World),(w.setCells b0 off vs).os=w.os∧(w.setCells b0 off vs).tape=w.tape∧(w.setCells b0 off vs).output=w.output∧(w.setCells b0 off vs).heap.size=w.heap.size ∧
  (∀b,b≠b0→(w.setCells b0 off vs).heap[b]?=w.heap[b]?)
 | [],_,_=>⟨rfl,rfl,rfl,rfl,fun _ _=>rfl⟩
 |v::vs,off,w=>by
  obtain ⟨h1,h2,h3,h4,h5⟩:=setCells_facts b0 vs (off+1) (w.setCell ⟨b0,off,none⟩ v)
  refine ⟨h1,h2,h3,by rw [World.setCells,h4,World.size_setCell],fun b hb=>?_⟩
  rw [World.setCells,h5 b hb]
  simp only [World.setCell,Array.getElem?_modify]
  rw [if_neg (fun e=>hb e.symm)]
theorem set_nxt (hw:Wf w g.o) (hown:∀b k id s,g.o b k= .o (id::s)→mu id≠none) {b0 off:Nat} {vs:List Value} {c':Nat→Conc} {id0:Nat} (hT0:vs≠ []→T id0) (hcell:∀k,k<vs.length→g.o b0 (off+k)= .o [id0]) {ms:List (Nat×Blk)}
  (hc':∀id,mu id≠none→c' id=g.c id)
  (hT:∀id s,¬T id→f id s= .o (id::s)) (hf:∀id s,f id s≠ .o []) (hfo:∀id s p l,mu id≠none→f id s= .o (p::l)→updL mu ms p≠none)
  (hms:∀id,¬T id→mu id≠none→∀b,(id,b)∉ms) (hv:∀id es ms' xs ver,T id→mu id≠none→updL mu ms id=some (.row es ms' xs ver)→∃es' ms2 xs' ver',mu id=some (.row es' ms2 xs' ver')∧ver'<ver)
  (hb:∀id b,(T id∨mu id=none)→updL mu ms id=some b→b.R P (w.setCells b0 off vs) ⟨fun b k=>re f (g.o b k),c'⟩ (updL mu ms) id) :
  Nxt P w g mu (w.setCells b0 off vs) ⟨fun b k=>re f (g.o b k),c'⟩ (updL mu ms):=by
 have hm:Mvd w g (w.setCells b0 off vs) ⟨fun b k=>re f (g.o b k),c'⟩ f (fun b k=>b=b0∧off≤k∧k<off+vs.length):=set_mvd hw hcell
 obtain ⟨h1,h2,h3,h4,h5⟩:=setCells_facts b0 vs off w
 have hnw:∀b k,(∀id s,g.o b k= .o (id::s)→¬T id)→¬(b=b0∧off≤k∧k<off+vs.length):=by
  rintro b k hn ⟨rfl,h6,h7⟩
  have:=hcell (k - off) (by omega)
  rw [show off+(k - off)=k by omega] at this
  exact hn _ _ this (hT0 (by intro e;rw [e] at h7;simp at h7;omega))
 refine ⟨T,⟨fun b k u hu hn=>⟨hm.keep b k u hu (hnw b k hn),?_⟩,hc',fun id h=>updL_some h,fun id h h2=>updL_none fun b hb'=>hms id h h2 b hb',hv⟩,?_,?_,?_,hb⟩
 ·show re f (g.o b k)=_
  cases hq:g.o b k with
  |x=>rfl
  |p=>rfl
  |o π=>cases π with
   |nil=>exact absurd hq (hw.ne b k)
   |cons id s=>exact hT id s (hn id s hq)
 ·refine ⟨h1,h2,h3,by rw [h4];exact Nat.le_refl _,fun b hlt hn=>?_,fun b k u hu hn=>⟨hm.keep b k u hu ?_,?_⟩,hm.there,fun b k _=>World.frozen?_setCells b0 vs off w ⟨b,k,none⟩⟩
  ·by_cases e:b=b0
   ·subst e
    cases vs with
    |nil=>rfl
    |cons v vs=>exact absurd (hcell 0 (by simp)) (hn _ _)
   ·exact h5 b e
  ·rintro ⟨rfl,h6,h7⟩
   have:=hcell (k - off) (by omega)
   rw [show off+(k - off)=k by omega] at this
   exact hn _ this
  ·show re f (g.o b k)=_
   cases hq:g.o b k with
   |x=>rfl
   |p=>rfl
   |o π=>exact absurd hq (hn π)
 ·refine ⟨fun b k π h=>?_,fun b k h=>re_ne hf h⟩
  obtain ⟨id,s,hq,_⟩:=re_o h
  obtain ⟨⟨u,hu⟩,hfz⟩:=hw.cell b k _ hq
  exact ⟨hm.there b k u hu,fun j=>by rw [World.frozen?_setCells];exact hfz j⟩
 ·intro b k id l h
  obtain ⟨id',s,hq,hfe⟩:=re_o h
  exact hfo id' s id l (hown b k id' s hq) hfe
def useF (us:List Use) (dest:Nat→List Nat):Nat→List Nat→Own:=fun id s =>
 match findU id us with
 |some (.mv _ to)=> .o (dest to++s)
 |some (.pm _)=> .p
 |none=> .o (id::s)
theorem useF_mv {us:List Use} {dest:Nat→List Nat} {id to:Nat} (hu:usesOk us=true) (h:Use.mv id to∈us) (s:List Nat):useF us dest id s= .o (dest to++s):=by
 simp [useF,findU_mv hu h]
theorem useF_pm {us:List Use} {dest:Nat→List Nat} {id:Nat} (hu:usesOk us=true) (h:Use.pm id∈us) (s:List Nat):useF us dest id s= .p:=by
 simp [useF,findU_pm hu h]
theorem Nxt.freeze (hm:MemR P w g mu) (hw:Wf w g.o) (hown:∀b k id s,g.o b k= .o (id::s)→mu id≠none) {id0:Nat} {es:Tys} {ms:List Md} {xs:List es.D} {ver:Nat} (hr:mu id0=some (.row es ms xs ver)) :
  ∃g',Nxt P w g mu w g' (updL mu [(id0,.fz es xs)])∧∀v,g.c id0= .row v→(Ty.sl es).H P w g'.o .sh .p xs v:=by
 let us:List Use:= [.pm id0]
 have huk:usesOk us=true:=rfl
 have hfind:∀id,id≠id0→findU id us=none:=fun id h=>if_neg (fun e=>h (Eq.symm e))
 have hm0:Mvd w g (w.setCells 0 0 []) ⟨fun b k=>re (useF us fun _=> [0]) (g.o b k),g.c⟩ (useF us fun _=> [0]) (fun b k=>b=0∧0≤k∧k<0+([]:List Value).length):=set_mvd (id0:=0) hw (by simp)
 obtain ⟨v,hc,hh⟩:=hm _ _ hr
 have hfz:(Ty.sl es).H P w (fun b k=>re (useF us fun _=> [0]) (g.o b k)) .sh .p xs v :=
  H_q _ (H_md _ _ _ _ _ (H_re hm0.perm hw (.sl es) (.own ms) (.o [id0]) .p xs v (hm0.rl (l:= []) (by simp) (fun s=>by simp [useF_pm huk (List.mem_singleton.2 rfl),ext]) (fun b k h=>by simp at h)) hh))
 refine ⟨⟨fun b k=>re (useF us fun _=> [0]) (g.o b k),g.c⟩,set_nxt (T:=fun id=>id=id0) (vs:= []) (b0:=0) (off:=0) (id0:=0) hw hown (by simp) (by simp) (fun _ _=>rfl) (fun id s h=>by simp [useF,hfind id h]) (fun id s=>?_) (fun id s p l h1 h2=>?_) (fun id h1 h2 b hb=>?_) (fun id es' ms' xs' ver' h1 h2 h3=>?_) (fun id b h1 h2=>?_),fun v' hv'=>by rw [hc] at hv';cases hv';exact hfz⟩
 ·unfold useF
  split<;>simp
 ·have:useF us (fun _=> [0]) id s= .o (p::l):=h2
  unfold useF at this
  split at this
  ·rename_i e
   obtain ⟨_,h3⟩:=findU_id e
   simp [us] at h3
  ·cases this
  ·cases this;exact updL_some h1
 ·simp at hb;exact h1 hb.1
 ·subst h1
  simp [updL,upd,Nat.beq_refl] at h3
 ·rcases h1 with h1|h1
  ·subst h1
   simp [updL,upd,Nat.beq_refl] at h2
   subst h2
   exact ⟨v,hc,hfz⟩
  ·rcases updL_cases h2 with h2|⟨_,h2⟩
   ·simp at h2
    rw [h2.1,hr] at h1;cases h1
   ·rw [h1] at h2;cases h2
end
end Go.Tm
/- The pure machine, 16: rows. -/
namespace Go.Tm
open Go
section
variable {P:Program} {C:Ctx} {env:Nat→TV} {mu:Mu} {a:Act} {w:World} {g:Gh} {idb:Nat} {R:Type} {Q:Exit→Act→World→Prop}
theorem elemTI_ok (hty:∀t ti,C.ty t=some ti→tiOf P t=some ti) {t e:Nat} {te:TI} (h:elemTI C t=some (e,te)) :
  P.underlying t=some (.slice e)∧C.ty e=some te∧(C.es e).len=te.size∧∃ti,C.ty t=some ti∧ti.k= .slice e:=by
 unfold elemTI at h
 cases ht:C.ty t with
 |none=>simp [ht] at h
 |some ti =>
  simp only [ht] at h
  cases hk:ti.k<;>simp only [hk] at h<;>try (cases h;done)
  case slice e' =>
   cases he:C.ty e' with
   |none=>simp [he] at h
   |some te' =>
    simp only [he] at h
    cases hl:Nat.beq (C.es e').len te'.size with
    |false=>simp [hl] at h
    |true =>
     simp only [hl,cond_true,Option.some.injEq,Prod.mk.injEq] at h
     obtain ⟨rfl,rfl⟩:=h
     exact ⟨slice_under (t:=t) hty (by simp [ht,hk]),he,Nat.eq_of_beq_eq_true hl,ti,rfl,hk⟩
theorem run_size {hty:∀t ti,C.ty t=some ti→tiOf P t=some ti} {e:Nat} {te:TI} (h:C.ty e=some te):(sizeOf e).run P w= .ok te.size w:=by
 obtain ⟨inf,d,z,h1,h2,h3,h4,harr,h6,h7,_⟩:=ti_ok (hty e te h)
 simp [sizeOf,run_typeInfo w h1,h7]
theorem add_none {ad:Addr} (h:ad.spot=none) (k:Nat):ad.add k=⟨ad.block,ad.off+k,none⟩:=by
 unfold Addr.add
 split
 ·rename_i e;subst e;cases ad;simp_all
 ·rfl
theorem esOk_len {es:Tys} {n:Nat} {xs:List es.D} (h:esOk mu n (.ro es xs)=true):es.len=n:=Nat.eq_of_beq_eq_true h
theorem op_indexAddr (s:OpSt P C env mu a w g idb) {o:Oper} {t e:Nat} {te:TI} {x z:Operand} (ho:o.op= .indexAddr t x z) {K:TV→List (Nat×Blk)→Option R} {y:R} (hte:elemTI C t=some (e,te)) {cv:CV} (hx:evalTV env x= .c cv)
  {k:IntKind} {n:Int} (hz:evalTV env z= .c (.int k n)) (hes:esOk mu (C.es e).len cv=true) (h:(idxU mu cv n fun p=>K (.c p) [])=some y):o.wp P a w (Done P w g mu a o.dst K y) Q:=by
 obtain ⟨ht,hety,hlen,_⟩:=elemTI_ok s.ty hte
 have hsz:=run_size (w:=w) (hty:=s.ty) hety
 have hvx:=evalTV_R s.env x
 rw [hx] at hvx
 have hvz:=evalTV_R s.env z
 rw [hz] at hvz
 have hvz:a.eval z= .int k n:=hvz
 have hel:P.elem t=e:=by simp [Program.elem,ht]
 have fin:∀(ad:Addr) (len cap:Nat) (p:CV),ad.spot=none→a.eval x= .slice (some ad) len cap→0≤n∧n<len→K (.c p) []=some y→p.R P w g mu (.pointer (some ⟨ad.block,ad.off+n.toNat*te.size,none⟩)) →
   o.wp P a w (Done P w g mu a o.dst K y) Q:=by
  intro ad len cap p hs hv hn hK hp
  refine done_pure s (v:= .pointer (some ⟨ad.block,ad.off+n.toNat*te.size,none⟩)) (tv:= .c p) ?_ hK hp
  have:=run_indexAt_slice (P:=P) w t ad len cap k n (by rw [hel];exact ht)
  simp [execOp,ho,hv,hvz,this,hn,hel,hsz,add_none hs]
 have hget:∀{es:Tys} {xs:List es.D} {x:es.D},getI xs n=some x→getN xs n.toNat=some x∧0≤n∧n<xs.length:=by
  intro es xs x hg
  unfold getI at hg
  split at hg
  ·rename_i h0
   obtain ⟨hlt,_⟩:=List.getElem?_eq_some_iff.1 hg
   exact ⟨hg,h0,by omega⟩
  ·cases hg
 cases cv<;>simp only [idxU] at h<;>try (cases h;done)
 case ro es xs =>
  have hl:=esOk_len hes
  cases hg:getI xs n with
  |none=>simp [hg] at h
  |some x0 =>
   simp only [hg,Option.bind_some] at h
   obtain ⟨hg,h0,h1⟩:=hget hg
   have hvx:(Ty.sl es).H P w g.o .sh .p xs (a.eval x):=hvx
   obtain ⟨ad,c,hv,_,hh⟩:=H_sh.1 hvx
   rcases hh with rfl|⟨p,rfl,hs,hh⟩
   ·simp [getN] at hg
   ·refine fin p _ c _ hs hv ⟨h0,h1⟩ h ⟨p.block,p.off+n.toNat*te.size,rfl,?_⟩
    have:=hh _ _ hg
    rwa [hl,hlen] at this
 case own id =>
  obtain ⟨_,hc,_⟩:=hvx
  cases hb:mu id with
  |none=>simp [hb] at h
  |some bl =>
   have hbr:=s.mem id bl hb
   cases bl<;>simp only [hb] at h<;>try (cases h;done)
   case row es ms xs ver =>
    have hl:es.len=(C.es e).len:=by simpa [esOk,hb] using Nat.eq_of_beq_eq_true (by simpa [esOk,hb] using hes)
    cases hg:getI xs n with
    |none=>simp [hg] at h
    |some x0 =>
     simp only [hg,Option.bind_some] at h
     obtain ⟨hg,h0,h1⟩:=hget hg
     obtain ⟨v',hc',hr⟩:=hbr
     rw [hc] at hc'
     obtain ⟨ad,c,hv,_,hh⟩:=H_own.1 hr
     rcases hh with ⟨rfl,_⟩|⟨p,rfl,hs,_,hh⟩
     ·simp [getN] at hg
     ·have hv2:a.eval x= .slice (some p) xs.length c:=by cases hc';exact hv
      refine fin p _ c _ hs.1 hv2 ⟨h0,h1⟩ h ⟨by simp [hb],p,xs.length,c,by rw [hc,hv2],hs.1,?_⟩
      rw [hl,hlen];rfl
   case fz es xs =>
    have hl:es.len=(C.es e).len:=by simpa [esOk,hb] using Nat.eq_of_beq_eq_true (by simpa [esOk,hb] using hes)
    cases hg:getI xs n with
    |none=>simp [hg] at h
    |some x0 =>
     simp only [hg,Option.bind_some] at h
     obtain ⟨hg,h0,h1⟩:=hget hg
     obtain ⟨v',hc',hr⟩:=hbr
     rw [hc] at hc'
     obtain ⟨ad,c,hv,_,hh⟩:=H_sh.1 hr
     rcases hh with rfl|⟨p,rfl,hs,hh⟩
     ·simp [getN] at hg
     ·have hv2:a.eval x= .slice (some p) xs.length c:=by cases hc';exact hv
      refine fin p _ c _ hs hv2 ⟨h0,h1⟩ h ⟨p.block,p.off+n.toNat*te.size,rfl,?_⟩
      have:=hh _ _ hg
      rwa [hl,hlen] at this
theorem HSh_sub {o:Nat→Nat→Own} {es:Tys} {xs:List es.D} {ad:Option Addr} {n c l h sz:Nat} (hs:sz=es.len) (hn:n=xs.length) (hh:HSh P w o es xs (.slice ad n c)) (h1:l≤h) (h2:h≤n) :
  HSh P w o es ((xs.drop l).take (h - l)) (.slice (if c=l then ad else ad.map (·.add (l*sz))) (h - l) (c - l)):=by
 obtain ⟨ad',c',he,hlc,hh⟩:=hh
 cases he
 refine ⟨_,c - l,by congr 1;simp;omega,by simp;omega,?_⟩
 by_cases hcl:c=l
 ·left
  have:h - l=0:=by omega
  simp [this]
 ·rw [if_neg hcl]
  rcases hh with rfl|⟨p,rfl,hsp,hh⟩
  ·left;simp
  ·right
   refine ⟨p.add (l*sz),rfl,by rw [add_none hsp],fun i x hi=>?_⟩
   rw [add_none hsp]
   have hi':getN xs (l+i)=some x:=by
    unfold getN at hi ⊢
    exact All2.getD_drop_take hi
   have:=hh (l+i) x hi'
   rw [hs]
   rwa [Nat.add_mul,←Nat.add_assoc] at this
def OptR (P:Program) (w:World) (g:Gh) (mu:Mu):Option TV→Option Value→Prop
 |none,none=>True
 |some t,some v=>t.R P w g mu v
 |_,_=>False
theorem sb_hi {k:IntKind} {i:Int} {n cap:Nat} {b:Bool} (h0:0≤i) (h1:i≤cap):(Instr.sliceBounds b n cap none (some (.int k i)) none).run P w= .ok (0,i.toNat,cap) w:=by
 cases b<;>simp only [Instr.sliceBounds,Sem.run_bind,Sem.run_pure,Result.andThen_ok,if_true,if_false,Bool.false_eq_true,run_sliceBound w k i cap _ h0 h1]
theorem sb_lo {k:IntKind} {i:Int} {n cap:Nat} {b:Bool} (h0:0≤i) (h1:i≤n):(Instr.sliceBounds b n cap (some (.int k i)) none none).run P w= .ok (i.toNat,n,cap) w:=by
 simp only [Instr.sliceBounds,Sem.run_bind,Sem.run_pure,Result.andThen_ok,Option.isSome_none,if_false,Bool.false_eq_true,run_sliceBound w k i n _ h0 h1]
theorem sb_all {n cap:Nat} {b:Bool}:(Instr.sliceBounds b n cap none none none).run P w= .ok (0,n,cap) w:=by
 simp only [Instr.sliceBounds,Sem.run_bind,Sem.run_pure,Result.andThen_ok]
theorem sb_lh {k k':IntKind} {i j:Int} {n cap:Nat} {b:Bool} (h0:0≤i) (h1:i≤j) (h2:j≤cap):(Instr.sliceBounds b n cap (some (.int k i)) (some (.int k' j)) none).run P w= .ok (i.toNat,j.toNat,cap) w:=by
 have hj:((j.toNat:Nat):Int)=j:=Int.toNat_of_nonneg (by omega)
 cases b<;>simp only [Instr.sliceBounds,Sem.run_bind,Sem.run_pure,Result.andThen_ok,Option.isSome_none,if_true,if_false,Bool.false_eq_true,run_sliceBound w k' j cap _ (by omega) h2,run_sliceBound w k i j.toNat _ h0 (by omega)]
theorem sliceU_cut {α:Type} {lo hi:Option TV} {vlo vhi:Option Value} (hl:OptR P w g mu lo vlo) (hh:OptR P w g mu hi vhi) {n:Nat} {xs:α} {f:Nat→Nat→α→Option R} {y:R}
  (h:cutU lo hi n xs f=some y) :
  ∃l h,l≤h∧h≤n∧f l h xs=some y∧∀cap b,n≤cap→(Instr.sliceBounds b n cap vlo vhi none).run P w= .ok (l,h,cap) w:=by
 unfold cutU at h
 revert hl hh
 split at h
 ·intro hl hh
  cases vlo with
  |some _=>exact hl.elim
  |none=>cases vhi with
   |some _=>exact hh.elim
   |none=>exact ⟨0,n,by omega,by omega,h,fun cap b hc=>sb_all⟩
 ·rename_i k i
  intro hl hh
  cases vhi with
  |some _=>exact hh.elim
  |none=>cases vlo with
   |none=>exact hl.elim
   |some v =>
    cases (hl:v= .int k i)
    cases hcut:cutHi i n with
    |false=>rw [hcut] at h;cases h
    |true =>
     rw [hcut] at h
     have hcut:0≤i∧i≤n:=of_decide_eq_true hcut
     exact ⟨i.toNat,n,by omega,by omega,h,fun cap b hc=>sb_lo hcut.1 (by omega)⟩
 ·rename_i k i
  intro hl hh
  cases vlo with
  |some _=>exact hl.elim
  |none=>cases vhi with
   |none=>exact hh.elim
   |some v =>
    cases (hh:v= .int k i)
    cases hcut:cutHi i n with
    |false=>rw [hcut] at h;cases h
    |true =>
     rw [hcut] at h
     have hcut:0≤i∧i≤n:=of_decide_eq_true hcut
     exact ⟨0,i.toNat,by omega,by omega,h,fun cap b hc=>sb_hi hcut.1 (by omega)⟩
 ·rename_i k i k' j
  intro hl hh
  cases vlo with
  |none=>exact hl.elim
  |some v=>cases vhi with
   |none=>exact hh.elim
   |some v' =>
    cases (hl:v= .int k i)
    cases (hh:v'= .int k' j)
    cases hcut:cutLH i j n with
    |false=>rw [hcut] at h;cases h
    |true =>
     rw [hcut] at h
     have hcut:0≤i∧i≤j∧j≤n:=of_decide_eq_true hcut
     exact ⟨i.toNat,j.toNat,by omega,by omega,h,fun cap b hc=>sb_lh hcut.1 hcut.2.1 (by omega)⟩
 ·cases h
theorem optR (henv:∀t,(env t).R P w g mu (a.tmps.getD t undef)) (lo:Option Operand):OptR P w g mu (lo.map (evalTV env)) (lo.map a.eval):=by
 cases lo with
 |none=>trivial
 |some x=>exact evalTV_R henv x
theorem op_slice_str (s:OpSt P C env mu a w g idb) {o:Oper} {t:Nat} {x:Operand} {lo hi:Option Operand} (ho:o.op= .slice t x lo hi none) {K:TV→List (Nat×Blk)→Option R} {y:R} {ti:TI} (ht:C.ty t=some ti) (hk:ti.k= .str)
  {b:ByteArray} (hx:evalTV env x= .c (.str b)) (h:sliceU mu (.str b) (lo.map (evalTV env)) (hi.map (evalTV env)) K=some y):o.wp P a w (Done P w g mu a o.dst K y) Q:=by
 obtain ⟨inf,d,z',h1,h2,_,_,_,_,_,_,hkd,_⟩:=ti_ok (s.ty t ti ht)
 have hd:d= .string:=by rw [hk] at hkd;cases d<;>simp [tkOf] at hkd ⊢
 subst hd
 have hvx:=evalTV_R s.env x
 rw [hx] at hvx
 have hvx:a.eval x= .string b:=hvx
 obtain ⟨l,hh,h3,h4,h5,h6⟩:=sliceU_cut (P:=P) (w:=w) (g:=g) (mu:=mu) (n:=b.size) (xs:=b) (f:=fun l h s=>K (.c (.str (s.extract l h))) []) (optR s.env lo) (optR s.env hi) h
 refine done_pure s (v:= .string (b.extract l hh)) (tv:= .c (.str (b.extract l hh))) ?_ h5 rfl
 simp [execOp,ho,hvx,Instr.sliceAt,run_underlying h2,Instr.slice,h6 b.size false (Nat.le_refl _)]
theorem op_slice_row (s:OpSt P C env mu a w g idb) {o:Oper} {t e:Nat} {te:TI} {x:Operand} {lo hi:Option Operand} (ho:o.op= .slice t x lo hi none) {K:TV→List (Nat×Blk)→Option R} {y:R} (hte:elemTI C t=some (e,te)) {cv:CV} (hx:evalTV env x= .c cv)
  (hns:∀b,cv≠ .str b) (hes:esOk mu (C.es e).len cv=true) (h:sliceU mu cv (lo.map (evalTV env)) (hi.map (evalTV env)) K=some y):o.wp P a w (Done P w g mu a o.dst K y) Q:=by
 obtain ⟨ht,hety,hlen,_⟩:=elemTI_ok s.ty hte
 have hsz:=run_size (w:=w) (hty:=s.ty) hety
 have hvx:=evalTV_R s.env x
 rw [hx] at hvx
 have run:∀(ad:Option Addr) (n c l h:Nat),a.eval x= .slice ad n c→(Instr.sliceBounds true n c (lo.map a.eval) (hi.map a.eval) none).run P w= .ok (l,h,c) w →
   (execOp a.eval o).run P w= .ok (.value (.slice (if c=l then ad else ad.map (·.add (l*te.size))) (h - l) (c - l))) w:=by
  intro ad n c l h hv hb
  simp [execOp,ho,hv,Instr.sliceAt,run_underlying ht,Instr.slice,hb,hsz]
 cases cv<;>simp only [sliceU] at h<;>try (cases h;done)
 case str b=>exact absurd rfl (hns b)
 case nils =>
  have hvx:a.eval x= .slice none 0 0:=hvx
  obtain ⟨l,hh,h3,h4,h5,h6⟩:=sliceU_cut (P:=P) (w:=w) (g:=g) (mu:=mu) (n:=0) (xs:=()) (f:=fun _ _ _=>K (.c .nils) []) (optR s.env lo) (optR s.env hi) h
  have hl:l=0:=by omega
  have hh0:hh=0:=by omega
  subst hl;subst hh0
  refine done_pure s (tv:= .c .nils) (run _ _ _ _ _ hvx (h6 0 true (Nat.le_refl _))) h5 ?_
  show Value.slice _ _ _=_
  simp
 case ro es xs =>
  have hl:=esOk_len hes
  have hvx:(Ty.sl es).H P w g.o .sh .p xs (a.eval x):=hvx
  obtain ⟨ad,c,hv,hc,hh0⟩:=H_sh.1 hvx
  obtain ⟨l,hh,h3,h4,h5,h6⟩:=sliceU_cut (P:=P) (w:=w) (g:=g) (mu:=mu) (n:=xs.length) (xs:=xs) (f:=fun l h xs=>K (.c (.ro es ((xs.drop l).take (h - l)))) []) (optR s.env lo) (optR s.env hi) h
  refine done_pure s (tv:= .c (.ro es ((xs.drop l).take (hh - l)))) (run _ _ _ _ _ hv (h6 c true hc)) h5 ?_
  exact (H_sh (q:= .p)).2 (HSh_sub (by rw [hl,hlen]) rfl ⟨ad,c,rfl,hc,hh0⟩ h3 h4)
 case own id =>
  obtain ⟨_,hc,_⟩:=hvx
  cases hb:mu id with
  |none=>simp [hb] at h
  |some bl =>
   have hbr:=s.mem id bl hb
   cases bl<;>simp only [hb] at h<;>try (cases h;done)
   case row es ms xs ver =>
    have hl:es.len=(C.es e).len:=by simpa [esOk,hb] using Nat.eq_of_beq_eq_true (by simpa [esOk,hb] using hes)
    obtain ⟨l,hh,h3,h4,h5,h6⟩:=sliceU_cut (P:=P) (w:=w) (g:=g) (mu:=mu) (n:=xs.length) (xs:=xs) (f:=fun l h ys=>K (.c (.ro es ((ys.drop l).take (h - l)))) [(id,.fz es xs)]) (optR s.env lo) (optR s.env hi) h
    obtain ⟨g',hn,hf⟩:=Nxt.freeze s.mem s.wf s.own hb
    obtain ⟨v',hc',hr⟩:=hbr
    have hfz:=hf _ hc'
    obtain ⟨ad,c,hv,hcap,hh0⟩:=H_sh.1 hfz
    have hv2:a.eval x= .slice ad xs.length c:=by rw [hc] at hc';cases hc';exact hv
    refine wp_val (run _ _ _ _ _ hv2 (h6 c true hcap)) ⟨.c (.ro es ((xs.drop l).take (hh - l))),[(id,.fz es xs)],_,g',rfl,h5,hn,?_⟩
    exact (H_sh (q:= .p)).2 (HSh_sub (by rw [hl,hlen]) rfl ⟨ad,c,rfl,hcap,hh0⟩ h3 h4)
   case fz es xs =>
    have hl:es.len=(C.es e).len:=by simpa [esOk,hb] using Nat.eq_of_beq_eq_true (by simpa [esOk,hb] using hes)
    obtain ⟨l,hh,h3,h4,h5,h6⟩:=sliceU_cut (P:=P) (w:=w) (g:=g) (mu:=mu) (n:=xs.length) (xs:=xs) (f:=fun l h ys=>K (.c (.ro es ((ys.drop l).take (h - l)))) []) (optR s.env lo) (optR s.env hi) h
    obtain ⟨v',hc',hfz⟩:=hbr
    obtain ⟨ad,c,hv,hcap,hh0⟩:=H_sh.1 hfz
    have hv2:a.eval x= .slice ad xs.length c:=by rw [hc] at hc';cases hc';exact hv
    refine done_pure s (tv:= .c (.ro es ((xs.drop l).take (hh - l)))) (run _ _ _ _ _ hv2 (h6 c true hcap)) h5 ?_
    exact (H_sh (q:= .p)).2 (HSh_sub (by rw [hl,hlen]) rfl ⟨ad,c,rfl,hcap,hh0⟩ h3 h4)
theorem asRow_ok {o:Nat→Nat→Own} {t:Ty} {b:Nat}:∀(es:Tys) {j off:Nat} {x:es.D} {l:List (Tys.cons t .nil).D},asRow t es x=some l→es.Hs P w o [] .p (fun _=> .p) j x b off →
  l.length=es.len∧∀i y,getN l i=some y→(Tys.cons t .nil).Hs P w o [] .p (fun _=> .p) 0 y b (off+i)
 | .nil,j,off,x,l,h,hs=>by
  simp only [asRow,Option.some.injEq] at h
  subst h
  exact ⟨rfl,fun i y hy=>by simp [getN] at hy⟩
 | .cons t' ts,j,off,x,l,h,hs=>by
  simp only [asRow] at h
  cases he:Ty.eq? t' t with
  |none=>simp [he] at h
  |some q =>
   obtain ⟨q⟩:=q
   subst q
   simp only [he] at h
   cases hr:asRow t' ts x.2 with
   |none=>simp [hr] at h
   |some r =>
    simp only [hr,Option.some.injEq] at h
    subst h
    obtain ⟨⟨v,h1,h2,h3⟩,h4⟩:=Hs_cons.1 hs
    obtain ⟨h5,h6⟩:=asRow_ok ts hr h4
    refine ⟨congrArg (· +1) h5,fun i y hy=>?_⟩
    cases i with
    |zero =>
     have hy:some ((x.1,()):(Tys.cons t' .nil).D)=some y:=hy
     cases Option.some.inj hy
     exact Hs_cons.2 ⟨⟨v,h1,h2,h3⟩,trivial⟩
    |succ i =>
     have:=h6 i y hy
     rw [show off+(i+1)=off+1+i by omega]
     exact this
theorem op_slice_arr (s:OpSt P C env mu a w g idb) {o:Oper} {t:Nat} {ti:TI} {x:Operand} (ho:o.op= .slice t x none none none) {K:TV→List (Nat×Blk)→Option R} {y:R} (ht:C.ty t=some ti) (hag:ti.ags= []) (hfl:ti.flds≠ []) {cv:CV} (hx:evalTV env x= .c cv)
  (h:sliceArr mu ti.size cv K=some y):o.wp P a w (Done P w g mu a o.dst K y) Q:=by
 obtain ⟨inf,d,z,h1,h2,h3,h4,harr,h6,h7,h8,h9,h10,h11⟩:=ti_ok (s.ty t ti ht)
 have hvx:=evalTV_R s.env x
 rw [hx] at hvx
 rcases h11 with ⟨fs,rfl,hfs,hfl',hag',_⟩|⟨_,_,hfl',_⟩|⟨n,e,ie,rfl,hie,hs1,hn,hfl',_⟩
 ·rw [hag] at hag'
  have:fs.toList= []:=List.map_eq_nil_iff.1 hag'.symm
  exact absurd (by rw [hfl',this];rfl) hfl
 ·exact absurd hfl' hfl
 ·have hn0:n≠0:=fun e=>hfl (by rw [hfl',e];rfl)
  unfold sliceArr at h
  split at h
  ·rename_i id off
   cases h0:Nat.beq off 0 with
   |false=>simp [h0] at h
   |true =>
    have h0:=Nat.eq_of_beq_eq_true h0
    subst h0
    simp only [Nat.beq_refl,cond_true] at h
    split at h
    ·rename_i es' xd hb
     cases hl:Nat.beq es'.len ti.size with
     |false=>simp [hl] at h
     |true =>
      have hl2:=Nat.eq_of_beq_eq_true hl
      rw [hl] at h
      simp only [cond_true] at h
      cases es' with
      |nil=>cases h
      |cons t0 ts =>
       simp only at h
       cases hr:asRow t0 (.cons t0 ts) xd with
       |none=>simp [hr] at h
       |some l =>
        simp only [hr] at h
        obtain ⟨_,b,base,hc,hv⟩:=hvx
        obtain ⟨b',base',hc',hH⟩:=s.mem id _ hb
        rw [hc] at hc'
        cases hc'
        obtain ⟨h12,h13⟩:=asRow_ok _ hr hH
        have hln:l.length=n:=by omega
        refine done_pure s (v:= .slice (some ⟨b,base,none⟩) n n) (tv:= .c (.ro (.cons t0 .nil) l)) ?_ h ?_
        ·simp [execOp,ho,hv,Instr.sliceAt,run_underlying h2,Instr.sureAddr,sb_all,sizeOf,run_typeInfo w hie,Ne.symm hn0,Addr.add_lit]
        ·refine (H_sh (q:= .p)).2 ⟨_,n,by rw [hln],by omega,.inr ⟨_,rfl,rfl,fun i y hy=>?_⟩⟩
         have:=h13 i y hy
         simpa [Tys.len] using this
    ·cases h
  ·cases h
end
end Go.Tm
/- The pure machine, 17: stores, new rows. -/
namespace Go.Tm
open Go
theorem fillCV_len:∀(vs:List CV) (cs:List CV) (off:Nat),(fillCV cs off vs).length=cs.length
 | [],_,_=>rfl
 |v::vs,cs,off=>by simp only [fillCV];rw [fillCV_len vs];simp
theorem fillCV_get:∀(vs:List CV) (cs:List CV) (off j:Nat),off+vs.length≤cs.length→(fillCV cs off vs)[j]?=if off≤j∧j<off+vs.length then vs[j - off]? else cs[j]?
 | [],cs,off,j,_=>by
  simp only [fillCV,List.length_nil]
  rw [if_neg (by omega)]
 |v::vs,cs,off,j,h=>by
  simp only [List.length_cons] at h
  simp only [fillCV,List.length_cons]
  rw [fillCV_get vs _ (off+1) j (by simp;omega)]
  by_cases h1:off+1≤j∧j<off+1+vs.length
  ·rw [if_pos h1,if_pos (by omega),show j - off=(j - (off+1))+1 by omega]
   simp
  ·rw [if_neg h1]
   by_cases h2:j=off
   ·subst h2
    rw [if_pos (by omega),List.getElem?_set_self (by omega)]
    simp
   ·rw [if_neg (by omega),List.getElem?_set_ne (by omega)]
section
variable {P:Program} {C:Ctx} {env:Nat→TV} {mu:Mu} {a:Act} {w w':World} {g g':Gh} {idb:Nat} {R:Type} {Q:Exit→Act→World→Prop} {f:Nat→List Nat→Own} {T:Nat→Prop}
theorem set_stp (hw:Wf w g.o) {b0 off:Nat} {vs:List Value} {c':Nat→Conc} {id0:Nat} (hT0:vs≠ []→T id0) (hcell:∀k,k<vs.length→g.o b0 (off+k)= .o [id0]) {ms:List (Nat×Blk)}
  (hc':∀id,mu id≠none→c' id=g.c id) (hT:∀id s,¬T id→f id s= .o (id::s))
  (hms:∀id,¬T id→mu id≠none→∀b,(id,b)∉ms) (hv:∀id es ms' xs ver,T id→mu id≠none→updL mu ms id=some (.row es ms' xs ver)→∃es' ms2 xs' ver',mu id=some (.row es' ms2 xs' ver')∧ver'<ver) :
  Stp w g mu (w.setCells b0 off vs) ⟨fun b k=>re f (g.o b k),c'⟩ (updL mu ms) T:=by
 have hm:Mvd w g (w.setCells b0 off vs) ⟨fun b k=>re f (g.o b k),c'⟩ f (fun b k=>b=b0∧off≤k∧k<off+vs.length):=set_mvd hw hcell
 have hnw:∀b k,(∀id s,g.o b k= .o (id::s)→¬T id)→¬(b=b0∧off≤k∧k<off+vs.length):=by
  rintro b k hn ⟨rfl,h6,h7⟩
  have:=hcell (k - off) (by omega)
  rw [show off+(k - off)=k by omega] at this
  exact hn _ _ this (hT0 (by intro e;rw [e] at h7;simp at h7;omega))
 refine ⟨fun b k u hu hn=>⟨hm.keep b k u hu (hnw b k hn),?_⟩,hc',fun id h=>updL_some h,fun id h h2=>updL_none fun b hb'=>hms id h h2 b hb',hv⟩
 show re f (g.o b k)=_
 cases hq:g.o b k with
 |x=>rfl
 |p=>rfl
 |o π=>cases π with
  |nil=>exact absurd hq (hw.ne b k)
  |cons id s=>exact hT id s (hn id s hq)
theorem cellish_one {v:Value} (h:Cellish v):v.oneCell'=true:=by cases v<;>first|rfl|exact h.elim
theorem store_box (s:OpSt P C env mu a w g idb) {id:Nat} {cs vs:List CV} (hb:mu id=some (.box cs)) {b base:Nat} (hc:g.c id= .box b base) {off:Nat} {vals:List Value} (hvs:cvsR P w g mu vs vals) (hle:off+vs.length≤cs.length) :
  (storeCells ⟨b,base+off,none⟩ vals).run P w= .ok () (w.setCells b (base+off) vals) ∧
   Nxt P w g mu (w.setCells b (base+off) vals) ⟨fun b k=>re (fun id s=> .o (id::s)) (g.o b k),g.c⟩ (updL mu [(id,.box (fillCV cs off vs))]):=by
 have hlen:=hvs.length
 obtain ⟨b',base',hc',hcs⟩:=s.mem id _ hb
 rw [hc] at hc';cases hc'
 have hcell:∀k,k<vals.length→g.o b (base+off+k)= .o [id]:=by
  intro k hk
  obtain ⟨v,_,ho,_⟩:=hcs (off+k) (cs[off+k]'(by omega)) (List.getElem?_eq_getElem (by omega))
  rwa [show base+off+k=base+(off+k) by omega]
 have hex:∀k,k<vals.length→∃v,w.cell? ⟨b,base+off+k,none⟩=some v:=by
  intro k hk
  obtain ⟨v,hv,ho,_⟩:=hcs (off+k) (cs[off+k]'(by omega)) (List.getElem?_eq_getElem (by omega))
  exact ⟨v,by rwa [show base+off+k=base+(off+k) by omega]⟩
 have hmu:∀i,i≠id→updL mu [(id,.box (fillCV cs off vs))] i=mu i:=fun i h=>updL_none fun b hb=>h (by simp at hb;exact hb.1)
 have hmi:updL mu [(id,.box (fillCV cs off vs))] id=some (.box (fillCV cs off vs)):=by simp [updL,upd,Nat.beq_refl]
 have hcv:∀v∈vals,Cellish v:=by
  intro v hv
  obtain ⟨i,hi,rfl⟩:=List.getElem_of_mem hv
  have hi':i<vs.length:=by omega
  obtain ⟨u,hu,hr⟩:=All2.get i vs[i] hvs (List.getElem?_eq_getElem hi')
  rw [List.getElem?_eq_getElem hi] at hu
  cases hu
  exact CV.cellish _ hr
 refine ⟨?_,?_⟩
 ·have:=run_storeCells_cells (P:=P) b (base+off) vals 0 w (fun j hj=>by obtain ⟨v,hv⟩:=hex j hj;simp [hv]) (fun j hj=>by
   exact (s.wf.cell _ _ _ (hcell j hj)).2 _) (fun v hv=>cellish_one (hcv v hv))
  simpa using this
 ·have hstp:Stp w g mu (w.setCells b (base+off) vals) ⟨fun b k=>re (fun id s=> .o (id::s)) (g.o b k),g.c⟩ (updL mu [(id,.box (fillCV cs off vs))]) (fun i=>i=id) :=
   set_stp (T:=fun i=>i=id) (ms:= [(id,.box (fillCV cs off vs))]) (id0:=id) s.wf (fun _=>rfl) hcell (fun _ _=>rfl) (fun _ _ _=>rfl) (fun i h _ b hb=>h (by simp at hb;first|exact hb.1|exact hb.1.symm)) (fun i es ms' xs ver h1 _ h3=>by
    subst h1;rw [hmi] at h3;cases h3)
  refine set_nxt (ms:= [(id,.box (fillCV cs off vs))]) (T:=fun i=>i=id) (id0:=id) s.wf s.own (fun _=>rfl) hcell (fun _ _=>rfl) (fun _ _ _=>rfl) (fun _ _ h=>by cases h) (fun i l p l' h1 h2=>?_) (fun i h _ b hb=>h (by simp at hb;first|exact hb.1|exact hb.1.symm)) (fun i es ms' xs ver h1 _ h3=>by
    subst h1;rw [hmi] at h3;cases h3) (fun i bl h1 h2=>?_)
  ·cases h2;exact updL_some h1
  ·by_cases e:i=id
   ·subst e
    rw [hmi] at h2
    cases h2
    refine ⟨b,base,hc,fun j cv hj=>?_⟩
    rw [fillCV_get vs cs off j hle] at hj
    by_cases hr:off≤j∧j<off+vs.length
    ·rw [if_pos hr] at hj
     obtain ⟨u,hu,hru⟩:=All2.get _ cv hvs hj
     have hlt:j - off<vals.length:=by omega
     rw [List.getElem?_eq_getElem hlt] at hu
     cases hu
     refine ⟨_,?_,?_,CV.stp hstp s.wf cv hru⟩
     ·have:=World.cell?_setCells_in b vals (base+off) w (fun k hk=>by obtain ⟨v,hv⟩:=hex k hk;simp [hv]) (j - off) hlt
      rwa [show base+off+(j - off)=base+j by omega] at this
     ·have:=hcell (j - off) hlt
      rw [show base+off+(j - off)=base+j by omega] at this
      show re _ (g.o b (base+j))=_
      rw [this];rfl
    ·rw [if_neg hr] at hj
     obtain ⟨v,hv,ho,hrv⟩:=hcs j cv hj
     refine ⟨v,?_,?_,CV.stp hstp s.wf cv hrv⟩
     ·rw [World.cell?_setCells_out b vals (base+off) w ⟨b,base+j,none⟩ (fun _ _=>by
       show base+j<base+off∨base+off+vals.length≤base+j
       omega)]
      exact hv
     ·show re _ (g.o b (base+j))=_
      rw [ho];rfl
   ·rw [hmu i e] at h2
    rcases h1 with h1|h1
    ·exact absurd h1 e
    ·rw [h1] at h2;cases h2
theorem alloc_H (hw:Wf w g.o) {es:Tys} {ms:List Md} {xs:List es.D} {vals:List Value} {t:TypeId} {v:Value} {cap:Nat} (hcap:xs.length≤cap) (hbig:cap≤9223372036854775807) (hv:v= .slice (some ⟨w.heap.size,0,none⟩) xs.length cap) (hvl:vals.length=cap*es.len)
  (hel:∀i x,getN xs i=some x→es.Vs P (w.alloc (.cells vals.toArray t)) (allocG w g idb vals.length f v).o ms (fun j=> .o [idb,i,j]) 0 x ((vals.drop (i*es.len)).take es.len)) :
  (Ty.sl es).H P (w.alloc (.cells vals.toArray t)) (allocG w g idb vals.length f v).o (.own ms) (.o [idb]) xs v:=by
 refine H_own.2 ⟨_,cap,hv,hcap,.inr ⟨_,rfl,⟨rfl,hbig⟩,fun k hk=>?_,fun i x hi=>?_⟩⟩
 ·show (if w.heap.size=w.heap.size then (if 0+k<vals.length then Own.o [idb] else .x) else _)=_
  rw [if_pos rfl,if_pos (by omega)]
 ·have hlt:i<xs.length:=by
   unfold getN at hi
   exact (List.getElem?_eq_some_iff.1 hi).1
  have hmul:(i+1)*es.len≤cap*es.len:=Nat.mul_le_mul_right _ (by omega)
  rw [Nat.add_mul] at hmul
  refine Vs_hs es (hel i x hi) fun k u hu=>?_
  have hu':=All2.getD_drop_take hu
  have hk:i*es.len+k<vals.length:=(List.getElem?_eq_some_iff.1 hu').1
  refine ⟨?_,?_⟩
  ·show (w.alloc _).cell? ⟨w.heap.size,0+i*es.len+k,none⟩=_
   rw [World.cell?_alloc_new]
   simpa [Nat.zero_add] using hu'
  ·show (if w.heap.size=w.heap.size then (if 0+i*es.len+k<vals.length then Own.o [idb] else .x) else _)=_
   rw [if_pos rfl,if_pos (by omega)]
end
end Go.Tm
/- The pure machine, 18: literals and made rows. -/
namespace Go.Tm
open Go
section
variable {P:Program} {C:Ctx} {env:Nat→TV} {mu mu':Mu} {a:Act} {w w':World} {g g':Gh} {o':Nat→Nat→Own} {idb:Nat} {R:Type} {Q:Exit→Act→World→Prop}
theorem Vs_shift {o:Nat→Nat→Own}:∀(ts:Tys) {ms:List Md} {qf qf':Nat→Own} {j j':Nat} {x:ts.D} {vs:List Value},(∀n,n<ts.len→qf (j+n)=qf' (j'+n))→ts.Vs P w o ms qf j x vs→ts.Vs P w o ms qf' j' x vs
 | .nil,_,_,_,_,_,_,_,_,h=>h
 | .cons t ts,ms,qf,qf',j,j',x,vs,hq,h=>by
  obtain ⟨v,r,e,h1,h2⟩:=h
  have h0:=hq 0 (by simp [Tys.len])
  simp only [Nat.add_zero] at h0
  refine ⟨v,r,e,by rw [←h0];exact h1,Vs_shift ts (fun n hn=>?_) h2⟩
  have:=hq (n+1) (by simp [Tys.len,hn])
  rwa [show j+(n+1)=j+1+n by omega,show j'+(n+1)=j'+1+n by omega] at this
theorem litElems_ok (hm:MemR P w g mu) (hw:Wf w g.o) (dest:Nat→Own) {es:Tys} {ms:List Md}:∀(parts:List (Nat×TV)) (i:Nat) {us:List Use} {vals:List Value} (_:All2 (fun p v=>TV.R P w g mu p.2 v) parts vals)
  {K:List es.D→List Use→Option R} {y:R} (_:litElems mu es ms parts i us K=some y),∃xs new,K xs (new++us)=some y∧xs.length=parts.length∧(∀k p,parts[k]?=some p→p.1=i+k) ∧
   (∀v∈vals,v.cells.size=es.len)∧∀w' o',PermKeep w g.o w' o'→(∀u∈new,Served dest w g.o w' o' u)→∀k x v,xs[k]?=some x→vals[k]?=some v→es.Vs P w' o' ms dest (64*(i+k)) x v.cells.toList
 | [],i,us,[],_,K,y,h=>⟨[],[],h,rfl,by simp,by simp,by simp⟩
 | [],_,_,_::_,h,_,_,_=>h.elim
 |_::_,_,_,[],h,_,_,_=>h.elim
 |p::parts,i,us,v::vals,hv,K,y,h=>by
  simp only [litElems] at h
  cases hi:Nat.beq p.1 i with
  |false=>simp [hi] at h
  |true =>
   simp only [hi,cond_true] at h
   have hi:=Nat.eq_of_beq_eq_true hi
   cases hc:cellsOf p.2 with
   |none=>simp [hc] at h
   |some cvs =>
    simp only [hc] at h
    obtain ⟨x,rest,new,vs1,vs2,h,hspl,hrest,hlen,hx⟩:=packs_ok hm hw dest (app0_ok (P:=P) (w:=w) (g:=g) (mu:=mu)) es (cellsOf_R hc hv.1) h
    cases rest with
    |cons _ _=>cases h
    |nil =>
     cases vs2 with
     |cons _ _=>exact hrest.elim
     |nil =>
      simp only [List.append_nil] at hspl
      obtain ⟨xs,new',h,h1,h2,h3,h4⟩:=litElems_ok hm hw dest parts (i+1) hv.2 h
      refine ⟨x::xs,new'++new,by rw [List.append_assoc];exact h,by simp [h1],fun k q hk=>?_,fun u hu=>?_,fun w' o' hp hs k z u hk hu=>?_⟩
      ·cases k with
       |zero=>simp at hk;subst hk;simpa using hi
       |succ k=>have:=h2 k q (by simpa using hk);omega
      ·rcases List.mem_cons.1 hu with rfl|hu
       ·rw [←Array.length_toList,hspl,hlen]
       ·exact h3 u hu
      ·cases k with
       |zero =>
        simp at hk hu;subst hk;subst hu
        rw [hspl];exact hx w' o' hp fun u hu=>hs u (by simp [hu])
       |succ k =>
        have:=h4 w' o' hp (fun u hu=>hs u (by simp [hu])) k z u (by simpa using hk) (by simpa using hu)
        rwa [show i+1+k=i+(k+1) by omega] at this
theorem fz_blk {Wr:Nat→Nat→Prop} {us:List Use} {destL:Nat→List Nat} (hm:MemR P w g mu) (hw:Wf w g.o) (hu:usesOk us=true) (hmv:Mvd w g w' g' (useF us destL) Wr) (hwr:∀b k,Wr b k→∀id s,Use.pm id∈us→g.o b k≠ .o (id::s))
  (hc:∀id,mu id≠none→g'.c id=g.c id) {id:Nat} {b:Blk} (h:(id,b)∈fzs mu us∨(Use.pm id∈us∧(∀b',(id,b')∉fzs mu us)∧mu id=some b)):b.R P w' g' mu' id:=by
 rcases h with h|⟨hpm,hn,hb⟩
 ·rcases fzs_mem h with ⟨rfl,_⟩|⟨hpm,⟨es,ms,xs,ver,hr,rfl⟩|⟨rfl,_⟩⟩
  ·trivial
  ·obtain ⟨v,hcv,hh⟩:=hm _ _ hr
   refine ⟨v,(hc id (by simp [hr])).trans hcv,?_⟩
   have hrl:Rl w g.o w' g'.o (.o [id]) .p:=hmv.rl (l:= []) (by simp) (fun s=>by simp [useF_pm hu hpm,ext]) (fun b k hb s=>by simpa using hwr b k hb id s hpm)
   exact H_q _ (H_md _ _ _ _ _ (H_re hmv.perm hw (.sl es) (.own ms) _ .p xs v hrl hh))
  ·trivial
 ·have hbr:=hm _ _ hb
  cases b with
  |row es ms xs ver =>
   obtain ⟨b',h'⟩:=fzs_of_pm hpm _ hb (.inl ⟨_,_,_,_,rfl⟩)
   exact absurd h' (hn b')
  |box cs =>
   obtain ⟨b',h'⟩:=fzs_of_pm hpm _ hb (.inr ⟨_,rfl⟩)
   exact absurd h' (hn b')
  |rbox es x =>
   obtain ⟨b,base,hcb,hr⟩:=hbr
   exact ⟨b,base,(hc id (by simp [hb])).trans hcb,Hs_re hmv.perm hw es [] .p .p (fun _=> .p) (fun _=> .p) 0 x b base rfl (fun _=>rfl) hr⟩
  |fz es xs =>
   obtain ⟨v,hcv,hr⟩:=hbr
   exact ⟨v,(hc id (by simp [hb])).trans hcv,H_re hmv.perm hw (.sl es) .sh .p .p xs v rfl hr⟩
  |dead=>trivial
theorem row_nxt (hm:MemR P w g mu) (hw:Wf w g.o) (hown:∀b k id s,g.o b k= .o (id::s)→mu id≠none) (hidb:mu idb=none) {us:List Use} (hu:usesOk us=true) {es:Tys} {ms:List Md} {xs:List es.D} {vals:List Value} {t:TypeId}
  {destL:Nat→List Nat} (hd:∀to,∃l,destL to=idb::l) {v:Value}
  (hH:(∀u∈us,Served (fun to=> .o (destL to)) w g.o (w.alloc (.cells vals.toArray t)) (allocG w g idb vals.length (useF us destL) v).o u)→PermKeep w g.o (w.alloc (.cells vals.toArray t)) (allocG w g idb vals.length (useF us destL) v).o →
   (Ty.sl es).H P (w.alloc (.cells vals.toArray t)) (allocG w g idb vals.length (useF us destL) v).o (.own ms) (.o [idb]) xs v) :
  Nxt P w g mu (w.alloc (.cells vals.toArray t)) (allocG w g idb vals.length (useF us destL) v) (updL mu (fzs mu us++ [(idb,.row es ms xs 0)])) ∧
   (CV.own idb).R P (w.alloc (.cells vals.toArray t)) (allocG w g idb vals.length (useF us destL) v) (updL mu (fzs mu us++ [(idb,.row es ms xs 0)])) v:=by
 have hmv:Mvd w g (w.alloc (.cells vals.toArray t)) (allocG w g idb vals.length (useF us destL) v) (useF us destL) (fun _ _=>False):=alloc_mvd
 have hsv:∀u∈us,Served (fun to=> .o (destL to)) w g.o (w.alloc (.cells vals.toArray t)) (allocG w g idb vals.length (useF us destL) v).o u:=by
  intro u hmem
  cases u with
  |mv id to=>exact hmv.rl (l:= []) (by simp) (fun s=>by simp [useF_mv hu hmem,ext]) (fun _ _ h=>h.elim)
  |pm id=>exact hmv.rl (l:= []) (by simp) (fun s=>by simp [useF_pm hu hmem,ext]) (fun _ _ h=>h.elim)
 have hH:=hH hsv hmv.perm
 have hc:∀id,mu id≠none→(allocG w g idb vals.length (useF us destL) v).c id=g.c id:=by
  intro id h
  show (if id=idb then _ else _)=_
  rw [if_neg (fun (e:id=idb)=>h (e▸hidb))]
 have hci:(allocG w g idb vals.length (useF us destL) v).c idb= .row v:=by show (if idb=idb then _ else _)=_;simp
 have hmi:updL mu (fzs mu us++ [(idb,.row es ms xs 0)]) idb≠none:=updL_mem (b:= .row es ms xs 0) (by simp)
 refine ⟨alloc_nxt (T:=fun id=>∃u∈us,useId u=id) hw hown hidb (fun id s hT=>?_) (fun id s=>?_) (fun id s p l h1 h2=>?_) hmi (fun id hT h1 b hb=>?_) (fun id es' ms' xs' ver hT h1 h2=>?_) (fun id b h1 h2=>?_),⟨hmi,hci,?_⟩⟩
 ·have:findU id us=none:=by
   cases hf:findU id us with
   |none=>rfl
   |some u=>obtain ⟨h1,h2⟩:=findU_id hf;exact absurd ⟨u,h2,h1⟩ hT
  simp [useF,this]
 ·unfold useF
  split
  ·rename_i to _
   obtain ⟨l,e⟩:=hd to
   rw [e];simp
  ·simp
  ·simp
 ·unfold useF at h2
  split at h2
  ·rename_i to _
   obtain ⟨l',e⟩:=hd to
   rw [e] at h2
   cases h2
   exact hmi
  ·cases h2
  ·cases h2;exact updL_some h1
 ·rcases List.mem_append.1 hb with hb|hb
  ·rcases fzs_mem hb with ⟨_,to,h⟩|⟨h,_⟩
   ·exact hT ⟨_,h,rfl⟩
   ·exact hT ⟨_,h,rfl⟩
  ·simp at hb;rw [hb.1] at h1;exact h1 hidb
 ·rcases updL_cases h2 with h2|⟨hn,h2⟩
  ·rcases List.mem_append.1 h2 with h2|h2
   ·rcases fzs_mem h2 with ⟨h,_⟩|⟨_,⟨_,_,_,_,_,h⟩|⟨h,_⟩⟩<;>cases h
   ·simp at h2;rw [h2.1] at h1;exact h1 hidb
  ·obtain ⟨u,hu1,hu2⟩:=hT
   cases u with
   |mv i to=>cases hu2;exact hn _ (List.mem_append_left _ (fzs_of_mv hu1))
   |pm i =>
    cases hu2
    obtain ⟨b',h'⟩:=fzs_of_pm hu1 _ h2 (.inl ⟨_,_,_,_,rfl⟩)
    exact hn _ (List.mem_append_left _ h')
 ·rcases updL_cases h2 with h2|⟨hn,h2⟩
  ·rcases List.mem_append.1 h2 with h2|h2
   ·exact fz_blk hm hw hu hmv (fun _ _ h=>h.elim) hc (.inl h2)
   ·simp at h2
    obtain ⟨rfl,rfl⟩:=h2
    exact ⟨v,hci,hH⟩
  ·rcases h1 with ⟨u,hu1,hu2⟩|h1
   ·cases u with
    |mv i to=>cases hu2;exact absurd (List.mem_append_left _ (fzs_of_mv hu1)) (hn _)
    |pm i=>cases hu2;exact fz_blk hm hw hu hmv (fun _ _ h=>h.elim) hc (.inr ⟨hu1,fun b' hb'=>hn b' (List.mem_append_left _ hb'),h2⟩)
   ·rw [h1] at h2;cases h2
 ·obtain ⟨ad,c,hv,_⟩:=H_own.1 hH
  exact ⟨ad,_,c,hv⟩
theorem partsR (henv:∀t,(env t).R P w g mu (a.tmps.getD t undef)):∀(ps:List (Nat×Operand)),All2 (fun p v=>TV.R P w g mu p.2 v) (ps.map fun p=>(p.1,evalTV env p.2)) (ps.map fun p=>a.eval p.2)
 | []=>trivial
 |p::ps=>⟨evalTV_R henv p.2,partsR henv ps⟩
theorem parts_zip {α:Type} (fn:Operand→α):∀(ps:List (Nat×Operand)) (i:Nat),(∀k p,ps[k]?=some p→p.1=i+k)→ps.map (fun p=>(p.1,fn p.2))=((ps.map fun p=>fn p.2).zipIdx i).map fun x=>(x.2,x.1)
 | [],_,_=>rfl
 |p::ps,i,h=>by
  have h0:=h 0 p rfl
  simp only [List.map_cons,List.zipIdx_cons,Nat.add_zero] at h0 ⊢
  rw [parts_zip fn ps (i+1) fun k q hk=>by have:=h (k+1) q (by simpa using hk);omega,h0]
theorem flat_take {n:Nat}:∀(vs:List Value),(∀v∈vs,v.cells.size=n)→∀k v,vs[k]?=some v→((vs.flatMap fun v=>v.cells.toList).drop (k*n)).take n=v.cells.toList
 | [],_,k,v,h=>by simp at h
 |u::vs,hs,0,v,h=>by
  simp at h;subst h
  have hl:u.cells.toList.length=n:=by simpa using hs u (by simp)
  simp only [Nat.zero_mul,List.drop_zero,List.flatMap_cons]
  rw [←hl,List.take_left]
 |u::vs,hs,k+1,v,h=>by
  have hl:u.cells.toList.length=n:=by simpa using hs u (by simp)
  rw [List.flatMap_cons,Nat.add_mul,Nat.one_mul,List.drop_append,List.drop_eq_nil_of_le (by omega),List.nil_append,show k*n+n - u.cells.toList.length=k*n by omega]
  exact flat_take vs (fun x hx=>hs x (by simp [hx])) k v (by simpa using h)
theorem flat_len {n:Nat}:∀(vs:List Value),(∀v∈vs,v.cells.size=n)→(vs.flatMap fun v=>v.cells.toList).length=vs.length*n
 | [],_=>by simp
 |u::vs,hs=>by
  have hl:u.cells.toList.length=n:=by simpa using hs u (by simp)
  rw [List.flatMap_cons,List.length_append,hl,flat_len vs fun x hx=>hs x (by simp [hx]),List.length_cons,Nat.add_mul]
  omega
theorem op_buildSlice (s:OpSt P C env mu a w g idb) {o:Oper} {t e len:Nat} {te:TI} {parts:Array (Nat×Operand)} (ho:o.op= .buildSlice t len parts) {K:TV→List (Nat×Blk)→Option R} {y:R} (hte:elemTI C t=some (e,te)) {ms:List Md}
  (h:(bif Nat.ble (len*te.size) 16777216&&Nat.beq parts.size len&&Nat.blt 0 te.size&&Nat.ble te.size 62 then litElems mu (C.es e) ms (parts.toList.map fun p=>(p.1,evalTV env p.2)) 0 [] fun xs us =>
    bif usesOk us then K (.c (.own idb)) (fzs mu us++ [(idb,.row (C.es e) ms xs 0)]) else none
   else none)=some y):o.wp P a w (Done P w g mu a o.dst K y) Q:=by
 obtain ⟨ht,hety,hlen,_⟩:=elemTI_ok s.ty hte
 obtain ⟨inf,d,z,h1,h2,h3,h4,harr,h6,h7,_⟩:=ti_ok (s.ty e te hety)
 cases hc:(Nat.ble (len*te.size) 16777216&&Nat.beq parts.size len&&Nat.blt 0 te.size&&Nat.ble te.size 62) with
 |false=>rw [hc] at h;cases h
 |true =>
  rw [hc,cond_true] at h
  simp only [Bool.and_eq_true] at hc
  have c1:=Nat.le_of_ble_eq_true hc.1.1.1
  have c2:=Nat.eq_of_beq_eq_true hc.1.1.2
  have c3:0<te.size:=by have:=hc.1.2;simpa [Nat.blt_eq] using this
  have c4:=Nat.le_of_ble_eq_true hc.2
  let destL:Nat→List Nat:=fun to=> [idb,to / 64,to % 64]
  obtain ⟨xs,us,h,hl,hidx,hsz,hel⟩:=litElems_ok s.mem s.wf (fun to=> .o (destL to)) _ 0 (partsR s.env parts.toList) h
  simp only [List.append_nil] at h
  cases hu:usesOk us with
  |false=>simp [hu] at h
  |true =>
   simp only [hu,cond_true] at h
   let vs:List Value:=parts.toList.map fun p=>a.eval p.2
   let vals:List Value:=vs.flatMap fun v=>v.cells.toList
   have hvsl:vs.length=len:=by simp [vs,c2]
   have hxl:xs.length=len:=by rw [hl];simp [c2]
   have hvl:vals.length=xs.length*(C.es e).len:=by rw [flat_len vs hsz,hvsl,hxl]
   have hrun:(Instr.buildSlice t len (parts.map fun p=>(p.1,a.eval p.2))).run P w= .ok (.slice (some ⟨w.heap.size,0,none⟩) len len) (w.alloc (.cells vals.toArray e)):=by
    by_cases hz0:len=0
    ·have hp:parts= #[]:=Array.eq_empty_of_size_eq_zero (by rw [c2,hz0])
     subst hz0
     subst hp
     have hv0:vals.toArray= #[]:=rfl
     rw [hv0]
     simp [Instr.buildSlice,run_underlying ht,sizeOf,run_typeInfo w h1,Instr.fill,newRow,Array.range_zero']
    ·refine run_buildSlice w t e len _ _ inf z ht h1 h3 (by rw [←h7];omega) (by rw [←h7];have:=Nat.mul_pos (Nat.pos_of_ne_zero hz0) c3;omega) ?_
     rw [Array.toList_map,parts_zip a.eval parts.toList 0 (fun k p hk=>by
      have:=hidx k (p.1,evalTV env p.2) (by rw [List.getElem?_map,hk];rfl)
      exact this),←h7]
     exact Great.fill_whole c3 vs _ (fun v hv=>by rw [hsz v hv,hlen]) (by simp [hvsl])
   have hnx:=row_nxt (P:=P) (w:=w) (g:=g) (mu:=mu) (idb:=idb) s.mem s.wf s.own (s.fresh idb (Nat.le_refl _) (by omega)) hu (es:=C.es e) (ms:=ms) (xs:=xs) (vals:=vals) (t:=e) (destL:=destL) (fun to=>⟨_,rfl⟩)
    (v:= .slice (some ⟨w.heap.size,0,none⟩) len len) (fun hs hp=>alloc_H s.wf (Nat.le_refl _) (by rw [hxl];have:=Nat.le_mul_of_pos_right len c3;omega) (by rw [hxl]) hvl fun i x hi=>by
     have hlt:i<vs.length:=by
      have:=(List.getElem?_eq_some_iff.1 hi).1
      omega
     have hv:=List.getElem?_eq_getElem hlt
     have:=hel _ _ hp hs i x vs[i] hi hv
     rw [flat_take vs hsz i _ hv]
     refine Vs_shift (C.es e) (fun n hn=>?_) this
     show Own.o [idb,(64*(0+i)+n) / 64,(64*(0+i)+n) % 64]= .o [idb,i,0+n]
     rw [show (64*(0+i)+n) / 64=i by omega,show (64*(0+i)+n) % 64=0+n by omega])
   refine wp_val (v:= .slice (some ⟨w.heap.size,0,none⟩) len len) ?_ ⟨.c (.own idb),_,_,_,rfl,h,hnx.1,hnx.2⟩
   simp only [execOp,ho,Sem.run_bind]
   rw [hrun]
   rfl
end
end Go.Tm
/- The pure machine, 19: struct literals, made rows, conversions, stores. -/
namespace Go.Tm
open Go
theorem All2.ofGet {α β:Type} {R:α→β→Prop}:∀{x:List α} {y:List β},x.length=y.length→(∀(k:Nat) (a:α) (b:β),x[k]?=some a→y[k]?=some b→R a b)→All2 R x y
 | [],[],_,_=>trivial
 |a::x,b::y,hl,h=>⟨h 0 a b rfl rfl,All2.ofGet (by simpa using hl) fun k a b ha hb=>h (k+1) a b (by simpa using ha) (by simpa using hb)⟩
 | [],_::_,hl,_=>by simp at hl
 |_::_,[],hl,_=>by simp at hl
section
variable {P:Program} {C:Ctx} {env:Nat→TV} {mu mu':Mu} {a:Act} {w w':World} {g g':Gh} {o':Nat→Nat→Own} {idb:Nat} {R:Type} {Q:Exit→Act→World→Prop}
theorem fill_build (flds:List (Nat×Nat)) (fp:Nat→Option (Nat×Nat)) (hfp:∀i p,flds[i]?=some p→fp i=some p):∀(ps:List (Nat×TV)) (vs:List (Nat×Value)) (cs cs':List CV) (cells:Array Value),All2 (fun p v=>p.1=v.1∧TV.R P w g mu p.2 v.2) ps vs→buildCV flds ps cs=some cs'→cvsR P w g mu cs cells.toList →
  ∃r,Instr.fill fp cells vs=some r∧cvsR P w g mu cs' r.toList
 | [],[],cs,cs',cells,_,h,hc=>by
  simp only [buildCV,Option.some.injEq] at h
  subst h
  exact ⟨cells,rfl,hc⟩
 | [],_::_,_,_,_,h,_,_=>h.elim
 |_::_,[],_,_,_,h,_,_=>h.elim
 |(i,tv)::ps,(i',v)::vs,cs,cs',cells,hp,h,hc=>by
  obtain ⟨⟨e,hv⟩,hp⟩:=hp
  have e:i=i':=e
  subst e
  simp only [buildCV] at h
  cases hf:flds[i]? with
  |none=>simp [hf] at h
  |some p =>
   obtain ⟨off,n⟩:=p
   cases hcs:cellsOf tv with
   |none=>simp [hf,hcs] at h
   |some ws =>
    simp only [hf,hcs] at h
    cases hcond:(Nat.beq ws.length n&&Nat.ble (off+n) cs.length) with
    |false=>simp [hcond] at h
    |true =>
     simp only [hcond,cond_true] at h
     simp only [Bool.and_eq_true] at hcond
     have c1:=Nat.eq_of_beq_eq_true hcond.1
     have c2:=Nat.le_of_ble_eq_true hcond.2
     have hw:=cellsOf_R hcs hv
     have hwl:=hw.length
     have hcl:=hc.length
     simp only [Array.length_toList] at hwl hcl
     obtain ⟨g1,g2⟩:=Great.foldl_set off v.cells.toList 0 cells
     obtain ⟨r,hr,hrr⟩:=fill_build flds fp hfp ps vs _ cs' ((v.cells.toList.zipIdx 0).foldl (fun cs (x:Value×Nat)=>cs.setIfInBounds (off+x.2) x.1) cells) hp h (All2.ofGet (by rw [fillCV_len];simp [g1,hcl]) fun k c u hk hu=>by
      rw [fillCV_get ws cs off k (by omega)] at hk
      have hu:((v.cells.toList.zipIdx 0).foldl (fun cs (x:Value×Nat)=>cs.setIfInBounds (off+x.2) x.1) cells)[k]?=some u:=by simpa using hu
      rw [g2 k] at hu
      simp only [Nat.add_zero,Array.length_toList] at hu
      by_cases hin:off≤k∧k<off+ws.length
      ·rw [if_pos hin] at hk
       rw [if_pos ⟨hin.1,by omega,by omega⟩] at hu
       obtain ⟨u',hu',hr⟩:=All2.get _ c hw hk
       rw [hu] at hu';cases hu';exact hr
      ·rw [if_neg hin] at hk
       rw [if_neg (fun hh=>hin ⟨hh.1,by omega⟩)] at hu
       obtain ⟨u',hu',hr⟩:=All2.get _ c hc hk
       have:cells.toList[k]?=some u:=by simpa using hu
       rw [this] at hu';cases hu';exact hr)
     refine ⟨r,?_,hrr⟩
     rw [←hr]
     conv=>lhs;unfold Instr.fill
     simp only [hfp _ _ hf]
     rw [if_neg (by simp;omega)]
     rw [←Array.foldl_toList,Array.toList_zipIdx]
theorem places_eq:∀(fs:List Field),(∀f∈fs,(P.info? f.type).isSome=true∧(P.underlying f.type).isSome=true) →
  fs.mapM (fun f=>(P.info? f.type).map fun i=>(f.offset,i.size))=some (fs.map fun f=>(f.offset,((P.info? f.type).map (·.size)).getD 0))
 | [],_=>rfl
 |f::fs,h=>by
  obtain ⟨i,hi⟩:=Option.isSome_iff_exists.1 (h f (by simp)).1
  simp [List.mapM_cons,hi,places_eq fs fun f hf=>h f (by simp [hf])]
theorem partsR2 (henv:∀t,(env t).R P w g mu (a.tmps.getD t undef)):∀(ps:List (Nat×Operand)),All2 (fun p v=>p.1=v.1∧TV.R P w g mu p.2 v.2) (ps.map fun p=>(p.1,evalTV env p.2)) (ps.map fun p=>(p.1,a.eval p.2))
 | []=>trivial
 |p::ps=>⟨⟨rfl,evalTV_R henv p.2⟩,partsR2 henv ps⟩
theorem op_build (s:OpSt P C env mu a w g idb) {o:Oper} {t:Nat} {parts:Array (Nat×Operand)} (ho:o.op= .build t parts) {K:TV→List (Nat×Blk)→Option R} {y:R} {ti:TI} (ht:C.ty t=some ti) (hk:ti.k= .struct) {cs:List CV}
  (hb:buildCV ti.flds (parts.toList.map fun p=>(p.1,evalTV env p.2)) ti.zero=some cs) (h:K (.agg cs) []=some y):o.wp P a w (Done P w g mu a o.dst K y) Q:=by
 obtain ⟨inf,d,z,h1,h2,h3,h4,harr,h6,h7,h8,h9,h10,h11⟩:=ti_ok (s.ty t ti ht)
 rcases h11 with ⟨fs,rfl,hfs,hfl,_⟩|⟨hns,_,_,_,harr⟩|⟨n,e,ie,rfl,hie,hs1,hn,hfl,_⟩
 ·obtain ⟨r,hr,hrr⟩:=fill_build ti.flds (ti.flds.toArray[·]?) (fun i p h=>by simpa using h) _ _ _ cs z.cells (partsR2 s.env parts.toList) hb (by rw [h10];exact constCVs_R h4)
  have hbt:P.built t (parts.map fun p=>(p.1,a.eval p.2)).toList=some r:=by
   unfold Program.built
   simp only [h1,h2,h3,places_eq fs.toList hfs]
   rw [←hfl,Array.toList_map]
   exact hr
  refine done_pure s (v:= .agg r) (tv:= .agg cs) ?_ h ⟨r,rfl,hrr⟩
  have:=run_build (P:=P) w t _ r hbt
  simp only [execOp,ho,Sem.run_bind]
  rw [this]
  rfl
 ·rw [hk] at h9
  rcases struct_iff.1 h9.symm with ⟨fs,rfl⟩|h
  ·exact absurd rfl (hns fs)
  ·rw [harr] at h;cases h
 ·obtain ⟨r,hr,hrr⟩:=fill_build ti.flds (fun i=>some (i*ie.size,ie.size)) (fun i p h=>by
    rw [hfl,List.getElem?_map] at h
    cases hi:(List.range n)[i]? with
    |none=>rw [hi] at h;cases h
    |some j =>
     have hj:j=i:=by
      have:=List.getElem?_eq_some_iff.1 hi
      obtain ⟨h,e⟩:=this
      simpa using e.symm
     rw [hi] at h
     cases h
     rw [hs1,hj]
     simp) _ _ _ cs z.cells (partsR2 s.env parts.toList) hb (by rw [h10];exact constCVs_R h4)
  have hbt:P.built t (parts.map fun p=>(p.1,a.eval p.2)).toList=some r:=by
   unfold Program.built
   simp only [h1,h2,h3,hie]
   rw [Array.toList_map]
   exact hr
  refine done_pure s (v:= .agg r) (tv:= .agg cs) ?_ h ⟨r,rfl,hrr⟩
  have:=run_build (P:=P) w t _ r hbt
  simp only [execOp,ho,Sem.run_bind]
  rw [this]
  rfl
theorem op_store_box (s:OpSt P C env mu a w g idb) {o:Oper} {t:Nat} {x v:Operand} (ho:o.op= .store t x v) {K:TV→List (Nat×Blk)→Option R} {y:R} {ti:TI} (ht:C.ty t=some ti) {id off:Nat} (hx:evalTV env x= .c (.ptr id off)) {vs cs:List CV}
  (hv:cellsOf (evalTV env v)=some vs) (hlen:vs.length=ti.size) (hb:mu id=some (.box cs)) (hle:off+vs.length≤cs.length) (h:K .und [(id,.box (fillCV cs off vs))]=some y):o.wp P a w (Done P w g mu a o.dst K y) Q:=by
 obtain ⟨inf,d,z,h1,h2,h3,h4,harr,h6,h7,_⟩:=ti_ok (s.ty t ti ht)
 have hvx:=evalTV_R s.env x
 rw [hx] at hvx
 obtain ⟨_,b,base,hc,hvx⟩:=hvx
 have hr:=cellsOf_R hv (evalTV_R s.env v)
 obtain ⟨hrun,hn⟩:=store_box s hb hc hr hle
 have hsz:(a.eval v).cells.size=inf.size:=by
  have:=hr.length
  simp only [Array.length_toList] at this
  omega
 have hrun':(execOp a.eval o).run P w= .ok .skip (w.setCells b (base+off) (a.eval v).cells.toList):=by
  simp only [execOp,ho,Instr.storeAt,hvx,Instr.sureAddr,storeVar,Sem.run_bind,Sem.run_pure,Result.andThen_ok,sizeOf,run_typeInfo w h1,hsz,ne_eq,not_true_eq_false,if_false,hrun]
 unfold Oper.wp
 rw [hrun']
 exact ⟨.und,_,undef,_,rfl,h,hn,rfl⟩
end
end Go.Tm
/- The pure machine, 20: what append runs to. -/
namespace Go.Tm
open Go
section
variable {P:Program} {w:World}
theorem run_append_in {t t2 ty e:TypeId} {i:TypeInfo} (ht:P.underlying t=some (.slice e)) {d2:TypeDesc} (ht2:P.underlying t2=some d2) (hd2:(∃e2,d2= .slice e2)∨d2= .string) (hi:P.info? e=some i)
  {ad:Addr} {n c m:Nat} {x:Value} {news:List Value} (hl:(Builtin.lenOf x).run P w= .ok m w) (hf:(Builtin.firstCells i.size m x).run P w= .ok news.toArray w) (hroom:n+m≤c) (hs:ad.spot=none)
  {w':World} (hst:(storeCells ⟨ad.block,ad.off+n*i.size,none⟩ news).run P w= .ok () w') :
  (Builtin.append_ #[t,t2] ty #[.slice (some ad) n c,x]).run P w= .ok (.slice (some ad) (n+m) c) w':=by
 rcases hd2 with ⟨e2,rfl⟩|rfl <;>
  simp [Builtin.append_,run_underlying ht,run_underlying ht2,sizeOf,typeInfo,hi,hl,hroom,hf,add_none hs,hst]
theorem run_append_out {t t2 ty e:TypeId} {i:TypeInfo} {z:Value} (ht:P.underlying t=some (.slice e)) {d2:TypeDesc} (ht2:P.underlying t2=some d2) (hd2:(∃e2,d2= .slice e2)∨d2= .string) (hi:P.info? e=some i) (hz:i.zero=some z)
  {sa:Option Addr} {n c m:Nat} {x:Value} {olds news:List Value} (ho:(Builtin.firstCells i.size n (.slice sa n c)).run P w.drew= .ok olds.toArray w.drew) (hl:(Builtin.lenOf x).run P w= .ok m w)
  (hf:(Builtin.firstCells i.size m x).run P w.drew= .ok news.toArray w.drew) (hroom:c<n+m) (h63:((n+m:Nat):Int)≤9223372036854775807) (hfit:Builtin.nextslicecap (n+m) c*i.bytes≤281474976710656) :
  (Builtin.append_ #[t,t2] ty #[.slice sa n c,x]).run P w =
   .ok (.slice (some ⟨w.heap.size,0,none⟩) (n+m) (grownCap w (n+m) c e)) (w.drew.alloc (.cells (olds.toArray++(news.toArray++Builtin.zeroCells z.cells (grownCap w (n+m) c e - (n+m)))) e)):=by
 have hr:¬n+m≤c:=by omega
 have h63':¬(9223372036854775807<((n:Int)+(m:Int))):=by omega
 have hfit':¬(281474976710656<Builtin.nextslicecap (n+m) c*i.bytes):=by omega
 rcases hd2 with ⟨e2,rfl⟩|rfl <;>
  simp [Builtin.append_,run_underlying ht,run_underlying ht2,sizeOf,typeInfo,zeroValue,hi,hz,hl,hr,h63',hfit',Question.forced,hf,ho,newRow,grownCap]
end
end Go.Tm
/- The pure machine, 21: what is appended. -/
namespace Go.Tm
open Go
section
variable {P:Program} {C:Ctx} {env:Nat→TV} {mu mu':Mu} {a:Act} {w w':World} {g g':Gh} {o o':Nat→Nat→Own} {idb:Nat} {R:Type} {Q:Exit→Act→World→Prop}
theorem row_vals {es:Tys} {ms:List Md} {qc:Own} {qf:Nat→Nat→Own} {b:Nat}:∀(xs:List es.D) (off i0:Nat),(∀i x,getN xs i=some x→es.Hs P w o ms qc (qf (i0+i)) 0 x b (off+i*es.len)) →
  ∃vals:List Value,vals.length=xs.length*es.len∧(∀k v,vals[k]?=some v→w.cell? ⟨b,off+k,none⟩=some v∧o b (off+k)=qc)∧(∀v∈vals,Cellish v) ∧
   ∀i x,getN xs i=some x→es.Vs P w o ms (qf (i0+i)) 0 x ((vals.drop (i*es.len)).take es.len)
 | [],off,i0,_=>⟨[],by simp,by simp,by simp,by simp [getN]⟩
 |x::xs,off,i0,h=>by
  obtain ⟨vs,h1,h2⟩:=Hs_vs es (by simpa using h 0 x rfl)
  obtain ⟨vals,h3,h4,h5,h6⟩:=row_vals xs (off+es.len) (i0+1) (fun i y hy=>by
   have:=h (i+1) y (by simpa [getN] using hy)
   rwa [show i0+(i+1)=i0+1+i by omega,Nat.add_mul,Nat.one_mul,show off+(i*es.len+es.len)=off+es.len+i*es.len by omega] at this)
  have hl:=Vs_len es h1
  refine ⟨vs++vals,by simp [hl,h3,Nat.add_mul];omega,fun k v hk=>?_,fun v hv=>?_,fun i y hy=>?_⟩
  ·by_cases hlt:k<vs.length
   ·rw [List.getElem?_append_left hlt] at hk;exact h2 k v hk
   ·rw [List.getElem?_append_right (by omega)] at hk
    have:=h4 _ v hk
    rwa [show off+es.len+(k - vs.length)=off+k by omega] at this
  ·rcases List.mem_append.1 hv with hv|hv
   ·exact Vs_cellish es h1 v hv
   ·exact h5 v hv
  ·cases i with
   |zero =>
    simp [getN] at hy;subst hy
    simp only [Nat.zero_mul,List.drop_zero,Nat.add_zero]
    rw [←hl,List.take_left];simpa using h1
   |succ i =>
    have:=h6 i y (by simpa [getN] using hy)
    rw [show i0+1+i=i0+(i+1) by omega] at this
    rw [Nat.add_mul,Nat.one_mul,List.drop_append,List.drop_eq_nil_of_le (by omega),List.nil_append,show i*es.len+es.len - vs.length=i*es.len by omega]
    exact this
structure Src (P:Program) (w:World) (g:Gh) (mu:Mu) (es:Tys) (ms:List Md) (dd:List (Nat×Blk)) (x:CV) (vx:Value) (ys:List es.D) (news:List Value):Prop where
 len:(Builtin.lenOf vx).run P w= .ok ys.length w
 cells:∀w2,(∀b k v,w.cell? ⟨b,k,none⟩=some v→w2.cell? ⟨b,k,none⟩=some v)→(Builtin.firstCells es.len ys.length vx).run P w2= .ok news.toArray w2
 size:news.length=ys.length*es.len
 cellish:∀v∈news,Cellish v
 els:(allSh ms=true∧dd= []∧∀i y,getN ys i=some y→es.Vs P w g.o [] (fun _=> .p) 0 y ((news.drop (i*es.len)).take es.len)) ∨
  (∃id2 ver,x= .own id2∧mu id2=some (.row es ms ys ver)∧dd= [(id2,.dead)]∧∀i y,getN ys i=some y→es.Vs P w g.o ms (fun j=> .o [id2,i,j]) 0 y ((news.drop (i*es.len)).take es.len))
theorem first_slice {es:Tys} {n c:Nat} {ad:Addr} (hs:ad.spot=none) {news:List Value} (hl:news.length=n*es.len) {w2:World} (h:∀k v,news[k]?=some v→w2.cell? ⟨ad.block,ad.off+k,none⟩=some v) :
  (Builtin.firstCells es.len n (.slice (some ad) n c)).run P w2= .ok news.toArray w2 :=
 run_firstCells_some w2 es.len n ad n c news hl fun j v hj=>by rw [add_none hs];exact h j v hj
theorem src_sh {es:Tys} {ms:List Md} {x:CV} {vx:Value} {ys:List es.D} (hms:allSh ms=true) (h:HSh P w g.o es ys vx):∃news,Src P w g mu es ms [] x vx ys news:=by
 obtain ⟨ad,c,rfl,_,h⟩:=h
 rcases h with rfl|⟨p,rfl,hs,h⟩
 ·refine ⟨[],⟨by simp [Builtin.lenOf],fun w2 _=>?_,by simp,by simp,.inl ⟨hms,rfl,by simp [getN]⟩⟩⟩
  cases ad with
  |none=>simp [Builtin.firstCells]
  |some p =>
   have:=run_firstCells_some (P:=P) w2 es.len 0 p 0 c [] (by simp) (by simp)
   simpa using this
 ·obtain ⟨vals,h1,h2,h3,h4⟩:=row_vals (qf:=fun _ _=> .p) ys p.off 0 h
  exact ⟨vals,⟨by simp [Builtin.lenOf],fun w2 hw2=>first_slice hs h1 fun k v hk=>hw2 _ _ _ (h2 k v hk).1,h1,h3,.inl ⟨hms,rfl,h4⟩⟩⟩
theorem src_ok (hm:MemR P w g mu) {es:Tys} {ms:List Md} {x:CV} {vx:Value} (hx:x.R P w g mu vx) {dd:List (Nat×Blk)} (hd:srcOk mu ms x=some dd) {K:List es.D→Option R} {y:R} (h:appended mu es x K=some y) :
  ∃ys news,K ys=some y∧Src P w g mu es ms dd x vx ys news:=by
 cases x<;>simp only [srcOk] at hd<;>try (cases hd;done)
 case nils =>
  cases (hx:vx= .slice none 0 0)
  cases hms:allSh ms with
  |false=>simp [hms] at hd
  |true =>
   simp only [hms,cond_true,Option.some.injEq] at hd;subst hd
   obtain ⟨news,hn⟩:=src_sh (P:=P) (w:=w) (g:=g) (mu:=mu) (es:=es) (x:= .nils) (vx:= .slice none 0 0) (ys:= []) hms ⟨none,0,rfl,Nat.le_refl _,.inl rfl⟩
   exact ⟨[],news,h,hn⟩
 case str b =>
  cases (hx:vx= .string b)
  cases hms:allSh ms with
  |false=>simp [hms] at hd
  |true =>
   simp only [hms,cond_true,Option.some.injEq] at hd;subst hd
   simp only [appended] at h
   cases he:Tys.eq? tyBytes es with
   |none=>simp [he] at h
   |some p =>
    obtain ⟨p⟩:=p
    subst p
    simp only [he] at h
    have hsz:(strBytes b).length=b.size:=by unfold strBytes;rw [List.length_map];rfl
    refine ⟨strBytes b,b.data.toList.map (fun u=> .int .u8 u.toNat),h,⟨by rw [hsz];simp [Builtin.lenOf],fun w2 _=>?_,by rw [hsz,List.length_map];show b.data.toList.length=b.size*1;rw [Nat.mul_one];rfl,fun v hv=>?_,.inl ⟨hms,rfl,fun i u hu=>?_⟩⟩⟩
    ·have e:b.extract 0 b.size=b:=by simp
     rw [hsz]
     simp only [Builtin.firstCells,e,Sem.run_pure]
     congr 1
     apply Array.ext';simp
    ·obtain ⟨u,_,rfl⟩:=List.mem_map.1 hv;trivial
    ·have hu':b.data.toList[i]?.map (fun u=>byteD u.toNat)=some u:=by
      unfold getN strBytes at hu
      rwa [List.getElem?_map] at hu
     cases hb:b.data.toList[i]? with
     |none=>simp [hb] at hu'
     |some v =>
      simp only [hb,Option.map_some,Option.some.injEq] at hu'
      subst hu'
      refine ⟨.int .u8 v.toNat,[],?_,rfl,rfl⟩
      simp only [tyBytes,Tys.len]
      apply List.ext_getElem?
      intro k
      rw [List.getElem?_take,List.getElem?_drop,List.getElem?_map]
      cases k with
      |zero=>simp [hb]
      |succ k=>simp
 case ro es' xs =>
  cases hms:allSh ms with
  |false=>simp [hms] at hd
  |true =>
   simp only [hms,cond_true,Option.some.injEq] at hd;subst hd
   simp only [appended,content] at h
   cases he:Tys.eq? es' es with
   |none=>simp [he] at h
   |some p =>
    obtain ⟨p⟩:=p
    subst p
    simp only [he] at h
    obtain ⟨news,hn⟩:=src_sh (P:=P) (w:=w) (g:=g) (mu:=mu) (es:=es') (x:= .ro es' xs) (vx:=vx) (ys:=xs) hms ((H_sh (q:= .p)).1 hx)
    exact ⟨xs,news,h,hn⟩
 case own id =>
  simp only [appended,content] at h
  obtain ⟨_,hc,_⟩:=hx
  cases hb:mu id with
  |none=>simp [hb] at hd
  |some bl =>
   have hbr:=hm id bl hb
   cases bl<;>simp only [hb] at hd h<;>try (cases hd;done)
   case row es' ms' xs ver =>
    cases he:Tys.eq? es' es with
    |none=>simp [he] at h
    |some p =>
     obtain ⟨p⟩:=p
     subst p
     simp only [he] at h
     obtain ⟨v',hc',hr⟩:=hbr
     have:v'=vx:=by rw [hc] at hc';cases hc';rfl
     subst this
     cases hsh:allSh ms' with
     |true =>
      simp only [hsh,cond_true] at hd
      cases hms:allSh ms with
      |false=>simp [hms] at hd
      |true =>
       simp only [hms,cond_true,Option.some.injEq] at hd;subst hd
       obtain ⟨ad,c,hv,hcap,hh⟩:=H_own.1 hr
       refine ⟨xs,?_⟩
       rcases hh with ⟨rfl,_⟩|⟨p,rfl,hs,_,hh⟩
       ·obtain ⟨news,hn⟩:=src_sh (P:=P) (w:=w) (g:=g) (mu:=mu) (es:=es') (x:= .own id) (vx:=v') (ys:= []) hms ⟨ad,c,hv,hcap,.inl rfl⟩
        exact ⟨news,h,hn⟩
       ·obtain ⟨vals,h1,h2,h3,h4⟩:=row_vals (qf:=fun i j=> .o ([id]++ [i,j])) xs p.off 0 (by simpa using hh)
        exact ⟨vals,h,⟨by rw [hv];simp [Builtin.lenOf],fun w2 hw2=>by rw [hv];exact first_slice hs.1 h1 fun k v hk=>hw2 _ _ _ (h2 k v hk).1,h1,h3,.inl ⟨hms,rfl,fun i y hy=>Vs_q es' (Vs_of_allSh es' hsh (h4 i y hy))⟩⟩⟩
     |false =>
      simp only [hsh,cond_false] at hd
      cases hmb:mdsBeq ms ms' with
      |false=>simp [hmb] at hd
      |true =>
       simp only [hmb,cond_true,Option.some.injEq] at hd;subst hd
       cases mdsBeq_eq hmb
       obtain ⟨ad,c,hv,hcap,hh⟩:=H_own.1 hr
       refine ⟨xs,?_⟩
       rcases hh with ⟨rfl,hc0⟩|⟨p,rfl,hs,_,hh⟩
       ·refine ⟨[],h,⟨by rw [hv];simp [Builtin.lenOf],fun w2 _=>?_,by simp,by simp,.inr ⟨id,ver,rfl,hb,rfl,by simp [getN]⟩⟩⟩
        rw [hv]
        cases ad with
        |none=>simp [Builtin.firstCells]
        |some p =>
         have:=run_firstCells_some (P:=P) w2 es'.len 0 p 0 c [] (by simp) (by simp)
         simpa using this
       ·obtain ⟨vals,h1,h2,h3,h4⟩:=row_vals (qf:=fun i j=> .o ([id]++ [i,j])) xs p.off 0 (by simpa using hh)
        exact ⟨vals,h,⟨by rw [hv];simp [Builtin.lenOf],fun w2 hw2=>by rw [hv];exact first_slice hs.1 h1 fun k v hk=>hw2 _ _ _ (h2 k v hk).1,h1,h3,.inr ⟨id,ver,rfl,hb,rfl,fun i y hy=>by simpa using h4 i y hy⟩⟩⟩
   case fz es' xs =>
    cases hms:allSh ms with
    |false=>simp [hms] at hd
    |true =>
     simp only [hms,cond_true,Option.some.injEq] at hd;subst hd
     cases he:Tys.eq? es' es with
     |none=>simp [he] at h
     |some p =>
      obtain ⟨p⟩:=p
      subst p
      simp only [he] at h
      obtain ⟨v',hc',hr⟩:=hbr
      have:v'=vx:=by rw [hc] at hc';cases hc';rfl
      subst this
      obtain ⟨news,hn⟩:=src_sh (P:=P) (w:=w) (g:=g) (mu:=mu) (es:=es') (x:= .own id) (vx:=v') (ys:=xs) hms (H_sh.1 hr)
      exact ⟨xs,news,h,hn⟩
end
end Go.Tm
/- The pure machine, 22: append. -/
namespace Go.Tm
open Go
section
variable {P:Program} {C:Ctx} {env:Nat→TV} {mu mu':Mu} {a:Act} {w w':World} {g g':Gh} {o o':Nat→Nat→Own} {idb:Nat} {R:Type} {Q:Exit→Act→World→Prop}
def appF (idb n:Nat) (sid xid:Option Nat):Nat→List Nat→Own:=fun id s =>
 if sid=some id then .o (idb::s)
 else if xid=some id then (match s with|i::j::r=> .o (idb::(n+i)::j::r)|_=> .x)
 else .o (id::s)
theorem appF_ne {n:Nat} {sid xid:Option Nat} (id:Nat) (s:List Nat):appF idb n sid xid id s≠ .o []:=by
 unfold appF
 split
 ·simp
 ·split
  ·split<;>simp
  ·simp
theorem appF_o {n:Nat} {sid xid:Option Nat} {id p:Nat} {s l:List Nat} (h:appF idb n sid xid id s= .o (p::l)):p=idb∨p=id:=by
 unfold appF at h
 split at h
 ·cases h;exact .inl rfl
 ·split at h
  ·split at h
   ·cases h;exact .inl rfl
   ·cases h
  ·cases h;exact .inr rfl
theorem app_els {es:Tys} {ms:List Md} {dd:List (Nat×Blk)} {x:CV} {vx:Value} {xs ys:List es.D} {olds news:List Value} (hw:Wf w g.o) (hsrc:Src P w g mu es ms dd x vx ys news) {sid xid:Option Nat} (hxid:∀id2,x= .own id2→dd≠ []→xid=some id2∧sid≠some id2)
  {Wr:Nat→Nat→Prop} (hmv:Mvd w g w' g' (appF idb xs.length sid xid) Wr) (hwr:∀b k,Wr b k→∃id,sid=some id∧g.o b k= .o [id]) (hol:olds.length=xs.length*es.len)
  (hold:∀i y,getN xs i=some y→∃id,sid=some id∧es.Vs P w g.o ms (fun j=> .o [id,i,j]) 0 y ((olds.drop (i*es.len)).take es.len)) :
  ∀i y,getN (lapp xs ys) i=some y→es.Vs P w' g'.o ms (fun j=> .o [idb,i,j]) 0 y (((olds++news).drop (i*es.len)).take es.len):=by
 intro i y hy
 unfold lapp getN at hy
 by_cases hlt:i<xs.length
 ·rw [List.getElem?_append_left hlt] at hy
  obtain ⟨id,hid,hv⟩:=hold i y hy
  have hmul:(i+1)*es.len≤xs.length*es.len:=Nat.mul_le_mul_right _ hlt
  rw [Nat.add_mul,Nat.one_mul] at hmul
  rw [List.drop_append_of_le_length (by omega),List.take_append_of_le_length (by simp;omega)]
  refine Vs_re hmv.perm hw es ms (fun j=>hmv.rl (l:= [i,j]) (by simp) (fun s=>?_) (fun b k hb s e=>?_)) hv
  ·simp [appF,hid,ext]
  ·obtain ⟨id',_,h2⟩:=hwr b k hb
   rw [h2] at e;simp at e
 ·rw [List.getElem?_append_right (by omega)] at hy
  have hmul:xs.length*es.len≤i*es.len:=Nat.mul_le_mul_right _ (by omega)
  rw [List.drop_append,List.drop_eq_nil_of_le (by omega),List.nil_append,hol,←Nat.sub_mul]
  rcases hsrc.els with ⟨hsh,_,he⟩|⟨id2,ver,hx,_,hdd,he⟩
  ·exact Vs_to_allSh es hsh (Vs_q es (Vs_perm hmv.perm hw es (he _ y hy)))
  ·obtain ⟨h1,h2⟩:=hxid id2 hx (by rw [hdd];simp)
   refine Vs_re hmv.perm hw es ms (fun j=>hmv.rl (l:= [i - xs.length,j]) (by simp) (fun s=>?_) (fun b k hb s e=>?_)) (he _ y hy)
   ·simp only [appF,if_neg h2,if_pos h1,ext,List.cons_append,List.nil_append]
    rw [show xs.length+(i - xs.length)=i by omega]
   ·obtain ⟨id',_,h3⟩:=hwr b k hb
    rw [h3] at e;simp at e
def appMs (dd:List (Nat×Blk)) (sid:Option Nat) (idb:Nat) (b:Blk):List (Nat×Blk):=dd++((match sid with|some id=> [(id,Blk.dead)]|none=> [])++ [(idb,b)])
theorem appMs_mem {dd:List (Nat×Blk)} {sid:Option Nat} {b b':Blk} {id:Nat} (h:(id,b')∈appMs dd sid idb b):(id,b')∈dd∨(sid=some id∧b'= .dead)∨(id=idb∧b'=b):=by
 unfold appMs at h
 rcases List.mem_append.1 h with h|h
 ·exact .inl h
 ·rcases List.mem_append.1 h with h|h
  ·cases sid with
   |none=>cases h
   |some i=>simp at h;exact .inr (.inl ⟨by rw [h.1],h.2⟩)
  ·simp at h;exact .inr (.inr h)
theorem appMs_facts {dd:List (Nat×Blk)} {sid xid:Option Nat} {b:Blk} {n:Nat} (hdd:∀id b',(id,b')∈dd→b'= .dead∧xid=some id) (hx:∀id,xid=some id→(id,Blk.dead)∈dd) (hidb:mu idb=none) :
  updL mu (appMs dd sid idb b) idb≠none∧(∀id s,¬(sid=some id∨xid=some id)→appF idb n sid xid id s= .o (id::s)) ∧
  (∀id s p l,mu id≠none→appF idb n sid xid id s= .o (p::l)→updL mu (appMs dd sid idb b) p≠none) ∧
  (∀id,¬(sid=some id∨xid=some id)→mu id≠none→∀b',(id,b')∉appMs dd sid idb b) ∧
  (∀id b',(sid=some id∨xid=some id)→mu id≠none→updL mu (appMs dd sid idb b) id=some b'→b'= .dead) ∧
  (∀id b',(sid=some id∨xid=some id)∨mu id=none→updL mu (appMs dd sid idb b) id=some b'→b'= .dead∨(id=idb∧b'=b)):=by
 have hidbm:(idb,b)∈appMs dd sid idb b:=by unfold appMs;simp
 have h1:updL mu (appMs dd sid idb b) idb≠none:=updL_mem hidbm
 have hT:∀id,sid=some id∨xid=some id→(id,Blk.dead)∈appMs dd sid idb b:=by
  intro id h
  unfold appMs
  rcases h with h|h
  ·subst h;simp
  ·exact List.mem_append_left _ (hx id h)
 refine ⟨h1,fun id s h=>?_,fun id s p l h2 h3=>?_,fun id h h2 b' hb=>?_,fun id b' h h2 h3=>?_,fun id b' h h3=>?_⟩
 ·unfold appF
  rw [if_neg (fun e=>h (.inl e)),if_neg (fun e=>h (.inr e))]
 ·rcases appF_o h3 with rfl|rfl
  ·exact h1
  ·exact updL_some h2
 ·rcases appMs_mem hb with hb|⟨hb,_⟩|⟨rfl,_⟩
  ·exact h (.inr (hdd _ _ hb).2)
  ·exact h (.inl hb)
  ·exact h2 hidb
 ·rcases updL_cases h3 with h4|⟨hn,_⟩
  ·rcases appMs_mem h4 with h4|⟨_,h4⟩|⟨rfl,_⟩
   ·exact (hdd _ _ h4).1
   ·exact h4
   ·exact absurd hidb h2
  ·exact absurd (hT id h) (hn _)
 ·rcases updL_cases h3 with h4|⟨hn,h4⟩
  ·rcases appMs_mem h4 with h4|⟨_,h4⟩|h4
   ·exact .inl (hdd _ _ h4).1
   ·exact .inl h4
   ·exact .inr h4
  ·rcases h with h|h
   ·exact absurd (hT id h) (hn _)
   ·rw [h] at h4;cases h4
end
end Go.Tm
/- The pure machine, 23: append as an operation. -/
namespace Go.Tm
open Go
section
variable {P:Program} {C:Ctx} {env:Nat→TV} {mu mu':Mu} {a:Act} {w w':World} {g g':Gh} {o o':Nat→Nat→Own} {idb:Nat} {R:Type} {Q:Exit→Act→World→Prop}
theorem Nxt.of_drew (h:Nxt P w.drew g mu w' g' mu'):Nxt P w g mu w' g' mu' :=
 let ⟨T,a,b,c,d,e⟩:=h
 ⟨T,⟨a.cell,a.c,a.pres,a.same,a.ver⟩,⟨b.os,b.tape,b.output,b.size,b.blk,b.cell,b.there,b.frz⟩,c,d,e⟩
theorem Mvd.of_drew {f:Nat→List Nat→Own} {Wr:Nat→Nat→Prop} (h:Mvd w.drew g w' g' f Wr):Mvd w g w' g' f Wr:=⟨h.keep,h.there,h.own,h.wr⟩
theorem Wf.drew (h:Wf w o):Wf w.drew o:=⟨h.cell,h.ne⟩
theorem drop_take_app {α:Type} {xs ys:List α} {a n:Nat} (h:a+n≤xs.length):((xs++ys).drop a).take n=(xs.drop a).take n:=by
 rw [List.drop_append_of_le_length (by omega),List.take_append_of_le_length (by simp;omega)]
theorem app_out (s:OpSt P C env mu a w g idb) {es:Tys} {ms:List Md} {dd:List (Nat×Blk)} {x:CV} {vx:Value} {xs ys:List es.D} {olds news zs:List Value} (hsrc:Src P w g mu es ms dd x vx ys news) {sid xid:Option Nat}
  (hxid:∀id2,x= .own id2→dd≠ []→xid=some id2∧sid≠some id2) (hdd:∀id b',(id,b')∈dd→b'= .dead∧xid=some id) (hx:∀id,xid=some id→(id,Blk.dead)∈dd)
  (hol:olds.length=xs.length*es.len) (hold:∀i y,getN xs i=some y→∃id,sid=some id∧es.Vs P w g.o ms (fun j=> .o [id,i,j]) 0 y ((olds.drop (i*es.len)).take es.len)) {cap:Nat}
  (hcap:xs.length+ys.length≤cap) (hbig:cap≤9223372036854775807) (hzs:(olds++news++zs).length=cap*es.len) (t:TypeId) :
  ∃g',Nxt P w g mu (w.drew.alloc (.cells (olds++news++zs).toArray t)) g' (updL mu (appMs dd sid idb (.row es ms (lapp xs ys) 0))) ∧
   (CV.own idb).R P (w.drew.alloc (.cells (olds++news++zs).toArray t)) g' (updL mu (appMs dd sid idb (.row es ms (lapp xs ys) 0))) (.slice (some ⟨w.heap.size,0,none⟩) (xs.length+ys.length) cap):=by
 have hidb:=s.fresh idb (Nat.le_refl _) (by omega)
 obtain ⟨f1,f2,f3,f4,f5,f6⟩:=appMs_facts (mu:=mu) (idb:=idb) (b:= .row es ms (lapp xs ys) 0) (n:=xs.length) (sid:=sid) hdd hx hidb
 let v:Value:= .slice (some ⟨w.heap.size,0,none⟩) (xs.length+ys.length) cap
 let g':=allocG w.drew g idb (olds++news++zs).length (appF idb xs.length sid xid) v
 have hmv:Mvd w g (w.drew.alloc (.cells (olds++news++zs).toArray t)) g' (appF idb xs.length sid xid) (fun _ _=>False):=Mvd.of_drew alloc_mvd
 have hels:=app_els (P:=P) (w':=w.drew.alloc (.cells (olds++news++zs).toArray t)) (g':=g') s.wf hsrc hxid hmv (fun _ _ h=>h.elim) hol hold
 have hll:(lapp xs ys).length=xs.length+ys.length:=by simp [lapp]
 have hns:=hsrc.size
 have hH:(Ty.sl es).H P (w.drew.alloc (.cells (olds++news++zs).toArray t)) g'.o (.own ms) (.o [idb]) (lapp xs ys) v:=by
  refine alloc_H (w:=w.drew) (s.wf.drew) (by rw [hll];exact hcap) hbig (by rw [hll];rfl) hzs fun i y hi=>?_
  have hlt:i<xs.length+ys.length:=by rw [←hll];exact (List.getElem?_eq_some_iff.1 hi).1
  have hmul:(i+1)*es.len≤(xs.length+ys.length)*es.len:=Nat.mul_le_mul_right _ hlt
  rw [Nat.add_mul,Nat.one_mul,Nat.add_mul] at hmul
  rw [drop_take_app (by simp;omega)]
  exact hels i y hi
 have hci:g'.c idb= .row v:=by show (if idb=idb then _ else _)=_;simp
 refine ⟨g',Nxt.of_drew (alloc_nxt (T:=fun id=>sid=some id∨xid=some id) s.wf.drew s.own hidb f2 appF_ne f3 f1 f4 (fun id es' ms' xs' ver hT h1 h2=>by have:=f5 id _ hT h1 h2;cases this) (fun id b hT h2=>?_)),⟨f1,hci,_,_,_,rfl⟩⟩
 rcases f6 id b hT h2 with rfl|⟨rfl,rfl⟩
 ·trivial
 ·exact ⟨v,hci,hH⟩
theorem app_in (s:OpSt P C env mu a w g idb) {es:Tys} {ms:List Md} {dd:List (Nat×Blk)} {x:CV} {vx:Value} {xs ys:List es.D} {olds news:List Value} (hsrc:Src P w g mu es ms dd x vx ys news) {sid xid:Option Nat}
  (hxid:∀id2,x= .own id2→dd≠ []→xid=some id2∧sid≠some id2) (hdd:∀id b',(id,b')∈dd→b'= .dead∧xid=some id) (hx:∀id,xid=some id→(id,Blk.dead)∈dd)
  (hol:olds.length=xs.length*es.len) (hold:∀i y,getN xs i=some y→∃id,sid=some id∧es.Vs P w g.o ms (fun j=> .o [id,i,j]) 0 y ((olds.drop (i*es.len)).take es.len)) {cap:Nat}
  (hcap:xs.length+ys.length≤cap) {ad:Option Addr} (hc0:(lapp xs ys= []∧cap=0)∨∃p id,ad=some p∧CapOk p cap∧sid=some id∧(∀k,k<cap*es.len→g.o p.block (p.off+k)= .o [id])∧∀k v,olds[k]?=some v→w.cell? ⟨p.block,p.off+k,none⟩=some v) :
  ∃b0 off g',(∀p,ad=some p→(b0,off)=(p.block,p.off+xs.length*es.len))∧(cap≠0→(storeCells ⟨b0,off,none⟩ news).run P w= .ok () (w.setCells b0 off news))∧(cap=0→news= []) ∧
   Nxt P w g mu (w.setCells b0 off news) g' (updL mu (appMs dd sid idb (.row es ms (lapp xs ys) 0))) ∧
   (CV.own idb).R P (w.setCells b0 off news) g' (updL mu (appMs dd sid idb (.row es ms (lapp xs ys) 0))) (.slice ad (xs.length+ys.length) cap):=by
 have hidb:=s.fresh idb (Nat.le_refl _) (by omega)
 obtain ⟨f1,f2,f3,f4,f5,f6⟩:=appMs_facts (mu:=mu) (idb:=idb) (b:= .row es ms (lapp xs ys) 0) (n:=xs.length) (sid:=sid) hdd hx hidb
 let v:Value:= .slice ad (xs.length+ys.length) cap
 have hll:(lapp xs ys).length=xs.length+ys.length:=by simp [lapp]
 have hns:=hsrc.size
 let b0:Nat:=match ad with|some p=>p.block|none=>0
 let off:Nat:=match ad with|some p=>p.off+xs.length*es.len|none=>0
 let c':Nat→Conc:=fun id=>if id=idb then .row v else g.c id
 let g':Gh:=⟨fun b k=>re (appF idb xs.length sid xid) (g.o b k),c'⟩
 have hc':∀id,mu id≠none→c' id=g.c id:=fun id h=>if_neg (fun (e:id=idb)=>h (e▸hidb))
 have hci:g'.c idb= .row v:=if_pos rfl
 have hnil:cap=0→news= []:=fun h=>by
  have:ys.length=0:=by omega
  exact List.eq_nil_of_length_eq_zero (by rw [hns,this,Nat.zero_mul])
 have hcell:∀k,k<news.length→∃id,sid=some id∧g.o b0 (off+k)= .o [id]:=by
  intro k hk
  rcases hc0 with ⟨_,h0⟩|⟨p,id,hp,hs,hid,ho,_⟩
  ·rw [hnil h0] at hk;simp at hk
  ·subst hp
   have hmul:(xs.length+ys.length)*es.len≤cap*es.len:=Nat.mul_le_mul_right _ hcap
   rw [Nat.add_mul] at hmul
   have:=ho (xs.length*es.len+k) (by omega)
   exact ⟨id,hid,by show g.o p.block (p.off+xs.length*es.len+k)=_;rwa [Nat.add_assoc]⟩
 obtain ⟨id0,hid0⟩:∃id0,∀k,k<news.length→sid=some id0∧g.o b0 (off+k)= .o [id0]:=by
  cases hs:sid with
  |none=>exact ⟨0,fun k hk=>by obtain ⟨id,h,_⟩:=hcell k hk;rw [hs] at h;cases h⟩
  |some i=>exact ⟨i,fun k hk=>by obtain ⟨id,h,h2⟩:=hcell k hk;rw [hs] at h;cases h;exact ⟨rfl,h2⟩⟩
 have hmv:Mvd w g (w.setCells b0 off news) g' (appF idb xs.length sid xid) (fun b k=>b=b0∧off≤k∧k<off+news.length):=set_mvd (id0:=id0) s.wf fun k hk=>(hid0 k hk).2
 have hels:=app_els (P:=P) (w':=w.setCells b0 off news) (g':=g') s.wf hsrc hxid hmv (fun b k h=>by
  obtain ⟨rfl,h1,h2⟩:=h
  have:=hid0 (k - off) (by omega)
  rw [show off+(k - off)=k by omega] at this
  exact ⟨id0,this⟩) hol hold
 have hex:∀k,k<news.length→∃u,w.cell? ⟨b0,off+k,none⟩=some u:=fun k hk=>(s.wf.cell _ _ _ (hid0 k hk).2).1
 have hH:(Ty.sl es).H P (w.setCells b0 off news) g'.o (.own ms) (.o [idb]) (lapp xs ys) v:=by
  refine H_own.2 ⟨ad,cap,by show Value.slice ad _ cap=_;rw [hll],by rw [hll];exact hcap,?_⟩
  rcases hc0 with h0|⟨p,id,hp,hs,hid,ho,hold'⟩
  ·exact .inl h0
  ·subst hp
   refine .inr ⟨p,rfl,hs,fun k hk=>?_,fun i y hi=>Vs_hs es (hels i y hi) fun k u hu=>?_⟩
   ·show re _ (g.o p.block (p.off+k))=_
    rw [ho k hk]
    simp [re,appF,hid]
   ·have hu':=All2.getD_drop_take hu
    have hlt:=(List.getElem?_eq_some_iff.1 hu').1
    simp only [List.length_append] at hlt
    have hmul:(xs.length+ys.length)*es.len≤cap*es.len:=Nat.mul_le_mul_right _ hcap
    rw [Nat.add_mul] at hmul
    refine ⟨?_,?_⟩
    ·by_cases h1:i*es.len+k<olds.length
     ·rw [List.getElem?_append_left h1] at hu'
      have:=hold' _ u hu'
      rw [World.cell?_setCells_out b0 news off w ⟨p.block,p.off+i*es.len+k,none⟩ (fun _ _=> .inl (by
       show p.off+i*es.len+k<p.off+xs.length*es.len
       omega))]
      rwa [Nat.add_assoc]
     ·rw [List.getElem?_append_right (by omega)] at hu'
      have hlt2:=(List.getElem?_eq_some_iff.1 hu').1
      have:=World.cell?_setCells_in b0 news off w (fun j hj=>by obtain ⟨u,hu⟩:=hex j hj;simp [hu]) (i*es.len+k - olds.length) hlt2
      rw [List.getElem?_eq_getElem hlt2] at hu'
      cases hu'
      rw [show p.off+i*es.len+k=off+(i*es.len+k - olds.length) by show _=p.off+xs.length*es.len+_;omega]
      exact this
    ·show re _ (g.o p.block (p.off+i*es.len+k))=_
     rw [Nat.add_assoc,ho _ (by omega)]
     simp [re,appF,hid]
 refine ⟨b0,off,g',fun p hp=>by subst hp;rfl,fun _=>?_,hnil,set_nxt (T:=fun id=>sid=some id∨xid=some id) (id0:=id0) s.wf s.own (fun hne=>?_) (fun k hk=>(hid0 k hk).2) hc' f2 appF_ne f3 f4
  (fun id es' ms' xs' ver hT h1 h2=>by have:=f5 id _ hT h1 h2;cases this) (fun id b hT h2=>?_),⟨f1,hci,_,_,_,rfl⟩⟩
 ·have:=run_storeCells_cells (P:=P) b0 off news 0 w (fun j hj=>by obtain ⟨u,hu⟩:=hex j hj;simp [hu]) (fun j hj=>by
   exact (s.wf.cell _ _ _ (hid0 j hj).2).2 _) (fun u hu=>cellish_one (hsrc.cellish u hu))
  simpa using this
 ·cases news with
  |nil=>exact absurd rfl hne
  |cons u us=>exact .inl (hid0 0 (by simp)).1
 ·rcases f6 id b hT h2 with rfl|⟨rfl,rfl⟩
  ·trivial
  ·exact ⟨v,hci,hH⟩
end
end Go.Tm
/- The pure machine, 24: append, the operation. -/
namespace Go.Tm
open Go
section
variable {P:Program} {C:Ctx} {env:Nat→TV} {mu mu':Mu} {a:Act} {w w':World} {g g':Gh} {o o':Nat→Nat→Own} {idb:Nat} {R:Type} {Q:Exit→Act→World→Prop}
theorem run_append_zero {t t2 ty e:TypeId} {i:TypeInfo} (ht:P.underlying t=some (.slice e)) {d2:TypeDesc} (ht2:P.underlying t2=some d2) (hd2:(∃e2,d2= .slice e2)∨d2= .string) (hi:P.info? e=some i)
  {x:Value} {n c:Nat} {ad:Option Addr} (hl:(Builtin.lenOf x).run P w= .ok 0 w) (hf:(Builtin.firstCells i.size 0 x).run P w= .ok #[] w) (hnc:n≤c) :
  (Builtin.append_ #[t,t2] ty #[.slice ad n c,x]).run P w= .ok (.slice ad n c) w:=by
 cases ad<;>rcases hd2 with ⟨e2,rfl⟩|rfl <;>
  simp [Builtin.append_,run_underlying ht,run_underlying ht2,sizeOf,typeInfo,hi,hl,hf,hnc,storeCells]
theorem append_run (s:OpSt P C env mu a w g idb) {t t2 ty e:TypeId} {te:TI} (hte:elemTI C t=some (e,te)) {d2:TypeDesc} (ht2:P.underlying t2=some d2) (hd2:(∃e2,d2= .slice e2)∨d2= .string)
  {es:Tys} (hes:es.len=te.size) {ms:List Md} {dd:List (Nat×Blk)} {x:CV} {vx:Value} {xs ys:List es.D} {news:List Value} (hsrc:Src P w g mu es ms dd x vx ys news) {sid xid:Option Nat}
  (hxid:∀id2,x= .own id2→dd≠ []→xid=some id2∧sid≠some id2) (hdd:∀id b',(id,b')∈dd→b'= .dead∧xid=some id) (hx:∀id,xid=some id→(id,Blk.dead)∈dd)
  {ad:Option Addr} {cap:Nat} (hcap:xs.length≤cap) {olds:List Value} (hol:olds.length=xs.length*es.len)
  (hold:∀i y,getN xs i=some y→∃id,sid=some id∧es.Vs P w g.o ms (fun j=> .o [id,i,j]) 0 y ((olds.drop (i*es.len)).take es.len))
  (hc0:(xs= []∧cap=0)∨∃p id,ad=some p∧CapOk p cap∧sid=some id∧(∀k,k<cap*es.len→g.o p.block (p.off+k)= .o [id])∧∀k v,olds[k]?=some v→w.cell? ⟨p.block,p.off+k,none⟩=some v)
  (hroom:room (xs.length+ys.length) te.bytes=true) :
  ∃v w' g',(Builtin.append_ #[t,t2] ty #[.slice ad xs.length cap,vx]).run P w= .ok v w'∧Nxt P w g mu w' g' (updL mu (appMs dd sid idb (.row es ms (lapp xs ys) 0))) ∧
   (CV.own idb).R P w' g' (updL mu (appMs dd sid idb (.row es ms (lapp xs ys) 0))) v:=by
 obtain ⟨ht,hety,_,_⟩:=elemTI_ok s.ty hte
 obtain ⟨inf,d,z,h1,h2,h3,h4,harr,h6,h7,h8,_⟩:=ti_ok (s.ty e te hety)
 have hsz:inf.size=es.len:=by rw [hes,h7]
 have hroom:(xs.length+ys.length)*te.bytes≤70368744177664∧0<te.bytes:=of_decide_eq_true hroom
 have hcells:=hsrc.cells
 have hns:=hsrc.size
 by_cases hin:xs.length+ys.length≤cap
 ·have hc0':(lapp xs ys= []∧cap=0)∨∃p id,ad=some p∧CapOk p cap∧sid=some id∧(∀k,k<cap*es.len→g.o p.block (p.off+k)= .o [id])∧∀k v,olds[k]?=some v→w.cell? ⟨p.block,p.off+k,none⟩=some v:=by
   rcases hc0 with ⟨h,h0⟩|h
   ·left
    have:ys.length=0:=by omega
    have hy:ys= []:=List.eq_nil_of_length_eq_zero this
    exact ⟨by rw [h,hy];rfl,h0⟩
   ·exact .inr h
  obtain ⟨b0,off,g',hb,hst,hn0,hnx,hr⟩:=app_in s hsrc hxid hdd hx hol hold hin hc0'
  refine ⟨_,_,g',?_,hnx,hr⟩
  rcases hc0 with ⟨hxs,h0⟩|⟨p,id,hp,hs,hid,_,_⟩
  ·have hy:ys.length=0:=by omega
   have hx0:xs.length=0:=by simp [hxs]
   have hnews:=hn0 h0
   have hl:=hsrc.len
   have hf:=hcells w fun _ _ _ h=>h
   rw [hy] at hl hf
   rw [hnews] at hf ⊢
   rw [hy,hx0,Nat.add_zero]
   exact run_append_zero ht ht2 hd2 h1 hl (by rw [hsz];exact hf) (by omega)
  ·subst hp
   have hpo:=hb p rfl
   cases hpo
   by_cases hcz:cap=0
   ·have hy:ys.length=0:=by omega
    have hx0:xs.length=0:=by omega
    have hnews:=hn0 hcz
    have hl:=hsrc.len
    have hf:=hcells w fun _ _ _ h=>h
    rw [hy] at hl hf
    rw [hnews] at hf ⊢
    rw [hy,Nat.add_zero]
    exact run_append_zero ht ht2 hd2 h1 hl (by rw [hsz];exact hf) (by omega)
   ·exact run_append_in ht ht2 hd2 h1 hsrc.len (by rw [hsz];exact hcells w fun _ _ _ h=>h) hin hs.1 (by rw [hsz];exact hst hcz)
 ·have hge:=grownCap_ge w (xs.length+ys.length) cap e
  have hzl:(olds++news++(Builtin.zeroCells z.cells (grownCap w (xs.length+ys.length) cap e - (xs.length+ys.length))).toList).length=grownCap w (xs.length+ys.length) cap e*es.len:=by
   simp only [List.length_append,Array.length_toList,size_zeroCells,hol,hns,h6,hsz]
   rw [←Nat.add_mul,←Nat.add_mul]
   congr 1;omega
  have hnb:xs.length+ys.length≤(xs.length+ys.length)*te.bytes:=Nat.le_mul_of_pos_right _ hroom.2
  have hgb:grownCap w (xs.length+ys.length) cap e≤9223372036854775807:=by
   have:=grownCap_le_maxLen w (xs.length+ys.length) cap e (by unfold maxLen;omega)
   unfold maxLen at this
   omega
  obtain ⟨g',hnx,hr⟩:=app_out s hsrc hxid hdd hx hol hold hge hgb hzl e
  refine ⟨_,_,g',?_,hnx,hr⟩
  have e1:(olds++news++(Builtin.zeroCells z.cells (grownCap w (xs.length+ys.length) cap e - (xs.length+ys.length))).toList).toArray=olds.toArray++(news.toArray++Builtin.zeroCells z.cells (grownCap w (xs.length+ys.length) cap e - (xs.length+ys.length))):=by
   apply Array.ext';simp
  rw [e1]
  have hb1:xs.length+ys.length≤(xs.length+ys.length)*te.bytes:=Nat.le_mul_of_pos_right _ hroom.2
  refine run_append_out ht ht2 hd2 h1 h3 ?_ hsrc.len (by rw [hsz];exact hcells w.drew fun _ _ _ h=>h) (by omega) (by omega) ?_
  ·rcases hc0 with ⟨hxs,_⟩|⟨p,id,hp,hs,_,_,hold'⟩
   ·have hx0:xs.length=0:=by simp [hxs]
    have ho:olds= []:=List.eq_nil_of_length_eq_zero (by rw [hol,hx0,Nat.zero_mul])
    rw [ho,hx0]
    cases ad with
    |none=>simp [Builtin.firstCells]
    |some p =>
     have:=run_firstCells_some (P:=P) w.drew inf.size 0 p 0 cap [] (by simp) (by simp)
     simpa using this
   ·subst hp
    rw [hsz]
    exact first_slice hs.1 hol fun k v hk=>hold' k v hk
  ·refine growslice_fits (by omega) ?_
   rw [←h8];omega
theorem op_append (s:OpSt P C env mu a w g idb) {o:Oper} {c:Call} (ho:o.op= .call c) (hc:c.callee= .builtin .append) {K:TV→List (Nat×Blk)→Option R} {y:R} {rid i:Nat}
  (h:builtinU C mu idb rid i .append c.argTypes.toList (c.args.toList.map (evalTV env)) K=some y):o.wp P a w (Done P w g mu a o.dst K y) Q:=by
 unfold builtinU at h
 split at h
 ·rename_i hb _;cases hb
 ·rename_i hb _;cases hb
 ·rename_i hb _;cases hb
 ·rename_i scv xcv _ hargs
  split at h
  ·rename_i t t2 htys
   split at h
   ·rename_i e te ti2 hte ht2
    cases hk2:apTy ti2.k with
    |false=>rw [hk2] at h;cases h
    |true =>
     rw [hk2,cond_true] at h
     obtain ⟨ht,hety,hlen,_⟩:=elemTI_ok s.ty hte
     obtain ⟨inf2,d2,z2,_,hu2,_,_,_,_,_,_,hkd2,_⟩:=ti_ok (s.ty t2 ti2 ht2)
     have hd2:(∃e2,d2= .slice e2)∨d2= .string:=by
      rw [hkd2] at hk2
      cases d2<;>simp [tkOf,apTy] at hk2 ⊢
     have ht0:c.argTypes= #[t,t2]:=by rw [←Array.toList_inj,htys]
     obtain ⟨sx,xx,ha0,hsx,hxx⟩:∃sx xx,c.args= #[sx,xx]∧evalTV env sx= .c scv∧evalTV env xx= .c xcv:=by
      cases hl:c.args.toList with
      |nil=>rw [hl] at hargs;cases hargs
      |cons sx r =>
       cases r with
       |nil=>rw [hl] at hargs;simp at hargs
       |cons xx r =>
        cases r with
        |cons _ _=>rw [hl] at hargs;simp at hargs
        |nil =>
         rw [hl] at hargs
         simp only [List.map_cons,List.map_nil,List.cons.injEq,and_true] at hargs
         exact ⟨sx,xx,by rw [←Array.toList_inj,hl],hargs.1,hargs.2⟩
     have hvs:=evalTV_R s.env sx
     rw [hsx] at hvs
     have hvx:=evalTV_R s.env xx
     rw [hxx] at hvx
     have fin:∀{v w' g' ms},(Builtin.append_ #[t,t2] o.type #[a.eval sx,a.eval xx]).run P w= .ok v w'→K (.c (.own idb)) ms=some y→Nxt P w g mu w' g' (updL mu ms)→(CV.own idb).R P w' g' (updL mu ms) v →
       o.wp P a w (Done P w g mu a o.dst K y) Q:=by
      intro v w' g' ms hrun hK hn hr
      refine wp_val (v:=v) (w':=w') ?_ ⟨.c (.own idb),ms,v,g',rfl,hK,hn,hr⟩
      simp [execOp,ho,resolve,hc,ha0,ht0,invoke,builtin,hrun]
     have xids:∀{es:Tys} {ms:List Md} {dd:List (Nat×Blk)} {ys:List es.D} {news:List Value} {sid:Option Nat},Src P w g mu es ms dd xcv (a.eval xx) ys news→(∀id2,xcv= .own id2→dd≠ []→sid≠some id2) →
       ∃xid:Option Nat,(∀id2,xcv= .own id2→dd≠ []→xid=some id2∧sid≠some id2)∧(∀id b',(id,b')∈dd→b'= .dead∧xid=some id)∧(∀id,xid=some id→(id,Blk.dead)∈dd):=by
      intro es ms dd ys news sid hs hne
      rcases hs.els with ⟨_,rfl,_⟩|⟨id2,ver,hx,_,rfl,_⟩
      ·exact ⟨none,fun _ _ h=>absurd rfl h,by simp,by simp⟩
      ·refine ⟨some id2,fun id h h'=>?_,fun id b' hb=>by simp at hb;exact ⟨hb.2,by rw [hb.1]⟩,fun id h=>by cases h;simp⟩
       rw [hx] at h;cases h
       exact ⟨rfl,hne _ hx h'⟩
     unfold appendU at h
     cases scv<;>simp only at h<;>try (cases h;done)
     case nils =>
      cases hd:srcOk mu (C.site rid i) xcv with
      |none=>simp [hd] at h
      |some dd =>
       simp only [hd] at h
       obtain ⟨ys,news,h,hsrc⟩:=src_ok s.mem hvx hd h
       cases hr:room ys.length te.bytes with
       |false=>rw [hr] at h;cases h
       |true =>
        rw [hr,cond_true] at h
        obtain ⟨xid,x1,x2,x3⟩:=xids (sid:=none) hsrc (fun _ _ _ h=>by cases h)
        obtain ⟨v,w',g',h5,h6,h7⟩:=append_run s (ty:=o.type) hte hu2 hd2 hlen hsrc x1 x2 x3 (xs:= []) (ad:=none) (cap:=0) (olds:= []) (Nat.le_refl _) (by simp) (by simp [getN]) (.inl ⟨rfl,rfl⟩) (by simpa using hr)
        have hvs:a.eval sx= .slice none 0 0:=hvs
        exact fin (by rw [hvs];exact h5) h h6 h7
     case own id =>
      obtain ⟨_,hcid,_⟩:=hvs
      cases hb:mu id with
      |none=>simp [hb] at h
      |some bl =>
       have hbr:=s.mem id bl hb
       cases bl<;>simp only [hb] at h<;>try (cases h;done)
       case row es' ms' xs ver =>
        cases he:Tys.eq? es' (C.es e) with
        |none=>simp [he] at h
        |some p =>
         obtain ⟨p⟩:=p
         subst p
         simp only [he] at h
         cases hd:srcOk mu ms' xcv with
         |none=>simp [hd] at h
         |some dd =>
          simp only [hd] at h
          cases hg:sameRow id xcv with
          |true=>rw [hg] at h;cases h
          |false =>
           rw [hg,cond_false] at h
           obtain ⟨ys,news,h,hsrc⟩:=src_ok s.mem hvx hd h
           cases hr:room (xs.length+ys.length) te.bytes with
           |false=>rw [hr] at h;cases h
           |true =>
            have hr':=hr
            have h:K (.c (.own idb)) (dd++ [(id,.dead),(idb,.row (C.es e) ms' (lapp xs ys) 0)])=some y:=by
             first
              |(rw [hr,cond_true] at h;exact h)
              |(have h2:=h;simp only [castL_rfl,hr,cond_true] at h2;exact h2)
            obtain ⟨xid,x1,x2,x3⟩:=xids (sid:=some id) hsrc (fun id2 h1 _ h2=>by
             cases h2;rw [h1] at hg;simp [sameRow,Nat.beq_refl] at hg)
            obtain ⟨v',hc',hh⟩:=hbr
            have hv':v'=a.eval sx:=by rw [hcid] at hc';cases hc';rfl
            obtain ⟨ad,cp,hv,hcap,hh⟩:=H_own.1 hh
            have hvs2:a.eval sx= .slice ad xs.length cp:=by rw [←hv',hv]
            rcases hh with ⟨rfl,hcp⟩|⟨p,hp,hsp,hown,hh⟩
            ·obtain ⟨v,w',g',h5,h6,h7⟩:=append_run s (ty:=o.type) hte hu2 hd2 hlen hsrc x1 x2 x3 (xs:= []) (ad:=ad) (cap:=cp) (olds:= []) (Nat.zero_le _) (by simp) (by simp [getN]) (.inl ⟨rfl,hcp⟩) (by simpa using hr)
             exact fin (by rw [hvs2];exact h5) h h6 h7
            ·obtain ⟨vals,r1,r2,r3,r4⟩:=row_vals (qf:=fun i j=> .o ([id]++ [i,j])) xs p.off 0 (by simpa using hh)
             obtain ⟨v,w',g',h5,h6,h7⟩:=append_run s (ty:=o.type) hte hu2 hd2 hlen hsrc x1 x2 x3 (xs:=xs) (ad:=ad) (cap:=cp) (olds:=vals) hcap r1 (fun i y hy=>⟨id,rfl,by simpa using r4 i y hy⟩)
              (.inr ⟨p,id,hp,hsp,rfl,hown,fun k v hk=>(r2 k v hk).1⟩) hr
             exact fin (by rw [hvs2];exact h5) h h6 h7
   ·cases h
  ·cases h
 ·cases h
end
end Go.Tm
/- The pure machine, 25: conversions, calls of functions held, made rows. -/
namespace Go.Tm
open Go
section
variable {P:Program} {C:Ctx} {env:Nat→TV} {mu mu':Mu} {a:Act} {w w':World} {g g':Gh} {o o':Nat→Nat→Own} {idb:Nat} {R:Type} {Q:Exit→Act→World→Prop}
theorem op_conv_int (s:OpSt P C env mu a w g idb) {o:Oper} {t t2:Nat} {x:Operand} (ho:o.op= .convert t t2 x) {K:TV→List (Nat×Blk)→Option R} {y:R} {si ti:TI} (hs:C.ty t=some si) (ht:C.ty t2=some ti) {k k':IntKind} {n:Int}
  (hk:ti.k= .int k') (hx:evalTV env x= .c (.int k n)) (h:K (.c (.int k' (k'.wrap n))) []=some y):o.wp P a w (Done P w g mu a o.dst K y) Q:=by
 obtain ⟨inf,d,z,_,h2,_,_,_,_,_,_,hd,_⟩:=ti_ok (s.ty t si hs)
 obtain ⟨inf',d',z',_,h2',_,_,_,_,_,_,hd',_⟩:=ti_ok (s.ty t2 ti ht)
 have hd2:d'= .int k':=by rw [hk] at hd';cases d'<;>simp [tkOf] at hd' ⊢;exact hd'.symm
 subst hd2
 have hv:=evalTV_R s.env x
 rw [hx] at hv
 have hv:a.eval x= .int k n:=hv
 have hik:P.intKind t2=k':=by simp [Program.intKind,h2']
 have:=run_convert_int (P:=P) w t t2 k n (by simp [h2]) (by rw [hik];exact h2')
 rw [hik] at this
 refine done_pure s (v:= .int k' (k'.wrap n)) (tv:= .c (.int k' (k'.wrap n))) ?_ h rfl
 simp [execOp,ho,hv,this]
theorem op_conv_str (s:OpSt P C env mu a w g idb) {o:Oper} {t t2:Nat} {x:Operand} (ho:o.op= .convert t t2 x) {K:TV→List (Nat×Blk)→Option R} {y:R} {si ti:TI} (hs:C.ty t=some si) (ht:C.ty t2=some ti) {b:ByteArray}
  (hk:ti.k= .str) (hx:evalTV env x= .c (.str b)) (h:K (.c (.str b)) []=some y):o.wp P a w (Done P w g mu a o.dst K y) Q:=by
 obtain ⟨inf,d,z,_,h2,_,_,_,_,_,_,hd,_⟩:=ti_ok (s.ty t si hs)
 obtain ⟨inf',d',z',_,h2',_,_,_,_,_,_,hd',_⟩:=ti_ok (s.ty t2 ti ht)
 have hd2:d'= .string:=by rw [hk] at hd';cases d'<;>simp [tkOf] at hd' ⊢
 subst hd2
 have hv:=evalTV_R s.env x
 rw [hx] at hv
 have hv:a.eval x= .string b:=hv
 refine done_pure s (v:= .string b) (tv:= .c (.str b)) ?_ h rfl
 simp [execOp,ho,hv,convert,run_underlying h2,run_underlying h2']
theorem push_bytes:∀(ns:List Int) (s:ByteArray),ns.foldl (fun r n=>r.push (UInt8.ofNat n.toNat)) s=⟨s.data++(ns.map fun n=>UInt8.ofNat n.toNat).toArray⟩
 | [],s=>by simp
 |n::ns,s=>by
  rw [List.foldl_cons,push_bytes ns]
  congr 1
  apply Array.ext'
  simp [ByteArray.push]
theorem op_conv_bytes (s:OpSt P C env mu a w g idb) {o:Oper} {t t2 e:Nat} {x:Operand} (ho:o.op= .convert t t2 x) {K:TV→List (Nat×Blk)→Option R} {y:R} {si ti te:TI} (hs:C.ty t=some si) (ht:C.ty t2=some ti) (hsk:si.k= .slice e)
  (he:C.ty e=some te) (hek:te.k= .int .u8) (hk:ti.k= .str) {cv:CV} (hx:evalTV env x= .c cv) {xs:List tyBytes.D} {ms:Md} {q:Own} (hh:(Ty.sl tyBytes).H P w g.o ms q xs (a.eval x)) (h:K (.c (.str (bytesStr xs))) []=some y) :
  o.wp P a w (Done P w g mu a o.dst K y) Q:=by
 obtain ⟨inf,d,z,_,h2,_,_,_,_,_,_,hd,_⟩:=ti_ok (s.ty t si hs)
 obtain ⟨inf',d',z',_,h2',_,_,_,_,_,_,hd',_⟩:=ti_ok (s.ty t2 ti ht)
 obtain ⟨inf3,d3,z3,_,h3,_,_,_,_,_,_,hd3,_⟩:=ti_ok (s.ty e te he)
 have hd2:d'= .string:=by rw [hk] at hd';cases d'<;>simp [tkOf] at hd' ⊢
 have hd1:d= .slice e:=by rw [hsk] at hd;cases d<;>simp [tkOf] at hd ⊢;exact hd.symm
 have hd4:d3= .int .u8:=by rw [hek] at hd3;cases d3<;>simp [tkOf] at hd3 ⊢;exact hd3.symm
 subst hd2;subst hd1;subst hd4
 have key:∃ad c,a.eval x= .slice ad xs.length c∧(xs= []∨∃p:Addr,ad=some p∧p.spot=none∧∀k v,(xs.map fun u=>Value.int .u8 (byteN u))[k]?=some v→w.cell? ⟨p.block,p.off+k,none⟩=some v):=by
  have cells:∀(p:Addr) (ms:List Md) (qc:Own) (qf:Nat→Nat→Own),(∀i u,getN xs i=some u→tyBytes.Hs P w g.o ms qc (qf i) 0 u p.block (p.off+i*tyBytes.len)) →
    ∀k v,(xs.map fun u=>Value.int .u8 (byteN u))[k]?=some v→w.cell? ⟨p.block,p.off+k,none⟩=some v:=by
   intro p ms qc qf hel k v hk
   rw [List.getElem?_map] at hk
   cases hxk:xs[k]? with
   |none=>simp [hxk] at hk
   |some u =>
    simp only [hxk,Option.map_some,Option.some.injEq] at hk
    obtain ⟨⟨v',h1,_,h3⟩,_⟩:=hel k u hxk
    have h3:v'= .int .u8 u.1:=h3
    rw [←hk]
    rw [h3,show p.off+k*tyBytes.len=p.off+k by show p.off+k*1=_;omega] at h1
    exact h1
  cases q with
  |o π =>
   cases ms with
   |own ms =>
    obtain ⟨ad,c,hv,_,h⟩:=H_own.1 hh
    rcases h with h|⟨p,hp,hs,_,h⟩
    ·exact ⟨ad,c,hv,.inl h.1⟩
    ·exact ⟨ad,c,hv,.inr ⟨p,hp,hs.1,cells p _ _ (fun i j=> .o (π++ [i,j])) h⟩⟩
   |sh =>
    obtain ⟨ad,c,hv,_,h⟩:=H_sh.1 hh
    rcases h with h|⟨p,hp,hs,h⟩
    ·exact ⟨ad,c,hv,.inl h⟩
    ·exact ⟨ad,c,hv,.inr ⟨p,hp,hs,cells p _ _ (fun _ _=> .p) h⟩⟩
  |x =>
   obtain ⟨ad,c,hv,_,h⟩:=(H_p (by simp)).1 hh
   rcases h with h|⟨p,hp,hs,h⟩
   ·exact ⟨ad,c,hv,.inl h⟩
   ·exact ⟨ad,c,hv,.inr ⟨p,hp,hs,cells p _ _ (fun _ _=> .p) h⟩⟩
  |p =>
   obtain ⟨ad,c,hv,_,h⟩:=(H_p (by simp)).1 hh
   rcases h with h|⟨p,hp,hs,h⟩
   ·exact ⟨ad,c,hv,.inl h⟩
   ·exact ⟨ad,c,hv,.inr ⟨p,hp,hs,cells p _ _ (fun _ _=> .p) h⟩⟩
 obtain ⟨ad,c,hv,hc⟩:=key
 have hrun:(Conv.bytesToString (.slice ad xs.length c)).run P w= .ok (.string (bytesStr xs)) w:=by
  cases ad with
  |none =>
   have hx0:xs= []:=by
    rcases hc with h|⟨p,hp,_⟩
    ·exact h
    ·cases hp
   subst hx0
   simp [Conv.bytesToString,bytesStr]
   rfl
  |some p =>
   have hl:(loadCells p xs.length).run P w= .ok ((xs.map byteN).map (Value.int .u8)).toArray w:=by
    have e1:(xs.map byteN).map (Value.int .u8)=xs.map fun u=>Value.int .u8 (byteN u):=by rw [List.map_map];rfl
    rw [e1]
    have:=run_loadCells_list (P:=P) w p (xs.map fun u=>Value.int .u8 (byteN u)) (fun j v hj=>by
     rcases hc with h|⟨p',hp,hs,h⟩
     ·subst h;simp at hj
     ·cases hp;rw [add_none hs];exact h j v hj)
    simpa using this
   rw [run_bytesToString w p xs.length c _ hl,push_bytes]
   congr 3
   apply Array.ext'
   simp [Function.comp_def]
 refine done_pure s (v:= .string (bytesStr xs)) (tv:= .c (.str (bytesStr xs))) ?_ h rfl
 have:=run_convert_bytes_string (P:=P) w t t2 e ad xs.length c h2 h3 h2'
 simp only [execOp,ho,hv,Sem.run_bind,this,hrun]
 rfl
end
end Go.Tm
/- The pure machine, 26: made rows. -/
namespace Go.Tm
open Go
section
variable {P:Program} {C:Ctx} {env:Nat→TV} {mu mu':Mu} {a:Act} {w w':World} {g g':Gh} {o o':Nat→Nat→Own} {idb:Nat} {R:Type} {Q:Exit→Act→World→Prop}
theorem rep_take {α:Type} {n:Nat} {vs:List α} (hs:vs.length=n):∀(k i:Nat),i<k→(((List.replicate k vs).flatten.drop (i*n)).take n)=vs
 |0,i,h=>by omega
 |k+1,0,_=>by
  rw [List.replicate_succ,List.flatten_cons,Nat.zero_mul,List.drop_zero,←hs,List.take_left]
 |k+1,i+1,h=>by
  rw [List.replicate_succ,List.flatten_cons,Nat.add_mul,Nat.one_mul,List.drop_append,List.drop_eq_nil_of_le (by omega),List.nil_append,show i*n+n - vs.length=i*n by omega]
  exact rep_take hs k i (by omega)
theorem flat_rep_len {α:Type} {n:Nat} {vs:List α} (hs:vs.length=n):∀k,(List.replicate k vs).flatten.length=k*n
 |0=>by simp
 |k+1=>by rw [List.replicate_succ,List.flatten_cons,List.length_append,hs,flat_rep_len hs k,Nat.add_mul];omega
theorem rep_get {n:Nat} {vs:List Value} (hs:vs.length=n) (hn:0<n):∀(k j:Nat),j<k*n→(List.replicate k vs).flatten[j]?=vs[j % n]?
 |0,j,h=>by simp at h
 |k+1,j,h=>by
  rw [List.replicate_succ,List.flatten_cons]
  by_cases hj:j<n
  ·rw [List.getElem?_append_left (by omega),Nat.mod_eq_of_lt hj]
  ·have h':(k+1)*n=k*n+n:=Nat.succ_mul k n
   have hm:j % n=(j - n) % n:=Nat.mod_eq_sub_mod (by omega)
   rw [List.getElem?_append_right (by omega),hs,rep_get hs hn k (j - n) (by omega),hm]
theorem madeCells_eq {z:Array Value} {n k:Nat} (hz:z.size=n) (hn:0<n):madeCells z (k*n)=(List.replicate k z.toList).flatten.toArray:=by
 apply Array.ext_getElem?
 intro j
 have hl:=flat_rep_len (vs:=z.toList) (n:=n) (by simpa using hz) k
 by_cases hj:j<k*n
 ·have h1:=rep_get (vs:=z.toList) (n:=n) (by simpa using hz) hn k j hj
  simp only [List.getElem?_toArray,h1]
  have hm:j % n<z.size:=by rw [hz];exact Nat.mod_lt _ hn
  simp [madeCells,hj,hz,Array.getElem?_eq_getElem hm]
  exact getElem!_pos z (j % n) hm
 ·rw [Array.getElem?_eq_none (by simp [madeCells];omega),List.getElem?_toArray,List.getElem?_eq_none (by omega)]
theorem op_makeSlice (s:OpSt P C env mu a w g idb) {o:Oper} {t e:Nat} {te:TI} {l c:Operand} (ho:o.op= .makeSlice t l c) {K:TV→List (Nat×Blk)→Option R} {y:R} (hte:elemTI C t=some (e,te)) {n:Int} (hl:evalTV env l= .c (.int .i64 n))
  (hc:evalTV env c= .c (.int .i64 n)) (h0:0≤n) (hb:n*te.bytes≤70368744177664∧0<te.bytes) (hsz:0<te.size) {ms:List Md}
  (h:(packs app0 mu (C.es e) ms 0 te.zero [] fun z rest us=>match rest,us with
      | [],[]=>K (.c (.own idb)) [(idb,.row (C.es e) ms (List.replicate n.toNat z) 0)]
      |_,_=>none)=some y):o.wp P a w (Done P w g mu a o.dst K y) Q:=by
 obtain ⟨ht,hety,hlen,_⟩:=elemTI_ok s.ty hte
 obtain ⟨inf,d,z,h1,h2,h3,h4,harr,h6,h7,h8,h9,h10,_⟩:=ti_ok (s.ty e te hety)
 have hvl:=evalTV_R s.env l
 rw [hl] at hvl
 have hvl:a.eval l= .int .i64 n:=hvl
 have hvc:=evalTV_R s.env c
 rw [hc] at hvc
 have hvc:a.eval c= .int .i64 n:=hvc
 obtain ⟨zd,rest,new,vs1,vs2,h,hspl,hrest,hl1,hz⟩:=packs_okA s.mem s.wf (app0_ok (P:=P) (w:=w) (g:=g) (mu:=mu)) (C.es e) (by rw [h10];exact constCVs_R h4) h
 cases rest with
 |cons _ _=>cases h
 |nil =>
  cases vs2 with
  |cons _ _=>exact hrest.elim
  |nil =>
   simp only [List.append_nil] at hspl h
   cases new with
   |cons _ _=>cases h
   |nil =>
    have hN:((n.toNat:Nat):Int)=n:=Int.toNat_of_nonneg h0
    have hb1:n≤n*te.bytes:=by
     have:(1:Int)≤te.bytes:=by omega
     have:=Int.mul_le_mul_of_nonneg_left this h0
     omega
    have hrun:=run_make (P:=P) w t e inf z ht h1 h3 .i64 .i64 n n h0 (Int.le_refl _) (by rw [←h8,Int.mul_comm];omega) (by omega)
    have hisz:0<inf.size:=by rw [←h7];exact hsz
    have hzl:z.cells.toList.length=inf.size:=by simpa using h6
    have hel:(C.es e).len=inf.size:=by rw [hlen,h7]
    rw [madeCells_eq h6 hisz] at hrun
    have hnx:=row_nxt (P:=P) (w:=w) (g:=g) (mu:=mu) (idb:=idb) s.mem s.wf s.own (s.fresh idb (Nat.le_refl _) (by omega)) (us:= []) rfl (es:=C.es e) (ms:=ms) (xs:=List.replicate n.toNat zd) (vals:=(List.replicate n.toNat z.cells.toList).flatten) (t:=e) (destL:=fun _=> [idb]) (fun to=>⟨_,rfl⟩)
     (v:= .slice (some ⟨w.heap.size,0,none⟩) n.toNat n.toNat) (fun _ hp=>alloc_H s.wf (cap:=n.toNat) (by simp) (by omega) (by simp) (by rw [flat_rep_len hzl,hel]) fun i x hi=>by
      have hi2:=List.getElem?_eq_some_iff.1 hi
      obtain ⟨hlt,hx⟩:=hi2
      simp only [List.length_replicate] at hlt
      simp only [List.getElem_replicate] at hx
      subst hx
      rw [hel,rep_take hzl n.toNat i hlt]
      have:=hz (fun j=> .o [idb,i,j]) _ _ hp (by simp)
      rwa [←hspl] at this)
    refine wp_val (v:= .slice (some ⟨w.heap.size,0,none⟩) n.toNat n.toNat) ?_ ⟨.c (.own idb),_,_,_,rfl,h,hnx.1,hnx.2⟩
    simp only [execOp,ho,hvl,hvc,Sem.run_bind]
    rw [hrun]
    rfl
end
end Go.Tm
/- The pure machine, 27: calls as operations. -/
namespace Go.Tm
open Go
section
variable {P:Program} {C:Ctx} {env:Nat→TV} {mu mu':Mu} {a:Act} {w w':World} {g g':Gh} {o o':Nat→Nat→Own} {idb:Nat} {R:Type} {Q:Exit→Act→World→Prop}
theorem op_callU (s:OpSt P C env mu a w g idb) {o:Oper} {c:Call} {f:Operand} {fn:Nat} (ho:o.op= .call c) (hc:c.callee= .value f) (hf:evalTV env f= .c (.fnp fn)) {K:TV→List (Nat×Blk)→Option R} {y:R}
  (h:callE C mu idb fn (c.args.toList.map (evalTV env)) K=some y):o.wp P a w (Done P w g mu a o.dst K y) Q:=by
 have hv:=evalTV_R s.env f
 rw [hf] at hv
 have hv:a.eval f= .func (.func fn) #[] #[]:=hv
 have hent:Enters P fn:=by
  cases hcon:C.con fn with
  |none=>unfold callE at h;simp [hcon] at h
  |some con=>exact (s.con fn con hcon).2
 have hrun:(execOp a.eval o).run P w= .ok (.enter fn (c.args.map a.eval)) w:=by
  have:=hent (c.args.map a.eval) w
  simp [execOp,ho,resolve,hc,hv,Deferred.ofValue,invoke,this]
 have hcall:=callE_ok s.con s.mem s.wf s.own s.fresh (evalTVs_R s.env c.args.toList) h
 rw [show (c.args.toList.map a.eval).toArray=c.args.map a.eval by apply Array.ext';simp] at hcall
 unfold Oper.wp
 rw [hrun,Oper.upon_enter]
 refine Calls.mono hcall fun e w' he=>?_
 obtain ⟨v,g',tv,ms,rfl,h1,h2,h3⟩:=he
 exact ⟨tv,ms,v,g',rfl,h1,h2,h3⟩
end
end Go.Tm
/- The pure machine, 28: calls of functions that are data. -/
namespace Go.Tm
open Go
section
variable {P:Program} {C:Ctx} {env:Nat→TV} {mu mu':Mu} {a:Act} {w w':World} {g g':Gh} {o o':Nat→Nat→Own} {idb:Nat} {R:Type} {Q:Exit→Act→World→Prop}
theorem fnd_cells:∀(sh:List Nat) (args:List TV) (vals:List Value) {cvs:List CV},fndU.cells sh args=some cvs→All2 (TV.R P w g mu) args vals→shOk sh vals∧cvsR P w g mu cvs (vals.flatMap fun v=>v.cells.toList)
 | [],[],[],cvs,h,_=>by
  simp only [fndU.cells,Option.some.injEq] at h;subst h;exact ⟨trivial,trivial⟩
 | [],[],_::_,_,_,ha=>ha.elim
 | [],_::_,_,_,h,_=>by simp [fndU.cells] at h
 |_::_,[],_,_,h,_=>by simp [fndU.cells] at h
 |_::_,_::_,[],_,_,ha=>ha.elim
 |0::sh,tv::args,v::vals,cvs,h,ha=>by
  cases tv with
  |c cv =>
   simp only [fndU.cells] at h
   cases hr:fndU.cells sh args with
   |none=>simp [hr] at h
   |some r =>
    simp only [hr,Option.map_some,Option.some.injEq] at h
    subst h
    obtain ⟨h1,h2⟩:=fnd_cells sh args vals hr ha.2
    have hcl:=(CV.cellish cv ha.1).cells
    refine ⟨⟨hcl,h1⟩,?_⟩
    rw [List.flatMap_cons,hcl]
    exact ⟨ha.1,h2⟩
  |_=>simp [fndU.cells] at h
 |(n+1)::sh,tv::args,v::vals,cvs,h,ha=>by
  cases tv with
  |agg vs =>
   simp only [fndU.cells] at h
   cases hl:Nat.beq vs.length n with
   |false=>simp [hl] at h
   |true =>
    simp only [hl,cond_true] at h
    cases hr:fndU.cells sh args with
    |none=>simp [hr] at h
    |some r =>
     simp only [hr,Option.map_some,Option.some.injEq] at h
     subst h
     obtain ⟨h1,h2⟩:=fnd_cells sh args vals hr ha.2
     obtain ⟨arr,rfl,hc⟩:=ha.1
     have hn:=Nat.eq_of_beq_eq_true hl
     have:=hc.length
     simp only [Array.length_toList] at this
     refine ⟨⟨⟨arr,rfl,by omega⟩,h1⟩,?_⟩
     rw [List.flatMap_cons]
     exact All2.append hc h2
  |_=>simp [fndU.cells] at h
theorem All2.r0:∀{cvs:List CV} {vs:List Value},cvsR P w g mu cvs vs→All2 (CV.R0 P w g.o) cvs vs:=fun h=>All2.imp (fun _ _ k=>CV.R.r0 k) h
theorem op_fnd (s:OpSt P C env mu a w g idb) {o:Oper} {c:Call} {f:Operand} {sh:List Nat} {as rs:Tys} {k:as.D→Option rs.D} (ho:o.op= .call c) (hc:c.callee= .value f) (hf:evalTV env f= .c (.fnd sh as rs k)) {K:TV→List (Nat×Blk)→Option R} {y:R}
  (h:fndU mu sh as rs k (c.args.toList.map (evalTV env)) K=some y):o.wp P a w (Done P w g mu a o.dst K y) Q:=by
 have hv:=evalTV_R s.env f
 rw [hf] at hv
 obtain ⟨fn,caps,hv,hent,hcall⟩:=(H_fn (md:= .sh) (q:= .p)).1 hv
 unfold fndU at h
 cases hcs:fndU.cells sh (c.args.toList.map (evalTV env)) with
 |none=>simp [hcs] at h
 |some cvs =>
  simp only [hcs] at h
  obtain ⟨h1,h2⟩:=fnd_cells sh _ _ hcs (evalTVs_R s.env c.args.toList)
  obtain ⟨x,rest,vs1,vs2,h,hspl,hrest,hlen,hx⟩:=packs0_ok as (ms:= []) rfl (All2.r0 h2) h
  cases rest with
  |cons _ _=>cases h
  |nil =>
   cases vs2 with
   |cons _ _=>exact hrest.elim
   |nil =>
    simp only [List.append_nil] at hspl h
    cases hk:k x with
    |none=>simp [hk] at h
    |some yo =>
     simp only [hk,Option.bind_some] at h
     have hcl:=hcall w (noO g.o) noO_perm noO_wf x yo (c.args.toList.map a.eval) hk h1 (by rw [hspl];exact Vs_perm noO_perm s.wf as (hx _ _))
     have hrun:(execOp a.eval o).run P w= .ok (.enter fn (c.args.map a.eval++caps)) w:=by
      have:=hent (c.args.map a.eval++caps) w
      simp [execOp,ho,resolve,hc,hv,Deferred.ofValue,invoke,this]
     rw [show (c.args.toList.map a.eval).toArray=c.args.map a.eval by apply Array.ext';simp] at hcl
     unfold Oper.wp
     rw [hrun,Oper.upon_enter]
     refine Calls.mono hcl fun e w' he=>?_
     obtain ⟨v2,o2,rfl,hfr,hwf,hvs⟩:=he
     have hfr':=backO_fr hfr
     have hp:=backO_perm hfr
     have hv2:=Vs_ros (g:=⟨backO w g.o o2,g.c⟩) (mu:=mu) rs (Vs_perm hp hwf rs hvs)
     have hnx:Nxt P w g mu w' ⟨backO w g.o o2,g.c⟩ mu:=by
      refine ⟨fun _=>False,⟨fun b j v hvc _=>⟨(hfr.cell b j v hvc fun _=>noO_ne).1,by simp [backO,hvc]⟩,fun _ _=>rfl,fun _ h=>h,fun _ _ _=>rfl,fun _ _ _ _ _ h=>h.elim⟩,hfr',backO_wf hfr s.wf,fun b j id l e=>?_,fun id b h hb=>?_⟩
      ·have e:backO w g.o o2 b j= .o (id::l):=e
       unfold backO at e
       split at e
       ·exact s.own b j id l e
       ·split at e
        ·cases e
        ·rename_i e1;exact absurd e (fun e=>e1 _ e)
      ·rcases h with h|h
       ·exact h.elim
       ·rw [h] at hb;cases hb
     match hro:rs.ros yo,hv2,h with
     | [cv],hv2,h=>exact ⟨.c cv,[],v2,_,rfl,h,hnx,hv2.1⟩
end
end Go.Tm
/- The pure machine, 29: stores into an element of a row. -/
namespace Go.Tm
open Go
section
variable {P:Program} {C:Ctx} {env:Nat→TV} {mu mu':Mu} {a:Act} {w w':World} {g g':Gh} {o o':Nat→Nat→Own} {idb:Nat} {R:Type} {Q:Exit→Act→World→Prop}
def putV (old:List Value) (off:Nat) (nv:List Value):List Value:=old.take off++nv++old.drop (off+nv.length)
theorem setLeaves_ok (hm:MemR P w g mu) (hw:Wf w g.o) {qf:Nat→Own}:∀(ts:Tys) {ms:List Md} {j off:Nat} {vs:List CV} {x:ts.D} {us:List Use} {old nv:List Value} (_:ts.Vs P w g.o ms qf j x old) (_:cvsR P w g mu vs nv) (_:off+vs.length≤ts.len)
  {K:ts.D→List Use→Option R} {y:R} (_:setLeaves mu ts ms j off vs x us K=some y),
  ∃z new,K z (new++us)=some y∧∀(dest:Nat→Own) w' o',PermKeep w g.o w' o'→(∀u∈new,Served dest w g.o w' o' u)→(∀n,Rl w g.o w' o' (qf n) (dest n))→ts.Vs P w' o' ms dest j z (putV old off nv)
 | .nil,ms,j,off,[],x,us,old,[],hv,_,_,K,y,h=>⟨(),[],h,fun _ _ _ _ _ _=>by cases (hv:old= []);show putV [] off []= [];simp [putV]⟩
 | .nil,ms,j,off,[],x,us,old,_::_,hv,h,_,K,y,_=>h.elim
 | .nil,ms,j,off,_::_,x,us,old,nv,hv,_,hl,K,y,h=>by simp [Tys.len] at hl
 | .cons t ts,ms,j,off,[],x,us,old,_::_,hv,h,hl,K,y,_=>h.elim
 | .cons t ts,ms,j,off,[],x,us,old,[],hv,_,hl,K,y,h=>by
  simp only [setLeaves] at h
  refine ⟨x,[],h,fun dest w' o' hp _ hr=>?_⟩
  have e:putV old off []=old:=by simp [putV]
  rw [e]
  exact Vs_re hp hw (.cons t ts) ms hr hv
 | .cons t ts,ms,j,off,c::vs,x,us,old,[],hv,h,hl,K,y,_=>h.elim
 | .cons t ts,ms,j,0,c::vs,x,us,old,n::nv,hv,hc,hl,K,y,h=>by
  obtain ⟨v0,r,rfl,h1,h2⟩:=hv
  simp only [setLeaves] at h
  obtain ⟨y1,new1,h,hy1⟩:=packLeaf_okA hm hw (app0_ok (P:=P) (w:=w) (g:=g) (mu:=mu)) hc.1 h
  obtain ⟨z,new,h,hz⟩:=setLeaves_ok hm hw ts (off:=0) h2 hc.2 (by simp [Tys.len] at hl ⊢;omega) h
  refine ⟨(y1,z),new++new1,by rw [List.append_assoc];exact h,fun dest w' o' hp hs hr=>⟨n,putV r 0 nv,?_,hy1 dest w' o' hp fun u hu=>hs u (by simp [hu]),hz dest w' o' hp (fun u hu=>hs u (by simp [hu])) hr⟩⟩
  simp [putV]
 | .cons t ts,ms,j,off+1,c::vs,x,us,old,n::nv,hv,hc,hl,K,y,h=>by
  obtain ⟨v0,r,rfl,h1,h2⟩:=hv
  simp only [setLeaves] at h
  obtain ⟨z,new,h,hz⟩:=setLeaves_ok hm hw ts (off:=off) h2 hc (by simp [Tys.len] at hl ⊢;omega) h
  refine ⟨(x.1,z),new,h,fun dest w' o' hp hs hr=>⟨v0,putV r off (n::nv),?_,H_re hp hw t _ _ _ x.1 v0 (hr j) h1,hz dest w' o' hp hs hr⟩⟩
  simp only [putV,List.take_succ_cons,List.cons_append]
  rw [show off+1+(n::nv).length=off+(n::nv).length+1 by omega,List.drop_succ_cons]
end
end Go.Tm
/- The pure machine, 30: a store into an element of a row, the operation. -/
namespace Go.Tm
open Go
section
variable {P:Program} {C:Ctx} {env:Nat→TV} {mu mu':Mu} {a:Act} {w w':World} {g g':Gh} {o o':Nat→Nat→Own} {idb:Nat} {R:Type} {Q:Exit→Act→World→Prop}
theorem putV_len {old nv:List Value} {off:Nat} (h:off+nv.length≤old.length):(putV old off nv).length=old.length:=by
 simp [putV];omega
theorem putV_get {old nv:List Value} {off k:Nat} (h:off+nv.length≤old.length):(putV old off nv)[k]?=if off≤k∧k<off+nv.length then nv[k - off]? else old[k]?:=by
 unfold putV
 by_cases h1:k<off
 ·rw [if_neg (by omega),List.append_assoc,List.getElem?_append_left (by simp;omega),List.getElem?_take,if_pos h1]
 ·by_cases h2:k<off+nv.length
  ·rw [if_pos (by omega),List.append_assoc,List.getElem?_append_right (by simp;omega),List.length_take,Nat.min_eq_left (by omega),List.getElem?_append_left (by omega)]
  ·rw [if_neg (by omega),List.getElem?_append_right (by simp;omega),List.getElem?_drop]
   congr 1
   simp
   omega
theorem useF_none {us:List Use} {dest:Nat→List Nat} {id:Nat} (h:hasId id us=false) (s:List Nat):useF us dest id s= .o (id::s):=by
 have:findU id us=none:=by
  cases hf:findU id us with
  |none=>rfl
  |some u=>obtain ⟨h1,h2⟩:=findU_id hf;exact absurd h1 (hasId_mem h u h2)
 simp [useF,this]
theorem op_store_el (s:OpSt P C env mu a w g idb) {o:Oper} {t:Nat} {x v:Operand} (ho:o.op= .store t x v) {K:TV→List (Nat×Blk)→Option R} {y:R} {ti:TI} (ht:C.ty t=some ti) {id i off:Nat} {es:Tys} {ms:List Md} {xs:List es.D} {ver:Nat}
  (hx:evalTV env x= .c (.eptr id es.len i off)) {vs:List CV} (hv:cellsOf (evalTV env v)=some vs) (hlen:vs.length=ti.size) (hb:mu id=some (.row es ms xs ver)) (hle:off+vs.length≤es.len) {x0:es.D} (hx0:getN xs i=some x0)
  (h:(setLeaves mu es ms 0 off vs x0 [] fun z us=>bif usesOk us&& !hasId id us then K .und (fzs mu us++ [(id,.row es ms (xs.set i z) (ver+1))]) else none)=some y):o.wp P a w (Done P w g mu a o.dst K y) Q:=by
 obtain ⟨inf,d,z,h1,h2,h3,h4,harr,h6,h7,_⟩:=ti_ok (s.ty t ti ht)
 have hvx:=evalTV_R s.env x
 rw [hx] at hvx
 obtain ⟨_,ad,n,cp,hc,hsp,hvx⟩:=hvx
 have hr:=cellsOf_R hv (evalTV_R s.env v)
 have hrl:=hr.length
 obtain ⟨v',hc',hh⟩:=s.mem id _ hb
 rw [hc] at hc'
 cases hc'
 obtain ⟨ad',cp',he,hcap,hh⟩:=H_own.1 hh
 cases he
 have hi:i<xs.length:=(List.getElem?_eq_some_iff.1 hx0).1
 rcases hh with ⟨rfl,_⟩|⟨p,hp,hcapok,hown,hh⟩
 ·simp at hi
 ·cases hp
  obtain ⟨vals,r1,r2,r3,r4⟩:=row_vals (qf:=fun i j=> .o ([id]++ [i,j])) xs ad.off 0 (by simpa using hh)
  have hmul:(i+1)*es.len≤xs.length*es.len:=Nat.mul_le_mul_right _ hi
  rw [Nat.add_mul,Nat.one_mul] at hmul
  have hold:=r4 i x0 hx0
  simp only [Nat.zero_add] at hold
  obtain ⟨z1,us,h,hz⟩:=setLeaves_ok s.mem s.wf es hold hr hle h
  simp only [List.append_nil] at h
  cases hu:(usesOk us&& !hasId id us) with
  |false=>rw [hu] at h;cases h
  |true =>
   rw [hu,cond_true] at h
   simp only [Bool.and_eq_true,Bool.not_eq_true'] at hu
   obtain ⟨hus,hno⟩:=hu
   let nv:=(a.eval v).cells.toList
   let destL:Nat→List Nat:=fun j=> [id,i,j]
   have hvl:vals.length=xs.length*es.len:=r1
   have hcellv:∀k,k<nv.length→∃u,w.cell? ⟨ad.block,ad.off+i*es.len+off+k,none⟩=some u∧g.o ad.block (ad.off+i*es.len+off+k)= .o [id]:=by
    intro k hk
    have hk:k<vs.length:=by rw [hrl];exact hk
    have hlt:i*es.len+off+k<vals.length:=by omega
    have:=r2 _ _ (List.getElem?_eq_getElem hlt)
    exact ⟨_,by rw [show ad.off+i*es.len+off+k=ad.off+(i*es.len+off+k) by omega];exact this.1,by rw [show ad.off+i*es.len+off+k=ad.off+(i*es.len+off+k) by omega];exact this.2⟩
   have hcell:∀k,k<nv.length→g.o ad.block (ad.off+i*es.len+off+k)= .o [id]:=fun k hk=>(hcellv k hk).elim fun _ h=>h.2
   have hex:∀k,k<nv.length→∃u,w.cell? ⟨ad.block,ad.off+i*es.len+off+k,none⟩=some u:=fun k hk=>(hcellv k hk).elim fun u h=>⟨u,h.1⟩
   let w':=w.setCells ad.block (ad.off+i*es.len+off) nv
   let g':Gh:=⟨fun b k=>re (useF us destL) (g.o b k),g.c⟩
   have hmv:Mvd w g w' g' (useF us destL) (fun b k=>b=ad.block∧ad.off+i*es.len+off≤k∧k<ad.off+i*es.len+off+nv.length):=set_mvd (id0:=id) s.wf hcell
   have hwr:∀b k,(b=ad.block∧ad.off+i*es.len+off≤k∧k<ad.off+i*es.len+off+nv.length)→g.o b k= .o [id]:=by
    rintro b k ⟨rfl,h1,h2⟩
    have:=hcell (k - (ad.off+i*es.len+off)) (by omega)
    rwa [show ad.off+i*es.len+off+(k - (ad.off+i*es.len+off))=k by omega] at this
   have hne:∀u∈us,useId u≠id:=hasId_mem hno
   have hsv:∀u∈us,Served (fun to=> .o (destL to)) w g.o w' g'.o u:=by
    intro u hm
    have hu:=hne u hm
    cases u with
    |mv id2 to=>exact hmv.rl (l:= []) (by simp) (fun s=>by simp [useF_mv hus hm,ext]) (fun b k hb s e=>by rw [hwr b k hb] at e;simp at e;exact hu e.1.symm)
    |pm id2=>exact hmv.rl (l:= []) (by simp) (fun s=>by simp [useF_pm hus hm,ext]) (fun b k hb s e=>by rw [hwr b k hb] at e;simp at e;exact hu e.1.symm)
   have hidr:∀k n,Rl w g.o w' g'.o (.o [id,k,n]) (.o [id,k,n]):=fun k n =>
    hmv.rl (l:= [k,n]) (by simp) (fun s=>by rw [useF_none hno];simp [ext]) (fun b k hb s e=>by rw [hwr b k hb] at e;simp at e)
   have hown':∀k,k<cp*es.len→g'.o ad.block (ad.off+k)= .o [id]:=fun k hk=>by
    show re _ (g.o ad.block (ad.off+k))=_
    rw [hown k hk];exact useF_none hno []
   have hcapm:xs.length*es.len≤cp*es.len:=Nat.mul_le_mul_right _ hcap
   have hkeep:∀m u,vals[m]?=some u→(m<i*es.len+off∨i*es.len+off+nv.length≤m)→w'.cell? ⟨ad.block,ad.off+m,none⟩=some u:=by
    intro m u hm hout
    show (w.setCells _ _ _).cell? _=_
    rw [World.cell?_setCells_out ad.block nv (ad.off+i*es.len+off) w ⟨ad.block,ad.off+m,none⟩ (fun _ _=>by
     show ad.off+m<ad.off+i*es.len+off∨ad.off+i*es.len+off+nv.length≤ad.off+m
     omega)]
    exact (r2 m u hm).1
   have hvals:∀m,m<vals.length→m<cp*es.len:=fun m hm=>by omega
   have hH:(Ty.sl es).H P w' g'.o (.own ms) (.o [id]) (xs.set i z1) (.slice (some ad) xs.length cp):=by
    refine H_own.2 ⟨some ad,cp,by rw [List.length_set],by rw [List.length_set];exact hcap,.inr ⟨ad,rfl,hcapok,hown',fun k y' hk=>?_⟩⟩
    unfold getN at hk
    by_cases hki:k=i
    ·subst hki
     rw [List.getElem?_set_self hi] at hk
     cases hk
     have hV:=hz (fun to=> .o (destL to)) w' g'.o hmv.perm hsv (fun n=>hidr k n)
     have hol:((vals.drop (k*es.len)).take es.len).length=es.len:=by simp;omega
     have hpl:off+nv.length≤((vals.drop (k*es.len)).take es.len).length:=by rw [hol,←hrl];exact hle
     refine Vs_hs es hV fun m u hm=>?_
     have hml:m<es.len:=by
      have:=(List.getElem?_eq_some_iff.1 hm).1
      rwa [putV_len hpl,hol] at this
     rw [putV_get hpl] at hm
     refine ⟨?_,by rw [Nat.add_assoc];exact hown' _ (hvals _ (by omega))⟩
     by_cases hin:off≤m∧m<off+nv.length
     ·rw [if_pos hin] at hm
      have hlt:m - off<nv.length:=by omega
      have:=World.cell?_setCells_in ad.block nv (ad.off+k*es.len+off) w (fun j hj=>by obtain ⟨u,hu⟩:=hex j hj;simp [hu]) (m - off) hlt
      rw [List.getElem?_eq_getElem hlt] at hm
      cases hm
      rw [show ad.off+k*es.len+m=ad.off+k*es.len+off+(m - off) by omega]
      exact this
     ·rw [if_neg hin] at hm
      rw [Nat.add_assoc]
      exact hkeep _ u (All2.getD_drop_take hm) (by omega)
    ·rw [List.getElem?_set_ne (Ne.symm hki)] at hk
     have hkl:k<xs.length:=(List.getElem?_eq_some_iff.1 hk).1
     have hmk:(k+1)*es.len≤xs.length*es.len:=Nat.mul_le_mul_right _ hkl
     rw [Nat.add_mul,Nat.one_mul] at hmk
     have hV:=r4 k y' hk
     simp only [Nat.zero_add] at hV
     refine Vs_hs es (Vs_re hmv.perm s.wf es ms (fun n=>hidr k n) hV) fun m u hm=>?_
     have hml:m<es.len:=by
      have:=(List.getElem?_eq_some_iff.1 hm).1
      simp at this;omega
     refine ⟨?_,by rw [Nat.add_assoc];exact hown' _ (hvals _ (by omega))⟩
     rw [Nat.add_assoc]
     refine hkeep _ u (All2.getD_drop_take hm) ?_
     rcases Nat.lt_or_gt_of_ne hki with hlt|hgt
     ·have:(k+1)*es.len≤i*es.len:=Nat.mul_le_mul_right _ hlt
      rw [Nat.add_mul,Nat.one_mul] at this
      omega
     ·have:(i+1)*es.len≤k*es.len:=Nat.mul_le_mul_right _ hgt
      rw [Nat.add_mul,Nat.one_mul] at this
      have:nv.length=vs.length:=hrl.symm
      omega
   have hidm:mu id≠none:=by simp [hb]
   have hfw:∀b k,(b=ad.block∧ad.off+i*es.len+off≤k∧k<ad.off+i*es.len+off+nv.length)→∀id' s,Use.pm id'∈us→g.o b k≠ .o (id'::s):=by
    intro b k hbk id' l hm e
    rw [hwr b k hbk] at e;simp at e
    exact hne _ hm e.1.symm
   have hnx:Nxt P w g mu w' g' (updL mu (fzs mu us++ [(id,.row es ms (xs.set i z1) (ver+1))])):=by
    refine set_nxt (T:=fun k=>k=id∨∃u∈us,useId u=k) (id0:=id) s.wf s.own (fun _=> .inl rfl) hcell (fun _ _=>rfl) (fun k l hT=>?_) (fun k l=>?_) (fun k l p l' h1 h2=>?_) (fun k hT h1 b hb'=>?_) (fun k es' ms' xs' ver' hT h1 h2=>?_) (fun k b h1 h2=>?_)
    ·have:findU k us=none:=by
      cases hf:findU k us with
      |none=>rfl
      |some u=>obtain ⟨h1,h2⟩:=findU_id hf;exact absurd (.inr ⟨u,h2,h1⟩) hT
     simp [useF,this]
    ·unfold useF
     split<;>simp [destL]
    ·unfold useF at h2
     split at h2
     ·cases h2;exact updL_some hidm
     ·cases h2
     ·cases h2;exact updL_some h1
    ·rcases List.mem_append.1 hb' with hb'|hb'
     ·rcases fzs_mem hb' with ⟨_,to,h⟩|⟨h,_⟩
      ·exact hT (.inr ⟨_,h,rfl⟩)
      ·exact hT (.inr ⟨_,h,rfl⟩)
     ·simp at hb';exact hT (.inl hb'.1)
    ·rcases updL_cases h2 with h2|⟨hn,h2⟩
     ·rcases List.mem_append.1 h2 with h2|h2
      ·rcases fzs_mem h2 with ⟨h,_⟩|⟨_,⟨_,_,_,_,_,h⟩|⟨h,_⟩⟩<;>cases h
      ·simp only [List.mem_singleton] at h2
       cases h2
       exact ⟨_,_,_,_,hb,by omega⟩
     ·rcases hT with rfl|⟨u,hu1,hu2⟩
      ·exact absurd (List.mem_append_right _ (List.mem_singleton.2 rfl)) (hn _)
      ·cases u with
       |mv j to=>cases hu2;exact absurd (List.mem_append_left _ (fzs_of_mv hu1)) (hn _)
       |pm j =>
        cases hu2
        obtain ⟨b',h'⟩:=fzs_of_pm hu1 _ h2 (.inl ⟨_,_,_,_,rfl⟩)
        exact absurd (List.mem_append_left _ h') (hn _)
    ·rcases updL_cases h2 with h2|⟨hn,h2⟩
     ·rcases List.mem_append.1 h2 with h2|h2
      ·exact fz_blk s.mem s.wf hus hmv hfw (fun _ _=>rfl) (.inl h2)
      ·simp only [List.mem_singleton] at h2
       cases h2
       exact ⟨_,hc,hH⟩
     ·rcases h1 with (rfl|⟨u,hu1,hu2⟩)|h1
      ·exact absurd (List.mem_append_right _ (List.mem_singleton.2 rfl)) (hn _)
      ·cases u with
       |mv j to=>cases hu2;exact absurd (List.mem_append_left _ (fzs_of_mv hu1)) (hn _)
       |pm j=>cases hu2;exact fz_blk s.mem s.wf hus hmv hfw (fun _ _=>rfl) (.inr ⟨hu1,fun b' hb'=>hn b' (List.mem_append_left _ hb'),h2⟩)
      ·rw [h1] at h2;cases h2
   have hst:=run_storeCells_cells (P:=P) ad.block (ad.off+i*es.len+off) nv 0 w (fun j hj=>by obtain ⟨u,hu⟩:=hex j hj;simp [hu]) (fun j hj=>by
    exact (s.wf.cell _ _ _ (hcell j hj)).2 _) (fun u hu=>by
    obtain ⟨j,hj,rfl⟩:=List.getElem_of_mem hu
    have hj':j<vs.length:=by rw [hrl];exact hj
    obtain ⟨u',hu',hr'⟩:=All2.get j vs[j] hr (List.getElem?_eq_getElem hj')
    have:nv[j]?=some u':=hu'
    rw [List.getElem?_eq_getElem hj] at this
    cases this
    exact cellish_one (CV.cellish _ hr'))
   simp only [Nat.add_zero] at hst
   have hsz:(a.eval v).cells.size=inf.size:=by
    simp only [Array.length_toList] at hrl
    omega
   have hrun':(execOp a.eval o).run P w= .ok .skip w':=by
    simp only [execOp,ho,Instr.storeAt,hvx,Instr.sureAddr,storeVar,Sem.run_bind,Sem.run_pure,Result.andThen_ok,sizeOf,run_typeInfo w h1,hsz,ne_eq,not_true_eq_false,if_false]
    rw [show (storeCells ⟨ad.block,ad.off+i*es.len+off,none⟩ (a.eval v).cells.toList).run P w= .ok () w' from hst]
    rfl
   unfold Oper.wp
   rw [hrun']
   exact ⟨.und,_,undef,g',rfl,h,hnx,rfl⟩
end
end Go.Tm
/- The pure machine, 30b: a box that is told for good where it is filled. -/
namespace Go.Tm
open Go
section
variable {P:Program} {C:Ctx} {env:Nat→TV} {mu mu':Mu} {a:Act} {w w':World} {g g':Gh} {idb:Nat} {R:Type} {Q:Exit→Act→World→Prop}
theorem Nxt.trans {w1 w2:World} {g1 g2:Gh} {mu1 mu2:Mu} (hm:MemR P w g mu) (hw:Wf w g.o) (h:Nxt P w g mu w1 g1 mu1) (k:Nxt P w1 g1 mu1 w2 g2 mu2):Nxt P w g mu w2 g2 mu2:=by
 have hm1:=memNxt hm hw h
 obtain ⟨T1,S1,F1,W1,O1,M1⟩:=h
 have hm2:=memNxt hm1 W1 k
 obtain ⟨T2,S2,F2,W2,O2,M2⟩:=k
 refine ⟨fun i=>T1 i∨T2 i,⟨fun b k v hv hn=>?_,fun i hi=>(S2.c i (S1.pres i hi)).trans (S1.c i hi),fun i hi=>S2.pres i (S1.pres i hi),fun i hT hi=>(S2.same i (fun h=>hT (.inr h)) (S1.pres i hi)).trans (S1.same i (fun h=>hT (.inl h)) hi),fun i es ms xs ver hT hi hr=>?_⟩,F1.trans W1 F2,W2,O2,fun i b _ hb=>hm2 i b hb⟩
 ·obtain ⟨h1,h2⟩:=S1.cell b k v hv (fun id s e h=>hn id s e (.inl h))
  obtain ⟨h3,h4⟩:=S2.cell b k v h1 (fun id s e h=>hn id s (by rw [←h2];exact e) (.inr h))
  exact ⟨h3,h4.trans h2⟩
 ·by_cases h2:T2 i
  ·obtain ⟨es',ms',xs',ver',hr',hlt⟩:=S2.ver i es ms xs ver h2 (S1.pres i hi) hr
   by_cases h1:T1 i
   ·obtain ⟨es2,ms2,xs2,ver2,hr2,hlt2⟩:=S1.ver i es' ms' xs' ver' h1 hi hr'
    exact ⟨es2,ms2,xs2,ver2,hr2,by omega⟩
   ·rw [S1.same i h1 hi] at hr'
    exact ⟨es',ms',xs',ver',hr',hlt⟩
  ·have h1:T1 i:=hT.resolve_right h2
   rw [S2.same i h2 (S1.pres i hi)] at hr
   exact S1.ver i es ms xs ver h1 hi hr
theorem Nxt.freezeBox (hm:MemR P w g mu) (hw:Wf w g.o) (hown:∀b k id s,g.o b k= .o (id::s)→mu id≠none) {id0:Nat} {cs:List CV} {es:Tys} {x:es.D} (hb:mu id0=some (.box cs))
  (hp:packs (R:=es.D×List Use) app0 mu es [] 0 cs [] packEnd=some (x,[])):∃g',Nxt P w g mu w g' (updL mu [(id0,.rbox es x)]):=by
 let us:List Use:= [.pm id0]
 have huk:usesOk us=true:=rfl
 have hfind:∀id,id≠id0→findU id us=none:=fun id h=>if_neg (fun e=>h (Eq.symm e))
 have hm0:Mvd w g (w.setCells 0 0 []) ⟨fun b k=>re (useF us fun _=> [0]) (g.o b k),g.c⟩ (useF us fun _=> [0]) (fun b k=>b=0∧0≤k∧k<0+([]:List Value).length):=set_mvd (id0:=0) hw (by simp)
 obtain ⟨b,base,hc,hbox⟩:=hm _ _ hb
 obtain ⟨vs,hvs,hcells⟩:=box_vs cs hbox
 obtain ⟨y,rest,new,vs1,vs2,hK,hspl,hrest,hlen1,hvs1⟩:=packs_ok hm hw (fun _=> .p) app0_ok es hvs hp
 cases rest with
 |cons _ _=>cases hK
 |nil =>
 simp only [packEnd,Option.some.injEq,Prod.mk.injEq,List.append_nil] at hK
 obtain ⟨rfl,rfl⟩:=hK
 cases vs2 with
 |cons _ _=>exact hrest.elim
 |nil =>
 rw [List.append_nil] at hspl
 subst hspl
 have hV:=hvs1 w (fun b k=>re (useF us fun _=> [0]) (g.o b k)) hm0.perm (fun u hu=>by cases hu)
 have hH:es.Hs P w (fun b k=>re (useF us fun _=> [0]) (g.o b k)) [] .p (fun _=> .p) 0 y b base:=Vs_hs es (Vs_q es hV) (fun k v hv=>by
  obtain ⟨h1,h2⟩:=hcells k v hv
  refine ⟨h1,?_⟩
  show re _ (g.o b (base+k))= .p
  rw [h2]
  simp [re,useF_pm huk (List.mem_singleton.2 rfl)])
 refine ⟨⟨fun b k=>re (useF us fun _=> [0]) (g.o b k),g.c⟩,set_nxt (T:=fun id=>id=id0) (vs:= []) (b0:=0) (off:=0) (id0:=0) hw hown (by simp) (by simp) (fun _ _=>rfl) (fun id s h=>by simp [useF,hfind id h]) (fun id s=>?_) (fun id s p l h1 h2=>?_) (fun id h1 h2 b hb=>?_) (fun id es' ms' xs' ver' h1 h2 h3=>?_) (fun id bl h1 h2=>?_)⟩
 ·unfold useF
  split<;>simp
 ·have:useF us (fun _=> [0]) id s= .o (p::l):=h2
  unfold useF at this
  split at this
  ·rename_i e
   obtain ⟨_,h3⟩:=findU_id e
   simp [us] at h3
  ·cases this
  ·cases this;exact updL_some h1
 ·simp at hb;exact h1 hb.1
 ·subst h1
  simp [updL,upd,Nat.beq_refl] at h3
 ·rcases h1 with h1|h1
  ·subst h1
   simp [updL,upd,Nat.beq_refl] at h2
   subst h2
   exact ⟨b,base,hc,hH⟩
  ·rcases updL_cases h2 with h2|⟨_,h2⟩
   ·simp at h2
    rw [h2.1,hb] at h1;cases h1
   ·rw [h1] at h2;cases h2
theorem op_store_fz (s:OpSt P C env mu a w g idb) {o:Oper} {t:Nat} {x v:Operand} (ho:o.op= .store t x v) {K:TV→List (Nat×Blk)→Option R} {y:R} {ti:TI} (ht:C.ty t=some ti) {id:Nat} (hx:evalTV env x= .c (.ptr id 0)) {vs cs:List CV}
  (hv:cellsOf (evalTV env v)=some vs) (hlen:vs.length=ti.size) (hb:mu id=some (.box cs)) (hcl:vs.length=cs.length) {es:Tys} {xd:es.D}
  (hp:packs (R:=es.D×List Use) app0 (updL mu [(id,.box vs)]) es [] 0 vs [] packEnd=some (xd,[])) (h:K .und [(id,.box vs),(id,.rbox es xd)]=some y):o.wp P a w (Done P w g mu a o.dst K y) Q:=by
 obtain ⟨inf,d,z,h1,h2,h3,h4,harr,h6,h7,_⟩:=ti_ok (s.ty t ti ht)
 have hvx:=evalTV_R s.env x
 rw [hx] at hvx
 obtain ⟨_,b,base,hc,hvx⟩:=hvx
 have hr:=cellsOf_R hv (evalTV_R s.env v)
 obtain ⟨hrun,hn⟩:=store_box s hb hc (off:=0) hr (by omega)
 have hfill:fillCV cs 0 vs=vs:=by
  refine List.ext_getElem? (fun j=>?_)
  rw [fillCV_get vs cs 0 j (by omega)]
  by_cases hj:0≤j∧j<0+vs.length
  ·rw [if_pos hj,Nat.sub_zero]
  ·rw [if_neg hj,List.getElem?_eq_none (by omega),List.getElem?_eq_none (by omega)]
 rw [hfill] at hn
 have hsz:(a.eval v).cells.size=inf.size:=by
  have:=hr.length
  simp only [Array.length_toList] at this
  omega
 have hrun':(execOp a.eval o).run P w= .ok .skip (w.setCells b (base+0) (a.eval v).cells.toList):=by
  simp only [execOp,ho,Instr.storeAt,hvx,Instr.sureAddr,storeVar,Sem.run_bind,Sem.run_pure,Result.andThen_ok,sizeOf,run_typeInfo w h1,hsz,ne_eq,not_true_eq_false,if_false,hrun]
 have hm1:=memNxt s.mem s.wf hn
 have hn0:=hn
 obtain ⟨T,S0,F0,W0,O0,M0⟩:=hn0
 obtain ⟨g2,hn2⟩:=Nxt.freezeBox hm1 W0 O0 (id0:=id) (cs:=vs) (by simp [updL,upd,Nat.beq_refl]) hp
 unfold Oper.wp
 rw [hrun']
 exact ⟨.und,_,undef,_,rfl,h,Nxt.trans s.mem s.wf hn hn2,rfl⟩
theorem leaf_empty {R:Type} {ty:Ty} {to:Nat} {cv:CV} {us:List Use} {K:ty.D→List Use→Option R} {y:R} (h:packLeaf app0 (fun _=>none) ty .sh to cv us K=some y) :
  ∃x us',K x us'=some y∧∀(R':Type) (K':ty.D→List Use→Option R'),packLeaf app0 mu ty .sh to cv us K'=K' x us':=by
 cases ty with
 |int k =>
  cases cv<;>simp only [packLeaf] at h<;>try (cases h;done)
  case int k' n =>
   split at h
   ·rename_i e;exact ⟨n,us,h,fun R' K'=>by simp [packLeaf,e]⟩
   ·cases h
 |bool =>
  cases cv<;>simp only [packLeaf] at h<;>try (cases h;done)
  case bool b=>exact ⟨b,us,h,fun R' K'=>by simp [packLeaf]⟩
 |str =>
  cases cv<;>simp only [packLeaf] at h<;>try (cases h;done)
  case str b=>exact ⟨b,us,h,fun R' K'=>by simp [packLeaf]⟩
 |sl es =>
  cases cv<;>simp only [packLeaf,packSl] at h<;>try (cases h;done)
  case nils=>exact ⟨[],us,h,fun R' K'=>by simp [packLeaf,packSl]⟩
  case ro es' xs =>
   cases he:Tys.eq? es' es with
   |none=>simp [he] at h
   |some q =>
    obtain ⟨q⟩:=q
    simp only [he] at h
    exact ⟨castL q xs,us,h,fun R' K'=>by simp [packLeaf,packSl,he]⟩
  all_goals simp [content] at h
 |fn sh ar rs =>
  cases cv<;>simp only [packLeaf,app0] at h<;>try (cases h;done)
  case fnd sh' ar' rs' g =>
   cases he:Ty.eq? (.fn sh' ar' rs') (.fn sh ar rs) with
   |none=>simp [he] at h
   |some q =>
    obtain ⟨q⟩:=q
    simp only [he] at h
    exact ⟨castF q g,us,h,fun R' K'=>by simp [packLeaf,he]⟩
  all_goals (split at h<;>cases h)
theorem packs_empty:∀(ts:Tys) {to:Nat} {cvs:List CV} {us:List Use} {R:Type} {K:ts.D→List CV→List Use→Option R} {y:R},packs app0 (fun _=>none) ts [] to cvs us K=some y →
  ∃x rest us',K x rest us'=some y∧∀(R':Type) (K':ts.D→List CV→List Use→Option R'),packs app0 mu ts [] to cvs us K'=K' x rest us'
 | .nil,_,cvs,us,_,_,_,h=>⟨(),cvs,us,h,fun _ _=>rfl⟩
 | .cons t ts,to,[],us,R,K,y,h=>by simp [packs] at h
 | .cons t ts,to,cv::cvs,us,R,K,y,h=>by
  simp only [packs] at h
  obtain ⟨x,us1,h1,h2⟩:=leaf_empty (mu:=mu) h
  obtain ⟨xs,rest,us2,h3,h4⟩:=packs_empty ts h1
  refine ⟨(x,xs),rest,us2,h3,fun R' K'=>?_⟩
  simp only [packs]
  have h2:=h2 R' (fun x us=>packs app0 mu ts [] (to+1) cvs us fun r cvs us=>K' (x,r) cvs us)
  exact h2.trans (h4 _ _)
theorem op_box_fz (s:OpSt P C env mu a w g idb) {o:Oper} {e:TypeId} {x:Operand} (ho:o.op= .box e x) {K:TV→List (Nat×Blk)→Option R} {y:R} {cs:List CV} (hx:cellsOf (evalTV env x)=some cs) {es:Tys} {xd:es.D}
  (hp:packs (R:=es.D×List Use) app0 (fun _=>none) es [] 0 cs [] packEnd=some (xd,[])) (h:K (.c (.ptr idb 0)) [(idb,.box cs),(idb,.rbox es xd)]=some y):o.wp P a w (Done P w g mu a o.dst K y) Q:=by
 obtain ⟨g',hn,hpp,_⟩:=Nxt.box s (cellsOf_R hx (evalTV_R s.env x)) e
 have hm1:=memNxt s.mem s.wf hn
 have hn0:=hn
 obtain ⟨T,S0,F0,W0,O0,M0⟩:=hn0
 obtain ⟨x2,rest,us2,hz,hk⟩:=packs_empty (mu:=updL mu [(idb,.box cs)]) es hp
 obtain ⟨g2,hn2⟩:=Nxt.freezeBox hm1 W0 O0 (id0:=idb) (cs:=cs) (by simp [updL,upd,Nat.beq_refl]) ((hk _ packEnd).trans hz)
 obtain ⟨q1,b,base,q2,q3⟩:=hpp
 have hn2':=hn2
 obtain ⟨T2,S2,F2,W2,O2,M2⟩:=hn2'
 refine wp_val (v:= .pointer (some ⟨w.heap.size,0,none⟩)) (w':=w.alloc (.cells (a.eval x).cells e)) ?_ ⟨.c (.ptr idb 0),_,_,g2,rfl,h,?_,?_⟩
 ·simp [execOp,ho,Instr.box,newVar,newRow]
 ·have h9:=Nxt.trans s.mem s.wf hn hn2
  exact h9
 ·have h8:updL (updL mu [(idb,.box cs)]) [(idb,.rbox es xd)] idb≠none:=updL_some q1
  exact TV.c_R ⟨h8,b,base,(S2.c idb q1).trans q2,q3⟩
end
end Go.Tm
/- The pure machine, 30: each operation does as the pure machine says. -/
namespace Go.Tm
open Go
section
variable {P:Program} {C:Ctx} {env:Nat→TV} {mu:Mu} {a:Act} {w:World} {g:Gh} {idb:Nat} {R:Type} {Q:Exit→Act→World→Prop}
theorem opU_unary (s:OpSt P C env mu a w g idb) {o:Oper} {rid i:Nat} {K:TV→List (Nat×Blk)→Option R} {y:R} (h:opU C env mu idb rid i o K=some y) {op:UnOp} {t:TypeId} {x:Operand} (hop:o.op= .unOp op t x) :
  o.wp P a w (Done P w g mu a o.dst K y) Q:=by
 simp only [opU,hop] at h
 have hv:=evalTV_R s.env x
 split at h
 ·rename_i b hx
  rw [hx] at hv
  have hv:a.eval x= .bool b:=hv
  exact op_unOp s hop (tv:= .c (.bool (!b))) (v:= .bool (!b)) (by rw [hv];simp [Op.unary]) rfl h
 ·rename_i k n hx
  rw [hx] at hv
  have hv:a.eval x= .int k n:=hv
  exact op_unOp s hop (tv:= .c (.int k (iSub k 0 n))) (v:= .int k (iSub k 0 n)) (by rw [hv];simp [Op.unary,Op.intArith,iSub,Int.zero_sub]) rfl h
 ·rename_i k n hx
  rw [hx] at hv
  have hv:a.eval x= .int k n:=hv
  exact op_unOp s hop (tv:= .c (.int k (iXor k (if k.signed then -1 else k.max) n))) (v:= .int k (iXor k (if k.signed then -1 else k.max) n)) (by rw [hv];simp [Op.unary,Op.intBits,iXor]) rfl h
 ·cases h
theorem opU_slice (s:OpSt P C env mu a w g idb) {o:Oper} {rid i:Nat} {K:TV→List (Nat×Blk)→Option R} {y:R} (h:opU C env mu idb rid i o K=some y) {t:TypeId} {x:Operand} {lo hi:Option Operand} (hop:o.op= .slice t x lo hi none) :
  o.wp P a w (Done P w g mu a o.dst K y) Q:=by
 simp only [opU,hop] at h
 cases ht:C.ty t with
 |none=>simp [ht] at h
 |some ti =>
  cases hx:evalTV env x<;>simp only [ht,hx] at h<;>try (cases h;done)
  case c cv =>
   cases hk:ti.k<;>simp only [hk] at h<;>try (cases h;done)
   case str =>
    cases cv<;>simp only at h<;>try (cases h;done)
    case str b=>exact op_slice_str s hop ht hk hx h
   case slice e0 =>
    cases he:elemTI C t with
    |none=>cases cv<;>simp [he] at h
    |some p =>
     obtain ⟨e,te⟩:=p
     have key:(∀b,cv≠ .str b)→(bif esOk mu (C.es e).len cv then sliceU mu cv (lo.map (evalTV env)) (hi.map (evalTV env)) K else none)=some y→o.wp P a w (Done P w g mu a o.dst K y) Q:=by
      intro hns h
      cases hes:esOk mu (C.es e).len cv with
      |false=>simp [hes] at h
      |true=>rw [hes] at h;exact op_slice_row s hop he hx hns hes h
     cases cv<;>simp only [he] at h<;>first|(cases h;done)|exact key (by simp) h
   case struct =>
    have key:(bif ti.ags.isEmpty&& !ti.flds.isEmpty&&lo.isNone&&hi.isNone then sliceArr mu ti.size cv K else none)=some y→o.wp P a w (Done P w g mu a o.dst K y) Q:=by
     intro hq
     clear h
     cases hc:(ti.ags.isEmpty&& !ti.flds.isEmpty&&lo.isNone&&hi.isNone) with
     |false=>rw [hc] at hq;cases hq
     |true =>
      rw [hc] at hq
      simp only [Bool.and_eq_true,Bool.not_eq_true',List.isEmpty_iff,Option.isNone_iff_eq_none] at hc
      obtain ⟨⟨⟨c1,c2⟩,rfl⟩,rfl⟩:=hc
      exact op_slice_arr s hop ht c1 (by rintro e;rw [e] at c2;cases c2) hx hq
    cases cv<;>exact key h
theorem opU_conv (s:OpSt P C env mu a w g idb) {o:Oper} {rid i:Nat} {K:TV→List (Nat×Blk)→Option R} {y:R} (h:opU C env mu idb rid i o K=some y) {t t2:TypeId} {x:Operand} (hop:o.op= .convert t t2 x) :
  o.wp P a w (Done P w g mu a o.dst K y) Q:=by
 simp only [opU,hop] at h
 have hvx:=evalTV_R s.env x
 cases ht:C.ty t with
 |none=>simp [ht] at h
 |some si =>
  cases ht2:C.ty t2 with
  |none=>simp [ht,ht2] at h
  |some ti =>
   cases hx:evalTV env x<;>simp only [ht,ht2,hx] at h<;>try (cases h;done)
   case c cv =>
    rw [hx] at hvx
    cases hk:ti.k<;>simp only [hk] at h<;>try (cases h;done)
    case int k' =>
     cases cv<;>simp only at h<;>try (cases h;done)
     case int k n=>exact op_conv_int s hop ht ht2 hk hx h
    case str =>
     by_cases hs:∃b,cv= .str b
     ·obtain ⟨b,rfl⟩:=hs
      exact op_conv_str s hop ht ht2 hk hx h
     ·have h':(match si.k with
       | .slice e=>match C.ty e with
        |some te=>match te.k with
         | .int .u8=>match cv with
          | .nils=>K (.c (.str ⟨#[]⟩)) []
          |v=>content mu v fun es xs=>match Tys.eq? es tyBytes with
           |some ⟨h⟩=>K (.c (.str (bytesStr (castL h xs)))) []
           |none=>none
         |_=>none
        |none=>none
       |_=>none)=some y:=by
       cases cv<;>first|exact h|exact absurd ⟨_,rfl⟩ hs
      cases hsk:si.k<;>simp only [hsk] at h'<;>try (cases h';done)
      case slice e =>
       cases he:C.ty e with
       |none=>simp [he] at h'
       |some te =>
        simp only [he] at h'
        cases hek:te.k<;>simp only [hek] at h'<;>try (cases h';done)
        case int ik =>
         cases ik<;>simp only at h'<;>try (cases h';done)
         case u8 =>
          by_cases hn:cv= .nils
          ·subst hn
           have hvx:a.eval x= .slice none 0 0:=hvx
           exact op_conv_bytes s hop ht ht2 hsk he hek hk hx (xs:= []) (ms:= .sh) (q:= .p) (H_sh.2 ⟨none,0,hvx,Nat.le_refl _,.inl rfl⟩) h'
          ·have h2:(content mu cv fun es xs=>match Tys.eq? es tyBytes with
             |some ⟨h⟩=>K (.c (.str (bytesStr (castL h xs)))) []
             |none=>none)=some y:=by
            cases cv<;>first|exact h'|exact absurd rfl hn
           obtain ⟨es,xs,h3,⟨ms,q,hH⟩,_⟩:=content_ok s.mem s.wf hvx h2
           cases hq:Tys.eq? es tyBytes with
           |none=>simp [hq] at h3
           |some p =>
            obtain ⟨p⟩:=p
            subst p
            simp only [hq] at h3
            exact op_conv_bytes s hop ht ht2 hsk he hek hk hx hH h3
theorem opU_call (s:OpSt P C env mu a w g idb) {o:Oper} {rid i:Nat} {K:TV→List (Nat×Blk)→Option R} {y:R} (h:opU C env mu idb rid i o K=some y) {c:Call} (hop:o.op= .call c) :
  o.wp P a w (Done P w g mu a o.dst K y) Q:=by
 simp only [opU,hop] at h
 cases hc:c.callee with
 |value f =>
  simp only [hc] at h
  cases hf:evalTV env f<;>simp only [hf] at h<;>try (cases h;done)
  case c cv =>
   cases cv<;>simp only at h<;>try (cases h;done)
   case fnp fn=>exact op_callU s hop hc hf h
   case fnd sh as rs k=>exact op_fnd s hop hc hf h
 |invoke _ _=>simp [hc] at h
 |builtin b =>
  simp only [hc] at h
  cases b<;>try (simp [builtinU] at h;done)
  case len=>exact op_len s hop hc h
  case append=>exact op_append s hop hc h
  case max =>
   generalize hargs:c.args.toList.map (evalTV env)=args at h
   cases args with
   |nil=>simp [builtinU] at h
   |cons x r =>
    cases x<;>simp only [builtinU] at h<;>try (cases h;done)
    case c cv =>
     cases cv<;>simp only at h<;>try (cases h;done)
     case int k x =>
      cases hn:maxInts k true x r with
      |none=>simp [hn] at h
      |some n=>simp only [hn] at h;exact op_maxmin s true hop hc hargs hn h
  case min =>
   generalize hargs:c.args.toList.map (evalTV env)=args at h
   cases args with
   |nil=>simp [builtinU] at h
   |cons x r =>
    cases x<;>simp only [builtinU] at h<;>try (cases h;done)
    case c cv =>
     cases cv<;>simp only at h<;>try (cases h;done)
     case int k x =>
      cases hn:maxInts k false x r with
      |none=>simp [hn] at h
      |some n=>simp only [hn] at h;exact op_maxmin s false hop hc hargs hn h
theorem opU_store (s:OpSt P C env mu a w g idb) {o:Oper} {rid i:Nat} {K:TV→List (Nat×Blk)→Option R} {y:R} (h:opU C env mu idb rid i o K=some y) {t:TypeId} {x v:Operand} (hop:o.op= .store t x v) :
  o.wp P a w (Done P w g mu a o.dst K y) Q:=by
 simp only [opU,hop] at h
 cases ht:C.ty t with
 |none=>simp [ht] at h
 |some ti =>
  cases hx:evalTV env x<;>simp only [ht,hx] at h<;>try (cases h;done)
  case c cv =>
   cases hv:cellsOf (evalTV env v) with
   |none=>simp [hv] at h
   |some vs =>
    simp only [hv] at h
    cases hlen:Nat.beq vs.length ti.size with
    |false=>simp [hlen] at h
    |true =>
     simp only [hlen,cond_true] at h
     have hlen:=Nat.eq_of_beq_eq_true hlen
     cases hsite:(C.site rid i).isEmpty with
     |false =>
      simp only [hsite,cond_false] at h
      cases cv with
      |ptr id off =>
       cases off with
       |succ n=>simp [freezeU] at h
       |zero =>
        simp only [freezeU] at h
        cases hb:mu id with
        |none=>simp [hb] at h
        |some b =>
         cases b<;>simp only [hb] at h<;>try (cases h;done)
         case box cs =>
          cases hle:Nat.beq vs.length cs.length with
          |false=>simp [hle] at h
          |true =>
           simp only [hle,cond_true] at h
           cases hp:packs (R:=(C.es t).D×List Use) app0 (updL mu [(id,.box vs)]) (C.es t) [] 0 vs [] packEnd with
           |none=>rw [hp] at h;cases h
           |some p =>
            obtain ⟨xd,us⟩:=p
            rw [hp] at h
            simp only [Option.bind_some] at h
            cases us with
            |cons _ _=>cases h
            |nil=>exact op_store_fz s hop ht hx hv hlen hb (Nat.eq_of_beq_eq_true hle) hp h
      |_=>simp [freezeU] at h
     |true =>
      simp only [hsite,cond_true] at h
      cases cv<;>simp only [storeU] at h<;>try (cases h;done)
      case ptr id off =>
       cases hb:mu id with
       |none=>simp [hb] at h
       |some b =>
        cases b<;>simp only [hb] at h<;>try (cases h;done)
        case box cs =>
         cases hle:Nat.ble (off+vs.length) cs.length with
         |false=>simp [hle] at h
         |true =>
          simp only [hle,cond_true] at h
          exact op_store_box s hop ht hx hv hlen hb (Nat.le_of_ble_eq_true hle) h
      case eptr id sz i off =>
       cases hb:mu id with
       |none=>simp [hb] at h
       |some b =>
        cases b<;>simp only [hb] at h<;>try (cases h;done)
        case row es ms xs ver =>
         cases hle:(Nat.ble (off+vs.length) es.len&&Nat.beq sz es.len) with
         |false=>simp [hle] at h
         |true =>
          simp only [hle,cond_true] at h
          simp only [Bool.and_eq_true] at hle
          have hsz:=Nat.eq_of_beq_eq_true hle.2
          subst hsz
          cases hx0:getN xs i with
          |none=>simp [hx0] at h
          |some x0 =>
           simp only [hx0,Option.bind_some] at h
           exact op_store_el s hop ht hx hv hlen hb (Nat.le_of_ble_eq_true hle.1) hx0 h
theorem opU_ptr (s:OpSt P C env mu a w g idb) {o:Oper} {rid i:Nat} {K:TV→List (Nat×Blk)→Option R} {y:R} (h:opU C env mu idb rid i o K=some y) {x:Operand} (hop:o.op= .nilCheck x) :
  o.wp P a w (Done P w g mu a o.dst K y) Q:=by
 simp only [opU,hop] at h
 cases hx:evalTV env x<;>simp only [hx] at h<;>try (cases h;done)
 case c cv =>
  cases cv<;>simp only at h<;>try (cases h;done)
  case ptr id off=>exact op_nilCheck s hop hx (fun v hv=>by obtain ⟨_,b,base,_,hv⟩:=hv;exact ⟨_,hv⟩) h
  case eptr id sz i off=>exact op_nilCheck s hop hx (fun v hv=>by obtain ⟨_,a,n,c,_,_,hv⟩:=hv;exact ⟨_,hv⟩) h
  case rptr es z off=>exact op_nilCheck s hop hx (fun v hv=>by obtain ⟨b,base,hv,_⟩:=hv;exact ⟨_,hv⟩) h
theorem opU_fieldAddr (s:OpSt P C env mu a w g idb) {o:Oper} {rid i:Nat} {K:TV→List (Nat×Blk)→Option R} {y:R} (h:opU C env mu idb rid i o K=some y) {t:TypeId} {x:Operand} {f:Nat} (hop:o.op= .fieldAddr t x f) :
  o.wp P a w (Done P w g mu a o.dst K y) Q:=by
 simp only [opU,hop] at h
 cases hf:structFld C t f with
 |none=>simp [hf] at h
 |some p =>
  obtain ⟨off,n⟩:=p
  cases hx:evalTV env x<;>simp only [hf,hx] at h<;>try (cases h;done)
  case c cv =>
   cases cv<;>simp only at h<;>try (cases h;done)
   case ptr id o' =>
    exact op_fieldAddr s hop hf hx (cv':= .ptr id (o'+off)) (fun v hv=>by
     obtain ⟨h0,b,base,hc,rfl⟩:=hv
     exact ⟨b,base+o',rfl,h0,b,base,hc,by rw [Nat.add_assoc]⟩) h
   case eptr id sz i o' =>
    exact op_fieldAddr s hop hf hx (cv':= .eptr id sz i (o'+off)) (fun v hv=>by
     obtain ⟨h0,ad,n,c,hc,hs,rfl⟩:=hv
     exact ⟨ad.block,ad.off+i*sz+o',rfl,h0,ad,n,c,hc,hs,by rw [Nat.add_assoc]⟩) h
   case rptr es z o' =>
    exact op_fieldAddr s hop hf hx (cv':= .rptr es z (o'+off)) (fun v hv=>by
     obtain ⟨b,base,rfl,hs⟩:=hv
     exact ⟨b,base+o',rfl,b,base,by rw [Nat.add_assoc],hs⟩) h
theorem opU_index (s:OpSt P C env mu a w g idb) {o:Oper} {rid i:Nat} {K:TV→List (Nat×Blk)→Option R} {y:R} (h:opU C env mu idb rid i o K=some y) {t:TypeId} {x z:Operand} (hop:o.op= .index t x z) :
  o.wp P a w (Done P w g mu a o.dst K y) Q:=by
 simp only [opU,hop] at h
 split at h
 ·rename_i ti b k n ht hx hz
  cases hk:ti.k<;>simp only [hk] at h<;>try (cases h;done)
  case str =>
   cases hu:getI b.data.toList n with
   |none=>simp [hu] at h
   |some u=>simp only [hu,Option.bind_some] at h;exact op_index s hop ht hk hx hz hu h
 ·cases h
theorem opU_indexAddr (s:OpSt P C env mu a w g idb) {o:Oper} {rid i:Nat} {K:TV→List (Nat×Blk)→Option R} {y:R} (h:opU C env mu idb rid i o K=some y) {t:TypeId} {x z:Operand} (hop:o.op= .indexAddr t x z) :
  o.wp P a w (Done P w g mu a o.dst K y) Q:=by
 simp only [opU,hop] at h
 cases he:elemTI C t with
 |none=>simp [he] at h
 |some p =>
  obtain ⟨e,te⟩:=p
  cases hx:evalTV env x<;>simp only [he,hx] at h<;>try (cases h;done)
  case c cv =>
   cases hz:evalTV env z<;>simp only [hz] at h<;>try (cases h;done)
   case c cz =>
    cases cz<;>simp only at h<;>try (cases h;done)
    case int k n =>
     cases hes:esOk mu (C.es e).len cv with
     |false=>simp [hes] at h
     |true=>simp only [hes,cond_true] at h;exact op_indexAddr s hop he hx hz hes h
theorem opU_makeSlice (s:OpSt P C env mu a w g idb) {o:Oper} {rid i:Nat} {K:TV→List (Nat×Blk)→Option R} {y:R} (h:opU C env mu idb rid i o K=some y) {t:TypeId} {l c:Operand} (hop:o.op= .makeSlice t l c) :
  o.wp P a w (Done P w g mu a o.dst K y) Q:=by
 simp only [opU,hop] at h
 split at h
 ·rename_i e te k n k' n' he hl hc
  split at h
  ·rename_i hk
   obtain ⟨rfl,rfl⟩:=hk
   cases hm:(Nat.blt 0 te.size&&mkOk n n' te.bytes) with
   |false=>simp [hm] at h
   |true =>
    simp only [hm,cond_true] at h
    simp only [mkOk,Bool.and_eq_true,decide_eq_true_eq,Nat.blt_eq] at hm
    obtain ⟨h3,rfl,h0,h1,h2⟩:=hm
    exact op_makeSlice s hop he hl hc h0 ⟨h1,h2⟩ h3 h
  ·cases h
 ·cases h
theorem opU_ok (s:OpSt P C env mu a w g idb) {o:Oper} {rid i:Nat} {K:TV→List (Nat×Blk)→Option R} {y:R} (h:opU C env mu idb rid i o K=some y):o.wp P a w (Done P w g mu a o.dst K y) Q:=by
 cases hop:o.op with
 |move x=>simp only [opU,hop] at h;exact op_move s (.inl hop) h
 |assign x=>simp only [opU,hop] at h;exact op_move s (.inr hop) h
 |pick c x z =>
  simp only [opU,hop] at h
  split at h
  ·rename_i b hc
   refine op_pick s hop hc ?_
   cases b<;>exact h
  ·cases h
 |alloc e =>
  simp only [opU,hop] at h
  split at h
  ·rename_i ti ht;exact op_alloc s hop ht h
  ·cases h
 |box e x =>
  simp only [opU,hop] at h
  split at h
  ·rename_i cs hx
   cases hsi:(C.site rid i).isEmpty with
   |true=>rw [hsi] at h;exact op_box s hop hx h
   |false =>
    simp only [hsi,cond_false] at h
    cases hp:(packs (R:=(C.es e).D×List Use) app0 (fun _=>none) (C.es e) [] 0 cs [] packEnd) with
    |none=>simp [hp] at h
    |some p =>
     obtain ⟨xd,us⟩:=p
     simp only [hp,Option.bind_some] at h
     cases us with
     |nil=>exact op_box_fz s hop hx hp h
     |cons u us=>cases h
  ·cases h
 |build t parts =>
  simp only [opU,hop] at h
  split at h
  ·rename_i ti ht
   split at h
   ·rename_i hk
    split at h
    ·rename_i cs hb;exact op_build s hop ht hk hb h
    ·cases h
   ·cases h
  ·cases h
 |buildSlice t len parts =>
  simp only [opU,hop] at h
  split at h
  ·rename_i e te he;exact op_buildSlice s hop he h
  ·cases h
 |load t x =>
  simp only [opU,hop] at h
  split at h
  ·rename_i ti cv ht hx;exact op_load s hop ht hx h
  ·cases h
 |store t x v=>exact opU_store s h hop
 |nilCheck x=>exact opU_ptr s h hop
 |binOp op t x y t2=>simp only [opU,hop] at h;exact op_bin s hop h
 |unOp op t x=>exact opU_unary s h hop
 |convert t t2 x=>exact opU_conv s h hop
 |makeFunc f first captured =>
  cases f<;>simp only [opU,hop] at h<;>try (cases h;done)
  case func f =>
   cases hf:first.isEmpty with
   |false=>simp [hf] at h
   |true =>
    simp only [hf,cond_true] at h
    split at h
    ·rename_i l hc;exact op_makeFunc s hop hf hc h
    ·cases h
 |makeSlice t l c=>exact opU_makeSlice s h hop
 |slice t x lo hi mx =>
  cases mx with
  |none=>exact opU_slice s h hop
  |some m=>simp [opU,hop] at h
 |fieldAddr t x f=>exact opU_fieldAddr s h hop
 |field t x f =>
  simp only [opU,hop] at h
  split at h
  ·rename_i off n vs ag hf hx hga;exact op_field s hop hf hga hx h
  ·cases h
 |indexAddr t x z=>exact opU_indexAddr s h hop
 |index t x z=>exact opU_index s h hop
 |extract x i =>
  simp only [opU,hop] at h
  split at h
  ·rename_i vs hx
   split at h
   ·rename_i e he;exact op_extract s hop hx he h
   ·cases h
  ·cases h
 |call c=>exact opU_call s h hop
 |_=>simp [opU,hop] at h
end
end Go.Tm
/- The pure machine, 31: what is known, told anew by items. -/
namespace Go.Tm
open Go
def CV.In (mu:Mu):CV→Prop
 | .own id| .ptr id _| .eptr id _ _ _=>mu id≠none
 | .nref id ver _ _=>mu id≠none∧∀es ms xs ver0,mu id=some (.row es ms xs ver0)→ver≤ver0
 | .clo _ ids=>∀id∈ids,mu id≠none
 |_=>True
def compIn (mu:Mu):Bool×List CV→Prop
 |(true,vs)=>∀cv∈vs,cv.In mu
 |(false,cv::_)=>cv.In mu
 |(false,[])=>True
def TV.In (mu:Mu):TV→Prop
 | .c cv=>cv.In mu
 | .agg vs=>∀cv∈vs,cv.In mu
 | .tup l=>∀x∈l,compIn mu x
 |_=>True
section
variable {P:Program} {w:World} {g g':Gh} {mu mu0 muF:Mu}
theorem All2.mem_left {α β:Type} {R:α→β→Prop}:∀{x:List α} {y:List β} {a:α},All2 R x y→a∈x→∃b,R a b
 |_::_,_::_,a,h,ha=>by
  rcases List.mem_cons.1 ha with rfl|ha
  ·exact ⟨_,h.1⟩
  ·exact All2.mem_left h.2 ha
 | [],_,_,_,ha=>by cases ha
 |_::_,[],_,h,_=>h.elim
theorem CV.R.inn {cv:CV} {v:Value} (h:cv.R P w g mu v):cv.In mu:=by
 cases cv with
 |own id=>exact h.1
 |nref id ver i j=>exact ⟨h.1,fun es ms xs ver0 e=>(h.2.2 _ _ _ _ e).1⟩
 |ptr id off=>exact h.1
 |eptr id sz i off=>exact h.1
 |clo f ids =>
  obtain ⟨caps,_,ha⟩:=h
  intro id hid
  obtain ⟨u,hu⟩:=All2.mem_left ha hid
  exact hu.1
 |_=>trivial
theorem TV.R.inn {tv:TV} {v:Value} (h:tv.R P w g mu v):tv.In mu:=by
 cases tv with
 |c cv=>exact CV.R.inn h
 |agg vs=>obtain ⟨a,_,ha⟩:=h;intro cv hcv;obtain ⟨u,hu⟩:=All2.mem_left ha hcv;exact CV.R.inn hu
 |tup l =>
  obtain ⟨a,_,ha⟩:=h
  intro x hx
  obtain ⟨u,hu⟩:=All2.mem_left ha hx
  rcases x with ⟨_|_,vs⟩
  ·rcases vs with _|⟨cv,_⟩
   ·trivial
   ·exact CV.R.inn (v:=u) hu
  ·obtain ⟨a,_,ha⟩:=hu
   intro cv hcv;obtain ⟨u,hu⟩:=All2.mem_left ha hcv;exact CV.R.inn hu
 |_=>trivial
structure Tell (w:World) (g:Gh) (mu mu0:Mu) (g':Gh) (muF:Mu):Prop where
 hp:PermKeep w g.o w g'.o
 hw:Wf w g.o
 hD:∀id,mu0 id≠none→muF id≠none∧g'.c id=g.c id
 hV:∀id es ms xs ver',mu0 id≠none→muF id=some (.row es ms xs ver')→(∃es0 ms0 xs0 ver0,mu0 id=some (.row es0 ms0 xs0 ver0)∧ver0<ver')∨(mu id=muF id∧∀b k,g.o b k= .o [id]→g'.o b k= .o [id])
theorem CV.told (h:Tell w g mu mu0 g' muF) {cv:CV} {v:Value} (hi:cv.In mu0) (hr:cv.R P w g mu v):cv.R P w g' muF v:=by
 cases cv with
 |un=>exact hr
 |int k n=>exact hr
 |bool b=>exact hr
 |str s=>exact hr
 |nils=>exact hr
 |ro es xs=>exact H_re h.hp h.hw (.sl es) .sh .p .p xs v rfl hr
 |own id=>exact ⟨(h.hD _ hi).1,(h.hD _ hi).2.trans hr.2.1,hr.2.2⟩
 |nref id ver i j =>
  obtain ⟨hi,hi2⟩:=hi
  refine ⟨(h.hD _ hi).1,hr.2.1,fun es ms xs ver' hm=>?_⟩
  rcases h.hV id es ms xs ver' hi hm with ⟨es0,ms0,xs0,ver0,h0,hlt⟩|⟨e,ho⟩
  ·have:=hi2 _ _ _ _ h0
   exact ⟨by omega,fun e=>by omega⟩
  ·obtain ⟨h1,h2⟩:=hr.2.2 es ms xs ver' (e.trans hm)
   refine ⟨h1,fun e=>?_⟩
   obtain ⟨a,n,c,hc,hv,ho'⟩:=h2 e
   exact ⟨a,n,c,(h.hD _ hi).2.trans hc,hv,ho _ _ ho'⟩
 |ptr id off=>obtain ⟨h0,b,base,hc,hv⟩:=hr;exact ⟨(h.hD _ hi).1,b,base,(h.hD _ hi).2.trans hc,hv⟩
 |eptr id sz i off=>obtain ⟨h0,a,n,c,hc,hs,hv⟩:=hr;exact ⟨(h.hD _ hi).1,a,n,c,(h.hD _ hi).2.trans hc,hs,hv⟩
 |rptr es x off =>
  obtain ⟨b,base,hv,hs⟩:=hr
  exact ⟨b,base,hv,Hs_re h.hp h.hw es [] .p .p (fun _=> .p) (fun _=> .p) 0 x b base rfl (fun _=>rfl) hs⟩
 |fnp f=>exact hr
 |clo f ids =>
  obtain ⟨caps,hv,ha⟩:=hr
  refine ⟨caps,hv,?_⟩
  have key:∀(ids:List Nat) (vs:List Value),(∀id∈ids,mu0 id≠none)→All2 (fun id u=>mu id≠none∧∃b base,g.c id= .box b base∧u= .pointer (some ⟨b,base,none⟩)) ids vs →
    All2 (fun id u=>muF id≠none∧∃b base,g'.c id= .box b base∧u= .pointer (some ⟨b,base,none⟩)) ids vs:=by
   intro ids
   induction ids with
   |nil=>intro vs _ h;cases vs;trivial;exact h.elim
   |cons id ids ih =>
    intro vs hin ha
    cases vs with
    |nil=>exact ha.elim
    |cons u vs =>
     obtain ⟨⟨_,b,base,hc,hu⟩,ha⟩:=ha
     have:=h.hD id (hin id (by simp))
     exact ⟨⟨this.1,b,base,this.2.trans hc,hu⟩,ih vs (fun id hid=>hin id (by simp [hid])) ha⟩
  exact key _ _ hi ha
 |fnd sh as rs k=>exact H_re h.hp h.hw (.fn sh as rs) .sh .p .p k v rfl hr
theorem cvs_told (h:Tell w g mu mu0 g' muF):∀{cvs:List CV} {vs:List Value},(∀cv∈cvs,cv.In mu0)→cvsR P w g mu cvs vs→cvsR P w g' muF cvs vs
 | [],[],_,_=>trivial
 |_::_,_::_,hi,hr=>⟨CV.told h (hi _ (by simp)) hr.1,cvs_told h (fun cv hcv=>hi cv (by simp [hcv])) hr.2⟩
 | [],_::_,_,hr=>hr.elim
 |_::_,[],_,hr=>hr.elim
theorem TV.told (h:Tell w g mu mu0 g' muF) {tv:TV} {v:Value} (hi:tv.In mu0) (hr:tv.R P w g mu v):tv.R P w g' muF v:=by
 cases tv with
 |un=>trivial
 |und=>exact hr
 |c cv=>exact CV.told h hi hr
 |agg vs=>obtain ⟨a,hv,ha⟩:=hr;exact ⟨a,hv,cvs_told h hi ha⟩
 |tup l =>
  obtain ⟨a,hv,ha⟩:=hr
  refine ⟨a,hv,?_⟩
  have key:∀(l:List (Bool×List CV)) (vs:List Value),(∀x∈l,compIn mu0 x)→All2 (compR P w g mu) l vs→All2 (compR P w g' muF) l vs:=by
   intro l
   induction l with
   |nil=>intro vs _ h;cases vs;trivial;exact h.elim
   |cons x l ih =>
    intro vs hin ha
    cases vs with
    |nil=>exact ha.elim
    |cons u vs =>
     obtain ⟨hu,ha⟩:=ha
     have hx:=hin x (by simp)
     refine ⟨?_,ih vs (fun y hy=>hin y (by simp [hy])) ha⟩
     rcases x with ⟨_|_,ws⟩
     ·rcases ws with _|⟨cv,_⟩
      ·trivial
      ·exact CV.told h hx hu
     ·obtain ⟨b,hb,hu⟩:=hu;exact ⟨b,hb,cvs_told h hx hu⟩
  exact key _ _ hi ha
structure InSt (st:St):Prop where
 env:∀n,(st.env n).In st.mu
 box:∀id cs cv,st.mu id=some (.box cs)→cv∈cs→cv.In st.mu
theorem Rel.inn {nt:Nat} {w0:World} {o0:Nat→Nat→Own} {st:St} {tmps:Array Value} (r:Rel P nt w0 o0 st.env st.mu tmps w g):InSt st where
 env n:=TV.R.inn (r.env n)
 box id cs cv hb hcv:=by
  obtain ⟨j,hj,e⟩:=List.mem_iff_getElem.1 hcv
  obtain ⟨b,base,_,h⟩:=r.mem id _ hb
  obtain ⟨v,_,_,hr⟩:=h j cv (by simp [hj,e])
  exact CV.R.inn hr
def ItV (P:Program) (w:World) (g:Gh) (st:St) (tmps:Array Value):Item→Value→Prop
 | .t n _ _,v=>v=tmps.getD n undef
 | .b id j _ _,v=>∃cs b base,st.mu id=some (.box cs)∧g.c id= .box b base∧w.cell? ⟨b,base+j,none⟩=some v∧g.o b (base+j)= .o [id]
 | .r id _ _,v=>g.c id= .row v∧∃es ms xs ver,st.mu id=some (.row es ms xs ver)
def ItemsH (P:Program) (w:World) (o:Nat→Nat→Own) (nx:Nat) (dest:Nat→Own):(items:List Item)→Nat→(itemsTy items).D→List Value→Prop
 | [],_,_,vs=>vs= []
 |x::r,k,d,vs=>∃v r',vs=v::r'∧(itemTy x).H P w o (itemMd x) (dest (itemId nx k x)) d.1 v∧ItemsH P w o nx dest r (k+1) d.2 r'
def UsR (mu:Mu) (tos:Nat→Prop) (bx:Prop):Use→Prop
 | .mv id to=>(∃es ms xs ver,mu id=some (.row es ms xs ver))∧tos to
 | .pm id=>(∃es ms xs ver,mu id=some (.row es ms xs ver))∨(∃es xs,mu id=some (.fz es xs))∨(bx∧mu id≠none)
def Le (mu mu':Mu):Prop:=∀id b,mu id=some b→mu' id=some b
theorem boxCells_le {mu':Mu} (hl:Le mu mu'):∀{ids:List Nat} {cs:List (List CV)},boxCells mu ids=some cs→boxCells mu' ids=some cs∧∀id∈ids,mu id≠none
 | [],cs,h=>⟨h,by simp⟩
 |id::r,cs,h=>by
  simp only [boxCells] at h ⊢
  split at h
  ·rename_i l1 l2 h1 h2
   obtain ⟨h3,h4⟩:=boxCells_le hl h2
   rw [hl _ _ h1,h3]
   exact ⟨h,by simp [h1];exact h4⟩
  ·rename_i es x l h1 h2
   obtain ⟨h3,h4⟩:=boxCells_le hl h2
   rw [hl _ _ h1,h3]
   exact ⟨h,by simp [h1];exact h4⟩
  ·cases h
theorem packLeaf_out {R:Type} {app:App} {ty:Ty} {md:Md} {to:Nat} {cv:CV} {us:List Use} {K:ty.D→List Use→Option R} {y:R} (h:packLeaf app mu ty md to cv us K=some y) :
  ∃x new,K x (new++us)=some y∧(∀u∈new,UsR mu (fun t=>t=to∧∃es ms,ty= .sl es∧md= .own ms) (app≠app0) u) ∧
   ∀mu',Le mu mu'→∀(R':Type) (K':ty.D→List Use→Option R'),packLeaf app mu' ty md to cv us K'=K' x (new++us):=by
 cases ty with
 |int k =>
  cases cv<;>simp only [packLeaf] at h<;>try (cases h;done)
  case int k' n =>
   split at h
   ·rename_i e;exact ⟨n,[],h,by simp,fun mu' hl R' K'=>by simp [packLeaf,e]⟩
   ·cases h
 |bool =>
  cases cv<;>simp only [packLeaf] at h<;>try (cases h;done)
  case bool b=>exact ⟨b,[],h,by simp,fun mu' hl R' K'=>by simp [packLeaf]⟩
 |str =>
  cases cv<;>simp only [packLeaf] at h<;>try (cases h;done)
  case str b=>exact ⟨b,[],h,by simp,fun mu' hl R' K'=>by simp [packLeaf]⟩
 |sl es =>
  simp only [packLeaf] at h
  cases md with
  |own ms =>
   cases cv<;>simp only [packSl] at h<;>try (cases h;done)
   case nils=>exact ⟨[],[],h,by simp,fun mu' hl R' K'=>by simp [packLeaf,packSl]⟩
   case own id =>
    cases hb:mu id with
    |none=>simp [hb] at h
    |some b =>
     cases b<;>simp only [hb] at h<;>try (cases h;done)
     case row es' ms' xs ver =>
      cases he:Tys.eq? es' es with
      |none=>simp [he] at h
      |some p =>
       simp only [he] at h
       cases hms:mdsBeq ms' ms with
       |false=>simp [hms] at h
       |true =>
        simp only [hms,cond_true] at h
        exact ⟨_,[.mv id to],h,by simp [UsR,hb],fun mu' hl R' K'=>by simp [packLeaf,packSl,hl _ _ hb,he,hms]⟩
  |sh =>
   cases cv<;>simp only [packSl] at h<;>try (cases h;done)
   case nils=>exact ⟨[],[],h,by simp,fun mu' hl R' K'=>by simp [packLeaf,packSl]⟩
   case ro es' xs =>
    cases he:Tys.eq? es' es with
    |none=>simp [he] at h
    |some p=>simp only [he] at h;exact ⟨_,[],h,by simp,fun mu' hl R' K'=>by simp [packLeaf,packSl,he]⟩
   case own id =>
    simp only [content] at h
    cases hb:mu id with
    |none=>simp [hb] at h
    |some b =>
     cases b<;>simp only [hb] at h<;>try (cases h;done)
     case row es' ms' xs ver =>
      cases he:Tys.eq? es' es with
      |none=>simp [he] at h
      |some p=>simp only [he] at h;exact ⟨_,[.pm id],h,by simp [UsR,hb],fun mu' hl R' K'=>by simp [packLeaf,packSl,content,hl _ _ hb,he]⟩
     case fz es' xs =>
      cases he:Tys.eq? es' es with
      |none=>simp [he] at h
      |some p=>simp only [he] at h;exact ⟨_,[.pm id],h,by simp [UsR,hb],fun mu' hl R' K'=>by simp [packLeaf,packSl,content,hl _ _ hb,he]⟩
   case nref id ver i j =>
    simp only [content] at h
    cases hb:mu id with
    |none=>simp [hb] at h
    |some b =>
     cases b<;>simp only [hb] at h<;>try (cases h;done)
     case row es' ms' xs ver' =>
      cases hver:Nat.beq ver ver' with
      |false=>simp [hver] at h
      |true =>
       simp only [hver,cond_true] at h
       cases hx:getN xs i with
       |none=>simp [hx] at h
       |some x =>
        simp only [hx,Option.bind_some] at h
        cases hlf:es'.leaf j x with
        |none=>simp [hlf] at h
        |some l =>
         obtain ⟨lt,lx⟩:=l
         cases lt<;>simp only [hlf] at h<;>try (cases h;done)
         case sl es2 =>
          cases he:Tys.eq? es2 es with
          |none=>simp [he] at h
          |some p=>simp only [he] at h;exact ⟨_,[.pm id],h,by simp [UsR,hb],fun mu' hl R' K'=>by simp [packLeaf,packSl,content,hl _ _ hb,hver,hx,hlf,he]⟩
 |fn sh as rs =>
  cases cv<;>simp only [packLeaf] at h<;>try (cases h;done)
  case fnd sh' as' rs' k =>
   cases he:Ty.eq? (.fn sh' as' rs') (.fn sh as rs) with
   |none=>simp [he] at h
   |some p=>simp only [he] at h;exact ⟨_,[],h,by simp,fun mu' hl R' K'=>by simp [packLeaf,he]⟩
  case fnp f =>
   cases hk:app f sh [] as rs with
   |none=>simp [hk] at h
   |some k=>simp only [hk] at h;exact ⟨_,[],h,by simp,fun mu' hl R' K'=>by simp [packLeaf,hk]⟩
  case clo f ids =>
   cases hb:boxCells mu ids with
   |none=>simp [hb] at h
   |some caps =>
    simp only [hb] at h
    cases hk:app f sh caps as rs with
    |none=>simp [hk] at h
    |some k =>
     simp only [hk] at h
     refine ⟨_,ids.map .pm,h,fun u hu=>?_,fun mu' hl R' K'=>by simp [packLeaf,(boxCells_le hl hb).1,hk]⟩
     obtain ⟨id,hid,rfl⟩:=List.mem_map.1 hu
     exact .inr (.inr ⟨fun e=>(by rw [e] at hk;cases hk),(boxCells_le (mu':=mu) (fun _ _ h=>h) hb).2 id hid⟩)
theorem itemCV_R {st:St} {tmps:Array Value} (henv:∀t,(st.env t).R P w g st.mu (tmps.getD t undef)) (hm:MemR P w g st.mu) {x:Item} {R:Type} {to:Nat} {us:List Use} {K:(itemTy x).D→List Use→Option R} {y:R}
  (h:packLeaf app0 st.mu (itemTy x) (itemMd x) to (itemCV st x) us K=some y):∃v,(itemCV st x).R P w g st.mu v∧ItV P w g st tmps x v:=by
 have nun:∀{t:Ty} {md:Md} {K:t.D→List Use→Option R},packLeaf app0 st.mu t md to .un us K=some y→False:=by
  intro t md K h
  cases t<;>simp [packLeaf] at h
  case sl es=>cases md<;>simp [packSl] at h
 cases x with
 |t n ty md =>
  refine ⟨tmps.getD n undef,?_,rfl⟩
  have:=henv n
  simp only [itemCV] at h ⊢
  split
  ·rename_i v e;rw [e] at this;exact this
  ·rename_i e
   exfalso
   cases he:st.env n with
   |c v=>exact e v he
   |_=>simp only [he] at h;exact nun h
 |b id j ty md =>
  simp only [itemCV] at h ⊢
  cases hb:st.mu id with
  |none=>simp only [hb] at h;exact (nun h).elim
  |some bl =>
   cases bl<;>simp only [hb] at h ⊢ <;>try exact (nun h).elim
   case box cs =>
    obtain ⟨b,base,hc,hcell⟩:=hm id _ hb
    cases hj:cs[j]? with
    |none =>
     have:cs.getD j .un= .un:=by simp [List.getD,hj]
     rw [this] at h;exact (nun h).elim
    |some cv =>
     have e:cs.getD j .un=cv:=by simp [List.getD,hj]
     obtain ⟨v,h1,h2,h3⟩:=hcell j cv hj
     rw [e]
     exact ⟨v,h3,cs,b,base,hb,hc,h1,h2⟩
 |r id es ms =>
  simp only [itemCV,itemTy,itemMd,packLeaf,packSl] at h ⊢
  cases hb:st.mu id with
  |none=>simp [hb] at h
  |some bl =>
   cases bl<;>simp only [hb] at h<;>try (cases h;done)
   case row es' ms' xs ver =>
    obtain ⟨v,hc,hr⟩:=hm id _ hb
    obtain ⟨a,c,hv,_⟩:=H_own.1 hr
    exact ⟨v,⟨by simp [hb],hc,a,_,c,hv⟩,hc,es',ms',xs,ver,hb⟩
theorem packLeaf_mv {mu:Mu} {es:Tys} {ms:List Md} {to id:Nat} {us:List Use} {R:Type} {K:List es.D→List Use→Option R} {y:R} (h:packLeaf app0 mu (.sl es) (.own ms) to (.own id) us K=some y) :
  packLeaf app0 mu (.sl es) (.own ms) to (.own id) us (fun _ u=>some u)=some (.mv id to::us):=by
 simp only [packLeaf,packSl] at h ⊢
 cases hb:mu id with
 |none=>simp [hb] at h
 |some b =>
  cases b<;>simp only [hb] at h ⊢ <;>try (cases h;done)
  case row es' ms' xs ver =>
   cases he:Tys.eq? es' es with
   |none=>simp [he] at h
   |some p =>
    simp only [he] at h ⊢
    cases hms:mdsBeq ms' ms with
    |false=>simp [hms] at h
    |true=>simp
theorem packItems_ok {st:St} {tmps:Array Value} (henv:∀t,(st.env t).R P w g st.mu (tmps.getD t undef)) (hm:MemR P w g st.mu) (hw:Wf w g.o) {nx:Nat}:∀(items:List Item) (k:Nat) {us:List Use} {R:Type} {K:(itemsTy items).D→List Use→Option R} {y:R}
  (_:packItems st nx items k us K=some y),∃d new vals,K d (new++us)=some y∧All2 (ItV P w g st tmps) items vals ∧
   (∀u∈new,UsR st.mu (fun t=>∃i x es ms,items[i]?=some x∧t=itemId nx (k+i) x∧itemTy x= .sl es∧itemMd x= .own ms) False u) ∧
   (∀(dest:Nat→Own) w' o',PermKeep w g.o w' o'→(∀u∈new,Served dest w g.o w' o' u)→ItemsH P w' o' nx dest items k d vals)∧∀id es ms,.r id es ms∈items→ .mv id id∈new
 | [],k,us,R,K,y,h=>⟨(),[],[],h,trivial,by simp,fun _ _ _ _ _=>rfl,by simp⟩
 |x::r,k,us,R,K,y,h=>by
  simp only [packItems] at h
  obtain ⟨v,hcv,hit⟩:=itemCV_R henv hm h
  obtain ⟨d,new,h1,hus,hdet⟩:=packLeaf_out h
  have h2:=hdet st.mu (fun _ _ h=>h) ((itemTy x).D×List Use) (fun d u=>some (d,u))
  obtain ⟨d',new',h3,hH⟩:=packLeaf_okA hm hw app0_ok hcv h2
  simp only [Option.some.injEq,Prod.mk.injEq] at h3
  obtain ⟨rfl,h3⟩:=h3
  have h3:=List.append_cancel_right h3
  subst h3
  obtain ⟨ds,new2,vals,h4,hit2,hus2,hH2,hr2⟩:=packItems_ok henv hm hw r (k+1) h1
  refine ⟨(d',ds),new2++new',v::vals,by rw [List.append_assoc];exact h4,⟨hit,hit2⟩,fun u hu=>?_,fun dest w' o' hp hs=>⟨v,vals,rfl,hH dest w' o' hp fun u hu=>hs u (by simp [hu]),hH2 dest w' o' hp fun u hu=>hs u (by simp [hu])⟩,fun id es ms hm=>?_⟩
  rotate_left
  ·rcases List.mem_cons.1 hm with hm|hm
   ·subst hm
    have:=packLeaf_mv h
    have h5:=hdet st.mu (fun _ _ h=>h) (List Use) (fun _ u=>some u)
    have h6:some (new'++us)=some ([Use.mv id id]++us):=h5.symm.trans this
    simp only [Option.some.injEq] at h6
    simp [List.append_cancel_right h6]
   ·simp [hr2 id es ms hm]
  rcases List.mem_append.1 hu with hu|hu
  ·have:=hus2 u hu
   cases u with
   |mv id to =>
    obtain ⟨h5,i,x',es,ms,h6,h7,h8⟩:=this
    exact ⟨h5,i+1,x',es,ms,by simpa using h6,by rw [h7];congr 1;omega,h8⟩
   |pm id=>exact this
  ·have:=hus u hu
   cases u with
   |mv id to =>
    obtain ⟨h5,h6,es,ms,h7,h8⟩:=this
    exact ⟨h5,0,x,es,ms,rfl,h6,h7,h8⟩
   |pm id=>rcases this with h|h|⟨h,_⟩;exact .inl h;exact .inr (.inl h);exact absurd rfl h
end
end Go.Tm
/- The pure machine, 32: a state told anew. -/
namespace Go.Tm
open Go
section
variable {P:Program} {w:World} {g g':Gh} {mu mu0 muF:Mu} {tmps:Array Value}
theorem upd_same {α:Type} (f:Nat→α) (k:Nat) (v:α):upd f k v k=v:=by simp [upd,Nat.beq_refl]
theorem upd_ne {α:Type} (f:Nat→α) {k n:Nat} (v:α) (h:n≠k):upd f k v n=f n:=by
 have:Nat.beq n k=false:=Bool.eq_false_iff.2 fun e=>h (Nat.eq_of_beq_eq_true e)
 simp [upd,this]
def ItF (w:World) (g':Gh) (nx:Nat) (tmps:Array Value):Item→Value→Prop
 | .t n ty md,v=>v=tmps.getD n undef∧mdTy ty md=true
 | .b id j ty md,v=>id<nx*2048∧(∃b base,g'.c id= .box b base∧w.cell? ⟨b,base+j,none⟩=some v∧g'.o b (base+j)= .o [id])∧mdTy ty md=true
 | .r id _ _,v=>id<nx*2048∧g'.c id= .row v
def EnvOk (P:Program) (w:World) (g':Gh) (muF:Mu) (tmps:Array Value) (pend:List Item) (env:Nat→TV):Prop :=
 ∀n,(∀ty md,.t n ty md∉pend)→(env n).R P w g' muF (tmps.getD n undef)
def BlkOk (P:Program) (w:World) (g':Gh) (muF:Mu) (pend:List Item) (id:Nat) (b:Blk):Prop :=
 match b with
 | .box cs=>∃b base,g'.c id= .box b base∧∀j cv,cs[j]?=some cv→(∀ty md,.b id j ty md∉pend)→∃v,w.cell? ⟨b,base+j,none⟩=some v∧g'.o b (base+j)= .o [id]∧cv.R P w g' muF v
 |b=>b.R P w g' muF id
def MemOk (P:Program) (w:World) (g':Gh) (muF:Mu) (pend:List Item) (mu:Mu):Prop :=
 ∀id b,mu id=some b→(∀es ms,.r id es ms∉pend)→BlkOk P w g' muF pend id b
def ItSt (mu:Mu):Item→Prop
 | .t _ _ _=>True
 | .b id j _ _=>∃cs,mu id=some (.box cs)∧j<cs.length
 | .r id _ _=>∃es ms xs ver,mu id=some (.row es ms xs ver)
theorem unItem_t_sh {k:Nat} {s:St} {n:Nat} {ty:Ty} {d:ty.D}:unItem k s (.t n ty .sh) d={s with env:=upd s.env n (.c (ty.ro d))}:=rfl
theorem unItem_t_own {k:Nat} {s:St} {n:Nat} {es:Tys} {ms:List Md} (d:List es.D):unItem k s (.t n (.sl es) (.own ms)) d={s with env:=upd s.env n (.c (.own k)),mu:=upd s.mu k (some (.row es ms d 0))}:=rfl
theorem unItem_b_sh {k:Nat} {s:St} {id j:Nat} {ty:Ty} (d:ty.D) {cs:List CV} (h:s.mu id=some (.box cs)):unItem k s (.b id j ty .sh) d={s with mu:=upd s.mu id (some (.box (cs.set j (ty.ro d))))}:=by
 show (match s.mu id with|some (.box cs)=>({s with mu:=upd s.mu id (some (.box (cs.set j (ty.ro d))))}:St)|_=>s)=_
 rw [h]
theorem unItem_b_own {k:Nat} {s:St} {id j:Nat} {es:Tys} {ms:List Md} (d:List es.D) {cs:List CV} (h:s.mu id=some (.box cs)):unItem k s (.b id j (.sl es) (.own ms)) d={s with mu:=upd (upd s.mu id (some (.box (cs.set j (.own k))))) k (some (.row es ms d 0))}:=by
 show ({(match s.mu id with|some (.box cs)=>({s with mu:=upd s.mu id (some (.box (cs.set j (.own k))))}:St)|_=>s) with mu:=updL (match s.mu id with|some (.box cs)=>({s with mu:=upd s.mu id (some (.box (cs.set j (.own k))))}:St)|_=>s).mu [(k,.row es ms d 0)]}:St)=_
 rw [h]
 rfl
theorem unItem_r {k:Nat} {s:St} {id:Nat} {es:Tys} {ms:List Md} (d:List es.D) {es0:Tys} {ms0:List Md} {xs0:List es0.D} {ver:Nat} (h:s.mu id=some (.row es0 ms0 xs0 ver)):unItem k s (.r id es ms) d={s with mu:=upd s.mu id (some (.row es ms d (ver+1)))}:=by
 show (match s.mu id with|some (.row _ _ _ ver)=>({s with mu:=upd s.mu id (some (.row es ms d (ver+1)))}:St)|_=>s)=_
 rw [h]
theorem muOf {s s':St} {id:Nat} {b:Option Blk} (h:s=s') (h2:s'.mu id=b):s.mu id=b:=h▸h2
theorem unItem_mu {nx k:Nat} {s:St} {x:Item} {d:(itemTy x).D} {v:Value} (hit:ItF w g' nx tmps x v) (hst:ItSt s.mu x):∀id,((unItem (itemId nx k x) s x d).mu id=s.mu id) ∨
  (id=nx*2048+k∧∃es ms xs,(unItem (itemId nx k x) s x d).mu id=some (.row es ms xs 0))∨(∃j ty md cs cv,x= .b id j ty md∧s.mu id=some (.box cs)∧(unItem (itemId nx k x) s x d).mu id=some (.box (cs.set j cv))) ∨
  (∃es ms es0 ms0 xs0 xs ver,x= .r id es ms∧s.mu id=some (.row es0 ms0 xs0 ver)∧(unItem (itemId nx k x) s x d).mu id=some (.row es ms xs (ver+1))):=by
 intro id
 cases x with
 |t n ty md =>
  cases md with
  |sh=>exact .inl rfl
  |own ms =>
   obtain ⟨_,hty⟩:=hit
   cases ty<;>simp [mdTy] at hty
   case sl es =>
    by_cases e:id=nx*2048+k
    ·exact .inr (.inl ⟨e,es,ms,d,muOf (unItem_t_own (es:=es) d) (by subst e;exact upd_same _ _ _)⟩)
    ·exact .inl (muOf (unItem_t_own (es:=es) d) (upd_ne _ _ e))
 |b id' j ty md =>
  obtain ⟨hlt,_,hty⟩:=hit
  obtain ⟨cs,hcs,hj⟩:=hst
  cases md with
  |sh =>
   by_cases e:id=id'
   ·subst e;exact .inr (.inr (.inl ⟨j,ty,_,cs,_,rfl,hcs,muOf (unItem_b_sh (ty:=ty) d hcs) (upd_same _ _ _)⟩))
   ·exact .inl (muOf (unItem_b_sh (ty:=ty) d hcs) (upd_ne _ _ e))
  |own ms =>
   cases ty<;>simp [mdTy] at hty
   case sl es =>
    by_cases e:id=nx*2048+k
    ·exact .inr (.inl ⟨e,es,ms,d,muOf (unItem_b_own (es:=es) d hcs) (by subst e;exact upd_same _ _ _)⟩)
    ·by_cases e':id=id'
     ·subst e';exact .inr (.inr (.inl ⟨j,_,_,cs,_,rfl,hcs,muOf (unItem_b_own (es:=es) d hcs) ((upd_ne _ _ e).trans (upd_same _ _ _))⟩))
     ·exact .inl (muOf (unItem_b_own (es:=es) d hcs) ((upd_ne _ _ e).trans (upd_ne _ _ e')))
 |r id' es ms =>
  obtain ⟨es0,ms0,xs0,ver,h0⟩:=hst
  by_cases e:id=id'
  ·subst e;exact .inr (.inr (.inr ⟨es,ms,es0,ms0,xs0,_,ver,rfl,h0,muOf (unItem_r (es:=es) d h0) (upd_same _ _ _)⟩))
  ·exact .inl (muOf (unItem_r (es:=es) d h0) (upd_ne _ _ e))
theorem ItSt_keep {nx k:Nat} {s:St} {x y:Item} {d:(itemTy x).D} {v:Value} (hit:ItF w g' nx tmps x v) (hst:ItSt s.mu x) (hf:∀id,nx*2048+k≤id→s.mu id=none) (hy:ItSt s.mu y) :
  ItSt (unItem (itemId nx k x) s x d).mu y:=by
 cases y with
 |t=>trivial
 |b id j ty md =>
  obtain ⟨cs,hcs,hj⟩:=hy
  rcases unItem_mu (k:=k) (d:=d) hit hst id with h|⟨h,_⟩|⟨j',_,_,cs',cv,_,h1,h2⟩|⟨_,_,_,_,_,_,_,_,h1,_⟩
  ·exact ⟨cs,h.trans hcs,hj⟩
  ·rw [hf id (by omega)] at hcs;cases hcs
  ·rw [hcs] at h1;cases h1
   exact ⟨_,h2,by simpa using hj⟩
  ·rw [hcs] at h1;cases h1
 |r id es ms =>
  obtain ⟨es0,ms0,xs0,ver,h0⟩:=hy
  rcases unItem_mu (k:=k) (d:=d) hit hst id with h|⟨h,_⟩|⟨j',_,_,cs',cv,_,h1,h2⟩|⟨_,_,_,_,_,_,_,_,h1,h2⟩
  ·exact ⟨_,_,_,_,h.trans h0⟩
  ·rw [hf id (by omega)] at h0;cases h0
  ·rw [h0] at h1;cases h1
  ·exact ⟨_,_,_,_,h2⟩
theorem unItems_mu {nx:Nat}:∀(items:List Item) (k:Nat) {s:St} {d:(itemsTy items).D} {vals:List Value},All2 (ItF w g' nx tmps) items vals→(∀x∈items,ItSt s.mu x)→(∀id,nx*2048+k≤id→s.mu id=none) →
  (∀id,s.mu id≠none→(unItems nx items k s d).mu id≠none) ∧
  (∀id es ms xs ver,s.mu id≠none→(unItems nx items k s d).mu id=some (.row es ms xs ver)→((unItems nx items k s d).mu id=s.mu id∧∀es ms,.r id es ms∉items)∨∃es0 ms0 xs0 ver0,s.mu id=some (.row es0 ms0 xs0 ver0)∧ver0<ver) ∧
  (∀id,nx*2048+(k+items.length)≤id→(unItems nx items k s d).mu id=none) ∧
  (∀i x es ms,items[i]?=some x→itemTy x= .sl es→itemMd x= .own ms→(unItems nx items k s d).mu (itemId nx (k+i) x)≠none)
 | [],k,s,d,vals,hit,hst,hf=>⟨fun id h=>h,fun id es ms xs ver h h2=> .inl ⟨rfl,by simp⟩,fun id h=>hf id (by simpa using h),by simp⟩
 |x::r,k,s,d,[],hit,hst,hf=>hit.elim
 |x::r,k,s,d,v::vals,hit,hst,hf=>by
  have hx:=hst x (by simp)
  have hmu:=unItem_mu (k:=k) (d:=d.1) hit.1 hx
  have hf':∀id,nx*2048+(k+1)≤id→(unItem (itemId nx k x) s x d.1).mu id=none:=by
   intro id hid
   rcases hmu id with h|⟨h,_⟩|⟨j',_,_,cs',cv,_,h1,h2⟩|⟨_,_,_,_,_,_,_,_,h1,_⟩
   ·rw [h];exact hf id (by omega)
   ·omega
   ·rw [hf id (by omega)] at h1;cases h1
   ·rw [hf id (by omega)] at h1;cases h1
  have hdom:∀id,s.mu id≠none→(unItem (itemId nx k x) s x d.1).mu id≠none:=by
   intro id hid
   rcases hmu id with h|⟨h,_,_,_,h2⟩|⟨j',_,_,cs',cv,_,h1,h2⟩|⟨_,_,_,_,_,_,_,_,h1,h2⟩
   ·rw [h];exact hid
   ·rw [h2];simp
   ·rw [h2];simp
   ·rw [h2];simp
  obtain ⟨h1,h2,h3,h4⟩:=unItems_mu r (k+1) (s:=unItem (itemId nx k x) s x d.1) (d:=d.2) hit.2 (fun y hy=>ItSt_keep hit.1 hx hf (hst y (by simp [hy]))) hf'
  refine ⟨fun id hid=>h1 id (hdom id hid),fun id es ms xs ver hid hrow=>?_,fun id hid=>h3 id (by simp at hid ⊢;omega),fun i x' es ms hi h5 h6=>?_⟩
  ·have hrow:(unItems nx r (k+1) (unItem (itemId nx k x) s x d.1) d.2).mu id=some (.row es ms xs ver):=hrow
   rcases hmu id with h|⟨h,_⟩|⟨j',ty',md',cs',cv,hx',h5,h6⟩|⟨es',ms',es0,ms0,xs0,xs1,ver0,hx',h5,h6⟩
   ·rcases h2 id es ms xs ver (hdom id hid) hrow with ⟨h7,h8⟩|⟨es0,ms0,xs0,ver0,h7,h8⟩
    ·by_cases hr:∃es' ms',x= .r id es' ms'
     ·obtain ⟨es',ms',rfl⟩:=hr
      obtain ⟨es0,ms0,xs0,ver0,h0⟩:=hx
      have:=(muOf (unItem_r (k:=itemId nx k (.r id es' ms')) (es:=es') d.1 h0) (upd_same s.mu id (some (Blk.row es' ms' d.1 (ver0+1))))).symm.trans (h.trans h0)
      simp only [Option.some.injEq] at this
      have e:ver0+1=ver0:=by injection this
      omega
     ·refine .inl ⟨h7.trans h,fun es' ms' hm=>?_⟩
      rcases List.mem_cons.1 hm with e|hm
      ·exact hr ⟨_,_,e.symm⟩
      ·exact h8 _ _ hm
    ·right;exact ⟨es0,ms0,xs0,ver0,by rw [←h];exact h7,h8⟩
   ·rw [hf id (by omega)] at hid;exact absurd rfl hid
   ·rcases h2 id es ms xs ver (hdom id hid) hrow with ⟨h7,_⟩|⟨es0,ms0,xs0,ver0,h7,_⟩
    ·rw [hrow,h6] at h7;cases h7
    ·rw [h6] at h7;cases h7
   ·right
    rcases h2 id es ms xs ver (hdom id hid) hrow with ⟨h7,_⟩|⟨es2,ms2,xs2,ver2,h7,h8⟩
    ·rw [hrow,h6] at h7;cases h7
     exact ⟨_,_,_,ver0,h5,by omega⟩
    ·rw [h6] at h7;cases h7
     exact ⟨_,_,_,ver0,h5,by omega⟩
  ·cases i with
   |zero =>
    simp only [List.getElem?_cons_zero,Option.some.injEq] at hi
    subst hi
    refine h1 _ ?_
    cases x with
    |t n ty md =>
     cases (h5:ty= .sl es);cases (h6:md= .own ms)
     intro h
     have:=(muOf (unItem_t_own (k:=nx*2048+k) (s:=s) (n:=n) (es:=es) d.1) (upd_same _ _ _)).symm.trans h
     cases this
    |b id j ty md =>
     cases (h5:ty= .sl es);cases (h6:md= .own ms)
     obtain ⟨cs,hcs,_⟩:=hx
     intro h
     have:=(muOf (unItem_b_own (k:=nx*2048+k) (j:=j) (ms:=ms) (es:=es) d.1 hcs) (upd_same _ _ _)).symm.trans h
     cases this
    |r id es' ms' =>
     obtain ⟨es0,ms0,xs0,ver,h0⟩:=hx
     intro h
     have:=(muOf (unItem_r (k:=id) (ms:=ms') (es:=es') d.1 h0) (upd_same _ _ _)).symm.trans h
     cases this
   |succ i =>
    have:=h4 i x' es ms (by simpa using hi) h5 h6
    rw [show k+(i+1)=k+1+i by omega]
    exact this
end
end Go.Tm
/- The pure machine, 33: items told anew are what there is. -/
namespace Go.Tm
open Go
section
variable {P:Program} {w:World} {g g':Gh} {mu mu0 muF:Mu} {tmps:Array Value}
theorem BlkOk.less {pend pend':List Item} {id:Nat} {b:Blk} (h:BlkOk P w g' muF pend id b) (hs:∀j ty md,.b id j ty md∈pend→ .b id j ty md∈pend'):BlkOk P w g' muF pend' id b:=by
 cases b with
 |box cs =>
  obtain ⟨b,base,hc,h⟩:=h
  exact ⟨b,base,hc,fun j cv hj hn=>h j cv hj fun ty md hm=>hn ty md (hs j ty md hm)⟩
 |_=>exact h
theorem envOf {s s':St} {n:Nat} {v:TV} (h:s=s') (h2:s'.env n=v):s.env n=v:=h▸h2
theorem item_own_R {es:Tys} {ms:List Md} {k:Nat} {d:List es.D} {v:Value} (hH:(Ty.sl es).H P w g'.o (.own ms) (.o [k]) d v) (hk:muF k≠none) (hc:g'.c k= .row v):(CV.own k).R P w g' muF v:=by
 obtain ⟨a,c,hv,_⟩:=H_own.1 hH
 exact ⟨hk,hc,a,_,c,hv⟩
theorem box_set {r:List Item} {id j:Nat} {ty:Ty} {md:Md} {cs:List CV} {cv:CV} {v:Value} (hmem:BlkOk P w g' muF (.b id j ty md::r) id (.box cs))
  (hit:∃b base,g'.c id= .box b base∧w.cell? ⟨b,base+j,none⟩=some v∧g'.o b (base+j)= .o [id]) (hcv:cv.R P w g' muF v):BlkOk P w g' muF r id (.box (cs.set j cv)):=by
 obtain ⟨b,base,hc,h⟩:=hmem
 obtain ⟨b',base',hc',h1,h2⟩:=hit
 rw [hc] at hc';cases hc'
 refine ⟨b,base,hc,fun j' cv' hj' hn=>?_⟩
 by_cases e:j=j'
 ·subst e
  rw [List.getElem?_set] at hj'
  simp only [if_true] at hj'
  split at hj'
  ·cases hj';exact ⟨v,h1,h2,hcv⟩
  ·cases hj'
 ·rw [List.getElem?_set_ne e] at hj'
  refine h j' cv' hj' fun ty' md' hm=>?_
  rcases List.mem_cons.1 hm with hm|hm
  ·cases hm;exact e rfl
  ·exact hn _ _ hm
theorem unItems_ok {nx:Nat}:∀(items:List Item) (k:Nat) {s:St} {d:(itemsTy items).D} {vals:List Value},ItemsH P w g'.o nx (fun to=> .o [to]) items k d vals→All2 (ItF w g' nx tmps) items vals→(∀x∈items,ItSt s.mu x) →
  (∀id,nx*2048+k≤id→s.mu id=none)→(∀i v,vals[i]?=some v→g'.c (nx*2048+(k+i))= .row v)→muF=(unItems nx items k s d).mu→EnvOk P w g' muF tmps items s.env→MemOk P w g' muF items s.mu →
  EnvOk P w g' muF tmps [] (unItems nx items k s d).env∧MemOk P w g' muF [] (unItems nx items k s d).mu
 | [],k,s,d,vals,hH,hit,hst,hf,hc,hF,he,hm=>⟨he,hm⟩
 |x::r,k,s,d,[],hH,hit,hst,hf,hc,hF,he,hm=>hit.elim
 |x::r,k,s,d,v::vals,hH,hit,hst,hf,hc,hF,he,hm=>by
  obtain ⟨v',vals',e,hx,hr⟩:=hH
  simp only [List.cons.injEq] at e
  obtain ⟨rfl,rfl⟩:=e
  have hxs:=hst x (by simp)
  have hdomF:∀es ms,itemTy x= .sl es→itemMd x= .own ms→muF (itemId nx k x)≠none:=fun es ms h1 h2=>by
   have:=(unItems_mu (k:=k) (s:=s) (d:=d) (x::r) hit hst hf).2.2.2 0 x es ms rfl h1 h2
   rw [hF];exact this
  have hck:g'.c (nx*2048+k)= .row v:=by have:=hc 0 v rfl;simpa using this
  have hf':∀id,nx*2048+(k+1)≤id→(unItem (itemId nx k x) s x d.1).mu id=none:=by
   intro id hid
   rcases unItem_mu (k:=k) (d:=d.1) hit.1 hxs id with h|⟨h,_⟩|⟨j',_,_,cs',cv,_,h1,h2⟩|⟨_,_,_,_,_,_,_,_,h1,_⟩
   ·rw [h];exact hf id (by omega)
   ·omega
   ·rw [hf id (by omega)] at h1;cases h1
   ·rw [hf id (by omega)] at h1;cases h1
  have hnoneK:s.mu (nx*2048+k)=none:=hf _ (Nat.le_refl _)
  have both:EnvOk P w g' muF tmps r (unItem (itemId nx k x) s x d.1).env∧MemOk P w g' muF r (unItem (itemId nx k x) s x d.1).mu:=by
   cases x with
   |t m ty md =>
    obtain ⟨rfl,hty⟩:=hit.1
    cases md with
    |sh =>
     have heq:=unItem_t_sh (k:=nx*2048+k) (s:=s) (n:=m) (ty:=ty) (d:=d.1)
     refine ⟨fun n hn=>?_,fun id b hb hn=>?_⟩
     ·by_cases e:n=m
      ·subst e
       rw [show (unItem (itemId nx k (.t n ty .sh)) s (.t n ty .sh) d.1).env n= .c (ty.ro d.1) from envOf heq (upd_same _ _ _)]
       exact ro_R ty (H_q ty hx)
      ·rw [show (unItem (itemId nx k (.t m ty .sh)) s (.t m ty .sh) d.1).env n=s.env n from envOf heq (upd_ne _ _ e)]
       exact he n fun ty' md' hm=>by
        rcases List.mem_cons.1 hm with hm|hm
        ·cases hm;exact e rfl
        ·exact hn _ _ hm
     ·exact (hm id b hb fun es ms hmem=>by rcases List.mem_cons.1 hmem with h|h;cases h;exact hn _ _ h).less fun j ty' md' h=>by
       rcases List.mem_cons.1 h with h|h;cases h;exact h
    |own ms =>
     cases ty<;>simp [mdTy] at hty
     case sl es =>
      have heq:=unItem_t_own (k:=nx*2048+k) (s:=s) (n:=m) (es:=es) (ms:=ms) d.1
      refine ⟨fun n hn=>?_,fun id b hb hn=>?_⟩
      ·by_cases e:n=m
       ·subst e
        rw [show (unItem (itemId nx k (.t n (.sl es) (.own ms))) s (.t n (.sl es) (.own ms)) d.1).env n= .c (.own (nx*2048+k)) from envOf heq (upd_same _ _ _)]
        exact item_own_R (es:=es) (ms:=ms) (d:=d.1) hx (hdomF es ms rfl rfl) hck
       ·rw [show (unItem (itemId nx k (.t m (.sl es) (.own ms))) s (.t m (.sl es) (.own ms)) d.1).env n=s.env n from envOf heq (upd_ne _ _ e)]
        exact he n fun ty' md' hm=>by
         rcases List.mem_cons.1 hm with hm|hm
         ·cases hm;exact e rfl
         ·exact hn _ _ hm
      ·by_cases e:id=nx*2048+k
       ·subst e
        have:=(muOf heq (upd_same _ _ _)).symm.trans hb
        simp only [Option.some.injEq] at this
        subst this
        exact ⟨_,hck,hx⟩
       ·exact (hm id b ((muOf heq (upd_ne _ _ e)).symm.trans hb) fun es ms hmem=>by rcases List.mem_cons.1 hmem with h|h;cases h;exact hn _ _ h).less fun j ty' md' h=>by
         rcases List.mem_cons.1 h with h|h;cases h;exact h
   |b id0 j ty md =>
    obtain ⟨hlt,hcell,hty⟩:=hit.1
    obtain ⟨cs,hcs,hj⟩:=hxs
    have hbox:=hm id0 _ hcs fun es ms hmem=>by
     obtain ⟨_,_,_,_,h⟩:=hst _ hmem
     rw [hcs] at h;cases h
    cases md with
    |sh =>
     have heq:=unItem_b_sh (k:=nx*2048+k) (j:=j) (ty:=ty) d.1 hcs
     refine ⟨fun n hn=>?_,fun id b hb hn=>?_⟩
     ·rw [show (unItem (itemId nx k (.b id0 j ty .sh)) s (.b id0 j ty .sh) d.1).env n=s.env n from envOf heq rfl]
      exact he n fun ty' md' hm=>by
       rcases List.mem_cons.1 hm with hm|hm
       ·cases hm
       ·exact hn _ _ hm
     ·by_cases e:id=id0
      ·subst e
       have:=(muOf heq (upd_same _ _ _)).symm.trans hb
       simp only [Option.some.injEq] at this
       subst this
       exact box_set hbox hcell (ro_R ty (H_q ty hx))
      ·exact (hm id b ((muOf heq (upd_ne _ _ e)).symm.trans hb) fun es ms hmem=>by rcases List.mem_cons.1 hmem with h|h;cases h;exact hn _ _ h).less fun j ty' md' h=>by
        rcases List.mem_cons.1 h with h|h
        ·cases h;exact absurd rfl e
        ·exact h
    |own ms =>
     cases ty<;>simp [mdTy] at hty
     case sl es =>
      have heq:=unItem_b_own (k:=nx*2048+k) (j:=j) (ms:=ms) (es:=es) d.1 hcs
      refine ⟨fun n hn=>?_,fun id b hb hn=>?_⟩
      ·rw [show (unItem (itemId nx k (.b id0 j (.sl es) (.own ms))) s (.b id0 j (.sl es) (.own ms)) d.1).env n=s.env n from envOf heq rfl]
       exact he n fun ty' md' hm=>by
        rcases List.mem_cons.1 hm with hm|hm
        ·cases hm
        ·exact hn _ _ hm
      ·by_cases e:id=nx*2048+k
       ·subst e
        have:=(muOf heq (upd_same _ _ _)).symm.trans hb
        simp only [Option.some.injEq] at this
        subst this
        exact ⟨_,hck,hx⟩
       ·by_cases e':id=id0
        ·subst e'
         have:=(muOf heq ((upd_ne _ _ e).trans (upd_same _ _ _))).symm.trans hb
         simp only [Option.some.injEq] at this
         subst this
         exact box_set hbox hcell (item_own_R (es:=es) (ms:=ms) (d:=d.1) hx (hdomF es ms rfl rfl) hck)
        ·exact (hm id b ((muOf heq ((upd_ne _ _ e).trans (upd_ne _ _ e'))).symm.trans hb) fun es ms hmem=>by rcases List.mem_cons.1 hmem with h|h;cases h;exact hn _ _ h).less fun j ty' md' h=>by
          rcases List.mem_cons.1 h with h|h
          ·cases h;exact absurd rfl e'
          ·exact h
   |r id0 es ms =>
    obtain ⟨hlt,hrc⟩:=hit.1
    obtain ⟨es0,ms0,xs0,ver,h0⟩:=hxs
    have heq:=unItem_r (k:=itemId nx k (.r id0 es ms)) (ms:=ms) (es:=es) d.1 h0
    refine ⟨fun n hn=>?_,fun id b hb hn=>?_⟩
    ·rw [show (unItem (itemId nx k (.r id0 es ms)) s (.r id0 es ms) d.1).env n=s.env n from envOf heq rfl]
     exact he n fun ty' md' hm=>by
      rcases List.mem_cons.1 hm with hm|hm
      ·cases hm
      ·exact hn _ _ hm
    ·by_cases e:id=id0
     ·subst e
      have:=(muOf heq (upd_same _ _ _)).symm.trans hb
      simp only [Option.some.injEq] at this
      subst this
      exact ⟨_,hrc,hx⟩
     ·exact (hm id b ((muOf heq (upd_ne _ _ e)).symm.trans hb) fun es ms hmem=>by
       rcases List.mem_cons.1 hmem with h|h
       ·cases h;exact absurd rfl e
       ·exact hn _ _ h).less fun j ty' md' h=>by
        rcases List.mem_cons.1 h with h|h;cases h;exact h
  exact unItems_ok r (k+1) (s:=unItem (itemId nx k x) s x d.1) (d:=d.2) hr hit.2 (fun y hy=>ItSt_keep hit.1 hxs hf (hst y (by simp [hy]))) hf' (fun i u hi=>by
   have:=hc (i+1) u (by simpa using hi)
   rwa [show k+(i+1)=k+1+i by omega] at this) hF both.1 both.2
end
end Go.Tm
/- The pure machine, 34: a state told anew tells the world. -/
namespace Go.Tm
open Go
def muB (st0:St) (us0:List Use) (a:Ann):Mu:=updL (updL st0.mu (fzsI st0.mu us0)) (a.dead.map fun n=>(n,.dead))
structure Link (st0 st:St) (us0 us:List Use) (a:Ann):Prop where
 env:∀n,a.clear.any (Nat.beq n)=false→(∀ty md,.t n ty md∉a.items)→st.env n=st0.env n
 mem:∀id b,muB st0 us0 a id=some b→(∀es ms,.r id es ms∉a.items)→b= .dead ∨
  (∃cs cs',b= .box cs∧st0.mu id=some (.box cs)∧st.mu id=some (.box cs')∧∀j cv,cs[j]?=some cv→(∀ty md,.b id j ty md∉a.items)→cs'[j]?=some cv) ∨
  (st.mu id=some b∧(∀cs,b≠ .box cs)∧∀u∈us,useId u=id→∃es xs,b= .fz es xs) ∨
  (∃es xs ms ver,b= .fz es xs∧st.mu id=some (.row es ms xs ver)∧ .pm id∈us)
 dom:∀id,id<st0.nx*2048→st.mu id≠none→muB st0 us0 a id≠none
 rows:∀id es ms,.r id es ms∈a.items→muB st0 us0 a id=st0.mu id
 boxes:∀id j ty md,.b id j ty md∈a.items→muB st0 us0 a id=st0.mu id
 us0:∀u∈us0,st0.mu (useId u)≠none
theorem fzsI_mem {mu:Mu} {id:Nat} {b:Blk}:∀{us:List Use},(id,b)∈fzsI mu us→(b= .dead∨∃es ms xs ver,mu id=some (.row es ms xs ver)∧b= .fz es xs∧ .pm id∈us)∧∃u∈us,useId u=id∧∀to,u= .mv id to→id≠to
 | [],h=>by cases h
 |u::r,h=>by
  have tail:(id,b)∈fzsI mu r→(b= .dead∨∃es ms xs ver,mu id=some (.row es ms xs ver)∧b= .fz es xs∧ .pm id∈u::r)∧∃x∈u::r,useId x=id∧∀to,x= .mv id to→id≠to:=fun h=>by
   obtain ⟨h1,x,hx,h2⟩:=fzsI_mem h
   exact ⟨h1.imp (fun h=>h) (fun ⟨es,ms,xs,ver,h3,h4,h5⟩=>⟨es,ms,xs,ver,h3,h4,List.mem_cons_of_mem _ h5⟩),x,List.mem_cons_of_mem _ hx,h2⟩
  cases u with
  |mv id' to =>
   simp only [fzsI] at h
   rcases List.mem_append.1 h with h|h
   ·cases hb:Nat.beq id' to with
    |true=>simp [hb] at h
    |false =>
     simp only [hb,cond_false,List.mem_singleton,Prod.mk.injEq] at h
     obtain ⟨rfl,rfl⟩:=h
     exact ⟨.inl rfl,.mv id to,List.mem_cons_self,rfl,fun to' e=>by cases e;exact fun e=>by rw [e,Nat.beq_refl] at hb;cases hb⟩
   ·exact tail h
  |pm id' =>
   simp only [fzsI] at h
   rcases List.mem_append.1 h with h|h
   ·cases hm:mu id' with
    |none=>simp [hm] at h
    |some bl =>
     cases bl<;>simp only [hm] at h<;>try (cases h;done)
     case row es ms xs ver =>
      simp only [List.mem_singleton,Prod.mk.injEq] at h
      obtain ⟨rfl,rfl⟩:=h
      exact ⟨.inr ⟨es,ms,xs,ver,hm,rfl,List.mem_cons_self⟩,.pm id,List.mem_cons_self,rfl,fun to' e=>by cases e⟩
     case box cs =>
      simp only [List.mem_singleton,Prod.mk.injEq] at h
      obtain ⟨rfl,rfl⟩:=h
      exact ⟨.inl rfl,.pm id,List.mem_cons_self,rfl,fun to' e=>by cases e⟩
   ·exact tail h
theorem fzsI_of_mv {mu:Mu} {id to:Nat} (hne:id≠to):∀{us:List Use},.mv id to∈us→(id,.dead)∈fzsI mu us
 |u::r,h=>by
  rcases List.mem_cons.1 h with rfl|h
  ·have:Nat.beq id to=false:=Bool.eq_false_iff.2 fun e=>hne (Nat.eq_of_beq_eq_true e)
   simp [fzsI,this]
  ·have:=fzsI_of_mv (mu:=mu) hne h
   cases u<;>exact List.mem_append_right _ this
theorem fzsI_of_pm {mu:Mu} {id:Nat} {es:Tys} {ms:List Md} {xs:List es.D} {ver:Nat} (hm:mu id=some (.row es ms xs ver)):∀{us:List Use},.pm id∈us→(id,.fz es xs)∈fzsI mu us
 |u::r,h=>by
  rcases List.mem_cons.1 h with rfl|h
  ·simp [fzsI,hm]
  ·have:=fzsI_of_pm hm h
   cases u<;>exact List.mem_append_right _ this
theorem dead_mem {l:List Nat} {id:Nat} {b:Blk} (h:(id,b)∈l.map fun n=>(n,Blk.dead)):b= .dead∧id∈l:=by
 obtain ⟨n,hn,e⟩:=List.mem_map.1 h
 cases e;exact ⟨rfl,hn⟩
theorem muB_cases {st0:St} {us0:List Use} {a:Ann} {id:Nat} {b:Blk} (h:muB st0 us0 a id=some b) :
  (st0.mu id=some b∧id∉a.dead∧∀b',(id,b')∉fzsI st0.mu us0)∨(b= .dead∧id∈a.dead) ∨
  (id∉a.dead∧∃u∈us0,useId u=id∧(∀to,u= .mv id to→id≠to)∧(b= .dead∨∃es ms xs ver,st0.mu id=some (.row es ms xs ver)∧b= .fz es xs∧ .pm id∈us0)):=by
 rcases updL_cases h with h|⟨h2,h⟩
 ·exact .inr (.inl (dead_mem h))
 ·have hd:id∉a.dead:=fun hd=>h2 .dead (List.mem_map.2 ⟨id,hd,rfl⟩)
  rcases updL_cases h with h|⟨h3,h⟩
  ·obtain ⟨h1,u,hu,h4,h5⟩:=fzsI_mem h
   exact .inr (.inr ⟨hd,u,hu,h4,h5,h1⟩)
  ·exact .inl ⟨h,hd,h3⟩
def tellF (n:Nat) (us:List Use):Nat→List Nat→Own:=fun id s =>
 match findU id us with
 |some (.mv _ to)=> .o (to::s)
 |some (.pm _)=> .p
 |none=>if n≤id then .x else .o (id::s)
open Classical in
noncomputable def tellG (n:Nat) (us:List Use) (vals:List Value) (g:Gh):Gh :=
 ⟨fun b k=>re (tellF n us) (g.o b k),fun id=>if n≤id then .row (vals.getD (id - n) undef) else g.c id⟩
section
variable {P:Program} {w w0:World} {o0:Nat→Nat→Own} {g:Gh} {tmps:Array Value} {nt:Nat}
theorem tell_mv {n:Nat} {us:List Use} {id to:Nat} (hu:usesOk us=true) (h:Use.mv id to∈us) (s:List Nat):tellF n us id s= .o (to::s):=by simp [tellF,findU_mv hu h]
theorem tell_pm {n:Nat} {us:List Use} {id:Nat} (hu:usesOk us=true) (h:Use.pm id∈us) (s:List Nat):tellF n us id s= .p:=by simp [tellF,findU_pm hu h]
theorem tell_none {n:Nat} {us:List Use} {id:Nat} (h:∀u∈us,useId u≠id) (hl:id<n) (s:List Nat):tellF n us id s= .o (id::s):=by
 have:findU id us=none:=by
  cases e:findU id us with
  |none=>rfl
  |some u=>obtain ⟨h1,h2⟩:=findU_id e;exact absurd h1 (h u h2)
 simp [tellF,this];omega
theorem tell_perm {n:Nat} {us:List Use} {vals:List Value}:PermKeep w g.o w (tellG n us vals g).o:=fun b k v hv ho=>⟨hv,by simp [tellG,ho,re]⟩
theorem tell_served {n:Nat} {us:List Use} {vals:List Value} (hu:usesOk us=true):∀u∈us,Served (fun to=> .o [to]) w g.o w (tellG n us vals g).o u:=by
 intro u hm
 cases u with
 |mv id to=>exact .inl ⟨[to],rfl,fun b k s v hv ho=>⟨hv,by simp only [List.cons_append,List.nil_append] at ho ⊢;simp [tellG,ho,re,tell_mv hu hm]⟩⟩
 |pm id=>exact .inr ⟨rfl,fun b k s v hv ho=>⟨hv,by simp only [List.cons_append,List.nil_append] at ho ⊢;simp [tellG,ho,re,tell_pm hu hm]⟩⟩
theorem tell_keep {n:Nat} {us:List Use} {vals:List Value} {id:Nat} (h:∀u∈us,useId u≠id) (hl:id<n):Rl w g.o w (tellG n us vals g).o (.o [id]) (.o [id]) :=
 .inl ⟨[id],rfl,fun b k s v hv ho=>⟨hv,by simp only [List.cons_append,List.nil_append] at ho ⊢;simp [tellG,ho,re,tell_none h hl]⟩⟩
theorem tell_keep0 {n:Nat} {us:List Use} {vals:List Value} {id:Nat} (h:∀u∈us,useId u≠id) (hl:id<n) {b k:Nat} (ho:g.o b k= .o [id]):(tellG n us vals g).o b k= .o [id]:=by
 simp [tellG,ho,re,tell_none h hl]
theorem retell {st0 st:St} {a:Ann} {us0 us:List Use} {d:(itemsTy a.items).D} {vals:List Value} (hI:InSt st0) (hfr0:∀id,st0.nx*2048≤id→st0.mu id=none)
  (rel:Rel P nt w0 o0 st.env st.mu tmps w g) (hst:stOk st0 a=true) (hit:All2 (ItV P w g st tmps) a.items vals)
  (hus:∀u∈us,UsR st.mu (fun t=>∃i x es ms,a.items[i]?=some x∧t=itemId st0.nx (0+i) x∧itemTy x= .sl es∧itemMd x= .own ms) False u)
  (hH:∀(dest:Nat→Own) w' o',PermKeep w g.o w' o'→(∀u∈us,Served dest w g.o w' o' u)→ItemsH P w' o' st0.nx dest a.items 0 d vals)
  (huk:usesOk us=true) (L:Link st0 st us0 us a) :
  ∃g',Rel P nt w0 o0 (reState st0 us0 a d).env (reState st0 us0 a d).mu tmps w g'∧(∀id,id<st0.nx*2048→g'.c id=g.c id)∧(∀id,(st0.nx+1)*2048≤id→(reState st0 us0 a d).mu id=none) ∧
   (∀id,id<st0.nx*2048→st.mu id≠none→(reState st0 us0 a d).mu id≠none):=by
 have hst':=hst
 simp only [stOk,Bool.and_eq_true,List.all_eq_true] at hst'
 obtain ⟨⟨hitems,hdead⟩,hlen⟩:=hst'
 have hlen:=Nat.le_of_ble_eq_true hlen
 have hlt0:∀id,st0.mu id≠none→id<st0.nx*2048:=fun id h=>by
  rcases Nat.lt_or_ge id (st0.nx*2048) with h'|h'
  ·exact h'
  ·exact absurd (hfr0 id h') h
 have hdlt:∀id∈a.dead,id<st0.nx*2048:=fun id h=>by simpa [Nat.blt_eq] using hdead id h
 have hBlt:∀id b,muB st0 us0 a id=some b→id<st0.nx*2048:=fun id b h=>by
  rcases muB_cases h with ⟨h,_⟩|⟨_,h⟩|⟨_,u,hu,e,_⟩
  ·exact hlt0 id (by simp [h])
  ·exact hdlt id h
  ·exact hlt0 id (e▸L.us0 u hu)
 have hBsome:∀id,st0.mu id≠none→muB st0 us0 a id≠none:=fun id h=>updL_some (updL_some h)
 have hBfresh:∀id,st0.nx*2048+0≤id→muB st0 us0 a id=none:=fun id h=>by
  cases e:muB st0 us0 a id with
  |none=>rfl
  |some b=>have:=hBlt id b e;omega
 let n:=st0.nx*2048
 let g':=tellG n us vals g
 let s:St:={env:=fun n=>bif a.clear.any (Nat.beq n) then .un else st0.env n,mu:=muB st0 us0 a,nx:=st0.nx+1,tw:=a.items.flatMap itemTw++(a.clear++st0.tw),mw:=a.items.flatMap itemMw++(us0.map (fun u=> .all (useId u))++(a.dead.map .all++st0.mw))}
 have hS:reState st0 us0 a d=unItems st0.nx a.items 0 s d:=rfl
 have hgc:∀id,id<n→g'.c id=g.c id:=fun id h=>if_neg (Nat.not_le.2 h)
 have hItSt:∀x∈a.items,ItSt s.mu x:=by
  intro x hx
  have h:=hitems x hx
  cases x with
  |t=>trivial
  |b id j ty md =>
   have e:s.mu id=st0.mu id:=L.boxes id j ty md hx
   simp only [Bool.and_eq_true] at h
   have h:=h.2
   split at h
   ·rename_i cs hcs
    simp only [Bool.and_eq_true] at h
    exact ⟨cs,e.trans hcs,by simpa [Nat.blt_eq] using h.1⟩
   ·cases h
  |r id es ms =>
   have e:s.mu id=st0.mu id:=L.rows id es ms hx
   dsimp only at h
   split at h
   ·rename_i es0 ms0 xs0 ver hr;exact ⟨es0,ms0,xs0,ver,e.trans hr⟩
   ·cases h
 have hunused:∀id,(∃cs,st.mu id=some (.box cs))→∀u∈us,useId u≠id:=by
  rintro id ⟨cs,hcs⟩ u hu e
  have:=hus u hu
  cases u with
  |mv id' to=>cases (e:id'=id);obtain ⟨⟨es,ms,xs,ver,h⟩,_⟩:=this;cases h.symm.trans hcs
  |pm id' =>
   cases (e:id'=id)
   rcases this with ⟨es,ms,xs,ver,h⟩|⟨es,xs,h⟩|⟨h,_⟩
   ·cases h.symm.trans hcs
   ·cases h.symm.trans hcs
   ·exact h
 have hItF:All2 (ItF w g' st0.nx tmps) a.items vals:=by
  have key:∀(items:List Item) (vals:List Value),(∀x∈items,x∈a.items)→All2 (ItV P w g st tmps) items vals→All2 (ItF w g' st0.nx tmps) items vals:=by
   intro items
   induction items with
   |nil=>intro vals _ h;cases vs:vals<;>simp_all [All2]
   |cons x r ih =>
    intro vals hsub h
    cases vals with
    |nil=>exact h.elim
    |cons v vals =>
     refine ⟨?_,ih vals (fun y hy=>hsub y (by simp [hy])) h.2⟩
     have hx:=hsub x (by simp)
     have ho:=hitems x hx
     have hv:=h.1
     cases x with
     |t m ty md=>exact ⟨hv,ho⟩
     |b id j ty md =>
      obtain ⟨cs,b,base,hcs,hc,hcell,hown⟩:=hv
      obtain ⟨cs0,hcs0,_⟩:=hItSt _ hx
      have hlt:id<n:=hBlt id _ hcs0
      simp only [Bool.and_eq_true] at ho
      exact ⟨hlt,⟨b,base,(hgc id hlt).trans hc,hcell,tell_keep0 (hunused id ⟨cs,hcs⟩) hlt hown⟩,ho.1⟩
     |r id es ms =>
      obtain ⟨hc,_⟩:=hv
      obtain ⟨_,_,_,_,hr0⟩:=hItSt _ hx
      have hlt:id<n:=hBlt id _ hr0
      exact ⟨hlt,(hgc id hlt).trans hc⟩
  exact key a.items vals (fun _ h=>h) hit
 have hmu:=unItems_mu (g':=g') (w:=w) (tmps:=tmps) (nx:=st0.nx) a.items 0 (s:=s) (d:=d) hItF hItSt hBfresh
 have hperm:PermKeep w g.o w g'.o:=tell_perm
 have hserved:∀u∈us,Served (fun to=> .o [to]) w g.o w g'.o u:=tell_served huk
 have hDom:∀id,st0.mu id≠none→(reState st0 us0 a d).mu id≠none:=fun id h=>hmu.1 id (hBsome id h)
 have hT:Tell w g st.mu st0.mu g' (reState st0 us0 a d).mu:=by
  refine ⟨hperm,rel.wf,fun id h=>⟨hDom id h,hgc id (hlt0 id h)⟩,fun id es ms xs ver' h hrow=>?_⟩
  rcases hmu.2.1 id es ms xs ver' (hBsome id h) hrow with ⟨h1,h2⟩|⟨es0,ms0,xs0,ver0,h1,h2⟩
  ·right
   have hrow':muB st0 us0 a id=some (.row es ms xs ver'):=h1.symm.trans hrow
   rcases L.mem id _ hrow' h2 with h3|⟨_,_,h3,_⟩|⟨h3,_,h4⟩|⟨_,_,_,_,h3,_⟩
   ·cases h3
   ·cases h3
   ·refine ⟨h3.trans hrow.symm,fun b k ho=>tell_keep0 (fun u hu e=>?_) (hlt0 id h) ho⟩
    obtain ⟨_,_,h5⟩:=h4 u hu e
    cases h5
   ·cases h3
  ·left
   have h1:muB st0 us0 a id=some (.row es0 ms0 xs0 ver0):=h1
   rcases muB_cases h1 with ⟨h1,_⟩|⟨h1,_⟩|⟨_,_,_,_,_,h1|⟨_,_,_,_,_,h1,_⟩⟩
   ·exact ⟨_,_,_,_,h1,h2⟩
   ·cases h1
   ·cases h1
   ·cases h1
 have hEnv:EnvOk P w g' (reState st0 us0 a d).mu tmps a.items s.env:=by
  intro m hm
  show TV.R P w g' _ (bif a.clear.any (Nat.beq m) then .un else st0.env m) _
  cases hc:a.clear.any (Nat.beq m) with
  |true=>trivial
  |false =>
   have:=rel.env m
   rw [L.env m hc hm] at this
   exact TV.told hT (hI.env m) this
 have hMem:MemOk P w g' (reState st0 us0 a d).mu a.items s.mu:=by
  intro id b hb hr
  have hlt:id<n:=hBlt id b hb
  rcases L.mem id b hb hr with rfl|⟨cs,cs',rfl,h1,h2,h3⟩|⟨h1,h2,h3⟩|⟨es,xs,ms,ver,rfl,h1,h2⟩
  ·trivial
  ·obtain ⟨b,base,hc,hcell⟩:=rel.mem id _ h2
   refine ⟨b,base,(hgc id hlt).trans hc,fun j cv hj hn=>?_⟩
   obtain ⟨v,h4,h5,h6⟩:=hcell j cv (h3 j cv hj hn)
   exact ⟨v,h4,tell_keep0 (hunused id ⟨cs',h2⟩) hlt h5,CV.told hT (hI.box id cs cv h1 (List.mem_of_getElem? hj)) h6⟩
  ·have hbr:=rel.mem id b h1
   cases b with
   |box cs=>exact absurd rfl (h2 cs)
   |dead=>trivial
   |rbox es x =>
    obtain ⟨b,base,hc,hr⟩:=hbr
    exact ⟨b,base,(hgc id hlt).trans hc,Hs_re hperm rel.wf es [] .p .p (fun _=> .p) (fun _=> .p) 0 x b base rfl (fun _=>rfl) hr⟩
   |row es ms xs ver =>
    obtain ⟨v,hc,hr⟩:=hbr
    exact ⟨v,(hgc id hlt).trans hc,H_re hperm rel.wf (.sl es) (.own ms) _ _ xs v (tell_keep (fun u hu e=>by obtain ⟨_,_,h⟩:=h3 u hu e;cases h) hlt) hr⟩
   |fz es xs =>
    obtain ⟨v,hc,hr⟩:=hbr
    exact ⟨v,(hgc id hlt).trans hc,H_re hperm rel.wf (.sl es) .sh .p .p xs v rfl hr⟩
  ·obtain ⟨v,hc,hr⟩:=rel.mem id _ h1
   exact ⟨v,(hgc id hlt).trans hc,H_q _ (H_md _ _ .sh _ _ (H_re hperm rel.wf (.sl es) (.own ms) (.o [id]) .p xs v (hserved (.pm id) h2) hr))⟩
 have hvals:vals.length=a.items.length:=(All2.length hItF).symm
 obtain ⟨hE,hM⟩:=unItems_ok (g':=g') (muF:=(reState st0 us0 a d).mu) a.items 0 (s:=s) (d:=d) (hH _ w g'.o hperm hserved) hItF hItSt hBfresh (fun i v hi=>by
   have h1:i<vals.length:=by
    rcases Nat.lt_or_ge i vals.length with h|h
    ·exact h
    ·simp [List.getElem?_eq_none h] at hi
   show (if n≤st0.nx*2048+(0+i) then Conc.row (vals.getD (st0.nx*2048+(0+i) - n) undef) else _)=_
   rw [if_pos (by show st0.nx*2048≤_;omega),show st0.nx*2048+(0+i) - n=i by show _ - st0.nx*2048=_;omega]
   simp [List.getD,hi]) rfl hEnv hMem
 have hdom2:∀id,id<n→st.mu id≠none→(reState st0 us0 a d).mu id≠none:=fun id h1 h2=>hmu.1 id (L.dom id h1 h2)
 have hfne:∀id s,tellF n us id s≠ .o []:=by
  intro id s
  unfold tellF
  split
  ·simp
  ·simp
  ·split<;>simp
 refine ⟨g',⟨rel.sz,fun t=>hE t (by simp),fun id b hb=>?_,⟨fun b k π h=>?_,fun b k=>re_ne hfne⟩,fun b k id l h=>?_,rel.fr.trans rel.wf ?_⟩,hgc,fun id hid=>?_,hdom2⟩
 ·have:=hM id b hb (by simp)
  cases b with
  |box cs =>
   obtain ⟨b,base,hc,h⟩:=this
   exact ⟨b,base,hc,fun j cv hj=>h j cv hj (by simp)⟩
  |_=>exact this
 ·obtain ⟨id,s,hq,_⟩:=re_o h
  exact rel.wf.cell b k _ hq
 ·obtain ⟨id',s,hq,hfe⟩:=re_o h
  have hthere:=rel.own b k id' s hq
  unfold tellF at hfe
  split at hfe
  ·rename_i id'' to e
   simp only [Own.o.injEq,List.cons.injEq] at hfe
   obtain ⟨h1,h2⟩:=findU_id e
   obtain ⟨_,i,x,es,ms,h3,h4,h5,h6⟩:=hus _ h2
   have:=hmu.2.2.2 i x es ms h3 h5 h6
   rw [←hfe.1,h4]
   exact this
  ·cases hfe
  ·split at hfe
   ·cases hfe
   ·rename_i hlt
    simp only [Own.o.injEq,List.cons.injEq] at hfe
    rw [←hfe.1]
    exact hdom2 id' (by omega) hthere
 ·refine ⟨rfl,rfl,rfl,Nat.le_refl _,fun _ _ _=>rfl,fun b k v hv hn=>⟨hv,?_⟩,fun b k v hv=>⟨v,hv⟩,fun _ _ _=>rfl⟩
  show re (tellF n us) (g.o b k)=_
  cases hq:g.o b k with
  |x=>rfl
  |p=>rfl
  |o π=>exact absurd hq (hn π)
 ·exact hmu.2.2.1 id (by omega)
end
end Go.Tm
/- The pure machine, 35: what a piece has written, and how the state behind it hangs together with the one ahead. -/
namespace Go.Tm
open Go
def Wr.hits:Wr→Nat→Nat→Prop
 | .all i,id,_=>i=id
 | .cell i off n,id,j=>i=id∧off≤j∧j<off+n
def WrOk (mw:List Wr) (id:Nat) (b b':Option Blk):Prop :=
 b'=b∨ .all id∈mw∨∃cs cs',b=some (.box cs)∧b'=some (.box cs')∧∀j,(∀wr∈mw,¬wr.hits id j)→cs'[j]?=cs[j]?
theorem WrOk.trans {m1 m2:List Wr} {id:Nat} {a b c:Option Blk} (h:WrOk m1 id a b) (k:WrOk m2 id b c):WrOk (m2++m1) id a c:=by
 rcases h with rfl|h|⟨cs,cs',rfl,rfl,h⟩
 ·rcases k with k|k|⟨cs,cs',h1,h2,k⟩
  ·exact .inl k
  ·exact .inr (.inl (List.mem_append_left _ k))
  ·exact .inr (.inr ⟨cs,cs',h1,h2,fun j hj=>k j fun wr hw=>hj wr (List.mem_append_left _ hw)⟩)
 ·exact .inr (.inl (List.mem_append_right _ h))
 ·rcases k with rfl|k|⟨c1,c2,h1,h2,k⟩
  ·exact .inr (.inr ⟨cs,cs',rfl,rfl,fun j hj=>h j fun wr hw=>hj wr (List.mem_append_right _ hw)⟩)
  ·exact .inr (.inl (List.mem_append_left _ k))
  ·cases h1
   exact .inr (.inr ⟨cs,c2,rfl,h2,fun j hj=>(k j fun wr hw=>hj wr (List.mem_append_left _ hw)).trans (h j fun wr hw=>hj wr (List.mem_append_right _ hw))⟩)
theorem WrOk.refl {m:List Wr} {id:Nat} {a:Option Blk}:WrOk m id a a:= .inl rfl
structure Bas (e:Nat→TV) (m:Mu) (N:Nat) (st:St):Prop where
 env:∀n,n∉st.tw→st.env n=e n
 mem:∀id,id<N→WrOk st.mw id (m id) (st.mu id)
 nx:N≤st.nx*2048
theorem Bas.start {st:St}:Bas st.env st.mu (st.nx*2048) {st with tw:= [],mw:= []}:=⟨fun _ _=>rfl,fun _ _=> .refl,Nat.le_refl _⟩
theorem Bas.trans {e:Nat→TV} {m:Mu} {N:Nat} {st st':St} (h:Bas e m N st) (k:Bas st.env st.mu (st.nx*2048) st'):Bas e m N {st' with tw:=st'.tw++st.tw,mw:=st'.mw++st.mw} where
 env n hn:=by
  simp only [List.mem_append,not_or] at hn
  exact (k.env n hn.1).trans (h.env n hn.2)
 mem id hid:=(h.mem id hid).trans (k.mem id (Nat.lt_of_lt_of_le hid h.nx))
 nx:=Nat.le_trans h.nx k.nx
def PutOk (mu:Mu) (ms:List (Nat×Blk)) (wr:List Wr):Prop:=∀id,WrOk wr id (mu id) (updL mu ms id)
theorem PutOk.all (mu:Mu) (ms:List (Nat×Blk)):PutOk mu ms (ms.map fun x=> .all x.1):=by
 intro id
 by_cases h:∃b,(id,b)∈ms
 ·obtain ⟨b,h⟩:=h
  exact .inr (.inl (List.mem_map.2 ⟨_,h,rfl⟩))
 ·exact .inl (updL_none fun b hb=>h ⟨b,hb⟩)
theorem PutOk.nil (mu:Mu):PutOk mu [] []:=fun _=> .refl
theorem Bas.put {e:Nat→TV} {m:Mu} {N:Nat} {st:St} (h:Bas e m N st) {dst:Option Nat} {v:TV} {ms:List (Nat×Blk)} {wr:List Wr} (hp:PutOk st.mu ms wr):Bas e m N (st.put dst v ms wr) where
 env n hn:=by
  cases dst with
  |none=>exact h.env n hn
  |some d =>
   simp only [St.put,List.mem_cons,not_or] at hn
   exact (upd_ne _ _ hn.1).trans (h.env n hn.2)
 mem id hid:=(h.mem id hid).trans (hp id)
 nx:=h.nx
theorem fillCV_get2:∀(vs cells:List CV) (off j:Nat),(j<off∨off+vs.length≤j)→(fillCV cells off vs)[j]?=cells[j]?
 | [],_,_,_,_=>rfl
 |v::vs,cells,off,j,h=>by
  simp only [fillCV]
  simp only [List.length_cons] at h
  rw [fillCV_get2 vs _ (off+1) j (by omega),List.getElem?_set_ne (by omega)]
open Classical in
theorem opU_put {C:Ctx} {env:Nat→TV} {mu:Mu} {idb rid i:Nat} {o:Oper} {R:Type} {K:TV→List (Nat×Blk)→Option R} {y:R} (h:opU C env mu idb rid i o K=some y) :
  opU C env mu idb rid i o (fun v ms=>if PutOk mu ms (wrOf env o ms) then K v ms else none)=some y:=by
 by_cases hs:∀ms,wrOf env o ms=ms.map fun x=> .all x.1
 ·have:(fun v ms=>if PutOk mu ms (wrOf env o ms) then K v ms else none)=K:=by
   funext v ms
   rw [if_pos (by rw [hs ms];exact PutOk.all mu ms)]
  rw [this];exact h
 ·cases hop:o.op<;>(try (refine absurd ?_ hs;intro ms;simp [wrOf,hop];done))
  case store t x v =>
   simp only [opU,hop] at h ⊢
   cases ht:C.ty t with
   |none=>simp [ht] at h
   |some ti =>
    cases hx:evalTV env x<;>simp only [ht,hx] at h ⊢ <;>try (cases h;done)
    case c cv =>
     cases hv:cellsOf (evalTV env v) with
     |none=>simp [hv] at h
     |some vs =>
      simp only [hv] at h ⊢
      cases cv<;>(try (refine absurd ?_ hs;intro ms;simp [wrOf,hop,hx,hv];done))
      case ptr id off =>
       cases hlen:Nat.beq vs.length ti.size with
       |false=>simp [hlen] at h
       |true =>
        simp only [hlen,cond_true] at h ⊢
        cases hsite:(C.site rid i).isEmpty with
        |false =>
         simp only [hsite,cond_false] at h ⊢
         cases off with
         |succ n=>simp [freezeU] at h
         |zero =>
          simp only [freezeU] at h ⊢
          cases hb:mu id with
          |none=>simp [hb] at h
          |some b =>
           cases b<;>simp only [hb] at h ⊢ <;>try (cases h;done)
           case box cs =>
            cases hle:Nat.beq vs.length cs.length with
            |false=>simp [hle] at h
            |true =>
             simp only [hle,cond_true] at h ⊢
             cases hp:packs (R:=(C.es t).D×List Use) app0 (updL mu [(id,.box vs)]) (C.es t) [] 0 vs [] packEnd with
             |none=>rw [hp] at h;cases h
             |some p =>
              obtain ⟨xd,us⟩:=p
              rw [hp] at h
              simp only [Option.bind_some] at h ⊢
              cases us with
              |cons _ _=>cases h
              |nil =>
               dsimp only at h ⊢
               rw [if_pos,h]
               have e:wrOf env o [(id,Blk.box vs),(id,Blk.rbox (C.es t) xd)]= [(id,Blk.box vs),(id,Blk.rbox (C.es t) xd)].map (fun x=> .all x.1):=by simp [wrOf,hop,hx,hv]
               rw [e]
               exact PutOk.all mu _
        |true =>
         simp only [hsite,cond_true,storeU] at h ⊢
         cases hb:mu id with
         |none=>simp [hb] at h
         |some b =>
          cases b<;>simp only [hb] at h ⊢ <;>try (cases h;done)
          case box cs =>
           cases hle:Nat.ble (off+vs.length) cs.length with
           |false=>simp [hle] at h
           |true =>
            simp only [hle,cond_true] at h ⊢
            rw [if_pos,h]
            intro id'
            by_cases e:id'=id
            ·subst e
             refine .inr (.inr ⟨cs,fillCV cs off vs,hb,by simp [updL,upd,Nat.beq_refl],fun j hj=>fillCV_get2 _ _ _ _ ?_⟩)
             have:=hj (.cell id' off vs.length) (by simp [wrOf,hop,hx,hv])
             simp only [Wr.hits,true_and,not_and] at this
             omega
            ·exact .inl (by simp only [updL];exact upd_ne _ _ e)
end Go.Tm
/- The pure machine, 36: links. -/
namespace Go.Tm
open Go
theorem unItem_flds {k:Nat} {s:St} {x:Item} {d:(itemTy x).D}:(unItem k s x d).tw=s.tw∧(unItem k s x d).mw=s.mw∧(unItem k s x d).nx=s.nx:=by
 cases x with
 |t n ty md=>cases md<;>exact ⟨rfl,rfl,rfl⟩
 |b id j ty md =>
  cases hb:s.mu id with
  |none=>cases md<;>(refine ⟨?_,?_,?_⟩<;>simp only [unItem,hb])
  |some b=>cases b<;>cases md<;>(refine ⟨?_,?_,?_⟩<;>simp only [unItem,hb])
 |r id es ms =>
  cases hb:s.mu id with
  |none=>refine ⟨?_,?_,?_⟩<;>simp only [unItem,hb]
  |some b=>cases b<;>(refine ⟨?_,?_,?_⟩<;>simp only [unItem,hb])
theorem unItem_env {k:Nat} {s:St} {x:Item} {d:(itemTy x).D} {n:Nat} (h:∀ty md,x≠ .t n ty md):(unItem k s x d).env n=s.env n:=by
 cases x with
 |t m ty md =>
  have hne:n≠m:=fun e=>h ty md (by rw [e])
  cases md<;>exact upd_ne _ _ hne
 |b id j ty md =>
  cases hb:s.mu id with
  |none=>cases md<;>(simp only [unItem,hb])
  |some b=>cases b<;>cases md<;>(simp only [unItem,hb])
 |r id es ms =>
  cases hb:s.mu id with
  |none=>simp only [unItem,hb]
  |some b=>cases b<;>(simp only [unItem,hb])
theorem outRow_id {ty:Ty} {md:Md} {k:Nat} {d:ty.D} {id:Nat} {b:Blk} (h:(id,b)∈outRow ty md k d):id=k:=by
 cases md with
 |sh=>cases h
 |own ms =>
  cases ty<;>simp only [outRow] at h<;>try (cases h;done)
  case sl es=>simp only [List.mem_singleton,Prod.mk.injEq] at h;exact h.1
theorem unItem_wr {nx k:Nat} {s:St} {x:Item} {d:(itemTy x).D} {id:Nat} (hid:id<nx*2048):WrOk (itemMw x) id (s.mu id) ((unItem (itemId nx k x) s x d).mu id):=by
 cases x with
 |t n ty md =>
  left
  cases md with
  |sh=>rfl
  |own ms =>
   show updL s.mu (outRow ty (.own ms) (nx*2048+k) d) id=_
   exact updL_none fun b hb=>by have:=outRow_id hb;omega
 |b id0 j ty md =>
  have box:∀(cs:List CV) (cv:CV),s.mu id0=some (.box cs)→WrOk [.cell id0 j 1] id (s.mu id) (upd s.mu id0 (some (.box (cs.set j cv))) id):=by
   intro cs cv hb
   by_cases e:id=id0
   ·subst e
    refine .inr (.inr ⟨cs,cs.set j cv,hb,upd_same _ _ _,fun j' hj=>?_⟩)
    have:=hj (.cell id j 1) (by simp)
    simp only [Wr.hits,true_and,not_and] at this
    exact List.getElem?_set_ne (by omega)
   ·exact .inl (upd_ne _ _ e)
  cases hb:s.mu id0 with
  |none =>
   left
   cases md with
   |sh=>simp only [unItem,hb]
   |own ms =>
    simp only [unItem,hb]
    exact updL_none fun b hb=>by have:=outRow_id hb;simp only [itemId] at this;omega
  |some b =>
   cases b with
   |box cs =>
    cases md with
    |sh =>
     have:=box cs (ty.ro d) hb
     rw [show (unItem (itemId nx k (.b id0 j ty .sh)) s (.b id0 j ty .sh) d).mu id=upd s.mu id0 (some (.box (cs.set j (ty.ro d)))) id from muOf (unItem_b_sh (ty:=ty) d hb) rfl]
     exact this
    |own ms =>
     have:=box cs (.own (nx*2048+k)) hb
     have e:(unItem (itemId nx k (.b id0 j ty (.own ms))) s (.b id0 j ty (.own ms)) d).mu id=upd s.mu id0 (some (.box (cs.set j (.own (nx*2048+k))))) id:=by
      simp only [unItem,hb]
      exact updL_none fun b hb=>by have:=outRow_id hb;simp only [itemId] at this;omega
     rw [e];exact this
   |_ =>
    left
    cases md with
    |sh=>simp only [unItem,hb]
    |own ms =>
     simp only [unItem,hb]
     exact updL_none fun b hb=>by have:=outRow_id hb;simp only [itemId] at this;omega
 |r id0 es ms =>
  by_cases e:id=id0
  ·subst e;exact .inr (.inl (by simp [itemMw]))
  ·left
   cases hb:s.mu id0 with
   |none=>simp only [unItem,hb]
   |some b=>cases b<;>simp only [unItem,hb]<;>exact upd_ne _ _ e
theorem unItems_flds {nx:Nat}:∀(items:List Item) (k:Nat) {s:St} {d:(itemsTy items).D},
  (unItems nx items k s d).tw=s.tw∧(unItems nx items k s d).mw=s.mw∧(unItems nx items k s d).nx=s.nx ∧
  (∀n,(∀ty md,.t n ty md∉items)→(unItems nx items k s d).env n=s.env n)∧(∀id,id<nx*2048→WrOk (items.flatMap itemMw) id (s.mu id) ((unItems nx items k s d).mu id))
 | [],k,s,d=>⟨rfl,rfl,rfl,fun _ _=>rfl,fun _ _=> .refl⟩
 |x::r,k,s,d=>by
  obtain ⟨h1,h2,h3,h4,h5⟩:=unItems_flds (nx:=nx) r (k+1) (s:=unItem (itemId nx k x) s x d.1) (d:=d.2)
  obtain ⟨k1,k2,k3⟩:=unItem_flds (k:=itemId nx k x) (s:=s) (x:=x) (d:=d.1)
  refine ⟨h1.trans k1,h2.trans k2,h3.trans k3,fun n hn=>(h4 n fun ty md hm=>hn ty md (by simp [hm])).trans (unItem_env fun ty md e=>hn ty md (by simp [e])),fun id hid=>?_⟩
  have h6:=(unItem_wr (k:=k) (s:=s) (x:=x) (d:=d.1) hid).trans (h5 id hid)
  rcases h6 with h6|h6|⟨cs,cs',h6,h7,h8⟩
  ·exact .inl h6
  ·exact .inr (.inl (by simp only [List.flatMap_cons,List.mem_append] at h6 ⊢;exact h6.symm))
  ·exact .inr (.inr ⟨cs,cs',h6,h7,fun j hj=>h8 j fun wr hw=>hj wr (by simp only [List.flatMap_cons,List.mem_append] at hw ⊢;exact hw.symm)⟩)
theorem muB_wr {st0:St} {us0:List Use} {a:Ann} {id:Nat}:WrOk (us0.map (fun u=> .all (useId u))++a.dead.map .all) id (st0.mu id) (muB st0 us0 a id):=by
 by_cases hd:id∈a.dead
 ·exact .inr (.inl (List.mem_append_right _ (List.mem_map.2 ⟨id,hd,rfl⟩)))
 ·have e1:muB st0 us0 a id=updL st0.mu (fzsI st0.mu us0) id:=updL_none fun b hb=>hd (dead_mem hb).2
  by_cases hu:∃b,(id,b)∈fzsI st0.mu us0
  ·obtain ⟨b,hb⟩:=hu
   obtain ⟨_,u,hu,e,_⟩:=fzsI_mem hb
   exact .inr (.inl (List.mem_append_left _ (List.mem_map.2 ⟨u,hu,by rw [e]⟩)))
  ·exact .inl (e1.trans (updL_none fun b hb=>hu ⟨b,hb⟩))
theorem Bas.reState {e:Nat→TV} {m:Mu} {N:Nat} {st:St} (h:Bas e m N st) {us:List Use} {a:Ann} {d:(itemsTy a.items).D}:Bas e m N (reState st us a d):=by
 let s:St:={env:=fun n=>bif a.clear.any (Nat.beq n) then .un else st.env n,mu:=muB st us a,nx:=st.nx+1,tw:=a.items.flatMap itemTw++(a.clear++st.tw),mw:=a.items.flatMap itemMw++(us.map (fun u=> .all (useId u))++(a.dead.map .all++st.mw))}
 have hS:Go.Tm.reState st us a d=unItems st.nx a.items 0 s d:=rfl
 obtain ⟨h1,h2,h3,h4,h5⟩:=unItems_flds (nx:=st.nx) a.items 0 (s:=s) (d:=d)
 rw [hS]
 refine ⟨fun n hn=>?_,fun id hid=>?_,?_⟩
 ·rw [h1] at hn
  simp only [s,List.mem_append,not_or] at hn
  rw [h4 n fun ty md hm=>hn.1 (List.mem_flatMap.2 ⟨_,hm,by simp [itemTw]⟩)]
  have hc:a.clear.any (Nat.beq n)=false:=by
   rw [List.any_eq_false]
   intro x hx e
   cases Nat.eq_of_beq_eq_true e
   exact hn.2.1 hx
  show (bif a.clear.any (Nat.beq n) then TV.un else st.env n)=e n
  rw [hc]
  exact h.env n hn.2.2
 ·rw [h2]
  have:=((h.mem id hid).trans (muB_wr (us0:=us) (a:=a))).trans (h5 id (Nat.lt_of_lt_of_le hid h.nx))
  rw [List.append_assoc] at this
  exact this
 ·rw [h3]
  exact Nat.le_trans h.nx (Nat.mul_le_mul_right _ (Nat.le_succ _))
structure HdOk (st0 hd:St) (us0:List Use) (a:Ann):Prop where
 env:∀n,a.clear.any (Nat.beq n)=false→(∀ty md,.t n ty md∉a.items)→hd.env n=st0.env n
 mem:∀id,id<st0.nx*2048→id∉a.dead→(∀es ms,.r id es ms∉a.items)→hd.mu id=muB st0 us0 a id ∨
  ∃cs cs',muB st0 us0 a id=some (.box cs)∧hd.mu id=some (.box cs')∧∀j,(∀ty md,.b id j ty md∉a.items)→cs'[j]?=cs[j]?
theorem HdOk.joint {st0:St} {a:Ann}:HdOk st0 {st0 with tw:= [],mw:= []} [] a where
 env _ _ _:=rfl
 mem id _ hd _:= .inl (by
  show st0.mu id=updL (updL st0.mu []) _ id
  rw [updL_none fun b hb=>hd (dead_mem hb).2];rfl)
theorem itemMw_all {items:List Item} {id:Nat} (h:Wr.all id∈items.flatMap itemMw):∃es ms,.r id es ms∈items:=by
 obtain ⟨x,hx,h⟩:=List.mem_flatMap.1 h
 cases x with
 |t n ty md=>simp [itemMw] at h
 |b i j ty md=>simp [itemMw] at h
 |r i es ms=>simp [itemMw] at h;subst h;exact ⟨es,ms,hx⟩
theorem HdOk.loop {st0:St} {us0:List Use} {a:Ann} {d:(itemsTy a.items).D}:HdOk st0 {reState st0 us0 a d with tw:= [],mw:= []} us0 a:=by
 let s:St:={env:=fun n=>bif a.clear.any (Nat.beq n) then .un else st0.env n,mu:=muB st0 us0 a,nx:=st0.nx+1,tw:=a.items.flatMap itemTw++(a.clear++st0.tw),mw:=a.items.flatMap itemMw++(us0.map (fun u=> .all (useId u))++(a.dead.map .all++st0.mw))}
 have hS:reState st0 us0 a d=unItems st0.nx a.items 0 s d:=rfl
 obtain ⟨h1,h2,h3,h4,h5⟩:=unItems_flds (nx:=st0.nx) a.items 0 (s:=s) (d:=d)
 refine ⟨fun n hc hn=>?_,fun id hid hd hr=>?_⟩
 ·show (reState st0 us0 a d).env n=_
  rw [hS,h4 n hn]
  show (bif a.clear.any (Nat.beq n) then TV.un else st0.env n)=_
  rw [hc];rfl
 ·show (reState st0 us0 a d).mu id=_∨_
  rcases h5 id hid with h|h|⟨cs,cs',h6,h7,h8⟩
  ·exact .inl h
  ·obtain ⟨es,ms,h⟩:=itemMw_all h;exact absurd h (hr es ms)
  ·refine .inr ⟨cs,cs',h6,h7,fun j hj=>h8 j fun wr hw hh=>?_⟩
   obtain ⟨x,hx,hw⟩:=List.mem_flatMap.1 hw
   cases x with
   |t n ty md=>simp [itemMw] at hw
   |b i j' ty md =>
    simp [itemMw] at hw;subst hw
    simp only [Wr.hits] at hh
    obtain ⟨rfl,h9,h10⟩:=hh
    have:j'=j:=by omega
    subst this
    exact hj _ _ hx
   |r i es ms =>
    simp [itemMw] at hw;subst hw
    cases (hh:i=id)
    exact hr _ _ hx
theorem tellsR_ok {items:List Item} {id:Nat} (h:tellsR items id=true):∃es ms,.r id es ms∈items:=by
 obtain ⟨x,hx,h⟩:=List.any_eq_true.1 h
 cases x<;>simp only at h<;>try (cases h;done)
 case r i es ms=>cases Nat.eq_of_beq_eq_true h;exact ⟨es,ms,hx⟩
theorem tellsB_ok {items:List Item} {id j:Nat} (h:tellsB items id j=true):∃ty md,.b id j ty md∈items:=by
 obtain ⟨x,hx,h⟩:=List.any_eq_true.1 h
 cases x<;>simp only at h<;>try (cases h;done)
 case b i k ty md =>
  simp only [Bool.and_eq_true] at h
  cases Nat.eq_of_beq_eq_true h.1;cases Nat.eq_of_beq_eq_true h.2
  exact ⟨ty,md,hx⟩
theorem tellsBs_ok {items:List Item} {id:Nat}:∀{n off:Nat},tellsBs items id off n=true→∀j,off≤j→j<off+n→∃ty md,.b id j ty md∈items
 |0,off,h,j,h1,h2=>by omega
 |n+1,off,h,j,h1,h2=>by
  simp only [tellsBs,Bool.and_eq_true] at h
  by_cases e:j=off
  ·subst e;exact tellsB_ok h.1
  ·exact tellsBs_ok h.2 j (by omega) (by omega)
theorem any_beq {l:List Nat} {n:Nat} (h:l.any (Nat.beq n)=true):n∈l:=by
 obtain ⟨x,hx,e⟩:=List.any_eq_true.1 h
 cases Nat.eq_of_beq_eq_true e;exact hx
theorem any_beq_of {l:List Nat} {n:Nat} (h:n∈l):l.any (Nat.beq n)=true:=List.any_eq_true.2 ⟨n,h,Nat.beq_refl n⟩
section
variable {P:Program} {w:World} {g:Gh} {tmps:Array Value}
theorem stOk_facts {st0:St} {a:Ann} (h:stOk st0 a=true):(∀id j ty md,.b id j ty md∈a.items→id∉a.dead∧∃cs,st0.mu id=some (.box cs)∧j<cs.length) ∧
  (∀id es ms,.r id es ms∈a.items→id∉a.dead∧∃es ms xs ver,st0.mu id=some (.row es ms xs ver))∧(∀id∈a.dead,id<st0.nx*2048):=by
 simp only [stOk,Bool.and_eq_true,List.all_eq_true] at h
 obtain ⟨⟨h,h2⟩,_⟩:=h
 refine ⟨fun id j ty md hm=>?_,fun id es ms hm=>?_,fun id hid=>by simpa [Nat.blt_eq] using h2 id hid⟩
 ·have:=h _ hm
  simp only [Bool.and_eq_true] at this
  have:=this.2
  split at this
  ·rename_i cs e
   simp only [Bool.and_eq_true,Bool.not_eq_true'] at this
   exact ⟨fun hd=>by rw [any_beq_of hd] at this;simp at this,cs,e,by simpa [Nat.blt_eq] using this.1⟩
  ·cases this
 ·have:=h _ hm
  dsimp only at this
  split at this
  ·rename_i es ms xs ver e
   simp only [Bool.not_eq_true'] at this
   exact ⟨fun hd=>(by rw [any_beq_of hd] at this;cases this),es,ms,xs,ver,e⟩
  ·cases this
structure Us0 (st0:St) (us0:List Use) (a:Ann):Prop where
 ok:usesOk us0=true
 us:∀u∈us0,∃tos,UsR st0.mu tos False u
 rows:us0= []∨∀id es ms,.r id es ms∈a.items→ .mv id id∈us0
theorem Us0.row {st0:St} {us0:List Use} {a:Ann} (U:Us0 st0 us0 a) (hst:stOk st0 a=true) {id:Nat} {es:Tys} {ms:List Md} (hm: .r id es ms∈a.items):muB st0 us0 a id=st0.mu id:=by
 obtain ⟨hd,_⟩:=(stOk_facts hst).2.1 id es ms hm
 have e1:muB st0 us0 a id=updL st0.mu (fzsI st0.mu us0) id:=updL_none fun b hb=>hd (dead_mem hb).2
 rw [e1]
 refine updL_none fun b hb=>?_
 obtain ⟨_,u,hu,h1,h2⟩:=fzsI_mem hb
 rcases U.rows with e|h
 ·rw [e] at hu;cases hu
 ·have hmv:=h id es ms hm
  have h3:=findU_mv U.ok hmv
  cases u with
  |mv id' to =>
   have e1':id=id':=(show id'=id from h1).symm;subst e1'
   have h4:=findU_mv U.ok hu
   rw [h3] at h4
   cases h4
   exact h2 id rfl rfl
  |pm id' =>
   have e1':id=id':=(show id'=id from h1).symm;subst e1'
   have h4:=findU_pm U.ok hu
   rw [h3] at h4
   cases h4
theorem Us0.box {st0:St} {us0:List Use} {a:Ann} (U:Us0 st0 us0 a) (hst:stOk st0 a=true) {id j:Nat} {ty:Ty} {md:Md} (hm: .b id j ty md∈a.items):muB st0 us0 a id=st0.mu id:=by
 obtain ⟨hd,cs,hcs,_⟩:=(stOk_facts hst).1 id j ty md hm
 have e1:muB st0 us0 a id=updL st0.mu (fzsI st0.mu us0) id:=updL_none fun b hb=>hd (dead_mem hb).2
 rw [e1]
 refine updL_none fun b hb=>?_
 obtain ⟨_,u,hu,h1,h2⟩:=fzsI_mem hb
 obtain ⟨tos,h3⟩:=U.us u hu
 cases u with
 |mv id' to =>
  have e1':id=id':=(show id'=id from h1).symm;subst e1'
  obtain ⟨⟨_,_,_,_,h⟩,_⟩:=h3
  rw [hcs] at h;cases h
 |pm id' =>
  have e1':id=id':=(show id'=id from h1).symm;subst e1'
  rcases h3 with ⟨_,_,_,_,h⟩|⟨_,_,h⟩|⟨h,_⟩
  ·rw [hcs] at h;cases h
  ·rw [hcs] at h;cases h
  ·exact h
theorem Us0.there {st0:St} {us0:List Use} {a:Ann} (U:Us0 st0 us0 a):∀u∈us0,st0.mu (useId u)≠none:=by
 intro u hu
 obtain ⟨tos,h⟩:=U.us u hu
 cases u with
 |mv id to=>obtain ⟨⟨_,_,_,_,h⟩,_⟩:=h;simp [useId,h]
 |pm id =>
  rcases h with ⟨_,_,_,_,h⟩|⟨_,_,h⟩|⟨h,_⟩
  ·simp [useId,h]
  ·simp [useId,h]
  ·exact h.elim
theorem itV_box {st:St}:∀{items:List Item} {vals:List Value} {id j:Nat} {ty:Ty} {md:Md},All2 (ItV P w g st tmps) items vals→ .b id j ty md∈items→∃cs,st.mu id=some (.box cs)
 |x::r,v::vals,id,j,ty,md,h,hm=>by
  rcases List.mem_cons.1 hm with hm|hm
  ·subst hm
   obtain ⟨cs,b,base,h,_⟩:=h.1
   exact ⟨cs,h⟩
  ·exact itV_box h.2 hm
 | [],_,_,_,_,_,_,hm=>by cases hm
 |_::_,[],_,_,_,_,h,_=>h.elim
theorem Link.entry {st:St} {us:List Use} {a:Ann} (hst:stOk st a=true) (U:Us0 st us a) (hrows:∀id es ms,.r id es ms∈a.items→ .mv id id∈us) (hfr:∀id,st.nx*2048≤id→st.mu id=none)
  (hus:∀u∈us,UsR st.mu (fun t=>∃i x es ms,a.items[i]?=some x∧t=itemId st.nx (0+i) x∧itemTy x= .sl es∧itemMd x= .own ms) False u):Link st st us us a where
 env n hc hn:=rfl
 mem id b hb hr:=by
  rcases muB_cases hb with ⟨h1,h2,h3⟩|⟨h,_⟩|⟨_,u,hu,h1,h2,h3|⟨es,ms,xs,ver,h3,h4,h5⟩⟩
  ·cases b with
   |box cs=>exact .inr (.inl ⟨cs,cs,rfl,h1,h1,fun j cv hj _=>hj⟩)
   |dead=>exact .inl rfl
   |_ =>
    refine .inr (.inr (.inl ⟨h1,by simp,fun u hu e=>?_⟩))
    have hu':=hus u hu
    cases u with
    |mv id' to =>
     have e1':id=id':=(show id'=id from e).symm;subst e1'
     by_cases he:id=to
     ·exfalso
      obtain ⟨_,i,x,es,ms,h4,h5,h6,h7⟩:=hu'
      have hlt:id<st.nx*2048:=by
       rcases Nat.lt_or_ge id (st.nx*2048) with h|h
       ·exact h
       ·rw [hfr id h] at h1;cases h1
      cases x with
      |t=>simp only [itemId] at h5;omega
      |b=>simp only [itemId] at h5;omega
      |r id2 es2 ms2 =>
       simp only [itemId] at h5
       exact hr es2 ms2 (by rw [he,h5];exact List.mem_of_getElem? h4)
     ·exact absurd (fzsI_of_mv he hu) (h3 _)
    |pm id' =>
     have e1':id=id':=(show id'=id from e).symm;subst e1'
     rcases hu' with ⟨es,ms,xs,ver,h⟩|⟨es,xs,h⟩|⟨h,_⟩
     ·exact absurd (fzsI_of_pm h hu) (h3 _)
     ·rw [h1] at h;exact ⟨es,xs,Option.some.inj h⟩
     ·exact h.elim
  ·exact .inl h
  ·exact .inl h3
  ·exact .inr (.inr (.inr ⟨es,xs,ms,ver,h4,h3,h5⟩))
 dom id _ h:=updL_some (updL_some h)
 rows id es ms hm:=U.row hst hm
 boxes id j ty md hm:=U.box hst hm
 us0:=U.there
theorem Link.back {st0 st hS:St} {us0 us:List Use} {a:Ann} {vals:List Value} (hst:stOk st0 a=true) (U:Us0 st0 us0 a) (H:HdOk st0 hS us0 a) (B:Bas hS.env hS.mu (st0.nx*2048) st)
  (htw:st.tw.all (twOk a)=true) (hmw:st.mw.all (mwOk st0 a)=true) (huo:us.all (usOk st0 st a)=true) (hit:All2 (ItV P w g st tmps) a.items vals)
  (hfr0:∀id,st0.nx*2048≤id→st0.mu id=none)
  (hus:∀u∈us,UsR st.mu (fun t=>∃i x es ms,a.items[i]?=some x∧t=itemId st0.nx (0+i) x∧itemTy x= .sl es∧itemMd x= .own ms) False u):Link st0 st us0 us a:=by
 have hBlt:∀id b,muB st0 us0 a id=some b→id<st0.nx*2048:=fun id b h=>by
  have key:∀id,st0.mu id≠none→id<st0.nx*2048:=fun id h=>by
   rcases Nat.lt_or_ge id (st0.nx*2048) with h'|h'
   ·exact h'
   ·exact absurd (hfr0 id h') h
  rcases muB_cases h with ⟨h,_⟩|⟨_,h⟩|⟨_,u,hu,e,_⟩
  ·exact key id (by simp [h])
  ·exact (stOk_facts hst).2.2 id h
  ·exact key id (e▸U.there u hu)
 have hall:∀id,id<st0.nx*2048→ .all id∈st.mw→id∉a.dead→(∀es ms,.r id es ms∉a.items)→∃cs,st0.mu id=some (.box cs)∧0<cs.length∧∀j,j<cs.length→∃ty md,.b id j ty md∈a.items:=by
  intro id hlt hm hd hr
  have:=List.all_eq_true.1 hmw _ hm
  simp only [mwOk,Bool.or_eq_true] at this
  rcases this with ((h|h)|h)|h
  ·have:=Nat.le_of_ble_eq_true h;omega
  ·exact absurd (any_beq h) hd
  ·obtain ⟨es,ms,h⟩:=tellsR_ok h;exact absurd h (hr es ms)
  ·split at h
   ·rename_i cs e
    simp only [Bool.and_eq_true,Nat.blt_eq] at h
    exact ⟨cs,e,h.1,fun j hj=>tellsBs_ok h.2 j (by omega) (by omega)⟩
   ·cases h
 have hcell:∀id off n j,id<st0.nx*2048→ .cell id off n∈st.mw→id∉a.dead→off≤j→j<off+n→∃ty md,.b id j ty md∈a.items:=by
  intro id off n j hlt hm hd h1 h2
  have:=List.all_eq_true.1 hmw _ hm
  simp only [mwOk,Bool.or_eq_true] at this
  rcases this with (h|h)|h
  ·have:=Nat.le_of_ble_eq_true h;omega
  ·exact absurd (any_beq h) hd
  ·exact tellsBs_ok h j h1 h2
 have husame:∀id b,id<st0.nx*2048→id∉a.dead→(∀es ms,.r id es ms∉a.items)→st.mu id=some b→∀u∈us,useId u=id→∃es xs,b= .fz es xs:=by
  intro id b hlt hd hr hb u hu e
  have hk:=List.all_eq_true.1 huo u hu
  cases u with
  |mv id' to =>
   have e1':id=id':=(show id'=id from e).symm;subst e1'
   simp only [usOk,Bool.or_eq_true] at hk
   rcases hk with (h|h)|h
   ·have:=Nat.le_of_ble_eq_true h;omega
   ·exact absurd (any_beq h) hd
   ·cases Nat.eq_of_beq_eq_true h
    obtain ⟨_,i,x,es,ms,h4,h5,h6,h7⟩:=hus _ hu
    cases x with
    |t=>simp only [itemId] at h5;omega
    |b=>simp only [itemId] at h5;omega
    |r id2 es2 ms2 =>
     simp only [itemId] at h5
     exact absurd (List.mem_of_getElem? h4) (by rw [←h5];exact hr es2 ms2)
  |pm id' =>
   have e1':id=id':=(show id'=id from e).symm;subst e1'
   simp only [usOk,Bool.or_eq_true] at hk
   rcases hk with (h|h)|h
   ·have:=Nat.le_of_ble_eq_true h;omega
   ·exact absurd (any_beq h) hd
   ·rw [hb] at h
    split at h
    ·rename_i es xs e;cases e;exact ⟨es,xs,rfl⟩
    ·cases h
 refine ⟨fun n hc hn=>?_,fun id b hb hr=>?_,fun id hlt hne=>?_,fun id es ms hm=>U.row hst hm,fun id j ty md hm=>U.box hst hm,U.there⟩
 ·rw [←H.env n hc hn]
  refine B.env n fun hm=>?_
  have:=List.all_eq_true.1 htw _ hm
  simp only [twOk,Bool.or_eq_true,hc,Bool.false_eq_true,false_or] at this
  obtain ⟨x,hx,h⟩:=List.any_eq_true.1 this
  cases x<;>simp only at h<;>try (cases h;done)
  case t m ty md=>cases Nat.eq_of_beq_eq_true h;exact hn _ _ hx
 ·have hlt:=hBlt id b hb
  by_cases hd:id∈a.dead
  ·rcases muB_cases hb with ⟨_,h,_⟩|⟨h,_⟩|⟨h,_⟩
   ·exact absurd hd h
   ·exact .inl h
   ·exact absurd hd h
  ·have Hm:=H.mem id hlt hd hr
   have hnow:(∃cs cs',b= .box cs∧st0.mu id=some (.box cs)∧st.mu id=some (.box cs')∧∀j cv,cs[j]?=some cv→(∀ty md,.b id j ty md∉a.items)→cs'[j]?=some cv)∨(st.mu id=some b∧∀cs,b≠ .box cs):=by
    have hbx:∀cs,b= .box cs→st0.mu id=some (.box cs):=by
     rintro cs rfl
     rcases muB_cases hb with ⟨h,_⟩|⟨h,_⟩|⟨_,_,_,_,_,h|⟨_,_,_,_,_,h,_⟩⟩
     ·exact h
     ·cases h
     ·cases h
     ·cases h
    by_cases hal:Wr.all id∈st.mw
    ·obtain ⟨cs,h1,h2,h3⟩:=hall id hlt hal hd hr
     obtain ⟨ty,md,hm⟩:=h3 0 h2
     obtain ⟨cs',hcs'⟩:=itV_box hit hm
     have:b= .box cs:=by
      have:=(U.box hst hm).symm.trans hb
      rw [h1] at this;simpa using this.symm
     refine .inl ⟨cs,cs',this,h1,hcs',fun j cv hj hn=>?_⟩
     have hjl:j<cs.length:=by
      rcases Nat.lt_or_ge j cs.length with h|h
      ·exact h
      ·simp [List.getElem?_eq_none h] at hj
     obtain ⟨ty,md,hm⟩:=h3 j hjl
     exact absurd hm (hn ty md)
    ·-- from the head on
     have hmid:WrOk st.mw id (hS.mu id) (st.mu id):=B.mem id hlt
     have hun:∀j,(∀ty md,.b id j ty md∉a.items)→∀wr∈st.mw,¬wr.hits id j:=by
      intro j hj wr hw hh
      cases wr with
      |all i=>cases (hh:i=id);exact hal hw
      |cell i off n =>
       obtain ⟨rfl,h1,h2⟩:=hh
       obtain ⟨ty,md,h⟩:=hcell i off n j hlt hw hd h1 h2
       exact hj _ _ h
     rcases Hm with e|⟨c0,c1,h1,h2,h3⟩
     ·rw [hb] at e
      rcases hmid with h|h|⟨c1,c2,h4,h5,h6⟩
      ·rw [e] at h
       cases b with
       |box cs=>exact .inl ⟨cs,cs,rfl,hbx cs rfl,h,fun j cv hj _=>hj⟩
       |_=>exact .inr ⟨h,by simp⟩
      ·exact absurd h hal
      ·rw [e] at h4;cases h4
       exact .inl ⟨c1,c2,rfl,hbx c1 rfl,h5,fun j cv hj hn=>(h6 j (hun j hn)).trans hj⟩
     ·rw [hb] at h1;cases h1
      rcases hmid with h|h|⟨c1',c2,h4,h5,h6⟩
      ·exact .inl ⟨c0,c1,rfl,hbx c0 rfl,h.trans h2,fun j cv hj hn=>(h3 j hn).trans hj⟩
      ·exact absurd h hal
      ·rw [h2] at h4;cases h4
       exact .inl ⟨c0,c2,rfl,hbx c0 rfl,h5,fun j cv hj hn=>(h6 j (hun j hn)).trans ((h3 j hn).trans hj)⟩
   rcases hnow with h|⟨h,hnb⟩
   ·exact .inr (.inl h)
   ·exact .inr (.inr (.inl ⟨h,hnb,husame id b hlt hd hr h⟩))
 ·intro hnone
  by_cases hd:id∈a.dead
  ·exact updL_mem (List.mem_map.2 ⟨id,hd,rfl⟩) hnone
  ·by_cases hr:∃es ms,.r id es ms∈a.items
   ·obtain ⟨es,ms,hm⟩:=hr
    obtain ⟨_,es0,ms0,xs0,ver,h⟩:=(stOk_facts hst).2.1 id es ms hm
    rw [U.row hst hm,h] at hnone;cases hnone
   ·have hr':∀es ms,.r id es ms∉a.items:=fun es ms h=>hr ⟨es,ms,h⟩
    by_cases hal:Wr.all id∈st.mw
    ·obtain ⟨cs,h1,_⟩:=hall id hlt hal hd hr'
     exact updL_some (updL_some (by rw [h1];simp)) hnone
    ·rcases H.mem id hlt hd hr' with e|⟨c0,c1,h1,_⟩
     ·rcases B.mem id hlt with h|h|⟨c1,c2,h4,h5,_⟩
      ·rw [h,e] at hne;exact hne hnone
      ·exact hal h
      ·rw [e,hnone] at h4;cases h4
     ·rw [h1] at hnone;cases hnone
end
end Go.Tm
