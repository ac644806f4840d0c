/- A machine over plain data, part 1: what it gives is shown to be what the program's functions return. Conditions: none. -/
import Derived.Orders
import Derived.KernelRfl
import Derived.Below
import Derived.Laws.Entries
import Derived.Laws.Cells
import Derived.Laws.IdiomCopy
import Derived.ChangeKeysEq
import Derived.Laws.StructEq
import Derived.Laws.BytesString
import Derived.Laws.Cover3
import Derived.Laws.Slices
import Derived.Great.BuildSlice
import Derived.Laws.MakeOwn
set_option linter.unusedVariables false
set_option linter.unusedSimpArgs false
set_option linter.constructorNameAsVariable false
namespace Go.Tm
open Go
mutual inductive Ty where|int(k:IntKind)|bool|str|sl(es:af)|fn(sh:List Nat)(b a:af)inductive af where|nil|cons(t:Ty)(ts:af)end
mutual def Ty.D:Ty->Type|.int _=>Int|.bool=>Bool|.str=>ByteArray|.sl es=>List es.D|.fn _ b a=>b.D->Option a.D def af.D:af->Type|.nil=>Unit|.cons t ts=>t.D×ts.D end
def kZ:List Nat->List Nat->Bool|[],[]=>true|a::x,b::y=>Nat.beq a b&&kZ x y|_,_=>false
theorem ot:∀{x y:List Nat},kZ x y=true->x=y|[],[],_=>rfl|a::x,b::y,h=>by simp only[kZ,Bool.and_eq_true]at h;rw[Nat.eq_of_beq_eq_true h.1,ot h.2]|[],_::_,h=>by grind[kZ]|_::_,[],h=>by grind[kZ]
mutual def Ty.eq?:(a b:Ty)->Option (PLift (a=b))
 |.int j,.int k=>if h:j=k then some ⟨h▸rfl⟩else none|.bool,.bool=>some ⟨rfl⟩|.str,.str=>some ⟨rfl⟩|.sl a,.sl b=>match af.eq? a b with|some ⟨h⟩=>some ⟨h▸rfl⟩|none=>none
 |.fn s i g,.fn s' d c=>if h:kZ s s'=true then match af.eq? i d,af.eq? g c with|some ⟨f⟩,some ⟨e⟩=>some ⟨by grind[ot]⟩|_,_=>none else none|_,_=>none def af.eq?:(a b:af)->Option (PLift (a=b))
 |.nil,.nil=>some ⟨rfl⟩|.cons t ts,.cons u us=>match Ty.eq? t u,af.eq? ts us with|some ⟨f⟩,some ⟨e⟩=>some ⟨by grind⟩|_,_=>none
 |_,_=>none end
def af.len:af->Nat|.nil=>0|.cons _ ts=>ts.len+1
inductive Md where|sh|own(ms:List Md)
inductive CV where|un|int(k:IntKind)(n:Int)|bool(b:Bool)|str(s:ByteArray)|cg|ro(es:af)(xs:List es.D)|own(id:Nat)|nref(id aF i j:Nat)|ptr(id off:Nat)|dF(id sz i off:Nat)|eO(es:af)(x:es.D)(off:Nat)|uQ(f:Nat)|ua(f:Nat)(ids:List Nat)|qy(sh:List Nat)(as rs:af)(g:as.D->Option rs.D)
inductive TV where|un|kl|c(v:CV)|agg(vs:List CV)|we(vs:List (Bool×List CV))
inductive av where|box(cells:List CV)|eE(es:af)(x:es.D)|row(es:af)(ms:List Md)(xs:List es.D)(aF:Nat)|fz(es:af)(xs:List es.D)|aB
inductive Wr where|all(id:Nat)|cell(id off n:Nat)
structure St where
 env:Nat->TV
 mu:Nat->Option av
 tw:List Nat
 mw:List Wr
 nx:Nat
def bW{α:Type}(f:Nat->α)(k:Nat)(v:α):Nat->α:=λn=>bif Nat.beq n k then v else f n
def au(mu:Nat->Option av):List (Nat×av)->Nat->Option av|[]=>mu|(k,b)::r=>au (bW mu k (some b)) r
def Ty.ro:(t:Ty)->t.D->CV|.int k,n=>.int k n|.bool,b=>.bool b|.str,s=>.str s|.sl es,xs=>.ro es xs|.fn sh c a,g=>.qy sh c a g
def af.sL:(ts:af)->ts.D->List CV|.nil,_=>[]|.cons t ts,x=>t.ro x.1::ts.sL x.2
def gR:List Md->Nat->Md|[],_=>.sh|m::_,0=>m|_::ms,j+1=>gR ms j
def cy:List Md->Md|[]=>.sh|m::_=>m
def cW:List Md->List Md|[]=>[]|_::ms=>ms
def af.aU:(ts:af)->List Md->(Nat->CV)->Nat->ts.D->List CV|.nil,_,_,_,_=>[]|.cons t ts,ms,mk,j,x=>(match cy ms with|.sh=>t.ro x.1|.own _=>mk j)::ts.aU (cW ms) mk (j+1) x.2
structure ye where
 t:Ty
 x:t.D
def af.leaf:(ts:af)->Nat->ts.D->Option ye|.nil,_,_=>none|.cons t _,0,x=>some ⟨t,x.1⟩|.cons _ ts,j+1,x=>ts.leaf j x.2
def af.wg:af->Nat->Option Ty|.nil,_=>none|.cons t _,0=>some t|.cons _ ts,j+1=>ts.wg j
def bK{α:Type}(xs:List α)(n:Int):Option α:=if 0<=n then xs[n.toNat]? else none
def aC{α:Type}(xs:List α)(n:Nat):Option α:=xs[n]?
noncomputable def mU{R:Type}(a b:Option R):Option R:=@ite _ (a=b) (Classical.propDecidable _) a none
def aE{R:Type}(mu:Nat->Option av)(v:CV)(K:(es:af)->List es.D->Option R):Option R:=match v with
 |.ro es xs=>K es xs|.own id=>match mu id with|some (.row es _ xs _)=>K es xs|some (.fz es xs)=>K es xs|_=>none
 |.nref id aF i j=>match mu id with|some (.row es _ xs a)=>bif Nat.beq aF a then (aC xs i).bind λx=>match es.leaf j x with|some ⟨.sl b,c⟩=>K b c|_=>none else none|_=>none
 |_=>none
inductive aI where|mv(id to:Nat)|pm(id:Nat)
def aH:aI->Nat|.mv id _=>id|.pm id=>id
def sP:aI->Bool|.mv _ _=>true|.pm _=>false
def dQ(n:Nat):List aI->Bool|[]=>false|u::r=>Nat.beq (aH u) n||dQ n r
def aP:List aI->Bool|[]=>true|u::r=>(match u with|.mv id _=>!dQ id r|.pm id=>!r.any λv=>sP v&&Nat.beq (aH v) id)&&aP r
mutual def Md.beq:Md->Md->Bool|.sh,.sh=>true|.own a,.own b=>dG a b|_,_=>false def dG:List Md->List Md->Bool|[],[]=>true|a::x,b::y=>Md.beq a b&&dG x y|_,_=>false end
end Go.Tm
namespace Go.Tm
open Go
inductive TK where|int(k:IntKind)|bool|str|slice(e:Nat)|struct|eH
structure TI where
 size:Nat
 bytes:Nat
 k:TK
 zero:List CV
 dS:List (Nat×Nat)uR:List Bool
 eq:Option (List TK)
def cP:TypeDesc->TK|.int k=>.int k|.bool=>.bool|.string=>.str|.slice e=>.slice e|.struct _=>.struct|.array _ _=>.struct|.pointer _=>.eH|.func _ _ _=>.eH|.interface _=>.eH|_=>.eH
def lR:TypeDesc->Bool|.array _ _=>true|_=>false
def bp:Value->CV|.int k n=>.int k n|.bool b=>.bool b|.string s=>.str s|.slice none n c=>bif Nat.beq n 0&&Nat.beq c 0 then .cg else .un|_=>.un
def eh:Value->Bool|.agg _=>false|.tuple _=>false|_=>true
def pg:Value->TV|.agg cs=>bif cs.toList.all eh then .agg (cs.toList.map bp)else .un|.tuple _=>.un|v=>.c (bp v)
def mV:TypeDesc->Bool|.struct _=>true|.array _ _=>true|_=>false
def jO(P:Program):List Field->Nat->Bool|[],_=>true|f::a,i=>!(f.name== "_")&&Nat.beq f.offset i&&(match P.underlying f.type with|some .bool=>true|some (.int _)=>true|some .string=>true|_=>false)&&jO P a (i+1)
def fL(P:Program)(t:Nat):Option TI:=match P.info? t,P.underlying t with
 |some a,some d=>match a.zero with|some z=>bif z.cells.toList.all eh&&Nat.beq z.cells.size a.size then match d with
 |.struct b=>bif b.toList.all λf=>(P.info? f.type).isSome&&(P.underlying f.type).isSome then some ⟨a.size,a.bytes,.struct,z.cells.toList.map bp,b.toList.map (λf=>(f.offset,((P.info? f.type).map (·.size)).getD 0)),b.toList.map (λf=>((P.underlying f.type).map mV).getD false),bif jO P b.toList 0&&Nat.beq b.toList.length a.size&&!P.stoodInHeld t&&!P.eqGuardType P.depth t then some (b.toList.map λf=>((P.underlying f.type).map cP).getD .eH)else none⟩else none|.array n e=>match P.info? e with|some c=>bif Nat.beq c.size 1&&Nat.beq a.size n then some ⟨a.size,a.bytes,.struct,z.cells.toList.map bp,(List.range n).map (λi=>(i,1)),[],none⟩else none|none=>none
 |d=>bif Nat.beq a.size 1 then some ⟨a.size,a.bytes,cP d,z.cells.toList.map bp,[],[],none⟩else none else none|none=>none
 |_,_=>none
def wj:List (Nat×TI)->Nat->Option TI|[],_=>none|(k,t)::r,n=>bif Nat.beq k n then some t else wj r n
inductive PK where|c|agg|rp|io|np|wc|wa
def qz:PK->Bool|.io=>true|.wc=>true|.wa=>true|_=>false
inductive Tg where|bx(id:Nat)|cv(vs:List CV)
structure bX where
 k:PK
 ts:af
 ms:List Md
def GD:List bX->Type|[]=>Unit|g::a=>g.ts.D×GD a
structure zi where
 ins:List bX
 aX:List bX
 f:GD ins->Option (GD aX)
inductive cL where|t(n:Nat)(ty:Ty)(md:Md)|b(id j:Nat)(ty:Ty)(md:Md)|r(id:Nat)(es:af)(ms:List Md)
structure jP where
 ah:List cL
 fh:List Nat
 aB:List Nat
structure Ctx where
 nt:Nat
 ty:Nat->Option TI
 es:Nat->af
 bg:Nat->Option zi
 iL:Nat->Nat->List Md
 lp:Nat->Option jP
 jn:Nat->Option jP
def ae(env:Nat->TV):Operand->TV|.tmp t=>env t|.const v=>pg v|.func f=>.c (.uQ f)|.global _=>.un
def cX{a b:af}(h:a=b)(xs:List a.D):List b.D:=h▸xs
def zj{s s':List Nat}{a c r b:af}(h:Ty.fn s a r=Ty.fn s' c b)(g:a.D->Option r.D):c.D->Option b.D:=cast (congrArg Ty.D h) g
abbrev vW:=Nat->List Nat->List (List CV)->(b a:af)->Option (b.D->Option a.D)
def cC{R:Type}(mu:Nat->Option av)(es:af)(md:Md)(to:Nat)(cv:CV)(us:List aI)(K:List es.D->List aI->Option R):Option R:=match md with
 |.own ms=>match cv with
  |.own id=>match mu id with
   |some (.row a b xs _)=>match af.eq? a es with|some ⟨h⟩=>bif dG b ms then K (cX h xs) (.mv id to::us)else none|none=>none
   |_=>none
  |.cg=>K [] us|_=>none
 |.sh=>match cv with
 |.cg=>K [] us|.ro a xs=>match af.eq? a es with|some ⟨h⟩=>K (cX h xs) us|none=>none
 |.own id=>aE mu (.own id) λa xs=>match af.eq? a es with|some ⟨h⟩=>K (cX h xs) (.pm id::us)|none=>none
 |.nref id aF i j=>aE mu (.nref id aF i j) λa xs=>match af.eq? a es with|some ⟨h⟩=>K (cX h xs) (.pm id::us)|none=>none
 |_=>none
def cD(mu:Nat->Option av):List Nat->Option (List (List CV))|[]=>some []|id::r=>match mu id,cD mu r with|some (.box cs),some l=>some (cs::l)|some (.eE es x),some l=>some (es.sL x::l)|_,_=>none
def ak{R:Type}(app:vW)(mu:Nat->Option av):(ty:Ty)->Md->Nat->CV->List aI->(ty.D->List aI->Option R)->Option R
 |.int k,_,_,cv,us,K=>match cv with|.int l n=>if k=l then K n us else none|_=>none
 |.bool,_,_,cv,us,K=>match cv with|.bool b=>K b us|_=>none
 |.str,_,_,cv,us,K=>match cv with|.str s=>K s us|_=>none
 |.sl es,md,to,cv,us,K=>cC mu es md to cv us K|.fn sh c a,_,_,cv,us,K=>match cv with
 |.qy e j i g=>match Ty.eq? (.fn e j i) (.fn sh c a)with|some ⟨h⟩=>K (zj h g) us|none=>none
 |.uQ f=>match app f sh [] c a with|some g=>K g us|none=>none
 |.ua f d=>match cD mu d with
  |some cs=>match app f sh cs c a with|some g=>K g (d.map .pm++us)|none=>none
  |none=>none
 |_=>none
def aQ{R:Type}(app:vW)(mu:Nat->Option av):(ts:af)->List Md->Nat->List CV->List aI->(ts.D->List CV->List aI->Option R)->Option R|.nil,_,_,a,us,K=>K () a us|.cons t ts,ms,to,a,us,K=>match a with|[]=>none|cv::a=>ak app mu t (cy ms) to cv us λx us=>aQ app mu ts (cW ms) (to+1) a us λr a us=>K (x,r) a us
def bM:vW:=λ_ _ _ _ _=>none
def cY:Nat->Option av:=λ_=>none
def ou{R:Type}:(b:List bX)->List CV->(GD b->Option R)->Option R
 |[],a,K=>match a with|[]=>K ()|_=>none
 |g::b,a,K=>aQ bM cY g.ts [] 0 a [] λx a _=>ou b a λr=>K (x,r)
def cJ:List Md->Bool|[]=>true|.sh::r=>cJ r|.own _::_=>false
def cT:List Nat->List (List CV)->List bX->Bool|[],[],[]=>true|[],c::cs,g::a=>(match g.k with|.rp=>true|_=>false)&&Nat.beq g.ts.len c.length&&cJ g.ms&&cT [] cs a|n::s,cs,g::a=>(match g.k,n with|.c,0=>Nat.beq g.ts.len 1|.agg,n+1=>Nat.beq g.ts.len n|_,_=>false)&&cJ g.ms&&cT s cs a|_,_,_=>false
def ub(aX:List bX):Bool:=match aX with|[g]=>(match g.k with|.c=>true|_=>false)&&cJ g.ms|_=>false
def uS(C:Ctx):vW:=λf sh b h e=>match C.bg f with|none=>none|some a=>bif cT sh b a.ins&&ub a.aX then some λx=>ou a.ins (h.sL x++b.flatten) λd=>(a.f d).bind λy=>match a.aX,y with
 |[g],y=>aQ bM cY e [] 0 (g.ts.sL y.1) [] λr c _=>match c with|[]=>some r|_=>none
 |_,_=>none else none
def cellsOf:TV->Option (List CV)|.c v=>some [v]|.agg vs=>some vs|_=>none
def dH{R:Type}(mu:Nat->Option av)(v:CV)(n:Nat)(us:List aI)(K:List CV->List aI->Option R):Option R:=match v with
 |.ptr id off=>match mu id with|some (.box cs)=>K ((cs.drop off).take n) (.pm id::us)|some (.eE es x)=>K (((es.sL x).drop off).take n) us|_=>none
 |.eO es x off=>K (((es.sL x).drop off).take n) us|.dF id sz i off=>match mu id with|some (.row es ms xs aF)=>bif Nat.beq sz es.len then (aC xs i).bind λx=>K (((es.aU ms (λj=>.nref id aF i j) 0 x).drop off).take n) (.pm id::us) else none|_=>none
 |_=>none
def bA{R:Type}(C:Ctx)(mu:Nat->Option av):(d:List bX)->Nat->List TV->List aI->(GD d->List aI->Option R)->Option R
 |[],_,args,us,K=>match args with|[]=>K () us|_=>none
 |g::d,m,args,us,K=>match args with|[]=>none|a::args=>let go (b:List CV)(us:List aI):Option R:=aQ (uS C) mu g.ts g.ms (64*m+1) b us λx b us=>match b with|[]=>bA C mu d (m+1) args us λr us=>K (x,r) us|_=>none
 match g.k,a with
 |.c,.c v=>go [v] us|.agg,.agg vs=>go vs us|.wc,.c v=>go [v] us|.wa,.agg vs=>go vs us|.rp,.c v=>bif cJ g.ms then dH mu v g.ts.len us λb us=>go b us else none|.io,.c (.ptr id off)=>match mu id with|some (.box cs)=>bif Nat.beq off 0 then go cs (.mv id (64*m)::us) else none|_=>none
 |_,_=>none
def bc:(ts:af)->List Md->Nat->ts.D->List CV|.nil,_,_,_=>[]|.cons t ts,ms,k,x=>(match cy ms with|.sh=>t.ro x.1|.own _=>.own k)::bc ts (cW ms) (k+1) x.2
def cZ(t:Ty)(m:Md)(k:Nat)(x:t.D):List (Nat×av):=match m with|.sh=>[]|.own ms=>match t,x with|.sl es,xs=>[(k,.row es ms xs 0)]|_,_=>[]
def aA:(ts:af)->List Md->Nat->ts.D->List (Nat×av)|.nil,_,_,_=>[]|.cons t ts,ms,k,x=>cZ t (cy ms) k x.1++aA ts (cW ms) (k+1) x.2
mutual def mC:Ty->Md->Bool|.int _,_=>true|.bool,_=>true|.str,_=>true|.sl es,.own ms=>fN es ms|.sl _,.sh=>false|.fn _ _ _,_=>false def fN:af->List Md->Bool|.nil,_=>true|.cons t ts,ms=>mC t (cy ms)&&fN ts (cW ms)end
def wk:List bX->Bool|[]=>true|g::a=>fN g.ts g.ms&&wk a
def iM(mu:Nat->Option av):List aI->List (Nat×av)|[]=>[]|.mv id _::r=>(id,.aB)::iM mu r|.pm id::r=>(match mu id with|some (.row es _ xs _)=>[(id,.fz es xs)]|some (.box _)=>[(id,.aB)]|_=>[])++iM mu r
def fj:List aI->List (Nat×av)|[]=>[]|.mv id _::r=>(id,.aB)::fj r|.pm _::r=>fj r
def da:List bX->List TV->List Tg
 |g::b,a::d=>match g.k,a with|.io,.c (.ptr id _)=>.bx id::da b d|.wc,.c v=>.cv [v]::da b d|.wa,.agg vs=>.cv vs::da b d|_,_=>da b d
 |_,_=>[]
def gb:af->List Md->Bool|.nil,_=>true|.cons t ts,ms=>(match cy ms with|.sh=>true|.own _=>match t with|.sl _=>true|_=>false)&&gb ts (cW ms)
def sQ(a:List bX):Bool:=Nat.ble a.length 31&&a.all λg=>Nat.ble g.ts.len 62&&gb g.ts g.ms
def gg(a:zi):Nat:=a.aX.length-(a.ins.filter λg=>qz g.k).length
def mG(mu:Nat->Option av)(t:Ty)(m:Md)(v:CV)(x:t.D):List (Nat×av):=match m with|.sh=>[]|.own ms=>match v with
 |.own id=>match t,x,mu id with|.sl es,xs,some (.row _ _ _ v)=>[(id,.row es ms xs (v+1))]|_,_,_=>[]
 |_=>[]
def bd(mu:Nat->Option av):(ts:af)->List Md->List CV->ts.D->List (Nat×av)|.nil,_,_,_=>[]|.cons t ts,ms,vs,x=>match vs with|[]=>[]|v::vs=>mG mu t (cy ms) v x.1++bd mu ts (cW ms) vs x.2
def az(mu:Nat->Option av)(idb:Nat):(a:List bX)->(r e:Nat)->(io:List Tg)->GD a->List (Bool×List CV)×List (Nat×av)|[],_,_,_,_=>([],[])|g::a,r,e,io,y=>let k:=idb+64*r+1
 let d:=bc g.ts g.ms k y.1
 let b:=aA g.ts g.ms k y.1
 match e with
 |0=>match io with|[]=>az mu idb a (r+1) 0 [] y.2|t::io=>let z:=az mu idb a (r+1) 0 io y.2
 (z.1,(match t with|.bx id=>(id,.box d)::b|.cv vs=>bd mu g.ts g.ms vs y.1)++z.2)
 |e+1=>let z:=az mu idb a (r+1) e io y.2
 match g.k with|.c=>((false,d)::z.1,b++z.2)|.np=>((false,[.ptr (idb+64*r) 0])::z.1,(idb+64*r,.box d)::b++z.2)|_=>((true,d)::z.1,b++z.2)
def wm:Bool×List CV->TV|(true,vs)=>.agg vs|(false,v::_)=>.c v|(false,[])=>.un
def qA:List (Bool×List CV)->TV|[x]=>wm x|l=>.we l
def mW(mu:Nat->Option av):Tg->Bool|.bx _=>true|.cv cs=>cs.all λc=>match c with|.own id=>(mu id).isSome|_=>true
def kt{R:Type}(C:Ctx)(mu:Nat->Option av)(idb:Nat)(f:Nat)(args:List TV)(K:TV->List (Nat×av)->Option R):Option R:=match C.bg f with
 |none=>none|some a=>bA C mu a.ins 0 args [] λx us=>bif aP us&&sQ a.aX&&(da a.ins args).all (mW mu)then (a.f x).bind λy=>let z:=az mu idb a.aX 0 (gg a) (da a.ins args) y
 K (qA z.1) ((bif wk a.aX then fj us else iM mu us)++z.2)else none
def iN:List bX->List TV->Nat->Option (Nat×Nat×Nat×Nat×Nat)
 |g::b,a::d,n=>match g.k,a with|.wc,.c (.nref id aF i j)=>some (n,id,aF,i,j)|_,_=>iN b d (n+1)
 |_,_,_=>none
def af.eP:(ts:af)->Nat->ts.D->(t:Ty)->t.D->Option ts.D
 |.nil,_,_,_,_=>none|.cons t ts,0,x,a,v=>match Ty.eq? a t with|some ⟨h⟩=>some (h▸v,x.2)|none=>none
 |.cons _ ts,j+1,x,a,v=>(ts.eP j x.2 a v).map λr=>(x.1,r)
def lS{R:Type}(C:Ctx)(mu:Nat->Option av)(idb:Nat)(f:Nat)(args:List TV)(K:TV->List (Nat×av)->Option R):Option R:=match C.bg f with|none=>none|some g=>match iN g.ins args 0 with|none=>kt C mu idb f args K|some (n,id,aF,i,j)=>match mu id with
 |some (.row es ms xs e)=>bif Nat.beq aF e then (aC xs i).bind λx=>match es.leaf j x,gR ms j with
 |some ⟨.sl a,d⟩,.own b=>kt C (bW (bW mu id (some .aB)) (idb+2047) (some (.row a b d 0))) idb f (args.set n (.c (.own (idb+2047)))) λv l=>match au (bW (bW mu id (some .aB)) (idb+2047) (some (.row a b d 0))) l (idb+2047) with
  |some (.row m k ys _)=>match af.eq? m a with|some ⟨h⟩=>bif dG k b then (es.eP j x (.sl a) (cX h ys)).bind λx'=>K v (l++[(id,.row es ms (xs.set i x') (aF+1)),(idb+2047,.aB)]) else none|none=>none
  |_=>none
 |_,_=>none else none|_=>none
def iO:List bX->List TV->Nat->Option (Nat×Nat×Nat×Nat)
 |g::b,a::d,n=>match g.k,a with|.io,.c (.dF id sz i 0)=>some (n,id,sz,i)|_,_=>iO b d (n+1)
 |_,_,_=>none
def dU(id bx:Nat)(es:af)(ms:List Md)(x:es.D):List (Nat×av):=(id,.aB)::(bx,.box (bc es ms (bx+1) x))::aA es ms (bx+1) x
def bN{A:Type}(x:A)(a:List CV)(us:List aI):Option (A×List aI):=match a with|[]=>some (x,us)|_=>none
def jF{R:Type}(C:Ctx)(mu:Nat->Option av)(idb:Nat)(f:Nat)(args:List TV)(K:TV->List (Nat×av)->Option R):Option R:=match C.bg f with|none=>none|some a=>match iO a.ins args 0 with|none=>lS C mu idb f args K|some (n,id,sz,i)=>match mu id with|some (.row es ms xs aF)=>bif Nat.beq sz es.len&&(Nat.ble es.len 62&&gb es ms)then (aC xs i).bind λx=>kt C (au mu (dU id (idb+1984) es ms x)) idb f (args.set n (.c (.ptr (idb+1984) 0))) λv l=>match au (au mu (dU id (idb+1984) es ms x)) l (idb+1984) with|some (.box cs)=>(aQ (R:=es.D×List aI) bM (au (au mu (dU id (idb+1984) es ms x)) l) es ms 0 cs [] bN).bind λp=>bif aP p.2&&(p.2.all sP&&(!dQ id p.2&&!dQ (idb+1984) p.2)) then K v (dU id (idb+1984) es ms x++(l++(fj p.2++[(id,.row es ms (xs.set i p.1) (aF+1)),(idb+1984,.aB)]))) else none|_=>none else none|_=>none
def gC{R:Type}(mu:Nat->Option av)(sh:List Nat)(d b:af)(g:d.D->Option b.D)(args:List TV)(K:TV->List (Nat×av)->Option R):Option R:=let rec cells:List Nat->List TV->Option (List CV)|[],[]=>some []|0::s,.c v::r=>(cells s r).map (v::·)|(n+1)::s,.agg vs::r=>bif Nat.beq vs.length n then (cells s r).map (vs++·)else none|_,_=>none
 match cells sh args with|none=>none|some a=>aQ bM cY d [] 0 a [] λx a _=>match a with
 |[]=>(g x).bind λy=>match b.sL y with|[v]=>K (.c v) []|_=>none
 |_=>none
def dO(a b:Int):Bool:=decide (a<b)
def km(a b:Int):Bool:=decide (a<=b)
def gA(a b:Int):Bool:=decide (a=b)
def wo(a b:Bool):Bool:=a==b
def AR(a b:Int):Int:=bif dO a b then b else a
def AU(a b:Int):Int:=bif dO b a then b else a
def mX(h:Int)(n:Nat):Bool:=decide (0<=h/\h<=n)
def wq(l h:Int)(n:Nat):Bool:=decide (0<=l/\l<=h/\h<=n)
def bV{α:Type}(xs ys:List α):List α:=xs++ys
def yf(a b:ByteArray):ByteArray:=a++b
def dE(n bytes:Nat):Bool:=decide (n*bytes<=70368744177664/\0<bytes)
def qB(a b:ByteArray):Bool:=decide (a.size+b.size<=1099511627776)
def sR(n n':Int)(bytes:Nat):Bool:=decide (n=n'/\0<=n/\n*bytes<=70368744177664/\0<bytes)
def ko(a b:ByteArray):Bool:=a.toList==b.toList
def ob(a b:ByteArray):Bool:=Op.bytesLess a.toList b.toList
def sS(k:IntKind)(x y:Int):Int:=k.wrap (BitVec.ofInt k.bits x&&&BitVec.ofInt k.bits y).toNat
def BS(k:IntKind)(x y:Int):Int:=k.wrap (BitVec.ofInt k.bits x|||BitVec.ofInt k.bits y).toNat
def qC(k:IntKind)(x y:Int):Int:=k.wrap (BitVec.ofInt k.bits x^^^BitVec.ofInt k.bits y).toNat
def mH(k:IntKind)(x y:Int):Int:=k.wrap (BitVec.ofInt k.bits x&&&~~~BitVec.ofInt k.bits y).toNat
def cM(k:IntKind)(x y:Int):Int:=k.wrap (x+y)
def gS(k:IntKind)(x y:Int):Int:=k.wrap (x-y)
def zJ(k:IntKind)(x y:Int):Int:=k.wrap (x*y)
def AV(k:IntKind)(x y:Int):Int:=k.wrap (x.tdiv y)
def ph(x y:Int):Int:=x.tmod y
def zK(k:IntKind)(x y:Int):Int:=k.wrap (x*2^min y.toNat k.bits)
def zL(k:IntKind)(x y:Int):Int:=x.fdiv (2^min y.toNat k.bits)
def lg:TK->CV->CV->Option Bool|.int k,.int d a,.int c b=>if k=d/\k=c then some (gA a b)else none|.bool,.bool a,.bool b=>some (wo a b)|.str,.str a,.str b=>some (ko a b)|_,_,_=>none
def eI:List TK->List CV->List CV->Option Bool
 |[],[],[]=>some true|k::e,a::x,b::y=>match lg k a b with|none=>none|some c=>match e with
  |[]=>match x,y with|[],[]=>some c|_,_=>none
  |_=>match eI e x y with|some d=>some (c&&d)|none=>none
 |_,_,_=>none
noncomputable def qD{R:Type}(mu:Nat->Option av)(v:CV)(K:Bool->Option R):Option R:=match v with|.cg=>K true|v=>aE mu v λ_ xs=>bif xs.isEmpty then mU (K true) (K false)else K false
noncomputable def iP{R:Type}(mu:Nat->Option av)(e:TK)(eq:Option (List TK))(d:BinOp)(x y:TV)(K:TV->Option R):Option R:=match x,y with
 |.c (.int k a),.c (.int g b)=>match d with|.shl=>bif dO b 0 then none else K (.c (.int k (zK k a b)))|.shr=>bif dO b 0 then none else K (.c (.int k (zL k a b)))|d=>if k=g then (match d with|.add=>K (.c (.int k (cM k a b)))|.sub=>K (.c (.int k (gS k a b)))|.mul=>K (.c (.int k (zJ k a b)))|.quo=>bif gA b 0 then none else K (.c (.int k (AV k a b)))|.rem=>bif gA b 0 then none else K (.c (.int k (ph a b)))|.and=>K (.c (.int k (sS k a b)))|.or=>K (.c (.int k (BS k a b)))|.xor=>K (.c (.int k (qC k a b)))|.andNot=>K (.c (.int k (mH k a b)))|.eql=>K (.c (.bool (gA a b)))|.neq=>K (.c (.bool (!gA a b)))|.lss=>K (.c (.bool (dO a b)))|.leq=>K (.c (.bool (km a b)))|.gtr=>K (.c (.bool (dO b a)))|.geq=>K (.c (.bool (km b a)))|_=>none)else none
 |.c (.str a),.c (.str b)=>match d with|.add=>bif qB a b then K (.c (.str (yf a b)))else none|.eql=>K (.c (.bool (ko a b)))|.neq=>K (.c (.bool (!ko a b)))|.lss=>K (.c (.bool (ob a b)))|.leq=>K (.c (.bool (ob a b||ko a b)))|.gtr=>K (.c (.bool (!(ob a b||ko a b))))|.geq=>K (.c (.bool (!ob a b)))|_=>none
 |.c (.bool a),.c (.bool b)=>match e with
  |.bool=>match d with|.eql=>K (.c (.bool (wo a b)))|.neq=>K (.c (.bool (!wo a b)))|_=>none
  |_=>none
 |.agg a,.agg b=>match eq with
  |some f=>match d with
   |.eql=>match eI f a b with|some c=>K (.c (.bool c))|none=>none
   |.neq=>match eI f a b with|some c=>K (.c (.bool (!c)))|none=>none
   |_=>none
  |none=>none
 |.c v,.c .cg=>match e with
  |.slice _=>match d with|.eql=>qD mu v λb=>K (.c (.bool b))|.neq=>qD mu v λb=>K (.c (.bool (!b)))|_=>none
  |_=>none
 |_,_=>none
def aY:af:=.cons (.int .u8) .nil
def zk(n:Int):aY.D:=(n,())
def ku(x:aY.D):Int:=Prod.fst x
def bQ(xs:List aY.D):ByteArray:=⟨(xs.map λx=>UInt8.ofNat (Int.toNat (ku x))).toArray⟩
def eo(s:ByteArray):List aY.D:=s.data.toList.map λb=>zk b.toNat
def cQ{R:Type}(mu:Nat->Option av)(es:af)(v:CV)(K:List es.D->Option R):Option R:=match v with
 |.cg=>K []|.str s=>match af.eq? aY es with|some ⟨h⟩=>K (cX h (eo s))|none=>none
 |v=>aE mu v λa ys=>match af.eq? a es with|some ⟨h⟩=>K (cX h ys)|none=>none
def iC(mu:Nat->Option av)(ms:List Md)(v:CV):Option (List (Nat×av)):=match v with
 |.own id=>match mu id with|some (.row _ a _ _)=>bif cJ a then (bif cJ ms then some []else none)else (bif dG ms a then some [(id,.aB)]else none)|some (.fz _ _)=>bif cJ ms then some []else none|_=>none
 |.ro _ _|.cg|.str _=>bif cJ ms then some []else none|_=>none
def mI(id:Nat):CV->Bool|.own id'=>Nat.beq id id'|_=>false
def gU{R:Type}(mu:Nat->Option av)(idb:Nat)(es:af)(ms:List Md)(bytes:Nat)(s x:CV)(K:TV->List (Nat×av)->Option R):Option R:=match s with
 |.cg=>match iC mu ms x with|none=>none|some a=>cQ mu es x λys=>bif dE ys.length bytes then K (.c (.own idb)) (a++[(idb,.row es ms ys 0)])else none
 |.own id=>match mu id with
  |some (.row d b xs _)=>match af.eq? d es with|none=>none|some ⟨h⟩=>match iC mu b x with|none=>none|some a=>bif mI id x then none else cQ mu es x λys=>bif dE (xs.length+ys.length) bytes then K (.c (.own idb)) (a++[(id,.aB),(idb,.row es b (bV (cX h xs) ys) 0)]) else none
  |_=>none
 |_=>none
def cE{R:Type}(mu:Nat->Option av)(es:af)(ms:List Md):(c:List (Nat×TV))->(i:Nat)->List aI->(List es.D->List aI->Option R)->Option R|[],_,us,K=>K [] us|p::r,i,us,K=>bif Nat.beq p.1 i then match cellsOf p.2 with|none=>none|some b=>aQ bM mu es ms (64*i) b us λx a us=>match a with|[]=>cE mu es ms r (i+1) us λl us=>K (x::l) us|_=>none else none
def bO(cells:List CV)(off:Nat):List CV->List CV|[]=>cells|v::vs=>bO (cells.set off v) (off+1) vs
def jo(a:List (Nat×Nat)):List (Nat×TV)->List CV->Option (List CV)|[],cells=>some cells|(i,v)::r,cells=>match a[i]?,cellsOf v with|some (off,n),some vs=>bif Nat.beq vs.length n&&Nat.ble (off+n) cells.length then jo a r (bO cells off vs)else none|_,_=>none
def et{R:Type}(mu:Nat->Option av)(v:CV)(n:Nat)(K:List CV->Option R):Option R:=match v with
 |.ptr id off=>match mu id with|some (.box cs)=>bif Nat.ble (off+n) cs.length then K ((cs.drop off).take n)else none|some (.eE es x)=>bif Nat.ble (off+n) es.len then K (((es.sL x).drop off).take n)else none|_=>none
 |.eO es x off=>bif Nat.ble (off+n) es.len then K (((es.sL x).drop off).take n)else none|.dF id sz i off=>match mu id with|some (.row es ms xs aF)=>bif Nat.ble (off+n) es.len&&Nat.beq sz es.len then (aC xs i).bind λx=>K (((es.aU ms (λj=>.nref id aF i j) 0 x).drop off).take n)else none|some (.fz es xs)=>bif Nat.ble (off+n) es.len&&Nat.beq sz es.len then (aC xs i).bind λx=>K (((es.sL x).drop off).take n)else none|_=>none
 |_=>none
def TV.kv(agg:Bool)(vs:List CV):TV:=bif agg then .agg vs else(match vs with|[v]=>.c v|_=>.un)
def bj{R:Type}(mu:Nat->Option av):(ts:af)->List Md->(j off:Nat)->List CV->ts.D->List aI->(ts.D->List aI->Option R)->Option R
 |.nil,_,_,_,vs,_,us,K=>match vs with|[]=>K () us|_=>none
 |.cons t ts,ms,j,off,vs,x,us,K=>match vs with|[]=>K x us|v::vs=>match off with|0=>ak bM mu t (cy ms) j v us λy us=>bj mu ts (cW ms) (j+1) 0 vs x.2 us λr us=>K (y,r) us|off+1=>bj mu ts (cW ms) (j+1) off (v::vs) x.2 us λr us=>K (x.1,r) us
def iQ{R:Type}(mu:Nat->Option av)(a:CV)(vs:List CV)(K:List (Nat×av)->Option R):Option R:=match a with
 |.ptr id off=>match mu id with|some (.box cs)=>bif Nat.ble (off+vs.length) cs.length then K [(id,.box (bO cs off vs))]else none|_=>none
 |.dF id sz i off=>match mu id with|some (.row es ms xs aF)=>bif Nat.ble (off+vs.length) es.len&&Nat.beq sz es.len then (aC xs i).bind λx=>bj mu es ms 0 off vs x [] λy us=>bif aP us&&!dQ id us then K (iM mu us++[(id,.row es ms (xs.set i y) (aF+1))])else none else none|_=>none
 |_=>none
def dx{R:Type}(mu:Nat->Option av)(es:af)(a:CV)(vs:List CV)(K:List (Nat×av)->Option R):Option R:=match a with
 |.ptr id 0=>match mu id with|some (.box cs)=>bif Nat.beq vs.length cs.length then (aQ (R:=es.D×List aI) bM (au mu [(id,.box vs)]) es [] 0 vs [] bN).bind λp=>match p.2 with|[]=>K [(id,.box vs),(id,.eE es p.1)]|_::_=>none else none|_=>none
 |_=>none
def iR{R α:Type}(a b:Option TV)(n:Nat)(xs:α)(f:Nat->Nat->α->Option R):Option R:=match a,b with|none,none=>f 0 n xs|some (.c (.int _ l)),none=>bif mX l n then f l.toNat n xs else none|none,some (.c (.int _ h))=>bif mX h n then f 0 h.toNat xs else none|some (.c (.int _ l)),some (.c (.int _ h))=>bif wq l h n then f l.toNat h.toNat xs else none|_,_=>none
def bq{R:Type}(mu:Nat->Option av)(v:CV)(a b:Option TV)(K:TV->List (Nat×av)->Option R):Option R:=match v with
 |.str s=>iR a b s.size s λl h s=>K (.c (.str (s.extract l h))) []|.ro es xs=>iR a b xs.length xs λl h xs=>K (.c (.ro es ((xs.drop l).take (h-l)))) []|.cg=>iR a b 0 () λ_ _ _=>K (.c .cg) []|.own id=>match mu id with|some (.row es _ xs _)=>iR a b xs.length xs λl h ys=>K (.c (.ro es ((ys.drop l).take (h-l)))) [(id,.fz es xs)]|some (.fz es xs)=>iR a b xs.length xs λl h ys=>K (.c (.ro es ((ys.drop l).take (h-l)))) []|_=>none
 |_=>none
def dP(mu:Nat->Option av)(n:Nat)(v:CV):Bool:=match v with
 |.cg=>true|.ro es _=>Nat.beq es.len n|.own id=>match mu id with|some (.row es _ _ _)=>Nat.beq es.len n|some (.fz es _)=>Nat.beq es.len n|_=>false
 |.nref id _ _ j=>match mu id with
  |some (.row es _ _ _)=>match es.wg j with|some (.sl a)=>Nat.beq a.len n|_=>false
  |_=>false
 |_=>false
def lj{R:Type}(mu:Nat->Option av)(v:CV)(n:Int)(K:CV->Option R):Option R:=match v with
 |.ro es xs=>(bK xs n).bind λx=>K (.eO es x 0)|.own id=>match mu id with|some (.row es _ xs _)=>(bK xs n).bind λ_=>K (.dF id es.len n.toNat 0)|some (.fz es xs)=>(bK xs n).bind λx=>K (.eO es x 0)|_=>none
 |_=>none
def cU(k:IntKind)(d:Bool):Int->List TV->Option Int|a,[]=>some a|a,.c (.int e b)::r=>if k=e then cU k d (bif d then AR a b else AU a b) r else none|_,_=>none
def mD{R:Type}(mu:Nat->Option av)(v:CV)(K:Int->Option R):Option R:=match v with|.cg=>K 0|v=>aE mu v λ_ xs=>K xs.length
def cN(C:Ctx)(t:Nat):Option (Nat×TI):=match C.ty t with
 |some b=>match b.k with
  |.slice e=>match C.ty e with|some a=>bif Nat.beq (C.es e).len a.size then some (e,a)else none|none=>none
  |_=>none
 |none=>none
def yg:TK->Bool|.slice _=>true|.str=>true|_=>false
def aZ{R:Type}(C:Ctx)(mu:Nat->Option av)(idb rid i:Nat)(b:Builtin)(ts:List Nat)(args:List TV)(K:TV->List (Nat×av)->Option R):Option R:=match b,args with
 |.len,[.c v]=>match ts with
  |[t]=>match C.ty t with
   |some f=>match f.k,v with|.str,.str s=>K (.c (.int .i64 s.size)) []|.slice _,.str _=>none|.slice _,v=>mD mu v λn=>K (.c (.int .i64 n)) []|_,_=>none
   |none=>none
  |_=>none
 |.max,.c (.int k a)::r=>match cU k true a r with|some n=>K (.c (.int k n)) []|none=>none
 |.min,.c (.int k a)::r=>match cU k false a r with|some n=>K (.c (.int k n)) []|none=>none
 |.append,[.c s,.c x]=>match ts with
  |[t,h]=>match cN C t,C.ty h with|some (e,g),some d=>bif yg d.k then gU mu idb (C.es e) (C.iL rid i) g.bytes s x K else none|_,_=>none
  |_=>none
 |_,_=>none
def dg(C:Ctx)(s f:Nat):Option (Nat×Nat):=match C.ty s with
 |some a=>match a.k with
  |.struct=>match a.dS[f]?,a.uR[f]? with|some (off,n),some _=>bif Nat.beq n 0 then none else some (off,n)|_,_=>none
  |_=>none
 |none=>none
def iS(C:Ctx)(s f:Nat):Option Bool:=match C.ty s with|some a=>a.uR[f]?|none=>none
def fm(env:Nat->TV):List Operand->Option (List Nat)|[]=>some []|x::r=>match ae env x,fm env r with|.c (.ptr id off),some l=>bif Nat.beq off 0 then some (id::l)else none|_,_=>none
def mY(t:Ty):(es:af)->es.D->Option (List (af.cons t .nil).D)|.nil,_=>some []|.cons a ts,x=>match Ty.eq? a t with
 |some ⟨h⟩=>match mY t ts x.2 with|some l=>some ((h▸x.1,())::l)|none=>none
 |none=>none
def bR{R:Type}(mu:Nat->Option av)(size:Nat)(v:CV)(K:TV->List (Nat×av)->Option R):Option R:=
 match v with|.ptr id off=>bif Nat.beq off 0 then match mu id with
 |some (.eE es x)=>bif Nat.beq es.len size then match es,x with
 |.cons t ts,x=>match mY t (.cons t ts) x with|some l=>K (.c (.ro (.cons t .nil) l)) []|none=>none
 |.nil,_=>none else none|_=>none else none|_=>none
noncomputable def bE{R:Type}(C:Ctx)(env:Nat->TV)(mu:Nat->Option av)(idb rid i:Nat)(o:Oper)(K:TV->List (Nat×av)->Option R):Option R:=match o.op with
 |.move x|.assign x=>K (ae env x) []|.pick c a b=>match ae env c with|.c (.bool t)=>bif t then K (ae env a) []else K (ae env b) []|_=>none
 |.alloc e=>match C.ty e with|some t=>K (.c (.ptr idb 0)) [(idb,.box t.zero)]|none=>none
 |.box t v=>match cellsOf (ae env v)with
  |some cs=>bif (C.iL rid i).isEmpty then K (.c (.ptr idb 0)) [(idb,.box cs)]else (aQ (R:=(C.es t).D×List aI) bM (λ_=>none) (C.es t) [] 0 cs [] bN).bind λp=>match p.2 with|[]=>K (.c (.ptr idb 0)) [(idb,.box cs),(idb,.eE (C.es t) p.1)]|_::_=>none
  |none=>none
 |.build t q=>match C.ty t with
  |some j=>match j.k with
   |.struct=>match jo j.dS (q.toList.map λp=>(p.1,ae env p.2)) j.zero with|some cs=>K (.agg cs) []|none=>none
   |_=>none
  |none=>none
 |.buildSlice t len q=>match cN C t with|some (e,m)=>bif Nat.ble (len*m.size) 16777216&&Nat.beq q.size len&&Nat.blt 0 m.size&&Nat.ble m.size 62 then cE mu (C.es e) (C.iL rid i) (q.toList.map λp=>(p.1,ae env p.2)) 0 [] λxs us=>bif aP us then K (.c (.own idb)) (iM mu us++[(idb,.row (C.es e) (C.iL rid i) xs 0)]) else none else none|none=>none
 |.load t a=>match C.ty t,ae env a with|some j,.c v=>et mu v j.size λcs=>K (TV.kv (match j.k with|.struct=>true|_=>false) cs) []|_,_=>none
 |.store t a v=>match C.ty t,ae env a,cellsOf (ae env v) with|some j,.c a,some vs=>bif Nat.beq vs.length j.size then (bif (C.iL rid i).isEmpty then iQ mu a vs (λms=>K .kl ms) else dx mu (C.es t) a vs (λms=>K .kl ms)) else none|_,_,_=>none
 |.nilCheck x=>match ae env x with|.c (.ptr id off)=>K (.c (.ptr id off)) []|.c (.dF id sz i off)=>K (.c (.dF id sz i off)) []|.c (.eO es y off)=>K (.c (.eO es y off)) []|_=>none
 |.binOp w t x y _=>iP mu (match C.ty t with|some j=>j.k|none=>.eH) (match C.ty t with|some j=>j.eq|none=>none) w (ae env x) (ae env y) λv=>K v []|.unOp w _ x=>match w,ae env x with|.not,.c (.bool b)=>K (.c (.bool (!b))) []|.neg,.c (.int k n)=>K (.c (.int k (gS k 0 n))) []|.xor,.c (.int k n)=>K (.c (.int k (qC k (if k.signed then-1 else k.max) n))) []|_,_=>none
 |.convert s d x=>match C.ty s,C.ty d,ae env x with
  |some J,some j,.c v=>match j.k,v with
   |.int r,.int _ n=>K (.c (.int r (r.wrap n))) []|.str,.str s=>K (.c (.str s)) []|.str,v=>match J.k with
    |.slice e=>match C.ty e with
     |some m=>match m.k with
      |.int .u8=>match v with|.cg=>K (.c (.str ⟨#[]⟩)) []|v=>aE mu v λes xs=>match af.eq? es aY with|some ⟨h⟩=>K (.c (.str (bQ (cX h xs)))) []|none=>none
      |_=>none
     |none=>none
    |_=>none
   |_,_=>none
  |_,_,_=>none
 |.makeFunc (.func f) E B=>bif E.isEmpty then match fm env B.toList with|some l=>K (.c (.ua f l)) []|none=>none else none|.makeSlice t l c=>match cN C t,ae env l,ae env c with|some (e,m),.c (.int k n),.c (.int r n')=>if k=.i64/\r=.i64 then bif Nat.blt 0 m.size&&sR n n' m.bytes then aQ bM mu (C.es e) (C.iL rid i) 0 m.zero [] λz F us=>match F,us with|[],[]=>K (.c (.own idb)) [(idb,.row (C.es e) (C.iL rid i) (List.replicate n.toNat z) 0)]|_,_=>none else none else none|_,_,_=>none
 |.slice t x u A none=>match C.ty t,ae env x with
  |some j,.c v=>match j.k,v with
   |.str,.str s=>bq mu (.str s) (u.map (ae env)) (A.map (ae env)) K|.slice _,v=>match cN C t,v with|_,.str _=>none|some (e,_),v=>bif dP mu (C.es e).len v then bq mu v (u.map (ae env)) (A.map (ae env)) K else none|none,_=>none
   |.struct,v=>bif j.uR.isEmpty&&!j.dS.isEmpty&&u.isNone&&A.isNone then bR mu j.size v K else none|_,_=>none
  |_,_=>none
 |.fieldAddr s x f=>match dg C s f,ae env x with
  |some (off,_),.c v=>match v with|.ptr id o=>K (.c (.ptr id (o+off))) []|.dF id sz i o=>K (.c (.dF id sz i (o+off))) []|.eO es y o=>K (.c (.eO es y (o+off))) []|_=>none
  |_,_=>none
 |.field s x f=>match dg C s f,ae env x,iS C s f with|some (off,n),.agg vs,some G=>bif G then K (.agg ((vs.drop off).take n)) [] else (match ((vs.drop off).take n) with|[v]=>K (.c v) []|_=>none)|_,_,_=>none
 |.indexAddr t x y=>match cN C t,ae env x,ae env y with|some (e,_),.c v,.c (.int _ n)=>bif dP mu (C.es e).len v then lj mu v n λp=>K (.c p) [] else none|_,_,_=>none
 |.index t x y=>match C.ty t,ae env x,ae env y with
  |some j,.c (.str s),.c (.int _ n)=>match j.k with|.str=>(bK s.data.toList n).bind λb=>K (.c (.int .u8 b.toNat)) []|_=>none
  |_,_,_=>none
 |.extract x i=>match ae env x with
  |.we vs=>match vs[i]? with|some v=>K (wm v) []|none=>none
  |_=>none
 |.call c=>match c.callee with
  |.builtin b=>aZ C mu idb rid i b c.argTypes.toList (c.args.toList.map (ae env)) K|.value f=>match ae env f with|.c (.uQ f)=>jF C mu idb f (c.args.toList.map (ae env)) K|.c (.qy sh I H g)=>gC mu sh I H g (c.args.toList.map (ae env)) K|_=>none
  |_=>none
 |_=>none
def lq(env:Nat->TV)(o:Oper)(ms:List (Nat×av)):List Wr:=match o.op with
 |.store _ a v=>match ae env a,cellsOf (ae env v),ms with|.c (.ptr id off),some vs,[_]=>[.cell id off vs.length]|_,_,_=>ms.map λx=>.all x.1
 |_=>ms.map λx=>.all x.1
def St.put(st:St)(a:Option Nat)(v:TV)(ms:List (Nat×av))(wr:List Wr):St:={env:=match a with|some d=>bW st.env d v|none=>st.env,mu:=au st.mu ms,tw:=match a with|some d=>d::st.tw|none=>st.tw,mw:=wr++st.mw,nx:=st.nx}
def St.refine(st:St)(t:Nat)(b:Bool):St:={st with env:=bW st.env t (.c (.bool b))}
def jG(nt:Nat):Option Nat->Bool|some d=>Nat.blt d nt|none=>true
def wu(n:Nat)(ms:List (Nat×av)):Bool:=ms.all λx=>Nat.blt x.1 n
noncomputable def qE{R:Type}(C:Ctx)(rid:Nat)(all:List Oper)(nx:Nat):List Oper->(i:Nat)->St->(St->Option R)->Option R|[],_,st,K=>K st|o::r,i,st,K=>bif jG C.nt o.dst then let run(st:St):Option R:=bE C st.env st.mu ((nx+i)*2048) rid i o λv ms=>bif wu ((nx+i)*2048+2048) ms then qE C rid all nx r (i+1) (st.put o.dst v ms (lq st.env o ms)) K else none
 let skip (st:St):Option R:=qE C rid all nx r (i+1) (st.put o.dst .kl [] []) K
 match o.guard with|none=>run st|some (j,a)=>match (all[j]?).bind (·.dst) with|none=>none|some d=>match st.env d with|.c (.bool b)=>bif b then (bif a then run (st.refine d true) else skip (st.refine d true)) else (bif a then skip (st.refine d false) else run (st.refine d false))|.kl=>skip st|_=>none else none
def wv:Ty->Bool|.int _=>true|.bool=>true|.str=>true|_=>false
def gV:af->Bool|.nil=>true|.cons t ts=>wv t&&gV ts
def bH(C:Ctx):Op->Bool
 |.move _|.assign _|.pick ..|.alloc _|.box ..|.build ..|.nilCheck _|.unOp ..|.fieldAddr ..|.field ..|.extract ..|.makeFunc ..=>false|.binOp _ t _ _ _=>match C.ty t with
  |some a=>match a.k with|.slice _=>true|_=>false
  |none=>true
 |.buildSlice t _ _=>match cN C t with|some (e,_)=>!gV (C.es e)|none=>true
 |_=>true
def ox(C:Ctx):Op->Bool
 |.binOp _ t _ _ _=>match C.ty t with
  |some a=>match a.k with|.slice _=>false|_=>true
  |none=>false
 |_=>true
def cj:List Oper->List Nat->List Nat|[],a=>a|o::r,a=>cj r (a++[o.after.toList.foldl (λs e=>bif Region.binds .any e then Nat.lor (Nat.lor s (Nat.pow 2 e.on)) (a.getD e.on 0)else s) 0])
def aL(m i:Nat):Bool:=Nat.beq (Nat.land (Nat.shiftRight m i) 1) 1
def kx(all:Array Oper)(o:Oper)(m:Nat):List Oper->Nat->Nat->Bool|[],_,_=>true|x::r,i,j=>(bif Nat.blt i j then aL m i||x.apart all o else true)&&kx all o m r (i+1) j
def lr(C:Ctx)(all:Array Oper)(ops:List Oper):List Oper->List Nat->Nat->Bool|[],_,_=>true|o::r,a,j=>ox C o.op&&Nat.blt (a.headD 0) (Nat.pow 2 j)&&kx all o (a.headD 0) ops 0 j&&lr C all ops r a.tail (j+1)
def ky(cY:Nat->Option av)(m:Nat):List (Nat×List (Nat×av))->Nat->Option av|[]=>cY|(k,ms)::r=>bif aL m k then au (ky cY m r) ms else ky cY m r
def qF(C:Ctx)(rid i:Nat):Option (List Nat):=(C.jn (3000000+rid*1024+i)).map (·.aB)
def wx(C:Ctx)(rid i x:Nat):Bool:=match qF C rid i with|none=>true|some l=>l.any (Nat.beq x)
def iT(C:Ctx)(rid i x:Nat)(o:Op):Bool:=bH C o&&wx C rid i x
def jQ(l:List Nat):CV->Bool|.ro _ _=>true|.cg=>true|.str _=>true|.eO _ _ _=>true|.own id=>l.any (Nat.beq id)|.nref id _ _ _=>l.any (Nat.beq id)|.ptr id _=>l.any (Nat.beq id)|.dF id _ _ _=>l.any (Nat.beq id)|_=>false
def wy(mu:Nat->Option av):CV->Bool
 |.ro _ _=>true|.cg=>true|.own id=>match mu id with|some (.fz _ _)=>true|_=>false
 |_=>false
def wz(C:Ctx)(rid i:Nat)(env:Nat->TV)(mu:Nat->Option av)(o:Op):Bool:=match qF C rid i with|none=>true|some l=>match o with
 |.load _ a=>match ae env a with|.c v=>jQ l v|_=>false
 |.indexAddr _ a _=>match ae env a with|.c v=>jQ l v|_=>false
 |.slice _ a _ _ none=>match ae env a with|.c v=>jQ l v&&wy mu v|_=>false
 |.call c=>match c.callee with
  |.builtin .len=>match c.args.toList.map (ae env)with|[.c v]=>jQ l v|_=>false
  |_=>false
 |_=>false
def oy(C:Ctx)(rid x m i:Nat)(q:Nat->Bool):List Oper->List Nat->Nat->Bool|o::r,a,j=>(Nat.beq i j||aL m j||aL (a.headD 0) i||!iT C rid j x o.op||!q (a.headD 0))&&oy C rid x m i q r a.tail (j+1)|[],_,_=>true
def lu(C:Ctx)(rid:Nat)(ops:List Oper)(a:List Nat)(nx m i:Nat)(ms:List (Nat×av)):Bool:=ms.all λx=>let k:=Nat.div x.1 2048;Nat.beq k (nx+i)||(bif Nat.blt k nx then oy C rid x.1 m i (λ_=>true) ops a 0 else aL m (k-nx)&&oy C rid x.1 m i (λp=>aL p (k-nx)) ops a 0)
noncomputable def sV{R:Type}(C:Ctx)(rid:Nat)(all:List Oper)(e:List Nat)(nx:Nat)(cY:Nat->Option av):List Oper->(i:Nat)->List (Nat×List (Nat×av))->St->(St->Option R)->Option R|[],_,_,st,K=>K st|o::r,i,a,st,K=>bif jG C.nt o.dst then let m:=e.getD i 0
 let g (st:St)(v:TV)(ms:List (Nat×av))(wr:List Wr):Option R:=bif lu C rid all e nx m i ms then sV C rid all e nx cY r (i+1) ((i,ms)::a) (st.put o.dst v ms wr) K else none
 let run (st:St):Option R:=bif wz C rid i st.env (ky cY m a) o.op then bE C st.env (ky cY m a) ((nx+i)*2048) rid i o λv ms=>g st v ms (lq st.env o ms) else none
 let skip (st:St):Option R:=g st .kl [] []
 match o.guard with|none=>run st|some (j,f)=>match (all[j]?).bind (·.dst) with|none=>none|some d=>match st.env d with|.c (.bool b)=>bif b then (bif f then run (st.refine d true) else skip (st.refine d true)) else (bif f then skip (st.refine d false) else run (st.refine d false))|.kl=>skip st|_=>none else none
def qG(st:St)(id:Nat):St:=match st.mu id with|some (.row es _ xs _)=>st.put none .kl [(id,.fz es xs)] [.all id]|_=>st
def oz(C:Ctx)(rid:Nat)(st:St):St:=match C.jn (4000000+rid)with|none=>st|some a=>a.aB.foldl qG st
noncomputable def kz{R:Type}(C:Ctx)(rid:Nat)(ops:Array Oper)(b:Bool)(st:St)(K:St->Option R):Option R:=bif b then bif lr C ops ops.toList ops.toList (cj ops.toList []) 0 then sV C rid ops.toList (cj ops.toList []) st.nx st.mu ops.toList 0 [] st λa=>K {a with nx:=st.nx+ops.size}else none else qE C rid ops.toList st.nx ops.toList 0 st λa=>K {a with nx:=st.nx+ops.size}
def cF:cL->Ty|.t _ ty _=>ty|.b _ _ ty _=>ty|.r _ es _=>.sl es
def fq:cL->Md|.t _ _ md=>md|.b _ _ _ md=>md|.r _ _ ms=>.own ms
def ay:List cL->af|[]=>.nil|x::r=>.cons (cF x) (ay r)
def ly(st:St):cL->CV
 |.t n _ _=>match st.env n with|.c v=>v|_=>.un
 |.b id j _ _=>match st.mu id with|some (.box cs)=>cs.getD j .un|_=>.un
 |.r id _ _=>.own id
def aN(nx k:Nat):cL->Nat|.r id _ _=>id|_=>nx*2048+k
def dh{R:Type}(st:St)(nx:Nat):(a:List cL)->(k:Nat)->List aI->((ay a).D->List aI->Option R)->Option R|[],_,us,K=>K () us|x::r,k,us,K=>ak bM st.mu (cF x) (fq x) (aN nx k x) (ly st x) us λv us=>dh st nx r (k+1) us λw us=>K (v,w) us
def wA(a:List cL)(id j:Nat):Bool:=a.any λx=>match x with|.b i k _ _=>Nat.beq i id&&Nat.beq k j|_=>false
def wB(a:List cL)(id:Nat):Bool:=a.any λx=>match x with|.r i _ _=>Nat.beq i id|_=>false
def kC(a:List cL)(id:Nat):(off n:Nat)->Bool|_,0=>true|off,n+1=>wA a id off&&kC a id (off+1) n
def qH(b:St)(a:jP):Wr->Bool|.all id=>Nat.ble (b.nx*2048) id||a.aB.any (Nat.beq id)||wB a.ah id||(match b.mu id with|some (.box cs)=>Nat.blt 0 cs.length&&kC a.ah id 0 cs.length|_=>false)|.cell id off n=>Nat.ble (b.nx*2048) id||a.aB.any (Nat.beq id)||kC a.ah id off n
def sW(a:jP)(n:Nat):Bool:=a.fh.any (Nat.beq n)||a.ah.any λx=>match x with|.t m _ _=>Nat.beq m n|_=>false
def wC(b st:St)(a:jP):aI->Bool|.mv id to=>Nat.ble (b.nx*2048) id||a.aB.any (Nat.beq id)||Nat.beq id to|.pm id=>Nat.ble (b.nx*2048) id||a.aB.any (Nat.beq id)||(match st.mu id with|some (.fz _ _)=>true|_=>false)
def qI:Ty->Md->Bool|_,.sh=>true|.sl _,.own _=>true|_,.own _=>false
def gW(c:St)(a:jP):Bool:=(a.ah.all λx=>match x with|.t _ ty md=>qI ty md|.b id j ty md=>qI ty md&&(match c.mu id with|some (.box cs)=>Nat.blt j cs.length&&!a.aB.any (Nat.beq id)|_=>false)|.r id _ _=>(match c.mu id with|some (.row _ _ _ _)=>!a.aB.any (Nat.beq id)|_=>false))&&(a.aB.all λid=>Nat.blt id (c.nx*2048))&&Nat.ble a.ah.length 2048
def mZ:cL->List Nat|.t n _ _=>[n]|_=>[]
def dI:cL->List Wr|.b id j _ _=>[.cell id j 1]|.r id _ _=>[.all id]|_=>[]
def aG(k:Nat)(st:St)(x:cL)(v:(cF x).D):St:=match x,v with
 |.t n ty md,v=>match md with|.sh=>{st with env:=bW st.env n (.c (ty.ro v))}|.own ms=>{st with env:=bW st.env n (.c (.own k)),mu:=au st.mu (cZ ty md k v)}
 |.b id j ty md,v=>let put (st:St)(cv:CV):St:=match st.mu id with|some (.box cs)=>{st with mu:=bW st.mu id (some (.box (cs.set j cv)))}|_=>st
 match md with|.sh=>put st (ty.ro v)|.own ms=>let st:=put st (.own k);{st with mu:=au st.mu (cZ ty md k v)}
 |.r id es ms,v=>match st.mu id with|some (.row _ _ _ aF)=>{st with mu:=bW st.mu id (some (.row es ms v (aF+1)))}|_=>st
def bP(nx:Nat):(a:List cL)->(k:Nat)->St->(ay a).D->St|[],_,st,_=>st|x::r,k,st,v=>bP nx r (k+1) (aG (aN nx k x) st x v.1) v.2
def iG(mu:Nat->Option av):List aI->List (Nat×av)|[]=>[]|.mv id to::r=>(bif Nat.beq id to then[]else[(id,.aB)])++iG mu r|.pm id::r=>(match mu id with|some (.row es _ xs _)=>[(id,.fz es xs)]|some (.box _)=>[(id,.aB)]|_=>[])++iG mu r
def ai(b:St)(us:List aI)(a:jP)(v:(ay a.ah).D):St:=let env:=λn=>bif a.fh.any (Nat.beq n)then .un else b.env n
 bP b.nx a.ah 0 {env:=env,mu:=au (au b.mu (iG b.mu us)) (a.aB.map λn=>(n,.aB)),nx:=b.nx+1,tw:=a.ah.flatMap mZ++(a.fh++b.tw),mw:=a.ah.flatMap dI++(us.map (λu=>.all (aH u))++(a.aB.map .all++b.mw))} v
def bn{S E:Type}(f:S->Option (Sum S E)):Nat->S->Option E|0,_=>none|n+1,s=>match f s with|none=>none|some (.inl s')=>bn f n s'|some (.inr e)=>some e
noncomputable def aR{S E:Type}(f:S->Option (Sum S E))(s:S):Option E:=@dite _ (∃n e,bn f n s=some e) (Classical.propDecidable _) (λh=>some (Classical.choose (Classical.choose_spec h))) (λ_=>none)
def bY{R:Type}(b st:St)(a:jP)(K:(ay a.ah).D->Option R):Option R:=bif st.tw.all (sW a)&&st.mw.all (qH b a)then dh st b.nx a.ah 0 [] λv us=>bif aP us&&us.all (wC b st a)then K v else none else none
def dA:Code->Nat|.region r _ _=>r|.seq a _=>dA a|.block _ c=>dA c|.loop c=>dA c|.cond _ a _=>dA a|_=>1000000
def du(a st:St):St:={st with tw:=st.tw++a.tw,mw:=st.mw++a.mw}
noncomputable def di(C:Ctx){Y:Type}(i:{R:Type}->St->(Y->Option R)->Option R):Code->{R:Type}->(g:Y->R)->St->(f:St->Option R)->(h:Nat->St->Option R)->Option R
 |.skip,_,_,st,f,_=>f st|.region r ops o,_,_,st,f,_=>kz C r ops o (oz C r st) f|.seq a b,_,g,st,f,h=>match C.jn (dA b) with|none=>di C i a g st (λe=>di C i b g e f h) h|some d=>bif gW st d then (di C i a (R:=Sum (ay d.ah).D _) (λy=>.inr (g y)) {st with tw:=[],mw:=[]} (λe=>bY st e d λv=>some (.inl v)) (λid e=>(h id {e with tw:=e.tw++st.tw,mw:=e.mw++st.mw}).map .inr)).bind λr=>Sum.elim (λv=>di C i b g (ai st [] d v) f h) some r else none
 |.cond c a b,_,g,st,f,h=>match c with
  |.tmp t=>match st.env t with|.c (.bool x)=>bif x then di C i a g (st.refine t true) f h else di C i b g (st.refine t false) f h|_=>none
  |_=>none
 |.block id c,R,g,st,f,h=>match C.lp id with|none=>di C i c g st f λid' e=>bif Nat.beq id' id then f e else h id' e|some d=>match c with
  |.loop k=>match C.jn (id+2000000) with|none=>dh st st.nx d.ah 0 [] λv0 us=>bif aP us&&gW st d then(aR (E:=Sum (ay d.ah).D R) (λv=>di C i k (R:=Sum (ay d.ah).D (Sum (ay d.ah).D R)) (λy=>.inr (.inr (g y))) {ai st us d v with tw:=[],mw:=[]} (λe=>bY st e d λv=>some (.inl v)) (λid' e=>bif Nat.beq id' id then bY st e d λv=>some (.inr (.inl v)) else none)) v0).bind λr=>Sum.elim (λv=>f (ai st us d v)) some r else none|some j=>dh st st.nx d.ah 0 [] λv0 us=>bif aP us&&gW st d then(aR (E:=Sum (ay d.ah).D R) (λv=>di C i k (R:=Sum (ay d.ah).D (Sum (ay d.ah).D R)) (λy=>.inr (.inr (g y))) {ai st us d v with tw:=[],mw:=[]} (λe=>bif e.tw.all (sW d)&&e.mw.all (qH st d) then bY st e d λv=>some (.inl v) else Option.map (λr=>.inr (.inr r)) (dh (du (ai st us d v) e) e.nx j.ah 0 [] λv0 l=>bif aP l&&gW (du (ai st us d v) e) j then(aR (E:=Sum (ay j.ah).D R) (λm=>di C i k (R:=Sum (ay j.ah).D (Sum (ay j.ah).D R)) (λy=>.inr (.inr (g y))) {ai (du (ai st us d v) e) l j m with tw:=[],mw:=[]} (λn=>bY (du (ai st us d v) e) n j λv=>some (.inl v)) (λid' n=>bif Nat.beq id' id then bY (du (ai st us d v) e) n j λv=>some (.inr (.inl v)) else none)) v0).bind λr=>Sum.elim (λm=>f (ai (du (ai st us d v) e) l j m)) some r else none)) (λid' e=>bif Nat.beq id' id then bY st e d λv=>some (.inr (.inl v)) else none)) v0).bind λr=>Sum.elim (λv=>f (ai st us d v)) some r else none
  |_=>none
 |.exit id,_,_,st,_,h=>h id st|.ret,_,g,st,_,_=>i st λy=>some (g y)|_,_,_,_,_,_=>none
noncomputable def sY{A B:Type}(R:Nat->A->Option B)(x:A):Option B:=@dite _ (∃k y,R k x=some y) (Classical.propDecidable _) (λh=>R (Classical.choose h) x) (λ_=>none)
theorem oA{A B:Type}{R:Nat->A->Option B}{x:A}{y:B}(h:sY R x=some y):∃k,R k x=some y:=by
 unfold sY at h;split at h;·grind
 grind
theorem yh{A B:Type}{R:Nat->A->Option B}{x:A}(h:∃k y,R k x=some y):∃y,sY R x=some y:=by grind[sY]
end Go.Tm
namespace Go.Tm
open Go
def fO(m:Nat)(g:bX)(x:g.ts.D):TV:=match g.k with
 |.c=>match bc g.ts g.ms (64*m+1) x with|[v]=>.c v|_=>.un
 |.agg=>.agg (bc g.ts g.ms (64*m+1) x)|.wc=>match bc g.ts g.ms (64*m+1) x with|[v]=>.c v|_=>.un
 |.wa=>.agg (bc g.ts g.ms (64*m+1) x)|.rp=>.c (.eO g.ts x 0)|_=>.c (.ptr (64*m) 0)
def bf(m:Nat)(g:bX)(x:g.ts.D):List (Nat×av):=match g.k with|.rp=>[]|.io=>(64*m,.box (bc g.ts g.ms (64*m+1) x))::aA g.ts g.ms (64*m+1) x|_=>aA g.ts g.ms (64*m+1) x
def dJ:(a:List bX)->(m:Nat)->GD a->Nat->TV|[],_,_=>λ_=>.un|g::a,m,x=>bW (dJ a (m+1) x.2) m (fO m g x.1)
def bU:(a:List bX)->(m:Nat)->GD a->List (Nat×av)|[],_,_=>[]|g::a,m,x=>bf m g x.1++bU a (m+1) x.2
def mJ(ins:List bX)(x:GD ins):St:={env:=dJ ins 0 x,mu:=au cY (bU ins 0 x),tw:=[],mw:=[],nx:=1}
def qJ:PK->TK->Bool|.agg,.struct=>true|.c,.struct=>false|.c,_=>true|_,_=>false
def yi{R:Type}(C:Ctx)(st:St)(g:bX)(to:Nat)(d:ResultVar)(us:List aI)(K:List CV->List aI->Option R):Option R:=match d with
 |.tmp t=>match g.k,st.env t with
  |.c,.c v=>K [v] us|.agg,.agg vs=>K vs us|.np,.c (.ptr id 0)=>match st.mu id with|some (.box cs)=>K cs (.mv id to::us)|_=>none
  |_,_=>none
 |.cell a t=>match C.ty t,st.env a with|some b,.c v=>bif qJ g.k b.k then et st.mu v b.size λcs=>K cs us else none|_,_=>none
def na{R:Type}(C:Ctx)(st:St):(aX:List bX)->(r:Nat)->List ResultVar->(io:List Tg)->List aI->(GD aX->List aI->Option R)->Option R
 |[],_,b,io,us,K=>match b,io with|[],[]=>K () us|_,_=>none
 |g::c,r,b,io,us,K=>match b with
 |d::b=>yi C st g (64*r) d us λa us=>aQ bM st.mu g.ts g.ms (64*r+1) a us λx a us=>match a with|[]=>na C st c (r+1) b io us λy us=>K (x,y) us|_=>none
 |[]=>match io with
 |[]=>none|.cv vs::io=>aQ bM st.mu g.ts g.ms (64*r+1) vs us λx a us=>match a with|[]=>na C st c (r+1) [] io us λy us=>K (x,y) us|_=>none
 |.bx id::io=>match st.mu id with
 |some (.box cs)=>aQ bM st.mu g.ts g.ms (64*r+1) cs (.mv id (64*r)::us) λx a us=>match a with|[]=>na C st c (r+1) [] io us λy us=>K (x,y) us|_=>none
 |_=>none
def bZ:(a:List bX)->Nat->GD a->List Tg|[],_,_=>[]|g::a,m,x=>match g.k with|.io=>.bx (64*m)::bZ a (m+1) x.2|.wc=>.cv (bc g.ts g.ms (64*m+1) x.1)::bZ a (m+1) x.2|.wa=>.cv (bc g.ts g.ms (64*m+1) x.1)::bZ a (m+1) x.2|_=>bZ a (m+1) x.2
def yj(C:Ctx)(fn:Func)(ins aX:List bX)(x:GD ins){R:Type}(st:St)(K:GD aX->Option R):Option R:=na C st aX 0 fn.results.toList (bZ ins 0 x) [] λy us=>bif aP us then K y else none
noncomputable def AW(C:Ctx)(fn:Func)(ins aX:List bX)(x:GD ins):Option (GD aX):=match fn.body with|some c=>bif sQ ins&&Nat.ble ins.length fn.ntmps&&Nat.beq fn.ntmps C.nt then di C (yj C fn ins aX x) c (R:=GD aX) id (mJ ins x) (λst=>yj C fn ins aX x st some) (λ_ _=>none) else none|none=>none
end Go.Tm
namespace Go.Tm
open Go
inductive ax where|x|p|o(π:List Nat)
structure Wf(w:World)(o:Nat->Nat->ax):Prop where
 cell:∀b k π,o b k=.o π->(∃v,w.cell? ⟨b,k,none⟩=some v)/\∀j,w.frozen? ⟨b,j,none⟩=false
 ne:∀b k,o b k≠.o []
structure Fr(w:World)(o:Nat->Nat->ax)(w':World)(o':Nat->Nat->ax):Prop where
 os:w'.os=w.os
 tape:w'.tape=w.tape
 output:w'.output=w.output
 size:w.heap.size<=w'.heap.size
 kp:∀b:Nat,b<w.heap.size->(∀k π,o b k≠.o π)->w'.heap[b]?=w.heap[b]?
 cell:∀b k v,w.cell? ⟨b,k,none⟩=some v->(∀π,o b k≠.o π)->w'.cell? ⟨b,k,none⟩=some v/\o' b k=o b k
 db:∀b k v,w.cell? ⟨b,k,none⟩=some v->∃v',w'.cell? ⟨b,k,none⟩=some v'
 uc:∀b k,b<w.heap.size->w'.frozen? ⟨b,k,none⟩=w.frozen? ⟨b,k,none⟩
theorem cV{w:World}{b k:Nat}{v:Value}(h:w.cell? ⟨b,k,none⟩=some v):b<w.heap.size:=World.block_lt_of_cell? w ⟨b,k,none⟩ h
theorem Fr.gj(w:World)(o:Nat->Nat->ax):Fr w o w o:=⟨rfl,rfl,rfl,Nat.le_refl _,by grind,by grind,by grind,by grind⟩
def aj(w:World)(o:Nat->Nat->ax)(w':World)(o':Nat->Nat->ax):Prop:=∀b k v,w.cell? ⟨b,k,none⟩=some v->o b k=.p->w'.cell? ⟨b,k,none⟩=some v/\o' b k=.p
theorem aj.trans{w f e:World}{o g d:Nat->Nat->ax}(h:aj w o f g)(k:aj f g e d):aj w o e d:=λb j v i ho=>let⟨a,c⟩:=h b j v i ho;k b j v a c
theorem Fr.dK{w w':World}{o o':Nat->Nat->ax}(h:Fr w o w' o'):aj w o w' o':=λb k v d ho=>let⟨a,c⟩:=h.cell b k v d (by grind);⟨a,by grind⟩
def pj:List Nat->List Value->Prop|[],[]=>True|0::s,v::r=>v.cells=#[v]/\pj s r|(n+1)::s,v::r=>(∃a,v=.agg a/\a.size=n)/\pj s r|_,_=>False
def nc(ad:Addr)(c:Nat):Prop:=ad.spot=none/\c<=9223372036854775807
def iU(P:Program)(f:Nat):Prop:=∀args w,(callFunc f args).run P w=.ok (.enter f args) w
mutual def Ty.H(P:Program):(t:Ty)->World->(Nat->Nat->ax)->Md->ax->t.D->Value->Prop
 |.int k,_,_,_,_,n,v=>v=.int k n|.bool,_,_,_,_,b,v=>v=.bool b|.str,_,_,_,_,s,v=>v=.string s|.sl es,w,o,md,q,xs,v=>∃a c,v=.slice a xs.length c/\xs.length<=c/\match md,q with|.own ms,.o π=>(xs=[]/\c=0)\/∃ad:Addr,a=some ad/\nc ad c/\(∀k,k<c*es.len->o ad.block (ad.off+k)=.o π)/\∀i x,aC (α:=es.D) xs i=some x->es.Hs P w o ms (.o π) (λj=>.o (π++[i,j])) 0 x ad.block (ad.off+i*es.len)|_,_=>xs=[]\/∃ad:Addr,a=some ad/\ad.spot=none/\∀i x,aC (α:=es.D) xs i=some x->es.Hs P w o [] .p (λ_=>.p) 0 x ad.block (ad.off+i*es.len)
 |.fn sh B C,w,o,_,_,g,v=>∃f u,v=.func (.func f) #[] u/\iU P f/\∀d h,aj w o d h->Wf d h->∀x y args,g x=some y->pj sh args->B.Vs P d h [] (λ_=>.p) 0 x (args.flatMap λv=>v.cells.toList)->Calls P f (args.toArray++u) d λe m=>∃A l,e=.returned A/\Fr d h m l/\Wf m l/\C.Vs P m l [] (λ_=>.p) 0 y [A]def af.Hs (P:Program):(ts:af)->World->(Nat->Nat->ax)->List Md->ax->(Nat->ax)->Nat->ts.D->Nat->Nat->Prop|.nil,_,_,_,_,_,_,_,_,_=>True|.cons t ts,w,o,ms,z,qf,j,x,b,off=>(∃v,w.cell? ⟨b,off,none⟩=some v/\o b off=z/\t.H P w o (cy ms) (qf j) x.1 v)/\ts.Hs P w o (cW ms) z qf (j+1) x.2 b (off+1)def af.Vs (P:Program):(ts:af)->World->(Nat->Nat->ax)->List Md->(Nat->ax)->Nat->ts.D->List Value->Prop|.nil,_,_,_,_,_,_,vs=>vs=[]|.cons t ts,w,o,ms,qf,j,x,vs=>∃v r,vs=v::r/\t.H P w o (cy ms) (qf j) x.1 v/\ts.Vs P w o (cW ms) qf (j+1) x.2 r end
def Rl(w:World)(o:Nat->Nat->ax)(w':World)(o':Nat->Nat->ax)(q q':ax):Prop:=match q with|.o π=>(∃π',q'=.o π'/\∀b k s v,w.cell? ⟨b,k,none⟩=some v->o b k=.o (π++s)->w'.cell? ⟨b,k,none⟩=some v/\o' b k=.o (π'++s))\/(q'=.p/\∀b k s v,w.cell? ⟨b,k,none⟩=some v->o b k=.o (π++s)->w'.cell? ⟨b,k,none⟩=some v/\o' b k=.p)|.p=>q'=.p|.x=>False
theorem Rl.sub{w w':World}{o o':Nat->Nat->ax}{π:List Nat}{q':ax}(h:Rl w o w' o' (.o π) q')(l:List Nat):Rl w o w' o' (.o (π++l)) (match q' with|.o π'=>.o (π'++l)|_=>.p):=by grind[Rl]
section
variable{P:Program}{w:World}{o:Nat->Nat->ax}
theorem AX{md:Md}{q:ax}{sh:List Nat}{c h:af}{g:c.D->Option h.D}{v:Value}:(Ty.fn sh c h).H P w o md q g v↔∃f j,v=.func (.func f) #[] j/\iU P f/\∀a b,aj w o a b->Wf a b->∀x y args,g x=some y->pj sh args->c.Vs P a b [] (λ_=>.p) 0 x (args.flatMap λv=>v.cells.toList)->Calls P f (args.toArray++j) a λe i=>∃k d,e=.returned k/\Fr a b i d/\Wf i d/\h.Vs P i d [] (λ_=>.p) 0 y [k]:=Iff.rfl
theorem ud{t:Ty}{ts:af}{ms:List Md}{a:ax}{qf:Nat->ax}{j:Nat}{x:(af.cons t ts).D}{b off:Nat}:(af.cons t ts).Hs P w o ms a qf j x b off↔(∃v,w.cell? ⟨b,off,none⟩=some v/\o b off=a/\t.H P w o (cy ms) (qf j) x.1 v)/\ts.Hs P w o (cW ms) a qf (j+1) x.2 b (off+1):=Iff.rfl
theorem bI{es:af}{ms:List Md}{π:List Nat}{xs:List es.D}{v:Value}:(Ty.sl es).H P w o (.own ms) (.o π) xs v↔∃a c,v=.slice a xs.length c/\xs.length<=c/\((xs=[]/\c=0)\/∃ad:Addr,a=some ad/\nc ad c/\(∀k,k<c*es.len->o ad.block (ad.off+k)=.o π)/\∀i x,aC (α:=es.D) xs i=some x->es.Hs P w o ms (.o π) (λj=>.o (π++[i,j])) 0 x ad.block (ad.off+i*es.len)):=Iff.rfl
abbrev AY(P:Program)(w:World)(o:Nat->Nat->ax)(es:af)(xs:List es.D)(v:Value):Prop:=∃a c,v=.slice a xs.length c/\xs.length<=c/\(xs=[]\/∃ad:Addr,a=some ad/\ad.spot=none/\∀i x,aC (α:=es.D) xs i=some x->es.Hs P w o [] .p (λ_=>.p) 0 x ad.block (ad.off+i*es.len))
theorem gD{es:af}{q:ax}{xs:List es.D}{v:Value}:(Ty.sl es).H P w o .sh q xs v↔AY P w o es xs v:=by cases q<;>exact Iff.rfl
theorem zm{es:af}{md:Md}{q:ax}{xs:List es.D}{v:Value}(a:∀π,q≠.o π):(Ty.sl es).H P w o md q xs v↔AY P w o es xs v:=by cases md<;>cases q<;>first|exact Iff.rfl|grind
end
section
variable{P:Program}{w w':World}{o o':Nat->Nat->ax}
def Dq(w:World)(o:Nat->Nat->ax)(w':World)(o':Nat->Nat->ax)(qf qf':Nat->ax):Prop:=∀j,Rl w o w' o' (qf j) (qf' j)
mutual theorem qK:∀(t:Ty)(md a:Md)(x:t.D)(v:Value),t.H P w o md .p x v->t.H P w o a .p x v|.int _,_,_,_,_,h=>by grind[Ty.H,Ty.H.eq_def]|.bool,_,_,_,_,h=>by grind[Ty.H,Ty.H.eq_def]|.str,_,_,_,_,h=>by grind[Ty.H,Ty.H.eq_def]|.sl es,md,a,xs,v,h=>by unfold Ty.H at h⊢;grind|.fn _ _ _,_,_,_,_,h=>by unfold Ty.H at h⊢;exact h;theorem zn:∀(ts:af)(ms c:List Md)(j:Nat)(x:ts.D){b off:Nat},ts.Hs P w o ms .p (λ_=>.p) j x b off->ts.Hs P w o c .p (λ_=>.p) j x b off|.nil,_,_,_,_,_,_,_=>by unfold af.Hs;trivial|.cons t ts,ms,c,j,x,b,off,h=>by unfold af.Hs at h⊢;obtain⟨⟨v,e,ho,d⟩,h⟩:=h;exact⟨⟨v,e,ho,qK t _ _ _ _ d⟩,zn ts _ _ _ _ h⟩end
mutual theorem ck(hp:aj w o w' o')(hw:Wf w o):∀(t:Ty)(md:Md)(q q':ax)(x:t.D)(v:Value),Rl w o w' o' q q'->t.H P w o md q x v->t.H P w' o' md q' x v
 |.int _,_,_,_,_,_,_,h=>by grind[Ty.H,Ty.H.eq_def]|.bool,_,_,_,_,_,_,h=>by grind[Ty.H,Ty.H.eq_def]|.str,_,_,_,_,_,_,h=>by grind[Ty.H,Ty.H.eq_def]|.sl es,md,q,q',xs,v,d,h=>by
  unfold Ty.H at h⊢;obtain⟨a,c,rfl,z,h⟩:=h;refine⟨a,c,rfl,z,?_⟩;have E:(xs=[]\/∃ad:Addr,a=some ad/\ad.spot=none/\∀i x,aC (α:=es.D) xs i=some x->es.Hs P w o [] .p (λ_=>.p) 0 x ad.block (ad.off+i*es.len))->(xs=[]\/∃ad:Addr,a=some ad/\ad.spot=none/\∀i x,aC (α:=es.D) xs i=some x->es.Hs P w' o' [] .p (λ_=>.p) 0 x ad.block (ad.off+i*es.len)):=by
   rintro (h|⟨ad,l,m,h⟩);·grind
   ·exact .inr ⟨ad,l,m,λi x n=>fu hp hw es [] .p .p (λ_=>.p) (λ_=>.p) 0 x _ _ rfl (λ_=>rfl) (h i x n)⟩
  cases md with|sh=>grind|own ms=>cases q with|x=>exact d.elim|p=>cases (d:q'=.p);grind|o π=>
 rcases d with ⟨π',rfl,d⟩|⟨rfl,d⟩
 · rcases h with h|⟨ad,l,m,y,h⟩;· grind
   · refine .inr ⟨ad,l,m,λk A=>?_,λi x n=>?_⟩;· have C:=y k A;obtain ⟨⟨u,G⟩,_⟩:=hw.cell _ _ _ C;simp_all
     · refine fu hp hw es ms (.o π) (.o π') _ _ 0 x _ _ (.inl ⟨π',rfl,d⟩) (λj=>?_) (h i x n);exact Rl.sub (q':=.o π') (.inl ⟨π',rfl,d⟩) [i,j]
 · rcases h with ⟨h,_⟩|⟨ad,l,m,y,h⟩;· grind
   · refine .inr ⟨ad,l,m.1,λi x n=>?_⟩;exact zn (w:=w') (o:=o') es ms [] 0 x (fu hp hw es ms (.o π) .p _ (λ_=>.p) 0 x _ _ (.inr ⟨rfl,d⟩) (λj=>Rl.sub (q':=.p) (.inr ⟨rfl,d⟩) [i,j]) (h i x n))
 |.fn sh H I,md,q,q',g,v,_,h=>by grind [Ty.H,iU,aj,af.D,pj,af.Vs,Ty.H.eq_def,aj.trans]theorem fu (hp:aj w o w' o') (hw:Wf w o):∀(ts:af) (ms:List Md) (r e:ax) (qf qf':Nat->ax) (j:Nat) (x:ts.D) (b off:Nat),Rl w o w' o' r e->Dq w o w' o' qf qf'->ts.Hs P w o ms r qf j x b off->ts.Hs P w' o' ms e qf' j x b off
 |.nil,_,_,_,_,_,_,_,_,_,_,_,_=>by unfold af.Hs;trivial|.cons t ts,ms,r,e,qf,qf',j,x,b,off,f,s,h=>by
  unfold af.Hs at h⊢;obtain ⟨⟨v,B,ho,D⟩,h⟩:=h;refine ⟨⟨v,?_⟩,fu hp hw ts _ r e qf qf' _ _ _ _ f s h⟩;have F:=ck hp hw t _ _ _ x.1 v (s j) D;have :w'.cell? ⟨b,off,none⟩=some v/\o' b off=e:=by cases r with|x=>exact f.elim|p=>cases (f:e=.p);exact hp _ _ _ B ho|o π=>
   rcases f with ⟨π',rfl,f⟩|⟨rfl,f⟩;· simp_all
   simp_all
  grind;end
end
end Go.Tm
namespace Go.Tm
open Go
inductive fM where|box(b base:Nat)|row(v:Value)
structure Gh where
 o:Nat->Nat->ax
 c:Nat->fM
def cm:Value->Prop|.agg _=>False|.tuple _=>False|_=>True
theorem cm.cells{v:Value}(h:cm v):v.cells=#[v]:=by cases v<;>first|rfl|exact h.elim
def aq{α β:Type}(R:α->β->Prop):List α->List β->Prop|[],[]=>True|a::x,b::y=>R a b/\aq R x y|_,_=>False
theorem aq.imp{α β:Type}{R S:α->β->Prop}(h:∀a b,R a b->S a b):∀{x:List α}{y:List β},aq R x y->aq S x y|[],[],_=>trivial|_::_,_::_,k=>⟨h _ _ k.1,aq.imp h k.2⟩|[],_::_,k=>k.elim|_::_,[],k=>k.elim
theorem aq.length{α β:Type}{R:α->β->Prop}:∀{x:List α}{y:List β},aq R x y->x.length=y.length|[],[],_=>rfl|_::_,_::_,k=>by simp[aq.length k.2]|[],_::_,k=>k.elim|_::_,[],k=>k.elim
theorem aq.append{α β:Type}{R:α->β->Prop}:∀{x:List α}{y:List β}{x':List α}{a:List β},aq R x y->aq R x' a->aq R (x++x') (y++a)|[],[],_,_,_,k=>k|_::_,_::_,_,_,h,k=>⟨h.1,aq.append h.2 k⟩|[],_::_,_,_,h,_=>h.elim|_::_,[],_,_,h,_=>h.elim
theorem aq.drop{α β:Type}{R:α->β->Prop}:∀(n:Nat){x:List α}{y:List β},aq R x y->aq R (x.drop n) (y.drop n)|0,_,_,h=>by grind|_+1,[],[],_=>trivial|n+1,_::_,_::_,h=>by simpa using aq.drop n h.2|_+1,[],_::_,h=>h.elim|_+1,_::_,[],h=>h.elim
theorem aq.take{α β:Type}{R:α->β->Prop}:∀(n:Nat){x:List α}{y:List β},aq R x y->aq R (x.take n) (y.take n)|0,_,_,_=>by simp[aq]|_+1,[],[],_=>trivial|n+1,_::_,_::_,h=>by rw[List.take_succ_cons,List.take_succ_cons];exact⟨h.1,aq.take n h.2⟩|_+1,[],_::_,h=>h.elim|_+1,_::_,[],h=>h.elim
theorem aq.get{α β:Type}{R:α->β->Prop}:∀{x:List α}{y:List β}(i:Nat)(a:α),aq R x y->x[i]?=some a->∃b,y[i]?=some b/\R a b|[],_,i,a,_,h=>by grind|_::_,[],_,_,k,_=>k.elim|a::x,b::y,0,c,k,h=>by grind[aq]|a::x,b::y,i+1,c,k,h=>by simpa using aq.get i c k.2 (by grind)
abbrev Mu:=Nat->Option av
def CV.R(P:Program)(w:World)(g:Gh)(mu:Mu):CV->Value->Prop|.un,v=>cm v|.int k n,v=>v=.int k n|.bool b,v=>v=.bool b|.str s,v=>v=.string s|.cg,v=>v=.slice none 0 0|.ro es xs,v=>(Ty.sl es).H P w g.o .sh .p xs v|.own id,v=>mu id≠none/\g.c id=.row v/\∃a n c,v=.slice a n c|.nref id aF i j,v=>mu id≠none/\cm v/\∀es ms xs d,mu id=some (.row es ms xs d)->aF<=d/\(aF=d->∃a n c,g.c id=.row (.slice (some a) n c)/\w.cell? ⟨a.block,a.off+i*es.len+j,none⟩=some v/\g.o a.block (a.off+i*es.len+j)=.o [id])|.ptr id off,v=>mu id≠none/\∃b base,g.c id=.box b base/\v=.pointer (some ⟨b,base+off,none⟩)|.dF id sz i off,v=>mu id≠none/\∃a n c,g.c id=.row (.slice (some a) n c)/\a.spot=none/\v=.pointer (some ⟨a.block,a.off+i*sz+off,none⟩)|.eO es x off,v=>∃b base,v=.pointer (some ⟨b,base+off,none⟩)/\es.Hs P w g.o [] .p (λ_=>.p) 0 x b base|.uQ f,v=>v=.func (.func f) #[] #[]|.ua f l,v=>∃e,v=.func (.func f) #[] e/\aq (λid u=>mu id≠none/\∃b base,g.c id=.box b base/\u=.pointer (some ⟨b,base,none⟩)) l e.toList|.qy sh q m h,v=>(Ty.fn sh q m).H P w g.o .sh .p h v
def cc(P:Program)(w:World)(g:Gh)(mu:Mu):List CV->List Value->Prop:=aq (CV.R P w g mu)
def iD(P:Program)(w:World)(g:Gh)(mu:Mu):Bool×List CV->Value->Prop|(true,vs),v=>∃a,v=.agg a/\cc P w g mu vs a.toList|(false,cv::_),v=>cv.R P w g mu v|(false,[]),_=>True
def TV.R(P:Program)(w:World)(g:Gh)(mu:Mu):TV->Value->Prop|.un,_=>True|.kl,v=>v=undef|.c cv,v=>cv.R P w g mu v|.agg vs,v=>∃a,v=.agg a/\cc P w g mu vs a.toList|.we l,v=>∃a,v=.tuple a/\aq (iD P w g mu) l a.toList
def av.R(P:Program)(w:World)(g:Gh)(mu:Mu)(id:Nat):av->Prop|.box cs=>∃b base,g.c id=.box b base/\∀j cv,cs[j]?=some cv->∃v,w.cell? ⟨b,base+j,none⟩=some v/\g.o b (base+j)=.o [id]/\cv.R P w g mu v|.eE es x=>∃b base,g.c id=.box b base/\es.Hs P w g.o [] .p (λ_=>.p) 0 x b base|.row es ms xs _=>∃v,g.c id=.row v/\(Ty.sl es).H P w g.o (.own ms) (.o [id]) xs v|.fz es xs=>∃v,g.c id=.row v/\(Ty.sl es).H P w g.o .sh .p xs v|.aB=>True
structure Rel(P:Program)(nt:Nat)(w0:World)(o0:Nat->Nat->ax)(env:Nat->TV)(mu:Mu)(tmps:Array Value)(w:World)(g:Gh):Prop where
 sz:tmps.size=nt
 env:∀t,(env t).R P w g mu (tmps.getD t undef)dr:∀id b,mu id=some b->b.R P w g mu id
 wf:Wf w g.o
 own:∀b k id s,g.o b k=.o (id::s)->mu id≠none
 fr:Fr w0 o0 w g.o
theorem jq{P:Program}{w:World}{o:Nat->Nat->ax}(t:Ty){md:Md}{q:ax}{x:t.D}{v:Value}(h:t.H P w o md q x v):cm v:=by cases t with|int k=>unfold Ty.H at h;subst h;trivial|bool=>unfold Ty.H at h;subst h;trivial|str=>unfold Ty.H at h;subst h;trivial|sl es=>unfold Ty.H at h;obtain⟨a,c,rfl,_⟩:=h;trivial|fn sh e d=>unfold Ty.H at h;obtain⟨f,b,rfl,_⟩:=h;trivial
theorem CV.jr{P:Program}{w:World}{g:Gh}{mu:Mu}(cv:CV){v:Value}(h:cv.R P w g mu v):cm v:=by cases cv with|un=>exact h|int k n=>subst h;trivial|bool b=>subst h;trivial|str s=>subst h;trivial|cg=>subst h;trivial|ro es xs=>exact jq _ h|own id=>obtain⟨_,_,a,n,c,rfl⟩:=h;trivial|nref=>exact h.2.1|ptr=>obtain⟨_,b,base,_,rfl⟩:=h;trivial|dF=>obtain⟨_,a,n,c,_,_,rfl⟩:=h;trivial|eO=>obtain⟨b,base,rfl,_⟩:=h;trivial|uQ=>subst h;trivial|ua=>obtain⟨d,rfl,_⟩:=h;trivial|qy=>exact jq _ h
structure qL(w:World)(g:Gh)(mu:Mu)(w':World)(g':Gh)(mu':Mu)(T:Nat->Prop):Prop where
 cell:∀b k v,w.cell? ⟨b,k,none⟩=some v->(∀id s,g.o b k=.o (id::s)->¬T id)->w'.cell? ⟨b,k,none⟩=some v/\g'.o b k=g.o b k
 c:∀id,mu id≠none->g'.c id=g.c id
 kD:∀id,mu id≠none->mu' id≠none
 same:∀id,¬T id->mu id≠none->mu' id=mu id
 aF:∀id es ms xs aF,T id->mu id≠none->mu' id=some (.row es ms xs aF)->∃es' ms' xs' ver',mu id=some (.row es' ms' xs' ver')/\ver'<aF
section
variable{P:Program}{w w':World}{g g':Gh}{mu mu':Mu}{T:Nat->Prop}
theorem qL.dK(h:qL w g mu w' g' mu' T):aj w g.o w' g'.o:=λb k v d ho=>let⟨a,c⟩:=h.cell b k v d (λid s e=>by grind);⟨a,by grind⟩
theorem qL.rl(h:qL w g mu w' g' mu' T){id:Nat}(c:¬T id):Rl w g.o w' g'.o (.o [id]) (.o [id]):=.inl ⟨[id],rfl,λb k s v a ho=>by have :=h.cell b k v a (λid' s' e=>by grind);grind⟩
theorem CV.qM(h:qL w g mu w' g' mu' T)(hw:Wf w g.o)(cv:CV){v:Value}(d:cv.R P w g mu v):cv.R P w' g' mu' v:=by cases cv with|un=>exact d|int k n=>exact d|bool b=>exact d|str s=>exact d|cg=>exact d|ro es xs=>exact ck h.dK hw (.sl es) .sh .p .p xs v rfl d|own id=>exact⟨h.kD _ d.1,(h.c _ d.1).trans d.2.1,d.2.2⟩|nref id aF i j=>
 refine⟨h.kD _ d.1,d.2.1,λes ms xs A q=>?_⟩;by_cases y:T id;·obtain⟨J,G,F,E,l,I⟩:=h.aF id es ms xs A y d.1 q;have :=(d.2.2 _ _ _ _ l).1;omega
 ·rw[h.same id y d.1]at q;refine⟨(d.2.2 _ _ _ _ q).1,λe=>?_⟩;obtain⟨a,n,c,o,m,ho⟩:=(d.2.2 _ _ _ _ q).2 e;have :=h.cell _ _ _ m (λid' s' e=>by grind);exact⟨a,n,c,(h.c _ d.1).trans o,this.1,this.2.trans ho⟩|ptr id off=>obtain⟨l,b,base,o,m⟩:=d;exact⟨h.kD _ l,b,base,(h.c _ l).trans o,m⟩|dF id sz i off=>obtain⟨l,a,n,c,o,t,m⟩:=d;exact⟨h.kD _ l,a,n,c,(h.c _ l).trans o,t,m⟩|eO es x off=>obtain⟨b,base,m,t⟩:=d;exact⟨b,base,m,fu h.dK hw es [] .p .p (λ_=>.p) (λ_=>.p) 0 x b base rfl (λ_=>rfl) t⟩|uQ f=>exact d|ua f H=>obtain⟨z,m,D⟩:=d;refine⟨z,m,aq.imp (λid u r=>?_) D⟩;obtain⟨l,b,base,o,r⟩:=r;exact⟨h.kD _ l,b,base,(h.c _ l).trans o,r⟩|qy sh B C k=>exact ck h.dK hw (.fn sh B C) .sh .p .p k v rfl d
theorem cc.qM(h:qL w g mu w' g' mu' T)(hw:Wf w g.o){a:List CV}{vs:List Value}(b:cc P w g mu a vs):cc P w' g' mu' a vs:=aq.imp (λcv _ k=>CV.qM h hw cv k) b
theorem TV.qM(h:qL w g mu w' g' mu' T)(hw:Wf w g.o)(tv:TV){v:Value}(b:tv.R P w g mu v):tv.R P w' g' mu' v:=by cases tv with|un=>trivial|kl=>exact b|c cv=>exact CV.qM h hw cv b|agg vs=>grind[cc,R,cc.qM]|we l=>
 obtain⟨a,d,e⟩:=b;refine⟨a,d,aq.imp (λx u f=>?_) e⟩;rcases x with⟨_|_,vs⟩
 · rcases vs with _|⟨cv,_⟩;· trivial
   · exact CV.qM h hw cv f
 grind[cc,iD,cc.qM]
theorem av.qM(h:qL w g mu w' g' mu' T)(hw:Wf w g.o){id:Nat}(f:¬T id)(hp:mu id≠none)(b:av)(a:b.R P w g mu id):b.R P w' g' mu' id:=by cases b with|box cs=>obtain⟨b,base,c,a⟩:=a;refine⟨b,base,(h.c _ hp).trans c,λj cv k=>?_⟩;obtain⟨v,i,ho,d⟩:=a j cv k;have :=h.cell _ _ _ i (λid' s' e=>by grind);exact⟨v,this.1,this.2.trans ho,CV.qM h hw cv d⟩|eE es x=>obtain⟨b,base,c,a⟩:=a;exact⟨b,base,(h.c _ hp).trans c,fu h.dK hw es [] .p .p (λ_=>.p) (λ_=>.p) 0 x b base rfl (λ_=>rfl) a⟩|row es ms xs aF=>obtain⟨v,c,a⟩:=a;exact⟨v,(h.c _ hp).trans c,ck h.dK hw (.sl es) (.own ms) _ _ xs v (h.rl f) a⟩|fz es xs=>obtain⟨v,c,a⟩:=a;exact⟨v,(h.c _ hp).trans c,ck h.dK hw (.sl es) .sh .p .p xs v rfl a⟩|aB=>trivial
theorem Fr.trans{w0 d i:World}{o0 f g:Nat->Nat->ax}(h:Fr w0 o0 d f)(hw:Wf d f)(k:Fr d f i g):Fr w0 o0 i g:=by
 have own:∀b j,(∀k π,o0 b k≠.o π)->b<w0.heap.size->∀π,f b j≠.o π:=by
  intro b j c a π e;obtain⟨⟨v,l⟩,_⟩:=hw.cell _ _ _ e;have n:d.heap[b]?=w0.heap[b]?:=h.kp b a c;have m:w0.cell? ⟨b,j,none⟩=some v:=by unfold World.cell? at l⊢;grind
  grind[cell]
 refine⟨k.os.trans h.os,k.tape.trans h.tape,k.output.trans h.output,Nat.le_trans h.size k.size,?_,?_,?_,?_⟩;·intro b a c;rw[k.kp b (Nat.lt_of_lt_of_le a h.size) (λj π=>own b j c a π),h.kp b a c]
 ·grind[cell]
 ·grind[db]
 ·intro b j a;rw[k.uc b j (Nat.lt_of_lt_of_le a h.size),h.uc b j a]
theorem Rel.dp{nt:Nat}{w0:World}{o0:Nat->Nat->ax}{env:Nat->TV}{tmps:Array Value}(r:Rel P nt w0 o0 env mu tmps w g)(h:qL w g mu w' g' mu' T)(a:Fr w g.o w' g'.o)(hw:Wf w' g'.o)(ho:∀b k id s,g'.o b k=.o (id::s)->mu' id≠none)(e:∀id b,(T id\/mu id=none)->mu' id=some b->b.R P w' g' mu' id):Rel P nt w0 o0 env mu' tmps w' g' where
 sz:=r.sz
 env t:=TV.qM h r.wf _ (r.env t)
 dr id b d:=by
  by_cases c:T id;·grind
  · by_cases hp:mu id=none;· grind
    · rw[h.same id c hp]at d;grind[av.qM,wf,dr]
 wf:=hw
 own:=ho
 fr:=r.fr.trans r.wf a
theorem Rel.put{nt:Nat}{w0:World}{o0:Nat->Nat->ax}{env:Nat->TV}{a:Act}(r:Rel P nt w0 o0 env mu a.tmps w g){b:Option Nat}{tv:TV}{v:Value}(c:jG nt b=true)(f:tv.R P w g mu v):Rel P nt w0 o0 (match b with|some d=>bW env d tv|none=>env) mu (a.put b v).tmps w g:=by cases b with|none=>exact r|some d=>
 have c:d<nt:=by simp_all[jG]
 refine⟨by simp[Act.put,r.sz],λt=>?_,r.dr,r.wf,r.own,r.fr⟩;simp only[Act.put,bW];by_cases e:t=d;·subst e;simp[Array.getD_eq_getD_getElem?,r.sz,c];exact f
 ·have i:Nat.beq t d=false:=Bool.eq_false_iff.2 λh=>e (Nat.eq_of_beq_eq_true h);have :=r.env t;simp only[i,cond_false];simpa[Array.getD_eq_getD_getElem?,Array.getElem?_setIfInBounds_ne (Ne.symm e)]using this
end
end Go.Tm
namespace Go.Tm
open Go
section
variable{P:Program}
theorem mE{w:World}{o:Nat->Nat->ax}(t:Ty){q q':ax}{x:t.D}{v:Value}(h:t.H P w o .sh q x v):t.H P w o .sh q' x v:=by cases t<;>(grind[Ty.H,Ty.H.eq_def])
theorem kE{w:World}{o:Nat->Nat->ax}:∀(ts:af){qf qf':Nat->ax}{j c:Nat}{x:ts.D}{vs:List Value},ts.Vs P w o [] qf j x vs->ts.Vs P w o [] qf' c x vs|.nil,_,_,_,_,_,_,h=>by unfold af.Vs at h⊢;exact h|.cons t ts,_,_,_,_,x,vs,h=>by unfold af.Vs at h⊢;obtain⟨v,r,rfl,b,a⟩:=h;exact⟨v,r,rfl,mE t b,kE ts a⟩
theorem iV{w:World}{o:Nat->Nat->ax}:∀(ts:af){ms:List Md}{qf:Nat->ax}{j:Nat}{x:ts.D}{vs:List Value},ts.Vs P w o ms qf j x vs->vs.length=ts.len|.nil,_,_,_,_,_,h=>by unfold af.Vs at h;subst h;rfl|.cons t ts,_,_,_,_,_,h=>by unfold af.Vs at h;obtain⟨v,r,rfl,_,a⟩:=h;simp[af.len,iV ts a]
theorem ng{w:World}{o:Nat->Nat->ax}:∀(ts:af){ms:List Md}{qf:Nat->ax}{j:Nat}{x:ts.D}{vs:List Value},ts.Vs P w o ms qf j x vs->∀v∈vs,cm v
 |.nil,_,_,_,_,_,h=>by unfold af.Vs at h;grind|.cons t ts,_,_,_,_,_,h=>by
  unfold af.Vs at h;obtain⟨v,r,rfl,c,b⟩:=h;intro u a;rcases List.mem_cons.1 a with rfl|a;·exact jq t c
  ·exact ng ts b u a
theorem eJ{w:World}{o:Nat->Nat->ax}:∀(ts:af){ms:List Md}{a:ax}{qf:Nat->ax}{j:Nat}{x:ts.D}{b off:Nat},ts.Hs P w o ms a qf j x b off->∃vs,ts.Vs P w o ms qf j x vs/\∀k v,vs[k]?=some v->w.cell? ⟨b,off+k,none⟩=some v/\o b (off+k)=a|.nil,_,_,_,_,_,_,_,_=>⟨[],by unfold af.Vs;rfl,by simp⟩|.cons t ts,ms,a,qf,j,x,b,off,h=>by unfold af.Hs at h;obtain⟨⟨v,d,ho,g⟩,h⟩:=h;obtain⟨vs,e,c⟩:=eJ ts h;refine⟨v::vs,by unfold af.Vs;grind,λk u f=>?_⟩;grind
theorem eK{w:World}{o:Nat->Nat->ax}:∀(ts:af){ms:List Md}{a:ax}{qf:Nat->ax}{j:Nat}{x:ts.D}{b off:Nat}{vs:List Value},ts.Vs P w o ms qf j x vs->(∀k v,vs[k]?=some v->w.cell? ⟨b,off+k,none⟩=some v/\o b (off+k)=a)->ts.Hs P w o ms a qf j x b off|.nil,_,_,_,_,_,_,_,_,_,_=>by unfold af.Hs;trivial|.cons t ts,ms,a,qf,j,x,b,off,vs,h,d=>by unfold af.Vs at h;obtain⟨v,r,rfl,f,e⟩:=h;unfold af.Hs;have c:=d 0 v rfl;refine⟨⟨v,c.1,c.2,f⟩,eK ts e λk u g=>?_⟩;have :=d (k+1) u (by grind);grind
theorem jH{w w':World}{o o':Nat->Nat->ax}(hp:aj w o w' o')(hw:Wf w o):∀(ts:af)(ms:List Md){qf qf':Nat->ax}{j:Nat}{x:ts.D}{vs:List Value},(∀j,Rl w o w' o' (qf j) (qf' j))->ts.Vs P w o ms qf j x vs->ts.Vs P w' o' ms qf' j x vs|.nil,_,_,_,_,_,_,_,h=>by unfold af.Vs at h⊢;exact h|.cons t ts,ms,_,_,j,x,_,a,h=>by unfold af.Vs at h⊢;obtain⟨v,r,rfl,c,b⟩:=h;exact⟨v,r,rfl,ck hp hw t _ _ _ _ _ (a j) c,jH hp hw ts _ a b⟩
theorem kF{w w':World}{o o':Nat->Nat->ax}(hp:aj w o w' o')(hw:Wf w o)(ts:af){qf:Nat->ax}{j:Nat}{x:ts.D}{vs:List Value}(h:ts.Vs P w o [] qf j x vs):ts.Vs P w' o' [] qf j x vs:=kE ts (jH hp hw ts [] (qf:=λ_=>.p) (qf':=λ_=>.p) (j:=j) (λ_=>rfl) (kE ts h))
variable{w:World}{g:Gh}{mu:Mu}
theorem wD(t:Ty){x:t.D}{v:Value}(h:t.H P w g.o .sh .p x v):(t.ro x).R P w g mu v:=by cases t<;>(unfold Ty.ro CV.R;first|exact h|(unfold Ty.H at h;exact h))
theorem jR:∀(ts:af){qf:Nat->ax}{j:Nat}{x:ts.D}{vs:List Value},ts.Vs P w g.o [] qf j x vs->cc P w g mu (ts.sL x) vs|.nil,_,_,_,_,h=>by unfold af.Vs at h;subst h;unfold af.sL;trivial|.cons t ts,_,_,_,_,h=>by unfold af.Vs at h;obtain⟨v,r,rfl,b,a⟩:=h;unfold af.sL;exact⟨wD t (mE t b),jR ts a⟩
def br(a:Nat->ax)(w:World)(o:Nat->Nat->ax)(w':World)(o':Nat->Nat->ax):aI->Prop|.mv id to=>Rl w o w' o' (.o [id]) (a to)|.pm id=>Rl w o w' o' (.o [id]) .p
mutual theorem Md.beq_eq:∀{a b:Md},Md.beq a b=true->a=b|.sh,.sh,_=>rfl|.own a,.own b,h=>by simp only[Md.beq]at h;rw[gE h]|.sh,.own _,h=>by grind[Md.beq]|.own _,.sh,h=>by grind[Md.beq]theorem gE:∀{a b:List Md},dG a b=true->a=b|[],[],_=>rfl|a::x,b::y,h=>by simp only[dG,Bool.and_eq_true]at h;rw[Md.beq_eq h.1,gE h.2]|[],_::_,h=>by grind[dG]|_::_,[],h=>by grind[dG]end
theorem ue:∀(es:af){ms:List Md}{c:ax}{qf:Nat->ax}{k j:Nat}{x:es.D}{b off:Nat}{l:ye},es.Hs P w g.o ms c qf k x b off->es.leaf j x=some l->∃v md,w.cell? ⟨b,off+j,none⟩=some v/\l.t.H P w g.o md (qf (k+j)) l.x v|.nil,_,_,_,_,_,_,_,_,_,_,h=>by simp[af.leaf]at h|.cons t ts,ms,c,qf,k,0,x,b,off,l,a,h=>by unfold af.Hs at a;obtain⟨⟨v,e,_,i⟩,_⟩:=a;simp only[af.leaf,Option.some.injEq]at h;grind|.cons t ts,ms,c,qf,k,j+1,x,b,off,l,a,h=>by unfold af.Hs at a;obtain⟨v,md,f,d⟩:=ue ts a.2 (by simpa[af.leaf]using h);grind
abbrev cR(P:Program)(w:World)(g:Gh)(mu:Mu):Prop:=∀id b,mu id=some b->b.R P w g mu id
theorem fw{R:Type}(E:cR P w g mu)(hw:Wf w g.o){cv:CV}{v:Value}(k:cv.R P w g mu v){K:(es:af)->List es.D->Option R}{y:R}(h:aE mu cv K=some y):∃es xs,K es xs=some y/\(∃ms q,(Ty.sl es).H P w g.o ms q xs v)/\∀w' o',aj w g.o w' o'->(∀id,(cv=.own id\/∃aF i j,cv=.nref id aF i j)->Rl w g.o w' o' (.o [id]) .p)->(Ty.sl es).H P w' o' .sh .p xs v:=by
 cases cv<;>simp only [aE]at h<;>try grind
 case ro es xs=>exact⟨es,xs,h,⟨.sh,.p,k⟩,λw' o' hp _=>ck hp hw (.sl es) .sh .p .p xs v rfl k⟩
 case own id=>cases f:mu id with|none=>grind|some b=>
  have r:=E id b f;cases b<;>simp only [f]at h<;>try grind
  case row es ms xs aF=>
   obtain⟨e,t,d⟩:=r;have :e=v:=by have :=k.2.1;grind
   subst this;exact⟨es,xs,h,⟨_,_,d⟩,λw' o' hp s=>mE _ (qK _ _ _ _ _ (ck hp hw (.sl es) _ _ _ xs e (s id (.inl rfl)) d))⟩
  case fz es xs=>
  obtain⟨e,t,d⟩:=r;have :e=v:=by have :=k.2.1;grind
  subst this;exact⟨es,xs,h,⟨_,_,d⟩,λw' o' hp s=>ck hp hw (.sl es) .sh .p .p xs e rfl d⟩
 case nref id aF i j=>cases f:mu id with|none=>grind|some b=>
 have r:=E id b f;cases b<;>simp only [f]at h<;>try grind
 case row es ms xs J=>cases m:Nat.beq aF J with|false=>grind|true=>simp only [m,cond_true]at h;have m:=Nat.eq_of_beq_eq_true m;cases u:aC xs i with|none=>grind|some x=>simp only [u,Option.bind_some]at h;cases C:es.leaf j x with|none=>grind|some l=>
 obtain⟨lt,D⟩:=l;cases lt<;>simp only [C]at h<;>try grind
 case sl B=>
 obtain⟨a,n,c,t,G,ho⟩:=(k.2.2 _ _ _ _ f).2 m;obtain⟨e,z,d⟩:=r;rw [t]at z;cases z;obtain⟨S,Q,O,_,d⟩:=bI.1 d;cases O;rcases d with⟨I,_⟩|⟨ad,L,_,_,d⟩;·subst I;simp [aC]at u
 ·cases L;have N:=d i x u;obtain⟨v0,md,A,F⟩:=ue es N C;rw [G]at A;cases A;refine⟨B,D,h,⟨_,_,F⟩,λw' o' hp s=>?_⟩;have M:=Rl.sub (s id (.inr ⟨_,_,_,rfl⟩)) [i,0+j];exact mE _ (qK _ _ .sh _ _ (ck hp hw (.sl B) md _ _ D _ M F))
theorem sZ{R:Type}(m:cR P w g mu)(hw:Wf w g.o){es:af}{md:Md}{to:Nat}{cv:CV}{us:List aI}{v:Value}(f:cv.R P w g mu v){K:List es.D->List aI->Option R}{y:R}(h:cC mu es md to cv us K=some y):∃xs n,K xs (n++us)=some y/\∀(a:Nat->ax)w' o',aj w g.o w' o'->(∀u∈n,br a w g.o w' o' u)->(Ty.sl es).H P w' o' md (a to) xs v:=by cases md with
 |own ms=>
 cases cv<;>simp only[cC]at h<;>try grind
 case cg=>refine⟨[],[],h,λa w' o' _ _=>?_⟩;cases (f:v=.slice none 0 0);cases B:a to with|o π=>grind[Ty.H,af.D,nc,af.len,aC,af.Hs,bI]|x=>exact (zm (by simp)).2 ⟨none,0,rfl,Nat.le_refl _,.inl rfl⟩|p=>exact (zm (by simp)).2 ⟨none,0,rfl,Nat.le_refl _,.inl rfl⟩
 case own id=>cases s:mu id with|none=>grind|some b=>
 have z:=m id b s;cases b<;>simp only[s]at h<;>try grind
 case row c t xs aF=>cases e:af.eq? c es with|none=>grind|some p=>obtain⟨p⟩:=p;subst p;simp only[e]at h;cases q:dG t ms with|false=>grind|true=>
 simp only[q,cond_true]at h;cases gE q;obtain⟨r,A,l⟩:=z;have :r=v:=by have :=f.2.1;grind
 subst this;exact⟨xs,[.mv id to],h,λa w' o' hp k=>ck hp hw (.sl c) _ (.o [id]) _ xs r (k (.mv id to) (by simp)) l⟩
 |sh=>
 cases cv<;>simp only [cC]at h<;>try grind
 case cg=>refine⟨[],[],h,λa w' o' _ _=>?_⟩;cases (f:v=.slice none 0 0);exact gD.2 ⟨none,0,rfl,Nat.le_refl _,.inl rfl⟩
 case ro c xs=>cases e:af.eq? c es with|none=>grind|some p=>obtain⟨p⟩:=p;subst p;simp only [e]at h;exact⟨xs,[],h,λa w' o' hp _=>mE _ (ck hp hw (.sl c) .sh .p .p xs v rfl f)⟩
 case own id=>obtain⟨c,xs,h,_,l⟩:=fw m hw f h;cases e:af.eq? c es with|none=>grind|some p=>obtain⟨p⟩:=p;subst p;simp only [e]at h;refine⟨xs,[.pm id],h,λa w' o' hp k=>mE _ (l w' o' hp λid' d=>?_)⟩;rcases d with d|⟨_,_,_,d⟩<;>cases d;exact k (.pm _) (by simp)
 case nref id aF i j=>obtain⟨c,xs,h,_,l⟩:=fw m hw f h;cases e:af.eq? c es with|none=>grind|some p=>obtain⟨p⟩:=p;subst p;simp only [e]at h;refine⟨xs,[.pm id],h,λa w' o' hp k=>mE _ (l w' o' hp λid' d=>?_)⟩;rcases d with d|⟨_,_,_,d⟩<;>cases d;exact k (.pm _) (by simp)
def qN(P:Program)(w:World)(g:Gh)(mu:Mu)(app:vW):Prop:=∀f sh c e d k a vals,app f sh c e d=some k->cD mu a=some c->aq (λid u=>mu id≠none/\∃b base,g.c id=.box b base/\u=.pointer (some ⟨b,base,none⟩)) a vals->∀w' o' md q,aj w g.o w' o'->(∀id∈a,Rl w g.o w' o' (.o [id]) .p)->(Ty.fn sh e d).H P w' o' md q k (.func (.func f) #[] vals.toArray)
theorem eQ:qN P w g mu bM:=λ_ _ _ _ _ _ _ _ h=>by cases h
theorem gX{R:Type}(D:cR P w g mu)(hw:Wf w g.o){app:vW}(r:qN P w g mu app){ty:Ty}{md:Md}{to:Nat}{cv:CV}{us:List aI}{v:Value}(a:cv.R P w g mu v){K:ty.D->List aI->Option R}{y:R}(h:ak app mu ty md to cv us K=some y):∃x o,K x (o++us)=some y/\∀(i:Nat->ax)w' o',aj w g.o w' o'->(∀u∈o,br i w g.o w' o' u)->ty.H P w' o' md (i to) x v:=by cases ty with
 |int k=>
 cases cv<;>simp only[ak]at h<;>try grind
 case int F n=>
 split at h;·rename_i e;subst e;exact⟨n,[],h,λ_ _ _ _ _=>a⟩
 grind|bool=>
 cases cv<;>simp only[ak]at h<;>try grind
 case bool b=>exact⟨b,[],h,λ_ _ _ _ _=>a⟩|str=>
 cases cv<;>simp only[ak]at h<;>try grind
 case str b=>exact⟨b,[],h,λ_ _ _ _ _=>a⟩|sl es=>exact sZ D hw a h|fn sh c d=>
 cases cv<;>simp only[ak]at h<;>try grind
 case qy t A z k=>cases B:Ty.eq? (.fn t A z) (.fn sh c d) with|none=>grind|some p=>obtain⟨p⟩:=p;cases p;simp only[B]at h;exact⟨k,[],h,λi w' o' hp _=>by exact ck hp hw (.fn sh c d) .sh .p .p k v rfl a⟩
 case uQ f=>cases j:app f sh [] c d with|none=>grind|some k=>simp only [j] at h;cases (a:v=.func (.func f) #[] #[]);exact⟨k,[],h,λi w' o' hp _=>r f sh [] c d k [] [] j rfl trivial w' o' _ _ hp (by simp)⟩
 case ua f l=>cases q:cD mu l with|none=>grind|some m=>simp only [q] at h;cases j:app f sh m c d with|none=>grind|some k=>simp only [j] at h;obtain⟨vals,rfl,s⟩:=a;exact⟨k,l.map .pm,h,λi w' o' hp C=>r f sh m c d k l vals.toList j q s w' o' _ _ hp λid E=>C (.pm id) (by grind)⟩
theorem lz{R:Type}(k:cR P w g mu)(hw:Wf w g.o){app:vW}(j:qN P w g mu app):∀(ts:af){ms:List Md}{to:Nat}{b:List CV}{us:List aI}{vs:List Value}(_:cc P w g mu b vs){K:ts.D->List CV->List aI->Option R}{y:R}(_:aQ app mu ts ms to b us K=some y),∃x e i c f,K x e (i++us)=some y/\vs=c++f/\cc P w g mu e f/\c.length=ts.len/\∀(d:Nat->ax)w' o',aj w g.o w' o'->(∀u∈i,br d w g.o w' o' u)->ts.Vs P w' o' ms d to x c|.nil,ms,to,b,us,vs,a,K,y,h=>⟨(),b,[],[],vs,h,rfl,a,rfl,λ_ _ _ _ _=>rfl⟩|.cons t ts,ms,to,[],us,vs,a,K,y,h=>by simp[aQ]at h|.cons t ts,ms,to,cv::b,us,[],a,K,y,h=>a.elim|.cons t ts,ms,to,cv::b,us,v::vs,a,K,y,h=>by simp only[aQ]at h;obtain⟨x,i,h,p⟩:=gX k hw j a.1 h;obtain⟨xs,e,n,c,f,h,rfl,m,r,o⟩:=lz k hw j ts a.2 h;refine⟨(x,xs),e,n++i,v::c,f,by grind,rfl,m,by grind[af.len],λd w' o' hp l=>?_⟩;exact⟨v,c,rfl,p d w' o' hp (λu q=>l u (by grind)),o d w' o' hp (λu q=>l u (by grind))⟩
theorem fx{R:Type}(m:cR P w g mu)(hw:Wf w g.o)(e:Nat->ax){app:vW}(k:qN P w g mu app)(ts:af){ms:List Md}{to:Nat}{f:List CV}{us:List aI}{vs:List Value}(j:cc P w g mu f vs){K:ts.D->List CV->List aI->Option R}{y:R}(h:aQ app mu ts ms to f us K=some y):∃x b d a c,K x b (d++us)=some y/\vs=a++c/\cc P w g mu b c/\a.length=ts.len/\∀w' o',aj w g.o w' o'->(∀u∈d,br e w g.o w' o' u)->ts.Vs P w' o' ms e to x a:=let⟨x,b,d,a,c,l,i,n,o,p⟩:=lz m hw k ts j h
 ⟨x,b,d,a,c,l,i,n,o,p e⟩
end
end Go.Tm
namespace Go.Tm
open Go
def lA(P:Program)(w:World)(o:Nat->Nat->ax)(m:Nat)(g:bX)(x:g.ts.D)(v:Value):Prop:=match g.k with|.c=>g.ts.Vs P w o g.ms (λj=>.o [j]) (64*m+1) x [v]|.agg=>∃a,v=.agg a/\g.ts.Vs P w o g.ms (λj=>.o [j]) (64*m+1) x a.toList|.rp=>∃b base,v=.pointer (some ⟨b,base,none⟩)/\g.ts.Hs P w o [] .p (λ_=>.p) 0 x b base|.io=>∃b base,v=.pointer (some ⟨b,base,none⟩)/\g.ts.Hs P w o g.ms (.o [64*m]) (λj=>.o [j]) (64*m+1) x b base|.np=>False|.wc=>g.ts.Vs P w o g.ms (λj=>.o [j]) (64*m+1) x [v]|.wa=>∃a,v=.agg a/\g.ts.Vs P w o g.ms (λj=>.o [j]) (64*m+1) x a.toList
def lT(P:Program)(w:World)(o:Nat->Nat->ax):(a:List bX)->Nat->GD a->List Value->Prop|[],_,_,vs=>vs=[]|g::a,m,x,vs=>∃v r,vs=v::r/\lA P w o m g x.1 v/\lT P w o a (m+1) x.2 r
inductive Bk where|bx(b off:Nat)|vs(l:List Value)
def aK:List bX->List Value->List Bk
 |g::b,v::vs=>match g.k,v with|.io,.pointer (some a)=>.bx a.block a.off::aK b vs|.wc,v=>.vs [v]::aK b vs|.wa,.agg a=>.vs a.toList::aK b vs|_,_=>aK b vs
 |_,_=>[]
def yk(P:Program)(w:World)(o:Nat->Nat->ax)(r:Nat)(g:bX)(y:g.ts.D)(v:Value):Prop:=match g.k with|.c=>g.ts.Vs P w o g.ms (λj=>.o [j]) (64*r+1) y [v]|.agg=>∃a,v=.agg a/\g.ts.Vs P w o g.ms (λj=>.o [j]) (64*r+1) y a.toList|.np=>∃b base,v=.pointer (some ⟨b,base,none⟩)/\g.ts.Hs P w o g.ms (.o [64*r]) (λj=>.o [j]) (64*r+1) y b base|_=>False
def Bb(P:Program)(w:World)(o:Nat->Nat->ax)(r:Nat)(g:bX)(y:g.ts.D):Bk->Prop|.bx b off=>g.ts.Hs P w o g.ms (.o [64*r]) (λj=>.o [j]) (64*r+1) y b off|.vs l=>g.ts.Vs P w o g.ms (λj=>.o [j]) (64*r+1) y l
def iW(P:Program)(w:World)(o:Nat->Nat->ax):(b:List bX)->(r:Nat)->GD b->List Value->List Bk->Prop|[],_,_,vs,io=>vs=[]/\io=[]|g::b,r,y,v::vs,io=>yk P w o r g y.1 v/\iW P w o b (r+1) y.2 vs io|g::b,r,y,[],a::io=>Bb P w o r g y.1 a/\iW P w o b (r+1) y.2 [] io|_::_,_,_,[],[]=>False
def lU(vs:List Value):Value:=match vs with|[v]=>v|l=>.tuple l.toArray
def nh(P:Program)(f:Nat)(a:zi):Prop:=∀w o args x y,a.f x=some y->lT P w o a.ins 0 x args->Wf w o->Calls P f args.toArray w λe w'=>∃vs o',e=.returned (lU vs)/\vs.length=gg a/\Fr w o w' o'/\Wf w' o'/\iW P w' o' a.aX 0 y vs (aK a.ins args)
def gF(P:Program)(C:Ctx):Prop:=∀f a,C.bg f=some a->nh P f a/\iU P f
theorem dV:∀{ms:List Md},cJ ms=true->cy ms=.sh/\cJ (cW ms)=true|[],_=>⟨rfl,rfl⟩|.sh::_,h=>⟨rfl,h⟩|.own _::_,h=>by simp[cJ]at h
section
variable{P:Program}{w:World}{o:Nat->Nat->ax}
theorem fP:∀(ts:af){ms:List Md}{qf:Nat->ax}{j:Nat}{x:ts.D}{vs:List Value},cJ ms=true->ts.Vs P w o ms qf j x vs->ts.Vs P w o [] qf j x vs|.nil,_,_,_,_,_,_,h=>h|.cons t ts,ms,_,_,x,vs,a,h=>by obtain⟨v,r,e,b,c⟩:=h;rw [(dV a).1] at b;exact⟨v,r,e,b,fP ts (dV a).2 c⟩
theorem fQ:∀(ts:af){ms:List Md}{qf:Nat->ax}{j:Nat}{x:ts.D}{vs:List Value},cJ ms=true->ts.Vs P w o [] qf j x vs->ts.Vs P w o ms qf j x vs|.nil,_,_,_,_,_,_,h=>h|.cons t ts,ms,_,_,x,vs,a,h=>by obtain⟨v,r,e,c,b⟩:=h;refine⟨v,r,e,?_,fQ ts (dV a).2 b⟩;rw [(dV a).1];exact c
end
def CV.R0(P:Program)(w:World)(o:Nat->Nat->ax):CV->Value->Prop|.int k n,v=>v=.int k n|.bool b,v=>v=.bool b|.str s,v=>v=.string s|.cg,v=>v=.slice none 0 0|.ro es xs,v=>(Ty.sl es).H P w o .sh .p xs v|.qy sh c a h,v=>(Ty.fn sh c a).H P w o .sh .p h v|_,_=>True
section
variable{P:Program}{w w':World}{g:Gh}{o o':Nat->Nat->ax}{mu:Mu}
theorem CV.R.r0{cv:CV}{v:Value}(h:cv.R P w g mu v):cv.R0 P w g.o v:=by cases cv<;>first|exact h|trivial
theorem CV.R0.re(hp:aj w o w' o')(hw:Wf w o){cv:CV}{v:Value}(h:cv.R0 P w o v):cv.R0 P w' o' v:=by cases cv<;>first|exact h|trivial|exact ck hp hw _ .sh .p .p _ v rfl h
theorem Bc(t:Ty){x:t.D}{v:Value}{q:ax}(h:t.H P w o .sh q x v):(t.ro x).R0 P w o v:=by cases t<;>first|exact h|exact mE _ h
theorem mK:∀(ts:af){qf:Nat->ax}{j:Nat}{x:ts.D}{vs:List Value},ts.Vs P w o [] qf j x vs->aq (CV.R0 P w o) (ts.sL x) vs|.nil,_,_,_,_,h=>by cases (h:_=[]);trivial|.cons t ts,_,_,_,_,h=>by obtain⟨v,r,rfl,b,a⟩:=h;exact⟨Bc t b,mK ts a⟩
theorem pq{R:Type}{ty:Ty}{to:Nat}{cv:CV}{us:List aI}{v:Value}(a:cv.R0 P w o v){K:ty.D->List aI->Option R}{y:R}(h:ak bM cY ty .sh to cv us K=some y):∃x,K x us=some y/\∀q,ty.H P w o .sh q x v:=by cases ty with
 |int k=>
 cases cv<;>simp only[ak]at h<;>try(cases h;done)
 case int t n=>
 split at h;·rename_i e;subst e;exact⟨n,h,λ_=>a⟩
 ·cases h|bool=>
 cases cv<;>simp only[ak]at h<;>try(cases h;done)
 case bool b=>exact⟨b,h,λ_=>a⟩|str=>
 cases cv<;>simp only[ak]at h<;>try(cases h;done)
 case str b=>exact⟨b,h,λ_=>a⟩|sl es=>
 cases cv<;>simp only[ak,cC,aE,cY]at h<;>try(cases h;done)
 case cg=>cases(a:v=.slice none 0 0);exact⟨[],h,λq=>gD.2 ⟨none,0,rfl,Nat.le_refl _,.inl rfl⟩⟩
 case ro i xs=>cases c:af.eq? i es with|none=>simp[c]at h|some p=>obtain⟨p⟩:=p;subst p;simp only[c]at h;exact⟨xs,h,λq=>mE (q:=.p) _ a⟩
 |fn sh s m=>
 cases cv<;>simp only[ak,bM]at h<;>try (cases h;done)
 case qy g l j k=>cases c:Ty.eq? (.fn g l j) (.fn sh s m) with|none=>simp[c]at h|some p=>obtain⟨p⟩:=p;cases p;simp only[c]at h;exact⟨k,h,λq=>a⟩
 case ua f d=>cases r:cD cY d<;>simp[r]at h
theorem gG{R:Type}:∀(ts:af){ms:List Md}(_:cJ ms=true){to:Nat}{b:List CV}{us:List aI}{vs:List Value}(_:aq (CV.R0 P w o) b vs){K:ts.D->List CV->List aI->Option R}{y:R}(_:aQ bM cY ts ms to b us K=some y),∃x d c e,K x d us=some y/\vs=c++e/\aq (CV.R0 P w o) d e/\c.length=ts.len/\∀qf j,ts.Vs P w o [] qf j x c|.nil,_,_,to,b,us,vs,a,K,y,h=>⟨(),b,[],vs,h,rfl,a,rfl,λ_ _=>rfl⟩|.cons t ts,_,_,to,[],us,vs,a,K,y,h=>by simp [aQ] at h|.cons t ts,_,_,to,cv::b,us,[],a,K,y,h=>a.elim|.cons t ts,ms,f,to,cv::b,us,v::vs,a,K,y,h=>by simp only [aQ,(dV f).1] at h;obtain⟨x,h,k⟩:=pq a.1 h;obtain⟨xs,d,c,e,h,rfl,g,l,i⟩:=gG ts (dV f).2 a.2 h;exact⟨(x,xs),d,v::c,e,h,rfl,g,by grind [af.len],λqf j=>⟨v,c,rfl,k _,i _ _⟩⟩
def lV(w:World)(o:Nat->Nat->ax):List (List CV)->List Value->List (List Value)->Prop|[],[],[]=>True|c::cs,u::us,v::vs=>(∃b base,u=.pointer (some ⟨b,base,none⟩)/\v.length=c.length/\∀k x,v[k]?=some x->w.cell? ⟨b,base+k,none⟩=some x/\o b (base+k)=.p)/\lV w o cs us vs|_,_,_=>False
theorem lB{α:Type}:∀{a b c d:List α},a++b=c++d->a.length=c.length->a=c/\b=d|[],_,[],_,h,_=>⟨rfl,by grind⟩|x::a,b,y::c,d,h,e=>by simp only[List.cons_append,List.cons.injEq]at h;have :=lB h.2 (by grind);grind|[],_,_::_,_,_,e=>by grind|_::_,_,[],_,_,e=>by grind
theorem ni{R:Type}:∀(i:List bX)(sh:List Nat)(H:List (List CV))(m:Nat){k:List CV}{vals args us:List Value}{cvals:List (List Value)}(_:cT sh H i=true)(_:pj sh args)(_:lV w o H us cvals)(_:vals=(args.flatMap λv=>v.cells.toList)++cvals.flatten)(_:aq (CV.R0 P w o) k vals){K:GD i->Option R}{y:R}(_:ou i k K=some y),∃z,K z=some y/\lT P w o i m z (args++us)
 |[],[],[],m,k,vals,args,us,cvals,e,ho,f,A,r,K,y,h=>by grind[GD,lT,pj,lV,aq,CV.R0,ou]|[],_::_,_,m,k,vals,args,us,cvals,e,ho,f,A,r,K,y,h=>by simp[cT]at e|[],[],_::_,m,k,vals,args,us,cvals,e,ho,f,A,r,K,y,h=>by simp[cT]at e|g::i,[],[],m,k,vals,args,us,cvals,e,ho,f,A,r,K,y,h=>by simp[cT]at e|g::i,[],c::cs,m,k,vals,args,us,cvals,e,ho,f,A,r,K,y,h=>by cases args with|cons _ _=>exact ho.elim|nil=>cases us with|nil=>exact f.elim|cons u us=>cases cvals with|nil=>exact f.elim|cons cv cvals=>
 simp only[cT,Bool.and_eq_true]at e;obtain⟨⟨⟨t,J⟩,F⟩,e⟩:=e;have J:=Nat.eq_of_beq_eq_true J;simp only[ou]at h;obtain⟨x,M,D,C,h,N,B,O,G⟩:=gG (P:=P) g.ts rfl r h;obtain⟨⟨b,base,rfl,S,L⟩,f⟩:=f;have :=lB (a:=D) (b:=C) (c:=cv) (d:=cvals.flatten) (by grind) (by omega);obtain⟨rfl,rfl⟩:=this;obtain⟨z,h,E⟩:=ni i [] cs (m+1) (args:=[]) e trivial f (by simp) B h;refine⟨(x,z),h,_,us,rfl,?_,E⟩;unfold lA;cases l:g.k<;>simp only [l] at t⊢<;>try grind
 exact⟨b,base,rfl,eK g.ts (G _ _) L⟩|g::i,n::s,cs,m,k,vals,args,us,cvals,e,ho,f,A,r,K,y,h=>by cases args with|nil=>cases n<;>exact ho.elim|cons v args=>
 simp only [cT,Bool.and_eq_true] at e;obtain⟨⟨t,F⟩,e⟩:=e;simp only [ou] at h;obtain⟨x,M,D,C,h,N,B,O,G⟩:=gG (P:=P) g.ts rfl r h
 have I:v.cells.toList.length=g.ts.len/\pj s args/\∀q j,g.ts.Vs P w o [] q j x v.cells.toList->lA P w o m g x v:=by cases n with|zero=>
  cases l:g.k<;>simp only [l] at t<;>try (cases t;done)
  have :=Nat.eq_of_beq_eq_true t;refine⟨by rw [ho.1,this];rfl,ho.2,λq j h=>?_⟩;unfold lA;simp only [l];rw [ho.1] at h;exact fQ _ F (kE _ h)|succ n=>
  obtain⟨⟨a,rfl,Q⟩,ho⟩:=ho;cases l:g.k<;>simp only [l] at t<;>try grind
  have :=Nat.eq_of_beq_eq_true t;refine⟨by simp [Value.cells,Q,this],ho,λq j h=>?_⟩;unfold lA;simp only [l];exact⟨a,rfl,fQ _ F (kE _ h)⟩
 have :=lB (a:=D) (b:=C) (c:=v.cells.toList) (d:=(args.flatMap λv=>v.cells.toList)++cvals.flatten) (by grind) (by omega);obtain⟨rfl,rfl⟩:=this;obtain⟨z,h,E⟩:=ni i s cs (m+1) e I.2.1 f rfl B h;exact⟨(x,z),h,v,args++us,rfl,I.2.2 (λ_=>.p) 0 (G _ _),E⟩
def sN(o:Nat->Nat->ax):Nat->Nat->ax:=λb k=>match o b k with|.o _=>.x|q=>q
open Classical in noncomputable def gH(w:World)(o o':Nat->Nat->ax):Nat->Nat->ax:=λb k=>if(∃v,w.cell? ⟨b,k,none⟩=some v)then o b k else match o' b k with|.o _=>.x|q=>q
theorem Bd{b k:Nat}(h:o b k=.p):sN o b k=.p:=by simp[sN,h]
theorem jS{b k:Nat}{π:List Nat}:sN o b k≠.o π:=by grind[sN,ax.ctorIdx]
theorem wE:Wf w (sN o):=⟨by grind[sN,jS],λb k=>jS⟩
theorem nj:aj w o w (sN o):=λb k v a ho=>⟨a,Bd ho⟩
theorem qO(a:Fr w (sN o) w' o'):Fr w o w' (gH w o o') where
 os:=a.os
 tape:=a.tape
 output:=a.output
 size:=a.size
 kp b d _:=a.kp b d λ_ _=>jS
 cell b k v c _:=⟨(a.cell b k v c λ_=>jS).1,by simp[gH,c]⟩
 db:=a.db
 uc:=a.uc
theorem qP(a:Fr w (sN o) w' o')(hw:Wf w o):Wf w' (gH w o o') where
 cell b k π h:=by
  unfold gH at h;split at h;·rename_i d;obtain⟨v,c⟩:=d;refine⟨⟨v,(a.cell b k v c λ_=>jS).1⟩,?_⟩;intro j;rw[a.uc b j (cV c)];exact (hw.cell b k π h).2 j
  grind
 ne b k h:=by
  unfold gH at h;split at h;·exact hw.ne b k h
  grind
theorem nk(c:Fr w (sN o) w' o'):aj w' o' w' (gH w o o'):=λb k v a ho=>by
 refine⟨a,?_⟩;unfold gH;split;·grind[sN,Fr.cell,jS,ax.ctorIdx]
 grind
theorem lW(D:cR P w g mu)(hw:Wf w g.o)(hp:aj w g.o w' o'):∀{f:List Nat}{e:List (List CV)}{vals:List Value},cD mu f=some e->aq (λid u=>mu id≠none/\∃b base,g.c id=.box b base/\u=.pointer (some ⟨b,base,none⟩)) f vals->(∀id∈f,Rl w g.o w' o' (.o [id]) .p)->∃cvals,lV w' o' e vals cvals/\aq (CV.R0 P w' o') e.flatten cvals.flatten
 |[],e,vals,a,d,s=>by simp only [cD,Option.some.injEq]at a;subst a;cases vals with|nil=>exact ⟨[],trivial,trivial⟩|cons _ _=>exact d.elim
 |id::f,e,[],a,d,s=>d.elim|id::f,e,u::vals,a,d,s=>by obtain ⟨⟨_,b,base,C,rfl⟩,d⟩:=d;simp only [cD]at a;cases y:cD mu f with|none=>grind|some l=>obtain ⟨cvals,q,I⟩:=lW D hw hp y d (λi N=>s i (by grind));cases A:mu id with|none=>grind|some bl=>
 have t:=D id bl A;cases bl<;>simp only [A,y]at a<;>try (cases a;done)
 case box cs=>
  cases a;obtain ⟨b',E,m,z⟩:=t;rw [C]at m;cases m;have F:∀(cs:List CV)(n:Nat),(∀j cv,cs[j]?=some cv->∃v,w.cell? ⟨b,base+(n+j),none⟩=some v/\g.o b (base+(n+j))=.o [id]/\cv.R P w g mu v)->∃vs,aq (CV.R0 P w' o') cs vs/\∀k x,vs[k]?=some x->w'.cell? ⟨b,base+(n+k),none⟩=some x/\o' b (base+(n+k))=.p:=by intro cs;induction cs with|nil=>intro n _;exact ⟨[],trivial,by simp⟩|cons c cs J=>intro n h;obtain ⟨v,M,ho,G⟩:=h 0 c rfl;obtain ⟨vs,q,I⟩:=J (n+1) (λj cv K=>by have :=h (j+1) cv (by grind);grind);refine ⟨v::vs,⟨CV.R0.re hp hw G.r0,q⟩,λk x L=>?_⟩;cases k with|zero=>simp_all [Gh.o,Rl,ax.ctorIdx]|succ k=>grind
  obtain ⟨vs,r,B⟩:=F cs 0 (λj cv K=>by grind);refine ⟨vs::cvals,⟨⟨b,base,rfl,r.length.symm,λk x L=>by grind⟩,q⟩,?_⟩;grind [aq,CV.R0,aq.append]
 case eE es x=>cases a;obtain ⟨b',E,m,z⟩:=t;rw [C]at m;cases m;obtain ⟨vs,r,B⟩:=eJ es (fu hp hw es [] .p .p (λ_=>.p) (λ_=>.p) 0 x b base rfl (λ_=>rfl) z);have H:=mK es r;refine ⟨vs::cvals,⟨⟨b,base,rfl,H.length.symm,B⟩,q⟩,?_⟩;grind [aq,CV.R0,af.sL,aq.append]
theorem lV.re(hp:aj w o w' o'):∀{d:List (List CV)}{us:List Value}{cvals:List (List Value)},lV w o d us cvals->lV w' o' d us cvals|[],[],[],_=>trivial|_::_,_::_,_::_,h=>⟨let⟨b,base,f,e,g⟩:=h.1;⟨b,base,f,e,λk x i=>let⟨a,c⟩:=g k x i;hp b _ x a c⟩,lV.re hp h.2⟩
theorem wF{P:Program}{a:List bX}(h:ub a=true):∃g,a=[g]/\g.k=.c/\cJ g.ms=true:=by match a,h with|[g],h=>simp only[ub,Bool.and_eq_true]at h;grind
theorem jT:∀{a:List bX}{sh:List Nat}{d:List (List CV)}{args:List Value},cT sh d a=true->aK a args=[]|[],_,_,_,_=>by simp[aK]|_::_,_,_,[],_=>by simp[aK]|g::a,[],[],v::vs,h=>by simp[cT]at h|g::a,[],c::cs,v::vs,h=>by simp only[cT,Bool.and_eq_true]at h;have :=jT (args:=vs) h.2;cases b:g.k<;>simp[b,aK,this]at h⊢|g::a,n::s,cs,v::vs,h=>by simp only[cT,Bool.and_eq_true]at h;have :=jT (args:=vs) h.2;cases b:g.k<;>simp[b,aK,this]at h⊢
theorem yl{C:Ctx}(α:gF P C)(π:cR P w g mu)(hw:Wf w g.o):qN P w g mu (uS C):=by intro f sh t F H k ω vals m γ ε w1 o1 md q hp δ;unfold uS at m;cases z:C.bg f with|none=>grind|some l=>simp only[z]at m;cases d:(cT sh t l.ins&&ub l.aX)with|false=>grind|true=>
 simp only[d,cond_true,Option.some.injEq]at m;subst m;simp only[Bool.and_eq_true]at d;obtain⟨K,M⟩:=α f l z;obtain⟨go,D,T,S⟩:=wF (P:=P) d.2;refine AX.2 ⟨f,vals.toArray,rfl,M,λj i A E x y args c U Y=>?_⟩;obtain⟨ins,aX,θ⟩:=l;dsimp only at D d c;subst D;have p:aj j i j (sN i):=nj;obtain⟨cvals,V,R⟩:=lW (w':=j) (o':=sN i) π hw (hp.trans (A.trans p)) γ ε λid Z=>by
  rcases δ id Z with⟨_,h,_⟩|⟨_,h⟩;·cases h
  ·refine .inr ⟨rfl,λb k s v μ ho=>?_⟩;have G:=h b k s v μ ho;exact (A.trans p) b k v G.1 G.2
 have O:=mK F (kF p E F Y);obtain ⟨I,c,N⟩:=ni (P:=P) (w:=j) (o:=sN i) ins sh t 0 (cvals:=cvals) d.1 U V rfl (aq.append O R) c;cases B:θ I with|none=>grind|some β=>simp only[B,Option.bind_some]at c;have r:=K j (sN i) (args++vals) I β B N wE;rw[show (args++vals).toArray=args.toArray++vals.toArray by simp]at r;refine Calls.mono r λe w3 κ=>?_;obtain ⟨vs,σ,rfl,τ,n,W,a⟩:=κ;rw[jT d.1]at a;match vs,a with
 |[],a=>exact a.elim|[v],a=>have ho:=a.1;unfold yk at ho;simp only[T]at ho;have ho:=fP _ S ho;have X:=mK _ ho;obtain ⟨xr,L,ψ,Q,c,u,J,φ,ρ⟩:=gG (P:=P) H (ms:=[]) rfl X c;cases L with|cons _ _=>cases c|nil=>cases c;cases Q with|cons _ _=>exact J.elim|nil=>simp only[List.append_nil]at u;subst u;refine ⟨v,gH j i σ,rfl,qO n,qP n E,?_⟩;exact kF (nk n) W H (ρ _ _)
 |_::_::_,a=>exact absurd a.2.1 (by simp)
end
end Go.Tm
namespace Go.Tm
open Go
def eL(P:Program)(w:World)(g:Gh)(mu:Mu)(w':World)(g':Gh)(mu':Mu):Prop:=∃T:Nat->Prop,qL w g mu w' g' mu' T/\Fr w g.o w' g'.o/\Wf w' g'.o/\(∀b k id s,g'.o b k=.o (id::s)->mu' id≠none)/\∀id b,(T id\/mu id=none)->mu' id=some b->b.R P w' g' mu' id
theorem qL.gj(w:World)(g:Gh)(mu:Mu):qL w g mu w g mu (λ_=>False):=⟨by grind,by grind,λ_ h=>h,by grind,by grind⟩
theorem eL.gj{P:Program}{w:World}{g:Gh}{mu:Mu}(hw:Wf w g.o)(ho:∀b k id s,g.o b k=.o (id::s)->mu id≠none):eL P w g mu w g mu:=⟨_,.gj w g mu,.gj _ _,hw,ho,by grind⟩
theorem Rel.wG{P:Program}{nt:Nat}{w0:World}{o0:Nat->Nat->ax}{env:Nat->TV}{mu mu':Mu}{tmps:Array Value}{w w':World}{g g':Gh}(r:Rel P nt w0 o0 env mu tmps w g)(h:eL P w g mu w' g' mu'):Rel P nt w0 o0 env mu' tmps w' g':=let⟨_,b,a,c,d,e⟩:=h;r.dp b a c d e
def aS(id:Nat):List aI->Option aI|[]=>none|u::r=>if aH u=id then some u else aS id r
theorem dL{id:Nat}{us:List aI}{u:aI}(h:aS id us=some u):aH u=id/\u∈us:=by induction us with|nil=>cases h|cons x r a=>grind[aH,aS]
theorem eW{n:Nat}:∀{us:List aI},dQ n us=false->∀u∈us,aH u≠n
 |[],_,u,a=>by cases a|x::r,h,u,a=>by
  simp only[dQ,Bool.or_eq_false_iff]at h;rcases List.mem_cons.1 a with rfl|a;·exact λe=>by simp_all
  ·exact eW h.2 u a
theorem fy{id to:Nat}:∀{us:List aI},aP us=true->.mv id to∈us->aS id us=some (.mv id to)
 |[],_,h=>by cases h|x::r,a,h=>by
  simp only[aP,Bool.and_eq_true]at a;simp only[aS];rcases List.mem_cons.1 h with rfl|b;·simp[aH]
  · clear h;split;· rename_i e;cases x with|mv id' d=>simp only[aH]at e;subst e;have :=eW (by simpa using a.1) _ b;grind[aH]|pm id'=>simp only[aH]at e;subst e;have c:=a.1;simp only[Bool.not_eq_true',List.any_eq_false]at c;have :=c _ b;simp_all[sP,aH]
    · exact fy a.2 b
theorem gI{id:Nat}:∀{us:List aI},aP us=true->.pm id∈us->aS id us=some (.pm id)
 |[],_,h=>by cases h|x::r,a,h=>by
  simp only[aP,Bool.and_eq_true]at a;simp only[aS];rcases List.mem_cons.1 h with rfl|b;·simp[aH]
  · clear h;split;· rename_i e;cases x with|mv id' c=>simp only[aH]at e;subst e;have :=eW (by simpa using a.1) _ b;grind[aH]|pm id'=>simp only[aH]at e;grind
    · exact gI a.2 b
theorem uT{q:ax}(c:∀id s,q=.o (id::s)->False)(b:q=.o []->False)(π:List Nat):q≠.o π:=by intro e;cases π with|nil=>grind|cons a s=>grind
def ho(us:List aI)(o:Nat->Nat->ax):Nat->Nat->ax:=λb k=>match o b k with
 |.o (id::s)=>match aS id us with|some (.mv _ to)=>.o (to::s)|some (.pm _)=>.p|none=>.x
 |.o []=>.x|q=>q
def ug(ρ:Nat->Option Nat):ax->ax
 |.o (k::s)=>match ρ k with|some id=>.o (id::s)|none=>.x
 |.o []=>.x|q=>q
open Classical in noncomputable def bk(cl:Bool)(us:List aI)(ρ:Nat->Option Nat)(w:World)(o o':Nat->Nat->ax):Nat->Nat->ax:=λb k=>if(∃v,w.cell? ⟨b,k,none⟩=some v)then match o b k with
 |.o (id::s)=>match aS id us with|some (.mv _ _)=>ug ρ (o' b k)|some (.pm _)=>if cl then .o (id::s)else .p|none=>.o (id::s)
 |.o []=>.x|q=>q else ug ρ (o' b k)
section
variable{P:Program}{w w':World}{g:Gh}{o':Nat->Nat->ax}{mu:Mu}{us:List aI}{cl:Bool}{ρ:Nat->Option Nat}
theorem uU(d:aP us=true):∀u∈us,br (λto=>.o [to]) w g.o w (ho us g.o) u:=by intro u c;cases u with|mv id to=>refine .inl ⟨[to],rfl,λb k s v a h=>⟨a,?_⟩⟩;simp only [List.cons_append,List.nil_append]at h;simp [ho,h,fy d c]|pm id=>refine .inr ⟨rfl,λb k s v a h=>⟨a,?_⟩⟩;simp_all [ho,Gh.o,aS,gI]
theorem ym:aj w g.o w (ho us g.o):=λb k v a h=>⟨a,by simp[ho,h]⟩
theorem Be(hw:Wf w g.o):Wf w (ho us g.o)where
 cell b k π h:=by
  unfold ho at h;split at h;·rename_i id s e;exact hw.cell b k _ e
  ·cases h
  simp_all[Gh.o,uT]
 ne b k h:=by unfold ho at h;grind
theorem pw{b k:Nat}(h:∀π,g.o b k≠.o π):(∀π,ho us g.o b k≠.o π)/\ho us g.o b k=g.o b k:=by simp_all[ho,Gh.o,aS]
theorem zo{q:ax}{id:Nat}{s:List Nat}(h:ug ρ q=.o (id::s)):∃k,q=.o (k::s)/\ρ k=some id:=by cases q with|x=>cases h|p=>cases h|o π=>cases π with|nil=>cases h|cons k s'=>simp only[ug]at h;grind
theorem td{q:ax}:ug ρ q≠.o []:=by cases q with|x=>intro h;cases h|p=>intro h;cases h|o π=>cases π with|nil=>intro h;cases h|cons k s'=>simp only [ug];grind
theorem Bf(a:Fr w (ho us g.o) w' o')(hw:Wf w g.o)(f:Wf w' o'):Wf w' (bk cl us ρ w g.o o') where
 cell b k π h:=by
  have n:∀π,ug ρ (o' b k)=.o π->(∃v,w'.cell? ⟨b,k,none⟩=some v)/\∀j,w'.frozen? ⟨b,j,none⟩=false:=by intro π h;cases π with|nil=>exact absurd h td|cons id s=>obtain⟨q,m,_⟩:=zo h;exact f.cell b k _ m
  unfold bk at h;split at h
  · rename_i l;obtain⟨v,c⟩:=l;have p:∀id s,g.o b k=.o (id::s)->(∃v,w'.cell? ⟨b,k,none⟩=some v)/\∀j,w'.frozen? ⟨b,j,none⟩=false:=λid s e=>by obtain⟨i,d⟩:=a.db b k v c;exact⟨⟨i,d⟩,λj=>by rw[a.uc b j (cV c)];exact (hw.cell b k _ e).2 j⟩
    split at h;· grind
    · cases h
    simp_all[Gh.o,uT]
  grind
 ne b k h:=by
  unfold bk at h;split at h
  · split at h
    · split at h;· exact td h
      · grind
      grind
    · cases h
    grind
  grind[td]
theorem Bg(a:Fr w (ho us g.o) w' o'):Fr w g.o w' (bk cl us ρ w g.o o') where
 os:=a.os
 tape:=a.tape
 output:=a.output
 size:=a.size
 kp b c h:=a.kp b c λk=>(pw (h k)).1
 cell b k v d h:=by refine⟨(a.cell b k v d (pw h).1).1,?_⟩;simp_all[bk,Gh.o,aS,ug]
 db:=a.db
 uc:=a.uc
theorem zM{b k:Nat}{v:Value}(a:w.cell? ⟨b,k,none⟩=some v)(h:∀id s,g.o b k=.o (id::s)->aS id us=none\/(cl=true/\∃i,aS id us=some (.pm i)))(c:g.o b k≠.o []):bk cl us ρ w g.o o' b k=g.o b k:=by unfold bk;rw [if_pos ⟨v,a⟩];grind
theorem uh(a:Fr w (ho us g.o) w' o'){b k:Nat}{v:Value}(c:w.cell? ⟨b,k,none⟩=some v)(h:∀id s,g.o b k=.o (id::s)->aS id us=none\/∃i,aS id us=some (.pm i)):w'.cell? ⟨b,k,none⟩=some v:=by
 refine (a.cell b k v c λπ=>?_).1;unfold ho;split;·grind
 ·simp
 simp_all[uT,Gh.o]
theorem ui(a:Fr w (ho us g.o) w' o'){k id:Nat}(l:ρ k=some id):Rl w' o' w' (bk cl us ρ w g.o o') (.o [k]) (.o [id]):=by
 refine .inl ⟨[id],rfl,λb j s v c h=>⟨c,?_⟩⟩;simp only [List.cons_append,List.nil_append]at h⊢;unfold bk;split
 · rename_i d;obtain ⟨u,i⟩:=d;have m:(∀π,ho us g.o b j≠.o π)->False:=λf=>by have :=(a.cell b j u i f).2;grind
   split
   · rename_i id' s' e;split;· grind [ug]
     · simp_all [ho,Gh.o,aS,ax.ctorIdx]
     simp_all [ho,Gh.o,aS,ax.ctorIdx]
   · simp_all [ho,Gh.o,aS,ax.ctorIdx]
   simp_all [ho,Gh.o,pw,uT]
 grind [ug]
theorem yn(c:Fr w (ho us g.o) w' o')(m:cl=false)(l:∀b k,g.o b k≠.o []):aj w' o' w' (bk cl us ρ w g.o o'):=by
 intro b k v f h;refine⟨f,?_⟩;unfold bk;split
 · rename_i i;obtain⟨u,d⟩:=i;split
   · rename_i id s e;split;· simp [ug,h]
     · grind
     · rename_i a;have :=(c.cell b k u d (λπ=>by simp [ho,e,a])).2;simp [h,ho,e,a]at this
   · grind
   · rename_i j a;have n:ho us g.o b k=g.o b k:=(pw (uT j a)).2;have :=(c.cell b k u d (λπ=>by simp_all [ho,Gh.o,uT])).2;grind
 grind [ug]
mutual theorem Bh{w w':World}{o o':Nat->Nat->ax}(hw:Wf w o):∀(t:Ty)(md:Md)(π π':List Nat)(x:t.D)(v:Value),mC t md=true->Rl w o w' o' (.o π) (.o π')->t.H P w o md (.o π) x v->t.H P w' o' md (.o π') x v
 |.int _,_,_,_,_,_,_,_,h=>h|.bool,_,_,_,_,_,_,_,h=>h|.str,_,_,_,_,_,_,_,h=>h|.sl es,.own ms,π,π',xs,v,d,f,h=>by
  obtain⟨a,c,rfl,n,h⟩:=bI.1 h;refine bI.2 ⟨a,c,rfl,n,?_⟩;rcases h with h|⟨ad,p,r,z,h⟩;·grind
  · have g:=f;rcases f with⟨A,e,f⟩|⟨e,_⟩
    · cases e;refine .inr ⟨ad,p,r,λk m=>?_,λi x y=>?_⟩;· have q:=z k m;obtain ⟨⟨u,C⟩,_⟩:=hw.cell _ _ _ q;simp_all
      · exact zp hw es ms _ _ _ _ 0 x _ _ (by simpa[mC]using d) g (λj=>Rl.sub g [i,j]) (h i x y)
    grind|.sl es,.sh,_,_,_,_,d,_,_=>by simp [mC]at d|.fn _ _ _,_,_,_,_,_,d,_,_=>by simp [mC]at d;theorem zp{w w':World}{o o':Nat->Nat->ax}(hw:Wf w o):∀(ts:af) (ms:List Md) (π π':List Nat) (pf pf':Nat->List Nat) (j:Nat) (x:ts.D) (b off:Nat),fN ts ms=true->Rl w o w' o' (.o π) (.o π')->(∀j,Rl w o w' o' (.o (pf j)) (.o (pf' j)))->ts.Hs P w o ms (.o π) (λj=>.o (pf j)) j x b off->ts.Hs P w' o' ms (.o π') (λj=>.o (pf' j)) j x b off
 |.nil,_,_,_,_,_,_,_,_,_,_,_,_,_=>trivial|.cons t ts,ms,π,π',pf,pf',j,x,b,off,d,f,l,h=>by
  simp only [fN,Bool.and_eq_true]at d;obtain ⟨⟨v,B,ho,s⟩,h⟩:=h;have :w'.cell? ⟨b,off,none⟩=some v/\o' b off=.o π':=by simp_all [Rl,ax.o.noConfusion,ax.ctorIdx]
  exact ⟨⟨v,this.1,this.2,Bh hw t _ _ _ x.1 v d.1 (l j) s⟩,zp hw ts _ π π' pf pf' _ _ _ _ d.2 f l h⟩end
theorem eX(ms:List Md):gR ms 0=cy ms:=by cases ms<;>rfl
theorem eY(ms:List Md)(i:Nat):gR ms (i+1)=gR (cW ms) i:=by cases ms<;>rfl
theorem zq{w w':World}{o o':Nat->Nat->ax}(hw:Wf w o)(hp:cl=false->aj w o w' o')(t:Ty){md:Md}{π π':List Nat}{x:t.D}{v:Value}(b:cl=true->mC t md=true)(c:(∃m,md=.own m)->Rl w o w' o' (.o π) (.o π')) (h:t.H P w o md (.o π) x v):t.H P w' o' md (.o π') x v:=by cases a:cl with
 |true=>cases t with
  |int=>exact h|bool=>exact h|str=>exact h|sl es=>cases md with|sh=>grind[mC,Ty.H]|own ms=>grind[Bh]
  |fn=>grind[mC,Ty.H]
 |false=>cases md with|sh=>exact mE _ (ck (hp a) hw t .sh .p .p x v rfl (mE _ h))|own ms=>grind[ck]
theorem nq{w w':World}{o o':Nat->Nat->ax}(hw:Wf w o)(hp:cl=false->aj w o w' o'){pf pf':Nat->List Nat}:∀(ts:af){ms:List Md}{j:Nat}{x:ts.D}{vs:List Value},(cl=true->fN ts ms=true)->(∀i,i<ts.len->(∃m,gR ms i=.own m)->Rl w o w' o' (.o (pf (j+i))) (.o (pf' (j+i))))->ts.Vs P w o ms (λj=>.o (pf j)) j x vs->ts.Vs P w' o' ms (λj=>.o (pf' j)) j x vs
 |.nil,_,_,_,_,_,_,h=>h|.cons t ts,ms,j,x,vs,f,b,h=>by
  obtain⟨v,r,e,d,c⟩:=h;refine⟨v,r,e,zq hw hp t (λe=>?_) (λa=>?_) d,nq hw hp ts (λe=>?_) (λi g a=>?_) c⟩;·grind[fN,mC,cy,cW]
  ·exact b 0 (by simp[af.len]) (by rw[eX];exact a)
  ·grind[fN,mC,cy,cW]
  ·have :=b (i+1) (by grind[af.len]) (by rw[eY];exact a);grind
end
end Go.Tm
namespace Go.Tm
open Go
section
variable{P:Program}{w w':World}{g:Gh}{o o':Nat->Nat->ax}{mu:Mu}
theorem br.pm{a:Nat->ax}{id:Nat}(h:br a w o w' o' (.pm id)):Rl w o w' o' (.o [id]) .p:=h
theorem br.mv{a:Nat->ax}{id to:Nat}(h:br a w o w' o' (.mv id to)):Rl w o w' o' (.o [id]) (a to):=h
theorem jU{q:ax}{b base:Nat}:∀(cs:List CV),(∀j cv,cs[j]?=some cv->∃v,w.cell? ⟨b,base+j,none⟩=some v/\g.o b (base+j)=q/\cv.R P w g mu v)->∃vs,cc P w g mu cs vs/\∀k v,vs[k]?=some v->w.cell? ⟨b,base+k,none⟩=some v/\g.o b (base+k)=q:=by
 intro cs;have d:∀(cs:List CV)(n:Nat),(∀j cv,cs[j]?=some cv->∃v,w.cell? ⟨b,base+(n+j),none⟩=some v/\g.o b (base+(n+j))=q/\cv.R P w g mu v)->∃vs,cc P w g mu cs vs/\∀k v,vs[k]?=some v->w.cell? ⟨b,base+(n+k),none⟩=some v/\g.o b (base+(n+k))=q:=by intro cs;induction cs with|nil=>intro n _;exact⟨[],trivial,by simp⟩|cons c cs e=>intro n h;obtain⟨v,m,ho,a⟩:=h 0 c rfl;obtain⟨vs,f,l⟩:=e (n+1) (λj cv i=>by have :=h (j+1) cv (by grind);grind);refine⟨v::vs,⟨a,f⟩,λk x o=>?_⟩;grind
 intro h;have :=d cs 0 (λj cv i=>by grind);grind
theorem wH{id aF i:Nat}{es:af}{ms0:List Md}{xs:List es.D}{a:Addr}{n c:Nat}(m:mu id=some (.row es ms0 xs aF))(l:g.c id=.row (.slice (some a) n c))(base:Nat)(p:base=a.off+i*es.len):∀(ts:af){ms:List Md}{qf:Nat->ax}{j:Nat}{x:ts.D}{vs:List Value},ts.Vs P w g.o ms qf j x vs->(∀k v,vs[k]?=some v->w.cell? ⟨a.block,base+(j+k),none⟩=some v/\g.o a.block (base+(j+k))=.o [id])->cc P w g mu (ts.aU ms (λj=>.nref id aF i j) j x) vs
 |.nil,ms,qf,j,x,vs,h,b=>by cases (h:vs=[]);trivial|.cons t ts,ms,qf,j,x,vs,h,b=>by
  obtain⟨v,r,rfl,d,f⟩:=h;refine⟨?_,wH m l base p ts f λk v C=>?_⟩;·have B:=b 0 v rfl;cases e:cy ms with|sh=>rw [e]at d;exact wD t (mE t d)|own z=>refine⟨by grind,jq t d,λu s A q y=>?_⟩;grind
  ·have :=b (k+1) v (by grind);grind
theorem aq.bD{α:Type}{vs:List α}{k off n:Nat}{v:α}(h:((vs.drop off).take n)[k]?=some v):vs[off+k]?=some v:=by grind
theorem qQ{R:Type}(H:cR P w g mu)(hw:Wf w g.o){cv:CV}{v:Value}(D:cv.R P w g mu v){n:Nat}{us:List aI}{K:List CV->List aI->Option R}{y:R}(h:dH mu cv n us K=some y):∃F G vs b base,K F (G++us)=some y/\cc P w g mu F vs/\v=.pointer (some ⟨b,base,none⟩)/\∀s w' o',aj w g.o w' o'->(∀u∈G,br s w g.o w' o' u)->∀k u,vs[k]?=some u->w'.cell? ⟨b,base+k,none⟩=some u/\o' b (base+k)=.p:=by
 cases cv<;>simp only[dH]at h<;>try grind
 case ptr id off=>obtain ⟨_,b,base,A,rfl⟩:=D;cases r:mu id with|none=>grind|some bl=>
  have B:=H id bl r;cases bl<;>simp only[r]at h<;>try (cases h;done)
  case box cs=>
   obtain ⟨b',I,j,t⟩:=B;rw[A]at j;cases j;obtain ⟨vs,o,l⟩:=jU (P:=P) (mu:=mu) cs t;refine ⟨_,[.pm id],_,b,base+off,h,aq.take n (aq.drop off o),rfl,λs w' o' hp f k u q=>?_⟩;have d:=l _ _ (aq.bD q);rcases br.pm (f (.pm id) (by simp)) with ⟨_,e,_⟩|⟨_,f⟩;·cases e
   ·have :=f b (base+(off+k)) [] u d.1 (by grind);grind
  case eE es x=>obtain ⟨b',I,j,t⟩:=B;rw[A] at j;cases j;obtain ⟨vs,o,l⟩:=eJ es t;refine ⟨_,[],_,b,base+off,h,aq.take n (aq.drop off (jR es o)),rfl,λs w' o' hp f k u q=>?_⟩;have d:=l _ _ (aq.bD q);have :=hp _ _ _ d.1 d.2;grind
 case eO es x off=>obtain ⟨b,base,rfl,t⟩:=D;obtain ⟨vs,o,l⟩:=eJ es t;refine ⟨_,[],_,b,base+off,h,aq.take n (aq.drop off (jR es o)),rfl,λs w' o' hp f k u q=>?_⟩;have d:=l _ _ (aq.bD q);have :=hp _ _ _ d.1 d.2;grind
 case dF id sz i off=>obtain ⟨_,a,m,c,A,N,rfl⟩:=D;cases r:mu id with|none=>grind|some bl=>
 have B:=H id bl r;cases bl<;>simp only[r] at h<;>try grind
 case row es ms xs aF=>cases C:Nat.beq sz es.len with|false=>grind|true=>simp only[C,cond_true] at h;have C:=Nat.eq_of_beq_eq_true C;cases E:aC xs i with|none=>grind|some x=>
 simp only[E,Option.bind_some] at h;obtain ⟨O,j,z⟩:=B;rw[A] at j;cases j;obtain ⟨S,Q,L,_,z⟩:=bI.1 z;cases L;rcases z with ⟨rfl,_⟩|⟨ad,J,_,_,z⟩;·simp[aC] at E
 · cases J;obtain ⟨vs,o,l⟩:=eJ es (z i x E);have M:=wH (P:=P) (w:=w) (ms0:=ms) r A (a.off+i*es.len) rfl es o (by grind);refine ⟨_,[.pm id],_,a.block,a.off+i*sz+off,h,aq.take n (aq.drop off M),rfl,λs w' o' hp f k u q=>?_⟩;have d:=l _ _ (aq.bD q);rcases br.pm (f (.pm id) (by simp)) with ⟨_,e,_⟩|⟨_,f⟩;· cases e
   · have :=f a.block _ [] u d.1 (by grind);grind
def BV(P:Program)(w:World)(g:Gh)(mu:Mu):Tg->Bk->Prop|.bx id,.bx b off=>(∃cs,mu id=some (.box cs))/\g.c id=.box b off|.cv cs,.vs l=>cc P w g mu cs l|_,_=>False
theorem nu{R:Type}{C:Ctx}(I:gF P C)(B:cR P w g mu)(hw:Wf w g.o):∀(n:List bX)(m:Nat){args:List TV}{vals:List Value}{us:List aI}(_:aq (TV.R P w g mu) args vals){K:GD n->List aI->Option R}{y:R}(_:bA C mu n m args us K=some y),∃x d,K x (d++us)=some y/\aq (BV P w g mu) (da n args) (aK n vals)/\∀w' o',aj w g.o w' o'->(∀u∈d,br (λto=>.o [to]) w g.o w' o' u)->lT P w' o' n m x vals
 |[],m,args,vals,us,A,K,y,h=>by cases args with|cons _ _=>simp [bA]at h|nil=>cases vals with|cons _ _=>exact A.elim|nil=>exact⟨(),[],h,trivial,λ_ _ _ _=>rfl⟩
 |p::n,m,[],vals,us,A,K,y,h=>by simp [bA]at h|p::n,m,a::args,[],us,A,K,y,h=>A.elim|p::n,m,a::args,v::vals,us,A,K,y,h=>by
  have go:∀(q:List CV) (vs:List Value) (us:List aI),cc P w g mu q vs->(aQ (uS C) mu p.ts p.ms (64*m+1) q us λx q us=>match q with|[]=>bA C mu n (m+1) args us λr us=>K (x,r) us|_=>none)=some y->∃x d,K x (d++us)=some y/\aq (BV P w g mu) (da n args) (aK n vals)/\∀w' o',aj w g.o w' o'->(∀u∈d,br (λto=>.o [to]) w g.o w' o' u)->p.ts.Vs P w' o' p.ms (λj=>.o [j]) (64*m+1) x.1 vs/\lT P w' o' n (m+1) x.2 vals:=by intro q vs us z h;obtain⟨x,O,d,Z,Q,h,rfl,L,_,i⟩:=fx B hw (λto=>.o [to]) (yl I B hw) p.ts z h;cases O with|cons _ _=>cases h|nil=>cases Q with|cons _ _=>exact L.elim|nil=>obtain⟨r,Y,h,s,γ⟩:=nu I B hw n (m+1) A.2 h;grind
  have t:=A.1;simp only [bA]at h;cases l:p.k with
 |c=>
 cases a<;>simp only [l]at h<;>try grind
 case c cv=>obtain⟨x,d,h,s,i⟩:=go [cv] [v] us ⟨t,trivial⟩ h;refine ⟨x,d,h,by simpa [da,aK,l] using s,λw' o' hp f=>⟨v,vals,rfl,?_,(i w' o' hp f).2⟩⟩;unfold lA;grind|agg=>
 cases a<;>simp only [l] at h<;>try grind
 case agg q=>obtain ⟨E,rfl,z⟩:=t;obtain ⟨x,d,h,s,i⟩:=go q E.toList us z h;refine ⟨x,d,h,by simpa [da,aK,l] using s,λw' o' hp f=>⟨_,vals,rfl,?_,(i w' o' hp f).2⟩⟩;unfold lA;grind|rp=>
 cases a<;>simp only [l] at h<;>try grind
 case c cv=>cases G:cJ p.ms with|false=>grind|true=>simp only [G,cond_true] at h;obtain ⟨q,N,vs,b,base,h,z,rfl,M⟩:=qQ B hw t h;obtain ⟨x,d,h,s,i⟩:=go q vs _ z h;refine ⟨x,d++N,by grind,by simpa [da,aK,l] using s,λw' o' hp f=>⟨_,vals,rfl,?_,(i w' o' hp λu D=>f u (by grind)).2⟩⟩;unfold lA;simp only [l];refine ⟨b,base,rfl,eK p.ts (kE p.ts (fP _ G (i w' o' hp λu D=>f u (by grind)).1)) (M _ w' o' hp λu D=>f u (by grind))⟩
 |io=>
 cases a<;>simp only [l] at h<;>try grind
 case c cv=>
 cases cv<;>simp only at h<;>try grind
 case ptr id off=>obtain ⟨α,b,base,W,rfl⟩:=t;cases J:mu id with|none=>grind|some bl=>
 have S:=B id bl J;cases bl<;>simp only [J] at h<;>try (cases h;done)
 case box cs=>cases F:Nat.beq off 0 with|false=>grind|true=>
 simp only [F,cond_true] at h;cases Nat.eq_of_beq_eq_true F;obtain ⟨b',X,H,T⟩:=S;rw [W] at H;cases H;obtain ⟨vs,V,U⟩:=jU (P:=P) (mu:=mu) cs T;obtain ⟨x,d,h,s,i⟩:=go cs vs _ V h;refine ⟨x,d++[.mv id (64*m)],by grind,?_,λw' o' hp f=>⟨_,vals,rfl,?_,(i w' o' hp λu D=>f u (by grind)).2⟩⟩;·simp_all [aq,BV,da,aK,bX.k,Gh.c]
 · unfold lA;simp only [l];refine ⟨b,base+0,rfl,eK p.ts (i w' o' hp λu D=>f u (by grind)).1 λk u l=>?_⟩;have β:=U k u l;rcases br.mv (f (.mv id (64*m)) (by simp)) with ⟨_,e,f⟩|⟨e,_⟩;· simp_all
   grind|np=>grind|wc=>
 cases a<;>simp only [l] at h<;>try grind
 case c cv=>obtain ⟨x,d,h,s,i⟩:=go [cv] [v] us ⟨t,trivial⟩ h;refine ⟨x,d,h,by simp only [da,aK,l];exact ⟨⟨t,trivial⟩,s⟩,λw' o' hp f=>⟨v,vals,rfl,?_,(i w' o' hp f).2⟩⟩;unfold lA;grind|wa=>
 cases a<;>simp only [l] at h<;>try grind
 case agg q=>obtain ⟨E,rfl,z⟩:=t;obtain ⟨x,d,h,s,i⟩:=go q E.toList us z h;refine ⟨x,d,h,by simp_all [aq,BV,da,aK,bX.k],λw' o' hp f=>⟨_,vals,rfl,?_,(i w' o' hp f).2⟩⟩;unfold lA;grind
def dR(P:Program)(w:World)(o:Nat->Nat->ax)(tv:Nat->List Value)(d:Nat->Nat×Nat):(e:List bX)->(r:Nat)->GD e->List Value->List Bk->Prop|[],_,_,vs,io=>vs=[]/\io=[]|g::e,r,y,v::vs,io=>(g.ts.Vs P w o g.ms (λj=>.o [j]) (64*r+1) y.1 (tv r)/\(match g.k with|.c=>tv r=[v]|.agg=>v=.agg (tv r).toArray|.np=>v=.pointer (some ⟨(d r).1,(d r).2,none⟩)/\∀k u,(tv r)[k]?=some u->w.cell? ⟨(d r).1,(d r).2+k,none⟩=some u/\o (d r).1 ((d r).2+k)=.o [64*r]|_=>False))/\dR P w o tv d e (r+1) y.2 vs io|g::e,r,y,[],a::io=>(g.ts.Vs P w o g.ms (λj=>.o [j]) (64*r+1) y.1 (tv r)/\(match a with|.bx b off=>d r=(b,off)/\∀k u,(tv r)[k]?=some u->w.cell? ⟨(d r).1,(d r).2+k,none⟩=some u/\o (d r).1 ((d r).2+k)=.o [64*r]|.vs l=>tv r=l))/\dR P w o tv d e (r+1) y.2 [] io|_::_,_,_,[],[]=>False
theorem dR.congr{tv e:Nat->List Value}{j f:Nat->Nat×Nat}:∀(b:List bX)(r:Nat){y:GD b}{vs:List Value}{io:List Bk},(∀i,r<=i->e i=tv i/\f i=j i)->dR P w o tv j b r y vs io->dR P w o e f b r y vs io|[],_,_,_,_,_,h=>h|g::b,r,y,v::vs,io,d,h=>by have c:=d r (Nat.le_refl _);simp only[dR,c.1,c.2]at h⊢;exact⟨h.1,dR.congr b (r+1) (λi k=>d i (by omega)) h.2⟩|g::b,r,y,[],a::io,d,h=>by have c:=d r (Nat.le_refl _);simp only[dR,c.1,c.2]at h⊢;exact⟨h.1,dR.congr b (r+1) (λi k=>d i (by omega)) h.2⟩|_::_,_,_,[],[],_,h=>h.elim
theorem ny:∀(d:List bX)(r:Nat){y:GD d}{vs:List Value}{io:List Bk},iW P w o d r y vs io->∃tv f,dR P w o tv f d r y vs io
 |[],_,_,_,_,h=>⟨λ_=>[],λ_=>(0,0),h⟩|g::d,r,y,v::vs,io,h=>by
  obtain⟨tv,f,k⟩:=ny d (r+1) h.2;have e:=h.1;unfold yk at e;cases s:g.k<;>simp only[s]at e;case c=>refine⟨λi=>if i=r then[v]else tv i,f,⟨⟨by grind,by grind⟩,?_⟩⟩;exact dR.congr d (r+1) (λi m=>⟨by grind,rfl⟩) k
  case agg=>obtain⟨a,rfl,e⟩:=e;refine⟨λi=>if i=r then a.toList else tv i,f,⟨⟨by grind,by grind⟩,?_⟩⟩;exact dR.congr d (r+1) (λi m=>⟨by grind,rfl⟩) k
  case np=>obtain⟨b,base,rfl,e⟩:=e;obtain⟨n,p,q⟩:=eJ _ e;refine⟨λi=>if i=r then n else tv i,λi=>if i=r then (b,base) else f i,⟨⟨by grind,by grind⟩,?_⟩⟩;exact dR.congr d (r+1) (λi m=>⟨by grind,by grind⟩) k|g::d,r,y,[],a::io,h=>by obtain⟨tv,f,k⟩:=ny d (r+1) h.2;have e:=h.1;cases a with|bx b off=>obtain⟨n,p,q⟩:=eJ _ e;refine⟨λi=>if i=r then n else tv i,λi=>if i=r then (b,off) else f i,⟨⟨by grind,by simp,by grind⟩,?_⟩⟩;exact dR.congr d (r+1) (λi m=>⟨by grind,by grind⟩) k|vs l=>have e:g.ts.Vs P w o g.ms (λj=>.o [j]) (64*r+1) y.1 l:=e;refine⟨λi=>if i=r then l else tv i,f,⟨⟨by grind,by simp⟩,?_⟩⟩;exact dR.congr d (r+1) (λi m=>⟨by grind,rfl⟩) k
 |_::_,_,_,[],[],h=>h.elim
end
end Go.Tm
namespace Go.Tm
open Go
theorem aM:∀{l:List (Nat×av)}{mu:Mu}{id:Nat},mu id≠none->au mu l id≠none|[],_,_,h=>h|(k,b)::r,mu,id,h=>by simp only[au];refine aM (l:=r) ?_;grind[bW]
theorem dv:∀{l:List (Nat×av)}{mu:Mu}{id:Nat}{b:av},(id,b)∈l->au mu l id≠none
 |(k,b')::r,mu,id,b,h=>by
  simp only[au];rcases List.mem_cons.1 h with h|h;·simp_all[au,bW,aM]
  ·exact dv h
theorem aW:∀{l:List (Nat×av)}{mu:Mu}{id:Nat}{b:av},au mu l id=some b->(id,b)∈l\/((∀b',(id,b')∉l)/\mu id=some b)
 |[],_,_,_,h=>.inr ⟨by simp,h⟩|(k,b')::r,mu,id,b,h=>by
  simp only[au]at h;rcases aW h with h|⟨a,h⟩;·grind
  ·unfold bW at h;cases e:Nat.beq id k with|true=>simp_all|false=>rw[e]at h;refine .inr ⟨λd c=>?_,h⟩;simp_all
theorem aD:∀{l:List (Nat×av)}{mu:Mu}{id:Nat},(∀b',(id,b')∉l)->au mu l id=mu id|[],_,_,_=>rfl|(k,b')::r,mu,id,h=>by simp only[au];rw[aD λb a=>h b (by grind)];unfold bW;cases e:Nat.beq id k with|true=>cases Nat.eq_of_beq_eq_true e;grind|false=>rfl
section
variable{P:Program}{w w':World}{g g':Gh}{o o':Nat->Nat->ax}{mu mu':Mu}
theorem eu:∀(ts:af){ms:List Md}{k:Nat}{x:ts.D}{i:Nat}{m:List Md},gb ts ms=true->i<ts.len->gR ms i=.own m->∃b,(k+i,b)∈aA ts ms k x
 |.nil,_,_,_,_,_,_,h,_=>by simp[af.len]at h|.cons t ts,ms,k,x,0,m,ho,_,a=>by rw[eX]at a;simp only[gb,a,Bool.and_eq_true]at ho;cases t with|sl es=>grind[aA,Ty.D,af.D,cZ,cW,cy]|_=>grind
 |.cons t ts,ms,k,x,i+1,m,ho,c,a=>by simp only[gb,Bool.and_eq_true]at ho;obtain⟨b,d⟩:=eu ts (k:=k+1) (x:=x.2) ho.2 (by simpa[af.len]using c) (by rw[eY]at a;exact a);grind[aA,cZ,cy,Ty.D,af.D,cW]
theorem gJ{idb:Nat}:∀(ts:af){ms:List Md}{j:Nat}{x:ts.D}{vs:List Value},gb ts ms=true->ts.Vs P w' g'.o ms (λj=>.o [idb+j]) j x vs->(∀id b,(id,b)∈aA ts ms (idb+j) x->mu' id≠none)->(∀i,i<ts.len->g'.c (idb+j+i)=.row (vs.getD i undef))->cc P w' g' mu' (bc ts ms (idb+j) x) vs/\∀id b,(id,b)∈aA ts ms (idb+j) x->b.R P w' g' mu' id
 |.nil,ms,j,x,vs,ho,h,g,l=>by cases (h:vs=[]);exact⟨trivial,by simp [aA]⟩|.cons t ts,ms,j,x,vs,ho,h,g,l=>by
  obtain⟨v,r,rfl,e,q⟩:=h;simp only [gb,Bool.and_eq_true]at ho;have f:=l 0 (by simp [af.len]);simp only [Nat.add_zero,List.getD_cons_zero]at f;obtain⟨u,y⟩:=gJ ts ho.2 q (λid b d=>g id b (by grind [aA,cZ,cy,Ty.D,af.D,cW])) λi z=>by have :=l (i+1) (by grind [af.len]);grind
  have w:∀m,cy ms=.own m->(CV.own (idb+j)).R P w' g' mu' v/\∀id b,(id,b)∈cZ t (cy ms) (idb+j) x.1->b.R P w' g' mu' id:=by
   intro m n;rw [n]at e;have ho:=ho.1;simp only [n]at ho;cases t with|sl es=>
  have p:(idb+j,av.row es m x.1 0)∈aA (.cons (.sl es) ts) ms (idb+j) x:=by grind [aA,Ty.D,af.D,cZ,cW,cy]
  obtain⟨a,c,s,_⟩:=bI.1 e;refine⟨⟨g _ _ p,f,a,_,c,s⟩,λid b d=>?_⟩;simp only [n,cZ,List.mem_singleton]at d;cases d;exact⟨v,f,e⟩|_=>grind
  refine⟨?_,λid b d=>?_⟩;·simp only [bc];refine⟨?_,by rw [show idb+j+1=idb+(j+1) by omega];exact u⟩;cases k:cy ms with|sh=>rw [k]at e;exact wD t (mE t e)|own m=>grind
  · simp only [aA]at d;rcases List.mem_append.1 d with d|d;· cases k:cy ms with|sh=>simp [k,cZ]at d|own m=>grind
    grind
theorem cn:∀(ts:af){ms:List Md}{k:Nat}{x:ts.D}{id:Nat}{b:av},(id,b)∈aA ts ms k x->k<=id/\id<k+ts.len/\∃es ms xs,b=.row es ms xs 0
 |.nil,_,_,_,_,_,h=>by simp[aA]at h|.cons t ts,ms,k,x,id,b,h=>by
  simp only[aA]at h;rcases List.mem_append.1 h with h|h;·unfold cZ at h;grind[cy,Ty.D,af.D,af.len,cZ,aA,cW]
  ·have :=cn ts h;grind[af.len,af.D]
theorem gZ{cY:Mu}:∀(ts:af){ms:List Md}{cs:List CV}{x:ts.D}{id:Nat}{b:av},(id,b)∈bd cY ts ms cs x->∃(j:Nat)(m:List Md)(es:af)(xs:List es.D),cs[j]?=some (.own id)/\gR ms j=.own m/\j<ts.len/\∃(a:af)(m0:List Md)(e:List a.D)(aF:Nat),cY id=some (.row a m0 e aF)/\b=.row es m xs (aF+1)
 |.nil,_,_,_,_,_,h=>by simp[bd]at h|.cons t ts,ms,[],x,id,b,h=>by simp[bd]at h|.cons t ts,ms,c::cs,x,id,b,h=>by
  simp only[bd]at h;rcases List.mem_append.1 h with h|h
  · unfold mG at h;split at h;· cases h
    · rename_i m g;split at h
      · split at h;· simp only[List.mem_singleton]at h;cases h;rename_i d;exact⟨0,m,_,_,rfl,by rw[eX];exact g,by simp[af.len],_,_,_,_,d,rfl⟩
        grind
      grind
  · obtain⟨j,m,es,xs,k,f,l,i⟩:=gZ ts h;exact⟨j+1,m,es,xs,by grind,by rw[eY];exact f,by grind[af.len],i⟩
theorem nz{cl:Bool}{cY:Mu}(hw:Wf w' o')(hp:cl=false->aj w' o' w' g'.o):∀(ts:af){ms:List Md}{j:Nat}{x:ts.D}{cs:List CV}{vs:List Value},ts.Vs P w' o' ms (λj=>.o [j]) j x vs->(cl=true->fN ts ms=true)->(∀(i id:Nat)(m:List Md),cs[i]?=some (.own id)->i<ts.len->(∃b,(id,b)∈bd cY ts ms cs x)->Rl w' o' w' g'.o (.o [j+i]) (.o [id])/\∀v,vs[i]?=some v->g'.c id=.row v)->∀id b,(id,b)∈bd cY ts ms cs x->b.R P w' g' mu' id
 |.nil,ms,j,x,cs,vs,hV,f,a,id,b,h=>by simp [bd]at h|.cons t ts,ms,j,x,[],vs,hV,f,a,id,b,h=>by simp [bd]at h|.cons t ts,ms,j,x,c::cs,vs,hV,f,a,id,b,h=>by
  obtain⟨v,r,rfl,d,p⟩:=hV;simp only [bd]at h;rcases List.mem_append.1 h with h|h
  · have n:(id,b)∈bd cY (.cons t ts) ms (c::cs) x:=by simp only [bd];omega
    unfold mG at h;split at h;· cases h
    · rename_i m q;split at h
      · split at h;· simp only [List.mem_singleton]at h;cases h;obtain⟨g,k⟩:=a 0 id m rfl (by simp [af.len]) ⟨_,n⟩;refine⟨v,k v rfl,?_⟩;rw [q]at d;exact zq (cl:=cl) (π:=[j]) (π':=[id]) hw hp _ (λe=>by grind [fN,mC,cy,cW]) (λ_=>g) d
        grind
      grind
  · refine nz hw hp ts p (λe=>by grind [fN,mC,cy,cW]) (λi id m g k l=>?_) id b h;obtain⟨b',l⟩:=l;have :=a (i+1) id m (by grind) (by grind [af.len]) ⟨b',by simp only [bd];grind⟩;grind
theorem hU{cY:Mu}{idb:Nat}:∀(a:List bX)(r l:Nat){io:List Tg}{y:GD a}{id:Nat}{b:av},(∀g∈a,g.ts.len<=62)->(id,b)∈(az cY idb a r l io y).2->(idb<=id/\id<idb+64*(r+a.length))\/(.bx id∈io/\∃cs,b=.box cs)\/∃(cs:List CV)(m:List Md)(es:af)(xs:List es.D),.cv cs∈io/\.own id∈cs/\∃(c:af)(m0:List Md)(n:List c.D)(aF:Nat),cY id=some (.row c m0 n aF)/\b=.row es m xs (aF+1)
 |[],_,_,_,_,_,_,_,h=>by simp[az]at h|g::a,r,0,io,y,id,b,d,h=>by have o:=d g (by simp);have f:∀g∈a,g.ts.len<=62:=λg o=>d g (by grind);cases io with|nil=>simp only[az]at h;have :=hU a (r+1) 0 f h;grind|cons i io=>
  have q:(id,b)∈(az cY idb a (r+1) 0 io y.2).2->(idb<=id/\id<idb+64*(r+(g::a).length))\/(.bx id∈i::io/\∃cs,b=.box cs)\/∃(cs:List CV)(m:List Md)(es:af)(xs:List es.D),.cv cs∈i::io/\.own id∈cs/\∃(c:af)(m0:List Md)(n:List c.D)(aF:Nat),cY id=some (.row c m0 n aF)/\b=.row es m xs (aF+1):=λh=>by
   rcases hU a (r+1) 0 f h with⟨e,k⟩|⟨e,k⟩|⟨cs,m,es,xs,e,k,s⟩;·grind
   ·grind
   grind
  cases i with
  |bx i=>
 simp only[az,List.cons_append,List.mem_cons,List.mem_append]at h;rcases h with h|h|h;·grind
 ·have :=cn _ h;grind
 grind|cv cs=>
 simp only[az]at h;rcases List.mem_append.1 h with h|h;·obtain⟨j,m,es,xs,e,_,_,k⟩:=gZ _ h;grind
 grind
 |g::a,r,l+1,io,y,id,b,d,h=>by
  have o:=d g (by simp);have f:∀g∈a,g.ts.len<=62:=λg o=>d g (by grind);have p:(id,b)∈aA g.ts g.ms (idb+64*r+1) y.1\/(id,b)∈(az cY idb a (r+1) l io y.2).2\/id=idb+64*r:=by simp only[az]at h;grind
  simp only[List.length_cons];rcases p with h|h|h;·have :=cn _ h;omega
  · rcases hU a (r+1) l f h with⟨e,k⟩|e;· omega
    grind
  omega
def Dr(g':Gh):Tg->Bk->Prop|.bx id,.bx b off=>g'.c id=.box b off|.cv cs,.vs l=>∀(j id:Nat),cs[j]?=some (.own id)->∀v,l[j]?=some v->g'.c id=.row v|_,_=>False
theorem kG{cY:Mu}{idb:Nat}{cl:Bool}{tv:Nat->List Value}{N:Nat->Nat×Nat}(hw:Wf w' o')(hp:cl=false->aj w' o' w' g'.o):∀(n:List bX)(r:Nat){y:GD n}{vs:List Value}{io:List Tg}{B:List Bk},dR P w' o' tv N n r y vs B->aq (Dr g') io B->(∀g∈n,g.ts.len<=62/\gb g.ts g.ms=true/\(cl=true->fN g.ts g.ms=true))->(∀id b,(id,b)∈(az cY idb n r vs.length io y).2->mu' id≠none)->(∀d i,r<=d->d<r+n.length->i<62->g'.c (idb+(64*d+1)+i)=.row ((tv d).getD i undef))->(∀d,r<=d->d<r+vs.length->g'.c (idb+64*d)=.box (N d).1 (N d).2)->(∀d i b,r<=d->(∀cs,r+vs.length<=d->io[d-(r+vs.length)]?≠some (.cv cs))->(idb+(64*d+1+i),b)∈(az cY idb n r vs.length io y).2->i<62->Rl w' o' w' g'.o (.o [64*d+1+i]) (.o [idb+(64*d+1+i)]))->(∀d b,r<=d->d<r+vs.length->(idb+64*d,b)∈(az cY idb n r vs.length io y).2->Rl w' o' w' g'.o (.o [64*d]) (.o [idb+64*d]))->(∀i id,io[i]?=some (.bx id)->Rl w' o' w' g'.o (.o [64*(r+vs.length+i)]) (.o [id]))->(∀(i j id:Nat) (cs:List CV),io[i]?=some (.cv cs)->cs[j]?=some (.own id)->j<62->(∃b,(id,b)∈(az cY idb n r vs.length io y).2)->Rl w' o' w' g'.o (.o [64*(r+vs.length+i)+1+j]) (.o [id]))->(∀id b,(id,b)∈(az cY idb n r vs.length io y).2->b.R P w' g' mu' id)/\aq (iD P w' g' mu') (az cY idb n r vs.length io y).1 vs
 |[],r,y,vs,io,B,q,_,_,_,_,_,_,_,_,_=>by cases q.1;grind [az,av.R,aq,iD]|g::n,r,y,v::vs,io,B,q,t,E,D,F,Q,J,R,M,K=>by
  obtain⟨γ,H,L⟩:=E g (by simp);have s:∀id b,(id,b)∈aA g.ts g.ms (idb+64*r+1) y.1\/(id,b)∈(az cY idb n (r+1) vs.length io y.2).2->(id,b)∈(az cY idb (g::n) r (v::vs).length io y).2:=by intro id b h;simp only [List.length_cons,az];grind
  obtain⟨⟨hV,I⟩,q⟩:=q;have U:=nq (cl:=cl) hw hp (w':=w') (o':=g'.o) (pf:=λj=>[j]) (pf':=λj=>[idb+j]) g.ts L (λi O G=>by obtain⟨m,G⟩:=G;obtain⟨b,C⟩:=eu g.ts (k:=idb+64*r+1) (x:=y.1) H O G;grind) hV;obtain⟨f,p⟩:=gJ (mu':=mu') g.ts H U (λid b C=>D id b (s _ _ (.inl (by omega)))) λi O=>F r i (Nat.le_refl _) (by simp) (by omega);obtain⟨w,z⟩:=kG hw hp n (r+1) q t (λg α=>E g (by grind)) (λid b C=>D id b (s _ _ (.inr C))) (λd i f p=>F d i (by omega) (by grind)) (λd f p=>Q d (by omega) (by grind)) (λd i b f δ p=>J d i b (by omega) (λcs h=>by grind) (s _ _ (.inr p))) (λd b f p w=>R d b (by omega) (by grind) (s _ _ (.inr w))) (λi id h=>by grind) (λi j id cs f p w⟨b,z⟩=>by grind);rw [show idb+(64*r+1)=idb+64*r+1 by omega]at f p;have X:∀id b,(id,b)∈aA g.ts g.ms (idb+64*r+1) y.1\/(id,b)∈(az cY idb n (r+1) vs.length io y.2).2->b.R P w' g' mu' id:=λid b h=>by grind
  cases A:g.k with
  |c=>simp only [A]at I;rw [I]at f;refine⟨λid b h=>X id b (by simpa [az,A]using h),?_⟩;simp only [List.length_cons,az,A];refine⟨?_,z⟩;match ψ:bc g.ts g.ms (idb+64*r+1) y.1,f with|[cv],f=>exact f.1|[],f=>exact f.elim|_::_::_,f=>exact f.2.elim
  |agg=>simp only [A]at I;refine⟨λid b h=>X id b (by simpa [az,A]using h),?_⟩;simp only [List.length_cons,az,A];exact⟨⟨_,I,by omega⟩,z⟩|np=>
 simp only [A]at I;obtain⟨rfl,S⟩:=I;have ε:∃b,(idb+64*r,b)∈(az cY idb (g::n) r ((Value.pointer (some ⟨(N r).1,(N r).2,none⟩))::vs).length io y).2:=⟨_,by simp only [List.length_cons,az,A,List.cons_append,List.mem_cons];exact .inl rfl⟩;obtain ⟨π,Z⟩:=ε;have Y:=Q r (Nat.le_refl _) (by simp);refine ⟨λid b h=>?_,?_⟩
 · simp only [List.length_cons,az,A,List.cons_append,List.mem_cons]at h;rcases h with h|h
   · cases h;refine ⟨_,_,Y,λj cv W=>?_⟩;obtain ⟨u,V,θ⟩:=aq.get j cv f W;obtain ⟨τ,ρ⟩:=S j u V;have :=R r π (Nat.le_refl _) (by simp) Z;rcases this with ⟨_,e,this⟩|⟨e,_⟩;· simp_all
     grind
   grind
 · simp only [List.length_cons,az,A];exact ⟨⟨D _ _ Z,_,_,Y,rfl⟩,z⟩|rp=>grind|io=>grind|wc=>grind|wa=>grind
 |g::n,r,y,[],io,[],q,_,_,_,_,_,_,_,_,_=>q.elim|g::n,r,y,[],[],a::B,q,t,_,_,_,_,_,_,_,_=>t.elim|g::n,r,y,[],.bx _::io,.vs _::B,q,t,_,_,_,_,_,_,_,_=>t.1.elim|g::n,r,y,[],.cv _::io,.bx _ _::B,q,t,_,_,_,_,_,_,_,_=>t.1.elim|g::n,r,y,[],.cv cs::io,.vs l::B,q,t,E,D,F,Q,J,R,M,K=>by
  obtain ⟨γ,H,L⟩:=E g (by simp);obtain ⟨⟨hV,β⟩,q⟩:=q;have s:∀id b,(id,b)∈bd cY g.ts g.ms cs y.1\/(id,b)∈(az cY idb n (r+1) 0 io y.2).2->(id,b)∈(az cY idb (g::n) r 0 (.cv cs::io) y).2:=by simp_all [bd,bX.ts,bX.ms,af.D,GD,az]
  obtain ⟨w,z⟩:=kG hw hp n (r+1) (vs:=[]) q t.2 (λg α=>E g (by grind)) (λid b C=>D id b (s _ _ (.inr C))) (λd i f p=>F d i (by omega) (by grind)) (λd f p=>by grind) (λd i b f δ p=>J d i b (by omega) (λcs h=>by grind) (s _ _ (.inr p))) (λd b f p w=>by grind) (λk id h=>by have :=M (k+1) id (by grind);grind) (λk j id T f p w ⟨b,z⟩=>by have :=K (k+1) j id T (by grind) p w ⟨b,s _ _ (.inr z)⟩;grind);refine ⟨λid b h=>?_,by simpa [az]using z⟩;simp only [List.length_nil,az,List.mem_append]at h;rcases h with h|h;· dsimp only at β;rw [β]at hV;refine nz (cl:=cl) hw hp g.ts hV L (λi id m f p ⟨b,w⟩=>⟨?_,λv μ=>t.1 i id f v μ⟩) id b h;have :=K 0 i id cs rfl f (by omega) ⟨b,s _ _ (.inl w)⟩;omega
  grind|g::n,r,y,[],.bx i::io,.bx σ φ::B,q,t,E,D,F,Q,J,R,M,K=>by
  obtain ⟨γ,H,L⟩:=E g (by simp);obtain ⟨⟨hV,ω,S⟩,q⟩:=q;have κ:g'.c i=.box σ φ:=t.1;have s:∀id b,(id,b)∈aA g.ts g.ms (idb+64*r+1) y.1\/(id,b)∈(az cY idb n (r+1) 0 io y.2).2->(id,b)∈(az cY idb (g::n) r 0 (.bx i::io) y).2:=by simp_all [aA,bX.ts,bX.ms,af.D,GD,az,bc]
  have U:=nq (cl:=cl) hw hp (w':=w') (o':=g'.o) (pf:=λj=>[j]) (pf':=λj=>[idb+j]) g.ts L (λi O G=>by obtain ⟨m,G⟩:=G;obtain ⟨b,C⟩:=eu g.ts (k:=idb+64*r+1) (x:=y.1) H O G;grind) hV;obtain ⟨f,p⟩:=gJ (mu':=mu') g.ts H U (λid b C=>D id b (s _ _ (.inl (by omega)))) λi O=>F r i (Nat.le_refl _) (by simp) (by omega);obtain ⟨w,z⟩:=kG hw hp n (r+1) (vs:=[]) q t.2 (λg α=>E g (by grind)) (λid b C=>D id b (s _ _ (.inr C))) (λd i f p=>F d i (by omega) (by grind)) (λd f p=>by grind) (λd i b f δ p=>J d i b (by omega) (λcs h=>by grind) (s _ _ (.inr p))) (λd b f p w=>by grind) (λk id h=>by have :=M (k+1) id (by grind);grind) (λk j id T f p w ⟨b,z⟩=>by have :=K (k+1) j id T (by grind) p w ⟨b,s _ _ (.inr z)⟩;grind);rw [show idb+(64*r+1)=idb+64*r+1 by omega]at f p;refine ⟨λid b h=>?_,by simpa [az]using z⟩;simp only [List.length_nil,az,List.cons_append,List.mem_cons,List.mem_append]at h;rcases h with h|h|h
  · cases h;refine ⟨_,_,κ,λj cv W=>?_⟩;obtain ⟨u,V,θ⟩:=aq.get j cv f W;obtain ⟨τ,ρ⟩:=S j u V;have :=M 0 _ rfl;rcases this with ⟨_,e,this⟩|⟨e,_⟩;· simp_all
    grind
  · grind
  grind
end
end Go.Tm
namespace Go.Tm
open Go
def CV.jD:CV->Bool|.nref _ _ _ _=>false|_=>true
def av.jD:av->Bool|.box cs=>cs.all CV.jD|_=>true
def TV.jD:TV->Bool|.c v=>v.jD|.agg vs=>vs.all CV.jD|.we l=>l.all λx=>x.2.all CV.jD|_=>true
theorem zN(t:Ty)(x:t.D):(t.ro x).jD=true:=by cases t<;>rfl
theorem fC:∀(ts:af)(ms:List Md)(k:Nat)(x:ts.D),(bc ts ms k x).all CV.jD=true|.nil,_,_,_=>rfl|.cons t ts,ms,k,x=>by simp only[bc,List.all_cons,Bool.and_eq_true];refine⟨?_,fC ts _ _ _⟩;cases cy ms with|sh=>exact zN t x.1|own _=>rfl
theorem dW{mu:Mu}{idb:Nat}:∀(a:List bX)(r d:Nat){io:List Tg}{y:GD a},((az mu idb a r d io y).1.all λx=>x.2.all CV.jD)=true/\∀id b,(id,b)∈(az mu idb a r d io y).2->b.jD=true
 |[],_,_,_,_=>⟨by simp[az],by simp[az]⟩|g::a,r,0,[],y=>by simp only[az];exact dW a (r+1) 0|g::a,r,0,.bx i::io,y=>by
  have c:=dW (mu:=mu) (idb:=idb) a (r+1) 0 (io:=io) (y:=y.2);simp only[az];refine⟨c.1,λid b h=>?_⟩;simp only[List.cons_append,List.mem_cons,List.mem_append]at h;rcases h with h|h|h;·cases h;exact fC _ _ _ _
  ·obtain⟨_,_,_,_,_,rfl⟩:=cn _ h;rfl
  grind|g::a,r,0,.cv cs::io,y=>by
  have c:=dW (mu:=mu) (idb:=idb) a (r+1) 0 (io:=io) (y:=y.2);simp only[az];refine⟨c.1,λid b h=>?_⟩;rcases List.mem_append.1 h with h|h;·obtain⟨_,_,_,_,_,_,_,_,_,_,_,_,rfl⟩:=gZ _ h;rfl
  grind|g::a,r,d+1,io,y=>by
  have c:=dW (mu:=mu) (idb:=idb) a (r+1) d (io:=io) (y:=y.2);have e:∀id b,(id,b)∈aA g.ts g.ms (idb+64*r+1) y.1->b.jD=true:=λid b h=>by obtain⟨_,_,_,_,_,rfl⟩:=cn _ h;rfl
  simp only[az];split;·refine⟨by simp only[List.all_cons,c.1,fC,Bool.and_true],λid b h=>?_⟩;grind
  · refine⟨by simp only[List.all_cons,List.all_nil,CV.jD,c.1,Bool.and_true],λid b h=>?_⟩;simp only[List.cons_append,List.mem_cons,List.mem_append]at h;rcases h with h|h|h;· cases h;exact fC _ _ _ _
    · grind
    grind
  · refine⟨by simp only[List.all_cons,c.1,fC,Bool.and_true],λid b h=>?_⟩;grind
theorem uV:∀(l:List (Bool×List CV)),(l.all λx=>x.2.all CV.jD)=true->(qA l).jD=true
 |[],_=>rfl|[x],h=>by
  simp only[List.all_cons,List.all_nil,Bool.and_true]at h;rcases x with⟨_|_,cs⟩
  · rcases cs with _|⟨cv,_⟩;· rfl
    · simp only[List.all_cons,Bool.and_eq_true]at h;exact h.1
  · exact h|_::_::_,h=>h
def tg(P:Program)(w:World)(g:Gh)(mu:Mu)(w':World)(g':Gh)(mu':Mu):Prop:=∃T:Nat->Prop,qL w g mu w' g' mu' T/\Fr w g.o w' g'.o/\Wf w' g'.o/\(∀b k id s,g'.o b k=.o (id::s)->mu' id≠none)/\∀id b,(T id\/mu id=none)->mu' id=some b->b.R P w' g' mu' id/\b.jD=true
theorem tg.wG{P:Program}{w w':World}{g g':Gh}{mu mu':Mu}(h:tg P w g mu w' g' mu'):eL P w g mu w' g' mu':=let⟨T,e,d,f,i,j⟩:=h;⟨T,e,d,f,i,λid b a c=>(j id b a c).1⟩
theorem gK{id:Nat}{b:av}:∀{us:List aI},(id,b)∈fj us->b=.aB/\∃to,aI.mv id to∈us
 |[],h=>by cases h|.mv i to::r,h=>by
  simp only[fj,List.mem_cons]at h;rcases h with h|h;·grind
  ·obtain⟨d,a,c⟩:=gK h;grind|.pm i::r,h=>by obtain⟨d,a,c⟩:=gK (us:=r) h;grind
theorem kH{id to:Nat}:∀{us:List aI},aI.mv id to∈us->(id,av.aB)∈fj us
 |.mv i t::r,h=>by
  simp only[fj,List.mem_cons];rcases List.mem_cons.1 h with h|h;·grind
  ·exact .inr (kH h)|.pm i::r,h=>by
  rcases List.mem_cons.1 h with h|h;·cases h
  ·exact kH (us:=r) h
theorem fR{mu:Mu}{id:Nat}{b:av}:∀{us:List aI},(id,b)∈iM mu us->(b=.aB/\∃to,aI.mv id to∈us)\/(aI.pm id∈us/\((∃es ms xs aF,mu id=some (.row es ms xs aF)/\b=.fz es xs)\/(b=.aB/\∃cs,mu id=some (.box cs))))
 |[],h=>by cases h|.mv i to::r,h=>by
  simp only[iM,List.mem_cons]at h;rcases h with h|h;·grind
  · rcases fR h with⟨c,d,a⟩|⟨c,a⟩;· grind
    grind|.pm i::r,h=>by
  simp only[iM,List.mem_append]at h;rcases h with h|h;· grind
  · rcases fR h with⟨c,d,a⟩|⟨c,a⟩;· grind
    grind
theorem dX{mu:Mu}{id to:Nat}:∀{us:List aI},aI.mv id to∈us->(id,av.aB)∈iM mu us
 |.mv i t::r,h=>by
  simp only[iM,List.mem_cons];rcases List.mem_cons.1 h with h|h;·grind
  ·exact .inr (dX h)|.pm i::r,h=>by
  rcases List.mem_cons.1 h with h|h;·cases h
  ·exact List.mem_append_right _ (dX h)
theorem cG{mu:Mu}{id:Nat}:∀{us:List aI},aI.pm id∈us->∀b,mu id=some b->(∃es ms xs aF,b=.row es ms xs aF)\/(∃cs,b=.box cs)->∃b',(id,b')∈iM mu us
 |.mv i t::r,h,b,a,c=>by
  rcases List.mem_cons.1 h with h|h;·cases h
  ·obtain⟨b',d⟩:=cG h b a c;grind[iM]|.pm i::r,h,b,a,c=>by
  rcases List.mem_cons.1 h with h|h;·cases h;grind[af.D,iM]
  ·obtain⟨b',d⟩:=cG h b a c;grind[iM,af.D]
section
variable{P:Program}{w w':World}{g g':Gh}{o o':Nat->Nat->ax}{mu mu':Mu}
theorem lC{cY:Mu}{idb:Nat}{tv:Nat->List Value}{k:Nat->Nat×Nat}:∀(c:List bX)(r:Nat){y:GD c}{vs:List Value}{io:List Tg}{h:List Bk},dR P w o tv k c r y vs h->io.length=h.length->∀id,.bx id∈io->∃b,(id,b)∈(az cY idb c r vs.length io y).2
 |[],r,y,vs,io,h,f,j,id,d=>by grind[az,dR]|g::c,r,y,v::vs,io,h,f,j,id,d=>by obtain⟨b,l⟩:=lC (cY:=cY) (idb:=idb) c (r+1) f.2 j id d;refine⟨b,?_⟩;simp only[List.length_cons,az];grind|g::c,r,y,[],[],[],f,j,id,d=>by cases d|g::c,r,y,[],_::_,[],f,j,id,d=>by grind|g::c,r,y,[],[],a::h,f,j,id,d=>by grind|g::c,r,y,[],i::io,a::h,f,j,id,d=>by
  simp only[List.length_nil,az];rcases List.mem_cons.1 d with e|d;·grind
  ·obtain⟨b,l⟩:=lC (cY:=cY) (idb:=idb) c (r+1) (vs:=[]) f.2 (by grind) id d;grind
theorem uj{a:List bX}(h:sQ a=true):a.length<=31/\∀g∈a,g.ts.len<=62/\gb g.ts g.ms=true:=by simp_all[af.len,bX.ts,gb,bX.ms,sQ]
theorem uk:∀{a:List bX},wk a=true->∀g∈a,fN g.ts g.ms=true
 |[],_,g,h=>by cases h|x::a,b,g,h=>by
  simp only[wk,Bool.and_eq_true]at b;rcases List.mem_cons.1 h with rfl|h;·grind
  ·exact uk b.2 g h
theorem aq.bK{α β:Type}{R:α->β->Prop}:∀{x:List α}{y:List β},aq R x y->x.length=y.length:=aq.length
theorem yp:∀{l:List (Bool×List CV)}{vs:List Value},aq (iD P w g mu) l vs->(qA l).R P w g mu (lU vs)
 |[],[],_=>⟨#[],rfl,trivial⟩|[x],[v],h=>by
  rcases x with⟨_|_,cs⟩
  · rcases cs with _|⟨cv,_⟩;· trivial
    · exact h.1
  · exact h.1|x::x'::l,v::a::vs,h=>⟨_,rfl,h⟩|[],_::_,h=>h.elim|_::_,[],h=>h.elim|[_],_::_::_,h=>h.2.elim|_::_::_,[_],h=>h.2.elim
open Classical in theorem nA{R:Type}{C:Ctx}(hC:gF P C)(γ:cR P w g mu)(hw:Wf w g.o)(aK:∀b k id s,g.o b k=.o (id::s)->mu id≠none){idb:Nat}(aG:∀n,idb<=n->n<idb+1984->mu n=none){f:Nat}{args:List TV}{vals:List Value}(ha:aq (TV.R P w g mu) args vals){K:TV->List (Nat×av)->Option R}{y:R}(h:kt C mu idb f args K=some y):Calls P f vals.toArray w λe w'=>∃v g' tv ms,e=.returned v/\K tv ms=some y/\tg P w g mu w' g' (au mu ms)/\tv.R P w' g' (au mu ms) v/\tv.jD=true:=by unfold kt at h;cases κ:C.bg f with|none=>grind|some d=>simp only[κ]at h;obtain⟨ad,_⟩:=hC f d κ;obtain⟨x,us,h,ψ,ag⟩:=nu hC γ hw d.ins 0 ha h;simp only[List.append_nil]at h;cases O:(aP us&&sQ d.aX&&(da d.ins args).all (mW mu)) with|false=>grind|true=>simp only[O,cond_true]at h;simp only[Bool.and_eq_true]at O;obtain⟨⟨τ,O⟩,_⟩:=O;obtain⟨aQ,α⟩:=uj O;cases μ:d.f x with|none=>grind|some yo=>
 simp only[μ,Option.bind_some]at h;refine Calls.mono (ad w (ho us g.o) vals x yo μ (ag w _ ym (uU τ)) (Be hw)) λe w' he=>?_;obtain⟨vs,o',rfl,θ,F,σ,aj⟩:=he;obtain⟨tv,Y,J⟩:=ny d.aX 0 aj;rw[<-θ]at h;generalize T:az mu idb d.aX 0 vs.length (da d.ins args) yo=z at h;generalize ax:wk d.aX=cl at h;generalize G:(bif cl then fj us else iM mu us)=A at h;have aO:∀id b,(id,b)∈z.2->(idb<=id/\id<idb+1984)\/(.bx id∈da d.ins args/\∃cs,b=.box cs)\/∃(cs:List CV) (m:List Md) (es:af) (xs:List es.D),.cv cs∈da d.ins args/\.own id∈cs/\∃(ω:af) (m0:List Md) (al:List ω.D) (aF:Nat),mu id=some (.row ω m0 al aF)/\b=.row es m xs (aF+1):=by
  intro id b c;rw[<-T]at c;rcases hU d.aX 0 vs.length (λg S=>(α g S).1) c with⟨β,H⟩|β;·omega
  grind
 have an:∀id b,(id,b)∈A->(b=.aB/\∃to,aI.mv id to∈us)\/(cl=false/\aI.pm id∈us/\((∃es ms xs aF,mu id=some (.row es ms xs aF)/\b=.fz es xs)\/(b=.aB/\∃cs,mu id=some (.box cs)))):=by intro id b c;cases cl with|true=>rw[cond_true]at G;subst G;exact .inl (gK c)|false=>grind[iM,qA,af.D,fR,fj]
 have aR:∀id to,aI.mv id to∈us->(id,av.aB)∈A:=by intro id to c;cases cl with|true=>rw[cond_true]at G;subst G;exact kH c|false=>rw[cond_false]at G;subst G;exact dX c
 let U:Nat->Nat:=λk=>if vs.length<=k/64 then (match (da d.ins args)[k/64-vs.length]? with|some (.bx id)=>if k%64=0 then id else idb+k|some (.cv cs)=>(match k%64 with|0=>idb+k|j+1=>match cs[j]? with|some (.own id)=>id|_=>idb+k)|none=>idb+k) else idb+k;let ρ:Nat->Option Nat:=λk=>if (∃b,(U k,b)∈z.2) then some (U k) else none;let g':Gh:=⟨bk cl us ρ w g.o o',λid=>if mu id≠none then g.c id else if (id-idb)%64=0 then .box (Y ((id-idb)/64)).1 (Y ((id-idb)/64)).2 else .row ((tv ((id-idb)/64)).getD ((id-idb)%64-1) undef)⟩;have X:Fr w g.o w' g'.o:=Bg F;have ak:Wf w' g'.o:=Bf F hw σ;have M:∀id,mu id≠none->g'.c id=g.c id:=λid N=>if_pos N;have ae:∀r i,r<31->i<62->g'.c (idb+(64*r+1)+i)=.row ((tv r).getD i undef):=by grind
 have aa:∀r,r<31->g'.c (idb+64*r)=.box (Y r).1 (Y r).2:=by grind
 have ah:∀id,.bx id∈da d.ins args->∃b,(id,b)∈z.2:=by rw[<-T];exact lC d.aX 0 J ψ.length
 have π:∀b k,g.o b k≠.o []:=hw.ne;have V:∀k id b,U k=id->(id,b)∈z.2->ρ k=some id:=by intro k id b hk c;subst hk;exact if_pos ⟨b,c⟩
 have ε:=kG (P:=P) (cY:=mu) (g':=g') (mu':=au mu (A++z.2)) (idb:=idb) (cl:=cl) σ (λB=>yn F B π) d.aX 0 J (io:=da d.ins args) (by refine aq.imp (λt a J=>?_) ψ;cases t with
 |bx id=>cases a with|bx b off=>obtain ⟨⟨cs,c⟩,B⟩:=J;exact (M id (by grind)).trans B|vs l=>exact J.elim
 |cv cs=>cases a with|bx b off=>exact J.elim|vs l=>intro j id hj v Q;obtain ⟨v',aN,β,H,_⟩:=aq.get j _ J hj;grind) (λδ S=>⟨(α δ S).1,(α δ S).2,λe=>uk (ax.trans e) δ S⟩) (λid b c=>dv (b:=b) (by grind)) (λL i _ H h3=>ae L i (by omega) h3) (λL _ H=>aa L (by
 have :vs.length<=d.aX.length:=by rw [θ];unfold gg;omega
 omega)) (λL i b _ h0 c Z=>ui F (V _ _ b (by
 show (if _ then _ else _)=_;split;·rename_i aA;rw [show (64*L+1+i)/64=L by omega]at aA⊢;grind
 ·rfl) (by grind))) (λL b _ H c=>ui F (V _ _ b (by grind) (by grind))) (λi id Z=>by obtain ⟨b,c⟩:=ah id (List.mem_of_getElem? Z);refine ui F (V _ _ b ?_ c);show (if _ then _ else _)=_;simp_all) (λi j id cs Z hj aT ⟨b,c⟩=>by refine ui F (V _ _ b ?_ (by grind));show (if _ then _ else _)=_;rw [if_pos (by omega),show (64*(0+vs.length+i)+1+j)/64-vs.length=i by omega,Z];dsimp only;rw [show (64*(0+vs.length+i)+1+j)%64=j+1 by omega];grind);rw [T]at ε;refine ⟨lU vs,g',qA z.1,A++z.2,rfl,h,⟨λid=>(∃b,(id,b)∈A++z.2)\/(∃to,aI.mv id to∈us)\/(cl=false/\aI.pm id∈us),?_,X,ak,?_,?_⟩,yp ε.2,uV _ (by rw [<-T];exact (dW d.aX 0 vs.length).1)⟩
 · refine ⟨λb k v Q D=>?_,M,λid N=>aM N,λid D N=>?_,λid es ms xs aF D N E=>?_⟩
   · have ab:∀id s,g.o b k=.o (id::s)->aS id us=none\/(cl=true/\∃i,aS id us=some (.pm i)):=by intro id s e;cases ar:aS id us with|none=>grind|some aE=>obtain ⟨β,H⟩:=dL ar;cases aE with|mv i to=>simp_all [aH,Gh.o,aS]|pm i=>simp_all [aH,Gh.o,aS]
     refine ⟨uh F Q λid s e=>?_,zM Q ab (π _ _)⟩;grind
   · grind [aD]
   · rcases aW E with E|⟨hn,E⟩;· grind
     · rcases D with ⟨b,c⟩|⟨to,c⟩|⟨B,c⟩;· grind
       · grind
       · subst B;rw [cond_false]at G;obtain ⟨b',u⟩:=cG c _ E (.inl ⟨_,_,_,_,rfl⟩);grind
 · intro b k id s e;have aJ:∀q,ug ρ q=.o (id::s)->au mu (A++z.2) id≠none:=by
    intro q hq;obtain ⟨k',_,W⟩:=zo hq;have W:(if (∃b,(U k',b)∈z.2) then some (U k') else none)=some id:=W;split at W;· rename_i aC;obtain ⟨b',u⟩:=aC;cases W;grind [dv]
    grind
   have e:bk cl us ρ w g.o o' b k=.o (id::s):=e;unfold bk at e;split at e
   · split at e
     · rename_i id' s' e';split at e;· grind
       · split at e;· cases e;grind [aM]
         grind
       · cases e;grind [aM]
     · cases e
     grind
   grind
 · intro id b D c;refine ⟨?_,?_⟩
   · rcases aW c with u|⟨hn,u⟩
     · rcases List.mem_append.1 u with u|u
       · rcases an _ _ u with ⟨rfl,_⟩|⟨B,ay,⟨es,ms,xs,aF,ai,rfl⟩|⟨rfl,_⟩⟩;· trivial
         · obtain ⟨v,aw,E⟩:=γ _ _ ai;refine ⟨v,(M id (by grind)).trans aw,?_⟩;have ao:Rl w g.o w' g'.o (.o [id]) .p:=by
            refine .inr ⟨rfl,λb k s v Q e=>?_⟩;have e:g.o b k=.o (id::s):=by grind
            have aL:=gI τ ay;refine ⟨uh F Q λid' s' e'=>?_,?_⟩;· grind
            · show bk cl us ρ w g.o o' b k=.p;simp_all [bk,Gh.o,aS,ug]
           exact mE _ (qK _ _ _ _ _ (ck X.dK hw (.sl es) (.own ms) (.o [id]) .p xs v ao E))
         · trivial
       grind
     · rcases D with D|D
       · rcases D with ⟨b',I⟩|⟨to,I⟩|⟨B,I⟩;· grind
         · grind
         · subst B;rw [cond_false]at G;have φ:=γ id b u;cases b with|row es ms xs aF=>obtain ⟨b',H⟩:=cG I _ u (.inl ⟨_,_,_,_,rfl⟩);grind|box cs=>obtain ⟨b',H⟩:=cG I _ u (.inr ⟨_,rfl⟩);grind|eE es x=>obtain ⟨b,base,B,E⟩:=φ;exact ⟨b,base,(M id (by grind)).trans B,fu X.dK hw es [] .p .p (λ_=>.p) (λ_=>.p) 0 x b base rfl (λ_=>rfl) E⟩|fz es xs=>obtain ⟨v,B,E⟩:=φ;exact ⟨v,(M id (by grind)).trans B,ck X.dK hw (.sl es) .sh .p .p xs v rfl E⟩|aB=>trivial
       grind
   · rcases aW c with u|⟨hn,u⟩
     · rcases List.mem_append.1 u with u|u;· grind [af.D,av.jD,au]
       · exact (dW d.aX 0 vs.length).2 id b (by rw [T];omega)
     · rcases D with D|D
       · rcases D with ⟨b',I⟩|⟨to,I⟩|⟨B,I⟩;· grind
         · grind
         · subst B;rw [cond_false]at G;cases b with|row es ms xs aF=>simp_all [iM,av.jD,cG,af.D]|box cs=>obtain ⟨b',H⟩:=cG I _ u (.inr ⟨_,rfl⟩);grind|eE es x=>rfl|fz es xs=>rfl|aB=>rfl
       grind
end
end Go.Tm
namespace Go.Tm
open Go
theorem fS{α:Type}(f:Nat->α)(k:Nat)(v:α):bW f k v k=v:=by simp_all[bW]
theorem dq{α:Type}{f:Nat->α}{k n:Nat}{v:α}(h:n≠k):bW f k v n=f n:=by unfold bW;rw[Bool.eq_false_iff.2 λe=>h (Nat.eq_of_beq_eq_true e)];rfl
theorem gL:∀{l1 a:List (Nat×av)}{mu:Mu},au mu (l1++a)=au (au mu l1) a|[],_,_=>rfl|(k,b)::l1,a,mu=>by simp only[List.cons_append,au];exact gL (l1:=l1)
theorem jV:∀{l:List (Nat×av)}{mu mu':Mu}{n:Nat},mu n=mu' n->au mu l n=au mu' l n|[],_,_,_,h=>h|(k,b)::l,mu,mu',n,h=>by simp only[au];refine jV (l:=l) ?_;grind[bW]
section
variable{P:Program}{w w':World}{o o':Nat->Nat->ax}
theorem um:∀(es:af){ms:List Md}{a:ax}{qf:Nat->ax}{k j:Nat}{x:es.D}{b off:Nat}{l:ye},es.Hs P w o ms a qf k x b off->es.leaf j x=some l->∃v,w.cell? ⟨b,off+j,none⟩=some v/\o b (off+j)=a/\l.t.H P w o (gR ms j) (qf (k+j)) l.x v|.nil,_,_,_,_,_,_,_,_,_,_,h=>by simp[af.leaf]at h|.cons t ts,ms,a,qf,k,0,x,b,off,l,c,h=>by obtain⟨⟨v,d,ho,e⟩,_⟩:=c;simp only[af.leaf,Option.some.injEq]at h;subst h;exact⟨v,d,ho,by rw[eX];exact e⟩|.cons t ts,ms,a,qf,k,j+1,x,b,off,l,c,h=>by obtain⟨v,g,f,i⟩:=um ts c.2 (by simpa[af.leaf]using h);exact⟨v,by grind,by grind,by rw[eY];grind⟩
theorem px(hp:aj w o w' o')(hw:Wf w o){a:ax}(c:∀b k v,w.cell? ⟨b,k,none⟩=some v->o b k=a->w'.cell? ⟨b,k,none⟩=some v/\o' b k=a):∀(ts:af){ms:List Md}{qf:Nat->ax}{k:Nat}{x:ts.D}{b off:Nat},(∀i,i<ts.len->Rl w o w' o' (qf (k+i)) (qf (k+i)))->ts.Hs P w o ms a qf k x b off->ts.Hs P w' o' ms a qf k x b off|.nil,_,_,_,_,_,_,_,_=>trivial|.cons t ts,ms,qf,k,x,b,off,e,h=>by obtain⟨⟨v,d,ho,f⟩,h⟩:=h;refine⟨⟨v,(c _ _ _ d ho).1,(c _ _ _ d ho).2,ck hp hw t _ _ _ x.1 v (e 0 (by simp[af.len])) f⟩,px hp hw c ts (λi g=>?_) h⟩;have :=e (i+1) (by grind[af.len]);grind
theorem wI(hp:aj w o w' o')(hw:Wf w o){l:ax}(d:∀b k v,w.cell? ⟨b,k,none⟩=some v->o b k=l->w'.cell? ⟨b,k,none⟩=some v/\o' b k=l){g:Ty}{s y:g.D}:∀(ts:af){ms:List Md}{qf:Nat->ax}{k j:Nat}{x x':ts.D}{b off:Nat},(∀i,i<ts.len->i≠j->Rl w o w' o' (qf (k+i)) (qf (k+i)))->ts.Hs P w o ms l qf k x b off->ts.leaf j x=some ⟨g,s⟩->ts.eP j x g y=some x'->(∀v,w.cell? ⟨b,off+j,none⟩=some v->g.H P w' o' (gR ms j) (qf (k+j)) y v)->ts.Hs P w' o' ms l qf k x' b off
 |.nil,_,_,_,_,_,_,_,_,_,_,a,_,_=>by simp[af.leaf]at a|.cons t ts,ms,qf,k,0,x,x',b,off,m,h,a,c,q=>by
  obtain ⟨⟨v,f,ho,p⟩,h⟩:=h;simp only[af.leaf,Option.some.injEq,ye.mk.injEq]at a;obtain ⟨rfl,_⟩:=a;simp only[af.eP]at c;split at c
  · rename_i e _;cases e;cases c;refine ⟨⟨v,(d _ _ _ f ho).1,(d _ _ _ f ho).2,?_⟩,px hp hw d ts (λi z=>?_) h⟩;· grind[Ty.H,gR,cy,eX]
    · have :=m (i+1) (by grind[af.len]) (by omega);grind
  grind|.cons t ts,ms,qf,k,j+1,x,x',b,off,m,h,a,c,q=>by obtain ⟨⟨v,f,ho,p⟩,h⟩:=h;simp only[af.leaf]at a;simp only[af.eP]at c;cases n:ts.eP j x.2 g y with|none=>grind|some r=>
 rw[n]at c;cases c;refine ⟨⟨v,(d _ _ _ f ho).1,(d _ _ _ f ho).2,ck hp hw t _ _ _ x.1 v (m 0 (by simp[af.len]) (by omega)) p⟩,wI hp hw d ts (λi z A=>?_) h a n (λu B=>?_)⟩;· have :=m (i+1) (by grind[af.len]) (by omega);grind
 grind[Ty.H,gR,cW,eY]
end
def kY(o:Nat->Nat->ax)(id i j id':Nat):Nat->Nat->ax:=λb k=>match o b k with|.o (id0::s)=>if id0=id then (match s with|a::c::s'=>if a=i/\c=j then .o (id'::s')else .x|_=>.x)else .o (id0::s)|q=>q
open Classical in noncomputable def mF(w:World)(o o':Nat->Nat->ax)(id i j id':Nat):Nat->Nat->ax:=λb k=>if(∃v,w.cell? ⟨b,k,none⟩=some v)/\(∃s,o b k=.o (id::s))/\kY o id i j id' b k=.x then o b k else match o' b k with|.o (id0::s)=>if id0=id' then .o (id::i::j::s)else .o (id0::s)|q=>q
section
variable{P:Program}{w w':World}{o o':Nat->Nat->ax}{id i j id':Nat}
theorem kI{b k:Nat}(h:∀s,o b k≠.o (id::s)):kY o id i j id' b k=o b k:=by grind[kY]
theorem uo{b k:Nat}{π:List Nat}(h:kY o id i j id' b k=.o π):(∃s,π=id'::s/\o b k=.o (id::i::j::s))\/(o b k=.o π/\∀s,π≠id::s):=by unfold kY at h;grind
theorem zO{b k:Nat}{s:List Nat}(h:o b k=.o (id::i::j::s)):kY o id i j id' b k=.o (id'::s):=by simp[kY,h]
theorem zr{b k:Nat}(h:o b k=.p):kY o id i j id' b k=.p:=by simp[kY,h]
theorem wJ:aj w o w (kY o id i j id'):=λb k v a ho=>⟨a,zr ho⟩
theorem zP:Rl w o w (kY o id i j id') (.o [id,i,j]) (.o [id']):=.inl ⟨[id'],rfl,λb k s v a ho=>⟨a,zO ho⟩⟩
theorem yq{b k:Nat}(h:o' b k≠.x)(a:∀v,w.cell? ⟨b,k,none⟩=some v->kY o id i j id' b k=.x->o' b k=.x):mF w o o' id i j id' b k=(match o' b k with|.o (id0::s)=>if id0=id' then .o (id::i::j::s)else .o (id0::s)|q=>q):=by grind[mF,kY]
end
theorem iX{P:Program}{w w':World}{g g':Gh}{mu mu':Mu}(e:cR P w g mu)(hw:Wf w g.o)(h:eL P w g mu w' g' mu'):cR P w' g' mu':=by
 obtain⟨T,a,_,_,_,f⟩:=h;intro id b c;by_cases d:T id;·grind
 · by_cases hp:mu id=none;· grind
   · rw[a.same id d hp]at c;grind[av.qM]
section
variable{P:Program}{w w':World}{g g':Gh}{mu mu2:Mu}{id i j id':Nat}
def gm(mu:Mu)(id id':Nat)(b:av):Mu:=bW (bW mu id (some .aB)) id' (some b)
def xV(g:Gh)(id i j id':Nat)(v:Value):Gh:=⟨kY g.o id i j id',bW g.c id' (.row v)⟩
theorem fT{b:av}{k:Nat}(c:k≠id)(a:k≠id'):gm mu id id' b k=mu k:=by unfold gm;grind[bW,dq]
theorem mL{b:av}(h:id≠id'):gm mu id id' b id=some .aB:=by unfold gm;rw[dq h,fS]
theorem iY{b:av}:gm mu id id' b id'=some b:=fS _ _ _
theorem eZ{b:av}{k:Nat}(h:mu k≠none):gm mu id id' b k≠none:=by grind[gm,iY,mL,fT]
theorem zQ(hw:Wf w g.o)(C:∀b k id s,g.o b k=.o (id::s)->mu id≠none)(y:mu id≠none)(q:mu id'=none){f:af}{l:List Md}{m:List f.D}{v:Value}(d:(Ty.sl f).H P w g.o (.own l) (.o [id,i,j]) m v):eL P w g mu w (xV g id i j id' v) (gm mu id id' (.row f l m 0))/\(CV.own id').R P w (xV g id i j id' v) (gm mu id id' (.row f l m 0)) v:=by
 have x:id≠id':=λe=>y (e▸q);have r:(Ty.sl f).H P w (kY g.o id i j id') (.own l) (.o [id']) m v:=ck wJ hw (.sl f) (.own l) _ _ m v zP d;refine⟨⟨λk=>k=id,⟨λb k v d n=>⟨d,kI λs e=>n _ _ e rfl⟩,λk p=>?_,λk p=>eZ p,λk n p=>?_,λk es ms xs aF n p u=>?_⟩,?_,⟨λb k π h=>?_,λb k h=>?_⟩,λb k D s h=>?_,λk b n t=>?_⟩,?_⟩;·exact dq λe=>p (e▸q)
 ·grind [fT]
 ·subst n;rw [mL x]at u;cases u
 ·exact⟨rfl,rfl,rfl,Nat.le_refl _,λ_ _ _=>rfl,λb k v d B=>⟨d,kI λs=>B _⟩,λb k v d=>⟨v,d⟩,λ_ _ _=>rfl⟩
 · rcases uo h with⟨s,_,e⟩|⟨e,_⟩;· exact hw.cell b k _ e
   · exact hw.cell b k _ e
 · rcases uo h with⟨s,e,_⟩|⟨e,_⟩;· cases e
   · exact hw.ne b k e
 · rcases uo h with⟨s',e,_⟩|⟨e,_⟩;· cases e;rw [iY];simp
   grind [eZ]
 · by_cases z:k=id';· subst z;rw [iY]at t;cases t;exact⟨v,fS _ _ _,r⟩
   · by_cases A:k=id;· subst A;grind [gm,mL,av.R,xV]
     grind [av.R,xV,gm,fT]
 · obtain⟨a,c,e,_⟩:=bI.1 r;exact⟨by rw [iY];simp,fS _ _ _,a,_,c,e⟩
theorem iZ{d l:Nat->Nat->ax}{c1:Nat->fM}{e g:Mu}(hw:Wf w' d)(hp:aj w' d w' l)(a:∀k,e k≠none->g k≠none)(cv:CV){v:Value}(r:cv.jD=true)(h:cv.R P w' ⟨d,c1⟩ e v):cv.R P w' ⟨l,c1⟩ g v:=by cases cv with|un=>exact h|int k n=>exact h|bool b=>exact h|str s=>exact h|cg=>exact h|ro es xs=>exact ck hp hw (.sl es) .sh .p .p xs v rfl h|own id=>exact ⟨a _ h.1,h.2⟩|nref id aF i j=>cases r|ptr id off=>exact ⟨a _ h.1,h.2⟩|dF id sz i off=>exact ⟨a _ h.1,h.2⟩|eO es x off=>obtain ⟨b,base,c,w⟩:=h;exact ⟨b,base,c,fu hp hw es [] .p .p (λ_=>.p) (λ_=>.p) 0 x b base rfl (λ_=>rfl) w⟩|uQ f=>exact h|ua f z=>obtain ⟨o,c,q⟩:=h;exact ⟨o,c,aq.imp (λid u m=>⟨a _ m.1,m.2⟩) q⟩|qy sh y t k=>exact ck hp hw (.fn sh y t) .sh .p .p k v rfl h
theorem lE{b g:Nat->Nat->ax}{c1:Nat->fM}{e f:Mu}(hw:Wf w' b)(hp:aj w' b w' g)(d:∀k,e k≠none->f k≠none):∀(cs:List CV){vs:List Value},cs.all CV.jD=true->cc P w' ⟨b,c1⟩ e cs vs->cc P w' ⟨g,c1⟩ f cs vs|[],[],_,_=>trivial|c::cs,v::vs,a,h=>by simp only[List.all_cons,Bool.and_eq_true]at a;exact ⟨iZ hw hp d c a.1 h.1,lE hw hp d cs a.2 h.2⟩|[],_::_,_,h=>h.elim|_::_,[],_,h=>h.elim
theorem oB{e j:Nat->Nat->ax}{c1:Nat->fM}{g i:Mu}(hw:Wf w' e)(hp:aj w' e w' j)(f:∀k,g k≠none->i k≠none)(tv:TV){v:Value}(b:tv.jD=true)(h:tv.R P w' ⟨e,c1⟩ g v):tv.R P w' ⟨j,c1⟩ i v:=by cases tv with|un=>trivial|kl=>exact h|c cv=>exact iZ hw hp f cv b h|agg vs=>obtain ⟨a,m,d⟩:=h;exact ⟨a,m,lE hw hp f vs b d⟩|we l=>
 obtain ⟨a,m,d⟩:=h;refine ⟨a,m,?_⟩;have b:(l.all λx=>x.2.all CV.jD)=true:=b;revert d b;generalize a.toList=vs;intro b d;have q:∀(l:List (Bool×List CV))(vs:List Value),(l.all λx=>x.2.all CV.jD)=true->aq (iD P w' ⟨e,c1⟩ g) l vs->aq (iD P w' ⟨j,c1⟩ i) l vs:=by intro l;induction l with|nil=>grind[CV.jD,aq,iD]|cons x l p=>intro vs b h;cases vs with|nil=>exact h.elim|cons u vs=>
  simp only[List.all_cons,Bool.and_eq_true]at b;refine ⟨?_,p vs b.2 h.2⟩;have o:=h.1;rcases x with ⟨_|_,cs⟩
  · rcases cs with _|⟨cv,cs⟩;· trivial
    · have n:=b.1;simp only[List.all_cons,Bool.and_eq_true]at n;exact iZ hw hp f cv n.1 o
  grind[cc,iD,lE,CV.jD]
 grind
end
section
variable{P:Program}{w w':World}{g g':Gh}{mu mu2:Mu}{id i j id':Nat}
theorem qR{α:Type}{xs:List α}{i:Nat}{x:α}(h:aC xs i=some x):i<xs.length:=by unfold aC at h;grind
theorem zR{es:af}{ms:List Md}{xs:List es.D}{aF:Nat}{a:Addr}{n c:Nat}{x x':es.D}{B:af}{F:List Md}{M ys:List B.D}{ab:Nat}{v:Value}(R:cR P w g mu)(hw:Wf w g.o)(ay:∀b k id s,g.o b k=.o (id::s)->mu id≠none)(al:mu id=some (.row es ms xs aF))(L:mu id'=none)(Q:g.c id=.row (.slice (some a) n c))(C:aC xs i=some x)(hl:es.leaf j x=some ⟨.sl B,M⟩)(ah:gR ms j=.own F)(hv:w.cell? ⟨a.block,a.off+i*es.len+j,none⟩=some v)(ar:cR P w (xV g id i j id' v) (gm mu id id' (.row B F M 0))) (ag:Wf w (xV g id i j id' v).o)(N:tg P w (xV g id i j id' v) (gm mu id id' (.row B F M 0)) w' g' mu2) (hy:mu2 id'=some (.row B F ys ab)) (hs:es.eP j x (.sl B) ys=some x'):eL P w g mu w' ⟨mF w g.o g'.o id i j id',g'.c⟩ (bW (bW mu2 id (some (.row es ms (xs.set i x') (aF+1)))) id' (some .aB))/\∀(tv:TV) (u:Value),tv.jD=true->tv.R P w' g' mu2 u->tv.R P w' ⟨mF w g.o g'.o id i j id',g'.c⟩ (bW (bW mu2 id (some (.row es ms (xs.set i x') (aF+1)))) id' (some .aB)) u:=by
 have ω:mu id≠none:=by grind
 have X:id≠id':=λe=>ω (e▸L);have an:cR P w' g' mu2:=iX ar ag N.wG;obtain ⟨θ,A,z,W1,aw,M1⟩:=N;have β:∀b k u,w.cell? ⟨b,k,none⟩=some u->kY g.o id i j id' b k=.x->w'.cell? ⟨b,k,none⟩=some u/\g'.o b k=.x:=λb k u d C=>by obtain ⟨f,l⟩:=A.cell b k u d (λid0 s e=>by have e:kY g.o id i j id' b k=.o (id0::s):=e;grind);simp_all[Gh.o,xV]
 have az:∀b k,g'.o b k≠.x->mF w g.o g'.o id i j id' b k=(match g'.o b k with|.o (id0::s)=>if id0=id' then .o (id::i::j::s) else .o (id0::s)|q=>q):=λb k h=>yq h λu d C=>(β b k u d C).2;have I:aj w' g'.o w' (mF w g.o g'.o id i j id'):=λb k u d ho=>⟨d,by grind⟩;have R2:Rl w' g'.o w' (mF w g.o g'.o id i j id') (.o [id']) (.o [id,i,j]):=.inl ⟨[id,i,j],rfl,λb k s u d ho=>⟨d,by grind⟩⟩;have R3:∀E,E≠id'->Rl w' g'.o w' (mF w g.o g'.o id i j id') (.o [E]) (.o [E]):=λE aH=>.inl ⟨[E],rfl,λb k s u d ho=>⟨d,by grind⟩⟩;have ρ:aj w g.o w' (mF w g.o g'.o id i j id'):=λb k u d ho=>by obtain ⟨f,l⟩:=A.dK b k u d (zr ho);grind
 have W:∀b k u π,w.cell? ⟨b,k,none⟩=some u->g.o b k=.o π->kY g.o id i j id' b k=.x->w'.cell? ⟨b,k,none⟩=some u/\mF w g.o g'.o id i j id' b k=.o π:=λb k u π d ho C=>by
  refine ⟨(β b k u d C).1,?_⟩;have aJ:∃s,g.o b k=.o (id::s):=by
   by_cases h:∃s,g.o b k=.o (id::s);·exact h
   ·have :=kI (o:=g.o) (i:=i) (j:=j) (id':=id') (λs e=>h ⟨s,e⟩);grind
  simp_all [mF,Gh.o,kY]
 have V:∀k,mu2 k≠none->(bW (bW mu2 id (some (.row es ms (xs.set i x') (aF+1)))) id' (some .aB)) k≠none:=λk r=>by
  by_cases l:k=id';·subst l;rw [fS];simp
  · rw [dq l];by_cases f:k=id;· subst f;rw [fS];simp
    · rw [dq f];exact r
 have U:∀k,k≠id->k≠id'->(bW (bW mu2 id (some (.row es ms (xs.set i x') (aF+1)))) id' (some .aB)) k=mu2 k:=λk f l=>by rw [dq l,dq f]
 have ψ:(bW (bW mu2 id (some (.row es ms (xs.set i x') (aF+1)))) id' (some .aB)) id=some (.row es ms (xs.set i x') (aF+1)):=by rw [dq X,fS]
 have ae:g'.c id=g.c id:=(A.c id (by rw [mL X];simp)).trans (dq X);have φ:g'.c id'=.row v:=(A.c id' (by rw [iY];simp)).trans (fS _ _ _);have aa:(Ty.sl es).H P w' (mF w g.o g'.o id i j id') (.own ms) (.o [id]) (xs.set i x') (.slice (some a) n c):=by
  obtain ⟨v0,δ,hH⟩:=R id _ al;rw [Q]at δ;cases δ;obtain ⟨a',c',he,aA,τ⟩:=bI.1 hH;cases he;rcases τ with ⟨h,_⟩|⟨ad,ha,σ,r,γ⟩;· subst h;simp [aC]at C
  · cases ha;have α:∀b k u,w.cell? ⟨b,k,none⟩=some u->g.o b k=.o [id]->w'.cell? ⟨b,k,none⟩=some u/\mF w g.o g'.o id i j id' b k=.o [id]:=λb k u d ho=>W b k u _ d ho (by simp [kY,ho]);refine bI.2 ⟨some a,c,by grind,by grind,.inr ⟨a,rfl,σ,λk O=>?_,λT Z aE=>?_⟩⟩;· have f:=r k O;obtain ⟨⟨u,d⟩,_⟩:=hw.cell _ _ _ f;grind
    · by_cases hi:T=i
      · subst hi;have O:=qR C;have κ:Z=x':=by grind [af.D,aC]
        subst κ;refine wI ρ hw α es (λm _ aG=>.inl ⟨_,rfl,λb k s u d ho=>W b k u _ d ho (by simp_all [Gh.o,kY,ax.ctorIdx])⟩) (γ T x C) hl hs (λu d=>?_);rw [hv]at d;cases d;obtain ⟨v1,ε,au⟩:=an id' _ hy;rw [φ]at ε;cases ε;rw [ah];have :=ck I W1 (.sl B) (.own F) _ _ ys v R2 au;grind
      · have ao:aC xs T=some Z:=by grind [af.D,aC]
        exact px ρ hw α es (λm _=>.inl ⟨_,rfl,λb k s u d ho=>W b k u _ d ho (by simp_all [Gh.o,kY,ax.ctorIdx])⟩) (γ T Z ao)
 refine ⟨⟨λk=>θ k\/k=id,⟨λb k u d y=>?_,λk r=>?_,λk r=>?_,λk y r=>?_,λk aI ms0 aD av y r μ=>?_⟩,?_,⟨λb k π h=>?_,λb k h=>?_⟩,λb k E s h=>?_,λk b y G=>?_⟩,λtv u hn h=>oB W1 I V tv hn h⟩;· have f:kY g.o id i j id' b k=g.o b k:=kI λs e=>y _ _ e (.inr rfl);obtain ⟨l,J⟩:=A.cell b k u d (λid0 s e=>by have e:kY g.o id i j id' b k=.o (id0::s):=e;grind);have J:g'.o b k=g.o b k:=J.trans f;refine ⟨l,?_⟩;show mF w g.o g'.o id i j id' b k=g.o b k;unfold mF;grind
 · have :k≠id':=λe=>r (e▸L);exact (A.c k (eZ r)).trans (dq this)
 · exact V k (A.kD k (eZ r))
 · have f:k≠id:=λe=>y (.inr e);have l:k≠id':=λe=>r (e▸L);rw [U k f l,A.same k (λh=>y (.inl h)) (eZ r),fT f l]
 · have l:k≠id':=λe=>r (e▸L);by_cases f:k=id;· grind
   · rw [U k f l]at μ;rcases y with y|y;· obtain ⟨e1,κ,e3,e4,h5,h6⟩:=A.aF k _ _ _ _ y (eZ r) μ;grind [af.D,gm,fT]
     omega
 · refine ⟨z.os,z.tape,z.output,z.size,λb O h=>z.kp b O λk π e=>?_,λb k u d h=>?_,z.db,z.uc⟩
   · rcases uo e with ⟨s,_,e⟩|⟨e,_⟩;· grind
     grind
   · have f:kY g.o id i j id' b k=g.o b k:=kI λs=>h _;obtain ⟨l,J⟩:=z.cell b k u d (λπ e=>by have e:kY g.o id i j id' b k=.o π:=e;grind);have J:g'.o b k=g.o b k:=J.trans f;refine ⟨l,?_⟩;show mF w g.o g'.o id i j id' b k=g.o b k;unfold mF;grind
 · have h:mF w g.o g'.o id i j id' b k=.o π:=h;unfold mF at h;split at h;· rename_i Q;obtain ⟨⟨u,d⟩,_,_⟩:=Q;refine ⟨z.db b k u d,?_⟩;intro j;rw [z.uc b j (cV d)];exact (hw.cell b k _ h).2 j
   · split at h;· rename_i id0 s e;exact W1.cell b k _ e
     · exact W1.cell b k _ h
 · have h:mF w g.o g'.o id i j id' b k=.o []:=h;unfold mF at h;split at h;· grind
   · split at h;· grind
     · exact W1.ne b k h
 · have h:mF w g.o g'.o id i j id' b k=.o (E::s):=h;unfold mF at h;grind
 · by_cases l:k=id';· subst l;rw [fS]at G;cases G;trivial
   · by_cases f:k=id;· subst f;rw [ψ]at G;cases G;exact ⟨_,ae.trans Q,aa⟩
     · rw [U k f l]at G;have ak:θ k\/gm mu id id' (.row B F M 0) k=none:=by grind [gm,fT]
       obtain ⟨t,Y⟩:=M1 k b ak G;cases b with|box cs=>obtain ⟨S,base,D,t⟩:=t;have Y:cs.all CV.jD=true:=Y;refine ⟨S,base,D,λm cv R=>?_⟩;obtain ⟨u,d,ho,aq⟩:=t m cv R;have ai:cv.jD=true:=List.all_eq_true.1 Y cv (List.mem_of_getElem? R);refine ⟨u,d,?_,iZ W1 I V cv ai aq⟩;grind|eE e0 K=>obtain ⟨S,base,D,t⟩:=t;exact ⟨S,base,D,fu I W1 e0 [] .p .p (λ_=>.p) (λ_=>.p) 0 K S base rfl (λ_=>rfl) t⟩|row e0 m0 K v0=>obtain ⟨u,D,t⟩:=t;exact ⟨u,D,ck I W1 (.sl e0) (.own m0) _ _ K u (R3 k l) t⟩|fz e0 K=>obtain ⟨u,D,t⟩:=t;exact ⟨u,D,ck I W1 (.sl e0) .sh .p .p K u rfl t⟩|aB=>trivial
end
theorem oC:∀{b:List bX}{args:List TV}{k n id aF i j:Nat},iN b args k=some (n,id,aF,i,j)->k<=n/\args[n-k]?=some (.c (.nref id aF i j))
 |[],_,_,_,_,_,_,_,h=>by grind[iN]|_::_,[],_,_,_,_,_,_,h=>by grind[iN]|g::b,a::d,k,n,id,aF,i,j,h=>by
  simp only[iN]at h;split at h;·grind
  ·obtain⟨f,e⟩:=oC h;grind
theorem aq.set{α β:Type}{R:α->β->Prop}:∀{x:List α}{y:List β}(n:Nat)(a:α),aq R x y->(∀b,y[n]?=some b->R a b)->aq R (x.set n a) y|[],[],_,_,_,_=>trivial|_::_,_::_,0,a,h,k=>⟨k _ rfl,h.2⟩|_::_,_::_,n+1,a,h,k=>⟨h.1,aq.set n a h.2 (λb c=>k b (by grind))⟩|[],_::_,_,_,h,_=>h.elim|_::_,[],_,_,h,_=>h.elim
section
variable{P:Program}{w:World}{g:Gh}{mu:Mu}
theorem wK{R:Type}{C:Ctx}(ω:gF P C)(D:cR P w g mu)(hw:Wf w g.o)(F:∀b k id s,g.o b k=.o (id::s)->mu id≠none){idb:Nat}(W:∀n,idb<=n->n<idb+2048->mu n=none){f:Nat}{args:List TV}{vals:List Value}(ha:aq (TV.R P w g mu) args vals){K:TV->List (Nat×av)->Option R}{y:R}(h:lS C mu idb f args K=some y):Calls P f vals.toArray w λe w'=>∃v g' tv ms,e=.returned v/\K tv ms=some y/\eL P w g mu w' g' (au mu ms)/\tv.R P w' g' (au mu ms) v:=by unfold lS at h;cases δ:C.bg f with|none=>grind|some κ=>simp only[δ]at h;cases A:iN κ.ins args 0 with|none=>simp only[A]at h;grind[Calls.mono,tg,au,TV.R,TV.jD,eL,nA,tg.wG]|some p=>obtain⟨n,id,aF,i,j⟩:=p;simp only[A]at h;obtain⟨_,G⟩:=oC A;rw[Nat.sub_zero]at G;obtain⟨v,aw,ar,_,Y⟩:=aq.get n _ ha G;cases u:mu id with|none=>grind|some bl=>
 cases bl<;>simp only[u]at h<;>try grind
 case row es ms xs ε=>cases I:Nat.beq aF ε with|false=>grind|true=>simp only[I,cond_true]at h;cases Nat.eq_of_beq_eq_true I;obtain⟨a,m,c,U,X,ai⟩:=(Y _ _ _ _ u).2 rfl;cases z:aC xs i with|none=>grind|some x=>
 simp only[z,Option.bind_some]at h;split at h
 · rename_i r t q N σ;have E:mu (idb+2047)=none:=W _ (by omega) (by omega);have ψ:(Ty.sl r).H P w g.o (.own q) (.o [id,i,j]) t v:=by
    obtain⟨v0,M,O⟩:=D id _ u;rw [U]at M;cases M;obtain⟨a',c',B,_,Z⟩:=bI.1 O;cases B;rcases Z with⟨h,_⟩|⟨ad,τ,_,_,φ⟩;· subst h;simp [aC]at z
    · cases τ;obtain⟨aa,hu,_,O⟩:=um es (φ i x z) N;grind
   obtain⟨V,ab⟩:=zQ (id':=idb+2047) hw F (by omega) E ψ;have L:=iX D hw V;obtain⟨T,S0,_,Q,O0,_⟩:=V;have μ:aq (TV.R P w (xV g id i j (idb+2047) v) (gm mu id (idb+2047) (.row r q t 0))) (args.set n (.c (.own (idb+2047)))) vals:=by grind [aq.set,TV.R,xV,gm,aq.imp,TV.qM]
   refine Calls.mono (nA ω L Q O0 (idb:=idb) (λk h1 h2=>?_) μ h) λe w' B=>?_;· grind [gm,fT]
   · obtain⟨aa,g',tv,l,rfl,d,hN,aj,ag⟩:=B;have ah:=d;split at d
     · rename_i ak ρ ys γ β;split at d;· rename_i θ _;cases θ;cases J:dG ρ q with|false=>grind|true=>simp only [J,cond_true]at d;cases gE J;simp only [cX]at d;cases S:es.eP j x (.sl r) ys with|none=>grind|some x'=>
        rw [S]at d;simp only [Option.bind_some]at d;have α:au (gm mu id (idb+2047) (.row r q t 0)) l (idb+2047)=some (.row r q ys γ):=β;obtain⟨ae,an⟩:=zR D hw F u E U z N σ X L Q hN α S;have ao:bW (bW (au (gm mu id (idb+2047) (.row r q t 0)) l) id (some (.row es ms (xs.set i x') (aF+1)))) (idb+2047) (some .aB)=au mu (l++[(id,.row es ms (xs.set i x') (aF+1)),(idb+2047,.aB)]):=by refine Eq.trans ?_ gL.symm;funext k;show bW _ _ _ k=bW (bW _ _ _) _ _ k;unfold bW;cases al:Nat.beq k (idb+2047) with|true=>rfl|false=>cases af:Nat.beq k id with|true=>rfl|false=>
         by_cases π:k=idb+2047;· simp_all
         · exact jV (fT (λe=>by simp_all) π)
        grind
       grind
     grind
 grind
end
end Go.Tm
namespace Go.Tm
open Go
def od(ms:List Md)(n j:Nat):Bool:=Nat.blt j n&&(match gR ms j with|.own _=>true|.sh=>false)
theorem yt{ms:List Md}{n j:Nat}(h:od ms n j=true):j<n/\∃m,gR ms j=.own m:=by unfold od at h;simp only[Bool.and_eq_true]at h;refine⟨by simp_all,?_⟩;grind
theorem yu{ms:List Md}{n j:Nat}{m:List Md}(h:j<n)(a:gR ms j=.own m):od ms n j=true:=by simp_all[od,gR]
def kq(o:Nat->Nat->ax)(id i n:Nat)(ms:List Md)(kp off bx:Nat):Nat->Nat->ax:=λb k=>match o b k with|.o (id0::s)=>if id0=id then (match s with|[]=>if b=kp/\off<=k/\k<off+n then .o [bx]else .x|c::a::s'=>if c=i/\od ms n a=true then .o ((bx+1+a)::s')else .x|_=>.x)else .o (id0::s)|q=>q
open Classical in noncomputable def mM(w:World)(o o':Nat->Nat->ax)(id i n:Nat)(ms:List Md)(kp off bx:Nat)(us:List aI):Nat->Nat->ax:=λb k=>if(∃v,w.cell? ⟨b,k,none⟩=some v)/\(∃s,o b k=.o (id::s))/\kq o id i n ms kp off bx b k=.x then o b k else match o' b k with|.o (id0::s)=>if id0=bx then .o (id::s)else (match aS id0 us with|some (.mv _ j)=>.o (id::i::j::s)|_=>.o (id0::s))|q=>q
section
variable{P:Program}{w w':World}{o o':Nat->Nat->ax}{id i n kp off bx:Nat}{ms:List Md}{us:List aI}
theorem kJ{b k:Nat}(h:∀s,o b k≠.o (id::s)):kq o id i n ms kp off bx b k=o b k:=by grind[kq,od]
theorem uq{b k:Nat}{π:List Nat}(h:kq o id i n ms kp off bx b k=.o π):(o b k=.o [id]/\π=[bx]/\b=kp/\off<=k/\k<off+n)\/(∃j s,od ms n j=true/\o b k=.o (id::i::j::s)/\π=(bx+1+j)::s)\/(o b k=.o π/\∀s,π≠id::s):=by
 unfold kq at h;split at h
 · rename_i id0 s e;split at h
   · rename_i a;subst a;split at h
     · split at h;· grind
       grind
     · split at h;· grind
       grind
     grind
   grind
 simp_all
theorem yv{k:Nat}(h:o kp k=.o [id])(b:off<=k)(a:k<off+n):kq o id i n ms kp off bx kp k=.o [bx]:=by grind [kq,od]
theorem zS{b k j:Nat}{s:List Nat}(a:od ms n j=true)(h:o b k=.o (id::i::j::s)):kq o id i n ms kp off bx b k=.o ((bx+1+j)::s):=by simp[kq,h,a]
theorem zt{b k:Nat}(h:o b k=.p):kq o id i n ms kp off bx b k=.p:=by simp[kq,h]
theorem wL:aj w o w (kq o id i n ms kp off bx):=λb k v a ho=>⟨a,zt ho⟩
theorem zT{j:Nat}(a:od ms n j=true):Rl w o w (kq o id i n ms kp off bx) (.o [id,i,j]) (.o [bx+1+j]):=.inl ⟨[bx+1+j],rfl,λb k s v c ho=>⟨c,zS a ho⟩⟩
theorem yw{b k:Nat}(h:o' b k≠.x)(a:∀v,w.cell? ⟨b,k,none⟩=some v->kq o id i n ms kp off bx b k=.x->o' b k=.x):mM w o o' id i n ms kp off bx us b k=(match o' b k with|.o (id0::s)=>if id0=bx then .o (id::s)else (match aS id0 us with|some (.mv _ j)=>.o (id::i::j::s)|_=>.o (id0::s))|q=>q):=by grind[mM,aS,kq]
end
section
variable{P:Program}{w w':World}{o o':Nat->Nat->ax}
theorem wM(hp:aj w o w' o')(hw:Wf w o):∀(ts:af){ms:List Md}{qf qf':Nat->ax}{j:Nat}{x:ts.D}{vs:List Value},(∀m l,m<ts.len->gR ms m=.own l->Rl w o w' o' (qf (j+m)) (qf' (j+m)))->ts.Vs P w o ms qf j x vs->ts.Vs P w' o' ms qf' j x vs
 |.nil,_,_,_,_,_,_,_,h=>h|.cons t ts,ms,qf,qf',j,x,vs,c,h=>by
  obtain⟨v,r,rfl,a,d⟩:=h;refine⟨v,r,rfl,?_,wM hp hw ts (λm l b e=>?_) d⟩;·cases b:cy ms with|own l=>rw[b]at a;exact ck hp hw t _ _ _ _ _ (c 0 l (by simp[af.len]) (by rw[eX];exact b)) a|sh=>rw[b]at a;exact mE t (ck hp hw t .sh .p .p _ _ rfl (mE t a))
  ·have :=c (m+1) l (by grind[af.len]) (by rw[eY];exact e);grind
theorem oD(hp:aj w o w' o')(hw:Wf w o){a:ax}:∀(ts:af){ms:List Md}{qf:Nat->ax}{k:Nat}{x:ts.D}{b off:Nat},(∀m v,m<ts.len->w.cell? ⟨b,off+m,none⟩=some v->o b (off+m)=a->w'.cell? ⟨b,off+m,none⟩=some v/\o' b (off+m)=a)->(∀i,i<ts.len->Rl w o w' o' (qf (k+i)) (qf (k+i)))->ts.Hs P w o ms a qf k x b off->ts.Hs P w' o' ms a qf k x b off
 |.nil,_,_,_,_,_,_,_,_,_=>trivial|.cons t ts,ms,qf,k,x,b,off,d,e,h=>by
  obtain⟨⟨v,f,ho,g⟩,h⟩:=h;have c:=d 0 v (by simp[af.len]) f ho;refine⟨⟨v,c.1,c.2,ck hp hw t _ _ _ x.1 v (e 0 (by simp[af.len])) g⟩,oD hp hw ts (λm u l n j=>?_) (λi p=>?_) h⟩;·have :=d (m+1) u (by grind[af.len]) (by grind) (by grind);grind
  ·have :=e (i+1) (by grind[af.len]);grind
end
section
variable{mu:Mu}{id bx:Nat}{es:af}{ms:List Md}{x:es.D}
theorem qS{k:Nat}{b:av}(h:(k,b)∈dU id bx es ms x):(k=id/\b=.aB)\/(k=bx/\b=.box (bc es ms (bx+1) x))\/(bx+1<=k/\k<bx+1+es.len/\(∃c a d,b=.row c a d 0)/\(k,b)∈aA es ms (bx+1) x):=by
 unfold dU at h;rcases List.mem_cons.1 h with h|h;·grind
 · rcases List.mem_cons.1 h with h|h;· grind
   · have :=cn es h;grind
theorem mN{k:Nat}(d:k≠id)(c:k<bx\/bx+es.len<k):au mu (dU id bx es ms x) k=mu k:=aD λb a=>by
 rcases qS a with⟨rfl,_⟩|⟨rfl,_⟩|⟨e,f,_⟩;·omega
 ·omega
 ·omega
theorem pz(h:id<bx\/bx+es.len<id):au mu (dU id bx es ms x) id=some .aB:=by unfold dU;show au (bW (bW mu id (some .aB)) bx _) (aA es ms (bx+1) x) id=_;rw[aD,dq (by omega),fS];intro b a;have :=cn es a;omega
theorem pA:au mu (dU id bx es ms x) bx=some (.box (bc es ms (bx+1) x)):=by unfold dU;show au (bW (bW mu id (some .aB)) bx _) (aA es ms (bx+1) x) bx=_;rw[aD,fS];intro b a;have :=cn es a;omega
theorem fc{k:Nat}(h:mu k≠none):au mu (dU id bx es ms x) k≠none:=aM h
theorem qT{k:Nat}{b:av}(i:mu k=none)(h:au mu (dU id bx es ms x) k=some b)(e:mu id≠none):(k=bx/\b=.box (bc es ms (bx+1) x))\/((∃a c d,b=.row a c d 0)/\(k,b)∈aA es ms (bx+1) x):=by
 rcases aW h with h|⟨_,h⟩
 · rcases qS h with⟨rfl,_⟩|h|⟨_,_,g,f⟩;· grind
   · grind
   grind
 grind
end
section
variable{P:Program}{w:World}{g:Gh}{mu:Mu}{id i bx:Nat}{es:af}{ms:List Md}{xs:List es.D}{aF:Nat}{a:Addr}{n c:Nat}{x:es.D}
theorem yx(D:cR P w g mu)(hw:Wf w g.o)(Y:∀b k id s,g.o b k=.o (id::s)->mu id≠none)(M:mu id=some (.row es ms xs aF))(V:g.c id=.row (.slice (some a) n c))(E:aC xs i=some x)(z:gb es ms=true)(β:∀k,bx<=k->k<=bx+es.len->mu k=none):∃c1:Nat->fM,(∀k,mu k≠none->c1 k=g.c k)/\c1 bx=.box a.block (a.off+i*es.len)/\eL P w g mu w ⟨kq g.o id i es.len ms a.block (a.off+i*es.len) bx,c1⟩ (au mu (dU id bx es ms x)):=by
 have I:mu id≠none:=by grind
 have u:id<bx\/bx+es.len<id:=by grind
 obtain ⟨v0,C,Q⟩:=D id _ M;rw[V]at C;cases C;obtain ⟨ρ,κ,U,_,H⟩:=bI.1 Q;cases U;rcases H with ⟨h,_⟩|⟨ad,T,W,p,K⟩;·subst h;simp[aC]at E
 cases T;obtain ⟨vs,B,F⟩:=eJ es (K i x E);have Z:vs.length=es.len:=iV es B;refine ⟨λk=>if k=bx then .box a.block (a.off+i*es.len) else if bx<k/\k<=bx+es.len then .row (vs.getD (k-bx-1) undef) else g.c k,λk p=>?_,if_pos rfl,?_⟩;·grind
 · have hV:es.Vs P w (kq g.o id i es.len ms a.block (a.off+i*es.len) bx) ms (λj=>.o [bx+1+j]) 0 x vs:=wM wL hw es (λm l D θ=>by simp_all [Rl,Gh.o,kq,af.len,zT,yu]) B;have G:=gJ (P:=P) (w':=w) (g':=⟨kq g.o id i es.len ms a.block (a.off+i*es.len) bx,λk=>if k=bx then .box a.block (a.off+i*es.len) else if bx<k/\k<=bx+es.len then .row (vs.getD (k-bx-1) undef) else g.c k⟩) (mu':=au mu (dU id bx es ms x)) (idb:=bx+1) es (j:=0) z hV (λk b q=>dv (b:=b) (by grind [dU,bc,aA])) (λm α=>by grind);refine ⟨λk=>k=id,⟨λb k v d f=>⟨d,kJ λs e=>f _ _ e rfl⟩,λk p=>?_,λk p=>fc p,λk f p=>?_,λk δ ms0 ε X f p r=>?_⟩,?_,⟨λb k π h=>?_,λb k h=>?_⟩,λb k μ s h=>?_,λk b f q=>?_⟩;· grind
   · grind [mN,af.len]
   · subst f;rw [pz u]at r;cases r
   · exact ⟨rfl,rfl,rfl,Nat.le_refl _,λ_ _ _=>rfl,λb k v d S=>⟨d,kJ λs=>S _⟩,λb k v d=>⟨v,d⟩,λ_ _ _=>rfl⟩
   · rcases uq h with ⟨e,_⟩|⟨_,_,_,e,_⟩|⟨e,_⟩<;>exact hw.cell b k _ e
   · rcases uq h with ⟨_,e,_⟩|⟨_,_,_,_,e⟩|⟨e,_⟩;· cases e
     · cases e
     · exact hw.ne b k e
   · rcases uq h with ⟨_,e,_⟩|⟨j,s',t,_,e⟩|⟨e,_⟩;· cases e;rw [pA];simp
     · cases e;obtain ⟨A,m,J⟩:=yt t;obtain ⟨b',γ⟩:=eu es (k:=bx+1) (x:=x) z A J;grind [dv,dU,bc,aA]
     grind [fc]
   · by_cases y:k=id;· subst y;rw [pz u]at q;cases q;trivial
     · have L:mu k=none:=f.resolve_left y;rcases qT L q I with ⟨rfl,rfl⟩|⟨_,r⟩
       · refine ⟨a.block,a.off+i*es.len,if_pos rfl,λj cv t=>?_⟩;obtain ⟨v,d,N⟩:=aq.get j _ G.1 t;obtain ⟨R,O⟩:=F j v d;have A:j<es.len:=by grind
         exact ⟨v,R,yv O (by omega) (by omega),N⟩
       grind
end
theorem zu:∀{us:List aI}{u:aI},us.all sP=true->u∈us->∃k j,u=.mv k j|us,u,h,a=>by have :=List.all_eq_true.1 h u a;cases u with|mv k j=>grind|pm k=>cases this
section
variable{P:Program}{w w':World}{g g':Gh}{mu mu2:Mu}{id i bx:Nat}{es:af}{ms:List Md}{xs:List es.D}{aF:Nat}{a:Addr}{n c:Nat}{x x':es.D}{c1:Nat->fM}{cs:List CV}{us:List aI}
theorem yy(W:cR P w g mu)(hw:Wf w g.o)(bq:∀b k id s,g.o b k=.o (id::s)->mu id≠none)(aY:mu id=some (.row es ms xs aF))(V:g.c id=.row (.slice (some a) n c))(I:aC xs i=some x)(aJ:∀k,bx<=k->k<=bx+es.len->mu k=none)(ab:∀k,mu k≠none->c1 k=g.c k)(bc:c1 bx=.box a.block (a.off+i*es.len))(bh:cR P w ⟨kq g.o id i es.len ms a.block (a.off+i*es.len) bx,c1⟩ (au mu (dU id bx es ms x)))(aK:Wf w (kq g.o id i es.len ms a.block (a.off+i*es.len) bx))(N:tg P w ⟨kq g.o id i es.len ms a.block (a.off+i*es.len) bx,c1⟩ (au mu (dU id bx es ms x)) w' g' mu2)(aV:mu2 bx=some (.box cs))(hp:aQ (R:=es.D×List aI) bM mu2 es ms 0 cs [] bN=some (x',us))(bz:aP us=true)(ae:us.all sP=true)(bw:dQ id us=false)(aU:dQ bx us=false):eL P w g mu w' ⟨mM w g.o g'.o id i es.len ms a.block (a.off+i*es.len) bx us,g'.c⟩ (au mu2 (fj us++[(id,.row es ms (xs.set i x') (aF+1)),(bx,.aB)]))/\∀(tv:TV) (u:Value),tv.jD=true->tv.R P w' g' mu2 u->tv.R P w' ⟨mM w g.o g'.o id i es.len ms a.block (a.off+i*es.len) bx us,g'.c⟩ (au mu2 (fj us++[(id,.row es ms (xs.set i x') (aF+1)),(bx,.aB)])) u:=by
 have Y:mu id≠none:=by grind
 have β:mu bx=none:=aJ bx (Nat.le_refl _) (by omega);have aO:id≠bx:=λe=>Y (e▸β);have av:id<bx\/bx+es.len<id:=by grind
 have α:cR P w' g' mu2:=iX bh aK N.wG;obtain ⟨γ,D,C,W1,bp,M1⟩:=N;have σ:∀b k u,w.cell? ⟨b,k,none⟩=some u->kq g.o id i es.len ms a.block (a.off+i*es.len) bx b k=.x->w'.cell? ⟨b,k,none⟩=some u/\g'.o b k=.x:=λb k u d I=>by obtain ⟨f,l⟩:=D.cell b k u d (λid0 s e=>by grind);grind
 have aG:∀b k,g'.o b k≠.x->mM w g.o g'.o id i es.len ms a.block (a.off+i*es.len) bx us b k=(match g'.o b k with|.o (id0::s)=>if id0=bx then .o (id::s) else (match aS id0 us with|some (.mv _ j)=>.o (id::i::j::s)|_=>.o (id0::s))|q=>q):=λb k h=>yw h λu d I=>(σ b k u d I).2;have K:aj w' g'.o w' (mM w g.o g'.o id i es.len ms a.block (a.off+i*es.len) bx us):=λb k u d ho=>⟨d,by grind⟩;have bm:∀r,(∀u∈us,aH u≠r)->aS r us=none:=λr h=>by cases hf:aS r us with|none=>rfl|some u=>obtain ⟨f,l⟩:=dL hf;grind
 have R3:∀r,r≠bx->(∀u∈us,aH u≠r)->Rl w' g'.o w' (mM w g.o g'.o id i es.len ms a.block (a.off+i*es.len) bx us) (.o [r]) (.o [r]):=λr bE bt=>.inl ⟨[r],rfl,λb k s u d ho=>⟨d,by grind⟩⟩;have ah:∀u∈us,br (λj=>.o [id,i,j]) w' g'.o w' (mM w g.o g'.o id i es.len ms a.block (a.off+i*es.len) bx us) u:=λu d=>by obtain ⟨r,j,rfl⟩:=zu ae d;refine .inl ⟨[id,i,j],rfl,λb k s u' aZ ho=>⟨aZ,?_⟩⟩;have ho:g'.o b k=.o (r::s):=ho;have bH:r≠bx:=eW aU _ d;rw [aG b k (by grind),ho];grind [aS,fy]
 have PP:aj w g.o w' (mM w g.o g'.o id i es.len ms a.block (a.off+i*es.len) bx us):=λb k u d ho=>by obtain ⟨f,l⟩:=D.dK b k u d (zt ho);grind
 have φ:∀b k u π,w.cell? ⟨b,k,none⟩=some u->g.o b k=.o π->kq g.o id i es.len ms a.block (a.off+i*es.len) bx b k=.x->w'.cell? ⟨b,k,none⟩=some u/\mM w g.o g'.o id i es.len ms a.block (a.off+i*es.len) bx us b k=.o π:=λb k u π d ho I=>by
  refine ⟨(σ b k u d I).1,?_⟩;have bG:∃s,g.o b k=.o (id::s):=by
   by_cases h:∃s,g.o b k=.o (id::s);·exact h
   ·have :=kJ (o:=g.o) (i:=i) (n:=es.len) (ms:=ms) (kp:=a.block) (off:=a.off+i*es.len) (bx:=bx) (λs e=>h ⟨s,e⟩);grind
  simp_all [mM,Gh.o,af.len,kq,aS]
 generalize τ:au mu2 (fj us++[(id,.row es ms (xs.set i x') (aF+1)),(bx,.aB)])=J;have S:J=bW (bW (au mu2 (fj us)) id (some (.row es ms (xs.set i x') (aF+1)))) bx (some .aB):=by rw [<-τ,gL];rfl
 have ak:J bx=some .aB:=by rw [S,fS]
 have aq:J id=some (.row es ms (xs.set i x') (aF+1)):=by rw [S,dq aO,fS]
 have ρ:∀k b,k≠id->k≠bx->J k=some b->(b=.aB/\∃u∈us,aH u=k)\/((∀u∈us,aH u≠k)/\mu2 k=some b):=λk b f l A=>by
  rw [S,dq l,dq f] at A;rcases aW A with A|⟨ba,A⟩;·grind [aH,gK]
  ·refine .inr ⟨λu d e=>?_,A⟩;obtain ⟨r,j,rfl⟩:=zu ae d;cases (e:r=k);exact ba _ (kH d)
 have ai:∀k,k≠id->k≠bx->(∀u∈us,aH u≠k)->J k=mu2 k:=λk f l F=>by rw [S,dq l,dq f];grind [aD,fj,gK,aH]
 have X:∀k,mu2 k≠none->J k≠none:=λk t=>by rw [<-τ];exact aM t
 have aE:g'.c id=g.c id:=(D.c id (by rw [pz av];simp)).trans (ab id Y);have ar:g'.c bx=.box a.block (a.off+i*es.len):=(D.c bx (by rw [pA];simp)).trans bc;obtain ⟨bb,base,ag,aA⟩:=α bx _ aV;rw [ar] at ag;cases ag;obtain ⟨vs,aR,bk⟩:=jU cs aA;obtain ⟨y,az,E,bA,bg,θ,ψ,al,bl,aw⟩:=fx α W1 (λj=>.o [id,i,j]) eQ es aR hp;cases az with|cons _ _=>cases θ|nil=>simp only [bN,Option.some.injEq,Prod.mk.injEq,List.append_nil] at θ;obtain ⟨rfl,rfl⟩:=θ;cases bg with|cons _ _=>exact al.elim|nil=>
 rw [List.append_nil] at ψ;subst ψ;have hV:=aw w' _ K ah;have μ:∀k v,vs[k]?=some v->w'.cell? ⟨a.block,a.off+i*es.len+k,none⟩=some v/\mM w g.o g'.o id i es.len ms a.block (a.off+i*es.len) bx E a.block (a.off+i*es.len+k)=.o [id]:=λk v hv=>by grind
 have ax:(Ty.sl es).H P w' (mM w g.o g'.o id i es.len ms a.block (a.off+i*es.len) bx E) (.own ms) (.o [id]) (xs.set i y) (.slice (some a) n c):=by
  obtain ⟨v0,aa,hH⟩:=W id _ aY;rw [V] at aa;cases aa;obtain ⟨a',c',he,bs,ao⟩:=bI.1 hH;cases he;rcases ao with ⟨h,_⟩|⟨ad,ha,an,t,aL⟩;·subst h;simp [aC] at I
  · cases ha;have ay:∀k u,¬(a.off+i*es.len<=k/\k<a.off+i*es.len+es.len)->w.cell? ⟨a.block,k,none⟩=some u->g.o a.block k=.o [id]->w'.cell? ⟨a.block,k,none⟩=some u/\mM w g.o g'.o id i es.len ms a.block (a.off+i*es.len) bx E a.block k=.o [id]:=λk u bD d ho=>φ _ _ u _ d ho (by simp [kq,ho];omega);refine bI.2 ⟨some a,c,by grind,by grind,.inr ⟨a,rfl,an,λk U=>?_,λL ε bC=>?_⟩⟩
    · have f:=t k U;obtain ⟨⟨u,d⟩,_⟩:=hw.cell _ _ _ f;by_cases bB:a.off+i*es.len<=a.off+k/\a.off+k<a.off+i*es.len+es.len
      · have aX:k-i*es.len<vs.length:=by omega
        have :=(μ (k-i*es.len) vs[k-i*es.len] (List.getElem?_eq_getElem aX)).2;grind
      grind
    · by_cases hi:L=i
      · subst hi;have U:=qR I;have e2:ε=y:=by grind [af.D,aC]
        subst e2;exact eK es hV μ
      · have bd:aC xs L=some ε:=by grind [af.D,aC]
        refine oD PP hw es (λm u bn d ho=>ay _ u ?_ d ho) (λm _=>.inl ⟨_,rfl,λb k s u d ho=>φ b k u _ d ho (by have ho:g.o b k=.o (id::L::(0+m)::s):=ho;simp [kq,ho];omega)⟩) (aL L ε bd);rcases Nat.lt_or_gt_of_ne hi with h|h;· have :(L+1)*es.len<=i*es.len:=Nat.mul_le_mul_right _ h;grind
        · have :(i+1)*es.len<=L*es.len:=Nat.mul_le_mul_right _ h;grind
 refine ⟨⟨λk=>γ k\/k=id\/∃u∈E,aH u=k,⟨λb k u d B=>?_,λk t=>?_,λk t=>?_,λk B t=>?_,λk bF ms0 bu bo B t κ=>?_⟩,?_,⟨λb k π h=>?_,λb k h=>?_⟩,λb k r s h=>?_,λk b B A=>?_⟩,λtv u hn h=>oB W1 K X tv hn h⟩;· have f:kq g.o id i es.len ms a.block (a.off+i*es.len) bx b k=g.o b k:=kJ λs e=>B _ _ e (.inr (.inl rfl));obtain ⟨l,F⟩:=D.cell b k u d (λid0 s e=>by grind);have F:g'.o b k=g.o b k:=F.trans f;refine ⟨l,?_⟩;show mM w g.o g'.o id i es.len ms a.block (a.off+i*es.len) bx E b k=g.o b k;unfold mM;grind
 · exact (D.c k (fc t)).trans (ab k t)
 · exact X k (D.kD k (fc t))
 · have f:k≠id:=λe=>B (.inr (.inl e));have l:k≠bx:=λe=>t (e▸β);have F:k<bx\/bx+es.len<k:=by grind
   rw [ai k f l (λu d e=>B (.inr (.inr ⟨u,d,e⟩))),D.same k (λh=>B (.inl h)) (fc t),mN f F]
 · have l:k≠bx:=λe=>t (e▸β);have F:k<bx\/bx+es.len<k:=by grind
   by_cases f:k=id;· grind
   · rcases ρ k _ f l κ with ⟨e,_⟩|⟨ω,κ⟩;· cases e
     · rcases B with B|B|⟨u,d,e⟩;· obtain ⟨e1,e2,e3,e4,h5,h6⟩:=D.aF k _ _ _ _ B (fc t) κ;grind [af.D,au,dU,mN]
       · omega
       grind
 · refine ⟨C.os,C.tape,C.output,C.size,λb U h=>C.kp b U λk π e=>?_,λb k u d h=>?_,C.db,C.uc⟩;· rcases uq e with ⟨e,_⟩|⟨_,_,_,e,_⟩|⟨e,_⟩<;>exact h _ _ e
   · have f:kq g.o id i es.len ms a.block (a.off+i*es.len) bx b k=g.o b k:=kJ λs=>h _;obtain ⟨l,F⟩:=C.cell b k u d (λπ e=>by grind);have F:g'.o b k=g.o b k:=F.trans f;refine ⟨l,?_⟩;show mM w g.o g'.o id i es.len ms a.block (a.off+i*es.len) bx E b k=g.o b k;unfold mM;grind
 · have h:mM w g.o g'.o id i es.len ms a.block (a.off+i*es.len) bx E b k=.o π:=h;unfold mM at h;split at h;· rename_i V;obtain ⟨⟨u,d⟩,_,_⟩:=V;refine ⟨C.db b k u d,?_⟩;intro j;rw [C.uc b j (cV d)];exact (hw.cell b k _ h).2 j
   · split at h;· rename_i id0 s e;exact W1.cell b k _ e
     · exact W1.cell b k _ h
 · have h:mM w g.o g'.o id i es.len ms a.block (a.off+i*es.len) bx E b k=.o []:=h;unfold mM at h;split at h;· grind
   · split at h;· grind
     · exact W1.ne b k h
 · have h:mM w g.o g'.o id i es.len ms a.block (a.off+i*es.len) bx E b k=.o (r::s):=h;unfold mM at h;grind
 · by_cases l:k=bx;· subst l;rw [ak] at A;cases A;trivial
   · by_cases f:k=id;· subst f;rw [aq] at A;cases A;exact ⟨_,aE.trans V,ax⟩
     · rcases ρ k b f l A with ⟨rfl,_⟩|⟨ω,Z⟩;· trivial
       · have z:=α k b Z;have δ:b.jD=true:=by
          by_cases M:γ k\/au mu (dU id bx es ms x) k=none;· grind
          · have M:¬γ k/\au mu (dU id bx es ms x) k≠none:=⟨λe=>M (.inl e),λe=>M (.inr e)⟩;rw [D.same k M.1 M.2] at Z;have aN:mu k=none:=by grind
            rcases qT aN Z Y with ⟨e,_⟩|⟨⟨_,_,_,rfl⟩,_⟩;· omega
            · rfl
         cases b with|box bj=>obtain ⟨T,Q,G,z⟩:=z;have δ:bj.all CV.jD=true:=δ;refine ⟨T,Q,G,λm cv W=>?_⟩;obtain ⟨u,d,ho,bf⟩:=z m cv W;have aT:cv.jD=true:=List.all_eq_true.1 δ cv (List.mem_of_getElem? W);refine ⟨u,d,?_,iZ W1 K X cv aT bf⟩;grind|eE e0 O=>obtain ⟨T,Q,G,z⟩:=z;exact ⟨T,Q,G,fu K W1 e0 [] .p .p (λ_=>.p) (λ_=>.p) 0 O T Q rfl (λ_=>rfl) z⟩|row e0 m0 O v0=>obtain ⟨u,G,z⟩:=z;exact ⟨u,G,ck K W1 (.sl e0) (.own m0) _ _ O u (R3 k l ω) z⟩|fz e0 O=>obtain ⟨u,G,z⟩:=z;exact ⟨u,G,ck K W1 (.sl e0) .sh .p .p O u rfl z⟩|aB=>trivial
end
theorem oE:∀{b:List bX}{args:List TV}{k n id sz i:Nat},iO b args k=some (n,id,sz,i)->k<=n/\args[n-k]?=some (.c (.dF id sz i 0))
 |[],_,_,_,_,_,_,h=>by grind[iO]|_::_,[],_,_,_,_,_,h=>by grind[iO]|g::b,a::d,k,n,id,sz,i,h=>by
  simp only[iO]at h;split at h;·grind
  ·obtain⟨f,e⟩:=oE h;grind
section
variable{P:Program}{w:World}{g:Gh}{mu:Mu}
theorem wN{R:Type}{C:Ctx}(μ:gF P C)(A:cR P w g mu)(hw:Wf w g.o)(D:∀b k id s,g.o b k=.o (id::s)->mu id≠none){idb:Nat}(Q:∀n,idb<=n->n<idb+2048->mu n=none){f:Nat}{args:List TV}{vals:List Value}(M:aq (TV.R P w g mu) args vals){K:TV->List (Nat×av)->Option R}{y:R}(h:jF C mu idb f args K=some y):Calls P f vals.toArray w λe w'=>∃v g' tv ms,e=.returned v/\K tv ms=some y/\eL P w g mu w' g' (au mu ms)/\tv.R P w' g' (au mu ms) v:=by unfold jF at h;cases S:C.bg f with|none=>grind|some V=>simp only[S]at h;cases t:iO V.ins args 0 with|none=>simp only[t]at h;grind[wK]|some p=>obtain⟨n,id,sz,i⟩:=p;simp only[t]at h;obtain⟨_,E⟩:=oE t;rw[Nat.sub_zero]at E;obtain⟨v,ε,aa,a,m,c,N,ψ,hv⟩:=aq.get n _ M E;cases z:mu id with|none=>grind|some bl=>
 cases bl<;>simp only[z]at h<;>try grind
 case row es ms xs aF=>cases q:(Nat.beq sz es.len&&(Nat.ble es.len 62&&gb es ms)) with|false=>grind|true=>simp only[q,cond_true]at h;simp only[Bool.and_eq_true]at q;obtain⟨r,H,Z⟩:=q;have r:=Nat.eq_of_beq_eq_true r;subst r;have H:=Nat.le_of_ble_eq_true H;cases B:aC xs i with|none=>grind|some x=>
 simp only[B,Option.bind_some]at h;have F:∀k,idb+1984<=k->k<=idb+1984+es.len->mu k=none:=λk π κ=>Q k (by omega) (by omega);obtain⟨c1,α,G,O⟩:=yx (i:=i) (bx:=idb+1984) A hw D z N B Z F;have I:=iX A hw O;have φ:=O;obtain⟨T,S0,F0,L,ρ,M0⟩:=φ;have X:aq (TV.R P w ⟨kq g.o id i es.len ms a.block (a.off+i*es.len) (idb+1984),c1⟩ (au mu (dU id (idb+1984) es ms x))) (args.set n (.c (.ptr (idb+1984) 0))) vals:=by refine aq.set n _ (aq.imp (λtv u d=>TV.qM S0 hw tv d) M) λu d=>?_;rw[ε]at d;cases d;refine ⟨by rw[pA];simp,_,_,G,?_⟩;omega
 refine Calls.mono (nA μ I L ρ (idb:=idb) (λk π κ=>?_) X h) λe w' σ=>?_;·grind[au,dU,mN,af.len]
 · obtain ⟨u,g',tv,l,rfl,j,τ,Y,ω⟩:=σ;split at j;· rename_i cs δ;cases hp:(aQ (R:=es.D×List aI) bM (au (au mu (dU id (idb+1984) es ms x)) l) es ms 0 cs [] bN) with|none=>grind|some p=>obtain ⟨x',us⟩:=p;rw [hp] at j;simp only [Option.bind_some] at j;cases d:(aP us&&(us.all sP&&(!dQ id us&&!dQ (idb+1984) us))) with|false=>grind|true=>rw [d,cond_true] at j;simp only [Bool.and_eq_true,Bool.not_eq_true'] at d;obtain ⟨γ,β,θ,W⟩:=d;obtain ⟨U,J⟩:=yy A hw D z N B F α G I L τ δ hp γ β θ W;rw [<-gL,<-gL] at U J;rw [List.append_assoc] at J;rw [<-gL] at Y;grind
   grind
end
end Go.Tm
namespace Go.Tm
open Go
structure bG(P:Program)(C:Ctx)(env:Nat->TV)(mu:Mu)(a:Act)(w:World)(g:Gh)(idb:Nat):Prop where
 ty:∀t ti,C.ty t=some ti->fL P t=some ti
 bg:gF P C
 env:∀t,(env t).R P w g mu (a.tmps.getD t undef)dr:cR P w g mu
 wf:Wf w g.o
 own:∀b k id s,g.o b k=.o (id::s)->mu id≠none
 bB:∀n,idb<=n->n<idb+2048->mu n=none
def bt{R:Type}(P:Program)(w:World)(g:Gh)(mu:Mu)(a:Act)(b:Option Tmp)(K:TV->List (Nat×av)->Option R)(y:R)(c:Act)(w':World):Prop:=∃tv ms v g',c=a.put b v/\K tv ms=some y/\eL P w g mu w' g' (au mu ms)/\tv.R P w' g' (au mu ms) v
section
variable{P:Program}{C:Ctx}{env:Nat->TV}{mu:Mu}{a:Act}{w:World}{g:Gh}{idb:Nat}{R:Type}{Q:Exit->Act->World->Prop}
theorem TV.sO{cv:CV}{v:Value}(h:cv.R P w g mu v):(TV.c cv).R P w g mu v:=h
theorem bJ{v:Value}(h:cm v):(bp v).R P w g mu v:=by cases v with
 |bool b=>rfl|int k n=>rfl|string s=>rfl|slice a n c=>cases a with|some a=>exact h|none=>simp only[bp];cases d:(Nat.beq n 0&&Nat.beq c 0)with|false=>exact h|true=>simp_all[CV.R,cm]
 |agg _=>exact h.elim|tuple _=>exact h.elim|_=>exact h
theorem qU{v:Value}(h:eh v=true):cm v:=by cases v<;>first|trivial|simp[eh]at h
theorem dY:∀{vs:List Value},vs.all eh=true->cc P w g mu (vs.map bp) vs|[],_=>trivial|v::vs,h=>by simp only[List.all_cons,Bool.and_eq_true]at h;exact⟨bJ (qU h.1),dY h.2⟩
theorem uW(v:Value):(pg v).R P w g mu v:=by cases v with|agg cs=>grind[TV.R,pg,eh,bp,cc,dY]|tuple _=>trivial|bool b=>exact TV.sO (cv:=bp ((.bool b))) (bJ (v:=(.bool b)) trivial)|int k n=>exact TV.sO (cv:=bp ((.int k n))) (bJ (v:=(.int k n)) trivial)|float k b=>exact TV.sO (cv:=bp ((.float k b))) (bJ (v:=(.float k b)) trivial)|complex k a b=>exact TV.sO (cv:=bp ((.complex k a b))) (bJ (v:=(.complex k a b)) trivial)|string s=>exact TV.sO (cv:=bp ((.string s))) (bJ (v:=(.string s)) trivial)|pointer p=>exact TV.sO (cv:=bp ((.pointer p))) (bJ (v:=(.pointer p)) trivial)|slice s n c=>exact TV.sO (cv:=bp ((.slice s n c))) (bJ (v:=(.slice s n c)) trivial)|map m=>exact TV.sO (cv:=bp ((.map m))) (bJ (v:=(.map m)) trivial)|chan m=>exact TV.sO (cv:=bp ((.chan m))) (bJ (v:=(.chan m)) trivial)|func f x c=>exact TV.sO (cv:=bp ((.func f x c))) (bJ (v:=(.func f x c)) trivial)|nilFunc=>exact TV.sO (cv:=bp ((.nilFunc))) (bJ (v:=(.nilFunc)) trivial)|iface t v=>exact TV.sO (cv:=bp ((.iface t v))) (bJ (v:=(.iface t v)) trivial)|nilIface=>exact TV.sO (cv:=bp ((.nilIface))) (bJ (v:=(.nilIface)) trivial)
theorem aw(b:∀t,(env t).R P w g mu (a.tmps.getD t undef))(x:Operand):(ae env x).R P w g mu (a.eval x):=by cases x with|tmp t=>exact b t|const v=>exact uW v|func f=>rfl|global g=>trivial
theorem ja{o:Oper}{b:Act->World->Prop}{v:Value}{w':World}(h:(execOp a.eval o).run P w=.ok (.value v) w')(k:b (a.put o.dst v) w'):o.wp P a w b Q:=by unfold Oper.wp;rw[h];exact k
theorem aJ(s:bG P C env mu a w g idb){o:Oper}{K:TV->List (Nat×av)->Option R}{y:R}{v:Value}{tv:TV}(h:(execOp a.eval o).run P w=.ok (.value v) w)(b:K tv []=some y)(c:tv.R P w g mu v):o.wp P a w (bt P w g mu a o.dst K y) Q:=ja h ⟨tv,[],v,g,rfl,b,eL.gj s.wf s.own,c⟩
theorem cH{t:Nat}{b:TI}(h:fL P t=some b):∃a d z,P.info? t=some a/\P.underlying t=some d/\a.zero=some z/\z.cells.toList.all eh=true/\True/\z.cells.size=a.size/\b.size=a.size/\b.bytes=a.bytes/\b.k=cP d/\b.zero=z.cells.toList.map bp/\((∃c,d=.struct c/\(∀f∈c.toList,(P.info? f.type).isSome=true/\(P.underlying f.type).isSome=true)/\b.dS=c.toList.map (λf=>(f.offset,((P.info? f.type).map (·.size)).getD 0))/\b.uR=c.toList.map (λf=>((P.underlying f.type).map mV).getD false)/\b.eq=(bif jO P c.toList 0&&Nat.beq c.toList.length a.size&&!P.stoodInHeld t&&!P.eqGuardType P.depth t then some (c.toList.map λf=>((P.underlying f.type).map cP).getD .eH)else none))\/((∀c,d≠.struct c)/\a.size=1/\b.dS=[]/\b.eq=none/\lR d=false)\/(∃n e j,d=.array n e/\P.info? e=some j/\j.size=1/\a.size=n/\b.dS=(List.range n).map (λi=>(i,1))/\b.uR=[]/\b.eq=none)):=by unfold fL at h;cases r:P.info? t with|none=>grind|some a=>cases p:P.underlying t with|none=>grind|some d=>simp only[r,p]at h;cases m:a.zero with|none=>grind|some z=>simp only[m]at h;cases k:(z.cells.toList.all eh&&Nat.beq z.cells.size a.size)with|false=>grind|true=>rw[k]at h;simp only[Bool.and_eq_true]at k;have q:=Nat.eq_of_beq_eq_true k.2;refine⟨a,d,z,rfl,rfl,m,k.1,trivial,q,?_⟩;cases d with
 |struct c=>simp only[cond_true]at h;cases l:(c.toList.all λf=>(P.info? f.type).isSome&&(P.underlying f.type).isSome)with|false=>grind|true=>rw[l]at h;cases h;simp only[List.all_eq_true,Bool.and_eq_true]at l;exact⟨rfl,rfl,rfl,rfl,.inl ⟨c,rfl,l,rfl,rfl,rfl⟩⟩
 |array n e=>simp only[cond_true]at h;cases o:P.info? e with|none=>grind|some j=>simp only[o]at h;cases g:(Nat.beq j.size 1&&Nat.beq a.size n)with|false=>grind|true=>rw[g]at h;cases h;simp only[Bool.and_eq_true]at g;exact ⟨rfl,rfl,rfl,rfl,.inr (.inr ⟨n,e,j,rfl,o,Nat.eq_of_beq_eq_true g.1,Nat.eq_of_beq_eq_true g.2,rfl,rfl,rfl⟩)⟩
 |_=>simp only[cond_true]at h;cases g:Nat.beq a.size 1 with|false=>grind|true=>rw[g]at h;cases h;exact ⟨rfl,rfl,rfl,rfl,.inr (.inl ⟨by simp,Nat.eq_of_beq_eq_true g,rfl,rfl,rfl⟩)⟩
theorem dZ{tv:TV}{v:Value}{cs:List CV}(h:cellsOf tv=some cs)(b:tv.R P w g mu v):cc P w g mu cs v.cells.toList:=by
 cases tv<;>simp[cellsOf]at h;case c cv=>subst h;rw[(CV.jr cv b).cells];exact⟨b,trivial⟩
 case agg vs=>subst h;obtain⟨a,rfl,d⟩:=b;exact d
theorem ur(s:bG P C env mu a w g idb){o:Oper}{x:Operand}(ho:o.op=.move x\/o.op=.assign x){K:TV->List (Nat×av)->Option R}{y:R}(h:K (ae env x) []=some y):o.wp P a w (bt P w g mu a o.dst K y) Q:=by refine aJ s (v:=a.eval x) ?_ h (aw s.env x);rcases ho with ho|ho<;>simp[execOp,ho]
theorem yz(s:bG P C env mu a w g idb){o:Oper}{c x z:Operand}(ho:o.op=.pick c x z){K:TV->List (Nat×av)->Option R}{y:R}{t:Bool}(d:ae env c=.c (.bool t))(h:K (ae env (bif t then x else z)) []=some y):o.wp P a w (bt P w g mu a o.dst K y) Q:=by have b:=aw s.env c;rw[d]at b;have b:a.eval c=.bool t:=b;refine aJ s (v:=a.eval (bif t then x else z)) ?_ h (aw s.env _);cases t<;>simp[execOp,ho,b,asBool]
theorem eL.box(s:bG P C env mu a w g idb){cs:List CV}{vals:List Value}(n:cc P w g mu cs vals)(t:TypeId):∃g',eL P w g mu (w.alloc (.cells vals.toArray t)) g' (au mu [(idb,.box cs)])/\(CV.ptr idb 0).R P (w.alloc (.cells vals.toArray t)) g' (au mu [(idb,.box cs)]) (.pointer (some ⟨w.heap.size,0,none⟩))/\qL w g mu (w.alloc (.cells vals.toArray t)) g' (au mu [(idb,.box cs)]) (λ_=>False):=by
 have D:mu idb=none:=s.bB idb (Nat.le_refl _) (by omega);have z:∀id,id≠idb->au mu [(idb,.box cs)] id=mu id:=λid h=>by simp only [au,bW];have :Nat.beq id idb=false:=Bool.eq_false_iff.2 λe=>h (Nat.eq_of_beq_eq_true e);grind
 have q:au mu [(idb,.box cs)] idb=some (.box cs):=by simp [au,bW,Nat.beq_refl]
 let g':Gh:=⟨λb k=>if b=w.heap.size then (if k<vals.length then .o [idb] else .x) else g.o b k,λid=>if id=idb then .box w.heap.size 0 else g.c id⟩;have d:∀b k v,w.cell? ⟨b,k,none⟩=some v->(w.alloc (.cells vals.toArray t)).cell? ⟨b,k,none⟩=some v/\g'.o b k=g.o b k:=by intro b k v h;have i:=cV h;refine ⟨by rw [World.cell?_alloc_lt w _ ⟨b,k,none⟩ i];exact h,?_⟩;grind
 have f:qL w g mu (w.alloc (.cells vals.toArray t)) g' (au mu [(idb,.box cs)]) (λ_=>False):=by
  refine ⟨λb k v h _=>d b k v h,λid h=>?_,λid h=>?_,λid _ h=>?_,λ_ _ _ _ _ h=>h.elim⟩;·grind
  ·grind
  grind
 have y:∀k v,vals[k]?=some v->(w.alloc (.cells vals.toArray t)).cell? ⟨w.heap.size,k,none⟩=some v:=by simp_all
 refine ⟨g',⟨_,f,?_,?_,?_,?_⟩,⟨by grind,w.heap.size,0,by grind,rfl⟩,f⟩
 · refine ⟨rfl,rfl,rfl,by simp,λb i _=>?_,λb k v h _=>d b k v h,λb k v h=>⟨v,(d b k v h).1⟩,λb k i=>?_⟩;· simp only [World.alloc,Array.getElem?_push];grind
   grind [World.frozen?_alloc_old]
 · refine ⟨λb k π h=>?_,λb k h=>?_⟩
   · have c:(if b=w.heap.size then (if k<vals.length then ax.o [idb] else .x) else g.o b k)=.o π:=h;clear h;split at c
     · rename_i e;subst e;split at c;· simp_all
       grind
     · obtain ⟨⟨v,n⟩,B⟩:=s.wf.cell b k π c;refine ⟨⟨v,(d b k v n).1⟩,?_⟩;grind [World.frozen?_alloc_old,Nat.ne_of_lt,cV]
   · have c:(if b=w.heap.size then (if k<vals.length then ax.o [idb] else .x) else g.o b k)=.o []:=h;clear h;split at c;· grind
     · exact s.wf.ne b k c
 · intro b k id l h;have c:(if b=w.heap.size then (if k<vals.length then ax.o [idb] else .x) else g.o b k)=.o (id::l):=h;clear h;split at c;· grind
   grind [bG.own,au]
 · intro id b m p;rcases m with m|m;· grind
   · by_cases e:id=idb;· subst e;rw [q] at p;cases p;refine ⟨w.heap.size,0,by grind,λj cv u=>?_⟩;obtain ⟨v,A,r⟩:=aq.get j cv n u;refine ⟨v,by grind,?_,CV.qM f s.wf cv r⟩;grind
     grind
theorem wO(s:bG P C env mu a w g idb){o:Oper}{e:TypeId}(ho:o.op=.alloc e){K:TV->List (Nat×av)->Option R}{y:R}{b:TI}(k:C.ty e=some b)(h:K (.c (.ptr idb 0)) [(idb,.box b.zero)]=some y):o.wp P a w (bt P w g mu a o.dst K y) Q:=by
 obtain⟨m,d,z,f,n,i,j,_,_,_,_,_,l,_⟩:=cH (s.ty e b k);obtain⟨g',p,hp,_⟩:=eL.box s (dY (P:=P) (w:=w) (g:=g) (mu:=mu) j) e;refine ja (v:=.pointer (some ⟨w.heap.size,0,none⟩)) (w':=w.alloc (.cells z.cells e)) ?_ ⟨.c (.ptr idb 0),_,_,g',rfl,h,?_,?_⟩;·simp[execOp,ho,Instr.alloc,zeroValue,run_typeInfo w f,i,newVar,newRow]
 ·simp_all
 ·rw[l];exact TV.sO (by omega)
theorem zU(s:bG P C env mu a w g idb){o:Oper}{e:TypeId}{x:Operand}(ho:o.op=.box e x){K:TV->List (Nat×av)->Option R}{y:R}{cs:List CV}(b:cellsOf (ae env x)=some cs)(h:K (.c (.ptr idb 0)) [(idb,.box cs)]=some y):o.wp P a w (bt P w g mu a o.dst K y) Q:=by
 obtain⟨g',d,hp,_⟩:=eL.box s (dZ b (aw s.env x)) e;refine ja (v:=.pointer (some ⟨w.heap.size,0,none⟩)) (w':=w.alloc (.cells (a.eval x).cells e)) ?_ ⟨.c (.ptr idb 0),_,_,g',rfl,h,?_,?_⟩;·simp[execOp,ho,Instr.box,newVar,newRow]
 ·omega
 simp_all[TV.sO,au]
theorem jb(s:bG P C env mu a w g idb){o:Oper}{x:Operand}(ho:o.op=.nilCheck x){K:TV->List (Nat×av)->Option R}{y:R}{cv:CV}(e:ae env x=.c cv)(hp:∀v,cv.R P w g mu v->∃p,v=.pointer (some p))(h:K (.c cv) []=some y):o.wp P a w (bt P w g mu a o.dst K y) Q:=by have b:=aw s.env x;rw[e]at b;obtain⟨p,d⟩:=hp _ b;refine aJ s (v:=a.eval x) (tv:=.c cv) ?_ h b;simp[execOp,ho,d]
theorem tj(s:bG P C env mu a w g idb){o:Oper}{x:Operand}{i:Nat}(ho:o.op=.extract x i){K:TV->List (Nat×av)->Option R}{y:R}{vs:List (Bool×List CV)}(k:ae env x=.we vs){e:Bool×List CV}(l:vs[i]?=some e)(h:K (wm e) []=some y):o.wp P a w (bt P w g mu a o.dst K y) Q:=by
 have b:=aw s.env x;rw[k]at b;obtain⟨f,d,j⟩:=b;obtain⟨v,m,c⟩:=aq.get i e j l;refine aJ s (v:=v) (tv:=wm e) ?_ h ?_
 · have :f[i]?=some v:=by grind
   simp[execOp,ho,d,Instr.extract,this]
 · rcases e with⟨_|_,cs⟩
   · rcases cs with _|⟨cv,_⟩;· trivial
     · exact c
   · exact c
theorem pB(s:bG P C env mu a w g idb){o:Oper}{b:UnOp}{t:TypeId}{x:Operand}(ho:o.op=.unOp b t x){K:TV->List (Nat×av)->Option R}{y:R}{tv:TV}{v:Value}(c:(Op.unary b (a.eval x)).run P w=.ok v w)(d:tv.R P w g mu v)(h:K tv []=some y):o.wp P a w (bt P w g mu a o.dst K y) Q:=by refine aJ s (v:=v) (tv:=tv) ?_ h d;simp [execOp,ho,c]
theorem qV(s:bG P C env mu a w g idb){o:Oper}{f:Nat}{e d:Array Operand}(ho:o.op=.makeFunc (.func f) e d)(q:e.isEmpty=true){K:TV->List (Nat×av)->Option R}{y:R}{l:List Nat}(t:fm env d.toList=some l)(h:K (.c (.ua f l)) []=some y):o.wp P a w (bt P w g mu a o.dst K y) Q:=by
 have n:∀(xs:List Operand)(l:List Nat),fm env xs=some l->aq (λid u=>mu id≠none/\∃b base,g.c id=.box b base/\u=.pointer (some ⟨b,base,none⟩)) l (xs.map a.eval):=by intro xs;induction xs with|nil=>simp_all[fm,aq,Gh.c]|cons x xs r=>
  intro l h;simp only[fm]at h;have i:=aw s.env x;split at h;·rename_i id off A k z;cases j:Nat.beq off 0 with|false=>grind|true=>simp only[j,cond_true,Option.some.injEq]at h;cases Nat.eq_of_beq_eq_true j;subst h;rw[k]at i;obtain ⟨p,b,base,m,i⟩:=i;simp_all[Gh.c,aq]
  grind
 refine aJ s (v:=.func (.func f) #[] (d.map a.eval)) (tv:=.c (.ua f l)) ?_ h ⟨_,rfl,by simp_all⟩;have :e=#[]:=by grind
 simp[execOp,ho,Instr.makeFunc,this]
theorem wP(s:bG P C env mu a w g idb){o:Oper}{t:TypeId}{x z:Operand}(ho:o.op=.index t x z){K:TV->List (Nat×av)->Option R}{y:R}{i:TI}(G:C.ty t=some i)(H:i.k=.str){b:ByteArray}(F:ae env x=.c (.str b)){k:IntKind}{n:Int}(r:ae env z=.c (.int k n)){u:UInt8}(l:bK b.data.toList n=some u)(h:K (.c (.int .u8 u.toNat)) []=some y):o.wp P a w (bt P w g mu a o.dst K y) Q:=by
 obtain⟨I,d,J,L,p,_,_,_,_,_,_,j,_⟩:=cH (s.ty t i G);have D:d=.string:=by rw[H]at j;cases d<;>simp[cP]at j⊢
 subst D;have f:=aw s.env x;rw[F]at f;have f:a.eval x=.string b:=f;have e:=aw s.env z;rw[r]at e;have e:a.eval z=.int k n:=e;unfold bK at l;split at l
 · rename_i E;refine aJ s (v:=.int .u8 u.toNat) (tv:=.c (.int .u8 u.toNat)) ?_ h rfl;have q:b[n.toNat]?=some u:=by
    have B:b.data[n.toNat]?=some u:=by grind
    obtain⟨m,A⟩:=Array.getElem?_eq_some_iff.1 B;rw[getElem?_pos b n.toNat (by simpa using m)];exact congrArg some A
   simp[execOp,ho,Instr.index,f,e,asIntOf,run_underlying p,E,q]
 grind
end
end Go.Tm
namespace Go.Tm
open Go
section
variable{P:Program}{C:Ctx}{env:Nat->TV}{mu:Mu}{a:Act}{w:World}{g:Gh}{idb:Nat}{R:Type}{Q:Exit->Act->World->Prop}
theorem qW(G:cR P w g mu){cv:CV}{v:Value}(E:cv.R P w g mu v){n:Nat}{K:List CV->Option R}{y:R}(h:et mu cv n K=some y):∃z vs b base,K z=some y/\cc P w g mu z vs/\vs.length=n/\v=.pointer (some ⟨b,base,none⟩)/\∀k u,vs[k]?=some u->w.cell? ⟨b,base+k,none⟩=some u:=by
 have s:∀(cs:List CV)(vs:List Value)(b base off:Nat),cc P w g mu cs vs->(∀k u,vs[k]?=some u->w.cell? ⟨b,base+k,none⟩=some u)->off+n<=cs.length->K ((cs.drop off).take n)=some y->v=.pointer (some ⟨b,base+off,none⟩)->∃z vs b base,K z=some y/\cc P w g mu z vs/\vs.length=n/\v=.pointer (some ⟨b,base,none⟩)/\∀k u,vs[k]?=some u->w.cell? ⟨b,base+k,none⟩=some u:=by intro cs vs b base off a j S o N;have Q:=a.length;refine ⟨_,_,b,base+off,o,aq.take n (aq.drop off a),by grind,N,λk u l=>?_⟩;grind
 cases cv<;>simp only[et]at h<;>try grind
 case ptr id off=>obtain ⟨_,b,base,r,rfl⟩:=E;cases q:mu id with|none=>grind|some bl=>
  have t:=G id bl q;cases bl<;>simp only[q]at h<;>try (cases h;done)
  case box cs=>obtain ⟨b',H,f,A⟩:=t;rw[r]at f;cases f;obtain ⟨vs,a,j⟩:=jU (P:=P) (mu:=mu) cs A;cases d:Nat.ble (off+n) cs.length with|false=>grind|true=>simp only[d,cond_true]at h;exact s cs vs b base off a (λk u l=>(j k u l).1) (Nat.le_of_ble_eq_true d) h rfl
  case eE es x=>obtain ⟨b',H,f,A⟩:=t;rw[r]at f;cases f;obtain ⟨vs,a,j⟩:=eJ es A;cases d:Nat.ble (off+n) es.len with|false=>grind|true=>simp only[d,cond_true]at h;have e:=jR (mu:=mu) es a;refine s _ vs b base off e (λk u l=>(j k u l).1) ?_ h rfl;rw[e.length,iV es a];simp_all
 case eO es x off=>obtain ⟨b,base,rfl,A⟩:=E;obtain ⟨vs,a,j⟩:=eJ es A;cases d:Nat.ble (off+n) es.len with|false=>grind|true=>simp only[d,cond_true]at h;have e:=jR (mu:=mu) es a;refine s _ vs b base off e (λk u l=>(j k u l).1) ?_ h rfl;rw[e.length,iV es a];simp_all
 case dF id sz i off=>obtain ⟨_,ad,m,c,r,O,rfl⟩:=E;cases q:mu id with|none=>grind|some bl=>
 have t:=G id bl q;cases bl<;>simp only[q]at h<;>try grind
 case row es ms xs aF=>cases d:(Nat.ble (off+n) es.len&&Nat.beq sz es.len) with|false=>grind|true=>simp only[d,cond_true]at h;simp only[Bool.and_eq_true]at d;have B:=Nat.eq_of_beq_eq_true d.2;cases p:aC xs i with|none=>grind|some x=>
  simp only[p,Option.bind_some]at h;obtain ⟨J,f,e⟩:=t;rw[r]at f;cases f;obtain ⟨M,L,F,_,e⟩:=bI.1 e;cases F;rcases e with ⟨rfl,_⟩|⟨I,C,_,_,e⟩;·simp[aC]at p
  ·cases C;obtain ⟨vs,a,j⟩:=eJ es (e i x p);have o:=wH (P:=P) (w:=w) (ms0:=ms) q r (ad.off+i*es.len) rfl es a (by grind);refine s _ vs ad.block (ad.off+i*es.len) off o (λk u l=>(j k u l).1) ?_ h (by rw[B]);rw[o.length,iV es a];simp_all
 case fz es xs=>cases d:(Nat.ble (off+n) es.len&&Nat.beq sz es.len) with|false=>grind|true=>simp only[d,cond_true]at h;simp only[Bool.and_eq_true]at d;have B:=Nat.eq_of_beq_eq_true d.2;cases p:aC xs i with|none=>grind|some x=>
 simp only[p,Option.bind_some]at h;obtain ⟨J,f,e⟩:=t;rw[r]at f;cases f;obtain ⟨M,L,F,_,D⟩:=gD.1 e;clear e;cases F;rcases D with rfl|⟨I,C,_,D⟩;·simp[aC]at p
 ·cases C;obtain ⟨vs,a,j⟩:=eJ es (D i x p);have o:=jR (mu:=mu) es a;refine s _ vs ad.block (ad.off+i*es.len) off o (λk u l=>(j k u l).1) ?_ h (by rw[B]);rw[o.length,iV es a];simp_all
theorem jW{d:TypeDesc}:cP d=.struct↔(∃a,d=.struct a)\/lR d=true:=by cases d<;>simp[cP,lR]
theorem yA(s:bG P C env mu a w g idb){o:Oper}{t:TypeId}{x:Operand}(ho:o.op=.load t x){K:TV->List (Nat×av)->Option R}{y:R}{e:TI}(N:C.ty t=some e){cv:CV}(M:ae env x=.c cv)(h:(et mu cv e.size λcs=>K (TV.kv (match e.k with|.struct=>true|_=>false) cs) [])=some y):o.wp P a w (bt P w g mu a o.dst K y) Q:=by
 obtain⟨W,d,z,F,q,Y,γ,H,α,A,X,B,T,L⟩:=cH (s.ty t e N);have E:=aw s.env x;rw[M]at E;obtain⟨m,vs,b,base,h,p,k,n,G⟩:=qW s.dr E h;have i:=run_loadCells_list (P:=P) w ⟨b,base,none⟩ vs (λj v β=>by rw[Addr.add_lit];grind);rcases L with ⟨ε,l,U,S,O,_⟩|⟨V,J,_,_,H⟩|⟨δ,e0,Z,l,_⟩;·subst l;have f:e.k=.struct:=B;simp only[f,TV.kv,cond_true]at h;refine aJ s (v:=.agg vs.toArray) (tv:=.agg m) ?_ h ⟨_,rfl,by omega⟩;rw[k,A]at i;simp[execOp,ho,Instr.loadAt,n,Instr.sureAddr,loadVar,isAgg,run_underlying q,sizeOf,run_typeInfo w F,i]
 · have f:(match e.k with|.struct=>true|_=>false)=false:=by rw[B];cases l:cP d<;>simp;grind[lR,cP,jW]
   rw[f]at h;rw[A,J]at k;obtain ⟨u,rfl⟩:=List.length_eq_one_iff.1 k;cases m with|nil=>exact p.elim|cons cv' r=>cases r with|cons _ _=>exact p.2.elim|nil=>
  refine aJ s (v:=u) (tv:=.c cv') ?_ h p.1;have D:=G 0 u rfl;have I:(isAgg t).run P w=.ok false w:=by simp only[isAgg,Sem.run_bind,run_underlying q,Result.andThen_ok];cases d<;>first|rfl|grind[lR]|grind
  simp only[Nat.add_zero]at D;simp[execOp,ho,Instr.loadAt,n,Instr.sureAddr,loadVar,I,D]
 · subst l;have f:e.k=.struct:=B;simp only[f,TV.kv,cond_true]at h;refine aJ s (v:=.agg vs.toArray) (tv:=.agg m) ?_ h ⟨_,rfl,by omega⟩;rw[k,A]at i;simp[execOp,ho,Instr.loadAt,n,Instr.sureAddr,loadVar,isAgg,run_underlying q,sizeOf,run_typeInfo w F,i]
theorem kK(hty:∀t a,C.ty t=some a->fL P t=some a){t f off n:Nat}(h:dg C t f=some (off,n)):∃c b m,P.underlying t=some (.struct c)/\c[f]?=some b/\b.offset=off/\P.info? b.type=some m/\m.size=n/\n≠0/\∃d,P.underlying b.type=some d/\iS C t f=some (mV d):=by unfold dg at h;cases q:C.ty t with|none=>grind|some a=>
 simp only[q]at h;obtain⟨m,d,z,J,x,H,M,D,K,I,N,L,F,w⟩:=cH (hty t a q);cases y:a.k<;>simp only[y]at h<;>try grind
 rcases w with⟨c,rfl,v,k,s,_⟩|⟨G,_,k,_⟩|⟨_,_,_,_,_,_,_,k,B,_⟩;·cases j:a.dS[f]? with|none=>grind|some p=>obtain⟨E,n'⟩:=p;cases r:a.uR[f]? with|none=>grind|some _=>simp only[j,r]at h;cases A:Nat.beq n' 0 with|true=>grind|false=>simp only[A,cond_false,Option.some.injEq,Prod.mk.injEq]at h;obtain⟨rfl,rfl⟩:=h;rw[k,List.getElem?_map]at j;cases l:c.toList[f]? with|none=>grind|some b=>simp only[l,Option.map_some,Option.some.injEq,Prod.mk.injEq]at j;obtain⟨o,g⟩:=v b (List.mem_of_getElem? l);obtain⟨i,o⟩:=Option.isSome_iff_exists.1 o;obtain⟨u,g⟩:=Option.isSome_iff_exists.1 g;refine⟨c,b,i,x,by grind,j.1,o,by grind,λe=>by simp_all,u,g,?_⟩;simp[iS,q,s,l,g]
 ·grind
 grind
theorem hZ(s:bG P C env mu a w g idb){o:Oper}{t f:Nat}{x:Operand}(ho:o.op=.fieldAddr t x f){K:TV->List (Nat×av)->Option R}{y:R}{off n:Nat}(k:dg C t f=some (off,n)){cv cv':CV}(r:ae env x=.c cv)(hp:∀v,cv.R P w g mu v->∃b base,v=.pointer (some ⟨b,base,none⟩)/\cv'.R P w g mu (.pointer (some ⟨b,base+off,none⟩)))(h:K (.c cv') []=some y):o.wp P a w (bt P w g mu a o.dst K y) Q:=by
 obtain ⟨E,m,d,p,l,u,z,D,B,_⟩:=kK s.ty k;have e:=aw s.env x;rw[r]at e;obtain ⟨b,base,i,A⟩:=hp _ e;refine aJ s (v:=.pointer (some ⟨b,base+off,none⟩)) (tv:=.c cv') ?_ h A;have j:(sizeOf m.type).run P w=.ok d.size w:=by simp[sizeOf,run_typeInfo w z]
 have q:d.size≠0:=by omega
 simp[execOp,ho,Instr.fieldAt,run_underlying p,l,i,Instr.sureAddr,fieldPlace,j,q,u,Addr.add_lit]
theorem lF{α:Type}(xs:Array α)(off n:Nat):(xs.extract off (off+n)).toList=(xs.toList.drop off).take n:=by simp
theorem wQ(s:bG P C env mu a w g idb){o:Oper}{t f:Nat}{x:Operand}(ho:o.op=.field t x f){K:TV->List (Nat×av)->Option R}{y:R}{off n:Nat}{q:Bool}(I:dg C t f=some (off,n))(j:iS C t f=some q){vs:List CV}(J:ae env x=.agg vs)(h:(bif q then K (.agg ((vs.drop off).take n)) []else (match ((vs.drop off).take n)with|[v]=>K (.c v) []|_=>none))=some y):o.wp P a w (bt P w g mu a o.dst K y) Q:=by
 obtain⟨S,A,L,r,l,p,E,F,O,d,G,b⟩:=kK s.ty I;rw[b]at j;cases j;have m:=aw s.env x;rw[J]at m;obtain⟨i,k,D⟩:=m;have e:=aq.take n (aq.drop off D);have B:(sizeOf A.type).run P w=.ok n w:=by simp[sizeOf,run_typeInfo w E,F]
 have b:(isAgg A.type).run P w=.ok (mV d) w:=by simp only[isAgg,Sem.run_bind,run_underlying G,Result.andThen_ok];cases d<;>rfl
 cases z:mV d with|true=>rw[z]at h b;refine aJ s (v:=.agg (i.extract off (off+n))) (tv:=.agg _) ?_ h ⟨_,rfl,by rw[lF];exact e⟩;simp[execOp,ho,Instr.field,run_underlying r,l,k,asAgg,part,b,B,p]|false=>rw[z]at h b;simp only[cond_false]at h;match M:(vs.drop off).take n,e,h with|[cv],e,h=>match N:(i.toList.drop off).take n,e with
 |[u],e=>
 have H:i[off]?=some u:=by
  have :((i.toList.drop off).take n)[0]?=some u:=by grind
  grind
 refine aJ s (v:=u) (tv:=.c cv) ?_ h e.1;simp[execOp,ho,Instr.field,run_underlying r,l,k,asAgg,part,b,p,H]
theorem yB(e:cR P w g mu)(hw:Wf w g.o){cv:CV}{v:Value}(d:cv.R P w g mu v){K:Int->Option R}{y:R}(h:mD mu cv K=some y)(i:∀s,cv≠.str s):∃ad n c,v=.slice ad n c/\K n=some y:=by
 have f:aE mu cv (λ_ xs=>K xs.length)=some y->∃ad n c,v=.slice ad n c/\K n=some y:=by intro h;obtain⟨es,xs,h,⟨ms,q,b⟩,_⟩:=fw e hw d h;cases q with
 |o π=>cases ms with|own ms=>obtain⟨a,c,rfl,_⟩:=bI.1 b;grind|sh=>obtain⟨a,c,rfl,_⟩:=gD.1 b;grind
 |x=>obtain⟨a,c,rfl,_⟩:=(zm (by simp)).1 b;grind|p=>obtain⟨a,c,rfl,_⟩:=(zm (by simp)).1 b;grind
 unfold mD at h;grind[aE,af.D,CV.R]
theorem zV(s:bG P C env mu a w g idb){o:Oper}{c:Call}(ho:o.op=.call c)(H:c.callee=.builtin .len){K:TV->List (Nat×av)->Option R}{y:R}{rid i:Nat}(h:aZ C mu idb rid i .len c.argTypes.toList (c.args.toList.map (ae env)) K=some y):o.wp P a w (bt P w g mu a o.dst K y) Q:=by cases l:c.args.toList with|nil=>simp[l,aZ]at h|cons x r=>cases r with|cons O r=>simp only[l,List.map_cons]at h;cases ae env x<;>simp[aZ]at h|nil=>
 simp only[l,List.map_cons,List.map_nil]at h;cases u:ae env x<;>simp only[u,aZ]at h<;>try grind
 case c cv=>cases D:c.argTypes.toList with|nil=>grind|cons t r=>cases r with|cons _ _=>grind|nil=>simp only[D]at h;cases A:C.ty t with|none=>grind|some p=>
 simp only[A]at h;obtain⟨N,d,z,W,q,T,Y,I,X,U,S,k,J,M⟩:=cH (s.ty t p A);have f:=aw s.env x;rw[u]at f;have G:c.args=#[x]:=by grind
 have E:c.argTypes=#[t]:=by grind
 have go:∀(n:Int),K (.c (.int .i64 n)) []=some y->(Builtin.len_ #[t] o.type #[a.eval x]).run P w=.ok (goInt n) w->o.wp P a w (bt P w g mu a o.dst K y) Q:=by intro n j B;refine aJ s (v:=goInt n) (tv:=.c (.int .i64 n)) ?_ j rfl;simp[execOp,ho,resolve,H,G,E,invoke,builtin,B]
 cases j:p.k<;>simp only[j]at h<;>try grind
 case str=>cases cv with|str b=>
 have m:d=.string:=by rw[j]at k;cases d<;>simp[cP]at k⊢
 subst m;have f:a.eval x=.string b:=f;exact go _ h (by simp[Builtin.len_,run_underlying q,f])|_=>cases h
 case slice e=>
 have m:d=.slice e:=by rw[j]at k;cases d<;>simp[cP]at k⊢;grind
 subst m;have L:mD mu cv (λn=>K (.c (.int .i64 n)) [])=some y->(∀s,cv≠.str s)->o.wp P a w (bt P w g mu a o.dst K y) Q:=by intro h F;obtain⟨ad,n,V,f,h⟩:=yB s.dr s.wf f h F;exact go _ h (by simp[Builtin.len_,run_underlying q,f])
 grind
theorem qX(a:Bool){k:IntKind}:∀(r:List TV)(vs:List Value)(x n:Int),aq (TV.R P w g mu) r vs->cU k a x r=some n->(vs.foldlM (if a then Builtin.max2 else Builtin.min2) (.int k x)).run P w=.ok (.int k n) w|[],[],x,n,_,h=>by simp_all[cU]|[],_::_,_,_,h,_=>h.elim|_::_,[],_,_,h,_=>h.elim|t::r,v::vs,x,n,d,h=>by cases t with|un=>grind[cU]|kl=>grind[cU]|agg _=>grind[cU]|we _=>grind[cU]|c cv=>cases cv with
 |int f b=>
 simp only[cU]at h;split at h;·rename_i e;subst e;cases (d.1:v=.int k b);have :=qX a r vs _ n d.2 h;cases a with|true=>simp only[List.foldlM_cons,if_true,Sem.run_bind,Builtin.max2,Sem.run_pure,Result.andThen_ok]at this⊢;grind[AR,dO]|false=>simp only[List.foldlM_cons,if_false,Sem.run_bind,Builtin.min2,Sem.run_pure,Result.andThen_ok,Bool.false_eq_true]at this⊢;grind[AU,dO]
 grind|_=>grind[cU]
theorem js(b:∀t,(env t).R P w g mu (a.tmps.getD t undef)):∀(xs:List Operand),aq (TV.R P w g mu) (xs.map (ae env)) (xs.map a.eval)|[]=>trivial|x::xs=>⟨aw b x,js b xs⟩
theorem oF(s:bG P C env mu a w g idb)(e:Bool){o:Oper}{c:Call}(ho:o.op=.call c)(f:c.callee=.builtin (if e then .max else .min)){K:TV->List (Nat×av)->Option R}{y:R}{k:IntKind}{x n:Int}{r:List TV}(j:c.args.toList.map (ae env)=.c (.int k x)::r)(l:cU k e x r=some n)(h:K (.c (.int k n)) []=some y):o.wp P a w (bt P w g mu a o.dst K y) Q:=by have b:=js s.env c.args.toList;rw[j]at b;match i:c.args.toList.map a.eval,b with
 |v::vs,b=>
 cases (b.1:v=.int k x);have d:=qX (P:=P) (w:=w) e r vs x n b.2 l;refine aJ s (v:=.int k n) (tv:=.c (.int k n)) ?_ h rfl;have m:(c.args.map a.eval).toList=.int k x::vs:=by simp_all
 cases e with|true=>simp at f d;simp[execOp,ho,resolve,f,invoke,builtin,Builtin.max_,i,d]|false=>simp at f d;simp[execOp,ho,resolve,f,invoke,builtin,Builtin.min_,i,d]
end
end Go.Tm
namespace Go.Tm
open Go
section
variable{P:Program}{C:Ctx}{env:Nat->TV}{mu:Mu}{a:Act}{w:World}{g:Gh}{idb:Nat}{R:Type}{Q:Exit->Act->World->Prop}
def dM(P:Program)(w:World)(a:BinOp)(t:TypeId)(u v z:Value):Prop:=∀x y:Operand,(do eqGuard a t x y u v;binOp a t u v:Sem Value).run P w=.ok z w
theorem uX(d:BinOp)(t:TypeId)(k:IntKind)(x y:Int){K:TV->Option R}{r:R}(h:(match d with|.add=>K (.c (.int k (cM k x y)))|.sub=>K (.c (.int k (gS k x y)))|.mul=>K (.c (.int k (zJ k x y)))|.quo=>bif gA y 0 then none else K (.c (.int k (AV k x y)))|.rem=>bif gA y 0 then none else K (.c (.int k (ph x y)))|.and=>K (.c (.int k (sS k x y)))|.or=>K (.c (.int k (BS k x y)))|.xor=>K (.c (.int k (qC k x y)))|.andNot=>K (.c (.int k (mH k x y)))|.eql=>K (.c (.bool (gA x y)))|.neq=>K (.c (.bool (!gA x y)))|.lss=>K (.c (.bool (dO x y)))|.leq=>K (.c (.bool (km x y)))|.gtr=>K (.c (.bool (dO y x)))|.geq=>K (.c (.bool (km y x)))|_=>none)=some r):∃tv z,K tv=some r/\dM P w d t (.int k x) (.int k y) z/\tv.R P w g mu z:=by
 have a:∀(cv:CV) (z:Value),K (.c cv)=some r->dM P w d t (.int k x) (.int k y) z->cv.R P w g mu z->∃tv z,K tv=some r/\dM P w d t (.int k x) (.int k y) z/\tv.R P w g mu z:=λcv z f e i=>⟨.c cv,z,f,e,i⟩;cases d<;>simp only at h<;>try (cases h;done)
 case add=>exact a _ _ h (λ_ _=>by simp[eqGuard_at_int,binOp,Op.intArith];rfl) rfl
 case sub=>exact a _ _ h (λ_ _=>by simp[eqGuard_at_int,binOp,Op.intArith];rfl) rfl
 case mul=>exact a _ _ h (λ_ _=>by simp[eqGuard_at_int,binOp,Op.intArith];rfl) rfl
 case quo=>cases b:gA y 0 with|true=>grind|false=>
  simp only[b,cond_false]at h;have b:y≠0:=by grind[gA]
  exact a _ _ h (λ_ _=>by simp[eqGuard_at_int,binOp,Op.intDiv,b];rfl) rfl
 case rem=>cases b:gA y 0 with|true=>grind|false=>
  simp only[b,cond_false]at h;have b:y≠0:=by grind[gA]
  exact a _ _ h (λ_ _=>by simp[eqGuard_at_int,binOp,Op.intDiv,b];rfl) rfl
 case and=>exact a _ (.int k (sS k x y)) h (λ_ _=>by simp[eqGuard_at_int,binOp,Op.intBits,sS]) rfl
 case or=>exact a _ (.int k (BS k x y)) h (λ_ _=>by simp[eqGuard_at_int,binOp,Op.intBits,BS]) rfl
 case xor=>exact a _ (.int k (qC k x y)) h (λ_ _=>by simp[eqGuard_at_int,binOp,Op.intBits,qC]) rfl
 case andNot=>exact a _ (.int k (mH k x y)) h (λ_ _=>by simp[eqGuard_at_int,binOp,Op.intBits,mH]) rfl
 case eql=>exact a _ (.bool (gA x y)) h (λ_ _=>by simp[eqGuard_at_int,binOp,Op.intCmp,gA];rfl) rfl
 case neq=>exact a _ (.bool (!gA x y)) h (λ_ _=>by simp[eqGuard_at_int,binOp,Op.intCmp,gA];rfl) rfl
 case lss=>exact a _ (.bool (dO x y)) h (λ_ _=>by simp[eqGuard_at_int,binOp,Op.intCmp,dO]) rfl
 case leq=>exact a _ (.bool (km x y)) h (λ_ _=>by simp[eqGuard_at_int,binOp,Op.intCmp,km]) rfl
 case gtr=>exact a _ (.bool (dO y x)) h (λ_ _=>by simp[eqGuard_at_int,binOp,Op.intCmp,dO]) rfl
 case geq=>exact a _ (.bool (km y x)) h (λ_ _=>by simp[eqGuard_at_int,binOp,Op.intCmp,km]) rfl
theorem uY(b:BinOp)(t:TypeId)(x y:ByteArray){K:TV->Option R}{r:R}(h:(match b with|.add=>bif qB x y then K (.c (.str (yf x y)))else none|.eql=>K (.c (.bool (ko x y)))|.neq=>K (.c (.bool (!ko x y)))|.lss=>K (.c (.bool (ob x y)))|.leq=>K (.c (.bool (ob x y||ko x y)))|.gtr=>K (.c (.bool (!(ob x y||ko x y))))|.geq=>K (.c (.bool (!ob x y)))|_=>none)=some r):∃tv z,K tv=some r/\dM P w b t (.string x) (.string y) z/\tv.R P w g mu z:=by
 have a:∀(cv:CV) (z:Value),K (.c cv)=some r->dM P w b t (.string x) (.string y) z->cv.R P w g mu z->∃tv z,K tv=some r/\dM P w b t (.string x) (.string y) z/\tv.R P w g mu z:=λcv z f e j=>⟨.c cv,z,f,e,j⟩;cases b<;>simp only at h<;>try (cases h;done)
 case add=>cases d:qB x y with|false=>grind|true=>
  simp only[d,cond_true]at h;have d:x.size+y.size<=1099511627776:=by grind[qB]
  have i:¬(9223372036854775807:Int)<(x.size:Int)+y.size:=by omega
  exact a _ (.string (yf x y)) h (λ_ _=>by simp[eqGuard_at_string,binOp,Op.stringOp,i,yf]) rfl
 case eql=>exact a _ (.bool (ko x y)) h (λ_ _=>by simp[eqGuard_at_string,binOp,Op.stringOp,ko]) rfl
 case neq=>exact a _ (.bool (!ko x y)) h (λ_ _=>by simp[eqGuard_at_string,binOp,Op.stringOp,ko]) rfl
 case lss=>exact a _ (.bool (ob x y)) h (λ_ _=>by simp[eqGuard_at_string,binOp,Op.stringOp,ob]) rfl
 case leq=>exact a _ (.bool (ob x y||ko x y)) h (λ_ _=>by simp[eqGuard_at_string,binOp,Op.stringOp,ob,ko]) rfl
 case gtr=>exact a _ (.bool (!(ob x y||ko x y))) h (λ_ _=>by simp[eqGuard_at_string,binOp,Op.stringOp,ob,ko]) rfl
 case geq=>exact a _ (.bool (!ob x y)) h (λ_ _=>by simp[eqGuard_at_string,binOp,Op.stringOp,ob]) rfl
theorem tp{t:TypeId}(hty:∀t a,C.ty t=some a->fL P t=some a)(h:(match C.ty t with|some a=>a.k|none=>.eH)=.bool):P.underlying t=some .bool:=by cases b:C.ty t with|none=>grind|some a=>simp only[b]at h;obtain⟨g,d,z,i,e,k,l,f,m,n,j,c,_⟩:=cH (hty t a b);rw[h]at c;rw[e];cases d<;>simp[cP]at c⊢
theorem lX{t e:TypeId}(hty:∀t a,C.ty t=some a->fL P t=some a)(h:(match C.ty t with|some a=>a.k|none=>.eH)=.slice e):P.underlying t=some (.slice e):=by cases b:C.ty t with|none=>grind|some a=>simp only[b]at h;obtain⟨i,d,z,j,f,l,m,g,n,o,k,c,_⟩:=cH (hty t a b);rw[h]at c;rw[f];cases d<;>simp[cP]at c⊢;grind
theorem uZ{t:TypeId}{d:Nat}{k:TK}{x y:CV}{u v:Value}{c:Bool}(h:lg k x y=some c)(j:x.R P w g mu u)(i:y.R P w g mu v){ty:TypeDesc}(l:P.underlying t=some ty)(e:cP ty=k):(Op.equalIn (d+1) t u v).run P w=.ok c w:=by subst e;cases ty with
 |int q=>cases x with
  |int f a=>cases y with
   |int m b=>
  simp only[cP,lg]at h;split at h;·grind[CV.R,gA,run_equalIn_int]
  grind|_=>grind[lg,cP]
  |_=>grind[lg,cP]
 |bool=>cases x with
  |bool a=>cases y with|bool b=>grind[wo,CV.R,run_equalIn_bool',lg,cP]|_=>grind[lg,cP]
  |_=>grind[lg,cP]
 |string=>cases x with
  |str a=>cases y with|str b=>grind[ko,CV.R,run_equalIn_string,lg,cP]|_=>grind[lg,cP]
  |_=>grind[lg,cP]
 |_=>grind[lg,cP]
theorem lY{d:Nat}:∀(a:List Field)(i:Nat)(b:List TK)(A B:List CV){xs ys:Array Value}{c:Bool},jO P a i=true->b=a.map (λf=>((P.underlying f.type).map cP).getD .eH)->eI b A B=some c->(∀j cv,A[j]?=some cv->∃u,xs[i+j]?=some u/\cv.R P w g mu u)->(∀j cv,B[j]?=some cv->∃u,ys[i+j]?=some u/\cv.R P w g mu u)->(Op.eqFields (d+1) xs ys a).run P w=.ok c w|[],i,b,A,B,xs,ys,c,n,p,h,o,m=>by subst p;cases A<;>cases B<;>simp[eI]at h;subst h;simp[Op.eqFields]|f::a,i,b,A,B,xs,ys,c,n,p,h,o,m=>by subst p;simp only[jO,Bool.and_eq_true,Bool.not_eq_true',beq_eq_false_iff_ne]at n;obtain⟨⟨⟨C,e⟩,hty⟩,F⟩:=n;have e:=Nat.eq_of_beq_eq_true e;cases k:P.underlying f.type with|none=>grind|some ty=>cases A with|nil=>simp[eI]at h|cons x A=>cases B with|nil=>simp[eI]at h|cons y B=>
 simp only[List.map_cons,eI,k,Option.map_some,Option.getD_some]at h;obtain⟨u,s,G⟩:=o 0 x rfl;obtain⟨v,r,E⟩:=m 0 y rfl;simp only[Nat.add_zero]at s r;have q:∀{l:Array Value}{u:Value},l[i]?=some u->(part f.type l f.offset).run P w=.ok u w:=by
  intro l u I;have D:(isAgg f.type).run P w=.ok false w:=by simp only[isAgg,Sem.run_bind,run_underlying k,Result.andThen_ok];cases ty<;>first|rfl|grind
  simp[part,D,e,I]
 cases z:lg (cP ty) x y with|none=>grind|some c0=>
 simp only[z]at h;have H:=uZ (d:=d) z G E k rfl;have L:∀c1,eI (a.map λf=>((P.underlying f.type).map cP).getD .eH) A B=some c1->(Op.eqFields (d+1) xs ys a).run P w=.ok c1 w:=λc1 t=>lY a (i+1) _ A B F rfl t (λj cv J=>by have :=o (j+1) cv (by grind);grind) (λj cv J=>by have :=m (j+1) cv (by grind);grind);have K:∀c1,eI (a.map λf=>((P.underlying f.type).map cP).getD .eH) A B=some c1->(Op.eqFields (d+1) xs ys (f::a)).run P w=.ok (c0&&c1) w:=by
  intro c1 t;simp only[Op.eqFields,C,ne_eq,not_false_eq_true,if_true,Sem.run_bind,q s,q r,Result.andThen_ok,H];cases c0;·simp
  grind
 grind[jO,cP,eI,CV.R]
theorem qY{t e:TypeId}(k:cR P w g mu)(hw:Wf w g.o)(l:P.underlying t=some (.slice e)){cv:CV}{v:Value}(j:cv.R P w g mu v){K:Bool->Option R}{r:R}(h:qD mu cv K=some r)(y:∀s,cv≠.str s):∃b,K b=some r/\dM P w .eql t v (.slice none 0 0) (.bool b)/\dM P w .neq t v (.slice none 0 0) (.bool (!b)):=by
 have go:∀(ad:Option Addr) (n c:Nat),dM P w .eql t (.slice ad n c) (.slice none 0 0) (.bool ad.isNone)/\dM P w .neq t (.slice ad n c) (.slice none 0 0) (.bool (!ad.isNone)):=by intro ad n c;have f:=run_equal_slice_nil (P:=P) w t e ad n c l;exact⟨λ_ _=>by simp only[eqGuard_at_slice,binOp,Sem.run_bind,Sem.run_pure,Result.andThen_ok,f],λ_ _=>by simp only[eqGuard_at_slice,binOp,Sem.run_bind,Sem.run_pure,Result.andThen_ok,f]⟩
 have u:(aE mu cv λ_ xs=>bif xs.isEmpty then mU (K true) (K false) else K false)=some r->∃b,K b=some r/\dM P w .eql t v (.slice none 0 0) (.bool b)/\dM P w .neq t v (.slice none 0 0) (.bool (!b)):=by
  intro h;obtain⟨es,xs,h,⟨ms,q,d⟩,_⟩:=fw k hw j h;have i:∃ad c,v=.slice ad xs.length c/\(xs≠[]->∃p,ad=some p):=by cases q with
  |o π=>cases ms with|own ms=>obtain⟨a,c,rfl,_,h⟩:=bI.1 d;grind|sh=>obtain⟨a,c,rfl,_,h⟩:=gD.1 d;grind
  |x=>obtain⟨a,c,rfl,_,h⟩:=(zm (by simp)).1 d;grind|p=>obtain⟨a,c,rfl,_,h⟩:=(zm (by simp)).1 d;grind
  obtain⟨ad,c,rfl,m⟩:=i;cases xs with|nil=>simp only[List.isEmpty_nil,cond_true]at h;unfold mU at h;grind|cons x xs=>grind
 unfold qD at h;grind[aE,af.D,mU,dM,CV.R]
theorem yC(hty:∀t a,C.ty t=some a->fL P t=some a)(Q:cR P w g mu)(hw:Wf w g.o){t:TypeId}{q:BinOp}{S ty:TV}{u v:Value}(n:S.R P w g mu u)(o:ty.R P w g mu v){K:TV->Option R}{r:R}(h:iP mu (match C.ty t with|some a=>a.k|none=>.eH) (match C.ty t with|some a=>a.eq|none=>none) q S ty K=some r):∃tv z,K tv=some r/\dM P w q t u v z/\tv.R P w g mu z:=by
 unfold iP at h;split at h
 · rename_i k x γ y;cases (n:u=.int k x);cases (o:v=.int γ y);split at h;· cases i:dO y 0 with|true=>grind|false=>
    simp only[i,cond_false]at h;have i:¬y<0:=by grind[dO]
    exact⟨_,.int k (zK k x y),h,λ_ _=>by simp[eqGuard_at_int,binOp,Op.shift,i,zK],rfl⟩
   · cases i:dO y 0 with|true=>grind|false=>
    simp only[i,cond_false]at h;have i:¬y<0:=by grind[dO]
    exact⟨_,.int k (zL k x y),h,λ_ _=>by simp[eqGuard_at_int,binOp,Op.shift,i,zL],rfl⟩
   · split at h;· rename_i e;subst e;exact uX q t k x y h
     grind
 · rename_i x y;cases (n:u=.string x);cases (o:v=.string y);exact uY q t x y h
 · rename_i x y;cases (n:u=.bool x);cases (o:v=.bool y);split at h
   · rename_i I;have f:=tp hty I;split at h;· exact⟨_,.bool (wo x y),h,λ_ _=>by simp only[eqGuard_at_bool,Sem.run_bind,Sem.run_pure,Result.andThen_ok,run_eql_bool w t x y f];rfl,rfl⟩
     · exact⟨_,.bool (!wo x y),h,λ_ _=>by simp only[eqGuard_at_bool,Sem.run_bind,Sem.run_pure,Result.andThen_ok,run_neq_bool w t x y f];rfl,rfl⟩
     grind
   grind
 · rename_i A B;obtain⟨D,rfl,β⟩:=n;obtain⟨E,rfl,α⟩:=o;cases f:C.ty t with|none=>grind|some a=>simp only[f]at h;cases O:a.eq with|none=>grind|some F=>
  simp only[O]at h;obtain⟨W,d,z,J,p,π,φ,δ,σ,ρ,ψ,τ,κ,V⟩:=cH (hty t a f);rcases V with⟨G,rfl,μ,θ,ε,m⟩|⟨_,_,_,m,_⟩|⟨_,_,_,_,_,_,_,_,_,m⟩;· rw[O]at m;cases H:(jO P G.toList 0&&Nat.beq G.toList.length W.size&&!P.stoodInHeld t&&!P.eqGuardType P.depth t) with|false=>grind|true=>
   rw[H]at m;simp only[cond_true,Option.some.injEq]at m;simp only[Bool.and_eq_true,Bool.not_eq_true']at H;obtain⟨⟨⟨T,_⟩,U⟩,N⟩:=H;have X:P.fieldsOf t=G:=by simp[Program.fieldsOf,p]
   have run:∀c,eI F A B=some c->(Op.equalIn 10000 t (.agg D) (.agg E)).run P w=.ok c w:=by
    intro c l;rw[run_equalIn_agg w 9999 t D E (by grind) U,X];refine lY (g:=g) (mu:=mu) (d:=9998) G.toList 0 F A B T m l (λj cv L=>?_) (λj cv L=>?_);· obtain⟨u,Y,Z⟩:=aq.get j cv β L;grind
    · obtain⟨u,Y,Z⟩:=aq.get j cv α L;grind
   split at h;· cases l:eI F A B with|none=>grind|some c=>simp only[l]at h;exact⟨_,.bool c,h,λx y=>by simp only[Sem.run_bind,run_eqGuard_agg w _ t x y D E N,Result.andThen_ok,run_eql_struct,run c l],rfl⟩
   · cases l:eI F A B with|none=>grind|some c=>simp only[l]at h;exact⟨_,.bool (!c),h,λx y=>by simp only[Sem.run_bind,run_eqGuard_agg w _ t x y D E N,Result.andThen_ok,run_neq_struct,run c l],rfl⟩
   grind
  · grind
  grind
 · rename_i cv;cases (o:v=.slice none 0 0);split at h
   · rename_i e I;have f:=lX hty I;have M:∀s,cv≠.str s:=by intro s e;subst e;split at h<;>first|(simp[qD,aE]at h;done)|cases h
     split at h;· obtain⟨b,h,J,p⟩:=qY Q hw f n h M;exact⟨_,_,h,J,rfl⟩
     · obtain⟨b,h,J,p⟩:=qY Q hw f n h M;exact⟨_,_,h,p,rfl⟩
     grind
   grind
 grind
theorem zW(s:bG P C env mu a w g idb){o:Oper}{t e:TypeId}{c:BinOp}{x y:Operand}(ho:o.op=.binOp c t x y e){K:TV->List (Nat×av)->Option R}{r:R}(h:iP mu (match C.ty t with|some b=>b.k|none=>.eH) (match C.ty t with|some b=>b.eq|none=>none) c (ae env x) (ae env y) (λv=>K v [])=some r):o.wp P a w (bt P w g mu a o.dst K r) Q:=by obtain⟨tv,z,h,f,d⟩:=yC s.ty s.dr s.wf (aw s.env x) (aw s.env y) h;refine aJ s (v:=z) (tv:=tv) ?_ h d;have :=f x y;simp only [execOp,ho,Sem.run_bind]at this⊢;simp_all
end
end Go.Tm
namespace Go.Tm
open Go
def re(f:Nat->List Nat->ax):ax->ax|.o (id::s)=>f id s|.o []=>.x|q=>q
def wR(q:ax)(s:List Nat):ax:=match q with|.o π=>.o (π++s)|.p=>.p|.x=>.x
section
variable{P:Program}{C:Ctx}{env:Nat->TV}{mu:Mu}{a:Act}{w w':World}{g g':Gh}{idb:Nat}{f:Nat->List Nat->ax}{T:Nat->Prop}
structure oc(w:World)(g:Gh)(w':World)(g':Gh)(f:Nat->List Nat->ax)(Wr:Nat->Nat->Prop):Prop where
 iH:∀b k v,w.cell? ⟨b,k,none⟩=some v->¬Wr b k->w'.cell? ⟨b,k,none⟩=some v
 db:∀b k v,w.cell? ⟨b,k,none⟩=some v->∃v',w'.cell? ⟨b,k,none⟩=some v'
 own:∀b k v,w.cell? ⟨b,k,none⟩=some v->g'.o b k=re f (g.o b k)wr:∀b k,Wr b k->∃id,g.o b k=.o [id]
theorem oc.dK{Wr:Nat->Nat->Prop}(h:oc w g w' g' f Wr):aj w g.o w' g'.o:=λb k v a ho=>⟨h.iH b k v a (λhw=>by obtain⟨id,e⟩:=h.wr b k hw;grind),by rw[h.own b k v a,ho];rfl⟩
theorem oc.rl{Wr:Nat->Nat->Prop}(h:oc w g w' g' f Wr){id:Nat}{l:List Nat}{q:ax}(i:q≠.x)(e:∀s,f id (l++s)=wR q s)(hw:∀b k,Wr b k->∀s,g.o b k≠.o (id::l++s)):Rl w g.o w' g'.o (.o (id::l)) q:=by have a:∀b k s v,w.cell? ⟨b,k,none⟩=some v->g.o b k=.o (id::l++s)->w'.cell? ⟨b,k,none⟩=some v/\g'.o b k=wR q s:=λb k s v c ho=>⟨h.iH b k v c (λd=>hw b k d s ho),by rw[h.own b k v c,ho,List.cons_append];exact e s⟩;cases q with|x=>grind|p=>exact .inr ⟨rfl,a⟩|o π=>exact .inl ⟨π,rfl,a⟩
open Classical in noncomputable def cr(w:World)(g:Gh)(idb n:Nat)(f:Nat->List Nat->ax)(v:Value):Gh:=⟨λb k=>if b=w.heap.size then(if k<n then .o [idb]else .x)else re f (g.o b k),λid=>if id=idb then .row v else g.c id⟩
theorem lG{vals:List Value}{t:TypeId}{v:Value}:oc w g (w.alloc (.cells vals.toArray t)) (cr w g idb vals.length f v) f (λ_ _=>False) where
 iH b k v a _:=by rw[World.cell?_alloc_lt w _ ⟨b,k,none⟩ (cV a)];exact a
 db b k v a:=⟨v,by rw[World.cell?_alloc_lt w _ ⟨b,k,none⟩ (cV a)];exact a⟩
 own b k v a:=by have :=cV a;show (if b=w.heap.size then _ else _)=_;grind
 wr b k h:=h.elim
theorem uu(a:∀id s,f id s≠.o []){q:ax}:re f q≠.o []:=by cases q with|x=>intro h;cases h|p=>intro h;cases h|o π=>cases π with|nil=>intro h;cases h|cons id s=>exact a id s
theorem tu{q:ax}{π:List Nat}(h:re f q=.o π):∃id s,q=.o (id::s)/\f id s=.o π:=by cases q with|x=>cases h|p=>cases h|o p=>cases p with|nil=>cases h|cons id s=>exact⟨id,s,rfl,h⟩
theorem oG(hw:Wf w g.o)(G:∀b k id s,g.o b k=.o (id::s)->mu id≠none){vals:List Value}{t:TypeId}{v:Value}{ms:List (Nat×av)}(F:mu idb=none)(C:∀id s,¬T id->f id s=.o (id::s))(E:∀id s,f id s≠.o [])(K:∀id s p l,mu id≠none->f id s=.o (p::l)->au mu ms p≠none)(L:au mu ms idb≠none)(r:∀id,¬T id->mu id≠none->∀b,(id,b)∉ms)(z:∀id es j xs aF,T id->mu id≠none->au mu ms id≠some (.row es j xs aF))(D:∀id b,(T id\/mu id=none)->au mu ms id=some b->b.R P (w.alloc (.cells vals.toArray t)) (cr w g idb vals.length f v) (au mu ms) id):eL P w g mu (w.alloc (.cells vals.toArray t)) (cr w g idb vals.length f v) (au mu ms):=by
 have i:oc w g (w.alloc (.cells vals.toArray t)) (cr w g idb vals.length f v) f (λ_ _=>False):=lG;refine⟨T,⟨λb k u c n=>⟨i.iH b k u c id,?_⟩,λid h=>?_,λid h=>aM h,λid h m=>aD λb q=>r id h m b q,λid es j xs aF B m A=>absurd A (z id es j xs aF B m)⟩,?_,?_,?_,D⟩;·rw [i.own b k u c];cases d:g.o b k with|x=>rfl|p=>rfl|o π=>cases π with|nil=>exact absurd d (hw.ne b k)|cons id s=>exact C id s (n id s d)
 ·show (if id=idb then _ else _)=_;grind
 · refine⟨rfl,rfl,rfl,by simp,λb y _=>?_,λb k u c n=>⟨i.iH b k u c id,?_⟩,i.db,λb k y=>World.frozen?_alloc_old w _ ⟨b,k,none⟩ (by grind)⟩;· simp only [World.alloc,Array.getElem?_push];grind
   · rw [i.own b k u c];simp_all [ax.casesOn,Gh.o,re]
 · refine ⟨λb k π h=>?_,λb k h=>?_⟩
   · have a:(if b=w.heap.size then (if k<vals.length then ax.o [idb]else .x) else re f (g.o b k))=.o π:=h;clear h;split at a
     · rename_i e;subst e;split at a;· simp_all
       grind
     · rename_i J;obtain ⟨id,s,d,_⟩:=tu a;obtain ⟨⟨u,c⟩,H⟩:=hw.cell b k _ d;grind [oc.iH,cr,World.frozen?_alloc_old]
   · have a:(if b=w.heap.size then (if k<vals.length then ax.o [idb]else .x) else re f (g.o b k))=.o []:=h;split at a;· grind
     · exact uu E a
 · intro b k id l h;have a:(if b=w.heap.size then (if k<vals.length then ax.o [idb]else .x) else re f (g.o b k))=.o (id::l):=h;split at a;· grind
   · obtain ⟨id',s,d,I⟩:=tu a;grind
theorem jt{b0 off:Nat}{vs:List Value}{d:Nat->fM}(hw:Wf w g.o){id0:Nat}(a:∀k,k<vs.length->g.o b0 (off+k)=.o [id0]):oc w g (w.setCells b0 off vs) ⟨λb k=>re f (g.o b k),d⟩ f (λb k=>b=b0/\off<=k/\k<off+vs.length)where
 iH b k v c m:=by grind [World.cell?_setCells_out]
 db b k v c:=by
  by_cases h:b=b0/\off<=k/\k<off+vs.length;·obtain⟨rfl,i,e⟩:=h;have :=World.cell?_setCells_in b vs off w (λj l=>by obtain⟨⟨u,n⟩,_⟩:=hw.cell _ _ _ (a j l);grind) (k-off) (by omega);grind
  grind [World.cell?_setCells_out]
 own b k v c:=rfl
 wr b k h:=⟨id0,by obtain⟨rfl,i,e⟩:=h;have :=a (k-off) (by omega);grind⟩
theorem bS(b0:Nat):∀(vs:List Value)(off:Nat)(w:World),(w.setCells b0 off vs).os=w.os/\(w.setCells b0 off vs).tape=w.tape/\(w.setCells b0 off vs).output=w.output/\(w.setCells b0 off vs).heap.size=w.heap.size/\(∀b,b≠b0->(w.setCells b0 off vs).heap[b]?=w.heap[b]?)|[],_,_=>⟨rfl,rfl,rfl,rfl,λ_ _=>rfl⟩|v::vs,off,w=>by obtain⟨c,a,d,e,f⟩:=bS b0 vs (off+1) (w.setCell ⟨b0,off,none⟩ v);refine⟨c,a,d,by rw[World.setCells,e,World.size_setCell],λb g=>?_⟩;rw[World.setCells,f b g];simp only[World.setCell,Array.getElem?_modify];grind
theorem kL(hw:Wf w g.o)(N:∀b k id s,g.o b k=.o (id::s)->mu id≠none){b0 off:Nat}{vs:List Value}{m:Nat->fM}{id0:Nat}(R:vs≠[]->T id0)(i:∀k,k<vs.length->g.o b0 (off+k)=.o [id0]){ms:List (Nat×av)}(B:∀id,mu id≠none->m id=g.c id)(K:∀id s,¬T id->f id s=.o (id::s))(M:∀id s,f id s≠.o [])(U:∀id s p l,mu id≠none->f id s=.o (p::l)->au mu ms p≠none)(C:∀id,¬T id->mu id≠none->∀b,(id,b)∉ms)(F:∀id es D xs aF,T id->mu id≠none->au mu ms id=some (.row es D xs aF)->∃E A z r,mu id=some (.row E A z r)/\r<aF)(L:∀id b,(T id\/mu id=none)->au mu ms id=some b->b.R P (w.setCells b0 off vs) ⟨λb k=>re f (g.o b k),m⟩ (au mu ms) id):eL P w g mu (w.setCells b0 off vs) ⟨λb k=>re f (g.o b k),m⟩ (au mu ms):=by
 have n:oc w g (w.setCells b0 off vs) ⟨λb k=>re f (g.o b k),m⟩ f (λb k=>b=b0/\off<=k/\k<off+vs.length):=jt hw i;obtain⟨I,q,G,V,W⟩:=bS b0 vs off w;have y:∀b k,(∀id s,g.o b k=.o (id::s)->¬T id)->¬(b=b0/\off<=k/\k<off+vs.length):=by rintro b k a⟨rfl,J,H⟩;have :=i (k-off) (by omega);grind
 refine⟨T,⟨λb k u c a=>⟨n.iH b k u c (y b k a),?_⟩,B,λid h=>aM h,λid h q=>aD λb t=>C id h q b t,F⟩,?_,?_,?_,L⟩;·show re f (g.o b k)=_;cases d:g.o b k with|x=>rfl|p=>rfl|o π=>cases π with|nil=>exact absurd d (hw.ne b k)|cons id s=>exact K id s (a id s d)
 · refine⟨I,q,G,by omega,λb S a=>?_,λb k u c a=>⟨n.iH b k u c ?_,?_⟩,n.db,λb k _=>World.frozen?_setCells b0 vs off w ⟨b,k,none⟩⟩
   · by_cases e:b=b0;· subst e;cases vs with|nil=>rfl|cons v vs=>exact absurd (i 0 (by simp)) (a _ _)
     grind
   · rintro ⟨rfl,J,H⟩;have :=i (k-off) (by omega);grind
   simp_all [Gh.o,re,ax.casesOn]
 · refine ⟨λb k π h=>?_,λb k h=>uu M h⟩;obtain ⟨id,s,d,_⟩:=tu h;obtain ⟨⟨u,c⟩,O⟩:=hw.cell b k _ d;exact ⟨n.db b k u c,λj=>by rw [World.frozen?_setCells];grind⟩
 · intro b k id l h;obtain ⟨id',s,d,Q⟩:=tu h;grind
def cd(us:List aI)(a:Nat->List Nat):Nat->List Nat->ax:=λid s=>match aS id us with|some (.mv _ to)=>.o (a to++s)|some (.pm _)=>.p|none=>.o (id::s)
theorem uv{us:List aI}{a:Nat->List Nat}{id to:Nat}(b:aP us=true)(h:aI.mv id to∈us)(s:List Nat):cd us a id s=.o (a to++s):=by simp[cd,fy b h]
theorem kM{us:List aI}{a:Nat->List Nat}{id:Nat}(b:aP us=true)(h:aI.pm id∈us)(s:List Nat):cd us a id s=.p:=by simp[cd,gI b h]
theorem eL.wT(t:cR P w g mu)(hw:Wf w g.o)(i:∀b k id s,g.o b k=.o (id::s)->mu id≠none){id0:Nat}{es:af}{ms:List Md}{xs:List es.D}{aF:Nat}(n:mu id0=some (.row es ms xs aF)):∃g',eL P w g mu w g' (au mu [(id0,.fz es xs)])/\∀v,g.c id0=.row v->(Ty.sl es).H P w g'.o .sh .p xs v:=by
 let us:List aI:=[.pm id0];have m:aP us=true:=rfl;have u:∀id,id≠id0->aS id us=none:=λid h=>if_neg (λe=>h (Eq.symm e));have d:oc w g (w.setCells 0 0 []) ⟨λb k=>re (cd us λ_=>[0]) (g.o b k),g.c⟩ (cd us λ_=>[0]) (λb k=>b=0/\0<=k/\k<0+([]:List Value).length):=jt (id0:=0) hw (by simp);obtain⟨v,r,q⟩:=t _ _ n;have j:(Ty.sl es).H P w (λb k=>re (cd us λ_=>[0]) (g.o b k)) .sh .p xs v:=mE _ (qK _ _ _ _ _ (ck d.dK hw (.sl es) (.own ms) (.o [id0]) .p xs v (d.rl (l:=[]) (by simp) (λs=>by simp [kM m (List.mem_singleton.2 rfl),wR]) (λb k h=>by grind)) q));refine⟨⟨λb k=>re (cd us λ_=>[0]) (g.o b k),g.c⟩,kL (T:=λid=>id=id0) (vs:=[]) (b0:=0) (off:=0) (id0:=0) hw i (by simp) (by simp) (λ_ _=>rfl) (λid s h=>by grind [cd,aS]) (λid s=>?_) (λid s p l c a=>?_) (λid c a b D=>?_) (λid B A y x c a f=>?_) (λid b c a=>?_),λC z=>by grind⟩;·unfold cd;grind
 · have :cd us (λ_=>[0]) id s=.o (p::l):=a;unfold cd at this;split at this;· rename_i e;obtain⟨_,f⟩:=dL e;grind
   · grind
   · cases this;exact aM c
 · grind
 · subst c;simp [au,bW,Nat.beq_refl]at f
 · rcases c with c|c;· subst c;simp [au,bW,Nat.beq_refl]at a;subst a;exact⟨v,r,j⟩
   · rcases aW a with a|⟨_,a⟩;· grind
     grind
end
end Go.Tm
namespace Go.Tm
open Go
section
variable{P:Program}{C:Ctx}{env:Nat->TV}{mu:Mu}{a:Act}{w:World}{g:Gh}{idb:Nat}{R:Type}{Q:Exit->Act->World->Prop}
theorem fe(hty:∀t a,C.ty t=some a->fL P t=some a){t e:Nat}{b:TI}(h:cN C t=some (e,b)):P.underlying t=some (.slice e)/\C.ty e=some b/\(C.es e).len=b.size/\∃a,C.ty t=some a/\a.k=.slice e:=by unfold cN at h;cases j:C.ty t with|none=>grind|some a=>
 simp only[j]at h;cases g:a.k<;>simp only[g]at h<;>try grind
 case slice f=>cases d:C.ty f with|none=>grind|some i=>simp only[d]at h;cases c:Nat.beq (C.es f).len i.size with|false=>grind|true=>simp only[c,cond_true,Option.some.injEq,Prod.mk.injEq]at h;obtain⟨rfl,rfl⟩:=h;exact⟨lX (t:=t) hty (by grind),d,Nat.eq_of_beq_eq_true c,a,rfl,g⟩
theorem qZ{hty:∀t b,C.ty t=some b->fL P t=some b}{e:Nat}{a:TI}(h:C.ty e=some a):(sizeOf e).run P w=.ok a.size w:=by obtain⟨i,d,z,c,j,k,l,g,m,f,_⟩:=cH (hty e a h);simp[sizeOf,run_typeInfo w c,f]
theorem ew{ad:Addr}(h:ad.spot=none)(k:Nat):ad.add k=⟨ad.block,ad.off+k,none⟩:=by
 unfold Addr.add;split;·rename_i e;subst e;cases ad;simp_all
 ·rfl
theorem ra{es:af}{n:Nat}{xs:List es.D}(h:dP mu n (.ro es xs)=true):es.len=n:=Nat.eq_of_beq_eq_true h
theorem pC(s:bG P C env mu a w g idb){o:Oper}{t e:Nat}{l:TI}{x z:Operand}(ho:o.op=.indexAddr t x z){K:TV->List (Nat×av)->Option R}{y:R}(T:cN C t=some (e,l)){cv:CV}(Y:ae env x=.c cv){k:IntKind}{n:Int}(W:ae env z=.c (.int k n))(N:dP mu (C.es e).len cv=true)(h:(lj mu cv n λp=>K (.c p) [])=some y):o.wp P a w (bt P w g mu a o.dst K y) Q:=by
 obtain⟨Z,M,α,_⟩:=fe s.ty T;have O:=qZ (w:=w) (hty:=s.ty) M;have i:=aw s.env x;rw[Y]at i;have r:=aw s.env z;rw[W]at r;have r:a.eval z=.int k n:=r;have S:P.elem t=e:=by simp[Program.elem,Z]
 have A:∀(ad:Addr) (len cap:Nat) (p:CV),ad.spot=none->a.eval x=.slice (some ad) len cap->0<=n/\n<len->K (.c p) []=some y->p.R P w g mu (.pointer (some ⟨ad.block,ad.off+n.toNat*l.size,none⟩))->o.wp P a w (bt P w g mu a o.dst K y) Q:=by intro ad len cap p f j V X hp;refine aJ s (v:=.pointer (some ⟨ad.block,ad.off+n.toNat*l.size,none⟩)) (tv:=.c p) ?_ X hp;have :=run_indexAt_slice (P:=P) w t ad len cap k n (by grind);simp[execOp,ho,j,r,this,V,S,O,ew f]
 have u:∀{es:af}{xs:List es.D}{x:es.D},bK xs n=some x->aC xs n.toNat=some x/\0<=n/\n<xs.length:=by grind[af.D,bK,aC]
 cases cv<;>simp only[lj]at h<;>try grind
 case ro es xs=>have G:=ra N;cases b:bK xs n with|none=>grind|some L=>
  simp only[b,Option.bind_some]at h;obtain ⟨b,q,m⟩:=u b;have i:(Ty.sl es).H P w g.o .sh .p xs (a.eval x):=i;obtain ⟨ad,c,j,_,d⟩:=gD.1 i;rcases d with rfl|⟨p,rfl,f,d⟩;·grind
  ·refine A p _ c _ f j ⟨q,m⟩ h ⟨p.block,p.off+n.toNat*l.size,rfl,?_⟩;grind
 case own id=>obtain ⟨_,J,_⟩:=i;cases I:mu id with|none=>grind|some bl=>
 have F:=s.dr id bl I;cases bl<;>simp only[I]at h<;>try grind
 case row es ms xs aF=>
  have G:es.len=(C.es e).len:=by simp_all[af.len,Ctx.es,dP,af.D]
  cases b:bK xs n with|none=>grind|some L=>
  simp only[b,Option.bind_some]at h;obtain ⟨b,q,m⟩:=u b;obtain ⟨U,B,E⟩:=F;rw[J]at B;obtain ⟨ad,c,j,_,d⟩:=bI.1 E;rcases d with ⟨rfl,_⟩|⟨p,rfl,f,_,d⟩;·omega
  · have D:a.eval x=.slice (some p) xs.length c:=by grind
    refine A p _ c _ f.1 D ⟨q,m⟩ h ⟨by omega,p,xs.length,c,by grind,f.1,?_⟩;grind
 case fz es xs=>
 have G:es.len=(C.es e).len:=by simp_all[af.len,Ctx.es,dP,af.D]
 cases b:bK xs n with|none=>grind|some L=>
 simp only[b,Option.bind_some]at h;obtain ⟨b,q,m⟩:=u b;obtain ⟨U,B,E⟩:=F;rw[J]at B;obtain ⟨ad,c,j,_,d⟩:=gD.1 E;rcases d with rfl|⟨p,rfl,f,d⟩;· grind
 · have D:a.eval x=.slice (some p) xs.length c:=by grind
   refine A p _ c _ f D ⟨q,m⟩ h ⟨p.block,p.off+n.toNat*l.size,rfl,?_⟩;grind
theorem pD{o:Nat->Nat->ax}{es:af}{xs:List es.D}{ad:Option Addr}{n c l h sz:Nat}(s:sz=es.len)(r:n=xs.length)(a:AY P w o es xs (.slice ad n c))(q:l<=h)(m:h<=n):AY P w o es ((xs.drop l).take (h-l)) (.slice (if c=l then ad else ad.map (·.add (l*sz))) (h-l) (c-l)):=by
 obtain⟨g,k,e,f,a⟩:=a;cases e;refine⟨_,c-l,by congr 1;grind,by grind,?_⟩;by_cases d:c=l;·grind
 · rw[if_neg d];rcases a with rfl|⟨p,rfl,b,a⟩;· grind
   · right;refine⟨p.add (l*sz),rfl,by rw[ew b],λi x t=>?_⟩;rw[ew b];have j:aC xs (l+i)=some x:=by grind[af.D,aC,aq.bD]
     grind
def yD(P:Program)(w:World)(g:Gh)(mu:Mu):Option TV->Option Value->Prop|none,none=>True|some t,some v=>t.R P w g mu v|_,_=>False
theorem Bi{k:IntKind}{i:Int}{n cap:Nat}{b:Bool}(a:0<=i)(c:i<=cap):(Instr.sliceBounds b n cap none (some (.int k i)) none).run P w=.ok (0,i.toNat,cap) w:=by cases b<;>simp only[Instr.sliceBounds,Sem.run_bind,Sem.run_pure,Result.andThen_ok,if_true,if_false,Bool.false_eq_true,run_sliceBound w k i cap _ a c]
theorem Bj{k:IntKind}{i:Int}{n cap:Nat}{b:Bool}(a:0<=i)(c:i<=n):(Instr.sliceBounds b n cap (some (.int k i)) none none).run P w=.ok (i.toNat,n,cap) w:=by simp only[Instr.sliceBounds,Sem.run_bind,Sem.run_pure,Result.andThen_ok,Option.isSome_none,if_false,Bool.false_eq_true,run_sliceBound w k i n _ a c]
theorem wU{n cap:Nat}{b:Bool}:(Instr.sliceBounds b n cap none none none).run P w=.ok (0,n,cap) w:=by simp only[Instr.sliceBounds,Sem.run_bind,Sem.run_pure,Result.andThen_ok]
theorem Bl{k a:IntKind}{i j:Int}{n cap:Nat}{b:Bool}(c:0<=i)(e:i<=j)(d:j<=cap):(Instr.sliceBounds b n cap (some (.int k i)) (some (.int a j)) none).run P w=.ok (i.toNat,j.toNat,cap) w:=by have f:((j.toNat:Nat):Int)=j:=Int.toNat_of_nonneg (by omega);cases b<;>simp only[Instr.sliceBounds,Sem.run_bind,Sem.run_pure,Result.andThen_ok,Option.isSome_none,if_true,if_false,Bool.false_eq_true,run_sliceBound w a j cap _ (by omega) d,run_sliceBound w k i j.toNat _ c (by omega)]
theorem fD{α:Type}{m o:Option TV}{e d:Option Value}(a:yD P w g mu m e)(c:yD P w g mu o d){n:Nat}{xs:α}{f:Nat->Nat->α->Option R}{y:R}(h:iR m o n xs f=some y):∃l h,l<=h/\h<=n/\f l h xs=some y/\∀cap b,n<=cap->(Instr.sliceBounds b n cap e d none).run P w=.ok (l,h,cap) w:=by
 unfold iR at h;revert a c;split at h;·grind[yD,wU]
 ·rename_i k i;intro a c;cases d with|some _=>exact c.elim|none=>cases e with|none=>exact a.elim|some v=>cases (a:v=.int k i);grind[mX,Bj]
 ·rename_i k i;intro a c;cases e with|some _=>exact a.elim|none=>cases d with|none=>exact c.elim|some v=>cases (c:v=.int k i);grind[mX,Bi]
 ·rename_i k i q j;intro a c;cases e with|none=>exact a.elim|some v=>cases d with|none=>exact c.elim|some p=>cases (a:v=.int k i);cases (c:p=.int q j);grind[wq,Bl]
 grind
theorem oe(c:∀t,(env t).R P w g mu (a.tmps.getD t undef))(b:Option Operand):yD P w g mu (b.map (ae env)) (b.map a.eval):=by cases b with|none=>trivial|some x=>exact aw c x
theorem pE(s:bG P C env mu a w g idb){o:Oper}{t:Nat}{x:Operand}{i k:Option Operand}(ho:o.op=.slice t x i k none){K:TV->List (Nat×av)->Option R}{y:R}{j:TI}(B:C.ty t=some j)(r:j.k=.str){b:ByteArray}(u:ae env x=.c (.str b))(h:bq mu (.str b) (i.map (ae env)) (k.map (ae env)) K=some y):o.wp P a w (bt P w g mu a o.dst K y) Q:=by
 obtain⟨E,d,F,G,q,_,_,_,_,_,_,m,_⟩:=cH (s.ty t j B);have D:d=.string:=by rw[r]at m;cases d<;>simp[cP]at m⊢
 subst D;have e:=aw s.env x;rw[u]at e;have e:a.eval x=.string b:=e;obtain⟨l,p,H,I,A,z⟩:=fD (P:=P) (w:=w) (g:=g) (mu:=mu) (n:=b.size) (xs:=b) (f:=λl h s=>K (.c (.str (s.extract l h))) []) (oe s.env i) (oe s.env k) h;refine aJ s (v:=.string (b.extract l p)) (tv:=.c (.str (b.extract l p))) ?_ A rfl;simp[execOp,ho,e,Instr.sliceAt,run_underlying q,Instr.slice,z b.size false (Nat.le_refl _)]
theorem pF(s:bG P C env mu a w g idb){o:Oper}{t e:Nat}{O:TI}{x:Operand}{v A:Option Operand}(ho:o.op=.slice t x v A none){K:TV->List (Nat×av)->Option R}{y:R}(V:cN C t=some (e,O)){cv:CV}(Z:ae env x=.c cv)(U:∀b,cv≠.str b)(J:dP mu (C.es e).len cv=true)(h:bq mu cv (v.map (ae env)) (A.map (ae env)) K=some y):o.wp P a w (bt P w g mu a o.dst K y) Q:=by
 obtain⟨α,S,I,_⟩:=fe s.ty V;have T:=qZ (w:=w) (hty:=s.ty) S;have i:=aw s.env x;rw[Z]at i;have run:∀(ad:Option Addr) (n c l h:Nat),a.eval x=.slice ad n c->(Instr.sliceBounds true n c (v.map a.eval) (A.map a.eval) none).run P w=.ok (l,h,c) w->(execOp a.eval o).run P w=.ok (.value (.slice (if c=l then ad else ad.map (·.add (l*O.size))) (h-l) (c-l))) w:=by intro ad n c l h k d;simp[execOp,ho,k,Instr.sliceAt,run_underlying α,Instr.slice,d,T]
 cases cv<;>simp only[bq]at h<;>try (cases h;done)
 case str b=>exact absurd rfl (U b)
 case cg=>
  have i:a.eval x=.slice none 0 0:=i;obtain⟨l,u,D,E,z,r⟩:=fD (P:=P) (w:=w) (g:=g) (mu:=mu) (n:=0) (xs:=()) (f:=λ_ _ _=>K (.c .cg) []) (oe s.env v) (oe s.env A) h;have m:l=0:=by omega
  have j:u=0:=by omega
  subst m;subst j;refine aJ s (tv:=.c .cg) (run _ _ _ _ _ i (r 0 true (Nat.le_refl _))) z ?_;show Value.slice _ _ _=_;simp
 case ro es xs=>have m:=ra J;have i:(Ty.sl es).H P w g.o .sh .p xs (a.eval x):=i;obtain⟨ad,c,k,G,j⟩:=gD.1 i;obtain⟨l,u,D,E,z,r⟩:=fD (P:=P) (w:=w) (g:=g) (mu:=mu) (n:=xs.length) (xs:=xs) (f:=λl h xs=>K (.c (.ro es ((xs.drop l).take (h-l)))) []) (oe s.env v) (oe s.env A) h;refine aJ s (tv:=.c (.ro es ((xs.drop l).take (u-l)))) (run _ _ _ _ _ k (r c true G)) z ?_;exact (gD (q:=.p)).2 (pD (by rw[m,I]) rfl ⟨ad,c,rfl,G,j⟩ D E)
 case own id=>obtain ⟨_,G,_⟩:=i;cases d:mu id with|none=>simp[d]at h|some bl=>
 have N:=s.dr id bl d;cases bl<;>simp only[d]at h<;>try (cases h;done)
 case row es ms xs aF=>
  have m:es.len=(C.es e).len:=by simpa[dP,d]using Nat.eq_of_beq_eq_true (by simpa[dP,d]using J)
  obtain ⟨l,u,D,E,z,r⟩:=fD (P:=P) (w:=w) (g:=g) (mu:=mu) (n:=xs.length) (xs:=xs) (f:=λl h ys=>K (.c (.ro es ((ys.drop l).take (h-l)))) [(id,.fz es xs)]) (oe s.env v) (oe s.env A) h;obtain ⟨g',X,Y⟩:=eL.wT s.dr s.wf s.own d;obtain ⟨W,B,β⟩:=N;have L:=Y _ B;obtain ⟨ad,c,k,F,j⟩:=gD.1 L;have M:a.eval x=.slice ad xs.length c:=by rw[G]at B;cases B;exact k
  refine ja (run _ _ _ _ _ M (r c true F)) ⟨.c (.ro es ((xs.drop l).take (u-l))),[(id,.fz es xs)],_,g',rfl,z,X,?_⟩;exact (gD (q:=.p)).2 (pD (by rw[m,I]) rfl ⟨ad,c,rfl,F,j⟩ D E)
 case fz es xs=>
 have m:es.len=(C.es e).len:=by simpa[dP,d]using Nat.eq_of_beq_eq_true (by simpa[dP,d]using J)
 obtain ⟨l,u,D,E,z,r⟩:=fD (P:=P) (w:=w) (g:=g) (mu:=mu) (n:=xs.length) (xs:=xs) (f:=λl h ys=>K (.c (.ro es ((ys.drop l).take (h-l)))) []) (oe s.env v) (oe s.env A) h;obtain ⟨W,B,L⟩:=N;obtain ⟨ad,c,k,F,j⟩:=gD.1 L;have M:a.eval x=.slice ad xs.length c:=by rw[G]at B;cases B;exact k
 refine aJ s (tv:=.c (.ro es ((xs.drop l).take (u-l)))) (run _ _ _ _ _ M (r c true F)) z ?_;exact (gD (q:=.p)).2 (pD (by rw[m,I]) rfl ⟨ad,c,rfl,F,j⟩ D E)
theorem rb{o:Nat->Nat->ax}{t:Ty}{b:Nat}:∀(es:af){j off:Nat}{x:es.D}{l:List (af.cons t .nil).D},mY t es x=some l->es.Hs P w o [] .p (λ_=>.p) j x b off->l.length=es.len/\∀i y,aC l i=some y->(af.cons t .nil).Hs P w o [] .p (λ_=>.p) 0 y b (off+i)|.nil,j,off,x,l,h,a=>by grind [af.D,af.len,aC,af.Hs,mY]|.cons d ts,j,off,x,l,h,a=>by simp only [mY]at h;cases f:Ty.eq? d t with|none=>grind|some q=>obtain⟨q⟩:=q;subst q;simp only [f]at h;cases c:mY d ts x.2 with|none=>grind|some r=>simp only [c,Option.some.injEq]at h;subst h;obtain⟨⟨v,s,n,u⟩,g⟩:=ud.1 a;obtain⟨m,k⟩:=rb ts c g;refine⟨congrArg (·+1) m,λi y e=>?_⟩;cases i with|zero=>grind [Ty.D,af.D,af.Hs,aC,Ty.H,cy,cW,ud]|succ i=>have :=k i y e;grind
theorem pG(s:bG P C env mu a w g idb){o:Oper}{t:Nat}{f:TI}{x:Operand}(ho:o.op=.slice t x none none none){K:TV->List (Nat×av)->Option R}{y:R}(T:C.ty t=some f)(X:f.uR=[])(D:f.dS≠[]){cv:CV}(S:ae env x=.c cv)(h:bR mu f.size cv K=some y):o.wp P a w (bt P w g mu a o.dst K y) Q:=by
 obtain⟨ε,d,z,ρ,I,κ,ψ,W,τ,μ,h8,φ,Y,G⟩:=cH (s.ty t f T);have r:=aw s.env x;rw[S]at r;rcases G with⟨ω,rfl,δ,k,V,_⟩|⟨_,_,k,_⟩|⟨n,e,π,rfl,E,β,σ,k,_⟩;·simp_all
 ·grind
 · have H:n≠0:=λe=>D (by grind);unfold bR at h;split at h;· rename_i id off;cases j:Nat.beq off 0 with|false=>grind|true=>
    have j:=Nat.eq_of_beq_eq_true j;subst j;simp only[Nat.beq_refl,cond_true]at h;split at h;· rename_i u N M;cases A:Nat.beq u.len f.size with|false=>grind|true=>have α:=Nat.eq_of_beq_eq_true A;rw[A]at h;simp only[cond_true]at h;cases u with|nil=>cases h|cons t0 ts=>simp only at h;cases B:mY t0 (.cons t0 ts) N with|none=>grind|some l=>
     simp only[B]at h;obtain⟨_,b,base,O,J⟩:=r;obtain⟨b',U,m,L⟩:=s.dr id _ M;rw[O]at m;cases m;obtain⟨Z,γ⟩:=rb _ B L;have F:l.length=n:=by omega
     refine aJ s (v:=.slice (some ⟨b,base,none⟩) n n) (tv:=.c (.ro (.cons t0 .nil) l)) ?_ h ?_;· simp[execOp,ho,J,Instr.sliceAt,run_underlying I,Instr.sureAddr,wU,sizeOf,run_typeInfo w E,Ne.symm H,Addr.add_lit]
     · refine (gD (q:=.p)).2 ⟨_,n,by rw[F],by omega,.inr ⟨_,rfl,rfl,λi y θ=>?_⟩⟩;simp_all[af.Hs,Gh.o,af.len]
    grind
   grind
end
end Go.Tm
namespace Go.Tm
open Go
theorem nB:∀(vs:List CV)(cs:List CV)(off:Nat),(bO cs off vs).length=cs.length|[],_,_=>rfl|v::vs,cs,off=>by simp only[bO];rw[nB vs];simp
theorem ib:∀(vs:List CV)(cs:List CV)(off j:Nat),off+vs.length<=cs.length->(bO cs off vs)[j]?=if off<=j/\j<off+vs.length then vs[j-off]? else cs[j]?|[],cs,off,j,_=>by grind[bO]|v::vs,cs,off,j,h=>by simp only[List.length_cons]at h;simp only[bO,List.length_cons];rw[ib vs _ (off+1) j (by grind)];grind
section
variable{P:Program}{C:Ctx}{env:Nat->TV}{mu:Mu}{a:Act}{w w':World}{g g':Gh}{idb:Nat}{R:Type}{Q:Exit->Act->World->Prop}{f:Nat->List Nat->ax}{T:Nat->Prop}
theorem yE(hw:Wf w g.o){b0 off:Nat}{vs:List Value}{a:Nat->fM}{id0:Nat}(D:vs≠[]->T id0)(d:∀k,k<vs.length->g.o b0 (off+k)=.o [id0]){ms:List (Nat×av)}(q:∀id,mu id≠none->a id=g.c id)(B:∀id s,¬T id->f id s=.o (id::s))(r:∀id,¬T id->mu id≠none->∀b,(id,b)∉ms)(z:∀id es t xs aF,T id->mu id≠none->au mu ms id=some (.row es t xs aF)->∃v n m e,mu id=some (.row v n m e)/\e<aF):qL w g mu (w.setCells b0 off vs) ⟨λb k=>re f (g.o b k),a⟩ (au mu ms) T:=by
 have C:oc w g (w.setCells b0 off vs) ⟨λb k=>re f (g.o b k),a⟩ f (λb k=>b=b0/\off<=k/\k<off+vs.length):=jt hw d;have l:∀b k,(∀id s,g.o b k=.o (id::s)->¬T id)->¬(b=b0/\off<=k/\k<off+vs.length):=by rintro b k c⟨rfl,F,E⟩;have :=d (k-off) (by omega);grind
 refine⟨λb k u A c=>⟨C.iH b k u A (l b k c),?_⟩,q,λid h=>aM h,λid h y=>aD λb j=>r id h y b j,z⟩;show re f (g.o b k)=_;cases i:g.o b k with|x=>rfl|p=>rfl|o π=>cases π with|nil=>exact absurd i (hw.ne b k)|cons id s=>exact B id s (c id s i)
theorem ey{v:Value}(h:cm v):v.oneCell'=true:=by cases v<;>first|rfl|exact h.elim
theorem oH(s:bG P C env mu a w g idb){id:Nat}{cs vs:List CV}(m:mu id=some (.box cs)){b base:Nat}(D:g.c id=.box b base){off:Nat}{vals:List Value}(r:cc P w g mu vs vals)(H:off+vs.length<=cs.length):(storeCells ⟨b,base+off,none⟩ vals).run P w=.ok () (w.setCells b (base+off) vals)/\eL P w g mu (w.setCells b (base+off) vals) ⟨λb k=>re (λid s=>.o (id::s)) (g.o b k),g.c⟩ (au mu [(id,.box (bO cs off vs))]):=by
 have O:=r.length;obtain ⟨b',N,B,n⟩:=s.dr id _ m;rw [D]at B;cases B;have f:∀k,k<vals.length->g.o b (base+off+k)=.o [id]:=by intro k E;obtain ⟨v,_,ho,_⟩:=n (off+k) (cs[off+k]'(by omega)) (List.getElem?_eq_getElem (by omega));grind
 have Q:∀k,k<vals.length->∃v,w.cell? ⟨b,base+off+k,none⟩=some v:=by intro k E;obtain ⟨v,d,ho,_⟩:=n (off+k) (cs[off+k]'(by omega)) (List.getElem?_eq_getElem (by omega));grind
 have R:∀i,i≠id->au mu [(id,.box (bO cs off vs))] i=mu i:=λi h=>aD λb m=>h (by grind);have J:au mu [(id,.box (bO cs off vs))] id=some (.box (bO cs off vs)):=by simp [au,bW,Nat.beq_refl]
 have K:∀v∈vals,cm v:=by
  intro v d;obtain ⟨i,U,rfl⟩:=List.getElem_of_mem d;have L:i<vs.length:=by omega
  obtain ⟨u,x,z⟩:=aq.get i vs[i] r (List.getElem?_eq_getElem L);grind [cm,CV.R,CV.jr]
 refine ⟨?_,?_⟩;·have :=run_storeCells_cells (P:=P) b (base+off) vals 0 w (λj c=>by grind) (λj c=>by exact (s.wf.cell _ _ _ (f j c)).2 _) (λv d=>ey (K v d));omega
 · have A:qL w g mu (w.setCells b (base+off) vals) ⟨λb k=>re (λid s=>.o (id::s)) (g.o b k),g.c⟩ (au mu [(id,.box (bO cs off vs))]) (λi=>i=id):=yE (T:=λi=>i=id) (ms:=[(id,.box (bO cs off vs))]) (id0:=id) s.wf (λ_=>rfl) f (λ_ _=>rfl) (λ_ _ _=>rfl) (λi h _ b m=>h (by grind)) (λi es I xs aF y _ M=>by grind);refine kL (ms:=[(id,.box (bO cs off vs))]) (T:=λi=>i=id) (id0:=id) s.wf s.own (λ_=>rfl) f (λ_ _=>rfl) (λ_ _ _=>rfl) (λ_ _ h=>by cases h) (λi l p S y t=>?_) (λi h _ b m=>h (by grind)) (λi es I xs aF y _ M=>by grind) (λi bl y t=>?_);· grind
   · by_cases e:i=id
     · subst e;rw [J] at t;cases t;refine ⟨b,base,D,λj cv c=>?_⟩;rw [ib vs cs off j H] at c;by_cases z:off<=j/\j<off+vs.length
       · rw [if_pos z] at c;obtain ⟨u,x,F⟩:=aq.get _ cv r c;have q:j-off<vals.length:=by omega
         rw [List.getElem?_eq_getElem q] at x;cases x;refine ⟨_,?_,?_,CV.qM A s.wf cv F⟩;· have :=World.cell?_setCells_in b vals (base+off) w (λk E=>by grind) (j-off) q;grind
         · have :=f (j-off) q;rw [show base+off+(j-off)=base+j by omega] at this;simp_all [Gh.o,re,Gh.c]
       · rw [if_neg z] at c;obtain ⟨v,d,ho,G⟩:=n j cv c;refine ⟨v,?_,?_,CV.qM A s.wf cv G⟩;· grind [World.cell?_setCells_out]
         simp_all [Gh.o,re,Gh.c]
     grind
theorem pH(hw:Wf w g.o){es:af}{ms:List Md}{xs:List es.D}{vals:List Value}{t:TypeId}{v:Value}{cap:Nat}(c:xs.length<=cap)(b:cap<=9223372036854775807)(l:v=.slice (some ⟨w.heap.size,0,none⟩) xs.length cap)(q:vals.length=cap*es.len)(h:∀i x,aC xs i=some x->es.Vs P (w.alloc (.cells vals.toArray t)) (cr w g idb vals.length f v).o ms (λj=>.o [idb,i,j]) 0 x ((vals.drop (i*es.len)).take es.len)):(Ty.sl es).H P (w.alloc (.cells vals.toArray t)) (cr w g idb vals.length f v).o (.own ms) (.o [idb]) xs v:=by
 refine bI.2 ⟨_,cap,l,c,.inr ⟨_,rfl,⟨rfl,b⟩,λk n=>?_,λi x a=>?_⟩⟩;·simp_all [Gh.o,cr,re]
 · have p:i<xs.length:=by unfold aC at a;grind
   have d:(i+1)*es.len<=cap*es.len:=Nat.mul_le_mul_right _ (by omega);rw [Nat.add_mul]at d;refine eK es (h i x a) λk u m=>?_;have e:=aq.bD m;have n:i*es.len+k<vals.length:=(List.getElem?_eq_some_iff.1 e).1;simp_all [af.len,Gh.o,cr,re]
end
end Go.Tm
namespace Go.Tm
open Go
section
variable{P:Program}{C:Ctx}{env:Nat->TV}{mu mu':Mu}{a:Act}{w w':World}{g g':Gh}{o':Nat->Nat->ax}{idb:Nat}{R:Type}{Q:Exit->Act->World->Prop}
theorem rh{o:Nat->Nat->ax}:∀(ts:af){ms:List Md}{qf qf':Nat->ax}{j a:Nat}{x:ts.D}{vs:List Value},(∀n,n<ts.len->qf (j+n)=qf' (a+n))->ts.Vs P w o ms qf j x vs->ts.Vs P w o ms qf' a x vs|.nil,_,_,_,_,_,_,_,_,h=>h|.cons t ts,ms,qf,qf',j,a,x,vs,b,h=>by obtain⟨v,r,e,f,d⟩:=h;have c:=b 0 (by simp[af.len]);simp only[Nat.add_zero]at c;refine⟨v,r,e,by grind,rh ts (λn g=>?_) d⟩;have :=b (n+1) (by grind[af.len]);grind
theorem lZ(j:cR P w g mu)(hw:Wf w g.o)(b:Nat->ax){es:af}{ms:List Md}:∀(a:List (Nat×TV))(i:Nat){us:List aI}{vals:List Value}(_:aq (λp v=>TV.R P w g mu p.2 v) a vals){K:List es.D->List aI->Option R}{y:R}(_:cE mu es ms a i us K=some y),∃xs c,K xs (c++us)=some y/\xs.length=a.length/\(∀k p,a[k]?=some p->p.1=i+k)/\(∀v∈vals,v.cells.size=es.len)/\∀w' o',aj w g.o w' o'->(∀u∈c,br b w g.o w' o' u)->∀k x v,xs[k]?=some x->vals[k]?=some v->es.Vs P w' o' ms b (64*(i+k)) x v.cells.toList|[],i,us,[],_,K,y,h=>⟨[],[],h,rfl,by simp,by simp,by simp⟩|[],_,_,_::_,h,_,_,_=>h.elim|_::_,_,_,[],h,_,_,_=>h.elim|p::a,i,us,v::vals,e,K,y,h=>by simp only[cE]at h;cases d:Nat.beq p.1 i with|false=>grind|true=>simp only[d,cond_true]at h;have d:=Nat.eq_of_beq_eq_true d;cases f:cellsOf p.2 with|none=>grind|some s=>simp only[f]at h;obtain⟨x,m,c,t,o,h,n,l,q,D⟩:=fx j hw b (eQ (P:=P) (w:=w) (g:=g) (mu:=mu)) es (dZ f e.1) h;cases m with|cons _ _=>cases h|nil=>cases o with|cons _ _=>exact l.elim|nil=>simp only[List.append_nil]at n;obtain⟨xs,r,h,B,z,A,C⟩:=lZ j hw b a (i+1) e.2 h;grind
theorem pI{Wr:Nat->Nat->Prop}{us:List aI}{destL:Nat->List Nat}(m:cR P w g mu)(hw:Wf w g.o)(r:aP us=true)(d:oc w g w' g' (cd us destL) Wr)(y:∀b k,Wr b k->∀id s,aI.pm id∈us->g.o b k≠.o (id::s))(i:∀id,mu id≠none->g'.c id=g.c id){id:Nat}{b:av}(h:(id,b)∈iM mu us\/(aI.pm id∈us/\(∀b',(id,b')∉iM mu us)/\mu id=some b)):b.R P w' g' mu' id:=by
 rcases h with h|⟨c,z,e⟩
 · rcases fR h with⟨rfl,_⟩|⟨c,⟨es,ms,xs,aF,a,rfl⟩|⟨rfl,_⟩⟩;· trivial
   · obtain⟨v,f,u⟩:=m _ _ a;refine⟨v,(i id (by grind)).trans f,?_⟩;have q:Rl w g.o w' g'.o (.o [id]) .p:=d.rl (l:=[]) (by simp) (λs=>by simp [kM r c,wR]) (λb k e s=>by grind);exact mE _ (qK _ _ _ _ _ (ck d.dK hw (.sl es) (.own ms) _ .p xs v q u))
   · trivial
 · have j:=m _ _ e;cases b with|row es ms xs aF=>obtain⟨b',t⟩:=cG c _ e (.inl ⟨_,_,_,_,rfl⟩);grind|box cs=>obtain ⟨b',t⟩:=cG c _ e (.inr ⟨_,rfl⟩);grind|eE es x=>obtain ⟨b,base,n,a⟩:=j;exact ⟨b,base,(i id (by grind)).trans n,fu d.dK hw es [] .p .p (λ_=>.p) (λ_=>.p) 0 x b base rfl (λ_=>rfl) a⟩|fz es xs=>obtain ⟨v,f,a⟩:=j;exact ⟨v,(i id (by grind)).trans f,ck d.dK hw (.sl es) .sh .p .p xs v rfl a⟩|aB=>trivial
theorem uw(E:cR P w g mu)(hw:Wf w g.o)(G:∀b k id s,g.o b k=.o (id::s)->mu id≠none)(F:mu idb=none){us:List aI}(q:aP us=true){es:af}{ms:List Md}{xs:List es.D}{vals:List Value}{t:TypeId}{destL:Nat->List Nat}(C:∀to,∃l,destL to=idb::l){v:Value}(n:(∀u∈us,br (λto=>.o (destL to)) w g.o (w.alloc (.cells vals.toArray t)) (cr w g idb vals.length (cd us destL) v).o u)->aj w g.o (w.alloc (.cells vals.toArray t)) (cr w g idb vals.length (cd us destL) v).o->(Ty.sl es).H P (w.alloc (.cells vals.toArray t)) (cr w g idb vals.length (cd us destL) v).o (.own ms) (.o [idb]) xs v):eL P w g mu (w.alloc (.cells vals.toArray t)) (cr w g idb vals.length (cd us destL) v) (au mu (iM mu us++[(idb,.row es ms xs 0)]))/\(CV.own idb).R P (w.alloc (.cells vals.toArray t)) (cr w g idb vals.length (cd us destL) v) (au mu (iM mu us++[(idb,.row es ms xs 0)])) v:=by
 have j:oc w g (w.alloc (.cells vals.toArray t)) (cr w g idb vals.length (cd us destL) v) (cd us destL) (λ_ _=>False):=lG;have J:∀u∈us,br (λto=>.o (destL to)) w g.o (w.alloc (.cells vals.toArray t)) (cr w g idb vals.length (cd us destL) v).o u:=by intro u z;cases u with|mv id to=>exact j.rl (l:=[]) (by simp) (λs=>by simp [uv q z,wR]) (λ_ _ h=>h.elim)|pm id=>exact j.rl (l:=[]) (by simp) (λs=>by simp [kM q z,wR]) (λ_ _ h=>h.elim)
 have n:=n J j.dK;have D:∀id,mu id≠none->(cr w g idb vals.length (cd us destL) v).c id=g.c id:=by intro id h;show (if id=idb then _ else _)=_;grind
 have A:(cr w g idb vals.length (cd us destL) v).c idb=.row v:=by simp_all [Gh.c,cr,cd]
 have B:au mu (iM mu us++[(idb,.row es ms xs 0)]) idb≠none:=dv (b:=.row es ms xs 0) (by simp);refine⟨oG (T:=λid=>∃u∈us,aH u=id) hw G F (λid s y=>?_) (λid s=>?_) (λid s p l d a=>?_) B (λid y d b x=>?_) (λid N M L aF y d a=>?_) (λid b d a=>?_),⟨B,A,?_⟩⟩
 · have :aS id us=none:=by cases K:aS id us with|none=>rfl|some u=>obtain⟨d,a⟩:=dL K;grind
   simp [cd,this]
 · unfold cd;split;· rename_i to _;obtain⟨l,e⟩:=C to;grind
   · simp
   · simp
 · unfold cd at a;split at a;· rename_i to _;obtain⟨Q,e⟩:=C to;grind
   · cases a
   · cases a;exact aM d
 · rcases List.mem_append.1 x with x|x
   · rcases fR x with⟨_,to,h⟩|⟨h,_⟩;· grind [aH]
     grind [aH]
   grind
 · rcases aW a with a|⟨r,a⟩
   · rcases List.mem_append.1 a with a|a;· rcases fR a with⟨h,_⟩|⟨_,⟨_,_,_,_,_,h⟩|⟨h,_⟩⟩<;>cases h
     grind
   · obtain⟨u,m,f⟩:=y;cases u with|mv i to=>cases f;exact r _ (List.mem_append_left _ (dX m))|pm i=>cases f;obtain⟨b',S⟩:=cG m _ a (.inl ⟨_,_,_,_,rfl⟩);grind [aH,iM]
 · rcases aW a with a|⟨r,a⟩
   · rcases List.mem_append.1 a with a|a;· exact pI E hw q j (λ_ _ h=>h.elim) D (.inl a)
     · simp at a;obtain ⟨rfl,rfl⟩:=a;exact ⟨v,A,n⟩
   · rcases d with ⟨u,m,f⟩|d;· cases u with|mv i to=>cases f;exact absurd (List.mem_append_left _ (dX m)) (r _)|pm i=>cases f;exact pI E hw q j (λ_ _ h=>h.elim) D (.inr ⟨m,λb' I=>r b' (List.mem_append_left _ I),a⟩)
     grind
 · obtain ⟨ad,c,O,_⟩:=bI.1 n;grind
theorem wV(c:∀t,(env t).R P w g mu (a.tmps.getD t undef)):∀(b:List (Nat×Operand)),aq (λp v=>TV.R P w g mu p.2 v) (b.map λp=>(p.1,ae env p.2)) (b.map λp=>a.eval p.2)|[]=>trivial|p::b=>⟨aw c p.2,wV c b⟩
theorem oI{α:Type}(fn:Operand->α):∀(a:List (Nat×Operand))(i:Nat),(∀k p,a[k]?=some p->p.1=i+k)->a.map (λp=>(p.1,fn p.2))=((a.map λp=>fn p.2).zipIdx i).map λx=>(x.2,x.1)|[],_,_=>rfl|p::a,i,h=>by have b:=h 0 p rfl;simp only[List.map_cons,List.zipIdx_cons,Nat.add_zero]at b⊢;rw[oI fn a (i+1) λk q c=>by have :=h (k+1) q (by grind);omega,b]
theorem oJ{n:Nat}:∀(vs:List Value),(∀v∈vs,v.cells.size=n)->∀k v,vs[k]?=some v->((vs.flatMap λv=>v.cells.toList).drop (k*n)).take n=v.cells.toList
 |[],_,k,v,h=>by grind|u::vs,a,0,v,h=>by grind|u::vs,a,k+1,v,h=>by
  have c:u.cells.toList.length=n:=by grind
  rw[List.flatMap_cons,Nat.add_mul,Nat.one_mul,List.drop_append,List.drop_eq_nil_of_le (by omega),List.nil_append,show k*n+n-u.cells.toList.length=k*n by omega];exact oJ vs (λx b=>a x (by grind)) k v (by grind)
theorem ri{n:Nat}:∀(vs:List Value),(∀v∈vs,v.cells.size=n)->(vs.flatMap λv=>v.cells.toList).length=vs.length*n
 |[],_=>by simp|u::vs,b=>by
  have a:u.cells.toList.length=n:=by grind
  rw[List.flatMap_cons,List.length_append,a,ri vs λx c=>b x (by grind),List.length_cons,Nat.add_mul];omega
theorem og(s:bG P C env mu a w g idb){o:Oper}{t e len:Nat}{f:TI}{b:Array (Nat×Operand)}(ho:o.op=.buildSlice t len b){K:TV->List (Nat×av)->Option R}{y:R}(S:cN C t=some (e,f)){ms:List Md}(h:(bif Nat.ble (len*f.size) 16777216&&Nat.beq b.size len&&Nat.blt 0 f.size&&Nat.ble f.size 62 then cE mu (C.es e) ms (b.toList.map λp=>(p.1,ae env p.2)) 0 [] λxs us=>bif aP us then K (.c (.own idb)) (iM mu us++[(idb,.row (C.es e) ms xs 0)]) else none else none)=some y):o.wp P a w (bt P w g mu a o.dst K y) Q:=by obtain⟨G,L,Y,_⟩:=fe s.ty S;obtain⟨T,d,z,E,Z,V,θ,X,δ,D,_⟩:=cH (s.ty e f L);cases j:(Nat.ble (len*f.size) 16777216&&Nat.beq b.size len&&Nat.blt 0 f.size&&Nat.ble f.size 62) with|false=>grind|true=>
 rw[j,cond_true] at h;simp only[Bool.and_eq_true] at j;have c1:=Nat.le_of_ble_eq_true j.1.1.1;have β:=Nat.eq_of_beq_eq_true j.1.1.2;have m:0<f.size:=by simp_all
 have ε:=Nat.le_of_ble_eq_true j.2;let destL:Nat->List Nat:=λto=>[idb,to/64,to%64];obtain⟨xs,us,h,α,H,r,N⟩:=lZ s.dr s.wf (λto=>.o (destL to)) _ 0 (wV s.env b.toList) h;simp only[List.append_nil] at h;cases B:aP us with|false=>grind|true=>
 simp only[B,cond_true] at h;let vs:List Value:=b.toList.map λp=>a.eval p.2;let vals:List Value:=vs.flatMap λv=>v.cells.toList;have J:vs.length=len:=by grind
 have l:xs.length=len:=by grind
 have U:vals.length=xs.length*(C.es e).len:=by rw[ri vs r,J,l]
 have I:(Instr.buildSlice t len (b.map λp=>(p.1,a.eval p.2))).run P w=.ok (.slice (some ⟨w.heap.size,0,none⟩) len len) (w.alloc (.cells vals.toArray e)):=by
  by_cases u:len=0;·have hp:b=#[]:=Array.eq_empty_of_size_eq_zero (by omega);subst u;subst hp;have M:vals.toArray=#[]:=rfl;rw[M];simp[Instr.buildSlice,run_underlying G,sizeOf,run_typeInfo w E,Instr.fill,newRow,Array.range_zero']
  ·refine run_buildSlice w t e len _ _ T z G E V (by grind) (by rw[<-D];have :=Nat.mul_pos (Nat.pos_of_ne_zero u) m;omega) ?_;rw[Array.toList_map,oI a.eval b.toList 0 (λk p κ=>by have :=H k (p.1,ae env p.2) (by grind);omega),<-D];exact Great.fill_whole m vs _ (λv q=>by grind) (by grind)
 have A:=uw (P:=P) (w:=w) (g:=g) (mu:=mu) (idb:=idb) s.dr s.wf s.own (s.bB idb (Nat.le_refl _) (by omega)) B (es:=C.es e) (ms:=ms) (xs:=xs) (vals:=vals) (t:=e) (destL:=destL) (λto=>⟨_,rfl⟩) (v:=.slice (some ⟨w.heap.size,0,none⟩) len len) (λW hp=>pH s.wf (Nat.le_refl _) (by rw[l];have :=Nat.le_mul_of_pos_right len m;omega) (by rw[l]) U λi x F=>by
 have O:i<vs.length:=by have :=(List.getElem?_eq_some_iff.1 F).1;omega
 have q:=List.getElem?_eq_getElem O;have :=N _ _ hp W i x vs[i] F q;rw[oJ vs r i _ q];refine rh (C.es e) (λn γ=>?_) this;grind);refine ja (v:=.slice (some ⟨w.heap.size,0,none⟩) len len) ?_ ⟨.c (.own idb),_,_,_,rfl,h,A.1,A.2⟩;simp only[execOp,ho,Sem.run_bind];rw[I];rfl
end
end Go.Tm
namespace Go.Tm
open Go
theorem aq.zv{α β:Type}{R:α->β->Prop}:∀{x:List α}{y:List β},x.length=y.length->(∀(k:Nat)(a:α)(b:β),x[k]?=some a->y[k]?=some b->R a b)->aq R x y|[],[],_,_=>trivial|a::x,b::y,c,h=>⟨h 0 a b rfl rfl,aq.zv (by grind) λk a b d e=>h (k+1) a b (by grind) (by grind)⟩|[],_::_,c,_=>by grind|_::_,[],c,_=>by grind
section
variable{P:Program}{C:Ctx}{env:Nat->TV}{mu mu':Mu}{a:Act}{w w':World}{g g':Gh}{o':Nat->Nat->ax}{idb:Nat}{R:Type}{Q:Exit->Act->World->Prop}
theorem jX(j:List (Nat×Nat))(t:Nat->Option (Nat×Nat))(y:∀i p,j[i]?=some p->t i=some p):∀(m:List (Nat×TV))(vs:List (Nat×Value))(cs a:List CV)(cells:Array Value),aq (λp v=>p.1=v.1/\TV.R P w g mu p.2 v.2) m vs->jo j m cs=some a->cc P w g mu cs cells.toList->∃r,Instr.fill t cells vs=some r/\cc P w g mu a r.toList|[],[],cs,a,cells,_,h,o=>by simp only[jo,Option.some.injEq]at h;subst h;exact⟨cells,rfl,o⟩|[],_::_,_,_,_,h,_,_=>h.elim|_::_,[],_,_,_,h,_,_=>h.elim|(i,tv)::m,(J,v)::vs,cs,a,cells,hp,h,o=>by obtain⟨⟨e,F⟩,hp⟩:=hp;have e:i=J:=e;subst e;simp only[jo]at h;cases A:j[i]? with|none=>grind|some p=>obtain⟨off,n⟩:=p;cases z:cellsOf tv with|none=>grind|some q=>simp only[A,z]at h;cases f:(Nat.beq q.length n&&Nat.ble (off+n) cs.length) with|false=>grind|true=>
 simp only[f,cond_true]at h;simp only[Bool.and_eq_true]at f;have c1:=Nat.eq_of_beq_eq_true f.1;have K:=Nat.le_of_ble_eq_true f.2;have hw:=dZ z F;have D:=hw.length;have E:=o.length;simp only[Array.length_toList]at D E;obtain⟨L,I⟩:=Great.foldl_set off v.cells.toList 0 cells;obtain⟨r,s,C⟩:=jX j t y m vs _ a ((v.cells.toList.zipIdx 0).foldl (λcs (x:Value×Nat)=>cs.setIfInBounds (off+x.2) x.1) cells) hp h (aq.zv (by grind[bO,nB]) λk c u d b=>by
 rw[ib q cs off k (by omega)]at d;have b:((v.cells.toList.zipIdx 0).foldl (λcs (x:Value×Nat)=>cs.setIfInBounds (off+x.2) x.1) cells)[k]?=some u:=by grind
 rw[I k]at b;simp only[Nat.add_zero,Array.length_toList]at b;by_cases l:off<=k/\k<off+q.length;·rw[if_pos l]at d;rw[if_pos ⟨l.1,by omega,by omega⟩]at b;obtain ⟨G,B,s⟩:=aq.get _ c hw d;grind
 ·rw[if_neg l]at d;rw[if_neg (λH=>l ⟨H.1,by omega⟩)]at b;obtain ⟨G,B,s⟩:=aq.get _ c o d;grind);refine ⟨r,?_,C⟩;rw[<-s];conv=>lhs;unfold Instr.fill
 simp only[y _ _ A];rw[if_neg (by grind)];rw[<-Array.foldl_toList,Array.toList_zipIdx]
theorem oK:∀(a:List Field),(∀f∈a,(P.info? f.type).isSome=true/\(P.underlying f.type).isSome=true)->a.mapM (λf=>(P.info? f.type).map λi=>(f.offset,i.size))=some (a.map λf=>(f.offset,((P.info? f.type).map (·.size)).getD 0))|[],_=>rfl|f::a,h=>by obtain⟨i,b⟩:=Option.isSome_iff_exists.1 (h f (by simp)).1;simp[List.mapM_cons,b,oK a λf c=>h f (by grind)]
theorem pJ(c:∀t,(env t).R P w g mu (a.tmps.getD t undef)):∀(b:List (Nat×Operand)),aq (λp v=>p.1=v.1/\TV.R P w g mu p.2 v.2) (b.map λp=>(p.1,ae env p.2)) (b.map λp=>(p.1,a.eval p.2))|[]=>trivial|p::b=>⟨⟨rfl,aw c p.2⟩,pJ c b⟩
theorem wW(s:bG P C env mu a w g idb){o:Oper}{t:Nat}{c:Array (Nat×Operand)}(ho:o.op=.build t c){K:TV->List (Nat×av)->Option R}{y:R}{b:TI}(E:C.ty t=some b)(F:b.k=.struct){cs:List CV}(m:jo b.dS (c.toList.map λp=>(p.1,ae env p.2)) b.zero=some cs)(h:K (.agg cs) []=some y):o.wp P a w (bt P w g mu a o.dst K y) Q:=by
 obtain⟨L,d,z,T,M,O,q,u,V,S,N,D,k,A⟩:=cH (s.ty t b E);rcases A with⟨W,rfl,I,x,_⟩|⟨J,_,_,_,u⟩|⟨n,e,l,rfl,G,H,U,x,_⟩
 · obtain⟨r,B,f⟩:=jX b.dS (b.dS.toArray[·]?) (λi p h=>by grind) _ _ _ cs z.cells (pJ s.env c.toList) m (by rw[k];exact dY q);have j:P.built t (c.map λp=>(p.1,a.eval p.2)).toList=some r:=by unfold Program.built;simp_all[oK,TI.dS]
   refine aJ s (v:=.agg r) (tv:=.agg cs) ?_ h ⟨r,rfl,f⟩;have :=run_build (P:=P) w t _ r j;simp only[execOp,ho,Sem.run_bind];simp_all
 · rw[F]at D;grind[lR,bt,cP,jW]
 · obtain ⟨r,B,f⟩:=jX b.dS (λi=>some (i*l.size,l.size)) (λi p h=>by grind) _ _ _ cs z.cells (pJ s.env c.toList) m (by rw[k];exact dY q);have j:P.built t (c.map λp=>(p.1,a.eval p.2)).toList=some r:=by unfold Program.built;simp_all
   refine aJ s (v:=.agg r) (tv:=.agg cs) ?_ h ⟨r,rfl,f⟩;have :=run_build (P:=P) w t _ r j;simp only[execOp,ho,Sem.run_bind];simp_all
theorem pK(s:bG P C env mu a w g idb){o:Oper}{t:Nat}{x v:Operand}(ho:o.op=.store t x v){K:TV->List (Nat×av)->Option R}{y:R}{f:TI}(D:C.ty t=some f){id off:Nat}(B:ae env x=.c (.ptr id off)){vs cs:List CV}(p:cellsOf (ae env v)=some vs)(F:vs.length=f.size)(u:mu id=some (.box cs))(m:off+vs.length<=cs.length)(h:K .kl [(id,.box (bO cs off vs))]=some y):o.wp P a w (bt P w g mu a o.dst K y) Q:=by
 obtain⟨n,d,z,q,G,H,L,E,J,I,_⟩:=cH (s.ty t f D);have e:=aw s.env x;rw [B]at e;obtain⟨_,b,base,A,e⟩:=e;have i:=dZ p (aw s.env v);obtain⟨k,r⟩:=oH s u A i m;have l:(a.eval v).cells.size=n.size:=by have :=i.length;grind
 have j:(execOp a.eval o).run P w=.ok .skip (w.setCells b (base+off) (a.eval v).cells.toList):=by simp only [execOp,ho,Instr.storeAt,e,Instr.sureAddr,storeVar,Sem.run_bind,Sem.run_pure,Result.andThen_ok,sizeOf,run_typeInfo w q,l,ne_eq,not_true_eq_false,if_false,k]
 unfold Oper.wp;rw [j];exact⟨.kl,_,undef,_,rfl,h,r,rfl⟩
end
end Go.Tm
namespace Go.Tm
open Go
section
variable{P:Program}{w:World}
theorem jI{t d ty e:TypeId}{i:TypeInfo}(q:P.underlying t=some (.slice e)){a:TypeDesc}(j:P.underlying d=some a)(k:(∃f,a=.slice f)\/a=.string)(r:P.info? e=some i){ad:Addr}{n c m:Nat}{x:Value}{b:List Value}(o:(Builtin.lenOf x).run P w=.ok m w)(l:(Builtin.firstCells i.size m x).run P w=.ok b.toArray w)(g:n+m<=c)(p:ad.spot=none){w':World}(h:(storeCells ⟨ad.block,ad.off+n*i.size,none⟩ b).run P w=.ok () w'):(Builtin.append_ #[t,d] ty #[.slice (some ad) n c,x]).run P w=.ok (.slice (some ad) (n+m) c) w':=by rcases k with ⟨f,rfl⟩|rfl<;>simp[Builtin.append_,run_underlying q,run_underlying j,sizeOf,typeInfo,r,o,g,l,ew p,h]
theorem nC{t d ty e:TypeId}{i:TypeInfo}{z:Value}(s:P.underlying t=some (.slice e)){a:TypeDesc}(k:P.underlying d=some a)(l:(∃f,a=.slice f)\/a=.string)(u:P.info? e=some i)(p:i.zero=some z){g:Option Addr}{n c m:Nat}{x:Value}{olds b:List Value}(ho:(Builtin.firstCells i.size n (.slice g n c)).run P w.drew=.ok olds.toArray w.drew)(q:(Builtin.lenOf x).run P w=.ok m w)(o:(Builtin.firstCells i.size m x).run P w.drew=.ok b.toArray w.drew)(v:c<n+m)(A:((n+m:Nat):Int)<=9223372036854775807)(y:Builtin.nextslicecap (n+m) c*i.bytes<=281474976710656):(Builtin.append_ #[t,d] ty #[.slice g n c,x]).run P w=.ok (.slice (some ⟨w.heap.size,0,none⟩) (n+m) (grownCap w (n+m) c e)) (w.drew.alloc (.cells (olds.toArray++(b.toArray++Builtin.zeroCells z.cells (grownCap w (n+m) c e-(n+m)))) e)):=by
 have r:¬n+m<=c:=by omega
 have j:¬(9223372036854775807<((n:Int)+(m:Int))):=by omega
 have h:¬(281474976710656<Builtin.nextslicecap (n+m) c*i.bytes):=by omega
 rcases l with ⟨f,rfl⟩|rfl<;>simp[Builtin.append_,run_underlying s,run_underlying k,sizeOf,typeInfo,zeroValue,u,p,q,r,j,h,Question.forced,o,ho,newRow,grownCap]
end
end Go.Tm
namespace Go.Tm
open Go
section
variable{P:Program}{C:Ctx}{env:Nat->TV}{mu mu':Mu}{a:Act}{w w':World}{g g':Gh}{o o':Nat->Nat->ax}{idb:Nat}{R:Type}{Q:Exit->Act->World->Prop}
theorem ez{es:af}{ms:List Md}{d:ax}{qf:Nat->Nat->ax}{b:Nat}:∀(xs:List es.D)(off a:Nat),(∀i x,aC xs i=some x->es.Hs P w o ms d (qf (a+i)) 0 x b (off+i*es.len))->∃vals:List Value,vals.length=xs.length*es.len/\(∀k v,vals[k]?=some v->w.cell? ⟨b,off+k,none⟩=some v/\o b (off+k)=d)/\(∀v∈vals,cm v)/\∀i x,aC xs i=some x->es.Vs P w o ms (qf (a+i)) 0 x ((vals.drop (i*es.len)).take es.len)
 |[],off,a,_=>⟨[],by simp,by simp,by simp,by simp[aC]⟩|x::xs,off,a,h=>by
  obtain⟨vs,e,g⟩:=eJ es (by simpa using h 0 x rfl);obtain⟨vals,m,n,p,f⟩:=ez xs (off+es.len) (a+1) (λi y c=>by have :=h (i+1) y (by simpa[aC]using c);rwa[show a+(i+1)=a+1+i by omega,Nat.add_mul,Nat.one_mul,show off+(i*es.len+es.len)=off+es.len+i*es.len by omega]at this);have j:=iV es e;refine⟨vs++vals,by grind,λk v q=>?_,λv l=>?_,λi y c=>?_⟩;·grind
  ·grind[cm,ng]
  ·cases i with|zero=>grind[af.D,af.Vs,af.len,aC]|succ i=>have :=f i y (by simpa[aC]using c);rw[show a+1+i=a+(i+1) by omega]at this;rw[Nat.add_mul,Nat.one_mul,List.drop_append,List.drop_eq_nil_of_le (by omega),List.nil_append,show i*es.len+es.len-vs.length=i*es.len by omega];omega
structure Src(P:Program)(w:World)(g:Gh)(mu:Mu)(es:af)(ms:List Md)(dd:List (Nat×av))(x:CV)(vx:Value)(ys:List es.D)(news:List Value):Prop where
 len:(Builtin.lenOf vx).run P w=.ok ys.length w
 cells:∀w2,(∀b k v,w.cell? ⟨b,k,none⟩=some v->w2.cell? ⟨b,k,none⟩=some v)->(Builtin.firstCells es.len ys.length vx).run P w2=.ok news.toArray w2
 size:news.length=ys.length*es.len
 jr:∀v∈news,cm v
 CR:(cJ ms=true/\dd=[]/\∀i y,aC ys i=some y->es.Vs P w g.o [] (λ_=>.p) 0 y ((news.drop (i*es.len)).take es.len))\/(∃id2 aF,x=.own id2/\mu id2=some (.row es ms ys aF)/\dd=[(id2,.aB)]/\∀i y,aC ys i=some y->es.Vs P w g.o ms (λj=>.o [id2,i,j]) 0 y ((news.drop (i*es.len)).take es.len))
theorem fU{es:af}{n c:Nat}{ad:Addr}(f:ad.spot=none){a:List Value}(d:a.length=n*es.len){b:World}(h:∀k v,a[k]?=some v->b.cell? ⟨ad.block,ad.off+k,none⟩=some v):(Builtin.firstCells es.len n (.slice (some ad) n c)).run P b=.ok a.toArray b:=run_firstCells_some b es.len n ad n c a d λj v e=>by grind[ew]
theorem pL{es:af}{ms:List Md}{x:CV}{vx:Value}{ys:List es.D}(a:cJ ms=true)(h:AY P w g.o es ys vx):∃e,Src P w g mu es ms [] x vx ys e:=by
 obtain⟨ad,c,rfl,_,h⟩:=h;rcases h with rfl|⟨p,rfl,m,h⟩;·refine⟨[],⟨by simp [Builtin.lenOf],λd _=>?_,by simp,by simp,.inl ⟨a,rfl,by simp [aC]⟩⟩⟩;cases ad with|none=>simp [Builtin.firstCells]|some p=>have :=run_firstCells_some (P:=P) d es.len 0 p 0 c [] (by simp) (by simp);omega
 ·obtain ⟨vals,b,i,j,l⟩:=ez (qf:=λ_ _=>.p) ys p.off 0 h;exact ⟨vals,⟨by simp [Builtin.lenOf],λd f=>fU m b λk v n=>f _ _ _ (i k v n).1,b,j,.inl ⟨a,rfl,l⟩⟩⟩
theorem wX(Y:cR P w g mu){es:af}{ms:List Md}{x:CV}{vx:Value}(C:x.R P w g mu vx){U:List (Nat×av)}(a:iC mu ms x=some U){K:List es.D->Option R}{y:R}(h:cQ mu es x K=some y):∃ys l,K ys=some y/\Src P w g mu es ms U x vx ys l:=by
 cases x<;>simp only[iC]at a<;>try grind
 case cg=>cases (C:vx=.slice none 0 0);cases d:cJ ms with|false=>grind|true=>simp only[d,cond_true,Option.some.injEq]at a;subst a;obtain⟨l,n⟩:=pL (P:=P) (w:=w) (g:=g) (mu:=mu) (es:=es) (x:=.cg) (vx:=.slice none 0 0) (ys:=[]) d ⟨none,0,rfl,Nat.le_refl _,.inl rfl⟩;exact ⟨[],l,h,n⟩
 case str b=>cases (C:vx=.string b);cases d:cJ ms with|false=>grind|true=>simp only[d,cond_true,Option.some.injEq]at a;subst a;simp only[cQ]at h;cases s:af.eq? aY es with|none=>grind|some p=>
  obtain ⟨p⟩:=p;subst p;simp only[s]at h;have M:(eo b).length=b.size:=by unfold eo;simp_all
  refine ⟨eo b,b.data.toList.map (λu=>.int .u8 u.toNat),h,⟨by rw[M];simp[Builtin.lenOf],λD _=>?_,by grind[af.D,aY,eo,af.len],λv m=>?_,.inl ⟨d,rfl,λi u X=>?_⟩⟩⟩
  · have e:b.extract 0 b.size=b:=by simp
    rw[M];simp only[Builtin.firstCells,e,Sem.run_pure];congr 1;grind
  · grind[cm]
  · have N:b.data.toList[i]?.map (λu=>zk u.toNat)=some u:=by unfold aC eo at X;grind
    cases t:b.data.toList[i]? with|none=>grind|some v=>simp only[t,Option.map_some,Option.some.injEq]at N;subst N;refine ⟨.int .u8 v.toNat,[],?_,rfl,rfl⟩;simp only[aY,af.len];apply List.ext_getElem?;intro k;rw[List.getElem?_take,List.getElem?_drop,List.getElem?_map];grind
 case ro f xs=>cases d:cJ ms with|false=>grind|true=>simp only[d,cond_true,Option.some.injEq]at a;subst a;simp only[cQ,aE]at h;cases s:af.eq? f es with|none=>grind|some p=>obtain ⟨p⟩:=p;subst p;simp only[s]at h;obtain ⟨l,n⟩:=pL (P:=P) (w:=w) (g:=g) (mu:=mu) (es:=f) (x:=.ro f xs) (vx:=vx) (ys:=xs) d ((gD (q:=.p)).1 C);exact ⟨xs,l,h,n⟩
 case own id=>simp only[cQ,aE]at h;obtain ⟨_,α,_⟩:=C;cases t:mu id with|none=>grind|some bl=>
 have O:=Y id bl t;cases bl<;>simp only[t]at a h<;>try grind
 case row f S xs aF=>cases s:af.eq? f es with|none=>grind|some p=>
  obtain ⟨p⟩:=p;subst p;simp only[s]at h;obtain ⟨z,W,B⟩:=O;have :z=vx:=by grind
  subst this;cases E:cJ S with
 |true=>simp only[E,cond_true]at a;cases d:cJ ms with|false=>grind|true=>
 simp only[d,cond_true,Option.some.injEq]at a;subst a;obtain ⟨ad,c,m,L,r⟩:=bI.1 B;refine ⟨xs,?_⟩;rcases r with ⟨rfl,_⟩|⟨p,rfl,I,_,r⟩;· obtain ⟨l,n⟩:=pL (P:=P) (w:=w) (g:=g) (mu:=mu) (es:=f) (x:=.own id) (vx:=z) (ys:=[]) d ⟨ad,c,m,L,.inl rfl⟩;exact ⟨l,h,n⟩
 · obtain ⟨vals,A,G,H,V⟩:=ez (qf:=λi j=>.o ([id]++[i,j])) xs p.off 0 (by simpa using r);exact ⟨vals,h,⟨by rw[m];simp[Builtin.lenOf],λD F=>by rw[m];exact fU I.1 A λk v J=>F _ _ _ (G k v J).1,A,H,.inl ⟨d,rfl,λi y T=>kE f (fP f E (V i y T))⟩⟩⟩
 |false=>simp only[E,cond_false]at a;cases Q:dG ms S with|false=>grind|true=>
  simp only[Q,cond_true,Option.some.injEq]at a;subst a;cases gE Q;obtain ⟨ad,c,m,L,r⟩:=bI.1 B;refine ⟨xs,?_⟩;rcases r with ⟨rfl,Z⟩|⟨p,rfl,I,_,r⟩;· refine ⟨[],h,⟨by rw[m];simp[Builtin.lenOf],λD _=>?_,by simp,by simp,.inr ⟨id,aF,rfl,t,rfl,by simp[aC]⟩⟩⟩;rw[m];cases ad with|none=>simp[Builtin.firstCells]|some p=>have :=run_firstCells_some (P:=P) D f.len 0 p 0 c [] (by simp) (by simp);omega
  · obtain ⟨vals,A,G,H,V⟩:=ez (qf:=λi j=>.o ([id]++[i,j])) xs p.off 0 (by simpa using r);exact ⟨vals,h,⟨by rw [m];simp [Builtin.lenOf],λD F=>by rw [m];exact fU I.1 A λk v J=>F _ _ _ (G k v J).1,A,H,.inr ⟨id,aF,rfl,t,rfl,λi y T=>by simp_all⟩⟩⟩
 case fz f xs=>cases d:cJ ms with|false=>grind|true=>simp only [d,cond_true,Option.some.injEq]at a;subst a;cases s:af.eq? f es with|none=>grind|some p=>
 obtain ⟨p⟩:=p;subst p;simp only [s]at h;obtain ⟨z,W,B⟩:=O;have :z=vx:=by grind
 subst this;obtain ⟨l,n⟩:=pL (P:=P) (w:=w) (g:=g) (mu:=mu) (es:=f) (x:=.own id) (vx:=z) (ys:=xs) d (gD.1 B);exact ⟨xs,l,h,n⟩
end
end Go.Tm
namespace Go.Tm
open Go
section
variable{P:Program}{C:Ctx}{env:Nat->TV}{mu mu':Mu}{a:Act}{w w':World}{g g':Gh}{o o':Nat->Nat->ax}{idb:Nat}{R:Type}{Q:Exit->Act->World->Prop}
def jc(idb n:Nat)(sid a:Option Nat):Nat->List Nat->ax:=λid s=>if sid=some id then .o (idb::s)else if a=some id then (match s with|i::j::r=>.o (idb::(n+i)::j::r)|_=>.x)else .o (id::s)
theorem ux{n:Nat}{sid a:Option Nat}(id:Nat)(s:List Nat):jc idb n sid a id s≠.o []:=by unfold jc;grind
theorem zX{n:Nat}{sid a:Option Nat}{id p:Nat}{s l:List Nat}(h:jc idb n sid a id s=.o (p::l)):p=idb\/p=id:=by unfold jc at h;grind
theorem uy{es:af}{ms:List Md}{q:List (Nat×av)}{x:CV}{vx:Value}{xs ys:List es.D}{olds h:List Value}(hw:Wf w g.o)(t:Src P w g mu es ms q x vx ys h){sid n:Option Nat}(u:∀d,x=.own d->q≠[]->n=some d/\sid≠some d){Wr:Nat->Nat->Prop}(c:oc w g w' g' (jc idb xs.length sid n) Wr)(E:∀b k,Wr b k->∃id,sid=some id/\g.o b k=.o [id])(z:olds.length=xs.length*es.len)(r:∀i y,aC xs i=some y->∃id,sid=some id/\es.Vs P w g.o ms (λj=>.o [id,i,j]) 0 y ((olds.drop (i*es.len)).take es.len)):∀i y,aC (bV xs ys) i=some y->es.Vs P w' g'.o ms (λj=>.o [idb,i,j]) 0 y (((olds++h).drop (i*es.len)).take es.len):=by
 intro i y a;unfold bV aC at a;by_cases p:i<xs.length
 · rw [List.getElem?_append_left p]at a;obtain⟨id,A,B⟩:=r i y a;have m:(i+1)*es.len<=xs.length*es.len:=Nat.mul_le_mul_right _ p;rw [Nat.add_mul,Nat.one_mul]at m;rw [List.drop_append_of_le_length (by omega),List.take_append_of_le_length (by grind)];refine jH c.dK hw es ms (λj=>c.rl (l:=[i,j]) (by simp) (λs=>?_) (λb k C s e=>?_)) B;· simp [jc,A,wR]
   grind
 · rw [List.getElem?_append_right (by omega)]at a;have m:xs.length*es.len<=i*es.len:=Nat.mul_le_mul_right _ (by omega);rw [List.drop_append,List.drop_eq_nil_of_le (by omega),List.nil_append,z,<-Nat.sub_mul];rcases t.CR with⟨v,_,f⟩|⟨d,aF,D,_,F,f⟩;· exact fQ es v (kE es (kF c.dK hw es (f _ y a)))
   · obtain⟨H,G⟩:=u d D (by grind);refine jH c.dK hw es ms (λj=>c.rl (l:=[i-xs.length,j]) (by simp) (λs=>?_) (λb k C s e=>?_)) (f _ y a);· simp_all [jc,af.D,wR]
     grind
def dw(a:List (Nat×av))(sid:Option Nat)(idb:Nat)(b:av):List (Nat×av):=a++((match sid with|some id=>[(id,av.aB)]|none=>[])++[(idb,b)])
theorem lH{a:List (Nat×av)}{sid:Option Nat}{b b':av}{id:Nat}(h:(id,b')∈dw a sid idb b):(id,b')∈a\/(sid=some id/\b'=.aB)\/(id=idb/\b'=b):=by unfold dw at h;grind
theorem mc{a:List (Nat×av)}{sid c:Option Nat}{b:av}{n:Nat}(m:∀id b',(id,b')∈a->b'=.aB/\c=some id)(q:∀id,c=some id->(id,av.aB)∈a)(k:mu idb=none):au mu (dw a sid idb b) idb≠none/\(∀id s,¬(sid=some id\/c=some id)->jc idb n sid c id s=.o (id::s))/\(∀id s p l,mu id≠none->jc idb n sid c id s=.o (p::l)->au mu (dw a sid idb b) p≠none)/\(∀id,¬(sid=some id\/c=some id)->mu id≠none->∀b',(id,b')∉dw a sid idb b)/\(∀id b',(sid=some id\/c=some id)->mu id≠none->au mu (dw a sid idb b) id=some b'->b'=.aB)/\(∀id b',(sid=some id\/c=some id)\/mu id=none->au mu (dw a sid idb b) id=some b'->b'=.aB\/(id=idb/\b'=b)):=by
 have g:(idb,b)∈dw a sid idb b:=by unfold dw;simp
 have i:au mu (dw a sid idb b) idb≠none:=dv g;have r:∀id,sid=some id\/c=some id->(id,av.aB)∈dw a sid idb b:=by intro id h;unfold dw;grind
 refine⟨i,λid s h=>?_,λid s p l e d=>?_,λid h e b' t=>?_,λid b' h e d=>?_,λid b' h d=>?_⟩;·simp_all[jc]
 ·grind[au,dw,zX,jc,aM]
 ·grind[lH,dw,au]
 · rcases aW d with f|⟨j,_⟩;· grind[lH,dw,au]
   grind
 · rcases aW d with f|⟨j,f⟩;· grind[lH]
   grind
end
end Go.Tm
namespace Go.Tm
open Go
section
variable{P:Program}{C:Ctx}{env:Nat->TV}{mu mu':Mu}{a:Act}{w w':World}{g g':Gh}{o o':Nat->Nat->ax}{idb:Nat}{R:Type}{Q:Exit->Act->World->Prop}
theorem eL.pM(h:eL P w.drew g mu w' g' mu'):eL P w g mu w' g' mu':=let⟨T,a,b,c,d,e⟩:=h
 ⟨T,⟨a.cell,a.c,a.kD,a.same,a.aF⟩,⟨b.os,b.tape,b.output,b.size,b.kp,b.cell,b.db,b.uc⟩,c,d,e⟩
theorem oc.pM{f:Nat->List Nat->ax}{Wr:Nat->Nat->Prop}(h:oc w.drew g w' g' f Wr):oc w g w' g' f Wr:=⟨h.iH,h.db,h.own,h.wr⟩
theorem Wf.drew(h:Wf w o):Wf w.drew o:=⟨h.cell,h.ne⟩
theorem yF(s:bG P C env mu a w g idb){es:af}{ms:List Md}{f:List (Nat×av)}{x:CV}{vx:Value}{xs ys:List es.D}{olds c d:List Value}(m:Src P w g mu es ms f x vx ys c){sid e:Option Nat}(D:∀k,x=.own k->f≠[]->e=some k/\sid≠some k)(E:∀id b',(id,b')∈f->b'=.aB/\e=some id)(S:∀id,e=some id->(id,av.aB)∈f)(J:olds.length=xs.length*es.len)(A:∀i y,aC xs i=some y->∃id,sid=some id/\es.Vs P w g.o ms (λj=>.o [id,i,j]) 0 y ((olds.drop (i*es.len)).take es.len)){cap:Nat}(V:xs.length+ys.length<=cap)(B:cap<=9223372036854775807)(G:(olds++c++d).length=cap*es.len)(t:TypeId):∃g',eL P w g mu (w.drew.alloc (.cells (olds++c++d).toArray t)) g' (au mu (dw f sid idb (.row es ms (bV xs ys) 0)))/\(CV.own idb).R P (w.drew.alloc (.cells (olds++c++d).toArray t)) g' (au mu (dw f sid idb (.row es ms (bV xs ys) 0))) (.slice (some ⟨w.heap.size,0,none⟩) (xs.length+ys.length) cap):=by
 have l:=s.bB idb (Nat.le_refl _) (by omega);obtain ⟨z,O,M,K,γ,N⟩:=mc (mu:=mu) (idb:=idb) (b:=.row es ms (bV xs ys) 0) (n:=xs.length) (sid:=sid) E S l;let v:Value:=.slice (some ⟨w.heap.size,0,none⟩) (xs.length+ys.length) cap;let g':=cr w.drew g idb (olds++c++d).length (jc idb xs.length sid e) v;have F:oc w g (w.drew.alloc (.cells (olds++c++d).toArray t)) g' (jc idb xs.length sid e) (λ_ _=>False):=oc.pM lG;have U:=uy (P:=P) (w':=w.drew.alloc (.cells (olds++c++d).toArray t)) (g':=g') s.wf m D F (λ_ _ h=>h.elim) J A;have q:(bV xs ys).length=xs.length+ys.length:=by simp [bV]
 have Y:=m.size;have L:(Ty.sl es).H P (w.drew.alloc (.cells (olds++c++d).toArray t)) g'.o (.own ms) (.o [idb]) (bV xs ys) v:=by
  refine pH (w:=w.drew) (s.wf.drew) (by omega) B (by rw [q];rfl) G λi y Q=>?_;have I:i<xs.length+ys.length:=by rw [<-q];exact (List.getElem?_eq_some_iff.1 Q).1
  have W:(i+1)*es.len<=(xs.length+ys.length)*es.len:=Nat.mul_le_mul_right _ I;grind
 have p:g'.c idb=.row v:=by show (if idb=idb then _ else _)=_;simp
 refine ⟨g',eL.pM (oG (T:=λid=>sid=some id\/e=some id) s.wf.drew s.own l O ux M z K (λid α Z X aF u β r=>by grind) (λid b u r=>?_)),⟨z,p,_,_,_,rfl⟩⟩;rcases N id b u r with rfl|⟨rfl,rfl⟩;·trivial
 ·exact ⟨v,p,L⟩
theorem zY(s:bG P C env mu a w g idb){es:af}{ms:List Md}{m:List (Nat×av)}{x:CV}{vx:Value}{xs ys:List es.D}{olds c:List Value}(q:Src P w g mu es ms m x vx ys c){sid l:Option Nat}(S:∀z,x=.own z->m≠[]->l=some z/\sid≠some z)(W:∀id b',(id,b')∈m->b'=.aB/\l=some id)(π:∀id,l=some id->(id,av.aB)∈m)(α:olds.length=xs.length*es.len)(O:∀i y,aC xs i=some y->∃id,sid=some id/\es.Vs P w g.o ms (λj=>.o [id,i,j]) 0 y ((olds.drop (i*es.len)).take es.len)){cap:Nat}(G:xs.length+ys.length<=cap){ad:Option Addr}(K:(bV xs ys=[]/\cap=0)\/∃p id,ad=some p/\nc p cap/\sid=some id/\(∀k,k<cap*es.len->g.o p.block (p.off+k)=.o [id])/\∀k v,olds[k]?=some v->w.cell? ⟨p.block,p.off+k,none⟩=some v):∃b0 off g',(∀p,ad=some p->(b0,off)=(p.block,p.off+xs.length*es.len))/\(cap≠0->(storeCells ⟨b0,off,none⟩ c).run P w=.ok () (w.setCells b0 off c))/\(cap=0->c=[])/\eL P w g mu (w.setCells b0 off c) g' (au mu (dw m sid idb (.row es ms (bV xs ys) 0)))/\(CV.own idb).R P (w.setCells b0 off c) g' (au mu (dw m sid idb (.row es ms (bV xs ys) 0))) (.slice ad (xs.length+ys.length) cap):=by
 have F:=s.bB idb (Nat.le_refl _) (by omega);obtain ⟨ρ,θ,δ,β,f5,ε⟩:=mc (mu:=mu) (idb:=idb) (b:=.row es ms (bV xs ys) 0) (n:=xs.length) (sid:=sid) W π F;let v:Value:=.slice ad (xs.length+ys.length) cap;have ψ:(bV xs ys).length=xs.length+ys.length:=by simp [bV]
 have aa:=q.size;let b0:Nat:=match ad with|some p=>p.block|none=>0;let off:Nat:=match ad with|some p=>p.off+xs.length*es.len|none=>0;let L:Nat->fM:=λid=>if id=idb then .row v else g.c id;let g':Gh:=⟨λb k=>re (jc idb xs.length sid l) (g.o b k),L⟩;have X:∀id,mu id≠none->L id=g.c id:=λid h=>if_neg (λ(e:id=idb)=>h (e▸F));have I:g'.c idb=.row v:=if_pos rfl;have U:cap=0->c=[]:=λh=>by simp_all
 have σ:∀k,k<c.length->∃id,sid=some id/\g.o b0 (off+k)=.o [id]:=by
  intro k d;rcases K with ⟨_,μ⟩|⟨p,id,hp,E,J,ho,_⟩;·grind
  ·subst hp;have r:(xs.length+ys.length)*es.len<=cap*es.len:=Nat.mul_le_mul_right _ G;rw [Nat.add_mul]at r;have :=ho (xs.length*es.len+k) (by omega);grind
 obtain ⟨id0,f⟩:∃id0,∀k,k<c.length->sid=some id0/\g.o b0 (off+k)=.o [id0]:=by cases E:sid with|none=>simp_all|some i=>exact ⟨i,λk d=>by grind⟩
 have Y:oc w g (w.setCells b0 off c) g' (jc idb xs.length sid l) (λb k=>b=b0/\off<=k/\k<off+c.length):=jt (id0:=id0) s.wf λk d=>(f k d).2;have Q:=uy (P:=P) (w':=w.setCells b0 off c) (g':=g') s.wf q S Y (λb k h=>by obtain ⟨rfl,M,A⟩:=h;have :=f (k-off) (by omega);grind) α O;have ω:∀k,k<c.length->∃u,w.cell? ⟨b0,off+k,none⟩=some u:=λk d=>(s.wf.cell _ _ _ (f k d).2).1;have γ:(Ty.sl es).H P (w.setCells b0 off c) g'.o (.own ms) (.o [idb]) (bV xs ys) v:=by
  refine bI.2 ⟨ad,cap,by grind,by omega,?_⟩;rcases K with μ|⟨p,id,hp,E,J,ho,τ⟩;·grind
  · subst hp;refine .inr ⟨p,rfl,E,λk d=>?_,λi y κ=>eK es (Q i y κ) λk u B=>?_⟩;· show re _ (g.o p.block (p.off+k))=_;simp_all [re,jc,af.D,Gh.o]
    · have t:=aq.bD B;have Z:=(List.getElem?_eq_some_iff.1 t).1;simp only [List.length_append]at Z;have r:(xs.length+ys.length)*es.len<=cap*es.len:=Nat.mul_le_mul_right _ G;rw [Nat.add_mul]at r;refine ⟨?_,?_⟩
      · by_cases M:i*es.len+k<olds.length;· grind [af.len,List.getElem?_append_left,World.cell?_setCells_out,af.D,Nat.add_assoc]
        · rw [List.getElem?_append_right (by omega)]at t;have V:=(List.getElem?_eq_some_iff.1 t).1;have :=World.cell?_setCells_in b0 c off w (λj D=>by grind) (i*es.len+k-olds.length) V;grind
      · show re _ (g.o p.block (p.off+i*es.len+k))=_;rw [Nat.add_assoc,ho _ (by omega)];simp [re,jc,J]
 refine ⟨b0,off,g',λp hp=>by grind,λ_=>?_,U,kL (T:=λid=>sid=some id\/l=some id) (id0:=id0) s.wf s.own (λae=>?_) (λk d=>(f k d).2) X θ ux δ β (λid ag ab φ aF N M A=>by grind) (λid b N A=>?_),⟨ρ,I,_,_,_,rfl⟩⟩;· have :=run_storeCells_cells (P:=P) b0 off c 0 w (λj D=>by grind) (λj D=>by exact (s.wf.cell _ _ _ (f j D).2).2 _) (λu B=>ey (q.jr u B));omega
 · cases c with|nil=>grind|cons u us=>exact .inl (f 0 (by simp)).1
 · rcases ε id b N A with rfl|⟨rfl,rfl⟩;· trivial
   · exact ⟨v,I,γ⟩
end
end Go.Tm
