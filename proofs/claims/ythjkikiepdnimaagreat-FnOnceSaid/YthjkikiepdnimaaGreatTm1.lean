/- A machine over plain data, part 1: what it gives is shown to be what the program's functions return. Conditions: none. -/
import Derived.Orders
import Derived.KernelRfl
import Derived.Below
import Derived.Laws.Entries
import Derived.Laws.Cells
import Derived.Laws.IdiomCopy
import Derived.ChangeKeysEq
set_option linter.unusedVariables false
/- The pure machine, 1: kinds of data, abstract values, the state. -/
namespace Go.Tm
open Go
mutual
inductive Ty where
 |int (k:IntKind)
 |bool
 |str
 |sl (es:Tys)
 |fn (sh:List Nat) (as rs:Tys)
inductive Tys where
 |nil
 |cons (t:Ty) (ts:Tys)
end
mutual
def Ty.D:Ty→Type
 | .int _=>Int
 | .bool=>Bool
 | .str=>ByteArray
 | .sl es=>List es.D
 | .fn _ as rs=>as.D→Option rs.D
def Tys.D:Tys→Type
 | .nil=>Unit
 | .cons t ts=>t.D×ts.D
end
def eqNats:List Nat→List Nat→Bool
 | [],[]=>true
 |a::x,b::y=>Nat.beq a b&&eqNats x y
 |_,_=>false
theorem eqNats_eq:∀{x y:List Nat},eqNats x y=true→x=y
 | [],[],_=>rfl
 |a::x,b::y,h=>by
  simp only [eqNats,Bool.and_eq_true] at h
  rw [Nat.eq_of_beq_eq_true h.1,eqNats_eq h.2]
 | [],_::_,h=>by simp [eqNats] at h
 |_::_,[],h=>by simp [eqNats] at h
mutual
def Ty.eq?:(a b:Ty)→Option (PLift (a=b))
 | .int j,.int k=>if h:j=k then some ⟨h▸rfl⟩ else none
 | .bool,.bool=>some ⟨rfl⟩
 | .str,.str=>some ⟨rfl⟩
 | .sl a,.sl b=>match Tys.eq? a b with
  |some ⟨h⟩=>some ⟨h▸rfl⟩
  |none=>none
 | .fn s as rs,.fn s' as' rs' =>
  if h:eqNats s s'=true then
   match Tys.eq? as as',Tys.eq? rs rs' with
   |some ⟨h1⟩,some ⟨h2⟩=>some ⟨by rw [eqNats_eq h,h1,h2]⟩
   |_,_=>none
  else none
 |_,_=>none
def Tys.eq?:(a b:Tys)→Option (PLift (a=b))
 | .nil,.nil=>some ⟨rfl⟩
 | .cons t ts,.cons u us=>match Ty.eq? t u,Tys.eq? ts us with
  |some ⟨h1⟩,some ⟨h2⟩=>some ⟨by rw [h1,h2]⟩
  |_,_=>none
 |_,_=>none
end
def Tys.len:Tys→Nat
 | .nil=>0
 | .cons _ ts=>ts.len+1
inductive Md where
 |sh
 |own (ms:List Md)
inductive CV where
 |un
 |int (k:IntKind) (n:Int)
 |bool (b:Bool)
 |str (s:ByteArray)
 |nils
 |ro (es:Tys) (xs:List es.D)
 |own (id:Nat)
 |nref (id ver i j:Nat)
 |ptr (id off:Nat)
 |eptr (id sz i off:Nat)
 |rptr (es:Tys) (x:es.D) (off:Nat)
 |fnp (f:Nat)
 |clo (f:Nat) (ids:List Nat)
 |fnd (sh:List Nat) (as rs:Tys) (g:as.D→Option rs.D)
inductive TV where
 |un
 |und
 |c (v:CV)
 |agg (vs:List CV)
 |tup (vs:List (Bool×List CV))
inductive Blk where
 |box (cells:List CV)
 |rbox (es:Tys) (x:es.D)
 |row (es:Tys) (ms:List Md) (xs:List es.D) (ver:Nat)
 |fz (es:Tys) (xs:List es.D)
 |dead
inductive Wr where
 |all (id:Nat)
 |cell (id off n:Nat)
structure St where
 env:Nat→TV
 mu:Nat→Option Blk
 tw:List Nat
 mw:List Wr
 nx:Nat
def upd {α:Type} (f:Nat→α) (k:Nat) (v:α):Nat→α:=fun n=>bif Nat.beq n k then v else f n
def updL (mu:Nat→Option Blk):List (Nat×Blk)→Nat→Option Blk
 | []=>mu
 |(k,b)::r=>updL (upd mu k (some b)) r
def Ty.ro:(t:Ty)→t.D→CV
 | .int k,n=> .int k n
 | .bool,b=> .bool b
 | .str,s=> .str s
 | .sl es,xs=> .ro es xs
 | .fn sh as rs,g=> .fnd sh as rs g
def Tys.ros:(ts:Tys)→ts.D→List CV
 | .nil,_=> []
 | .cons t ts,x=>t.ro x.1::ts.ros x.2
def mdAt:List Md→Nat→Md
 | [],_=> .sh
 |m::_,0=>m
 |_::ms,j+1=>mdAt ms j
def mdHd:List Md→Md
 | []=> .sh
 |m::_=>m
def mdTl:List Md→List Md
 | []=> []
 |_::ms=>ms
def Tys.cvs:(ts:Tys)→List Md→(Nat→CV)→Nat→ts.D→List CV
 | .nil,_,_,_,_=> []
 | .cons t ts,ms,mk,j,x=>(match mdHd ms with| .sh=>t.ro x.1| .own _=>mk j)::ts.cvs (mdTl ms) mk (j+1) x.2
structure Leaf where
 t:Ty
 x:t.D
def Tys.leaf:(ts:Tys)→Nat→ts.D→Option Leaf
 | .nil,_,_=>none
 | .cons t _,0,x=>some ⟨t,x.1⟩
 | .cons _ ts,j+1,x=>ts.leaf j x.2
def Tys.leafTy:Tys→Nat→Option Ty
 | .nil,_=>none
 | .cons t _,0=>some t
 | .cons _ ts,j+1=>ts.leafTy j
def getI {α:Type} (xs:List α) (n:Int):Option α:=if 0≤n then xs[n.toNat]? else none
def getN {α:Type} (xs:List α) (n:Nat):Option α:=xs[n]?
noncomputable def both {R:Type} (a b:Option R):Option R:= @ite _ (a=b) (Classical.propDecidable _) a none
def content {R:Type} (mu:Nat→Option Blk) (v:CV) (K:(es:Tys)→List es.D→Option R):Option R :=
 match v with
 | .ro es xs=>K es xs
 | .own id=>match mu id with
  |some (.row es _ xs _)=>K es xs
  |some (.fz es xs)=>K es xs
  |_=>none
 | .nref id ver i j=>match mu id with
  |some (.row es _ xs ver')=>bif Nat.beq ver ver' then (getN xs i).bind fun x=>match es.leaf j x with
   |some ⟨.sl es',xs'⟩=>K es' xs'
   |_=>none
   else none
  |_=>none
 |_=>none
inductive Use where
 |mv (id to:Nat)
 |pm (id:Nat)
def useId:Use→Nat
 | .mv id _=>id
 | .pm id=>id
def isMv:Use→Bool
 | .mv _ _=>true
 | .pm _=>false
def hasId (n:Nat):List Use→Bool
 | []=>false
 |u::r=>Nat.beq (useId u) n||hasId n r
def usesOk:List Use→Bool
 | []=>true
 |u::r=>(match u with| .mv id _=> !hasId id r| .pm id=> !r.any fun v=>isMv v&&Nat.beq (useId v) id)&&usesOk r
mutual
def Md.beq:Md→Md→Bool
 | .sh,.sh=>true
 | .own a,.own b=>mdsBeq a b
 |_,_=>false
def mdsBeq:List Md→List Md→Bool
 | [],[]=>true
 |a::x,b::y=>Md.beq a b&&mdsBeq x y
 |_,_=>false
end
end Go.Tm
/- The pure machine, 2: what an operation, a region, a function comes to. -/
namespace Go.Tm
open Go
inductive TK where
 |int (k:IntKind)|bool|str|slice (e:Nat)|struct|other
structure TI where
 size:Nat
 bytes:Nat
 k:TK
 zero:List CV
 flds:List (Nat×Nat)
 ags:List Bool
 eq:Option (List TK)
def tkOf:TypeDesc→TK
 | .int k=> .int k
 | .bool=> .bool
 | .string=> .str
 | .slice e=> .slice e
 | .struct _=> .struct
 | .array _ _=> .struct
 | .pointer _=> .other
 | .func _ _ _=> .other
 | .interface _=> .other
 |_=> .other
def isArr:TypeDesc→Bool
 | .array _ _=>true
 |_=>false
def constCV:Value→CV
 | .int k n=> .int k n
 | .bool b=> .bool b
 | .string s=> .str s
 | .slice none n c=>bif Nat.beq n 0&&Nat.beq c 0 then .nils else .un
 |_=> .un
def cellishB:Value→Bool
 | .agg _=>false
 | .tuple _=>false
 |_=>true
def constTV:Value→TV
 | .agg cs=>bif cs.toList.all cellishB then .agg (cs.toList.map constCV) else .un
 | .tuple _=> .un
 |v=> .c (constCV v)
def isAggD:TypeDesc→Bool
 | .struct _=>true
 | .array _ _=>true
 |_=>false
def flatFs (P:Program):List Field→Nat→Bool
 | [],_=>true
 | f :: fs, i => !(f.name == "_") && Nat.beq f.offset i && (match P.underlying f.type with
  |some .bool=>true
  |some (.int _)=>true
  |some .string=>true
  |_=>false)&&flatFs P fs (i+1)
def tiOf (P:Program) (t:Nat):Option TI :=
 match P.info? t,P.underlying t with
 |some inf,some d=>match inf.zero with
  |some z=>bif z.cells.toList.all cellishB&&Nat.beq z.cells.size inf.size then
    match d with
    | .struct fs=>bif fs.toList.all fun f=>(P.info? f.type).isSome&&(P.underlying f.type).isSome then
      some ⟨inf.size,inf.bytes,.struct,z.cells.toList.map constCV,fs.toList.map (fun f=>(f.offset,((P.info? f.type).map (·.size)).getD 0)),fs.toList.map (fun f=>((P.underlying f.type).map isAggD).getD false),bif flatFs P fs.toList 0&&Nat.beq fs.toList.length inf.size&& !P.stoodInHeld t&& !P.eqGuardType P.depth t then some (fs.toList.map fun f=>((P.underlying f.type).map tkOf).getD .other) else none⟩
     else none
    | .array n e=>match P.info? e with
     |some ie=>bif Nat.beq ie.size 1&&Nat.beq inf.size n then some ⟨inf.size,inf.bytes,.struct,z.cells.toList.map constCV,(List.range n).map (fun i=>(i,1)),[],none⟩ else none
     |none=>none
    |d=>bif Nat.beq inf.size 1 then some ⟨inf.size,inf.bytes,tkOf d,z.cells.toList.map constCV,[],[],none⟩ else none
   else none
  |none=>none
 |_,_=>none
def lookT:List (Nat×TI)→Nat→Option TI
 | [],_=>none
 |(k,t)::r,n=>bif Nat.beq k n then some t else lookT r n
inductive PK where
 |c|agg|rp|io|np|wc|wa
def isIo:PK→Bool
 | .io=>true
 | .wc=>true
 | .wa=>true
 |_=>false
inductive Tg where
 |bx (id:Nat)
 |cv (vs:List CV)
structure Grp where
 k:PK
 ts:Tys
 ms:List Md
def GD:List Grp→Type
 | []=>Unit
 |g::gs=>g.ts.D×GD gs
structure Con where
 ins:List Grp
 outs:List Grp
 f:GD ins→Option (GD outs)
inductive Item where
 |t (n:Nat) (ty:Ty) (md:Md)
 |b (id j:Nat) (ty:Ty) (md:Md)
 |r (id:Nat) (es:Tys) (ms:List Md)
structure Ann where
 items:List Item
 clear:List Nat
 dead:List Nat
structure Ctx where
 nt:Nat
 ty:Nat→Option TI
 es:Nat→Tys
 con:Nat→Option Con
 site:Nat→Nat→List Md
 lp:Nat→Option Ann
 jn:Nat→Option Ann
def evalTV (env:Nat→TV):Operand→TV
 | .tmp t=>env t
 | .const v=>constTV v
 | .func f=> .c (.fnp f)
 | .global _=> .un
def castL {a b:Tys} (h:a=b) (xs:List a.D):List b.D:=h▸xs
def castF {s s':List Nat} {a a' r r':Tys} (h:Ty.fn s a r=Ty.fn s' a' r') (g:a.D→Option r.D):a'.D→Option r'.D :=
 cast (congrArg Ty.D h) g
abbrev App:=Nat→List Nat→List (List CV)→(as rs:Tys)→Option (as.D→Option rs.D)
def packSl {R:Type} (mu:Nat→Option Blk) (es:Tys) (md:Md) (to:Nat) (cv:CV) (us:List Use) (K:List es.D→List Use→Option R):Option R :=
 match md with
 | .own ms=>match cv with
  | .own id=>match mu id with
   |some (.row es' ms' xs _)=>match Tys.eq? es' es with
    |some ⟨h⟩=>bif mdsBeq ms' ms then K (castL h xs) (.mv id to::us) else none
    |none=>none
   |_=>none
  | .nils=>K [] us
  |_=>none
 | .sh=>match cv with
  | .nils=>K [] us
  | .ro es' xs=>match Tys.eq? es' es with
   |some ⟨h⟩=>K (castL h xs) us
   |none=>none
  | .own id=>content mu (.own id) fun es' xs=>match Tys.eq? es' es with
   |some ⟨h⟩=>K (castL h xs) (.pm id::us)
   |none=>none
  | .nref id ver i j=>content mu (.nref id ver i j) fun es' xs=>match Tys.eq? es' es with
   |some ⟨h⟩=>K (castL h xs) (.pm id::us)
   |none=>none
  |_=>none
def boxCells (mu:Nat→Option Blk):List Nat→Option (List (List CV))
 | []=>some []
 |id::r=>match mu id,boxCells mu r with
  |some (.box cs),some l=>some (cs::l)
  |some (.rbox es x),some l=>some (es.ros x::l)
  |_,_=>none
def packLeaf {R:Type} (app:App) (mu:Nat→Option Blk):(ty:Ty)→Md→Nat→CV→List Use→(ty.D→List Use→Option R)→Option R
 | .int k,_,_,cv,us,K=>match cv with
  | .int k' n=>if k=k' then K n us else none
  |_=>none
 | .bool,_,_,cv,us,K=>match cv with
  | .bool b=>K b us
  |_=>none
 | .str,_,_,cv,us,K=>match cv with
  | .str s=>K s us
  |_=>none
 | .sl es,md,to,cv,us,K=>packSl mu es md to cv us K
 | .fn sh as rs,_,_,cv,us,K=>match cv with
  | .fnd sh' as' rs' g=>match Ty.eq? (.fn sh' as' rs') (.fn sh as rs) with
   |some ⟨h⟩=>K (castF h g) us
   |none=>none
  | .fnp f=>match app f sh [] as rs with
   |some g=>K g us
   |none=>none
  | .clo f ids=>match boxCells mu ids with
   |some cs=>match app f sh cs as rs with
    |some g=>K g (ids.map .pm++us)
    |none=>none
   |none=>none
  |_=>none
def packs {R:Type} (app:App) (mu:Nat→Option Blk):(ts:Tys)→List Md→Nat→List CV→List Use→(ts.D→List CV→List Use→Option R)→Option R
 | .nil,_,_,cvs,us,K=>K () cvs us
 | .cons t ts,ms,to,cvs,us,K=>match cvs with
  | []=>none
  |cv::cvs=>packLeaf app mu t (mdHd ms) to cv us fun x us=>packs app mu ts (mdTl ms) (to+1) cvs us fun r cvs us=>K (x,r) cvs us
def app0:App:=fun _ _ _ _ _=>none
def mu0:Nat→Option Blk:=fun _=>none
def packG {R:Type}:(gs:List Grp)→List CV→(GD gs→Option R)→Option R
 | [],cvs,K=>match cvs with
  | []=>K ()
  |_=>none
 |g::gs,cvs,K=>packs app0 mu0 g.ts [] 0 cvs [] fun x cvs _=>packG gs cvs fun r=>K (x,r)
def allSh:List Md→Bool
 | []=>true
 | .sh::r=>allSh r
 | .own _::_=>false
def shMatch:List Nat→List (List CV)→List Grp→Bool
 | [],[],[]=>true
 | [],c::cs,g::gs=>(match g.k with| .rp=>true|_=>false)&&Nat.beq g.ts.len c.length&&allSh g.ms&&shMatch [] cs gs
 |n::s,cs,g::gs=>(match g.k,n with| .c,0=>Nat.beq g.ts.len 1| .agg,n+1=>Nat.beq g.ts.len n|_,_=>false)&&allSh g.ms&&shMatch s cs gs
 |_,_,_=>false
def outOk (outs:List Grp):Bool :=
 match outs with
 | [g]=>(match g.k with| .c=>true|_=>false)&&allSh g.ms
 |_=>false
def appC (C:Ctx):App:=fun f sh caps as rs=>match C.con f with
 |none=>none
 |some con=>bif shMatch sh caps con.ins&&outOk con.outs then some fun x=>packG con.ins (as.ros x++caps.flatten) fun gd=>(con.f gd).bind fun y =>
  match con.outs,y with
  | [g],y=>packs app0 mu0 rs [] 0 (g.ts.ros y.1) [] fun r cvs _=>match cvs with
   | []=>some r
   |_=>none
  |_,_=>none
  else none
def cellsOf:TV→Option (List CV)
 | .c v=>some [v]
 | .agg vs=>some vs
 |_=>none
def ptrCells {R:Type} (mu:Nat→Option Blk) (v:CV) (n:Nat) (us:List Use) (K:List CV→List Use→Option R):Option R :=
 match v with
 | .ptr id off=>match mu id with
  |some (.box cs)=>K ((cs.drop off).take n) (.pm id::us)
  |some (.rbox es x)=>K (((es.ros x).drop off).take n) us
  |_=>none
 | .rptr es x off=>K (((es.ros x).drop off).take n) us
 | .eptr id sz i off=>match mu id with
  |some (.row es ms xs ver)=>bif Nat.beq sz es.len then (getN xs i).bind fun x=>K (((es.cvs ms (fun j=> .nref id ver i j) 0 x).drop off).take n) (.pm id::us) else none
  |_=>none
 |_=>none
def packIns {R:Type} (C:Ctx) (mu:Nat→Option Blk):(gs:List Grp)→Nat→List TV→List Use→(GD gs→List Use→Option R)→Option R
 | [],_,args,us,K=>match args with
  | []=>K () us
  |_=>none
 |g::gs,m,args,us,K=>match args with
  | []=>none
  |a::args =>
   let go (cvs:List CV) (us:List Use):Option R:=packs (appC C) mu g.ts g.ms (64*m+1) cvs us fun x cvs us=>match cvs with
    | []=>packIns C mu gs (m+1) args us fun r us=>K (x,r) us
    |_=>none
   match g.k,a with
   | .c,.c v=>go [v] us
   | .agg,.agg vs=>go vs us
   | .wc,.c v=>go [v] us
   | .wa,.agg vs=>go vs us
   | .rp,.c v=>bif allSh g.ms then ptrCells mu v g.ts.len us fun cvs us=>go cvs us else none
   | .io,.c (.ptr id off)=>match mu id with
    |some (.box cs)=>bif Nat.beq off 0 then go cs (.mv id (64*m)::us) else none
    |_=>none
   |_,_=>none
def outCVs:(ts:Tys)→List Md→Nat→ts.D→List CV
 | .nil,_,_,_=> []
 | .cons t ts,ms,k,x=>(match mdHd ms with| .sh=>t.ro x.1| .own _=> .own k)::outCVs ts (mdTl ms) (k+1) x.2
def outRow (t:Ty) (m:Md) (k:Nat) (x:t.D):List (Nat×Blk) :=
 match m with
 | .sh=> []
 | .own ms=>match t,x with
  | .sl es,xs=> [(k,.row es ms xs 0)]
  |_,_=> []
def outRows:(ts:Tys)→List Md→Nat→ts.D→List (Nat×Blk)
 | .nil,_,_,_=> []
 | .cons t ts,ms,k,x=>outRow t (mdHd ms) k x.1++outRows ts (mdTl ms) (k+1) x.2
mutual
def clTy:Ty→Md→Bool
 | .int _,_=>true
 | .bool,_=>true
 | .str,_=>true
 | .sl es,.own ms=>clTys es ms
 | .sl _,.sh=>false
 | .fn _ _ _,_=>false
def clTys:Tys→List Md→Bool
 | .nil,_=>true
 | .cons t ts,ms=>clTy t (mdHd ms)&&clTys ts (mdTl ms)
end
def clGs:List Grp→Bool
 | []=>true
 |g::gs=>clTys g.ts g.ms&&clGs gs
def fzs (mu:Nat→Option Blk):List Use→List (Nat×Blk)
 | []=> []
 | .mv id _::r=>(id,.dead)::fzs mu r
 | .pm id::r=>(match mu id with|some (.row es _ xs _)=> [(id,.fz es xs)]|some (.box _)=> [(id,.dead)]|_=> [])++fzs mu r
def deads:List Use→List (Nat×Blk)
 | []=> []
 | .mv id _::r=>(id,.dead)::deads r
 | .pm _::r=>deads r
def ioIds:List Grp→List TV→List Tg
 |g::gs,a::as=>match g.k,a with
  | .io,.c (.ptr id _)=> .bx id::ioIds gs as
  | .wc,.c v=> .cv [v]::ioIds gs as
  | .wa,.agg vs=> .cv vs::ioIds gs as
  |_,_=>ioIds gs as
 |_,_=> []
def mdOk:Tys→List Md→Bool
 | .nil,_=>true
 | .cons t ts,ms=>(match mdHd ms with
  | .sh=>true
  | .own _=>match t with
   | .sl _=>true
   |_=>false)&&mdOk ts (mdTl ms)
def gsOk (gs:List Grp):Bool:=Nat.ble gs.length 31&&gs.all fun g=>Nat.ble g.ts.len 62&&mdOk g.ts g.ms
def numRes (con:Con):Nat:=con.outs.length - (con.ins.filter fun g=>isIo g.k).length
def backRow (mu:Nat→Option Blk) (t:Ty) (m:Md) (v:CV) (x:t.D):List (Nat×Blk) :=
 match m with
 | .sh=> []
 | .own ms=>match v with
  | .own id=>match t,x,mu id with
   | .sl es,xs,some (.row _ _ _ v)=> [(id,.row es ms xs (v+1))]
   |_,_,_=> []
  |_=> []
def backRows (mu:Nat→Option Blk):(ts:Tys)→List Md→List CV→ts.D→List (Nat×Blk)
 | .nil,_,_,_=> []
 | .cons t ts,ms,vs,x=>match vs with
  | []=> []
  |v::vs=>backRow mu t (mdHd ms) v x.1++backRows mu ts (mdTl ms) vs x.2
def unOuts (mu:Nat→Option Blk) (idb:Nat):(gs:List Grp)→(r nr:Nat)→(io:List Tg)→GD gs→List (Bool×List CV)×List (Nat×Blk)
 | [],_,_,_,_=>([],[])
 |g::gs,r,nr,io,y =>
  let k:=idb+64*r+1
  let cvs:=outCVs g.ts g.ms k y.1
  let rows:=outRows g.ts g.ms k y.1
  match nr with
  |0=>match io with
   | []=>unOuts mu idb gs (r+1) 0 [] y.2
   |t::io =>
    let z:=unOuts mu idb gs (r+1) 0 io y.2
    (z.1,(match t with| .bx id=>(id,.box cvs)::rows| .cv vs=>backRows mu g.ts g.ms vs y.1)++z.2)
  |nr+1 =>
   let z:=unOuts mu idb gs (r+1) nr io y.2
   match g.k with
   | .c=>((false,cvs)::z.1,rows++z.2)
   | .np=>((false,[.ptr (idb+64*r) 0])::z.1,(idb+64*r,.box cvs)::rows++z.2)
   |_=>((true,cvs)::z.1,rows++z.2)
def one1:Bool×List CV→TV
 |(true,vs)=> .agg vs
 |(false,v::_)=> .c v
 |(false,[])=> .un
def resTV:List (Bool×List CV)→TV
 | [x]=>one1 x
 |l=> .tup l
def tgOk (mu:Nat→Option Blk):Tg→Bool
 | .bx _=>true
 | .cv cs=>cs.all fun c=>match c with
  | .own id=>(mu id).isSome
  |_=>true
def callU {R:Type} (C:Ctx) (mu:Nat→Option Blk) (idb:Nat) (f:Nat) (args:List TV) (K:TV→List (Nat×Blk)→Option R):Option R :=
 match C.con f with
 |none=>none
 |some con=>packIns C mu con.ins 0 args [] fun x us=>bif usesOk us&&gsOk con.outs&&(ioIds con.ins args).all (tgOk mu) then (con.f x).bind fun y =>
   let z:=unOuts mu idb con.outs 0 (numRes con) (ioIds con.ins args) y
   K (resTV z.1) ((bif clGs con.outs then deads us else fzs mu us)++z.2)
  else none
def nestAt:List Grp→List TV→Nat→Option (Nat×Nat×Nat×Nat×Nat)
 |g::gs,a::as,n=>match g.k,a with
  | .wc,.c (.nref id ver i j)=>some (n,id,ver,i,j)
  |_,_=>nestAt gs as (n+1)
 |_,_,_=>none
def Tys.setLeaf:(ts:Tys)→Nat→ts.D→(t:Ty)→t.D→Option ts.D
 | .nil,_,_,_,_=>none
 | .cons t ts,0,x,t',v=>match Ty.eq? t' t with
  |some ⟨h⟩=>some (h▸v,x.2)
  |none=>none
 | .cons _ ts,j+1,x,t',v=>(ts.setLeaf j x.2 t' v).map fun r=>(x.1,r)
def callN {R:Type} (C:Ctx) (mu:Nat→Option Blk) (idb:Nat) (f:Nat) (args:List TV) (K:TV→List (Nat×Blk)→Option R):Option R :=
 match C.con f with
 |none=>none
 |some con=>match nestAt con.ins args 0 with
  |none=>callU C mu idb f args K
  |some (n,id,ver,i,j)=>match mu id with
   |some (.row es ms xs ver')=>bif Nat.beq ver ver' then (getN xs i).bind fun x=>match es.leaf j x,mdAt ms j with
    |some ⟨.sl es',xs'⟩,.own ms'=>callU C (upd (upd mu id (some .dead)) (idb+2047) (some (.row es' ms' xs' 0))) idb f (args.set n (.c (.own (idb+2047)))) fun v l =>
     match updL (upd (upd mu id (some .dead)) (idb+2047) (some (.row es' ms' xs' 0))) l (idb+2047) with
     |some (.row es2 ms2 ys _)=>match Tys.eq? es2 es' with
      |some ⟨h⟩=>bif mdsBeq ms2 ms' then (es.setLeaf j x (.sl es') (castL h ys)).bind fun x'=>K v (l++ [(id,.row es ms (xs.set i x') (ver+1)),(idb+2047,.dead)]) else none
      |none=>none
     |_=>none
    |_,_=>none
    else none
   |_=>none
def elemAt:List Grp→List TV→Nat→Option (Nat×Nat×Nat×Nat)
 |g::gs,a::as,n=>match g.k,a with
  | .io,.c (.eptr id sz i 0)=>some (n,id,sz,i)
  |_,_=>elemAt gs as (n+1)
 |_,_,_=>none
def outE (id bx:Nat) (es:Tys) (ms:List Md) (x:es.D):List (Nat×Blk):=(id,.dead)::(bx,.box (outCVs es ms (bx+1) x))::outRows es ms (bx+1) x
def packEnd {A:Type} (x:A) (rest:List CV) (us:List Use):Option (A×List Use):=match rest with| []=>some (x,us)|_=>none
def callE {R:Type} (C:Ctx) (mu:Nat→Option Blk) (idb:Nat) (f:Nat) (args:List TV) (K:TV→List (Nat×Blk)→Option R):Option R :=
 match C.con f with
 |none=>none
 |some con=>match elemAt con.ins args 0 with
  |none=>callN C mu idb f args K
  |some (n,id,sz,i)=>match mu id with
   |some (.row es ms xs ver)=>bif Nat.beq sz es.len&&(Nat.ble es.len 62&&mdOk es ms) then (getN xs i).bind fun x =>
     callU C (updL mu (outE id (idb+1984) es ms x)) idb f (args.set n (.c (.ptr (idb+1984) 0))) fun v l=>match updL (updL mu (outE id (idb+1984) es ms x)) l (idb+1984) with
      |some (.box cs)=>(packs (R:=es.D×List Use) app0 (updL (updL mu (outE id (idb+1984) es ms x)) l) es ms 0 cs [] packEnd).bind fun p =>
       bif usesOk p.2&&(p.2.all isMv&&(!hasId id p.2&& !hasId (idb+1984) p.2)) then K v (outE id (idb+1984) es ms x++(l++(deads p.2++ [(id,.row es ms (xs.set i p.1) (ver+1)),(idb+1984,.dead)]))) else none
      |_=>none
    else none
   |_=>none
def fndU {R:Type} (mu:Nat→Option Blk) (sh:List Nat) (as rs:Tys) (g:as.D→Option rs.D) (args:List TV) (K:TV→List (Nat×Blk)→Option R):Option R :=
 let rec cells:List Nat→List TV→Option (List CV)
  | [],[]=>some []
  |0::s,.c v::r=>(cells s r).map (v:: ·)
  |(n+1)::s,.agg vs::r=>bif Nat.beq vs.length n then (cells s r).map (vs++ ·) else none
  |_,_=>none
 match cells sh args with
 |none=>none
 |some cvs=>packs app0 mu0 as [] 0 cvs [] fun x cvs _=>match cvs with
  | []=>(g x).bind fun y=>match rs.ros y with
   | [v]=>K (.c v) []
   |_=>none
  |_=>none
def iLt (a b:Int):Bool:=decide (a<b)
def iLe (a b:Int):Bool:=decide (a≤b)
def iEq (a b:Int):Bool:=decide (a=b)
def bEq (a b:Bool):Bool:=a==b
def iMax (a b:Int):Int:=bif iLt a b then b else a
def iMin (a b:Int):Int:=bif iLt b a then b else a
def cutHi (h:Int) (n:Nat):Bool:=decide (0≤h∧h≤n)
def cutLH (l h:Int) (n:Nat):Bool:=decide (0≤l∧l≤h∧h≤n)
def lapp {α:Type} (xs ys:List α):List α:=xs++ys
def sApp (a b:ByteArray):ByteArray:=a++b
def room (n bytes:Nat):Bool:=decide (n*bytes≤70368744177664∧0<bytes)
def sRoom (a b:ByteArray):Bool:=decide (a.size+b.size≤1099511627776)
def mkOk (n n':Int) (bytes:Nat):Bool:=decide (n=n'∧0≤n∧n*bytes≤70368744177664∧0<bytes)
def sEq (a b:ByteArray):Bool:=a.toList==b.toList
def sLt (a b:ByteArray):Bool:=Op.bytesLess a.toList b.toList
def iAnd (k:IntKind) (x y:Int):Int:=k.wrap (BitVec.ofInt k.bits x &&& BitVec.ofInt k.bits y).toNat
def iOr (k:IntKind) (x y:Int):Int:=k.wrap (BitVec.ofInt k.bits x ||| BitVec.ofInt k.bits y).toNat
def iXor (k:IntKind) (x y:Int):Int:=k.wrap (BitVec.ofInt k.bits x ^^^ BitVec.ofInt k.bits y).toNat
def iAndNot (k:IntKind) (x y:Int):Int:=k.wrap (BitVec.ofInt k.bits x &&& ~~~ BitVec.ofInt k.bits y).toNat
def iAdd (k:IntKind) (x y:Int):Int:=k.wrap (x+y)
def iSub (k:IntKind) (x y:Int):Int:=k.wrap (x - y)
def iMul (k:IntKind) (x y:Int):Int:=k.wrap (x*y)
def iQuo (k:IntKind) (x y:Int):Int:=k.wrap (x.tdiv y)
def iRem (x y:Int):Int:=x.tmod y
def iShl (k:IntKind) (x y:Int):Int:=k.wrap (x*2 ^ min y.toNat k.bits)
def iShr (k:IntKind) (x y:Int):Int:=x.fdiv (2 ^ min y.toNat k.bits)
def eqCV:TK→CV→CV→Option Bool
 | .int k,.int k' a,.int k'' b=>if k=k'∧k=k'' then some (iEq a b) else none
 | .bool,.bool a,.bool b=>some (bEq a b)
 | .str,.str a,.str b=>some (sEq a b)
 |_,_,_=>none
def eqCVs:List TK→List CV→List CV→Option Bool
 | [],[],[]=>some true
 |k::ks,a::x,b::y=>match eqCV k a b with
  |none=>none
  |some c=>match ks with
   | []=>match x,y with
    | [],[]=>some c
    |_,_=>none
   |_=>match eqCVs ks x y with
    |some d=>some (c&&d)
    |none=>none
 |_,_,_=>none
noncomputable def nilEq {R:Type} (mu:Nat→Option Blk) (v:CV) (K:Bool→Option R):Option R :=
 match v with
 | .nils=>K true
 |v=>content mu v fun _ xs=>bif xs.isEmpty then both (K true) (K false) else K false
noncomputable def binU {R:Type} (mu:Nat→Option Blk) (tk:TK) (eq:Option (List TK)) (op:BinOp) (x y:TV) (K:TV→Option R):Option R :=
 match x,y with
 | .c (.int k a),.c (.int k' b) =>
  match op with
  | .shl=>bif iLt b 0 then none else K (.c (.int k (iShl k a b)))
  | .shr=>bif iLt b 0 then none else K (.c (.int k (iShr k a b)))
  |op=>if k=k' then (match op with
   | .add=>K (.c (.int k (iAdd k a b)))
   | .sub=>K (.c (.int k (iSub k a b)))
   | .mul=>K (.c (.int k (iMul k a b)))
   | .quo=>bif iEq b 0 then none else K (.c (.int k (iQuo k a b)))
   | .rem=>bif iEq b 0 then none else K (.c (.int k (iRem a b)))
   | .and=>K (.c (.int k (iAnd k a b)))
   | .or=>K (.c (.int k (iOr k a b)))
   | .xor=>K (.c (.int k (iXor k a b)))
   | .andNot=>K (.c (.int k (iAndNot k a b)))
   | .eql=>K (.c (.bool (iEq a b)))
   | .neq=>K (.c (.bool (!iEq a b)))
   | .lss=>K (.c (.bool (iLt a b)))
   | .leq=>K (.c (.bool (iLe a b)))
   | .gtr=>K (.c (.bool (iLt b a)))
   | .geq=>K (.c (.bool (iLe b a)))
   |_=>none) else none
 | .c (.str a),.c (.str b) =>
  match op with
  | .add=>bif sRoom a b then K (.c (.str (sApp a b))) else none
  | .eql=>K (.c (.bool (sEq a b)))
  | .neq=>K (.c (.bool (!sEq a b)))
  | .lss=>K (.c (.bool (sLt a b)))
  | .leq=>K (.c (.bool (sLt a b||sEq a b)))
  | .gtr=>K (.c (.bool (!(sLt a b||sEq a b))))
  | .geq=>K (.c (.bool (!sLt a b)))
  |_=>none
 | .c (.bool a),.c (.bool b) =>
  match tk with
  | .bool=>match op with
   | .eql=>K (.c (.bool (bEq a b)))
   | .neq=>K (.c (.bool (!bEq a b)))
   |_=>none
  |_=>none
 | .agg a,.agg b=>match eq with
  |some ks=>match op with
   | .eql=>match eqCVs ks a b with
    |some c=>K (.c (.bool c))
    |none=>none
   | .neq=>match eqCVs ks a b with
    |some c=>K (.c (.bool (!c)))
    |none=>none
   |_=>none
  |none=>none
 | .c v,.c .nils =>
  match tk with
  | .slice _=>match op with
   | .eql=>nilEq mu v fun b=>K (.c (.bool b))
   | .neq=>nilEq mu v fun b=>K (.c (.bool (!b)))
   |_=>none
  |_=>none
 |_,_=>none
def tyBytes:Tys:= .cons (.int .u8) .nil
def byteD (n:Int):tyBytes.D:=(n,())
def byteN (x:tyBytes.D):Int:=Prod.fst x
def bytesStr (xs:List tyBytes.D):ByteArray:=⟨(xs.map fun x=>UInt8.ofNat (Int.toNat (byteN x))).toArray⟩
def strBytes (s:ByteArray):List tyBytes.D:=s.data.toList.map fun b=>byteD b.toNat
def appended {R:Type} (mu:Nat→Option Blk) (es:Tys) (v:CV) (K:List es.D→Option R):Option R :=
 match v with
 | .nils=>K []
 | .str s=>match Tys.eq? tyBytes es with
  |some ⟨h⟩=>K (castL h (strBytes s))
  |none=>none
 |v=>content mu v fun es' ys=>match Tys.eq? es' es with
  |some ⟨h⟩=>K (castL h ys)
  |none=>none
def srcOk (mu:Nat→Option Blk) (ms:List Md) (v:CV):Option (List (Nat×Blk)) :=
 match v with
 | .own id=>match mu id with
  |some (.row _ ms' _ _)=>bif allSh ms' then (bif allSh ms then some [] else none) else (bif mdsBeq ms ms' then some [(id,.dead)] else none)
  |some (.fz _ _)=>bif allSh ms then some [] else none
  |_=>none
 | .ro _ _| .nils| .str _=>bif allSh ms then some [] else none
 |_=>none
def sameRow (id:Nat):CV→Bool
 | .own id'=>Nat.beq id id'
 |_=>false
def appendU {R:Type} (mu:Nat→Option Blk) (idb:Nat) (es:Tys) (ms:List Md) (bytes:Nat) (s x:CV) (K:TV→List (Nat×Blk)→Option R):Option R :=
 match s with
 | .nils=>match srcOk mu ms x with
  |none=>none
  |some dd=>appended mu es x fun ys=>bif room ys.length bytes then K (.c (.own idb)) (dd++ [(idb,.row es ms ys 0)]) else none
 | .own id=>match mu id with
  |some (.row es' ms' xs _) =>
   match Tys.eq? es' es with
   |none=>none
   |some ⟨h⟩=>match srcOk mu ms' x with
    |none=>none
    |some dd=>bif sameRow id x then none else
     appended mu es x fun ys=>bif room (xs.length+ys.length) bytes then
      K (.c (.own idb)) (dd++ [(id,.dead),(idb,.row es ms' (lapp (castL h xs) ys) 0)]) else none
  |_=>none
 |_=>none
def litElems {R:Type} (mu:Nat→Option Blk) (es:Tys) (ms:List Md):(parts:List (Nat×TV))→(i:Nat)→List Use→(List es.D→List Use→Option R)→Option R
 | [],_,us,K=>K [] us
 |p::r,i,us,K=>bif Nat.beq p.1 i then match cellsOf p.2 with
  |none=>none
  |some cvs=>packs app0 mu es ms (64*i) cvs us fun x rest us=>match rest with
   | []=>litElems mu es ms r (i+1) us fun l us=>K (x::l) us
   |_=>none
  else none
def fillCV (cells:List CV) (off:Nat):List CV→List CV
 | []=>cells
 |v::vs=>fillCV (cells.set off v) (off+1) vs
def buildCV (flds:List (Nat×Nat)):List (Nat×TV)→List CV→Option (List CV)
 | [],cells=>some cells
 |(i,v)::r,cells=>match flds[i]?,cellsOf v with
  |some (off,n),some vs=>bif Nat.beq vs.length n&&Nat.ble (off+n) cells.length then buildCV flds r (fillCV cells off vs) else none
  |_,_=>none
def loadU {R:Type} (mu:Nat→Option Blk) (v:CV) (n:Nat) (K:List CV→Option R):Option R :=
 match v with
 | .ptr id off=>match mu id with
  |some (.box cs)=>bif Nat.ble (off+n) cs.length then K ((cs.drop off).take n) else none
  |some (.rbox es x)=>bif Nat.ble (off+n) es.len then K (((es.ros x).drop off).take n) else none
  |_=>none
 | .rptr es x off=>bif Nat.ble (off+n) es.len then K (((es.ros x).drop off).take n) else none
 | .eptr id sz i off=>match mu id with
  |some (.row es ms xs ver)=>bif Nat.ble (off+n) es.len&&Nat.beq sz es.len then (getN xs i).bind fun x=>K (((es.cvs ms (fun j=> .nref id ver i j) 0 x).drop off).take n) else none
  |some (.fz es xs)=>bif Nat.ble (off+n) es.len&&Nat.beq sz es.len then (getN xs i).bind fun x=>K (((es.ros x).drop off).take n) else none
  |_=>none
 |_=>none
def TV.ofCells (agg:Bool) (vs:List CV):TV:=bif agg then .agg vs else (match vs with| [v]=> .c v|_=> .un)
def setLeaves {R:Type} (mu:Nat→Option Blk):(ts:Tys)→List Md→(j off:Nat)→List CV→ts.D→List Use→(ts.D→List Use→Option R)→Option R
 | .nil,_,_,_,vs,_,us,K=>match vs with
  | []=>K () us
  |_=>none
 | .cons t ts,ms,j,off,vs,x,us,K=>match vs with
  | []=>K x us
  |v::vs=>match off with
   |0=>packLeaf app0 mu t (mdHd ms) j v us fun y us=>setLeaves mu ts (mdTl ms) (j+1) 0 vs x.2 us fun r us=>K (y,r) us
   |off+1=>setLeaves mu ts (mdTl ms) (j+1) off (v::vs) x.2 us fun r us=>K (x.1,r) us
def storeU {R:Type} (mu:Nat→Option Blk) (a:CV) (vs:List CV) (K:List (Nat×Blk)→Option R):Option R :=
 match a with
 | .ptr id off=>match mu id with
  |some (.box cs)=>bif Nat.ble (off+vs.length) cs.length then K [(id,.box (fillCV cs off vs))] else none
  |_=>none
 | .eptr id sz i off=>match mu id with
  |some (.row es ms xs ver)=>bif Nat.ble (off+vs.length) es.len&&Nat.beq sz es.len then (getN xs i).bind fun x=>setLeaves mu es ms 0 off vs x [] fun y us =>
    bif usesOk us&& !hasId id us then K (fzs mu us++ [(id,.row es ms (xs.set i y) (ver+1))]) else none
   else none
  |_=>none
 |_=>none
def freezeU {R:Type} (mu:Nat→Option Blk) (es:Tys) (a:CV) (vs:List CV) (K:List (Nat×Blk)→Option R):Option R :=
 match a with
 | .ptr id 0=>match mu id with
  |some (.box cs)=>bif Nat.beq vs.length cs.length then (packs (R:=es.D×List Use) app0 (updL mu [(id,.box vs)]) es [] 0 vs [] packEnd).bind fun p=>match p.2 with
    | []=>K [(id,.box vs),(id,.rbox es p.1)]
    |_::_=>none
   else none
  |_=>none
 |_=>none
def cutU {R α:Type} (lo hi:Option TV) (n:Nat) (xs:α) (f:Nat→Nat→α→Option R):Option R :=
 match lo,hi with
 |none,none=>f 0 n xs
 |some (.c (.int _ l)),none=>bif cutHi l n then f l.toNat n xs else none
 |none,some (.c (.int _ h))=>bif cutHi h n then f 0 h.toNat xs else none
 |some (.c (.int _ l)),some (.c (.int _ h))=>bif cutLH l h n then f l.toNat h.toNat xs else none
 |_,_=>none
def sliceU {R:Type} (mu:Nat→Option Blk) (v:CV) (lo hi:Option TV) (K:TV→List (Nat×Blk)→Option R):Option R :=
 match v with
 | .str s=>cutU lo hi s.size s fun l h s=>K (.c (.str (s.extract l h))) []
 | .ro es xs=>cutU lo hi xs.length xs fun l h xs=>K (.c (.ro es ((xs.drop l).take (h - l)))) []
 | .nils=>cutU lo hi 0 () fun _ _ _=>K (.c .nils) []
 | .own id=>match mu id with
  |some (.row es _ xs _)=>cutU lo hi xs.length xs fun l h ys=>K (.c (.ro es ((ys.drop l).take (h - l)))) [(id,.fz es xs)]
  |some (.fz es xs)=>cutU lo hi xs.length xs fun l h ys=>K (.c (.ro es ((ys.drop l).take (h - l)))) []
  |_=>none
 |_=>none
def esOk (mu:Nat→Option Blk) (n:Nat) (v:CV):Bool :=
 match v with
 | .nils=>true
 | .ro es _=>Nat.beq es.len n
 | .own id=>match mu id with
  |some (.row es _ _ _)=>Nat.beq es.len n
  |some (.fz es _)=>Nat.beq es.len n
  |_=>false
 | .nref id _ _ j=>match mu id with
  |some (.row es _ _ _)=>match es.leafTy j with
   |some (.sl es')=>Nat.beq es'.len n
   |_=>false
  |_=>false
 |_=>false
def idxU {R:Type} (mu:Nat→Option Blk) (v:CV) (n:Int) (K:CV→Option R):Option R :=
 match v with
 | .ro es xs=>(getI xs n).bind fun x=>K (.rptr es x 0)
 | .own id=>match mu id with
  |some (.row es _ xs _)=>(getI xs n).bind fun _=>K (.eptr id es.len n.toNat 0)
  |some (.fz es xs)=>(getI xs n).bind fun x=>K (.rptr es x 0)
  |_=>none
 |_=>none
def maxInts (k:IntKind) (gt:Bool):Int→List TV→Option Int
 |a,[]=>some a
 |a,.c (.int k' b)::r=>if k=k' then maxInts k gt (bif gt then iMax a b else iMin a b) r else none
 |_,_=>none
def lenU {R:Type} (mu:Nat→Option Blk) (v:CV) (K:Int→Option R):Option R :=
 match v with
 | .nils=>K 0
 |v=>content mu v fun _ xs=>K xs.length
def elemTI (C:Ctx) (t:Nat):Option (Nat×TI) :=
 match C.ty t with
 |some ti=>match ti.k with
  | .slice e=>match C.ty e with
   |some te=>bif Nat.beq (C.es e).len te.size then some (e,te) else none
   |none=>none
  |_=>none
 |none=>none
def apTy:TK→Bool
 | .slice _=>true
 | .str=>true
 |_=>false
def builtinU {R:Type} (C:Ctx) (mu:Nat→Option Blk) (idb rid i:Nat) (b:Builtin) (ts:List Nat) (args:List TV) (K:TV→List (Nat×Blk)→Option R):Option R :=
 match b,args with
 | .len,[.c v]=>match ts with
  | [t]=>match C.ty t with
   |some ti=>match ti.k,v with
    | .str,.str s=>K (.c (.int .i64 s.size)) []
    | .slice _,.str _=>none
    | .slice _,v=>lenU mu v fun n=>K (.c (.int .i64 n)) []
    |_,_=>none
   |none=>none
  |_=>none
 | .max,.c (.int k a)::r=>match maxInts k true a r with
  |some n=>K (.c (.int k n)) []
  |none=>none
 | .min,.c (.int k a)::r=>match maxInts k false a r with
  |some n=>K (.c (.int k n)) []
  |none=>none
 | .append,[.c s,.c x]=>match ts with
  | [t,t2]=>match elemTI C t,C.ty t2 with
   |some (e,te),some ti2=>bif apTy ti2.k then appendU mu idb (C.es e) (C.site rid i) te.bytes s x K else none
   |_,_=>none
  |_=>none
 |_,_=>none
def structFld (C:Ctx) (s f:Nat):Option (Nat×Nat) :=
 match C.ty s with
 |some ti=>match ti.k with
  | .struct=>match ti.flds[f]?,ti.ags[f]? with
   |some (off,n),some _=>bif Nat.beq n 0 then none else some (off,n)
   |_,_=>none
  |_=>none
 |none=>none
def structAg (C:Ctx) (s f:Nat):Option Bool :=
 match C.ty s with
 |some ti=>ti.ags[f]?
 |none=>none
def capIds (env:Nat→TV):List Operand→Option (List Nat)
 | []=>some []
 |x::r=>match evalTV env x,capIds env r with
  | .c (.ptr id off),some l=>bif Nat.beq off 0 then some (id::l) else none
  |_,_=>none
def asRow (t:Ty):(es:Tys)→es.D→Option (List (Tys.cons t .nil).D)
 | .nil,_=>some []
 | .cons t' ts,x=>match Ty.eq? t' t with
  |some ⟨h⟩=>match asRow t ts x.2 with
   |some l=>some ((h▸x.1,())::l)
   |none=>none
  |none=>none
def sliceArr {R:Type} (mu:Nat→Option Blk) (size:Nat) (v:CV) (K:TV→List (Nat×Blk)→Option R):Option R :=
 match v with
 | .ptr id off=>bif Nat.beq off 0 then match mu id with
   |some (.rbox es x)=>bif Nat.beq es.len size then match es,x with
     | .cons t ts,x=>match asRow t (.cons t ts) x with
      |some l=>K (.c (.ro (.cons t .nil) l)) []
      |none=>none
     | .nil,_=>none
    else none
   |_=>none
  else none
 |_=>none
noncomputable def opU {R:Type} (C:Ctx) (env:Nat→TV) (mu:Nat→Option Blk) (idb rid i:Nat) (o:Oper) (K:TV→List (Nat×Blk)→Option R):Option R :=
 match o.op with
 | .move x| .assign x=>K (evalTV env x) []
 | .pick c a b=>match evalTV env c with
  | .c (.bool t)=>bif t then K (evalTV env a) [] else K (evalTV env b) []
  |_=>none
 | .alloc e=>match C.ty e with
  |some t=>K (.c (.ptr idb 0)) [(idb,.box t.zero)]
  |none=>none
 | .box t v=>match cellsOf (evalTV env v) with
  |some cs=>bif (C.site rid i).isEmpty then K (.c (.ptr idb 0)) [(idb,.box cs)] else (packs (R:=(C.es t).D×List Use) app0 (fun _=>none) (C.es t) [] 0 cs [] packEnd).bind fun p=>match p.2 with
    | []=>K (.c (.ptr idb 0)) [(idb,.box cs),(idb,.rbox (C.es t) p.1)]
    |_::_=>none
  |none=>none
 | .build t parts=>match C.ty t with
  |some ti=>match ti.k with
   | .struct=>match buildCV ti.flds (parts.toList.map fun p=>(p.1,evalTV env p.2)) ti.zero with
    |some cs=>K (.agg cs) []
    |none=>none
   |_=>none
  |none=>none
 | .buildSlice t len parts=>match elemTI C t with
  |some (e,te)=>bif Nat.ble (len*te.size) 16777216&&Nat.beq parts.size len&&Nat.blt 0 te.size&&Nat.ble te.size 62 then litElems mu (C.es e) (C.site rid i) (parts.toList.map fun p=>(p.1,evalTV env p.2)) 0 [] fun xs us =>
    bif usesOk us then K (.c (.own idb)) (fzs mu us++ [(idb,.row (C.es e) (C.site rid i) xs 0)]) else none
   else none
  |none=>none
 | .load t a=>match C.ty t,evalTV env a with
  |some ti,.c v=>loadU mu v ti.size fun cs=>K (TV.ofCells (match ti.k with| .struct=>true|_=>false) cs) []
  |_,_=>none
 | .store t a v=>match C.ty t,evalTV env a,cellsOf (evalTV env v) with
  |some ti,.c a,some vs=>bif Nat.beq vs.length ti.size then (bif (C.site rid i).isEmpty then storeU mu a vs (fun ms=>K .und ms) else freezeU mu (C.es t) a vs (fun ms=>K .und ms)) else none
  |_,_,_=>none
 | .nilCheck x=>match evalTV env x with
  | .c (.ptr id off)=>K (.c (.ptr id off)) []
  | .c (.eptr id sz i off)=>K (.c (.eptr id sz i off)) []
  | .c (.rptr es y off)=>K (.c (.rptr es y off)) []
  |_=>none
 | .binOp op t x y _=>binU mu (match C.ty t with|some ti=>ti.k|none=> .other) (match C.ty t with|some ti=>ti.eq|none=>none) op (evalTV env x) (evalTV env y) fun v=>K v []
 | .unOp op _ x=>match op,evalTV env x with
  | .not,.c (.bool b)=>K (.c (.bool (!b))) []
  | .neg,.c (.int k n)=>K (.c (.int k (iSub k 0 n))) []
  | .xor,.c (.int k n)=>K (.c (.int k (iXor k (if k.signed then -1 else k.max) n))) []
  |_,_=>none
 | .convert s d x=>match C.ty s,C.ty d,evalTV env x with
  |some si,some ti,.c v=>match ti.k,v with
   | .int k',.int _ n=>K (.c (.int k' (k'.wrap n))) []
   | .str,.str s=>K (.c (.str s)) []
   | .str,v=>match si.k with
    | .slice e=>match C.ty e with
     |some te=>match te.k with
      | .int .u8=>match v with
       | .nils=>K (.c (.str ⟨#[]⟩)) []
       |v=>content mu v fun es xs=>match Tys.eq? es tyBytes with
        |some ⟨h⟩=>K (.c (.str (bytesStr (castL h xs)))) []
        |none=>none
      |_=>none
     |none=>none
    |_=>none
   |_,_=>none
  |_,_,_=>none
 | .makeFunc (.func f) first captured=>bif first.isEmpty then
   match capIds env captured.toList with
   |some l=>K (.c (.clo f l)) []
   |none=>none
   else none
 | .makeSlice t l c=>match elemTI C t,evalTV env l,evalTV env c with
  |some (e,te),.c (.int k n),.c (.int k' n')=>if k= .i64∧k'= .i64 then bif Nat.blt 0 te.size&&mkOk n n' te.bytes then
     packs app0 mu (C.es e) (C.site rid i) 0 te.zero [] fun z rest us=>match rest,us with
      | [],[]=>K (.c (.own idb)) [(idb,.row (C.es e) (C.site rid i) (List.replicate n.toNat z) 0)]
      |_,_=>none
    else none else none
  |_,_,_=>none
 | .slice t x lo hi none=>match C.ty t,evalTV env x with
  |some ti,.c v=>match ti.k,v with
   | .str,.str s=>sliceU mu (.str s) (lo.map (evalTV env)) (hi.map (evalTV env)) K
   | .slice _,v=>match elemTI C t,v with
    |_,.str _=>none
    |some (e,_),v=>bif esOk mu (C.es e).len v then sliceU mu v (lo.map (evalTV env)) (hi.map (evalTV env)) K else none
    |none,_=>none
   | .struct,v=>bif ti.ags.isEmpty&& !ti.flds.isEmpty&&lo.isNone&&hi.isNone then sliceArr mu ti.size v K else none
   |_,_=>none
  |_,_=>none
 | .fieldAddr s x f=>match structFld C s f,evalTV env x with
  |some (off,_),.c v=>match v with
    | .ptr id o=>K (.c (.ptr id (o+off))) []
    | .eptr id sz i o=>K (.c (.eptr id sz i (o+off))) []
    | .rptr es y o=>K (.c (.rptr es y (o+off))) []
    |_=>none
  |_,_=>none
 | .field s x f=>match structFld C s f,evalTV env x,structAg C s f with
  |some (off,n),.agg vs,some ag=>bif ag then K (.agg ((vs.drop off).take n)) [] else (match ((vs.drop off).take n) with
    | [v]=>K (.c v) []
    |_=>none)
  |_,_,_=>none
 | .indexAddr t x y=>match elemTI C t,evalTV env x,evalTV env y with
  |some (e,_),.c v,.c (.int _ n)=>bif esOk mu (C.es e).len v then idxU mu v n fun p=>K (.c p) [] else none
  |_,_,_=>none
 | .index t x y=>match C.ty t,evalTV env x,evalTV env y with
  |some ti,.c (.str s),.c (.int _ n)=>match ti.k with
   | .str=>(getI s.data.toList n).bind fun b=>K (.c (.int .u8 b.toNat)) []
   |_=>none
  |_,_,_=>none
 | .extract x i=>match evalTV env x with
  | .tup vs=>match vs[i]? with
   |some v=>K (one1 v) []
   |none=>none
  |_=>none
 | .call c=>match c.callee with
  | .builtin b=>builtinU C mu idb rid i b c.argTypes.toList (c.args.toList.map (evalTV env)) K
  | .value f=>match evalTV env f with
   | .c (.fnp f)=>callE C mu idb f (c.args.toList.map (evalTV env)) K
   | .c (.fnd sh as rs g)=>fndU mu sh as rs g (c.args.toList.map (evalTV env)) K
   |_=>none
  |_=>none
 |_=>none
def wrOf (env:Nat→TV) (o:Oper) (ms:List (Nat×Blk)):List Wr :=
 match o.op with
 | .store _ a v=>match evalTV env a,cellsOf (evalTV env v),ms with
  | .c (.ptr id off),some vs,[_]=> [.cell id off vs.length]
  |_,_,_=>ms.map fun x=> .all x.1
 |_=>ms.map fun x=> .all x.1
def St.put (st:St) (dst:Option Nat) (v:TV) (ms:List (Nat×Blk)) (wr:List Wr):St :=
 {env:=match dst with|some d=>upd st.env d v|none=>st.env,mu:=updL st.mu ms,
  tw:=match dst with|some d=>d::st.tw|none=>st.tw,mw:=wr++st.mw,nx:=st.nx}
def St.refine (st:St) (t:Nat) (b:Bool):St:={st with env:=upd st.env t (.c (.bool b))}
def dstOk (nt:Nat):Option Nat→Bool
 |some d=>Nat.blt d nt
 |none=>true
def idsOk (n:Nat) (ms:List (Nat×Blk)):Bool:=ms.all fun x=>Nat.blt x.1 n
noncomputable def opsU {R:Type} (C:Ctx) (rid:Nat) (all:List Oper) (nx:Nat):List Oper→(i:Nat)→St→(St→Option R)→Option R
 | [],_,st,K=>K st
 |o::r,i,st,K=>bif dstOk C.nt o.dst then
  let run (st:St):Option R:=opU C st.env st.mu ((nx+i)*2048) rid i o fun v ms=>bif idsOk ((nx+i)*2048+2048) ms then opsU C rid all nx r (i+1) (st.put o.dst v ms (wrOf st.env o ms)) K else none
  let skip (st:St):Option R:=opsU C rid all nx r (i+1) (st.put o.dst .und [] []) K
  match o.guard with
  |none=>run st
  |some (j,want)=>match (all[j]?).bind (·.dst) with
   |none=>none
   |some d=>match st.env d with
    | .c (.bool b)=>bif b then (bif want then run (st.refine d true) else skip (st.refine d true)) else (bif want then skip (st.refine d false) else run (st.refine d false))
    | .und=>skip st
    |_=>none
  else none
def flatTy:Ty→Bool
 | .int _=>true
 | .bool=>true
 | .str=>true
 |_=>false
def flatTys:Tys→Bool
 | .nil=>true
 | .cons t ts=>flatTy t&&flatTys ts
def opReads (C:Ctx):Op→Bool
 | .move _| .assign _| .pick .. | .alloc _| .box .. | .build .. | .nilCheck _| .unOp .. | .fieldAddr .. | .field .. | .extract .. | .makeFunc .. =>false
 | .binOp _ t _ _ _=>match C.ty t with
  |some ti=>match ti.k with
   | .slice _=>true
   |_=>false
  |none=>true
 | .buildSlice t _ _=>match elemTI C t with
  |some (e,_)=> !flatTys (C.es e)
  |none=>true
 |_=>true
def opDet (C:Ctx):Op→Bool
 | .binOp _ t _ _ _=>match C.ty t with
  |some ti=>match ti.k with
   | .slice _=>false
   |_=>true
  |none=>false
 |_=>true
def preL:List Oper→List Nat→List Nat
 | [],acc=>acc
 |o::r,acc=>preL r (acc++ [o.after.toList.foldl (fun s e=>bif Region.binds .any e then Nat.lor (Nat.lor s (Nat.pow 2 e.on)) (acc.getD e.on 0) else s) 0])
def bitOf (m i:Nat):Bool:=Nat.beq (Nat.land (Nat.shiftRight m i) 1) 1
def drawRow (all:Array Oper) (o:Oper) (m:Nat):List Oper→Nat→Nat→Bool
 | [],_,_=>true
 |x::r,i,j=>(bif Nat.blt i j then bitOf m i||x.apart all o else true)&&drawRow all o m r (i+1) j
def drawOk (C:Ctx) (all:Array Oper) (ops:List Oper):List Oper→List Nat→Nat→Bool
 | [],_,_=>true
 |o::r,pre,j=>opDet C o.op&&Nat.blt (pre.headD 0) (Nat.pow 2 j)&&drawRow all o (pre.headD 0) ops 0 j&&drawOk C all ops r pre.tail (j+1)
def muPre (mu0:Nat→Option Blk) (m:Nat):List (Nat×List (Nat×Blk))→Nat→Option Blk
 | []=>mu0
 |(k,ms)::r=>bif bitOf m k then updL (muPre mu0 m r) ms else muPre mu0 m r
def rdOf (C:Ctx) (rid i:Nat):Option (List Nat):=(C.jn (3000000+rid*1024+i)).map (·.dead)
def sees (C:Ctx) (rid i x:Nat):Bool:=match rdOf C rid i with
 |none=>true
 |some l=>l.any (Nat.beq x)
def looks (C:Ctx) (rid i x:Nat) (o:Op):Bool:=opReads C o&&sees C rid i x
def cvIn (l:List Nat):CV→Bool
 | .ro _ _=>true
 | .nils=>true
 | .str _=>true
 | .rptr _ _ _=>true
 | .own id=>l.any (Nat.beq id)
 | .nref id _ _ _=>l.any (Nat.beq id)
 | .ptr id _=>l.any (Nat.beq id)
 | .eptr id _ _ _=>l.any (Nat.beq id)
 |_=>false
def cvFz (mu:Nat→Option Blk):CV→Bool
 | .ro _ _=>true
 | .nils=>true
 | .own id=>match mu id with
  |some (.fz _ _)=>true
  |_=>false
 |_=>false
def rdOk (C:Ctx) (rid i:Nat) (env:Nat→TV) (mu:Nat→Option Blk) (o:Op):Bool:=match rdOf C rid i with
 |none=>true
 |some l=>match o with
  | .load _ a=>match evalTV env a with
   | .c v=>cvIn l v
   |_=>false
  | .indexAddr _ a _=>match evalTV env a with
   | .c v=>cvIn l v
   |_=>false
  | .slice _ a _ _ none=>match evalTV env a with
   | .c v=>cvIn l v&&cvFz mu v
   |_=>false
  | .call c=>match c.callee with
   | .builtin .len=>match c.args.toList.map (evalTV env) with
    | [.c v]=>cvIn l v
    |_=>false
   |_=>false
  |_=>false
def loneW (C:Ctx) (rid x m i:Nat) (q:Nat→Bool):List Oper→List Nat→Nat→Bool
 |o::r,pre,j=>(Nat.beq i j||bitOf m j||bitOf (pre.headD 0) i|| !looks C rid j x o.op|| !q (pre.headD 0))&&loneW C rid x m i q r pre.tail (j+1)
 | [],_,_=>true
def msOk (C:Ctx) (rid:Nat) (ops:List Oper) (pre:List Nat) (nx m i:Nat) (ms:List (Nat×Blk)):Bool :=
 ms.all fun x=>let k:=Nat.div x.1 2048;Nat.beq k (nx+i)||(bif Nat.blt k nx then loneW C rid x.1 m i (fun _=>true) ops pre 0 else bitOf m (k - nx)&&loneW C rid x.1 m i (fun p=>bitOf p (k - nx)) ops pre 0)
noncomputable def opsD {R:Type} (C:Ctx) (rid:Nat) (all:List Oper) (pre:List Nat) (nx:Nat) (mu0:Nat→Option Blk):List Oper→(i:Nat)→List (Nat×List (Nat×Blk))→St→(St→Option R)→Option R
 | [],_,_,st,K=>K st
 |o::r,i,hist,st,K=>bif dstOk C.nt o.dst then
  let m:=pre.getD i 0
  let next (st:St) (v:TV) (ms:List (Nat×Blk)) (wr:List Wr):Option R:=bif msOk C rid all pre nx m i ms then opsD C rid all pre nx mu0 r (i+1) ((i,ms)::hist) (st.put o.dst v ms wr) K else none
  let run (st:St):Option R:=bif rdOk C rid i st.env (muPre mu0 m hist) o.op then opU C st.env (muPre mu0 m hist) ((nx+i)*2048) rid i o fun v ms=>next st v ms (wrOf st.env o ms) else none
  let skip (st:St):Option R:=next st .und [] []
  match o.guard with
  |none=>run st
  |some (j,want)=>match (all[j]?).bind (·.dst) with
   |none=>none
   |some d=>match st.env d with
    | .c (.bool b)=>bif b then (bif want then run (st.refine d true) else skip (st.refine d true)) else (bif want then skip (st.refine d false) else run (st.refine d false))
    | .und=>skip st
    |_=>none
  else none
def frz1 (st:St) (id:Nat):St:=match st.mu id with
 |some (.row es _ xs _)=>st.put none .und [(id,.fz es xs)] [.all id]
 |_=>st
def frzSt (C:Ctx) (rid:Nat) (st:St):St:=match C.jn (4000000+rid) with
 |none=>st
 |some an=>an.dead.foldl frz1 st
noncomputable def regionU {R:Type} (C:Ctx) (rid:Nat) (ops:Array Oper) (draw:Bool) (st:St) (K:St→Option R):Option R :=
 bif draw then
  bif drawOk C ops ops.toList ops.toList (preL ops.toList []) 0 then
   opsD C rid ops.toList (preL ops.toList []) st.nx st.mu ops.toList 0 [] st fun st'=>K {st' with nx:=st.nx+ops.size}
  else none
 else opsU C rid ops.toList st.nx ops.toList 0 st fun st'=>K {st' with nx:=st.nx+ops.size}
def itemTy:Item→Ty
 | .t _ ty _=>ty
 | .b _ _ ty _=>ty
 | .r _ es _=> .sl es
def itemMd:Item→Md
 | .t _ _ md=>md
 | .b _ _ _ md=>md
 | .r _ _ ms=> .own ms
def itemsTy:List Item→Tys
 | []=> .nil
 |x::r=> .cons (itemTy x) (itemsTy r)
def itemCV (st:St):Item→CV
 | .t n _ _=>match st.env n with
  | .c v=>v
  |_=> .un
 | .b id j _ _=>match st.mu id with
  |some (.box cs)=>cs.getD j .un
  |_=> .un
 | .r id _ _=> .own id
def itemId (nx k:Nat):Item→Nat
 | .r id _ _=>id
 |_=>nx*2048+k
def packItems {R:Type} (st:St) (nx:Nat):(items:List Item)→(k:Nat)→List Use→((itemsTy items).D→List Use→Option R)→Option R
 | [],_,us,K=>K () us
 |x::r,k,us,K=>packLeaf app0 st.mu (itemTy x) (itemMd x) (itemId nx k x) (itemCV st x) us fun v us=>packItems st nx r (k+1) us fun w us=>K (v,w) us
def tellsB (items:List Item) (id j:Nat):Bool:=items.any fun x=>match x with
  | .b i k _ _=>Nat.beq i id&&Nat.beq k j
  |_=>false
def tellsR (items:List Item) (id:Nat):Bool:=items.any fun x=>match x with
  | .r i _ _=>Nat.beq i id
  |_=>false
def tellsBs (items:List Item) (id:Nat):(off n:Nat)→Bool
 |_,0=>true
 |off,n+1=>tellsB items id off&&tellsBs items id (off+1) n
def mwOk (st0:St) (a:Ann):Wr→Bool
 | .all id=>Nat.ble (st0.nx*2048) id||a.dead.any (Nat.beq id)||tellsR a.items id||(match st0.mu id with|some (.box cs)=>Nat.blt 0 cs.length&&tellsBs a.items id 0 cs.length|_=>false)
 | .cell id off n=>Nat.ble (st0.nx*2048) id||a.dead.any (Nat.beq id)||tellsBs a.items id off n
def twOk (a:Ann) (n:Nat):Bool :=
 a.clear.any (Nat.beq n)||a.items.any fun x=>match x with
  | .t m _ _=>Nat.beq m n
  |_=>false
def usOk (st0 st:St) (a:Ann):Use→Bool
 | .mv id to=>Nat.ble (st0.nx*2048) id||a.dead.any (Nat.beq id)||Nat.beq id to
 | .pm id=>Nat.ble (st0.nx*2048) id||a.dead.any (Nat.beq id)||(match st.mu id with|some (.fz _ _)=>true|_=>false)
def mdTy:Ty→Md→Bool
 |_,.sh=>true
 | .sl _,.own _=>true
 |_,.own _=>false
def stOk (st0:St) (a:Ann):Bool :=
 (a.items.all fun x=>match x with
  | .t _ ty md=>mdTy ty md
  | .b id j ty md=>mdTy ty md&&(match st0.mu id with|some (.box cs)=>Nat.blt j cs.length&& !a.dead.any (Nat.beq id)|_=>false)
  | .r id _ _=>(match st0.mu id with|some (.row _ _ _ _)=> !a.dead.any (Nat.beq id)|_=>false))&&(a.dead.all fun id=>Nat.blt id (st0.nx*2048))&&Nat.ble a.items.length 2048
def itemTw:Item→List Nat
 | .t n _ _=> [n]
 |_=> []
def itemMw:Item→List Wr
 | .b id j _ _=> [.cell id j 1]
 | .r id _ _=> [.all id]
 |_=> []
def unItem (k:Nat) (st:St) (x:Item) (v:(itemTy x).D):St :=
 match x,v with
 | .t n ty md,v=>match md with
  | .sh=>{st with env:=upd st.env n (.c (ty.ro v))}
  | .own ms=>{st with env:=upd st.env n (.c (.own k)),mu:=updL st.mu (outRow ty md k v)}
 | .b id j ty md,v =>
  let put (st:St) (cv:CV):St:=match st.mu id with
   |some (.box cs)=>{st with mu:=upd st.mu id (some (.box (cs.set j cv)))}
   |_=>st
  match md with
  | .sh=>put st (ty.ro v)
  | .own ms=>let st:=put st (.own k);{st with mu:=updL st.mu (outRow ty md k v)}
 | .r id es ms,v=>match st.mu id with
  |some (.row _ _ _ ver)=>{st with mu:=upd st.mu id (some (.row es ms v (ver+1)))}
  |_=>st
def unItems (nx:Nat):(items:List Item)→(k:Nat)→St→(itemsTy items).D→St
 | [],_,st,_=>st
 |x::r,k,st,v=>unItems nx r (k+1) (unItem (itemId nx k x) st x v.1) v.2
def fzsI (mu:Nat→Option Blk):List Use→List (Nat×Blk)
 | []=> []
 | .mv id to::r=>(bif Nat.beq id to then [] else [(id,.dead)])++fzsI mu r
 | .pm id::r=>(match mu id with|some (.row es _ xs _)=> [(id,.fz es xs)]|some (.box _)=> [(id,.dead)]|_=> [])++fzsI mu r
def reState (st0:St) (us:List Use) (a:Ann) (v:(itemsTy a.items).D):St :=
 let env:=fun n=>bif a.clear.any (Nat.beq n) then .un else st0.env n
 unItems st0.nx a.items 0 {env:=env,mu:=updL (updL st0.mu (fzsI st0.mu us)) (a.dead.map fun n=>(n,.dead)),nx:=st0.nx+1,tw:=a.items.flatMap itemTw++(a.clear++st0.tw),mw:=a.items.flatMap itemMw++(us.map (fun u=> .all (useId u))++(a.dead.map .all++st0.mw))} v
def loopIter {S E:Type} (f:S→Option (Sum S E)):Nat→S→Option E
 |0,_=>none
 |n+1,s=>match f s with
  |none=>none
  |some (.inl s')=>loopIter f n s'
  |some (.inr e)=>some e
noncomputable def loopF {S E:Type} (f:S→Option (Sum S E)) (s:S):Option E :=
 @dite _ (∃n e,loopIter f n s=some e) (Classical.propDecidable _) (fun h=>some (Classical.choose (Classical.choose_spec h))) (fun _=>none)
def repack {R:Type} (st0 st:St) (a:Ann) (K:(itemsTy a.items).D→Option R):Option R :=
 bif st.tw.all (twOk a)&&st.mw.all (mwOk st0 a) then
  packItems st st0.nx a.items 0 [] fun v us=>bif usesOk us&&us.all (usOk st0 st a) then K v else none
 else none
def firstRegion:Code→Nat
 | .region r _ _=>r
 | .seq a _=>firstRegion a
 | .block _ c=>firstRegion c
 | .loop c=>firstRegion c
 | .cond _ a _=>firstRegion a
 |_=>1000000
def since (s0 st:St):St:={st with tw:=st.tw++s0.tw,mw:=st.mw++s0.mw}
noncomputable def exec (C:Ctx) {Y:Type} (fin:{R:Type}→St→(Y→Option R)→Option R):Code→{R:Type}→(inj:Y→R)→St→(kn:St→Option R)→(ke:Nat→St→Option R)→Option R
 | .skip,_,_,st,kn,_=>kn st
 | .region r ops draw,_,_,st,kn,_=>regionU C r ops draw (frzSt C r st) kn
 | .seq a b,_,inj,st,kn,ke=>match C.jn (firstRegion b) with
  |none=>exec C fin a inj st (fun st'=>exec C fin b inj st' kn ke) ke
  |some an=>bif stOk st an then (exec C fin a (R:=Sum (itemsTy an.items).D _) (fun y=> .inr (inj y)) {st with tw:= [],mw:= []}
    (fun st'=>repack st st' an fun v=>some (.inl v))
    (fun id st'=>(ke id {st' with tw:=st'.tw++st.tw,mw:=st'.mw++st.mw}).map .inr)).bind fun r=>Sum.elim
     (fun v=>exec C fin b inj (reState st [] an v) kn ke) some r else none
 | .cond c a b,_,inj,st,kn,ke=>match c with
  | .tmp t=>match st.env t with
   | .c (.bool x)=>bif x then exec C fin a inj (st.refine t true) kn ke else exec C fin b inj (st.refine t false) kn ke
   |_=>none
  |_=>none
 | .block id c,R,inj,st,kn,ke=>match C.lp id with
  |none=>exec C fin c inj st kn fun id' st'=>bif Nat.beq id' id then kn st' else ke id' st'
  |some an=>match c with
   | .loop body=>match C.jn (id+2000000) with
    |none=>packItems st st.nx an.items 0 [] fun v0 us=>bif usesOk us&&stOk st an then
     (loopF (E:=Sum (itemsTy an.items).D R) (fun v=>exec C fin body (R:=Sum (itemsTy an.items).D (Sum (itemsTy an.items).D R)) (fun y=> .inr (.inr (inj y)))
       {reState st us an v with tw:= [],mw:= []}
       (fun st'=>repack st st' an fun v=>some (.inl v))
       (fun id' st'=>bif Nat.beq id' id then repack st st' an fun v=>some (.inr (.inl v)) else none)) v0).bind fun r=>Sum.elim
      (fun v=>kn (reState st us an v)) some r
     else none
    |some a2=>packItems st st.nx an.items 0 [] fun v0 us=>bif usesOk us&&stOk st an then
     (loopF (E:=Sum (itemsTy an.items).D R) (fun v=>exec C fin body (R:=Sum (itemsTy an.items).D (Sum (itemsTy an.items).D R)) (fun y=> .inr (.inr (inj y)))
       {reState st us an v with tw:= [],mw:= []}
       (fun st'=>bif st'.tw.all (twOk an)&&st'.mw.all (mwOk st an) then repack st st' an fun v=>some (.inl v) else
        Option.map (fun r=> .inr (.inr r)) (packItems (since (reState st us an v) st') st'.nx a2.items 0 [] fun v0 us2=>bif usesOk us2&&stOk (since (reState st us an v) st') a2 then
         (loopF (E:=Sum (itemsTy a2.items).D R) (fun v2=>exec C fin body (R:=Sum (itemsTy a2.items).D (Sum (itemsTy a2.items).D R)) (fun y=> .inr (.inr (inj y)))
           {reState (since (reState st us an v) st') us2 a2 v2 with tw:= [],mw:= []}
           (fun s3=>repack (since (reState st us an v) st') s3 a2 fun v=>some (.inl v))
           (fun id' s3=>bif Nat.beq id' id then repack (since (reState st us an v) st') s3 a2 fun v=>some (.inr (.inl v)) else none)) v0).bind fun r=>Sum.elim
          (fun v2=>kn (reState (since (reState st us an v) st') us2 a2 v2)) some r
         else none))
       (fun id' st'=>bif Nat.beq id' id then repack st st' an fun v=>some (.inr (.inl v)) else none)) v0).bind fun r=>Sum.elim
      (fun v=>kn (reState st us an v)) some r
     else none
   |_=>none
 | .exit id,_,_,st,_,ke=>ke id st
 | .ret,_,inj,st,_,_=>fin st fun y=>some (inj y)
 |_,_,_,_,_,_=>none
noncomputable def recF {A B:Type} (R:Nat→A→Option B) (x:A):Option B :=
 @dite _ (∃k y,R k x=some y) (Classical.propDecidable _) (fun h=>R (Classical.choose h) x) (fun _=>none)
theorem recF_some {A B:Type} {R:Nat→A→Option B} {x:A} {y:B} (h:recF R x=some y):∃k,R k x=some y:=by
 unfold recF at h
 split at h
 ·exact ⟨_,h⟩
 ·cases h
theorem recF_ex {A B:Type} {R:Nat→A→Option B} {x:A} (h:∃k y,R k x=some y):∃y,recF R x=some y:=by
 unfold recF
 rw [dif_pos h]
 exact Classical.choose_spec h
end Go.Tm
/- The pure machine, 3: a function's beginning and end. -/
namespace Go.Tm
open Go
def startTV (m:Nat) (g:Grp) (x:g.ts.D):TV :=
 match g.k with
 | .c=>match outCVs g.ts g.ms (64*m+1) x with
  | [v]=> .c v
  |_=> .un
 | .agg=> .agg (outCVs g.ts g.ms (64*m+1) x)
 | .wc=>match outCVs g.ts g.ms (64*m+1) x with
  | [v]=> .c v
  |_=> .un
 | .wa=> .agg (outCVs g.ts g.ms (64*m+1) x)
 | .rp=> .c (.rptr g.ts x 0)
 |_=> .c (.ptr (64*m) 0)
def startMem (m:Nat) (g:Grp) (x:g.ts.D):List (Nat×Blk) :=
 match g.k with
 | .rp=> []
 | .io=>(64*m,.box (outCVs g.ts g.ms (64*m+1) x))::outRows g.ts g.ms (64*m+1) x
 |_=>outRows g.ts g.ms (64*m+1) x
def startEnv:(gs:List Grp)→(m:Nat)→GD gs→Nat→TV
 | [],_,_=>fun _=> .un
 |g::gs,m,x=>upd (startEnv gs (m+1) x.2) m (startTV m g x.1)
def startMu:(gs:List Grp)→(m:Nat)→GD gs→List (Nat×Blk)
 | [],_,_=> []
 |g::gs,m,x=>startMem m g x.1++startMu gs (m+1) x.2
def startSt (ins:List Grp) (x:GD ins):St :=
 {env:=startEnv ins 0 x,mu:=updL mu0 (startMu ins 0 x),tw:= [],mw:= [],nx:=1}
def aggOk:PK→TK→Bool
 | .agg,.struct=>true
 | .c,.struct=>false
 | .c,_=>true
 |_,_=>false
def resU {R:Type} (C:Ctx) (st:St) (g:Grp) (to:Nat) (rv:ResultVar) (us:List Use) (K:List CV→List Use→Option R):Option R :=
 match rv with
 | .tmp t=>match g.k,st.env t with
  | .c,.c v=>K [v] us
  | .agg,.agg vs=>K vs us
  | .np,.c (.ptr id 0)=>match st.mu id with
   |some (.box cs)=>K cs (.mv id to::us)
   |_=>none
  |_,_=>none
 | .cell a t=>match C.ty t,st.env a with
  |some ti,.c v=>bif aggOk g.k ti.k then loadU st.mu v ti.size fun cs=>K cs us else none
  |_,_=>none
def finG {R:Type} (C:Ctx) (st:St):(outs:List Grp)→(r:Nat)→List ResultVar→(io:List Tg)→List Use→(GD outs→List Use→Option R)→Option R
 | [],_,rvs,io,us,K=>match rvs,io with
  | [],[]=>K () us
  |_,_=>none
 |g::gs,r,rvs,io,us,K =>
  match rvs with
  |rv::rvs=>resU C st g (64*r) rv us fun cvs us=>packs app0 st.mu g.ts g.ms (64*r+1) cvs us fun x cvs us=>match cvs with
    | []=>finG C st gs (r+1) rvs io us fun y us=>K (x,y) us
    |_=>none
  | []=>match io with
   | []=>none
   | .cv vs::io=>packs app0 st.mu g.ts g.ms (64*r+1) vs us fun x cvs us=>match cvs with
     | []=>finG C st gs (r+1) [] io us fun y us=>K (x,y) us
     |_=>none
   | .bx id::io=>match st.mu id with
    |some (.box cs)=>packs app0 st.mu g.ts g.ms (64*r+1) cs (.mv id (64*r)::us) fun x cvs us=>match cvs with
     | []=>finG C st gs (r+1) [] io us fun y us=>K (x,y) us
     |_=>none
    |_=>none
def ioNums:(gs:List Grp)→Nat→GD gs→List Tg
 | [],_,_=> []
 |g::gs,m,x=>match g.k with
  | .io=> .bx (64*m)::ioNums gs (m+1) x.2
  | .wc=> .cv (outCVs g.ts g.ms (64*m+1) x.1)::ioNums gs (m+1) x.2
  | .wa=> .cv (outCVs g.ts g.ms (64*m+1) x.1)::ioNums gs (m+1) x.2
  |_=>ioNums gs (m+1) x.2
def finU (C:Ctx) (fn:Func) (ins outs:List Grp) (x:GD ins) {R:Type} (st:St) (K:GD outs→Option R):Option R :=
 finG C st outs 0 fn.results.toList (ioNums ins 0 x) [] fun y us=>bif usesOk us then K y else none
noncomputable def runF (C:Ctx) (fn:Func) (ins outs:List Grp) (x:GD ins):Option (GD outs) :=
 match fn.body with
 |some c=>bif gsOk ins&&Nat.ble ins.length fn.ntmps&&Nat.beq fn.ntmps C.nt then exec C (finU C fn ins outs x) c (R:=GD outs) id (startSt ins x) (fun st=>finU C fn ins outs x st some) (fun _ _=>none) else none
 |none=>none
end Go.Tm
/- The pure machine, 4: what it means that data lie in memory; ownership; how facts are kept. -/
namespace Go.Tm
open Go
inductive Own where
 |x
 |p
 |o (π:List Nat)
structure Wf (w:World) (o:Nat→Nat→Own):Prop where
 cell:∀b k π,o b k= .o π→(∃v,w.cell? ⟨b,k,none⟩=some v)∧∀j,w.frozen? ⟨b,j,none⟩=false
 ne:∀b k,o b k≠ .o []
structure Fr (w:World) (o:Nat→Nat→Own) (w':World) (o':Nat→Nat→Own):Prop where
 os:w'.os=w.os
 tape:w'.tape=w.tape
 output:w'.output=w.output
 size:w.heap.size≤w'.heap.size
 blk:∀b:Nat,b<w.heap.size→(∀k π,o b k≠ .o π)→w'.heap[b]?=w.heap[b]?
 cell:∀b k v,w.cell? ⟨b,k,none⟩=some v→(∀π,o b k≠ .o π)→w'.cell? ⟨b,k,none⟩=some v∧o' b k=o b k
 there:∀b k v,w.cell? ⟨b,k,none⟩=some v→∃v',w'.cell? ⟨b,k,none⟩=some v'
 frz:∀b k,b<w.heap.size→w'.frozen? ⟨b,k,none⟩=w.frozen? ⟨b,k,none⟩
theorem cell_lt {w:World} {b k:Nat} {v:Value} (h:w.cell? ⟨b,k,none⟩=some v):b<w.heap.size:=World.block_lt_of_cell? w ⟨b,k,none⟩ h
theorem Fr.refl (w:World) (o:Nat→Nat→Own):Fr w o w o :=
 ⟨rfl,rfl,rfl,Nat.le_refl _,fun _ _ _=>rfl,fun _ _ _ h _=>⟨h,rfl⟩,fun _ _ v h=>⟨v,h⟩,fun _ _ _=>rfl⟩
def PermKeep (w:World) (o:Nat→Nat→Own) (w':World) (o':Nat→Nat→Own):Prop :=
 ∀b k v,w.cell? ⟨b,k,none⟩=some v→o b k= .p→w'.cell? ⟨b,k,none⟩=some v∧o' b k= .p
theorem PermKeep.trans {w w1 w2:World} {o o1 o2:Nat→Nat→Own} (h:PermKeep w o w1 o1) (k:PermKeep w1 o1 w2 o2):PermKeep w o w2 o2 :=
 fun b j v hc ho=>let ⟨a,c⟩:=h b j v hc ho;k b j v a c
theorem Fr.perm {w w':World} {o o':Nat→Nat→Own} (h:Fr w o w' o'):PermKeep w o w' o':=fun b k v hc ho =>
 let ⟨a,c⟩:=h.cell b k v hc (by simp [ho]);⟨a,by rw [c,ho]⟩
def shOk:List Nat→List Value→Prop
 | [],[]=>True
 |0::s,v::r=>v.cells= #[v]∧shOk s r
 |(n+1)::s,v::r=>(∃a,v= .agg a∧a.size=n)∧shOk s r
 |_,_=>False
def CapOk (ad:Addr) (c:Nat):Prop:=ad.spot=none∧c≤9223372036854775807
def Enters (P:Program) (f:Nat):Prop:=∀args w,(callFunc f args).run P w= .ok (.enter f args) w
mutual
def Ty.H (P:Program):(t:Ty)→World→(Nat→Nat→Own)→Md→Own→t.D→Value→Prop
 | .int k,_,_,_,_,n,v=>v= .int k n
 | .bool,_,_,_,_,b,v=>v= .bool b
 | .str,_,_,_,_,s,v=>v= .string s
 | .sl es,w,o,md,q,xs,v=>∃a c,v= .slice a xs.length c∧xs.length≤c ∧
   match md,q with
   | .own ms,.o π=>(xs= []∧c=0)∨∃ad:Addr,a=some ad∧CapOk ad c∧(∀k,k<c*es.len→o ad.block (ad.off+k)= .o π) ∧
     ∀i x,getN (α:=es.D) xs i=some x→es.Hs P w o ms (.o π) (fun j=> .o (π++ [i,j])) 0 x ad.block (ad.off+i*es.len)
   |_,_=>xs= []∨∃ad:Addr,a=some ad∧ad.spot=none ∧
     ∀i x,getN (α:=es.D) xs i=some x→es.Hs P w o [] .p (fun _=> .p) 0 x ad.block (ad.off+i*es.len)
 | .fn sh as rs,w,o,_,_,g,v=>∃f caps,v= .func (.func f) #[] caps∧Enters P f ∧
   ∀w1 o1,PermKeep w o w1 o1→Wf w1 o1→∀x y args,g x=some y→shOk sh args→as.Vs P w1 o1 [] (fun _=> .p) 0 x (args.flatMap fun v=>v.cells.toList) →
    Calls P f (args.toArray++caps) w1 fun e w2=>∃v2 o2,e= .returned v2∧Fr w1 o1 w2 o2∧Wf w2 o2∧rs.Vs P w2 o2 [] (fun _=> .p) 0 y [v2]
def Tys.Hs (P:Program):(ts:Tys)→World→(Nat→Nat→Own)→List Md→Own→(Nat→Own)→Nat→ts.D→Nat→Nat→Prop
 | .nil,_,_,_,_,_,_,_,_,_=>True
 | .cons t ts,w,o,ms,qc,qf,j,x,b,off=>(∃v,w.cell? ⟨b,off,none⟩=some v∧o b off=qc∧t.H P w o (mdHd ms) (qf j) x.1 v)∧ts.Hs P w o (mdTl ms) qc qf (j+1) x.2 b (off+1)
def Tys.Vs (P:Program):(ts:Tys)→World→(Nat→Nat→Own)→List Md→(Nat→Own)→Nat→ts.D→List Value→Prop
 | .nil,_,_,_,_,_,_,vs=>vs= []
 | .cons t ts,w,o,ms,qf,j,x,vs=>∃v r,vs=v::r∧t.H P w o (mdHd ms) (qf j) x.1 v∧ts.Vs P w o (mdTl ms) qf (j+1) x.2 r
end
def Rl (w:World) (o:Nat→Nat→Own) (w':World) (o':Nat→Nat→Own) (q q':Own):Prop :=
 match q with
 | .o π=>(∃π',q'= .o π'∧∀b k s v,w.cell? ⟨b,k,none⟩=some v→o b k= .o (π++s)→w'.cell? ⟨b,k,none⟩=some v∧o' b k= .o (π'++s)) ∨
   (q'= .p∧∀b k s v,w.cell? ⟨b,k,none⟩=some v→o b k= .o (π++s)→w'.cell? ⟨b,k,none⟩=some v∧o' b k= .p)
 | .p=>q'= .p
 | .x=>False
theorem Rl.sub {w w':World} {o o':Nat→Nat→Own} {π:List Nat} {q':Own} (h:Rl w o w' o' (.o π) q') (l:List Nat) :
  Rl w o w' o' (.o (π++l)) (match q' with| .o π'=> .o (π'++l)|_=> .p):=by
 rcases h with ⟨π',rfl,h⟩|⟨rfl,h⟩
 ·exact .inl ⟨_,rfl,fun b k s v hc ho=>by rw [List.append_assoc] at ho;rw [List.append_assoc];exact h b k _ v hc ho⟩
 ·exact .inr ⟨rfl,fun b k s v hc ho=>by rw [List.append_assoc] at ho;exact h b k _ v hc ho⟩
section
variable {P:Program} {w:World} {o:Nat→Nat→Own}
theorem H_fn {md:Md} {q:Own} {sh:List Nat} {as rs:Tys} {g:as.D→Option rs.D} {v:Value}:(Ty.fn sh as rs).H P w o md q g v↔∃f caps,v= .func (.func f) #[] caps∧Enters P f ∧
   ∀w1 o1,PermKeep w o w1 o1→Wf w1 o1→∀x y args,g x=some y→shOk sh args→as.Vs P w1 o1 [] (fun _=> .p) 0 x (args.flatMap fun v=>v.cells.toList) →
    Calls P f (args.toArray++caps) w1 fun e w2=>∃v2 o2,e= .returned v2∧Fr w1 o1 w2 o2∧Wf w2 o2∧rs.Vs P w2 o2 [] (fun _=> .p) 0 y [v2]:=Iff.rfl
theorem Hs_cons {t:Ty} {ts:Tys} {ms:List Md} {qc:Own} {qf:Nat→Own} {j:Nat} {x:(Tys.cons t ts).D} {b off:Nat}:(Tys.cons t ts).Hs P w o ms qc qf j x b off ↔
  (∃v,w.cell? ⟨b,off,none⟩=some v∧o b off=qc∧t.H P w o (mdHd ms) (qf j) x.1 v)∧ts.Hs P w o (mdTl ms) qc qf (j+1) x.2 b (off+1):=Iff.rfl
theorem H_own {es:Tys} {ms:List Md} {π:List Nat} {xs:List es.D} {v:Value} :
  (Ty.sl es).H P w o (.own ms) (.o π) xs v↔∃a c,v= .slice a xs.length c∧xs.length≤c ∧
   ((xs= []∧c=0)∨∃ad:Addr,a=some ad∧CapOk ad c∧(∀k,k<c*es.len→o ad.block (ad.off+k)= .o π) ∧
     ∀i x,getN (α:=es.D) xs i=some x→es.Hs P w o ms (.o π) (fun j=> .o (π++ [i,j])) 0 x ad.block (ad.off+i*es.len)):=Iff.rfl
abbrev HSh (P:Program) (w:World) (o:Nat→Nat→Own) (es:Tys) (xs:List es.D) (v:Value):Prop:=∃a c,v= .slice a xs.length c∧xs.length≤c ∧
   (xs= []∨∃ad:Addr,a=some ad∧ad.spot=none ∧
     ∀i x,getN (α:=es.D) xs i=some x→es.Hs P w o [] .p (fun _=> .p) 0 x ad.block (ad.off+i*es.len))
theorem H_sh {es:Tys} {q:Own} {xs:List es.D} {v:Value}:(Ty.sl es).H P w o .sh q xs v↔HSh P w o es xs v:=by cases q<;>exact Iff.rfl
theorem H_p {es:Tys} {md:Md} {q:Own} {xs:List es.D} {v:Value} (hq:∀π,q≠ .o π):(Ty.sl es).H P w o md q xs v↔HSh P w o es xs v:=by
 cases md<;>cases q<;>first|exact Iff.rfl|exact absurd rfl (hq _)
end
section
variable {P:Program} {w w':World} {o o':Nat→Nat→Own}
def qOk (w:World) (o:Nat→Nat→Own) (w':World) (o':Nat→Nat→Own) (qf qf':Nat→Own):Prop:=∀j,Rl w o w' o' (qf j) (qf' j)
mutual
theorem H_md:∀(t:Ty) (md md':Md) (x:t.D) (v:Value),t.H P w o md .p x v→t.H P w o md' .p x v
 | .int _,_,_,_,_,h=>by unfold Ty.H at h ⊢;exact h
 | .bool,_,_,_,_,h=>by unfold Ty.H at h ⊢;exact h
 | .str,_,_,_,_,h=>by unfold Ty.H at h ⊢;exact h
 | .sl es,md,md',xs,v,h=>by
  unfold Ty.H at h ⊢
  cases md<;>cases md'<;>exact h
 | .fn _ _ _,_,_,_,_,h=>by unfold Ty.H at h ⊢;exact h
theorem Hs_md:∀(ts:Tys) (ms ms':List Md) (j:Nat) (x:ts.D) {b off:Nat},ts.Hs P w o ms .p (fun _=> .p) j x b off→ts.Hs P w o ms' .p (fun _=> .p) j x b off
 | .nil,_,_,_,_,_,_,_=>by unfold Tys.Hs;trivial
 | .cons t ts,ms,ms',j,x,b,off,h=>by
  unfold Tys.Hs at h ⊢
  obtain ⟨⟨v,hv,ho,ht⟩,h⟩:=h
  exact ⟨⟨v,hv,ho,H_md t _ _ _ _ ht⟩,Hs_md ts _ _ _ _ h⟩
end
mutual
theorem H_re (hp:PermKeep w o w' o') (hw:Wf w o):∀(t:Ty) (md:Md) (q q':Own) (x:t.D) (v:Value),Rl w o w' o' q q'→t.H P w o md q x v→t.H P w' o' md q' x v
 | .int _,_,_,_,_,_,_,h=>by unfold Ty.H at h ⊢;exact h
 | .bool,_,_,_,_,_,_,h=>by unfold Ty.H at h ⊢;exact h
 | .str,_,_,_,_,_,_,h=>by unfold Ty.H at h ⊢;exact h
 | .sl es,md,q,q',xs,v,hr,h=>by
  unfold Ty.H at h ⊢
  obtain ⟨a,c,rfl,hlc,h⟩:=h
  refine ⟨a,c,rfl,hlc,?_⟩
  have perm:(xs= []∨∃ad:Addr,a=some ad∧ad.spot=none∧∀i x,getN (α:=es.D) xs i=some x→es.Hs P w o [] .p (fun _=> .p) 0 x ad.block (ad.off+i*es.len)) →
    (xs= []∨∃ad:Addr,a=some ad∧ad.spot=none∧∀i x,getN (α:=es.D) xs i=some x→es.Hs P w' o' [] .p (fun _=> .p) 0 x ad.block (ad.off+i*es.len)):=by
   rintro (h|⟨ad,ha,hs,h⟩)
   ·exact .inl h
   ·exact .inr ⟨ad,ha,hs,fun i x hi=>Hs_re hp hw es [] .p .p (fun _=> .p) (fun _=> .p) 0 x _ _ rfl (fun _=>rfl) (h i x hi)⟩
  cases md with
  |sh=>exact perm h
  |own ms =>
   cases q with
   |x=>exact hr.elim
   |p=>cases (hr:q'= .p);exact perm h
   |o π =>
    rcases hr with ⟨π',rfl,hr⟩|⟨rfl,hr⟩
    ·rcases h with h|⟨ad,ha,hs,hk,h⟩
     ·exact .inl h
     ·refine .inr ⟨ad,ha,hs,fun k hlt=>?_,fun i x hi=>?_⟩
      ·have h1:=hk k hlt
       obtain ⟨⟨u,hu⟩,_⟩:=hw.cell _ _ _ h1
       have:=hr _ _ [] u hu (by simpa using h1)
       simpa using this.2
      ·refine Hs_re hp hw es ms (.o π) (.o π') _ _ 0 x _ _ (.inl ⟨π',rfl,hr⟩) (fun j=>?_) (h i x hi)
       exact Rl.sub (q':= .o π') (.inl ⟨π',rfl,hr⟩) [i,j]
    ·rcases h with ⟨h,_⟩|⟨ad,ha,hs,hk,h⟩
     ·exact .inl h
     ·refine .inr ⟨ad,ha,hs.1,fun i x hi=>?_⟩
      exact Hs_md (w:=w') (o:=o') es ms [] 0 x (Hs_re hp hw es ms (.o π) .p _ (fun _=> .p) 0 x _ _ (.inr ⟨rfl,hr⟩) (fun j=>Rl.sub (q':= .p) (.inr ⟨rfl,hr⟩) [i,j]) (h i x hi))
 | .fn sh as rs,md,q,q',g,v,_,h=>by
  unfold Ty.H at h ⊢
  obtain ⟨f,caps,rfl,he,h⟩:=h
  exact ⟨f,caps,rfl,he,fun w1 o1 hk=>h w1 o1 (hp.trans hk)⟩
theorem Hs_re (hp:PermKeep w o w' o') (hw:Wf w o):∀(ts:Tys) (ms:List Md) (qc qc':Own) (qf qf':Nat→Own) (j:Nat) (x:ts.D) (b off:Nat),Rl w o w' o' qc qc'→qOk w o w' o' qf qf'→ts.Hs P w o ms qc qf j x b off→ts.Hs P w' o' ms qc' qf' j x b off
 | .nil,_,_,_,_,_,_,_,_,_,_,_,_=>by unfold Tys.Hs;trivial
 | .cons t ts,ms,qc,qc',qf,qf',j,x,b,off,hc,hf,h=>by
  unfold Tys.Hs at h ⊢
  obtain ⟨⟨v,hv,ho,ht⟩,h⟩:=h
  refine ⟨⟨v,?_⟩,Hs_re hp hw ts _ qc qc' qf qf' _ _ _ _ hc hf h⟩
  have ht':=H_re hp hw t _ _ _ x.1 v (hf j) ht
  have:w'.cell? ⟨b,off,none⟩=some v∧o' b off=qc':=by
   cases qc with
   |x=>exact hc.elim
   |p=>cases (hc:qc'= .p);exact hp _ _ _ hv ho
   |o π =>
    rcases hc with ⟨π',rfl,hc⟩|⟨rfl,hc⟩
    ·have:=hc b off [] v hv (by simpa using ho);simpa using this
    ·exact hc b off [] v hv (by simpa using ho)
  exact ⟨this.1,this.2,ht'⟩
end
end
end Go.Tm
/- The pure machine, 5: what it means that a state of the pure machine tells a world; how that is kept. -/
namespace Go.Tm
open Go
inductive Conc where
 |box (b base:Nat)
 |row (v:Value)
structure Gh where
 o:Nat→Nat→Own
 c:Nat→Conc
def Cellish:Value→Prop
 | .agg _=>False
 | .tuple _=>False
 |_=>True
theorem Cellish.cells {v:Value} (h:Cellish v):v.cells= #[v]:=by
 cases v<;>first|rfl|exact h.elim
def All2 {α β:Type} (R:α→β→Prop):List α→List β→Prop
 | [],[]=>True
 |a::x,b::y=>R a b∧All2 R x y
 |_,_=>False
theorem All2.imp {α β:Type} {R S:α→β→Prop} (h:∀a b,R a b→S a b):∀{x:List α} {y:List β},All2 R x y→All2 S x y
 | [],[],_=>trivial
 |_::_,_::_,k=>⟨h _ _ k.1,All2.imp h k.2⟩
 | [],_::_,k=>k.elim
 |_::_,[],k=>k.elim
theorem All2.length {α β:Type} {R:α→β→Prop}:∀{x:List α} {y:List β},All2 R x y→x.length=y.length
 | [],[],_=>rfl
 |_::_,_::_,k=>by simp [All2.length k.2]
 | [],_::_,k=>k.elim
 |_::_,[],k=>k.elim
theorem All2.append {α β:Type} {R:α→β→Prop}:∀{x:List α} {y:List β} {x':List α} {y':List β},All2 R x y→All2 R x' y'→All2 R (x++x') (y++y')
 | [],[],_,_,_,k=>k
 |_::_,_::_,_,_,h,k=>⟨h.1,All2.append h.2 k⟩
 | [],_::_,_,_,h,_=>h.elim
 |_::_,[],_,_,h,_=>h.elim
theorem All2.drop {α β:Type} {R:α→β→Prop}:∀(n:Nat) {x:List α} {y:List β},All2 R x y→All2 R (x.drop n) (y.drop n)
 |0,_,_,h=>by simpa using h
 |_+1,[],[],_=>trivial
 |n+1,_::_,_::_,h=>by simpa using All2.drop n h.2
 |_+1,[],_::_,h=>h.elim
 |_+1,_::_,[],h=>h.elim
theorem All2.take {α β:Type} {R:α→β→Prop}:∀(n:Nat) {x:List α} {y:List β},All2 R x y→All2 R (x.take n) (y.take n)
 |0,_,_,_=>by simp [All2]
 |_+1,[],[],_=>trivial
 |n+1,_::_,_::_,h=>by rw [List.take_succ_cons,List.take_succ_cons];exact ⟨h.1,All2.take n h.2⟩
 |_+1,[],_::_,h=>h.elim
 |_+1,_::_,[],h=>h.elim
theorem All2.get {α β:Type} {R:α→β→Prop}:∀{x:List α} {y:List β} (i:Nat) (a:α),All2 R x y→x[i]?=some a→∃b,y[i]?=some b∧R a b
 | [],_,i,a,_,h=>by simp at h
 |_::_,[],_,_,k,_=>k.elim
 |a::x,b::y,0,c,k,h=>by simp at h;subst h;exact ⟨b,by simp,k.1⟩
 |a::x,b::y,i+1,c,k,h=>by simpa using All2.get i c k.2 (by simpa using h)
abbrev Mu:=Nat→Option Blk
def CV.R (P:Program) (w:World) (g:Gh) (mu:Mu):CV→Value→Prop
 | .un,v=>Cellish v
 | .int k n,v=>v= .int k n
 | .bool b,v=>v= .bool b
 | .str s,v=>v= .string s
 | .nils,v=>v= .slice none 0 0
 | .ro es xs,v=>(Ty.sl es).H P w g.o .sh .p xs v
 | .own id,v=>mu id≠none∧g.c id= .row v∧∃a n c,v= .slice a n c
 | .nref id ver i j,v=>mu id≠none∧Cellish v∧∀es ms xs ver',mu id=some (.row es ms xs ver')→ver≤ver' ∧
   (ver=ver'→∃a n c,g.c id= .row (.slice (some a) n c)∧w.cell? ⟨a.block,a.off+i*es.len+j,none⟩=some v∧g.o a.block (a.off+i*es.len+j)= .o [id])
 | .ptr id off,v=>mu id≠none∧∃b base,g.c id= .box b base∧v= .pointer (some ⟨b,base+off,none⟩)
 | .eptr id sz i off,v=>mu id≠none∧∃a n c,g.c id= .row (.slice (some a) n c)∧a.spot=none∧v= .pointer (some ⟨a.block,a.off+i*sz+off,none⟩)
 | .rptr es x off,v=>∃b base,v= .pointer (some ⟨b,base+off,none⟩)∧es.Hs P w g.o [] .p (fun _=> .p) 0 x b base
 | .fnp f,v=>v= .func (.func f) #[] #[]
 | .clo f ids,v=>∃caps,v= .func (.func f) #[] caps∧All2 (fun id u=>mu id≠none∧∃b base,g.c id= .box b base∧u= .pointer (some ⟨b,base,none⟩)) ids caps.toList
 | .fnd sh as rs h,v=>(Ty.fn sh as rs).H P w g.o .sh .p h v
def cvsR (P:Program) (w:World) (g:Gh) (mu:Mu):List CV→List Value→Prop:=All2 (CV.R P w g mu)
def compR (P:Program) (w:World) (g:Gh) (mu:Mu):Bool×List CV→Value→Prop
 |(true,vs),v=>∃a,v= .agg a∧cvsR P w g mu vs a.toList
 |(false,cv::_),v=>cv.R P w g mu v
 |(false,[]),_=>True
def TV.R (P:Program) (w:World) (g:Gh) (mu:Mu):TV→Value→Prop
 | .un,_=>True
 | .und,v=>v=undef
 | .c cv,v=>cv.R P w g mu v
 | .agg vs,v=>∃a,v= .agg a∧cvsR P w g mu vs a.toList
 | .tup l,v=>∃a,v= .tuple a∧All2 (compR P w g mu) l a.toList
def Blk.R (P:Program) (w:World) (g:Gh) (mu:Mu) (id:Nat):Blk→Prop
 | .box cs=>∃b base,g.c id= .box b base∧∀j cv,cs[j]?=some cv→∃v,w.cell? ⟨b,base+j,none⟩=some v∧g.o b (base+j)= .o [id]∧cv.R P w g mu v
 | .rbox es x=>∃b base,g.c id= .box b base∧es.Hs P w g.o [] .p (fun _=> .p) 0 x b base
 | .row es ms xs _=>∃v,g.c id= .row v∧(Ty.sl es).H P w g.o (.own ms) (.o [id]) xs v
 | .fz es xs=>∃v,g.c id= .row v∧(Ty.sl es).H P w g.o .sh .p xs v
 | .dead=>True
structure Rel (P:Program) (nt:Nat) (w0:World) (o0:Nat→Nat→Own) (env:Nat→TV) (mu:Mu) (tmps:Array Value) (w:World) (g:Gh):Prop where
 sz:tmps.size=nt
 env:∀t,(env t).R P w g mu (tmps.getD t undef)
 mem:∀id b,mu id=some b→b.R P w g mu id
 wf:Wf w g.o
 own:∀b k id s,g.o b k= .o (id::s)→mu id≠none
 fr:Fr w0 o0 w g.o
theorem H_cellish {P:Program} {w:World} {o:Nat→Nat→Own} (t:Ty) {md:Md} {q:Own} {x:t.D} {v:Value} (h:t.H P w o md q x v):Cellish v:=by
 cases t with
 |int k=>unfold Ty.H at h;subst h;trivial
 |bool=>unfold Ty.H at h;subst h;trivial
 |str=>unfold Ty.H at h;subst h;trivial
 |sl es=>unfold Ty.H at h;obtain ⟨a,c,rfl,_⟩:=h;trivial
 |fn sh as rs=>unfold Ty.H at h;obtain ⟨f,caps,rfl,_⟩:=h;trivial
theorem CV.cellish {P:Program} {w:World} {g:Gh} {mu:Mu} (cv:CV) {v:Value} (h:cv.R P w g mu v):Cellish v:=by
 cases cv with
 |un=>exact h
 |int k n=>subst h;trivial
 |bool b=>subst h;trivial
 |str s=>subst h;trivial
 |nils=>subst h;trivial
 |ro es xs=>exact H_cellish _ h
 |own id=>obtain ⟨_,_,a,n,c,rfl⟩:=h;trivial
 |nref=>exact h.2.1
 |ptr=>obtain ⟨_,b,base,_,rfl⟩:=h;trivial
 |eptr=>obtain ⟨_,a,n,c,_,_,rfl⟩:=h;trivial
 |rptr=>obtain ⟨b,base,rfl,_⟩:=h;trivial
 |fnp=>subst h;trivial
 |clo=>obtain ⟨caps,rfl,_⟩:=h;trivial
 |fnd=>exact H_cellish _ h
structure Stp (w:World) (g:Gh) (mu:Mu) (w':World) (g':Gh) (mu':Mu) (T:Nat→Prop):Prop where
 cell:∀b k v,w.cell? ⟨b,k,none⟩=some v→(∀id s,g.o b k= .o (id::s)→¬T id)→w'.cell? ⟨b,k,none⟩=some v∧g'.o b k=g.o b k
 c:∀id,mu id≠none→g'.c id=g.c id
 pres:∀id,mu id≠none→mu' id≠none
 same:∀id,¬T id→mu id≠none→mu' id=mu id
 ver:∀id es ms xs ver,T id→mu id≠none→mu' id=some (.row es ms xs ver)→∃es' ms' xs' ver',mu id=some (.row es' ms' xs' ver')∧ver'<ver
section
variable {P:Program} {w w':World} {g g':Gh} {mu mu':Mu} {T:Nat→Prop}
theorem Stp.perm (h:Stp w g mu w' g' mu' T):PermKeep w g.o w' g'.o:=fun b k v hc ho =>
 let ⟨a,c⟩:=h.cell b k v hc (fun id s e=>by rw [ho] at e;cases e);⟨a,by rw [c,ho]⟩
theorem Stp.rl (h:Stp w g mu w' g' mu' T) {id:Nat} (hid:¬T id):Rl w g.o w' g'.o (.o [id]) (.o [id]) :=
 .inl ⟨[id],rfl,fun b k s v hc ho=>by
  have:=h.cell b k v hc (fun id' s' e=>by rw [ho] at e;simp only [Own.o.injEq,List.cons_append,List.nil_append,List.cons.injEq] at e;rw [←e.1];exact hid)
  exact ⟨this.1,this.2.trans ho⟩⟩
theorem CV.stp (h:Stp w g mu w' g' mu' T) (hw:Wf w g.o) (cv:CV) {v:Value} (hr:cv.R P w g mu v):cv.R P w' g' mu' v:=by
 cases cv with
 |un=>exact hr
 |int k n=>exact hr
 |bool b=>exact hr
 |str s=>exact hr
 |nils=>exact hr
 |ro es xs=>exact H_re h.perm hw (.sl es) .sh .p .p xs v rfl hr
 |own id=>exact ⟨h.pres _ hr.1,(h.c _ hr.1).trans hr.2.1,hr.2.2⟩
 |nref id ver i j =>
  refine ⟨h.pres _ hr.1,hr.2.1,fun es ms xs ver' hm=>?_⟩
  by_cases ht:T id
  ·obtain ⟨es',ms',xs',ver0,h0,hlt⟩:=h.ver id es ms xs ver' ht hr.1 hm
   have:=(hr.2.2 _ _ _ _ h0).1
   exact ⟨by omega,fun e=>by omega⟩
  ·rw [h.same id ht hr.1] at hm
   refine ⟨(hr.2.2 _ _ _ _ hm).1,fun e=>?_⟩
   obtain ⟨a,n,c,hc,hv,ho⟩:=(hr.2.2 _ _ _ _ hm).2 e
   have:=h.cell _ _ _ hv (fun id' s' e=>by rw [ho] at e;simp only [Own.o.injEq,List.cons.injEq] at e;rw [←e.1];exact ht)
   exact ⟨a,n,c,(h.c _ hr.1).trans hc,this.1,this.2.trans ho⟩
 |ptr id off=>obtain ⟨h0,b,base,hc,hv⟩:=hr;exact ⟨h.pres _ h0,b,base,(h.c _ h0).trans hc,hv⟩
 |eptr id sz i off=>obtain ⟨h0,a,n,c,hc,hs,hv⟩:=hr;exact ⟨h.pres _ h0,a,n,c,(h.c _ h0).trans hc,hs,hv⟩
 |rptr es x off =>
  obtain ⟨b,base,hv,hs⟩:=hr
  exact ⟨b,base,hv,Hs_re h.perm hw es [] .p .p (fun _=> .p) (fun _=> .p) 0 x b base rfl (fun _=>rfl) hs⟩
 |fnp f=>exact hr
 |clo f ids =>
  obtain ⟨caps,hv,ha⟩:=hr
  refine ⟨caps,hv,All2.imp (fun id u hu=>?_) ha⟩
  obtain ⟨h0,b,base,hc,hu⟩:=hu
  exact ⟨h.pres _ h0,b,base,(h.c _ h0).trans hc,hu⟩
 |fnd sh as rs k=>exact H_re h.perm hw (.fn sh as rs) .sh .p .p k v rfl hr
theorem cvsR.stp (h:Stp w g mu w' g' mu' T) (hw:Wf w g.o) {cvs:List CV} {vs:List Value} (hr:cvsR P w g mu cvs vs):cvsR P w' g' mu' cvs vs :=
 All2.imp (fun cv _ k=>CV.stp h hw cv k) hr
theorem TV.stp (h:Stp w g mu w' g' mu' T) (hw:Wf w g.o) (tv:TV) {v:Value} (hr:tv.R P w g mu v):tv.R P w' g' mu' v:=by
 cases tv with
 |un=>trivial
 |und=>exact hr
 |c cv=>exact CV.stp h hw cv hr
 |agg vs=>obtain ⟨a,hv,ha⟩:=hr;exact ⟨a,hv,cvsR.stp h hw ha⟩
 |tup l =>
  obtain ⟨a,hv,ha⟩:=hr
  refine ⟨a,hv,All2.imp (fun x u hu=>?_) ha⟩
  rcases x with ⟨_|_,vs⟩
  ·rcases vs with _|⟨cv,_⟩
   ·trivial
   ·exact CV.stp h hw cv hu
  ·obtain ⟨b,hb,hu⟩:=hu;exact ⟨b,hb,cvsR.stp h hw hu⟩
theorem Blk.stp (h:Stp w g mu w' g' mu' T) (hw:Wf w g.o) {id:Nat} (hid:¬T id) (hp:mu id≠none) (b:Blk) (hr:b.R P w g mu id):b.R P w' g' mu' id:=by
 cases b with
 |box cs =>
  obtain ⟨b,base,hc,hr⟩:=hr
  refine ⟨b,base,(h.c _ hp).trans hc,fun j cv hj=>?_⟩
  obtain ⟨v,hv,ho,hcv⟩:=hr j cv hj
  have:=h.cell _ _ _ hv (fun id' s' e=>by rw [ho] at e;simp only [Own.o.injEq,List.cons.injEq] at e;rw [←e.1];exact hid)
  exact ⟨v,this.1,this.2.trans ho,CV.stp h hw cv hcv⟩
 |rbox es x =>
  obtain ⟨b,base,hc,hr⟩:=hr
  exact ⟨b,base,(h.c _ hp).trans hc,Hs_re h.perm hw es [] .p .p (fun _=> .p) (fun _=> .p) 0 x b base rfl (fun _=>rfl) hr⟩
 |row es ms xs ver =>
  obtain ⟨v,hc,hr⟩:=hr
  exact ⟨v,(h.c _ hp).trans hc,H_re h.perm hw (.sl es) (.own ms) _ _ xs v (h.rl hid) hr⟩
 |fz es xs =>
  obtain ⟨v,hc,hr⟩:=hr
  exact ⟨v,(h.c _ hp).trans hc,H_re h.perm hw (.sl es) .sh .p .p xs v rfl hr⟩
 |dead=>trivial
theorem Fr.trans {w0 w1 w2:World} {o0 o1 o2:Nat→Nat→Own} (h:Fr w0 o0 w1 o1) (hw:Wf w1 o1) (k:Fr w1 o1 w2 o2):Fr w0 o0 w2 o2:=by
 have own:∀b j,(∀k π,o0 b k≠ .o π)→b<w0.heap.size→∀π,o1 b j≠ .o π:=by
  intro b j hb hlt π e
  obtain ⟨⟨v,hv⟩,_⟩:=hw.cell _ _ _ e
  have hb':w1.heap[b]?=w0.heap[b]?:=h.blk b hlt hb
  have hv0:w0.cell? ⟨b,j,none⟩=some v:=by unfold World.cell? at hv ⊢;dsimp only at hv ⊢;rw [hb'] at hv;exact hv
  have:=(h.cell b j v hv0 (hb j)).2
  exact hb j π (this▸e)
 refine ⟨k.os.trans h.os,k.tape.trans h.tape,k.output.trans h.output,Nat.le_trans h.size k.size,?_,?_,?_,?_⟩
 ·intro b hlt hb
  rw [k.blk b (Nat.lt_of_lt_of_le hlt h.size) (fun j π=>own b j hb hlt π),h.blk b hlt hb]
 ·intro b j v hv hb
  obtain ⟨h1,h2⟩:=h.cell b j v hv hb
  obtain ⟨h3,h4⟩:=k.cell b j v h1 (fun π=>by rw [h2];exact hb π)
  exact ⟨h3,h4.trans h2⟩
 ·intro b j v hv
  obtain ⟨v1,h1⟩:=h.there b j v hv
  exact k.there b j v1 h1
 ·intro b j hlt
  rw [k.frz b j (Nat.lt_of_lt_of_le hlt h.size),h.frz b j hlt]
theorem Rel.step {nt:Nat} {w0:World} {o0:Nat→Nat→Own} {env:Nat→TV} {tmps:Array Value} (r:Rel P nt w0 o0 env mu tmps w g)
  (h:Stp w g mu w' g' mu' T) (hf:Fr w g.o w' g'.o) (hw:Wf w' g'.o) (ho:∀b k id s,g'.o b k= .o (id::s)→mu' id≠none)
  (hm:∀id b,(T id∨mu id=none)→mu' id=some b→b.R P w' g' mu' id):Rel P nt w0 o0 env mu' tmps w' g' where
 sz:=r.sz
 env t:=TV.stp h r.wf _ (r.env t)
 mem id b hb:=by
  by_cases ht:T id
  ·exact hm id b (.inl ht) hb
  ·by_cases hp:mu id=none
   ·exact hm id b (.inr hp) hb
   ·rw [h.same id ht hp] at hb
    exact Blk.stp h r.wf ht hp b (r.mem id b hb)
 wf:=hw
 own:=ho
 fr:=r.fr.trans r.wf hf
theorem Rel.put {nt:Nat} {w0:World} {o0:Nat→Nat→Own} {env:Nat→TV} {a:Act} (r:Rel P nt w0 o0 env mu a.tmps w g) {dst:Option Nat} {tv:TV} {v:Value}
  (hd:dstOk nt dst=true) (hv:tv.R P w g mu v):Rel P nt w0 o0 (match dst with|some d=>upd env d tv|none=>env) mu (a.put dst v).tmps w g:=by
 cases dst with
 |none=>exact r
 |some d =>
  have hd:d<nt:=by simpa [dstOk,Nat.blt_eq] using hd
  refine ⟨by simp [Act.put,r.sz],fun t=>?_,r.mem,r.wf,r.own,r.fr⟩
  simp only [Act.put,upd]
  by_cases e:t=d
  ·subst e
   simp [Array.getD_eq_getD_getElem?,r.sz,hd]
   exact hv
  ·have e1:Nat.beq t d=false:=Bool.eq_false_iff.2 fun h=>e (Nat.eq_of_beq_eq_true h)
   have:=r.env t
   simp only [e1,cond_false]
   simpa [Array.getD_eq_getD_getElem?,Array.getElem?_setIfInBounds_ne (Ne.symm e)] using this
end
end Go.Tm
/- The pure machine, 6: values made into data. -/
namespace Go.Tm
open Go
section
variable {P:Program}
theorem H_q {w:World} {o:Nat→Nat→Own} (t:Ty) {q q':Own} {x:t.D} {v:Value} (h:t.H P w o .sh q x v):t.H P w o .sh q' x v:=by
 cases t<;>(unfold Ty.H at h ⊢;first|exact h|(cases q<;>cases q'<;>exact h))
theorem Vs_q {w:World} {o:Nat→Nat→Own}:∀(ts:Tys) {qf qf':Nat→Own} {j j':Nat} {x:ts.D} {vs:List Value},ts.Vs P w o [] qf j x vs→ts.Vs P w o [] qf' j' x vs
 | .nil,_,_,_,_,_,_,h=>by unfold Tys.Vs at h ⊢;exact h
 | .cons t ts,_,_,_,_,x,vs,h=>by
  unfold Tys.Vs at h ⊢
  obtain ⟨v,r,rfl,h1,h2⟩:=h
  exact ⟨v,r,rfl,H_q t h1,Vs_q ts h2⟩
theorem Vs_len {w:World} {o:Nat→Nat→Own}:∀(ts:Tys) {ms:List Md} {qf:Nat→Own} {j:Nat} {x:ts.D} {vs:List Value},ts.Vs P w o ms qf j x vs→vs.length=ts.len
 | .nil,_,_,_,_,_,h=>by unfold Tys.Vs at h;subst h;rfl
 | .cons t ts,_,_,_,_,_,h=>by
  unfold Tys.Vs at h
  obtain ⟨v,r,rfl,_,h2⟩:=h
  simp [Tys.len,Vs_len ts h2]
theorem Vs_cellish {w:World} {o:Nat→Nat→Own}:∀(ts:Tys) {ms:List Md} {qf:Nat→Own} {j:Nat} {x:ts.D} {vs:List Value},ts.Vs P w o ms qf j x vs→∀v∈vs,Cellish v
 | .nil,_,_,_,_,_,h=>by unfold Tys.Vs at h;subst h;simp
 | .cons t ts,_,_,_,_,_,h=>by
  unfold Tys.Vs at h
  obtain ⟨v,r,rfl,h1,h2⟩:=h
  intro u hu
  rcases List.mem_cons.1 hu with rfl|hu
  ·exact H_cellish t h1
  ·exact Vs_cellish ts h2 u hu
theorem Hs_vs {w:World} {o:Nat→Nat→Own}:∀(ts:Tys) {ms:List Md} {qc:Own} {qf:Nat→Own} {j:Nat} {x:ts.D} {b off:Nat},ts.Hs P w o ms qc qf j x b off →
  ∃vs,ts.Vs P w o ms qf j x vs∧∀k v,vs[k]?=some v→w.cell? ⟨b,off+k,none⟩=some v∧o b (off+k)=qc
 | .nil,_,_,_,_,_,_,_,_=>⟨[],by unfold Tys.Vs;rfl,by simp⟩
 | .cons t ts,ms,qc,qf,j,x,b,off,h=>by
  unfold Tys.Hs at h
  obtain ⟨⟨v,hv,ho,ht⟩,h⟩:=h
  obtain ⟨vs,h1,h2⟩:=Hs_vs ts h
  refine ⟨v::vs,by unfold Tys.Vs;exact ⟨v,vs,rfl,ht,h1⟩,fun k u hu=>?_⟩
  cases k with
  |zero=>simp at hu;subst hu;exact ⟨hv,ho⟩
  |succ k =>
   have:=h2 k u (by simpa using hu)
   rwa [show off+1+k=off+(k+1) by omega] at this
theorem Vs_hs {w:World} {o:Nat→Nat→Own}:∀(ts:Tys) {ms:List Md} {qc:Own} {qf:Nat→Own} {j:Nat} {x:ts.D} {b off:Nat} {vs:List Value},ts.Vs P w o ms qf j x vs →
  (∀k v,vs[k]?=some v→w.cell? ⟨b,off+k,none⟩=some v∧o b (off+k)=qc)→ts.Hs P w o ms qc qf j x b off
 | .nil,_,_,_,_,_,_,_,_,_,_=>by unfold Tys.Hs;trivial
 | .cons t ts,ms,qc,qf,j,x,b,off,vs,h,hc=>by
  unfold Tys.Vs at h
  obtain ⟨v,r,rfl,h1,h2⟩:=h
  unfold Tys.Hs
  have h0:=hc 0 v rfl
  refine ⟨⟨v,h0.1,h0.2,h1⟩,Vs_hs ts h2 fun k u hu=>?_⟩
  have:=hc (k+1) u (by simpa using hu)
  rwa [show off+(k+1)=off+1+k by omega] at this
theorem Vs_re {w w':World} {o o':Nat→Nat→Own} (hp:PermKeep w o w' o') (hw:Wf w o):∀(ts:Tys) (ms:List Md) {qf qf':Nat→Own} {j:Nat} {x:ts.D} {vs:List Value},
  (∀j,Rl w o w' o' (qf j) (qf' j))→ts.Vs P w o ms qf j x vs→ts.Vs P w' o' ms qf' j x vs
 | .nil,_,_,_,_,_,_,_,h=>by unfold Tys.Vs at h ⊢;exact h
 | .cons t ts,ms,_,_,j,x,_,hr,h=>by
  unfold Tys.Vs at h ⊢
  obtain ⟨v,r,rfl,h1,h2⟩:=h
  exact ⟨v,r,rfl,H_re hp hw t _ _ _ _ _ (hr j) h1,Vs_re hp hw ts _ hr h2⟩
theorem Vs_perm {w w':World} {o o':Nat→Nat→Own} (hp:PermKeep w o w' o') (hw:Wf w o) (ts:Tys) {qf:Nat→Own} {j:Nat} {x:ts.D} {vs:List Value}
  (h:ts.Vs P w o [] qf j x vs):ts.Vs P w' o' [] qf j x vs :=
 Vs_q ts (Vs_re hp hw ts [] (qf:=fun _=> .p) (qf':=fun _=> .p) (j:=j) (fun _=>rfl) (Vs_q ts h))
variable {w:World} {g:Gh} {mu:Mu}
theorem ro_R (t:Ty) {x:t.D} {v:Value} (h:t.H P w g.o .sh .p x v):(t.ro x).R P w g mu v:=by
 cases t<;>(unfold Ty.ro CV.R;first|exact h|(unfold Ty.H at h;exact h))
theorem Vs_ros:∀(ts:Tys) {qf:Nat→Own} {j:Nat} {x:ts.D} {vs:List Value},ts.Vs P w g.o [] qf j x vs→cvsR P w g mu (ts.ros x) vs
 | .nil,_,_,_,_,h=>by unfold Tys.Vs at h;subst h;unfold Tys.ros;trivial
 | .cons t ts,_,_,_,_,h=>by
  unfold Tys.Vs at h
  obtain ⟨v,r,rfl,h1,h2⟩:=h
  unfold Tys.ros
  exact ⟨ro_R t (H_q t h1),Vs_ros ts h2⟩
def Served (dest:Nat→Own) (w:World) (o:Nat→Nat→Own) (w':World) (o':Nat→Nat→Own):Use→Prop
 | .mv id to=>Rl w o w' o' (.o [id]) (dest to)
 | .pm id=>Rl w o w' o' (.o [id]) .p
theorem eq?_ok {a b:Tys} {h:PLift (a=b)} (_:Tys.eq? a b=some h):a=b:=h.down
mutual
theorem Md.beq_eq:∀{a b:Md},Md.beq a b=true→a=b
 | .sh,.sh,_=>rfl
 | .own a,.own b,h=>by
  simp only [Md.beq] at h
  rw [mdsBeq_eq h]
 | .sh,.own _,h=>by simp [Md.beq] at h
 | .own _,.sh,h=>by simp [Md.beq] at h
theorem mdsBeq_eq:∀{a b:List Md},mdsBeq a b=true→a=b
 | [],[],_=>rfl
 |a::x,b::y,h=>by
  simp only [mdsBeq,Bool.and_eq_true] at h
  rw [Md.beq_eq h.1,mdsBeq_eq h.2]
 | [],_::_,h=>by simp [mdsBeq] at h
 |_::_,[],h=>by simp [mdsBeq] at h
end
theorem leaf_Hs:∀(es:Tys) {ms:List Md} {qc:Own} {qf:Nat→Own} {k j:Nat} {x:es.D} {b off:Nat} {l:Leaf},es.Hs P w g.o ms qc qf k x b off→es.leaf j x=some l →
  ∃v md,w.cell? ⟨b,off+j,none⟩=some v∧l.t.H P w g.o md (qf (k+j)) l.x v
 | .nil,_,_,_,_,_,_,_,_,_,_,h=>by simp [Tys.leaf] at h
 | .cons t ts,ms,qc,qf,k,0,x,b,off,l,hs,h=>by
  unfold Tys.Hs at hs
  obtain ⟨⟨v,hv,_,ht⟩,_⟩:=hs
  simp only [Tys.leaf,Option.some.injEq] at h
  subst h
  exact ⟨v,_,hv,ht⟩
 | .cons t ts,ms,qc,qf,k,j+1,x,b,off,l,hs,h=>by
  unfold Tys.Hs at hs
  obtain ⟨v,md,h1,h2⟩:=leaf_Hs ts hs.2 (by simpa [Tys.leaf] using h)
  exact ⟨v,md,by rwa [show off+(j+1)=off+1+j by omega],by rwa [show k+(j+1)=k+1+j by omega]⟩
abbrev MemR (P:Program) (w:World) (g:Gh) (mu:Mu):Prop:=∀id b,mu id=some b→b.R P w g mu id
theorem content_ok {R:Type} (hm:MemR P w g mu) (hw:Wf w g.o) {cv:CV} {v:Value} (hv:cv.R P w g mu v) {K:(es:Tys)→List es.D→Option R} {y:R}
  (h:content mu cv K=some y):∃es xs,K es xs=some y∧(∃ms q,(Ty.sl es).H P w g.o ms q xs v) ∧
   ∀w' o',PermKeep w g.o w' o'→(∀id,(cv= .own id∨∃ver i j,cv= .nref id ver i j)→Rl w g.o w' o' (.o [id]) .p)→(Ty.sl es).H P w' o' .sh .p xs v:=by
 cases cv<;>simp only [content] at h<;>try (cases h;done)
 case ro es xs =>
  exact ⟨es,xs,h,⟨.sh,.p,hv⟩,fun w' o' hp _=>H_re hp hw (.sl es) .sh .p .p xs v rfl hv⟩
 case own id =>
  cases hb:mu id with
  |none=>simp [hb] at h
  |some b =>
   have hbr:=hm id b hb
   cases b<;>simp only [hb] at h<;>try (cases h;done)
   case row es ms xs ver =>
    obtain ⟨v',hc,hr⟩:=hbr
    have:v'=v:=by have:=hv.2.1;rw [hc] at this;cases this;rfl
    subst this
    exact ⟨es,xs,h,⟨_,_,hr⟩,fun w' o' hp hs=>H_q _ (H_md _ _ _ _ _ (H_re hp hw (.sl es) _ _ _ xs v' (hs id (.inl rfl)) hr))⟩
   case fz es xs =>
    obtain ⟨v',hc,hr⟩:=hbr
    have:v'=v:=by have:=hv.2.1;rw [hc] at this;cases this;rfl
    subst this
    exact ⟨es,xs,h,⟨_,_,hr⟩,fun w' o' hp hs=>H_re hp hw (.sl es) .sh .p .p xs v' rfl hr⟩
 case nref id ver i j =>
  cases hb:mu id with
  |none=>simp [hb] at h
  |some b =>
   have hbr:=hm id b hb
   cases b<;>simp only [hb] at h<;>try (cases h;done)
   case row es ms xs ver' =>
    cases hver:Nat.beq ver ver' with
    |false=>simp [hver] at h
    |true =>
     simp only [hver,cond_true] at h
     have hver:=Nat.eq_of_beq_eq_true hver
     cases hx:getN xs i with
     |none=>simp [hx] at h
     |some x =>
      simp only [hx,Option.bind_some] at h
      cases hl:es.leaf j x with
      |none=>simp [hl] at h
      |some l =>
       obtain ⟨lt,lx⟩:=l
       cases lt<;>simp only [hl] at h<;>try (cases h;done)
       case sl es' =>
        obtain ⟨a,n,c,hc,hcell,ho⟩:=(hv.2.2 _ _ _ _ hb).2 hver
        obtain ⟨v',hc',hr⟩:=hbr
        rw [hc] at hc';cases hc'
        obtain ⟨a',c',he,_,hr⟩:=H_own.1 hr
        cases he
        rcases hr with ⟨hnil,_⟩|⟨ad,hea,_,_,hr⟩
        ·subst hnil;simp [getN] at hx
        ·cases hea
         have hel:=hr i x hx
         obtain ⟨v0,md,hv0,ht⟩:=leaf_Hs es hel hl
         rw [hcell] at hv0;cases hv0
         refine ⟨es',lx,h,⟨_,_,ht⟩,fun w' o' hp hs=>?_⟩
         have hrl:=Rl.sub (hs id (.inr ⟨_,_,_,rfl⟩)) [i,0+j]
         exact H_q _ (H_md _ _ .sh _ _ (H_re hp hw (.sl es') md _ _ lx _ hrl ht))
theorem castL_rfl {a:Tys} (h:a=a) (xs:List a.D):castL h xs=xs:=rfl
theorem packSl_okA {R:Type} (hm:MemR P w g mu) (hw:Wf w g.o) {es:Tys} {md:Md} {to:Nat} {cv:CV} {us:List Use} {v:Value} (hv:cv.R P w g mu v)
  {K:List es.D→List Use→Option R} {y:R} (h:packSl mu es md to cv us K=some y) :
  ∃xs new,K xs (new++us)=some y∧∀(dest:Nat→Own) w' o',PermKeep w g.o w' o'→(∀u∈new,Served dest w g.o w' o' u)→(Ty.sl es).H P w' o' md (dest to) xs v:=by
 cases md with
 |own ms =>
  cases cv<;>simp only [packSl] at h<;>try (cases h;done)
  case nils =>
   refine ⟨[],[],h,fun dest w' o' _ _=>?_⟩
   cases (hv:v= .slice none 0 0)
   cases hd:dest to with
   |o π=>exact H_own.2 ⟨none,0,rfl,Nat.le_refl _,.inl ⟨rfl,rfl⟩⟩
   |x=>exact (H_p (by simp)).2 ⟨none,0,rfl,Nat.le_refl _,.inl rfl⟩
   |p=>exact (H_p (by simp)).2 ⟨none,0,rfl,Nat.le_refl _,.inl rfl⟩
  case own id =>
   cases hb:mu id with
   |none=>simp [hb] at h
   |some b =>
    have hbr:=hm id b hb
    cases b<;>simp only [hb] at h<;>try (cases h;done)
    case row es' ms' xs ver =>
     cases he:Tys.eq? es' es with
     |none=>simp [he] at h
     |some p =>
      obtain ⟨p⟩:=p
      subst p
      simp only [he] at h
      cases hms:mdsBeq ms' ms with
      |false=>simp [hms] at h
      |true =>
       simp only [hms,cond_true] at h
       cases mdsBeq_eq hms
       obtain ⟨v',hc,hr⟩:=hbr
       have:v'=v:=by have:=hv.2.1;rw [hc] at this;cases this;rfl
       subst this
       exact ⟨xs,[.mv id to],h,fun dest w' o' hp hs=>H_re hp hw (.sl es') _ (.o [id]) _ xs v' (hs (.mv id to) (by simp)) hr⟩
 |sh =>
  cases cv<;>simp only [packSl] at h<;>try (cases h;done)
  case nils =>
   refine ⟨[],[],h,fun dest w' o' _ _=>?_⟩
   cases (hv:v= .slice none 0 0)
   exact H_sh.2 ⟨none,0,rfl,Nat.le_refl _,.inl rfl⟩
  case ro es' xs =>
   cases he:Tys.eq? es' es with
   |none=>simp [he] at h
   |some p =>
    obtain ⟨p⟩:=p
    subst p
    simp only [he] at h
    exact ⟨xs,[],h,fun dest w' o' hp _=>H_q _ (H_re hp hw (.sl es') .sh .p .p xs v rfl hv)⟩
  case own id =>
   obtain ⟨es',xs,h,_,hr⟩:=content_ok hm hw hv h
   cases he:Tys.eq? es' es with
   |none=>simp [he] at h
   |some p =>
    obtain ⟨p⟩:=p
    subst p
    simp only [he] at h
    refine ⟨xs,[.pm id],h,fun dest w' o' hp hs=>H_q _ (hr w' o' hp fun id' hid=>?_)⟩
    rcases hid with hid|⟨_,_,_,hid⟩<;>cases hid
    exact hs (.pm _) (by simp)
  case nref id ver i j =>
   obtain ⟨es',xs,h,_,hr⟩:=content_ok hm hw hv h
   cases he:Tys.eq? es' es with
   |none=>simp [he] at h
   |some p =>
    obtain ⟨p⟩:=p
    subst p
    simp only [he] at h
    refine ⟨xs,[.pm id],h,fun dest w' o' hp hs=>H_q _ (hr w' o' hp fun id' hid=>?_)⟩
    rcases hid with hid|⟨_,_,_,hid⟩<;>cases hid
    exact hs (.pm _) (by simp)
def AppOk (P:Program) (w:World) (g:Gh) (mu:Mu) (app:App):Prop :=
 ∀f sh caps as rs k ids vals,app f sh caps as rs=some k→boxCells mu ids=some caps →
  All2 (fun id u=>mu id≠none∧∃b base,g.c id= .box b base∧u= .pointer (some ⟨b,base,none⟩)) ids vals →
  ∀w' o' md q,PermKeep w g.o w' o'→(∀id∈ids,Rl w g.o w' o' (.o [id]) .p)→(Ty.fn sh as rs).H P w' o' md q k (.func (.func f) #[] vals.toArray)
theorem app0_ok:AppOk P w g mu app0:=fun _ _ _ _ _ _ _ _ h=>by cases h
theorem packLeaf_okA {R:Type} (hm:MemR P w g mu) (hw:Wf w g.o) {app:App} (ha:AppOk P w g mu app) {ty:Ty} {md:Md} {to:Nat} {cv:CV} {us:List Use} {v:Value}
  (hv:cv.R P w g mu v) {K:ty.D→List Use→Option R} {y:R} (h:packLeaf app mu ty md to cv us K=some y) :
  ∃x new,K x (new++us)=some y∧∀(dest:Nat→Own) w' o',PermKeep w g.o w' o'→(∀u∈new,Served dest w g.o w' o' u)→ty.H P w' o' md (dest to) x v:=by
 cases ty with
 |int k =>
  cases cv<;>simp only [packLeaf] at h<;>try (cases h;done)
  case int k' n =>
   split at h
   ·rename_i e;subst e;exact ⟨n,[],h,fun _ _ _ _ _=>hv⟩
   ·cases h
 |bool =>
  cases cv<;>simp only [packLeaf] at h<;>try (cases h;done)
  case bool b=>exact ⟨b,[],h,fun _ _ _ _ _=>hv⟩
 |str =>
  cases cv<;>simp only [packLeaf] at h<;>try (cases h;done)
  case str b=>exact ⟨b,[],h,fun _ _ _ _ _=>hv⟩
 |sl es=>exact packSl_okA hm hw hv h
 |fn sh as rs =>
  cases cv<;>simp only [packLeaf] at h<;>try (cases h;done)
  case fnd sh' as' rs' k =>
   cases he:Ty.eq? (.fn sh' as' rs') (.fn sh as rs) with
   |none=>simp [he] at h
   |some p =>
    obtain ⟨p⟩:=p
    cases p
    simp only [he] at h
    exact ⟨k,[],h,fun dest w' o' hp _=>by
     exact H_re hp hw (.fn sh as rs) .sh .p .p k v rfl hv⟩
  case fnp f =>
   cases hk:app f sh [] as rs with
   |none=>simp [hk] at h
   |some k =>
    simp only [hk] at h
    cases (hv:v= .func (.func f) #[] #[])
    exact ⟨k,[],h,fun dest w' o' hp _=>ha f sh [] as rs k [] [] hk rfl trivial w' o' _ _ hp (by simp)⟩
  case clo f ids =>
   cases hb:boxCells mu ids with
   |none=>simp [hb] at h
   |some caps =>
    simp only [hb] at h
    cases hk:app f sh caps as rs with
    |none=>simp [hk] at h
    |some k =>
     simp only [hk] at h
     obtain ⟨vals,rfl,hall⟩:=hv
     exact ⟨k,ids.map .pm,h,fun dest w' o' hp hs=>ha f sh caps as rs k ids vals.toList hk hb hall w' o' _ _ hp fun id hid=>hs (.pm id) (by simp [hid])⟩
theorem packs_okA {R:Type} (hm:MemR P w g mu) (hw:Wf w g.o) {app:App} (ha:AppOk P w g mu app):∀(ts:Tys) {ms:List Md} {to:Nat} {cvs:List CV} {us:List Use} {vs:List Value}
  (_:cvsR P w g mu cvs vs) {K:ts.D→List CV→List Use→Option R} {y:R} (_:packs app mu ts ms to cvs us K=some y),
  ∃x rest new vs1 vs2,K x rest (new++us)=some y∧vs=vs1++vs2∧cvsR P w g mu rest vs2∧vs1.length=ts.len ∧
   ∀(dest:Nat→Own) w' o',PermKeep w g.o w' o'→(∀u∈new,Served dest w g.o w' o' u)→ts.Vs P w' o' ms dest to x vs1
 | .nil,ms,to,cvs,us,vs,hv,K,y,h=>⟨(),cvs,[],[],vs,h,rfl,hv,rfl,fun _ _ _ _ _=>rfl⟩
 | .cons t ts,ms,to,[],us,vs,hv,K,y,h=>by simp [packs] at h
 | .cons t ts,ms,to,cv::cvs,us,[],hv,K,y,h=>hv.elim
 | .cons t ts,ms,to,cv::cvs,us,v::vs,hv,K,y,h=>by
  simp only [packs] at h
  obtain ⟨x,new,h,hx⟩:=packLeaf_okA hm hw ha hv.1 h
  obtain ⟨xs,rest,new',vs1,vs2,h,rfl,hrest,hlen,hxs⟩:=packs_okA hm hw ha ts hv.2 h
  refine ⟨(x,xs),rest,new'++new,v::vs1,vs2,by rw [List.append_assoc];exact h,rfl,hrest,by simp [Tys.len,hlen],fun dest w' o' hp hs=>?_⟩
  exact ⟨v,vs1,rfl,hx dest w' o' hp (fun u hu=>hs u (by simp [hu])),hxs dest w' o' hp (fun u hu=>hs u (by simp [hu]))⟩
theorem packs_ok {R:Type} (hm:MemR P w g mu) (hw:Wf w g.o) (dest:Nat→Own) {app:App} (ha:AppOk P w g mu app) (ts:Tys) {ms:List Md} {to:Nat} {cvs:List CV} {us:List Use} {vs:List Value}
  (hv:cvsR P w g mu cvs vs) {K:ts.D→List CV→List Use→Option R} {y:R} (h:packs app mu ts ms to cvs us K=some y) :
  ∃x rest new vs1 vs2,K x rest (new++us)=some y∧vs=vs1++vs2∧cvsR P w g mu rest vs2∧vs1.length=ts.len ∧
   ∀w' o',PermKeep w g.o w' o'→(∀u∈new,Served dest w g.o w' o' u)→ts.Vs P w' o' ms dest to x vs1 :=
 let ⟨x,rest,new,vs1,vs2,h1,h2,h3,h4,h5⟩:=packs_okA hm hw ha ts hv h
 ⟨x,rest,new,vs1,vs2,h1,h2,h3,h4,h5 dest⟩
end
end Go.Tm
/- The pure machine, 7: what a function is asked for and gives; functions as data. -/
namespace Go.Tm
open Go
def ArgR (P:Program) (w:World) (o:Nat→Nat→Own) (m:Nat) (g:Grp) (x:g.ts.D) (v:Value):Prop :=
 match g.k with
 | .c=>g.ts.Vs P w o g.ms (fun j=> .o [j]) (64*m+1) x [v]
 | .agg=>∃a,v= .agg a∧g.ts.Vs P w o g.ms (fun j=> .o [j]) (64*m+1) x a.toList
 | .rp=>∃b base,v= .pointer (some ⟨b,base,none⟩)∧g.ts.Hs P w o [] .p (fun _=> .p) 0 x b base
 | .io=>∃b base,v= .pointer (some ⟨b,base,none⟩)∧g.ts.Hs P w o g.ms (.o [64*m]) (fun j=> .o [j]) (64*m+1) x b base
 | .np=>False
 | .wc=>g.ts.Vs P w o g.ms (fun j=> .o [j]) (64*m+1) x [v]
 | .wa=>∃a,v= .agg a∧g.ts.Vs P w o g.ms (fun j=> .o [j]) (64*m+1) x a.toList
def ArgsR (P:Program) (w:World) (o:Nat→Nat→Own):(gs:List Grp)→Nat→GD gs→List Value→Prop
 | [],_,_,vs=>vs= []
 |g::gs,m,x,vs=>∃v r,vs=v::r∧ArgR P w o m g x.1 v∧ArgsR P w o gs (m+1) x.2 r
inductive Bk where
 |bx (b off:Nat)
 |vs (l:List Value)
def ioAddrs:List Grp→List Value→List Bk
 |g::gs,v::vs=>match g.k,v with
  | .io,.pointer (some a)=> .bx a.block a.off::ioAddrs gs vs
  | .wc,v=> .vs [v]::ioAddrs gs vs
  | .wa,.agg a=> .vs a.toList::ioAddrs gs vs
  |_,_=>ioAddrs gs vs
 |_,_=> []
def OutR (P:Program) (w:World) (o:Nat→Nat→Own) (r:Nat) (g:Grp) (y:g.ts.D) (v:Value):Prop :=
 match g.k with
 | .c=>g.ts.Vs P w o g.ms (fun j=> .o [j]) (64*r+1) y [v]
 | .agg=>∃a,v= .agg a∧g.ts.Vs P w o g.ms (fun j=> .o [j]) (64*r+1) y a.toList
 | .np=>∃b base,v= .pointer (some ⟨b,base,none⟩)∧g.ts.Hs P w o g.ms (.o [64*r]) (fun j=> .o [j]) (64*r+1) y b base
 |_=>False
def BackR (P:Program) (w:World) (o:Nat→Nat→Own) (r:Nat) (g:Grp) (y:g.ts.D):Bk→Prop
 | .bx b off=>g.ts.Hs P w o g.ms (.o [64*r]) (fun j=> .o [j]) (64*r+1) y b off
 | .vs l=>g.ts.Vs P w o g.ms (fun j=> .o [j]) (64*r+1) y l
def OutsR (P:Program) (w:World) (o:Nat→Nat→Own):(gs:List Grp)→(r:Nat)→GD gs→List Value→List Bk→Prop
 | [],_,_,vs,io=>vs= []∧io= []
 |g::gs,r,y,v::vs,io=>OutR P w o r g y.1 v∧OutsR P w o gs (r+1) y.2 vs io
 |g::gs,r,y,[],a::io=>BackR P w o r g y.1 a∧OutsR P w o gs (r+1) y.2 [] io
 |_::_,_,_,[],[]=>False
def retOf (vs:List Value):Value :=
 match vs with
 | [v]=>v
 |l=> .tuple l.toArray
def Good (P:Program) (f:Nat) (con:Con):Prop :=
 ∀w o args x y,con.f x=some y→ArgsR P w o con.ins 0 x args→Wf w o →
  Calls P f args.toArray w fun e w'=>∃vs o',e= .returned (retOf vs)∧vs.length=numRes con∧Fr w o w' o'∧Wf w' o'∧OutsR P w' o' con.outs 0 y vs (ioAddrs con.ins args)
def CtxOk (P:Program) (C:Ctx):Prop:=∀f con,C.con f=some con→Good P f con∧Enters P f
theorem mdHd_allSh:∀{ms:List Md},allSh ms=true→mdHd ms= .sh∧allSh (mdTl ms)=true
 | [],_=>⟨rfl,rfl⟩
 | .sh::_,h=>⟨rfl,h⟩
 | .own _::_,h=>by simp [allSh] at h
section
variable {P:Program} {w:World} {o:Nat→Nat→Own}
theorem Vs_of_allSh:∀(ts:Tys) {ms:List Md} {qf:Nat→Own} {j:Nat} {x:ts.D} {vs:List Value},allSh ms=true→ts.Vs P w o ms qf j x vs→ts.Vs P w o [] qf j x vs
 | .nil,_,_,_,_,_,_,h=>h
 | .cons t ts,ms,_,_,x,vs,ha,h=>by
  obtain ⟨v,r,e,h1,h2⟩:=h
  rw [(mdHd_allSh ha).1] at h1
  exact ⟨v,r,e,h1,Vs_of_allSh ts (mdHd_allSh ha).2 h2⟩
theorem Vs_to_allSh:∀(ts:Tys) {ms:List Md} {qf:Nat→Own} {j:Nat} {x:ts.D} {vs:List Value},allSh ms=true→ts.Vs P w o [] qf j x vs→ts.Vs P w o ms qf j x vs
 | .nil,_,_,_,_,_,_,h=>h
 | .cons t ts,ms,_,_,x,vs,ha,h=>by
  obtain ⟨v,r,e,h1,h2⟩:=h
  refine ⟨v,r,e,?_,Vs_to_allSh ts (mdHd_allSh ha).2 h2⟩
  rw [(mdHd_allSh ha).1];exact h1
end
def CV.R0 (P:Program) (w:World) (o:Nat→Nat→Own):CV→Value→Prop
 | .int k n,v=>v= .int k n
 | .bool b,v=>v= .bool b
 | .str s,v=>v= .string s
 | .nils,v=>v= .slice none 0 0
 | .ro es xs,v=>(Ty.sl es).H P w o .sh .p xs v
 | .fnd sh as rs h,v=>(Ty.fn sh as rs).H P w o .sh .p h v
 |_,_=>True
section
variable {P:Program} {w w':World} {g:Gh} {o o':Nat→Nat→Own} {mu:Mu}
theorem CV.R.r0 {cv:CV} {v:Value} (h:cv.R P w g mu v):cv.R0 P w g.o v:=by cases cv<;>first|exact h|trivial
theorem CV.R0.re (hp:PermKeep w o w' o') (hw:Wf w o) {cv:CV} {v:Value} (h:cv.R0 P w o v):cv.R0 P w' o' v:=by
 cases cv<;>first|exact h|trivial|exact H_re hp hw _ .sh .p .p _ v rfl h
theorem ro_R0 (t:Ty) {x:t.D} {v:Value} {q:Own} (h:t.H P w o .sh q x v):(t.ro x).R0 P w o v:=by
 cases t<;>first|exact h|exact H_q _ h
theorem Vs_ros0:∀(ts:Tys) {qf:Nat→Own} {j:Nat} {x:ts.D} {vs:List Value},ts.Vs P w o [] qf j x vs→All2 (CV.R0 P w o) (ts.ros x) vs
 | .nil,_,_,_,_,h=>by cases (h:_= []);trivial
 | .cons t ts,_,_,_,_,h=>by
  obtain ⟨v,r,rfl,h1,h2⟩:=h
  exact ⟨ro_R0 t h1,Vs_ros0 ts h2⟩
theorem packLeaf0_ok {R:Type} {ty:Ty} {to:Nat} {cv:CV} {us:List Use} {v:Value} (hv:cv.R0 P w o v) {K:ty.D→List Use→Option R} {y:R}
  (h:packLeaf app0 mu0 ty .sh to cv us K=some y):∃x,K x us=some y∧∀q,ty.H P w o .sh q x v:=by
 cases ty with
 |int k =>
  cases cv<;>simp only [packLeaf] at h<;>try (cases h;done)
  case int k' n =>
   split at h
   ·rename_i e;subst e;exact ⟨n,h,fun _=>hv⟩
   ·cases h
 |bool =>
  cases cv<;>simp only [packLeaf] at h<;>try (cases h;done)
  case bool b=>exact ⟨b,h,fun _=>hv⟩
 |str =>
  cases cv<;>simp only [packLeaf] at h<;>try (cases h;done)
  case str b=>exact ⟨b,h,fun _=>hv⟩
 |sl es =>
  cases cv<;>simp only [packLeaf,packSl,content,mu0] at h<;>try (cases h;done)
  case nils =>
   cases (hv:v= .slice none 0 0)
   exact ⟨[],h,fun q=>H_sh.2 ⟨none,0,rfl,Nat.le_refl _,.inl rfl⟩⟩
  case ro es' xs =>
   cases he:Tys.eq? es' es with
   |none=>simp [he] at h
   |some p =>
    obtain ⟨p⟩:=p
    subst p
    simp only [he] at h
    exact ⟨xs,h,fun q=>H_q (q:= .p) _ hv⟩
 |fn sh as rs =>
  cases cv<;>simp only [packLeaf,app0] at h<;>try (cases h;done)
  case fnd sh' as' rs' k =>
   cases he:Ty.eq? (.fn sh' as' rs') (.fn sh as rs) with
   |none=>simp [he] at h
   |some p =>
    obtain ⟨p⟩:=p
    cases p
    simp only [he] at h
    exact ⟨k,h,fun q=>hv⟩
  case clo f ids =>
   cases hb:boxCells mu0 ids<;>simp [hb] at h
theorem packs0_ok {R:Type}:∀(ts:Tys) {ms:List Md} (_:allSh ms=true) {to:Nat} {cvs:List CV} {us:List Use} {vs:List Value} (_:All2 (CV.R0 P w o) cvs vs)
  {K:ts.D→List CV→List Use→Option R} {y:R} (_:packs app0 mu0 ts ms to cvs us K=some y),
  ∃x rest vs1 vs2,K x rest us=some y∧vs=vs1++vs2∧All2 (CV.R0 P w o) rest vs2∧vs1.length=ts.len∧∀qf j,ts.Vs P w o [] qf j x vs1
 | .nil,_,_,to,cvs,us,vs,hv,K,y,h=>⟨(),cvs,[],vs,h,rfl,hv,rfl,fun _ _=>rfl⟩
 | .cons t ts,_,_,to,[],us,vs,hv,K,y,h=>by simp [packs] at h
 | .cons t ts,_,_,to,cv::cvs,us,[],hv,K,y,h=>hv.elim
 | .cons t ts,ms,ha,to,cv::cvs,us,v::vs,hv,K,y,h=>by
  simp only [packs,(mdHd_allSh ha).1] at h
  obtain ⟨x,h,hx⟩:=packLeaf0_ok hv.1 h
  obtain ⟨xs,rest,vs1,vs2,h,rfl,hrest,hlen,hxs⟩:=packs0_ok ts (mdHd_allSh ha).2 hv.2 h
  exact ⟨(x,xs),rest,v::vs1,vs2,h,rfl,hrest,by simp [Tys.len,hlen],fun qf j=>⟨v,vs1,rfl,hx _,hxs _ _⟩⟩
def CapsR (w:World) (o:Nat→Nat→Own):List (List CV)→List Value→List (List Value)→Prop
 | [],[],[]=>True
 |c::cs,u::us,v::vs=>(∃b base,u= .pointer (some ⟨b,base,none⟩)∧v.length=c.length∧∀k x,v[k]?=some x→w.cell? ⟨b,base+k,none⟩=some x∧o b (base+k)= .p)∧CapsR w o cs us vs
 |_,_,_=>False
theorem app_split {α:Type}:∀{a b c d:List α},a++b=c++d→a.length=c.length→a=c∧b=d
 | [],_,[],_,h,_=>⟨rfl,by simpa using h⟩
 |x::a,b,y::c,d,h,hl=>by
  simp only [List.cons_append,List.cons.injEq] at h
  have:=app_split h.2 (by simpa using hl)
  exact ⟨by rw [h.1,this.1],this.2⟩
 | [],_,_::_,_,_,hl=>by simp at hl
 |_::_,_,[],_,_,hl=>by simp at hl
theorem packG_ok {R:Type}:∀(gs:List Grp) (sh:List Nat) (caps:List (List CV)) (m:Nat) {cvs:List CV} {vals args us:List Value} {cvals:List (List Value)} (_:shMatch sh caps gs=true)
  (_:shOk sh args) (_:CapsR w o caps us cvals) (_:vals=(args.flatMap fun v=>v.cells.toList)++cvals.flatten) (_:All2 (CV.R0 P w o) cvs vals) {K:GD gs→Option R} {y:R} (_:packG gs cvs K=some y),
  ∃gd,K gd=some y∧ArgsR P w o gs m gd (args++us)
 | [],[],[],m,cvs,vals,args,us,cvals,hs,ho,hc,he,hv,K,y,h=>by
  cases args with
  |cons _ _=>exact ho.elim
  |nil =>
   cases us with
   |cons _ _=>exact hc.elim
   |nil =>
    cases cvs with
    |cons _ _=>simp [packG] at h
    |nil=>exact ⟨(),h,rfl⟩
 | [],_::_,_,m,cvs,vals,args,us,cvals,hs,ho,hc,he,hv,K,y,h=>by simp [shMatch] at hs
 | [],[],_::_,m,cvs,vals,args,us,cvals,hs,ho,hc,he,hv,K,y,h=>by simp [shMatch] at hs
 |g::gs,[],[],m,cvs,vals,args,us,cvals,hs,ho,hc,he,hv,K,y,h=>by simp [shMatch] at hs
 |g::gs,[],c::cs,m,cvs,vals,args,us,cvals,hs,ho,hc,he,hv,K,y,h=>by
  cases args with
  |cons _ _=>exact ho.elim
  |nil =>
   cases us with
   |nil=>exact hc.elim
   |cons u us =>
    cases cvals with
    |nil=>exact hc.elim
    |cons cv cvals =>
     simp only [shMatch,Bool.and_eq_true] at hs
     obtain ⟨⟨⟨hk,hl⟩,ha⟩,hs⟩:=hs
     have hl:=Nat.eq_of_beq_eq_true hl
     simp only [packG] at h
     obtain ⟨x,rest,vs1,vs2,h,hspl,hrest,hlen,hx⟩:=packs0_ok (P:=P) g.ts rfl hv h
     obtain ⟨⟨b,base,rfl,hcl,hcell⟩,hc⟩:=hc
     have:=app_split (a:=vs1) (b:=vs2) (c:=cv) (d:=cvals.flatten) (by rw [←hspl,he];simp) (by omega)
     obtain ⟨rfl,rfl⟩:=this
     obtain ⟨gd,h,hg⟩:=packG_ok gs [] cs (m+1) (args:= []) hs trivial hc (by simp) hrest h
     refine ⟨(x,gd),h,_,us,rfl,?_,hg⟩
     unfold ArgR
     cases hgk:g.k<;>simp only [hgk] at hk ⊢ <;>try (cases hk;done)
     exact ⟨b,base,rfl,Vs_hs g.ts (hx _ _) hcell⟩
 |g::gs,n::s,cs,m,cvs,vals,args,us,cvals,hs,ho,hc,he,hv,K,y,h=>by
  cases args with
  |nil=>cases n<;>exact ho.elim
  |cons v args =>
   simp only [shMatch,Bool.and_eq_true] at hs
   obtain ⟨⟨hk,ha⟩,hs⟩:=hs
   simp only [packG] at h
   obtain ⟨x,rest,vs1,vs2,h,hspl,hrest,hlen,hx⟩:=packs0_ok (P:=P) g.ts rfl hv h
   have hv0:v.cells.toList.length=g.ts.len∧shOk s args∧∀q j,g.ts.Vs P w o [] q j x v.cells.toList→ArgR P w o m g x v:=by
    cases n with
    |zero =>
     cases hgk:g.k<;>simp only [hgk] at hk<;>try (cases hk;done)
     have:=Nat.eq_of_beq_eq_true hk
     refine ⟨by rw [ho.1,this];rfl,ho.2,fun q j h=>?_⟩
     unfold ArgR
     simp only [hgk]
     rw [ho.1] at h
     exact Vs_to_allSh _ ha (Vs_q _ h)
    |succ n =>
     obtain ⟨⟨a,rfl,hn⟩,ho⟩:=ho
     cases hgk:g.k<;>simp only [hgk] at hk<;>try (cases hk;done)
     have:=Nat.eq_of_beq_eq_true hk
     refine ⟨by simp [Value.cells,hn,this],ho,fun q j h=>?_⟩
     unfold ArgR
     simp only [hgk]
     exact ⟨a,rfl,Vs_to_allSh _ ha (Vs_q _ h)⟩
   have:=app_split (a:=vs1) (b:=vs2) (c:=v.cells.toList) (d:=(args.flatMap fun v=>v.cells.toList)++cvals.flatten) (by rw [←hspl,he];simp) (by omega)
   obtain ⟨rfl,rfl⟩:=this
   obtain ⟨gd,h,hg⟩:=packG_ok gs s cs (m+1) hs hv0.2.1 hc rfl hrest h
   exact ⟨(x,gd),h,v,args++us,rfl,hv0.2.2 (fun _=> .p) 0 (hx _ _),hg⟩
def noO (o:Nat→Nat→Own):Nat→Nat→Own:=fun b k=>match o b k with| .o _=> .x|q=>q
open Classical in
noncomputable def backO (w:World) (o o':Nat→Nat→Own):Nat→Nat→Own:=fun b k =>
 if (∃v,w.cell? ⟨b,k,none⟩=some v) then o b k else match o' b k with| .o _=> .x|q=>q
theorem noO_p {b k:Nat} (h:o b k= .p):noO o b k= .p:=by simp [noO,h]
theorem noO_ne {b k:Nat} {π:List Nat}:noO o b k≠ .o π:=by unfold noO;split<;>simp_all
theorem noO_wf:Wf w (noO o):=⟨fun b k π h=>absurd h noO_ne,fun b k=>noO_ne⟩
theorem noO_perm:PermKeep w o w (noO o):=fun b k v hc ho=>⟨hc,noO_p ho⟩
theorem backO_fr (hf:Fr w (noO o) w' o'):Fr w o w' (backO w o o') where
 os:=hf.os
 tape:=hf.tape
 output:=hf.output
 size:=hf.size
 blk b hlt _:=hf.blk b hlt fun _ _=>noO_ne
 cell b k v hv _:=⟨(hf.cell b k v hv fun _=>noO_ne).1,by simp [backO,hv]⟩
 there:=hf.there
 frz:=hf.frz
theorem backO_wf (hf:Fr w (noO o) w' o') (hw:Wf w o):Wf w' (backO w o o') where
 cell b k π h:=by
  unfold backO at h
  split at h
  ·rename_i hc
   obtain ⟨v,hv⟩:=hc
   refine ⟨⟨v,(hf.cell b k v hv fun _=>noO_ne).1⟩,?_⟩
   intro j;rw [hf.frz b j (cell_lt hv)];exact (hw.cell b k π h).2 j
  ·split at h<;>simp_all
 ne b k h:=by
  unfold backO at h
  split at h
  ·exact hw.ne b k h
  ·split at h<;>simp_all
theorem backO_perm (hf:Fr w (noO o) w' o'):PermKeep w' o' w' (backO w o o'):=fun b k v hv ho=>by
 refine ⟨hv,?_⟩
 unfold backO
 split
 ·rename_i hc
  obtain ⟨u,hu⟩:=hc
  have:=(hf.cell b k u hu fun _=>noO_ne).2
  rw [ho] at this
  unfold noO at this
  split at this<;>simp_all
 ·simp [ho]
theorem boxCells_ok (hm:MemR P w g mu) (hw:Wf w g.o) (hp:PermKeep w g.o w' o'):∀{ids:List Nat} {caps:List (List CV)} {vals:List Value},boxCells mu ids=some caps →
  All2 (fun id u=>mu id≠none∧∃b base,g.c id= .box b base∧u= .pointer (some ⟨b,base,none⟩)) ids vals→(∀id∈ids,Rl w g.o w' o' (.o [id]) .p) →
  ∃cvals,CapsR w' o' caps vals cvals∧All2 (CV.R0 P w' o') caps.flatten cvals.flatten
 | [],caps,vals,hb,ha,hr=>by
  simp only [boxCells,Option.some.injEq] at hb
  subst hb
  cases vals with
  |nil=>exact ⟨[],trivial,trivial⟩
  |cons _ _=>exact ha.elim
 |id::ids,caps,[],hb,ha,hr=>ha.elim
 |id::ids,caps,u::vals,hb,ha,hr=>by
  obtain ⟨⟨_,b,base,hc,rfl⟩,ha⟩:=ha
  simp only [boxCells] at hb
  cases hbx:boxCells mu ids with
  |none=>cases hmi:mu id with
   |none=>simp [hmi,hbx] at hb
   |some bl=>cases bl<;>simp [hmi,hbx] at hb
  |some l =>
   obtain ⟨cvals,h1,h2⟩:=boxCells_ok hm hw hp hbx ha (fun i hi=>hr i (by simp [hi]))
   cases hmi:mu id with
   |none=>simp [hmi,hbx] at hb
   |some bl =>
    have hbr:=hm id bl hmi
    cases bl<;>simp only [hmi,hbx] at hb<;>try (cases hb;done)
    case box cs =>
     cases hb
     obtain ⟨b',base',hc',hcs⟩:=hbr
     rw [hc] at hc';cases hc'
     have key:∀(cs:List CV) (n:Nat),(∀j cv,cs[j]?=some cv→∃v,w.cell? ⟨b,base+(n+j),none⟩=some v∧g.o b (base+(n+j))= .o [id]∧cv.R P w g mu v) →
       ∃vs,All2 (CV.R0 P w' o') cs vs∧∀k x,vs[k]?=some x→w'.cell? ⟨b,base+(n+k),none⟩=some x∧o' b (base+(n+k))= .p:=by
      intro cs
      induction cs with
      |nil=>intro n _;exact ⟨[],trivial,by simp⟩
      |cons c cs ih =>
       intro n h
       obtain ⟨v,hv,ho,hcv⟩:=h 0 c rfl
       obtain ⟨vs,h1,h2⟩:=ih (n+1) (fun j cv hj=>by
        have:=h (j+1) cv (by simpa using hj)
        rwa [show n+(j+1)=n+1+j by omega] at this)
       refine ⟨v::vs,⟨CV.R0.re hp hw hcv.r0,h1⟩,fun k x hk=>?_⟩
       cases k with
       |zero =>
        simp at hk;subst hk
        rcases hr id (by simp) with ⟨_,h,_⟩|⟨_,h⟩
        ·cases h
        ·exact h b _ [] v hv (by simpa using ho)
       |succ k =>
        have:=h2 k x (by simpa using hk)
        rwa [show n+1+k=n+(k+1) by omega] at this
     obtain ⟨vs,h3,h4⟩:=key cs 0 (fun j cv hj=>by simpa using hcs j cv hj)
     refine ⟨vs::cvals,⟨⟨b,base,rfl,h3.length.symm,fun k x hk=>by simpa using h4 k x hk⟩,h1⟩,?_⟩
     simp only [List.flatten_cons]
     exact All2.append h3 h2
    case rbox es x =>
     cases hb
     obtain ⟨b',base',hc',hcs⟩:=hbr
     rw [hc] at hc';cases hc'
     obtain ⟨vs,h3,h4⟩:=Hs_vs es (Hs_re hp hw es [] .p .p (fun _=> .p) (fun _=> .p) 0 x b base rfl (fun _=>rfl) hcs)
     have h3':=Vs_ros0 es h3
     refine ⟨vs::cvals,⟨⟨b,base,rfl,h3'.length.symm,h4⟩,h1⟩,?_⟩
     simp only [List.flatten_cons]
     exact All2.append h3' h2
theorem CapsR.re (hp:PermKeep w o w' o'):∀{caps:List (List CV)} {us:List Value} {cvals:List (List Value)},CapsR w o caps us cvals→CapsR w' o' caps us cvals
 | [],[],[],_=>trivial
 |_::_,_::_,_::_,h=>⟨let ⟨b,base,h1,h2,h3⟩:=h.1;⟨b,base,h1,h2,fun k x hk=>let ⟨a,c⟩:=h3 k x hk;hp b _ x a c⟩,CapsR.re hp h.2⟩
theorem outOk_ok {P:Program} {gs:List Grp} (h:outOk gs=true):∃g,gs= [g]∧g.k= .c∧allSh g.ms=true:=by
 match gs,h with
 | [g],h =>
  simp only [outOk,Bool.and_eq_true] at h
  refine ⟨g,rfl,?_,h.2⟩
  cases hk:g.k<;>simp [hk] at h ⊢
theorem ioAddrs_no:∀{gs:List Grp} {sh:List Nat} {caps:List (List CV)} {args:List Value},shMatch sh caps gs=true→ioAddrs gs args= []
 | [],_,_,_,_=>by simp [ioAddrs]
 |_::_,_,_,[],_=>by simp [ioAddrs]
 |g::gs,[],[],v::vs,h=>by simp [shMatch] at h
 |g::gs,[],c::cs,v::vs,h=>by
  simp only [shMatch,Bool.and_eq_true] at h
  have:=ioAddrs_no (args:=vs) h.2
  cases hk:g.k<;>simp [hk,ioAddrs,this] at h ⊢
 |g::gs,n::s,cs,v::vs,h=>by
  simp only [shMatch,Bool.and_eq_true] at h
  have:=ioAddrs_no (args:=vs) h.2
  cases hk:g.k<;>simp [hk,ioAddrs,this] at h ⊢
theorem appC_ok {C:Ctx} (hC:CtxOk P C) (hm:MemR P w g mu) (hw:Wf w g.o):AppOk P w g mu (appC C):=by
 intro f sh caps as rs k ids vals hk hb ha w1 o1 md q hp hr
 unfold appC at hk
 cases hcon:C.con f with
 |none=>simp [hcon] at hk
 |some con =>
  simp only [hcon] at hk
  cases hsm:(shMatch sh caps con.ins&&outOk con.outs) with
  |false=>simp [hsm] at hk
  |true =>
   simp only [hsm,cond_true,Option.some.injEq] at hk
   subst hk
   simp only [Bool.and_eq_true] at hsm
   obtain ⟨hgood,hent⟩:=hC f con hcon
   obtain ⟨go,hgo,hgk,hga⟩:=outOk_ok (P:=P) hsm.2
   refine H_fn.2 ⟨f,vals.toArray,rfl,hent,fun w2 o2 hp2 hw2 x y args hy hsh hvs=>?_⟩
   obtain ⟨ins,outs,cf⟩:=con
   dsimp only at hgo hsm hy
   subst hgo
   have hpn:PermKeep w2 o2 w2 (noO o2):=noO_perm
   obtain ⟨cvals,hc1,hc2⟩:=boxCells_ok (w':=w2) (o':=noO o2) hm hw (hp.trans (hp2.trans hpn)) hb ha fun id hid=>by
    rcases hr id hid with ⟨_,h,_⟩|⟨_,h⟩
    ·cases h
    ·refine .inr ⟨rfl,fun b k s v hc ho=>?_⟩
     have h1:=h b k s v hc ho
     exact (hp2.trans hpn) b k v h1.1 h1.2
   have hvs':=Vs_ros0 as (Vs_perm hpn hw2 as hvs)
   obtain ⟨gd,hy,hga'⟩:=packG_ok (P:=P) (w:=w2) (o:=noO o2) ins sh caps 0 (cvals:=cvals) hsm.1 hsh hc1 rfl (All2.append hvs' hc2) hy
   cases hcf:cf gd with
   |none=>simp [hcf] at hy
   |some yo =>
    simp only [hcf,Option.bind_some] at hy
    have hcall:=hgood w2 (noO o2) (args++vals) gd yo hcf hga' noO_wf
    rw [show (args++vals).toArray=args.toArray++vals.toArray by simp] at hcall
    refine Calls.mono hcall fun e w3 he=>?_
    obtain ⟨vs,o3,rfl,hlen,hfr,hwf,hout⟩:=he
    rw [ioAddrs_no hsm.1] at hout
    match vs,hout with
    | [],hout=>exact hout.elim
    | [v],hout =>
     have ho:=hout.1
     unfold OutR at ho
     simp only [hgk] at ho
     have ho:=Vs_of_allSh _ hga ho
     have hro:=Vs_ros0 _ ho
     obtain ⟨xr,rest,vs1,vs2,hy,hspl,hrest,hl1,hx⟩:=packs0_ok (P:=P) rs (ms:= []) rfl hro hy
     cases rest with
     |cons _ _=>cases hy
     |nil =>
      cases hy
      cases vs2 with
      |cons _ _=>exact hrest.elim
      |nil =>
       simp only [List.append_nil] at hspl
       subst hspl
       refine ⟨v,backO w2 o2 o3,rfl,backO_fr hfr,backO_wf hfr hw2,?_⟩
       exact Vs_perm (backO_perm hfr) hwf rs (hx _ _)
    |_::_::_,hout=>exact absurd hout.2.1 (by simp)
end
end Go.Tm
/- The pure machine, 8: what is handed to a function and comes back. -/
namespace Go.Tm
open Go
def Nxt (P:Program) (w:World) (g:Gh) (mu:Mu) (w':World) (g':Gh) (mu':Mu):Prop :=
 ∃T:Nat→Prop,Stp w g mu w' g' mu' T∧Fr w g.o w' g'.o∧Wf w' g'.o∧(∀b k id s,g'.o b k= .o (id::s)→mu' id≠none) ∧
  ∀id b,(T id∨mu id=none)→mu' id=some b→b.R P w' g' mu' id
theorem Stp.refl (w:World) (g:Gh) (mu:Mu):Stp w g mu w g mu (fun _=>False) :=
 ⟨fun _ _ _ h _=>⟨h,rfl⟩,fun _ _=>rfl,fun _ h=>h,fun _ _ _=>rfl,fun _ _ _ _ _ h=>h.elim⟩
theorem Nxt.refl {P:Program} {w:World} {g:Gh} {mu:Mu} (hw:Wf w g.o) (ho:∀b k id s,g.o b k= .o (id::s)→mu id≠none):Nxt P w g mu w g mu :=
 ⟨_,.refl w g mu,.refl _ _,hw,ho,fun id b h hb=>by rcases h with h|h;exact h.elim;rw [h] at hb;cases hb⟩
theorem Rel.nxt {P:Program} {nt:Nat} {w0:World} {o0:Nat→Nat→Own} {env:Nat→TV} {mu mu':Mu} {tmps:Array Value} {w w':World} {g g':Gh}
  (r:Rel P nt w0 o0 env mu tmps w g) (h:Nxt P w g mu w' g' mu'):Rel P nt w0 o0 env mu' tmps w' g' :=
 let ⟨_,h1,h2,h3,h4,h5⟩:=h;r.step h1 h2 h3 h4 h5
def findU (id:Nat):List Use→Option Use
 | []=>none
 |u::r=>if useId u=id then some u else findU id r
theorem findU_id {id:Nat} {us:List Use} {u:Use} (h:findU id us=some u):useId u=id∧u∈us:=by
 induction us with
 |nil=>cases h
 |cons x r ih =>
  simp only [findU] at h
  split at h
  ·cases h;rename_i e;exact ⟨e,by simp⟩
  ·exact ⟨(ih h).1,by simp [(ih h).2]⟩
theorem hasId_mem {n:Nat}:∀{us:List Use},hasId n us=false→∀u∈us,useId u≠n
 | [],_,u,hu=>by cases hu
 |x::r,h,u,hu=>by
  simp only [hasId,Bool.or_eq_false_iff] at h
  rcases List.mem_cons.1 hu with rfl|hu
  ·exact fun e=>by rw [e] at h;simp [Nat.beq_refl] at h
  ·exact hasId_mem h.2 u hu
theorem findU_mv {id to:Nat}:∀{us:List Use},usesOk us=true→ .mv id to∈us→findU id us=some (.mv id to)
 | [],_,h=>by cases h
 |x::r,hu,h=>by
  simp only [usesOk,Bool.and_eq_true] at hu
  simp only [findU]
  rcases List.mem_cons.1 h with rfl|h'
  ·simp [useId]
  ·clear h
   split
   ·rename_i e
    cases x with
    |mv id' to' =>
     simp only [useId] at e;subst e
     have:=hasId_mem (by simpa using hu.1) _ h'
     exact absurd rfl this
    |pm id' =>
     simp only [useId] at e;subst e
     have h2:=hu.1
     simp only [Bool.not_eq_true',List.any_eq_false] at h2
     have:=h2 _ h'
     simp [isMv,useId,Nat.beq_refl] at this
   ·exact findU_mv hu.2 h'
theorem findU_pm {id:Nat}:∀{us:List Use},usesOk us=true→ .pm id∈us→findU id us=some (.pm id)
 | [],_,h=>by cases h
 |x::r,hu,h=>by
  simp only [usesOk,Bool.and_eq_true] at hu
  simp only [findU]
  rcases List.mem_cons.1 h with rfl|h'
  ·simp [useId]
  ·clear h
   split
   ·rename_i e
    cases x with
    |mv id' to' =>
     simp only [useId] at e;subst e
     have:=hasId_mem (by simpa using hu.1) _ h'
     exact absurd rfl this
    |pm id'=>simp only [useId] at e;subst e;rfl
   ·exact findU_pm hu.2 h'
theorem notO {q:Own} (h1:∀id s,q= .o (id::s)→False) (h2:q= .o []→False) (π:List Nat):q≠ .o π:=by
 intro e
 cases π with
 |nil=>exact h2 e
 |cons a s=>exact h1 a s e
def ho (us:List Use) (o:Nat→Nat→Own):Nat→Nat→Own:=fun b k =>
 match o b k with
 | .o (id::s)=>match findU id us with
  |some (.mv _ to)=> .o (to::s)
  |some (.pm _)=> .p
  |none=> .x
 | .o []=> .x
 |q=>q
def ren (ρ:Nat→Option Nat):Own→Own
 | .o (k::s)=>match ρ k with
  |some id=> .o (id::s)
  |none=> .x
 | .o []=> .x
 |q=>q
open Classical in
noncomputable def bk (cl:Bool) (us:List Use) (ρ:Nat→Option Nat) (w:World) (o o':Nat→Nat→Own):Nat→Nat→Own:=fun b k =>
 if (∃v,w.cell? ⟨b,k,none⟩=some v) then
  match o b k with
  | .o (id::s)=>match findU id us with
   |some (.mv _ _)=>ren ρ (o' b k)
   |some (.pm _)=>if cl then .o (id::s) else .p
   |none=> .o (id::s)
  | .o []=> .x
  |q=>q
 else ren ρ (o' b k)
section
variable {P:Program} {w w':World} {g:Gh} {o':Nat→Nat→Own} {mu:Mu} {us:List Use} {cl:Bool} {ρ:Nat→Option Nat}
theorem ho_served (hu:usesOk us=true):∀u∈us,Served (fun to=> .o [to]) w g.o w (ho us g.o) u:=by
 intro u hm
 cases u with
 |mv id to =>
  refine .inl ⟨[to],rfl,fun b k s v hc h=>⟨hc,?_⟩⟩
  simp only [List.cons_append,List.nil_append] at h
  simp [ho,h,findU_mv hu hm]
 |pm id =>
  refine .inr ⟨rfl,fun b k s v hc h=>⟨hc,?_⟩⟩
  simp only [List.cons_append,List.nil_append] at h
  simp [ho,h,findU_pm hu hm]
theorem ho_perm:PermKeep w g.o w (ho us g.o):=fun b k v hc h=>⟨hc,by simp [ho,h]⟩
theorem ho_wf (hw:Wf w g.o):Wf w (ho us g.o) where
 cell b k π h:=by
  unfold ho at h
  split at h
  ·rename_i id s e;exact hw.cell b k _ e
  ·cases h
  ·rename_i e1 e2;exact absurd h (notO e1 e2 _)
 ne b k h:=by
  unfold ho at h
  split at h
  ·split at h<;>cases h
  ·cases h
  ·rename_i e1 e2;exact absurd h (notO e1 e2 _)
theorem ho_not {b k:Nat} (h:∀π,g.o b k≠ .o π):(∀π,ho us g.o b k≠ .o π)∧ho us g.o b k=g.o b k:=by
 unfold ho
 split
 ·rename_i id s e;exact absurd e (h _)
 ·rename_i e;exact absurd e (h _)
 ·exact ⟨h,rfl⟩
theorem ren_o {q:Own} {id:Nat} {s:List Nat} (h:ren ρ q= .o (id::s)):∃k,q= .o (k::s)∧ρ k=some id:=by
 cases q with
 |x=>cases h
 |p=>cases h
 |o π =>
  cases π with
  |nil=>cases h
  |cons k s' =>
   simp only [ren] at h
   split at h
   ·rename_i i e;cases h;exact ⟨k,rfl,e⟩
   ·cases h
theorem ren_ne {q:Own}:ren ρ q≠ .o []:=by
 cases q with
 |x=>intro h;cases h
 |p=>intro h;cases h
 |o π =>
  cases π with
  |nil=>intro h;cases h
  |cons k s' =>
   simp only [ren]
   split<;>(intro h;cases h)
theorem bk_wf (hf:Fr w (ho us g.o) w' o') (hw:Wf w g.o) (hw':Wf w' o'):Wf w' (bk cl us ρ w g.o o') where
 cell b k π h:=by
  have hren:∀π,ren ρ (o' b k)= .o π→(∃v,w'.cell? ⟨b,k,none⟩=some v)∧∀j,w'.frozen? ⟨b,j,none⟩=false:=by
   intro π h
   cases π with
   |nil=>exact absurd h ren_ne
   |cons id s =>
    obtain ⟨k',hk,_⟩:=ren_o h
    exact hw'.cell b k _ hk
  unfold bk at h
  split at h
  ·rename_i hc
   obtain ⟨v,hv⟩:=hc
   have old:∀id s,g.o b k= .o (id::s)→(∃v,w'.cell? ⟨b,k,none⟩=some v)∧∀j,w'.frozen? ⟨b,j,none⟩=false:=fun id s e=>by
    obtain ⟨v',hv'⟩:=hf.there b k v hv
    exact ⟨⟨v',hv'⟩,fun j=>by rw [hf.frz b j (cell_lt hv)];exact (hw.cell b k _ e).2 j⟩
   split at h
   ·rename_i id s e;exact old _ _ e
   ·cases h
   ·rename_i e1 e2;exact absurd h (notO e1 e2 _)
  ·exact hren _ h
 ne b k h:=by
  unfold bk at h
  split at h
  ·split at h
   ·split at h
    ·exact ren_ne h
    ·split at h<;>cases h
    ·cases h
   ·cases h
   ·rename_i e1 e2;exact absurd h (notO e1 e2 _)
  ·exact ren_ne h
theorem bk_fr (hf:Fr w (ho us g.o) w' o'):Fr w g.o w' (bk cl us ρ w g.o o') where
 os:=hf.os
 tape:=hf.tape
 output:=hf.output
 size:=hf.size
 blk b hlt h:=hf.blk b hlt fun k=>(ho_not (h k)).1
 cell b k v hv h:=by
  refine ⟨(hf.cell b k v hv (ho_not h).1).1,?_⟩
  unfold bk
  rw [if_pos ⟨v,hv⟩]
  split
  ·rename_i id s e;exact absurd e (h _)
  ·rename_i e;exact absurd e (h _)
  ·rfl
 there:=hf.there
 frz:=hf.frz
theorem bk_old {b k:Nat} {v:Value} (hv:w.cell? ⟨b,k,none⟩=some v) (h:∀id s,g.o b k= .o (id::s)→findU id us=none∨(cl=true∧∃i,findU id us=some (.pm i)))
  (hne:g.o b k≠ .o []):bk cl us ρ w g.o o' b k=g.o b k:=by
 unfold bk
 rw [if_pos ⟨v,hv⟩]
 split
 ·rename_i id s e
  rcases h id s e with h|⟨rfl,i,h⟩
  ·simp [h,e]
  ·simp [h,e]
 ·rename_i e;exact absurd e hne
 ·rfl
theorem bk_cell (hf:Fr w (ho us g.o) w' o') {b k:Nat} {v:Value} (hv:w.cell? ⟨b,k,none⟩=some v) (h:∀id s,g.o b k= .o (id::s)→findU id us=none∨∃i,findU id us=some (.pm i)) :
  w'.cell? ⟨b,k,none⟩=some v:=by
 refine (hf.cell b k v hv fun π=>?_).1
 unfold ho
 split
 ·rename_i id s e
  rcases h id s e with h|⟨i,h⟩<;>(rw [h];simp)
 ·simp
 ·rename_i e1 e2;exact notO e1 e2 π
theorem bk_rl (hf:Fr w (ho us g.o) w' o') {k id:Nat} (hρ:ρ k=some id):Rl w' o' w' (bk cl us ρ w g.o o') (.o [k]) (.o [id]):=by
 refine .inl ⟨[id],rfl,fun b j s v hv h=>⟨hv,?_⟩⟩
 simp only [List.cons_append,List.nil_append] at h ⊢
 unfold bk
 split
 ·rename_i hc
  obtain ⟨u,hu⟩:=hc
  have hoc:(∀π,ho us g.o b j≠ .o π)→False:=fun hn=>by
   have:=(hf.cell b j u hu hn).2
   rw [h] at this
   exact hn _ this.symm
  split
  ·rename_i id' s' e
   split
   ·simp [ren,h,hρ]
   ·rename_i e2;exact absurd (fun π=>by simp [ho,e,e2]) hoc
   ·rename_i e2;exact absurd (fun π=>by simp [ho,e,e2]) hoc
  ·rename_i e;exact absurd (fun π=>by simp [ho,e]) hoc
  ·rename_i e1 e2
   exact absurd (fun π=>by rw [(ho_not (notO e1 e2)).2];exact notO e1 e2 π) hoc
 ·simp [ren,h,hρ]
theorem bk_perm (hf:Fr w (ho us g.o) w' o') (hcl:cl=false) (hne:∀b k,g.o b k≠ .o []):PermKeep w' o' w' (bk cl us ρ w g.o o'):=by
 intro b k v hv h
 refine ⟨hv,?_⟩
 unfold bk
 split
 ·rename_i hc
  obtain ⟨u,hu⟩:=hc
  split
  ·rename_i id s e
   split
   ·simp [ren,h]
   ·simp [hcl]
   ·rename_i e2
    have:=(hf.cell b k u hu (fun π=>by simp [ho,e,e2])).2
    simp [h,ho,e,e2] at this
  ·rename_i e;exact absurd e (hne _ _)
  ·rename_i e1 e2
   have hh:ho us g.o b k=g.o b k:=(ho_not (notO e1 e2)).2
   have:=(hf.cell b k u hu (fun π=>by rw [hh];exact notO e1 e2 π)).2
   rw [←hh,←this,h]
 ·simp [ren,h]
mutual
theorem H_cl {w w':World} {o o':Nat→Nat→Own} (hw:Wf w o):∀(t:Ty) (md:Md) (π π':List Nat) (x:t.D) (v:Value),clTy t md=true→Rl w o w' o' (.o π) (.o π')→t.H P w o md (.o π) x v→t.H P w' o' md (.o π') x v
 | .int _,_,_,_,_,_,_,_,h=>h
 | .bool,_,_,_,_,_,_,_,h=>h
 | .str,_,_,_,_,_,_,_,h=>h
 | .sl es,.own ms,π,π',xs,v,hc,hr,h=>by
  obtain ⟨a,c,rfl,hlc,h⟩:=H_own.1 h
  refine H_own.2 ⟨a,c,rfl,hlc,?_⟩
  rcases h with h|⟨ad,ha,hs,hk,h⟩
  ·exact .inl h
  ·have hr':=hr
   rcases hr with ⟨π'',e,hr⟩|⟨e,_⟩
   ·cases e
    refine .inr ⟨ad,ha,hs,fun k hlt=>?_,fun i x hi=>?_⟩
    ·have h1:=hk k hlt
     obtain ⟨⟨u,hu⟩,_⟩:=hw.cell _ _ _ h1
     have:=hr _ _ [] u hu (by simpa using h1)
     simpa using this.2
    ·exact Hs_cl hw es ms _ _ _ _ 0 x _ _ (by simpa [clTy] using hc) hr' (fun j=>Rl.sub hr' [i,j]) (h i x hi)
   ·cases e
 | .sl es,.sh,_,_,_,_,hc,_,_=>by simp [clTy] at hc
 | .fn _ _ _,_,_,_,_,_,hc,_,_=>by simp [clTy] at hc
theorem Hs_cl {w w':World} {o o':Nat→Nat→Own} (hw:Wf w o):∀(ts:Tys) (ms:List Md) (π π':List Nat) (pf pf':Nat→List Nat) (j:Nat) (x:ts.D) (b off:Nat),clTys ts ms=true→Rl w o w' o' (.o π) (.o π') →
  (∀j,Rl w o w' o' (.o (pf j)) (.o (pf' j)))→ts.Hs P w o ms (.o π) (fun j=> .o (pf j)) j x b off→ts.Hs P w' o' ms (.o π') (fun j=> .o (pf' j)) j x b off
 | .nil,_,_,_,_,_,_,_,_,_,_,_,_,_=>trivial
 | .cons t ts,ms,π,π',pf,pf',j,x,b,off,hc,hr,hf,h=>by
  simp only [clTys,Bool.and_eq_true] at hc
  obtain ⟨⟨v,hv,ho,ht⟩,h⟩:=h
  have:w'.cell? ⟨b,off,none⟩=some v∧o' b off= .o π':=by
   rcases hr with ⟨π'',e,hr⟩|⟨e,_⟩
   ·cases e;have:=hr b off [] v hv (by simpa using ho);simpa using this
   ·cases e
  exact ⟨⟨v,this.1,this.2,H_cl hw t _ _ _ x.1 v hc.1 (hf j) ht⟩,Hs_cl hw ts _ π π' pf pf' _ _ _ _ hc.2 hr hf h⟩
end
theorem mdAt_zero (ms:List Md):mdAt ms 0=mdHd ms:=by cases ms<;>rfl
theorem mdAt_succ (ms:List Md) (i:Nat):mdAt ms (i+1)=mdAt (mdTl ms) i:=by cases ms<;>rfl
theorem H_out {w w':World} {o o':Nat→Nat→Own} (hw:Wf w o) (hp:cl=false→PermKeep w o w' o') (t:Ty) {md:Md} {π π':List Nat} {x:t.D} {v:Value} (hc:cl=true→clTy t md=true)
  (hr:(∃m,md= .own m)→Rl w o w' o' (.o π) (.o π')) (h:t.H P w o md (.o π) x v):t.H P w' o' md (.o π') x v:=by
 cases hcl:cl with
 |true =>
  cases t with
  |int=>exact h
  |bool=>exact h
  |str=>exact h
  |sl es =>
   cases md with
   |sh=>have:=hc hcl;simp [clTy] at this
   |own ms=>exact H_cl hw _ _ _ _ x v (hc hcl) (hr ⟨_,rfl⟩) h
  |fn=>have:=hc hcl;simp [clTy] at this
 |false =>
  cases md with
  |sh=>exact H_q _ (H_re (hp hcl) hw t .sh .p .p x v rfl (H_q _ h))
  |own ms=>exact H_re (hp hcl) hw t _ _ _ x v (hr ⟨_,rfl⟩) h
theorem Vs_out {w w':World} {o o':Nat→Nat→Own} (hw:Wf w o) (hp:cl=false→PermKeep w o w' o') {pf pf':Nat→List Nat}:∀(ts:Tys) {ms:List Md} {j:Nat} {x:ts.D} {vs:List Value},
  (cl=true→clTys ts ms=true)→(∀i,i<ts.len→(∃m,mdAt ms i= .own m)→Rl w o w' o' (.o (pf (j+i))) (.o (pf' (j+i)))) →
  ts.Vs P w o ms (fun j=> .o (pf j)) j x vs→ts.Vs P w' o' ms (fun j=> .o (pf' j)) j x vs
 | .nil,_,_,_,_,_,_,h=>h
 | .cons t ts,ms,j,x,vs,hc,hr,h=>by
  obtain ⟨v,r,e,h1,h2⟩:=h
  refine ⟨v,r,e,H_out hw hp t (fun e=>?_) (fun hm=>?_) h1,Vs_out hw hp ts (fun e=>?_) (fun i hi hm=>?_) h2⟩
  ·have:=hc e;simp only [clTys,Bool.and_eq_true] at this;exact this.1
  ·exact hr 0 (by simp [Tys.len]) (by rw [mdAt_zero];exact hm)
  ·have:=hc e;simp only [clTys,Bool.and_eq_true] at this;exact this.2
  ·have:=hr (i+1) (by simp [Tys.len,hi]) (by rw [mdAt_succ];exact hm)
   rwa [show j+(i+1)=j+1+i by omega] at this
end
end Go.Tm
/- The pure machine, 9: calls. -/
namespace Go.Tm
open Go
section
variable {P:Program} {w w':World} {g:Gh} {o o':Nat→Nat→Own} {mu:Mu}
theorem Served.pm {dest:Nat→Own} {id:Nat} (h:Served dest w o w' o' (.pm id)):Rl w o w' o' (.o [id]) .p:=h
theorem Served.mv {dest:Nat→Own} {id to:Nat} (h:Served dest w o w' o' (.mv id to)):Rl w o w' o' (.o [id]) (dest to):=h
theorem box_vs {q:Own} {b base:Nat}:∀(cs:List CV),(∀j cv,cs[j]?=some cv→∃v,w.cell? ⟨b,base+j,none⟩=some v∧g.o b (base+j)=q∧cv.R P w g mu v) →
  ∃vs,cvsR P w g mu cs vs∧∀k v,vs[k]?=some v→w.cell? ⟨b,base+k,none⟩=some v∧g.o b (base+k)=q:=by
 intro cs
 have key:∀(cs:List CV) (n:Nat),(∀j cv,cs[j]?=some cv→∃v,w.cell? ⟨b,base+(n+j),none⟩=some v∧g.o b (base+(n+j))=q∧cv.R P w g mu v) →
   ∃vs,cvsR P w g mu cs vs∧∀k v,vs[k]?=some v→w.cell? ⟨b,base+(n+k),none⟩=some v∧g.o b (base+(n+k))=q:=by
  intro cs
  induction cs with
  |nil=>intro n _;exact ⟨[],trivial,by simp⟩
  |cons c cs ih =>
   intro n h
   obtain ⟨v,hv,ho,hcv⟩:=h 0 c rfl
   obtain ⟨vs,h1,h2⟩:=ih (n+1) (fun j cv hj=>by
    have:=h (j+1) cv (by simpa using hj)
    rwa [show n+(j+1)=n+1+j by omega] at this)
   refine ⟨v::vs,⟨hcv,h1⟩,fun k x hk=>?_⟩
   cases k with
   |zero=>simp at hk;subst hk;exact ⟨by simpa using hv,by simpa using ho⟩
   |succ k =>
    have:=h2 k x (by simpa using hk)
    rwa [show n+1+k=n+(k+1) by omega] at this
 intro h
 have:=key cs 0 (fun j cv hj=>by simpa using h j cv hj)
 simpa using this
theorem cvs_R {id ver i:Nat} {es:Tys} {ms0:List Md} {xs:List es.D} {a:Addr} {n c:Nat} (hm:mu id=some (.row es ms0 xs ver)) (hc:g.c id= .row (.slice (some a) n c)) (base:Nat)
  (hb:base=a.off+i*es.len):∀(ts:Tys) {ms:List Md} {qf:Nat→Own} {j:Nat} {x:ts.D} {vs:List Value},ts.Vs P w g.o ms qf j x vs →
  (∀k v,vs[k]?=some v→w.cell? ⟨a.block,base+(j+k),none⟩=some v∧g.o a.block (base+(j+k))= .o [id])→cvsR P w g mu (ts.cvs ms (fun j=> .nref id ver i j) j x) vs
 | .nil,ms,qf,j,x,vs,h,hcell=>by cases (h:vs= []);trivial
 | .cons t ts,ms,qf,j,x,vs,h,hcell=>by
  obtain ⟨v,r,rfl,h1,h2⟩:=h
  refine ⟨?_,cvs_R hm hc base hb ts h2 fun k v hk=>?_⟩
  ·have h0:=hcell 0 v rfl
   cases hmd:mdHd ms with
   |sh=>rw [hmd] at h1;exact ro_R t (H_q t h1)
   |own ms' =>
    refine ⟨by rw [hm];simp,H_cellish t h1,fun es' ms2 xs' ver' hm'=>?_⟩
    rw [hm] at hm';cases hm'
    refine ⟨Nat.le_refl _,fun _=>⟨a,n,c,hc,?_,?_⟩⟩
    ·have:=h0.1;rw [hb] at this;simpa using this
    ·have:=h0.2;rw [hb] at this;simpa using this
  ·have:=hcell (k+1) v (by simpa using hk)
   rwa [show j+(k+1)=j+1+k by omega] at this
theorem All2.getD_drop_take {α:Type} {vs:List α} {k off n:Nat} {v:α} (h:((vs.drop off).take n)[k]?=some v):vs[off+k]?=some v:=by
 rw [List.getElem?_take] at h
 split at h
 ·rwa [List.getElem?_drop] at h
 ·cases h
theorem ptrCells_ok {R:Type} (hm:MemR P w g mu) (hw:Wf w g.o) {cv:CV} {v:Value} (hv:cv.R P w g mu v) {n:Nat} {us:List Use} {K:List CV→List Use→Option R} {y:R}
  (h:ptrCells mu cv n us K=some y):∃cvs new vs b base,K cvs (new++us)=some y∧cvsR P w g mu cvs vs∧v= .pointer (some ⟨b,base,none⟩) ∧
   ∀dest w' o',PermKeep w g.o w' o'→(∀u∈new,Served dest w g.o w' o' u)→∀k u,vs[k]?=some u→w'.cell? ⟨b,base+k,none⟩=some u∧o' b (base+k)= .p:=by
 cases cv<;>simp only [ptrCells] at h<;>try (cases h;done)
 case ptr id off =>
  obtain ⟨_,b,base,hc,rfl⟩:=hv
  cases hb:mu id with
  |none=>simp [hb] at h
  |some bl =>
   have hbr:=hm id bl hb
   cases bl<;>simp only [hb] at h<;>try (cases h;done)
   case box cs =>
    obtain ⟨b',base',hc',hcs⟩:=hbr
    rw [hc] at hc';cases hc'
    obtain ⟨vs,h1,h2⟩:=box_vs (P:=P) (mu:=mu) cs hcs
    refine ⟨_,[.pm id],_,b,base+off,h,All2.take n (All2.drop off h1),rfl,fun dest w' o' hp hs k u hk=>?_⟩
    have h3:=h2 _ _ (All2.getD_drop_take hk)
    rcases Served.pm (hs (.pm id) (by simp)) with ⟨_,e,_⟩|⟨_,hs⟩
    ·cases e
    ·have:=hs b (base+(off+k)) [] u h3.1 (by simpa using h3.2)
     rwa [show base+(off+k)=base+off+k by omega] at this
   case rbox es x =>
    obtain ⟨b',base',hc',hcs⟩:=hbr
    rw [hc] at hc';cases hc'
    obtain ⟨vs,h1,h2⟩:=Hs_vs es hcs
    refine ⟨_,[],_,b,base+off,h,All2.take n (All2.drop off (Vs_ros es h1)),rfl,fun dest w' o' hp hs k u hk=>?_⟩
    have h3:=h2 _ _ (All2.getD_drop_take hk)
    have:=hp _ _ _ h3.1 h3.2
    rwa [show base+(off+k)=base+off+k by omega] at this
 case rptr es x off =>
  obtain ⟨b,base,rfl,hcs⟩:=hv
  obtain ⟨vs,h1,h2⟩:=Hs_vs es hcs
  refine ⟨_,[],_,b,base+off,h,All2.take n (All2.drop off (Vs_ros es h1)),rfl,fun dest w' o' hp hs k u hk=>?_⟩
  have h3:=h2 _ _ (All2.getD_drop_take hk)
  have:=hp _ _ _ h3.1 h3.2
  rwa [show base+(off+k)=base+off+k by omega] at this
 case eptr id sz i off =>
  obtain ⟨_,a,m,c,hc,hspot,rfl⟩:=hv
  cases hb:mu id with
  |none=>simp [hb] at h
  |some bl =>
   have hbr:=hm id bl hb
   cases bl<;>simp only [hb] at h<;>try (cases h;done)
   case row es ms xs ver =>
    cases hsz:Nat.beq sz es.len with
    |false=>simp [hsz] at h
    |true =>
     simp only [hsz,cond_true] at h
     have hsz:=Nat.eq_of_beq_eq_true hsz
     cases hx:getN xs i with
     |none=>simp [hx] at h
     |some x =>
      simp only [hx,Option.bind_some] at h
      obtain ⟨v',hc',hr⟩:=hbr
      rw [hc] at hc';cases hc'
      obtain ⟨a',c',he,_,hr⟩:=H_own.1 hr
      cases he
      rcases hr with ⟨rfl,_⟩|⟨ad,hea,_,_,hr⟩
      ·simp [getN] at hx
      ·cases hea
       obtain ⟨vs,h1,h2⟩:=Hs_vs es (hr i x hx)
       have h4:=cvs_R (P:=P) (w:=w) (ms0:=ms) hb hc (a.off+i*es.len) rfl es h1 (by simpa using h2)
       refine ⟨_,[.pm id],_,a.block,a.off+i*sz+off,h,All2.take n (All2.drop off h4),rfl,fun dest w' o' hp hs k u hk=>?_⟩
       have h3:=h2 _ _ (All2.getD_drop_take hk)
       rcases Served.pm (hs (.pm id) (by simp)) with ⟨_,e,_⟩|⟨_,hs⟩
       ·cases e
       ·have:=hs a.block _ [] u h3.1 (by simpa using h3.2)
        rw [hsz]
        rwa [show a.off+i*es.len+(off+k)=a.off+i*es.len+off+k by omega] at this
def TgR (P:Program) (w:World) (g:Gh) (mu:Mu):Tg→Bk→Prop
 | .bx id,.bx b off=>(∃cs,mu id=some (.box cs))∧g.c id= .box b off
 | .cv cs,.vs l=>cvsR P w g mu cs l
 |_,_=>False
theorem packIns_ok {R:Type} {C:Ctx} (hC:CtxOk P C) (hm:MemR P w g mu) (hw:Wf w g.o):∀(gs:List Grp) (m:Nat) {args:List TV} {vals:List Value} {us:List Use} (_:All2 (TV.R P w g mu) args vals)
  {K:GD gs→List Use→Option R} {y:R} (_:packIns C mu gs m args us K=some y),∃x new,K x (new++us)=some y ∧
   All2 (TgR P w g mu) (ioIds gs args) (ioAddrs gs vals) ∧
   ∀w' o',PermKeep w g.o w' o'→(∀u∈new,Served (fun to=> .o [to]) w g.o w' o' u)→ArgsR P w' o' gs m x vals
 | [],m,args,vals,us,ha,K,y,h=>by
  cases args with
  |cons _ _=>simp [packIns] at h
  |nil =>
   cases vals with
   |cons _ _=>exact ha.elim
   |nil=>exact ⟨(),[],h,trivial,fun _ _ _ _=>rfl⟩
 |gr::gs,m,[],vals,us,ha,K,y,h=>by simp [packIns] at h
 |gr::gs,m,a::args,[],us,ha,K,y,h=>ha.elim
 |gr::gs,m,a::args,v::vals,us,ha,K,y,h=>by
  have go:∀(cvs:List CV) (vs:List Value) (us:List Use),cvsR P w g mu cvs vs →
    (packs (appC C) mu gr.ts gr.ms (64*m+1) cvs us fun x cvs us=>match cvs with
     | []=>packIns C mu gs (m+1) args us fun r us=>K (x,r) us
     |_=>none)=some y →
    ∃x new,K x (new++us)=some y∧All2 (TgR P w g mu) (ioIds gs args) (ioAddrs gs vals) ∧
     ∀w' o',PermKeep w g.o w' o'→(∀u∈new,Served (fun to=> .o [to]) w g.o w' o' u) →
      gr.ts.Vs P w' o' gr.ms (fun j=> .o [j]) (64*m+1) x.1 vs∧ArgsR P w' o' gs (m+1) x.2 vals:=by
   intro cvs vs us hcv h
   obtain ⟨x,rest,new,vs1,vs2,h,rfl,hrest,_,hx⟩:=packs_ok hm hw (fun to=> .o [to]) (appC_ok hC hm hw) gr.ts hcv h
   cases rest with
   |cons _ _=>cases h
   |nil =>
    cases vs2 with
    |cons _ _=>exact hrest.elim
    |nil =>
     obtain ⟨r,new',h,hio,hr⟩:=packIns_ok hC hm hw gs (m+1) ha.2 h
     refine ⟨(x,r),new'++new,by rw [List.append_assoc];exact h,hio,fun w' o' hp hs=>⟨?_,?_⟩⟩
     ·rw [List.append_nil];exact hx w' o' hp fun u hu=>hs u (by simp [hu])
     ·exact hr w' o' hp fun u hu=>hs u (by simp [hu])
  have hav:=ha.1
  simp only [packIns] at h
  cases hk:gr.k with
  |c =>
   cases a<;>simp only [hk] at h<;>try (cases h;done)
   case c cv =>
    obtain ⟨x,new,h,hio,hx⟩:=go [cv] [v] us ⟨hav,trivial⟩ h
    refine ⟨x,new,h,by simpa [ioIds,ioAddrs,hk] using hio,fun w' o' hp hs=>⟨v,vals,rfl,?_,(hx w' o' hp hs).2⟩⟩
    unfold ArgR;simp only [hk];exact (hx w' o' hp hs).1
  |agg =>
   cases a<;>simp only [hk] at h<;>try (cases h;done)
   case agg cvs =>
    obtain ⟨arr,rfl,hcv⟩:=hav
    obtain ⟨x,new,h,hio,hx⟩:=go cvs arr.toList us hcv h
    refine ⟨x,new,h,by simpa [ioIds,ioAddrs,hk] using hio,fun w' o' hp hs=>⟨_,vals,rfl,?_,(hx w' o' hp hs).2⟩⟩
    unfold ArgR;simp only [hk];exact ⟨arr,rfl,(hx w' o' hp hs).1⟩
  |rp =>
   cases a<;>simp only [hk] at h<;>try (cases h;done)
   case c cv =>
    cases hsh:allSh gr.ms with
    |false=>simp [hsh] at h
    |true =>
     simp only [hsh,cond_true] at h
     obtain ⟨cvs,new0,vs,b,base,h,hcv,rfl,hcell⟩:=ptrCells_ok hm hw hav h
     obtain ⟨x,new,h,hio,hx⟩:=go cvs vs _ hcv h
     refine ⟨x,new++new0,by rw [List.append_assoc];exact h,by simpa [ioIds,ioAddrs,hk] using hio,fun w' o' hp hs=>⟨_,vals,rfl,?_,(hx w' o' hp fun u hu=>hs u (by simp [hu])).2⟩⟩
     unfold ArgR;simp only [hk]
     refine ⟨b,base,rfl,Vs_hs gr.ts (Vs_q gr.ts (Vs_of_allSh _ hsh (hx w' o' hp fun u hu=>hs u (by simp [hu])).1)) (hcell _ w' o' hp fun u hu=>hs u (by simp [hu]))⟩
  |io =>
   cases a<;>simp only [hk] at h<;>try (cases h;done)
   case c cv =>
    cases cv<;>simp only at h<;>try (cases h;done)
    case ptr id off =>
     obtain ⟨hid,b,base,hc,rfl⟩:=hav
     cases hb:mu id with
     |none=>exact absurd hb hid
     |some bl =>
      have hbr:=hm id bl hb
      cases bl<;>simp only [hb] at h<;>try (cases h;done)
      case box cs =>
       cases hoff:Nat.beq off 0 with
       |false=>simp [hoff] at h
       |true =>
        simp only [hoff,cond_true] at h
        cases Nat.eq_of_beq_eq_true hoff
        obtain ⟨b',base',hc',hcs⟩:=hbr
        rw [hc] at hc';cases hc'
        obtain ⟨vs,h1,h2⟩:=box_vs (P:=P) (mu:=mu) cs hcs
        obtain ⟨x,new,h,hio,hx⟩:=go cs vs _ h1 h
        refine ⟨x,new++ [.mv id (64*m)],by rw [List.append_assoc];exact h,?_,fun w' o' hp hs=>⟨_,vals,rfl,?_,(hx w' o' hp fun u hu=>hs u (by simp [hu])).2⟩⟩
        ·simp only [ioIds,ioAddrs,hk]
         exact ⟨⟨⟨cs,hb⟩,hc⟩,hio⟩
        ·unfold ArgR;simp only [hk]
         refine ⟨b,base+0,rfl,Vs_hs gr.ts (hx w' o' hp fun u hu=>hs u (by simp [hu])).1 fun k u hk=>?_⟩
         have h3:=h2 k u hk
         rcases Served.mv (hs (.mv id (64*m)) (by simp)) with ⟨_,e,hs⟩|⟨e,_⟩
         ·cases e;have:=hs b _ [] u h3.1 (by simpa using h3.2);simpa using this
         ·cases e
  |np=>cases a<;>simp only [hk] at h<;>cases h
  |wc =>
   cases a<;>simp only [hk] at h<;>try (cases h;done)
   case c cv =>
    obtain ⟨x,new,h,hio,hx⟩:=go [cv] [v] us ⟨hav,trivial⟩ h
    refine ⟨x,new,h,by simp only [ioIds,ioAddrs,hk];exact ⟨⟨hav,trivial⟩,hio⟩,fun w' o' hp hs=>⟨v,vals,rfl,?_,(hx w' o' hp hs).2⟩⟩
    unfold ArgR;simp only [hk];exact (hx w' o' hp hs).1
  |wa =>
   cases a<;>simp only [hk] at h<;>try (cases h;done)
   case agg cvs =>
    obtain ⟨arr,rfl,hcv⟩:=hav
    obtain ⟨x,new,h,hio,hx⟩:=go cvs arr.toList us hcv h
    refine ⟨x,new,h,by simp only [ioIds,ioAddrs,hk];exact ⟨hcv,hio⟩,fun w' o' hp hs=>⟨_,vals,rfl,?_,(hx w' o' hp hs).2⟩⟩
    unfold ArgR;simp only [hk];exact ⟨arr,rfl,(hx w' o' hp hs).1⟩
def OutsT (P:Program) (w:World) (o:Nat→Nat→Own) (tv:Nat→List Value) (ta:Nat→Nat×Nat):(gs:List Grp)→(r:Nat)→GD gs→List Value→List Bk→Prop
 | [],_,_,vs,io=>vs= []∧io= []
 |g::gs,r,y,v::vs,io=>(g.ts.Vs P w o g.ms (fun j=> .o [j]) (64*r+1) y.1 (tv r)∧(match g.k with
   | .c=>tv r= [v]
   | .agg=>v= .agg (tv r).toArray
   | .np=>v= .pointer (some ⟨(ta r).1,(ta r).2,none⟩)∧∀k u,(tv r)[k]?=some u→w.cell? ⟨(ta r).1,(ta r).2+k,none⟩=some u∧o (ta r).1 ((ta r).2+k)= .o [64*r]
   |_=>False))∧OutsT P w o tv ta gs (r+1) y.2 vs io
 |g::gs,r,y,[],a::io=>(g.ts.Vs P w o g.ms (fun j=> .o [j]) (64*r+1) y.1 (tv r)∧(match a with
   | .bx b off=>ta r=(b,off)∧∀k u,(tv r)[k]?=some u→w.cell? ⟨(ta r).1,(ta r).2+k,none⟩=some u∧o (ta r).1 ((ta r).2+k)= .o [64*r]
   | .vs l=>tv r=l))∧OutsT P w o tv ta gs (r+1) y.2 [] io
 |_::_,_,_,[],[]=>False
theorem OutsT.congr {tv tv':Nat→List Value} {ta ta':Nat→Nat×Nat}:∀(gs:List Grp) (r:Nat) {y:GD gs} {vs:List Value} {io:List Bk},(∀i,r≤i→tv' i=tv i∧ta' i=ta i) →
  OutsT P w o tv ta gs r y vs io→OutsT P w o tv' ta' gs r y vs io
 | [],_,_,_,_,_,h=>h
 |g::gs,r,y,v::vs,io,hc,h=>by
  have h0:=hc r (Nat.le_refl _)
  simp only [OutsT,h0.1,h0.2] at h ⊢
  exact ⟨h.1,OutsT.congr gs (r+1) (fun i hi=>hc i (by omega)) h.2⟩
 |g::gs,r,y,[],a::io,hc,h=>by
  have h0:=hc r (Nat.le_refl _)
  simp only [OutsT,h0.1,h0.2] at h ⊢
  exact ⟨h.1,OutsT.congr gs (r+1) (fun i hi=>hc i (by omega)) h.2⟩
 |_::_,_,_,[],[],_,h=>h.elim
theorem outs_tab:∀(gs:List Grp) (r:Nat) {y:GD gs} {vs:List Value} {io:List Bk},OutsR P w o gs r y vs io→∃tv ta,OutsT P w o tv ta gs r y vs io
 | [],_,_,_,_,h=>⟨fun _=> [],fun _=>(0,0),h⟩
 |g::gs,r,y,v::vs,io,h=>by
  obtain ⟨tv,ta,ht⟩:=outs_tab gs (r+1) h.2
  have h1:=h.1
  unfold OutR at h1
  cases hk:g.k<;>simp only [hk] at h1
  case c =>
   refine ⟨fun i=>if i=r then [v] else tv i,ta,⟨⟨by simpa using h1,by simp [hk]⟩,?_⟩⟩
   exact OutsT.congr gs (r+1) (fun i hi=>⟨by simp;omega,rfl⟩) ht
  case agg =>
   obtain ⟨a,rfl,h1⟩:=h1
   refine ⟨fun i=>if i=r then a.toList else tv i,ta,⟨⟨by simpa using h1,by simp [hk]⟩,?_⟩⟩
   exact OutsT.congr gs (r+1) (fun i hi=>⟨by simp;omega,rfl⟩) ht
  case np =>
   obtain ⟨b,base,rfl,h1⟩:=h1
   obtain ⟨vl,h2,h3⟩:=Hs_vs _ h1
   refine ⟨fun i=>if i=r then vl else tv i,fun i=>if i=r then (b,base) else ta i,⟨⟨by simpa using h2,by simpa [hk] using h3⟩,?_⟩⟩
   exact OutsT.congr gs (r+1) (fun i hi=>⟨by simp;omega,by simp;omega⟩) ht
 |g::gs,r,y,[],a::io,h=>by
  obtain ⟨tv,ta,ht⟩:=outs_tab gs (r+1) h.2
  have h1:=h.1
  cases a with
  |bx b off =>
   obtain ⟨vl,h2,h3⟩:=Hs_vs _ h1
   refine ⟨fun i=>if i=r then vl else tv i,fun i=>if i=r then (b,off) else ta i,⟨⟨by simpa using h2,by simp,by simpa using h3⟩,?_⟩⟩
   exact OutsT.congr gs (r+1) (fun i hi=>⟨by simp;omega,by simp;omega⟩) ht
  |vs l =>
   have h1:g.ts.Vs P w o g.ms (fun j=> .o [j]) (64*r+1) y.1 l:=h1
   refine ⟨fun i=>if i=r then l else tv i,ta,⟨⟨by simpa using h1,by simp⟩,?_⟩⟩
   exact OutsT.congr gs (r+1) (fun i hi=>⟨by simp;omega,rfl⟩) ht
 |_::_,_,_,[],[],h=>h.elim
end
end Go.Tm
/- The pure machine, 10: what comes back from a call. -/
namespace Go.Tm
open Go
theorem updL_some:∀{l:List (Nat×Blk)} {mu:Mu} {id:Nat},mu id≠none→updL mu l id≠none
 | [],_,_,h=>h
 |(k,b)::r,mu,id,h=>by
  simp only [updL]
  refine updL_some (l:=r) ?_
  unfold upd
  cases Nat.beq id k<;>simp [h]
theorem updL_mem:∀{l:List (Nat×Blk)} {mu:Mu} {id:Nat} {b:Blk},(id,b)∈l→updL mu l id≠none
 |(k,b')::r,mu,id,b,h=>by
  simp only [updL]
  rcases List.mem_cons.1 h with h|h
  ·cases h
   refine updL_some ?_
   simp [upd,Nat.beq_refl]
  ·exact updL_mem h
theorem updL_cases:∀{l:List (Nat×Blk)} {mu:Mu} {id:Nat} {b:Blk},updL mu l id=some b→(id,b)∈l∨((∀b',(id,b')∉l)∧mu id=some b)
 | [],_,_,_,h=> .inr ⟨by simp,h⟩
 |(k,b')::r,mu,id,b,h=>by
  simp only [updL] at h
  rcases updL_cases h with h|⟨hn,h⟩
  ·exact .inl (by simp [h])
  ·unfold upd at h
   cases e:Nat.beq id k with
   |true =>
    rw [e] at h
    cases Nat.eq_of_beq_eq_true e
    cases h
    exact .inl (by simp)
   |false =>
    rw [e] at h
    refine .inr ⟨fun b2 h2=>?_,h⟩
    rcases List.mem_cons.1 h2 with h2|h2
    ·cases h2;rw [Nat.beq_refl] at e;cases e
    ·exact hn b2 h2
theorem updL_none:∀{l:List (Nat×Blk)} {mu:Mu} {id:Nat},(∀b',(id,b')∉l)→updL mu l id=mu id
 | [],_,_,_=>rfl
 |(k,b')::r,mu,id,h=>by
  simp only [updL]
  rw [updL_none fun b hb=>h b (by simp [hb])]
  unfold upd
  cases e:Nat.beq id k with
  |true=>cases Nat.eq_of_beq_eq_true e;exact absurd (by simp) (h b')
  |false=>rfl
section
variable {P:Program} {w w':World} {g g':Gh} {o o':Nat→Nat→Own} {mu mu':Mu}
theorem outRows_mem:∀(ts:Tys) {ms:List Md} {k:Nat} {x:ts.D} {i:Nat} {m:List Md},mdOk ts ms=true→i<ts.len→mdAt ms i= .own m→∃b,(k+i,b)∈outRows ts ms k x
 | .nil,_,_,_,_,_,_,h,_=>by simp [Tys.len] at h
 | .cons t ts,ms,k,x,0,m,ho,_,hm=>by
  rw [mdAt_zero] at hm
  simp only [mdOk,hm,Bool.and_eq_true] at ho
  cases t with
  |sl es=>exact ⟨.row es m x.1 0,by simp only [outRows,hm];exact List.mem_append_left _ (by simp [outRow])⟩
  |_=>simp at ho
 | .cons t ts,ms,k,x,i+1,m,ho,hi,hm=>by
  simp only [mdOk,Bool.and_eq_true] at ho
  obtain ⟨b,hb⟩:=outRows_mem ts (k:=k+1) (x:=x.2) ho.2 (by simpa [Tys.len] using hi) (by rw [mdAt_succ] at hm;exact hm)
  exact ⟨b,by simp only [outRows];rw [show k+(i+1)=k+1+i by omega];exact List.mem_append_right _ hb⟩
theorem outRows_R {idb:Nat}:∀(ts:Tys) {ms:List Md} {j:Nat} {x:ts.D} {vs:List Value},mdOk ts ms=true→ts.Vs P w' g'.o ms (fun j=> .o [idb+j]) j x vs →
  (∀id b,(id,b)∈outRows ts ms (idb+j) x→mu' id≠none)→(∀i,i<ts.len→g'.c (idb+j+i)= .row (vs.getD i undef)) →
  cvsR P w' g' mu' (outCVs ts ms (idb+j) x) vs∧∀id b,(id,b)∈outRows ts ms (idb+j) x→b.R P w' g' mu' id
 | .nil,ms,j,x,vs,ho,h,hid,hc=>by cases (h:vs= []);exact ⟨trivial,by simp [outRows]⟩
 | .cons t ts,ms,j,x,vs,ho,h,hid,hc=>by
  obtain ⟨v,r,rfl,h1,h2⟩:=h
  simp only [mdOk,Bool.and_eq_true] at ho
  have hc0:=hc 0 (by simp [Tys.len])
  simp only [Nat.add_zero,List.getD_cons_zero] at hc0
  obtain ⟨h3,h4⟩:=outRows_R ts ho.2 h2 (fun id b hb=>hid id b (by simp only [outRows];exact List.mem_append_right _ hb)) fun i hi=>by
   have:=hc (i+1) (by simp [Tys.len,hi])
   rw [show idb+j+(i+1)=idb+(j+1)+i by omega] at this
   simpa using this
  have hrow:∀m,mdHd ms= .own m→(CV.own (idb+j)).R P w' g' mu' v∧∀id b,(id,b)∈outRow t (mdHd ms) (idb+j) x.1→b.R P w' g' mu' id:=by
   intro m hm
   rw [hm] at h1
   have ho:=ho.1
   simp only [hm] at ho
   cases t with
   |sl es =>
    have hmem:(idb+j,Blk.row es m x.1 0)∈outRows (.cons (.sl es) ts) ms (idb+j) x:=by
     simp only [outRows,hm];exact List.mem_append_left _ (by simp [outRow])
    obtain ⟨a,c,hv,_⟩:=H_own.1 h1
    refine ⟨⟨hid _ _ hmem,hc0,a,_,c,hv⟩,fun id b hb=>?_⟩
    simp only [hm,outRow,List.mem_singleton] at hb
    cases hb
    exact ⟨v,hc0,h1⟩
   |_=>simp at ho
  refine ⟨?_,fun id b hb=>?_⟩
  ·simp only [outCVs]
   refine ⟨?_,by rw [show idb+j+1=idb+(j+1) by omega];exact h3⟩
   cases hmd:mdHd ms with
   |sh=>rw [hmd] at h1;exact ro_R t (H_q t h1)
   |own m=>exact (hrow m hmd).1
  ·simp only [outRows] at hb
   rcases List.mem_append.1 hb with hb|hb
   ·cases hmd:mdHd ms with
    |sh=>simp [hmd,outRow] at hb
    |own m=>exact (hrow m hmd).2 id b hb
   ·exact h4 id b (by rw [show idb+(j+1)=idb+j+1 by omega];exact hb)
theorem outRows_ids:∀(ts:Tys) {ms:List Md} {k:Nat} {x:ts.D} {id:Nat} {b:Blk},(id,b)∈outRows ts ms k x→k≤id∧id<k+ts.len∧∃es ms xs,b= .row es ms xs 0
 | .nil,_,_,_,_,_,h=>by simp [outRows] at h
 | .cons t ts,ms,k,x,id,b,h=>by
  simp only [outRows] at h
  rcases List.mem_append.1 h with h|h
  ·unfold outRow at h
   split at h
   ·cases h
   ·split at h
    ·simp only [List.mem_singleton] at h;cases h;exact ⟨Nat.le_refl _,by simp [Tys.len],_,_,_,rfl⟩
    ·cases h
  ·have:=outRows_ids ts h
   simp only [Tys.len]
   exact ⟨by omega,by omega,this.2.2⟩
theorem backRows_mem {mu0:Mu}:∀(ts:Tys) {ms:List Md} {cs:List CV} {x:ts.D} {id:Nat} {b:Blk},(id,b)∈backRows mu0 ts ms cs x→∃(j:Nat) (m:List Md) (es:Tys) (xs:List es.D),cs[j]?=some (.own id)∧mdAt ms j= .own m∧j<ts.len∧∃(es0:Tys) (m0:List Md) (xs0:List es0.D) (ver:Nat),mu0 id=some (.row es0 m0 xs0 ver)∧b= .row es m xs (ver+1)
 | .nil,_,_,_,_,_,h=>by simp [backRows] at h
 | .cons t ts,ms,[],x,id,b,h=>by simp [backRows] at h
 | .cons t ts,ms,c::cs,x,id,b,h=>by
  simp only [backRows] at h
  rcases List.mem_append.1 h with h|h
  ·unfold backRow at h
   split at h
   ·cases h
   ·rename_i m hm
    split at h
    ·split at h
     ·simp only [List.mem_singleton] at h;cases h
      rename_i hmu;exact ⟨0,m,_,_,rfl,by rw [mdAt_zero];exact hm,by simp [Tys.len],_,_,_,_,hmu,rfl⟩
     ·cases h
    ·cases h
  ·obtain ⟨j,m,es,xs,h1,h2,h3,h4⟩:=backRows_mem ts h
   exact ⟨j+1,m,es,xs,by simpa using h1,by rw [mdAt_succ];exact h2,by simp [Tys.len,h3],h4⟩
theorem backRows_R {cl:Bool} {mu0:Mu} (hw:Wf w' o') (hp:cl=false→PermKeep w' o' w' g'.o):∀(ts:Tys) {ms:List Md} {j:Nat} {x:ts.D} {cs:List CV} {vs:List Value},ts.Vs P w' o' ms (fun j=> .o [j]) j x vs→(cl=true→clTys ts ms=true) →
  (∀(i id:Nat) (m:List Md),cs[i]?=some (.own id)→i<ts.len→(∃b,(id,b)∈backRows mu0 ts ms cs x)→Rl w' o' w' g'.o (.o [j+i]) (.o [id])∧∀v,vs[i]?=some v→g'.c id= .row v) →
  ∀id b,(id,b)∈backRows mu0 ts ms cs x→b.R P w' g' mu' id
 | .nil,ms,j,x,cs,vs,hV,hc,hr,id,b,h=>by simp [backRows] at h
 | .cons t ts,ms,j,x,[],vs,hV,hc,hr,id,b,h=>by simp [backRows] at h
 | .cons t ts,ms,j,x,c::cs,vs,hV,hc,hr,id,b,h=>by
  obtain ⟨v,r,rfl,h1,h2⟩:=hV
  simp only [backRows] at h
  rcases List.mem_append.1 h with h|h
  ·have hin:(id,b)∈backRows mu0 (.cons t ts) ms (c::cs) x:=by simp only [backRows];exact List.mem_append_left _ h
   unfold backRow at h
   split at h
   ·cases h
   ·rename_i m hm
    split at h
    ·split at h
     ·simp only [List.mem_singleton] at h;cases h
      obtain ⟨h3,h4⟩:=hr 0 id m rfl (by simp [Tys.len]) ⟨_,hin⟩
      refine ⟨v,h4 v rfl,?_⟩
      rw [hm] at h1
      exact H_out (cl:=cl) (π:= [j]) (π':= [id]) hw hp _ (fun e=>by have:=hc e;simp only [clTys,Bool.and_eq_true] at this;rw [←hm];exact this.1) (fun _=>h3) h1
     ·cases h
    ·cases h
  ·refine backRows_R hw hp ts h2 (fun e=>by have:=hc e;simp only [clTys,Bool.and_eq_true] at this;exact this.2) (fun i id m h3 h4 h5=>?_) id b h
   obtain ⟨b',h5⟩:=h5
   have:=hr (i+1) id m (by simpa using h3) (by simp [Tys.len,h4]) ⟨b',by simp only [backRows];exact List.mem_append_right _ h5⟩
   rw [show j+1+i=j+(i+1) by omega]
   exact ⟨this.1,fun v hv=>this.2 v (by simpa using hv)⟩
theorem unOuts_ids {mu0:Mu} {idb:Nat}:∀(gs:List Grp) (r nr:Nat) {io:List Tg} {y:GD gs} {id:Nat} {b:Blk},(∀g∈gs,g.ts.len≤62)→(id,b)∈(unOuts mu0 idb gs r nr io y).2 →
  (idb≤id∧id<idb+64*(r+gs.length))∨(.bx id∈io∧∃cs,b= .box cs)∨∃(cs:List CV) (m:List Md) (es:Tys) (xs:List es.D),.cv cs∈io∧ .own id∈cs∧∃(es0:Tys) (m0:List Md) (xs0:List es0.D) (ver:Nat),mu0 id=some (.row es0 m0 xs0 ver)∧b= .row es m xs (ver+1)
 | [],_,_,_,_,_,_,_,h=>by simp [unOuts] at h
 |g::gs,r,0,io,y,id,b,hl,h=>by
  have hg:=hl g (by simp)
  have hl':∀g∈gs,g.ts.len≤62:=fun g hg=>hl g (by simp [hg])
  cases io with
  |nil =>
   simp only [unOuts] at h
   have:=unOuts_ids gs (r+1) 0 hl' h
   simp only [List.length_cons]
   rcases this with ⟨h1,h2⟩|⟨h1,_⟩|⟨_,_,_,_,h1,_⟩
   ·exact .inl ⟨h1,by omega⟩
   ·cases h1
   ·cases h1
  |cons i io =>
   have tail:(id,b)∈(unOuts mu0 idb gs (r+1) 0 io y.2).2→(idb≤id∧id<idb+64*(r+(g::gs).length))∨(.bx id∈i::io∧∃cs,b= .box cs)∨∃(cs:List CV) (m:List Md) (es:Tys) (xs:List es.D),.cv cs∈i::io∧ .own id∈cs∧∃(es0:Tys) (m0:List Md) (xs0:List es0.D) (ver:Nat),mu0 id=some (.row es0 m0 xs0 ver)∧b= .row es m xs (ver+1):=fun h=>by
    rcases unOuts_ids gs (r+1) 0 hl' h with ⟨h1,h2⟩|⟨h1,h2⟩|⟨cs,m,es,xs,h1,h2,h3⟩
    ·simp only [List.length_cons];exact .inl ⟨h1,by omega⟩
    ·exact .inr (.inl ⟨by simp [h1],h2⟩)
    ·exact .inr (.inr ⟨cs,m,es,xs,by simp [h1],h2,h3⟩)
   cases i with
   |bx i =>
    simp only [unOuts,List.cons_append,List.mem_cons,List.mem_append] at h
    rcases h with h|h|h
    ·cases h;exact .inr (.inl ⟨by simp,_,rfl⟩)
    ·have:=outRows_ids _ h
     simp only [List.length_cons]
     exact .inl ⟨by omega,by omega⟩
    ·exact tail h
   |cv cs =>
    simp only [unOuts] at h
    rcases List.mem_append.1 h with h|h
    ·obtain ⟨j,m,es,xs,h1,_,_,h2⟩:=backRows_mem _ h
     exact .inr (.inr ⟨cs,m,es,xs,by simp,List.mem_of_getElem? h1,h2⟩)
    ·exact tail h
 |g::gs,r,nr+1,io,y,id,b,hl,h=>by
  have hg:=hl g (by simp)
  have hl':∀g∈gs,g.ts.len≤62:=fun g hg=>hl g (by simp [hg])
  have key:(id,b)∈outRows g.ts g.ms (idb+64*r+1) y.1∨(id,b)∈(unOuts mu0 idb gs (r+1) nr io y.2).2∨id=idb+64*r:=by
   simp only [unOuts] at h
   split at h
   ·rcases List.mem_append.1 h with h|h;exact .inl h;exact .inr (.inl h)
   ·simp only [List.cons_append,List.mem_cons,List.mem_append] at h
    rcases h with h|h|h
    ·cases h;exact .inr (.inr rfl)
    ·exact .inl h
    ·exact .inr (.inl h)
   ·rcases List.mem_append.1 h with h|h;exact .inl h;exact .inr (.inl h)
  simp only [List.length_cons]
  rcases key with h|h|h
  ·have:=outRows_ids _ h
   exact .inl ⟨by omega,by omega⟩
  ·rcases unOuts_ids gs (r+1) nr hl' h with ⟨h1,h2⟩|h1
   ·exact .inl ⟨h1,by omega⟩
   ·exact .inr h1
  ·exact .inl ⟨by omega,by omega⟩
def TgC (g':Gh):Tg→Bk→Prop
 | .bx id,.bx b off=>g'.c id= .box b off
 | .cv cs,.vs l=>∀(j id:Nat),cs[j]?=some (.own id)→∀v,l[j]?=some v→g'.c id= .row v
 |_,_=>False
theorem outs_rel {mu0:Mu} {idb:Nat} {cl:Bool} {tv:Nat→List Value} {ta:Nat→Nat×Nat} (hw:Wf w' o') (hp:cl=false→PermKeep w' o' w' g'.o):∀(gs:List Grp) (r:Nat) {y:GD gs} {vs:List Value} {io:List Tg} {ioa:List Bk},
  OutsT P w' o' tv ta gs r y vs ioa→All2 (TgC g') io ioa→(∀g∈gs,g.ts.len≤62∧mdOk g.ts g.ms=true∧(cl=true→clTys g.ts g.ms=true)) →
  (∀id b,(id,b)∈(unOuts mu0 idb gs r vs.length io y).2→mu' id≠none) →
  (∀r' i,r≤r'→r'<r+gs.length→i<62→g'.c (idb+(64*r'+1)+i)= .row ((tv r').getD i undef)) →
  (∀r',r≤r'→r'<r+vs.length→g'.c (idb+64*r')= .box (ta r').1 (ta r').2) →
  (∀r' i b,r≤r'→(∀cs,r+vs.length≤r'→io[r' - (r+vs.length)]?≠some (.cv cs))→(idb+(64*r'+1+i),b)∈(unOuts mu0 idb gs r vs.length io y).2→i<62→Rl w' o' w' g'.o (.o [64*r'+1+i]) (.o [idb+(64*r'+1+i)])) →
  (∀r' b,r≤r'→r'<r+vs.length→(idb+64*r',b)∈(unOuts mu0 idb gs r vs.length io y).2→Rl w' o' w' g'.o (.o [64*r']) (.o [idb+64*r'])) →
  (∀i id,io[i]?=some (.bx id)→Rl w' o' w' g'.o (.o [64*(r+vs.length+i)]) (.o [id])) →
  (∀(i j id:Nat) (cs:List CV),io[i]?=some (.cv cs)→cs[j]?=some (.own id)→j<62→(∃b,(id,b)∈(unOuts mu0 idb gs r vs.length io y).2)→Rl w' o' w' g'.o (.o [64*(r+vs.length+i)+1+j]) (.o [id])) →
  (∀id b,(id,b)∈(unOuts mu0 idb gs r vs.length io y).2→b.R P w' g' mu' id)∧All2 (compR P w' g' mu') (unOuts mu0 idb gs r vs.length io y).1 vs
 | [],r,y,vs,io,ioa,ht,_,_,_,_,_,_,_,_,_=>by
  cases ht.1
  exact ⟨by simp [unOuts],trivial⟩
 |g::gs,r,y,v::vs,io,ioa,ht,hio,hg,hid,hcr,hcb,hrl,hrb,hri,hrw=>by
  obtain ⟨hl,hmo,hcl⟩:=hg g (by simp)
  have hsub:∀id b,(id,b)∈outRows g.ts g.ms (idb+64*r+1) y.1∨(id,b)∈(unOuts mu0 idb gs (r+1) vs.length io y.2).2→(id,b)∈(unOuts mu0 idb (g::gs) r (v::vs).length io y).2:=by
   intro id b h
   simp only [List.length_cons,unOuts]
   cases g.k<;>simp only [List.mem_cons,List.cons_append,List.mem_append]<;>first|exact h|exact .inr h
  obtain ⟨⟨hV,hk⟩,ht⟩:=ht
  have hV':=Vs_out (cl:=cl) hw hp (w':=w') (o':=g'.o) (pf:=fun j=> [j]) (pf':=fun j=> [idb+j]) g.ts hcl (fun i hi hm=>by
   obtain ⟨m,hm⟩:=hm
   obtain ⟨b,hb⟩:=outRows_mem g.ts (k:=idb+64*r+1) (x:=y.1) hmo hi hm
   have:=hrl r i b (Nat.le_refl _) (fun cs h=>absurd h (by simp only [List.length_cons];omega)) (by rw [show idb+(64*r+1+i)=idb+64*r+1+i by omega];exact hsub _ _ (.inl hb)) (by omega)
   exact this) hV
  obtain ⟨h1,h2⟩:=outRows_R (mu':=mu') g.ts hmo hV' (fun id b hb=>hid id b (hsub _ _ (.inl (by rw [show idb+64*r+1=idb+(64*r+1) by omega];exact hb)))) fun i hi=>hcr r i (Nat.le_refl _) (by simp) (by omega)
  obtain ⟨h3,h4⟩:=outs_rel hw hp gs (r+1) ht hio (fun g hg'=>hg g (by simp [hg'])) (fun id b hb=>hid id b (hsub _ _ (.inr hb)))
   (fun r' i h1 h2=>hcr r' i (by omega) (by simp only [List.length_cons];omega)) (fun r' h1 h2=>hcb r' (by omega) (by simp only [List.length_cons];omega))
   (fun r' i b h1 h0 h2=>hrl r' i b (by omega) (fun cs h=>by have:=h0 cs (by simp only [List.length_cons] at h;omega);rwa [show r' - (r+(v::vs).length)=r' - (r+1+vs.length) by simp only [List.length_cons];omega]) (hsub _ _ (.inr h2))) (fun r' b h1 h2 h3=>hrb r' b (by omega) (by simp only [List.length_cons];omega) (hsub _ _ (.inr h3)))
   (fun i id h=>by have:=hri i id h;rwa [show r+(v::vs).length+i=r+1+vs.length+i by simp only [List.length_cons];omega] at this)
   (fun i j id cs h1 h2 h3 ⟨b,h4⟩=>by have:=hrw i j id cs h1 h2 h3 ⟨b,hsub _ _ (.inr h4)⟩;rwa [show r+(v::vs).length+i=r+1+vs.length+i by simp only [List.length_cons];omega] at this)
  rw [show idb+(64*r+1)=idb+64*r+1 by omega] at h1 h2
  have hrows:∀id b,(id,b)∈outRows g.ts g.ms (idb+64*r+1) y.1∨(id,b)∈(unOuts mu0 idb gs (r+1) vs.length io y.2).2→b.R P w' g' mu' id:=fun id b h=>by
   rcases h with h|h
   ·exact h2 id b h
   ·exact h3 id b h
  cases hgk:g.k with
  |c =>
   simp only [hgk] at hk
   rw [hk] at h1
   refine ⟨fun id b h=>hrows id b (by simpa [unOuts,hgk] using h),?_⟩
   simp only [List.length_cons,unOuts,hgk]
   refine ⟨?_,h4⟩
   match hoc:outCVs g.ts g.ms (idb+64*r+1) y.1,h1 with
   | [cv],h1=>exact h1.1
   | [],h1=>exact h1.elim
   |_::_::_,h1=>exact h1.2.elim
  |agg =>
   simp only [hgk] at hk
   refine ⟨fun id b h=>hrows id b (by simpa [unOuts,hgk] using h),?_⟩
   simp only [List.length_cons,unOuts,hgk]
   exact ⟨⟨_,hk,by simpa using h1⟩,h4⟩
  |np =>
   simp only [hgk] at hk
   obtain ⟨rfl,hcell⟩:=hk
   have hmem:∃b,(idb+64*r,b)∈(unOuts mu0 idb (g::gs) r ((Value.pointer (some ⟨(ta r).1,(ta r).2,none⟩))::vs).length io y).2:=⟨_,by simp only [List.length_cons,unOuts,hgk,List.cons_append,List.mem_cons];exact .inl rfl⟩
   obtain ⟨bb,hbb⟩:=hmem
   have hcb0:=hcb r (Nat.le_refl _) (by simp)
   refine ⟨fun id b h=>?_,?_⟩
   ·simp only [List.length_cons,unOuts,hgk,List.cons_append,List.mem_cons] at h
    rcases h with h|h
    ·cases h
     refine ⟨_,_,hcb0,fun j cv hj=>?_⟩
     obtain ⟨u,hu,hcv⟩:=All2.get j cv h1 hj
     obtain ⟨h5,h6⟩:=hcell j u hu
     have:=hrb r bb (Nat.le_refl _) (by simp) hbb
     rcases this with ⟨_,e,this⟩|⟨e,_⟩
     ·cases e
      have:=this _ _ [] u h5 (by simpa using h6)
      exact ⟨u,this.1,by simpa using this.2,hcv⟩
     ·cases e
    ·exact hrows id b (by simpa using h)
   ·simp only [List.length_cons,unOuts,hgk]
    exact ⟨⟨hid _ _ hbb,_,_,hcb0,rfl⟩,h4⟩
  |rp=>simp [hgk] at hk
  |io=>simp [hgk] at hk
  |wc=>simp [hgk] at hk
  |wa=>simp [hgk] at hk
 |g::gs,r,y,[],io,[],ht,_,_,_,_,_,_,_,_,_=>ht.elim
 |g::gs,r,y,[],[],a::ioa,ht,hio,_,_,_,_,_,_,_,_=>hio.elim
 |g::gs,r,y,[],.bx _::io,.vs _::ioa,ht,hio,_,_,_,_,_,_,_,_=>hio.1.elim
 |g::gs,r,y,[],.cv _::io,.bx _ _::ioa,ht,hio,_,_,_,_,_,_,_,_=>hio.1.elim
 |g::gs,r,y,[],.cv cs::io,.vs l::ioa,ht,hio,hg,hid,hcr,hcb,hrl,hrb,hri,hrw=>by
  obtain ⟨hl,hmo,hcl⟩:=hg g (by simp)
  obtain ⟨⟨hV,htv⟩,ht⟩:=ht
  have hsub:∀id b,(id,b)∈backRows mu0 g.ts g.ms cs y.1∨(id,b)∈(unOuts mu0 idb gs (r+1) 0 io y.2).2→(id,b)∈(unOuts mu0 idb (g::gs) r 0 (.cv cs::io) y).2:=by
   intro id b h
   simp only [unOuts,List.mem_append]
   exact h
  obtain ⟨h3,h4⟩:=outs_rel hw hp gs (r+1) (vs:= []) ht hio.2 (fun g hg'=>hg g (by simp [hg'])) (fun id b hb=>hid id b (hsub _ _ (.inr hb)))
   (fun r' i h1 h2=>hcr r' i (by omega) (by simp only [List.length_cons];omega)) (fun r' h1 h2=>by simp at h2;omega)
   (fun r' i b h1 h0 h2=>hrl r' i b (by omega) (fun cs h=>by have:=h0 cs (by simp only [List.length_nil];omega);rw [show r' - (r+([]:List Value).length)=r' - (r+1+([]:List Value).length)+1 by simp only [List.length_nil];omega];simpa using this) (hsub _ _ (.inr h2))) (fun r' b h1 h2 h3=>by simp at h2;omega)
   (fun k id h=>by have:=hri (k+1) id (by simpa using h);simp only [List.length_nil,Nat.add_zero] at this ⊢;rwa [show r+(k+1)=r+1+k by omega] at this)
   (fun k j id cs' h1 h2 h3 ⟨b,h4⟩=>by have:=hrw (k+1) j id cs' (by simpa using h1) h2 h3 ⟨b,hsub _ _ (.inr h4)⟩;simp only [List.length_nil,Nat.add_zero] at this ⊢;rwa [show r+(k+1)=r+1+k by omega] at this)
  refine ⟨fun id b h=>?_,by simpa [unOuts] using h4⟩
  simp only [List.length_nil,unOuts,List.mem_append] at h
  rcases h with h|h
  ·dsimp only at htv
   rw [htv] at hV
   refine backRows_R (cl:=cl) hw hp g.ts hV hcl (fun i id m h1 h2 ⟨b,h3⟩=>⟨?_,fun v hv=>hio.1 i id h1 v hv⟩) id b h
   have:=hrw 0 i id cs rfl h1 (by omega) ⟨b,hsub _ _ (.inl h3)⟩
   simpa using this
  ·exact h3 id b h
 |g::gs,r,y,[],.bx i::io,.bx ab ao::ioa,ht,hio,hg,hid,hcr,hcb,hrl,hrb,hri,hrw=>by
  obtain ⟨hl,hmo,hcl⟩:=hg g (by simp)
  obtain ⟨⟨hV,hta,hcell⟩,ht⟩:=ht
  have hc0:g'.c i= .box ab ao:=hio.1
  have hsub:∀id b,(id,b)∈outRows g.ts g.ms (idb+64*r+1) y.1∨(id,b)∈(unOuts mu0 idb gs (r+1) 0 io y.2).2→(id,b)∈(unOuts mu0 idb (g::gs) r 0 (.bx i::io) y).2:=by
   intro id b h
   simp only [unOuts,List.mem_cons,List.cons_append,List.mem_append]
   exact .inr h
  have hV':=Vs_out (cl:=cl) hw hp (w':=w') (o':=g'.o) (pf:=fun j=> [j]) (pf':=fun j=> [idb+j]) g.ts hcl (fun i hi hm=>by
   obtain ⟨m,hm⟩:=hm
   obtain ⟨b,hb⟩:=outRows_mem g.ts (k:=idb+64*r+1) (x:=y.1) hmo hi hm
   have:=hrl r i b (Nat.le_refl _) (fun cs h=>by simp) (by rw [show idb+(64*r+1+i)=idb+64*r+1+i by omega];exact hsub _ _ (.inl hb)) (by omega)
   exact this) hV
  obtain ⟨h1,h2⟩:=outRows_R (mu':=mu') g.ts hmo hV' (fun id b hb=>hid id b (hsub _ _ (.inl (by rw [show idb+64*r+1=idb+(64*r+1) by omega];exact hb)))) fun i hi=>hcr r i (Nat.le_refl _) (by simp) (by omega)
  obtain ⟨h3,h4⟩:=outs_rel hw hp gs (r+1) (vs:= []) ht hio.2 (fun g hg'=>hg g (by simp [hg'])) (fun id b hb=>hid id b (hsub _ _ (.inr hb)))
   (fun r' i h1 h2=>hcr r' i (by omega) (by simp only [List.length_cons];omega)) (fun r' h1 h2=>by simp at h2;omega)
   (fun r' i b h1 h0 h2=>hrl r' i b (by omega) (fun cs h=>by have:=h0 cs (by simp only [List.length_nil];omega);rw [show r' - (r+([]:List Value).length)=r' - (r+1+([]:List Value).length)+1 by simp only [List.length_nil];omega];simpa using this) (hsub _ _ (.inr h2))) (fun r' b h1 h2 h3=>by simp at h2;omega)
   (fun k id h=>by have:=hri (k+1) id (by simpa using h);simp only [List.length_nil,Nat.add_zero] at this ⊢;rwa [show r+(k+1)=r+1+k by omega] at this)
   (fun k j id cs' h1 h2 h3 ⟨b,h4⟩=>by have:=hrw (k+1) j id cs' (by simpa using h1) h2 h3 ⟨b,hsub _ _ (.inr h4)⟩;simp only [List.length_nil,Nat.add_zero] at this ⊢;rwa [show r+(k+1)=r+1+k by omega] at this)
  rw [show idb+(64*r+1)=idb+64*r+1 by omega] at h1 h2
  refine ⟨fun id b h=>?_,by simpa [unOuts] using h4⟩
  simp only [List.length_nil,unOuts,List.cons_append,List.mem_cons,List.mem_append] at h
  rcases h with h|h|h
  ·cases h
   refine ⟨_,_,hc0,fun j cv hj=>?_⟩
   obtain ⟨u,hu,hcv⟩:=All2.get j cv h1 hj
   obtain ⟨h5,h6⟩:=hcell j u hu
   have:=hri 0 _ rfl
   rcases this with ⟨_,e,this⟩|⟨e,_⟩
   ·cases e
    have:=this _ _ [] u h5 (by simpa using h6)
    rw [hta] at this
    exact ⟨u,this.1,by simpa using this.2,hcv⟩
   ·cases e
  ·exact h2 id b h
  ·exact h3 id b h
end
end Go.Tm
/- The pure machine, 11: a call as an operation. -/
namespace Go.Tm
open Go
def CV.noN:CV→Bool
 | .nref _ _ _ _=>false
 |_=>true
def Blk.noN:Blk→Bool
 | .box cs=>cs.all CV.noN
 |_=>true
def TV.noN:TV→Bool
 | .c v=>v.noN
 | .agg vs=>vs.all CV.noN
 | .tup l=>l.all fun x=>x.2.all CV.noN
 |_=>true
theorem ro_noN (t:Ty) (x:t.D):(t.ro x).noN=true:=by cases t<;>rfl
theorem outCVs_noN:∀(ts:Tys) (ms:List Md) (k:Nat) (x:ts.D),(outCVs ts ms k x).all CV.noN=true
 | .nil,_,_,_=>rfl
 | .cons t ts,ms,k,x=>by
  simp only [outCVs,List.all_cons,Bool.and_eq_true]
  refine ⟨?_,outCVs_noN ts _ _ _⟩
  cases mdHd ms with
  |sh=>exact ro_noN t x.1
  |own _=>rfl
theorem unOuts_noN {mu:Mu} {idb:Nat}:∀(gs:List Grp) (r nr:Nat) {io:List Tg} {y:GD gs},((unOuts mu idb gs r nr io y).1.all fun x=>x.2.all CV.noN)=true∧∀id b,(id,b)∈(unOuts mu idb gs r nr io y).2→b.noN=true
 | [],_,_,_,_=>⟨by simp [unOuts],by simp [unOuts]⟩
 |g::gs,r,0,[],y=>by simp only [unOuts];exact unOuts_noN gs (r+1) 0
 |g::gs,r,0,.bx i::io,y=>by
  have ih:=unOuts_noN (mu:=mu) (idb:=idb) gs (r+1) 0 (io:=io) (y:=y.2)
  simp only [unOuts]
  refine ⟨ih.1,fun id b h=>?_⟩
  simp only [List.cons_append,List.mem_cons,List.mem_append] at h
  rcases h with h|h|h
  ·cases h;exact outCVs_noN _ _ _ _
  ·obtain ⟨_,_,_,_,_,rfl⟩:=outRows_ids _ h;rfl
  ·exact ih.2 id b h
 |g::gs,r,0,.cv cs::io,y=>by
  have ih:=unOuts_noN (mu:=mu) (idb:=idb) gs (r+1) 0 (io:=io) (y:=y.2)
  simp only [unOuts]
  refine ⟨ih.1,fun id b h=>?_⟩
  rcases List.mem_append.1 h with h|h
  ·obtain ⟨_,_,_,_,_,_,_,_,_,_,_,_,rfl⟩:=backRows_mem _ h;rfl
  ·exact ih.2 id b h
 |g::gs,r,nr+1,io,y=>by
  have ih:=unOuts_noN (mu:=mu) (idb:=idb) gs (r+1) nr (io:=io) (y:=y.2)
  have hr:∀id b,(id,b)∈outRows g.ts g.ms (idb+64*r+1) y.1→b.noN=true:=fun id b h=>by
   obtain ⟨_,_,_,_,_,rfl⟩:=outRows_ids _ h;rfl
  simp only [unOuts]
  split
  ·refine ⟨by simp only [List.all_cons,ih.1,outCVs_noN,Bool.and_true],fun id b h=>?_⟩
   rcases List.mem_append.1 h with h|h
   ·exact hr id b h
   ·exact ih.2 id b h
  ·refine ⟨by simp only [List.all_cons,List.all_nil,CV.noN,ih.1,Bool.and_true],fun id b h=>?_⟩
   simp only [List.cons_append,List.mem_cons,List.mem_append] at h
   rcases h with h|h|h
   ·cases h;exact outCVs_noN _ _ _ _
   ·exact hr id b h
   ·exact ih.2 id b h
  ·refine ⟨by simp only [List.all_cons,ih.1,outCVs_noN,Bool.and_true],fun id b h=>?_⟩
   rcases List.mem_append.1 h with h|h
   ·exact hr id b h
   ·exact ih.2 id b h
theorem resTV_noN:∀(l:List (Bool×List CV)),(l.all fun x=>x.2.all CV.noN)=true→(resTV l).noN=true
 | [],_=>rfl
 | [x],h=>by
  simp only [List.all_cons,List.all_nil,Bool.and_true] at h
  rcases x with ⟨_|_,cs⟩
  ·rcases cs with _|⟨cv,_⟩
   ·rfl
   ·simp only [List.all_cons,Bool.and_eq_true] at h;exact h.1
  ·exact h
 |_::_::_,h=>h
def NxtN (P:Program) (w:World) (g:Gh) (mu:Mu) (w':World) (g':Gh) (mu':Mu):Prop :=
 ∃T:Nat→Prop,Stp w g mu w' g' mu' T∧Fr w g.o w' g'.o∧Wf w' g'.o∧(∀b k id s,g'.o b k= .o (id::s)→mu' id≠none) ∧
  ∀id b,(T id∨mu id=none)→mu' id=some b→b.R P w' g' mu' id∧b.noN=true
theorem NxtN.nxt {P:Program} {w w':World} {g g':Gh} {mu mu':Mu} (h:NxtN P w g mu w' g' mu'):Nxt P w g mu w' g' mu' :=
 let ⟨T,h1,h2,h3,h4,h5⟩:=h;⟨T,h1,h2,h3,h4,fun id b a c=>(h5 id b a c).1⟩
theorem deads_mem {id:Nat} {b:Blk}:∀{us:List Use},(id,b)∈deads us→b= .dead∧∃to,Use.mv id to∈us
 | [],h=>by cases h
 | .mv i to::r,h=>by
  simp only [deads,List.mem_cons] at h
  rcases h with h|h
  ·cases h;exact ⟨rfl,to,by simp⟩
  ·obtain ⟨h1,to',h2⟩:=deads_mem h;exact ⟨h1,to',by simp [h2]⟩
 | .pm i::r,h=>by
  obtain ⟨h1,to',h2⟩:=deads_mem (us:=r) h;exact ⟨h1,to',by simp [h2]⟩
theorem deads_of {id to:Nat}:∀{us:List Use},Use.mv id to∈us→(id,Blk.dead)∈deads us
 | .mv i t::r,h=>by
  simp only [deads,List.mem_cons]
  rcases List.mem_cons.1 h with h|h
  ·cases h;exact .inl rfl
  ·exact .inr (deads_of h)
 | .pm i::r,h=>by
  rcases List.mem_cons.1 h with h|h
  ·cases h
  ·exact deads_of (us:=r) h
theorem fzs_mem {mu:Mu} {id:Nat} {b:Blk}:∀{us:List Use},(id,b)∈fzs mu us→(b= .dead∧∃to,Use.mv id to∈us) ∨
  (Use.pm id∈us∧((∃es ms xs ver,mu id=some (.row es ms xs ver)∧b= .fz es xs)∨(b= .dead∧∃cs,mu id=some (.box cs))))
 | [],h=>by cases h
 | .mv i to::r,h=>by
  simp only [fzs,List.mem_cons] at h
  rcases h with h|h
  ·cases h;exact .inl ⟨rfl,to,by simp⟩
  ·rcases fzs_mem h with ⟨h1,to',h2⟩|⟨h1,h2⟩
   ·exact .inl ⟨h1,to',by simp [h2]⟩
   ·exact .inr ⟨by simp [h1],h2⟩
 | .pm i::r,h=>by
  simp only [fzs,List.mem_append] at h
  rcases h with h|h
  ·split at h
   ·rename_i es ms xs ver e
    simp only [List.mem_singleton] at h
    cases h
    exact .inr ⟨by simp,.inl ⟨es,_,xs,_,e,rfl⟩⟩
   ·rename_i cs e
    simp only [List.mem_singleton] at h
    cases h
    exact .inr ⟨by simp,.inr ⟨rfl,_,e⟩⟩
   ·cases h
  ·rcases fzs_mem h with ⟨h1,to',h2⟩|⟨h1,h2⟩
   ·exact .inl ⟨h1,to',by simp [h2]⟩
   ·exact .inr ⟨by simp [h1],h2⟩
theorem fzs_of_mv {mu:Mu} {id to:Nat}:∀{us:List Use},Use.mv id to∈us→(id,Blk.dead)∈fzs mu us
 | .mv i t::r,h=>by
  simp only [fzs,List.mem_cons]
  rcases List.mem_cons.1 h with h|h
  ·cases h;exact .inl rfl
  ·exact .inr (fzs_of_mv h)
 | .pm i::r,h=>by
  rcases List.mem_cons.1 h with h|h
  ·cases h
  ·exact List.mem_append_right _ (fzs_of_mv h)
theorem fzs_of_pm {mu:Mu} {id:Nat}:∀{us:List Use},Use.pm id∈us→∀b,mu id=some b→(∃es ms xs ver,b= .row es ms xs ver)∨(∃cs,b= .box cs)→∃b',(id,b')∈fzs mu us
 | .mv i t::r,h,b,hb,hk=>by
  rcases List.mem_cons.1 h with h|h
  ·cases h
  ·obtain ⟨b',h'⟩:=fzs_of_pm h b hb hk;exact ⟨b',by simp [fzs,h']⟩
 | .pm i::r,h,b,hb,hk=>by
  rcases List.mem_cons.1 h with h|h
  ·cases h
   rcases hk with ⟨es,ms,xs,ver,rfl⟩|⟨cs,rfl⟩
   ·exact ⟨.fz es xs,by simp [fzs,hb]⟩
   ·exact ⟨.dead,by simp [fzs,hb]⟩
  ·obtain ⟨b',h'⟩:=fzs_of_pm h b hb hk;exact ⟨b',by simp [fzs,h']⟩
section
variable {P:Program} {w w':World} {g g':Gh} {o o':Nat→Nat→Own} {mu mu':Mu}
theorem unOuts_io {mu0:Mu} {idb:Nat} {tv:Nat→List Value} {ta:Nat→Nat×Nat}:∀(gs:List Grp) (r:Nat) {y:GD gs} {vs:List Value} {io:List Tg} {ioa:List Bk},OutsT P w o tv ta gs r y vs ioa→io.length=ioa.length →
  ∀id,.bx id∈io→∃b,(id,b)∈(unOuts mu0 idb gs r vs.length io y).2
 | [],r,y,vs,io,ioa,ht,hl,id,hi=>by
  cases ht.2
  cases io with
  |nil=>cases hi
  |cons _ _=>simp at hl
 |g::gs,r,y,v::vs,io,ioa,ht,hl,id,hi=>by
  obtain ⟨b,hb⟩:=unOuts_io (mu0:=mu0) (idb:=idb) gs (r+1) ht.2 hl id hi
  refine ⟨b,?_⟩
  simp only [List.length_cons,unOuts]
  cases g.k<;>simp only [List.mem_cons,List.cons_append,List.mem_append]<;>simp [hb]
 |g::gs,r,y,[],[],[],ht,hl,id,hi=>by cases hi
 |g::gs,r,y,[],_::_,[],ht,hl,id,hi=>by simp at hl
 |g::gs,r,y,[],[],a::ioa,ht,hl,id,hi=>by simp at hl
 |g::gs,r,y,[],i::io,a::ioa,ht,hl,id,hi=>by
  simp only [List.length_nil,unOuts]
  rcases List.mem_cons.1 hi with e|hi
  ·subst e
   exact ⟨_,by simp only [List.cons_append,List.mem_cons];exact .inl rfl⟩
  ·obtain ⟨b,hb⟩:=unOuts_io (mu0:=mu0) (idb:=idb) gs (r+1) (vs:= []) ht.2 (by simpa using hl) id hi
   exact ⟨b,List.mem_append_right _ hb⟩
theorem gsOk_ok {gs:List Grp} (h:gsOk gs=true):gs.length≤31∧∀g∈gs,g.ts.len≤62∧mdOk g.ts g.ms=true:=by
 simp only [gsOk,Bool.and_eq_true,List.all_eq_true] at h
 exact ⟨Nat.le_of_ble_eq_true h.1,fun g hg=>⟨Nat.le_of_ble_eq_true (h.2 g hg).1,(h.2 g hg).2⟩⟩
theorem clGs_ok:∀{gs:List Grp},clGs gs=true→∀g∈gs,clTys g.ts g.ms=true
 | [],_,g,h=>by cases h
 |x::gs,hc,g,h=>by
  simp only [clGs,Bool.and_eq_true] at hc
  rcases List.mem_cons.1 h with rfl|h
  ·exact hc.1
  ·exact clGs_ok hc.2 g h
theorem All2.getI {α β:Type} {R:α→β→Prop}:∀{x:List α} {y:List β},All2 R x y→x.length=y.length:=All2.length
theorem resTV_R:∀{l:List (Bool×List CV)} {vs:List Value},All2 (compR P w g mu) l vs→(resTV l).R P w g mu (retOf vs)
 | [],[],_=>⟨#[],rfl,trivial⟩
 | [x],[v],h=>by
  rcases x with ⟨_|_,cs⟩
  ·rcases cs with _|⟨cv,_⟩
   ·trivial
   ·exact h.1
  ·exact h.1
 |x::x'::l,v::v'::vs,h=>⟨_,rfl,h⟩
 | [],_::_,h=>h.elim
 |_::_,[],h=>h.elim
 | [_],_::_::_,h=>h.2.elim
 |_::_::_,[_],h=>h.2.elim
open Classical in
theorem callU_ok {R:Type} {C:Ctx} (hC:CtxOk P C) (hm:MemR P w g mu) (hw:Wf w g.o) (hown:∀b k id s,g.o b k= .o (id::s)→mu id≠none) {idb:Nat}
  (hfresh:∀n,idb≤n→n<idb+1984→mu n=none) {f:Nat} {args:List TV} {vals:List Value} (ha:All2 (TV.R P w g mu) args vals) {K:TV→List (Nat×Blk)→Option R} {y:R}
  (h:callU C mu idb f args K=some y):Calls P f vals.toArray w fun e w'=>∃v g' tv ms,e= .returned v∧K tv ms=some y∧NxtN P w g mu w' g' (updL mu ms)∧tv.R P w' g' (updL mu ms) v∧tv.noN=true:=by
 unfold callU at h
 cases hcon:C.con f with
 |none=>simp [hcon] at h
 |some con =>
  simp only [hcon] at h
  obtain ⟨hgood,_⟩:=hC f con hcon
  obtain ⟨x,us,h,hio,hargs⟩:=packIns_ok hC hm hw con.ins 0 ha h
  simp only [List.append_nil] at h
  cases hgs:(usesOk us&&gsOk con.outs&&(ioIds con.ins args).all (tgOk mu)) with
  |false=>simp [hgs] at h
  |true =>
   simp only [hgs,cond_true] at h
   simp only [Bool.and_eq_true] at hgs
   obtain ⟨⟨hus,hgs⟩,_⟩:=hgs
   obtain ⟨hgl,hgg⟩:=gsOk_ok hgs
   cases hyo:con.f x with
   |none=>simp [hyo] at h
   |some yo =>
    simp only [hyo,Option.bind_some] at h
    refine Calls.mono (hgood w (ho us g.o) vals x yo hyo (hargs w _ ho_perm (ho_served hus)) (ho_wf hw)) fun e w' he=>?_
    obtain ⟨vs,o',rfl,hlen,hfr,hw',hout⟩:=he
    obtain ⟨tv,ta,ht⟩:=outs_tab con.outs 0 hout
    rw [←hlen] at h
    generalize hz:unOuts mu idb con.outs 0 vs.length (ioIds con.ins args) yo=z at h
    generalize hcl:clGs con.outs=cl at h
    generalize hA:(bif cl then deads us else fzs mu us)=A at h
    have hz2:∀id b,(id,b)∈z.2→(idb≤id∧id<idb+1984)∨(.bx id∈ioIds con.ins args∧∃cs,b= .box cs)∨∃(cs:List CV) (m:List Md) (es:Tys) (xs:List es.D),.cv cs∈ioIds con.ins args∧ .own id∈cs∧∃(es0:Tys) (m0:List Md) (xs0:List es0.D) (ver:Nat),mu id=some (.row es0 m0 xs0 ver)∧b= .row es m xs (ver+1):=by
     intro id b hb
     rw [←hz] at hb
     rcases unOuts_ids con.outs 0 vs.length (fun g hg=>(hgg g hg).1) hb with ⟨h1,h2⟩|h1
     ·exact .inl ⟨h1,by omega⟩
     ·exact .inr h1
    have hA1:∀id b,(id,b)∈A→(b= .dead∧∃to,Use.mv id to∈us)∨(cl=false∧Use.pm id∈us∧((∃es ms xs ver,mu id=some (.row es ms xs ver)∧b= .fz es xs)∨(b= .dead∧∃cs,mu id=some (.box cs)))):=by
     intro id b hb
     cases cl with
     |true=>rw [cond_true] at hA;subst hA;exact .inl (deads_mem hb)
     |false =>
      rw [cond_false] at hA;subst hA
      rcases fzs_mem hb with h|h
      ·exact .inl h
      ·exact .inr ⟨rfl,h⟩
    have hA2:∀id to,Use.mv id to∈us→(id,Blk.dead)∈A:=by
     intro id to hb
     cases cl with
     |true=>rw [cond_true] at hA;subst hA;exact deads_of hb
     |false=>rw [cond_false] at hA;subst hA;exact fzs_of_mv hb
    let fk:Nat→Nat:=fun k=>if vs.length≤k / 64 then (match (ioIds con.ins args)[k / 64 - vs.length]? with
     |some (.bx id)=>if k % 64=0 then id else idb+k
     |some (.cv cs)=>(match k % 64 with
      |0=>idb+k
      |j+1=>match cs[j]? with
       |some (.own id)=>id
       |_=>idb+k)
     |none=>idb+k) else idb+k
    let ρ:Nat→Option Nat:=fun k=>if (∃b,(fk k,b)∈z.2) then some (fk k) else none
    let g':Gh:=⟨bk cl us ρ w g.o o',fun id=>if mu id≠none then g.c id else if (id - idb) % 64=0 then .box (ta ((id - idb) / 64)).1 (ta ((id - idb) / 64)).2
      else .row ((tv ((id - idb) / 64)).getD ((id - idb) % 64 - 1) undef)⟩
    have hf':Fr w g.o w' g'.o:=bk_fr hfr
    have hwf':Wf w' g'.o:=bk_wf hfr hw hw'
    have hcold:∀id,mu id≠none→g'.c id=g.c id:=fun id hid=>if_pos hid
    have hcnew:∀r i,r<31→i<62→g'.c (idb+(64*r+1)+i)= .row ((tv r).getD i undef):=by
     intro r i hr hi
     have h1:mu (idb+(64*r+1)+i)=none:=hfresh _ (by omega) (by omega)
     have h2:idb+(64*r+1)+i - idb=64*r+1+i:=by omega
     show (if mu (idb+(64*r+1)+i)≠none then _ else _)=_
     rw [if_neg (by simp [h1]),h2,if_neg (by omega),show (64*r+1+i) / 64=r by omega,show (64*r+1+i) % 64 - 1=i by omega]
    have hcbox:∀r,r<31→g'.c (idb+64*r)= .box (ta r).1 (ta r).2:=by
     intro r hr
     have h1:mu (idb+64*r)=none:=hfresh _ (by omega) (by omega)
     have h2:idb+64*r - idb=64*r:=by omega
     show (if mu (idb+64*r)≠none then _ else _)=_
     rw [if_neg (by simp [h1]),h2,if_pos (by omega),show 64*r / 64=r by omega]
    have hioz:∀id,.bx id∈ioIds con.ins args→∃b,(id,b)∈z.2:=by
     rw [←hz];exact unOuts_io con.outs 0 ht hio.length
    have hne:∀b k,g.o b k≠ .o []:=hw.ne
    have hrho:∀k id b,fk k=id→(id,b)∈z.2→ρ k=some id:=by
     intro k id b hk hb
     subst hk
     exact if_pos ⟨b,hb⟩
    have hrel:=outs_rel (P:=P) (mu0:=mu) (g':=g') (mu':=updL mu (A++z.2)) (idb:=idb) (cl:=cl) hw' (fun hc=>bk_perm hfr hc hne) con.outs 0 ht (io:=ioIds con.ins args)
     (by
      refine All2.imp (fun t a ht=>?_) hio
      cases t with
      |bx id=>cases a with
       |bx b off=>obtain ⟨⟨cs,hb⟩,hc⟩:=ht;exact (hcold id (by simp [hb])).trans hc
       |vs l=>exact ht.elim
      |cv cs=>cases a with
       |bx b off=>exact ht.elim
       |vs l =>
        intro j id hj v hv
        obtain ⟨v',hv',h1,h2,_⟩:=All2.get j _ ht hj
        rw [hv] at hv';cases hv'
        exact (hcold id h1).trans h2)
     (fun gr hg=>⟨(hgg gr hg).1,(hgg gr hg).2,fun e=>clGs_ok (hcl.trans e) gr hg⟩)
     (fun id b hb=>updL_mem (b:=b) (by rw [hz] at hb;simp [hb]))
     (fun r' i _ h2 h3=>hcnew r' i (by omega) h3)
     (fun r' _ h2=>hcbox r' (by
      have:vs.length≤con.outs.length:=by rw [hlen];unfold numRes;omega
      omega))
     (fun r' i b _ h0 hb hi=>bk_rl hfr (hrho _ _ b (by
      show (if _ then _ else _)=_
      split
      ·rename_i hle
       rw [show (64*r'+1+i) / 64=r' by omega] at hle ⊢
       have h0:=fun cs=>h0 cs (by omega)
       rw [Nat.zero_add] at h0
       split
       ·rw [if_neg (by omega)]
       ·rename_i cs e;exact absurd e (h0 cs)
       ·rfl
      ·rfl) (by rw [hz] at hb;exact hb)))
     (fun r' b _ h2 hb=>bk_rl hfr (hrho _ _ b (by
      show (if _ then _ else _)=_
      rw [if_neg (by omega)]) (by rw [hz] at hb;exact hb)))
     (fun i id hi=>by
      obtain ⟨b,hb⟩:=hioz id (List.mem_of_getElem? hi)
      refine bk_rl hfr (hrho _ _ b ?_ hb)
      show (if _ then _ else _)=_
      rw [if_pos (by omega),show 64*(0+vs.length+i) / 64 - vs.length=i by omega,hi]
      dsimp only
      rw [if_pos (by omega)])
     (fun i j id cs hi hj hj2 ⟨b,hb⟩=>by
      refine bk_rl hfr (hrho _ _ b ?_ (by rw [hz] at hb;exact hb))
      show (if _ then _ else _)=_
      rw [if_pos (by omega),show (64*(0+vs.length+i)+1+j) / 64 - vs.length=i by omega,hi]
      dsimp only
      rw [show (64*(0+vs.length+i)+1+j) % 64=j+1 by omega]
      dsimp only
      rw [hj])
    rw [hz] at hrel
    refine ⟨retOf vs,g',resTV z.1,A++z.2,rfl,h,⟨fun id=>(∃b,(id,b)∈A++z.2)∨(∃to,Use.mv id to∈us)∨(cl=false∧Use.pm id∈us),?_,hf',hwf',?_,?_⟩,resTV_R hrel.2,resTV_noN _ (by rw [←hz];exact (unOuts_noN con.outs 0 vs.length).1)⟩
    ·refine ⟨fun b k v hv hT=>?_,hcold,fun id hid=>updL_some hid,fun id hT hid=>?_,fun id es ms xs ver hT hid hr=>?_⟩
     ·have hfind:∀id s,g.o b k= .o (id::s)→findU id us=none∨(cl=true∧∃i,findU id us=some (.pm i)):=by
       intro id s e
       cases hfu:findU id us with
       |none=>exact .inl rfl
       |some u =>
        obtain ⟨h1,h2⟩:=findU_id hfu
        cases u with
        |mv i to=>cases h1;exact absurd (.inr (.inl ⟨to,h2⟩)) (hT _ _ e)
        |pm i =>
         cases h1
         refine .inr ⟨?_,i,rfl⟩
         cases hc:cl with
         |true=>rfl
         |false=>exact absurd (.inr (.inr ⟨hc,h2⟩)) (hT _ _ e)
      refine ⟨bk_cell hfr hv fun id s e=>?_,bk_old hv hfind (hne _ _)⟩
      rcases hfind id s e with h|⟨_,h⟩
      ·exact .inl h
      ·exact .inr h
     ·exact updL_none fun b hb=>hT (.inl ⟨b,hb⟩)
     ·rcases updL_cases hr with hr|⟨hn,hr⟩
      ·rcases List.mem_append.1 hr with hr|hr
       ·rcases hA1 _ _ hr with ⟨h1,_⟩|⟨_,_,⟨_,_,_,_,_,h1⟩|⟨h1,_⟩⟩<;>cases h1
       ·rcases hz2 _ _ hr with ⟨h1,h2⟩|⟨_,cs,h1⟩|⟨_,m,es2,xs2,_,_,es0,m0,xs0,ver0,h1,h2⟩
        ·exact absurd (hfresh _ h1 h2) hid
        ·cases h1
        ·cases h2;exact ⟨_,_,_,_,h1,Nat.lt_succ_self _⟩
      ·rcases hT with ⟨b,hb⟩|⟨to,hb⟩|⟨hc,hb⟩
       ·exact absurd hb (hn b)
       ·exact absurd (List.mem_append_left _ (hA2 _ _ hb)) (hn _)
       ·subst hc
        rw [cond_false] at hA
        obtain ⟨b',hb'⟩:=fzs_of_pm hb _ hr (.inl ⟨_,_,_,_,rfl⟩)
        exact absurd (List.mem_append_left _ (hA▸hb')) (hn _)
    ·intro b k id s e
     have hren:∀q,ren ρ q= .o (id::s)→updL mu (A++z.2) id≠none:=by
      intro q hq
      obtain ⟨k',_,hk'⟩:=ren_o hq
      have hk':(if (∃b,(fk k',b)∈z.2) then some (fk k') else none)=some id:=hk'
      split at hk'
      ·rename_i hex
       obtain ⟨b',hb'⟩:=hex
       cases hk'
       exact updL_mem (List.mem_append_right _ hb')
      ·cases hk'
     have e:bk cl us ρ w g.o o' b k= .o (id::s):=e
     unfold bk at e
     split at e
     ·split at e
      ·rename_i id' s' e'
       split at e
       ·exact hren _ e
       ·split at e
        ·cases e;exact updL_some (hown _ _ _ _ e')
        ·cases e
       ·cases e;exact updL_some (hown _ _ _ _ e')
      ·cases e
      ·rename_i e1 e2;exact absurd e (notO e1 e2 _)
     ·exact hren _ e
    ·intro id b hT hb
     refine ⟨?_,?_⟩
     ·rcases updL_cases hb with hb'|⟨hn,hb'⟩
      ·rcases List.mem_append.1 hb' with hb'|hb'
       ·rcases hA1 _ _ hb' with ⟨rfl,_⟩|⟨hc,hpm,⟨es,ms,xs,ver,hrow,rfl⟩|⟨rfl,_⟩⟩
        ·trivial
        ·obtain ⟨v,hcv,hr⟩:=hm _ _ hrow
         refine ⟨v,(hcold id (by simp [hrow])).trans hcv,?_⟩
         have hrl:Rl w g.o w' g'.o (.o [id]) .p:=by
          refine .inr ⟨rfl,fun b k s v hv e=>?_⟩
          have e:g.o b k= .o (id::s):=by simpa using e
          have hfp:=findU_pm hus hpm
          refine ⟨bk_cell hfr hv fun id' s' e'=>?_,?_⟩
          ·rw [e] at e';cases e';exact .inr ⟨id,hfp⟩
          ·show bk cl us ρ w g.o o' b k= .p
           unfold bk
           rw [if_pos ⟨v,hv⟩,e]
           simp [hfp,hc]
         exact H_q _ (H_md _ _ _ _ _ (H_re hf'.perm hw (.sl es) (.own ms) (.o [id]) .p xs v hrl hr))
        ·trivial
       ·exact hrel.1 _ _ hb'
      ·rcases hT with hT|hT
       ·rcases hT with ⟨b',h'⟩|⟨to,h'⟩|⟨hc,h'⟩
        ·exact absurd h' (hn b')
        ·exact absurd (List.mem_append_left _ (hA2 _ _ h')) (hn _)
        ·subst hc
         rw [cond_false] at hA
         have hbr:=hm id b hb'
         cases b with
         |row es ms xs ver =>
          obtain ⟨b',h2⟩:=fzs_of_pm h' _ hb' (.inl ⟨_,_,_,_,rfl⟩)
          exact absurd (List.mem_append_left _ (hA▸h2)) (hn _)
         |box cs =>
          obtain ⟨b',h2⟩:=fzs_of_pm h' _ hb' (.inr ⟨_,rfl⟩)
          exact absurd (List.mem_append_left _ (hA▸h2)) (hn _)
         |rbox es x =>
          obtain ⟨b,base,hc,hr⟩:=hbr
          exact ⟨b,base,(hcold id (by simp [hb'])).trans hc,Hs_re hf'.perm hw es [] .p .p (fun _=> .p) (fun _=> .p) 0 x b base rfl (fun _=>rfl) hr⟩
         |fz es xs =>
          obtain ⟨v,hc,hr⟩:=hbr
          exact ⟨v,(hcold id (by simp [hb'])).trans hc,H_re hf'.perm hw (.sl es) .sh .p .p xs v rfl hr⟩
         |dead=>trivial
       ·rw [hT] at hb';cases hb'
     ·rcases updL_cases hb with hb'|⟨hn,hb'⟩
      ·rcases List.mem_append.1 hb' with hb'|hb'
       ·rcases hA1 _ _ hb' with ⟨rfl,_⟩|⟨_,_,⟨_,_,_,_,_,rfl⟩|⟨rfl,_⟩⟩<;>rfl
       ·exact (unOuts_noN con.outs 0 vs.length).2 id b (by rw [hz];exact hb')
      ·rcases hT with hT|hT
       ·rcases hT with ⟨b',h'⟩|⟨to,h'⟩|⟨hc,h'⟩
        ·exact absurd h' (hn b')
        ·exact absurd (List.mem_append_left _ (hA2 _ _ h')) (hn _)
        ·subst hc
         rw [cond_false] at hA
         cases b with
         |row es ms xs ver =>
          obtain ⟨b',h2⟩:=fzs_of_pm h' _ hb' (.inl ⟨_,_,_,_,rfl⟩)
          exact absurd (List.mem_append_left _ (hA▸h2)) (hn _)
         |box cs =>
          obtain ⟨b',h2⟩:=fzs_of_pm h' _ hb' (.inr ⟨_,rfl⟩)
          exact absurd (List.mem_append_left _ (hA▸h2)) (hn _)
         |rbox es x=>rfl
         |fz es xs=>rfl
         |dead=>rfl
       ·rw [hT] at hb';cases hb'
end
end Go.Tm
/- The pure machine, 11 again: a call that writes a row within a row. -/
namespace Go.Tm
open Go
theorem updAt {α:Type} (f:Nat→α) (k:Nat) (v:α):upd f k v k=v:=by simp [upd,Nat.beq_refl]
theorem updOff {α:Type} {f:Nat→α} {k n:Nat} {v:α} (h:n≠k):upd f k v n=f n:=by
 unfold upd
 rw [Bool.eq_false_iff.2 fun e=>h (Nat.eq_of_beq_eq_true e)]
 rfl
theorem updL_app:∀{l1 l2:List (Nat×Blk)} {mu:Mu},updL mu (l1++l2)=updL (updL mu l1) l2
 | [],_,_=>rfl
 |(k,b)::l1,l2,mu=>by simp only [List.cons_append,updL];exact updL_app (l1:=l1)
theorem updL_congr:∀{l:List (Nat×Blk)} {mu mu':Mu} {n:Nat},mu n=mu' n→updL mu l n=updL mu' l n
 | [],_,_,_,h=>h
 |(k,b)::l,mu,mu',n,h=>by
  simp only [updL]
  refine updL_congr (l:=l) ?_
  unfold upd
  cases Nat.beq n k
  ·exact h
  ·rfl
section
variable {P:Program} {w w':World} {o o':Nat→Nat→Own}
theorem leaf_at:∀(es:Tys) {ms:List Md} {qc:Own} {qf:Nat→Own} {k j:Nat} {x:es.D} {b off:Nat} {l:Leaf},es.Hs P w o ms qc qf k x b off→es.leaf j x=some l →
  ∃v,w.cell? ⟨b,off+j,none⟩=some v∧o b (off+j)=qc∧l.t.H P w o (mdAt ms j) (qf (k+j)) l.x v
 | .nil,_,_,_,_,_,_,_,_,_,_,h=>by simp [Tys.leaf] at h
 | .cons t ts,ms,qc,qf,k,0,x,b,off,l,hs,h=>by
  obtain ⟨⟨v,hv,ho,ht⟩,_⟩:=hs
  simp only [Tys.leaf,Option.some.injEq] at h
  subst h
  exact ⟨v,hv,ho,by rw [mdAt_zero];exact ht⟩
 | .cons t ts,ms,qc,qf,k,j+1,x,b,off,l,hs,h=>by
  obtain ⟨v,h1,h2,h3⟩:=leaf_at ts hs.2 (by simpa [Tys.leaf] using h)
  exact ⟨v,by rwa [show off+(j+1)=off+1+j by omega],by rwa [show off+(j+1)=off+1+j by omega],by rw [mdAt_succ];rwa [show k+(j+1)=k+1+j by omega]⟩
theorem Hs_keep (hp:PermKeep w o w' o') (hw:Wf w o) {qc:Own} (hc:∀b k v,w.cell? ⟨b,k,none⟩=some v→o b k=qc→w'.cell? ⟨b,k,none⟩=some v∧o' b k=qc):∀(ts:Tys) {ms:List Md} {qf:Nat→Own} {k:Nat} {x:ts.D} {b off:Nat},
  (∀i,i<ts.len→Rl w o w' o' (qf (k+i)) (qf (k+i)))→ts.Hs P w o ms qc qf k x b off→ts.Hs P w' o' ms qc qf k x b off
 | .nil,_,_,_,_,_,_,_,_=>trivial
 | .cons t ts,ms,qf,k,x,b,off,hr,h=>by
  obtain ⟨⟨v,hv,ho,ht⟩,h⟩:=h
  refine ⟨⟨v,(hc _ _ _ hv ho).1,(hc _ _ _ hv ho).2,H_re hp hw t _ _ _ x.1 v (hr 0 (by simp [Tys.len])) ht⟩,Hs_keep hp hw hc ts (fun i hi=>?_) h⟩
  have:=hr (i+1) (by simp [Tys.len,hi])
  rwa [show k+(i+1)=k+1+i by omega] at this
theorem Hs_set (hp:PermKeep w o w' o') (hw:Wf w o) {qc:Own} (hc:∀b k v,w.cell? ⟨b,k,none⟩=some v→o b k=qc→w'.cell? ⟨b,k,none⟩=some v∧o' b k=qc) {t':Ty} {x1 y:t'.D}:∀(ts:Tys) {ms:List Md} {qf:Nat→Own} {k j:Nat} {x x':ts.D} {b off:Nat},
  (∀i,i<ts.len→i≠j→Rl w o w' o' (qf (k+i)) (qf (k+i)))→ts.Hs P w o ms qc qf k x b off→ts.leaf j x=some ⟨t',x1⟩→ts.setLeaf j x t' y=some x' →
  (∀v,w.cell? ⟨b,off+j,none⟩=some v→t'.H P w' o' (mdAt ms j) (qf (k+j)) y v)→ts.Hs P w' o' ms qc qf k x' b off
 | .nil,_,_,_,_,_,_,_,_,_,_,hl,_,_=>by simp [Tys.leaf] at hl
 | .cons t ts,ms,qf,k,0,x,x',b,off,hr,h,hl,hs,hy=>by
  obtain ⟨⟨v,hv,ho,ht⟩,h⟩:=h
  simp only [Tys.leaf,Option.some.injEq,Leaf.mk.injEq] at hl
  obtain ⟨rfl,_⟩:=hl
  simp only [Tys.setLeaf] at hs
  split at hs
  ·rename_i e _
   cases e
   cases hs
   refine ⟨⟨v,(hc _ _ _ hv ho).1,(hc _ _ _ hv ho).2,?_⟩,Hs_keep hp hw hc ts (fun i hi=>?_) h⟩
   ·have:=hy v hv
    rw [mdAt_zero] at this
    exact this
   ·have:=hr (i+1) (by simp [Tys.len,hi]) (by omega)
    rwa [show k+(i+1)=k+1+i by omega] at this
  ·cases hs
 | .cons t ts,ms,qf,k,j+1,x,x',b,off,hr,h,hl,hs,hy=>by
  obtain ⟨⟨v,hv,ho,ht⟩,h⟩:=h
  simp only [Tys.leaf] at hl
  simp only [Tys.setLeaf] at hs
  cases hs2:ts.setLeaf j x.2 t' y with
  |none=>rw [hs2] at hs;cases hs
  |some r =>
   rw [hs2] at hs
   cases hs
   refine ⟨⟨v,(hc _ _ _ hv ho).1,(hc _ _ _ hv ho).2,H_re hp hw t _ _ _ x.1 v (hr 0 (by simp [Tys.len]) (by omega)) ht⟩,Hs_set hp hw hc ts (fun i hi hne=>?_) h hl hs2 (fun u hu=>?_)⟩
   ·have:=hr (i+1) (by simp [Tys.len,hi]) (by omega)
    rwa [show k+(i+1)=k+1+i by omega] at this
   ·have:=hy u (by rwa [show off+(j+1)=off+1+j by omega])
    rw [mdAt_succ] at this
    rwa [show k+(j+1)=k+1+j by omega] at this
end
def unO (o:Nat→Nat→Own) (id i j id':Nat):Nat→Nat→Own:=fun b k =>
 match o b k with
 | .o (id0::s)=>if id0=id then (match s with
   |i0::j0::s'=>if i0=i∧j0=j then .o (id'::s') else .x
   |_=> .x) else .o (id0::s)
 |q=>q
open Classical in
noncomputable def reO (w:World) (o o':Nat→Nat→Own) (id i j id':Nat):Nat→Nat→Own:=fun b k =>
 if (∃v,w.cell? ⟨b,k,none⟩=some v)∧(∃s,o b k= .o (id::s))∧unO o id i j id' b k= .x then o b k
 else match o' b k with
  | .o (id0::s)=>if id0=id' then .o (id::i::j::s) else .o (id0::s)
  |q=>q
section
variable {P:Program} {w w':World} {o o':Nat→Nat→Own} {id i j id':Nat}
theorem unO_off {b k:Nat} (h:∀s,o b k≠ .o (id::s)):unO o id i j id' b k=o b k:=by
 unfold unO
 split
 ·rename_i id0 s e
  rw [if_neg]
  ·exact e.symm
  ·rintro rfl;exact h s e
 ·rfl
theorem unO_o {b k:Nat} {π:List Nat} (h:unO o id i j id' b k= .o π):(∃s,π=id'::s∧o b k= .o (id::i::j::s))∨(o b k= .o π∧∀s,π≠id::s):=by
 unfold unO at h
 split at h
 ·rename_i id0 s e
  split at h
  ·rename_i hid
   subst hid
   split at h
   ·split at h
    ·rename_i hij
     obtain ⟨rfl,rfl⟩:=hij
     cases h
     exact .inl ⟨_,rfl,e⟩
    ·cases h
   ·cases h
  ·rename_i hid
   cases h
   exact .inr ⟨e,fun s' e'=>by cases e';exact hid rfl⟩
 ·rename_i hne
  exact .inr ⟨h,fun s e=>by subst e;exact hne _ _ h⟩
theorem unO_in {b k:Nat} {s:List Nat} (h:o b k= .o (id::i::j::s)):unO o id i j id' b k= .o (id'::s):=by
 simp [unO,h]
theorem unO_p {b k:Nat} (h:o b k= .p):unO o id i j id' b k= .p:=by simp [unO,h]
theorem unO_perm:PermKeep w o w (unO o id i j id'):=fun b k v hv ho=>⟨hv,unO_p ho⟩
theorem unO_rl:Rl w o w (unO o id i j id') (.o [id,i,j]) (.o [id']) :=
 .inl ⟨[id'],rfl,fun b k s v hv ho=>⟨hv,unO_in ho⟩⟩
theorem reO_not {b k:Nat} (h:o' b k≠ .x) (hk:∀v,w.cell? ⟨b,k,none⟩=some v→unO o id i j id' b k= .x→o' b k= .x):reO w o o' id i j id' b k=(match o' b k with
  | .o (id0::s)=>if id0=id' then .o (id::i::j::s) else .o (id0::s)
  |q=>q):=by
 unfold reO
 rw [if_neg]
 rintro ⟨⟨v,hv⟩,_,hx⟩
 exact h (hk v hv hx)
end
theorem memNxt {P:Program} {w w':World} {g g':Gh} {mu mu':Mu} (hm:MemR P w g mu) (hw:Wf w g.o) (h:Nxt P w g mu w' g' mu'):MemR P w' g' mu':=by
 obtain ⟨T,h1,_,_,_,h5⟩:=h
 intro id b hb
 by_cases ht:T id
 ·exact h5 id b (.inl ht) hb
 ·by_cases hp:mu id=none
  ·exact h5 id b (.inr hp) hb
  ·rw [h1.same id ht hp] at hb
   exact Blk.stp h1 hw ht hp b (hm id b hb)
section
variable {P:Program} {w w':World} {g g':Gh} {mu mu2:Mu} {id i j id':Nat}
def unMu (mu:Mu) (id id':Nat) (b:Blk):Mu:=upd (upd mu id (some .dead)) id' (some b)
def unG (g:Gh) (id i j id':Nat) (v:Value):Gh:=⟨unO g.o id i j id',upd g.c id' (.row v)⟩
theorem unMu_ne {b:Blk} {k:Nat} (h1:k≠id) (h2:k≠id'):unMu mu id id' b k=mu k:=by
 unfold unMu;rw [updOff h2,updOff h1]
theorem unMu_id {b:Blk} (h:id≠id'):unMu mu id id' b id=some .dead:=by
 unfold unMu;rw [updOff h,updAt]
theorem unMu_id' {b:Blk}:unMu mu id id' b id'=some b:=updAt _ _ _
theorem unMu_some {b:Blk} {k:Nat} (h:mu k≠none):unMu mu id id' b k≠none:=by
 by_cases h2:k=id'
 ·subst h2;rw [unMu_id'];simp
 ·by_cases h1:k=id
  ·subst h1;rw [unMu_id h2];simp
  ·rw [unMu_ne h1 h2];exact h
theorem unnest (hw:Wf w g.o) (hown:∀b k id s,g.o b k= .o (id::s)→mu id≠none) (hid:mu id≠none) (hid':mu id'=none) {es':Tys} {ms':List Md} {xs':List es'.D} {v:Value}
  (hv:(Ty.sl es').H P w g.o (.own ms') (.o [id,i,j]) xs' v):Nxt P w g mu w (unG g id i j id' v) (unMu mu id id' (.row es' ms' xs' 0))∧(CV.own id').R P w (unG g id i j id' v) (unMu mu id id' (.row es' ms' xs' 0)) v:=by
 have hne:id≠id':=fun e=>hid (e▸hid')
 have hH:(Ty.sl es').H P w (unO g.o id i j id') (.own ms') (.o [id']) xs' v:=H_re unO_perm hw (.sl es') (.own ms') _ _ xs' v unO_rl hv
 refine ⟨⟨fun k=>k=id,⟨fun b k v hv hT=>⟨hv,unO_off fun s e=>hT _ _ e rfl⟩,fun k hk=>?_,fun k hk=>unMu_some hk,fun k hT hk=>?_,fun k es ms xs ver hT hk hr=>?_⟩,?_,⟨fun b k π h=>?_,fun b k h=>?_⟩,fun b k k0 s h=>?_,fun k b hT hb=>?_⟩,?_⟩
 ·exact updOff fun e=>hk (e▸hid')
 ·exact unMu_ne hT fun e=>hk (e▸hid')
 ·subst hT;rw [unMu_id hne] at hr;cases hr
 ·exact ⟨rfl,rfl,rfl,Nat.le_refl _,fun _ _ _=>rfl,fun b k v hv hn=>⟨hv,unO_off fun s=>hn _⟩,fun b k v hv=>⟨v,hv⟩,fun _ _ _=>rfl⟩
 ·rcases unO_o h with ⟨s,_,e⟩|⟨e,_⟩
  ·exact hw.cell b k _ e
  ·exact hw.cell b k _ e
 ·rcases unO_o h with ⟨s,e,_⟩|⟨e,_⟩
  ·cases e
  ·exact hw.ne b k e
 ·rcases unO_o h with ⟨s',e,_⟩|⟨e,_⟩
  ·cases e;rw [unMu_id'];simp
  ·exact unMu_some (hown _ _ _ _ e)
 ·by_cases h2:k=id'
  ·subst h2
   rw [unMu_id'] at hb
   cases hb
   exact ⟨v,updAt _ _ _,hH⟩
  ·by_cases h1:k=id
   ·subst h1;rw [unMu_id h2] at hb;cases hb;trivial
   ·rw [unMu_ne h1 h2] at hb
    rcases hT with hT|hT
    ·exact absurd hT h1
    ·rw [hT] at hb;cases hb
 ·obtain ⟨a,c,e,_⟩:=H_own.1 hH
  exact ⟨by rw [unMu_id'];simp,updAt _ _ _,a,_,c,e⟩
theorem noN_keep {o1 o2:Nat→Nat→Own} {c1:Nat→Conc} {mu1 mu3:Mu} (hw:Wf w' o1) (hp:PermKeep w' o1 w' o2) (hpres:∀k,mu1 k≠none→mu3 k≠none) (cv:CV) {v:Value} (hn:cv.noN=true) (h:cv.R P w' ⟨o1,c1⟩ mu1 v):cv.R P w' ⟨o2,c1⟩ mu3 v:=by
 cases cv with
 |un=>exact h
 |int k n=>exact h
 |bool b=>exact h
 |str s=>exact h
 |nils=>exact h
 |ro es xs=>exact H_re hp hw (.sl es) .sh .p .p xs v rfl h
 |own id=>exact ⟨hpres _ h.1,h.2⟩
 |nref id ver i j=>cases hn
 |ptr id off=>exact ⟨hpres _ h.1,h.2⟩
 |eptr id sz i off=>exact ⟨hpres _ h.1,h.2⟩
 |rptr es x off =>
  obtain ⟨b,base,hv,hs⟩:=h
  exact ⟨b,base,hv,Hs_re hp hw es [] .p .p (fun _=> .p) (fun _=> .p) 0 x b base rfl (fun _=>rfl) hs⟩
 |fnp f=>exact h
 |clo f ids =>
  obtain ⟨caps,hv,ha⟩:=h
  exact ⟨caps,hv,All2.imp (fun id u hu=>⟨hpres _ hu.1,hu.2⟩) ha⟩
 |fnd sh as rs k=>exact H_re hp hw (.fn sh as rs) .sh .p .p k v rfl h
theorem noNs_keep {o1 o2:Nat→Nat→Own} {c1:Nat→Conc} {mu1 mu3:Mu} (hw:Wf w' o1) (hp:PermKeep w' o1 w' o2) (hpres:∀k,mu1 k≠none→mu3 k≠none):∀(cs:List CV) {vs:List Value},cs.all CV.noN=true→cvsR P w' ⟨o1,c1⟩ mu1 cs vs→cvsR P w' ⟨o2,c1⟩ mu3 cs vs
 | [],[],_,_=>trivial
 |c::cs,v::vs,hn,h=>by
  simp only [List.all_cons,Bool.and_eq_true] at hn
  exact ⟨noN_keep hw hp hpres c hn.1 h.1,noNs_keep hw hp hpres cs hn.2 h.2⟩
 | [],_::_,_,h=>h.elim
 |_::_,[],_,h=>h.elim
theorem noNt_keep {o1 o2:Nat→Nat→Own} {c1:Nat→Conc} {mu1 mu3:Mu} (hw:Wf w' o1) (hp:PermKeep w' o1 w' o2) (hpres:∀k,mu1 k≠none→mu3 k≠none) (tv:TV) {v:Value} (hn:tv.noN=true) (h:tv.R P w' ⟨o1,c1⟩ mu1 v):tv.R P w' ⟨o2,c1⟩ mu3 v:=by
 cases tv with
 |un=>trivial
 |und=>exact h
 |c cv=>exact noN_keep hw hp hpres cv hn h
 |agg vs=>obtain ⟨a,hv,ha⟩:=h;exact ⟨a,hv,noNs_keep hw hp hpres vs hn ha⟩
 |tup l =>
  obtain ⟨a,hv,ha⟩:=h
  refine ⟨a,hv,?_⟩
  have hn:(l.all fun x=>x.2.all CV.noN)=true:=hn
  revert ha hn
  generalize a.toList=vs
  intro hn ha
  have key:∀(l:List (Bool×List CV)) (vs:List Value),(l.all fun x=>x.2.all CV.noN)=true→All2 (compR P w' ⟨o1,c1⟩ mu1) l vs→All2 (compR P w' ⟨o2,c1⟩ mu3) l vs:=by
   intro l
   induction l with
   |nil=>intro vs _ h;cases vs;trivial;exact h.elim
   |cons x l ih =>
    intro vs hn h
    cases vs with
    |nil=>exact h.elim
    |cons u vs =>
     simp only [List.all_cons,Bool.and_eq_true] at hn
     refine ⟨?_,ih vs hn.2 h.2⟩
     have h1:=h.1
     rcases x with ⟨_|_,cs⟩
     ·rcases cs with _|⟨cv,cs⟩
      ·trivial
      ·have hn1:=hn.1
       simp only [List.all_cons,Bool.and_eq_true] at hn1
       exact noN_keep hw hp hpres cv hn1.1 h1
     ·obtain ⟨b,hb,hu⟩:=h1;exact ⟨b,hb,noNs_keep hw hp hpres cs hn.1 hu⟩
  exact key l vs (by assumption) (by assumption)
end
section
variable {P:Program} {w w':World} {g g':Gh} {mu mu2:Mu} {id i j id':Nat}
theorem getN_len {α:Type} {xs:List α} {i:Nat} {x:α} (h:getN xs i=some x):i<xs.length:=by
 unfold getN at h
 exact (List.getElem?_eq_some_iff.1 h).1
theorem renest {es:Tys} {ms:List Md} {xs:List es.D} {ver:Nat} {a:Addr} {n c:Nat} {x x':es.D} {es':Tys} {ms':List Md} {xs' ys:List es'.D} {ver2:Nat} {v:Value}
  (hm:MemR P w g mu) (hw:Wf w g.o) (hown:∀b k id s,g.o b k= .o (id::s)→mu id≠none) (hid:mu id=some (.row es ms xs ver)) (hid':mu id'=none) (hc:g.c id= .row (.slice (some a) n c)) (hx:getN xs i=some x)
  (hl:es.leaf j x=some ⟨.sl es',xs'⟩) (hmd:mdAt ms j= .own ms') (hv:w.cell? ⟨a.block,a.off+i*es.len+j,none⟩=some v)
  (hm1:MemR P w (unG g id i j id' v) (unMu mu id id' (.row es' ms' xs' 0))) (hw1:Wf w (unG g id i j id' v).o)
  (N:NxtN P w (unG g id i j id' v) (unMu mu id id' (.row es' ms' xs' 0)) w' g' mu2) (hy:mu2 id'=some (.row es' ms' ys ver2)) (hs:es.setLeaf j x (.sl es') ys=some x') :
  Nxt P w g mu w' ⟨reO w g.o g'.o id i j id',g'.c⟩ (upd (upd mu2 id (some (.row es ms (xs.set i x') (ver+1)))) id' (some .dead)) ∧
   ∀(tv:TV) (u:Value),tv.noN=true→tv.R P w' g' mu2 u→tv.R P w' ⟨reO w g.o g'.o id i j id',g'.c⟩ (upd (upd mu2 id (some (.row es ms (xs.set i x') (ver+1)))) id' (some .dead)) u:=by
 have hidn:mu id≠none:=by rw [hid];simp
 have hne:id≠id':=fun e=>hidn (e▸hid')
 have hm2:MemR P w' g' mu2:=memNxt hm1 hw1 N.nxt
 obtain ⟨T',S1,F1,W1,own1,M1⟩:=N
 have keyx:∀b k u,w.cell? ⟨b,k,none⟩=some u→unO g.o id i j id' b k= .x→w'.cell? ⟨b,k,none⟩=some u∧g'.o b k= .x:=fun b k u hu hx=>by
  obtain ⟨h1,h2⟩:=S1.cell b k u hu (fun id0 s e=>by
   have e:unO g.o id i j id' b k= .o (id0::s):=e
   rw [hx] at e;cases e)
  exact ⟨h1,h2.trans hx⟩
 have rnot:∀b k,g'.o b k≠ .x→reO w g.o g'.o id i j id' b k=(match g'.o b k with
   | .o (id0::s)=>if id0=id' then .o (id::i::j::s) else .o (id0::s)
   |q=>q):=fun b k h=>reO_not h fun u hu hx=>(keyx b k u hu hx).2
 have P2:PermKeep w' g'.o w' (reO w g.o g'.o id i j id'):=fun b k u hu ho=>⟨hu,by rw [rnot b k (by rw [ho];simp),ho]⟩
 have R2:Rl w' g'.o w' (reO w g.o g'.o id i j id') (.o [id']) (.o [id,i,j]):= .inl ⟨[id,i,j],rfl,fun b k s u hu ho=>⟨hu,by
  have ho:g'.o b k= .o (id'::s):=ho
  rw [rnot b k (by rw [ho];simp),ho]
  simp⟩⟩
 have R3:∀k0,k0≠id'→Rl w' g'.o w' (reO w g.o g'.o id i j id') (.o [k0]) (.o [k0]):=fun k0 hk0=> .inl ⟨[k0],rfl,fun b k s u hu ho=>⟨hu,by
  have ho:g'.o b k= .o (k0::s):=ho
  rw [rnot b k (by rw [ho];simp),ho]
  simp [hk0]⟩⟩
 have PP:PermKeep w g.o w' (reO w g.o g'.o id i j id'):=fun b k u hu ho=>by
  obtain ⟨h1,h2⟩:=S1.perm b k u hu (unO_p ho)
  exact P2 b k u h1 h2
 have keep:∀b k u π,w.cell? ⟨b,k,none⟩=some u→g.o b k= .o π→unO g.o id i j id' b k= .x→w'.cell? ⟨b,k,none⟩=some u∧reO w g.o g'.o id i j id' b k= .o π:=fun b k u π hu ho hx=>by
  refine ⟨(keyx b k u hu hx).1,?_⟩
  have hex:∃s,g.o b k= .o (id::s):=by
   by_cases h:∃s,g.o b k= .o (id::s)
   ·exact h
   ·have:=unO_off (o:=g.o) (i:=i) (j:=j) (id':=id') (fun s e=>h ⟨s,e⟩)
    rw [hx,ho] at this;cases this
  unfold reO
  rw [if_pos ⟨⟨u,hu⟩,hex,hx⟩,ho]
 have hpres:∀k,mu2 k≠none→(upd (upd mu2 id (some (.row es ms (xs.set i x') (ver+1)))) id' (some .dead)) k≠none:=fun k hk=>by
  by_cases h2:k=id'
  ·subst h2;rw [updAt];simp
  ·rw [updOff h2]
   by_cases h1:k=id
   ·subst h1;rw [updAt];simp
   ·rw [updOff h1];exact hk
 have mu3ne:∀k,k≠id→k≠id'→(upd (upd mu2 id (some (.row es ms (xs.set i x') (ver+1)))) id' (some .dead)) k=mu2 k:=fun k h1 h2=>by rw [updOff h2,updOff h1]
 have mu3id:(upd (upd mu2 id (some (.row es ms (xs.set i x') (ver+1)))) id' (some .dead)) id=some (.row es ms (xs.set i x') (ver+1)):=by rw [updOff hne,updAt]
 have hcid:g'.c id=g.c id:=(S1.c id (by rw [unMu_id hne];simp)).trans (updOff hne)
 have hcid':g'.c id'= .row v:=(S1.c id' (by rw [unMu_id'];simp)).trans (updAt _ _ _)
 have hrow:(Ty.sl es).H P w' (reO w g.o g'.o id i j id') (.own ms) (.o [id]) (xs.set i x') (.slice (some a) n c):=by
  obtain ⟨v0,hc0,hH⟩:=hm id _ hid
  rw [hc] at hc0;cases hc0
  obtain ⟨a',c',he,hlc,hcase⟩:=H_own.1 hH
  cases he
  rcases hcase with ⟨h,_⟩|⟨ad,ha,hspot,hk,hel⟩
  ·subst h;simp [getN] at hx
  ·cases ha
   have hexact:∀b k u,w.cell? ⟨b,k,none⟩=some u→g.o b k= .o [id]→w'.cell? ⟨b,k,none⟩=some u∧reO w g.o g'.o id i j id' b k= .o [id]:=fun b k u hu ho=>keep b k u _ hu ho (by simp [unO,ho])
   refine H_own.2 ⟨some a,c,by rw [List.length_set],by rw [List.length_set];exact hlc,.inr ⟨a,rfl,hspot,fun k hlt=>?_,fun i2 x2 hi2=>?_⟩⟩
   ·have h1:=hk k hlt
    obtain ⟨⟨u,hu⟩,_⟩:=hw.cell _ _ _ h1
    exact (hexact _ _ u hu h1).2
   ·by_cases hi:i2=i
    ·subst hi
     have hlt:=getN_len hx
     have e2:x2=x':=by
      have:getN (xs.set i2 x') i2=some x':=by
       unfold getN;rw [List.getElem?_set_self hlt]
      exact Option.some.inj (hi2.symm.trans this)
     subst e2
     refine Hs_set PP hw hexact es (fun m _ hmj=> .inl ⟨_,rfl,fun b k s u hu ho=>keep b k u _ hu ho (by
      have ho:g.o b k= .o (id::i2::(0+m)::s):=ho
      have:¬(0+m=j):=by omega
      simp [unO,ho];omega)⟩) (hel i2 x hx) hl hs (fun u hu=>?_)
     rw [hv] at hu
     cases hu
     obtain ⟨v1,hc1,hH1⟩:=hm2 id' _ hy
     rw [hcid'] at hc1;cases hc1
     rw [hmd]
     have:=H_re P2 W1 (.sl es') (.own ms') _ _ ys v R2 hH1
     rw [Nat.zero_add]
     exact this
    ·have hi3:getN xs i2=some x2:=by
      rw [←hi2];unfold getN;rw [List.getElem?_set_ne (fun e=>hi e.symm)]
     exact Hs_keep PP hw hexact es (fun m _=> .inl ⟨_,rfl,fun b k s u hu ho=>keep b k u _ hu ho (by
      have ho:g.o b k= .o (id::i2::(0+m)::s):=ho
      simp [unO,ho];intro e;exact absurd e hi)⟩) (hel i2 x2 hi3)
 refine ⟨⟨fun k=>T' k∨k=id,⟨fun b k u hu hT=>?_,fun k hk=>?_,fun k hk=>?_,fun k hT hk=>?_,fun k es0 ms0 xs0 ver0 hT hk hr=>?_⟩,?_,⟨fun b k π h=>?_,fun b k h=>?_⟩,fun b k k0 s h=>?_,fun k b hT hb=>?_⟩,fun tv u hn h=>noNt_keep W1 P2 hpres tv hn h⟩
 ·have h1:unO g.o id i j id' b k=g.o b k:=unO_off fun s e=>hT _ _ e (.inr rfl)
  obtain ⟨h2,h3⟩:=S1.cell b k u hu (fun id0 s e=>by
   have e:unO g.o id i j id' b k= .o (id0::s):=e
   rw [h1] at e;exact fun h=>hT _ _ e (.inl h))
  have h3:g'.o b k=g.o b k:=h3.trans h1
  refine ⟨h2,?_⟩
  show reO w g.o g'.o id i j id' b k=g.o b k
  unfold reO
  rw [if_neg (fun e=>by obtain ⟨s,e⟩:=e.2.1;exact hT _ _ e (.inr rfl)),h3]
  cases hq:g.o b k with
  |x=>rfl
  |p=>rfl
  |o π =>
   cases π with
   |nil=>rfl
   |cons id0 s =>
    have:id0≠id':=fun e=>hown _ _ _ _ hq (e▸hid')
    simp [this]
 ·have:k≠id':=fun e=>hk (e▸hid')
  exact (S1.c k (unMu_some hk)).trans (updOff this)
 ·exact hpres k (S1.pres k (unMu_some hk))
 ·have h1:k≠id:=fun e=>hT (.inr e)
  have h2:k≠id':=fun e=>hk (e▸hid')
  rw [mu3ne k h1 h2,S1.same k (fun h=>hT (.inl h)) (unMu_some hk),unMu_ne h1 h2]
 ·have h2:k≠id':=fun e=>hk (e▸hid')
  by_cases h1:k=id
  ·subst h1
   rw [mu3id] at hr
   simp only [Option.some.injEq,Blk.row.injEq] at hr
   exact ⟨_,_,_,_,hid,by omega⟩
  ·rw [mu3ne k h1 h2] at hr
   rcases hT with hT|hT
   ·obtain ⟨e1,e2,e3,e4,h5,h6⟩:=S1.ver k _ _ _ _ hT (unMu_some hk) hr
    rw [unMu_ne h1 h2] at h5
    exact ⟨_,_,_,_,h5,h6⟩
   ·exact absurd hT h1
 ·refine ⟨F1.os,F1.tape,F1.output,F1.size,fun b hlt h=>F1.blk b hlt fun k π e=>?_,fun b k u hu h=>?_,F1.there,F1.frz⟩
  ·rcases unO_o e with ⟨s,_,e⟩|⟨e,_⟩
   ·exact h _ _ e
   ·exact h _ _ e
  ·have h1:unO g.o id i j id' b k=g.o b k:=unO_off fun s=>h _
   obtain ⟨h2,h3⟩:=F1.cell b k u hu (fun π e=>by
    have e:unO g.o id i j id' b k= .o π:=e
    rw [h1] at e;exact h π e)
   have h3:g'.o b k=g.o b k:=h3.trans h1
   refine ⟨h2,?_⟩
   show reO w g.o g'.o id i j id' b k=g.o b k
   unfold reO
   rw [if_neg (fun e=>by obtain ⟨s,e⟩:=e.2.1;exact h _ e),h3]
   cases hq:g.o b k with
   |x=>rfl
   |p=>rfl
   |o π=>exact absurd hq (h π)
 ·have h:reO w g.o g'.o id i j id' b k= .o π:=h
  unfold reO at h
  split at h
  ·rename_i hc
   obtain ⟨⟨u,hu⟩,_,_⟩:=hc
   refine ⟨F1.there b k u hu,?_⟩
   intro j
   rw [F1.frz b j (cell_lt hu)]
   exact (hw.cell b k _ h).2 j
  ·split at h
   ·rename_i id0 s e;exact W1.cell b k _ e
   ·exact W1.cell b k _ h
 ·have h:reO w g.o g'.o id i j id' b k= .o []:=h
  unfold reO at h
  split at h
  ·exact hw.ne b k h
  ·split at h
   ·split at h<;>cases h
   ·exact W1.ne b k h
 ·have h:reO w g.o g'.o id i j id' b k= .o (k0::s):=h
  unfold reO at h
  split at h
  ·rename_i hc
   obtain ⟨_,⟨s',e⟩,_⟩:=hc
   rw [h] at e;cases e
   rw [mu3id];simp
  ·split at h
   ·rename_i id0 s' e
    split at h
    ·cases h;rw [mu3id];simp
    ·cases h;exact hpres _ (own1 _ _ _ _ e)
   ·exact hpres _ (own1 _ _ _ _ h)
 ·by_cases h2:k=id'
  ·subst h2;rw [updAt] at hb;cases hb;trivial
  ·by_cases h1:k=id
   ·subst h1
    rw [mu3id] at hb
    cases hb
    exact ⟨_,hcid.trans hc,hrow⟩
   ·rw [mu3ne k h1 h2] at hb
    have hT1:T' k∨unMu mu id id' (.row es' ms' xs' 0) k=none:=by
     rcases hT with (hT|hT)|hT
     ·exact .inl hT
     ·exact absurd hT h1
     ·exact .inr (by rw [unMu_ne h1 h2];exact hT)
    obtain ⟨hR,hN⟩:=M1 k b hT1 hb
    cases b with
    |box cs =>
     obtain ⟨bb,base,hcc,hR⟩:=hR
     have hN:cs.all CV.noN=true:=hN
     refine ⟨bb,base,hcc,fun m cv hm=>?_⟩
     obtain ⟨u,hu,ho,hcv⟩:=hR m cv hm
     have hcn:cv.noN=true:=List.all_eq_true.1 hN cv (List.mem_of_getElem? hm)
     refine ⟨u,hu,?_,noN_keep W1 P2 hpres cv hcn hcv⟩
     rcases R3 k h2 with ⟨_,e,h⟩|⟨e,_⟩
     ·cases e;have:=(h _ _ [] u hu (by simpa using ho)).2;simpa using this
     ·cases e
    |rbox e0 x0 =>
     obtain ⟨bb,base,hcc,hR⟩:=hR
     exact ⟨bb,base,hcc,Hs_re P2 W1 e0 [] .p .p (fun _=> .p) (fun _=> .p) 0 x0 bb base rfl (fun _=>rfl) hR⟩
    |row e0 m0 x0 v0 =>
     obtain ⟨u,hcc,hR⟩:=hR
     exact ⟨u,hcc,H_re P2 W1 (.sl e0) (.own m0) _ _ x0 u (R3 k h2) hR⟩
    |fz e0 x0 =>
     obtain ⟨u,hcc,hR⟩:=hR
     exact ⟨u,hcc,H_re P2 W1 (.sl e0) .sh .p .p x0 u rfl hR⟩
    |dead=>trivial
end
theorem nestAt_ok:∀{gs:List Grp} {args:List TV} {k n id ver i j:Nat},nestAt gs args k=some (n,id,ver,i,j)→k≤n∧args[n - k]?=some (.c (.nref id ver i j))
 | [],_,_,_,_,_,_,_,h=>by simp [nestAt] at h
 |_::_,[],_,_,_,_,_,_,h=>by simp [nestAt] at h
 |g::gs,a::as,k,n,id,ver,i,j,h=>by
  simp only [nestAt] at h
  split at h
  ·cases h;exact ⟨Nat.le_refl _,by simp⟩
  ·obtain ⟨h1,h2⟩:=nestAt_ok h
   refine ⟨by omega,?_⟩
   rw [show n - k=(n - (k+1))+1 by omega]
   simpa using h2
theorem All2.set {α β:Type} {R:α→β→Prop}:∀{x:List α} {y:List β} (n:Nat) (a:α),All2 R x y→(∀b,y[n]?=some b→R a b)→All2 R (x.set n a) y
 | [],[],_,_,_,_=>trivial
 |_::_,_::_,0,a,h,k=>⟨k _ rfl,h.2⟩
 |_::_,_::_,n+1,a,h,k=>⟨h.1,All2.set n a h.2 (fun b hb=>k b (by simpa using hb))⟩
 | [],_::_,_,_,h,_=>h.elim
 |_::_,[],_,_,h,_=>h.elim
section
variable {P:Program} {w:World} {g:Gh} {mu:Mu}
theorem callN_ok {R:Type} {C:Ctx} (hC:CtxOk P C) (hm:MemR P w g mu) (hw:Wf w g.o) (hown:∀b k id s,g.o b k= .o (id::s)→mu id≠none) {idb:Nat}
  (hfresh:∀n,idb≤n→n<idb+2048→mu n=none) {f:Nat} {args:List TV} {vals:List Value} (ha:All2 (TV.R P w g mu) args vals) {K:TV→List (Nat×Blk)→Option R} {y:R}
  (h:callN C mu idb f args K=some y):Calls P f vals.toArray w fun e w'=>∃v g' tv ms,e= .returned v∧K tv ms=some y∧Nxt P w g mu w' g' (updL mu ms)∧tv.R P w' g' (updL mu ms) v:=by
 unfold callN at h
 cases hcon:C.con f with
 |none=>simp [hcon] at h
 |some con =>
  simp only [hcon] at h
  cases hn:nestAt con.ins args 0 with
  |none =>
   simp only [hn] at h
   refine Calls.mono (callU_ok hC hm hw hown (fun n h1 h2=>hfresh n h1 (by omega)) ha h) fun e w' he=>?_
   obtain ⟨v,g',tv,ms,h1,h2,h3,h4,_⟩:=he
   exact ⟨v,g',tv,ms,h1,h2,h3.nxt,h4⟩
  |some p =>
   obtain ⟨n,id,ver,i,j⟩:=p
   simp only [hn] at h
   obtain ⟨_,harg⟩:=nestAt_ok hn
   rw [Nat.sub_zero] at harg
   obtain ⟨v,hvn,hid,_,hnref⟩:=All2.get n _ ha harg
   cases hb:mu id with
   |none=>exact absurd hb hid
   |some bl =>
    cases bl<;>simp only [hb] at h<;>try (cases h;done)
    case row es ms xs ver' =>
     cases hver:Nat.beq ver ver' with
     |false=>simp [hver] at h
     |true =>
      simp only [hver,cond_true] at h
      cases Nat.eq_of_beq_eq_true hver
      obtain ⟨a,m,c,hc,hcell,hco⟩:=(hnref _ _ _ _ hb).2 rfl
      cases hx:getN xs i with
      |none=>simp [hx] at h
      |some x =>
       simp only [hx,Option.bind_some] at h
       split at h
       ·rename_i es' xs' ms' hl hmd
        have hid':mu (idb+2047)=none:=hfresh _ (by omega) (by omega)
        have hv:(Ty.sl es').H P w g.o (.own ms') (.o [id,i,j]) xs' v:=by
         obtain ⟨v0,hc0,hH⟩:=hm id _ hb
         rw [hc] at hc0;cases hc0
         obtain ⟨a',c',he,_,hcase⟩:=H_own.1 hH
         cases he
         rcases hcase with ⟨h,_⟩|⟨ad,ha',_,_,hel⟩
         ·subst h;simp [getN] at hx
         ·cases ha'
          obtain ⟨u,hu,_,hH⟩:=leaf_at es (hel i x hx) hl
          rw [hcell] at hu;cases hu
          rw [hmd] at hH
          rw [Nat.zero_add] at hH
          exact hH
        obtain ⟨N0,hown1⟩:=unnest (id':=idb+2047) hw hown (by rw [hb];simp) hid' hv
        have hm1:=memNxt hm hw N0
        obtain ⟨T,S0,_,W0,O0,_⟩:=N0
        have ha1:All2 (TV.R P w (unG g id i j (idb+2047) v) (unMu mu id (idb+2047) (.row es' ms' xs' 0))) (args.set n (.c (.own (idb+2047)))) vals:=by
         refine All2.set n _ (All2.imp (fun tv u hu=>TV.stp S0 hw tv hu) ha) fun u hu=>?_
         rw [hvn] at hu;cases hu
         exact hown1
        refine Calls.mono (callU_ok hC hm1 W0 O0 (idb:=idb) (fun k h1 h2=>?_) ha1 h) fun e w' he=>?_
        ·rw [unMu_ne (fun e=>by rw [e] at h1 h2;exact absurd (hfresh id h1 (by omega)) (by rw [hb];simp)) (by omega)]
         exact hfresh k h1 (by omega)
        ·obtain ⟨u,g',tv,l,rfl,hK,hN,htv,hno⟩:=he
         have hK0:=hK
         split at hK
         ·rename_i es2 ms2 ys ver2 hrow
          split at hK
          ·rename_i hes _
           cases hes
           cases hms:mdsBeq ms2 ms' with
           |false=>simp [hms] at hK
           |true =>
            simp only [hms,cond_true] at hK
            cases mdsBeq_eq hms
            simp only [castL] at hK
            cases hs:es.setLeaf j x (.sl es') ys with
            |none=>rw [hs] at hK;cases hK
            |some x' =>
             rw [hs] at hK
             simp only [Option.bind_some] at hK
             have hrow':updL (unMu mu id (idb+2047) (.row es' ms' xs' 0)) l (idb+2047)=some (.row es' ms' ys ver2):=hrow
             obtain ⟨hfin,hfv⟩:=renest hm hw hown hb hid' hc hx hl hmd hcell hm1 W0 hN hrow' hs
             have hmu:upd (upd (updL (unMu mu id (idb+2047) (.row es' ms' xs' 0)) l) id (some (.row es ms (xs.set i x') (ver+1)))) (idb+2047) (some .dead)=updL mu (l++ [(id,.row es ms (xs.set i x') (ver+1)),(idb+2047,.dead)]):=by
              refine Eq.trans ?_ updL_app.symm
              funext k
              show upd _ _ _ k=upd (upd _ _ _) _ _ k
              unfold upd
              cases hkk:Nat.beq k (idb+2047) with
              |true=>rfl
              |false =>
               cases hki:Nat.beq k id with
               |true=>rfl
               |false =>
                by_cases hk2:k=idb+2047
                ·subst hk2;rw [Nat.beq_refl] at hkk;cases hkk
                ·exact updL_congr (unMu_ne (fun e=>by rw [e,Nat.beq_refl] at hki;cases hki) hk2)
             rw [hmu] at hfin hfv
             exact ⟨u,_,tv,_,rfl,hK,hfin,hfv tv u hno htv⟩
          ·cases hK
         ·cases hK
       ·cases h
end
end Go.Tm
/- The pure machine, 11b: a call that writes an element of a row: it is taken out and put back. -/
namespace Go.Tm
open Go
def jOwn (ms:List Md) (n j:Nat):Bool:=Nat.blt j n&&(match mdAt ms j with| .own _=>true| .sh=>false)
theorem jOwn_ok {ms:List Md} {n j:Nat} (h:jOwn ms n j=true):j<n∧∃m,mdAt ms j= .own m:=by
 unfold jOwn at h
 simp only [Bool.and_eq_true] at h
 refine ⟨by simpa [Nat.blt_eq] using h.1,?_⟩
 cases hm:mdAt ms j with
 |sh=>rw [hm] at h;cases h.2
 |own m=>exact ⟨m,rfl⟩
theorem jOwn_mk {ms:List Md} {n j:Nat} {m:List Md} (h:j<n) (hm:mdAt ms j= .own m):jOwn ms n j=true:=by
 unfold jOwn
 rw [hm]
 simp [Nat.blt_eq,h]
def unE (o:Nat→Nat→Own) (id i n:Nat) (ms:List Md) (blk off bx:Nat):Nat→Nat→Own:=fun b k =>
 match o b k with
 | .o (id0::s)=>if id0=id then (match s with
   | []=>if b=blk∧off≤k∧k<off+n then .o [bx] else .x
   |i0::j0::s'=>if i0=i∧jOwn ms n j0=true then .o ((bx+1+j0)::s') else .x
   |_=> .x) else .o (id0::s)
 |q=>q
open Classical in
noncomputable def reE (w:World) (o o':Nat→Nat→Own) (id i n:Nat) (ms:List Md) (blk off bx:Nat) (us:List Use):Nat→Nat→Own:=fun b k =>
 if (∃v,w.cell? ⟨b,k,none⟩=some v)∧(∃s,o b k= .o (id::s))∧unE o id i n ms blk off bx b k= .x then o b k
 else match o' b k with
  | .o (id0::s)=>if id0=bx then .o (id::s) else (match findU id0 us with
    |some (.mv _ j)=> .o (id::i::j::s)
    |_=> .o (id0::s))
  |q=>q
section
variable {P:Program} {w w':World} {o o':Nat→Nat→Own} {id i n blk off bx:Nat} {ms:List Md} {us:List Use}
theorem unE_off {b k:Nat} (h:∀s,o b k≠ .o (id::s)):unE o id i n ms blk off bx b k=o b k:=by
 unfold unE
 split
 ·rename_i id0 s e
  rw [if_neg]
  ·exact e.symm
  ·rintro rfl;exact h s e
 ·rfl
theorem unE_o {b k:Nat} {π:List Nat} (h:unE o id i n ms blk off bx b k= .o π) :
  (o b k= .o [id]∧π= [bx]∧b=blk∧off≤k∧k<off+n)∨(∃j s,jOwn ms n j=true∧o b k= .o (id::i::j::s)∧π=(bx+1+j)::s)∨(o b k= .o π∧∀s,π≠id::s):=by
 unfold unE at h
 split at h
 ·rename_i id0 s e
  split at h
  ·rename_i hid
   subst hid
   split at h
   ·split at h
    ·rename_i hc
     cases h
     exact .inl ⟨e,rfl,hc⟩
    ·cases h
   ·split at h
    ·rename_i i0 j0 s' hc
     obtain ⟨rfl,hj⟩:=hc
     cases h
     exact .inr (.inl ⟨_,_,hj,e,rfl⟩)
    ·cases h
   ·cases h
  ·rename_i hid
   cases h
   exact .inr (.inr ⟨e,fun s' e'=>by cases e';exact hid rfl⟩)
 ·rename_i hne
  exact .inr (.inr ⟨h,fun s e=>by subst e;exact hne _ _ h⟩)
theorem unE_top {k:Nat} (h:o blk k= .o [id]) (h1:off≤k) (h2:k<off+n):unE o id i n ms blk off bx blk k= .o [bx]:=by
 simp [unE,h,h1,h2]
theorem unE_in {b k j:Nat} {s:List Nat} (hj:jOwn ms n j=true) (h:o b k= .o (id::i::j::s)):unE o id i n ms blk off bx b k= .o ((bx+1+j)::s):=by
 simp [unE,h,hj]
theorem unE_p {b k:Nat} (h:o b k= .p):unE o id i n ms blk off bx b k= .p:=by simp [unE,h]
theorem unE_perm:PermKeep w o w (unE o id i n ms blk off bx):=fun b k v hv ho=>⟨hv,unE_p ho⟩
theorem unE_rl {j:Nat} (hj:jOwn ms n j=true):Rl w o w (unE o id i n ms blk off bx) (.o [id,i,j]) (.o [bx+1+j]) :=
 .inl ⟨[bx+1+j],rfl,fun b k s v hv ho=>⟨hv,unE_in hj ho⟩⟩
theorem reE_not {b k:Nat} (h:o' b k≠ .x) (hk:∀v,w.cell? ⟨b,k,none⟩=some v→unE o id i n ms blk off bx b k= .x→o' b k= .x):reE w o o' id i n ms blk off bx us b k=(match o' b k with
  | .o (id0::s)=>if id0=bx then .o (id::s) else (match findU id0 us with
    |some (.mv _ j)=> .o (id::i::j::s)
    |_=> .o (id0::s))
  |q=>q):=by
 unfold reE
 rw [if_neg]
 rintro ⟨⟨v,hv⟩,_,hx⟩
 exact h (hk v hv hx)
end
section
variable {P:Program} {w w':World} {o o':Nat→Nat→Own}
theorem Vs_own (hp:PermKeep w o w' o') (hw:Wf w o):∀(ts:Tys) {ms:List Md} {qf qf':Nat→Own} {j:Nat} {x:ts.D} {vs:List Value},(∀m l,m<ts.len→mdAt ms m= .own l→Rl w o w' o' (qf (j+m)) (qf' (j+m)))→ts.Vs P w o ms qf j x vs→ts.Vs P w' o' ms qf' j x vs
 | .nil,_,_,_,_,_,_,_,h=>h
 | .cons t ts,ms,qf,qf',j,x,vs,hr,h=>by
  obtain ⟨v,r,rfl,h1,h2⟩:=h
  refine ⟨v,r,rfl,?_,Vs_own hp hw ts (fun m l hm hl=>?_) h2⟩
  ·cases hm:mdHd ms with
   |own l =>
    rw [hm] at h1
    exact H_re hp hw t _ _ _ _ _ (hr 0 l (by simp [Tys.len]) (by rw [mdAt_zero];exact hm)) h1
   |sh =>
    rw [hm] at h1
    exact H_q t (H_re hp hw t .sh .p .p _ _ rfl (H_q t h1))
  ·have:=hr (m+1) l (by simp [Tys.len,hm]) (by rw [mdAt_succ];exact hl)
   rwa [show j+(m+1)=j+1+m by omega] at this
theorem Hs_keepAt (hp:PermKeep w o w' o') (hw:Wf w o) {qc:Own}:∀(ts:Tys) {ms:List Md} {qf:Nat→Own} {k:Nat} {x:ts.D} {b off:Nat},(∀m v,m<ts.len→w.cell? ⟨b,off+m,none⟩=some v→o b (off+m)=qc→w'.cell? ⟨b,off+m,none⟩=some v∧o' b (off+m)=qc) →
  (∀i,i<ts.len→Rl w o w' o' (qf (k+i)) (qf (k+i)))→ts.Hs P w o ms qc qf k x b off→ts.Hs P w' o' ms qc qf k x b off
 | .nil,_,_,_,_,_,_,_,_,_=>trivial
 | .cons t ts,ms,qf,k,x,b,off,hc,hr,h=>by
  obtain ⟨⟨v,hv,ho,ht⟩,h⟩:=h
  have h0:=hc 0 v (by simp [Tys.len]) hv ho
  refine ⟨⟨v,h0.1,h0.2,H_re hp hw t _ _ _ x.1 v (hr 0 (by simp [Tys.len])) ht⟩,Hs_keepAt hp hw ts (fun m u hm hu huo=>?_) (fun i hi=>?_) h⟩
  ·have:=hc (m+1) u (by simp [Tys.len,hm]) (by rwa [show off+(m+1)=off+1+m by omega]) (by rwa [show off+(m+1)=off+1+m by omega])
   rwa [show off+(m+1)=off+1+m by omega] at this
  ·have:=hr (i+1) (by simp [Tys.len,hi])
   rwa [show k+(i+1)=k+1+i by omega] at this
end
section
variable {mu:Mu} {id bx:Nat} {es:Tys} {ms:List Md} {x:es.D}
theorem outE_mem {k:Nat} {b:Blk} (h:(k,b)∈outE id bx es ms x):(k=id∧b= .dead)∨(k=bx∧b= .box (outCVs es ms (bx+1) x))∨(bx+1≤k∧k<bx+1+es.len∧(∃es' ms' xs',b= .row es' ms' xs' 0)∧(k,b)∈outRows es ms (bx+1) x):=by
 unfold outE at h
 rcases List.mem_cons.1 h with h|h
 ·cases h;exact .inl ⟨rfl,rfl⟩
 ·rcases List.mem_cons.1 h with h|h
  ·cases h;exact .inr (.inl ⟨rfl,rfl⟩)
  ·have:=outRows_ids es h
   exact .inr (.inr ⟨this.1,this.2.1,this.2.2,h⟩)
theorem outE_ne {k:Nat} (h1:k≠id) (h2:k<bx∨bx+es.len<k):updL mu (outE id bx es ms x) k=mu k :=
 updL_none fun b hb=>by
  rcases outE_mem hb with ⟨rfl,_⟩|⟨rfl,_⟩|⟨h3,h4,_⟩
  ·exact h1 rfl
  ·omega
  ·omega
theorem outE_id (h:id<bx∨bx+es.len<id):updL mu (outE id bx es ms x) id=some .dead:=by
 unfold outE
 show updL (upd (upd mu id (some .dead)) bx _) (outRows es ms (bx+1) x) id=_
 rw [updL_none,updOff (by omega),updAt]
 intro b hb
 have:=outRows_ids es hb
 omega
theorem outE_bx:updL mu (outE id bx es ms x) bx=some (.box (outCVs es ms (bx+1) x)):=by
 unfold outE
 show updL (upd (upd mu id (some .dead)) bx _) (outRows es ms (bx+1) x) bx=_
 rw [updL_none,updAt]
 intro b hb
 have:=outRows_ids es hb
 omega
theorem outE_some {k:Nat} (h:mu k≠none):updL mu (outE id bx es ms x) k≠none:=updL_some h
theorem outE_new {k:Nat} {b:Blk} (hk:mu k=none) (h:updL mu (outE id bx es ms x) k=some b) (hid:mu id≠none):(k=bx∧b= .box (outCVs es ms (bx+1) x))∨((∃es' ms' xs',b= .row es' ms' xs' 0)∧(k,b)∈outRows es ms (bx+1) x):=by
 rcases updL_cases h with h|⟨_,h⟩
 ·rcases outE_mem h with ⟨rfl,_⟩|h|⟨_,_,h1,h2⟩
  ·exact absurd hk hid
  ·exact .inl h
  ·exact .inr ⟨h1,h2⟩
 ·rw [hk] at h;cases h
end
section
variable {P:Program} {w:World} {g:Gh} {mu:Mu} {id i bx:Nat} {es:Tys} {ms:List Md} {xs:List es.D} {ver:Nat} {a:Addr} {n c:Nat} {x:es.D}
theorem unnestE (hm:MemR P w g mu) (hw:Wf w g.o) (hown:∀b k id s,g.o b k= .o (id::s)→mu id≠none) (hid:mu id=some (.row es ms xs ver)) (hc:g.c id= .row (.slice (some a) n c)) (hx:getN xs i=some x)
  (hmd:mdOk es ms=true) (hfr:∀k,bx≤k→k≤bx+es.len→mu k=none) :
  ∃c1:Nat→Conc,(∀k,mu k≠none→c1 k=g.c k)∧c1 bx= .box a.block (a.off+i*es.len)∧Nxt P w g mu w ⟨unE g.o id i es.len ms a.block (a.off+i*es.len) bx,c1⟩ (updL mu (outE id bx es ms x)):=by
 have hidn:mu id≠none:=by rw [hid];simp
 have hidr:id<bx∨bx+es.len<id:=by
  by_cases h:bx≤id∧id≤bx+es.len
  ·exact absurd (hfr id h.1 h.2) hidn
  ·omega
 obtain ⟨v0,hc0,hH⟩:=hm id _ hid
 rw [hc] at hc0;cases hc0
 obtain ⟨a',c',he,_,hcase⟩:=H_own.1 hH
 cases he
 rcases hcase with ⟨h,_⟩|⟨ad,ha,hspot,hk,hel⟩
 ·subst h;simp [getN] at hx
 cases ha
 obtain ⟨vs,hvs,hcells⟩:=Hs_vs es (hel i x hx)
 have hlen:vs.length=es.len:=Vs_len es hvs
 refine ⟨fun k=>if k=bx then .box a.block (a.off+i*es.len) else if bx<k∧k≤bx+es.len then .row (vs.getD (k - bx - 1) undef) else g.c k,fun k hk=>?_,if_pos rfl,?_⟩
 ·have h1:k≠bx:=fun e=>hk (by rw [e];exact hfr bx (Nat.le_refl _) (by omega))
  have h2:¬(bx<k∧k≤bx+es.len):=fun e=>hk (hfr k (by omega) e.2)
  show (if k=bx then _ else _)=_
  rw [if_neg h1,if_neg h2]
 ·have hV:es.Vs P w (unE g.o id i es.len ms a.block (a.off+i*es.len) bx) ms (fun j=> .o [bx+1+j]) 0 x vs :=
   Vs_own unE_perm hw es (fun m l hm hl=>by
    rw [Nat.zero_add]
    exact unE_rl (jOwn_mk hm hl)) hvs
  have hrows:=outRows_R (P:=P) (w':=w) (g':=⟨unE g.o id i es.len ms a.block (a.off+i*es.len) bx,fun k=>if k=bx then .box a.block (a.off+i*es.len) else if bx<k∧k≤bx+es.len then .row (vs.getD (k - bx - 1) undef) else g.c k⟩) (mu':=updL mu (outE id bx es ms x)) (idb:=bx+1) es (j:=0) hmd hV
   (fun k b hb=>updL_mem (b:=b) (by unfold outE;exact List.mem_cons_of_mem _ (List.mem_cons_of_mem _ hb))) (fun m hmlt=>by
    show (if bx+1+0+m=bx then _ else _)=_
    rw [if_neg (by omega),if_pos (by omega),show bx+1+0+m - bx - 1=m by omega])
  refine ⟨fun k=>k=id,⟨fun b k v hv hT=>⟨hv,unE_off fun s e=>hT _ _ e rfl⟩,fun k hk=>?_,fun k hk=>outE_some hk,fun k hT hk=>?_,fun k es0 ms0 xs0 ver0 hT hk hr=>?_⟩,?_,⟨fun b k π h=>?_,fun b k h=>?_⟩,fun b k k0 s h=>?_,fun k b hT hb=>?_⟩
  ·have h1:k≠bx:=fun e=>hk (by rw [e];exact hfr bx (Nat.le_refl _) (by omega))
   have h2:¬(bx<k∧k≤bx+es.len):=fun e=>hk (hfr k (by omega) e.2)
   show (if k=bx then _ else _)=_
   rw [if_neg h1,if_neg h2]
  ·refine outE_ne hT ?_
   by_cases h:bx≤k∧k≤bx+es.len
   ·exact absurd (hfr k h.1 h.2) hk
   ·omega
  ·subst hT;rw [outE_id hidr] at hr;cases hr
  ·exact ⟨rfl,rfl,rfl,Nat.le_refl _,fun _ _ _=>rfl,fun b k v hv hn=>⟨hv,unE_off fun s=>hn _⟩,fun b k v hv=>⟨v,hv⟩,fun _ _ _=>rfl⟩
  ·rcases unE_o h with ⟨e,_⟩|⟨_,_,_,e,_⟩|⟨e,_⟩<;>exact hw.cell b k _ e
  ·rcases unE_o h with ⟨_,e,_⟩|⟨_,_,_,_,e⟩|⟨e,_⟩
   ·cases e
   ·cases e
   ·exact hw.ne b k e
  ·rcases unE_o h with ⟨_,e,_⟩|⟨j,s',hj,_,e⟩|⟨e,_⟩
   ·cases e;rw [outE_bx];simp
   ·cases e
    obtain ⟨hlt,m,hmm⟩:=jOwn_ok hj
    obtain ⟨b',hb'⟩:=outRows_mem es (k:=bx+1) (x:=x) hmd hlt hmm
    exact updL_mem (b:=b') (by unfold outE;exact List.mem_cons_of_mem _ (List.mem_cons_of_mem _ hb'))
   ·exact outE_some (hown _ _ _ _ e)
  ·by_cases hki:k=id
   ·subst hki;rw [outE_id hidr] at hb;cases hb;trivial
   ·have hkn:mu k=none:=hT.resolve_left hki
    rcases outE_new hkn hb hidn with ⟨rfl,rfl⟩|⟨_,hr⟩
    ·refine ⟨a.block,a.off+i*es.len,if_pos rfl,fun j cv hj=>?_⟩
     obtain ⟨v,hv,hcv⟩:=All2.get j _ hrows.1 hj
     obtain ⟨h1,h2⟩:=hcells j v hv
     have hlt:j<es.len:=by rw [←hlen];exact (List.getElem?_eq_some_iff.1 hv).1
     exact ⟨v,h1,unE_top h2 (by omega) (by omega),hcv⟩
    ·exact hrows.2 k b hr
end
theorem allMv:∀{us:List Use} {u:Use},us.all isMv=true→u∈us→∃k j,u= .mv k j
 |us,u,h,hu=>by
  have:=List.all_eq_true.1 h u hu
  cases u with
  |mv k j=>exact ⟨k,j,rfl⟩
  |pm k=>cases this
section
variable {P:Program} {w w':World} {g g':Gh} {mu mu2:Mu} {id i bx:Nat} {es:Tys} {ms:List Md} {xs:List es.D} {ver:Nat} {a:Addr} {n c:Nat} {x x':es.D} {c1:Nat→Conc} {cs:List CV} {us:List Use}
theorem renestE (hm:MemR P w g mu) (hw:Wf w g.o) (hown:∀b k id s,g.o b k= .o (id::s)→mu id≠none) (hid:mu id=some (.row es ms xs ver)) (hc:g.c id= .row (.slice (some a) n c)) (hx:getN xs i=some x)
  (hfr:∀k,bx≤k→k≤bx+es.len→mu k=none) (hc1:∀k,mu k≠none→c1 k=g.c k) (hcb:c1 bx= .box a.block (a.off+i*es.len))
  (hm1:MemR P w ⟨unE g.o id i es.len ms a.block (a.off+i*es.len) bx,c1⟩ (updL mu (outE id bx es ms x))) (hw1:Wf w (unE g.o id i es.len ms a.block (a.off+i*es.len) bx))
  (N:NxtN P w ⟨unE g.o id i es.len ms a.block (a.off+i*es.len) bx,c1⟩ (updL mu (outE id bx es ms x)) w' g' mu2) (hbx:mu2 bx=some (.box cs))
  (hp:packs (R:=es.D×List Use) app0 mu2 es ms 0 cs [] packEnd=some (x',us)) (hus:usesOk us=true) (hmv:us.all isMv=true) (hni:hasId id us=false) (hnb:hasId bx us=false) :
  Nxt P w g mu w' ⟨reE w g.o g'.o id i es.len ms a.block (a.off+i*es.len) bx us,g'.c⟩ (updL mu2 (deads us++ [(id,.row es ms (xs.set i x') (ver+1)),(bx,.dead)])) ∧
   ∀(tv:TV) (u:Value),tv.noN=true→tv.R P w' g' mu2 u→tv.R P w' ⟨reE w g.o g'.o id i es.len ms a.block (a.off+i*es.len) bx us,g'.c⟩ (updL mu2 (deads us++ [(id,.row es ms (xs.set i x') (ver+1)),(bx,.dead)])) u:=by
 have hidn:mu id≠none:=by rw [hid];simp
 have hbn:mu bx=none:=hfr bx (Nat.le_refl _) (by omega)
 have hne:id≠bx:=fun e=>hidn (e▸hbn)
 have hidr:id<bx∨bx+es.len<id:=by
  by_cases h:bx≤id∧id≤bx+es.len
  ·exact absurd (hfr id h.1 h.2) hidn
  ·omega
 have hm2:MemR P w' g' mu2:=memNxt hm1 hw1 N.nxt
 obtain ⟨T',S1,F1,W1,own1,M1⟩:=N
 have keyx:∀b k u,w.cell? ⟨b,k,none⟩=some u→unE g.o id i es.len ms a.block (a.off+i*es.len) bx b k= .x→w'.cell? ⟨b,k,none⟩=some u∧g'.o b k= .x:=fun b k u hu hx=>by
  obtain ⟨h1,h2⟩:=S1.cell b k u hu (fun id0 s e=>by
   have e:unE g.o id i es.len ms a.block (a.off+i*es.len) bx b k= .o (id0::s):=e
   rw [hx] at e;cases e)
  exact ⟨h1,h2.trans hx⟩
 have rnot:∀b k,g'.o b k≠ .x→reE w g.o g'.o id i es.len ms a.block (a.off+i*es.len) bx us b k=(match g'.o b k with
   | .o (id0::s)=>if id0=bx then .o (id::s) else (match findU id0 us with
     |some (.mv _ j)=> .o (id::i::j::s)
     |_=> .o (id0::s))
   |q=>q):=fun b k h=>reE_not h fun u hu hx=>(keyx b k u hu hx).2
 have P2:PermKeep w' g'.o w' (reE w g.o g'.o id i es.len ms a.block (a.off+i*es.len) bx us):=fun b k u hu ho=>⟨hu,by rw [rnot b k (by rw [ho];simp),ho]⟩
 have nomv:∀k0,(∀u∈us,useId u≠k0)→findU k0 us=none:=fun k0 h=>by
  cases hf:findU k0 us with
  |none=>rfl
  |some u=>obtain ⟨h1,h2⟩:=findU_id hf;exact absurd h1 (h u h2)
 have R3:∀k0,k0≠bx→(∀u∈us,useId u≠k0)→Rl w' g'.o w' (reE w g.o g'.o id i es.len ms a.block (a.off+i*es.len) bx us) (.o [k0]) (.o [k0]):=fun k0 hk0 hk1=> .inl ⟨[k0],rfl,fun b k s u hu ho=>⟨hu,by
  have ho:g'.o b k= .o (k0::s):=ho
  rw [rnot b k (by rw [ho];simp),ho]
  simp [hk0,nomv k0 hk1]⟩⟩
 have hserved:∀u∈us,Served (fun j=> .o [id,i,j]) w' g'.o w' (reE w g.o g'.o id i es.len ms a.block (a.off+i*es.len) bx us) u:=fun u hu=>by
  obtain ⟨k0,j,rfl⟩:=allMv hmv hu
  refine .inl ⟨[id,i,j],rfl,fun b k s u' hu' ho=>⟨hu',?_⟩⟩
  have ho:g'.o b k= .o (k0::s):=ho
  have hkb:k0≠bx:=hasId_mem hnb _ hu
  rw [rnot b k (by rw [ho];simp),ho]
  simp [hkb,findU_mv hus hu]
 have PP:PermKeep w g.o w' (reE w g.o g'.o id i es.len ms a.block (a.off+i*es.len) bx us):=fun b k u hu ho=>by
  obtain ⟨h1,h2⟩:=S1.perm b k u hu (unE_p ho)
  exact P2 b k u h1 h2
 have keep:∀b k u π,w.cell? ⟨b,k,none⟩=some u→g.o b k= .o π→unE g.o id i es.len ms a.block (a.off+i*es.len) bx b k= .x→w'.cell? ⟨b,k,none⟩=some u∧reE w g.o g'.o id i es.len ms a.block (a.off+i*es.len) bx us b k= .o π:=fun b k u π hu ho hx=>by
  refine ⟨(keyx b k u hu hx).1,?_⟩
  have hex:∃s,g.o b k= .o (id::s):=by
   by_cases h:∃s,g.o b k= .o (id::s)
   ·exact h
   ·have:=unE_off (o:=g.o) (i:=i) (n:=es.len) (ms:=ms) (blk:=a.block) (off:=a.off+i*es.len) (bx:=bx) (fun s e=>h ⟨s,e⟩)
    rw [hx,ho] at this;cases this
  unfold reE
  rw [if_pos ⟨⟨u,hu⟩,hex,hx⟩,ho]
 generalize hmu3:updL mu2 (deads us++ [(id,.row es ms (xs.set i x') (ver+1)),(bx,.dead)])=mu3
 have mu3eq:mu3=upd (upd (updL mu2 (deads us)) id (some (.row es ms (xs.set i x') (ver+1)))) bx (some .dead):=by rw [←hmu3,updL_app];rfl
 have mu3bx:mu3 bx=some .dead:=by rw [mu3eq,updAt]
 have mu3id:mu3 id=some (.row es ms (xs.set i x') (ver+1)):=by rw [mu3eq,updOff hne,updAt]
 have mu3us:∀k b,k≠id→k≠bx→mu3 k=some b→(b= .dead∧∃u∈us,useId u=k)∨((∀u∈us,useId u≠k)∧mu2 k=some b):=fun k b h1 h2 hb=>by
  rw [mu3eq,updOff h2,updOff h1] at hb
  rcases updL_cases hb with hb|⟨hno,hb⟩
  ·obtain ⟨h3,to,h4⟩:=deads_mem hb
   exact .inl ⟨h3,_,h4,rfl⟩
  ·refine .inr ⟨fun u hu e=>?_,hb⟩
   obtain ⟨k0,j,rfl⟩:=allMv hmv hu
   cases (e:k0=k)
   exact hno _ (deads_of hu)
 have mu3ne:∀k,k≠id→k≠bx→(∀u∈us,useId u≠k)→mu3 k=mu2 k:=fun k h1 h2 h3=>by
  rw [mu3eq,updOff h2,updOff h1]
  exact updL_none fun b hb=>by
   obtain ⟨_,to,h4⟩:=deads_mem hb
   exact h3 _ h4 rfl
 have hpres:∀k,mu2 k≠none→mu3 k≠none:=fun k hk=>by rw [←hmu3];exact updL_some hk
 have hcid:g'.c id=g.c id:=(S1.c id (by rw [outE_id hidr];simp)).trans (hc1 id hidn)
 have hcbx:g'.c bx= .box a.block (a.off+i*es.len):=(S1.c bx (by rw [outE_bx];simp)).trans hcb
 obtain ⟨bb,base,hcc,hbox⟩:=hm2 bx _ hbx
 rw [hcbx] at hcc;cases hcc
 obtain ⟨vs,hvs,hcells⟩:=box_vs cs hbox
 obtain ⟨y,rest,new,vs1,vs2,hK,hspl,hrest,hlen1,hvs1⟩:=packs_ok hm2 W1 (fun j=> .o [id,i,j]) app0_ok es hvs hp
 cases rest with
 |cons _ _=>cases hK
 |nil =>
 simp only [packEnd,Option.some.injEq,Prod.mk.injEq,List.append_nil] at hK
 obtain ⟨rfl,rfl⟩:=hK
 cases vs2 with
 |cons _ _=>exact hrest.elim
 |nil =>
 rw [List.append_nil] at hspl
 subst hspl
 have hV:=hvs1 w' _ P2 hserved
 have hcell3:∀k v,vs[k]?=some v→w'.cell? ⟨a.block,a.off+i*es.len+k,none⟩=some v∧reE w g.o g'.o id i es.len ms a.block (a.off+i*es.len) bx new a.block (a.off+i*es.len+k)= .o [id]:=fun k v hv=>by
  obtain ⟨h1,h2⟩:=hcells k v hv
  refine ⟨h1,?_⟩
  rw [rnot _ _ (by rw [h2];simp),h2]
  simp
 have hrow:(Ty.sl es).H P w' (reE w g.o g'.o id i es.len ms a.block (a.off+i*es.len) bx new) (.own ms) (.o [id]) (xs.set i y) (.slice (some a) n c):=by
  obtain ⟨v0,hc0,hH⟩:=hm id _ hid
  rw [hc] at hc0;cases hc0
  obtain ⟨a',c',he,hlc,hcase⟩:=H_own.1 hH
  cases he
  rcases hcase with ⟨h,_⟩|⟨ad,ha,hspot,hk,hel⟩
  ·subst h;simp [getN] at hx
  ·cases ha
   have hout:∀k u,¬(a.off+i*es.len≤k∧k<a.off+i*es.len+es.len)→w.cell? ⟨a.block,k,none⟩=some u→g.o a.block k= .o [id]→w'.cell? ⟨a.block,k,none⟩=some u∧reE w g.o g'.o id i es.len ms a.block (a.off+i*es.len) bx new a.block k= .o [id]:=fun k u hnk hu ho=>keep _ _ u _ hu ho (by simp [unE,ho];omega)
   refine H_own.2 ⟨some a,c,by rw [List.length_set],by rw [List.length_set];exact hlc,.inr ⟨a,rfl,hspot,fun k hlt=>?_,fun i2 x2 hi2=>?_⟩⟩
   ·have h1:=hk k hlt
    obtain ⟨⟨u,hu⟩,_⟩:=hw.cell _ _ _ h1
    by_cases hin:a.off+i*es.len≤a.off+k∧a.off+k<a.off+i*es.len+es.len
    ·have hkk:k - i*es.len<vs.length:=by rw [hlen1];omega
     have:=(hcell3 (k - i*es.len) vs[k - i*es.len] (List.getElem?_eq_getElem hkk)).2
     rwa [show a.off+i*es.len+(k - i*es.len)=a.off+k by omega] at this
    ·exact (hout _ u hin hu h1).2
   ·by_cases hi:i2=i
    ·subst hi
     have hlt:=getN_len hx
     have e2:x2=y:=by
      have:getN (xs.set i2 y) i2=some y:=by
       unfold getN;rw [List.getElem?_set_self hlt]
      exact Option.some.inj (hi2.symm.trans this)
     subst e2
     exact Vs_hs es hV hcell3
    ·have hi3:getN xs i2=some x2:=by
      rw [←hi2];unfold getN;rw [List.getElem?_set_ne (fun e=>hi e.symm)]
     refine Hs_keepAt PP hw es (fun m u hmlt hu ho=>hout _ u ?_ hu ho) (fun m _=> .inl ⟨_,rfl,fun b k s u hu ho=>keep b k u _ hu ho (by
      have ho:g.o b k= .o (id::i2::(0+m)::s):=ho
      simp [unE,ho];intro e;exact absurd e hi)⟩) (hel i2 x2 hi3)
     rcases Nat.lt_or_gt_of_ne hi with h|h
     ·have:(i2+1)*es.len≤i*es.len:=Nat.mul_le_mul_right _ h
      rw [Nat.add_mul,Nat.one_mul] at this
      omega
     ·have:(i+1)*es.len≤i2*es.len:=Nat.mul_le_mul_right _ h
      rw [Nat.add_mul,Nat.one_mul] at this
      omega
 refine ⟨⟨fun k=>T' k∨k=id∨∃u∈new,useId u=k,⟨fun b k u hu hT=>?_,fun k hk=>?_,fun k hk=>?_,fun k hT hk=>?_,fun k es0 ms0 xs0 ver0 hT hk hr=>?_⟩,?_,⟨fun b k π h=>?_,fun b k h=>?_⟩,fun b k k0 s h=>?_,fun k b hT hb=>?_⟩,fun tv u hn h=>noNt_keep W1 P2 hpres tv hn h⟩
 ·have h1:unE g.o id i es.len ms a.block (a.off+i*es.len) bx b k=g.o b k:=unE_off fun s e=>hT _ _ e (.inr (.inl rfl))
  obtain ⟨h2,h3⟩:=S1.cell b k u hu (fun id0 s e=>by
   have e:unE g.o id i es.len ms a.block (a.off+i*es.len) bx b k= .o (id0::s):=e
   rw [h1] at e;exact fun h=>hT _ _ e (.inl h))
  have h3:g'.o b k=g.o b k:=h3.trans h1
  refine ⟨h2,?_⟩
  show reE w g.o g'.o id i es.len ms a.block (a.off+i*es.len) bx new b k=g.o b k
  unfold reE
  rw [if_neg (fun e=>by obtain ⟨s,e⟩:=e.2.1;exact hT _ _ e (.inr (.inl rfl))),h3]
  cases hq:g.o b k with
  |x=>rfl
  |p=>rfl
  |o π =>
   cases π with
   |nil=>rfl
   |cons id0 s =>
    have h4:id0≠bx:=fun e=>hown _ _ _ _ hq (e▸hbn)
    have h5:findU id0 new=none:=nomv id0 fun u hu e=>hT _ _ hq (.inr (.inr ⟨u,hu,e⟩))
    simp [h4,h5]
 ·exact (S1.c k (outE_some hk)).trans (hc1 k hk)
 ·exact hpres k (S1.pres k (outE_some hk))
 ·have h1:k≠id:=fun e=>hT (.inr (.inl e))
  have h2:k≠bx:=fun e=>hk (e▸hbn)
  have h3:k<bx∨bx+es.len<k:=by
   by_cases h:bx≤k∧k≤bx+es.len
   ·exact absurd (hfr k h.1 h.2) hk
   ·omega
  rw [mu3ne k h1 h2 (fun u hu e=>hT (.inr (.inr ⟨u,hu,e⟩))),S1.same k (fun h=>hT (.inl h)) (outE_some hk),outE_ne h1 h3]
 ·have h2:k≠bx:=fun e=>hk (e▸hbn)
  have h3:k<bx∨bx+es.len<k:=by
   by_cases h:bx≤k∧k≤bx+es.len
   ·exact absurd (hfr k h.1 h.2) hk
   ·omega
  by_cases h1:k=id
  ·subst h1
   rw [mu3id] at hr
   simp only [Option.some.injEq,Blk.row.injEq] at hr
   exact ⟨_,_,_,_,hid,by omega⟩
  ·rcases mu3us k _ h1 h2 hr with ⟨e,_⟩|⟨hnu,hr⟩
   ·cases e
   ·rcases hT with hT|hT|⟨u,hu,e⟩
    ·obtain ⟨e1,e2,e3,e4,h5,h6⟩:=S1.ver k _ _ _ _ hT (outE_some hk) hr
     rw [outE_ne h1 h3] at h5
     exact ⟨_,_,_,_,h5,h6⟩
    ·exact absurd hT h1
    ·exact absurd e (hnu u hu)
 ·refine ⟨F1.os,F1.tape,F1.output,F1.size,fun b hlt h=>F1.blk b hlt fun k π e=>?_,fun b k u hu h=>?_,F1.there,F1.frz⟩
  ·rcases unE_o e with ⟨e,_⟩|⟨_,_,_,e,_⟩|⟨e,_⟩<;>exact h _ _ e
  ·have h1:unE g.o id i es.len ms a.block (a.off+i*es.len) bx b k=g.o b k:=unE_off fun s=>h _
   obtain ⟨h2,h3⟩:=F1.cell b k u hu (fun π e=>by
    have e:unE g.o id i es.len ms a.block (a.off+i*es.len) bx b k= .o π:=e
    rw [h1] at e;exact h π e)
   have h3:g'.o b k=g.o b k:=h3.trans h1
   refine ⟨h2,?_⟩
   show reE w g.o g'.o id i es.len ms a.block (a.off+i*es.len) bx new b k=g.o b k
   unfold reE
   rw [if_neg (fun e=>by obtain ⟨s,e⟩:=e.2.1;exact h _ e),h3]
   cases hq:g.o b k with
   |x=>rfl
   |p=>rfl
   |o π=>exact absurd hq (h π)
 ·have h:reE w g.o g'.o id i es.len ms a.block (a.off+i*es.len) bx new b k= .o π:=h
  unfold reE at h
  split at h
  ·rename_i hc
   obtain ⟨⟨u,hu⟩,_,_⟩:=hc
   refine ⟨F1.there b k u hu,?_⟩
   intro j
   rw [F1.frz b j (cell_lt hu)]
   exact (hw.cell b k _ h).2 j
  ·split at h
   ·rename_i id0 s e;exact W1.cell b k _ e
   ·exact W1.cell b k _ h
 ·have h:reE w g.o g'.o id i es.len ms a.block (a.off+i*es.len) bx new b k= .o []:=h
  unfold reE at h
  split at h
  ·exact hw.ne b k h
  ·split at h
   ·split at h
    ·cases h
    ·split at h<;>cases h
   ·exact W1.ne b k h
 ·have h:reE w g.o g'.o id i es.len ms a.block (a.off+i*es.len) bx new b k= .o (k0::s):=h
  unfold reE at h
  split at h
  ·rename_i hc
   obtain ⟨_,⟨s',e⟩,_⟩:=hc
   rw [h] at e;cases e
   rw [mu3id];simp
  ·split at h
   ·rename_i id0 s' e
    split at h
    ·cases h;rw [mu3id];simp
    ·split at h
     ·cases h;rw [mu3id];simp
     ·cases h;exact hpres _ (own1 _ _ _ _ e)
   ·exact hpres _ (own1 _ _ _ _ h)
 ·by_cases h2:k=bx
  ·subst h2;rw [mu3bx] at hb;cases hb;trivial
  ·by_cases h1:k=id
   ·subst h1
    rw [mu3id] at hb
    cases hb
    exact ⟨_,hcid.trans hc,hrow⟩
   ·rcases mu3us k b h1 h2 hb with ⟨rfl,_⟩|⟨hnu,hb2⟩
    ·trivial
    ·have hR:=hm2 k b hb2
     have hN:b.noN=true:=by
      by_cases hT1:T' k∨updL mu (outE id bx es ms x) k=none
      ·exact (M1 k b hT1 hb2).2
      ·have hT1:¬T' k∧updL mu (outE id bx es ms x) k≠none:=⟨fun e=>hT1 (.inl e),fun e=>hT1 (.inr e)⟩
       rw [S1.same k hT1.1 hT1.2] at hb2
       have hkn:mu k=none:=by
        rcases hT with (hT|hT|⟨u,hu,e⟩)|hT
        ·exact absurd hT hT1.1
        ·exact absurd hT h1
        ·exact absurd e (hnu u hu)
        ·exact hT
       rcases outE_new hkn hb2 hidn with ⟨e,_⟩|⟨⟨_,_,_,rfl⟩,_⟩
       ·exact absurd e h2
       ·rfl
     cases b with
     |box cs0 =>
      obtain ⟨bb0,base0,hcc0,hR⟩:=hR
      have hN:cs0.all CV.noN=true:=hN
      refine ⟨bb0,base0,hcc0,fun m cv hm=>?_⟩
      obtain ⟨u,hu,ho,hcv⟩:=hR m cv hm
      have hcn:cv.noN=true:=List.all_eq_true.1 hN cv (List.mem_of_getElem? hm)
      refine ⟨u,hu,?_,noN_keep W1 P2 hpres cv hcn hcv⟩
      rcases R3 k h2 hnu with ⟨_,e,h⟩|⟨e,_⟩
      ·cases e;have:=(h _ _ [] u hu (by simpa using ho)).2;simpa using this
      ·cases e
     |rbox e0 x0 =>
      obtain ⟨bb0,base0,hcc0,hR⟩:=hR
      exact ⟨bb0,base0,hcc0,Hs_re P2 W1 e0 [] .p .p (fun _=> .p) (fun _=> .p) 0 x0 bb0 base0 rfl (fun _=>rfl) hR⟩
     |row e0 m0 x0 v0 =>
      obtain ⟨u,hcc0,hR⟩:=hR
      exact ⟨u,hcc0,H_re P2 W1 (.sl e0) (.own m0) _ _ x0 u (R3 k h2 hnu) hR⟩
     |fz e0 x0 =>
      obtain ⟨u,hcc0,hR⟩:=hR
      exact ⟨u,hcc0,H_re P2 W1 (.sl e0) .sh .p .p x0 u rfl hR⟩
     |dead=>trivial
end
theorem elemAt_ok:∀{gs:List Grp} {args:List TV} {k n id sz i:Nat},elemAt gs args k=some (n,id,sz,i)→k≤n∧args[n - k]?=some (.c (.eptr id sz i 0))
 | [],_,_,_,_,_,_,h=>by simp [elemAt] at h
 |_::_,[],_,_,_,_,_,h=>by simp [elemAt] at h
 |g::gs,a::as,k,n,id,sz,i,h=>by
  simp only [elemAt] at h
  split at h
  ·cases h;exact ⟨Nat.le_refl _,by simp⟩
  ·obtain ⟨h1,h2⟩:=elemAt_ok h
   refine ⟨by omega,?_⟩
   rw [show n - k=(n - (k+1))+1 by omega]
   simpa using h2
section
variable {P:Program} {w:World} {g:Gh} {mu:Mu}
theorem callE_ok {R:Type} {C:Ctx} (hC:CtxOk P C) (hm:MemR P w g mu) (hw:Wf w g.o) (hown:∀b k id s,g.o b k= .o (id::s)→mu id≠none) {idb:Nat}
  (hfresh:∀n,idb≤n→n<idb+2048→mu n=none) {f:Nat} {args:List TV} {vals:List Value} (ha:All2 (TV.R P w g mu) args vals) {K:TV→List (Nat×Blk)→Option R} {y:R}
  (h:callE C mu idb f args K=some y):Calls P f vals.toArray w fun e w'=>∃v g' tv ms,e= .returned v∧K tv ms=some y∧Nxt P w g mu w' g' (updL mu ms)∧tv.R P w' g' (updL mu ms) v:=by
 unfold callE at h
 cases hcon:C.con f with
 |none=>simp [hcon] at h
 |some con =>
  simp only [hcon] at h
  cases hn:elemAt con.ins args 0 with
  |none =>
   simp only [hn] at h
   exact callN_ok hC hm hw hown hfresh ha h
  |some p =>
   obtain ⟨n,id,sz,i⟩:=p
   simp only [hn] at h
   obtain ⟨_,harg⟩:=elemAt_ok hn
   rw [Nat.sub_zero] at harg
   obtain ⟨v,hvn,hid,a,m,c,hc,hspot,hv⟩:=All2.get n _ ha harg
   cases hb:mu id with
   |none=>exact absurd hb hid
   |some bl =>
    cases bl<;>simp only [hb] at h<;>try (cases h;done)
    case row es ms xs ver =>
     cases hcond:(Nat.beq sz es.len&&(Nat.ble es.len 62&&mdOk es ms)) with
     |false=>simp [hcond] at h
     |true =>
      simp only [hcond,cond_true] at h
      simp only [Bool.and_eq_true] at hcond
      obtain ⟨hsz,hle,hmd⟩:=hcond
      have hsz:=Nat.eq_of_beq_eq_true hsz
      subst hsz
      have hle:=Nat.le_of_ble_eq_true hle
      cases hx:getN xs i with
      |none=>simp [hx] at h
      |some x =>
       simp only [hx,Option.bind_some] at h
       have hfr:∀k,idb+1984≤k→k≤idb+1984+es.len→mu k=none:=fun k h1 h2=>hfresh k (by omega) (by omega)
       obtain ⟨c1,hc1,hcb,N0⟩:=unnestE (i:=i) (bx:=idb+1984) hm hw hown hb hc hx hmd hfr
       have hm1:=memNxt hm hw N0
       have N1:=N0
       obtain ⟨T,S0,F0,W0,O0,M0⟩:=N1
       have ha1:All2 (TV.R P w ⟨unE g.o id i es.len ms a.block (a.off+i*es.len) (idb+1984),c1⟩ (updL mu (outE id (idb+1984) es ms x))) (args.set n (.c (.ptr (idb+1984) 0))) vals:=by
        refine All2.set n _ (All2.imp (fun tv u hu=>TV.stp S0 hw tv hu) ha) fun u hu=>?_
        rw [hvn] at hu;cases hu
        refine ⟨by rw [outE_bx];simp,_,_,hcb,?_⟩
        simpa using hv
       refine Calls.mono (callU_ok hC hm1 W0 O0 (idb:=idb) (fun k h1 h2=>?_) ha1 h) fun e w' he=>?_
       ·rw [outE_ne (fun e=>by rw [e] at h1 h2;exact absurd (hfresh id h1 (by omega)) (by rw [hb];simp)) (.inl (by omega))]
        exact hfresh k h1 (by omega)
       ·obtain ⟨u,g',tv,l,rfl,hK,hN,htv,hno⟩:=he
        split at hK
        ·rename_i cs hbx
         cases hp:(packs (R:=es.D×List Use) app0 (updL (updL mu (outE id (idb+1984) es ms x)) l) es ms 0 cs [] packEnd) with
         |none=>rw [hp] at hK;cases hK
         |some p =>
          obtain ⟨x',us⟩:=p
          rw [hp] at hK
          simp only [Option.bind_some] at hK
          cases hu:(usesOk us&&(us.all isMv&&(!hasId id us&& !hasId (idb+1984) us))) with
          |false=>rw [hu] at hK;cases hK
          |true =>
           rw [hu,cond_true] at hK
           simp only [Bool.and_eq_true,Bool.not_eq_true'] at hu
           obtain ⟨hus,hmv,hni,hnb⟩:=hu
           obtain ⟨hfin,hfv⟩:=renestE hm hw hown hb hc hx hfr hc1 hcb hm1 W0 hN hbx hp hus hmv hni hnb
           rw [←updL_app,←updL_app] at hfin hfv
           rw [List.append_assoc] at hfv
           rw [←updL_app] at htv
           exact ⟨u,_,tv,_,rfl,hK,hfin,hfv tv u hno htv⟩
        ·cases hK
end
end Go.Tm
/- The pure machine, 12: operations on values. -/
namespace Go.Tm
open Go
structure OpSt (P:Program) (C:Ctx) (env:Nat→TV) (mu:Mu) (a:Act) (w:World) (g:Gh) (idb:Nat):Prop where
 ty:∀t ti,C.ty t=some ti→tiOf P t=some ti
 con:CtxOk P C
 env:∀t,(env t).R P w g mu (a.tmps.getD t undef)
 mem:MemR P w g mu
 wf:Wf w g.o
 own:∀b k id s,g.o b k= .o (id::s)→mu id≠none
 fresh:∀n,idb≤n→n<idb+2048→mu n=none
def Done {R:Type} (P:Program) (w:World) (g:Gh) (mu:Mu) (a:Act) (dst:Option Tmp) (K:TV→List (Nat×Blk)→Option R) (y:R) (a':Act) (w':World):Prop :=
 ∃tv ms v g',a'=a.put dst v∧K tv ms=some y∧Nxt P w g mu w' g' (updL mu ms)∧tv.R P w' g' (updL mu ms) v
section
variable {P:Program} {C:Ctx} {env:Nat→TV} {mu:Mu} {a:Act} {w:World} {g:Gh} {idb:Nat} {R:Type} {Q:Exit→Act→World→Prop}
theorem TV.c_R {cv:CV} {v:Value} (h:cv.R P w g mu v):(TV.c cv).R P w g mu v:=h
theorem constCV_R {v:Value} (h:Cellish v):(constCV v).R P w g mu v:=by
 cases v with
 |bool b=>rfl
 |int k n=>rfl
 |string s=>rfl
 |slice a n c =>
  cases a with
  |some a=>exact h
  |none =>
   simp only [constCV]
   cases hb:(Nat.beq n 0&&Nat.beq c 0) with
   |false=>exact h
   |true =>
    simp only [Bool.and_eq_true] at hb
    cases Nat.eq_of_beq_eq_true hb.1
    cases Nat.eq_of_beq_eq_true hb.2
    rfl
 |agg _=>exact h.elim
 |tuple _=>exact h.elim
 |_=>exact h
theorem cellishB_ok {v:Value} (h:cellishB v=true):Cellish v:=by cases v<;>first|trivial|simp [cellishB] at h
theorem constCVs_R:∀{vs:List Value},vs.all cellishB=true→cvsR P w g mu (vs.map constCV) vs
 | [],_=>trivial
 |v::vs,h=>by
  simp only [List.all_cons,Bool.and_eq_true] at h
  exact ⟨constCV_R (cellishB_ok h.1),constCVs_R h.2⟩
theorem constTV_R (v:Value):(constTV v).R P w g mu v:=by
 cases v with
 |agg cs =>
  simp only [constTV]
  cases h:cs.toList.all cellishB with
  |false=>trivial
  |true=>exact ⟨cs,rfl,constCVs_R h⟩
 |tuple _=>trivial
 |bool b=>exact TV.c_R (cv:=constCV ((.bool b))) (constCV_R (v:=(.bool b)) trivial)
 |int k n=>exact TV.c_R (cv:=constCV ((.int k n))) (constCV_R (v:=(.int k n)) trivial)
 |float k b=>exact TV.c_R (cv:=constCV ((.float k b))) (constCV_R (v:=(.float k b)) trivial)
 |complex k a b=>exact TV.c_R (cv:=constCV ((.complex k a b))) (constCV_R (v:=(.complex k a b)) trivial)
 |string s=>exact TV.c_R (cv:=constCV ((.string s))) (constCV_R (v:=(.string s)) trivial)
 |pointer p=>exact TV.c_R (cv:=constCV ((.pointer p))) (constCV_R (v:=(.pointer p)) trivial)
 |slice s n c=>exact TV.c_R (cv:=constCV ((.slice s n c))) (constCV_R (v:=(.slice s n c)) trivial)
 |map m=>exact TV.c_R (cv:=constCV ((.map m))) (constCV_R (v:=(.map m)) trivial)
 |chan m=>exact TV.c_R (cv:=constCV ((.chan m))) (constCV_R (v:=(.chan m)) trivial)
 |func f x c=>exact TV.c_R (cv:=constCV ((.func f x c))) (constCV_R (v:=(.func f x c)) trivial)
 |nilFunc=>exact TV.c_R (cv:=constCV ((.nilFunc))) (constCV_R (v:=(.nilFunc)) trivial)
 |iface t v=>exact TV.c_R (cv:=constCV ((.iface t v))) (constCV_R (v:=(.iface t v)) trivial)
 |nilIface=>exact TV.c_R (cv:=constCV ((.nilIface))) (constCV_R (v:=(.nilIface)) trivial)
theorem evalTV_R (henv:∀t,(env t).R P w g mu (a.tmps.getD t undef)) (x:Operand):(evalTV env x).R P w g mu (a.eval x):=by
 cases x with
 |tmp t=>exact henv t
 |const v=>exact constTV_R v
 |func f=>rfl
 |global g=>trivial
theorem wp_val {o:Oper} {next:Act→World→Prop} {v:Value} {w':World} (h:(execOp a.eval o).run P w= .ok (.value v) w') (k:next (a.put o.dst v) w'):o.wp P a w next Q:=by
 unfold Oper.wp;rw [h];exact k
theorem done_pure (s:OpSt P C env mu a w g idb) {o:Oper} {K:TV→List (Nat×Blk)→Option R} {y:R} {v:Value} {tv:TV}
  (h:(execOp a.eval o).run P w= .ok (.value v) w) (hK:K tv []=some y) (hv:tv.R P w g mu v):o.wp P a w (Done P w g mu a o.dst K y) Q :=
 wp_val h ⟨tv,[],v,g,rfl,hK,Nxt.refl s.wf s.own,hv⟩
theorem ti_ok {t:Nat} {ti:TI} (h:tiOf P t=some ti):∃inf d z,P.info? t=some inf∧P.underlying t=some d∧inf.zero=some z∧z.cells.toList.all cellishB=true∧True ∧
  z.cells.size=inf.size∧ti.size=inf.size∧ti.bytes=inf.bytes∧ti.k=tkOf d∧ti.zero=z.cells.toList.map constCV ∧
  ((∃fs,d= .struct fs∧(∀f∈fs.toList,(P.info? f.type).isSome=true∧(P.underlying f.type).isSome=true)∧ti.flds=fs.toList.map (fun f=>(f.offset,((P.info? f.type).map (·.size)).getD 0)) ∧
    ti.ags=fs.toList.map (fun f=>((P.underlying f.type).map isAggD).getD false) ∧
    ti.eq=(bif flatFs P fs.toList 0&&Nat.beq fs.toList.length inf.size&& !P.stoodInHeld t&& !P.eqGuardType P.depth t then some (fs.toList.map fun f=>((P.underlying f.type).map tkOf).getD .other) else none))∨((∀fs,d≠ .struct fs)∧inf.size=1∧ti.flds= []∧ti.eq=none∧isArr d=false) ∨
   (∃n e ie,d= .array n e∧P.info? e=some ie∧ie.size=1∧inf.size=n∧ti.flds=(List.range n).map (fun i=>(i,1))∧ti.ags= []∧ti.eq=none)):=by
 unfold tiOf at h
 cases hi:P.info? t with
 |none=>simp [hi] at h
 |some inf =>
  cases hu:P.underlying t with
  |none=>simp [hi,hu] at h
  |some d =>
   simp only [hi,hu] at h
   cases hz:inf.zero with
   |none=>simp [hz] at h
   |some z =>
    simp only [hz] at h
    cases hc:(z.cells.toList.all cellishB&&Nat.beq z.cells.size inf.size) with
    |false=>rw [hc] at h;simp at h
    |true =>
     rw [hc] at h
     simp only [Bool.and_eq_true] at hc
     have h3:=Nat.eq_of_beq_eq_true hc.2
     refine ⟨inf,d,z,rfl,rfl,hz,hc.1,trivial,h3,?_⟩
     cases d with
     |struct fs =>
      simp only [cond_true] at h
      cases hf:(fs.toList.all fun f=>(P.info? f.type).isSome&&(P.underlying f.type).isSome) with
      |false=>rw [hf] at h;cases h
      |true =>
       rw [hf] at h
       cases h
       simp only [List.all_eq_true,Bool.and_eq_true] at hf
       exact ⟨rfl,rfl,rfl,rfl,.inl ⟨fs,rfl,hf,rfl,rfl,rfl⟩⟩
     |array n e =>
      simp only [cond_true] at h
      cases he:P.info? e with
      |none=>simp [he] at h
      |some ie =>
       simp only [he] at h
       cases hs:(Nat.beq ie.size 1&&Nat.beq inf.size n) with
       |false=>rw [hs] at h;cases h
       |true =>
        rw [hs] at h
        cases h
        simp only [Bool.and_eq_true] at hs
        exact ⟨rfl,rfl,rfl,rfl,.inr (.inr ⟨n,e,ie,rfl,he,Nat.eq_of_beq_eq_true hs.1,Nat.eq_of_beq_eq_true hs.2,rfl,rfl,rfl⟩)⟩
     |_ =>
      simp only [cond_true] at h
      cases hs:Nat.beq inf.size 1 with
      |false=>rw [hs] at h;cases h
      |true =>
       rw [hs] at h
       cases h
       exact ⟨rfl,rfl,rfl,rfl,.inr (.inl ⟨by simp,Nat.eq_of_beq_eq_true hs,rfl,rfl,rfl⟩)⟩
theorem cellsOf_R {tv:TV} {v:Value} {cs:List CV} (h:cellsOf tv=some cs) (hv:tv.R P w g mu v):cvsR P w g mu cs v.cells.toList:=by
 cases tv<;>simp [cellsOf] at h
 case c cv=>subst h;rw [(CV.cellish cv hv).cells];exact ⟨hv,trivial⟩
 case agg vs=>subst h;obtain ⟨a,rfl,ha⟩:=hv;exact ha
theorem op_move (s:OpSt P C env mu a w g idb) {o:Oper} {x:Operand} (ho:o.op= .move x∨o.op= .assign x) {K:TV→List (Nat×Blk)→Option R} {y:R}
  (h:K (evalTV env x) []=some y):o.wp P a w (Done P w g mu a o.dst K y) Q:=by
 refine done_pure s (v:=a.eval x) ?_ h (evalTV_R s.env x)
 rcases ho with ho|ho<;>simp [execOp,ho]
theorem op_pick (s:OpSt P C env mu a w g idb) {o:Oper} {c x z:Operand} (ho:o.op= .pick c x z) {K:TV→List (Nat×Blk)→Option R} {y:R} {t:Bool}
  (hc:evalTV env c= .c (.bool t)) (h:K (evalTV env (bif t then x else z)) []=some y):o.wp P a w (Done P w g mu a o.dst K y) Q:=by
 have hv:=evalTV_R s.env c
 rw [hc] at hv
 have hv:a.eval c= .bool t:=hv
 refine done_pure s (v:=a.eval (bif t then x else z)) ?_ h (evalTV_R s.env _)
 cases t<;>simp [execOp,ho,hv,asBool]
theorem Nxt.box (s:OpSt P C env mu a w g idb) {cs:List CV} {vals:List Value} (hv:cvsR P w g mu cs vals) (t:TypeId) :
  ∃g',Nxt P w g mu (w.alloc (.cells vals.toArray t)) g' (updL mu [(idb,.box cs)])∧(CV.ptr idb 0).R P (w.alloc (.cells vals.toArray t)) g' (updL mu [(idb,.box cs)]) (.pointer (some ⟨w.heap.size,0,none⟩)) ∧
   Stp w g mu (w.alloc (.cells vals.toArray t)) g' (updL mu [(idb,.box cs)]) (fun _=>False):=by
 have hf:mu idb=none:=s.fresh idb (Nat.le_refl _) (by omega)
 have hmu:∀id,id≠idb→updL mu [(idb,.box cs)] id=mu id:=fun id h=>by
  simp only [updL,upd]
  have:Nat.beq id idb=false:=Bool.eq_false_iff.2 fun e=>h (Nat.eq_of_beq_eq_true e)
  simp [this]
 have hmi:updL mu [(idb,.box cs)] idb=some (.box cs):=by simp [updL,upd,Nat.beq_refl]
 let g':Gh:=⟨fun b k=>if b=w.heap.size then (if k<vals.length then .o [idb] else .x) else g.o b k,fun id=>if id=idb then .box w.heap.size 0 else g.c id⟩
 have hcell:∀b k v,w.cell? ⟨b,k,none⟩=some v→(w.alloc (.cells vals.toArray t)).cell? ⟨b,k,none⟩=some v∧g'.o b k=g.o b k:=by
  intro b k v h
  have hlt:=cell_lt h
  refine ⟨by rw [World.cell?_alloc_lt w _ ⟨b,k,none⟩ hlt];exact h,?_⟩
  show (if b=w.heap.size then _ else _)=_
  rw [if_neg (by omega)]
 have hstp:Stp w g mu (w.alloc (.cells vals.toArray t)) g' (updL mu [(idb,.box cs)]) (fun _=>False):=by
  refine ⟨fun b k v h _=>hcell b k v h,fun id h=>?_,fun id h=>?_,fun id _ h=>?_,fun _ _ _ _ _ h=>h.elim⟩
  ·show (if id=idb then _ else _)=_
   rw [if_neg (fun (e:id=idb)=>h (e▸hf))]
  ·rw [hmu id (fun (e:id=idb)=>h (e▸hf))];exact h
  ·exact hmu id (fun (e:id=idb)=>h (e▸hf))
 have hnew:∀k v,vals[k]?=some v→(w.alloc (.cells vals.toArray t)).cell? ⟨w.heap.size,k,none⟩=some v:=by
  intro k v h
  rw [World.cell?_alloc_new]
  simpa using h
 refine ⟨g',⟨_,hstp,?_,?_,?_,?_⟩,⟨by rw [hmi];simp,w.heap.size,0,by show (if idb=idb then _ else _)=_;simp,rfl⟩,hstp⟩
 ·refine ⟨rfl,rfl,rfl,by simp,fun b hlt _=>?_,fun b k v h _=>hcell b k v h,fun b k v h=>⟨v,(hcell b k v h).1⟩,fun b k hlt=>?_⟩
  ·simp only [World.alloc,Array.getElem?_push]
   rw [if_neg (by omega)]
  ·exact World.frozen?_alloc_old w _ ⟨b,k,none⟩ (by simp;omega)
 ·refine ⟨fun b k π h=>?_,fun b k h=>?_⟩
  ·have h':(if b=w.heap.size then (if k<vals.length then Own.o [idb] else .x) else g.o b k)= .o π:=h
   clear h
   split at h'
   ·rename_i e;subst e
    split at h'
    ·rename_i hk
     exact ⟨⟨_,hnew k _ (List.getElem?_eq_getElem hk)⟩,fun j=>by simp⟩
    ·cases h'
   ·obtain ⟨⟨v,hv⟩,hfz⟩:=s.wf.cell b k π h'
    refine ⟨⟨v,(hcell b k v hv).1⟩,?_⟩
    intro j;rw [World.frozen?_alloc_old w _ ⟨b,j,none⟩ (by simpa using Nat.ne_of_lt (cell_lt hv))];exact hfz j
  ·have h':(if b=w.heap.size then (if k<vals.length then Own.o [idb] else .x) else g.o b k)= .o []:=h
   clear h
   split at h'
   ·split at h'<;>cases h'
   ·exact s.wf.ne b k h'
 ·intro b k id l h
  have h':(if b=w.heap.size then (if k<vals.length then Own.o [idb] else .x) else g.o b k)= .o (id::l):=h
  clear h
  split at h'
  ·split at h'
   ·cases h';rw [hmi];simp
   ·cases h'
  ·have:=s.own b k id l h'
   rw [hmu id (fun (e:id=idb)=>this (e▸hf))];exact this
 ·intro id b hid hb
  rcases hid with hid|hid
  ·exact hid.elim
  ·by_cases e:id=idb
   ·subst e
    rw [hmi] at hb
    cases hb
    refine ⟨w.heap.size,0,by show (if id=id then _ else _)=_;simp,fun j cv hj=>?_⟩
    obtain ⟨v,hvj,hcv⟩:=All2.get j cv hv hj
    refine ⟨v,by simpa using hnew j v hvj,?_,CV.stp hstp s.wf cv hcv⟩
    have hlt:j<vals.length:=by
     rcases Nat.lt_or_ge j vals.length with h|h
     ·exact h
     ·rw [List.getElem?_eq_none h] at hvj;cases hvj
    show (if w.heap.size=w.heap.size then (if 0+j<vals.length then Own.o [id] else .x) else _)=_
    simp [hlt]
   ·rw [hmu id e,hid] at hb;cases hb
theorem op_alloc (s:OpSt P C env mu a w g idb) {o:Oper} {e:TypeId} (ho:o.op= .alloc e) {K:TV→List (Nat×Blk)→Option R} {y:R} {ti:TI} (ht:C.ty e=some ti)
  (h:K (.c (.ptr idb 0)) [(idb,.box ti.zero)]=some y):o.wp P a w (Done P w g mu a o.dst K y) Q:=by
 obtain ⟨inf,d,z,h1,h2,h3,h4,_,_,_,_,_,h9,_⟩:=ti_ok (s.ty e ti ht)
 obtain ⟨g',hn,hp,_⟩:=Nxt.box s (constCVs_R (P:=P) (w:=w) (g:=g) (mu:=mu) h4) e
 refine wp_val (v:= .pointer (some ⟨w.heap.size,0,none⟩)) (w':=w.alloc (.cells z.cells e)) ?_ ⟨.c (.ptr idb 0),_,_,g',rfl,h,?_,?_⟩
 ·simp [execOp,ho,Instr.alloc,zeroValue,run_typeInfo w h1,h3,newVar,newRow]
 ·rw [h9];simpa using hn
 ·rw [h9];exact TV.c_R (by simpa using hp)
theorem op_box (s:OpSt P C env mu a w g idb) {o:Oper} {e:TypeId} {x:Operand} (ho:o.op= .box e x) {K:TV→List (Nat×Blk)→Option R} {y:R} {cs:List CV} (hx:cellsOf (evalTV env x)=some cs)
  (h:K (.c (.ptr idb 0)) [(idb,.box cs)]=some y):o.wp P a w (Done P w g mu a o.dst K y) Q:=by
 obtain ⟨g',hn,hp,_⟩:=Nxt.box s (cellsOf_R hx (evalTV_R s.env x)) e
 refine wp_val (v:= .pointer (some ⟨w.heap.size,0,none⟩)) (w':=w.alloc (.cells (a.eval x).cells e)) ?_ ⟨.c (.ptr idb 0),_,_,g',rfl,h,?_,?_⟩
 ·simp [execOp,ho,Instr.box,newVar,newRow]
 ·simpa using hn
 ·exact TV.c_R (by simpa using hp)
theorem op_nilCheck (s:OpSt P C env mu a w g idb) {o:Oper} {x:Operand} (ho:o.op= .nilCheck x) {K:TV→List (Nat×Blk)→Option R} {y:R} {cv:CV} (hx:evalTV env x= .c cv)
  (hp:∀v,cv.R P w g mu v→∃p,v= .pointer (some p)) (h:K (.c cv) []=some y):o.wp P a w (Done P w g mu a o.dst K y) Q:=by
 have hv:=evalTV_R s.env x
 rw [hx] at hv
 obtain ⟨p,hpv⟩:=hp _ hv
 refine done_pure s (v:=a.eval x) (tv:= .c cv) ?_ h hv
 simp [execOp,ho,hpv]
theorem op_extract (s:OpSt P C env mu a w g idb) {o:Oper} {x:Operand} {i:Nat} (ho:o.op= .extract x i) {K:TV→List (Nat×Blk)→Option R} {y:R} {vs:List (Bool×List CV)} (hx:evalTV env x= .tup vs)
  {e:Bool×List CV} (he:vs[i]?=some e) (h:K (one1 e) []=some y):o.wp P a w (Done P w g mu a o.dst K y) Q:=by
 have hv:=evalTV_R s.env x
 rw [hx] at hv
 obtain ⟨arr,hav,ha⟩:=hv
 obtain ⟨v,hvi,hr⟩:=All2.get i e ha he
 refine done_pure s (v:=v) (tv:=one1 e) ?_ h ?_
 ·have:arr[i]?=some v:=by simpa using hvi
  simp [execOp,ho,hav,Instr.extract,this]
 ·rcases e with ⟨_|_,cs⟩
  ·rcases cs with _|⟨cv,_⟩
   ·trivial
   ·exact hr
  ·exact hr
theorem op_unOp (s:OpSt P C env mu a w g idb) {o:Oper} {op:UnOp} {t:TypeId} {x:Operand} (ho:o.op= .unOp op t x) {K:TV→List (Nat×Blk)→Option R} {y:R} {tv:TV} {v:Value}
  (hu:(Op.unary op (a.eval x)).run P w= .ok v w) (hv:tv.R P w g mu v) (h:K tv []=some y):o.wp P a w (Done P w g mu a o.dst K y) Q:=by
 refine done_pure s (v:=v) (tv:=tv) ?_ h hv
 simp [execOp,ho,hu]
theorem op_makeFunc (s:OpSt P C env mu a w g idb) {o:Oper} {f:Nat} {first captured:Array Operand} (ho:o.op= .makeFunc (.func f) first captured) (hf:first.isEmpty=true)
  {K:TV→List (Nat×Blk)→Option R} {y:R} {l:List Nat} (hc:capIds env captured.toList=some l) (h:K (.c (.clo f l)) []=some y):o.wp P a w (Done P w g mu a o.dst K y) Q:=by
 have key:∀(xs:List Operand) (l:List Nat),capIds env xs=some l→All2 (fun id u=>mu id≠none∧∃b base,g.c id= .box b base∧u= .pointer (some ⟨b,base,none⟩)) l (xs.map a.eval):=by
  intro xs
  induction xs with
  |nil=>intro l h;simp only [capIds,Option.some.injEq] at h;subst h;trivial
  |cons x xs ih =>
   intro l h
   simp only [capIds] at h
   have hv:=evalTV_R s.env x
   split at h
   ·rename_i id off l' e1 e2
    cases hb:Nat.beq off 0 with
    |false=>simp [hb] at h
    |true =>
     simp only [hb,cond_true,Option.some.injEq] at h
     cases Nat.eq_of_beq_eq_true hb
     subst h
     rw [e1] at hv
     obtain ⟨h0,b,base,hcb,hv⟩:=hv
     exact ⟨⟨h0,b,base,hcb,by simpa using hv⟩,ih _ e2⟩
   ·cases h
 refine done_pure s (v:= .func (.func f) #[] (captured.map a.eval)) (tv:= .c (.clo f l)) ?_ h ⟨_,rfl,by simpa using key _ _ hc⟩
 have:first= #[]:=by simpa using hf
 simp [execOp,ho,Instr.makeFunc,this]
theorem op_index (s:OpSt P C env mu a w g idb) {o:Oper} {t:TypeId} {x z:Operand} (ho:o.op= .index t x z) {K:TV→List (Nat×Blk)→Option R} {y:R} {ti:TI} (ht:C.ty t=some ti) (hk:ti.k= .str)
  {b:ByteArray} (hx:evalTV env x= .c (.str b)) {k:IntKind} {n:Int} (hz:evalTV env z= .c (.int k n)) {u:UInt8} (hu:getI b.data.toList n=some u)
  (h:K (.c (.int .u8 u.toNat)) []=some y):o.wp P a w (Done P w g mu a o.dst K y) Q:=by
 obtain ⟨inf,d,z',h1,h2,_,_,_,_,_,_,hkd,_⟩:=ti_ok (s.ty t ti ht)
 have hd:d= .string:=by rw [hk] at hkd;cases d<;>simp [tkOf] at hkd ⊢
 subst hd
 have hvx:=evalTV_R s.env x
 rw [hx] at hvx
 have hvx:a.eval x= .string b:=hvx
 have hvz:=evalTV_R s.env z
 rw [hz] at hvz
 have hvz:a.eval z= .int k n:=hvz
 unfold getI at hu
 split at hu
 ·rename_i h0
  refine done_pure s (v:= .int .u8 u.toNat) (tv:= .c (.int .u8 u.toNat)) ?_ h rfl
  have hb:b[n.toNat]?=some u:=by
   have h5:b.data[n.toNat]?=some u:=by simpa using hu
   obtain ⟨hlt,he⟩:=Array.getElem?_eq_some_iff.1 h5
   rw [getElem?_pos b n.toNat (by simpa using hlt)]
   exact congrArg some he
  simp [execOp,ho,Instr.index,hvx,hvz,asIntOf,run_underlying h2,h0,hb]
 ·cases hu
end
end Go.Tm
