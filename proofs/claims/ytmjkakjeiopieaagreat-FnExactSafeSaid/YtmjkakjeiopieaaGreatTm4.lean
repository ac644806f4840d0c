/- A machine over plain data, part 4: what it gives is shown to be what the program's functions return. Conditions: none. -/
import Derived.Test.YtmjkakjeiopieaaGreatTm3
import Derived.Shelf.Spec.SlicesInsertGrow
set_option linter.unusedVariables false
/- The pure machine, 60: slices.Insert at elements of any size: what it leaves, road by road. Conditions: told at each theorem. -/
namespace Go.Tm
open Go Go.Shelf Go.RowKit Go.Lib Go.Proofs
set_option linter.unusedVariables false
set_option linter.unusedSimpArgs false
section
variable {P:Program}
theorem run_copyN (w:World) (dT sT ty elem:TypeId) (N b o dLen dCap:Nat) (a:Addr) (sLen sCap k:Nat) (cs:List Value)
  (hu:P.underlying dT=some (.slice elem)) (hs:(P.info? elem).map (·.size)=some N) (hk:k=Nat.min sLen dLen) (hn:cs.length=k*N)
  (hsrc:∀j v,cs[j]?=some v→w.cell? (a.add j)=some v) (hc:∀j,j<cs.length→(w.cell? ⟨b,o+j,none⟩).isSome=true) (hf:∀j,j<cs.length→w.frozen? ⟨b,o+j,none⟩=false) (h1:∀v∈cs,v.oneCell'=true) :
  (Builtin.copy_ #[dT,sT] ty #[.slice (some ⟨b,o,none⟩) dLen dCap,.slice (some a) sLen sCap]).run P w= .ok (goInt k) (w.setCells b o cs):=by
 have hl:=run_loadCells_list (P:=P) w a cs hsrc
 have hst:=run_storeCells_cells (P:=P) b o cs 0 w (by simpa using hc) (by simpa using hf) h1
 cases hq:P.info? elem with
 |none=>simp [hq] at hs
 |some i =>
  have hi:i.size=N:=by simpa [hq] using hs
  simp [Builtin.copy_,run_underlying hu,Builtin.lenOf,Builtin.firstCells,sizeOf,typeInfo,hq,hi,←hk,←hn,hl,hst]
end
theorem run_overlaps_same {P:Program} (w:World) (tS tR e:TypeId) (ht:P.underlying tS=some (.slice e)) (size:Nat) (hz:∀w,(Go.sizeOf e).run P w= .ok size w)
  (b x y:Nat) (la ca lb cb:Nat) (hd:x+la*size≤y∨y+lb*size≤x) :
  (Extern.SlicesOverlaps.overlaps #[tS,tS] #[tR] #[.slice (some ⟨b,x,none⟩) la ca,.slice (some ⟨b,y,none⟩) lb cb]).run P w= .ok (.bool false) w:=by
 have hb:(decide (x<y+lb*size)&&decide (y<x+la*size))=false:=by
  rcases hd with h|h
  ·have:¬y<x+la*size:=by omega
   simp [this]
  ·have:¬x<y+lb*size:=by omega
   simp [this]
 change Sem.run P (α:=Value) (do
  let some t := (#[tS, tS] : Array TypeId)[0]? | stuck "slices.overlaps: no parameter types"
  let .slice elem ← underlying t | stuck "slices.overlaps: slice type expected"
  let size←sizeOf elem
  match (some (⟨b,x,none⟩:Addr):Option Addr),(some (⟨b,y,none⟩:Addr):Option Addr) with
  |some a,some b =>
   if la=0∨lb=0∨size=0 then pure (Value.bool false)
   else if a.block != b.block&&(←frozen a)&&(←frozen b) then unsupported .addressObserved
   else do
    if a.block != b.block then do
     noView a;noView b
     if ← mayBeOne a b then return Value.bool ((← choose (.extern "sameAddr.stringBytes" 2)) == 1)
    pure (Value.bool (a.block==b.block&&a.off<b.off+lb*size&&b.off<a.off+la*size))
  |_,_=>pure (Value.bool false)) w=_
 by_cases h0:la=0∨lb=0∨size=0
 ·simp [run_underlying ht,hz,h0]
 ·simp [run_underlying ht,hz,h0,Sem.run]
  rcases hd with h|h<;>omega
noncomputable def insFn (nm:String) (ρ:Ren):Func:={Body2.n22 ρ with name:=nm}
theorem calls_as {P:Program} {f:FuncId} {fn0:Func} {nm:String} {c:Code} {args:Array Value} {w:World} {R:Ending→World→Prop} (hf:P.funcs[f]?=some {fn0 with name:=nm}) (hb:fn0.body=some c)
  (h:c.wp P (bodyPost P fn0 R) {tmps:=args++Array.replicate (fn0.ntmps - args.size) undef,defers:= []} w):Calls P f args w R:=calls_of_wp hf hb h
structure InsL (P:Program) (ρ:Ren) (nm:String) (N bts:Nat) (z:Value):Prop where
 mixed:P.follows .mixedOrders=true
 f22:P.funcs[ρ.f 22]?=some (insFn nm ρ)
 ov:∀args w,(callFunc (ρ.f 29) args).run P w=((Extern.SlicesOverlaps.overlaps #[ρ.t 24,ρ.t 24] #[ρ.t 4] args).run P w).andThen fun v w'=> .ok (.value v) w'
 t0:P.underlying (ρ.t 0)=some (TypeDesc.tuple #[])
 a0:∀w,(isAgg (ρ.t 0)).run P w= .ok false w
 z0:∀w,(Go.sizeOf (ρ.t 0)).run P w= .ok 1 w
 v0:∀w,(zeroValue (ρ.t 0)).run P w= .ok (Value.tuple #[]) w
 t3:P.underlying (ρ.t 3)=some (TypeDesc.int IntKind.i64)
 a3:∀w,(isAgg (ρ.t 3)).run P w= .ok false w
 z3:∀w,(Go.sizeOf (ρ.t 3)).run P w= .ok 1 w
 v3:∀w,(zeroValue (ρ.t 3)).run P w= .ok (Value.int IntKind.i64 0) w
 t4:P.underlying (ρ.t 4)=some (TypeDesc.bool)
 a4:∀w,(isAgg (ρ.t 4)).run P w= .ok false w
 z4:∀w,(Go.sizeOf (ρ.t 4)).run P w= .ok 1 w
 v4:∀w,(zeroValue (ρ.t 4)).run P w= .ok (Value.bool false) w
 z9:∀w,(Go.sizeOf (ρ.t 9)).run P w= .ok N w
 t24:P.underlying (ρ.t 24)=some (TypeDesc.slice (ρ.t 9))
 a24:∀w,(isAgg (ρ.t 24)).run P w= .ok false w
 z24:∀w,(Go.sizeOf (ρ.t 24)).run P w= .ok 1 w
 v24:∀w,(zeroValue (ρ.t 24)).run P w= .ok (Value.slice none 0 0) w
 i9:(P.info? (ρ.t 9)).map (fun i=>(i.zero,i.size,i.bytes))=some (some z,N,bts)
variable {P:Program} {ρ:Ren} {nm:String} {N bts:Nat} {z:Value}
set_option maxHeartbeats 4000000 in
set_option maxRecDepth 100000 in
theorem ins_shift (L:InsL P ρ nm N bts z) (b off n c i vb voff m vc:Nat) (cs vs:List Value) (w:World) (hi:i<n) (hm:0<m) (hroom:n+m≤c) (hc63:c≤9223372036854775807) (hvb:vb≠b∨voff+m*N≤off∨off+c*N≤voff)
  (hcl:cs.length=n*N) (hvl:vs.length=m*N)
  (hcs:∀j v,cs[j]?=some v→w.cell? ⟨b,off+j,none⟩=some v) (hsp:∀j,j<(n+m)*N→(w.cell? ⟨b,off+j,none⟩).isSome=true) (hfz:∀j,j<(n+m)*N→w.frozen? ⟨b,off+j,none⟩=false)
  (hvs:∀j v,vs[j]?=some v→w.cell? ⟨vb,voff+j,none⟩=some v) (h1c:∀v∈cs,v.oneCell'=true) (h1v:∀v∈vs,v.oneCell'=true)
  (tA tB:TypeId) (kA kB:Nat) (hsa:w.shape? vb=some (tA,kA)) (hsb:w.shape? b=some (tB,kB)) (hkB:kB≠0) (hfa:w.frozen? ⟨vb,voff,none⟩=false) (hfe:w.frozen? ⟨vb,kA,none⟩=false) :
  Calls P (ρ.f 22) #[.slice (some ⟨b,off,none⟩) n c,.int .i64 i,.slice (some ⟨vb,voff,none⟩) m vc] w fun e w' =>
   e= .returned (.slice (some ⟨b,off,none⟩) (n+m) c)∧w'=(w.drew.setCells b (off+(i+m)*N) (cs.drop (i*N))).setCells b (off+i*N) vs:=by
 have t0:=L.t0;have a0:=L.a0;have z0:=L.z0;have v0:=L.v0;have t3:=L.t3;have a3:=L.a3;have z3:=L.z3;have v3:=L.v3;have t4:=L.t4;have a4:=L.a4;have z4:=L.z4;have v4:=L.v4;have z9:=L.z9;have t24:=L.t24;have a24:=L.a24;have z24:=L.z24;have v24:=L.v24
 have u0:=run_underlying L.t0;have u3:=run_underlying L.t3;have u4:=run_underlying L.t4;have u24:=run_underlying L.t24
 have hz1:¬((m:Int)=0):=by omega
 have hz2:¬((i:Int)=(n:Int)):=by omega
 have hsz:(P.info? (ρ.t 9)).map (·.size)=some N:=by
  obtain ⟨i0,hi0,h0,h1,h2⟩:=info_parts L.i9
  rw [hi0];simp [h1]
 have hcN:(n+m)*N≤c*N:=Nat.mul_le_mul_right _ hroom
 have hnmi:(i+m)*N+(n+m - (i+m))*N=(n+m)*N:=by rw [←Nat.add_mul];congr 1;omega
 have hov:∀cb,(callFunc (ρ.f 29) #[.slice (some ⟨vb,voff,none⟩) m vc,.slice (some ⟨b,off+(i+m)*N,none⟩) (n+m - (i+m)) cb]).run P w= .ok (.value (.bool false)) w:=fun cb=>by
  rw [L.ov]
  by_cases hbb:vb=b
  ·subst hbb
   rw [run_overlaps_same w (ρ.t 24) (ρ.t 4) (ρ.t 9) L.t24 N L.z9 vb voff (off+(i+m)*N) m vc (n+m - (i+m)) cb (by rcases hvb with h|h|h<;>omega)]
   rfl
  ·rw [Lib.run_overlaps_apart w (ρ.t 24) (ρ.t 4) (ρ.t 9) L.t24 N L.z9 ⟨vb,voff,none⟩ ⟨b,off+(i+m)*N,none⟩ m vc (n+m - (i+m)) cb hbb tA tB kA kB hsa hsb hkB hfa hfe]
   rfl
 have hdl:(cs.drop (i*N)).length=(n - i)*N:=by rw [List.length_drop,hcl,Nat.sub_mul]
 have mixed:=L.mixed
 have hw1:IntKind.i64.wrap ((i:Int)+(m:Int))=(i:Int)+(m:Int):=by rw [IntKind.wrap_i64];omega
 have hb1:(0:Int)≤(i:Int)+(m:Int):=by omega
 have hin:i≤n:=by omega
 have htn:((i:Int)+(m:Int)).toNat=i+m:=by omega
 have hb2:¬(c=i+m):=by omega
 have hb3:(i:Int)≤(n:Int)+(m:Int):=by omega
 have hb4:¬(c=i):=by omega
 have hmul:∀j,j<(n - i)*N→(i+m)*N+j<(n+m)*N:=fun j hj=>by
  have:(n+m)*N=(i+m)*N+(n - i)*N:=by rw [←Nat.add_mul];congr 1;omega
  omega
 have hmul2:∀j,j<m*N→i*N+j<(n+m)*N:=fun j hj=>by
  have:i*N+m*N=(i+m)*N:=by rw [Nat.add_mul]
  have:(i+m)*N≤(n+m)*N:=Nat.mul_le_mul_right _ (by omega)
  omega
 have hcp1:∀ty dc sc,(Builtin.copy_ #[(ρ.t 24),(ρ.t 24)] ty #[.slice (some ⟨b,off+(i+m)*N,none⟩) (n+m - (i+m)) dc,.slice (some ⟨b,off+i*N,none⟩) (n+m - i) sc]).run P w.drew= .ok (goInt (n - i:Nat)) (w.drew.setCells b (off+(i+m)*N) (cs.drop (i*N))):=fun ty dc sc =>
  run_copyN w.drew _ _ ty (ρ.t 9) N b (off+(i+m)*N) (n+m - (i+m)) dc ⟨b,off+i*N,none⟩ (n+m - i) sc (n - i) (cs.drop (i*N)) L.t24 hsz (by simp only [Nat.min_def];split<;>omega) hdl
   (fun j v hj=>by rw [Addr.add_lit,Nat.add_assoc];exact hcs (i*N+j) v (by rwa [List.getElem?_drop] at hj))
   (fun j hj=>by rw [Nat.add_assoc];exact hsp _ (hmul _ (by omega))) (fun j hj=>by rw [Nat.add_assoc];exact hfz _ (hmul _ (by omega))) (fun v hv=>h1c v (List.mem_of_mem_drop hv))
 obtain ⟨W1,hW1⟩:∃W1,W1=w.drew.setCells b (off+(i+m)*N) (cs.drop (i*N)):=⟨_,rfl⟩
 have hsp1:∀k,k<(n+m)*N→(W1.cell? ⟨b,off+k,none⟩).isSome=true:=fun k hk=>by
  rw [hW1]
  exact isSome_setCells b _ _ _ (fun j hj=>by rw [Nat.add_assoc];exact hsp _ (hmul _ (by omega))) _ (hsp k hk)
 have hcp2:∀(W:World),(∀x,W.cell? x=W1.cell? x)→(∀x,W.frozen? x=W1.frozen? x)→∀ty dc,(Builtin.copy_ #[(ρ.t 24),(ρ.t 24)] ty #[.slice (some ⟨b,off+i*N,none⟩) (n+m - i) dc,.slice (some ⟨vb,voff,none⟩) m vc]).run P W= .ok (goInt m) (W.setCells b (off+i*N) vs):=fun W hWc hWf ty dc =>
  run_copyN W _ _ ty (ρ.t 9) N b (off+i*N) (n+m - i) dc ⟨vb,voff,none⟩ m vc m vs L.t24 hsz (by simp only [Nat.min_def];split<;>omega) hvl
   (fun j v hj=>by
    have hjl:j<m*N:=by rw [←hvl];exact (List.getElem?_eq_some_iff.1 hj).1
    rw [Addr.add_lit,hWc,hW1,World.cell?_setCells_out b _ _ _ _ (fun h _=>by
     show voff+j<off+(i+m)*N∨off+(i+m)*N+(cs.drop (i*N)).length≤voff+j
     have h:vb=b:=h
     rw [hdl]
     have:(n - i)*N=(n+m - (i+m))*N:=by congr 1;omega
     rcases hvb with h1|h1|h1
     ·exact absurd h h1
     ·left;omega
     ·right;omega)]
    exact hvs j v hj)
   (fun j hj=>by rw [hWc,Nat.add_assoc];exact hsp1 _ (hmul2 _ (by omega))) (fun j hj=>by rw [hWf,hW1,World.frozen?_setCells,Nat.add_assoc];exact hfz _ (hmul2 _ (by omega))) h1v
 rw [←hW1] at hcp1
 refine calls_as L.f22 rfl ?_
 simp only [Body2.n22_ntmps ρ,List.size_toArray,List.length_cons,List.length_nil,Nat.reduceAdd,Nat.reduceSub,Array.replicate_succ,Array.replicate_zero,List.push_toArray,List.append_toArray,List.nil_append,List.cons_append]
 go_wp2_with (simp only [hov])
 go_region_law_o (refine step_copy_runI rfl _ _ (ρ.t 24) (ρ.t 24) rfl _ _ (by simp [Act.eval,Act.put]) (by simp [Act.eval,Act.put]) (hcp1 _ _ _) ?_)
 go_wp2_with (at_builtin;refine wpList_copy_runI _ rfl _ _ (ρ.t 24) (ρ.t 24) rfl _ _ rfl rfl (hcp2 _ (fun _=>rfl) (fun _=>rfl) _ _) ?_)
 go_ret
 first|exact ⟨rfl,rfl⟩|exact ⟨rfl,by rw [hW1]⟩
set_option maxHeartbeats 4000000 in
set_option maxRecDepth 100000 in
theorem ins_end_room (L:InsL P ρ nm N bts z) (b off n c vb voff m vc:Nat) (vs:List Value) (w:World) (hm:0<m) (hroom:n+m≤c) (hc63:c≤9223372036854775807)
  (hvl:vs.length=m*N) (hsp:∀j,j<m*N→(w.cell? ⟨b,off+n*N+j,none⟩).isSome=true) (hfz:∀j,j<m*N→w.frozen? ⟨b,off+n*N+j,none⟩=false)
  (hvs:∀j v,vs[j]?=some v→w.cell? ⟨vb,voff+j,none⟩=some v) (h1v:∀v∈vs,v.oneCell'=true) :
  Calls P (ρ.f 22) #[.slice (some ⟨b,off,none⟩) n c,.int .i64 n,.slice (some ⟨vb,voff,none⟩) m vc] w fun e w' =>
   e= .returned (.slice (some ⟨b,off,none⟩) (n+m) c)∧w'=w.setCells b (off+n*N) vs:=by
 have t0:=L.t0;have a0:=L.a0;have z0:=L.z0;have v0:=L.v0;have t3:=L.t3;have a3:=L.a3;have z3:=L.z3;have v3:=L.v3;have t4:=L.t4;have a4:=L.a4;have z4:=L.z4;have v4:=L.v4;have z9:=L.z9;have t24:=L.t24;have a24:=L.a24;have z24:=L.z24;have v24:=L.v24
 have u0:=run_underlying L.t0;have u3:=run_underlying L.t3;have u4:=run_underlying L.t4;have u24:=run_underlying L.t24
 have mixed:=L.mixed
 have hz1:¬((m:Int)=0):=by omega
 obtain ⟨i0,hi0,hz0,hzs,hzb⟩:=info_parts L.i9
 have hrun:∀ty,(Builtin.append_ #[(ρ.t 24),(ρ.t 24)] ty #[.slice (some ⟨b,off,none⟩) n c,.slice (some ⟨vb,voff,none⟩) m vc]).run P w= .ok (.slice (some ⟨b,off,none⟩) (n+m) c) (w.setCells b (off+n*N) vs):=fun ty =>
  run_append_in L.t24 L.t24 (.inl ⟨_,rfl⟩) hi0 rfl (run_firstCells_some w _ m ⟨vb,voff,none⟩ m vc vs (by rw [hzs];exact hvl) (fun j u hj=>by rw [Addr.add_lit];exact hvs j u hj)) hroom rfl (by
   rw [hzs]
   have:=run_storeCells_cells (P:=P) b (off+n*N) vs 0 w (by rw [hvl];simpa using hsp) (by rw [hvl];simpa using hfz) h1v
   simpa using this)
 refine calls_as L.f22 rfl ?_
 simp only [Body2.n22_ntmps ρ,List.size_toArray,List.length_cons,List.length_nil,Nat.reduceAdd,Nat.reduceSub,Array.replicate_succ,Array.replicate_zero,List.push_toArray,List.append_toArray,List.nil_append,List.cons_append]
 go_wp2_with (at_builtin;refine Lib.wpList_append_run _ rfl _ _ _ _ rfl _ _ rfl rfl _ _ (hrun _) ?_)
 go_ret
 exact ⟨rfl,rfl⟩
set_option maxHeartbeats 4000000 in
set_option maxRecDepth 100000 in
theorem ins_end_grow (L:InsL P ρ nm N bts z) (base:Option Addr) (n c vb voff m vc:Nat) (cs vs:List Value) (w:World) (hm:0<m) (hnc:n≤c) (hroom:c<n+m) (h63:((n+m:Nat):Int)≤9223372036854775807) (hbig:(n+m)*bts≤140737488355328)
  (hcl:cs.length=n*N) (hvl:vs.length=m*N) (hnil:base=none→n=0)
  (hcs:∀a,base=some a→∀j v,cs[j]?=some v→w.cell? (a.add j)=some v)
  (hvs:∀j v,vs[j]?=some v→w.cell? ⟨vb,voff+j,none⟩=some v) (h1v:∀v∈vs,v.oneCell'=true) :
  Calls P (ρ.f 22) #[.slice base n c,.int .i64 n,.slice (some ⟨vb,voff,none⟩) m vc] w fun e w' =>
   e= .returned (.slice (some ⟨w.heap.size,0,none⟩) (n+m) (grownCap w (n+m) c (ρ.t 9))) ∧
   w'=w.drew.alloc (.cells ((cs++vs).toArray++Builtin.zeroCells z.cells (grownCap w (n+m) c (ρ.t 9) - (n+m))) (ρ.t 9)):=by
 have t0:=L.t0;have a0:=L.a0;have z0:=L.z0;have v0:=L.v0;have t3:=L.t3;have a3:=L.a3;have z3:=L.z3;have v3:=L.v3;have t4:=L.t4;have a4:=L.a4;have z4:=L.z4;have v4:=L.v4;have z9:=L.z9;have t24:=L.t24;have a24:=L.a24;have z24:=L.z24;have v24:=L.v24
 have u0:=run_underlying L.t0;have u3:=run_underlying L.t3;have u4:=run_underlying L.t4;have u24:=run_underlying L.t24
 have mixed:=L.mixed
 obtain ⟨i0,hi0,hz0,hzs,hzb⟩:=info_parts L.i9
 have hz1:¬((m:Int)=0):=by omega
 have hsrc:Go.Src P i0.size (ρ.t 24) (.slice (some ⟨vb,voff,none⟩) m vc) m vs w:=by
  rw [hzs]
  exact Go.Src.ofSlice w L.t24 ⟨vb,voff,none⟩ m vc vs hvl (fun j u hj=>by rw [Addr.add_lit];exact hvs j u hj) h1v
 have hold:(Builtin.firstCells i0.size n (.slice base n c)).run P w.drew= .ok cs.toArray w.drew:=by
  rw [hzs]
  cases base with
  |none =>
   have h0:=hnil rfl
   subst h0
   have hcs0:cs= []:=List.length_eq_zero_iff.1 (by rw [hcl,Nat.zero_mul])
   rw [hcs0]
   exact run_firstCells_none w.drew N 0 0 c
  |some a=>exact run_firstCells_some w.drew N n a n c cs hcl (fun j v hj=>hcs a rfl j v hj)
 have hrun:∀ty,(Builtin.append_ #[(ρ.t 24),(ρ.t 24)] ty #[.slice base n c,.slice (some ⟨vb,voff,none⟩) m vc]).run P w=_:=fun ty =>
  run_append_grow_src w (ρ.t 24) (ρ.t 24) ty (ρ.t 9) i0 _ L.t24 hi0 hz0 base n c cs hold _ m vs hsrc hroom h63 (by rw [hzb];exact growslice_fits hroom hbig)
 refine calls_as L.f22 rfl ?_
 simp only [Body2.n22_ntmps ρ,List.size_toArray,List.length_cons,List.length_nil,Nat.reduceAdd,Nat.reduceSub,Array.replicate_succ,Array.replicate_zero,List.push_toArray,List.append_toArray,List.nil_append,List.cons_append]
 cases base with
 |none =>
  have h0:=hnil rfl
  subst h0
  go_wp2_with (at_builtin;refine Lib.wpList_append_run _ rfl _ _ _ _ rfl _ _ rfl rfl _ _ (hrun _) ?_)
  all_goals (go_ret;exact ⟨rfl,rfl⟩)
 |some a =>
  obtain ⟨ab,ao,asp⟩:=a
  go_wp2_with (at_builtin;refine Lib.wpList_append_run _ rfl _ _ _ _ rfl _ _ rfl rfl _ _ (hrun _) ?_)
  all_goals (go_ret;exact ⟨rfl,rfl⟩)
set_option maxHeartbeats 4000000 in
set_option maxRecDepth 100000 in
theorem ins_none (L:InsL P ρ nm N bts z) (b:Option Addr) (n c i vc:Nat) (v:Option Addr) (w:World) (hi:i≤n) (hnc:n≤c) (hb:b=none→i=0∧c=0) :
  Calls P (ρ.f 22) #[.slice b n c,.int .i64 i,.slice v 0 vc] w fun e w'=>e= .returned (.slice b n c)∧w'=w:=by
 have t0:=L.t0;have a0:=L.a0;have z0:=L.z0;have v0:=L.v0;have t3:=L.t3;have a3:=L.a3;have z3:=L.z3;have v3:=L.v3;have t4:=L.t4;have a4:=L.a4;have z4:=L.z4;have v4:=L.v4;have z9:=L.z9;have t24:=L.t24;have a24:=L.a24;have z24:=L.z24;have v24:=L.v24
 have u0:=run_underlying L.t0;have u3:=run_underlying L.t3;have u4:=run_underlying L.t4;have u24:=run_underlying L.t24
 have mixed:=L.mixed
 have hi2:(i:Int)≤(n:Int):=by omega
 refine calls_as L.f22 rfl ?_
 simp only [Body2.n22_ntmps ρ,List.size_toArray,List.length_cons,List.length_nil,Nat.reduceAdd,Nat.reduceSub,Array.replicate_succ,Array.replicate_zero,List.push_toArray,List.append_toArray,List.nil_append,List.cons_append]
 cases b with
 |none =>
  obtain ⟨h0,h1⟩:=hb rfl
  subst h0;subst h1
  have:n=0:=by omega
  subst this
  go_wp2
  go_ret
  exact ⟨rfl,rfl⟩
 |some a =>
  obtain ⟨ab,ao,asp⟩:=a
  go_wp2
  all_goals (go_ret;exact ⟨rfl,rfl⟩)
set_option maxHeartbeats 4000000 in
set_option maxRecDepth 100000 in
theorem ins_grow (L:InsL P ρ nm N bts z) (hN:0<N) (hzc:z.cells.size=N) (b off n c i vb voff m vc:Nat) (cs vs:List Value) (w:World) (hi:i<n) (hm:0<m) (hnc:n≤c) (hroom:c<n+m) (h63:((n+m:Nat):Int)≤4611686018427387904) (hbig:(n+m)*bts≤140737488355328)
  (hcl:cs.length=n*N) (hvl:vs.length=m*N)
  (hcs:∀j v,cs[j]?=some v→w.cell? ⟨b,off+j,none⟩=some v)
  (hvs:∀j v,vs[j]?=some v→w.cell? ⟨vb,voff+j,none⟩=some v) (h1c:∀v∈cs,v.oneCell'=true) (h1v:∀v∈vs,v.oneCell'=true) :
  Calls P (ρ.f 22) #[.slice (some ⟨b,off,none⟩) n c,.int .i64 i,.slice (some ⟨vb,voff,none⟩) m vc] w fun e w' =>
   e= .returned (.slice (some ⟨w.heap.size,0,none⟩) (n+m) (grownCap w (n+m) c (ρ.t 9))) ∧
   w'=(((w.alloc (.cells ((cs.take (i*N)).toArray++Builtin.zeroCells z.cells (n+m - i)++Builtin.zeroCells z.cells (grownCap w (n+m) c (ρ.t 9) - (n+m))) (ρ.t 9))).drew.setCells w.heap.size (i*N) vs).drew).setCells w.heap.size ((i+m)*N) (cs.drop (i*N)):=by
 have t0:=L.t0;have a0:=L.a0;have z0:=L.z0;have v0:=L.v0;have t3:=L.t3;have a3:=L.a3;have z3:=L.z3;have v3:=L.v3;have t4:=L.t4;have a4:=L.a4;have z4:=L.z4;have v4:=L.v4;have z9:=L.z9;have t24:=L.t24;have a24:=L.a24;have z24:=L.z24;have v24:=L.v24
 have u0:=run_underlying L.t0;have u3:=run_underlying L.t3;have u4:=run_underlying L.t4;have u24:=run_underlying L.t24
 have mixed:=L.mixed
 obtain ⟨i0,hi0,hz0,hzs,hzb⟩:=info_parts L.i9
 have hz1:¬((m:Int)=0):=by omega
 have hz2:¬((i:Int)=(n:Int)):=by omega
 have hz3:(c:Int)<(n:Int)+(m:Int):=by omega
 have hsz:(P.info? (ρ.t 9)).map (·.size)=some N:=by rw [hi0];simp [hzs]
 have hnN:0<n*N:=Nat.mul_pos (by omega) hN
 have hmN:0<m*N:=Nat.mul_pos (by omega) hN
 have hbw:b<w.heap.size:=block_lt_of_cell (hcs 0 _ (List.getElem?_eq_getElem (by omega)))
 have hvw:vb<w.heap.size:=block_lt_of_cell (hvs 0 _ (List.getElem?_eq_getElem (by omega)))
 have hkk:(n:Int)+(m:Int) - (i:Int)=((n+m - i:Nat):Int):=by omega
 have hik:i+(n+m - i)=n+m:=by omega
 have hiN:i*N≤n*N:=Nat.mul_le_mul_right _ (by omega)
 have hold:(Builtin.firstCells i0.size i (.slice (some ⟨b,off,none⟩) i c)).run P w.drew= .ok (cs.take (i*N)).toArray w.drew:=by
  rw [hzs]
  exact run_firstCells_some w.drew N i ⟨b,off,none⟩ i c (cs.take (i*N)) (by rw [List.length_take];omega) (fun j v hj=>by
   rw [Addr.add_lit]
   rw [List.getElem?_take] at hj
   split at hj
   ·exact hcs j v hj
   ·cases hj)
 have hrz:∀ty,(Builtin.append_ #[(ρ.t 24),(ρ.t 3)] ty #[.slice (some ⟨b,off,none⟩) i c,.int .i64 ((n:Int)+(m:Int) - (i:Int))]).run P w =
   .ok (.slice (some ⟨w.heap.size,0,none⟩) (n+m) (grownCap w (n+m) c (ρ.t 9))) (w.drew.alloc (.cells ((cs.take (i*N)).toArray++Builtin.zeroCells z.cells (n+m - i)++Builtin.zeroCells z.cells (grownCap w (n+m) c (ρ.t 9) - (n+m))) (ρ.t 9))):=fun ty=>by
  have hle:(n+m - i)*bts≤(n+m)*bts:=Nat.mul_le_mul_right _ (by omega)
  have h:=Lib.run_append_grow_zeros w (ρ.t 24) (ρ.t 3) ty (ρ.t 9) i0 _ .i64 .i64 L.t24 L.t3 hi0 hz0 (some ⟨b,off,none⟩) i c (cs.take (i*N)) hold (n+m - i) (by omega) (by omega) (by omega) (by omega) (by rw [hzb];omega) (by rw [hzb,hik];exact growslice_fits hroom hbig)
  rw [hik] at h
  rw [hkk]
  exact h
 obtain ⟨G,hG⟩:∃G,G=grownCap w (n+m) c (ρ.t 9):=⟨_,rfl⟩
 obtain ⟨ROW,hROW⟩:∃ROW:Array Value,ROW=(cs.take (i*N)).toArray++Builtin.zeroCells z.cells (n+m - i)++Builtin.zeroCells z.cells (G - (n+m)):=⟨_,rfl⟩
 rw [←hG] at hrz ⊢
 rw [←hROW] at hrz ⊢
 have hsum:i*N+(n+m - i)*N=(n+m)*N:=by rw [←Nat.add_mul,hik]
 have hRl:(n+m)*N≤ROW.size:=by
  rw [hROW]
  simp only [Array.size_append,List.size_toArray,List.length_take,Builtin.zeroCells,Array.size_map,Array.size_range,hzc]
  rw [hcl,Nat.min_eq_left hiN]
  omega
 obtain ⟨W1,hW1⟩:∃W1,W1=w.drew.alloc (.cells ROW (ρ.t 9)):=⟨_,rfl⟩
 rw [←hW1] at hrz
 have hNn:∀j,j<(n+m)*N→(W1.cell? ⟨w.heap.size,j,none⟩).isSome=true:=fun j hj=>by
  rw [hW1,World.cell?_alloc_at (w:=w.drew) ROW _ w.heap.size j rfl,Array.getElem?_eq_getElem (by omega)];rfl
 have hNf:∀j,W1.frozen? ⟨w.heap.size,j,none⟩=false:=fun j=>by rw [hW1];exact World.frozen?_alloc_at (w:=w.drew) ROW _ w.heap.size j rfl
 have hOb:∀j v,w.cell? ⟨b,j,none⟩=some v→W1.cell? ⟨b,j,none⟩=some v:=fun j v h=>by rw [hW1,World.cell?_alloc_past (w:=w.drew) _ b j hbw];exact h
 have hOv:∀j v,w.cell? ⟨vb,j,none⟩=some v→W1.cell? ⟨vb,j,none⟩=some v:=fun j v h=>by rw [hW1,World.cell?_alloc_past (w:=w.drew) _ vb j hvw];exact h
 have hdl:(cs.drop (i*N)).length=(n - i)*N:=by rw [List.length_drop,hcl,Nat.sub_mul]
 have hmul:∀j,j<(n - i)*N→(i+m)*N+j<(n+m)*N:=fun j hj=>by
  have:(n+m)*N=(i+m)*N+(n - i)*N:=by rw [←Nat.add_mul];congr 1;omega
  omega
 have hmul2:∀j,j<m*N→i*N+j<(n+m)*N:=fun j hj=>by
  have:i*N+m*N=(i+m)*N:=by rw [Nat.add_mul]
  have:(i+m)*N≤(n+m)*N:=Nat.mul_le_mul_right _ (by omega)
  omega
 have hcpA:∀(W:World),(∀x,W.cell? x=W1.cell? x)→(∀x,W.frozen? x=W1.frozen? x)→∀ty dc,(Builtin.copy_ #[(ρ.t 24),(ρ.t 24)] ty #[.slice (some ⟨w.heap.size,i*N,none⟩) (n+m - i) dc,.slice (some ⟨vb,voff,none⟩) m vc]).run P W= .ok (goInt m) (W.setCells w.heap.size (i*N) vs):=fun W hWc hWf ty dc =>
  run_copyN W _ _ ty (ρ.t 9) N w.heap.size (i*N) (n+m - i) dc ⟨vb,voff,none⟩ m vc m vs L.t24 hsz (by simp only [Nat.min_def];split<;>omega) hvl
   (fun j v hj=>by rw [Addr.add_lit,hWc];exact hOv _ v (hvs j v hj))
   (fun j hj=>by rw [hWc];exact hNn _ (hmul2 _ (by omega))) (fun j hj=>by rw [hWf];exact hNf _) h1v
 have hGn:n+m≤G:=by rw [hG];exact grownCap_ge w _ _ _
 have hG63:G≤9223372036854775807:=by
  have:=grownCap_le_maxLen w (n+m) c (ρ.t 9) (by unfold maxLen;omega)
  rw [←hG] at this
  unfold maxLen at this
  omega
 have hGi:¬(G=i):=by omega
 have hGim:¬(G=i+m):=by omega
 have hci:¬(c=i):=by omega
 have hbN:b≠w.heap.size:=by omega
 have hcpB:∀(W:World),(∀x,W.cell? x=(W1.setCells w.heap.size (i*N) vs).cell? x)→(∀x,W.frozen? x=(W1.setCells w.heap.size (i*N) vs).frozen? x)→∀ty dc sc,(Builtin.copy_ #[(ρ.t 24),(ρ.t 24)] ty #[.slice (some ⟨w.heap.size,(i+m)*N,none⟩) (n+m - (i+m)) dc,.slice (some ⟨b,off+i*N,none⟩) (n - i) sc]).run P W= .ok (goInt (n - i:Nat)) (W.setCells w.heap.size ((i+m)*N) (cs.drop (i*N))):=fun W hWc hWf ty dc sc =>
  run_copyN W _ _ ty (ρ.t 9) N w.heap.size ((i+m)*N) (n+m - (i+m)) dc ⟨b,off+i*N,none⟩ (n - i) sc (n - i) (cs.drop (i*N)) L.t24 hsz (by simp only [Nat.min_def];split<;>omega) hdl
   (fun j v hj=>by
    rw [Addr.add_lit,hWc,World.cell?_setCells_out _ _ _ _ _ (fun h _=>absurd h hbN),Nat.add_assoc]
    exact hOb _ v (hcs (i*N+j) v (by rwa [List.getElem?_drop] at hj)))
   (fun j hj=>by rw [hWc];exact isSome_setCells _ _ _ _ (fun t ht=>hNn _ (hmul2 _ (by omega))) _ (hNn _ (hmul _ (by omega))))
   (fun j hj=>by rw [hWf,World.frozen?_setCells];exact hNf _) (fun v hv=>h1c v (List.mem_of_mem_drop hv))
 subst hW1
 have hE1:∀x,((w.alloc (.cells ROW (ρ.t 9))).drew).cell? x=(w.drew.alloc (.cells ROW (ρ.t 9))).cell? x:=fun x=>rfl
 have hE2:∀x,((w.alloc (.cells ROW (ρ.t 9))).drew).frozen? x=(w.drew.alloc (.cells ROW (ρ.t 9))).frozen? x:=fun x=>rfl
 have hF1:∀x,(((w.alloc (.cells ROW (ρ.t 9))).drew.setCells w.heap.size (i*N) vs).drew).cell? x=((w.drew.alloc (.cells ROW (ρ.t 9))).setCells w.heap.size (i*N) vs).cell? x:=fun x=>rfl
 have hF2:∀x,(((w.alloc (.cells ROW (ρ.t 9))).drew.setCells w.heap.size (i*N) vs).drew).frozen? x=((w.drew.alloc (.cells ROW (ρ.t 9))).setCells w.heap.size (i*N) vs).frozen? x:=fun x=>rfl
 have hw1:IntKind.i64.wrap ((i:Int)+(m:Int))=(i:Int)+(m:Int):=by rw [IntKind.wrap_i64];omega
 have hb1:(0:Int)≤(i:Int)+(m:Int):=by omega
 have hin:i≤n:=by omega
 have htn:((i:Int)+(m:Int)).toNat=i+m:=by omega
 have hb3:(i:Int)≤(n:Int):=by omega
 clear hkk hik hold hROW hG hRl hsum hnN hmN hiN hmul hmul2
 refine calls_as L.f22 rfl ?_
 simp only [Body2.n22_ntmps ρ,List.size_toArray,List.length_cons,List.length_nil,Nat.reduceAdd,Nat.reduceSub,Array.replicate_succ,Array.replicate_zero,List.push_toArray,List.append_toArray,List.nil_append,List.cons_append]
 go_wp2_with (first
  |(at_builtin;refine Lib.wpList_append_run _ rfl _ _ _ _ rfl _ _ rfl rfl _ _ (hrz _) ?_)
  |(at_builtin;refine wpList_copy_runI _ rfl _ _ (ρ.t 24) (ρ.t 24) rfl _ _ rfl rfl (hcpA _ hE1 hE2 _ _) ?_)
  |(at_builtin;refine wpList_copy_runI _ rfl _ _ (ρ.t 24) (ρ.t 24) rfl _ _ rfl rfl (hcpB _ (fun _=>rfl) (fun _=>rfl) _ _ _) ?_))
 go_region_law_o (refine step_copy_runI rfl _ _ (ρ.t 24) (ρ.t 24) rfl (.slice (some ⟨w.heap.size,(i+m)*N,none⟩) (n+m - (i+m)) (G - (i+m))) (.slice (some ⟨b,off+i*N,none⟩) (n - i) (c - i)) (by simp [Act.eval,Act.put]) (by simp [Act.eval,Act.put]) (hcpB _ hF1 hF2 (ρ.t 3) (G - (i+m)) (c - i)) ?_)
 go_wp2
 go_ret
 exact ⟨rfl,rfl⟩
end Go.Tm

/- The pure machine, 61: slices.Insert does as its contract says. Conditions: told at each theorem. -/
namespace Go.Tm
open Go Go.Shelf
def insOwn (k m:Nat):Own→Own
 | .o (id::s)=>if id=1 then (match s with
   |j::r=> .o (1::(if j<k then j else j+m)::r)
   | []=> .x)
  else if id=129 then (match s with
   |j::r=> .o (1::(k+j)::r)
   | []=> .x)
  else .o (id::s)
 |q=>q
theorem insOwn_o {k m:Nat} {q:Own} {π:List Nat} (h:insOwn k m q= .o π):∃π',q= .o π':=by
 unfold insOwn at h
 split at h
 ·exact ⟨_,rfl⟩
 ·exact ⟨_,h⟩
theorem insOwn_ne {k m:Nat} {q:Own} (hq:q≠ .o []):insOwn k m q≠ .o []:=by
 unfold insOwn
 split
 ·split
  ·split<;>simp
  ·split
   ·split<;>simp
   ·simp
 ·exact hq
theorem insOwn_lo {k m j:Nat} (r:List Nat) (h:j<k):insOwn k m (.o (1::j::r))= .o (1::j::r):=by simp [insOwn,h]
theorem insOwn_hi {k m j:Nat} (r:List Nat) (h:k≤j):insOwn k m (.o (1::j::r))= .o (1::(j+m)::r):=by simp [insOwn,Nat.not_lt.2 h]
theorem insOwn_new {k m j:Nat} (r:List Nat):insOwn k m (.o (129::j::r))= .o (1::(k+j)::r):=by simp [insOwn]
theorem seg_get {α:Type} {l:List α} {a n t:Nat} {v:α} (h:((l.drop a).take n)[t]?=some v):l[a+t]?=some v∧t<n:=by
 rw [List.getElem?_take] at h
 split at h
 ·rename_i ht
  rw [List.getElem?_drop] at h
  exact ⟨h,ht⟩
 ·cases h
section
variable {P:Program} {w w':World} {o:Nat→Nat→Own} {es:Tys} {ms:List Md}
theorem ins_core {xs vs:List es.D} {k B O C:Nat} {olds news:List Value} (hk:k≤xs.length) (hw:Wf w o) (hlo:olds.length=xs.length*es.len) (hln:news.length=vs.length*es.len)
  (hold:∀j x,getN xs j=some x→es.Vs P w o ms (fun q=> .o [1,j,q]) 0 x ((olds.drop (j*es.len)).take es.len))
  (hnew:∀j x,getN vs j=some x→es.Vs P w o ms (fun q=> .o [129,j,q]) 0 x ((news.drop (j*es.len)).take es.len))
  (hcell:∀t v,(olds.take (k*es.len)++(news++olds.drop (k*es.len)))[t]?=some v→w'.cell? ⟨B,O+t,none⟩=some v)
  (hcap:∀t,t<C*es.len→∃v,w'.cell? ⟨B,O+t,none⟩=some v) (hfz:∀j,w'.frozen? ⟨B,j,none⟩=false) (hC:xs.length+vs.length≤C) (hC63:C≤9223372036854775807)
  (hkeep:∀b t v,w.cell? ⟨b,t,none⟩=some v→¬(b=B∧O≤t∧t<O+C*es.len)→w'.cell? ⟨b,t,none⟩=some v)
  (hWr:∀b t v,w.cell? ⟨b,t,none⟩=some v→(b=B∧O≤t∧t<O+C*es.len)→o b t= .o [1])
  (h1:w'.os=w.os) (h2:w'.tape=w.tape) (h3:w'.output=w.output) (h4:w.heap.size≤w'.heap.size) (hblk:∀b,b<w.heap.size→b≠B→w'.heap[b]?=w.heap[b]?) (hB:B<w.heap.size→∃t,o B t= .o [1])
  (hthere:∀b t v,w.cell? ⟨b,t,none⟩=some v→∃v',w'.cell? ⟨b,t,none⟩=some v') (hfr:∀b j,b<w.heap.size→w'.frozen? ⟨b,j,none⟩=w.frozen? ⟨b,j,none⟩) :
  ∃o',Fr w o w' o'∧Wf w' o'∧(Ty.sl es).H P w' o' (.own ms) (.o [1]) (lapp (xs.take k) (lapp vs (xs.drop k))) (.slice (some ⟨B,O,none⟩) (xs.length+vs.length) C):=by
 let o':Nat→Nat→Own:=fun b t=>if b=B∧O≤t∧t<O+C*es.len then .o [1] else insOwn k vs.length (o b t)
 have hin:∀{b t},(b=B∧O≤t∧t<O+C*es.len)→o' b t= .o [1]:=fun h=>if_pos h
 have hout:∀{b t},¬(b=B∧O≤t∧t<O+C*es.len)→o' b t=insOwn k vs.length (o b t):=fun h=>if_neg h
 have hnot:∀b t v,w.cell? ⟨b,t,none⟩=some v→o b t≠ .o [1]→¬(b=B∧O≤t∧t<O+C*es.len):=fun b t v hv ho h=>ho (hWr b t v hv h)
 have hF:Fr w o w' o':=by
  refine ⟨h1,h2,h3,h4,fun b hb hn=>?_,fun b t v hv hn=>?_,hthere,hfr⟩
  ·refine hblk b hb (fun e=>?_)
   subst e
   obtain ⟨t,ht⟩:=hB hb
   exact hn _ _ ht
  ·have hn1:=hnot b t v hv (hn _)
   refine ⟨hkeep b t v hv hn1,?_⟩
   rw [hout hn1]
   cases hq:o b t with
   |x=>rfl
   |p=>rfl
   |o π=>exact absurd hq (hn π)
 have hW:Wf w' o':=by
  refine ⟨fun b t π h=>?_,fun b t h=>?_⟩
  ·by_cases hc:b=B∧O≤t∧t<O+C*es.len
   ·obtain ⟨rfl,h5,h6⟩:=hc
    obtain ⟨v,hv⟩:=hcap (t - O) (by omega)
    rw [show O+(t - O)=t by omega] at hv
    exact ⟨⟨v,hv⟩,hfz⟩
   ·rw [hout hc] at h
    obtain ⟨π',hq⟩:=insOwn_o h
    obtain ⟨⟨v,hv⟩,hz⟩:=hw.cell b t _ hq
    exact ⟨hthere b t v hv,fun j=>by rw [hfr b j (cell_lt hv)];exact hz j⟩
  ·by_cases hc:b=B∧O≤t∧t<O+C*es.len
   ·rw [hin hc] at h;cases h
   ·rw [hout hc] at h;exact insOwn_ne (hw.ne b t) h
 refine ⟨o',hF,hW,H_own.2 ⟨some ⟨B,O,none⟩,C,?_,?_,.inr ⟨⟨B,O,none⟩,rfl,⟨rfl,hC63⟩,fun t ht=>hin ⟨rfl,Nat.le_add_right _ _,Nat.add_lt_add_left ht _⟩,?_⟩⟩⟩
 ·congr 1
  simp only [lapp,List.length_append,List.length_take,List.length_drop]
  omega
 ·simp only [lapp,List.length_append,List.length_take,List.length_drop]
  omega
 ·intro i2 x2 hx
  have hrl:∀(id j j2:Nat),(id=1∨id=129)→(∀r,insOwn k vs.length (.o (id::j::r))= .o (1::j2::r))→∀q,Rl w o w' o' (.o [id,j,q]) (.o [1,j2,q]):=fun id j j2 hid h q =>
   .inl ⟨_,rfl,fun b t s v hv ho=>by
    have hn1:=hnot b t v hv (by rw [ho];simp)
    refine ⟨hkeep b t v hv hn1,?_⟩
    rw [hout hn1,ho]
    exact h (q::s)⟩
  have fin:∀l,es.Vs P w' o' ms (fun q=> .o [1,i2,q]) 0 x2 l→(∀t v,l[t]?=some v→(olds.take (k*es.len)++(news++olds.drop (k*es.len)))[i2*es.len+t]?=some v)→(∀t,t<es.len→O+i2*es.len+t<O+C*es.len) →
    es.Hs P w' o' ms (.o [1]) (fun j=> .o ([1]++ [i2,j])) 0 x2 B (O+i2*es.len):=fun l hl hc hb=>by
   refine Vs_hs es hl (fun t v hv=>?_)
   have hlt:t<es.len:=by rw [←Vs_len es hl];exact (List.getElem?_eq_some_iff.1 hv).1
   refine ⟨?_,hin ⟨rfl,by omega,hb t hlt⟩⟩
   rw [Nat.add_assoc]
   exact hcell _ v (hc t v hv)
  have hbd:∀t,i2<xs.length+vs.length→t<es.len→O+i2*es.len+t<O+C*es.len:=fun t h5 h6=>by
   have:(i2+1)*es.len≤C*es.len:=Nat.mul_le_mul_right _ (by omega)
   rw [Nat.add_mul,Nat.one_mul] at this
   omega
  have hkl:k*es.len≤xs.length*es.len:=Nat.mul_le_mul_right _ hk
  have hmin:(olds.take (k*es.len)).length=k*es.len:=by rw [List.length_take];omega
  unfold getN lapp at hx
  by_cases c1:i2<k
  ·rw [List.getElem?_append_left (by rw [List.length_take];omega),List.getElem?_take,if_pos c1] at hx
   refine fin _ (Vs_re hF.perm hw es ms (hrl 1 i2 i2 (.inl rfl) (fun r=>insOwn_lo r c1)) (hold i2 x2 hx)) (fun t v hv=>?_) (fun t ht=>hbd t (by omega) ht)
   obtain ⟨h5,h6⟩:=seg_get hv
   have:(i2+1)*es.len≤k*es.len:=Nat.mul_le_mul_right _ c1
   rw [Nat.add_mul,Nat.one_mul] at this
   rw [List.getElem?_append_left (by omega),List.getElem?_take,if_pos (by omega)]
   exact h5
  ·rw [List.getElem?_append_right (by rw [List.length_take];omega)] at hx
   have e1:(xs.take k).length=k:=by rw [List.length_take];omega
   rw [e1] at hx
   have hki:k*es.len≤i2*es.len:=Nat.mul_le_mul_right _ (by omega)
   by_cases c2:i2 - k<vs.length
   ·rw [List.getElem?_append_left c2] at hx
    refine fin _ (Vs_re hF.perm hw es ms (hrl 129 (i2 - k) i2 (.inr rfl) (fun r=>by rw [insOwn_new];rw [show k+(i2 - k)=i2 by omega])) (hnew (i2 - k) x2 hx)) (fun t v hv=>?_) (fun t ht=>hbd t (by omega) ht)
    obtain ⟨h5,h6⟩:=seg_get hv
    have e2:(i2 - k)*es.len=i2*es.len - k*es.len:=Nat.sub_mul _ _ _
    have:(i2 - k+1)*es.len≤vs.length*es.len:=Nat.mul_le_mul_right _ c2
    rw [Nat.add_mul,Nat.one_mul] at this
    rw [List.getElem?_append_right (by omega),hmin,List.getElem?_append_left (by omega),show i2*es.len+t - k*es.len=(i2 - k)*es.len+t by omega]
    exact h5
   ·rw [List.getElem?_append_right (by omega),List.getElem?_drop] at hx
    have hlt:k+(i2 - k - vs.length)<xs.length:=(List.getElem?_eq_some_iff.1 hx).1
    refine fin _ (Vs_re hF.perm hw es ms (hrl 1 (k+(i2 - k - vs.length)) i2 (.inl rfl) (fun r=>by rw [insOwn_hi r (by omega)];rw [show k+(i2 - k - vs.length)+vs.length=i2 by omega])) (hold _ x2 hx)) (fun t v hv=>?_) (fun t ht=>hbd t (by omega) ht)
    obtain ⟨h5,h6⟩:=seg_get hv
    have e2:(k+(i2 - k - vs.length))*es.len=i2*es.len - vs.length*es.len:=by rw [←Nat.sub_mul];congr 1;omega
    have e3:(k+vs.length)*es.len≤i2*es.len:=Nat.mul_le_mul_right _ (by omega)
    rw [Nat.add_mul] at e3
    rw [List.getElem?_append_right (by omega),hmin,List.getElem?_append_right (by omega),List.getElem?_drop,hln]
    rw [show k*es.len+(i2*es.len+t - k*es.len - vs.length*es.len)=(k+(i2 - k - vs.length))*es.len+t by omega]
    exact h5
end
section
variable {w:World} {b o:Nat} {vs:List Value}
theorem sc_in (h:∀j,j<vs.length→(w.cell? ⟨b,o+j,none⟩).isSome=true) {j:Nat} {v:Value} (hv:vs[j]?=some v):(w.setCells b o vs).cell? ⟨b,o+j,none⟩=some v:=by
 obtain ⟨hj,rfl⟩:=List.getElem?_eq_some_iff.1 hv
 have:=World.cell?_setCells_in b vs o w h j hj
 rw [this]
theorem sc_out {b' t:Nat} (h:b'=b→t<o∨o+vs.length≤t):(w.setCells b o vs).cell? ⟨b',t,none⟩=w.cell? ⟨b',t,none⟩ :=
 World.cell?_setCells_out b vs o w ⟨b',t,none⟩ (fun h1 _=>h h1)
theorem sc_some (h:∀j,j<vs.length→(w.cell? ⟨b,o+j,none⟩).isSome=true) {b' t:Nat} {v:Value} (hv:w.cell? ⟨b',t,none⟩=some v):∃v',(w.setCells b o vs).cell? ⟨b',t,none⟩=some v':=by
 by_cases hc:b'=b∧o≤t∧t<o+vs.length
 ·obtain ⟨rfl,h1,h2⟩:=hc
  have:=sc_in (w:=w) h (List.getElem?_eq_getElem (show t - o<vs.length by omega))
  rw [show o+(t - o)=t by omega] at this
  exact ⟨_,this⟩
 ·exact ⟨v,by rw [sc_out (fun e=>by omega)];exact hv⟩
end
def insIns (es:Tys) (ms:List Md):List Grp:= [⟨.c,.cons (.sl es) .nil,[.own ms]⟩,⟨.c,.cons (.int .i64) .nil,[]⟩,⟨.c,.cons (.sl es) .nil,[.own ms]⟩]
def insOuts (es:Tys) (ms:List Md):List Grp:= [⟨.c,.cons (.sl es) .nil,[.own ms]⟩]
def insCon (es:Tys) (ms:List Md) (bts:Nat):Con:=⟨insIns es ms,insOuts es ms,insF es bts⟩
theorem cell_shape {w:World} {b t:Nat} {v:Value} (h:w.cell? ⟨b,t,none⟩=some v):∃tA kA,w.shape? b=some (tA,kA)∧t<kA:=by
 unfold World.cell? at h
 unfold World.shape?
 split at h
 ·rename_i c e f hq
  simp at h
  have hq:w.heap[b]?=some (.cells c e f):=hq
  rw [hq]
  exact ⟨_,_,rfl,(Array.getElem?_eq_some_iff.1 h).1⟩
 ·cases h
section
variable {P:Program} {ρ:Ren} {nm:String} {N bts:Nat} {z:Value} {es:Tys} {ms:List Md}
theorem ins_calls (L:InsL P ρ nm es.len bts z) (hpos:0<es.len) (hzc:z.cells.size=es.len) {w:World} {o:Nat→Nat→Own} {xs vs:List es.D} {i:Int} {sv vv:Value}
  (hs:(Ty.sl es).H P w o (.own ms) (.o [1]) xs sv) (hv:(Ty.sl es).H P w o (.own ms) (.o [129]) vs vv) (hw:Wf w o) (hc:(iLe 0 i&&(iLe i (xs.length:Int)&&room (xs.length+vs.length) bts))=true) :
  Calls P (ρ.f 22) #[sv,.int .i64 i,vv] w fun e w'=>∃vs' o',e= .returned (retOf vs')∧vs'.length=numRes (insCon es ms bts)∧Fr w o w' o'∧Wf w' o' ∧
   OutsR P w' o' (insCon es ms bts).outs 0 ((lapp (xs.take i.toNat) (lapp vs (xs.drop i.toNat)),()),()) vs' (ioAddrs (insCon es ms bts).ins [sv,.int .i64 i,vv]):=by
  simp only [Bool.and_eq_true] at hc
  obtain ⟨c1,c2,c3⟩:=hc
  have c1:0≤i:=by simpa [iLe] using c1
  have c2:i≤(xs.length:Int):=by simpa [iLe] using c2
  obtain ⟨k,rfl⟩:=Int.eq_ofNat_of_zero_le c1
  have hk:k≤xs.length:=by omega
  simp only [Int.toNat_natCast]
  unfold room at c3
  simp only [decide_eq_true_eq] at c3
  obtain ⟨c3,c4⟩:=c3
  have hbig:(xs.length+vs.length)*bts≤140737488355328:=by omega
  have hsm:xs.length+vs.length≤70368744177664:=Nat.le_trans (Nat.le_mul_of_pos_right _ c4) c3
  obtain ⟨sa,sc,rfl,hsl,hsc⟩:=H_own.1 hs
  obtain ⟨va,vc,rfl,hvl,hvc⟩:=H_own.1 hv
  have done:∀{e:Ending} {w':World} {b:Option Addr} {n c:Nat},e= .returned (.slice b n c)→(∃o',Fr w o w' o'∧Wf w' o'∧(Ty.sl es).H P w' o' (.own ms) (.o [1]) (lapp (xs.take k) (lapp vs (xs.drop k))) (.slice b n c)) →
    ∃vs' o',e= .returned (retOf vs')∧vs'.length=numRes (insCon es ms bts)∧Fr w o w' o'∧Wf w' o'∧OutsR P w' o' (insCon es ms bts).outs 0 ((lapp (xs.take k) (lapp vs (xs.drop k)),()),()) vs' (ioAddrs (insCon es ms bts).ins [.slice sa xs.length sc,.int .i64 k,.slice va vs.length vc]):=by
   rintro e w' b n c rfl ⟨o',h1,h2,h3⟩
   exact ⟨[.slice b n c],o',rfl,rfl,h1,h2,⟨_,[],rfl,h3,rfl⟩,rfl,rfl⟩
  by_cases hm:vs= []
  ·subst hm
   refine Calls.mono (ins_none L sa xs.length sc k vc va w hk hsl (fun e=>?_)) fun e w' he=>?_
   ·rcases hsc with ⟨h1,h2⟩|⟨ad,h1,_⟩
    ·subst h1;exact ⟨by simpa using hk,h2⟩
    ·rw [e] at h1;cases h1
   ·obtain ⟨he,rfl⟩:=he
    refine done he ⟨o,Fr.refl _ _,hw,?_⟩
    have:lapp (xs.take k) (lapp ([]:List es.D) (xs.drop k))=xs:=List.take_append_drop k xs
    rw [this]
    exact hs
  ·have hmp:0<vs.length:=List.length_pos_iff.2 hm
   rcases hvc with ⟨h1,_⟩|⟨vad,rfl,hvs,hvo,hve⟩
   ·exact absurd h1 hm
   obtain ⟨vb,voff,vsp⟩:=vad
   have hvsp:vsp=none:=hvs.1
   subst hvsp
   obtain ⟨news,n1,n2,n3,n4⟩:=row_vals (qf:=fun i j=> .o ([129]++ [i,j])) vs voff 0 (by simpa using hve)
   have n4':∀j x,getN vs j=some x→es.Vs P w o ms (fun q=> .o [129,j,q]) 0 x ((news.drop (j*es.len)).take es.len):=fun j x hx=>by have:=n4 j x hx;rwa [Nat.zero_add] at this
   have h1v:∀v∈news,v.oneCell'=true:=fun v hv=>cellish_one (n3 v hv)
   have hmN:0<vs.length*es.len:=Nat.mul_pos hmp hpos
   have fresh:∀{olds:List Value} {w1:World} {row:Array Value} {G:Nat} {t9:TypeId},olds.length=xs.length*es.len→(∀j x,getN xs j=some x→es.Vs P w o ms (fun q=> .o [1,j,q]) 0 x ((olds.drop (j*es.len)).take es.len)) →
     xs.length+vs.length≤G→G≤9223372036854775807→(∀b t v,w.cell? ⟨b,t,none⟩=some v→w1.cell? ⟨b,t,none⟩=some v)→(∀t v,(olds.take (k*es.len)++(news++olds.drop (k*es.len)))[t]?=some v→w1.cell? ⟨w.heap.size,t,none⟩=some v) →
     (∀t,t<G*es.len→∃v,w1.cell? ⟨w.heap.size,t,none⟩=some v)→(∀j,w1.frozen? ⟨w.heap.size,j,none⟩=false)→w1.os=w.os→w1.tape=w.tape→w1.output=w.output→w.heap.size≤w1.heap.size→(∀b,b<w.heap.size→w1.heap[b]?=w.heap[b]?) →
     (∀b j,b<w.heap.size→w1.frozen? ⟨b,j,none⟩=w.frozen? ⟨b,j,none⟩)→∃o',Fr w o w1 o'∧Wf w1 o'∧(Ty.sl es).H P w1 o' (.own ms) (.o [1]) (lapp (xs.take k) (lapp vs (xs.drop k))) (.slice (some ⟨w.heap.size,0,none⟩) (xs.length+vs.length) G) :=
    fun {olds w1 row G t9} f1 f2 f3 f3b f4 f5 f6 f7 f8 f9 f10 f11 f12 f13 =>
     ins_core (B:=w.heap.size) (O:=0) hk hw f1 n1 f2 n4' (fun t v h=>by rw [Nat.zero_add];exact f5 t v h) (fun t h=>by rw [Nat.zero_add];exact f6 t h) f7 f3 f3b (fun b t v h _=>f4 b t v h)
      (fun b t v h hb=>by have:=cell_lt h;omega) f8 f9 f10 f11 (fun b h _=>f12 b h) (fun h=>by omega) (fun b t v h=>⟨v,f4 b t v h⟩) f13
   have hal:∀{row:Array Value} {t9:TypeId} (b t:Nat) (v:Value),w.cell? ⟨b,t,none⟩=some v→(w.drew.alloc (.cells row t9)).cell? ⟨b,t,none⟩=some v:=fun b t v h=>by
    rw [World.cell?_alloc_past (w:=w.drew) _ b t (cell_lt h)];exact h
   rcases hsc with ⟨h1,h2⟩|⟨sad,rfl,hss,hso,hse⟩
   ·-- an empty row
    subst h1;subst h2
    have hk0:k=0:=by simpa using hk
    subst hk0
    refine Calls.mono (ins_end_grow L sa 0 0 vb voff vs.length vc [] news w hmp (Nat.le_refl _) (by omega) (by simp at hsm ⊢;omega) (by simpa using hbig) (by simp) n1 (fun _=>rfl) (fun _ _ j v h=>by simp at h) (fun j v h=>(n2 j v h).1) h1v) fun e w' he=>?_
    obtain ⟨he,rfl⟩:=he
    refine done he (fresh (olds:= []) (row:= #[]) (t9:=0) (by simp) (fun j x h=>by simp [getN] at h) (by simpa using grownCap_ge w _ _ _) (by have:=grownCap_le_maxLen w (0+vs.length) 0 (ρ.t 9) (by unfold maxLen;simp at hsm;omega);unfold maxLen at this;omega) hal (fun t v h=>?_) (fun t h=>?_) (fun j=>?_) rfl rfl rfl (by simp) (fun b h=>?_) (fun b j h=>?_))
    ·rw [World.cell?_alloc_at (w:=w.drew) _ _ w.heap.size t rfl]
     simp at h
     rw [Array.getElem?_append_left (by simpa using (List.getElem?_eq_some_iff.1 h).1)]
     simpa using h
    ·rw [World.cell?_alloc_at (w:=w.drew) _ _ w.heap.size t rfl]
     refine ⟨_,Array.getElem?_eq_getElem ?_⟩
     have hg:=grownCap_ge w (0+vs.length) 0 (ρ.t 9)
     simp only [Array.size_append,List.size_toArray,Builtin.zeroCells,Array.size_map,Array.size_range,hzc,List.nil_append,n1]
     rw [←Nat.add_mul]
     have:vs.length+(grownCap w (0+vs.length) 0 (ρ.t 9) - (0+vs.length))=grownCap w (0+vs.length) 0 (ρ.t 9):=by omega
     rw [this];exact h
    ·exact World.frozen?_alloc_at (w:=w.drew) _ _ w.heap.size j rfl
    ·simp only [World.alloc,Array.getElem?_push]
     rw [if_neg (by show ¬b=w.heap.size;omega)];rfl
    ·exact World.frozen?_alloc_old w.drew _ ⟨b,j,none⟩ (by show b≠w.heap.size;omega)
   ·obtain ⟨sb,soff,ssp⟩:=sad
    have hssp:ssp=none:=hss.1
    subst hssp
    have hc63:sc≤9223372036854775807:=hss.2
    obtain ⟨olds,l1,l2,l3,l4⟩:=row_vals (qf:=fun i j=> .o ([1]++ [i,j])) xs soff 0 (by simpa using hse)
    have l4':∀j x,getN xs j=some x→es.Vs P w o ms (fun q=> .o [1,j,q]) 0 x ((olds.drop (j*es.len)).take es.len):=fun j x hx=>by have:=l4 j x hx;rwa [Nat.zero_add] at this
    have h1c:∀v∈olds,v.oneCell'=true:=fun v hv=>cellish_one (l3 v hv)
    have hso:∀t,t<sc*es.len→o sb (soff+t)= .o [1]:=hso
    have hvo:∀t,t<vc*es.len→o vb (voff+t)= .o [129]:=hvo
    have hkn:k*es.len≤xs.length*es.len:=Nat.mul_le_mul_right _ hk
    by_cases hroom:xs.length+vs.length≤sc
    ·-- in place
     have hmul:(xs.length+vs.length)*es.len≤sc*es.len:=Nat.mul_le_mul_right _ hroom
     have hmul2:xs.length*es.len+vs.length*es.len=(xs.length+vs.length)*es.len:=(Nat.add_mul _ _ _).symm
     have hex:∀t,t<sc*es.len→(w.cell? ⟨sb,soff+t,none⟩).isSome=true:=fun t ht=>by
      obtain ⟨⟨u,hu⟩,_⟩:=hw.cell _ _ _ (hso t ht)
      rw [hu];rfl
     have hfzs:∀j,w.frozen? ⟨sb,j,none⟩=false:=(hw.cell _ _ _ (hso 0 (by omega))).2
     have inp:∀{w1:World},(∀t v,(olds.take (k*es.len)++(news++olds.drop (k*es.len)))[t]?=some v→w1.cell? ⟨sb,soff+t,none⟩=some v)→(∀b t v,w.cell? ⟨b,t,none⟩=some v→¬(b=sb∧soff≤t∧t<soff+sc*es.len)→w1.cell? ⟨b,t,none⟩=some v) →
       (∀b t v,w.cell? ⟨b,t,none⟩=some v→∃v',w1.cell? ⟨b,t,none⟩=some v')→w1.os=w.os→w1.tape=w.tape→w1.output=w.output→w1.heap.size=w.heap.size→(∀b,b≠sb→w1.heap[b]?=w.heap[b]?)→(∀b j,w1.frozen? ⟨b,j,none⟩=w.frozen? ⟨b,j,none⟩) →
       ∃o',Fr w o w1 o'∧Wf w1 o'∧(Ty.sl es).H P w1 o' (.own ms) (.o [1]) (lapp (xs.take k) (lapp vs (xs.drop k))) (.slice (some ⟨sb,soff,none⟩) (xs.length+vs.length) sc):=fun {w1} f1 f2 f3 f4 f5 f6 f7 f8 f9 =>
      ins_core (B:=sb) (O:=soff) hk hw l1 n1 l4' n4' f1 (fun t ht=>by
       obtain ⟨u,hu⟩:=Option.isSome_iff_exists.1 (hex t ht)
       exact f3 _ _ _ hu) (fun j=>by rw [f9];exact hfzs j) hroom hc63 f2 (fun b t v _ hb=>by
        obtain ⟨rfl,h5,h6⟩:=hb
        have:=hso (t - soff) (by omega)
        rwa [show soff+(t - soff)=t by omega] at this) f4 f5 f6 (by omega) (fun b _ hb=>f8 b hb) (fun _=>⟨soff+0,hso 0 (by omega)⟩) f3 (fun b j _=>f9 b j)
     by_cases hend:k=xs.length
     ·subst hend
      have hexn:∀j,j<news.length→(w.cell? ⟨sb,soff+xs.length*es.len+j,none⟩).isSome=true:=fun j hj=>by rw [Nat.add_assoc];exact hex _ (by omega)
      refine Calls.mono (ins_end_room L sb soff xs.length sc vb voff vs.length vc news w hmp hroom hc63 n1 (fun j hj=>hexn j (by omega)) (fun j _=>hfzs _) (fun j v h=>(n2 j v h).1) h1v) fun e w' he=>?_
      obtain ⟨he,rfl⟩:=he
      obtain ⟨g1,g2,g3,g4,g5⟩:=setCells_facts sb news (soff+xs.length*es.len) w
      refine done he (inp (fun t v h=>?_) (fun b t v h hn=>?_) (fun b t v h=>sc_some hexn h) g1 g2 g3 g4 g5 (fun b j=>World.frozen?_setCells _ _ _ _ _))
      ·rw [List.take_of_length_le (by omega),List.drop_eq_nil_of_le (by omega),List.append_nil] at h
       by_cases hlt:t<olds.length
       ·rw [List.getElem?_append_left hlt] at h
        rw [sc_out (fun _=>by omega)]
        exact (l2 t v h).1
       ·rw [List.getElem?_append_right (by omega)] at h
        have:=sc_in (w:=w) (b:=sb) (o:=soff+xs.length*es.len) hexn h
        rwa [show soff+xs.length*es.len+(t - olds.length)=soff+t by omega] at this
      ·rw [sc_out (fun e=>by
        by_cases h5:t<soff+xs.length*es.len
        ·exact .inl h5
        ·right
         by_cases h6:t<soff+xs.length*es.len+news.length
         ·exact absurd ⟨e,by omega,by omega⟩ hn
         ·omega)]
       exact h
     ·have hklt:k<xs.length:=by omega
      have hkm:(k+vs.length)*es.len=k*es.len+vs.length*es.len:=Nat.add_mul _ _ _
      have hkm2:(k+vs.length)*es.len≤(xs.length+vs.length)*es.len:=Nat.mul_le_mul_right _ (by omega)
      obtain ⟨tA,kA,hsa,hlA⟩:=cell_shape (n2 0 _ (List.getElem?_eq_getElem (by omega))).1
      obtain ⟨u0,hu0⟩:=Option.isSome_iff_exists.1 (hex 0 (by omega))
      obtain ⟨tB,kB,hsb,hlB⟩:=cell_shape hu0
      have hfzv:∀j,w.frozen? ⟨vb,j,none⟩=false:=(hw.cell _ _ _ (hvo 0 (by
       have:vs.length*es.len≤vc*es.len:=Nat.mul_le_mul_right _ hvl
       omega))).2
      have hdis:vb≠sb∨voff+vs.length*es.len≤soff∨soff+sc*es.len≤voff:=by
       by_cases hbb:vb=sb
       ·right
        have hvm:vs.length*es.len≤vc*es.len:=Nat.mul_le_mul_right _ hvl
        by_cases h5:voff+vs.length*es.len≤soff
        ·exact .inl h5
        ·right
         by_cases h6:soff+sc*es.len≤voff
         ·exact h6
         ·exfalso
          subst hbb
          by_cases h7:soff≤voff
          ·have q1:=hso (voff - soff) (by omega)
           have q2:=hvo 0 (by omega)
           rw [show soff+(voff - soff)=voff+0 by omega] at q1
           rw [q1] at q2;cases q2
          ·have q1:=hso 0 (by omega)
           have q2:=hvo (soff - voff) (by omega)
           rw [show voff+(soff - voff)=soff+0 by omega] at q2
           rw [q1] at q2;cases q2
       ·exact .inl hbb
      have hdl:(olds.drop (k*es.len)).length=xs.length*es.len - k*es.len:=by rw [List.length_drop,l1]
      have hx1:∀j,j<(olds.drop (k*es.len)).length→(w.drew.cell? ⟨sb,soff+(k+vs.length)*es.len+j,none⟩).isSome=true:=fun j hj=>by rw [Nat.add_assoc];exact hex _ (by omega)
      have hx2:∀j,j<news.length→((w.drew.setCells sb (soff+(k+vs.length)*es.len) (olds.drop (k*es.len))).cell? ⟨sb,soff+k*es.len+j,none⟩).isSome=true:=fun j hj=>by
       obtain ⟨u,hu⟩:=Option.isSome_iff_exists.1 (hex (k*es.len+j) (by omega))
       obtain ⟨u',hu'⟩:=sc_some (w:=w.drew) hx1 hu
       rw [Nat.add_assoc,hu'];rfl
      refine Calls.mono (ins_shift L sb soff xs.length sc k vb voff vs.length vc olds news w hklt hmp hroom hc63 hdis l1 n1 (fun j v h=>(l2 j v h).1) (fun j hj=>hex j (by omega)) (fun j _=>hfzs _) (fun j v h=>(n2 j v h).1) h1c h1v tA tB kA kB hsa hsb (by omega) (hfzv _) (hfzv _)) fun e w' he=>?_
      obtain ⟨he,rfl⟩:=he
      obtain ⟨g1,g2,g3,g4,g5⟩:=setCells_facts sb (olds.drop (k*es.len)) (soff+(k+vs.length)*es.len) w.drew
      obtain ⟨e1,e2,e3,e4,e5⟩:=setCells_facts sb news (soff+k*es.len) (w.drew.setCells sb (soff+(k+vs.length)*es.len) (olds.drop (k*es.len)))
      refine done he (inp (fun t v h=>?_) (fun b t v h hn=>?_) (fun b t v h=>?_) (e1.trans g1) (e2.trans g2) (e3.trans g3) (e4.trans g4) (fun b hb=>(e5 b hb).trans (g5 b hb)) (fun b j=>by rw [World.frozen?_setCells,World.frozen?_setCells];rfl))
      ·have hmin:(olds.take (k*es.len)).length=k*es.len:=by rw [List.length_take];omega
       by_cases hlt:t<k*es.len
       ·rw [List.getElem?_append_left (by omega),List.getElem?_take,if_pos hlt] at h
        rw [sc_out (fun _=>by omega),sc_out (fun _=>by omega)]
        exact (l2 t v h).1
       ·rw [List.getElem?_append_right (by omega),hmin] at h
        by_cases hlt2:t - k*es.len<news.length
        ·rw [List.getElem?_append_left hlt2] at h
         have:=sc_in hx2 h
         rwa [show soff+k*es.len+(t - k*es.len)=soff+t by omega] at this
        ·rw [List.getElem?_append_right (by omega)] at h
         rw [sc_out (fun _=>by omega)]
         have:=sc_in hx1 h
         rwa [show soff+(k+vs.length)*es.len+(t - k*es.len - news.length)=soff+t by omega] at this
      ·rw [sc_out (fun e=>?_),sc_out (fun e=>?_)]
       ·exact h
       ·by_cases h5:soff≤t∧t<soff+sc*es.len
        ·exact absurd ⟨e,h5.1,h5.2⟩ hn
        ·omega
       ·by_cases h5:soff≤t∧t<soff+sc*es.len
        ·exact absurd ⟨e,h5.1,h5.2⟩ hn
        ·omega
      ·obtain ⟨u,hu⟩:=sc_some (w:=w.drew) hx1 h
       exact sc_some hx2 hu
    ·-- no room
     have hgr:sc<xs.length+vs.length:=by omega
     have hG:=grownCap_ge w (xs.length+vs.length) sc (ρ.t 9)
     have hGb:grownCap w (xs.length+vs.length) sc (ρ.t 9)≤9223372036854775807:=by
      have:=grownCap_le_maxLen w (xs.length+vs.length) sc (ρ.t 9) (by unfold maxLen;omega)
      unfold maxLen at this
      omega
     by_cases hend:k=xs.length
     ·subst hend
      refine Calls.mono (ins_end_grow L (some ⟨sb,soff,none⟩) xs.length sc vb voff vs.length vc olds news w hmp hsl hgr (by omega) hbig l1 n1 (fun e=>by cases e) (fun a e j v h=>by cases e;rw [add_none rfl];exact (l2 j v h).1) (fun j v h=>(n2 j v h).1) h1v) fun e w' he=>?_
      obtain ⟨he,rfl⟩:=he
      refine done he (fresh (olds:=olds) (row:= #[]) (t9:=0) l1 l4' hG hGb hal (fun t v h=>?_) (fun t h=>?_) (fun j=>?_) rfl rfl rfl (by simp) (fun b h=>?_) (fun b j h=>?_))
      ·rw [List.take_of_length_le (by omega),List.drop_eq_nil_of_le (by omega),List.append_nil] at h
       rw [World.cell?_alloc_at (w:=w.drew) _ _ w.heap.size t rfl]
       rw [Array.getElem?_append_left (by simpa using (List.getElem?_eq_some_iff.1 h).1)]
       simpa using h
      ·rw [World.cell?_alloc_at (w:=w.drew) _ _ w.heap.size t rfl]
       refine ⟨_,Array.getElem?_eq_getElem ?_⟩
       simp only [Array.size_append,List.size_toArray,List.length_append,Builtin.zeroCells,Array.size_map,Array.size_range,hzc,n1,l1]
       rw [←Nat.add_mul,←Nat.add_mul]
       have:xs.length+vs.length+(grownCap w (xs.length+vs.length) sc (ρ.t 9) - (xs.length+vs.length))=grownCap w (xs.length+vs.length) sc (ρ.t 9):=by omega
       rw [this];exact h
      ·exact World.frozen?_alloc_at (w:=w.drew) _ _ w.heap.size j rfl
      ·simp only [World.alloc,Array.getElem?_push]
       rw [if_neg (by show ¬b=w.heap.size;omega)];rfl
      ·exact World.frozen?_alloc_old w.drew _ ⟨b,j,none⟩ (by show b≠w.heap.size;omega)
     ·have hklt:k<xs.length:=by omega
      have hkm:(k+vs.length)*es.len=k*es.len+vs.length*es.len:=Nat.add_mul _ _ _
      have hsum:k*es.len+(xs.length+vs.length - k)*es.len=(xs.length+vs.length)*es.len:=by rw [←Nat.add_mul];congr 1;omega
      have hsum2:(k+vs.length)*es.len+(xs.length - k)*es.len=(xs.length+vs.length)*es.len:=by rw [←Nat.add_mul];congr 1;omega
      have hdl:(olds.drop (k*es.len)).length=(xs.length - k)*es.len:=by rw [List.length_drop,l1,Nat.sub_mul]
      refine Calls.mono (ins_grow L hpos hzc sb soff xs.length sc k vb voff vs.length vc olds news w hklt hmp hsl hgr (by omega) hbig l1 n1 (fun j v h=>(l2 j v h).1) (fun j v h=>(n2 j v h).1) h1c h1v) fun e w' he=>?_
      obtain ⟨he,rfl⟩:=he
      generalize hROW:(olds.take (k*es.len)).toArray++Builtin.zeroCells z.cells (xs.length+vs.length - k)++Builtin.zeroCells z.cells (grownCap w (xs.length+vs.length) sc (ρ.t 9) - (xs.length+vs.length))=ROW
      have hRS:ROW.size=grownCap w (xs.length+vs.length) sc (ρ.t 9)*es.len:=by
       rw [←hROW]
       simp only [Array.size_append,List.size_toArray,List.length_take,Builtin.zeroCells,Array.size_map,Array.size_range,hzc,l1]
       rw [Nat.min_eq_left hkn,hsum,←Nat.add_mul]
       congr 1;omega
      have hGN:(xs.length+vs.length)*es.len≤grownCap w (xs.length+vs.length) sc (ρ.t 9)*es.len:=Nat.mul_le_mul_right _ hG
      obtain ⟨W0,hW0⟩:∃W0,W0=(w.alloc (.cells ROW (ρ.t 9))).drew:=⟨_,rfl⟩
      rw [←hW0]
      have c0:∀t,t<ROW.size→W0.cell? ⟨w.heap.size,t,none⟩=ROW[t]?:=fun t ht=>by rw [hW0];exact World.cell?_alloc_at (w:=w) ROW _ w.heap.size t rfl
      have a0:∀b t v,w.cell? ⟨b,t,none⟩=some v→W0.cell? ⟨b,t,none⟩=some v:=fun b t v h=>by
       rw [hW0]
       show (w.alloc (.cells ROW (ρ.t 9))).cell? ⟨b,t,none⟩=some v
       rw [World.cell?_alloc_past (w:=w) _ b t (cell_lt h)];exact h
      have hx1:∀j,j<news.length→(W0.cell? ⟨w.heap.size,k*es.len+j,none⟩).isSome=true:=fun j hj=>by
       have hl:k*es.len+j<ROW.size:=by omega
       rw [c0 _ hl,Array.getElem?_eq_getElem hl];rfl
      obtain ⟨W1,hW1⟩:∃W1,W1=(W0.setCells w.heap.size (k*es.len) news).drew:=⟨_,rfl⟩
      rw [←hW1]
      have hx2:∀j,j<(olds.drop (k*es.len)).length→(W1.cell? ⟨w.heap.size,(k+vs.length)*es.len+j,none⟩).isSome=true:=fun j hj=>by
       have hl:(k+vs.length)*es.len+j<ROW.size:=by omega
       obtain ⟨u,hu⟩:=sc_some hx1 (w:=W0) (t:=(k+vs.length)*es.len+j) (b':=w.heap.size) (by rw [c0 _ hl,Array.getElem?_eq_getElem hl])
       rw [hW1]
       show ((W0.setCells w.heap.size (k*es.len) news).cell? _).isSome=true
       rw [hu];rfl
      obtain ⟨g1,g2,g3,g4,g5⟩:=setCells_facts w.heap.size news (k*es.len) W0
      obtain ⟨e1,e2,e3,e4,e5⟩:=setCells_facts w.heap.size (olds.drop (k*es.len)) ((k+vs.length)*es.len) W1
      have k1:∀{b t:Nat},W1.cell? ⟨b,t,none⟩=(W0.setCells w.heap.size (k*es.len) news).cell? ⟨b,t,none⟩:=by intro b t;rw [hW1];rfl
      have z1:W1.os=w.os:=by rw [hW1];show (W0.setCells w.heap.size (k*es.len) news).os=_;rw [g1,hW0];rfl
      have z2:W1.tape=w.tape:=by rw [hW1];show (W0.setCells w.heap.size (k*es.len) news).tape=_;rw [g2,hW0];rfl
      have z3:W1.output=w.output:=by rw [hW1];show (W0.setCells w.heap.size (k*es.len) news).output=_;rw [g3,hW0];rfl
      have z4:W1.heap.size=w.heap.size+1:=by rw [hW1];show (W0.setCells w.heap.size (k*es.len) news).heap.size=_;rw [g4,hW0];show (w.alloc (.cells ROW (ρ.t 9))).heap.size=_;simp
      have z5:∀b,b≠w.heap.size→W1.heap[b]?=w.heap[b]?:=fun b hb=>by
       rw [hW1];show (W0.setCells w.heap.size (k*es.len) news).heap[b]?=_
       rw [g5 b hb,hW0]
       show (w.alloc (.cells ROW (ρ.t 9))).heap[b]?=_
       simp only [World.alloc,Array.getElem?_push]
       rw [if_neg hb]
      have z6:∀b j,W1.frozen? ⟨b,j,none⟩=(w.alloc (.cells ROW (ρ.t 9))).frozen? ⟨b,j,none⟩:=fun b j=>by
       rw [hW1];show (W0.setCells w.heap.size (k*es.len) news).frozen? _=_
       rw [World.frozen?_setCells,hW0];rfl
      refine done he (fresh (olds:=olds) (row:= #[]) (t9:=0) l1 l4' hG hGb (fun b t v h=>?_) (fun t v h=>?_) (fun t h=>?_) (fun j=>?_) (e1.trans z1) (e2.trans z2) (e3.trans z3) (by omega) (fun b h=>?_) (fun b j h=>?_))
      ·have hb:=cell_lt h
       rw [sc_out (fun e=>by omega),k1,sc_out (fun e=>by omega)]
       exact a0 b t v h
      ·have hmin:(olds.take (k*es.len)).length=k*es.len:=by rw [List.length_take];omega
       by_cases hlt:t<k*es.len
       ·have h':=h
        rw [List.getElem?_append_left (by omega)] at h
        rw [sc_out (fun _=>by omega),k1,sc_out (fun _=>by omega),c0 t (by omega),←hROW]
        rw [Array.getElem?_append_left (by simp only [Array.size_append,List.size_toArray];omega),Array.getElem?_append_left (by simp only [List.size_toArray];omega)]
        simpa using h
       ·rw [List.getElem?_append_right (by omega),hmin] at h
        by_cases hlt2:t - k*es.len<news.length
        ·rw [List.getElem?_append_left hlt2] at h
         rw [sc_out (fun _=>by omega),k1]
         have:=sc_in hx1 h
         rwa [show k*es.len+(t - k*es.len)=t by omega] at this
        ·rw [List.getElem?_append_right (by omega)] at h
         have:=sc_in hx2 h
         rwa [show (k+vs.length)*es.len+(t - k*es.len - news.length)=t by omega] at this
      ·have hl:t<ROW.size:=by omega
       obtain ⟨u,hu⟩:=sc_some hx1 (w:=W0) (t:=t) (b':=w.heap.size) (by rw [c0 _ hl,Array.getElem?_eq_getElem hl])
       exact sc_some hx2 (by rw [k1];exact hu)
      ·rw [World.frozen?_setCells,z6];exact World.frozen?_alloc_at (w:=w) _ _ w.heap.size j rfl
      ·rw [e5 b (by omega),z5 b (by omega)]
      ·rw [World.frozen?_setCells,z6];exact World.frozen?_alloc_old w _ ⟨b,j,none⟩ (by show b≠w.heap.size;omega)
theorem good_insert {N:Nat} (L:InsL P ρ nm N bts z) (hN:N=es.len) (hpos:0<N) (hzc:z.cells.size=N):Good P (ρ.f 22) (insCon es ms bts):=by
 subst hN
 intro w o args x y hy ha hw
 obtain ⟨⟨xs,u1⟩,⟨⟨i,u2⟩,⟨⟨vs,u3⟩,u4⟩⟩⟩:=x
 obtain ⟨sv,r1,rfl,hs,iv,r2,rfl,hi,vv,r3,rfl,hv,hr⟩:=ha
 have hr:r3= []:=hr
 subst hr
 obtain ⟨sv',q1,e1,hs,e2⟩:=hs
 cases e1
 obtain ⟨iv',q2,e1,hi,e2⟩:=hi
 cases e1
 obtain ⟨vv',q3,e1,hv,e2⟩:=hv
 cases e1
 have hi:iv= .int .i64 i:=hi
 subst hi
 have hy:insF es bts ((xs,u1),((i,u2),((vs,u3),u4)))=some y:=hy
 unfold insF at hy
 dsimp only at hy
 cases hc:(iLe 0 i&&(iLe i (List.length (α:=es.D) xs:Int)&&room (List.length (α:=es.D) xs+List.length (α:=es.D) vs) bts)) with
 |false=>rw [hc] at hy;cases hy
 |true =>
  rw [hc] at hy
  have hy:=Option.some.inj hy
  subst hy
  exact ins_calls (ms:=ms) L hpos hzc hs hv hw hc
end
end Go.Tm
