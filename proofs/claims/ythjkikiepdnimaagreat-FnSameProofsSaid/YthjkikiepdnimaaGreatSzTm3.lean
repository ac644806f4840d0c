/- A machine over plain data, part 3: what it gives is shown to be what the program's functions return. Conditions: none. -/
import Derived.Test.YthjkikiepdnimaaGreatSzTm2
import Derived.Shelf.Spec.SlicesInsertGrow
set_option linter.unusedVariables false
set_option linter.unusedSimpArgs false
set_option linter.constructorNameAsVariable false
namespace Go.Tm
open Go Go.Shelf Go.RowKit Go.Lib Go.Proofs
section
variable{P:Program}
theorem jC(w:World)(f p ty c:TypeId)(N b o d h:Nat)(a:Addr)(e l k:Nat)(cs:List Value)(q:P.underlying f=some (.slice c))(y:(P.info? c).map (·.size)=some N)(x:k=Nat.min e d)(s:cs.length=k*N)(g:∀j v,cs[j]?=some v->w.cell? (a.add j)=some v)(A:∀j,j<cs.length->(w.cell? ⟨b,o+j,none⟩).isSome=true)(z:∀j,j<cs.length->w.frozen? ⟨b,o+j,none⟩=false)(r:∀v∈cs,v.oneCell'=true):(Builtin.copy_ #[f,p] ty #[.slice (some ⟨b,o,none⟩) d h,.slice (some a) e l]).run P w=.ok (goInt k) (w.setCells b o cs):=by have n:=run_loadCells_list (P:=P) w a cs g;have m:=run_storeCells_cells (P:=P) b o cs 0 w (by omega) (by omega) r;cases t:P.info? c with|none=>grind|some i=>
 have u:i.size=N:=by grind
 simp[Builtin.copy_,run_underlying q,Builtin.lenOf,Builtin.firstCells,sizeOf,typeInfo,t,u,<-x,<-s,n,m]
end
theorem kW{P:Program}(w:World)(f l e:TypeId)(i:P.underlying f=some (.slice e))(size:Nat)(h:∀w,(Go.sizeOf e).run P w=.ok size w)(b x y:Nat)(d m c k:Nat)(o:x+d*size<=y\/y+c*size<=x):(Extern.SlicesOverlaps.overlaps #[f,f] #[l] #[.slice (some ⟨b,x,none⟩) d m,.slice (some ⟨b,y,none⟩) c k]).run P w=.ok (.bool false) w:=by
 have n:(decide (x<y+c*size)&&decide (y<x+d*size))=false:=by grind
 change Sem.run P (α:=Value) (do
 let some t:=(#[f,f]:Array TypeId)[0]?|stuck "slices.overlaps: no parameter types"
 let .slice j<-underlying t|stuck "slices.overlaps: slice type expected"
 let size<-sizeOf j
 match (some (⟨b,x,none⟩:Addr):Option Addr),(some (⟨b,y,none⟩:Addr):Option Addr) with|some a,some b=>if d=0\/c=0\/size=0 then pure (Value.bool false)else if a.block !=b.block&&(<-frozen a)&&(<-frozen b) then unsupported .addressObserved else do
    if a.block !=b.block then do noView a;noView b if<-mayBeOne a b then return Value.bool ((<-choose (.extern "sameAddr.stringBytes" 2))==1)
    pure (Value.bool (a.block==b.block&&a.off< b.off +c*size &&b.off< a.off +d*size))|_,_=>pure (Value.bool false)) w=_;by_cases g:d=0\/c=0\/size=0;·simp[run_underlying i,h,g]
 ·simp[run_underlying i,h,g,Sem.run];omega
noncomputable def BP(nm:String)(ρ:Ren):Func:={Body2.n22 ρ with name:=nm}
theorem jm{P:Program}{f:FuncId}{a:Func}{nm:String}{c:Code}{args:Array Value}{w:World}{R:Ending->World->Prop}(b:P.funcs[f]?=some {a with name:=nm})(d:a.body=some c)(h:c.wp P (bodyPost P a R) {tmps:=args++Array.replicate (a.ntmps-args.size) undef,defers:=[]} w):Calls P f args w R:=calls_of_wp b d h
structure oq(P:Program)(ρ:Ren)(nm:String)(N bts:Nat)(z:Value):Prop where
 jN:P.follows .mixedOrders=true
 BQ:P.funcs[ρ.f 22]?=some (BP nm ρ)ov:∀args w,(callFunc (ρ.f 29) args).run P w=((Extern.SlicesOverlaps.overlaps #[ρ.t 24,ρ.t 24] #[ρ.t 4] args).run P w).andThen λv w'=>.ok (.value v) w'
 t0:P.underlying (ρ.t 0)=some (TypeDesc.tuple #[])a0:∀w,(isAgg (ρ.t 0)).run P w=.ok false w
 z0:∀w,(Go.sizeOf (ρ.t 0)).run P w=.ok 1 w
 v0:∀w,(zeroValue (ρ.t 0)).run P w=.ok (Value.tuple #[]) w
 t3:P.underlying (ρ.t 3)=some (TypeDesc.int IntKind.i64)a3:∀w,(isAgg (ρ.t 3)).run P w=.ok false w
 z3:∀w,(Go.sizeOf (ρ.t 3)).run P w=.ok 1 w
 v3:∀w,(zeroValue (ρ.t 3)).run P w=.ok (Value.int IntKind.i64 0) w
 t4:P.underlying (ρ.t 4)=some (TypeDesc.bool)a4:∀w,(isAgg (ρ.t 4)).run P w=.ok false w
 z4:∀w,(Go.sizeOf (ρ.t 4)).run P w=.ok 1 w
 v4:∀w,(zeroValue (ρ.t 4)).run P w=.ok (Value.bool false) w
 z9:∀w,(Go.sizeOf (ρ.t 9)).run P w=.ok N w
 mB:P.underlying (ρ.t 24)=some (TypeDesc.slice (ρ.t 9))yb:∀w,(isAgg (ρ.t 24)).run P w=.ok false w
 yc:∀w,(Go.sizeOf (ρ.t 24)).run P w=.ok 1 w
 yd:∀w,(zeroValue (ρ.t 24)).run P w=.ok (Value.slice none 0 0) w
 i9:(P.info? (ρ.t 9)).map (λi=>(i.zero,i.size,i.bytes))=some (some z,N,bts)
variable{P:Program}{ρ:Ren}{nm:String}{N bts:Nat}{z:Value}
set_option maxHeartbeats 4000000 in set_option maxRecDepth 100000 in theorem vR(L:oq P ρ nm N bts z)(b off n c i a d m l:Nat)(cs vs:List Value)(w:World)(hi:i<n)(hm:0<m)(C:n+m<=c)(Y:c<=9223372036854775807)(ah:a≠b\/d+m*N<=off\/off+c*N<=d)(ak:cs.length=n*N)(G:vs.length=m*N)(ab:∀j v,cs[j]?=some v->w.cell? ⟨b,off+j,none⟩=some v)(F:∀j,j<(n+m)*N->(w.cell? ⟨b,off+j,none⟩).isSome=true)(μ:∀j,j<(n+m)*N->w.frozen? ⟨b,off+j,none⟩=false)(ai:∀j v,vs[j]?=some v->w.cell? ⟨a,d+j,none⟩=some v)(H:∀v∈cs,v.oneCell'=true)(E:∀v∈vs,v.oneCell'=true)(B A:TypeId)(q r:Nat)(S:w.shape? a=some (B,q))(K:w.shape? b=some (A,r))(J:r≠0)(M:w.frozen? ⟨a,d,none⟩=false)(O:w.frozen? ⟨a,q,none⟩=false):Calls P (ρ.f 22) #[.slice (some ⟨b,off,none⟩) n c,.int .i64 i,.slice (some ⟨a,d,none⟩) m l] w λe w'=>e=.returned (.slice (some ⟨b,off,none⟩) (n+m) c)/\w'=(w.drew.setCells b (off+(i+m)*N) (cs.drop (i*N))).setCells b (off+i*N) vs:=by
 have t0:=L.t0;have a0:=L.a0;have z0:=L.z0;have v0:=L.v0;have t3:=L.t3;have a3:=L.a3;have z3:=L.z3;have v3:=L.v3;have t4:=L.t4;have a4:=L.a4;have z4:=L.z4;have v4:=L.v4;have z9:=L.z9;have ω:=L.mB;have ad:=L.yb;have ag:=L.yc;have af:=L.yd;have u0:=run_underlying L.t0;have u3:=run_underlying L.t3;have u4:=run_underlying L.t4;have σ:=run_underlying L.mB;have π:¬((m:Int)=0):=by omega
 have φ:¬((i:Int)=(n:Int)):=by omega
 have u:(P.info? (ρ.t 9)).map (·.size)=some N:=by obtain ⟨i0,τ,h0,h1,h2⟩:=info_parts L.i9;grind
 have ae:(n+m)*N<=c*N:=Nat.mul_le_mul_right _ C;have Z:(i+m)*N+(n+m-(i+m))*N=(n+m)*N:=by rw[<-Nat.add_mul];grind
 have D:∀p,(callFunc (ρ.f 29) #[.slice (some ⟨a,d,none⟩) m l,.slice (some ⟨b,off+(i+m)*N,none⟩) (n+m-(i+m)) p]).run P w=.ok (.value (.bool false)) w:=λp=>by
  rw[L.ov];by_cases y:a=b;·subst y;rw[kW w (ρ.t 24) (ρ.t 4) (ρ.t 9) L.mB N L.z9 a d (off+(i+m)*N) m l (n+m-(i+m)) p (by omega)];rfl
  ·rw[Lib.run_overlaps_apart w (ρ.t 24) (ρ.t 4) (ρ.t 9) L.mB N L.z9 ⟨a,d,none⟩ ⟨b,off+(i+m)*N,none⟩ m l (n+m-(i+m)) p y B A q r S K J M O];rfl
 have I:(cs.drop (i*N)).length=(n-i)*N:=by grind
 have V:=L.jN;have ε:IntKind.i64.wrap ((i:Int)+(m:Int))=(i:Int)+(m:Int):=by rw[IntKind.wrap_i64];omega
 have aa:(0:Int)<=(i:Int)+(m:Int):=by omega
 have aj:i<=n:=by omega
 have θ:((i:Int)+(m:Int)).toNat=i+m:=by omega
 have δ:¬(c=i+m):=by omega
 have ψ:(i:Int)<=(n:Int)+(m:Int):=by omega
 have κ:¬(c=i):=by omega
 have α:∀j,j<(n-i)*N->(i+m)*N+j<(n+m)*N:=λj f=>by grind
 have X:∀j,j<m*N->i*N+j<(n+m)*N:=λj f=>by grind
 have t:∀ty g s,(Builtin.copy_ #[(ρ.t 24),(ρ.t 24)] ty #[.slice (some ⟨b,off+(i+m)*N,none⟩) (n+m-(i+m)) g,.slice (some ⟨b,off+i*N,none⟩) (n+m-i) s]).run P w.drew=.ok (goInt (n-i:Nat)) (w.drew.setCells b (off+(i+m)*N) (cs.drop (i*N))):=λty g s=>jC w.drew _ _ ty (ρ.t 9) N b (off+(i+m)*N) (n+m-(i+m)) g ⟨b,off+i*N,none⟩ (n+m-i) s (n-i) (cs.drop (i*N)) L.mB u (by grind) I (λj v f=>by rw[Addr.add_lit,Nat.add_assoc];simp_all) (λj f=>by rw[Nat.add_assoc];simp_all) (λj f=>by rw[Nat.add_assoc];simp_all) (λv T=>H v (List.mem_of_mem_drop T));obtain ⟨W1,o⟩:∃W1,W1=w.drew.setCells b (off+(i+m)*N) (cs.drop (i*N)):=⟨_,rfl⟩;have β:∀k,k<(n+m)*N->(W1.cell? ⟨b,off+k,none⟩).isSome=true:=λk U=>by rw[o];exact isSome_setCells b _ _ _ (λj f=>by rw[Nat.add_assoc];simp_all) _ (F k U)
 have hcp2:∀(W:World),(∀x,W.cell? x=W1.cell? x)->(∀x,W.frozen? x=W1.frozen? x)->∀ty g,(Builtin.copy_ #[(ρ.t 24),(ρ.t 24)] ty #[.slice (some ⟨b,off+i*N,none⟩) (n+m-i) g,.slice (some ⟨a,d,none⟩) m l]).run P W=.ok (goInt m) (W.setCells b (off+i*N) vs):=λW R Q ty g=>jC W _ _ ty (ρ.t 9) N b (off+i*N) (n+m-i) g ⟨a,d,none⟩ m l m vs L.mB u (by grind) G (λj v f=>by
 have γ:j<m*N:=by grind
 rw[Addr.add_lit,R,o,World.cell?_setCells_out b _ _ _ _ (λh _=>by grind)];simp_all) (λj f=>by grind) (λj f=>by rw[Q,o,World.frozen?_setCells,Nat.add_assoc];simp_all) E;rw[<-o] at t;refine jm L.BQ rfl ?_;simp only[Body2.n22_ntmps ρ,List.size_toArray,List.length_cons,List.length_nil,Nat.reduceAdd,Nat.reduceSub,Array.replicate_succ,Array.replicate_zero,List.push_toArray,List.append_toArray,List.nil_append,List.cons_append];go_wp2_with (simp only[D]);go_region_law_o (refine step_copy_runI rfl _ _ (ρ.t 24) (ρ.t 24) rfl _ _ (by simp[Act.eval,Act.put]) (by simp[Act.eval,Act.put]) (t _ _ _) ?_);go_wp2_with (at_builtin;refine wpList_copy_runI _ rfl _ _ (ρ.t 24) (ρ.t 24) rfl _ _ rfl rfl (hcp2 _ (λ_=>rfl) (λ_=>rfl) _ _) ?_);go_ret;simp_all
set_option maxHeartbeats 4000000 in set_option maxRecDepth 100000 in theorem qt(L:oq P ρ nm N bts z)(b off n c d a m f:Nat)(vs:List Value)(w:World)(M:0<m)(g:n+m<=c)(l:c<=9223372036854775807)(F:vs.length=m*N)(q:∀j,j<m*N->(w.cell? ⟨b,off+n*N+j,none⟩).isSome=true)(p:∀j,j<m*N->w.frozen? ⟨b,off+n*N+j,none⟩=false)(E:∀j v,vs[j]?=some v->w.cell? ⟨d,a+j,none⟩=some v)(o:∀v∈vs,v.oneCell'=true):Calls P (ρ.f 22) #[.slice (some ⟨b,off,none⟩) n c,.int .i64 n,.slice (some ⟨d,a,none⟩) m f] w λe w'=>e=.returned (.slice (some ⟨b,off,none⟩) (n+m) c)/\w'=w.setCells b (off+n*N) vs:=by
 have t0:=L.t0;have a0:=L.a0;have z0:=L.z0;have v0:=L.v0;have t3:=L.t3;have a3:=L.a3;have z3:=L.z3;have v3:=L.v3;have t4:=L.t4;have a4:=L.a4;have z4:=L.z4;have v4:=L.v4;have z9:=L.z9;have t:=L.mB;have B:=L.yb;have D:=L.yc;have C:=L.yd;have K:=run_underlying L.t0;have H:=run_underlying L.t3;have G:=run_underlying L.t4;have s:=run_underlying L.mB;have k:=L.jN;have r:¬((m:Int)=0):=by omega
 obtain ⟨J,i,y,x,A⟩:=info_parts L.i9;have h:∀ty,(Builtin.append_ #[(ρ.t 24),(ρ.t 24)] ty #[.slice (some ⟨b,off,none⟩) n c,.slice (some ⟨d,a,none⟩) m f]).run P w=.ok (.slice (some ⟨b,off,none⟩) (n+m) c) (w.setCells b (off+n*N) vs):=λty=>jI L.mB L.mB (.inl ⟨_,rfl⟩) i rfl (run_firstCells_some w _ m ⟨d,a,none⟩ m f vs (by grind) (λj u I=>by rw[Addr.add_lit];grind)) g rfl (by grind[run_storeCells_cells]);refine jm L.BQ rfl ?_;simp only[Body2.n22_ntmps ρ,List.size_toArray,List.length_cons,List.length_nil,Nat.reduceAdd,Nat.reduceSub,Array.replicate_succ,Array.replicate_zero,List.push_toArray,List.append_toArray,List.nil_append,List.cons_append];go_wp2_with (at_builtin;refine Lib.wpList_append_run _ rfl _ _ _ _ rfl _ _ rfl rfl _ _ (h _) ?_);go_ret;simp_all
set_option maxHeartbeats 4000000 in set_option maxRecDepth 100000 in theorem kX(L:oq P ρ nm N bts z)(base:Option Addr)(n c d b m h:Nat)(cs vs:List Value)(w:World)(X:0<m)(K:n<=c)(i:c<n+m)(A:((n+m:Nat):Int)<=9223372036854775807)(p:(n+m)*bts<=140737488355328)(B:cs.length=n*N)(R:vs.length=m*N)(l:base=none->n=0)(y:∀a,base=some a->∀j v,cs[j]?=some v->w.cell? (a.add j)=some v)(Q:∀j v,vs[j]?=some v->w.cell? ⟨d,b+j,none⟩=some v)(E:∀v∈vs,v.oneCell'=true):Calls P (ρ.f 22) #[.slice base n c,.int .i64 n,.slice (some ⟨d,b,none⟩) m h] w λe w'=>e=.returned (.slice (some ⟨w.heap.size,0,none⟩) (n+m) (grownCap w (n+m) c (ρ.t 9)))/\w'=w.drew.alloc (.cells ((cs++vs).toArray++Builtin.zeroCells z.cells (grownCap w (n+m) c (ρ.t 9)-(n+m))) (ρ.t 9)):=by
 have t0:=L.t0;have a0:=L.a0;have z0:=L.z0;have v0:=L.v0;have t3:=L.t3;have a3:=L.a3;have z3:=L.z3;have v3:=L.v3;have t4:=L.t4;have a4:=L.a4;have z4:=L.z4;have v4:=L.v4;have z9:=L.z9;have I:=L.mB;have J:=L.yb;have O:=L.yc;have M:=L.yd;have W:=run_underlying L.t0;have T:=run_underlying L.t3;have S:=run_underlying L.t4;have H:=run_underlying L.mB;have D:=L.jN;obtain ⟨f,s,u,t,x⟩:=info_parts L.i9;have G:¬((m:Int)=0):=by omega
 have q:Go.Src P f.size (ρ.t 24) (.slice (some ⟨d,b,none⟩) m h) m vs w:=by grind[Src.ofSlice,oq.mB,Addr.add_lit]
 have o:(Builtin.firstCells f.size n (.slice base n c)).run P w.drew=.ok cs.toArray w.drew:=by rw[t];cases base with|none=>have g:=l rfl;subst g;have r:cs=[]:=List.length_eq_zero_iff.1 (by omega);rw[r];exact run_firstCells_none w.drew N 0 0 c|some a=>exact run_firstCells_some w.drew N n a n c cs B (λj v C=>y a rfl j v C)
 have k:∀ty,(Builtin.append_ #[(ρ.t 24),(ρ.t 24)] ty #[.slice base n c,.slice (some ⟨d,b,none⟩) m h]).run P w=_:=λty=>run_append_grow_src w (ρ.t 24) (ρ.t 24) ty (ρ.t 9) f _ L.mB s u base n c cs o _ m vs q i A (by rw[x];exact growslice_fits i p);refine jm L.BQ rfl ?_;simp only[Body2.n22_ntmps ρ,List.size_toArray,List.length_cons,List.length_nil,Nat.reduceAdd,Nat.reduceSub,Array.replicate_succ,Array.replicate_zero,List.push_toArray,List.append_toArray,List.nil_append,List.cons_append];cases base with|none=>have g:=l rfl;subst g;go_wp2_with (at_builtin;refine Lib.wpList_append_run _ rfl _ _ _ _ rfl _ _ rfl rfl _ _ (k _) ?_);all_goals (go_ret;simp_all)|some a=>obtain ⟨U,V,F⟩:=a;go_wp2_with (at_builtin;refine Lib.wpList_append_run _ rfl _ _ _ _ rfl _ _ rfl rfl _ _ (k _) ?_);all_goals (go_ret;simp_all)
set_option maxHeartbeats 4000000 in set_option maxRecDepth 100000 in theorem xS(L:oq P ρ nm N bts z)(b:Option Addr)(n c i h:Nat)(v:Option Addr)(w:World)(y:i<=n)(q:n<=c)(f:b=none->i=0/\c=0):Calls P (ρ.f 22) #[.slice b n c,.int .i64 i,.slice v 0 h] w λe w'=>e=.returned (.slice b n c)/\w'=w:=by
 have t0:=L.t0;have a0:=L.a0;have z0:=L.z0;have v0:=L.v0;have t3:=L.t3;have a3:=L.a3;have z3:=L.z3;have v3:=L.v3;have t4:=L.t4;have a4:=L.a4;have z4:=L.z4;have v4:=L.v4;have z9:=L.z9;have o:=L.mB;have p:=L.yb;have s:=L.yc;have r:=L.yd;have B:=run_underlying L.t0;have u:=run_underlying L.t3;have t:=run_underlying L.t4;have m:=run_underlying L.mB;have j:=L.jN;have l:(i:Int)<=(n:Int):=by omega
 refine jm L.BQ rfl ?_;simp only[Body2.n22_ntmps ρ,List.size_toArray,List.length_cons,List.length_nil,Nat.reduceAdd,Nat.reduceSub,Array.replicate_succ,Array.replicate_zero,List.push_toArray,List.append_toArray,List.nil_append,List.cons_append]
 cases b with|none=>
 obtain⟨g,d⟩:=f rfl;subst g;subst d;have :n=0:=by omega
 subst this;go_wp2;go_ret;simp_all|some a=>obtain⟨x,A,k⟩:=a;go_wp2;all_goals (go_ret;simp_all)
set_option maxHeartbeats 4000000 in set_option maxRecDepth 100000 in theorem xT(L:oq P ρ nm N bts z)(A:0<N)(β:z.cells.size=N)(b off n c i f l m r:Nat)(cs vs:List Value)(w:World)(hi:i<n)(hm:0<m)(an:n<=c)(κ:c<n+m)(aA:((n+m:Nat):Int)<=4611686018427387904)(μ:(n+m)*bts<=140737488355328)(S:cs.length=n*N)(γ:vs.length=m*N)(α:∀j v,cs[j]?=some v->w.cell? ⟨b,off+j,none⟩=some v)(I:∀j v,vs[j]?=some v->w.cell? ⟨f,l+j,none⟩=some v)(Q:∀v∈cs,v.oneCell'=true)(F:∀v∈vs,v.oneCell'=true):Calls P (ρ.f 22) #[.slice (some ⟨b,off,none⟩) n c,.int .i64 i,.slice (some ⟨f,l,none⟩) m r] w λe w'=>e=.returned (.slice (some ⟨w.heap.size,0,none⟩) (n+m) (grownCap w (n+m) c (ρ.t 9)))/\w'=(((w.alloc (.cells ((cs.take (i*N)).toArray++Builtin.zeroCells z.cells (n+m-i)++Builtin.zeroCells z.cells (grownCap w (n+m) c (ρ.t 9)-(n+m))) (ρ.t 9))).drew.setCells w.heap.size (i*N) vs).drew).setCells w.heap.size ((i+m)*N) (cs.drop (i*N)):=by
 have t0:=L.t0;have a0:=L.a0;have z0:=L.z0;have v0:=L.v0;have t3:=L.t3;have a3:=L.a3;have z3:=L.z3;have v3:=L.v3;have t4:=L.t4;have a4:=L.a4;have z4:=L.z4;have v4:=L.v4;have z9:=L.z9;have ay:=L.mB;have au:=L.yb;have ae:=L.yc;have av:=L.yd;have u0:=run_underlying L.t0;have u3:=run_underlying L.t3;have u4:=run_underlying L.t4;have ah:=run_underlying L.mB;have θ:=L.jN;obtain ⟨ε,ax,ak,Z,az⟩:=info_parts L.i9;have aw:¬((m:Int)=0):=by omega
 have ai:¬((i:Int)=(n:Int)):=by omega
 have ψ:(c:Int)<(n:Int)+(m:Int):=by omega
 have u:(P.info? (ρ.t 9)).map (·.size)=some N:=by grind
 have T:0<n*N:=Nat.mul_pos (by omega) A;have J:0<m*N:=Nat.mul_pos (by omega) A;have O:b<w.heap.size:=block_lt_of_cell (α 0 _ (List.getElem?_eq_getElem (by omega)));have X:f<w.heap.size:=block_lt_of_cell (I 0 _ (List.getElem?_eq_getElem (by omega)));have K:(n:Int)+(m:Int)-(i:Int)=((n+m-i:Nat):Int):=by omega
 have U:i+(n+m-i)=n+m:=by omega
 have M:i*N<=n*N:=Nat.mul_le_mul_right _ (by omega);have C:(Builtin.firstCells ε.size i (.slice (some ⟨b,off,none⟩) i c)).run P w.drew=.ok (cs.take (i*N)).toArray w.drew:=by rw[Z];exact run_firstCells_some w.drew N i ⟨b,off,none⟩ i c (cs.take (i*N)) (by grind) (λj v d=>by rw[Addr.add_lit];rw[List.getElem?_take] at d;simp_all)
 have o:∀ty,(Builtin.append_ #[(ρ.t 24),(ρ.t 3)] ty #[.slice (some ⟨b,off,none⟩) i c,.int .i64 ((n:Int)+(m:Int)-(i:Int))]).run P w=.ok (.slice (some ⟨w.heap.size,0,none⟩) (n+m) (grownCap w (n+m) c (ρ.t 9))) (w.drew.alloc (.cells ((cs.take (i*N)).toArray++Builtin.zeroCells z.cells (n+m-i)++Builtin.zeroCells z.cells (grownCap w (n+m) c (ρ.t 9)-(n+m))) (ρ.t 9))):=λty=>by grind[Nat.mul_le_mul_right,run_append_grow_zeros,oq.mB,oq.t3,growslice_fits]
 obtain ⟨G,p⟩:∃G,G=grownCap w (n+m) c (ρ.t 9):=⟨_,rfl⟩;obtain ⟨a,q⟩:∃a:Array Value,a=(cs.take (i*N)).toArray++Builtin.zeroCells z.cells (n+m-i)++Builtin.zeroCells z.cells (G-(n+m)):=⟨_,rfl⟩;rw[<-p] at o⊢;rw[<-q] at o⊢;have E:i*N+(n+m-i)*N=(n+m)*N:=by grind
 have V:(n+m)*N<=a.size:=by rw[q];simp only[Array.size_append,List.size_toArray,List.length_take,Builtin.zeroCells,Array.size_map,Array.size_range,β];omega
 obtain ⟨W1,k⟩:∃W1,W1=w.drew.alloc (.cells a (ρ.t 9)):=⟨_,rfl⟩;rw[<-k] at o;have af:∀j,j<(n+m)*N->(W1.cell? ⟨w.heap.size,j,none⟩).isSome=true:=λj d=>by rw[k,World.cell?_alloc_at (w:=w.drew) a _ w.heap.size j rfl,Array.getElem?_eq_getElem (by omega)];rfl
 have ar:∀j,W1.frozen? ⟨w.heap.size,j,none⟩=false:=λj=>by rw[k];exact World.frozen?_alloc_at (w:=w.drew) a _ w.heap.size j rfl
 have ω:∀j v,w.cell? ⟨b,j,none⟩=some v->W1.cell? ⟨b,j,none⟩=some v:=λj v h=>by rw[k,World.cell?_alloc_past (w:=w.drew) _ b j O];exact h
 have al:∀j v,w.cell? ⟨f,j,none⟩=some v->W1.cell? ⟨f,j,none⟩=some v:=λj v h=>by rw[k,World.cell?_alloc_past (w:=w.drew) _ f j X];exact h
 have H:(cs.drop (i*N)).length=(n-i)*N:=by rw[List.length_drop,S,Nat.sub_mul]
 have D:∀j,j<(n-i)*N->(i+m)*N+j<(n+m)*N:=λj d=>by grind
 have B:∀j,j<m*N->i*N+j<(n+m)*N:=λj d=>by grind
 have hcpA:∀(W:World),(∀x,W.cell? x=W1.cell? x)->(∀x,W.frozen? x=W1.frozen? x)->∀ty g,(Builtin.copy_ #[(ρ.t 24),(ρ.t 24)] ty #[.slice (some ⟨w.heap.size,i*N,none⟩) (n+m-i) g,.slice (some ⟨f,l,none⟩) m r]).run P W=.ok (goInt m) (W.setCells w.heap.size (i*N) vs):=λW t y ty g=>jC W _ _ ty (ρ.t 9) N w.heap.size (i*N) (n+m-i) g ⟨f,l,none⟩ m r m vs L.mB u (by grind) γ (λj v d=>by rw[Addr.add_lit,t];grind) (λj d=>by grind) (λj d=>by grind) F;have ad:n+m<=G:=by rw[p];exact grownCap_ge w _ _ _
 have π:G<=9223372036854775807:=by have :=grownCap_le_maxLen w (n+m) c (ρ.t 9) (by unfold maxLen;omega);rw[<-p] at this;unfold maxLen at this;omega
 have ab:¬(G=i):=by omega
 have σ:¬(G=i+m):=by omega
 have φ:¬(c=i):=by omega
 have ao:b≠w.heap.size:=by omega
 have hcpB:∀(W:World),(∀x,W.cell? x=(W1.setCells w.heap.size (i*N) vs).cell? x)->(∀x,W.frozen? x=(W1.setCells w.heap.size (i*N) vs).frozen? x)->∀ty g s,(Builtin.copy_ #[(ρ.t 24),(ρ.t 24)] ty #[.slice (some ⟨w.heap.size,(i+m)*N,none⟩) (n+m-(i+m)) g,.slice (some ⟨b,off+i*N,none⟩) (n-i) s]).run P W=.ok (goInt (n-i:Nat)) (W.setCells w.heap.size ((i+m)*N) (cs.drop (i*N))):=λW t y ty g s=>jC W _ _ ty (ρ.t 9) N w.heap.size ((i+m)*N) (n+m-(i+m)) g ⟨b,off+i*N,none⟩ (n-i) s (n-i) (cs.drop (i*N)) L.mB u (by grind) H (λj v d=>by grind[Addr.add_lit,World.cell?_setCells_out,Nat.add_assoc]) (λj d=>by grind[isSome_setCells]) (λj d=>by rw[y,World.frozen?_setCells];grind) (λv δ=>Q v (List.mem_of_mem_drop δ));subst k;have hE1:∀x,((w.alloc (.cells a (ρ.t 9))).drew).cell? x=(w.drew.alloc (.cells a (ρ.t 9))).cell? x:=λx=>rfl;have hE2:∀x,((w.alloc (.cells a (ρ.t 9))).drew).frozen? x=(w.drew.alloc (.cells a (ρ.t 9))).frozen? x:=λx=>rfl;have Y:∀x,(((w.alloc (.cells a (ρ.t 9))).drew.setCells w.heap.size (i*N) vs).drew).cell? x=((w.drew.alloc (.cells a (ρ.t 9))).setCells w.heap.size (i*N) vs).cell? x:=λx=>rfl;have R:∀x,(((w.alloc (.cells a (ρ.t 9))).drew.setCells w.heap.size (i*N) vs).drew).frozen? x=((w.drew.alloc (.cells a (ρ.t 9))).setCells w.heap.size (i*N) vs).frozen? x:=λx=>rfl;have τ:IntKind.i64.wrap ((i:Int)+(m:Int))=(i:Int)+(m:Int):=by rw[IntKind.wrap_i64];omega
 have aa:(0:Int)<=(i:Int)+(m:Int):=by omega
 have aq:i<=n:=by omega
 have ag:((i:Int)+(m:Int)).toNat=i+m:=by omega
 have aj:(i:Int)<=(n:Int):=by omega
 clear K U C q p V E T J M D B;refine jm L.BQ rfl ?_;simp only[Body2.n22_ntmps ρ,List.size_toArray,List.length_cons,List.length_nil,Nat.reduceAdd,Nat.reduceSub,Array.replicate_succ,Array.replicate_zero,List.push_toArray,List.append_toArray,List.nil_append,List.cons_append];go_wp2_with (first|(at_builtin;refine Lib.wpList_append_run _ rfl _ _ _ _ rfl _ _ rfl rfl _ _ (o _) ?_)|(at_builtin;refine wpList_copy_runI _ rfl _ _ (ρ.t 24) (ρ.t 24) rfl _ _ rfl rfl (hcpA _ hE1 hE2 _ _) ?_)|(at_builtin;refine wpList_copy_runI _ rfl _ _ (ρ.t 24) (ρ.t 24) rfl _ _ rfl rfl (hcpB _ (λ_=>rfl) (λ_=>rfl) _ _ _) ?_));go_region_law_o (refine step_copy_runI rfl _ _ (ρ.t 24) (ρ.t 24) rfl (.slice (some ⟨w.heap.size,(i+m)*N,none⟩) (n+m-(i+m)) (G-(i+m))) (.slice (some ⟨b,off+i*N,none⟩) (n-i) (c-i)) (by simp[Act.eval,Act.put]) (by simp[Act.eval,Act.put]) (hcpB _ Y R (ρ.t 3) (G-(i+m)) (c-i)) ?_);go_wp2;go_ret;simp_all
end Go.Tm
namespace Go.Tm
open Go Go.Shelf
section
variable{P:Program}{w w':World}{o:Nat->Nat->ax}{es:af}{ms:List Md}
end
section
variable{w:World}{b o:Nat}{vs:List Value}
end
section
variable{P:Program}{ρ:Ren}{nm:String}{N bts:Nat}{z:Value}{es:af}{ms:List Md}
end
end Go.Tm
