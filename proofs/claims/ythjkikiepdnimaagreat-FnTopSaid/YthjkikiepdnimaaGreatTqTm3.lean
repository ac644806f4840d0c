/- A machine over plain data, part 3: what it gives is shown to be what the program's functions return. Conditions: none. -/
import Derived.Test.YthjkikiepdnimaaGreatTqTm2
import Derived.Shelf.Spec.SlicesInsertGrow
set_option linter.unusedVariables false
set_option linter.unusedSimpArgs false
set_option linter.constructorNameAsVariable false
namespace Go.Tm
open Go Go.Shelf Go.RowKit Go.Lib Go.Proofs
section
variable{P:Program}
theorem jC(w:World)(f p ty c:TypeId)(N b o d h:Nat)(a:Addr)(e l k:Nat)(cs:List Value)(q:P.underlying f=some (.slice c))(y:(P.info? c).map (·.size)=some N)(x:k=Nat.min e d)(s:cs.length=k*N)(g:∀j v,cs[j]?=some v->w.cell? (a.add j)=some v)(A:∀j,j<cs.length->(w.cell? ⟨b,o+j,none⟩).isSome=true)(z:∀j,j<cs.length->w.frozen? ⟨b,o+j,none⟩=false)(r:∀v∈cs,v.oneCell'=true):(Builtin.copy_ #[f,p] ty #[.slice (some ⟨b,o,none⟩) d h,.slice (some a) e l]).run P w=.ok (goInt k) (w.setCells b o cs):=by have n:=run_loadCells_list (P:=P) w a cs g;have m:=run_storeCells_cells (P:=P) b o cs 0 w (by omega) (by omega) r;cases t:P.info? c with|none=>grind|some i=>
 have u:i.size=N:=by grind
 simp[Builtin.copy_,run_underlying q,Builtin.lenOf,Builtin.firstCells,sizeOf,typeInfo,t,u,<-x,<-s,n,m]
end
theorem kW{P:Program}(w:World)(f l e:TypeId)(i:P.underlying f=some (.slice e))(size:Nat)(h:∀w,(Go.sizeOf e).run P w=.ok size w)(b x y:Nat)(d m c k:Nat)(o:x+d*size<=y\/y+c*size<=x):(Extern.SlicesOverlaps.overlaps #[f,f] #[l] #[.slice (some ⟨b,x,none⟩) d m,.slice (some ⟨b,y,none⟩) c k]).run P w=.ok (.bool false) w:=by
 have n:(decide (x<y+c*size)&&decide (y<x+d*size))=false:=by grind
 change Sem.run P (α:=Value) (do
 let some t:=(#[f,f]:Array TypeId)[0]?|stuck "slices.overlaps: no parameter types"
 let .slice j<-underlying t|stuck "slices.overlaps: slice type expected"
 let size<-sizeOf j
 match (some (⟨b,x,none⟩:Addr):Option Addr),(some (⟨b,y,none⟩:Addr):Option Addr) with|some a,some b=>if d=0\/c=0\/size=0 then pure (Value.bool false)else if a.block !=b.block&&(<-frozen a)&&(<-frozen b) then unsupported .addressObserved else do
    if a.block !=b.block then do noView a;noView b if<-mayBeOne a b then return Value.bool ((<-choose (.extern "sameAddr.stringBytes" 2))==1)
    pure (Value.bool (a.block==b.block&&a.off< b.off +c*size &&b.off< a.off +d*size))|_,_=>pure (Value.bool false)) w=_;by_cases g:d=0\/c=0\/size=0;·simp[run_underlying i,h,g]
 ·simp[run_underlying i,h,g,Sem.run];omega
noncomputable def BP(nm:String)(ρ:Ren):Func:={Body2.n22 ρ with name:=nm}
theorem jm{P:Program}{f:FuncId}{a:Func}{nm:String}{c:Code}{args:Array Value}{w:World}{R:Ending->World->Prop}(b:P.funcs[f]?=some {a with name:=nm})(d:a.body=some c)(h:c.wp P (bodyPost P a R) {tmps:=args++Array.replicate (a.ntmps-args.size) undef,defers:=[]} w):Calls P f args w R:=calls_of_wp b d h
structure oq(P:Program)(ρ:Ren)(nm:String)(N bts:Nat)(z:Value):Prop where
 jN:P.follows .mixedOrders=true
 BQ:P.funcs[ρ.f 22]?=some (BP nm ρ)ov:∀args w,(callFunc (ρ.f 29) args).run P w=((Extern.SlicesOverlaps.overlaps #[ρ.t 24,ρ.t 24] #[ρ.t 4] args).run P w).andThen λv w'=>.ok (.value v) w'
 t0:P.underlying (ρ.t 0)=some (TypeDesc.tuple #[])a0:∀w,(isAgg (ρ.t 0)).run P w=.ok false w
 z0:∀w,(Go.sizeOf (ρ.t 0)).run P w=.ok 1 w
 v0:∀w,(zeroValue (ρ.t 0)).run P w=.ok (Value.tuple #[]) w
 t3:P.underlying (ρ.t 3)=some (TypeDesc.int IntKind.i64)a3:∀w,(isAgg (ρ.t 3)).run P w=.ok false w
 z3:∀w,(Go.sizeOf (ρ.t 3)).run P w=.ok 1 w
 v3:∀w,(zeroValue (ρ.t 3)).run P w=.ok (Value.int IntKind.i64 0) w
 t4:P.underlying (ρ.t 4)=some (TypeDesc.bool)a4:∀w,(isAgg (ρ.t 4)).run P w=.ok false w
 z4:∀w,(Go.sizeOf (ρ.t 4)).run P w=.ok 1 w
 v4:∀w,(zeroValue (ρ.t 4)).run P w=.ok (Value.bool false) w
 z9:∀w,(Go.sizeOf (ρ.t 9)).run P w=.ok N w
 mB:P.underlying (ρ.t 24)=some (TypeDesc.slice (ρ.t 9))yb:∀w,(isAgg (ρ.t 24)).run P w=.ok false w
 yc:∀w,(Go.sizeOf (ρ.t 24)).run P w=.ok 1 w
 yd:∀w,(zeroValue (ρ.t 24)).run P w=.ok (Value.slice none 0 0) w
 i9:(P.info? (ρ.t 9)).map (λi=>(i.zero,i.size,i.bytes))=some (some z,N,bts)
variable{P:Program}{ρ:Ren}{nm:String}{N bts:Nat}{z:Value}
set_option maxHeartbeats 4000000 in set_option maxRecDepth 100000 in theorem vR(L:oq P ρ nm N bts z)(b off n c i a d m l:Nat)(cs vs:List Value)(w:World)(hi:i<n)(hm:0<m)(C:n+m<=c)(Y:c<=9223372036854775807)(ah:a≠b\/d+m*N<=off\/off+c*N<=d)(ak:cs.length=n*N)(G:vs.length=m*N)(ab:∀j v,cs[j]?=some v->w.cell? ⟨b,off+j,none⟩=some v)(F:∀j,j<(n+m)*N->(w.cell? ⟨b,off+j,none⟩).isSome=true)(μ:∀j,j<(n+m)*N->w.frozen? ⟨b,off+j,none⟩=false)(ai:∀j v,vs[j]?=some v->w.cell? ⟨a,d+j,none⟩=some v)(H:∀v∈cs,v.oneCell'=true)(E:∀v∈vs,v.oneCell'=true)(B A:TypeId)(q r:Nat)(S:w.shape? a=some (B,q))(K:w.shape? b=some (A,r))(J:r≠0)(M:w.frozen? ⟨a,d,none⟩=false)(O:w.frozen? ⟨a,q,none⟩=false):Calls P (ρ.f 22) #[.slice (some ⟨b,off,none⟩) n c,.int .i64 i,.slice (some ⟨a,d,none⟩) m l] w λe w'=>e=.returned (.slice (some ⟨b,off,none⟩) (n+m) c)/\w'=(w.drew.setCells b (off+(i+m)*N) (cs.drop (i*N))).setCells b (off+i*N) vs:=by
 have t0:=L.t0;have a0:=L.a0;have z0:=L.z0;have v0:=L.v0;have t3:=L.t3;have a3:=L.a3;have z3:=L.z3;have v3:=L.v3;have t4:=L.t4;have a4:=L.a4;have z4:=L.z4;have v4:=L.v4;have z9:=L.z9;have ω:=L.mB;have ad:=L.yb;have ag:=L.yc;have af:=L.yd;have u0:=run_underlying L.t0;have u3:=run_underlying L.t3;have u4:=run_underlying L.t4;have σ:=run_underlying L.mB;have π:¬((m:Int)=0):=by omega
 have φ:¬((i:Int)=(n:Int)):=by omega
 have u:(P.info? (ρ.t 9)).map (·.size)=some N:=by obtain ⟨i0,τ,h0,h1,h2⟩:=info_parts L.i9;grind
 have ae:(n+m)*N<=c*N:=Nat.mul_le_mul_right _ C;have Z:(i+m)*N+(n+m-(i+m))*N=(n+m)*N:=by rw[<-Nat.add_mul];grind
 have D:∀p,(callFunc (ρ.f 29) #[.slice (some ⟨a,d,none⟩) m l,.slice (some ⟨b,off+(i+m)*N,none⟩) (n+m-(i+m)) p]).run P w=.ok (.value (.bool false)) w:=λp=>by
  rw[L.ov];by_cases y:a=b;·subst y;rw[kW w (ρ.t 24) (ρ.t 4) (ρ.t 9) L.mB N L.z9 a d (off+(i+m)*N) m l (n+m-(i+m)) p (by omega)];rfl
  ·rw[Lib.run_overlaps_apart w (ρ.t 24) (ρ.t 4) (ρ.t 9) L.mB N L.z9 ⟨a,d,none⟩ ⟨b,off+(i+m)*N,none⟩ m l (n+m-(i+m)) p y B A q r S K J M O];rfl
 have I:(cs.drop (i*N)).length=(n-i)*N:=by grind
 have V:=L.jN;have ε:IntKind.i64.wrap ((i:Int)+(m:Int))=(i:Int)+(m:Int):=by rw[IntKind.wrap_i64];omega
 have aa:(0:Int)<=(i:Int)+(m:Int):=by omega
 have aj:i<=n:=by omega
 have θ:((i:Int)+(m:Int)).toNat=i+m:=by omega
 have δ:¬(c=i+m):=by omega
 have ψ:(i:Int)<=(n:Int)+(m:Int):=by omega
 have κ:¬(c=i):=by omega
 have α:∀j,j<(n-i)*N->(i+m)*N+j<(n+m)*N:=λj f=>by grind
 have X:∀j,j<m*N->i*N+j<(n+m)*N:=λj f=>by grind
 have t:∀ty g s,(Builtin.copy_ #[(ρ.t 24),(ρ.t 24)] ty #[.slice (some ⟨b,off+(i+m)*N,none⟩) (n+m-(i+m)) g,.slice (some ⟨b,off+i*N,none⟩) (n+m-i) s]).run P w.drew=.ok (goInt (n-i:Nat)) (w.drew.setCells b (off+(i+m)*N) (cs.drop (i*N))):=λty g s=>jC w.drew _ _ ty (ρ.t 9) N b (off+(i+m)*N) (n+m-(i+m)) g ⟨b,off+i*N,none⟩ (n+m-i) s (n-i) (cs.drop (i*N)) L.mB u (by grind) I (λj v f=>by rw[Addr.add_lit,Nat.add_assoc];simp_all) (λj f=>by rw[Nat.add_assoc];simp_all) (λj f=>by rw[Nat.add_assoc];simp_all) (λv T=>H v (List.mem_of_mem_drop T));obtain ⟨W1,o⟩:∃W1,W1=w.drew.setCells b (off+(i+m)*N) (cs.drop (i*N)):=⟨_,rfl⟩;have β:∀k,k<(n+m)*N->(W1.cell? ⟨b,off+k,none⟩).isSome=true:=λk U=>by rw[o];exact isSome_setCells b _ _ _ (λj f=>by rw[Nat.add_assoc];simp_all) _ (F k U)
 have hcp2:∀(W:World),(∀x,W.cell? x=W1.cell? x)->(∀x,W.frozen? x=W1.frozen? x)->∀ty g,(Builtin.copy_ #[(ρ.t 24),(ρ.t 24)] ty #[.slice (some ⟨b,off+i*N,none⟩) (n+m-i) g,.slice (some ⟨a,d,none⟩) m l]).run P W=.ok (goInt m) (W.setCells b (off+i*N) vs):=λW R Q ty g=>jC W _ _ ty (ρ.t 9) N b (off+i*N) (n+m-i) g ⟨a,d,none⟩ m l m vs L.mB u (by grind) G (λj v f=>by
 have γ:j<m*N:=by grind
 rw[Addr.add_lit,R,o,World.cell?_setCells_out b _ _ _ _ (λh _=>by grind)];simp_all) (λj f=>by grind) (λj f=>by rw[Q,o,World.frozen?_setCells,Nat.add_assoc];simp_all) E;rw[<-o] at t;refine jm L.BQ rfl ?_;simp only[Body2.n22_ntmps ρ,List.size_toArray,List.length_cons,List.length_nil,Nat.reduceAdd,Nat.reduceSub,Array.replicate_succ,Array.replicate_zero,List.push_toArray,List.append_toArray,List.nil_append,List.cons_append];go_wp2_with (simp only[D]);go_region_law_o (refine step_copy_runI rfl _ _ (ρ.t 24) (ρ.t 24) rfl _ _ (by simp[Act.eval,Act.put]) (by simp[Act.eval,Act.put]) (t _ _ _) ?_);go_wp2_with (at_builtin;refine wpList_copy_runI _ rfl _ _ (ρ.t 24) (ρ.t 24) rfl _ _ rfl rfl (hcp2 _ (λ_=>rfl) (λ_=>rfl) _ _) ?_);go_ret;simp_all
set_option maxHeartbeats 4000000 in set_option maxRecDepth 100000 in theorem qt(L:oq P ρ nm N bts z)(b off n c d a m f:Nat)(vs:List Value)(w:World)(M:0<m)(g:n+m<=c)(l:c<=9223372036854775807)(F:vs.length=m*N)(q:∀j,j<m*N->(w.cell? ⟨b,off+n*N+j,none⟩).isSome=true)(p:∀j,j<m*N->w.frozen? ⟨b,off+n*N+j,none⟩=false)(E:∀j v,vs[j]?=some v->w.cell? ⟨d,a+j,none⟩=some v)(o:∀v∈vs,v.oneCell'=true):Calls P (ρ.f 22) #[.slice (some ⟨b,off,none⟩) n c,.int .i64 n,.slice (some ⟨d,a,none⟩) m f] w λe w'=>e=.returned (.slice (some ⟨b,off,none⟩) (n+m) c)/\w'=w.setCells b (off+n*N) vs:=by
 have t0:=L.t0;have a0:=L.a0;have z0:=L.z0;have v0:=L.v0;have t3:=L.t3;have a3:=L.a3;have z3:=L.z3;have v3:=L.v3;have t4:=L.t4;have a4:=L.a4;have z4:=L.z4;have v4:=L.v4;have z9:=L.z9;have t:=L.mB;have B:=L.yb;have D:=L.yc;have C:=L.yd;have K:=run_underlying L.t0;have H:=run_underlying L.t3;have G:=run_underlying L.t4;have s:=run_underlying L.mB;have k:=L.jN;have r:¬((m:Int)=0):=by omega
 obtain ⟨J,i,y,x,A⟩:=info_parts L.i9;have h:∀ty,(Builtin.append_ #[(ρ.t 24),(ρ.t 24)] ty #[.slice (some ⟨b,off,none⟩) n c,.slice (some ⟨d,a,none⟩) m f]).run P w=.ok (.slice (some ⟨b,off,none⟩) (n+m) c) (w.setCells b (off+n*N) vs):=λty=>jI L.mB L.mB (.inl ⟨_,rfl⟩) i rfl (run_firstCells_some w _ m ⟨d,a,none⟩ m f vs (by grind) (λj u I=>by rw[Addr.add_lit];grind)) g rfl (by grind[run_storeCells_cells]);refine jm L.BQ rfl ?_;simp only[Body2.n22_ntmps ρ,List.size_toArray,List.length_cons,List.length_nil,Nat.reduceAdd,Nat.reduceSub,Array.replicate_succ,Array.replicate_zero,List.push_toArray,List.append_toArray,List.nil_append,List.cons_append];go_wp2_with (at_builtin;refine Lib.wpList_append_run _ rfl _ _ _ _ rfl _ _ rfl rfl _ _ (h _) ?_);go_ret;simp_all
set_option maxHeartbeats 4000000 in set_option maxRecDepth 100000 in theorem kX(L:oq P ρ nm N bts z)(base:Option Addr)(n c d b m h:Nat)(cs vs:List Value)(w:World)(X:0<m)(K:n<=c)(i:c<n+m)(A:((n+m:Nat):Int)<=9223372036854775807)(p:(n+m)*bts<=140737488355328)(B:cs.length=n*N)(R:vs.length=m*N)(l:base=none->n=0)(y:∀a,base=some a->∀j v,cs[j]?=some v->w.cell? (a.add j)=some v)(Q:∀j v,vs[j]?=some v->w.cell? ⟨d,b+j,none⟩=some v)(E:∀v∈vs,v.oneCell'=true):Calls P (ρ.f 22) #[.slice base n c,.int .i64 n,.slice (some ⟨d,b,none⟩) m h] w λe w'=>e=.returned (.slice (some ⟨w.heap.size,0,none⟩) (n+m) (grownCap w (n+m) c (ρ.t 9)))/\w'=w.drew.alloc (.cells ((cs++vs).toArray++Builtin.zeroCells z.cells (grownCap w (n+m) c (ρ.t 9)-(n+m))) (ρ.t 9)):=by
 have t0:=L.t0;have a0:=L.a0;have z0:=L.z0;have v0:=L.v0;have t3:=L.t3;have a3:=L.a3;have z3:=L.z3;have v3:=L.v3;have t4:=L.t4;have a4:=L.a4;have z4:=L.z4;have v4:=L.v4;have z9:=L.z9;have I:=L.mB;have J:=L.yb;have O:=L.yc;have M:=L.yd;have W:=run_underlying L.t0;have T:=run_underlying L.t3;have S:=run_underlying L.t4;have H:=run_underlying L.mB;have D:=L.jN;obtain ⟨f,s,u,t,x⟩:=info_parts L.i9;have G:¬((m:Int)=0):=by omega
 have q:Go.Src P f.size (ρ.t 24) (.slice (some ⟨d,b,none⟩) m h) m vs w:=by grind[Src.ofSlice,oq.mB,Addr.add_lit]
 have o:(Builtin.firstCells f.size n (.slice base n c)).run P w.drew=.ok cs.toArray w.drew:=by rw[t];cases base with|none=>have g:=l rfl;subst g;have r:cs=[]:=List.length_eq_zero_iff.1 (by omega);rw[r];exact run_firstCells_none w.drew N 0 0 c|some a=>exact run_firstCells_some w.drew N n a n c cs B (λj v C=>y a rfl j v C)
 have k:∀ty,(Builtin.append_ #[(ρ.t 24),(ρ.t 24)] ty #[.slice base n c,.slice (some ⟨d,b,none⟩) m h]).run P w=_:=λty=>run_append_grow_src w (ρ.t 24) (ρ.t 24) ty (ρ.t 9) f _ L.mB s u base n c cs o _ m vs q i A (by rw[x];exact growslice_fits i p);refine jm L.BQ rfl ?_;simp only[Body2.n22_ntmps ρ,List.size_toArray,List.length_cons,List.length_nil,Nat.reduceAdd,Nat.reduceSub,Array.replicate_succ,Array.replicate_zero,List.push_toArray,List.append_toArray,List.nil_append,List.cons_append];cases base with|none=>have g:=l rfl;subst g;go_wp2_with (at_builtin;refine Lib.wpList_append_run _ rfl _ _ _ _ rfl _ _ rfl rfl _ _ (k _) ?_);all_goals (go_ret;simp_all)|some a=>obtain ⟨U,V,F⟩:=a;go_wp2_with (at_builtin;refine Lib.wpList_append_run _ rfl _ _ _ _ rfl _ _ rfl rfl _ _ (k _) ?_);all_goals (go_ret;simp_all)
set_option maxHeartbeats 4000000 in set_option maxRecDepth 100000 in theorem xS(L:oq P ρ nm N bts z)(b:Option Addr)(n c i h:Nat)(v:Option Addr)(w:World)(y:i<=n)(q:n<=c)(f:b=none->i=0/\c=0):Calls P (ρ.f 22) #[.slice b n c,.int .i64 i,.slice v 0 h] w λe w'=>e=.returned (.slice b n c)/\w'=w:=by
 have t0:=L.t0;have a0:=L.a0;have z0:=L.z0;have v0:=L.v0;have t3:=L.t3;have a3:=L.a3;have z3:=L.z3;have v3:=L.v3;have t4:=L.t4;have a4:=L.a4;have z4:=L.z4;have v4:=L.v4;have z9:=L.z9;have o:=L.mB;have p:=L.yb;have s:=L.yc;have r:=L.yd;have B:=run_underlying L.t0;have u:=run_underlying L.t3;have t:=run_underlying L.t4;have m:=run_underlying L.mB;have j:=L.jN;have l:(i:Int)<=(n:Int):=by omega
 refine jm L.BQ rfl ?_;simp only[Body2.n22_ntmps ρ,List.size_toArray,List.length_cons,List.length_nil,Nat.reduceAdd,Nat.reduceSub,Array.replicate_succ,Array.replicate_zero,List.push_toArray,List.append_toArray,List.nil_append,List.cons_append]
 cases b with|none=>
 obtain⟨g,d⟩:=f rfl;subst g;subst d;have :n=0:=by omega
 subst this;go_wp2;go_ret;simp_all|some a=>obtain⟨x,A,k⟩:=a;go_wp2;all_goals (go_ret;simp_all)
set_option maxHeartbeats 4000000 in set_option maxRecDepth 100000 in theorem xT(L:oq P ρ nm N bts z)(A:0<N)(β:z.cells.size=N)(b off n c i f l m r:Nat)(cs vs:List Value)(w:World)(hi:i<n)(hm:0<m)(an:n<=c)(κ:c<n+m)(aA:((n+m:Nat):Int)<=4611686018427387904)(μ:(n+m)*bts<=140737488355328)(S:cs.length=n*N)(γ:vs.length=m*N)(α:∀j v,cs[j]?=some v->w.cell? ⟨b,off+j,none⟩=some v)(I:∀j v,vs[j]?=some v->w.cell? ⟨f,l+j,none⟩=some v)(Q:∀v∈cs,v.oneCell'=true)(F:∀v∈vs,v.oneCell'=true):Calls P (ρ.f 22) #[.slice (some ⟨b,off,none⟩) n c,.int .i64 i,.slice (some ⟨f,l,none⟩) m r] w λe w'=>e=.returned (.slice (some ⟨w.heap.size,0,none⟩) (n+m) (grownCap w (n+m) c (ρ.t 9)))/\w'=(((w.alloc (.cells ((cs.take (i*N)).toArray++Builtin.zeroCells z.cells (n+m-i)++Builtin.zeroCells z.cells (grownCap w (n+m) c (ρ.t 9)-(n+m))) (ρ.t 9))).drew.setCells w.heap.size (i*N) vs).drew).setCells w.heap.size ((i+m)*N) (cs.drop (i*N)):=by
 have t0:=L.t0;have a0:=L.a0;have z0:=L.z0;have v0:=L.v0;have t3:=L.t3;have a3:=L.a3;have z3:=L.z3;have v3:=L.v3;have t4:=L.t4;have a4:=L.a4;have z4:=L.z4;have v4:=L.v4;have z9:=L.z9;have ay:=L.mB;have au:=L.yb;have ae:=L.yc;have av:=L.yd;have u0:=run_underlying L.t0;have u3:=run_underlying L.t3;have u4:=run_underlying L.t4;have ah:=run_underlying L.mB;have θ:=L.jN;obtain ⟨ε,ax,ak,Z,az⟩:=info_parts L.i9;have aw:¬((m:Int)=0):=by omega
 have ai:¬((i:Int)=(n:Int)):=by omega
 have ψ:(c:Int)<(n:Int)+(m:Int):=by omega
 have u:(P.info? (ρ.t 9)).map (·.size)=some N:=by grind
 have T:0<n*N:=Nat.mul_pos (by omega) A;have J:0<m*N:=Nat.mul_pos (by omega) A;have O:b<w.heap.size:=block_lt_of_cell (α 0 _ (List.getElem?_eq_getElem (by omega)));have X:f<w.heap.size:=block_lt_of_cell (I 0 _ (List.getElem?_eq_getElem (by omega)));have K:(n:Int)+(m:Int)-(i:Int)=((n+m-i:Nat):Int):=by omega
 have U:i+(n+m-i)=n+m:=by omega
 have M:i*N<=n*N:=Nat.mul_le_mul_right _ (by omega);have C:(Builtin.firstCells ε.size i (.slice (some ⟨b,off,none⟩) i c)).run P w.drew=.ok (cs.take (i*N)).toArray w.drew:=by rw[Z];exact run_firstCells_some w.drew N i ⟨b,off,none⟩ i c (cs.take (i*N)) (by grind) (λj v d=>by rw[Addr.add_lit];rw[List.getElem?_take] at d;simp_all)
 have o:∀ty,(Builtin.append_ #[(ρ.t 24),(ρ.t 3)] ty #[.slice (some ⟨b,off,none⟩) i c,.int .i64 ((n:Int)+(m:Int)-(i:Int))]).run P w=.ok (.slice (some ⟨w.heap.size,0,none⟩) (n+m) (grownCap w (n+m) c (ρ.t 9))) (w.drew.alloc (.cells ((cs.take (i*N)).toArray++Builtin.zeroCells z.cells (n+m-i)++Builtin.zeroCells z.cells (grownCap w (n+m) c (ρ.t 9)-(n+m))) (ρ.t 9))):=λty=>by grind[Nat.mul_le_mul_right,run_append_grow_zeros,oq.mB,oq.t3,growslice_fits]
 obtain ⟨G,p⟩:∃G,G=grownCap w (n+m) c (ρ.t 9):=⟨_,rfl⟩;obtain ⟨a,q⟩:∃a:Array Value,a=(cs.take (i*N)).toArray++Builtin.zeroCells z.cells (n+m-i)++Builtin.zeroCells z.cells (G-(n+m)):=⟨_,rfl⟩;rw[<-p] at o⊢;rw[<-q] at o⊢;have E:i*N+(n+m-i)*N=(n+m)*N:=by grind
 have V:(n+m)*N<=a.size:=by rw[q];simp only[Array.size_append,List.size_toArray,List.length_take,Builtin.zeroCells,Array.size_map,Array.size_range,β];omega
 obtain ⟨W1,k⟩:∃W1,W1=w.drew.alloc (.cells a (ρ.t 9)):=⟨_,rfl⟩;rw[<-k] at o;have af:∀j,j<(n+m)*N->(W1.cell? ⟨w.heap.size,j,none⟩).isSome=true:=λj d=>by rw[k,World.cell?_alloc_at (w:=w.drew) a _ w.heap.size j rfl,Array.getElem?_eq_getElem (by omega)];rfl
 have ar:∀j,W1.frozen? ⟨w.heap.size,j,none⟩=false:=λj=>by rw[k];exact World.frozen?_alloc_at (w:=w.drew) a _ w.heap.size j rfl
 have ω:∀j v,w.cell? ⟨b,j,none⟩=some v->W1.cell? ⟨b,j,none⟩=some v:=λj v h=>by rw[k,World.cell?_alloc_past (w:=w.drew) _ b j O];exact h
 have al:∀j v,w.cell? ⟨f,j,none⟩=some v->W1.cell? ⟨f,j,none⟩=some v:=λj v h=>by rw[k,World.cell?_alloc_past (w:=w.drew) _ f j X];exact h
 have H:(cs.drop (i*N)).length=(n-i)*N:=by rw[List.length_drop,S,Nat.sub_mul]
 have D:∀j,j<(n-i)*N->(i+m)*N+j<(n+m)*N:=λj d=>by grind
 have B:∀j,j<m*N->i*N+j<(n+m)*N:=λj d=>by grind
 have hcpA:∀(W:World),(∀x,W.cell? x=W1.cell? x)->(∀x,W.frozen? x=W1.frozen? x)->∀ty g,(Builtin.copy_ #[(ρ.t 24),(ρ.t 24)] ty #[.slice (some ⟨w.heap.size,i*N,none⟩) (n+m-i) g,.slice (some ⟨f,l,none⟩) m r]).run P W=.ok (goInt m) (W.setCells w.heap.size (i*N) vs):=λW t y ty g=>jC W _ _ ty (ρ.t 9) N w.heap.size (i*N) (n+m-i) g ⟨f,l,none⟩ m r m vs L.mB u (by grind) γ (λj v d=>by rw[Addr.add_lit,t];grind) (λj d=>by grind) (λj d=>by grind) F;have ad:n+m<=G:=by rw[p];exact grownCap_ge w _ _ _
 have π:G<=9223372036854775807:=by have :=grownCap_le_maxLen w (n+m) c (ρ.t 9) (by unfold maxLen;omega);rw[<-p] at this;unfold maxLen at this;omega
 have ab:¬(G=i):=by omega
 have σ:¬(G=i+m):=by omega
 have φ:¬(c=i):=by omega
 have ao:b≠w.heap.size:=by omega
 have hcpB:∀(W:World),(∀x,W.cell? x=(W1.setCells w.heap.size (i*N) vs).cell? x)->(∀x,W.frozen? x=(W1.setCells w.heap.size (i*N) vs).frozen? x)->∀ty g s,(Builtin.copy_ #[(ρ.t 24),(ρ.t 24)] ty #[.slice (some ⟨w.heap.size,(i+m)*N,none⟩) (n+m-(i+m)) g,.slice (some ⟨b,off+i*N,none⟩) (n-i) s]).run P W=.ok (goInt (n-i:Nat)) (W.setCells w.heap.size ((i+m)*N) (cs.drop (i*N))):=λW t y ty g s=>jC W _ _ ty (ρ.t 9) N w.heap.size ((i+m)*N) (n+m-(i+m)) g ⟨b,off+i*N,none⟩ (n-i) s (n-i) (cs.drop (i*N)) L.mB u (by grind) H (λj v d=>by grind[Addr.add_lit,World.cell?_setCells_out,Nat.add_assoc]) (λj d=>by grind[isSome_setCells]) (λj d=>by rw[y,World.frozen?_setCells];grind) (λv δ=>Q v (List.mem_of_mem_drop δ));subst k;have hE1:∀x,((w.alloc (.cells a (ρ.t 9))).drew).cell? x=(w.drew.alloc (.cells a (ρ.t 9))).cell? x:=λx=>rfl;have hE2:∀x,((w.alloc (.cells a (ρ.t 9))).drew).frozen? x=(w.drew.alloc (.cells a (ρ.t 9))).frozen? x:=λx=>rfl;have Y:∀x,(((w.alloc (.cells a (ρ.t 9))).drew.setCells w.heap.size (i*N) vs).drew).cell? x=((w.drew.alloc (.cells a (ρ.t 9))).setCells w.heap.size (i*N) vs).cell? x:=λx=>rfl;have R:∀x,(((w.alloc (.cells a (ρ.t 9))).drew.setCells w.heap.size (i*N) vs).drew).frozen? x=((w.drew.alloc (.cells a (ρ.t 9))).setCells w.heap.size (i*N) vs).frozen? x:=λx=>rfl;have τ:IntKind.i64.wrap ((i:Int)+(m:Int))=(i:Int)+(m:Int):=by rw[IntKind.wrap_i64];omega
 have aa:(0:Int)<=(i:Int)+(m:Int):=by omega
 have aq:i<=n:=by omega
 have ag:((i:Int)+(m:Int)).toNat=i+m:=by omega
 have aj:(i:Int)<=(n:Int):=by omega
 clear K U C q p V E T J M D B;refine jm L.BQ rfl ?_;simp only[Body2.n22_ntmps ρ,List.size_toArray,List.length_cons,List.length_nil,Nat.reduceAdd,Nat.reduceSub,Array.replicate_succ,Array.replicate_zero,List.push_toArray,List.append_toArray,List.nil_append,List.cons_append];go_wp2_with (first|(at_builtin;refine Lib.wpList_append_run _ rfl _ _ _ _ rfl _ _ rfl rfl _ _ (o _) ?_)|(at_builtin;refine wpList_copy_runI _ rfl _ _ (ρ.t 24) (ρ.t 24) rfl _ _ rfl rfl (hcpA _ hE1 hE2 _ _) ?_)|(at_builtin;refine wpList_copy_runI _ rfl _ _ (ρ.t 24) (ρ.t 24) rfl _ _ rfl rfl (hcpB _ (λ_=>rfl) (λ_=>rfl) _ _ _) ?_));go_region_law_o (refine step_copy_runI rfl _ _ (ρ.t 24) (ρ.t 24) rfl (.slice (some ⟨w.heap.size,(i+m)*N,none⟩) (n+m-(i+m)) (G-(i+m))) (.slice (some ⟨b,off+i*N,none⟩) (n-i) (c-i)) (by simp[Act.eval,Act.put]) (by simp[Act.eval,Act.put]) (hcpB _ Y R (ρ.t 3) (G-(i+m)) (c-i)) ?_);go_wp2;go_ret;simp_all
end Go.Tm
namespace Go.Tm
open Go Go.Shelf
def dz(k m:Nat):ax->ax|.o (id::s)=>if id=1 then (match s with|j::r=>.o (1::(if j<k then j else j+m)::r)|[]=>.x)else if id=129 then (match s with|j::r=>.o (1::(k+j)::r)|[]=>.x)else .o (id::s)|q=>q
theorem xU{k m:Nat}{q:ax}{π:List Nat}(h:dz k m q=.o π):∃π',q=.o π':=by unfold dz at h;grind
theorem vS{k m:Nat}{q:ax}(a:q≠.o []):dz k m q≠.o []:=by unfold dz;grind
theorem vT{k m j:Nat}(r:List Nat)(h:j<k):dz k m (.o (1::j::r))=.o (1::j::r):=by simp[dz,h]
theorem vU{k m j:Nat}(r:List Nat)(h:k<=j):dz k m (.o (1::j::r))=.o (1::(j+m)::r):=by grind[dz]
theorem tZ{k m j:Nat}(r:List Nat):dz k m (.o (129::j::r))=.o (1::(k+j)::r):=by simp[dz]
theorem qv{α:Type}{l:List α}{a n t:Nat}{v:α}(h:((l.drop a).take n)[t]?=some v):l[a+t]?=some v/\t<n:=by grind
section
variable{P:Program}{w w':World}{o:Nat->Nat->ax}{es:af}{ms:List Md}
theorem sK{xs vs:List es.D}{k B O C:Nat}{olds m:List Value}(α:k<=xs.length)(hw:Wf w o)(φ:olds.length=xs.length*es.len)(S:m.length=vs.length*es.len)(D:∀j x,aC xs j=some x->es.Vs P w o ms (λq=>.o [1,j,q]) 0 x ((olds.drop (j*es.len)).take es.len))(N:∀j x,aC vs j=some x->es.Vs P w o ms (λq=>.o [129,j,q]) 0 x ((m.drop (j*es.len)).take es.len))(ρ:∀t v,(olds.take (k*es.len)++(m++olds.drop (k*es.len)))[t]?=some v->w'.cell? ⟨B,O+t,none⟩=some v)(K:∀t,t<C*es.len->∃v,w'.cell? ⟨B,O+t,none⟩=some v)(ψ:∀j,w'.frozen? ⟨B,j,none⟩=false)(hC:xs.length+vs.length<=C)(L:C<=9223372036854775807)(μ:∀b t v,w.cell? ⟨b,t,none⟩=some v->¬(b=B/\O<=t/\t<O+C*es.len)->w'.cell? ⟨b,t,none⟩=some v)(Q:∀b t v,w.cell? ⟨b,t,none⟩=some v->(b=B/\O<=t/\t<O+C*es.len)->o b t=.o [1])(β:w'.os=w.os)(U:w'.tape=w.tape)(Y:w'.output=w.output)(ε:w.heap.size<=w'.heap.size)(σ:∀b,b<w.heap.size->b≠B->w'.heap[b]?=w.heap[b]?)(hB:B<w.heap.size->∃t,o B t=.o [1])(J:∀b t v,w.cell? ⟨b,t,none⟩=some v->∃V,w'.cell? ⟨b,t,none⟩=some V)(R:∀b j,b<w.heap.size->w'.frozen? ⟨b,j,none⟩=w.frozen? ⟨b,j,none⟩):∃o',Fr w o w' o'/\Wf w' o'/\(Ty.sl es).H P w' o' (.own ms) (.o [1]) (bV (xs.take k) (bV vs (xs.drop k))) (.slice (some ⟨B,O,none⟩) (xs.length+vs.length) C):=by
 let o':Nat->Nat->ax:=λb t=>if b=B/\O<=t/\t<O+C*es.len then .o [1]else dz k vs.length (o b t);have T:∀{b t},(b=B/\O<=t/\t<O+C*es.len)->o' b t=.o [1]:=λh=>if_pos h;have E:∀{b t},¬(b=B/\O<=t/\t<O+C*es.len)->o' b t=dz k vs.length (o b t):=λh=>if_neg h;have M:∀b t v,w.cell? ⟨b,t,none⟩=some v->o b t≠.o [1]->¬(b=B/\O<=t/\t<O+C*es.len):=λb t v c ho h=>ho (Q b t v c h);have n:Fr w o w' o':=by
  refine ⟨β,U,Y,ε,λb δ I=>?_,λb t v c I=>?_,J,R⟩;·grind
  ·have ad:=M b t v c (I _);simp_all [dz,af.D,ax.casesOn]
 have κ:Wf w' o':=by
  refine ⟨λb t π h=>?_,λb t h=>?_⟩
  · by_cases i:b=B/\O<=t/\t<O+C*es.len;· obtain ⟨rfl,f,p⟩:=i;obtain ⟨v,c⟩:=K (t-O) (by omega);simp_all
    · rw [E i]at h;obtain ⟨π',γ⟩:=xU h;obtain ⟨⟨v,c⟩,hz⟩:=hw.cell b t _ γ;grind [cV]
  · by_cases i:b=B/\O<=t/\t<O+C*es.len;· grind
    · rw [E i]at h;exact vS (hw.ne b t) h
 refine ⟨o',n,κ,bI.2 ⟨some ⟨B,O,none⟩,C,?_,?_,.inr ⟨⟨B,O,none⟩,rfl,⟨rfl,L⟩,λt e=>T ⟨rfl,Nat.le_add_right _ _,Nat.add_lt_add_left e _⟩,?_⟩⟩⟩;· grind [af.D,bV]
 · grind [af.D,bV]
 · intro a g d;have z:∀(id j A:Nat),(id=1\/id=129)->(∀r,dz k vs.length (.o (id::j::r))=.o (1::A::r))->∀q,Rl w o w' o' (.o [id,j,q]) (.o [1,A,q]):=λid j A ab h q=>.inl ⟨_,rfl,λb t s v c ho=>by grind⟩;have u:∀l,es.Vs P w' o' ms (λq=>.o [1,a,q]) 0 g l->(∀t v,l[t]?=some v->(olds.take (k*es.len)++(m++olds.drop (k*es.len)))[a*es.len+t]?=some v)->(∀t,t<es.len->O+a*es.len+t<O+C*es.len)->es.Hs P w' o' ms (.o [1]) (λj=>.o ([1]++[a,j])) 0 g B (O+a*es.len):=λl W i δ=>by refine eK es W (λt v c=>?_);grind [af.len,iV]
   have y:∀t,a<xs.length+vs.length->t<es.len->O+a*es.len+t<O+C*es.len:=λt f p=>by have :(a+1)*es.len<=C*es.len:=Nat.mul_le_mul_right _ (by omega);grind
   have ω:k*es.len<=xs.length*es.len:=Nat.mul_le_mul_right _ α;have F:(olds.take (k*es.len)).length=k*es.len:=by grind
   unfold aC bV at d;by_cases c1:a<k;· rw [List.getElem?_append_left (by grind),List.getElem?_take,if_pos c1]at d;refine u _ (jH n.dK hw es ms (z 1 a a (.inl rfl) (λr=>vT r c1)) (D a g d)) (λt v c=>?_) (λt e=>y t (by omega) e);obtain ⟨f,p⟩:=qv c;have :(a+1)*es.len<=k*es.len:=Nat.mul_le_mul_right _ c1;grind
   · rw [List.getElem?_append_right (by grind)]at d;have θ:(xs.take k).length=k:=by grind
     rw [θ]at d;have τ:k*es.len<=a*es.len:=Nat.mul_le_mul_right _ (by omega);by_cases G:a-k<vs.length;· rw [List.getElem?_append_left G]at d;refine u _ (jH n.dK hw es ms (z 129 (a-k) a (.inr rfl) (λr=>by grind [dz,af.D,tZ])) (N (a-k) g d)) (λt v c=>?_) (λt e=>y t (by omega) e);obtain ⟨f,p⟩:=qv c;have Z:(a-k)*es.len=a*es.len-k*es.len:=Nat.sub_mul _ _ _;have :(a-k+1)*es.len<=vs.length*es.len:=Nat.mul_le_mul_right _ G;rw [Nat.add_mul,Nat.one_mul]at this;rw [List.getElem?_append_right (by omega),F,List.getElem?_append_left (by omega),show a*es.len+t-k*es.len=(a-k)*es.len+t by omega];exact f
     · rw [List.getElem?_append_right (by omega),List.getElem?_drop]at d;have aa:k+(a-k-vs.length)<xs.length:=(List.getElem?_eq_some_iff.1 d).1;refine u _ (jH n.dK hw es ms (z 1 (k+(a-k-vs.length)) a (.inl rfl) (λr=>by rw [vU r (by omega)];grind)) (D _ g d)) (λt v c=>?_) (λt e=>y t (by omega) e);obtain ⟨f,p⟩:=qv c;have Z:(k+(a-k-vs.length))*es.len=a*es.len-vs.length*es.len:=by rw [<-Nat.sub_mul];grind
       have X:(k+vs.length)*es.len<=a*es.len:=Nat.mul_le_mul_right _ (by omega);rw [Nat.add_mul]at X;rw [List.getElem?_append_right (by omega),F,List.getElem?_append_right (by omega),List.getElem?_drop,S];rw [show k*es.len+(a*es.len+t-k*es.len-vs.length*es.len)=(k+(a-k-vs.length))*es.len+t by omega];exact f
end
section
variable{w:World}{b o:Nat}{vs:List Value}
theorem pd(h:∀j,j<vs.length->(w.cell? ⟨b,o+j,none⟩).isSome=true){j:Nat}{v:Value}(c:vs[j]?=some v):(w.setCells b o vs).cell? ⟨b,o+j,none⟩=some v:=by obtain ⟨a,rfl⟩:=List.getElem?_eq_some_iff.1 c;have :=World.cell?_setCells_in b vs o w h j a;omega
theorem eG{b' t:Nat}(h:b'=b->t<o\/o+vs.length<=t):(w.setCells b o vs).cell? ⟨b',t,none⟩=w.cell? ⟨b',t,none⟩:=World.cell?_setCells_out b vs o w ⟨b',t,none⟩ (λa _=>h a)
theorem iB(h:∀j,j<vs.length->(w.cell? ⟨b,o+j,none⟩).isSome=true){b' t:Nat}{v:Value}(e:w.cell? ⟨b',t,none⟩=some v):∃a,(w.setCells b o vs).cell? ⟨b',t,none⟩=some a:=by
 by_cases c:b'=b/\o<=t/\t<o+vs.length;·obtain ⟨rfl,f,d⟩:=c;have :=pd (w:=w) h (List.getElem?_eq_getElem (show t-o<vs.length by omega));grind
 grind[eG]
end
def Av(es:af)(ms:List Md):List bX:=[⟨.c,.cons (.sl es) .nil,[.own ms]⟩,⟨.c,.cons (.int .i64) .nil,[]⟩,⟨.c,.cons (.sl es) .nil,[.own ms]⟩]
def zh(es:af)(ms:List Md):List bX:=[⟨.c,.cons (.sl es) .nil,[.own ms]⟩]
def kh(es:af)(ms:List Md)(bts:Nat):zi:=⟨Av es ms,zh es ms,Ao es bts⟩
theorem oa{w:World}{b t:Nat}{v:Value}(h:w.cell? ⟨b,t,none⟩=some v):∃c a,w.shape? b=some (c,a)/\t<a:=by unfold World.cell? at h;unfold World.shape?;grind
section
variable{P:Program}{ρ:Ren}{nm:String}{N bts:Nat}{z:Value}{es:af}{ms:List Md}
theorem vV(L:oq P ρ nm es.len bts z)(ao:0<es.len)(μ:z.cells.size=es.len){w:World}{o:Nat->Nat->ax}{xs vs:List es.D}{i:Int}{sv vv:Value}(hs:(Ty.sl es).H P w o (.own ms) (.o [1]) xs sv) (Z:(Ty.sl es).H P w o (.own ms) (.o [129]) vs vv) (hw:Wf w o) (hc:(km 0 i&&(km i (xs.length:Int)&&dE (xs.length+vs.length) bts))=true):Calls P (ρ.f 22) #[sv,.int .i64 i,vv] w λe w'=>∃M o',e=.returned (lU M)/\M.length=gg (kh es ms bts)/\Fr w o w' o'/\Wf w' o'/\iW P w' o' (kh es ms bts).aX 0 ((bV (xs.take i.toNat) (bV vs (xs.drop i.toNat)),()),()) M (aK (kh es ms bts).ins [sv,.int .i64 i,vv]):=by
 simp only [Bool.and_eq_true] at hc;obtain⟨c1,c2,X⟩:=hc;have c1:0<=i:=by grind [km]
 have c2:i<=(xs.length:Int):=by simpa [km] using c2
 obtain⟨k,rfl⟩:=Int.eq_ofNat_of_zero_le c1;have π:k<=xs.length:=by omega
 simp only [Int.toNat_natCast];unfold dE at X;simp only [decide_eq_true_eq] at X;obtain⟨X,c4⟩:=X;have an:(xs.length+vs.length)*bts<=140737488355328:=by omega
 have bq:xs.length+vs.length<=70368744177664:=Nat.le_trans (Nat.le_mul_of_pos_right _ c4) X;obtain⟨sa,p,rfl,ai,aZ⟩:=bI.1 hs;obtain⟨va,C,rfl,aA,bb⟩:=bI.1 Z;have Q:∀{e:Ending}{w':World}{b:Option Addr}{n c:Nat},e=.returned (.slice b n c)->(∃o',Fr w o w' o'/\Wf w' o'/\(Ty.sl es).H P w' o' (.own ms) (.o [1]) (bV (xs.take k) (bV vs (xs.drop k))) (.slice b n c))->∃M o',e=.returned (lU M)/\M.length=gg (kh es ms bts)/\Fr w o w' o'/\Wf w' o'/\iW P w' o' (kh es ms bts).aX 0 ((bV (xs.take k) (bV vs (xs.drop k)),()),()) M (aK (kh es ms bts).ins [.slice sa xs.length p,.int .i64 k,.slice va vs.length C]):=by rintro e w' b n c rfl⟨o',τ,h2,h3⟩;exact⟨[.slice b n c],o',rfl,rfl,τ,h2,⟨_,[],rfl,h3,rfl⟩,rfl,rfl⟩
 by_cases hm:vs=[]
 · subst hm;refine Calls.mono (xS L sa xs.length p k C va w π ai (λe=>?_)) λe w' m=>?_;· grind
   · obtain⟨m,rfl⟩:=m;refine Q m ⟨o,Fr.gj _ _,hw,?_⟩;simp_all [af.D,bV,Ty.H]
 · have R:0<vs.length:=List.length_pos_iff.2 hm;rcases bb with ⟨τ,_⟩|⟨aW,rfl,aL,κ,aU⟩;· omega
   obtain ⟨F,s,aP⟩:=aW;have aD:aP=none:=aL.1;subst aD;obtain ⟨f,I,U,n3,n4⟩:=ez (qf:=λi j=>.o ([129]++[i,j])) vs s 0 (by simpa using aU);have ar:∀j x,aC vs j=some x->es.Vs P w o ms (λq=>.o [129,j,q]) 0 x ((f.drop (j*es.len)).take es.len):=λj x hx=>by simp_all
   have V:∀v∈f,v.oneCell'=true:=λv Z=>ey (n3 v Z);have bm:0<vs.length*es.len:=Nat.mul_pos R ao;have ψ:∀{olds:List Value}{g:World}{row:Array Value}{G:Nat}{t9:TypeId},olds.length=xs.length*es.len->(∀j x,aC xs j=some x->es.Vs P w o ms (λq=>.o [1,j,q]) 0 x ((olds.drop (j*es.len)).take es.len))->xs.length+vs.length<=G->G<=9223372036854775807->(∀b t v,w.cell? ⟨b,t,none⟩=some v->g.cell? ⟨b,t,none⟩=some v)->(∀t v,(olds.take (k*es.len)++(f++olds.drop (k*es.len)))[t]?=some v->g.cell? ⟨w.heap.size,t,none⟩=some v)->(∀t,t<G*es.len->∃v,g.cell? ⟨w.heap.size,t,none⟩=some v)->(∀j,g.frozen? ⟨w.heap.size,j,none⟩=false)->g.os=w.os->g.tape=w.tape->g.output=w.output->w.heap.size<=g.heap.size->(∀b,b<w.heap.size->g.heap[b]?=w.heap[b]?)->(∀b j,b<w.heap.size->g.frozen? ⟨b,j,none⟩=w.frozen? ⟨b,j,none⟩)->∃o',Fr w o g o'/\Wf g o'/\(Ty.sl es).H P g o' (.own ms) (.o [1]) (bV (xs.take k) (bV vs (xs.drop k))) (.slice (some ⟨w.heap.size,0,none⟩) (xs.length+vs.length) G):=λ{olds g row G t9}f1 f2 f3 aO σ f5 f6 f7 f8 f9 aQ bf aT aS=>sK (B:=w.heap.size) (O:=0) π hw f1 I f2 ar (λt v h=>by grind) (λt h=>by grind) f7 f3 aO (λb t v h _=>σ b t v h) (λb t v h A=>by grind [cV]) f8 f9 aQ bf (λb h _=>aT b h) (λh=>by omega) (λb t v h=>⟨v,σ b t v h⟩) aS;have aq:∀{row:Array Value}{t9:TypeId}(b t:Nat) (v:Value),w.cell? ⟨b,t,none⟩=some v->(w.drew.alloc (.cells row t9)).cell? ⟨b,t,none⟩=some v:=λb t v h=>by rw [World.cell?_alloc_past (w:=w.drew) _ b t (cV h)];exact h
   rcases aZ with ⟨τ,h2⟩|⟨aH,rfl,av,J,aN⟩
   · subst τ;subst h2;have bd:k=0:=by omega
     subst bd;refine Calls.mono (kX L sa 0 0 F s vs.length C [] f w R (Nat.le_refl _) (by omega) (by omega) (by omega) (by simp) I (λ_=>rfl) (λ_ _ j v h=>by grind) (λj v h=>(U j v h).1) V) λe w' m=>?_;obtain ⟨m,rfl⟩:=m;refine Q m (ψ (olds:=[]) (row:=#[]) (t9:=0) (by simp) (λj x h=>by simp [aC] at h) (by simpa using grownCap_ge w _ _ _) (by have :=grownCap_le_maxLen w (0+vs.length) 0 (ρ.t 9) (by unfold maxLen;omega);unfold maxLen at this;omega) aq (λt v h=>?_) (λt h=>?_) (λj=>?_) rfl rfl rfl (by simp) (λb h=>?_) (λb j h=>?_));· rw [World.cell?_alloc_at (w:=w.drew) _ _ w.heap.size t rfl];grind
     · rw [World.cell?_alloc_at (w:=w.drew) _ _ w.heap.size t rfl];refine ⟨_,Array.getElem?_eq_getElem ?_⟩;have hg:=grownCap_ge w (0+vs.length) 0 (ρ.t 9);simp only [Array.size_append,List.size_toArray,Builtin.zeroCells,Array.size_map,Array.size_range,μ,List.nil_append,I];rw [<-Nat.add_mul];grind
     · exact World.frozen?_alloc_at (w:=w.drew) _ _ w.heap.size j rfl
     · simp only [World.alloc,Array.getElem?_push];rw [if_neg (by show¬b=w.heap.size;omega)];rfl
     · exact World.frozen?_alloc_old w.drew _ ⟨b,j,none⟩ (by show b≠w.heap.size;omega)
   · obtain ⟨l,d,bc⟩:=aH;have aF:bc=none:=av.1;subst aF;have aa:p<=9223372036854775807:=av.2;obtain ⟨olds,l1,l2,l3,l4⟩:=ez (qf:=λi j=>.o ([1]++[i,j])) xs d 0 (by simpa using aN);have ah:∀j x,aC xs j=some x->es.Vs P w o ms (λq=>.o [1,j,q]) 0 x ((olds.drop (j*es.len)).take es.len):=λj x hx=>by have :=l4 j x hx;grind
     have ay:∀v∈olds,v.oneCell'=true:=λv Z=>ey (l3 v Z);have J:∀t,t<p*es.len->o l (d+t)=.o [1]:=J;have κ:∀t,t<C*es.len->o F (s+t)=.o [129]:=κ;have aJ:k*es.len<=xs.length*es.len:=Nat.mul_le_mul_right _ π;by_cases θ:xs.length+vs.length<=p
     · have bk:(xs.length+vs.length)*es.len<=p*es.len:=Nat.mul_le_mul_right _ θ;have bh:xs.length*es.len+vs.length*es.len=(xs.length+vs.length)*es.len:=(Nat.add_mul _ _ _).symm;have S:∀t,t<p*es.len->(w.cell? ⟨l,d+t,none⟩).isSome=true:=λt φ=>by obtain ⟨⟨u,K⟩,_⟩:=hw.cell _ _ _ (J t φ);grind
       have ak:∀j,w.frozen? ⟨l,j,none⟩=false:=(hw.cell _ _ _ (J 0 (by omega))).2;have az:∀{g:World},(∀t v,(olds.take (k*es.len)++(f++olds.drop (k*es.len)))[t]?=some v->g.cell? ⟨l,d+t,none⟩=some v)->(∀b t v,w.cell? ⟨b,t,none⟩=some v->¬(b=l/\d<=t/\t<d+p*es.len)->g.cell? ⟨b,t,none⟩=some v)->(∀b t v,w.cell? ⟨b,t,none⟩=some v->∃v',g.cell? ⟨b,t,none⟩=some v')->g.os=w.os->g.tape=w.tape->g.output=w.output->g.heap.size=w.heap.size->(∀b,b≠l->g.heap[b]?=w.heap[b]?)->(∀b j,g.frozen? ⟨b,j,none⟩=w.frozen? ⟨b,j,none⟩)->∃o',Fr w o g o'/\Wf g o'/\(Ty.sl es).H P g o' (.own ms) (.o [1]) (bV (xs.take k) (bV vs (xs.drop k))) (.slice (some ⟨l,d,none⟩) (xs.length+vs.length) p):=λ{g}f1 f2 f3 σ f5 f6 f7 f8 f9=>sK (B:=l) (O:=d) π hw l1 I ah ar f1 (λt φ=>by obtain ⟨u,K⟩:=Option.isSome_iff_exists.1 (S t φ);grind) (λj=>by grind) θ aa f2 (λb t v _ A=>by obtain ⟨rfl,h5,h6⟩:=A;have :=J (t-d) (by omega);rwa [show d+(t-d)=t by omega] at this) σ f5 f6 (by omega) (λb _ A=>f8 b A) (λ_=>⟨d+0,J 0 (by omega)⟩) f3 (λb j _=>f9 b j);by_cases ag:k=xs.length
       · subst ag;have ab:∀j,j<f.length->(w.cell? ⟨l,d+xs.length*es.len+j,none⟩).isSome=true:=λj T=>by rw [Nat.add_assoc];exact S _ (by omega)
         refine Calls.mono (qt L l d xs.length p F s vs.length C f w R θ aa I (λj T=>ab j (by omega)) (λj _=>ak _) (λj v h=>(U j v h).1) V) λe w' m=>?_;obtain ⟨m,rfl⟩:=m;obtain ⟨Y,δ,β,ε,γ⟩:=bS l f (d+xs.length*es.len) w;refine Q m (az (λt v h=>?_) (λb t v h hn=>?_) (λb t v h=>iB ab h) Y δ β ε γ (λb j=>World.frozen?_setCells _ _ _ _ _))
         · rw [List.take_of_length_le (by omega),List.drop_eq_nil_of_le (by omega),List.append_nil] at h;by_cases aj:t<olds.length;· grind [af.D,af.len,eG]
           · rw [List.getElem?_append_right (by omega)] at h;have :=pd (w:=w) (b:=l) (o:=d+xs.length*es.len) ab h;rwa [show d+xs.length*es.len+(t-olds.length)=d+t by omega] at this
         grind [af.D,af.len,eG]
       · have ω:k<xs.length:=by omega
         have aR:(k+vs.length)*es.len=k*es.len+vs.length*es.len:=Nat.add_mul _ _ _;have bj:(k+vs.length)*es.len<=(xs.length+vs.length)*es.len:=Nat.mul_le_mul_right _ (by omega);obtain ⟨tA,kA,aM,bl⟩:=oa (U 0 _ (List.getElem?_eq_getElem (by omega))).1;obtain ⟨u0,ba⟩:=Option.isSome_iff_exists.1 (S 0 (by omega));obtain ⟨tB,kB,aY,bn⟩:=oa ba;have al:∀j,w.frozen? ⟨F,j,none⟩=false:=(hw.cell _ _ _ (κ 0 (by have :vs.length*es.len<=C*es.len:=Nat.mul_le_mul_right _ aA;omega))).2;have aB:F≠l\/s+vs.length*es.len<=d\/d+p*es.len<=s:=by
          by_cases aV:F=l
          · right;have br:vs.length*es.len<=C*es.len:=Nat.mul_le_mul_right _ aA;by_cases h5:s+vs.length*es.len<=d;· omega
            · right;by_cases h6:d+p*es.len<=s;· exact h6
              · exfalso;subst aV;by_cases h7:d<=s;· have q1:=J (s-d) (by omega);grind
                · have q1:=J 0 (by omega);have q2:=κ (d-s) (by omega);grind
          omega
         have aI:(olds.drop (k*es.len)).length=xs.length*es.len-k*es.len:=by grind
         have N:∀j,j<(olds.drop (k*es.len)).length->(w.drew.cell? ⟨l,d+(k+vs.length)*es.len+j,none⟩).isSome=true:=λj T=>by rw [Nat.add_assoc];exact S _ (by omega)
         have W:∀j,j<f.length->((w.drew.setCells l (d+(k+vs.length)*es.len) (olds.drop (k*es.len))).cell? ⟨l,d+k*es.len+j,none⟩).isSome=true:=λj T=>by obtain ⟨u,K⟩:=Option.isSome_iff_exists.1 (S (k*es.len+j) (by omega));obtain ⟨u',bp⟩:=iB (w:=w.drew) N K;grind
         refine Calls.mono (vR L l d xs.length p k F s vs.length C olds f w ω R θ aa aB l1 I (λj v h=>(l2 j v h).1) (λj T=>S j (by omega)) (λj _=>ak _) (λj v h=>(U j v h).1) ay V tA tB kA kB aM aY (by omega) (al _) (al _)) λe w' m=>?_;obtain ⟨m,rfl⟩:=m;obtain ⟨Y,δ,β,ε,γ⟩:=bS l (olds.drop (k*es.len)) (d+(k+vs.length)*es.len) w.drew;obtain ⟨e1,e2,e3,e4,e5⟩:=bS l f (d+k*es.len) (w.drew.setCells l (d+(k+vs.length)*es.len) (olds.drop (k*es.len)));refine Q m (az (λt v h=>?_) (λb t v h hn=>?_) (λb t v h=>?_) (e1.trans Y) (e2.trans δ) (e3.trans β) (e4.trans ε) (λb A=>(e5 b A).trans (γ b A)) (λb j=>by rw [World.frozen?_setCells,World.frozen?_setCells];rfl))
         · have ae:(olds.take (k*es.len)).length=k*es.len:=by grind
           by_cases aj:t<k*es.len;· rw [List.getElem?_append_left (by omega),List.getElem?_take,if_pos aj] at h;rw [eG (λ_=>by omega),eG (λ_=>by omega)];exact (l2 t v h).1
           · rw [List.getElem?_append_right (by omega),ae] at h;by_cases ad:t-k*es.len<f.length;· rw [List.getElem?_append_left ad] at h;have :=pd W h;grind
             · rw [List.getElem?_append_right (by omega)] at h;rw [eG (λ_=>by omega)];have :=pd N h;rwa [show d+(k+vs.length)*es.len+(t-k*es.len-f.length)=d+t by omega] at this
         · rw [eG (λe=>?_),eG (λe=>?_)];· exact h
           · omega
           omega
         · obtain ⟨u,K⟩:=iB (w:=w.drew) N h;exact iB W K
     · have aw:p<xs.length+vs.length:=by omega
       have hG:=grownCap_ge w (xs.length+vs.length) p (ρ.t 9);have au:grownCap w (xs.length+vs.length) p (ρ.t 9)<=9223372036854775807:=by have :=grownCap_le_maxLen w (xs.length+vs.length) p (ρ.t 9) (by unfold maxLen;omega);unfold maxLen at this;omega
       by_cases ag:k=xs.length
       · subst ag;refine Calls.mono (kX L (some ⟨l,d,none⟩) xs.length p F s vs.length C olds f w R ai aw (by omega) an l1 I (λe=>by cases e) (λa e j v h=>by grind [ew]) (λj v h=>(U j v h).1) V) λe w' m=>?_;obtain ⟨m,rfl⟩:=m;refine Q m (ψ (olds:=olds) (row:=#[]) (t9:=0) l1 ah hG au aq (λt v h=>?_) (λt h=>?_) (λj=>?_) rfl rfl rfl (by simp) (λb h=>?_) (λb j h=>?_));· rw [List.take_of_length_le (by omega),List.drop_eq_nil_of_le (by omega),List.append_nil] at h;rw [World.cell?_alloc_at (w:=w.drew) _ _ w.heap.size t rfl];grind
         · rw [World.cell?_alloc_at (w:=w.drew) _ _ w.heap.size t rfl];refine ⟨_,Array.getElem?_eq_getElem ?_⟩;simp only [Array.size_append,List.size_toArray,List.length_append,Builtin.zeroCells,Array.size_map,Array.size_range,μ,I,l1];rw [<-Nat.add_mul,<-Nat.add_mul];grind
         · exact World.frozen?_alloc_at (w:=w.drew) _ _ w.heap.size j rfl
         · simp only [World.alloc,Array.getElem?_push];rw [if_neg (by show¬b=w.heap.size;omega)];rfl
         · exact World.frozen?_alloc_old w.drew _ ⟨b,j,none⟩ (by show b≠w.heap.size;omega)
       · have ω:k<xs.length:=by omega
         have aR:(k+vs.length)*es.len=k*es.len+vs.length*es.len:=Nat.add_mul _ _ _;have aG:k*es.len+(xs.length+vs.length-k)*es.len=(xs.length+vs.length)*es.len:=by rw [<-Nat.add_mul];grind
         have bg:(k+vs.length)*es.len+(xs.length-k)*es.len=(xs.length+vs.length)*es.len:=by rw [<-Nat.add_mul];grind
         have aI:(olds.drop (k*es.len)).length=(xs.length-k)*es.len:=by grind
         refine Calls.mono (xT L ao μ l d xs.length p k F s vs.length C olds f w ω R ai aw (by omega) an l1 I (λj v h=>(l2 j v h).1) (λj v h=>(U j v h).1) ay V) λe w' m=>?_;obtain ⟨m,rfl⟩:=m;generalize aE:(olds.take (k*es.len)).toArray++Builtin.zeroCells z.cells (xs.length+vs.length-k)++Builtin.zeroCells z.cells (grownCap w (xs.length+vs.length) p (ρ.t 9)-(xs.length+vs.length))=y;have bs:y.size=grownCap w (xs.length+vs.length) p (ρ.t 9)*es.len:=by rw [<-aE];simp only [Array.size_append,List.size_toArray,List.length_take,Builtin.zeroCells,Array.size_map,Array.size_range,μ,l1];rw [Nat.min_eq_left aJ,aG,<-Nat.add_mul];grind
         have bo:(xs.length+vs.length)*es.len<=grownCap w (xs.length+vs.length) p (ρ.t 9)*es.len:=Nat.mul_le_mul_right _ hG;obtain ⟨r,E⟩:∃r,r=(w.alloc (.cells y (ρ.t 9))).drew:=⟨_,rfl⟩;rw [<-E];have c0:∀t,t<y.size->r.cell? ⟨w.heap.size,t,none⟩=y[t]?:=λt φ=>by rw [E];exact World.cell?_alloc_at (w:=w) y _ w.heap.size t rfl
         have a0:∀b t v,w.cell? ⟨b,t,none⟩=some v->r.cell? ⟨b,t,none⟩=some v:=λb t v h=>by rw [E];show (w.alloc (.cells y (ρ.t 9))).cell? ⟨b,t,none⟩=some v;rw [World.cell?_alloc_past (w:=w) _ b t (cV h)];exact h
         have N:∀j,j<f.length->(r.cell? ⟨w.heap.size,k*es.len+j,none⟩).isSome=true:=λj T=>by grind
         obtain ⟨W1,D⟩:∃W1,W1=(r.setCells w.heap.size (k*es.len) f).drew:=⟨_,rfl⟩;rw [<-D];have W:∀j,j<(olds.drop (k*es.len)).length->(W1.cell? ⟨w.heap.size,(k+vs.length)*es.len+j,none⟩).isSome=true:=λj T=>by
          have α:(k+vs.length)*es.len+j<y.size:=by omega
          obtain ⟨u,K⟩:=iB N (w:=r) (t:=(k+vs.length)*es.len+j) (b':=w.heap.size) (by rw [c0 _ α,Array.getElem?_eq_getElem α]);rw [D];show ((r.setCells w.heap.size (k*es.len) f).cell? _).isSome=true;grind
         obtain ⟨Y,δ,β,ε,γ⟩:=bS w.heap.size f (k*es.len) r;obtain ⟨e1,e2,e3,e4,e5⟩:=bS w.heap.size (olds.drop (k*es.len)) ((k+vs.length)*es.len) W1;have k1:∀{b t:Nat},W1.cell? ⟨b,t,none⟩=(r.setCells w.heap.size (k*es.len) f).cell? ⟨b,t,none⟩:=by intro b t;rw [D];rfl
         have z1:W1.os=w.os:=by rw [D];show (r.setCells w.heap.size (k*es.len) f).os=_;rw [Y,E];rfl
         have z2:W1.tape=w.tape:=by rw [D];show (r.setCells w.heap.size (k*es.len) f).tape=_;rw [δ,E];rfl
         have z3:W1.output=w.output:=by rw [D];show (r.setCells w.heap.size (k*es.len) f).output=_;rw [β,E];rfl
         have z4:W1.heap.size=w.heap.size+1:=by rw [D];show (r.setCells w.heap.size (k*es.len) f).heap.size=_;rw [ε,E];show (w.alloc (.cells y (ρ.t 9))).heap.size=_;simp
         have z5:∀b,b≠w.heap.size->W1.heap[b]?=w.heap[b]?:=λb A=>by rw [D];show (r.setCells w.heap.size (k*es.len) f).heap[b]?=_;rw [γ b A,E];show (w.alloc (.cells y (ρ.t 9))).heap[b]?=_;simp only [World.alloc,Array.getElem?_push];grind
         have z6:∀b j,W1.frozen? ⟨b,j,none⟩=(w.alloc (.cells y (ρ.t 9))).frozen? ⟨b,j,none⟩:=λb j=>by rw [D];show (r.setCells w.heap.size (k*es.len) f).frozen? _=_;rw [World.frozen?_setCells,E];rfl
         refine Q m (ψ (olds:=olds) (row:=#[]) (t9:=0) l1 ah hG au (λb t v h=>?_) (λt v h=>?_) (λt h=>?_) (λj=>?_) (e1.trans z1) (e2.trans z2) (e3.trans z3) (by omega) (λb h=>?_) (λb j h=>?_));· have A:=cV h;rw [eG (λe=>by omega),k1,eG (λe=>by omega)];grind
         · have ae:(olds.take (k*es.len)).length=k*es.len:=by grind
           by_cases aj:t<k*es.len;· grind [af.len,af.D,eG]
           · rw [List.getElem?_append_right (by omega),ae] at h;by_cases ad:t-k*es.len<f.length;· rw [List.getElem?_append_left ad] at h;rw [eG (λ_=>by omega),k1];have :=pd N h;rwa [show k*es.len+(t-k*es.len)=t by omega] at this
             · rw [List.getElem?_append_right (by omega)] at h;have :=pd W h;rwa [show (k+vs.length)*es.len+(t-k*es.len-f.length)=t by omega] at this
         · have α:t<y.size:=by omega
           obtain ⟨u,K⟩:=iB N (w:=r) (t:=t) (b':=w.heap.size) (by rw [c0 _ α,Array.getElem?_eq_getElem α]);exact iB W (by rw [k1];exact K)
         · grind [af.D,af.len,World.frozen?_setCells,World.frozen?_alloc_at]
         · grind
         grind [af.D,af.len,World.frozen?_setCells,World.frozen?_alloc_old]
theorem zI{N:Nat}(L:oq P ρ nm N bts z)(t:N=es.len)(j:0<N)(k:z.cells.size=N):nh P (ρ.f 22) (kh es ms bts):=by subst t;intro w o args x y a r hw;obtain⟨⟨xs,s⟩,⟨⟨i,m⟩,⟨⟨vs,p⟩,n⟩⟩⟩:=x;obtain⟨D,F,rfl,f,q,B,rfl,b,C,l,rfl,d,e⟩:=r;have e:l=[]:=e;subst e;obtain⟨v,H,c,f,g⟩:=f;cases c;obtain⟨A,E,c,b,g⟩:=b;cases c;obtain⟨u,G,c,d,g⟩:=d;cases c;have b:q=.int .i64 i:=b;subst b;have a:Ao es bts ((xs,s),((i,m),((vs,p),n)))=some y:=a;unfold Ao at a;dsimp only at a;cases h:(km 0 i&&(km i (List.length (α:=es.D) xs:Int)&&dE (List.length (α:=es.D) xs+List.length (α:=es.D) vs) bts)) with|false=>grind|true=>rw[h]at a;have a:=Option.some.inj a;subst a;exact vV (ms:=ms) L j k f d hw h
end
end Go.Tm
