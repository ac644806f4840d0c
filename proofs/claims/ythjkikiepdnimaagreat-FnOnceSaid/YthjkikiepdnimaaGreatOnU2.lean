/- Plain laws, part 2: what the program's functions and the reference's compute, told as plain words. Conditions: none. -/
import Derived.Test.YthjkikiepdnimaaGreatOnU1
namespace Go.Proofs.YthjkikiepdnimaaGreat
open Go Go.Tm
set_option linter.unusedVariables false
set_option maxRecDepth 100000
structure NW (n:DNd):Prop where
 v:NV n.2.1.toNat n.2.1.toNat n
 e0:0≤n.2.1
 pa:((nPast n).length:Int)=n.2.1
theorem NW.mk' {E P:Nat} {n:DNd} (v:NV E P n) (e0:0≤n.2.1) (pa:((nPast n).length:Int)=n.2.1):NW n :=
 ⟨⟨v.h,v.led,v.ep,by omega,v.vo,v.go,v.dn,by omega⟩,e0,pa⟩
structure AdvE (n m:DNd):Prop where
 a:Adv n m
 le:n.2.1≤m.2.1
 up:m.2.1≤n.2.1+1
theorem AdvE.refl (n:DNd):AdvE n n:=⟨Adv.refl n,Int.le_refl _,by omega⟩
theorem AdvE.trans {a b c:DNd} (h:AdvE a b) (k:AdvE b c) (he:b.2.1=a.2.1):AdvE a c:=⟨h.a.trans k.a,by have:=k.le;omega,by have:=k.up;omega⟩
theorem AdvE.trans' {a b c:DNd} (h:AdvE a b) (k:AdvE b c) (he:c.2.1=b.2.1):AdvE a c:=⟨h.a.trans k.a,by have:=h.le;omega,by have:=h.up;omega⟩
theorem commitR_pa (E P:Nat) (n:DNd) (q:DQc) (hV:NV E P n) (hE:E<900):((nPast (commitR n q)).length:Int) - (commitR n q).2.1=((nPast n).length:Int) - n.2.1:=by
 rcases commit_cases E P n q hV hE with ⟨_,e⟩|⟨_,⟨_,e⟩|⟨p,b,r,_,_,_,_,e,m⟩⟩
 ·rw [e]
 ·rw [e];rfl
 ·rw [e]
  show ((nPast n++ [proofN n q]).length:Int) - (nextR (foldR (nBase n) (p++ [b]))).1=_
  rw [m,List.length_append]
  simp only [List.length_cons,List.length_nil]
  omega
theorem setLn_nv {E P:Nat} {n:DNd} {q:DQc} (hV:NV E P n) (hq:QIn q):NV E P (setLn n q):=⟨setLn_in hV.h hq,hV.led,hV.ep,hV.le,hV.vo,hV.go,hV.dn,hV.pa⟩
theorem learn_nw {n:DNd} {q:DQc} (hV:NW n) (hq:QIn q) (hE:n.2.1<890):NW (learnN n q)∧AdvE n (learnN n q):=by
 have h0:=hV.e0
 have hE':n.2.1.toNat<900:=by omega
 obtain ⟨h1,h2⟩:=learnN_nv n.2.1.toNat n.2.1.toNat n q hV.v hq hE' (by omega)
 have h3:((nPast (learnN n q)).length:Int) - (learnN n q).2.1=((nPast n).length:Int) - n.2.1:=commitR_pa n.2.1.toNat n.2.1.toNat (setLn n q) q (setLn_nv hV.v hq) hE'
 have h4:=h1.le
 have h5:=hV.pa
 have h6:n.2.1≤(learnN n q).2.1:=by
  rcases h2.ca with ⟨e,_⟩|e<;>omega
 exact ⟨NW.mk' h1 (by omega) (by omega),h2,h6,by omega⟩
theorem tc_nw {n:DNd} {t:DTc} (hV:NW n) (ht:TIn t):NW (tcN n t)∧AdvE n (tcN n t)∧(tcN n t).2.1=n.2.1:=by
 obtain ⟨h1,h2⟩:=tcN_nv _ _ n t hV.v ht
 exact ⟨NW.mk' h1 hV.e0 hV.pa,⟨h2,Int.le_refl _,(by show n.2.1≤n.2.1+1;omega)⟩,rfl⟩
noncomputable def takeB (n:DNd) (b:DBk):Bool:=blockB b&&(iEq b.2.1 n.2.1&&(sEq b.2.2.2.1 (leaderS (nSet n) b.2.2.1)&&(qcB (nSet n) (bQc b)&&(tcB (nSet n) (bTc b)&&(followsB b&&(bodyD (nBase n) (nTree n) b&&addOk (nTree n) b))))))
noncomputable def take1 (n:DNd) (b:DBk):DNd:=learnN (setTree n (insB (nTree n) b)) (bQc b)
noncomputable def take2 (n:DNd) (b:DBk):DNd:=bif iEq (take1 n b).2.1 n.2.1 then tcN (take1 n b) (bTc b) else take1 n b
noncomputable def takeM (n:DNd) (b:DBk):DNd:=bif iEq (take2 n b).2.1 n.2.1&&iEq (nHigh (take2 n b)).2.1 b.1 then learnN (take2 n b) (nHigh (take2 n b)) else take2 n b
noncomputable def takeN (n:DNd) (b:DBk):DNd:=bif takeB n b then takeM n b else n
theorem insB_ok {l:List DBk} {b:DBk} (hl:(Ty.sl e71).Ok l) (h4:l.length≤400) (hb:e71.Ok b):(Ty.sl e71).Ok (insB l b) :=
 Ok_of (Nat.le_trans (Nat.le_of_eq (insB_len l b)) (Nat.le_trans (Nat.succ_le_succ h4) (by decide))) (fun c hc=>by
  rcases insB_mem.1 hc with h|h
  ·exact Ok_mem hl.2 h
  ·rw [h];exact hb)
structure TakeC (n:DNd) (b:DBk):Prop where
 blk:blockB b=true
 ep:b.2.1=n.2.1
 by':sEq b.2.2.2.1 (leaderS (nSet n) b.2.2.1)=true
 qc:qcB (nSet n) (bQc b)=true
 tc:tcB (nSet n) (bTc b)=true
 fo:followsB b=true
 bo:bodyD (nBase n) (nTree n) b=true
 new:∀c∈nTree n,c.1≠b.1
 tr:treeB (insB (nTree n) b)=true
theorem takeC {n:DNd} {b:DBk} (ht:TreeF (nTree n)) (h:takeB n b=true):TakeC n b:=by
 unfold takeB at h
 simp only [Bool.and_eq_true] at h
 obtain ⟨h1,h2,h3,h4,h5,h6,h7,h8⟩:=h
 unfold addOk at h8
 simp only [Bool.and_eq_true] at h8
 refine ⟨h1,iEq_iff.1 h2,h3,h4,h5,h6,h7,fun c hc e=>?_,h8.2⟩
 have:=(getI_blkAt ht hc).2
 rw [e,h8.1] at this
 cases this
theorem take1_nw {n:DNd} {b:DBk} (hV:NW n) (hb:e71.Ok b) (hbL:BlockL b) (hE:n.2.1<890) (ht:takeB n b=true):NW (setTree n (insB (nTree n) b))∧NW (take1 n b)∧AdvE n (take1 n b):=by
 have hC:=takeC hV.v.h.t ht
 have h1:NV n.2.1.toNat n.2.1.toNat (setTree n (insB (nTree n) b)):=setTree_nv hV.v (treeF hC.tr) (insB_ok hV.v.h.ok.tree hV.v.h.t.len hb) (fun c hc=>by
  rcases insB_mem.1 hc with h|h
  ·exact hV.v.h.bl c h
  ·rw [h];exact hbL)
 have h2:NW (setTree n (insB (nTree n) b)):=NW.mk' h1 hV.e0 hV.pa
 obtain ⟨h3,h4⟩:=learn_nw h2 (BOk.qin hb hbL) hE
 exact ⟨h2,h3,⟨(show Adv n (setTree n (insB (nTree n) b)) from ⟨rfl,.inl ⟨rfl,rfl,rfl⟩⟩).trans h4.a,h4.le,h4.up⟩⟩
theorem take2_nw {n:DNd} {b:DBk} (hV:NW n) (hb:e71.Ok b) (hbL:BlockL b) (hE:n.2.1<890) (ht:takeB n b=true):NW (take2 n b)∧AdvE n (take2 n b):=by
 obtain ⟨_,h3,h4⟩:=take1_nw hV hb hbL hE ht
 unfold take2
 cases iEq (take1 n b).2.1 n.2.1 with
 |false=>exact ⟨h3,h4⟩
 |true =>
  obtain ⟨k1,k2,k3⟩:=tc_nw h3 (BOk.tin hb hbL)
  exact ⟨k1,h4.trans' k2 k3⟩
theorem takeM_nw {n:DNd} {b:DBk} (hV:NW n) (hb:e71.Ok b) (hbL:BlockL b) (hE:n.2.1<890) (ht:takeB n b=true):NW (takeM n b)∧AdvE n (takeM n b):=by
 obtain ⟨h3,h4⟩:=take2_nw hV hb hbL hE ht
 unfold takeM
 cases hc:(iEq (take2 n b).2.1 n.2.1&&iEq (nHigh (take2 n b)).2.1 b.1) with
 |false=>exact ⟨h3,h4⟩
 |true =>
  simp only [Bool.and_eq_true] at hc
  have he:=iEq_iff.1 hc.1
  obtain ⟨k1,k2⟩:=learn_nw h3 (h3.v.h.ok.qin h3.v.h.l) (by omega)
  exact ⟨k1,h4.trans k2 he⟩
theorem take_nw {n:DNd} {b:DBk} (hV:NW n) (hb:e71.Ok b) (hbL:BlockL b) (hE:n.2.1<890):NW (takeN n b)∧AdvE n (takeN n b):=by
 unfold takeN
 cases ht:takeB n b with
 |false=>exact ⟨hV,AdvE.refl n⟩
 |true=>exact takeM_nw hV hb hbL hE ht
theorem s_take (n:DNd) (b:DBk) (hV:NW n) (hb:e71.Ok b) (hbL:BlockL b) (hE:n.2.1<890):F240 (n,(b,()))=some ((takeB n b,()),(takeN n b,())):=by
 have h:=hV.v.h
 have hset:=h.ok.set
 have hq:=BOk.qin hb hbL
 have ht:=BOk.tin hb hbL
 have hend:takeB n b=true→F240 (n,(b,()))=some ((true,()),(takeM n b,())):=fun htb=>by
  have hC:=takeC h.t htb
  obtain ⟨w1,w2,w3⟩:=take1_nw hV hb hbL hE htb
  obtain ⟨x1,x2⟩:=take2_nw hV hb hbL hE htb
  unfold F240
  refine bind_eq (s_blk b hb) (no_then (by rw [hC.blk];rfl) (no_then (by rw [hC.ep,iEq_self];rfl) (bind_eq (s_leader (nSet n) _) (no_then (by show (!sEq b.2.2.2.1 (leaderS (nSet n) b.2.2.1))=false;rw [hC.by'];rfl) ?_))))
  refine bind_eq (s_qc (nSet n) (bQc b) hset.1 hq.ok) (no_then (by show (!qcB (nSet n) (bQc b))=false;rw [hC.qc];rfl) (bind_eq (s_tc (nSet n) (bTc b) hset.1 ht.tok) (no_then (by show (!tcB (nSet n) (bTc b))=false;rw [hC.tc];rfl) ?_)))
  refine bind_eq (s_followsB b hbL) (no_then (by show (!followsB b)=false;rw [hC.fo];rfl) (bind_eq (s_bodyD (nBase n) (nTree n) b h.ok.base h.acc h.ok.tree h.t hb) (no_then (by show (!bodyD (nBase n) (nTree n) b)=false;rw [hC.bo];rfl) ?_)))
  have hao:addOk (nTree n) b=true:=by
   unfold takeB at htb
   simp only [Bool.and_eq_true] at htb
   exact htb.2.2.2.2.2.2.2
  have ha:=s_addTo (nTree n) b h.ok.tree h.t h.bl hb hbL
  rw [hao] at ha
  refine bind_eq ha (no_then rfl (bind_eq (s_learn (setTree n (insB (nTree n) b)) (bQc b) w1.v.h hq) ?_))
  have j1:∀(R:Type),((bif iEq (take1 n b).2.1 n.2.1 then (F243 (take1 n b,(bTc b,()))).bind fun y9=>some (Sum.inl y9.1) else some (Sum.inl (take1 n b))):Option (Sum DNd R))=some (Sum.inl (take2 n b)):=by
   intro R
   unfold take2
   cases iEq (take1 n b).2.1 n.2.1 with
   |false=>rfl
   |true=>exact bind_eq (s_learnTc (take1 n b) (bTc b) ht) rfl
  have j2:∀(R:Type),((bif iEq (take2 n b).2.1 n.2.1 then bif iEq (nHigh (take2 n b)).2.1 b.1 then (F241 (take2 n b,(nHigh (take2 n b),()))).bind fun y12=>some (Sum.inl y12.1) else some (Sum.inl (take2 n b)) else some (Sum.inl (take2 n b))):Option (Sum DNd R))=some (Sum.inl (takeM n b)):=by
   intro R
   unfold takeM
   cases iEq (take2 n b).2.1 n.2.1 with
   |false=>rfl
   |true =>
    cases iEq (nHigh (take2 n b)).2.1 b.1 with
    |false=>rfl
    |true=>exact bind_eq (s_learn (take2 n b) (nHigh (take2 n b)) x1.v.h (x1.v.h.ok.qin x1.v.h.l)) rfl
  exact bind_eq (j1 _) (bind_eq (j2 _) rfl)
 have hno:takeB n b=false→F240 (n,(b,()))=some ((false,()),(n,())):=fun htb=>by
  unfold takeB at htb
  unfold F240
  refine bind_eq (s_blk b hb) ?_
  cases h1:blockB b with
  |false=>rfl
  |true =>
   rw [h1,Bool.true_and] at htb
   refine no_then rfl ?_
   show (bif !iEq b.2.1 n.2.1 then _ else _)=_
   cases h2:iEq b.2.1 n.2.1 with
   |false=>rfl
   |true =>
    rw [h2,Bool.true_and] at htb
    refine no_then rfl (bind_eq (s_leader (nSet n) _) ?_)
    show (bif !sEq b.2.2.2.1 (leaderS (nSet n) b.2.2.1) then _ else _)=_
    cases h3:sEq b.2.2.2.1 (leaderS (nSet n) b.2.2.1) with
    |false=>rfl
    |true =>
     rw [h3,Bool.true_and] at htb
     refine no_then rfl (bind_eq (s_qc (nSet n) (bQc b) hset.1 hq.ok) ?_)
     show (bif !qcB (nSet n) (bQc b) then _ else _)=_
     cases h4:qcB (nSet n) (bQc b) with
     |false=>rfl
     |true =>
      rw [h4,Bool.true_and] at htb
      refine no_then rfl (bind_eq (s_tc (nSet n) (bTc b) hset.1 ht.tok) ?_)
      show (bif !tcB (nSet n) (bTc b) then _ else _)=_
      cases h5:tcB (nSet n) (bTc b) with
      |false=>rfl
      |true =>
       rw [h5,Bool.true_and] at htb
       refine no_then rfl (bind_eq (s_followsB b hbL) ?_)
       show (bif !followsB b then _ else _)=_
       cases h6:followsB b with
       |false=>rfl
       |true =>
        rw [h6,Bool.true_and] at htb
        refine no_then rfl (bind_eq (s_bodyD (nBase n) (nTree n) b h.ok.base h.acc h.ok.tree h.t hb) ?_)
        show (bif !bodyD (nBase n) (nTree n) b then _ else _)=_
        cases h7:bodyD (nBase n) (nTree n) b with
        |false=>rfl
        |true =>
         rw [h7,Bool.true_and] at htb
         have ha:=s_addTo (nTree n) b h.ok.tree h.t h.bl hb hbL
         rw [htb] at ha
         exact no_then rfl (bind_eq ha rfl)
 unfold takeN
 cases htb:takeB n b with
 |false=>exact hno htb
 |true=>exact hend htb
def voteEq (x:D82) (r id:Int) (who:ByteArray):Bool:=iEq x.1 r&&(iEq x.2.1 id&&sEq x.2.2.1 who)
def hasVB (votes:List D82) (r id:Int) (who:ByteArray):Bool:=votes.any (fun x=>voteEq x r id who)
def gathW (set:List D97) (votes:List D82) (r id:Int):List D9:=(set.filter (fun v=>hasVB votes r id v.1)).map (fun v=>((v.1,()):D9))
def gathQ (set:List D97) (votes:List D82) (r id:Int):DQc:=(r,(id,(gathW set votes r id,())))
def gathQok (set:List D97) (votes:List D82) (r id:Int):Bool:=qcB set (gathQ set votes r id)&& !rootB (gathQ set votes r id)
theorem gathW_len (set:List D97) (votes:List D82) (r id:Int):(gathW set votes r id).length≤set.length:=by
 unfold gathW
 rw [List.length_map]
 exact List.length_filter_le _ _
theorem gathQ_in (set:List D97) (votes:List D82) (r id:Int) (hs:(Ty.sl e97).Ok set) (hw:W1 set.length) (hr:(Lit.int .i64 r).wf=true) (hb:(Lit.int .i64 id).wf=true):QIn (gathQ set votes r id):=by
 have hl:=gathW_len set votes r id
 unfold W1 at hw
 refine ⟨hr,hb,Ok_of (Nat.le_trans hl (Nat.le_trans hw (by decide))) (fun x hx=>?_),Nat.le_trans hl hw⟩
 unfold gathW at hx
 obtain ⟨v,hv,rfl⟩:=List.mem_map.1 hx
 exact ⟨(Ok_mem hs.2 (List.mem_filter.1 hv).1).1,trivial⟩
theorem any_foldl {A:Type} (p:A→Bool):∀(l:List A) (b:Bool),l.foldl (fun s x=>s||p x) b=(b||l.any p)
 | [],b=>by simp
 |x::r,b=>by rw [List.foldl_cons,any_foldl p r,List.any_cons,Bool.or_assoc]
theorem s_voteLoop (set:List D97) (votes:List D82) (r id:Int) (v1:Int×(List D9×Unit)) {i:Nat} (hi:i<set.length) (h1:v1.1=(i:Int)) (hv:L63 votes.length) :
  loopF (F252.b1 ((set,()),((votes,()),((r,()),((id,()),())))) v1) (false,((0:Int),()))=some (.inl (hasVB votes r id set[i].1,((votes.length:Int),()))):=by
 have lp:=loopFold0 (S:=Bool×(Int×Unit)) votes (fun s x=>s||voteEq x r id set[i].1) (f:=F252.b1 ((set,()),((votes,()),((r,()),((id,()),())))) v1) (fun s k=>(s,(k,()))) (fun s=>Sum.inl (s,((votes.length:Int),()))) false (fun k hk s=>by
  have hs:getI set v1.1=some set[i]:=by rw [h1];exact getI_lt hi
  unfold F252.b1
  refine lt_then (Int.ofNat_lt.2 hk) ?_
  rw [←nxt hk hv]
  cases s with
  |true=>rfl
  |false=>exact no_then rfl (bind_eq (getI_lt hk) (bind_eq hs rfl))) (fun s=>by
  unfold F252.b1
  exact lt_else (Int.le_refl _) rfl)
 refine lp.trans ?_
 rw [any_foldl]
 rfl
theorem s_gatherQc (set:List D97) (votes:List D82) (r id:Int) (hs:(Ty.sl e97).Ok set) (hw:W1 set.length) (hv:L63 votes.length) (hr:(Lit.int .i64 r).wf=true) (hb:(Lit.int .i64 id).wf=true) :
  F252 ((set,()),((votes,()),((r,()),((id,()),()))))=some (bif gathQok set votes r id then gathQ set votes r id else ((0,(0,([],()))):DQc),((gathQok set votes r id,()),())):=by
 have hl:L63 set.length:=hw.l
 have hQ:=gathQ_in set votes r id hs hw hr hb
 unfold W1 at hw
 have sp:=loopFold (S:=Int×(List D9×Unit)) set (fun s v=>bif hasVB votes r id v.1 then s++ [((v.1,()):D9)] else s) (fun i s=>s.length≤i) (f:=F252.b0 ((set,()),((votes,()),((r,()),((id,()),()))))) (fun s k=>(k,(s,()))) (fun s=>Sum.inl ((set.length:Int),(s,()))) [] (Nat.le_refl _) (fun i hi s hI=>by
  refine ⟨?_,add_len hI _ rfl⟩
  unfold F252.b0
  refine lt_then (Int.ofNat_lt.2 hi) (bind_eq (s_voteLoop set votes r id _ hi rfl hv) ?_)
  rw [←nxt hi hl]
  dsimp only
  cases hc:hasVB votes r id set[i].1 with
  |false=>rfl
  |true =>
   simp only [Sum.elim_inl,cond_true]
   exact (bind_eq (getI_lt hi) (room_is (by show s.length+1≤1048577;omega) (by decide) (by decide) rfl))) (fun s _=>by
  unfold F252.b0
  exact lt_else (Int.le_refl _) rfl)
 have hf:set.foldl (fun s v=>bif hasVB votes r id v.1 then s++ [((v.1,()):D9)] else s) []=gathW set votes r id:=by
  have:∀(xs:List D97) (s:List D9),xs.foldl (fun s v=>bif hasVB votes r id v.1 then s++ [((v.1,()):D9)] else s) s=s++(xs.filter (fun v=>hasVB votes r id v.1)).map (fun v=>((v.1,()):D9)):=by
   intro xs
   induction xs with
   |nil=>intro s;simp
   |cons a t ih =>
    intro s
    rw [List.foldl_cons,ih,List.filter_cons]
    cases hasVB votes r id a.1<;>simp
  have h:=this set []
  rw [List.nil_append] at h
  exact h
 have sp1:=sp.1
 rw [hf] at sp1
 unfold F252 gathQok
 refine bind_eq sp1 (bind_eq (s_qc set (gathQ set votes r id) hl hQ.ok) ?_)
 cases hq:qcB set (gathQ set votes r id) with
 |false=>rfl
 |true =>
  refine no_then rfl (bind_eq (s_root (gathQ set votes r id)) ?_)
  cases rootB (gathQ set votes r id)<;>rfl
def addV (l:List D82) (v:D82):List D82:=bif !hasVB l v.1 v.2.1 v.2.2.1&&iLt (l.length:Int) 1000 then l++ [v] else l
noncomputable def voteN (n:DNd) (v:D82):DNd:=bif inB (nSet n) v.2.2.1 then
  (bif gathQok (nSet n) (addV (nVotes n) v) v.1 v.2.1 then learnN (setVt n (addV (nVotes n) v)) (gathQ (nSet n) (addV (nVotes n) v) v.1 v.2.1) else setVt n (addV (nVotes n) v)) else n
theorem addV_le {l:List D82} {v:D82} (h:l.length≤1000):(addV l v).length≤1000:=by
 unfold addV
 cases hc:(!hasVB l v.1 v.2.1 v.2.2.1&&iLt (l.length:Int) 1000) with
 |false=>exact h
 |true =>
  simp only [Bool.and_eq_true] at hc
  have:=iLt_iff.1 hc.2
  show (l++ [v]).length≤1000
  rw [List.length_append]
  simp only [List.length_cons,List.length_nil]
  omega
theorem addV_ok {l:List D82} {v:D82} (h:l.length≤1000) (hl:(Ty.sl e82).Ok l) (hv:e82.Ok v):(Ty.sl e82).Ok (addV l v):=by
 refine Ok_of (Nat.le_trans (addV_le h) (by decide)) (fun y hy=>?_)
 unfold addV at hy
 cases hc:(!hasVB l v.1 v.2.1 v.2.2.1&&iLt (l.length:Int) 1000) with
 |false=>rw [hc] at hy;exact Ok_mem hl.2 hy
 |true =>
  rw [hc] at hy
  rcases List.mem_append.1 hy with h1|h1
  ·exact Ok_mem hl.2 h1
  ·rw [List.mem_singleton.1 h1];exact hv
theorem NOk.votes {n:DNd} (h:NOk n):(Ty.sl e82).Ok (nVotes n):=h.2.2.2.2.2.2.2.2.2.2.2.2.2.2.2.1
theorem setVt_nw {n:DNd} (hV:NW n) {vs:List D82} (hv:(Ty.sl e82).Ok vs) (hl:vs.length≤1000):NW (setVt n vs):=NW.mk' (setVt_nv hV.v hv hl) hV.e0 hV.pa
theorem vote_nw {n:DNd} {v:D82} (hV:NW n) (hv:e82.Ok v) (hE:n.2.1<890):NW (voteN n v)∧AdvE n (voteN n v):=by
 have h:=hV.v.h
 have ho:=addV_ok hV.v.vo h.ok.votes hv
 have hn:=setVt_nw hV ho (addV_le hV.v.vo)
 have ha:AdvE n (setVt n (addV (nVotes n) v)):=⟨⟨rfl,.inl ⟨rfl,rfl,rfl⟩⟩,Int.le_refl _,by show n.2.1≤n.2.1+1;omega⟩
 unfold voteN
 cases inB (nSet n) v.2.2.1 with
 |false=>exact ⟨hV,AdvE.refl n⟩
 |true =>
  cases gathQok (nSet n) (addV (nVotes n) v) v.1 v.2.1 with
  |false=>exact ⟨hn,ha⟩
  |true =>
   obtain ⟨k1,k2⟩:=learn_nw hn (gathQ_in (nSet n) (addV (nVotes n) v) v.1 v.2.1 h.ok.set h.l.2.1 hv.1 hv.2.1) hE
   exact ⟨k1,ha.trans k2 rfl⟩
theorem s_hasVote (n:DNd) (v:D82) (hl:L63 (nVotes n).length):loopF (F234.b0 (n,(v,()))) (false,((0:Int),()))=some (.inl (hasVB (nVotes n) v.1 v.2.1 v.2.2.1,(((nVotes n).length:Int),()))):=by
 have lp:=loopFold0 (S:=Bool×(Int×Unit)) (nVotes n) (fun s x=>s||voteEq x v.1 v.2.1 v.2.2.1) (f:=F234.b0 (n,(v,()))) (fun s k=>(s,(k,()))) (fun s=>Sum.inl (s,(((nVotes n).length:Int),()))) false (fun k hk s=>by
  unfold F234.b0
  refine lt_then (Int.ofNat_lt.2 hk) ?_
  rw [←nxt hk hl]
  cases s with
  |true=>rfl
  |false=>exact no_then rfl (bind_eq (getI_lt hk) (bind_eq (getN_lt hk) rfl))) (fun s=>by
  unfold F234.b0
  exact lt_else (Int.le_refl _) rfl)
 refine lp.trans ?_
 rw [any_foldl]
 rfl
theorem s_vote (n:DNd) (v:D82) (hV:NW n) (hv:e82.Ok v) (hE:n.2.1<890):F234 (n,(v,()))=some (voteN n v,()):=by
 have h:=hV.v.h
 have ho:=addV_ok hV.v.vo h.ok.votes hv
 have hvo:=hV.v.vo
 have hn:=setVt_nw hV ho (addV_le hV.v.vo)
 unfold F234 voteN
 refine bind_eq (s_isin (nSet n) v.2.2.1 h.ok.set.1) ?_
 cases inB (nSet n) v.2.2.1 with
 |false=>rfl
 |true =>
  have hj:∀(R:Type),(bif (!hasVB (nVotes n) v.1 v.2.1 v.2.2.1) then bif iLt (List.length (nVotes n):Int) (1000:Int) then bif room (List.length (nVotes n)+List.length ([v]:List D82)) 32 then some (.inl (lapp (nVotes n) ([v]:List D82),())) else none else some (.inl (nVotes n,())) else some (.inl (nVotes n,())))=some (Sum.inl (addV (nVotes n) v,()):Sum (List D82×Unit) R):=by
   intro R
   unfold addV
   cases hasVB (nVotes n) v.1 v.2.1 v.2.2.1 with
   |true=>rfl
   |false =>
    refine thenT rfl ?_
    cases iLt (List.length (nVotes n):Int) (1000:Int) with
    |false=>rfl
    |true=>exact thenT rfl (room_is (by show (nVotes n).length+1≤1048577;omega) (by decide) (by decide) rfl)
  refine no_then rfl (bind_eq (s_hasVote n v h.ok.votes.1) (bind_eq (hj _) (bind_eq (s_gatherQc (nSet n) (addV (nVotes n) v) v.1 v.2.1 h.ok.set h.l.2.1 ho.1 hv.1 hv.2.1) ?_)))
  cases hg:gathQok (nSet n) (addV (nVotes n) v) v.1 v.2.1 with
  |false=>rfl
  |true=>exact thenT rfl (bind_eq (s_learn (setVt n (addV (nVotes n) v)) (gathQ (nSet n) (addV (nVotes n) v) v.1 v.2.1) hn.v.h (gathQ_in (nSet n) (addV (nVotes n) v) v.1 v.2.1 h.ok.set h.l.2.1 hv.1 hv.2.1)) rfl)
def voteMsg (name:ByteArray) (r id ep:Int):DMs:=(2,(⟨#[]⟩,(ep,([],(r,(id,(name,(0,(0,(⟨#[]⟩,(0,(-1,([],(0,([],([],()))))))))))))))))
def voteSg (name:ByteArray) (ep r id:Int):D39:=(1,(ep,(r,(id,(name,())))))
noncomputable def propB (n:DNd) (b:DBk):Bool:=takeB n b&&(iEq (takeN n b).2.1 n.2.1&&(iEq b.2.2.1 (nRound (takeN n b))&&(!iLe b.2.2.1 (nVoted (takeN n b))&&inB (nSet (takeN n b)) (takeN n b).1)))
noncomputable def propN (n:DNd) (b:DBk):DNd×(List DMs×List D39):=bif propB n b then
  (voteN (setVo (takeN n b) b.2.2.1) (b.2.2.1,(b.1,((takeN n b).1,()))),(toAllL (nSet (takeN n b)) (takeN n b).1 (voteMsg (takeN n b).1 b.2.2.1 b.1 0) (takeN n b).2.1,[voteSg (takeN n b).1 n.2.1 b.2.2.1 b.1])) else (takeN n b,([],[]))
theorem setVo_nw {n:DNd} (hV:NW n) {v:Int} (hv:(Lit.int .i64 v).wf=true):NW (setVo n v):=NW.mk' (E:=n.2.1.toNat) (P:=n.2.1.toNat) ⟨setVo_in hV.v.h hv,hV.v.led,hV.v.ep,hV.v.le,hV.v.vo,hV.v.go,hV.v.dn,hV.v.pa⟩ hV.e0 hV.pa
structure PropF (n:DNd) (b:DBk):Prop where
 tk:takeB n b=true
 ep:(takeN n b).2.1=n.2.1
 rd:b.2.2.1=nRound (takeN n b)
 vo:nVoted (takeN n b)<b.2.2.1
 me:inB (nSet (takeN n b)) (takeN n b).1=true
theorem propF {n:DNd} {b:DBk} (h:propB n b=true):PropF n b:=by
 unfold propB at h
 simp only [Bool.and_eq_true,Bool.not_eq_true'] at h
 exact ⟨h.1,iEq_iff.1 h.2.1,iEq_iff.1 h.2.2.1,iLe_no.1 h.2.2.2.1,h.2.2.2.2⟩
theorem prop_nw {n:DNd} {b:DBk} (hV:NW n) (hb:e71.Ok b) (hbL:BlockL b) (hE:n.2.1<890):NW (propN n b).1∧(propN n b).1.1=n.1∧n.2.1≤(propN n b).1.2.1∧(propN n b).1.2.1≤n.2.1+1:=by
 obtain ⟨h1,h2⟩:=take_nw hV hb hbL hE
 unfold propN
 cases hp:propB n b with
 |false=>exact ⟨h1,h2.a.nm,h2.le,h2.up⟩
 |true =>
  have hF:=propF hp
  have he:=hF.ep
  have hn:=setVo_nw h1 hb.2.2.1
  obtain ⟨k1,k2⟩:=vote_nw (v:=(b.2.2.1,(b.1,((takeN n b).1,())))) hn ⟨hb.2.2.1,hb.1,h1.v.h.ok.1,trivial⟩ (by show (takeN n b).2.1<890;omega)
  refine ⟨k1,k2.a.nm.trans h2.a.nm,?_,?_⟩
  ·have:=k2.le;show n.2.1≤_;exact Int.le_trans (Int.le_of_eq he.symm) this
  ·have:=k2.up;exact Int.le_trans this (by show (takeN n b).2.1+1≤_;omega)
theorem s_prop (n:DNd) (b:DBk) (hV:NW n) (hb:e71.Ok b) (hbL:BlockL b) (hE:n.2.1<890):F209 (n,(b,()))=some (((propN n b).2.1,()),(((propN n b).2.2,()),((propN n b).1,()))):=by
 obtain ⟨h1,h2⟩:=take_nw hV hb hbL hE
 have hset:=h1.v.h.ok.set
 unfold F209 propN propB
 refine bind_eq (s_take n b hV hb hbL hE) ?_
 show (bif !takeB n b then _ else _)=_
 cases ht:takeB n b with
 |false=>rfl
 |true =>
  refine no_then rfl ?_
  show (bif !iEq (takeN n b).2.1 n.2.1 then _ else _)=_
  cases he:iEq (takeN n b).2.1 n.2.1 with
  |false=>rfl
  |true =>
   have hep:=iEq_iff.1 he
   refine no_then rfl ?_
   show (bif !iEq b.2.2.1 (nRound (takeN n b)) then _ else _)=_
   cases hr:iEq b.2.2.1 (nRound (takeN n b)) with
   |false=>rfl
   |true =>
    refine no_then rfl ?_
    show (bif iLe b.2.2.1 (nVoted (takeN n b)) then _ else _)=_
    cases hv:iLe b.2.2.1 (nVoted (takeN n b)) with
    |true=>rfl
    |false =>
     refine no_then rfl (bind_eq (s_isin (nSet (takeN n b)) (takeN n b).1 hset.1) ?_)
     cases hi:inB (nSet (takeN n b)) (takeN n b).1 with
     |false=>rfl
     |true =>
      have hn:=setVo_nw h1 hb.2.2.1
      have hML:MsgL (voteMsg (takeN n b).1 b.2.2.1 b.1 (takeN n b).2.1):=⟨Nat.zero_le _,(fun x hx=>by cases hx),Nat.zero_le _,Nat.zero_le _,Nat.zero_le _⟩
      exact no_then rfl (bind_eq (s_toAll (setVo (takeN n b) b.2.2.1) (voteMsg (takeN n b).1 b.2.2.1 b.1 (takeN n b).2.1) h1.v.h.l.2.1 hML) (bind_eq (s_vote (setVo (takeN n b) b.2.2.1) (b.2.2.1,(b.1,((takeN n b).1,()))) hn ⟨hb.2.2.1,hb.1,h1.v.h.ok.1,trivial⟩ (by show (takeN n b).2.1<890;omega)) (bind_eq (show F236 _=some (voteSg (takeN n b).1 n.2.1 b.2.2.1 b.1,()) from rfl) rfl)))
noncomputable def shTake (ep:Int) (s:DNd) (b:DBk):DNd:=bif iEq s.2.1 ep then takeN s b else s
noncomputable def shBs (n:DNd) (m:DMs):DNd:=(mBs m).foldl (shTake m.2.2.1) n
noncomputable def shQ (n:DNd) (m:DMs):DNd:=bif iEq (shBs n m).2.1 m.2.2.1&&qcB (nSet (shBs n m)) (mQ m) then learnN (shBs n m) (mQ m) else shBs n m
noncomputable def shareN (n:DNd) (m:DMs):DNd:=bif iEq (shQ n m).2.1 m.2.2.1&&tcB (nSet (shQ n m)) (mT m) then tcN (shQ n m) (mT m) else shQ n m
theorem shFold_nw (ep:Int) (n0:DNd) (hE:ep<890) (h0:n0.2.1=ep):∀(bs:List DBk) (s:DNd),(∀b∈bs,e71.Ok b∧BlockL b)→NW s→AdvE n0 s→NW (bs.foldl (shTake ep) s)∧AdvE n0 (bs.foldl (shTake ep) s)
 | [],s,_,h1,h2=>⟨h1,h2⟩
 |b::r,s,hb,h1,h2=>by
  rw [List.foldl_cons]
  have key:NW (shTake ep s b)∧AdvE n0 (shTake ep s b):=by
   unfold shTake
   cases he:iEq s.2.1 ep with
   |false=>exact ⟨h1,h2⟩
   |true =>
    have he:=iEq_iff.1 he
    obtain ⟨k1,k2⟩:=take_nw h1 (hb b (by simp)).1 (hb b (by simp)).2 (by omega)
    exact ⟨k1,h2.trans k2 (by omega)⟩
  exact shFold_nw ep n0 hE h0 r _ (fun c hc=>hb c (by simp [hc])) key.1 key.2
theorem MOk.qin {m:DMs} (h:MOk m) (l:MsgL m):QIn (mQ m):=⟨h.2.2.2.2.2.2.2.2.2.2.1,h.2.2.2.2.2.2.2.2.2.2.2.1,h.q,l.2.2.1⟩
theorem MOk.tin {m:DMs} (h:MOk m) (l:MsgL m):TIn (mT m):=⟨h.2.2.2.2.2.2.2.2.2.2.2.2.2.1,h.2.2.2.2.2.2.2.2.2.2.2.2.2.2.1,h.2.2.2.2.2.2.2.2.2.2.2.2.2.2.2.1,l.2.2.2.1,l.2.2.2.2⟩
theorem MOk.blk {m:DMs} (h:MOk m) (l:MsgL m):∀b∈mBs m,e71.Ok b∧BlockL b:=fun b hb=>⟨Ok_mem h.bs.2 hb,l.2.1 b hb⟩
theorem share_nw {n:DNd} {m:DMs} (hV:NW n) (hm:MOk m) (hl:MsgL m) (he:m.2.2.1=n.2.1) (hE:n.2.1<890):(NW (shBs n m)∧AdvE n (shBs n m))∧(NW (shQ n m)∧AdvE n (shQ n m))∧NW (shareN n m)∧AdvE n (shareN n m):=by
 have h1:NW (shBs n m)∧AdvE n (shBs n m):=shFold_nw m.2.2.1 n (by omega) he.symm (mBs m) n (hm.blk hl) hV (AdvE.refl n)
 have h2:NW (shQ n m)∧AdvE n (shQ n m):=by
  unfold shQ
  cases hc:(iEq (shBs n m).2.1 m.2.2.1&&qcB (nSet (shBs n m)) (mQ m)) with
  |false=>exact h1
  |true =>
   simp only [Bool.and_eq_true] at hc
   have hc:=iEq_iff.1 hc.1
   obtain ⟨k1,k2⟩:=learn_nw h1.1 (hm.qin hl) (by omega)
   exact ⟨k1,h1.2.trans k2 (by omega)⟩
 refine ⟨h1,h2,?_⟩
 unfold shareN
 cases hc:(iEq (shQ n m).2.1 m.2.2.1&&tcB (nSet (shQ n m)) (mT m)) with
 |false=>exact h2
 |true =>
  obtain ⟨k1,k2,k3⟩:=tc_nw h2.1 (hm.tin hl)
  exact ⟨k1,h2.2.trans' k2 k3⟩
theorem sh_stop (ep:Int):∀(bs:List DBk) (s:DNd),iEq s.2.1 ep=false→bs.foldl (shTake ep) s=s
 | [],s,_=>rfl
 |b::r,s,h=>by
  rw [List.foldl_cons]
  have:shTake ep s b=s:=by unfold shTake;rw [h];rfl
  rw [this]
  exact sh_stop ep r s h
theorem s_shBs (n:DNd) (m:DMs) (hV:NW n) (hm:MOk m) (hl:MsgL m) (he:m.2.2.1=n.2.1) (hE:n.2.1<890):∃k,loopF (F235.b0 (n,(m,()))) ((0:Int),n)=some (.inl (k,shBs n m)):=by
 have hl63:L63 (mBs m).length:=hm.bs.1
 have key:∀(suf pre:List DBk) (s:DNd),pre++suf=mBs m→NW s→AdvE n s→∃k,loopF (F235.b0 (n,(m,()))) ((pre.length:Int),s)=some (.inl (k,suf.foldl (shTake m.2.2.1) s)):=by
  intro suf
  induction suf with
  |nil =>
   intro pre s hp h1 h2
   rw [List.append_nil] at hp
   refine ⟨(pre.length:Int),loopF_end ?_⟩
   unfold F235.b0
   exact lt_else (show ((mBs m).length:Int)≤(pre.length:Int) by rw [hp];exact Int.le_refl _) rfl
  |cons b suf ih =>
   intro pre s hp h1 h2
   have hlt:pre.length<(mBs m).length:=by rw [←hp];simp
   have hx:(mBs m)[pre.length]=b:=by
    have:(mBs m)[pre.length]?=some b:=by rw [←hp];simp
    rw [List.getElem?_eq_getElem hlt] at this
    exact Option.some.inj this
   have hb:=hm.blk hl b (by rw [←hp];simp)
   cases hc:iEq s.2.1 m.2.2.1 with
   |false =>
    refine ⟨(pre.length:Int),?_⟩
    rw [sh_stop _ _ _ hc]
    refine loopF_end ?_
    unfold F235.b0
    exact lt_then (Int.ofNat_lt.2 hlt) (no_then hc rfl)
   |true =>
    have hce:=iEq_iff.1 hc
    obtain ⟨k1,k2⟩:=take_nw h1 hb.1 hb.2 (by omega)
    have hst:F235.b0 (n,(m,())) ((pre.length:Int),s)=some (.inl (((pre.length+1:Nat):Int),takeN s b)):=by
     unfold F235.b0
     refine lt_then (Int.ofNat_lt.2 hlt) (thenT hc (bind_eq (getI_lt hlt) ?_))
     rw [hx]
     refine bind_eq (s_take s b h1 hb.1 hb.2 (by omega)) ?_
     rw [←nxt hlt hl63]
    rw [loopF_step hst]
    have hsh:shTake m.2.2.1 s b=takeN s b:=by unfold shTake;rw [hc];rfl
    rw [List.foldl_cons,hsh]
    have:=ih (pre++ [b]) (takeN s b) (by rw [←hp];simp) k1 (h2.trans k2 (by omega))
    simpa using this
 unfold shBs
 simpa using key (mBs m) [] n rfl hV (AdvE.refl n)
theorem s_share (n:DNd) (m:DMs) (hV:NW n) (hm:MOk m) (hl:MsgL m) (he:m.2.2.1=n.2.1) (hE:n.2.1<890):F235 (n,(m,()))=some (shareN n m,()):=by
 obtain ⟨⟨a1,a2⟩,⟨b1,b2⟩,_⟩:=share_nw hV hm hl he hE
 obtain ⟨k,hk⟩:=s_shBs n m hV hm hl he hE
 have j1:∀(R:Type),((bif iEq (shBs n m).2.1 m.2.2.1 then (F183 ((nSet (shBs n m),()),(mQ m,()))).bind fun y6=>bif y6.1.1 then (F241 (shBs n m,(mQ m,()))).bind fun y7=>some (Sum.inl y7.1) else some (Sum.inl (shBs n m)) else some (Sum.inl (shBs n m))):Option (Sum DNd R))=some (Sum.inl (shQ n m)):=by
  intro R
  unfold shQ
  cases iEq (shBs n m).2.1 m.2.2.1 with
  |false=>rfl
  |true =>
   refine thenT rfl (bind_eq (s_qc (nSet (shBs n m)) (mQ m) a1.v.h.ok.set.1 hm.q) ?_)
   cases qcB (nSet (shBs n m)) (mQ m) with
   |false=>rfl
   |true=>exact thenT rfl (bind_eq (s_learn (shBs n m) (mQ m) a1.v.h (hm.qin hl)) rfl)
 unfold F235
 refine bind_eq hk (bind_eq (j1 _) ?_)
 unfold shareN
 show (bif iEq (shQ n m).2.1 m.2.2.1 then _ else _)=_
 cases iEq (shQ n m).2.1 m.2.2.1 with
 |false=>rfl
 |true =>
  refine thenT rfl (bind_eq (s_tc (nSet (shQ n m)) (mT m) b1.v.h.ok.set.1 hm.t) ?_)
  show (bif tcB (nSet (shQ n m)) (mT m) then _ else _)=_
  cases tcB (nSet (shQ n m)) (mT m) with
  |false=>rfl
  |true=>exact thenT rfl (bind_eq (s_learnTc (shQ n m) (mT m) (hm.tin hl)) rfl)
theorem NOk.gones {n:DNd} (h:NOk n):(Ty.sl e84).Ok (nGones n):=h.2.2.2.2.2.2.2.2.2.2.2.2.2.2.2.2.1
theorem NW.gin {n:DNd} (h:NW n):GIn n:=⟨h.v.h.l.2.1,h.v.h.ok.set,Nat.le_trans h.v.go (by decide),h.v.h.ok.gones⟩
theorem addG_le {l:List D84} {g:D84} (h:l.length≤1000):(addG l g).length≤1000:=by
 unfold addG
 cases hc:(!hasG l g&&iLt (l.length:Int) 1000) with
 |false=>exact h
 |true =>
  simp only [Bool.and_eq_true] at hc
  have:=iLt_iff.1 hc.2
  show (l++ [g]).length≤1000
  rw [List.length_append]
  simp only [List.length_cons,List.length_nil]
  omega
theorem setGo_nw {n:DNd} (hV:NW n) {g:List D84} (hg:(Ty.sl e84).Ok g) (hl:g.length≤1000):NW (setGo n g):=by
 have h:=hV.v.h
 have l:=h.l
 refine NW.mk' (E:=n.2.1.toNat) (P:=n.2.1.toNat) ⟨⟨setGo_ok h.ok hg,?_,h.t,h.d,h.p⟩,hV.v.led,hV.v.ep,hV.v.le,hV.v.vo,hl,hV.v.dn,hV.v.pa⟩ hV.e0 hV.pa
 exact ⟨l.1,l.2.1,l.2.2.1,l.2.2.2.1,l.2.2.2.2.1,l.2.2.2.2.2.1,l.2.2.2.2.2.2.1,l.2.2.2.2.2.2.2.1,Nat.le_trans hl (by decide),l.2.2.2.2.2.2.2.2.2.1,l.2.2.2.2.2.2.2.2.2.2.1,l.2.2.2.2.2.2.2.2.2.2.2.1,l.2.2.2.2.2.2.2.2.2.2.2.2⟩
theorem gonesN_nw {n:DNd} (hV:NW n) {g:D84} (hg:e84.Ok g):NW (gonesN n g)∧AdvE n (gonesN n g)∧(gonesN n g).2.1=n.2.1:=by
 have hG:=hV.gin
 have hgo:=addG_ok hG.go (Nat.le_trans hG.g (by decide)) hg
 have h1:NW (setGo n (addG (nGones n) g)):=setGo_nw hV hgo (addG_le hV.v.go)
 have ha:AdvE n (setGo n (addG (nGones n) g)):=⟨⟨rfl,.inl ⟨rfl,rfl,rfl⟩⟩,Int.le_refl _,by show n.2.1≤n.2.1+1;omega⟩
 have hT:=gathT_in (nSet n) (addG (nGones n) g) g.1 hG.s hG.so hgo hg.1
 unfold gonesN
 dsimp only
 cases ht:(gathTR (nSet n) (addG (nGones n) g) g.1).2.1.1 with
 |false=>exact ⟨h1,ha,rfl⟩
 |true =>
  obtain ⟨_,_,e⟩:=gath_none ht
  rw [e]
  obtain ⟨k1,k2,k3⟩:=tc_nw h1 hT
  exact ⟨k1,ha.trans' k2 k3,k3⟩
theorem gone_nw {n:DNd} {g:D84} {q:DQc} (hV:NW n) (hq:QIn q) (hg:e84.Ok g) (hE:n.2.1<890):NW (hearGoneN n g q)∧AdvE n (hearGoneN n g q):=by
 obtain ⟨k1,k2⟩:=learn_nw hV hq hE
 unfold hearGoneN
 cases (inB (nSet n) g.2.2.1&&qcB (nSet n) q) with
 |false=>exact ⟨hV,AdvE.refl n⟩
 |true =>
  cases iEq (learnN n q).2.1 n.2.1 with
  |false=>exact ⟨k1,k2⟩
  |true =>
   obtain ⟨m1,m2,m3⟩:=gonesN_nw k1 hg
   exact ⟨m1,k2.trans' m2 m3⟩
theorem s_gone (n:DNd) (g:D84) (q:DQc) (hV:NW n) (hq:QIn q) (hg:e84.Ok g) (hE:n.2.1<890):F211 (n,(g,(q,())))=some (hearGoneN n g q,()) :=
 s_hearGone n g q hV.v.h hq hg (learn_nw hV hq hE).1.gin
theorem leave_nw {n:DNd} (hV:NW n) (hE:n.2.1<890):NW (leaveN n).1∧(leaveN n).1.1=n.1∧n.2.1≤(leaveN n).1.2.1∧(leaveN n).1.2.1≤n.2.1+1:=by
 unfold leaveN
 cases (inB (nSet n) n.1&& !iLt (nRound n) (nVoted n)) with
 |false=>exact ⟨hV,rfl,Int.le_refl _,by show n.2.1≤n.2.1+1;omega⟩
 |true =>
  obtain ⟨k1,k2⟩:=gone_nw (setVo_nw hV hV.v.h.round) (hV.v.h.ok.qin hV.v.h.l) (gone_ok hV.v.h.ok) hE
  exact ⟨k1,k2.a.nm,k2.le,k2.up⟩
theorem s_leave1 (n:DNd) (hV:NW n) (hE:n.2.1<890):F172 (n,())=some (((leaveN n).2.1,()),(((leaveN n).2.2,()),((leaveN n).1,()))) :=
 s_leaveN n hV.v.h (learn_nw (setVo_nw hV hV.v.h.round) (hV.v.h.ok.qin hV.v.h.l) hE).1.gin
def mVo (m:DMs):D82:=(m.2.2.2.2.1,(m.2.2.2.2.2.1,(m.2.2.2.2.2.2.1,())))
def mGo (m:DMs):D84:=(m.2.2.2.2.2.2.2.1,(m.2.2.2.2.2.2.2.2.1,(m.2.2.2.2.2.2.2.2.2.1,())))
theorem MOk.vo {m:DMs} (h:MOk m):e82.Ok (mVo m):=⟨h.2.2.2.2.1,h.2.2.2.2.2.1,h.2.2.2.2.2.2.1,trivial⟩
theorem MOk.go {m:DMs} (h:MOk m):e84.Ok (mGo m):=⟨h.2.2.2.2.2.2.2.1,h.2.2.2.2.2.2.2.2.1,h.2.2.2.2.2.2.2.2.2.1,trivial⟩
noncomputable def hearN (n:DNd) (m:DMs):DNd×(List DMs×List D39) :=
 bif iEq m.1 1 then (match mBs m with
  |b::_=>propN n b
  | []=>(n,([],[]))) else bif iEq m.1 2 then (voteN n (mVo m),([],[])) else bif iEq m.1 3 then (hearGoneN n (mGo m) (mQ m),([],[])) else (shareN n m,([],[]))
structure HIn (m:DMs):Prop where
 ok:MOk m
 l:MsgL m
 pr:m.1=1→mBs m≠ []
theorem hear_nw {n:DNd} {m:DMs} (hV:NW n) (hm:HIn m) (he:m.2.2.1=n.2.1) (hE:n.2.1<890):NW (hearN n m).1∧(hearN n m).1.1=n.1∧n.2.1≤(hearN n m).1.2.1∧(hearN n m).1.2.1≤n.2.1+1:=by
 unfold hearN
 cases h1:iEq m.1 1 with
 |true =>
  have hp:=hm.pr (iEq_iff.1 h1)
  cases hb:mBs m with
  |nil=>exact absurd hb hp
  |cons b r =>
   have hbb:=hm.ok.blk hm.l b (by rw [hb];simp)
   exact prop_nw hV hbb.1 hbb.2 hE
 |false =>
  cases iEq m.1 2 with
  |true =>
   obtain ⟨k1,k2⟩:=vote_nw hV hm.ok.vo hE
   exact ⟨k1,k2.a.nm,k2.le,k2.up⟩
  |false =>
   cases iEq m.1 3 with
   |true =>
    obtain ⟨k1,k2⟩:=gone_nw hV (hm.ok.qin hm.l) hm.ok.go hE
    exact ⟨k1,k2.a.nm,k2.le,k2.up⟩
   |false =>
    obtain ⟨_,_,k1,k2⟩:=share_nw hV hm.ok hm.l he hE
    exact ⟨k1,k2.a.nm,k2.le,k2.up⟩
theorem s_hear (n:DNd) (m:DMs) (hV:NW n) (hm:HIn m) (he:m.2.2.1=n.2.1) (hE:n.2.1<890):F203 (n,(m,()))=some (((hearN n m).2.1,()),(((hearN n m).2.2,()),((hearN n m).1,()))):=by
 unfold F203 hearN
 cases h1:iEq m.1 1 with
 |true =>
  have hp:=hm.pr (iEq_iff.1 h1)
  cases hb:mBs m with
  |nil=>exact absurd hb hp
  |cons b r =>
   have hbb:=hm.ok.blk hm.l b (by rw [hb];simp)
   exact bind_eq (thenT rfl (bind_eq (show getI (mBs m) 0=some b by rw [hb];rfl) (bind_eq (s_prop n b hV hbb.1 hbb.2 hE) rfl))) rfl
 |false =>
  cases h2:iEq m.1 2 with
  |true=>exact bind_eq (no_then rfl (thenT rfl (bind_eq (s_vote n (mVo m) hV hm.ok.vo hE) rfl))) rfl
  |false =>
   cases h3:iEq m.1 3 with
   |true=>exact bind_eq (no_then rfl (no_then rfl (thenT rfl (bind_eq (s_gone n (mGo m) (mQ m) hV (hm.ok.qin hm.l) hm.ok.go hE) rfl)))) rfl
   |false=>exact bind_eq (no_then rfl (no_then rfl (no_then rfl (bind_eq (s_share n m hV hm.ok hm.l he hE) rfl)))) rfl
theorem y_make (L:DLe) (l:List DBk) (p:Int) (txs:List D110) (hL:(Ty.sl e120).Ok L.2.1) (hA:AcctL L.2.1) (hOk:(Ty.sl e71).Ok l) (h:TreeF l) (ht:(Ty.sl e110).Ok txs) :
  Y (F202 (L,((l,()),((p,()),((txs,()),()))))) (fun y=>(∀t∈y.1.1,t∈txs)∧List.length y.1.1≤4∧(Ty.sl e97).Ok y.2.2.1.1∧W1 (List.length y.2.2.1.1)∧y.2.2.2.1.1.size≤32):=by
 have hlx:L63 txs.length:=ht.1
 unfold F202
 have hno:∀{xs:List D110} {e:Bool},(∀t∈xs,t∈txs)→List.length xs≤4→Y (some (((xs,()),((e,()),((([]:List D97),()),((⟨#[]⟩,()),())))):(List D110×Unit)×((Bool×Unit)×((List D97×Unit)×((ByteArray×Unit)×Unit))))) (fun y=>(∀t∈y.1.1,t∈txs)∧List.length y.1.1≤4∧(Ty.sl e97).Ok y.2.2.1.1∧W1 (List.length y.2.2.1.1)∧y.2.2.2.1.1.size≤32):=fun h1 h2=>Y.mk ⟨h1,h2,Ok_nil,Nat.zero_le _,Nat.zero_le _⟩
 refine Y.bind (y_there l p hOk) fun y1 _=>Y.bif (fun _=>hno (fun t h=>by cases h) (Nat.zero_le _)) fun _=>Y.bind (y_ended l p hOk h) fun y2 _=>Y.bif (fun _=>hno (fun t h=>by cases h) (Nat.zero_le _)) fun _=>?_
 refine Y.bind (y_at L l p hL hA hOk h) fun y3 h3=>?_
 refine Y.sum (P:=fun v=>(∀t∈v.1,t∈txs)∧List.length v.1≤4∧(Ty.sl e120).Ok v.2.2.2.1∧AcctL v.2.2.2.1) (R:=fun _=>False) (Y.loop (I:=fun v=>0≤v.2.1∧(∀t∈v.1,t∈txs)∧List.length v.1≤4∧(Ty.sl e120).Ok v.2.2.2.1∧AcctL v.2.2.2.1) (fun v=>((List.length txs:Int) - v.2.1).toNat) (fun v hv=>?_) _ ⟨Int.le_refl _,(fun t h=>by cases h),Nat.zero_le _,h3.1,h3.2⟩) (fun v hv=>?_) (fun _ h=>h.elim)
 ·obtain ⟨o,i,ep,ac,u⟩:=v
  obtain ⟨g1,g2,g3,g4,g5⟩:=hv
  dsimp only at g1 g2 g3 g4 g5
  unfold F202.b0
  refine Y.bif (fun hlt=>Y.bif (fun h4=>?_) (fun _=>Y.rl ⟨g2,g3,g4,g5⟩)) (fun _=>Y.rl ⟨g2,g3,g4,g5⟩)
  have hlt:i<(List.length txs:Int):=iLt_iff.1 hlt
  have h4:(List.length o:Int)<4:=iLt_iff.1 h4
  have e:iAdd .i64 i 1=i+1:=iAdd_small (by omega) (by unfold L63 at hlx;omega)
  have hm:((List.length txs:Int) - iAdd .i64 i 1).toNat<((List.length txs:Int) - i).toNat:=by rw [e];omega
  have h0:0≤iAdd .i64 i 1:=by rw [e];omega
  refine Y.gT g1 hlt fun x hx=>?_
  obtain ⟨R,c,r1,r2,r3,_⟩:=apply_spec (ep,(ac,())) x g4 g5 (Ok_mem ht.2 hx)
  refine Y.eq r1 (Y.bif (fun _=>Y.gT g1 hlt fun x7 hx7=>Y.room (by simp only [List.length_cons,List.length_nil];omega) (by decide) (by decide) (Y.l ⟨⟨h0,fun t h=>?_,?_,r2,r3⟩,hm⟩)) (fun _=>Y.l ⟨⟨h0,g2,g3,g4,g5⟩,hm⟩))
  ·rcases List.mem_append.1 h with h|h
   ·exact g2 t h
   ·rw [List.mem_singleton.1 h];exact hx7
  ·show List.length (o++ [x7])≤4
   rw [List.length_append]
   simp only [List.length_cons,List.length_nil]
   omega
 ·obtain ⟨o,i,ep,ac,u⟩:=v
  obtain ⟨g2,g3,g4,g5⟩:=hv
  dsimp only at g2 g3 g4 g5
  refine Y.eq (s_chain l p hOk h) (Y.bif (fun _=>hno g2 g3) fun _=>?_)
  obtain ⟨n1,n2,n3⟩:=nextS_eq (ep,(ac,())) g4 g5
  refine Y.eq n1 (Y.eq (s_setOf _ n3.1 n2) (Y.bind (y_stateRoot _ n2) fun y h=>Y.mk ⟨g2,g3,setOf_ok _ n2,?_,h⟩))
  show W1 (List.length (setOfL (nextR (ep,(ac,())))))
  have hn3:=n3.1
  unfold W1 at hn3 ⊢
  unfold setOfL
  cases ledgerB (nextR (ep,(ac,()))) with
  |false=>exact Nat.zero_le _
  |true=>exact Nat.le_trans (setL_len _) hn3
abbrev MkT:Type:=(List D110×Unit)×((Bool×Unit)×((List D97×Unit)×((ByteArray×Unit)×Unit)))
noncomputable def mkR (L:DLe) (l:List DBk) (p:Int) (txs:List D110):MkT:=(F202 (L,((l,()),((p,()),((txs,()),()))))).getD (([],()),((false,()),(([],()),((⟨#[]⟩,()),()))))
theorem s_make (L:DLe) (l:List DBk) (p:Int) (txs:List D110) (hL:(Ty.sl e120).Ok L.2.1) (hA:AcctL L.2.1) (hOk:(Ty.sl e71).Ok l) (h:TreeF l) (ht:(Ty.sl e110).Ok txs) :
  F202 (L,((l,()),((p,()),((txs,()),()))))=some (mkR L l p txs)∧(∀t∈(mkR L l p txs).1.1,t∈txs)∧List.length (mkR L l p txs).1.1≤4∧(Ty.sl e97).Ok (mkR L l p txs).2.2.1.1∧W1 (List.length (mkR L l p txs).2.2.1.1)∧(mkR L l p txs).2.2.2.1.1.size≤32:=by
 obtain ⟨y,e,hy⟩:=y_make L l p txs hL hA hOk h ht
 have:mkR L l p txs=y:=by unfold mkR;rw [e];rfl
 rw [this]
 exact ⟨e,hy⟩
def makeTc (n:DNd):DTc:=bif !iEq (nHigh n).1 (iSub .i64 (nRound n) 1) then nTc n else ((0,([],([],()))):DTc)
noncomputable def makeR (n:DNd):MkT:=mkR (nBase n) (nTree n) (nHigh n).2.1 (nPool n)
noncomputable def makeN (n:DNd) (id:Int):DBk:=(id,(n.2.1,(nRound n,(n.1,((nHigh n).1,((nHigh n).2.1,((nHigh n).2.2.1,((makeTc n).1,((makeTc n).2.1,((makeTc n).2.2.1,((makeR n).1.1,((makeR n).2.1.1,((makeR n).2.2.1.1,((makeR n).2.2.2.1.1,()))))))))))))))
theorem makeTc_in {n:DNd} (h:NIn n):TIn (makeTc n):=by
 unfold makeTc
 cases (!iEq (nHigh n).1 (iSub .i64 (nRound n) 1)) with
 |true=>exact h.ok.tin h.l
 |false=>exact ⟨rfl,Ok_nil,Ok_nil,Nat.zero_le _,Nat.zero_le _⟩
theorem makeN_ok {n:DNd} (h:NIn n) {id:Int} (hid:(Lit.int .i64 id).wf=true):e71.Ok (makeN n id)∧BlockL (makeN n id):=by
 have hq:=h.ok.qin h.l
 have ht:=makeTc_in h
 obtain ⟨_,m1,m2,m3,m4,m5⟩:=s_make (nBase n) (nTree n) (nHigh n).2.1 (nPool n) h.ok.base h.acc h.ok.tree h.t h.ok.pool
 refine ⟨⟨hid,h.ok.2.1,h.round,h.ok.1,hq.i1,hq.i2,hq.ok,ht.i1,ht.ok,ht.hi,Ok_of (Nat.le_trans m2 (by decide)) (fun t hx=>Ok_mem h.ok.pool.2 (m1 t hx)),trivial,m3,?_,trivial⟩,hq.w,ht.w,ht.wh,Nat.le_trans m2 (by decide),m4⟩
 exact Nat.le_trans m5 (by decide)
theorem s_makeN (n:DNd) (id:Int) (h:NIn n):F165 (n,((id,()),()))=some (makeN n id,()):=by
 have hq:=h.ok.qin h.l
 have ht:=h.ok.tin h.l
 obtain ⟨m0,_⟩:=s_make (nBase n) (nTree n) (nHigh n).2.1 (nPool n) h.ok.base h.acc h.ok.tree h.t h.ok.pool
 have hj:∀(R:Type),(bif !iEq (nHigh n).1 (iSub .i64 (nRound n) 1) then (F200 (nTc n,())).bind fun y2=>some (Sum.inl y2.1) else some (Sum.inl ((0:Int),([],([],())))))=some (Sum.inl (makeTc n):Sum DTc R):=by
  intro R
  unfold makeTc
  cases (!iEq (nHigh n).1 (iSub .i64 (nRound n) 1)) with
  |true=>exact bind_eq (s_ctc (nTc n) ht.w ht.wh) rfl
  |false=>rfl
 unfold F165
 exact bind_eq (s_cqc (nHigh n) hq.w) (bind_eq (hj _) (bind_eq m0 rfl))
def propMsg (b:DBk) (ep:Int):DMs:=(1,(⟨#[]⟩,(ep,([b],(0,(0,(⟨#[]⟩,(0,(0,(⟨#[]⟩,(0,(-1,([],(0,([],([],()))))))))))))))))
noncomputable def leadB (n:DNd) (id:Int):Bool:=sEq (leaderS (nSet n) (nRound n)) n.1&&(!iLe (nRound n) (nLed n)&&((iEq (nHigh n).2.1 (-1)|| !iLt (blkAt (nTree n) (nHigh n).2.1) 0)&&(blockB (makeN n id)&&followsB (makeN n id))))
noncomputable def leadN (n:DNd) (id:Int):DNd×(List DBk×(List DMs×List D39)):=bif leadB n id then
  ((propN (setLed n (nRound n)) (makeN n id)).1,([makeN n id],(toAllL (nSet n) n.1 (propMsg (makeN n id) n.2.1) n.2.1++(propN (setLed n (nRound n)) (makeN n id)).2.1,(propN (setLed n (nRound n)) (makeN n id)).2.2))) else (n,([],([],[])))
theorem setLed_nw {n:DNd} (hV:NW n) {v:Int} (hv:(Lit.int .i64 v).wf=true):NW (setLed n v):=by
 have h:=hV.v.h
 exact NW.mk' (E:=n.2.1.toNat) (P:=n.2.1.toNat) ⟨⟨setLed_ok h.ok hv,h.l,h.t,h.d,h.p⟩,hV.v.led,hV.v.ep,hV.v.le,hV.v.vo,hV.v.go,hV.v.dn,hV.v.pa⟩ hV.e0 hV.pa
theorem lead_nw {n:DNd} {id:Int} (hV:NW n) (hid:(Lit.int .i64 id).wf=true) (hE:n.2.1<890):NW (leadN n id).1∧(leadN n id).1.1=n.1∧n.2.1≤(leadN n id).1.2.1∧(leadN n id).1.2.1≤n.2.1+1:=by
 obtain ⟨m1,m2⟩:=makeN_ok hV.v.h hid
 unfold leadN
 cases leadB n id with
 |false=>exact ⟨hV,rfl,Int.le_refl _,by show n.2.1≤n.2.1+1;omega⟩
 |true=>exact prop_nw (setLed_nw hV hV.v.h.round) m1 m2 hE
theorem toAllL_len (set:List D97) (name:ByteArray) (m:DMs) (ep:Int):(toAllL set name m ep).length≤set.length:=by
 unfold toAllL
 rw [List.length_map]
 exact List.length_filter_le _ _
theorem propN_len (n:DNd) (b:DBk) (h:W1 (nSet (takeN n b)).length):(propN n b).2.1.length≤1048576∧(propN n b).2.2.length≤1:=by
 unfold propN
 cases propB n b with
 |false=>exact ⟨Nat.zero_le _,Nat.zero_le _⟩
 |true=>exact ⟨Nat.le_trans (toAllL_len _ _ _ _) h,Nat.le_refl _⟩
theorem s_lead (n:DNd) (id:Int) (hV:NW n) (hid:(Lit.int .i64 id).wf=true) (hE:n.2.1<890):F171 (n,((id,()),()))=some (((leadN n id).2.1,()),(((leadN n id).2.2.1,()),(((leadN n id).2.2.2,()),((leadN n id).1,())))):=by
 have h:=hV.v.h
 obtain ⟨m1,m2⟩:=makeN_ok h hid
 have hL:=setLed_nw hV h.round
 have hpl:=propN_len (setLed n (nRound n)) (makeN n id) (take_nw hL m1 m2 hE).1.v.h.l.2.1
 have htl:=toAllL_len (nSet n) n.1 (propMsg (makeN n id) n.2.1) n.2.1
 have hsl:(nSet n).length≤1048576:=h.l.2.1
 have hML:MsgL (propMsg (makeN n id) n.2.1):=⟨(by decide:1≤1048576),(fun x hx=>by rw [List.mem_singleton.1 hx];exact m2),Nat.zero_le _,Nat.zero_le _,Nat.zero_le _⟩
 unfold F171 leadN leadB
 have hstop:∀{S R:Type} {g:S→Option R} {r:R},Option.bind (some (Sum.inr r:Sum S R)) (fun q=>Sum.elim g some q)=some r:=fun {S R g r}=>rfl
 have hrest:((F165 (n,((id,()),()))).bind fun y5=>(F71 (y5.1,())).bind fun y6=>bif (!y6.1.1) then some ((([]:List DBk),()),((([]:List DMs),()),((([]:List D39),()),(n,())))) else (F207 (y5.1,())).bind fun y7=>bif (!y7.1.1) then some ((([]:List DBk),()),((([]:List DMs),()),((([]:List D39),()),(n,())))) else (F208 (setLed n (nRound n),(propMsg y5.1 n.2.1,()))).bind fun y8=>(F209 (setLed n (nRound n),(y5.1,()))).bind fun y9=>(F169 (y5.1,())).bind fun y10=>bif room (List.length y8.1.1+List.length y9.1.1) 216 then some ((([y10.1]:List DBk),()),((lapp y8.1.1 y9.1.1,()),(y9.2.1,(y9.2.2.1,())))) else none)
   =some (bif (blockB (makeN n id)&&followsB (makeN n id)) then ((([makeN n id]:List DBk),()),((toAllL (nSet n) n.1 (propMsg (makeN n id) n.2.1) n.2.1++(propN (setLed n (nRound n)) (makeN n id)).2.1,()),(((propN (setLed n (nRound n)) (makeN n id)).2.2,()),((propN (setLed n (nRound n)) (makeN n id)).1,())))) else ((([]:List DBk),()),((([]:List DMs),()),((([]:List D39),()),(n,()))))):=by
  refine bind_eq (s_makeN n id h) (bind_eq (s_blk _ m1) ?_)
  cases h1:blockB (makeN n id) with
  |false=>exact thenT rfl rfl
  |true =>
   refine no_then rfl (bind_eq (s_followsB _ m2) ?_)
   cases h2:followsB (makeN n id) with
   |false=>exact thenT rfl rfl
   |true =>
    refine no_then rfl (bind_eq (s_toAll (setLed n (nRound n)) (propMsg (makeN n id) n.2.1) h.l.2.1 hML) (bind_eq (s_prop (setLed n (nRound n)) (makeN n id) hL m1 m2 hE) (bind_eq (s_cblk _ m2) (thenT ?_ rfl))))
    refine room_big (Nat.le_trans (Nat.add_le_add (show List.length (toAllL (nSet n) n.1 (propMsg (makeN n id) n.2.1) n.2.1)≤1048576 by omega) hpl.1) (by decide)) (by decide) (by decide)
 cases h1:sEq (leaderS (nSet n) (nRound n)) n.1 with
 |false=>exact bind_eq (bind_eq (s_leader (nSet n) (nRound n)) (thenT (by show (!sEq (leaderS (nSet n) (nRound n)) n.1)=true;rw [h1];rfl) rfl)) rfl
 |true =>
  cases h2:iLe (nRound n) (nLed n) with
  |true=>exact bind_eq (bind_eq (s_leader (nSet n) (nRound n)) (no_then (by show (!sEq (leaderS (nSet n) (nRound n)) n.1)=false;rw [h1];rfl) (thenT rfl rfl))) rfl
  |false =>
   cases h3:iEq (nHigh n).2.1 (-1) with
   |true =>
    refine bind_eq (bind_eq (s_leader (nSet n) (nRound n)) (no_then (by show (!sEq (leaderS (nSet n) (nRound n)) n.1)=false;rw [h1];rfl) (no_then rfl (no_then (by show (!iEq (nHigh n).2.1 (-1))=false;rw [h3];rfl) rfl)))) (hrest.trans ?_)
    cases (blockB (makeN n id)&&followsB (makeN n id))<;>rfl
   |false =>
    cases h4:iLt (blkAt (nTree n) (nHigh n).2.1) 0 with
    |true =>
     refine bind_eq (bind_eq (s_leader (nSet n) (nRound n)) (no_then (by show (!sEq (leaderS (nSet n) (nRound n)) n.1)=false;rw [h1];rfl) (no_then rfl (thenT (by show (!iEq (nHigh n).2.1 (-1))=true;rw [h3];rfl) (bind_eq (s_blkAt (nTree n) (nHigh n).2.1 h.ok.tree.1) (thenT h4 rfl)))))) rfl
    |false =>
     refine bind_eq (bind_eq (s_leader (nSet n) (nRound n)) (no_then (by show (!sEq (leaderS (nSet n) (nRound n)) n.1)=false;rw [h1];rfl) (no_then rfl (thenT (by show (!iEq (nHigh n).2.1 (-1))=true;rw [h3];rfl) (bind_eq (s_blkAt (nTree n) (nHigh n).2.1 h.ok.tree.1) (no_then h4 rfl)))))) (hrest.trans ?_)
     cases (blockB (makeN n id)&&followsB (makeN n id))<;>rfl
def shareMsg (to:ByteArray) (ep:Int) (bs:List DBk) (q:DQc) (t:DTc):DMs:=(4,(to,(ep,(bs,(0,(0,(⟨#[]⟩,(0,(0,(⟨#[]⟩,(q.1,(q.2.1,(q.2.2.1,(t.1,(t.2.1,(t.2.2.1,()))))))))))))))))
def tc0:DTc:=((0,([],([],()))):DTc)
def msg0:DMs:=(0,(⟨#[]⟩,(0,([],(0,(0,(⟨#[]⟩,(0,(0,(⟨#[]⟩,(0,(0,([],(0,([],([],()))))))))))))))))
def shareM (n:DNd) (ep:Int) (to:ByteArray):DMs×((Bool×Unit)×Unit):=bif iEq ep n.2.1 then (shareMsg to ep (nTree n) (nHigh n) (nTc n),((true,()),())) else match (nPast n).find? (fun p=>iEq p.1 ep) with
 |some p=>(shareMsg to ep (pBs p) (pQ p) tc0,((true,()),()))
 |none=>(msg0,((false,()),()))
theorem s_shareM (n:DNd) (ep:Int) (to:ByteArray) (h:NIn n):F173 (n,((ep,()),((to,()),())))=some (shareM n ep to):=by
 have l:=h.l
 have hq:=h.ok.qin h.l
 have ht:=h.ok.tin h.l
 unfold F173 shareM
 cases h1:iEq ep n.2.1 with
 |true=>exact thenT rfl (bind_eq (s_cblks (nTree n) l.2.2.1 l.2.2.2.1) (bind_eq (s_cqc (nHigh n) hq.w) (bind_eq (s_ctc (nTc n) ht.w ht.wh) rfl)))
 |false =>
  have hpl:W1 (nPast n).length:=l.2.2.2.2.2.2.2.2.2.2.2.1
  have hpp:∀p∈nPast n,ProofL p:=l.2.2.2.2.2.2.2.2.2.2.2.2
  have lp:=loopFindV (S:=Int×Unit) (nPast n) (fun p=>iEq p.1 ep) (f:=F173.b0 (n,((ep,()),((to,()),())))) (fun k=>(k,())) (Sum.inl (((nPast n).length:Int),())) (fun p=>Sum.inr (shareMsg to ep (pBs p) (pQ p) tc0,((true,()),()))) (fun i hi=>by
   unfold F173.b0
   have hP:=hpp _ (List.getElem_mem hi)
   refine lt_then (Int.ofNat_lt.2 hi) (bind_eq (getI_lt (xs:=nPast n) hi) ?_)
   rw [←nxt hi hpl.l]
   refine if_bool (fun hb=>?_) (fun hb=>?_)
   ·rw [show iEq (nPast n)[i].1 ep=true from hb]
    exact bind_eq (getI_lt (xs:=nPast n) hi) (bind_eq (s_cblks _ hP.1 hP.2.1) (bind_eq (getI_lt (xs:=nPast n) hi) (bind_eq (s_cqc (pQ (nPast n)[i]) hP.2.2) rfl)))
   ·rw [show iEq (nPast n)[i].1 ep=false from hb];rfl) (by
   unfold F173.b0
   exact lt_else (Int.le_refl _) rfl)
  refine no_then rfl (bind_eq lp ?_)
  cases (nPast n).find? (fun p=>iEq p.1 ep)<;>rfl
theorem baLoop_eq (b:ByteArray):∀(k i:Nat) (r:List UInt8),k+i=b.size→ByteArray.toList.loop b i r=r.reverse++b.data.toList.drop i:=by
 intro k
 induction k with
 |zero =>
  intro i r h
  unfold ByteArray.toList.loop
  have:¬i<b.size:=by omega
  rw [if_neg this,List.drop_eq_nil_of_le (by show b.data.toList.length≤i;have:b.data.toList.length=b.size:=rfl;omega),List.append_nil]
 |succ k ih =>
  intro i r h
  unfold ByteArray.toList.loop
  have hi:i<b.size:=by omega
  rw [if_pos hi,ih (i+1) _ (by omega)]
  have hd:b.data.toList.drop i=b.get! i::b.data.toList.drop (i+1):=by
   have hi':i<b.data.toList.length:=hi
   rw [List.drop_eq_getElem_cons hi']
   congr 1
   have hi2:i<b.data.size:=hi
   simp only [ByteArray.get!]
   rw [getElem!_pos b.data i hi2]
   simp
  rw [hd];simp
theorem baList_data (b:ByteArray):b.toList=b.data.toList:=by
 unfold ByteArray.toList
 have:=baLoop_eq b b.size 0 [] (by omega)
 simpa using this
theorem sEq_iff {a b:ByteArray}:sEq a b=true↔a=b:=by
 constructor
 ·intro h
  have h1:a.toList=b.toList:=by unfold sEq at h;simpa using h
  rw [baList_data,baList_data] at h1
  cases a with|mk x=>cases b with|mk y =>
  have h1:x.toList=y.toList:=h1
  have:x=y:=Array.toList_inj.1 h1
  rw [this]
 ·rintro rfl;exact sEq_self a
theorem sEq_no {a b:ByteArray}:sEq a b=false↔a≠b:=by
 cases h:sEq a b with
 |true=>simp [sEq_iff.1 h]
 |false =>
  simp only [true_iff]
  intro e
  rw [sEq_iff.2 e] at h
  cases h
abbrev DSg:Type:=D39
def sigEq (a b:DSg):Bool:=iEq a.1 b.1&&(iEq a.2.1 b.2.1&&(iEq a.2.2.1 b.2.2.1&&(iEq a.2.2.2.1 b.2.2.2.1&&sEq a.2.2.2.2.1 b.2.2.2.2.1)))
theorem sigEq_iff {a b:DSg}:sigEq a b=true↔a=b:=by
 obtain ⟨a1,a2,a3,a4,a5,u⟩:=a
 obtain ⟨b1,b2,b3,b4,b5,v⟩:=b
 unfold sigEq
 simp only [Bool.and_eq_true,iEq_iff,sEq_iff]
 constructor
 ·rintro ⟨rfl,rfl,rfl,rfl,rfl⟩;rfl
 ·intro h
  simp only [Prod.mk.injEq] at h
  exact ⟨h.1,h.2.1,h.2.2.1,h.2.2.2.1,h.2.2.2.2.1⟩
def hasSig (tab:List DSg) (s:DSg):Bool:=tab.any (fun x=>sigEq x s)
theorem hasSig_iff {tab:List DSg} {s:DSg}:hasSig tab s=true↔s∈tab:=by
 unfold hasSig
 rw [List.any_eq_true]
 constructor
 ·rintro ⟨x,hx,e⟩
  rw [←sigEq_iff.1 e]
  exact hx
 ·intro h
  exact ⟨s,h,sigEq_iff.2 rfl⟩
def addSig (tab:List DSg) (s:DSg):List DSg:=bif !hasSig tab s then tab++ [s] else tab
theorem addSig_mem {tab:List DSg} {s x:DSg}:x∈addSig tab s↔x∈tab∨x=s:=by
 unfold addSig
 cases h:hasSig tab s with
 |true =>
  have:=hasSig_iff.1 h
  constructor
  ·exact .inl
  ·rintro (h|rfl)
   ·exact h
   ·exact this
 |false=>simp
theorem addSigs_mem:∀{l tab:List DSg} {x:DSg},x∈l.foldl addSig tab↔x∈tab∨x∈l
 | [],tab,x=>by simp
 |s::r,tab,x=>by
  rw [List.foldl_cons,addSigs_mem,addSig_mem,List.mem_cons]
  constructor
  ·rintro ((h|h)|h)
   ·exact .inl h
   ·exact .inr (.inl h)
   ·exact .inr (.inr h)
  ·rintro (h|h|h)
   ·exact .inl (.inl h)
   ·exact .inl (.inr h)
   ·exact .inr h
theorem addSig_len (tab:List DSg) (s:DSg):(addSig tab s).length≤tab.length+1:=by
 unfold addSig
 cases hasSig tab s<;>simp
theorem addSigs_len:∀(l tab:List DSg),(l.foldl addSig tab).length≤tab.length+l.length
 | [],tab=>by simp
 |s::r,tab=>by
  have h1:=addSigs_len r (addSig tab s)
  have h2:=addSig_len tab s
  rw [List.foldl_cons,List.length_cons]
  omega
theorem s_hasSig (tab:List DSg) (s:DSg) (hl:L63 tab.length):F205 ((tab,()),(s,()))=some (B1 (hasSig tab s)):=by
 have lp:=loopHas (S:=Int×Unit) tab (fun x=>sigEq x s) (f:=F205.b0 ((tab,()),(s,()))) (fun k=>(k,())) (Sum.inl ((tab.length:Int),())) (Sum.inr (B1 true)) (fun i hi=>by
  unfold F205.b0
  refine lt_then (Int.ofNat_lt.2 hi) (bind_eq (getI_lt hi) ?_)
  rw [←nxt hi hl];rfl) (by
  unfold F205.b0
  exact lt_else (Int.le_refl _) rfl)
 unfold F205
 refine bind_eq lp ?_
 unfold hasSig
 cases tab.any (fun x=>sigEq x s)<;>rfl
def qcSg (ep:Int) (q:DQc):List DSg:=q.2.2.1.map (fun w=>((1,(ep,(q.1,(q.2.1,(w.1,()))))):DSg))
def tcSg (ep:Int) (t:DTc):List DSg:=(List.zip t.2.1 t.2.2.1).map (fun p=>((2,(ep,(t.1,(p.2.1,(p.1.1,()))))):DSg))
def blkSg (ep:Int) (b:DBk):List DSg:=qcSg ep (bQc b)++tcSg ep (bTc b)
def sigsL (m:DMs):List DSg:=(bif !sEq (mVo m).2.2.1 ⟨#[]⟩ then [((1,(m.2.2.1,((mVo m).1,((mVo m).2.1,((mVo m).2.2.1,()))))):DSg)] else [])++((bif !sEq (mGo m).2.2.1 ⟨#[]⟩ then [((2,(m.2.2.1,((mGo m).1,((mGo m).2.1,((mGo m).2.2.1,()))))):DSg)] else [])++(qcSg m.2.2.1 (mQ m)++(tcSg m.2.2.1 (mT m)++(mBs m).flatMap (blkSg m.2.2.1))))
theorem qcSg_len (ep:Int) (q:DQc):(qcSg ep q).length=List.length q.2.2.1:=by unfold qcSg;rw [List.length_map]
theorem tcSg_len (ep:Int) (t:DTc):(tcSg ep t).length=min (List.length t.2.1) (List.length t.2.2.1):=by unfold tcSg;rw [List.length_map,List.length_zip]
theorem qcSg_get (ep:Int) (q:DQc) (k:Nat) (h:k<(qcSg ep q).length) (h2:k<List.length q.2.2.1):(qcSg ep q)[k]=((1,(ep,(q.1,(q.2.1,((q.2.2.1[k]).1,()))))):DSg):=List.getElem_map ..
theorem tcSg_get (ep:Int) (t:DTc) (k:Nat) (h:k<(tcSg ep t).length) (h1:k<List.length t.2.1) (h2:k<List.length t.2.2.1):(tcSg ep t)[k]=((2,(ep,(t.1,((t.2.2.1[k]).1,((t.2.1[k]).1,()))))):DSg):=by
 have h3:k<(List.zip t.2.1 t.2.2.1).length:=by rw [List.length_zip];omega
 have e:(tcSg ep t)[k]=(fun p:D9×D3=>((2,(ep,(t.1,(p.2.1,(p.1.1,()))))):DSg)) ((List.zip t.2.1 t.2.2.1)[k]'h3):=List.getElem_map ..
 rw [e,List.getElem_zip]
theorem blkSg_len (ep:Int) {b:DBk} {k:Nat} (h1:List.length (bQc b).2.2.1≤k) (h2:List.length (bTc b).2.1≤k):(blkSg ep b).length≤2*k:=by
 unfold blkSg
 rw [List.length_append,qcSg_len,tcSg_len]
 omega
theorem s_qcSigs (out:List DSg) (ep:Int) (q:DQc) (ho:out.length+List.length q.2.2.1≤1000000):F238 ((out,()),((ep,()),(q,())))=some ((out++qcSg ep q,()),()):=by
 have hlen:=qcSg_len ep q
 have sp:=loopF_trace (f:=F238.b0 ((out,()),((ep,()),(q,())))) (fun k=>(out++(qcSg ep q).take k,((k:Int),()))) (List.length q.2.2.1) (e:=Sum.inl (out++qcSg ep q,((List.length q.2.2.1:Int),()))) (fun k hk=>by
  unfold F238.b0
  refine lt_then (Int.ofNat_lt.2 hk) (bind_eq (getI_lt hk) (room_is ?_ (by decide) (by decide) (st2 ?_ (nxt (n:=List.length q.2.2.1) hk (by unfold L63;omega)))))
  ·show (out++(qcSg ep q).take k).length+1≤1048577
   rw [List.length_append,List.length_take];omega
  ·have hk2:k<(qcSg ep q).length:=by omega
   show (out++(qcSg ep q).take k)++ [_]=out++(qcSg ep q).take (k+1)
   rw [List.take_succ_eq_append_getElem hk2,←List.append_assoc]
   rw [qcSg_get ep q k hk2 hk])
  (by
  unfold F238.b0
  refine lt_else (Int.le_refl _) ?_
  rw [←hlen,List.take_length])
 unfold F238
 refine bind_eq (y:=Sum.inl (out++qcSg ep q,((List.length q.2.2.1:Int),()))) ?_ rfl
 simpa using sp
theorem s_tcSigs (out:List DSg) (ep:Int) (t:DTc) (ho:out.length+List.length t.2.1≤1000000):F237 ((out,()),((ep,()),(t,())))=some ((out++tcSg ep t,()),()):=by
 have hlen:=tcSg_len ep t
 have sp:=loopF_trace (f:=F237.b0 ((out,()),((ep,()),(t,())))) (fun k=>(out++(tcSg ep t).take k,((k:Int),()))) (tcSg ep t).length (e:=Sum.inl (out++tcSg ep t,(((tcSg ep t).length:Int),()))) (fun k hk=>by
  have h1:k<List.length t.2.1:=by omega
  have h2:k<List.length t.2.2.1:=by omega
  unfold F237.b0
  refine lt_then (Int.ofNat_lt.2 h1) (lt_then (Int.ofNat_lt.2 h2) (bind_eq (getI_lt h2) (bind_eq (getI_lt h1) (room_is ?_ (by decide) (by decide) (st2 ?_ (nxt (n:=List.length t.2.1) h1 (by unfold L63;omega)))))))
  ·show (out++(tcSg ep t).take k).length+1≤1048577
   rw [List.length_append,List.length_take];omega
  ·show (out++(tcSg ep t).take k)++ [_]=out++(tcSg ep t).take (k+1)
   rw [List.take_succ_eq_append_getElem hk,←List.append_assoc]
   rw [tcSg_get ep t k hk h1 h2])
  (by
  unfold F237.b0
  have e:out++(tcSg ep t).take (tcSg ep t).length=out++tcSg ep t:=by rw [List.take_length]
  rcases Nat.lt_or_ge (tcSg ep t).length (List.length t.2.1) with h|h
  ·refine lt_then (Int.ofNat_lt.2 h) (lt_else (Int.ofNat_le.2 (show List.length t.2.2.1≤(tcSg ep t).length by omega)) ?_)
   rw [e]
  ·refine lt_else (Int.ofNat_le.2 h) ?_
   rw [e])
 unfold F237
 refine bind_eq (y:=Sum.inl (out++tcSg ep t,(((tcSg ep t).length:Int),()))) ?_ rfl
 simpa using sp
def MsgS (m:DMs):Prop:=List.length (mQ m).2.2.1≤1000∧List.length (mT m).2.1≤1000∧(mBs m).length≤400∧∀b∈mBs m,List.length (bQc b).2.2.1≤1000∧List.length (bTc b).2.1≤1000
theorem flat_len (ep:Int):∀(bs:List DBk),(∀b∈bs,List.length (bQc b).2.2.1≤1000∧List.length (bTc b).2.1≤1000)→(bs.flatMap (blkSg ep)).length≤2000*bs.length
 | [],_=>Nat.zero_le _
 |b::r,h=>by
  rw [List.flatMap_cons,List.length_append,List.length_cons]
  have h1:=flat_len ep r (fun c hc=>h c (by simp [hc]))
  have h2:=blkSg_len ep (h b (by simp)).1 (h b (by simp)).2
  omega
theorem s_sigsOf (m:DMs) (h:MsgS m) (hl:L63 (mBs m).length):F204 (m,())=some ((sigsL m,()),()):=by
 obtain ⟨h1,h2,h3,h4⟩:=h
 let A:List DSg:=(bif !sEq (mVo m).2.2.1 ⟨#[]⟩ then [((1,(m.2.2.1,((mVo m).1,((mVo m).2.1,((mVo m).2.2.1,()))))):DSg)] else [])
 let B:List DSg:=(bif !sEq (mGo m).2.2.1 ⟨#[]⟩ then [((2,(m.2.2.1,((mGo m).1,((mGo m).2.1,((mGo m).2.2.1,()))))):DSg)] else [])
 have hA:A.length≤1:=by show (bif !sEq (mVo m).2.2.1 ⟨#[]⟩ then [_] else []).length≤1;cases sEq (mVo m).2.2.1 ⟨#[]⟩<;>simp
 have hB:B.length≤1:=by show (bif !sEq (mGo m).2.2.1 ⟨#[]⟩ then [_] else []).length≤1;cases sEq (mGo m).2.2.1 ⟨#[]⟩<;>simp
 have jA:∀(R:Type),(bif !sEq (mVo m).2.2.1 ⟨#[]⟩ then (F236 ((m.2.2.1,()),(mVo m,()))).bind fun y1=>bif room (List.length ([]:List DSg)+List.length ([y1.1]:List DSg)) 48 then some (.inl (lapp ([]:List DSg) ([y1.1]:List DSg),())) else none else some (.inl (([]:List DSg),())))=some (Sum.inl (A,()):Sum (List DSg×Unit) R):=by
  intro R
  show _=some (Sum.inl ((bif !sEq (mVo m).2.2.1 ⟨#[]⟩ then [_] else []),()))
  cases sEq (mVo m).2.2.1 ⟨#[]⟩<;>rfl
 have jB:∀(R:Type),(bif !sEq (mGo m).2.2.1 ⟨#[]⟩ then (F210 ((m.2.2.1,()),(mGo m,()))).bind fun y4=>bif room (List.length A+List.length ([y4.1]:List DSg)) 48 then some (.inl (lapp A ([y4.1]:List DSg),())) else none else some (.inl (A,())))=some (Sum.inl (A++B,()):Sum (List DSg×Unit) R):=by
  intro R
  show _=some (Sum.inl (A++(bif !sEq (mGo m).2.2.1 ⟨#[]⟩ then [_] else []),()))
  cases sEq (mGo m).2.2.1 ⟨#[]⟩ with
  |true=>simp
  |false=>exact bind_eq rfl (room_is (by show A.length+1≤_;omega) (by decide) (by decide) rfl)
 unfold F204
 refine bind_eq (jA _) (bind_eq (jB _) (bind_eq (s_qcSigs (A++B) m.2.2.1 (mQ m) (by rw [List.length_append];omega)) (bind_eq (s_tcSigs (A++B++qcSg m.2.2.1 (mQ m)) m.2.2.1 (mT m) (by rw [List.length_append,List.length_append,qcSg_len];omega)) ?_)))
 generalize hO:A++B++qcSg m.2.2.1 (mQ m)++tcSg m.2.2.1 (mT m)=O
 have hOl:O.length≤3000:=by rw [←hO,List.length_append,List.length_append,List.length_append,qcSg_len,tcSg_len];omega
 have sp:=loopFold (S:=List DSg×(Int×Unit)) (mBs m) (fun s b=>s++blkSg m.2.2.1 b) (fun i s=>s.length≤3000+2000*i) (f:=F204.b0 (m,())) (fun s k=>(s,(k,()))) (fun s=>Sum.inl (s,(((mBs m).length:Int),()))) O (by omega) (fun i hi s hI=>by
  have hb:=h4 _ (List.getElem_mem hi)
  have hk:=blkSg_len m.2.2.1 hb.1 hb.2
  refine ⟨?_,by rw [List.length_append];omega⟩
  unfold F204.b0
  refine lt_then (Int.ofNat_lt.2 hi) (bind_eq (getI_lt hi) (bind_eq (s_qcSigs s m.2.2.1 (bQc (mBs m)[i]) (by omega)) (bind_eq (getI_lt hi) (bind_eq (s_tcSigs (s++qcSg m.2.2.1 (bQc (mBs m)[i])) m.2.2.1 (bTc (mBs m)[i]) (by rw [List.length_append,qcSg_len];omega)) ?_))))
  refine st2 ?_ (nxt hi hl)
  unfold blkSg
  rw [List.append_assoc]) (fun s _=>by
  unfold F204.b0
  exact lt_else (Int.le_refl _) rfl)
 refine bind_eq sp.1 ?_
 have hf:∀(bs:List DBk) (s:List DSg),bs.foldl (fun s b=>s++blkSg m.2.2.1 b) s=s++bs.flatMap (blkSg m.2.2.1):=by
  intro bs
  induction bs with
  |nil=>intro s;simp
  |cons b r ih=>intro s;rw [List.foldl_cons,ih,List.flatMap_cons,List.append_assoc]
 rw [hf,←hO]
 show some ((_,()),())=some ((sigsL m,()),())
 have:A++B++qcSg m.2.2.1 (mQ m)++tcSg m.2.2.1 (mT m)++(mBs m).flatMap (blkSg m.2.2.1)=sigsL m:=by
  unfold sigsL
  simp only [List.append_assoc]
  rfl
 rw [this]
def signedB (tab:List DSg) (foul:List D9) (m:DMs):Bool:=(sigsL m).all (fun s=>hasB foul s.2.2.2.2.1||hasSig tab s)
theorem s_signed (tab:List DSg) (foul:List D9) (m:DMs) (h:MsgS m) (hl:L63 (mBs m).length) (hf:L63 foul.length) (ht:L63 tab.length):F168 ((tab,()),((foul,()),(m,())))=some (B1 (signedB tab foul m)):=by
 have hsl:(sigsL m).length≤1000000:=by
  obtain ⟨h1,h2,h3,h4⟩:=h
  have:=flat_len m.2.2.1 (mBs m) h4
  unfold sigsL
  rw [List.length_append,List.length_append,List.length_append,List.length_append,qcSg_len,tcSg_len]
  have a1:(bif !sEq (mVo m).2.2.1 ⟨#[]⟩ then [((1,(m.2.2.1,((mVo m).1,((mVo m).2.1,((mVo m).2.2.1,()))))):DSg)] else []).length≤1:=by cases sEq (mVo m).2.2.1 ⟨#[]⟩<;>simp
  have a2:(bif !sEq (mGo m).2.2.1 ⟨#[]⟩ then [((2,(m.2.2.1,((mGo m).1,((mGo m).2.1,((mGo m).2.2.1,()))))):DSg)] else []).length≤1:=by cases sEq (mGo m).2.2.1 ⟨#[]⟩<;>simp
  omega
 have lp:=loopAllP (S:=Int×Unit) (sigsL m) (fun s=>hasB foul s.2.2.2.2.1||hasSig tab s) (f:=F168.b0 ((sigsL m,()),()) ((tab,()),((foul,()),(m,())))) (fun k=>(k,())) (Sum.inl (((sigsL m).length:Int),())) (Sum.inr (B1 false)) (fun i hi=>by
  unfold F168.b0
  refine lt_then (Int.ofNat_lt.2 hi) (bind_eq (getI_lt hi) (bind_eq (getN_lt hi) (bind_eq (s_has foul _ hf) ?_)))
  rw [←nxt hi (n:=(sigsL m).length) (by unfold L63;omega)]
  dsimp only
  cases hasB foul (sigsL m)[i].2.2.2.2.1 with
  |true=>rfl
  |false =>
   refine thenT rfl (bind_eq (getI_lt hi) (bind_eq (getN_lt hi) (bind_eq (s_hasSig tab _ ht) ?_)))
   dsimp only
   rw [Bool.false_or]
   cases hasSig tab (sigsL m)[i]<;>rfl) (by
  unfold F168.b0
  exact lt_else (Int.le_refl _) rfl)
 unfold F168 signedB
 refine bind_eq (s_sigsOf m h hl) (bind_eq lp ?_)
 cases (sigsL m).all (fun s=>hasB foul s.2.2.2.2.1||hasSig tab s)<;>rfl
abbrev wBase (w:DWo):DLe:=(w.1,(w.2.1,()))
abbrev wFoul (w:DWo):List D9:=w.2.2.1
abbrev wNodes (w:DWo):List DNd:=w.2.2.2.1
abbrev wBlocks (w:DWo):List DBk:=w.2.2.2.2.1
abbrev wSig (w:DWo):List DSg:=w.2.2.2.2.2.1
abbrev wNet (w:DWo):List DMs:=w.2.2.2.2.2.2.1
abbrev mkW (w:DWo) (nodes:List DNd) (blocks:List DBk) (sg:List DSg) (net:List DMs):DWo:=(w.1,(w.2.1,(w.2.2.1,(nodes,(blocks,(sg,(net,())))))))
def hasN (nodes:List DNd) (s:ByteArray):Bool:=nodes.any (fun n=>sEq n.1 s)
def atN (nodes:List DNd) (s:ByteArray):Int:=idxOf nodes (fun n=>sEq n.1 s)
def addNet (nodes:List DNd) (net:List DMs) (m:DMs):List DMs:=bif hasN nodes m.2.1&&iLt (net.length:Int) 400 then net++ [m] else net
def saidW (w:DWo) (ms:List DMs) (sg:List DSg):DWo:=mkW w (wNodes w) (wBlocks w) (sg.foldl addSig (wSig w)) (ms.foldl (addNet (wNodes w)) (wNet w))
theorem atN_nn (nodes:List DNd) (s:ByteArray):iLe 0 (atN nodes s)=hasN nodes s:=idxOf_any
theorem atN_cases (nodes:List DNd) (s:ByteArray):(hasN nodes s=false∧atN nodes s= -1)∨∃(j:Nat) (hj:j<nodes.length),sEq nodes[j].1 s=true∧hasN nodes s=true∧atN nodes s=(j:Int):=by
 unfold hasN atN
 rcases idxOf_cases nodes (fun n=>sEq n.1 s) with ⟨h1,_,h3⟩|⟨j,hj,hp,_,h1,_,h3⟩
 ·exact .inl ⟨h1,h3⟩
 ·exact .inr ⟨j,hj,hp,h1,h3⟩
theorem addNet_le {nodes:List DNd} {net:List DMs} {m:DMs} (h:net.length≤400):(addNet nodes net m).length≤400:=by
 unfold addNet
 cases hc:(hasN nodes m.2.1&&iLt (net.length:Int) 400) with
 |false=>exact h
 |true =>
  simp only [Bool.and_eq_true] at hc
  have:=iLt_iff.1 hc.2
  show (net++ [m]).length≤400
  rw [List.length_append]
  simp only [List.length_cons,List.length_nil]
  omega
theorem addNets_le {nodes:List DNd}:∀{ms net:List DMs},net.length≤400→(ms.foldl (addNet nodes) net).length≤400
 | [],net,h=>h
 |m::r,net,h=>by
  rw [List.foldl_cons]
  exact addNets_le (addNet_le h)
theorem addNets_mem {nodes:List DNd}:∀{ms net:List DMs} {x:DMs},x∈ms.foldl (addNet nodes) net→x∈net∨(x∈ms∧hasN nodes x.2.1=true)
 | [],net,x,h=> .inl h
 |m::r,net,x,h=>by
  rw [List.foldl_cons] at h
  rcases addNets_mem h with h|h
  ·unfold addNet at h
   cases hc:(hasN nodes m.2.1&&iLt (net.length:Int) 400) with
   |false=>rw [hc] at h;exact .inl h
   |true =>
    rw [hc] at h
    simp only [Bool.and_eq_true] at hc
    rcases List.mem_append.1 h with h|h
    ·exact .inl h
    ·rw [List.mem_singleton.1 h];exact .inr ⟨by simp,hc.1⟩
  ·exact .inr ⟨by simp [h.1],h.2⟩
theorem s_saidW (w:DWo) (ms:List DMs) (sg:List DSg) (hn:L63 (wNodes w).length) (hms:L63 ms.length) (hsg:L63 sg.length) (hnet:(wNet w).length≤400) (htab:(wSig w).length+sg.length≤1000000) :
  F170 (w,((ms,()),((sg,()),())))=some (saidW w ms sg,()):=by
 have l1:=loopFold (S:=Int×(List DMs×Unit)) ms (addNet (wNodes w)) (fun _ s=>s.length≤400) (f:=F170.b0 (w,((ms,()),((sg,()),())))) (fun s k=>(k,(s,()))) (fun s=>Sum.inl ((ms.length:Int),(s,()))) (wNet w) hnet (fun i hi s hI=>by
  refine ⟨?_,addNet_le hI⟩
  unfold F170.b0 addNet
  refine lt_then (Int.ofNat_lt.2 hi) (bind_eq (getI_lt hi) (bind_eq (s_nodeAt _ ms[i].2.1 hn) ?_))
  rw [←nxt hi hms]
  show (bif iLe 0 (atN (wNodes w) ms[i].2.1) then _ else _)=_
  rw [atN_nn]
  cases hasN (wNodes w) ms[i].2.1 with
  |false=>rfl
  |true =>
   refine thenT rfl ?_
   show (bif iLt (s.length:Int) 400 then _ else _)=_
   cases iLt (s.length:Int) 400 with
   |false=>rfl
   |true=>exact thenT rfl (bind_eq (getI_lt hi) (room_is (by show s.length+1≤1048577;omega) (by decide) (by decide) rfl))) (fun s _=>by
  unfold F170.b0
  exact lt_else (Int.le_refl _) rfl)
 have l2:=loopFold (S:=Int×(List DSg×Unit)) sg addSig (fun i s=>s.length≤(wSig w).length+i) (f:=F170.b1 (w,((ms,()),((sg,()),())))) (fun s k=>(k,(s,()))) (fun s=>Sum.inl ((sg.length:Int),(s,()))) (wSig w) (Nat.le_refl _) (fun i hi s hI=>by
  refine ⟨?_,Nat.le_trans (addSig_len _ _) (by omega)⟩
  unfold F170.b1 addSig
  refine lt_then (Int.ofNat_lt.2 hi) (bind_eq (getI_lt hi) (bind_eq (s_hasSig s sg[i] (by unfold L63;omega)) ?_))
  rw [←nxt hi hsg]
  dsimp only
  cases hasSig s sg[i] with
  |true=>rfl
  |false=>exact thenT rfl (bind_eq (getI_lt hi) (room_is (by show s.length+1≤1048577;omega) (by decide) (by decide) rfl))) (fun s _=>by
  unfold F170.b1
  exact lt_else (Int.le_refl _) rfl)
 unfold F170
 exact bind_eq l1.1 (bind_eq l2.1 rfl)
structure WI (E S:Nat) (w:DWo):Prop where
 acc:(Ty.sl e120).Ok (wBase w).2.1
 accL:AcctL (wBase w).2.1
 led:ledgerB (wBase w)=true
 fo:(Ty.sl e9).Ok (wFoul w)
 foL:(wFoul w).length≤20
 nl:(wNodes w).length≤12
 nd:∀n∈wNodes w,NW n∧n.2.1≤(E:Int)
 bo:(Ty.sl e71).Ok (wBlocks w)
 bl:(wBlocks w).length≤1000
 bL:∀b∈wBlocks w,BlockL b
 so:(Ty.sl e39).Ok (wSig w)
 sl:(wSig w).length≤S
 nt:(wNet w).length≤400
 nm:∀m∈wNet w,HIn m∧hasN (wNodes w) m.2.1=true
theorem WI.up {E S E' S':Nat} {w:DWo} (h:WI E S w) (h1:E≤E') (h2:S≤S'):WI E' S' w:=⟨h.acc,h.accL,h.led,h.fo,h.foL,h.nl,fun n hn=>⟨(h.nd n hn).1,by have:=(h.nd n hn).2;omega⟩,h.bo,h.bl,h.bL,h.so,Nat.le_trans h.sl h2,h.nt,h.nm⟩
theorem hasN_set {nodes:List DNd} {j:Nat} {n:DNd} (hj:j<nodes.length) (e:n.1=nodes[j].1) (s:ByteArray):hasN (nodes.set j n) s=hasN nodes s:=by
 have h:(nodes.set j n).map (fun x=>x.1)=nodes.map (fun x=>x.1):=by
  rw [List.map_set,e]
  apply List.ext_getElem
  ·simp
  ·intro i h1 h2
   rw [List.getElem_set]
   split
   ·next h=>subst h;simp
   ·rfl
 have key:∀l:List DNd,hasN l s=(l.map (fun x=>x.1)).any (fun x=>sEq x s):=fun l=>by unfold hasN;rw [List.any_map];rfl
 rw [key,key,h]
def setNode (w:DWo) (j:Nat) (n:DNd):DWo:=mkW w ((wNodes w).set j n) (wBlocks w) (wSig w) (wNet w)
theorem setNode_wi {E S:Nat} {w:DWo} (h:WI E S w) {j:Nat} (hj:j<(wNodes w).length) {n:DNd} (e:n.1=(wNodes w)[j].1) (hn:NW n) (he:n.2.1≤(E:Int)):WI E S (setNode w j n):=by
 refine ⟨h.acc,h.accL,h.led,h.fo,h.foL,?_,fun x hx=>?_,h.bo,h.bl,h.bL,h.so,h.sl,h.nt,fun m hm=>⟨(h.nm m hm).1,?_⟩⟩
 ·show ((wNodes w).set j n).length≤12
  rw [List.length_set];exact h.nl
 ·rcases List.mem_or_eq_of_mem_set hx with h1|rfl
  ·exact h.nd x h1
  ·exact ⟨hn,he⟩
 ·show hasN ((wNodes w).set j n) m.2.1=true
  rw [hasN_set hj e];exact (h.nm m hm).2
theorem saidW_wi {E S:Nat} {w:DWo} (h:WI E S w) {ms:List DMs} {sg:List DSg} (hm:∀m∈ms,HIn m) (hs:∀s∈sg,e39.Ok s) (hS:S≤900000) (hl:sg.length≤1):WI E (S+1) (saidW w ms sg):=by
 have hlen:=addSigs_len sg (wSig w)
 have hsl:=h.sl
 refine ⟨h.acc,h.accL,h.led,h.fo,h.foL,h.nl,h.nd,h.bo,h.bl,h.bL,?_,?_,addNets_le h.nt,fun m hx=>?_⟩
 ·refine Ok_of (Nat.le_trans hlen (show (wSig w).length+sg.length≤9223372036854775807 by omega)) (fun s hx=>?_)
  rcases addSigs_mem.1 hx with h1|h1
  ·exact Ok_mem h.so.2 h1
  ·exact hs s h1
 ·show (sg.foldl addSig (wSig w)).length≤S+1
  omega
 ·rcases addNets_mem hx with h1|h1
  ·exact h.nm m h1
  ·exact ⟨hm m h1.1,h1.2⟩
theorem toAll_hin {set:List D97} {name:ByteArray} {m:DMs} {ep:Int} (hs:(Ty.sl e97).Ok set) (h:∀v∈set,HIn (msgTo m v.1 ep)):∀x∈toAllL set name m ep,HIn x:=by
 intro x hx
 unfold toAllL at hx
 obtain ⟨v,hv,rfl⟩:=List.mem_map.1 hx
 exact h v (List.mem_filter.1 hv).1
theorem prop_out {n:DNd} {b:DBk} (hV:NW n) (hb:e71.Ok b) (hbL:BlockL b) (hE:n.2.1<890):(∀m∈(propN n b).2.1,HIn m)∧(∀s∈(propN n b).2.2,e39.Ok s)∧(propN n b).2.2.length≤1∧(propN n b).2.1.length≤1048576:=by
 obtain ⟨h1,h2⟩:=take_nw hV hb hbL hE
 have hl:=propN_len n b h1.v.h.l.2.1
 refine ⟨?_,?_,hl.2,hl.1⟩
 ·unfold propN
  cases propB n b with
  |false=>intro m hm;cases hm
  |true=>exact toAll_hin h1.v.h.ok.set (fun v hv=>⟨⟨rfl,(Ok_mem h1.v.h.ok.set.2 hv).1,h1.v.h.ok.2.1,Ok_nil,hb.2.2.1,hb.1,h1.v.h.ok.1,rfl,rfl,Nat.zero_le _,rfl,rfl,Ok_nil,rfl,Ok_nil,Ok_nil,trivial⟩,⟨Nat.zero_le _,(fun x hx=>by cases hx),Nat.zero_le _,Nat.zero_le _,Nat.zero_le _⟩,fun h=>by cases h⟩)
 ·unfold propN
  cases propB n b with
  |false=>intro m hm;cases hm
  |true =>
   intro s hs
   rw [List.mem_singleton.1 hs]
   exact ⟨rfl,hV.v.h.ok.2.1,hb.2.2.1,hb.1,h1.v.h.ok.1,trivial⟩
theorem hear_out {n:DNd} {m:DMs} (hV:NW n) (hm:HIn m) (hE:n.2.1<890):(∀x∈(hearN n m).2.1,HIn x)∧(∀s∈(hearN n m).2.2,e39.Ok s)∧(hearN n m).2.2.length≤1∧(hearN n m).2.1.length≤1048576:=by
 have hno:(∀x∈([]:List DMs),HIn x)∧(∀s∈([]:List DSg),e39.Ok s)∧([]:List DSg).length≤1∧([]:List DMs).length≤1048576:=⟨(fun x h=>by cases h),(fun x h=>by cases h),Nat.zero_le _,Nat.zero_le _⟩
 unfold hearN
 cases h1:iEq m.1 1 with
 |true =>
  have hp:=hm.pr (iEq_iff.1 h1)
  cases hb:mBs m with
  |nil=>exact absurd hb hp
  |cons b r =>
   have hbb:=hm.ok.blk hm.l b (by rw [hb];simp)
   exact prop_out hV hbb.1 hbb.2 hE
 |false =>
  cases iEq m.1 2 with
  |true=>exact hno
  |false=>cases iEq m.1 3<;>exact hno
theorem leave_out {n:DNd} (hV:NW n):(∀x∈(leaveN n).2.1,HIn x)∧(∀s∈(leaveN n).2.2,e39.Ok s)∧(leaveN n).2.2.length≤1∧(leaveN n).2.1.length≤1048576:=by
 have hq:=hV.v.h.ok.qin hV.v.h.l
 have hset:=hV.v.h.ok.set
 have hk:=hV.v.h.ok
 unfold leaveN
 cases (inB (nSet n) n.1&& !iLt (nRound n) (nVoted n)) with
 |false=>exact ⟨(fun x h=>by cases h),(fun x h=>by cases h),Nat.zero_le _,Nat.zero_le _⟩
 |true =>
  refine ⟨toAll_hin hset (fun v hv=>⟨⟨rfl,(Ok_mem hset.2 hv).1,hk.2.1,Ok_nil,rfl,rfl,Nat.zero_le _,hV.v.h.round,hq.i1,hk.1,hq.i1,hq.i2,hq.ok,rfl,Ok_nil,Ok_nil,trivial⟩,⟨Nat.zero_le _,(fun x hx=>by cases hx),hq.w,Nat.zero_le _,Nat.zero_le _⟩,fun h=>by cases h⟩),fun s hs=>?_,Nat.le_refl _,Nat.le_trans (toAllL_len _ _ _ _) hV.v.h.l.2.1⟩
  rw [List.mem_singleton.1 hs]
  exact ⟨rfl,hk.2.1,hV.v.h.round,hq.i1,hk.1,trivial⟩
theorem lead_out {n:DNd} {id:Int} (hV:NW n) (hid:(Lit.int .i64 id).wf=true) (hE:n.2.1<890):(∀x∈(leadN n id).2.2.1,HIn x)∧(∀s∈(leadN n id).2.2.2,e39.Ok s)∧(leadN n id).2.2.2.length≤1∧(leadN n id).2.2.1.length≤2097152∧((leadN n id).2.1= []∧(leadN n id).1=n∨(leadN n id).2.1= [makeN n id]∧blockB (makeN n id)=true):=by
 have h:=hV.v.h
 obtain ⟨m1,m2⟩:=makeN_ok h hid
 have hL:=setLed_nw hV h.round
 obtain ⟨p1,p2,p3,p4⟩:=prop_out hL m1 m2 hE
 have hset:=h.ok.set
 have hk:=h.ok
 unfold leadN
 cases hc:leadB n id with
 |false=>exact ⟨(fun x h=>by cases h),(fun x h=>by cases h),Nat.zero_le _,Nat.zero_le _,.inl ⟨rfl,rfl⟩⟩
 |true =>
  refine ⟨fun x hx=>?_,p2,p3,?_,.inr ⟨rfl,?_⟩⟩
  ·rcases List.mem_append.1 hx with hx|hx
   ·exact toAll_hin (m:=propMsg (makeN n id) n.2.1) hset (fun v hv=>⟨⟨rfl,(Ok_mem hset.2 hv).1,hk.2.1,Ok_of (by decide:1≤9223372036854775807) (fun y hy=>by rw [List.mem_singleton.1 hy];exact m1),rfl,rfl,Nat.zero_le _,rfl,rfl,Nat.zero_le _,rfl,rfl,Ok_nil,rfl,Ok_nil,Ok_nil,trivial⟩,⟨(by decide:1≤1048576),(fun x hx=>by rw [List.mem_singleton.1 hx];exact m2),Nat.zero_le _,Nat.zero_le _,Nat.zero_le _⟩,fun _ h=>by cases h⟩) x hx
   ·exact p1 x hx
  ·show (toAllL (nSet n) n.1 (propMsg (makeN n id) n.2.1) n.2.1++(propN (setLed n (nRound n)) (makeN n id)).2.1).length≤2097152
   rw [List.length_append]
   have h1:=toAllL_len (nSet n) n.1 (propMsg (makeN n id) n.2.1) n.2.1
   have h2:(nSet n).length≤1048576:=h.l.2.1
   omega
  ·unfold leadB at hc
   simp only [Bool.and_eq_true] at hc
   exact hc.2.2.2.1
theorem share_out {n:DNd} {ep:Int} {to:ByteArray} (hV:NW n) (hep:(Lit.int .i64 ep).wf=true) (hto:L63 to.size) (h:(shareM n ep to).2.1.1=true):HIn (shareM n ep to).1:=by
 have hk:=hV.v.h.ok
 have hl:=hV.v.h.l
 have hq:=hk.qin hl
 have ht:=hk.tin hl
 unfold shareM at h ⊢
 cases he:iEq ep n.2.1 with
 |true=>exact ⟨⟨rfl,hto,hep,hk.tree,rfl,rfl,Nat.zero_le _,rfl,rfl,Nat.zero_le _,hq.i1,hq.i2,hq.ok,ht.i1,ht.ok,ht.hi,trivial⟩,⟨hl.2.2.1,hl.2.2.2.1,hq.w,ht.w,ht.wh⟩,fun h=>by cases h⟩
 |false =>
  rw [he] at h
  cases hf:(nPast n).find? (fun p=>iEq p.1 ep) with
  |none=>rw [hf] at h;cases h
  |some p =>
   have hm:=List.mem_of_find?_eq_some hf
   have hP:ProofL p:=hl.2.2.2.2.2.2.2.2.2.2.2.2 p hm
   have hpo:e59.Ok p:=Ok_mem hk.2.2.2.2.2.2.2.2.2.2.2.2.2.2.2.2.2.2.2.1.2 hm
   simp only [cond_false]
   exact ⟨⟨rfl,hto,hep,hpo.2.1,rfl,rfl,Nat.zero_le _,rfl,rfl,Nat.zero_le _,hpo.2.2.1,hpo.2.2.2.1,hpo.2.2.2.2.1,rfl,Ok_nil,Ok_nil,trivial⟩,⟨hP.1,hP.2.1,hP.2.2,Nat.zero_le _,Nat.zero_le _⟩,fun h=>by cases h⟩
noncomputable def hearW (w:DWo) (m:DMs):DWo:=match (wNodes w)[(atN (wNodes w) m.2.1).toNat]? with
 |some n=>bif iEq n.2.1 m.2.2.1 then saidW (setNode w (atN (wNodes w) m.2.1).toNat (hearN n m).1) (hearN n m).2.1 (hearN n m).2.2 else w
 |none=>w
theorem hearW_at {w:DWo} {m:DMs} (h:hasN (wNodes w) m.2.1=true):∃(j:Nat) (hj:j<(wNodes w).length),(wNodes w)[j].1=m.2.1∧atN (wNodes w) m.2.1=(j:Int)∧hearW w m=bif iEq (wNodes w)[j].2.1 m.2.2.1 then saidW (setNode w j (hearN (wNodes w)[j] m).1) (hearN (wNodes w)[j] m).2.1 (hearN (wNodes w)[j] m).2.2 else w:=by
 rcases atN_cases (wNodes w) m.2.1 with ⟨h1,_⟩|⟨j,hj,h1,_,h2⟩
 ·rw [h] at h1;cases h1
 ·refine ⟨j,hj,sEq_iff.1 h1,h2,?_⟩
  unfold hearW
  rw [h2,Int.toNat_natCast,List.getElem?_eq_getElem hj]
theorem s_hearW {E S:Nat} {w:DWo} {m:DMs} (h:WI E S w) (hE:E<890) (hS:S≤900000) (hm:HIn m) (hn:hasN (wNodes w) m.2.1=true):F167 (w,(m,()))=some (hearW w m,()):=by
 obtain ⟨j,hj,_,h2,h3⟩:=hearW_at hn
 have hnl:L63 (wNodes w).length:=by have:=h.nl;unfold L63;omega
 obtain ⟨hV,he⟩:=h.nd _ (List.getElem_mem hj)
 rw [h3]
 unfold F167
 have e1:F73 (w,((m.2.1,()),()))=some (I1 (j:Int)):=(s_nodeAt w m.2.1 hnl).trans (by rw [show idxOf w.2.2.2.1 (fun n=>sEq n.1 m.2.1)=(j:Int) from h2])
 refine bind_eq e1 (bind_eq (getI_lt hj) (bind_eq (getN_lt hj) ?_))
 show (bif iEq (wNodes w)[j].2.1 m.2.2.1 then _ else _)=_
 cases hc:iEq (wNodes w)[j].2.1 m.2.2.1 with
 |false=>rfl
 |true =>
  have hce:=iEq_iff.1 hc
  obtain ⟨o1,o2,o3,o4⟩:=hear_out hV hm (by omega)
  refine thenT rfl (bind_eq (getN_lt hj) (bind_eq (s_hear (wNodes w)[j] m hV hm hce.symm (by omega)) (bind_eq rfl (bind_eq (s_saidW (setNode w j (hearN (wNodes w)[j] m).1) (hearN (wNodes w)[j] m).2.1 (hearN (wNodes w)[j] m).2.2 ?_ ?_ ?_ h.nt ?_) rfl))))
  ·show L63 ((wNodes w).set j _).length
   rw [List.length_set];exact hnl
  ·unfold L63;omega
  ·unfold L63;omega
  ·have:=h.sl;show (wSig w).length+_≤1000000;omega
theorem hearW_wi {E S:Nat} {w:DWo} {m:DMs} (h:WI E S w) (hE:E<890) (hS:S≤900000) (hm:HIn m) (hn:hasN (wNodes w) m.2.1=true):WI (E+1) (S+1) (hearW w m):=by
 obtain ⟨j,hj,_,h2,h3⟩:=hearW_at hn
 obtain ⟨hV,he⟩:=h.nd _ (List.getElem_mem hj)
 rw [h3]
 cases hc:iEq (wNodes w)[j].2.1 m.2.2.1 with
 |false=>exact h.up (Nat.le_succ _) (Nat.le_succ _)
 |true =>
  have hce:=iEq_iff.1 hc
  obtain ⟨o1,o2,o3,o4⟩:=hear_out hV hm (by omega)
  obtain ⟨k1,k2,k3,k4⟩:=hear_nw hV hm hce.symm (by omega)
  exact saidW_wi (setNode_wi (h.up (Nat.le_succ _) (Nat.le_refl _)) hj k2 k1 (by push_cast;omega)) o1 o2 hS o3
def dropW (w:DWo) (k:Nat):DWo:=mkW w (wNodes w) (wBlocks w) (wSig w) ((wNet w).take k++(wNet w).drop (k+1))
theorem dropW_mem {w:DWo} {k:Nat} {m:DMs} (h:m∈wNet (dropW w k)):m∈wNet w:=by
 rcases List.mem_append.1 h with h|h
 ·exact List.mem_of_mem_take h
 ·exact List.mem_of_mem_drop h
theorem dropW_len (w:DWo) (k:Nat):(wNet (dropW w k)).length≤(wNet w).length:=by
 show ((wNet w).take k++(wNet w).drop (k+1)).length≤_
 rw [List.length_append,List.length_take,List.length_drop]
 omega
theorem dropW_wi {E S:Nat} {w:DWo} (h:WI E S w) (k:Nat):WI E S (dropW w k):=⟨h.acc,h.accL,h.led,h.fo,h.foL,h.nl,h.nd,h.bo,h.bl,h.bL,h.so,h.sl,Nat.le_trans (dropW_len w k) h.nt,fun m hm=>h.nm m (dropW_mem hm)⟩
noncomputable def leadW (w:DWo) (j:Nat) (n:DNd):DWo:=saidW (mkW w ((wNodes w).set j (leadN n ((wBlocks w).length:Int)).1) (wBlocks w++(leadN n ((wBlocks w).length:Int)).2.1) (wSig w) (wNet w)) (leadN n ((wBlocks w).length:Int)).2.2.1 (leadN n ((wBlocks w).length:Int)).2.2.2
noncomputable def leaveW (w:DWo) (j:Nat) (n:DNd):DWo:=saidW (setNode w j (leaveN n).1) (leaveN n).2.1 (leaveN n).2.2
def shareW (w:DWo) (n k:DNd):DWo:=bif (shareM n k.2.1 k.1).2.1.1 then saidW w [(shareM n k.2.1 k.1).1] [] else w
theorem len_wf {n:Nat} (h:n≤1000000):(Lit.int .i64 (n:Int)).wf=true:=Rwf (by omega) (by omega)
theorem saidW_nil (w:DWo):saidW w [] []=w:=rfl
theorem s_leadW {E S:Nat} {w:DWo} (h:WI E S w) (hE:E<890) (hS:S≤900000) {j:Nat} (hj:j<(wNodes w).length) (hb:(wBlocks w).length<1000) :
  F122 (w,(((j:Int),()),()))=some ((!iEq ((leadN (wNodes w)[j] ((wBlocks w).length:Int)).2.1.length:Int) 0,()),(leadW w j (wNodes w)[j],())):=by
 obtain ⟨hV,he⟩:=h.nd _ (List.getElem_mem hj)
 have hid:=len_wf (n:=(wBlocks w).length) (by omega)
 obtain ⟨o1,o2,o3,o4,o5⟩:=lead_out hV hid (by omega)
 have hnl:=h.nl
 unfold F122 leadW
 refine no_then (by show iLe 1000 ((wBlocks w).length:Int)=false;exact iLe_no.2 (by omega)) (bind_eq (getI_lt hj) (bind_eq (getN_lt hj) (bind_eq (s_lead (wNodes w)[j] ((wBlocks w).length:Int) hV hid (by omega)) (bind_eq rfl ?_))))
 generalize hr:leadN (wNodes w)[j] ((wBlocks w).length:Int)=r at o1 o2 o3 o4 o5
 show (bif iEq (r.2.1.length:Int) 0 then _ else _)=_
 rcases o5 with ⟨e1,e2⟩|⟨e1,_⟩
 ·have e3:r.2.2.1= []∧r.2.2.2= []:=by
   rw [←hr] at e1 ⊢
   unfold leadN at e1 ⊢
   cases hc:leadB (wNodes w)[j] ((wBlocks w).length:Int) with
   |true=>rw [hc] at e1;cases e1
   |false=>exact ⟨rfl,rfl⟩
  rw [e1,e2,e3.1,e3.2,saidW_nil,List.append_nil]
  rfl
 ·rw [e1]
  refine no_then rfl (thenT (room_big (by show (wBlocks w).length+1≤_;omega) (by decide) (by decide)) (bind_eq (s_saidW (mkW w ((wNodes w).set j r.1) (wBlocks w++ [makeN (wNodes w)[j] ((wBlocks w).length:Int)]) (wSig w) (wNet w)) r.2.2.1 r.2.2.2 ?_ ?_ ?_ h.nt ?_) rfl))
  ·show L63 ((wNodes w).set j _).length
   rw [List.length_set];unfold L63;omega
  ·unfold L63;omega
  ·unfold L63;omega
  ·have:=h.sl;show (wSig w).length+_≤1000000;omega
theorem leadW_wi {E S:Nat} {w:DWo} (h:WI E S w) (hE:E<890) (hS:S≤900000) {j:Nat} (hj:j<(wNodes w).length) (hb:(wBlocks w).length<1000):WI (E+1) (S+1) (leadW w j (wNodes w)[j]):=by
 obtain ⟨hV,he⟩:=h.nd _ (List.getElem_mem hj)
 have hid:=len_wf (n:=(wBlocks w).length) (by omega)
 obtain ⟨o1,o2,o3,o4,o5⟩:=lead_out hV hid (by omega)
 obtain ⟨k1,k2,k3,k4⟩:=lead_nw hV hid (by omega)
 obtain ⟨m1,m2⟩:=makeN_ok hV.v.h hid
 have h1:=setNode_wi (h.up (Nat.le_succ E) (Nat.le_refl S)) hj k2 k1 (by push_cast;omega)
 refine saidW_wi (w:=mkW w ((wNodes w).set j (leadN (wNodes w)[j] ((wBlocks w).length:Int)).1) (wBlocks w++(leadN (wNodes w)[j] ((wBlocks w).length:Int)).2.1) (wSig w) (wNet w)) ?_ o1 o2 hS o3
 have hmem:∀b∈wBlocks w++(leadN (wNodes w)[j] ((wBlocks w).length:Int)).2.1,e71.Ok b∧BlockL b:=fun b hbm=>by
  rcases List.mem_append.1 hbm with h2|h2
  ·exact ⟨Ok_mem h.bo.2 h2,h.bL b h2⟩
  ·rcases o5 with ⟨e,_⟩|⟨e,_⟩
   ·rw [e] at h2;cases h2
   ·rw [e,List.mem_singleton] at h2;rw [h2];exact ⟨m1,m2⟩
 have hlen:(wBlocks w++(leadN (wNodes w)[j] ((wBlocks w).length:Int)).2.1).length≤1000:=by
  rw [List.length_append]
  rcases o5 with ⟨e,_⟩|⟨e,_⟩<;>rw [e]<;>simp only [List.length_nil,List.length_cons]<;>omega
 exact ⟨h1.acc,h1.accL,h1.led,h1.fo,h1.foL,h1.nl,h1.nd,Ok_of (Nat.le_trans hlen (by decide)) (fun b hbm=>(hmem b hbm).1),hlen,fun b hbm=>(hmem b hbm).2,h1.so,h1.sl,h1.nt,h1.nm⟩
theorem s_leaveW {E S:Nat} {w:DWo} (h:WI E S w) (hE:E<890) (hS:S≤900000) {j:Nat} (hj:j<(wNodes w).length) :
  F123 (w,(((j:Int),()),()))=some ((iLt 0 ((leaveN (wNodes w)[j]).2.2.length:Int),()),(leaveW w j (wNodes w)[j],())):=by
 obtain ⟨hV,he⟩:=h.nd _ (List.getElem_mem hj)
 obtain ⟨o1,o2,o3,o4⟩:=leave_out hV
 have hnl:=h.nl
 unfold F123 leaveW
 refine bind_eq (getI_lt hj) (bind_eq (getN_lt hj) (bind_eq (s_leave1 (wNodes w)[j] hV (by omega)) (bind_eq rfl (bind_eq (s_saidW (setNode w j (leaveN (wNodes w)[j]).1) (leaveN (wNodes w)[j]).2.1 (leaveN (wNodes w)[j]).2.2 ?_ ?_ ?_ h.nt ?_) rfl))))
 ·show L63 ((wNodes w).set j _).length
  rw [List.length_set];unfold L63;omega
 ·unfold L63;omega
 ·unfold L63;omega
 ·have:=h.sl;show (wSig w).length+_≤1000000;omega
theorem leaveW_wi {E S:Nat} {w:DWo} (h:WI E S w) (hE:E<890) (hS:S≤900000) {j:Nat} (hj:j<(wNodes w).length):WI (E+1) (S+1) (leaveW w j (wNodes w)[j]):=by
 obtain ⟨hV,he⟩:=h.nd _ (List.getElem_mem hj)
 obtain ⟨o1,o2,o3,o4⟩:=leave_out hV
 obtain ⟨k1,k2,k3,k4⟩:=leave_nw hV (by omega)
 exact saidW_wi (setNode_wi (h.up (Nat.le_succ E) (Nat.le_refl S)) hj k2 k1 (by push_cast;omega)) o1 o2 hS o3
theorem s_shareW {E S:Nat} {w:DWo} (h:WI E S w) (hS:S≤900000) {j k:Nat} (hj:j<(wNodes w).length) (hk:k<(wNodes w).length) :
  F124 (w,(((j:Int),()),(((k:Int),()),())))=some (((shareM (wNodes w)[j] (wNodes w)[k].2.1 (wNodes w)[k].1).2.1.1,()),(shareW w (wNodes w)[j] (wNodes w)[k],())):=by
 obtain ⟨hV,he⟩:=h.nd _ (List.getElem_mem hj)
 have hnl:=h.nl
 have hin:inR (k:Int) 0 (iSub .i64 ((wNodes w).length:Int) 1)=true:=by
  rw [iSub_small (by omega) (by omega)]
  simp [inR,iLe];omega
 unfold F124 shareW
 refine bind_eq (s_in _ _ _) (no_then (by show (!inR (k:Int) 0 (iSub .i64 ((wNodes w).length:Int) 1))=false;rw [hin];rfl) ?_)
 refine bind_eq (getI_lt hj) (bind_eq (getN_lt hj) (bind_eq (getI_lt hk) (bind_eq (getN_lt hk) (bind_eq (getI_lt hk) (bind_eq (getN_lt hk) (bind_eq (getN_lt hj) (bind_eq (getN_lt hj) (bind_eq (getN_lt hj) (bind_eq (getN_lt hj) (bind_eq (s_shareM (wNodes w)[j] (wNodes w)[k].2.1 (wNodes w)[k].1 hV.v.h) ?_))))))))))
 generalize shareM (wNodes w)[j] (wNodes w)[k].2.1 (wNodes w)[k].1=r
 obtain ⟨m,⟨ok,u⟩,u2⟩:=r
 cases ok with
 |false=>rfl
 |true =>
  have hs:=s_saidW w [m] [] (by unfold L63;omega) (by unfold L63;simp) (by unfold L63;simp) h.nt (by have:=h.sl;simp only [List.length_nil];omega)
  refine bind_eq (y:=Sum.inl (saidW w [m] [])) (thenT rfl (bind_eq hs rfl)) rfl
theorem shareW_wi {E S:Nat} {w:DWo} (h:WI E S w) (hS:S≤900000) {j k:Nat} (hj:j<(wNodes w).length) (hk:k<(wNodes w).length):WI E (S+1) (shareW w (wNodes w)[j] (wNodes w)[k]):=by
 obtain ⟨hV,he⟩:=h.nd _ (List.getElem_mem hj)
 obtain ⟨hV2,_⟩:=h.nd _ (List.getElem_mem hk)
 unfold shareW
 cases hc:(shareM (wNodes w)[j] (wNodes w)[k].2.1 (wNodes w)[k].1).2.1.1 with
 |false=>exact h.up (Nat.le_refl _) (Nat.le_succ _)
 |true=>exact saidW_wi h (fun m hm=>by rw [List.mem_singleton.1 hm];exact share_out hV hV2.v.h.ok.2.1 hV2.v.h.ok.1 hc) (fun s hs=>by cases hs) hS (Nat.zero_le _)
theorem y_poolAdd (l:List D110) (t:D110) (hl:(Ty.sl e110).Ok l) (hw:W1 l.length) (ht:e110.Ok t) :
  Y (F174 ((l,()),(t,()))) (fun y=>(y.2.1.1=false∧y.1.1=l)∨(y.2.1.1=true∧poolB l=true∧poolB y.1.1=true∧(Ty.sl e110).Ok y.1.1∧List.length y.1.1≤20∧List.length y.1.1=l.length+1)):=by
 unfold W1 at hw
 unfold F174
 refine Y.room (by simp only [List.length_nil];omega) (by decide) (by decide) (Y.room (by simp only [List.length_cons,List.length_nil,lapp,List.nil_append];omega) (by decide) (by decide) ?_)
 have e0:List.length (lapp (lapp ([]:List D110) l) [t])=l.length+1:=by unfold lapp;rw [List.nil_append,List.length_append];rfl
 have hmem0:∀x∈lapp (lapp ([]:List D110) l) [t],e110.Ok x:=fun x hx=>by
  unfold lapp at hx
  rw [List.nil_append] at hx
  rcases List.mem_append.1 hx with h|h
  ·exact Ok_mem hl.2 h
  ·rw [List.mem_singleton.1 h];exact ht
 have e1:iSub .i64 (List.length (lapp (lapp ([]:List D110) l) [t]):Int) 1=(l.length:Int):=by rw [e0,iSub_small]<;>omega
 refine Y.sum (P:=fun v=>0≤v.1∧v.1<(List.length v.2.1:Int)∧List.length v.2.1=l.length+1∧∀x∈v.2.1,e110.Ok x) (R:=fun _=>False) (Y.loop (I:=fun v=>0≤v.1∧v.1<(List.length v.2.1:Int)∧List.length v.2.1=l.length+1∧∀x∈v.2.1,e110.Ok x) (fun v=>v.1.toNat) (fun v hv=>?_) _ ?_) (fun v hv=>?_) (fun _ h=>h.elim)
 ·obtain ⟨k,o,u⟩:=v
  obtain ⟨g1,g2,g3,g4⟩:=hv
  dsimp only at g1 g2 g3 g4
  unfold F174.b0
  refine Y.bif (fun hlt=>?_) (fun _=>Y.rl ⟨g1,g2,g3,g4⟩)
  have hlt:0<k:=iLt_iff.1 hlt
  have e:iSub .i64 k 1=k - 1:=iSub_small (by omega) (by omega)
  refine Y.dup (by dsimp only;omega) (by dsimp only;omega) fun x2 hx2=>?_
  have hx2o:=g4 x2 hx2
  refine Y.bind (Y.of (Q:=fun _=>True) (s_txLess t x2) trivial) fun y3 _=>Y.bif (fun _=>?_) (fun _=>Y.rl ⟨g1,g2,g3,g4⟩)
  refine Y.dup (by dsimp only;omega) (by dsimp only;omega) fun x4 h4=>Y.dup g1 g2 fun x5 _=>Y.so (Y.l ⟨⟨?_,?_,?_,?_⟩,?_⟩)
  ·show 0≤iSub .i64 k 1;rw [e];omega
  ·show iSub .i64 k 1<(List.length (o.set k.toNat x4):Int);rw [List.length_set,e];omega
  ·show List.length (o.set k.toNat x4)=_;rw [List.length_set];exact g3
  ·intro x hx
   rcases List.mem_or_eq_of_mem_set hx with h1|rfl
   ·exact g4 x h1
   ·exact g4 _ h4
  ·show (iSub .i64 k 1).toNat<k.toNat;rw [e];omega
 ·refine ⟨?_,?_,e0,hmem0⟩
  ·show 0≤iSub .i64 (List.length (lapp (lapp ([]:List D110) l) [t]):Int) 1;rw [e1];omega
  ·show iSub .i64 (List.length (lapp (lapp ([]:List D110) l) [t]):Int) 1<(List.length (lapp (lapp ([]:List D110) l) [t]):Int);rw [e1,e0];omega
 ·obtain ⟨k,o,u⟩:=v
  obtain ⟨g1,g2,g3,g4⟩:=hv
  dsimp only at g1 g2 g3 g4
  refine Y.dup g1 g2 fun x9 _=>Y.so ?_
  have hlen:List.length (o.set k.toNat t)=l.length+1:=by rw [List.length_set];exact g3
  have ho:(Ty.sl e110).Ok (o.set k.toNat t):=Ok_of (Nat.le_trans (Nat.le_of_eq hlen) (show l.length+1≤9223372036854775807 by omega)) (fun x hx=>by
   rcases List.mem_or_eq_of_mem_set hx with h1|rfl
   ·exact g4 x h1
   ·exact ht)
  have hback:Y (bif room (List.length ([]:List D110)+l.length) 56 then some ((lapp ([]:List D110) l,()),((false,()),())) else none) (fun y=>(y.2.1.1=false∧y.1.1=l)∨(y.2.1.1=true∧poolB l=true∧poolB y.1.1=true∧(Ty.sl e110).Ok y.1.1∧List.length y.1.1≤20∧List.length y.1.1=l.length+1)):=Y.room (by simp only [List.length_nil];omega) (by decide) (by decide) (Y.mk (.inl ⟨rfl,by simp [lapp]⟩))
  refine Y.eq (s_pool l hl) (Y.bif (fun _=>hback) (fun hp=>Y.eq (s_pool (o.set k.toNat t) ho) (Y.bif (fun _=>hback) (fun hp2=>Y.mk ?_))))
  have hp:poolB l=true:=by simpa using hp
  have hp2:poolB (o.set k.toNat t)=true:=by simpa using hp2
  refine .inr ⟨rfl,hp,hp2,ho,?_,hlen⟩
  have:=hp2
  unfold poolB at this
  simp only [Bool.and_eq_true] at this
  have:=iLe_iff.1 this.2
  show List.length (o.set k.toNat t)≤20
  omega
def setPl (n:DNd) (q:List D110):DNd:=(n.1,(n.2.1,(n.2.2.1,(n.2.2.2.1,(n.2.2.2.2.1,(n.2.2.2.2.2.1,(n.2.2.2.2.2.2.1,(n.2.2.2.2.2.2.2.1,(n.2.2.2.2.2.2.2.2.1,(n.2.2.2.2.2.2.2.2.2.1,(n.2.2.2.2.2.2.2.2.2.2.1,(n.2.2.2.2.2.2.2.2.2.2.2.1,(n.2.2.2.2.2.2.2.2.2.2.2.2.1,(n.2.2.2.2.2.2.2.2.2.2.2.2.2.1,(n.2.2.2.2.2.2.2.2.2.2.2.2.2.2.1,(n.2.2.2.2.2.2.2.2.2.2.2.2.2.2.2.1,(n.2.2.2.2.2.2.2.2.2.2.2.2.2.2.2.2.1,(n.2.2.2.2.2.2.2.2.2.2.2.2.2.2.2.2.2.1,(q,(n.2.2.2.2.2.2.2.2.2.2.2.2.2.2.2.2.2.2.2.1,()))))))))))))))))))))
def rebN (n:DNd):DNd:=setPl (setGo (setVt n []) []) []
theorem rebN_nm (n:DNd):(rebN n).1=n.1:=rfl
theorem rebN_ep (n:DNd):(rebN n).2.1=n.2.1:=rfl
theorem rebN_vo (n:DNd):nVoted (rebN n)=nVoted n:=rfl
theorem rebN_st (n:DNd):nSet (rebN n)=nSet n:=rfl
theorem setPl_nw {n:DNd} (hV:NW n) {q:List D110} (hq:(Ty.sl e110).Ok q) (hl:W1 q.length):NW (setPl n q):=by
 have h:=hV.v.h
 have o:=h.ok
 have l:=h.l
 refine NW.mk' (E:=n.2.1.toNat) (P:=n.2.1.toNat) ⟨⟨⟨o.1,o.2.1,o.2.2.1,o.2.2.2.1,o.2.2.2.2.1,o.2.2.2.2.2.1,o.2.2.2.2.2.2.1,o.2.2.2.2.2.2.2.1,o.2.2.2.2.2.2.2.2.1,o.2.2.2.2.2.2.2.2.2.1,o.2.2.2.2.2.2.2.2.2.2.1,o.2.2.2.2.2.2.2.2.2.2.2.1,o.2.2.2.2.2.2.2.2.2.2.2.2.1,o.2.2.2.2.2.2.2.2.2.2.2.2.2.1,o.2.2.2.2.2.2.2.2.2.2.2.2.2.2.1,o.2.2.2.2.2.2.2.2.2.2.2.2.2.2.2.1,o.2.2.2.2.2.2.2.2.2.2.2.2.2.2.2.2.1,o.2.2.2.2.2.2.2.2.2.2.2.2.2.2.2.2.2.1,hq,o.2.2.2.2.2.2.2.2.2.2.2.2.2.2.2.2.2.2.2.1,trivial⟩,?_,h.t,h.d,h.p⟩,hV.v.led,hV.v.ep,hV.v.le,hV.v.vo,hV.v.go,hV.v.dn,hV.v.pa⟩ hV.e0 hV.pa
 exact ⟨l.1,l.2.1,l.2.2.1,l.2.2.2.1,l.2.2.2.2.1,l.2.2.2.2.2.1,l.2.2.2.2.2.2.1,l.2.2.2.2.2.2.2.1,l.2.2.2.2.2.2.2.2.1,l.2.2.2.2.2.2.2.2.2.1,hl,l.2.2.2.2.2.2.2.2.2.2.2.1,l.2.2.2.2.2.2.2.2.2.2.2.2⟩
theorem rebN_nw {n:DNd} (hV:NW n):NW (rebN n):=setPl_nw (setGo_nw (setVt_nw hV Ok_nil (Nat.zero_le _)) Ok_nil (Nat.zero_le _)) Ok_nil (Nat.zero_le _)
theorem inR_iff {x a b:Int}:inR x a b=true↔a≤x∧x≤b:=by simp [inR,iLe]
structure BlkF (b:DBk):Prop where
 id:0≤b.1∧b.1≤100000
 ep:0≤b.2.1∧b.2.1≤900
 rd:1≤b.2.2.1∧b.2.2.1≤10000
 by':nameB b.2.2.2.1=true
 qc:qcF (bQc b) (iSub .i64 b.2.2.1 1) (iSub .i64 b.1 1)=true
 tc:tcF (bTc b) (iSub .i64 b.2.2.1 1)=true
 tl:(bTxs b).length≤4
 tx:(bTxs b).all txB=true
 bo:bodyB b=true
theorem blkF {b:DBk} (h:blockB b=true):BlkF b:=by
 unfold blockB at h
 simp only [Bool.and_eq_true,Bool.not_eq_true'] at h
 obtain ⟨h1,h2,h3,h4,h5,h6,h7,h8,h9⟩:=h
 exact ⟨inR_iff.1 h1,inR_iff.1 h2,inR_iff.1 h3,h4,h5,h6,by have:=iLt_no.1 h7;omega,h8,h9⟩
theorem names_len {l:List D9} (h:namesB l=true):l.length≤20:=by
 unfold namesB at h
 simp only [Bool.and_eq_true] at h
 have:=iLe_iff.1 h.2
 omega
theorem qcF_len {q:DQc} {r i:Int} (h:qcF q r i=true):List.length q.2.2.1≤20:=by
 unfold qcF rootB at h
 simp only [Bool.or_eq_true,Bool.and_eq_true] at h
 rcases h with h|h
 ·have:=iEq_iff.1 h.2.2;omega
 ·exact names_len h.2.2
theorem tcF_len {t:DTc} {r:Int} (h:tcF t r=true):List.length t.2.1≤20∧List.length t.2.2.1=List.length t.2.1:=by
 unfold tcF noneB at h
 simp only [Bool.or_eq_true,Bool.and_eq_true] at h
 rcases h with h|h
 ·have h1:=iEq_iff.1 h.2.1;have h2:=iEq_iff.1 h.2.2;omega
 ·have h2:=iEq_iff.1 h.2.2.1;exact ⟨names_len h.2.1,by omega⟩
structure MsgF (m:DMs):Prop where
 to:nameB m.2.1=true
 ep:0≤m.2.2.1∧m.2.2.1≤900
 q:qcF (mQ m) 10000 100000=true
 t:tcF (mT m) 10000=true
 bs:∀b∈mBs m,blockB b=true∧b.2.1=m.2.2.1
 bl:(mBs m).length≤400
 kd:kindB m.1 ((mBs m).length:Int) (mV0 m) (mG0 m) (mVF m) (mGF m) (rootB (mQ m)) (noneB (mT m))=true
theorem msgF {m:DMs} (h:msgB m=true):MsgF m:=by
 unfold msgB blksB at h
 simp only [Bool.and_eq_true,List.all_eq_true] at h
 obtain ⟨h1,h2,h3,h4,⟨h5,h6⟩,h7⟩:=h
 exact ⟨h1,inR_iff.1 h2,h3,h4,fun b hb=>⟨(h5 b hb).1,iEq_iff.1 (h5 b hb).2⟩,by have:=iLe_iff.1 h6;omega,h7⟩
theorem MsgF.s {m:DMs} (h:MsgF m):MsgS m:=⟨Nat.le_trans (qcF_len h.q) (by decide),Nat.le_trans (tcF_len h.t).1 (by decide),h.bl,fun b hb=>by
 have hB:=blkF (h.bs b hb).1
 exact ⟨Nat.le_trans (qcF_len hB.qc) (by decide),Nat.le_trans (tcF_len hB.tc).1 (by decide)⟩⟩
structure ForgeC (w:DWo) (m:DMs) (nb:List DBk):Prop where
 hin:HIn m
 ok:msgB m=true
 to:hasN (wNodes w) m.2.1=true
 sg:signedB (wSig w) (wFoul w) m=true
 one:(mBs m).length≤1
 nw:nb= []∨∃b,mBs m= [b]∧nb= [b]∧b.1=((wBlocks w).length:Int)∧hasB (wFoul w) b.2.2.2.1=true∧(wBlocks w).length<1000
 real:nb= []→∀b∈mBs m,b.1<((wBlocks w).length:Int)∧realB (wBlocks w) b=true
def forgeW (w:DWo) (m:DMs) (nb:List DBk):DWo:=saidW (mkW w (wNodes w) (wBlocks w++nb) (wSig w) (wNet w)) [m] []
structure FIn (m:DMs):Prop where
 ok:MOk m
 l:MsgL m
 one:(mBs m).length≤1
theorem FIn.hin {m:DMs} (h:FIn m) (hb:msgB m=true):HIn m:=⟨h.ok,h.l,fun e hn=>by
 unfold msgB at hb
 simp only [Bool.and_eq_true] at hb
 have hk:=hb.2.2.2.2.2
 unfold kindB at hk
 rw [e,hn] at hk
 simp [iEq] at hk⟩
theorem y_forge {E S:Nat} {w:DWo} (h:WI E S w) (hS:S≤900000) {m:DMs} (hm:FIn m) :
  Y (F120 (w,(m,()))) (fun y=>(y.1.1=false∧y.2.1=w)∨(y.1.1=true∧∃nb,ForgeC w m nb∧y.2.1=forgeW w m nb)):=by
 have hnl:L63 (wNodes w).length:=by have:=h.nl;unfold L63;omega
 have hfl:L63 (wFoul w).length:=by have:=h.foL;unfold L63;omega
 have hsl:L63 (wSig w).length:=by have:=h.sl;unfold L63;omega
 have hbl:(wBlocks w).length≤1000:=h.bl
 have hno:Y (some ((((false,()),(w,())):(Bool×Unit)×(DWo×Unit)))) (fun y=>(y.1.1=false∧y.2.1=w)∨(y.1.1=true∧∃nb,ForgeC w m nb∧y.2.1=forgeW w m nb)):=Y.mk (.inl ⟨rfl,rfl⟩)
 have hlen1:=hm.one
 have hsaid:∀nb:List DBk,F170 (mkW w (wNodes w) (wBlocks w++nb) (wSig w) (wNet w),((([m]:List DMs),()),((([]:List DSg),()),())))=some (forgeW w m nb,()):=fun nb=>s_saidW (mkW w (wNodes w) (wBlocks w++nb) (wSig w) (wNet w)) [m] [] hnl (by unfold L63;simp) (by unfold L63;simp) h.nt (by have:=h.sl;show (wSig w).length+0≤_;omega)
 have hsaid0:F170 (w,((([m]:List DMs),()),((([]:List DSg),()),())))=some (forgeW w m [],()):=by
  have:=hsaid []
  rw [List.append_nil] at this
  exact this
 unfold F120
 refine Y.eq (s_msg m hm.ok) (Y.bif (fun _=>hno) (fun h1=>?_))
 have h1:msgB m=true:=by simpa using h1
 refine Y.eq (s_nodeAt w m.2.1 hnl) (Y.bif (fun _=>hno) (fun h2=>?_))
 have h2:hasN (wNodes w) m.2.1=true:=by
  have e:=atN_nn (wNodes w) m.2.1
  rw [←e]
  have:=iLt_no.1 h2
  exact iLe_nn this
 refine Y.eq (s_signed (wSig w) (wFoul w) m (msgF h1).s hm.ok.bs.1 hfl hsl) (Y.bif (fun _=>hno) (fun h3=>?_))
 have h3:signedB (wSig w) (wFoul w) m=true:=by simpa using h3
 have hin:=hm.hin h1
 have hblk:∀b∈mBs m,blockB b=true:=fun b hb=>by
  have:=h1
  unfold msgB blksB at this
  simp only [Bool.and_eq_true,List.all_eq_true] at this
  exact (this.2.2.2.2.1.1 b hb).1
 match hb:mBs m with
 | [] =>
  refine Y.eq (y:=Sum.inl ((0:Int),())) (loopF_end ?_) (Y.eq (s_cmsg m hm.l) (Y.eq hsaid0 (Y.mk (.inr ⟨rfl,[],⟨hin,h1,h2,h3,hlen1,.inl rfl,fun _ b hbm=>(by rw [hb] at hbm;cases hbm)⟩,rfl⟩))))
  unfold F120.b0
  exact lt_else (show ((mBs m).length:Int)≤0 by rw [hb];exact Int.le_refl _) rfl
 | [b] =>
  have hbm:b∈mBs m:=by rw [hb];simp
  have hBo:=hm.ok.blk hm.l b hbm
  have hB:=hblk b hbm
  have hid:=(blk_nn hB).1
  have hlt0:(0:Int)<((mBs m).length:Int):=by rw [hb];simp
  have hg0:getI (mBs m) 0=some b:=by rw [hb];rfl
  have hend0:F120.b0 (w,(m,())) ((1:Int),())=some (.inr (.inl ((1:Int),()))):=by
   unfold F120.b0
   exact lt_else (show ((mBs m).length:Int)≤1 by rw [hb];simp) rfl
  by_cases hc:b.1<((wBlocks w).length:Int)
  ·have hget:=getI_in hid hc
   have hgetN:getN (wBlocks w) (Int.toNat b.1)=some ((wBlocks w)[b.1.toNat]'(by omega)):=getN_lt (by omega)
   have hso:=s_sameBlk ((wBlocks w)[b.1.toNat]'(by omega)) b (Ok_mem h.bo.2 (List.getElem_mem _))
   cases hq:sameBlkB ((wBlocks w)[b.1.toNat]'(by omega)) b with
   |false =>
    refine Y.eq (y:=Sum.inr ((false,()),(w,()))) (loopF_end ?_) hno
    unfold F120.b0
    refine lt_then hlt0 (bind_eq hg0 (lt_then hc (bind_eq hget (bind_eq hgetN (bind_eq hso (thenT (by rw [hq];rfl) rfl))))))
   |true =>
    refine Y.eq (y:=Sum.inl ((1:Int),())) ?_ (Y.eq (s_cmsg m hm.l) (Y.eq hsaid0 (Y.mk (.inr ⟨rfl,[],⟨hin,h1,h2,h3,hlen1,.inl rfl,fun _ c hcm=>?_⟩,rfl⟩))))
    ·have hst:F120.b0 (w,(m,())) ((0:Int),())=some (.inl ((1:Int),())):=by
      unfold F120.b0
      refine lt_then hlt0 (bind_eq hg0 (lt_then hc (bind_eq hget (bind_eq hgetN (bind_eq hso (no_then (by rw [hq];rfl) rfl))))))
     rw [loopF_step hst]
     exact loopF_end hend0
    ·rw [hb,List.mem_singleton] at hcm
     rw [hcm]
     refine ⟨hc,?_⟩
     unfold realB
     rw [hget]
     exact hq
  ·have hc1:iLt b.1 ((wBlocks w).length:Int)=false:=iLt_no.2 (by omega)
   have hstep:∀r,(bif iEq b.1 ((wBlocks w).length:Int) then (F114 ((wFoul w,()),((b.2.2.2.1,()),()))).bind fun y8=>bif y8.1.1 then bif iLt ((wBlocks w).length:Int) (1000:Int) then bif room (List.length ([]:List DBk)+(wBlocks w).length) 208 then (F169 (b,())).bind fun y9=>bif room (List.length (lapp ([]:List DBk) (wBlocks w))+List.length ([y9.1]:List DBk)) 208 then Option.map (fun q=> .inr (.inr q)) ((loopF (F120.b1 (w,(m,()))) (lapp (lapp ([]:List DBk) (wBlocks w)) ([y9.1]:List DBk),(iAdd .i64 (0:Int) (1:Int),()))).bind fun r17=>Sum.elim (fun v16=>(F166 (m,())).bind fun y18=>(F170 (mkW w (wNodes w) v16.1 (wSig w) (wNet w),((([y18.1]:List DMs),()),((([]:List DSg),()),())))).bind fun y19=>some ((true,()),(y19.1,()))) some r17) else none else none else some (.inr (.inr ((false,()),(w,())))) else some (.inr (.inr ((false,()),(w,())))) else some (.inr (.inr ((false,()),(w,())))):Option (Sum (Int×Unit) (Sum (Int×Unit) ((Bool×Unit)×(DWo×Unit)))))=r→F120.b0 (w,(m,())) ((0:Int),())=r:=fun r hr=>by
    unfold F120.b0
    exact lt_then hlt0 (bind_eq hg0 (no_then hc1 hr))
   have hstop:F120.b0 (w,(m,())) ((0:Int),())=some (.inr (.inr ((false,()),(w,()))))→Y ((loopF (F120.b0 (w,(m,()))) ((0:Int),())).bind fun r21=>Sum.elim (fun v20=>(F166 (m,())).bind fun y22=>(F170 (w,((([y22.1]:List DMs),()),((([]:List DSg),()),())))).bind fun y23=>some ((true,()),(y23.1,()))) some r21) (fun y=>(y.1.1=false∧y.2.1=w)∨(y.1.1=true∧∃nb,ForgeC w m nb∧y.2.1=forgeW w m nb)):=fun e=>Y.eq (loopF_end e) hno
   cases he:iEq b.1 ((wBlocks w).length:Int) with
   |false=>exact hstop (hstep _ (no_then he rfl))
   |true =>
    have hbe:=iEq_iff.1 he
    cases hf:hasB (wFoul w) b.2.2.2.1 with
    |false=>exact hstop (hstep _ (thenT he (bind_eq (s_has (wFoul w) _ hfl) (no_then hf rfl))))
    |true =>
     cases h10:iLt ((wBlocks w).length:Int) 1000 with
     |false=>exact hstop (hstep _ (thenT he (bind_eq (s_has (wFoul w) _ hfl) (thenT hf (no_then h10 rfl)))))
     |true =>
      have h10':=iLt_iff.1 h10
      have hend1:F120.b1 (w,(m,())) (wBlocks w++ [b],((1:Int),()))=some (.inr (.inl (wBlocks w++ [b],((1:Int),())))):=by
       unfold F120.b1
       exact lt_else (show ((mBs m).length:Int)≤1 by rw [hb];simp) rfl
      have hb0:F120.b0 (w,(m,())) ((0:Int),())=some (.inr (.inr ((true,()),(forgeW w m [b],())))):=by
       refine hstep _ (thenT he (bind_eq (s_has (wFoul w) _ hfl) (thenT hf (thenT h10 (thenT (room_big (by simp only [List.length_nil];omega) (by decide) (by decide)) (bind_eq (s_cblk b hBo.2) (thenT (room_big (by show (([]:List DBk)++wBlocks w).length+1≤_;rw [List.nil_append];omega) (by decide) (by decide)) ?_)))))))
       have e1:(loopF (F120.b1 (w,(m,()))) (lapp (lapp ([]:List DBk) (wBlocks w)) [b],(iAdd .i64 0 1,())))=some (Sum.inl (wBlocks w++ [b],((1:Int),()))):=loopF_end hend1
       show Option.map _ ((loopF (F120.b1 (w,(m,()))) (lapp (lapp ([]:List DBk) (wBlocks w)) [b],(iAdd .i64 0 1,()))).bind _)=_
       rw [e1]
       have e2:((F166 (m,())).bind fun y18=>(F170 (mkW w (wNodes w) (wBlocks w++ [b]) (wSig w) (wNet w),((([y18.1]:List DMs),()),((([]:List DSg),()),())))).bind fun y19=>some (((true,()),(y19.1,())):(Bool×Unit)×(DWo×Unit)))=some ((true,()),(forgeW w m [b],())):=bind_eq (s_cmsg m hm.l) (bind_eq (hsaid [b]) rfl)
       exact (congrArg (Option.map _) e2).trans rfl
      exact Y.eq (loopF_end hb0) (Y.mk (.inr ⟨rfl,[b],⟨hin,h1,h2,h3,hlen1,.inr ⟨b,hb,rfl,hbe,hf,by omega⟩,fun e=>by cases e⟩,rfl⟩))
 |b::c::r=>rw [hb] at hlen1;simp at hlen1
theorem forgeW_wi {E S:Nat} {w:DWo} (h:WI E S w) (hS:S≤900000) {m:DMs} {nb:List DBk} (hc:ForgeC w m nb):WI E (S+1) (forgeW w m nb):=by
 have hnb:∀b∈nb,e71.Ok b∧BlockL b:=fun b hb=>by
  rcases hc.nw with e|⟨c,e1,e2,_⟩
  ·rw [e] at hb;cases hb
  ·rw [e2,List.mem_singleton] at hb
   rw [hb]
   exact hc.hin.ok.blk hc.hin.l c (by rw [e1];simp)
 have hlen:(wBlocks w++nb).length≤1000:=by
  rw [List.length_append]
  rcases hc.nw with e|⟨c,e1,e2,_,_,e3⟩
  ·rw [e];have:=h.bl;simp;omega
  ·rw [e2];simp only [List.length_cons,List.length_nil];omega
 refine saidW_wi (w:=mkW w (wNodes w) (wBlocks w++nb) (wSig w) (wNet w)) ⟨h.acc,h.accL,h.led,h.fo,h.foL,h.nl,h.nd,Ok_of (Nat.le_trans hlen (by decide)) (fun b hb=>?_),hlen,fun b hb=>?_,h.so,h.sl,h.nt,h.nm⟩ (fun x hx=>by rw [List.mem_singleton.1 hx];exact hc.hin) (fun s hs=>by cases hs) hS (Nat.zero_le _)
 ·rcases List.mem_append.1 hb with h1|h1
  ·exact Ok_mem h.bo.2 h1
  ·exact (hnb b h1).1
 ·rcases List.mem_append.1 hb with h1|h1
  ·exact h.bL b h1
  ·exact (hnb b h1).2
def FR (w:DWo) (m:DMs):Prop:=m.1≠4∧∃n∈wNodes w,((mVo m).1≤1∨(mVo m).1≤nRound n∨∃b∈nTree n,(mVo m).1=b.2.2.1)∧((mGo m).1=0∨(mGo m).1=nRound n)∧∀b∈mBs m,b.2.2.1≤nRound n+((nSet n).length:Int)
inductive Stp (w:DWo):DWo→Prop
 |same:Stp w w
 |dup (m:DMs):m∈wNet w→(wNet w).length<400→Stp w (mkW w (wNodes w) (wBlocks w) (wSig w) (wNet w++ [m]))
 |drop (k:Nat):Stp w (dropW w k)
 |deliver (k:Nat) (hk:k<(wNet w).length):Stp w (hearW (dropW w k) (wNet w)[k])
 |lead (j:Nat) (hj:j<(wNodes w).length):(wBlocks w).length<1000→Stp w (leadW w j (wNodes w)[j])
 |leave (j:Nat) (hj:j<(wNodes w).length):Stp w (leaveW w j (wNodes w)[j])
 |share (j:Nat) (hj:j<(wNodes w).length) (k:Nat) (hk:k<(wNodes w).length):Stp w (shareW w (wNodes w)[j] (wNodes w)[k])
 |submit (j:Nat) (hj:j<(wNodes w).length) (q:List D110):(q=nPool (wNodes w)[j]∨(poolB (nPool (wNodes w)[j])=true∧poolB q=true))→(Ty.sl e110).Ok q→W1 q.length→Stp w (setNode w j (setPl (wNodes w)[j] q))
 |reboot (j:Nat) (hj:j<(wNodes w).length):Stp w (setNode w j (rebN (wNodes w)[j]))
 |forge (m:DMs) (nb:List DBk):ForgeC w m nb→FR w m→Stp w (forgeW w m nb)
 |learn (j:Nat) (hj:j<(wNodes w).length) (k:Nat) (hk:k<(wNodes w).length):(shareM (wNodes w)[j] (wNodes w)[k].2.1 (wNodes w)[k].1).2.1.1=true→Stp w (hearW w (shareM (wNodes w)[j] (wNodes w)[k].2.1 (wNodes w)[k].1).1)
theorem hasN_at {nodes:List DNd} {k:Nat} (hk:k<nodes.length):hasN nodes nodes[k].1=true:=by
 unfold hasN
 rw [List.any_eq_true]
 exact ⟨nodes[k],List.getElem_mem hk,sEq_self _⟩
theorem shareM_to (n:DNd) (ep:Int) (to:ByteArray) (h:(shareM n ep to).2.1.1=true):(shareM n ep to).1.2.1=to∧(shareM n ep to).1.2.2.1=ep∧(shareM n ep to).1.1=4:=by
 unfold shareM at h ⊢
 cases he:iEq ep n.2.1 with
 |true=>exact ⟨rfl,rfl,rfl⟩
 |false =>
  rw [he] at h
  cases hf:(nPast n).find? (fun p=>iEq p.1 ep) with
  |none=>rw [hf] at h;cases h
  |some p=>exact ⟨rfl,rfl,rfl⟩
theorem Stp.wi {E S:Nat} {w w':DWo} (s:Stp w w') (h:WI E S w) (hE:E<890) (hS:S≤900000):WI (E+1) (S+1) w':=by
 cases s with
 |same=>exact h.up (Nat.le_succ _) (Nat.le_succ _)
 |dup m hm hl =>
  refine WI.up (E:=E) (S:=S) ⟨h.acc,h.accL,h.led,h.fo,h.foL,h.nl,h.nd,h.bo,h.bl,h.bL,h.so,h.sl,?_,fun x hx=>?_⟩ (Nat.le_succ _) (Nat.le_succ _)
  ·show (wNet w++ [m]).length≤400
   rw [List.length_append]
   simp only [List.length_cons,List.length_nil]
   omega
  ·rcases List.mem_append.1 hx with h1|h1
   ·exact h.nm x h1
   ·rw [List.mem_singleton.1 h1];exact h.nm m hm
 |drop k=>exact (dropW_wi h k).up (Nat.le_succ _) (Nat.le_succ _)
 |deliver k hk =>
  have hm:=h.nm _ (List.getElem_mem hk)
  exact hearW_wi (dropW_wi h k) hE hS hm.1 hm.2
 |lead j hj hb=>exact leadW_wi h hE hS hj hb
 |leave j hj=>exact leaveW_wi h hE hS hj
 |share j hj k hk=>exact (shareW_wi h hS hj hk).up (Nat.le_succ _) (Nat.le_refl _)
 |submit j hj q _ hq hl =>
  obtain ⟨hV,he⟩:=h.nd _ (List.getElem_mem hj)
  exact (setNode_wi (n:=setPl (wNodes w)[j] q) h hj rfl (setPl_nw hV hq hl) he).up (Nat.le_succ _) (Nat.le_succ _)
 |reboot j hj =>
  obtain ⟨hV,he⟩:=h.nd _ (List.getElem_mem hj)
  exact (setNode_wi (n:=rebN (wNodes w)[j]) h hj (rebN_nm _) (rebN_nw hV) (by rw [rebN_ep];exact he)).up (Nat.le_succ _) (Nat.le_succ _)
 |forge m nb hc _=>exact (forgeW_wi h hS hc).up (Nat.le_succ _) (Nat.le_refl _)
 |learn j hj k hk hok =>
  obtain ⟨hV,_⟩:=h.nd _ (List.getElem_mem hj)
  obtain ⟨hV2,_⟩:=h.nd _ (List.getElem_mem hk)
  have hto:=shareM_to _ _ _ hok
  exact hearW_wi h hE hS (share_out hV hV2.v.h.ok.2.1 hV2.v.h.ok.1 hok) (by rw [hto.1];exact hasN_at hk)
abbrev DEv:Type:=D112
def eT (e:DEv):D110:=(e.2.2.2.1,(e.2.2.2.2.1,(e.2.2.2.2.2.1,(e.2.2.2.2.2.2.1,(e.2.2.2.2.2.2.2.1,())))))
def eM (e:DEv):DMs:=e.2.2.2.2.2.2.2.2
structure EvIn (e:DEv):Prop where
 t:e110.Ok (eT e)
 m:FIn (eM e)
theorem drop_form {w:DWo} {k:Nat} (hk:k<(wNet w).length) (hn:(wNet w).length≤400):lapp (lapp ([]:List DMs) (List.take (Int.toNat (k:Int) - 0) (List.drop 0 (wNet w)))) (List.take ((wNet w).length - Int.toNat (iAdd .i64 (k:Int) 1)) (List.drop (Int.toNat (iAdd .i64 (k:Int) 1)) (wNet w)))=(wNet w).take k++(wNet w).drop (k+1):=by
 have e:iAdd .i64 (k:Int) 1=((k+1:Nat):Int):=nxt (n:=400) (by omega) (by unfold L63;omega)
 rw [e,take_nat,Int.toNat_natCast]
 unfold lapp
 rw [List.nil_append]
 congr 1
 rw [List.take_of_length_le]
 rw [List.length_drop]
 exact Nat.le_refl _
theorem y_net {E S:Nat} {w:DWo} (h:WI E S w) (hE:E<890) (hS:S≤900000) (e:DEv):Y (F119 (w,(e,()))) (fun y=>Stp w y.2.1):=by
 have hnt:=h.nt
 have hs:iSub .i64 ((wNet w).length:Int) 1=((wNet w).length:Int) - 1:=iSub_small (by omega) (by omega)
 unfold F119
 refine Y.eq (s_in _ _ _) (Y.bif (fun _=>Y.mk .same) (fun h1=>?_))
 have h1:inR e.2.1 0 (iSub .i64 ((wNet w).length:Int) 1)=true:=by simpa using h1
 rw [hs] at h1
 have h1:0≤e.2.1∧e.2.1≤((wNet w).length:Int) - 1:=by simpa [inR,iLe] using h1
 obtain ⟨k,hk⟩:=Int.eq_ofNat_of_zero_le h1.1
 have hkl:k<(wNet w).length:=by omega
 have hm:=h.nm _ (List.getElem_mem hkl)
 have g1:getI (wNet w) e.2.1=some (wNet w)[k]:=by rw [hk];exact getI_lt hkl
 have g2:getN (wNet w) (Int.toNat e.2.1)=some (wNet w)[k]:=by rw [hk];exact getN_lt hkl
 refine Y.eq g1 (Y.eq g2 (Y.bif (fun _=>?_) (fun _=>?_)))
 ·refine Y.sum (P:=fun v=>v.1=wNet w∨((wNet w).length<400∧v.1=wNet w++ [(wNet w)[k]])) (R:=fun _=>False) (Y.bif (fun hl=>Y.eq (s_cmsg _ hm.1.l) (Y.room (by show (wNet w).length+1≤_;omega) (by decide) (by decide) (Y.l (.inr ⟨by have hl':((wNet w).length:Int)<400:=iLt_iff.1 hl;omega,rfl⟩)))) (fun _=>Y.l (.inl rfl))) (fun v hv=>Y.mk ?_) (fun _ h=>h.elim)
  rcases hv with hv|⟨hl,hv⟩
  ·show Stp w (mkW w (wNodes w) (wBlocks w) (wSig w) v.1)
   rw [hv];exact .same
  ·show Stp w (mkW w (wNodes w) (wBlocks w) (wSig w) v.1)
   rw [hv];exact .dup _ (List.getElem_mem hkl) hl
 ·have e1:iAdd .i64 (k:Int) 1=((k+1:Nat):Int):=nxt (n:=400) (by omega) (by unfold L63;omega)
  have c1:cutHi e.2.1 (wNet w).length=true:=by unfold cutHi;rw [hk];exact decide_eq_true (by omega)
  have c2:cutHi (iAdd .i64 e.2.1 1) (wNet w).length=true:=by unfold cutHi;rw [hk];show decide (0≤iAdd .i64 (k:Int) 1∧iAdd .i64 (k:Int) 1≤((wNet w).length:Int))=true;rw [e1];exact decide_eq_true (by omega)
  have hform:=drop_form hkl hnt
  refine Y.tt c1 (Y.room (by simp only [List.length_nil,List.length_take,List.length_drop];omega) (by decide) (by decide) (Y.tt c2 (Y.room ?_ (by decide) (by decide) ?_)))
  ·have hn':List.length w.2.2.2.2.2.2.1≤400:=hnt
   unfold lapp
   dsimp only
   simp only [List.nil_append,List.length_take,List.length_drop]
   omega
  ·have hd:(mkW w (wNodes w) (wBlocks w) (wSig w) (lapp (lapp ([]:List DMs) (List.take (Int.toNat e.2.1 - 0) (List.drop 0 (wNet w)))) (List.take ((wNet w).length - Int.toNat (iAdd .i64 e.2.1 1)) (List.drop (Int.toNat (iAdd .i64 e.2.1 1)) (wNet w)))))=dropW w k:=by
    rw [hk]
    show mkW w (wNodes w) (wBlocks w) (wSig w) (lapp (lapp ([]:List DMs) (List.take (Int.toNat (k:Int) - 0) (List.drop 0 (wNet w)))) (List.take ((wNet w).length - Int.toNat (iAdd .i64 (k:Int) 1)) (List.drop (Int.toNat (iAdd .i64 (k:Int) 1)) (wNet w))))=_
    rw [hform]
    rfl
   have hh:=s_hearW (dropW_wi h k) hE hS hm.1 hm.2
   rw [←hd] at hh
   refine Y.sum (P:=fun v=>Stp w v) (R:=fun _=>False) (Y.bif (fun _=>Y.eq hh (Y.l ?_)) (fun _=>Y.l ?_)) (fun v hv=>Y.mk hv) (fun _ h=>h.elim)
   ·show Stp w (hearW _ _)
    rw [hd]
    exact .deliver k hkl
   ·show Stp w (mkW w (wNodes w) (wBlocks w) (wSig w) _)
    rw [hd]
    exact .drop k
theorem s_reboot1 (n:DNd):F126 (n,())=some (rebN n,()):=rfl
theorem y_do {E S:Nat} {w:DWo} (h:WI E S w) (hE:E<890) (hS:S≤900000) {e:DEv} (he:EvIn e) (hf:iEq e.1 9=true→FR w (eM e)):Y (F63 (w,(e,()))) (fun y=>Stp w y.2.1):=by
 have hnl:=h.nl
 have hs:iSub .i64 ((wNodes w).length:Int) 1=((wNodes w).length:Int) - 1:=iSub_small (by omega) (by omega)
 unfold F63
 refine Y.sum (P:=fun _=>True) (R:=fun _=>False) (Y.bif (fun _=>Y.l trivial) (fun _=>Y.bif (fun _=>Y.l trivial) (fun _=>Y.l trivial))) (fun v _=>Y.bif (fun _=>Y.bind (y_net h hE hS e) fun y hy=>Y.mk hy) (fun _=>Y.bif (fun h9=>Y.bind (y_forge h hS he.m) fun y hy=>Y.mk ?_) (fun _=>Y.eq (s_in _ _ _) (Y.bif (fun _=>Y.mk .same) (fun h1=>?_))))) (fun _ h=>h.elim)
 ·rcases hy with ⟨_,hy⟩|⟨_,nb,hc,hy⟩
  ·rw [hy];exact .same
  ·rw [hy];exact .forge _ nb hc (hf h9)
 ·have h1:inR e.2.1 0 (iSub .i64 ((wNodes w).length:Int) 1)=true:=by simpa using h1
  rw [hs] at h1
  have h1:0≤e.2.1∧e.2.1≤((wNodes w).length:Int) - 1:=by simpa [inR,iLe] using h1
  obtain ⟨j,hj⟩:=Int.eq_ofNat_of_zero_le h1.1
  have hjl:j<(wNodes w).length:=by omega
  obtain ⟨hV,hVe⟩:=h.nd _ (List.getElem_mem hjl)
  have g1:getI (wNodes w) e.2.1=some (wNodes w)[j]:=by rw [hj];exact getI_lt hjl
  have g2:getN (wNodes w) (Int.toNat e.2.1)=some (wNodes w)[j]:=by rw [hj];exact getN_lt hjl
  refine Y.bif (fun _=>?_) (fun _=>Y.bif (fun _=>?_) (fun _=>Y.bif (fun _=>?_) (fun _=>Y.bif (fun _=>?_) (fun _=>Y.bif (fun _=>?_) (fun _=>Y.mk .same)))))
  ·show Y ((F122 (w,((e.2.1,()),()))).bind _) _
   rw [hj]
   rcases Nat.lt_or_ge (wBlocks w).length 1000 with hb|hb
   ·exact Y.eq (s_leadW h hE hS hjl hb) (Y.mk (.lead j hjl hb))
   ·refine Y.eq (y:=((false,()),(w,()))) ?_ (Y.mk .same)
    unfold F122
    exact thenT (by show iLe 1000 ((wBlocks w).length:Int)=true;exact iLe_iff.2 (by omega)) rfl
  ·show Y ((F123 (w,((e.2.1,()),()))).bind _) _
   rw [hj]
   exact Y.eq (s_leaveW h hE hS hjl) (Y.mk (.leave j hjl))
  ·show Y ((F124 (w,((e.2.1,()),((e.2.2.1,()),())))).bind _) _
   rw [hj]
   by_cases h2:0≤e.2.2.1∧e.2.2.1≤((wNodes w).length:Int) - 1
   ·obtain ⟨k,hk⟩:=Int.eq_ofNat_of_zero_le h2.1
    have hkl:k<(wNodes w).length:=by omega
    rw [hk]
    exact Y.eq (s_shareW h hS hjl hkl) (Y.mk (.share j hjl k hkl))
   ·refine Y.eq (y:=((false,()),(w,()))) ?_ (Y.mk .same)
    unfold F124
    have h3:inR e.2.2.1 0 (iSub .i64 ((wNodes w).length:Int) 1)=false:=by
     rw [hs]
     cases hc:inR e.2.2.1 0 (((wNodes w).length:Int) - 1) with
     |false=>rfl
     |true=>exact absurd (by simpa [inR,iLe] using hc) h2
    exact bind_eq (s_in _ _ _) (thenT (by show (!inR e.2.2.1 0 (iSub .i64 ((wNodes w).length:Int) 1))=true;rw [h3];rfl) rfl)
  ·show Y ((F125 (w,((e.2.1,()),(eT e,())))).bind _) _
   have hp:=y_poolAdd (nPool (wNodes w)[j]) (eT e) hV.v.h.ok.pool hV.v.h.l.2.2.2.2.2.2.2.2.2.2.1 he.t
   refine Y.bind (P:=fun y=>Stp w y.2.1) ?_ (fun y hy=>Y.mk hy)
   unfold F125
   refine Y.eq g1 (Y.eq g2 (Y.bind hp fun y2 h2=>Y.eq g1 (Y.eq g2 (Y.eq rfl (Y.mk ?_)))))
   have hset:Stp w (setNode w j (setPl (wNodes w)[j] y2.1.1)):=by
    rcases h2 with ⟨_,e2⟩|⟨_,q0,q1,q2,q3,_⟩
    ·exact .submit j hjl _ (.inl e2) (by rw [e2];exact hV.v.h.ok.pool) (by rw [e2];exact hV.v.h.l.2.2.2.2.2.2.2.2.2.2.1)
    ·exact .submit j hjl _ (.inr ⟨q0,q1⟩) q2 (Nat.le_trans q3 (by decide))
   have e4:Int.toNat e.2.1=j:=by rw [hj];rfl
   show Stp w (mkW w ((wNodes w).set (Int.toNat e.2.1) (setPl (wNodes w)[j] y2.1.1)) (wBlocks w) (wSig w) (wNet w))
   rw [e4]
   exact hset
  ·refine Y.eq g1 (Y.eq g2 (Y.eq (s_reboot1 _) (Y.eq rfl (Y.mk ?_))))
   have e4:Int.toNat e.2.1=j:=by rw [hj];rfl
   show Stp w (mkW w ((wNodes w).set (Int.toNat e.2.1) (rebN (wNodes w)[j])) (wBlocks w) (wSig w) (wNet w))
   rw [e4]
   exact .reboot j hjl
theorem tx_ok {t:D110} (h:txS t):e110.Ok t:=⟨Rwf (by have:=h.2.1;omega) (by have:=h.1;omega),Nat.le_trans h.2.2.1 (by decide),Nat.le_trans h.2.2.2.1 (by decide),Rwf (by have:=h.2.2.2.2.1;omega) (by have:=h.2.2.2.2.2.1;omega),Rwf (by have:=h.2.2.2.2.2.2.1;omega) (by have:=h.2.2.2.2.2.2.2;omega),trivial⟩
theorem y_draw12 (c:DCu) (most:Int) (hc:COk c) (hm:most≤1000):Y (F163 (c,((most,()),()))) (fun y=>(Ty.sl e110).Ok y.1.1∧List.length y.1.1≤20∧COk y.2.1∧y.2.1.1=c.1):=by
 unfold F163
 refine Y.bind (y_below c most hc) fun y1 h1=>?_
 refine Y.sum (P:=fun v=>(Ty.sl e110).Ok v.1∧List.length v.1≤20∧COk v.2.2∧v.2.2.1=c.1) (R:=fun _=>False) (Y.loop (I:=fun v=>0≤v.2.1∧v.2.1≤1000∧(Ty.sl e110).Ok v.1∧List.length v.1≤20∧COk v.2.2∧v.2.2.1=c.1) (fun v=>v.2.1.toNat) (fun v hv=>?_) _ ⟨h1.1,?_,Ok_nil,Nat.zero_le _,h1.2.2.2.1,h1.2.2.2.2⟩) (fun v hv=>Y.mk hv) (fun _ h=>h.elim)
 ·obtain ⟨o,i,cu⟩:=v
  obtain ⟨g0,g1,g2,g3,g4,g5⟩:=hv
  dsimp only at g0 g1 g2 g3 g4 g5
  unfold F163.b0
  refine Y.bif (fun hlt=>?_) (fun _=>Y.rl ⟨g2,g3,g4,g5⟩)
  have hlt:0<i:=iLt_iff.1 hlt
  have e:iSub .i64 i 1=i - 1:=iSub_small (by omega) (by omega)
  refine Y.bind (y_tx5 cu g4) fun y3 h3=>Y.bind (y_poolAdd o y3.1 g2 (Nat.le_trans g3 (by decide)) (tx_ok h3.1)) fun y4 h4=>Y.l ⟨⟨?_,?_,?_,?_,h3.2.1,h3.2.2.trans g5⟩,?_⟩
  ·show 0≤iSub .i64 i 1;rw [e];omega
  ·show iSub .i64 i 1≤1000;rw [e];omega
  ·rcases h4 with ⟨_,q⟩|⟨_,_,_,q,_⟩
   ·show (Ty.sl e110).Ok y4.1.1;rw [q];exact g2
   ·exact q
  ·rcases h4 with ⟨_,q⟩|⟨_,_,_,_,q,_⟩
   ·show List.length y4.1.1≤20;rw [q];exact g3
   ·exact q
  ·show (iSub .i64 i 1).toNat<i.toNat;rw [e];omega
 ·show y1.1.1≤1000
  rcases Int.lt_or_le 0 most with h|h
  ·have:=h1.2.1 h;omega
  ·have:=h1.2.2.1 h;omega
theorem leader_hits {set:List D97} {who:ByteArray} {r0 r:Int} (h0:0≤r0) (hin:inB set who=true) (hno:∀s,r0≤s→s<r→leaderS set s≠who):r≤r0+(set.length:Int):=by
 rcases Int.lt_or_le (r0+(set.length:Int)) r with hlt|hle
 ·exfalso
  unfold inB at hin
  rw [List.any_eq_true] at hin
  obtain ⟨v,hv,hs⟩:=hin
  obtain ⟨i,hi,rfl⟩:=List.getElem_of_mem hv
  have hwho:=sEq_iff.1 hs
  have hpos:(0:Int)<(set.length:Int):=by omega
  have hs1:∃s:Int,r0≤s∧s<r0+(set.length:Int)∧s % (set.length:Int)=(i:Int):=by
   refine ⟨r0+((i:Int) - r0) % (set.length:Int),?_,?_,?_⟩
   ·have:=Int.emod_nonneg ((i:Int) - r0) (show (set.length:Int)≠0 by omega);omega
   ·have:=Int.emod_lt_of_pos ((i:Int) - r0) hpos;omega
   ·rw [Int.add_emod,Int.emod_emod_of_dvd _ (Int.dvd_refl _),←Int.add_emod]
    rw [show r0+((i:Int) - r0)=(i:Int) by omega]
    exact Int.emod_eq_of_lt (by omega) (by omega)
  obtain ⟨s,h1,h2,h3⟩:=hs1
  refine hno s h1 (by omega) ?_
  unfold leaderS
  have a1:iEq (set.length:Int) 0=false:=iEq_no.2 (by omega)
  have a2:iLt s 0=false:=iLt_no.2 (by omega)
  have a3:iRem s (set.length:Int)=(i:Int):=by
   unfold iRem
   rw [Int.tmod_eq_emod_of_nonneg (by omega)]
   exact h3
  rw [a1,a2,a3,Int.toNat_natCast,List.getElem?_eq_getElem hi]
  exact hwho
 ·exact hle
abbrev FvT:Type:=List D5×(Int×(Int×(Int×(Int×(Int×(ByteArray×(Int×(Int×(List D9×(Int×(Int×(ByteArray×(List DBk×Unit)))))))))))))
def fvMsg (to:ByteArray) (ep:Int) (v:FvT):DMs:=(v.2.2.2.1,(to,(ep,(v.2.2.2.2.2.2.2.2.2.2.2.2.2.1,(v.2.2.2.2.1,(v.2.2.2.2.2.1,(v.2.2.2.2.2.2.1,(v.2.2.2.2.2.2.2.2.2.2.1,(v.2.2.2.2.2.2.2.2.2.2.2.1,(v.2.2.2.2.2.2.2.2.2.2.2.2.1,(v.2.2.2.2.2.2.2.1,(v.2.2.2.2.2.2.2.2.1,(v.2.2.2.2.2.2.2.2.2.1,(0,([],([],()))))))))))))))))
theorem fin_mk {k ep vr vb gr gh qr qb:Int} {to vw gw:ByteArray} {bs:List DBk} {qw:List D9} (hk:(Lit.int .i64 k).wf=true) (hto:L63 to.size) (hep:(Lit.int .i64 ep).wf=true) (hbs:∀b∈bs,e71.Ok b∧BlockL b) (hbl:bs.length≤1) (h1:(Lit.int .i64 vr).wf=true) (h2:(Lit.int .i64 vb).wf=true) (h3:L63 vw.size) (h4:(Lit.int .i64 gr).wf=true) (h5:(Lit.int .i64 gh).wf=true) (h6:L63 gw.size) (h7:(Lit.int .i64 qr).wf=true) (h8:(Lit.int .i64 qb).wf=true) (h9:(Ty.sl e9).Ok qw) (h10:W1 qw.length) :
  FIn ((k,(to,(ep,(bs,(vr,(vb,(vw,(gr,(gh,(gw,(qr,(qb,(qw,(0,([],([],())))))))))))))))):DMs) :=
 ⟨⟨hk,hto,hep,Ok_of (Nat.le_trans hbl (by decide)) (fun b hb=>(hbs b hb).1),h1,h2,h3,h4,h5,h6,h7,h8,h9,rfl,Ok_nil,Ok_nil,trivial⟩,⟨Nat.le_trans hbl (by decide),fun b hb=>(hbs b hb).2,h10,Nat.zero_le _,Nat.zero_le _⟩,hbl⟩
def bentN (n:DNd) (who:ByteArray) (r:Int) (q:DQc) (pool:List D110):DNd:=(who,(n.2.1,(n.2.2.1,(n.2.2.2.1,(n.2.2.2.2.1,(n.2.2.2.2.2.1,(r,(n.2.2.2.2.2.2.2.1,(q.1,(q.2.1,(q.2.2.1,(n.2.2.2.2.2.2.2.2.2.2.2.1,(n.2.2.2.2.2.2.2.2.2.2.2.2.1,(n.2.2.2.2.2.2.2.2.2.2.2.2.2.1,(n.2.2.2.2.2.2.2.2.2.2.2.2.2.2.1,(n.2.2.2.2.2.2.2.2.2.2.2.2.2.2.2.1,(n.2.2.2.2.2.2.2.2.2.2.2.2.2.2.2.2.1,(n.2.2.2.2.2.2.2.2.2.2.2.2.2.2.2.2.2.1,(pool,(n.2.2.2.2.2.2.2.2.2.2.2.2.2.2.2.2.2.2.2.1,()))))))))))))))))))))
theorem bentN_in {n:DNd} (h:NIn n) {who:ByteArray} {r:Int} {q:DQc} {pool:List D110} (hw:L63 who.size) (hr:(Lit.int .i64 r).wf=true) (hq:QIn q) (hp:(Ty.sl e110).Ok pool) (hpl:W1 pool.length):NIn (bentN n who r q pool):=by
 have o:=h.ok
 have l:=h.l
 refine ⟨⟨hw,o.2.1,o.2.2.1,o.2.2.2.1,o.2.2.2.2.1,o.2.2.2.2.2.1,hr,o.2.2.2.2.2.2.2.1,hq.i1,hq.i2,hq.ok,o.2.2.2.2.2.2.2.2.2.2.2.1,o.2.2.2.2.2.2.2.2.2.2.2.2.1,o.2.2.2.2.2.2.2.2.2.2.2.2.2.1,o.2.2.2.2.2.2.2.2.2.2.2.2.2.2.1,o.2.2.2.2.2.2.2.2.2.2.2.2.2.2.2.1,o.2.2.2.2.2.2.2.2.2.2.2.2.2.2.2.2.1,o.2.2.2.2.2.2.2.2.2.2.2.2.2.2.2.2.2.1,hp,o.2.2.2.2.2.2.2.2.2.2.2.2.2.2.2.2.2.2.2.1,trivial⟩,?_,h.t,h.d,h.p⟩
 exact ⟨l.1,l.2.1,l.2.2.1,l.2.2.2.1,hq.w,l.2.2.2.2.2.1,l.2.2.2.2.2.2.1,l.2.2.2.2.2.2.2.1,l.2.2.2.2.2.2.2.2.1,l.2.2.2.2.2.2.2.2.2.1,hpl,l.2.2.2.2.2.2.2.2.2.2.2.1,l.2.2.2.2.2.2.2.2.2.2.2.2⟩
theorem y_forged {E S:Nat} {w:DWo} (h:WI E S w) (hE:E<890) (hne:wNodes w≠ []) (hfo:wFoul w≠ []) (c:DCu) (hc:COk c) (hrn:∀n∈wNodes w,0≤nRound n∧nRound n≤100000∧(nSet n).length≤12) :
  Y (F118 (c,(w,()))) (fun y=>FIn y.1∧FR w y.1∧COk y.2.1∧y.2.1.1=c.1∧y.2.2.1=w):=by
 have hnl:(0:Int)<((wNodes w).length:Int):=by have:=List.length_pos_iff.2 hne;omega
 have hfl:(0:Int)<((wFoul w).length:Int):=by have:=List.length_pos_iff.2 hfo;omega
 have hbl:=h.bl
 unfold F118
 refine Y.bind (y_below c _ hc) fun y1 h1=>?_
 have hy1:=h1.2.1 hnl
 obtain ⟨j,hj⟩:=Int.eq_ofNat_of_zero_le h1.1
 have hjl:j<(wNodes w).length:=by have:y1.1.1<((wNodes w).length:Int):=hy1;omega
 have g1:getI (wNodes w) y1.1.1=some (wNodes w)[j]:=by rw [hj];exact getI_lt hjl
 have g2:getN (wNodes w) (Int.toNat y1.1.1)=some (wNodes w)[j]:=by rw [hj];exact getN_lt hjl
 have hnm:(wNodes w)[j]∈wNodes w:=List.getElem_mem hjl
 refine Y.eq g1 (Y.eq g2 ?_)
 generalize (wNodes w)[j]=n at g1 g2 hnm
 obtain ⟨hV,hVe⟩:=h.nd n hnm
 obtain ⟨hr0,hr1,hset12⟩:=hrn n hnm
 have hk:=hV.v.h.ok
 have hL:=hV.v.h.l
 have hq:=hk.qin hL
 refine Y.bind (y_below _ _ h1.2.2.2.1) fun y3 h3=>?_
 refine Y.bind (Y.gi (xs:=wFoul w) (Q:=fun x=>x∈wFoul w) h3.1 (h3.2.1 hfl) fun _ h=>h) fun x4 hx4=>?_
 have hwho:L63 x4.1.size:=(Ok_mem h.fo.2 hx4).1
 refine Y.bind (y_below _ _ h3.2.2.2.1) fun y5 h5=>?_
 have ec5:y5.2.1.1=c.1:=h5.2.2.2.2.trans (h3.2.2.2.2.trans h1.2.2.2.2)
 have hb5:=h5.2.1 (by decide)
 have e7:iSub .i64 (nRound n) y5.1.1=nRound n - y5.1.1:=iSub_small (by have:=h5.1;omega) (by have:=h5.1;omega)
 refine Y.sum (P:=fun v=>(Lit.int .i64 v.1).wf=true∧(v.1≤1∨v.1≤nRound n)) (R:=fun _=>False) (Y.bif (fun _=>Y.l ⟨rfl,.inl (Int.le_refl _)⟩) (fun _=>Y.l ⟨okAdd _ _,.inr ?_⟩)) (fun v6 h6=>?_) (fun _ h=>h.elim)
 ·show iSub .i64 (nRound n) y5.1.1≤nRound n
  rw [e7];have:=h5.1;omega
 refine Y.sum (P:=fun v=>COk (v.1,(v.2.1,(v.2.2.1,())))∧v.1=c.1∧FIn (fvMsg n.1 n.2.1 v)∧FR w (fvMsg n.1 n.2.1 v)) (R:=fun _=>False) ?_ (fun v hv=>Y.mk ⟨hv.2.2.1,hv.2.2.2,hv.1,hv.2.1,rfl⟩) (fun _ h=>h.elim)
 refine Y.bind (y_below _ _ h5.2.2.2.1) fun y8 h8=>?_
 have ec8:y8.2.1.1=c.1:=h8.2.2.2.2.trans ec5
 refine Y.sum (P:=fun _=>True) (R:=fun _=>False) (Y.bif (fun _=>Y.l trivial) (fun _=>Y.l trivial)) (fun v9 _=>?_) (fun _ h=>h.elim)
 refine Y.bif (fun _=>?_) (fun _=>Y.bif (fun _=>?_) (fun _=>?_))
 ·-- a vote
  have e11:iAdd .i64 ((wBlocks w).length:Int) 1=((wBlocks w).length:Int)+1:=iAdd_small (by omega) (by omega)
  refine Y.bind (y_below _ _ h8.2.2.2.1) fun y11 h11=>?_
  have hb11:y11.1.1<iAdd .i64 ((wBlocks w).length:Int) 1:=h11.2.1 (by show 0<iAdd .i64 ((wBlocks w).length:Int) 1;rw [e11];omega)
  rw [e11] at hb11
  have hvb:(Lit.int .i64 y11.1.1).wf=true:=Rwf (by have:=h11.1;omega) (by omega)
  refine Y.bif (fun ht=>?_) (fun _=>Y.l ⟨h11.2.2.2.1,h11.2.2.2.2.trans ec8,fin_mk rfl hk.1 hk.2.1 (fun b hb=>by cases hb) (Nat.zero_le _) h6.1 hvb hwho rfl rfl (Nat.zero_le _) rfl rfl Ok_nil (Nat.zero_le _),⟨(by show (2:Int)≠4;decide),n,hnm,?_,.inl rfl,fun b hb=>by cases hb⟩⟩)
  ·have ht:(0:Int)<((nTree n).length:Int):=iLt_iff.1 ht
   have htl:=hV.v.h.t.len
   refine Y.bind (y_below _ _ h11.2.2.2.1) fun y12 h12=>Y.ff rfl ?_
   have hb12:y12.1.1<((nTree n).length:Int):=h12.2.1 ht
   have h120:=h12.1
   have eq:iQuo .i64 y12.1.1 2=y12.1.1 / 2:=by
    unfold iQuo
    rw [Int.tdiv_eq_ediv_of_nonneg h120,wrap64 (by omega) (by omega)]
   have es:iSub .i64 ((nTree n).length:Int) 1=((nTree n).length:Int) - 1:=iSub_small (by omega) (by omega)
   have es2:iSub .i64 (((nTree n).length:Int) - 1) (y12.1.1 / 2)=((nTree n).length:Int) - 1 - y12.1.1 / 2:=iSub_small (by omega) (by omega)
   refine Y.gT (xs:=nTree n) (by show 0≤iSub .i64 (iSub .i64 ((nTree n).length:Int) 1) (iQuo .i64 y12.1.1 2);rw [eq,es,es2];omega) (by show iSub .i64 (iSub .i64 ((nTree n).length:Int) 1) (iQuo .i64 y12.1.1 2)<((nTree n).length:Int);rw [eq,es,es2];omega) fun b hb=>Y.l ?_
   have hB:e71.Ok b:=Ok_mem hk.tree.2 hb
   exact ⟨h12.2.2.2.1,h12.2.2.2.2.trans (h11.2.2.2.2.trans ec8),fin_mk rfl hk.1 hk.2.1 (fun b hb=>by cases hb) (Nat.zero_le _) hB.2.2.1 hB.1 hwho rfl rfl (Nat.zero_le _) rfl rfl Ok_nil (Nat.zero_le _),⟨(by show (2:Int)≠4;decide),n,hnm,.inr (.inr ⟨b,hb,rfl⟩),.inl rfl,fun b hb=>by cases hb⟩⟩
  ·rcases h6.2 with h|h
   ·exact .inl h
   ·exact .inr (.inl h)
 ·-- a leaving
  refine Y.eq (s_cqc (nHigh n) hq.w) ?_
  refine Y.sum (P:=fun v=>COk (v.1,(v.2.1,(v.2.2.1,())))∧v.1=c.1∧QIn ((v.2.2.2.1,(v.2.2.2.2.1,(v.2.2.2.2.2.1,()))):DQc)) (R:=fun _=>False) (Y.bind (y_once _ _ h8.2.2.2.1) fun y15 h15=>Y.bif (fun _=>Y.l ⟨h15.1,h15.2.trans ec8,QIn.root⟩) (fun _=>Y.l ⟨h15.1,h15.2.trans ec8,hq⟩)) (fun v hv=>Y.l ?_) (fun _ h=>h.elim)
  obtain ⟨q1,q2,q3⟩:=hv
  exact ⟨q1,q2,fin_mk rfl hk.1 hk.2.1 (fun b hb=>by cases hb) (Nat.zero_le _) rfl rfl (Nat.zero_le _) hV.v.h.round q3.i1 hwho q3.i1 q3.i2 q3.ok q3.w,⟨(by show (3:Int)≠4;decide),n,hnm,.inl (by show (0:Int)≤1;decide),.inr rfl,fun b hb=>by cases hb⟩⟩
 ·-- a block
  refine Y.eq g2 (Y.eq g2 (Y.eq g2 (Y.eq g2 (Y.eq (s_cnode n hL) ?_))))
  refine Y.sum (P:=fun v=>COk (v.1,(v.2.1,(v.2.2.1,())))∧v.1=c.1∧QIn ((v.2.2.2.1,(v.2.2.2.2.1,(v.2.2.2.2.2.1,()))):DQc)) (R:=fun _=>False) (Y.bind (y_once _ _ h8.2.2.2.1) fun y15 h15=>Y.bif (fun _=>Y.l ⟨h15.1,h15.2.trans ec8,QIn.root⟩) (fun _=>Y.l ⟨h15.1,h15.2.trans ec8,hq⟩)) (fun v24 h24=>?_) (fun _ h=>h.elim)
  obtain ⟨q1,q2,q3⟩:=h24
  refine Y.sum (P:=fun v=>COk (v.1,(v.2.1,(v.2.2.1,())))∧v.1=c.1∧(Ty.sl e110).Ok v.2.2.2.1∧W1 (List.length v.2.2.2.1)) (R:=fun _=>False) (Y.bind (y_once _ _ q1) fun y26 h26=>Y.bif (fun _=>Y.bind (y_draw12 _ 3 h26.1 (by decide)) fun y27 h27=>Y.l ⟨h27.2.2.1,h27.2.2.2.trans (h26.2.trans q2),h27.1,Nat.le_trans h27.2.1 (by decide)⟩) (fun _=>Y.l ⟨h26.1,h26.2.trans q2,hk.pool,hL.2.2.2.2.2.2.2.2.2.2.1⟩)) (fun v28 h28=>?_) (fun _ h=>h.elim)
  obtain ⟨p1,p2,p3,p4⟩:=h28
  refine Y.sum (P:=fun v=>COk (v.1,(v.2.1,(v.2.2.1,())))∧v.1=c.1∧(Lit.int .i64 v.2.2.2.1).wf=true∧v.2.2.2.1≤nRound n+((nSet n).length:Int)) (R:=fun _=>False) (Y.loop (I:=fun v=>COk (v.1,(v.2.1,(v.2.2.1,())))∧v.1=c.1∧nRound n≤v.2.2.2.1∧v.2.2.2.1≤100000∧(nRound n<v.2.2.2.1→inB (nSet n) x4.1=true)∧∀s,nRound n≤s→s<v.2.2.2.1→leaderS (nSet n) s≠x4.1) (fun v=>(9990 - v.2.2.2.1).toNat) (fun v hv=>?_) _ ⟨p1,p2,Int.le_refl _,hr1,fun h=>absurd h (Int.lt_irrefl _),fun s h1 h2=>absurd h2 (by show ¬s<nRound n;omega)⟩) (fun v34 h34=>?_) (fun _ h=>h.elim)
  ·obtain ⟨b0,ci0,st0,r,u⟩:=v
   obtain ⟨g1',g2',g3',g4',g5',g6'⟩:=hv
   dsimp only at g1' g2' g3' g4' g5' g6'
   have hdone:(Lit.int .i64 r).wf=true∧r≤nRound n+((nSet n).length:Int):=by
    refine ⟨Rwf (by omega) (by omega),?_⟩
    rcases Int.lt_or_le (nRound n) r with hlt|hle
    ·exact leader_hits hr0 (g5' hlt) g6'
    ·omega
   unfold F118.b0
   refine Y.bif (fun hlt=>?_) (fun _=>Y.rl ⟨g1',g2',hdone⟩)
   have hlt:r<9990:=iLt_iff.1 hlt
   refine Y.eq (s_leader (nSet n) r) (Y.bif (fun hl=>?_) (fun _=>Y.rl ⟨g1',g2',hdone⟩))
   have hl:sEq (leaderS (nSet n) r) x4.1=false:=by simpa using hl
   refine Y.eq (s_isin (nSet n) x4.1 hk.set.1) (Y.bif (fun hin=>?_) (fun _=>Y.rl ⟨g1',g2',hdone⟩))
   refine Y.bind (y_once _ _ g1') fun y33 h33=>Y.bif (fun _=>Y.l ?_) (fun _=>Y.rl ⟨h33.1,h33.2.trans g2',hdone⟩)
   have e1:iAdd .i64 r 1=r+1:=iAdd_small (by omega) (by omega)
   refine ⟨⟨h33.1,h33.2.trans g2',?_,?_,fun _=>hin,fun s s1 s2=>?_⟩,?_⟩
   ·show nRound n≤iAdd .i64 r 1;rw [e1];omega
   ·show iAdd .i64 r 1≤100000;rw [e1];omega
   ·have s2:s<iAdd .i64 r 1:=s2
    rw [e1] at s2
    rcases Int.lt_or_le s r with h|h
    ·exact g6' s s1 h
    ·have:s=r:=by omega
     rw [this];exact sEq_no.1 hl
   ·show (9990 - iAdd .i64 r 1).toNat<(9990 - r).toNat;rw [e1];omega
  ·obtain ⟨r1,r2,r3,r4⟩:=h34
   have hid:=len_wf (n:=(wBlocks w).length) (by omega)
   have hbn:=bentN_in hV.v.h (pool:=v28.2.2.2.1) hwho r3 q3 p3 p4
   obtain ⟨m1,m2⟩:=makeN_ok hbn hid
   refine Y.eq (s_makeN (bentN n x4.1 v34.2.2.2.1 (v24.2.2.2.1,(v24.2.2.2.2.1,(v24.2.2.2.2.2.1,()))) v28.2.2.2.1) ((wBlocks w).length:Int) hbn) (Y.l ⟨r1,r2,fin_mk rfl hk.1 hk.2.1 (fun b hb=>?_) (Nat.le_refl _) rfl rfl (Nat.zero_le _) rfl rfl (Nat.zero_le _) rfl rfl Ok_nil (Nat.zero_le _),⟨(by show (1:Int)≠4;decide),n,hnm,.inl (by show (0:Int)≤1;decide),.inl rfl,fun b hb=>?_⟩⟩)
   ·rw [List.mem_singleton.1 hb];exact ⟨m1,m2⟩
   ·rw [List.mem_singleton.1 hb];exact r4
theorem pool_iff {l:List D110}:poolB l=true↔(∀t∈l,txB t=true)∧l.Pairwise (fun a b=>txLessB a b=true)∧l.length≤20:=by
 unfold poolB
 rw [Bool.and_eq_true]
 constructor
 ·rintro ⟨h1,h2⟩
  have hs:=sorted_of h1
  refine ⟨fun t ht=>?_,?_,by have:=iLe_iff.1 h2;omega⟩
  ·obtain ⟨i,hi,rfl⟩:=List.getElem_of_mem ht
   have:=allI_get h1 i hi
   unfold poolP at this
   simp only [Bool.and_eq_true] at this
   exact this.1
  ·rw [List.pairwise_iff_getElem]
   intro i j hi hj hij
   exact hs i j _ _ (List.getElem?_eq_getElem hi) (List.getElem?_eq_getElem hj) hij
 ·rintro ⟨h1,h2,h3⟩
  refine ⟨allI_of (fun i hi=>?_),iLe_iff.2 (by omega)⟩
  unfold poolP
  rw [Bool.and_eq_true,Nat.zero_add]
  refine ⟨h1 _ (List.getElem_mem hi),?_⟩
  match i,hi with
  |0,_=>rfl
  |j+1,hi =>
   rw [behind_succ (lt:=txLessB) (xs:=l) (j:=j) (y:=l[j+1]) (by omega)]
   rw [List.pairwise_iff_getElem] at h2
   exact h2 j (j+1) (by omega) hi (by omega)
theorem pool_filter {l:List D110} (p:D110→Bool) (h:poolB l=true):poolB (l.filter p)=true:=by
 obtain ⟨h1,h2,h3⟩:=pool_iff.1 h
 exact pool_iff.2 ⟨fun t ht=>h1 t (List.mem_filter.1 ht).1,h2.filter p,Nat.le_trans (List.length_filter_le _ _) h3⟩
structure PastR (R:Int) (bl:List DBk) (p:DPr) (k:Nat):Prop where
 ep:p.1=(k:Int)
 ne:pBs p≠ []
 bs:∀b∈pBs p,b∈bl∧b.2.1=p.1
 le:(pBs p).length≤400
 q:qcF (pQ p) 10000 100000=true
 r:(pQ p).1≤R
structure NR (R:Int) (bl:List DBk) (n:DNd):Prop where
 nm:nameB n.1=true
 rd:1≤nRound n∧nRound n≤R+1
 vo:0≤nVoted n∧nVoted n≤nRound n
 ld:0≤nLed n∧nLed n≤nRound n
 hq:qcB (nSet n) (nHigh n)=true
 hr:(nHigh n).1<nRound n
 tq:tcB (nSet n) (nTc n)=true
 tr:(nTc n).1<nRound n
 vt:∀v∈nVotes n,v.1≤R
 gn:∀g∈nGones n,g.1≤R
 tree:treeB (nTree n)=true
 tre:∀b∈nTree n,b∈bl∧b.2.1=n.2.1
 pool:poolB (nPool n)=true
 set:nSet n= []∨setB (nSet n)=true
 done:∀x∈nDone n,0≤x.1∧x.1<(bl.length:Int)
 past:∀(k:Nat) (p:DPr),(nPast n)[k]?=some p→PastR R bl p k
theorem PastR.mono {R R':Int} {bl bl':List DBk} {p:DPr} {k:Nat} (h:PastR R bl p k) (hR:R≤R') (hb:∀b∈bl,b∈bl'):PastR R' bl' p k:=⟨h.ep,h.ne,fun b hm=>⟨hb b (h.bs b hm).1,(h.bs b hm).2⟩,h.le,h.q,Int.le_trans h.r hR⟩
theorem NR.mono {R R':Int} {bl bl':List DBk} {n:DNd} (h:NR R bl n) (hR:R≤R') (hb:∀b∈bl,b∈bl') (hl:bl.length≤bl'.length):NR R' bl' n :=
 ⟨h.nm,⟨h.rd.1,by have:=h.rd.2;omega⟩,h.vo,h.ld,h.hq,h.hr,h.tq,h.tr,fun v hv=>Int.le_trans (h.vt v hv) hR,fun g hg=>Int.le_trans (h.gn g hg) hR,h.tree,fun b hm=>⟨hb b (h.tre b hm).1,(h.tre b hm).2⟩,h.pool,h.set,fun x hx=>⟨(h.done x hx).1,by have:=(h.done x hx).2;omega⟩,fun k p hp=>(h.past k p hp).mono hR hb⟩
structure BR (R:Int) (bl:List DBk):Prop where
 ids:∀(i:Nat) (hi:i<bl.length),bl[i].1=(i:Int)
 blk:∀b∈bl,blockB b=true
 rd:∀b∈bl,b.2.2.1≤R
theorem BR.lt {R:Int} {bl:List DBk} (h:BR R bl) {b:DBk} (hb:b∈bl):0≤b.1∧b.1<(bl.length:Int):=by
 obtain ⟨i,hi,rfl⟩:=List.getElem_of_mem hb
 have:=h.ids i hi
 omega
theorem BR.uniq {R:Int} {bl:List DBk} (h:BR R bl) {a b:DBk} (ha:a∈bl) (hb:b∈bl) (e:a.1=b.1):a=b:=by
 obtain ⟨i,hi,rfl⟩:=List.getElem_of_mem ha
 obtain ⟨j,hj,rfl⟩:=List.getElem_of_mem hb
 have h1:=h.ids i hi
 have h2:=h.ids j hj
 have:i=j:=by omega
 subst this
 rfl
theorem root_facts {q:DQc} (h:rootB q=true):q.1=0∧q.2.1= -1∧List.length q.2.2.1=0:=by
 unfold rootB at h
 simp only [Bool.and_eq_true] at h
 have:=iEq_iff.1 h.2.2
 exact ⟨iEq_iff.1 h.1,iEq_iff.1 h.2.1,by omega⟩
theorem none_facts {t:DTc} (h:noneB t=true):t.1=0∧List.length t.2.1=0∧List.length t.2.2.1=0:=by
 unfold noneB at h
 simp only [Bool.and_eq_true] at h
 have h1:=iEq_iff.1 h.2.1
 have h2:=iEq_iff.1 h.2.2
 exact ⟨iEq_iff.1 h.1,by omega,by omega⟩
theorem qcB_rd {l:List D97} {q:DQc} (h:qcB l q=true):0≤q.1∧q.1≤10000:=by
 unfold qcB at h
 simp only [Bool.or_eq_true,Bool.and_eq_true] at h
 rcases h with h|h
 ·have:=(root_facts h).1;omega
 ·have:=inR_iff.1 h.1;omega
theorem qcB_qcF {l:List D97} {q:DQc} (h:qcB l q=true):qcF q 10000 100000=true:=by
 unfold qcB at h
 unfold qcF
 simp only [Bool.or_eq_true,Bool.and_eq_true] at h ⊢
 rcases h with h|h
 ·exact .inl h
 ·exact .inr ⟨h.1,h.2.1,h.2.2.1⟩
theorem tcB_rd {l:List D97} {t:DTc} (h:tcB l t=true):0≤t.1∧t.1≤10000:=by
 unfold tcB at h
 simp only [Bool.or_eq_true,Bool.and_eq_true] at h
 rcases h with h|h
 ·have:=(none_facts h).1;omega
 ·have:=inR_iff.1 h.1;omega
theorem tcB_tcF {l:List D97} {t:DTc} (h:tcB l t=true):tcF t 10000=true:=by
 unfold tcB at h
 unfold tcF
 simp only [Bool.or_eq_true,Bool.and_eq_true] at h ⊢
 rcases h with h|h
 ·exact .inl h
 ·exact .inr ⟨h.1,h.2.1,h.2.2.1,h.2.2.2.1⟩
theorem qcF_rd {q:DQc} {r i:Int} (h:qcF q r i=true):0≤q.1∧(q.1≤r∨q.1=0):=by
 unfold qcF at h
 simp only [Bool.or_eq_true,Bool.and_eq_true] at h
 rcases h with h|h
 ·have:=(root_facts h).1;omega
 ·have:=inR_iff.1 h.1;omega
theorem tcF_rd {t:DTc} {r:Int} (h:tcF t r=true):0≤t.1∧(t.1≤r∨t.1=0):=by
 unfold tcF at h
 simp only [Bool.or_eq_true,Bool.and_eq_true] at h
 rcases h with h|h
 ·have:=(none_facts h).1;omega
 ·have:=inR_iff.1 h.1;omega
theorem qcB_root {l:List D97}:qcB l ((0,(-1,([],()))):DQc)=true:=rfl
theorem tcB_none {l:List D97}:tcB l ((0,([],([],()))):DTc)=true:=rfl
theorem rndN_eq {r x:Int} (h0:0≤x) (h1:x≤10000):rndN r x=if r<x+1 then x+1 else r:=by
 unfold rndN
 rw [iAdd_small (by omega) (by omega)]
 by_cases h:r<x+1
 ·rw [if_pos h,iLt_iff.2 h];rfl
 ·rw [if_neg h,iLt_no.2 (by omega)];rfl
theorem setLn_nr {R:Int} {bl:List DBk} {n:DNd} {q:DQc} (h:NR R bl n) (hq:qcB (nSet n) q=true) (hR:q.1≤R):NR R bl (setLn n q):=by
 have hqr:=qcB_rd hq
 have hrd:nRound (setLn n q)=if nRound n<q.1+1 then q.1+1 else nRound n:=rndN_eq hqr.1 hqr.2
 have hge:nRound n≤nRound (setLn n q):=by rw [hrd];split<;>omega
 have hgq:q.1<nRound (setLn n q):=by rw [hrd];split<;>omega
 have hup:nRound (setLn n q)≤R+1:=by rw [hrd];have:=h.rd.2;split<;>omega
 have hh:nHigh (setLn n q)=highN n q:=rfl
 have hho:highN n q=q∨highN n q=nHigh n:=by unfold highN;cases iLt (nHigh n).1 q.1<;>simp
 refine ⟨h.nm,⟨by have:=h.rd.1;omega,hup⟩,⟨h.vo.1,by have:=h.vo.2;show nVoted n≤_;omega⟩,⟨h.ld.1,by have:=h.ld.2;show nLed n≤_;omega⟩,?_,?_,h.tq,by have:=h.tr;show (nTc n).1<_;omega,h.vt,h.gn,h.tree,h.tre,h.pool,h.set,h.done,h.past⟩
 ·rw [hh]
  rcases hho with e|e<;>rw [e]
  ·exact hq
  ·exact h.hq
 ·rw [hh]
  rcases hho with e|e<;>rw [e]
  ·exact hgq
  ·have:=h.hr;omega
theorem addDs_mem {x:D3}:∀{ids d:List D3},x∈addDs d ids→x∈d∨x∈ids
 | [],d,h=> .inl h
 |y::r,d,h=>by
  have h1:addDs d (y::r)=addDs (addD d y.1) r:=rfl
  rw [h1] at h
  rcases addDs_mem h with h2|h2
  ·unfold addD at h2
   cases hc:hasD d y.1 with
   |true=>rw [hc] at h2;exact .inl h2
   |false =>
    rw [hc] at h2
    rcases List.mem_append.1 h2 with h3|h3
    ·exact .inl h3
    ·right
     rw [List.mem_singleton] at h3
     have:x=y:=h3
     rw [this];simp
  ·exact .inr (List.mem_cons_of_mem _ h2)
theorem commitR_nr {R:Int} {bl:List DBk} {n:DNd} {q:DQc} (hb:BR R bl) (h:NR R bl n) (hV:NW n) (hE:n.2.1<890) (hR0:0≤R) (hq:qcF q 10000 100000=true) (hR:q.1≤R):NR R bl (commitR n q):=by
 have hT:TreeF (nTree n):=treeF h.tree
 have h0:=hV.e0
 have hdn:∀(ch:List DBk),(∀b∈ch,b∈nTree n)→∀x∈addDs (nDone n) (idsOf ch),0≤x.1∧x.1<(bl.length:Int):=fun ch hch x hx=>by
  rcases addDs_mem hx with h1|h1
  ·exact h.done x h1
  ·unfold idsOf at h1
   obtain ⟨b,hb1,rfl⟩:=List.mem_map.1 h1
   exact hb.lt (h.tre b (hch b hb1)).1
 rcases commit_cases n.2.1.toNat n.2.1.toNat n q hV.v (by omega) with ⟨_,e⟩|⟨hid,⟨_,e⟩|⟨p,b,r,c1,c2,c3,c4,e,m⟩⟩
 ·rw [e];exact h
 ·rw [e]
  exact ⟨h.nm,h.rd,h.vo,h.ld,h.hq,h.hr,h.tq,h.tr,h.vt,h.gn,h.tree,h.tre,pool_filter _ h.pool,h.set,hdn _ (fun b hb=>chain_mem hT _ b hb),h.past⟩
 ·rw [e]
  obtain ⟨b0,hb0,hb0e,_⟩:=commitId_some hid
  have hB:=blkF (hb.blk b (h.tre b c4).1)
  have hnext:setB (bNext b)=true:=by
   have:=hB.bo
   unfold bodyB at this
   rw [c2] at this
   simp only [cond_true,Bool.and_eq_true] at this
   exact this.1
  have hpm:∀c∈p++ [b],c∈nTree n:=fun c hc=>chain_mem hT _ c (by
   rw [c1]
   rcases List.mem_append.1 hc with hc|hc
   ·exact List.mem_append_left _ hc
   ·rw [List.mem_singleton.1 hc];exact List.mem_append_right _ (List.mem_cons_self ..))
  refine ⟨h.nm,⟨Int.le_refl _,by show (1:Int)≤R+1;omega⟩,⟨Int.le_refl _,by show (0:Int)≤1;decide⟩,⟨Int.le_refl _,by show (0:Int)≤1;decide⟩,qcB_root,by show (0:Int)<1;decide,tcB_none,by show (0:Int)<1;decide,(fun v hv=>by cases hv),(fun v hv=>by cases hv),rfl,(fun v hv=>by cases hv),pool_filter _ h.pool,.inr hnext,hdn _ hpm,fun k pr hp=>?_⟩
  have hp:(nPast n++ [proofN n q])[k]?=some pr:=hp
  rcases Nat.lt_or_ge k (nPast n).length with hk|hk
  ·rw [List.getElem?_append_left hk] at hp
   exact h.past k pr hp
  ·rw [List.getElem?_append_right hk] at hp
   have hk0:k - (nPast n).length=0:=by
    rcases Nat.eq_zero_or_pos (k - (nPast n).length) with h1|h1
    ·exact h1
    ·rw [List.getElem?_eq_none (by simp;omega)] at hp;cases hp
   rw [hk0] at hp
   have hp:proofN n q=pr:=by simpa using hp
   subst hp
   have hpa:=hV.pa
   have hch:=chain_subl hT q.2.1
   refine ⟨?_,?_,fun c hc=>h.tre c (hch.subset hc),Nat.le_trans hch.length_le hT.len,hq,hR⟩
   ·show n.2.1=(k:Int)
    omega
   ·show chain (nTree n) q.2.1≠ []
    rw [←hb0e,chain_some hT hb0]
    simp
theorem learn_nr {R:Int} {bl:List DBk} {n:DNd} {q:DQc} (hb:BR R bl) (h:NR R bl n) (hV:NW n) (hE:n.2.1<890) (hR0:0≤R) (hi:QIn q) (hq:qcB (nSet n) q=true) (hR:q.1≤R):NR R bl (learnN n q):=by
 have hs:NW (setLn n q):=NW.mk' (setLn_nv hV.v hi) hV.e0 hV.pa
 exact commitR_nr hb (setLn_nr h hq hR) hs hE hR0 (qcB_qcF hq) hR
theorem tcN_nr {R:Int} {bl:List DBk} {n:DNd} {t:DTc} (h:NR R bl n) (ht:tcB (nSet n) t=true) (hR:t.1≤R):NR R bl (tcN n t):=by
 have htr:=tcB_rd ht
 have hrd:nRound (tcN n t)=if nRound n<t.1+1 then t.1+1 else nRound n:=rndN_eq htr.1 htr.2
 have hge:nRound n≤nRound (tcN n t):=by rw [hrd];split<;>omega
 have hgq:t.1<nRound (tcN n t):=by rw [hrd];split<;>omega
 have hup:nRound (tcN n t)≤R+1:=by rw [hrd];have:=h.rd.2;split<;>omega
 have hh:nTc (tcN n t)=tcT n t:=rfl
 have hho:tcT n t=t∨tcT n t=nTc n:=by unfold tcT;cases iLt (nTc n).1 t.1<;>simp
 refine ⟨h.nm,⟨by have:=h.rd.1;omega,hup⟩,⟨h.vo.1,by have:=h.vo.2;show nVoted n≤_;omega⟩,⟨h.ld.1,by have:=h.ld.2;show nLed n≤_;omega⟩,h.hq,by have:=h.hr;show (nHigh n).1<_;omega,?_,?_,h.vt,h.gn,h.tree,h.tre,h.pool,h.set,h.done,h.past⟩
 ·rw [hh]
  rcases hho with e|e<;>rw [e]
  ·exact ht
  ·exact h.tq
 ·rw [hh]
  rcases hho with e|e<;>rw [e]
  ·exact hgq
  ·have:=h.tr;omega
theorem setTree_nr {R:Int} {bl:List DBk} {n:DNd} {t:List DBk} (h:NR R bl n) (ht:treeB t=true) (hm:∀b∈t,b∈bl∧b.2.1=n.2.1):NR R bl (setTree n t) :=
 ⟨h.nm,h.rd,h.vo,h.ld,h.hq,h.hr,h.tq,h.tr,h.vt,h.gn,ht,hm,h.pool,h.set,h.done,h.past⟩
theorem setVt_nr {R:Int} {bl:List DBk} {n:DNd} {t:List D82} (h:NR R bl n) (hm:∀v∈t,v.1≤R):NR R bl (setVt n t) :=
 ⟨h.nm,h.rd,h.vo,h.ld,h.hq,h.hr,h.tq,h.tr,hm,h.gn,h.tree,h.tre,h.pool,h.set,h.done,h.past⟩
theorem setGo_nr {R:Int} {bl:List DBk} {n:DNd} {t:List D84} (h:NR R bl n) (hm:∀v∈t,v.1≤R):NR R bl (setGo n t) :=
 ⟨h.nm,h.rd,h.vo,h.ld,h.hq,h.hr,h.tq,h.tr,h.vt,hm,h.tree,h.tre,h.pool,h.set,h.done,h.past⟩
theorem setVo_nr {R:Int} {bl:List DBk} {n:DNd} {v:Int} (h:NR R bl n) (h0:0≤v) (h1:v≤nRound n):NR R bl (setVo n v) :=
 ⟨h.nm,h.rd,⟨h0,h1⟩,h.ld,h.hq,h.hr,h.tq,h.tr,h.vt,h.gn,h.tree,h.tre,h.pool,h.set,h.done,h.past⟩
theorem setLed_nr {R:Int} {bl:List DBk} {n:DNd} {v:Int} (h:NR R bl n) (h0:0≤v) (h1:v≤nRound n):NR R bl (setLed n v) :=
 ⟨h.nm,h.rd,h.vo,⟨h0,h1⟩,h.hq,h.hr,h.tq,h.tr,h.vt,h.gn,h.tree,h.tre,h.pool,h.set,h.done,h.past⟩
theorem setPl_nr {R:Int} {bl:List DBk} {n:DNd} {q:List D110} (h:NR R bl n) (hp:poolB q=true):NR R bl (setPl n q) :=
 ⟨h.nm,h.rd,h.vo,h.ld,h.hq,h.hr,h.tq,h.tr,h.vt,h.gn,h.tree,h.tre,hp,h.set,h.done,h.past⟩
theorem take_nr {R:Int} {bl:List DBk} {n:DNd} {b:DBk} (hb:BR R bl) (h:NR R bl n) (hV:NW n) (hE:n.2.1<890) (hR0:0≤R) (hbm:b∈bl) (hbo:e71.Ok b) (hbL:BlockL b):NR R bl (takeN n b):=by
 unfold takeN
 cases ht:takeB n b with
 |false=>exact h
 |true =>
  have hC:=takeC hV.v.h.t ht
  have hB:=blkF hC.blk
  have hrb:=hb.rd b hbm
  have hrd:=hB.rd
  have eR:iSub .i64 b.2.2.1 1=b.2.2.1 - 1:=iSub_small (by omega) (by omega)
  have hqr:=qcF_rd hB.qc
  have htr:=tcF_rd hB.tc
  rw [eR] at hqr htr
  obtain ⟨w1,w2,w3⟩:=take1_nw hV hbo hbL hE ht
  obtain ⟨x1,x2⟩:=take2_nw hV hbo hbL hE ht
  have h1:NR R bl (setTree n (insB (nTree n) b)):=setTree_nr h hC.tr (fun c hc=>by
   rcases insB_mem.1 hc with h1|h1
   ·exact h.tre c h1
   ·rw [h1];exact ⟨hbm,hC.ep⟩)
  have h2:NR R bl (take1 n b):=learn_nr hb h1 w1 hE hR0 (BOk.qin hbo hbL) hC.qc (by omega)
  have h3:NR R bl (take2 n b):=by
   unfold take2
   cases he:iEq (take1 n b).2.1 n.2.1 with
   |false=>exact h2
   |true =>
    have he:=iEq_iff.1 he
    have hset:nSet (take1 n b)=nSet n:=by
     rcases w3.a.ca with ⟨_,_,e⟩|e
     ·exact e
     ·omega
    exact tcN_nr h2 (by rw [hset];exact hC.tc) (by omega)
  unfold takeM
  cases hc:(iEq (take2 n b).2.1 n.2.1&&iEq (nHigh (take2 n b)).2.1 b.1) with
  |false=>exact h3
  |true =>
   simp only [Bool.and_eq_true] at hc
   have he:=iEq_iff.1 hc.1
   exact learn_nr hb h3 x1 (by omega) hR0 (x1.v.h.ok.qin x1.v.h.l) h3.hq (by have:=h3.hr;have:=h3.rd.2;omega)
theorem set_names {l:List D97} (h:l= []∨setB l=true):(∀v∈l,nameB v.1=true∧1≤v.2.1∧v.2.1≤1000000)∧l.length≤12:=by
 rcases h with rfl|h
 ·exact ⟨fun v hv=>(by cases hv),Nat.zero_le _⟩
 ·unfold setB at h
  simp only [Bool.and_eq_true] at h
  refine ⟨fun v hv=>?_,by have:=inR_iff.1 h.2;omega⟩
  obtain ⟨i,hi,rfl⟩:=List.getElem_of_mem hv
  have:=allI_get h.1 i hi
  unfold valP at this
  simp only [Bool.and_eq_true] at this
  exact ⟨this.1,inR_iff.1 this.2.1⟩
theorem msg_vote {to name:ByteArray} {r id ep ep0:Int} (hto:nameB to=true) (hep:0≤ep∧ep≤900) (hr:1≤r∧r≤10000) (hid:0≤id∧id≤100000) (hn:nameB name=true):msgB (msgTo (voteMsg name r id ep0) to ep)=true:=by
 have h1:inR ep 0 900=true:=inR_iff.2 hep
 have h2:inR r 1 10000=true:=inR_iff.2 hr
 have h3:inR id 0 100000=true:=inR_iff.2 hid
 have hv:mVF (msgTo (voteMsg name r id ep0) to ep)=true:=by
  show (inR r 1 10000&&(inR id 0 100000&&nameB name))=true
  rw [h2,h3,hn];rfl
 unfold msgB
 show (nameB to&&(inR ep 0 900&&(true&&(true&&((true&&true)&&(true&&(mVF (msgTo (voteMsg name r id ep0) to ep)&&(mG0 (msgTo (voteMsg name r id ep0) to ep)&&(true&&true)))))))))=true
 rw [hto,h1,hv]
 show (sEq ⟨#[]⟩ ⟨#[]⟩&&true)=true
 rw [sEq_self];rfl
theorem msg_gone {n:DNd} {to:ByteArray} {ep ep0:Int} (hto:nameB to=true) (hep:0≤ep∧ep≤900) (hr:1≤nRound n∧nRound n≤10000) (hh:0≤(nHigh n).1∧(nHigh n).1<nRound n) (hq:qcF (nHigh n) 10000 100000=true) (hn:nameB n.1=true):msgB (msgTo (goneMsg n ep0) to ep)=true:=by
 have h1:inR ep 0 900=true:=inR_iff.2 hep
 have h2:inR (nRound n) 1 10000=true:=inR_iff.2 hr
 have e:iSub .i64 (nRound n) 1=nRound n - 1:=iSub_small (by omega) (by omega)
 have h3:inR (nHigh n).1 0 (iSub .i64 (nRound n) 1)=true:=by rw [e];exact inR_iff.2 ⟨hh.1,by omega⟩
 unfold msgB
 show (nameB to&&(inR ep 0 900&&(qcF (nHigh n) 10000 100000&&(true&&((true&&true)&&(true&&(((true)&&(true&&sEq ⟨#[]⟩ ⟨#[]⟩))&&((inR (nRound n) 1 10000&&(inR (nHigh n).1 0 (iSub .i64 (nRound n) 1)&&(iEq (nHigh n).1 (nHigh n).1&&nameB n.1)))&&true))))))))=true
 rw [hto,h1,hq,h2,h3,hn,sEq_self,iEq_self];rfl
theorem msg_prop {b:DBk} {to:ByteArray} {ep ep0:Int} (hto:nameB to=true) (hep:0≤ep∧ep≤900) (hb:blockB b=true) (he:b.2.1=ep):msgB (msgTo (propMsg b ep0) to ep)=true:=by
 have h1:inR ep 0 900=true:=inR_iff.2 hep
 unfold msgB
 show (nameB to&&(inR ep 0 900&&(true&&(true&&((((blockB b&&iEq b.2.1 ep)&&true)&&true)&&(true&&((true&&(true&&sEq ⟨#[]⟩ ⟨#[]⟩))&&((true&&(true&&sEq ⟨#[]⟩ ⟨#[]⟩))&&(true&&true)))))))))=true
 rw [hto,h1,hb,he,iEq_self,sEq_self];rfl
theorem msg_share {to:ByteArray} {ep:Int} {bs:List DBk} {q:DQc} {t:DTc} (hto:nameB to=true) (hep:0≤ep∧ep≤900) (hb:∀b∈bs,blockB b=true∧b.2.1=ep) (hl:bs.length≤400) (hq:qcF q 10000 100000=true) (ht:tcF t 10000=true):msgB (shareMsg to ep bs q t)=true:=by
 have h1:inR ep 0 900=true:=inR_iff.2 hep
 have h2:blksB bs ep=true:=by
  unfold blksB
  rw [List.all_eq_true]
  intro b hm
  rw [(hb b hm).1,(hb b hm).2,iEq_self];rfl
 have h3:iLe (bs.length:Int) 400=true:=iLe_iff.2 (by omega)
 unfold msgB
 show (nameB to&&(inR ep 0 900&&(qcF q 10000 100000&&(tcF t 10000&&((blksB bs ep&&iLe (bs.length:Int) 400)&&((true&&(true&&sEq ⟨#[]⟩ ⟨#[]⟩))&&(true&&(true&&sEq ⟨#[]⟩ ⟨#[]⟩))))))))=true
 rw [hto,h1,h2,h3,hq,ht,sEq_self];rfl
structure MR (R:Int) (bl:List DBk) (m:DMs):Prop where
 ok:msgB m=true
 bs:∀b∈mBs m,b∈bl
 v:(mVo m).1≤R
 g:(mGo m).1≤R
 q:(mQ m).1≤R
 t:(mT m).1≤R
theorem MR.mono {R R':Int} {bl bl':List DBk} {m:DMs} (h:MR R bl m) (hR:R≤R') (hb:∀b∈bl,b∈bl'):MR R' bl' m:=⟨h.ok,fun b hm=>hb b (h.bs b hm),Int.le_trans h.v hR,Int.le_trans h.g hR,Int.le_trans h.q hR,Int.le_trans h.t hR⟩
theorem toAll_mr {R:Int} {bl:List DBk} {set:List D97} {name:ByteArray} {m:DMs} {ep:Int} (h:∀v∈set,MR R bl (msgTo m v.1 ep)):∀x∈toAllL set name m ep,MR R bl x:=by
 intro x hx
 unfold toAllL at hx
 obtain ⟨v,hv,rfl⟩:=List.mem_map.1 hx
 exact h v (List.mem_filter.1 hv).1
theorem addV_mem {l:List D82} {v x:D82} (h:x∈addV l v):x∈l∨x=v:=by
 unfold addV at h
 cases hc:(!hasVB l v.1 v.2.1 v.2.2.1&&iLt (l.length:Int) 1000) with
 |false=>rw [hc] at h;exact .inl h
 |true =>
  rw [hc] at h
  rcases List.mem_append.1 h with h1|h1
  ·exact .inl h1
  ·exact .inr (List.mem_singleton.1 h1)
theorem addG_mem {l:List D84} {v x:D84} (h:x∈addG l v):x∈l∨x=v:=by
 unfold addG at h
 cases hc:(!hasG l v&&iLt (l.length:Int) 1000) with
 |false=>rw [hc] at h;exact .inl h
 |true =>
  rw [hc] at h
  rcases List.mem_append.1 h with h1|h1
  ·exact .inl h1
  ·exact .inr (List.mem_singleton.1 h1)
theorem gathQok_qc {set:List D97} {votes:List D82} {r id:Int} (h:gathQok set votes r id=true):qcB set (gathQ set votes r id)=true∧rootB (gathQ set votes r id)=false:=by
 unfold gathQok at h
 simp only [Bool.and_eq_true,Bool.not_eq_true'] at h
 exact h
theorem vote_nr {R:Int} {bl:List DBk} {n:DNd} {v:D82} (hb:BR R bl) (h:NR R bl n) (hV:NW n) (hE:n.2.1<890) (hR0:0≤R) (hv:e82.Ok v) (hvR:v.1≤R):NR R bl (voteN n v):=by
 have ho:=addV_ok hV.v.vo hV.v.h.ok.votes hv
 have h1:NR R bl (setVt n (addV (nVotes n) v)):=setVt_nr h (fun x hx=>by
  rcases addV_mem hx with h2|h2
  ·exact h.vt x h2
  ·rw [h2];exact hvR)
 have hn:=setVt_nw hV ho (addV_le hV.v.vo)
 unfold voteN
 cases inB (nSet n) v.2.2.1 with
 |false=>exact h
 |true =>
  cases hg:gathQok (nSet n) (addV (nVotes n) v) v.1 v.2.1 with
  |false=>exact h1
  |true=>exact learn_nr hb h1 hn hE hR0 (gathQ_in (nSet n) (addV (nVotes n) v) v.1 v.2.1 hV.v.h.ok.set hV.v.h.l.2.1 hv.1 hv.2.1) (gathQok_qc hg).1 hvR
theorem gonesN_nr {R:Int} {bl:List DBk} {n:DNd} {g:D84} (h:NR R bl n) (hg:g.1≤R):NR R bl (gonesN n g):=by
 have h1:NR R bl (setGo n (addG (nGones n) g)):=setGo_nr h (fun x hx=>by
  rcases addG_mem hx with h2|h2
  ·exact h.gn x h2
  ·rw [h2];exact hg)
 unfold gonesN
 dsimp only
 cases ht:(gathTR (nSet n) (addG (nGones n) g) g.1).2.1.1 with
 |false=>exact h1
 |true =>
  obtain ⟨_,e2,e⟩:=gath_none ht
  rw [e] at e2 ⊢
  exact tcN_nr h1 e2 hg
theorem gone_nr {R:Int} {bl:List DBk} {n:DNd} {g:D84} {q:DQc} (hb:BR R bl) (h:NR R bl n) (hV:NW n) (hE:n.2.1<890) (hR0:0≤R) (hi:QIn q) (hg:g.1≤R) (hq:q.1≤R):NR R bl (hearGoneN n g q):=by
 unfold hearGoneN
 cases hc:(inB (nSet n) g.2.2.1&&qcB (nSet n) q) with
 |false=>exact h
 |true =>
  simp only [Bool.and_eq_true] at hc
  have h1:=learn_nr hb h hV hE hR0 hi hc.2 hq
  cases iEq (learnN n q).2.1 n.2.1 with
  |false=>exact h1
  |true=>exact gonesN_nr h1 hg
theorem prop_nr {R:Int} {bl:List DBk} {n:DNd} {b:DBk} (hb:BR R bl) (h:NR R bl n) (hV:NW n) (hE:n.2.1<890) (hR0:0≤R) (hbm:b∈bl) (hbo:e71.Ok b) (hbL:BlockL b):NR R bl (propN n b).1∧∀m∈(propN n b).2.1,MR R bl m:=by
 have h1:=take_nr hb h hV hE hR0 hbm hbo hbL
 obtain ⟨k1,k2⟩:=take_nw hV hbo hbL hE
 have hB:=blkF (hb.blk b hbm)
 have hbR:=hb.rd b hbm
 unfold propN
 cases hp:propB n b with
 |false=>exact ⟨h1,fun m hm=>by cases hm⟩
 |true =>
  have hF:=propF hp
  have he:=hF.ep
  have hV2:=setVo_nw k1 hbo.2.2.1
  have h2:NR R bl (setVo (takeN n b) b.2.2.1):=setVo_nr h1 (by have:=hB.rd.1;omega) (Int.le_of_eq hF.rd)
  refine ⟨vote_nr hb h2 hV2 (by show (takeN n b).2.1<890;omega) hR0 ⟨hbo.2.2.1,hbo.1,k1.v.h.ok.1,trivial⟩ hbR,toAll_mr fun v hv=>⟨msg_vote ((set_names h1.set).1 v hv).1 ⟨k1.e0,by omega⟩ hB.rd hB.id h1.nm,(fun x hx=>by cases hx),hbR,hR0,hR0,hR0⟩⟩
theorem share_nr {R:Int} {bl:List DBk} {n:DNd} {m:DMs} (hb:BR R bl) (h:NR R bl n) (hV:NW n) (hE:n.2.1<890) (hR0:0≤R) (hm:HIn m) (hr:MR R bl m) (he:m.2.2.1=n.2.1):NR R bl (shareN n m):=by
 obtain ⟨⟨a1,a2⟩,⟨b1,b2⟩,_⟩:=share_nw hV hm.ok hm.l he hE
 have key:∀(bs:List DBk) (s:DNd),(∀b∈bs,b∈bl∧e71.Ok b∧BlockL b)→NW s→AdvE n s→NR R bl s→NR R bl (bs.foldl (shTake m.2.2.1) s):=by
  intro bs
  induction bs with
  |nil=>intro s _ _ _ hs;exact hs
  |cons b r ih =>
   intro s hbs h1 h2 hs
   rw [List.foldl_cons]
   have hbb:=hbs b (by simp)
   have key2:NW (shTake m.2.2.1 s b)∧AdvE n (shTake m.2.2.1 s b)∧NR R bl (shTake m.2.2.1 s b):=by
    unfold shTake
    cases hc:iEq s.2.1 m.2.2.1 with
    |false=>exact ⟨h1,h2,hs⟩
    |true =>
     have hc:=iEq_iff.1 hc
     obtain ⟨k1,k2⟩:=take_nw h1 hbb.2.1 hbb.2.2 (by omega)
     exact ⟨k1,h2.trans k2 (by omega),take_nr hb hs h1 (by omega) hR0 hbb.1 hbb.2.1 hbb.2.2⟩
   exact ih _ (fun c hc=>hbs c (by simp [hc])) key2.1 key2.2.1 key2.2.2
 have h1:NR R bl (shBs n m):=key (mBs m) n (fun b hbm=>⟨hr.bs b hbm,hm.ok.blk hm.l b hbm⟩) hV (AdvE.refl n) h
 have h2:NR R bl (shQ n m):=by
  unfold shQ
  cases hc:(iEq (shBs n m).2.1 m.2.2.1&&qcB (nSet (shBs n m)) (mQ m)) with
  |false=>exact h1
  |true =>
   simp only [Bool.and_eq_true] at hc
   have hce:=iEq_iff.1 hc.1
   exact learn_nr hb h1 a1 (by omega) hR0 (hm.ok.qin hm.l) hc.2 hr.q
 unfold shareN
 cases hc:(iEq (shQ n m).2.1 m.2.2.1&&tcB (nSet (shQ n m)) (mT m)) with
 |false=>exact h2
 |true =>
  simp only [Bool.and_eq_true] at hc
  exact tcN_nr h2 hc.2 hr.t
theorem hear_nr {R:Int} {bl:List DBk} {n:DNd} {m:DMs} (hb:BR R bl) (h:NR R bl n) (hV:NW n) (hE:n.2.1<890) (hR0:0≤R) (hm:HIn m) (hr:MR R bl m) (he:m.2.2.1=n.2.1):NR R bl (hearN n m).1∧∀x∈(hearN n m).2.1,MR R bl x:=by
 unfold hearN
 cases h1:iEq m.1 1 with
 |true =>
  have hp:=hm.pr (iEq_iff.1 h1)
  cases hbm:mBs m with
  |nil=>exact absurd hbm hp
  |cons b r =>
   have hbb:=hm.ok.blk hm.l b (by rw [hbm];simp)
   exact prop_nr hb h hV hE hR0 (hr.bs b (by rw [hbm];simp)) hbb.1 hbb.2
 |false =>
  cases iEq m.1 2 with
  |true=>exact ⟨vote_nr hb h hV hE hR0 hm.ok.vo hr.v,fun x hx=>by cases hx⟩
  |false =>
   cases iEq m.1 3 with
   |true=>exact ⟨gone_nr hb h hV hE hR0 (hm.ok.qin hm.l) hr.g hr.q,fun x hx=>by cases hx⟩
   |false=>exact ⟨share_nr hb h hV hE hR0 hm hr he,fun x hx=>by cases hx⟩
theorem leave_nr {R:Int} {bl:List DBk} {n:DNd} (hb:BR R bl) (h:NR R bl n) (hV:NW n) (hE:n.2.1<890) (hR0:0≤R) (hR1:R≤9990):NR (R+1) bl (leaveN n).1∧∀x∈(leaveN n).2.1,MR (R+1) bl x:=by
 have hb':BR (R+1) bl:=⟨hb.ids,hb.blk,fun b hm=>by have:=hb.rd b hm;omega⟩
 have h':=h.mono (R':=R+1) (by omega) (fun b hb=>hb) (Nat.le_refl bl.length)
 have hrd:=h.rd
 unfold leaveN
 cases (inB (nSet n) n.1&& !iLt (nRound n) (nVoted n)) with
 |false=>exact ⟨h',fun x hx=>by cases hx⟩
 |true =>
  have h2:NR (R+1) bl (setVo n (nRound n)):=setVo_nr h' (by omega) (Int.le_refl _)
  have hhr:=h.hr
  have hq0:=qcB_rd h.hq
  refine ⟨gone_nr hb' h2 (setVo_nw hV hV.v.h.round) hE (by omega) (hV.v.h.ok.qin hV.v.h.l) hrd.2 (by omega),toAll_mr fun v hv=>⟨msg_gone ((set_names h.set).1 v hv).1 ⟨hV.e0,by omega⟩ ⟨hrd.1,by omega⟩ ⟨hq0.1,hhr⟩ (qcB_qcF h.hq) h.nm,(fun x hx=>by cases hx),by show (0:Int)≤R+1;omega,hrd.2,by show (nHigh n).1≤R+1;omega,by show (0:Int)≤R+1;omega⟩⟩
theorem lead_nr {R:Int} {bl:List DBk} {n:DNd} (hb:BR R bl) (h:NR R bl n) (hV:NW n) (hE:n.2.1<890) (hR0:0≤R) (hlen:bl.length≤1000) :
  BR (R+1) (bl++(leadN n (bl.length:Int)).2.1)∧NR (R+1) (bl++(leadN n (bl.length:Int)).2.1) (leadN n (bl.length:Int)).1∧∀x∈(leadN n (bl.length:Int)).2.2.1,MR (R+1) (bl++(leadN n (bl.length:Int)).2.1) x:=by
 have hid:=len_wf (n:=bl.length) (by omega)
 obtain ⟨m1,m2⟩:=makeN_ok hV.v.h hid
 unfold leadN
 cases hc:leadB n (bl.length:Int) with
 |false =>
  simp only [cond_false,List.append_nil]
  exact ⟨⟨hb.ids,hb.blk,fun b hm=>by have:=hb.rd b hm;omega⟩,h.mono (by omega) (fun b hb=>hb) (Nat.le_refl _),fun x hx=>by cases hx⟩
 |true =>
  simp only [cond_true]
  have hB:blockB (makeN n (bl.length:Int))=true:=by
   unfold leadB at hc
   simp only [Bool.and_eq_true] at hc
   exact hc.2.2.2.1
  have hrd:=h.rd
  have hb':BR (R+1) (bl++ [makeN n (bl.length:Int)]):=by
   refine ⟨fun i hi=>?_,fun b hm=>?_,fun b hm=>?_⟩
   ·rcases Nat.lt_or_ge i bl.length with h1|h1
    ·rw [List.getElem_append_left h1];exact hb.ids i h1
    ·have:i=bl.length:=by rw [List.length_append] at hi;simp at hi;omega
     subst this
     rw [List.getElem_append_right (Nat.le_refl _)]
     simp only [Nat.sub_self,List.getElem_cons_zero]
     rfl
   ·rcases List.mem_append.1 hm with h1|h1
    ·exact hb.blk b h1
    ·rw [List.mem_singleton.1 h1];exact hB
   ·rcases List.mem_append.1 hm with h1|h1
    ·have:=hb.rd b h1;omega
    ·rw [List.mem_singleton.1 h1];exact hrd.2
  have h1:NR (R+1) (bl++ [makeN n (bl.length:Int)]) n:=h.mono (by omega) (fun b hb=>List.mem_append_left _ hb) (by rw [List.length_append];omega)
  have h2:=setLed_nr h1 (v:=nRound n) (by omega) (Int.le_refl _)
  obtain ⟨p1,p2⟩:=prop_nr hb' h2 (setLed_nw hV hV.v.h.round) hE (by omega) (List.mem_append_right _ (List.mem_cons_self ..)) m1 m2
  refine ⟨hb',p1,fun x hx=>?_⟩
  rcases List.mem_append.1 hx with hx|hx
  ·refine toAll_mr (m:=propMsg (makeN n (bl.length:Int)) n.2.1) (fun v hv=>?_) x hx
   exact ⟨msg_prop ((set_names h.set).1 v hv).1 ⟨hV.e0,by omega⟩ hB rfl,fun y hy=>by rw [List.mem_singleton.1 hy];exact List.mem_append_right _ (List.mem_cons_self ..),by show (0:Int)≤R+1;omega,by show (0:Int)≤R+1;omega,by show (0:Int)≤R+1;omega,by show (0:Int)≤R+1;omega⟩
  ·exact p2 x hx
theorem shareM_mr {R:Int} {bl:List DBk} {n:DNd} {ep:Int} {to:ByteArray} (hb:BR R bl) (h:NR R bl n) (hV:NW n) (hE:n.2.1<890) (hR0:0≤R) (hto:nameB to=true) (hok:(shareM n ep to).2.1.1=true):MR R bl (shareM n ep to).1:=by
 have hrd:=h.rd
 have hhr:=h.hr
 have htr:=h.tr
 have h0:=hV.e0
 unfold shareM at hok ⊢
 cases he:iEq ep n.2.1 with
 |true =>
  have he:=iEq_iff.1 he
  exact ⟨msg_share hto (by omega) (fun b hm=>⟨hb.blk b (h.tre b hm).1,by rw [he];exact (h.tre b hm).2⟩) (treeF h.tree).len (qcB_qcF h.hq) (tcB_tcF h.tq),fun b hm=>(h.tre b hm).1,hR0,hR0,by show (nHigh n).1≤R;omega,by show (nTc n).1≤R;omega⟩
 |false =>
  rw [he] at hok
  cases hf:(nPast n).find? (fun p=>iEq p.1 ep) with
  |none=>rw [hf] at hok;cases hok
  |some p =>
   have hm:=List.mem_of_find?_eq_some hf
   have hpe:=List.find?_some hf
   have hpe:p.1=ep:=iEq_iff.1 hpe
   obtain ⟨k,hk,hkp⟩:=List.getElem_of_mem hm
   have hP:=h.past k p (by rw [List.getElem?_eq_getElem hk,hkp])
   have hpa:=hV.pa
   simp only [cond_false]
   have hke:p.1=(k:Int):=hP.ep
   exact ⟨msg_share hto (by omega) (fun b hm=>⟨hb.blk b (hP.bs b hm).1,by rw [←hpe];exact (hP.bs b hm).2⟩) hP.le hP.q rfl,fun b hm=>(hP.bs b hm).1,hR0,hR0,hP.r,hR0⟩
structure NmR (foul:List D9) (nodes:List DNd):Prop where
 nf:∀n∈nodes,hasB foul n.1=false
 up:∀(i j:Nat) (hi:i<nodes.length) (hj:j<nodes.length),i<j→sLt nodes[i].1 nodes[j].1=true
structure WR (R:Int) (w:DWo):Prop where
 r0:0≤R
 b0:w.1=0
 fo:namesB (wFoul w)=true
 bl:BR R (wBlocks w)
 nd:∀n∈wNodes w,NR R (wBlocks w) n
 nm:NmR (wFoul w) (wNodes w)
 net:∀m∈wNet w,MR R (wBlocks w) m
theorem NmR.set {foul:List D9} {nodes:List DNd} (h:NmR foul nodes) {j:Nat} (hj:j<nodes.length) {n:DNd} (e:n.1=nodes[j].1):NmR foul (nodes.set j n):=by
 have key:∀(i:Nat) (hi:i<(nodes.set j n).length) (hi':i<nodes.length),(nodes.set j n)[i].1=nodes[i].1:=fun i hi hi'=>by
  rw [List.getElem_set]
  split
  ·next h=>subst h;exact e
  ·rfl
 refine ⟨fun x hx=>?_,fun i k hi hk hik=>?_⟩
 ·rcases List.mem_or_eq_of_mem_set hx with h1|rfl
  ·exact h.nf x h1
  ·rw [e];exact h.nf _ (List.getElem_mem hj)
 ·have hi':i<nodes.length:=by rw [List.length_set] at hi;exact hi
  have hk':k<nodes.length:=by rw [List.length_set] at hk;exact hk
  rw [key i hi hi',key k hk hk']
  exact h.up i k hi' hk' hik
theorem setNode_wr {R:Int} {w:DWo} (h:WR R w) {j:Nat} (hj:j<(wNodes w).length) {n:DNd} (e:n.1=(wNodes w)[j].1) (hn:NR R (wBlocks w) n):WR R (setNode w j n) :=
 ⟨h.r0,h.b0,h.fo,h.bl,fun x hx=>by
  rcases List.mem_or_eq_of_mem_set hx with h1|rfl
  ·exact h.nd x h1
  ·exact hn,h.nm.set hj e,h.net⟩
theorem saidW_wr {R:Int} {w:DWo} (h:WR R w) {ms:List DMs} {sg:List DSg} (hm:∀m∈ms,MR R (wBlocks w) m):WR R (saidW w ms sg) :=
 ⟨h.r0,h.b0,h.fo,h.bl,h.nd,h.nm,fun m hx=>by
  rcases addNets_mem hx with h1|h1
  ·exact h.net m h1
  ·exact hm m h1.1⟩
theorem WR.up {R R':Int} {w:DWo} (h:WR R w) (hR:R≤R'):WR R' w:=⟨by have:=h.r0;omega,h.b0,h.fo,⟨h.bl.ids,h.bl.blk,fun b hb=>Int.le_trans (h.bl.rd b hb) hR⟩,fun n hn=>(h.nd n hn).mono hR (fun b hb=>hb) (Nat.le_refl _),h.nm,fun m hm=>(h.net m hm).mono hR (fun b hb=>hb)⟩
theorem dropW_wr {R:Int} {w:DWo} (h:WR R w) (k:Nat):WR R (dropW w k):=⟨h.r0,h.b0,h.fo,h.bl,h.nd,h.nm,fun m hm=>h.net m (dropW_mem hm)⟩
theorem hearW_wr {E S:Nat} {R:Int} {w:DWo} {m:DMs} (h:WI E S w) (hE:E<890) (hr:WR R w) (hm:HIn m) (hmr:MR R (wBlocks w) m) (hn:hasN (wNodes w) m.2.1=true):WR R (hearW w m):=by
 obtain ⟨j,hj,_,h2,h3⟩:=hearW_at hn
 obtain ⟨hV,he⟩:=h.nd _ (List.getElem_mem hj)
 rw [h3]
 cases hc:iEq (wNodes w)[j].2.1 m.2.2.1 with
 |false=>exact hr
 |true =>
  have hce:=iEq_iff.1 hc
  obtain ⟨k1,k2,k3,k4⟩:=hear_nw hV hm hce.symm (by omega)
  obtain ⟨n1,n2⟩:=hear_nr hr.bl (hr.nd _ (List.getElem_mem hj)) hV (by omega) hr.r0 hm hmr hce.symm
  exact saidW_wr (setNode_wr hr hj k2 n1) n2
theorem epoch_le {R:Int} {bl:List DBk} {n:DNd} (hb:BR R bl) (h:NR R bl n) (hV:NW n):n.2.1≤(bl.length:Int):=by
 have hpa:=hV.pa
 let f:Nat→Int:=fun k=>match (nPast n)[k]? with
  |some p=>match pBs p with
   |b::_=>b.1
   | []=>0
  |none=>0
 have hf:∀k,k<(nPast n).length→∃b∈bl,f k=b.1∧b.2.1=(k:Int):=fun k hk=>by
  have hP:=h.past k (nPast n)[k] (List.getElem?_eq_getElem hk)
  cases hbs:pBs (nPast n)[k] with
  |nil=>exact absurd hbs hP.ne
  |cons b r =>
   have hbm:=hP.bs b (by rw [hbs];simp)
   refine ⟨b,hbm.1,?_,by rw [hbm.2,hP.ep]⟩
   show (match (nPast n)[k]? with|some p=>(match pBs p with|b::_=>b.1| []=>0)|none=>0)=b.1
   rw [List.getElem?_eq_getElem hk]
   dsimp only
   rw [hbs]
 have hnd:((List.range (nPast n).length).map f).Nodup:=by
  rw [List.nodup_iff_pairwise_ne,List.pairwise_map]
  refine List.Pairwise.imp_of_mem ?_ (List.nodup_iff_pairwise_ne.1 (List.nodup_range))
  intro a c ha hc hac e
  rw [List.mem_range] at ha hc
  obtain ⟨x,hx,e1,e2⟩:=hf a ha
  obtain ⟨y,hy,e3,e4⟩:=hf c hc
  have:x=y:=hb.uniq hx hy (by rw [←e1,←e3,e])
  subst this
  exact hac (by omega)
 have:=nodup_len bl.length _ hnd (fun x hx=>by
  obtain ⟨k,hk,rfl⟩:=List.mem_map.1 hx
  rw [List.mem_range] at hk
  obtain ⟨y,hy,e3,_⟩:=hf k hk
  rw [e3]
  exact hb.lt hy)
 rw [List.length_map,List.length_range] at this
 omega
theorem WI.low {E S:Nat} {R:Int} {w:DWo} (h:WI E S w) (hr:WR R w) {E':Nat} (hE:(wBlocks w).length≤E'):WI E' S w :=
 ⟨h.acc,h.accL,h.led,h.fo,h.foL,h.nl,fun n hn=>⟨(h.nd n hn).1,by have:=epoch_le hr.bl (hr.nd n hn) (h.nd n hn).1;omega⟩,h.bo,h.bl,h.bL,h.so,h.sl,h.nt,h.nm⟩
theorem sameBlk_iff {a b:DBk}:sameBlkB a b=true↔a=b:=by
 have hs:∀x y:D9,sEq x.1 y.1=true↔x=y:=fun x y=>by
  rw [sEq_iff]
  constructor
  ·intro h;exact Prod.ext h rfl
  ·rintro rfl;rfl
 have hi:∀x y:D3,iEq x.1 y.1=true↔x=y:=fun x y=>by
  rw [iEq_iff]
  constructor
  ·intro h;exact Prod.ext h rfl
  ·rintro rfl;rfl
 have hv:∀x y:D97,valEq x y=true↔x=y:=fun x y=>by
  obtain ⟨x1,x2,u⟩:=x
  obtain ⟨y1,y2,v⟩:=y
  unfold valEq
  simp only [Bool.and_eq_true,sEq_iff,iEq_iff,Prod.mk.injEq,and_true]
 have ht:∀x y:D110,txEq x y=true↔x=y:=fun x y=>by
  obtain ⟨x1,x2,x3,x4,x5,u⟩:=x
  obtain ⟨y1,y2,y3,y4,y5,v⟩:=y
  unfold txEq
  simp only [Bool.and_eq_true,sEq_iff,iEq_iff,Prod.mk.injEq,and_true]
 obtain ⟨a1,a2,a3,a4,a5,a6,a7,a8,a9,a10,a11,a12,a13,a14,u⟩:=a
 obtain ⟨b1,b2,b3,b4,b5,b6,b7,b8,b9,b10,b11,b12,b13,b14,v⟩:=b
 unfold sameBlkB sameQcB sameTcB
 simp only [Bool.and_eq_true,iEq_iff,sEq_iff,bQc,bTc,sameT_iff hs,sameT_iff hi,sameT_iff hv,sameT_iff ht]
 have hbo:∀x y:Bool,bEq x y=true↔x=y:=fun x y=>by cases x<;>cases y<;>simp [bEq]
 simp only [hbo,Prod.mk.injEq]
 constructor
 ·rintro ⟨h1,h2,h3,h4,⟨h5,h6,h7⟩,⟨h8,h9,h10⟩,h11,h12,h13,h14⟩
  exact ⟨h1,h2,h3,h4,h5,h6,h7,h8,h9,h10,h11,h12,h13,h14,trivial⟩
 ·rintro ⟨h1,h2,h3,h4,h5,h6,h7,h8,h9,h10,h11,h12,h13,h14,_⟩
  exact ⟨h1,h2,h3,h4,⟨h5,h6,h7⟩,⟨h8,h9,h10⟩,h11,h12,h13,h14⟩
theorem real_mem {bl:List DBk} {b:DBk} (h:realB bl b=true):b∈bl:=by
 unfold realB at h
 unfold getI at h
 cases hc:(if 0≤b.1 then bl[b.1.toNat]? else none) with
 |none=>simp only [hc] at h;cases h
 |some z =>
  simp only [hc] at h
  rw [←sameBlk_iff.1 h]
  split at hc
  ·exact List.mem_of_getElem? hc
  ·cases hc
theorem kindF {m:DMs} (h:MsgF m) (h4:m.1≠4):(m.1=1∨m.1=2∨m.1=3)∧(mT m).1=0∧((mQ m).1=0∨(mQ m).1<(mGo m).1):=by
 have hk:=h.kd
 unfold kindB at hk
 cases h1:iEq m.1 1 with
 |true =>
  rw [h1] at hk
  simp only [cond_true,Bool.and_eq_true] at hk
  exact ⟨.inl (iEq_iff.1 h1),(none_facts hk.2.2.2.2).1,.inl (root_facts hk.2.2.2.1).1⟩
 |false =>
  rw [h1] at hk
  cases h2:iEq m.1 2 with
  |true =>
   rw [h2] at hk
   simp only [cond_true,cond_false,Bool.and_eq_true] at hk
   exact ⟨.inr (.inl (iEq_iff.1 h2)),(none_facts hk.2.2.2.2).1,.inl (root_facts hk.2.2.2.1).1⟩
  |false =>
   rw [h2] at hk
   cases h3:iEq m.1 3 with
   |true =>
    rw [h3] at hk
    simp only [cond_true,cond_false,Bool.and_eq_true] at hk
    refine ⟨.inr (.inr (iEq_iff.1 h3)),(none_facts hk.2.2.2).1,.inr ?_⟩
    have hg:=hk.2.2.1
    unfold mGF at hg
    simp only [Bool.and_eq_true] at hg
    have g1:=inR_iff.1 hg.1
    have e:iSub .i64 m.2.2.2.2.2.2.2.1 1=m.2.2.2.2.2.2.2.1 - 1:=iSub_small (by omega) (by omega)
    rw [e] at hg
    have g2:=inR_iff.1 hg.2.1
    have g3:=iEq_iff.1 hg.2.2.1
    show m.2.2.2.2.2.2.2.2.2.2.1<m.2.2.2.2.2.2.2.1
    omega
   |false =>
    rw [h3] at hk
    have e4:iEq m.1 4=false:=iEq_no.2 h4
    rw [e4] at hk
    cases hk
theorem set_names_eq {nodes:List DNd} {j:Nat} {n0 n:DNd} (h:nodes[j]?=some n0) (e:n.1=n0.1):(nodes.set j n).map (fun n=>n.1)=nodes.map (fun n=>n.1):=by
 rw [List.map_set,e]
 apply List.ext_getElem?
 intro i
 rw [List.getElem?_set]
 split
 ·next hji =>
  subst hji
  split
  ·rw [List.getElem?_map,h];rfl
  ·next hlt=>rw [List.getElem?_eq_none (by omega)]
 ·rfl
theorem forge_wr {R:Int} {w:DWo} (hr:WR R w) {m:DMs} {nb:List DBk} (hc:ForgeC w m nb) (hf:FR w m):WR (R+14) (forgeW w m nb):=by
 have hF:=msgF hc.ok
 obtain ⟨h4,n,hn,f1,f2,f3⟩:=hf
 obtain ⟨k1,k2,k3⟩:=kindF hF h4
 have hN:=hr.nd n hn
 have h0:=hr.r0
 have hrd:=hN.rd
 have hsl:=(set_names hN.set).2
 have hv:(mVo m).1≤R+1:=by
  rcases f1 with h|h|⟨b,hb,h⟩
  ·omega
  ·omega
  ·have:=hr.bl.rd b (hN.tre b hb).1;omega
 have hg:(mGo m).1≤R+1:=by rcases f2 with h|h<;>omega
 have hq:(mQ m).1≤R+1:=by rcases k3 with h|h<;>omega
 have hbs:∀b∈mBs m,b∈wBlocks w++nb:=fun b hb=>by
  rcases hc.nw with e|⟨c,e1,e2,_⟩
  ·rw [e,List.append_nil];exact real_mem (hc.real e b hb).2
  ·rw [e1,List.mem_singleton] at hb
   rw [e2,hb];exact List.mem_append_right _ (List.mem_cons_self ..)
 have hBR:BR (R+14) (wBlocks w++nb):=by
  rcases hc.nw with e|⟨c,e1,e2,e3,_⟩
  ·rw [e,List.append_nil]
   exact ⟨hr.bl.ids,hr.bl.blk,fun b hb=>by have:=hr.bl.rd b hb;omega⟩
  ·rw [e2]
   have hcm:c∈mBs m:=by rw [e1];simp
   refine ⟨fun i hi=>?_,fun b hb=>?_,fun b hb=>?_⟩
   ·rcases Nat.lt_or_ge i (wBlocks w).length with h1|h1
    ·rw [List.getElem_append_left h1];exact hr.bl.ids i h1
    ·have:i=(wBlocks w).length:=by rw [List.length_append] at hi;simp at hi;omega
     subst this
     rw [List.getElem_append_right (Nat.le_refl _)]
     simp only [Nat.sub_self,List.getElem_cons_zero]
     exact e3
   ·rcases List.mem_append.1 hb with h1|h1
    ·exact hr.bl.blk b h1
    ·rw [List.mem_singleton.1 h1];exact (hF.bs c hcm).1
   ·rcases List.mem_append.1 hb with h1|h1
    ·have:=hr.bl.rd b h1;omega
    ·rw [List.mem_singleton.1 h1];have:=f3 c hcm;omega
 have hsub:∀b∈wBlocks w,b∈wBlocks w++nb:=fun b hb=>List.mem_append_left _ hb
 refine saidW_wr (w:=mkW w (wNodes w) (wBlocks w++nb) (wSig w) (wNet w)) ⟨by omega,hr.b0,hr.fo,hBR,fun x hx=>(hr.nd x hx).mono (by omega) hsub (by rw [List.length_append];omega),hr.nm,fun x hx=>(hr.net x hx).mono (by omega) hsub⟩ (fun x hx=>?_)
 rw [List.mem_singleton.1 hx]
 exact ⟨hc.ok,hbs,by omega,by omega,by omega,by omega⟩
theorem Stp.wr {E S:Nat} {R:Int} {w w':DWo} (s:Stp w w') (h:WI E S w) (hE:E<890) (hr:WR R w) (hR:R≤9970):WR (R+14) w':=by
 have h0:=hr.r0
 cases s with
 |same=>exact hr.up (by omega)
 |dup m hm hl =>
  refine WR.up (R:=R) ⟨hr.r0,hr.b0,hr.fo,hr.bl,hr.nd,hr.nm,fun x hx=>?_⟩ (by omega)
  rcases List.mem_append.1 hx with h1|h1
  ·exact hr.net x h1
  ·rw [List.mem_singleton.1 h1];exact hr.net m hm
 |drop k=>exact (dropW_wr hr k).up (by omega)
 |deliver k hk =>
  have hm:=h.nm _ (List.getElem_mem hk)
  exact (hearW_wr (dropW_wi h k) hE (dropW_wr hr k) hm.1 (hr.net _ (List.getElem_mem hk)) hm.2).up (by omega)
 |lead j hj hb =>
  obtain ⟨hV,he⟩:=h.nd _ (List.getElem_mem hj)
  obtain ⟨l1,l2,l3⟩:=lead_nr hr.bl (hr.nd _ (List.getElem_mem hj)) hV (by omega) h0 h.bl
  have hsub:∀b∈wBlocks w,b∈wBlocks w++(leadN (wNodes w)[j] ((wBlocks w).length:Int)).2.1:=fun b hb=>List.mem_append_left _ hb
  have hid:=len_wf (n:=(wBlocks w).length) (by omega)
  have hnm:=(lead_nw hV hid (by omega)).2.1
  have hset:=hr.nm.set hj hnm
  refine WR.up (R:=R+1) ?_ (by omega)
  refine saidW_wr (w:=mkW w ((wNodes w).set j (leadN (wNodes w)[j] ((wBlocks w).length:Int)).1) (wBlocks w++(leadN (wNodes w)[j] ((wBlocks w).length:Int)).2.1) (wSig w) (wNet w)) ⟨by omega,hr.b0,hr.fo,l1,fun x hx=>?_,hset,fun x hx=>(hr.net x hx).mono (by omega) hsub⟩ l3
  rcases List.mem_or_eq_of_mem_set hx with h1|rfl
  ·exact (hr.nd x h1).mono (by omega) hsub (by rw [List.length_append];omega)
  ·exact l2
 |leave j hj =>
  obtain ⟨hV,he⟩:=h.nd _ (List.getElem_mem hj)
  obtain ⟨l1,l2⟩:=leave_nr hr.bl (hr.nd _ (List.getElem_mem hj)) hV (by omega) h0 (by omega)
  have hnm:=(leave_nw hV (by omega)).2.1
  exact (saidW_wr (setNode_wr (hr.up (R':=R+1) (by omega)) hj hnm l1) l2).up (by omega)
 |share j hj k hk =>
  obtain ⟨hV,he⟩:=h.nd _ (List.getElem_mem hj)
  unfold shareW
  cases hc:(shareM (wNodes w)[j] (wNodes w)[k].2.1 (wNodes w)[k].1).2.1.1 with
  |false=>exact hr.up (by omega)
  |true =>
   refine WR.up (R:=R) (saidW_wr hr fun m hm=>?_) (by omega)
   rw [List.mem_singleton.1 hm]
   exact shareM_mr hr.bl (hr.nd _ (List.getElem_mem hj)) hV (by omega) h0 (hr.nd _ (List.getElem_mem hk)).nm hc
 |submit j hj q hq _ _ =>
  have hn:=hr.nd _ (List.getElem_mem hj)
  refine WR.up (R:=R) (setNode_wr (n:=setPl (wNodes w)[j] q) hr hj rfl (setPl_nr hn ?_)) (by omega)
  rcases hq with rfl|⟨_,h1⟩
  ·exact hn.pool
  ·exact h1
 |reboot j hj =>
  have hn:=hr.nd _ (List.getElem_mem hj)
  refine WR.up (R:=R) (setNode_wr (n:=rebN (wNodes w)[j]) hr hj (rebN_nm _) ?_) (by omega)
  unfold rebN
  exact setPl_nr (setGo_nr (setVt_nr hn (fun v hv=>by cases hv)) (fun v hv=>by cases hv)) rfl
 |forge m nb hc hf=>exact forge_wr hr hc hf
 |learn j hj k hk hok =>
  obtain ⟨hV,he⟩:=h.nd _ (List.getElem_mem hj)
  obtain ⟨hV2,_⟩:=h.nd _ (List.getElem_mem hk)
  have hto:=shareM_to _ _ _ hok
  exact (hearW_wr h hE hr (share_out hV hV2.v.h.ok.2.1 hV2.v.h.ok.1 hok) (shareM_mr hr.bl (hr.nd _ (List.getElem_mem hj)) hV (by omega) h0 (hr.nd _ (List.getElem_mem hk)).nm hok) (by rw [hto.1];exact hasN_at hk)).up (by omega)
theorem hearW_grow (w:DWo) (m:DMs) (hnm:∀n∈wNodes w,(hearN n m).1.1=n.1∨n.2.1≠m.2.2.1):wBlocks (hearW w m)=wBlocks w∧(wNodes (hearW w m)).map (fun n=>n.1)=(wNodes w).map (fun n=>n.1)∧(hearW w m).1=w.1∧(hearW w m).2.1=w.2.1∧wFoul (hearW w m)=wFoul w:=by
 unfold hearW
 cases hc:(wNodes w)[(atN (wNodes w) m.2.1).toNat]? with
 |none=>exact ⟨rfl,rfl,rfl,rfl,rfl⟩
 |some n =>
  dsimp only
  cases he:iEq n.2.1 m.2.2.1 with
  |false=>exact ⟨rfl,rfl,rfl,rfl,rfl⟩
  |true =>
   refine ⟨rfl,?_,rfl,rfl,rfl⟩
   have hmem:=List.mem_of_getElem? hc
   have hn:(hearN n m).1.1=n.1:=by
    rcases hnm n hmem with h|h
    ·exact h
    ·exact absurd (iEq_iff.1 he) h
   show ((wNodes w).set _ (hearN n m).1).map (fun n=>n.1)=_
   exact set_names_eq hc hn
theorem Stp.grow {E S:Nat} {w w':DWo} (s:Stp w w') (h:WI E S w) (hE:E<890):(∃nb,wBlocks w'=wBlocks w++nb∧nb.length≤1)∧(wNodes w').map (fun n=>n.1)=(wNodes w).map (fun n=>n.1)∧w'.1=w.1∧w'.2.1=w.2.1∧wFoul w'=wFoul w:=by
 have hear:∀(v:DWo) (m:DMs),WI E S v→HIn m→∀n∈wNodes v,(hearN n m).1.1=n.1∨n.2.1≠m.2.2.1:=fun v m hv hm n hn=>by
  by_cases he:n.2.1=m.2.2.1
  ·obtain ⟨hV,hVe⟩:=hv.nd n hn
   exact .inl (hear_nw hV hm he.symm (by omega)).2.1
  ·exact .inr he
 have hno:∃nb,wBlocks w=wBlocks w++nb∧nb.length≤1:=⟨[],by simp,Nat.zero_le _⟩
 cases s with
 |same=>exact ⟨hno,rfl,rfl,rfl,rfl⟩
 |dup m hm hl=>exact ⟨hno,rfl,rfl,rfl,rfl⟩
 |drop k=>exact ⟨hno,rfl,rfl,rfl,rfl⟩
 |deliver k hk =>
  have hm:=h.nm _ (List.getElem_mem hk)
  obtain ⟨g1,g2⟩:=hearW_grow (dropW w k) (wNet w)[k] (hear (dropW w k) _ (dropW_wi h k) hm.1)
  rw [g1]
  exact ⟨hno,g2⟩
 |lead j hj hb =>
  obtain ⟨hV,he⟩:=h.nd _ (List.getElem_mem hj)
  have hid:=len_wf (n:=(wBlocks w).length) (by omega)
  refine ⟨⟨(leadN (wNodes w)[j] ((wBlocks w).length:Int)).2.1,rfl,?_⟩,set_names_eq (List.getElem?_eq_getElem hj) (lead_nw hV hid (by omega)).2.1,rfl,rfl,rfl⟩
  rcases (lead_out hV hid (by omega)).2.2.2.2 with ⟨e,_⟩|⟨e,_⟩<;>rw [e]<;>simp
 |leave j hj =>
  obtain ⟨hV,he⟩:=h.nd _ (List.getElem_mem hj)
  exact ⟨hno,set_names_eq (List.getElem?_eq_getElem hj) (leave_nw hV (by omega)).2.1,rfl,rfl,rfl⟩
 |share j hj k hk =>
  unfold shareW
  cases (shareM (wNodes w)[j] (wNodes w)[k].2.1 (wNodes w)[k].1).2.1.1<;>exact ⟨hno,rfl,rfl,rfl,rfl⟩
 |submit j hj q _ _ _=>exact ⟨hno,set_names_eq (n:=setPl (wNodes w)[j] q) (List.getElem?_eq_getElem hj) rfl,rfl,rfl,rfl⟩
 |reboot j hj=>exact ⟨hno,set_names_eq (n:=rebN (wNodes w)[j]) (List.getElem?_eq_getElem hj) (rebN_nm _),rfl,rfl,rfl⟩
 |forge m nb hc _ =>
  refine ⟨⟨nb,rfl,?_⟩,rfl,rfl,rfl,rfl⟩
  rcases hc.nw with e|⟨b,_,e,_⟩<;>rw [e]<;>simp
 |learn j hj k hk hok =>
  obtain ⟨hV,he⟩:=h.nd _ (List.getElem_mem hj)
  obtain ⟨hV2,_⟩:=h.nd _ (List.getElem_mem hk)
  obtain ⟨g1,g2⟩:=hearW_grow w (shareM (wNodes w)[j] (wNodes w)[k].2.1 (wNodes w)[k].1).1 (hear w _ h (share_out hV hV2.v.h.ok.2.1 hV2.v.h.ok.1 hok))
  rw [g1]
  exact ⟨hno,g2⟩
structure VStep (n n':DNd) (sg:List DSg):Prop where
 nm:n'.1=n.1
 mon:n.2.1<n'.2.1∨(n'.2.1=n.2.1∧nVoted n≤nVoted n')
 one:sg.length≤1
 who:∀s∈sg,s.2.2.2.2.1=n.1∧s.2.1=n.2.1
 new:∀s∈sg,s.1=1→nVoted n<s.2.2.1∧(n.2.1<n'.2.1∨(n'.2.1=n.2.1∧s.2.2.1≤nVoted n'))
theorem VStep.none {n n':DNd} (h:AdvE n n'):VStep n n' []:=⟨h.a.nm,by
 rcases h.a.ca with ⟨h1,h2,_⟩|h1
 ·exact .inr ⟨h1,Int.le_of_eq h2.symm⟩
 ·exact .inl h1,Nat.zero_le _,fun s hs=>(by cases hs),fun s hs=>(by cases hs)⟩
theorem prop_vs {n:DNd} {b:DBk} (hV:NW n) (hb:e71.Ok b) (hbL:BlockL b) (hE:n.2.1<890):VStep n (propN n b).1 (propN n b).2.2:=by
 obtain ⟨h1,h2⟩:=take_nw hV hb hbL hE
 unfold propN
 cases hp:propB n b with
 |false=>exact VStep.none h2
 |true =>
  have hF:=propF hp
  have he:=hF.ep
  have hvo:nVoted (takeN n b)=nVoted n:=by
   rcases h2.a.ca with ⟨_,e,_⟩|e
   ·exact e
   ·omega
  have hn:=setVo_nw h1 hb.2.2.1
  obtain ⟨k1,k2⟩:=vote_nw (v:=(b.2.2.1,(b.1,((takeN n b).1,())))) hn ⟨hb.2.2.1,hb.1,h1.v.h.ok.1,trivial⟩ (by show (takeN n b).2.1<890;omega)
  have hlt:=hF.vo
  have hca:(voteN (setVo (takeN n b) b.2.2.1) (b.2.2.1,(b.1,((takeN n b).1,())))).2.1=(takeN n b).2.1∧nVoted (voteN (setVo (takeN n b) b.2.2.1) (b.2.2.1,(b.1,((takeN n b).1,()))))=b.2.2.1∨(takeN n b).2.1<(voteN (setVo (takeN n b) b.2.2.1) (b.2.2.1,(b.1,((takeN n b).1,())))).2.1:=by
   rcases k2.a.ca with ⟨e1,e2,_⟩|e
   ·exact .inl ⟨e1,e2⟩
   ·exact .inr e
  simp only [cond_true]
  refine ⟨k2.a.nm.trans h2.a.nm,?_,Nat.le_refl _,fun s hs=>?_,fun s hs _=>?_⟩
  ·rcases hca with ⟨e1,e2⟩|e
   ·exact .inr ⟨e1.trans he,by rw [e2];omega⟩
   ·exact .inl (by omega)
  ·rw [List.mem_singleton.1 hs];exact ⟨h2.a.nm,rfl⟩
  ·rw [List.mem_singleton.1 hs]
   refine ⟨by show nVoted n<b.2.2.1;omega,?_⟩
   rcases hca with ⟨e1,e2⟩|e
   ·exact .inr ⟨e1.trans he,by rw [e2];exact Int.le_refl _⟩
   ·exact .inl (by omega)
theorem hear_vs {n:DNd} {m:DMs} (hV:NW n) (hm:HIn m) (he:m.2.2.1=n.2.1) (hE:n.2.1<890):VStep n (hearN n m).1 (hearN n m).2.2:=by
 unfold hearN
 cases h1:iEq m.1 1 with
 |true =>
  have hp:=hm.pr (iEq_iff.1 h1)
  cases hb:mBs m with
  |nil=>exact absurd hb hp
  |cons b r =>
   have hbb:=hm.ok.blk hm.l b (by rw [hb];simp)
   exact prop_vs hV hbb.1 hbb.2 hE
 |false =>
  cases iEq m.1 2 with
  |true=>exact VStep.none (vote_nw hV hm.ok.vo hE).2
  |false =>
   cases iEq m.1 3 with
   |true=>exact VStep.none (gone_nw hV (hm.ok.qin hm.l) hm.ok.go hE).2
   |false=>exact VStep.none (share_nw hV hm.ok hm.l he hE).2.2.2
theorem leave_vs {n:DNd} (hV:NW n) (hE:n.2.1<890) (hvr:nVoted n≤nRound n):VStep n (leaveN n).1 (leaveN n).2.2:=by
 unfold leaveN
 cases (inB (nSet n) n.1&& !iLt (nRound n) (nVoted n)) with
 |false=>exact VStep.none (AdvE.refl n)
 |true =>
  obtain ⟨k1,k2⟩:=gone_nw (g:=goneOf n) (setVo_nw hV hV.v.h.round) (hV.v.h.ok.qin hV.v.h.l) (gone_ok hV.v.h.ok) hE
  refine ⟨k2.a.nm,?_,Nat.le_refl _,fun s hs=>?_,fun s hs e=>?_⟩
  ·rcases k2.a.ca with ⟨e1,e2,_⟩|e
   ·exact .inr ⟨e1,by
     have e2:nVoted (hearGoneN (setVo n (nRound n)) (goneOf n) (nHigh n))=nRound n:=e2
     show nVoted n≤nVoted (hearGoneN (setVo n (nRound n)) (goneOf n) (nHigh n))
     omega⟩
   ·exact .inl e
  ·rw [List.mem_singleton.1 hs];exact ⟨rfl,rfl⟩
  ·rw [List.mem_singleton.1 hs] at e
   have:(2:Int)=1:=e
   omega
theorem lead_vs {n:DNd} {id:Int} (hV:NW n) (hid:(Lit.int .i64 id).wf=true) (hE:n.2.1<890):VStep n (leadN n id).1 (leadN n id).2.2.2:=by
 obtain ⟨m1,m2⟩:=makeN_ok hV.v.h hid
 unfold leadN
 cases leadB n id with
 |false=>exact VStep.none (AdvE.refl n)
 |true =>
  have h:=prop_vs (setLed_nw hV hV.v.h.round) m1 m2 hE
  exact ⟨h.nm,h.mon,h.one,h.who,h.new⟩
structure OneI (w:DWo):Prop where
 who:∀s∈wSig w,∃n∈wNodes w,s.2.2.2.2.1=n.1
 old:∀s∈wSig w,s.1=1→∀n∈wNodes w,s.2.2.2.2.1=n.1→s.2.1<n.2.1∨(s.2.1=n.2.1∧s.2.2.1≤nVoted n)
 one:∀s∈wSig w,∀t∈wSig w,s.1=1→t.1=1→s.2.1=t.2.1→s.2.2.1=t.2.2.1→s.2.2.2.2.1=t.2.2.2.2.1→s.2.2.2.1=t.2.2.2.1
theorem NmR.uniq {foul:List D9} {nodes:List DNd} (h:NmR foul nodes) {i j:Nat} (hi:i<nodes.length) (hj:j<nodes.length) (e:nodes[i].1=nodes[j].1):i=j:=by
 rcases Nat.lt_trichotomy i j with h1|h1|h1
 ·have:=h.up i j hi hj h1
  rw [e,sLt_eq (sEq_self _)] at this
  cases this
 ·exact h1
 ·have:=h.up j i hj hi h1
  rw [e,sLt_eq (sEq_self _)] at this
  cases this
theorem step_one {w w':DWo} {foul:List D9} (h:OneI w) (hn:NmR foul (wNodes w)) {j:Nat} (hj:j<(wNodes w).length) {n':DNd} {sg:List DSg} (hs:VStep (wNodes w)[j] n' sg) (hnodes:wNodes w'=(wNodes w).set j n') (hsig:∀s,s∈wSig w'↔s∈wSig w∨s∈sg):OneI w':=by
 have hmem:∀x∈wNodes w',x=n'∨(x∈wNodes w∧x.1≠n'.1):=fun x hx=>by
  rw [hnodes] at hx
  obtain ⟨i,hi,rfl⟩:=List.getElem_of_mem hx
  rw [List.getElem_set]
  split
  ·exact .inl rfl
  ·next hne =>
   have hi':i<(wNodes w).length:=by rw [List.length_set] at hi;exact hi
   refine .inr ⟨List.getElem_mem hi',fun e=>hne ?_⟩
   rw [hs.nm] at e
   exact (hn.uniq hi' hj e).symm
 have hin:n'∈wNodes w':=by
  rw [hnodes,List.mem_iff_getElem]
  exact ⟨j,by rw [List.length_set];exact hj,by rw [List.getElem_set_self]⟩
 have hkeep:∀x∈wNodes w,∃y∈wNodes w',y.1=x.1:=fun x hx=>by
  obtain ⟨i,hi,rfl⟩:=List.getElem_of_mem hx
  refine ⟨(wNodes w')[i]'(by rw [hnodes,List.length_set];exact hi),List.getElem_mem _,?_⟩
  simp only [hnodes,List.getElem_set]
  split
  ·next e=>subst e;exact hs.nm
  ·rfl
 have hold:∀s∈wSig w,s.1=1→s.2.2.2.2.1=(wNodes w)[j].1→s.2.1<(wNodes w)[j].2.1∨(s.2.1=(wNodes w)[j].2.1∧s.2.2.1≤nVoted (wNodes w)[j]):=fun s hs1 h1 e=>h.old s hs1 h1 _ (List.getElem_mem hj) e
 refine ⟨fun s hs'=>?_,fun s hs' h1 n hn' e=>?_,fun s hs' t ht' h1 h2 e1 e2 e3=>?_⟩
 ·rcases (hsig s).1 hs' with h1|h1
  ·obtain ⟨n,hn1,hn2⟩:=h.who s h1
   obtain ⟨y,hy,e⟩:=hkeep n hn1
   exact ⟨y,hy,hn2.trans e.symm⟩
  ·exact ⟨n',hin,(hs.who s h1).1.trans hs.nm.symm⟩
 ·rcases hmem n hn' with rfl|⟨hno,hne⟩
  ·rcases (hsig s).1 hs' with h2|h2
   ·have:=hold s h2 h1 (e.trans hs.nm)
    rcases hs.mon with m|⟨m1,m2⟩
    ·rcases this with q|⟨q,_⟩
     ·exact .inl (by omega)
     ·exact .inl (by omega)
    ·rcases this with q|⟨q,q2⟩
     ·exact .inl (by omega)
     ·exact .inr ⟨by omega,by omega⟩
   ·have hw:=hs.who s h2
    rcases (hs.new s h2 h1).2 with q|⟨q1,q2⟩
    ·exact .inl (by omega)
    ·exact .inr ⟨by omega,q2⟩
  ·rcases (hsig s).1 hs' with h2|h2
   ·exact h.old s h2 h1 n hno e
   ·have hw:=hs.who s h2
    exact absurd (by rw [←e,hw.1,hs.nm]) hne
 ·have hone:=hs.one
  rcases (hsig s).1 hs' with a|a<;>rcases (hsig t).1 ht' with b|b
  ·exact h.one s a t b h1 h2 e1 e2 e3
  ·have hw:=hs.who t b
   have hnew:=(hs.new t b h2).1
   rcases hold s a h1 (by rw [e3,hw.1]) with q|⟨q,q2⟩<;>omega
  ·have hw:=hs.who s a
   have hnew:=(hs.new s a h1).1
   rcases hold t b h2 (by rw [←e3,hw.1]) with q|⟨q,q2⟩<;>omega
  ·match sg,hone,a,b with
   | [x],_,a,b =>
    rw [List.mem_singleton.1 a,List.mem_singleton.1 b]
theorem same_one {w w':DWo} (h:OneI w) (hnodes:wNodes w'=wNodes w) (hsig:wSig w'=wSig w):OneI w':=by
 refine ⟨?_,?_,?_⟩
 ·rw [hnodes,hsig];exact h.who
 ·rw [hnodes,hsig];exact h.old
 ·rw [hsig];exact h.one
theorem hearW_one {E S:Nat} {R:Int} {w:DWo} {m:DMs} (h:WI E S w) (hE:E<890) (hr:WR R w) (hm:HIn m) (hn:hasN (wNodes w) m.2.1=true) (ho:OneI w):OneI (hearW w m):=by
 obtain ⟨j,hj,_,h2,h3⟩:=hearW_at hn
 obtain ⟨hV,he⟩:=h.nd _ (List.getElem_mem hj)
 rw [h3]
 cases hc:iEq (wNodes w)[j].2.1 m.2.2.1 with
 |false=>exact ho
 |true =>
  have hce:=iEq_iff.1 hc
  exact step_one ho hr.nm hj (hear_vs hV hm hce.symm (by omega)) rfl (fun s=>addSigs_mem)
theorem setNode_nodes (w:DWo) (j:Nat) (n:DNd):wNodes (setNode w j n)=(wNodes w).set j n:=rfl
theorem setNode_sig (w:DWo) (j:Nat) (n:DNd) (s:DSg):s∈wSig (setNode w j n)↔s∈wSig w∨s∈([]:List DSg):=⟨.inl,fun h=>by rcases h with h|h;exact h;cases h⟩
theorem rebN_adv (n:DNd):AdvE n (rebN n):=⟨⟨rebN_nm n,.inl ⟨rebN_ep n,rebN_vo n,rebN_st n⟩⟩,Int.le_of_eq (rebN_ep n).symm,by rw [rebN_ep];omega⟩
theorem reb_vs (n:DNd):VStep n (rebN n) []:=VStep.none (rebN_adv n)
theorem reb_one {w:DWo} (ho:OneI w) {foul:List D9} (hn:NmR foul (wNodes w)) {j:Nat} (hj:j<(wNodes w).length) (n:DNd) (e:n=(wNodes w)[j]):OneI (setNode w j (rebN n)):=by
 have hv:=reb_vs n
 generalize rebN n=m at hv ⊢
 rw [e] at hv
 exact step_one ho hn hj hv (setNode_nodes w j m) (setNode_sig w j m)
theorem setPl_vs (n:DNd) (q:List D110):VStep n (setPl n q) []:=VStep.none ⟨⟨rfl,.inl ⟨rfl,rfl,rfl⟩⟩,Int.le_refl _,by show n.2.1≤n.2.1+1;omega⟩
theorem node_one {w:DWo} (ho:OneI w) {foul:List D9} (hn:NmR foul (wNodes w)) {j:Nat} (hj:j<(wNodes w).length) (m:DNd) (hv:VStep (wNodes w)[j] m []):OneI (setNode w j m):=step_one ho hn hj hv (setNode_nodes w j m) (setNode_sig w j m)
theorem Stp.one {E S:Nat} {R:Int} {w w':DWo} (s:Stp w w') (h:WI E S w) (hE:E<890) (hr:WR R w) (ho:OneI w):OneI w':=by
 cases s with
 |same=>exact ho
 |dup m hm hl=>exact same_one ho rfl rfl
 |drop k=>exact same_one ho rfl rfl
 |deliver k hk =>
  have hm:=h.nm _ (List.getElem_mem hk)
  exact hearW_one (dropW_wi h k) hE (dropW_wr hr k) hm.1 hm.2 (same_one ho rfl rfl)
 |lead j hj hb =>
  obtain ⟨hV,he⟩:=h.nd _ (List.getElem_mem hj)
  have hid:=len_wf (n:=(wBlocks w).length) (by omega)
  exact step_one ho hr.nm hj (lead_vs hV hid (by omega)) rfl (fun s=>addSigs_mem)
 |leave j hj =>
  obtain ⟨hV,he⟩:=h.nd _ (List.getElem_mem hj)
  exact step_one ho hr.nm hj (leave_vs hV (by omega) (hr.nd _ (List.getElem_mem hj)).vo.2) rfl (fun s=>addSigs_mem)
 |share j hj k hk =>
  unfold shareW
  cases (shareM (wNodes w)[j] (wNodes w)[k].2.1 (wNodes w)[k].1).2.1.1<;>exact same_one ho rfl rfl
 |submit j hj q _ _ _=>exact node_one ho hr.nm hj _ (setPl_vs _ q)
 |reboot j hj=>exact reb_one ho hr.nm hj _ rfl
 |forge m nb hc _=>exact same_one ho rfl rfl
 |learn j hj k hk hok =>
  obtain ⟨hV,he⟩:=h.nd _ (List.getElem_mem hj)
  obtain ⟨hV2,_⟩:=h.nd _ (List.getElem_mem hk)
  have hto:=shareM_to _ _ _ hok
  exact hearW_one h hE hr (share_out hV hV2.v.h.ok.2.1 hV2.v.h.ok.1 hok) (by rw [hto.1];exact hasN_at hk) ho
theorem accts_iff {l:List D120}:acctsB l=true↔(∀a∈l,acctB a=true)∧l.Pairwise (fun a b=>sLt a.1 b.1=true)∧l.length≤12∧wealth l≤1000000:=by
 unfold acctsB
 rw [Bool.and_eq_true,Bool.and_eq_true]
 constructor
 ·rintro ⟨h1,h2,h3⟩
  have hP:∀i (hi:i<l.length),acctB l[i]=true∧behind (fun z y=>sLt z.1 y.1) l i l[i]=true:=fun i hi=>by
   have:=allI_get h1 i hi
   rw [Nat.zero_add] at this
   unfold acctP at this
   simpa only [Bool.and_eq_true] using this
  refine ⟨fun a ha=>?_,?_,by have:=iLe_iff.1 h2;omega,iLe_iff.1 h3⟩
  ·obtain ⟨i,hi,rfl⟩:=List.getElem_of_mem ha
   exact (hP i hi).1
  ·have step:∀i (hi:i+1<l.length),sLt l[i].1 l[i+1].1=true:=fun i hi=>by
    have:=(hP (i+1) hi).2
    rw [behind_succ (lt:=fun z y=>sLt z.1 y.1) (xs:=l) (j:=i) (y:=l[i+1]) (by omega)] at this
    exact this
   rw [List.pairwise_iff_getElem]
   intro i j hi hj hij
   have:∀d,(hd:i+d+1<l.length)→sLt l[i].1 l[i+d+1].1=true:=by
    intro d
    induction d with
    |zero=>intro hd;exact step i hd
    |succ d ih =>
     intro hd
     have h4:=ih (by omega)
     have h5:=step (i+d+1) (by omega)
     exact (ord_str).tr _ _ _ h4 h5
   have h6:=this (j - i - 1) (by omega)
   have e:i+(j - i - 1)+1=j:=by omega
   simp only [e] at h6
   exact h6
 ·rintro ⟨h1,h2,h3,h4⟩
  refine ⟨allI_of (fun i hi=>?_),iLe_iff.2 (by omega),iLe_iff.2 h4⟩
  unfold acctP
  rw [Bool.and_eq_true,Nat.zero_add]
  refine ⟨h1 _ (List.getElem_mem hi),?_⟩
  match i,hi with
  |0,_=>rfl
  |j+1,hi =>
   rw [behind_succ (lt:=fun z y=>sLt z.1 y.1) (xs:=l) (j:=j) (y:=l[j+1]) (by omega)]
   rw [List.pairwise_iff_getElem] at h2
   exact h2 j (j+1) (by omega) hi (by omega)
theorem setB_of {l:List D97} (h1:∀v∈l,nameB v.1=true∧inR v.2.1 1 1000000=true) (h2:l.Pairwise (fun a b=>sLt a.1 b.1=true)) (h3:1≤l.length) (h4:l.length≤12):setB l=true:=by
 unfold setB
 rw [Bool.and_eq_true]
 refine ⟨allI_of (fun i hi=>?_),inR_iff.2 (by omega)⟩
 unfold valP
 have:=h1 _ (List.getElem_mem hi)
 rw [Bool.and_eq_true,Bool.and_eq_true,Nat.zero_add]
 refine ⟨this.1,this.2,?_⟩
 match i,hi with
 |0,_=>rfl
 |j+1,hi =>
  rw [behind_succ (lt:=fun z y=>sLt z.1 y.1) (xs:=l) (j:=j) (y:=l[j+1]) (by omega)]
  rw [List.pairwise_iff_getElem] at h2
  exact h2 j (j+1) (by omega) hi (by omega)
theorem acctB_nm {a:D120} (h:acctB a=true):nameB a.1=true∧0≤a.2.2.2.1∧a.2.2.2.1≤1000000:=by
 unfold acctB at h
 simp only [Bool.and_eq_true] at h
 exact ⟨h.1,inR_iff.1 h.2.2.2.1⟩
theorem setL_set {l:List D120} (h:acctsB l=true):setL l= []∨setB (setL l)=true:=by
 obtain ⟨h1,h2,h3,_⟩:=accts_iff.1 h
 rcases Nat.eq_zero_or_pos (setL l).length with h0|h0
 ·exact .inl (List.length_eq_zero_iff.1 h0)
 ·refine .inr (setB_of (fun v hv=>?_) ?_ h0 (Nat.le_trans (setL_len l) h3))
  ·rw [setL_eq] at hv
   obtain ⟨a,ha,rfl⟩:=List.mem_map.1 hv
   obtain ⟨m1,m2⟩:=List.mem_filter.1 ha
   have:=acctB_nm (h1 a m1)
   have m2:=iLe_iff.1 m2
   exact ⟨this.1,inR_iff.2 ⟨by show 1≤a.2.2.2.1;omega,this.2.2⟩⟩
  ·rw [setL_eq,List.pairwise_map]
   exact h2.filter _
def nmA:ByteArray:=⟨#[97]⟩
def nmB:ByteArray:=⟨#[98]⟩
def nmC:ByteArray:=⟨#[99]⟩
def nmD:ByteArray:=⟨#[100]⟩
def nmE:ByteArray:=⟨#[101]⟩
def accO (nm:ByteArray) (f s:Int):D120:=(nm,(f,(0,(s,([],())))))
def nms4:List ByteArray:= [nmA,nmB,nmC,nmD]
def baseOf (fs:List Int) (e:Bool):List D120:=List.zipWith (fun nm f=>accO nm f 10) nms4 fs++(bif e then [accO nmE 7 0] else [])
theorem nm_lt:sLt nmA nmB=true∧sLt nmA nmC=true∧sLt nmA nmD=true∧sLt nmA nmE=true∧sLt nmB nmC=true∧sLt nmB nmD=true∧sLt nmB nmE=true∧sLt nmC nmD=true∧sLt nmC nmE=true∧sLt nmD nmE=true:=by
 unfold sLt
 simp only [baList_data]
 exact ⟨rfl,rfl,rfl,rfl,rfl,rfl,rfl,rfl,rfl,rfl⟩
theorem nm_ne:nmA≠nmB:=by
 intro h
 have:=nm_lt.1
 rw [h,sLt_eq (sEq_self _)] at this
 cases this
theorem acc_ok {nm:ByteArray} {f s:Int} (hn:nm=nmA∨nm=nmB∨nm=nmC∨nm=nmD∨nm=nmE) (hf:0≤f∧f≤20) (hs:0≤s∧s≤10):acctB (accO nm f s)=true:=by
 have hnm:nameB nm=true:=by rcases hn with rfl|rfl|rfl|rfl|rfl<;>decide
 have h1:inR f 0 1000000=true:=inR_iff.2 (by omega)
 have h2:inR s 0 1000000=true:=inR_iff.2 (by omega)
 show (nameB nm&&(inR f 0 1000000&&(true&&(inR s 0 1000000&&(true&&true)))))=true
 rw [hnm,h1,h2];rfl
theorem wealth_small:∀(l:List D120) (s:Int),(∀a∈l,∃nm f st,a=accO nm f st∧0≤f∧f≤20∧0≤st∧st≤10)→0≤s→s+30*l.length≤1000000→l.foldl (fun s y=>iAdd .i64 s (ofA y)) s≤s+30*l.length
 | [],s,_,_,_=>by simp
 |a::r,s,h,h0,h1=>by
  obtain ⟨nm,f,st,rfl,f1,f2,s1,s2⟩:=h a (by simp)
  have e:ofA (accO nm f st)=f+st:=(show iAdd .i64 f st=f+st from iAdd_small (by omega) (by omega))
  simp only [List.length_cons] at h1 ⊢
  have e2:iAdd .i64 s (f+st)=s+(f+st):=iAdd_small (by omega) (by omega)
  rw [List.foldl_cons,e,e2]
  have:=wealth_small r (s+(f+st)) (fun b hb=>h b (by simp [hb])) (by omega) (by push_cast at h1 ⊢;omega)
  push_cast at this ⊢
  omega
theorem base_mem {fs:List Int} {e:Bool} (hf:∀f∈fs,f=3∨f=20):∀a∈baseOf fs e,∃nm f st,a=accO nm f st∧(nm=nmA∨nm=nmB∨nm=nmC∨nm=nmD∨nm=nmE)∧0≤f∧f≤20∧0≤st∧st≤10:=by
 intro a ha
 unfold baseOf at ha
 rcases List.mem_append.1 ha with h|h
 ·obtain ⟨i,hi,rfl⟩:=List.getElem_of_mem h
  rw [List.getElem_zipWith]
  have hif:i<fs.length:=by rw [List.length_zipWith] at hi;omega
  have hi4:i<4:=by rw [List.length_zipWith] at hi;have:nms4.length=4:=rfl;omega
  have hfi:=hf _ (List.getElem_mem hif)
  refine ⟨_,fs[i],10,rfl,?_,by omega,by omega,by decide,by decide⟩
  match i,hi4 with
  |0,_=>exact .inl rfl
  |1,_=>exact .inr (.inl rfl)
  |2,_=>exact .inr (.inr (.inl rfl))
  |3,_=>exact .inr (.inr (.inr (.inl rfl)))
 ·cases e with
  |false=>cases h
  |true=>exact ⟨nmE,7,0,List.mem_singleton.1 h,.inr (.inr (.inr (.inr rfl))),by decide,by decide,by decide,by decide⟩
theorem base_len (fs:List Int) (e:Bool) (h:fs.length≤4):(baseOf fs e).length=fs.length+(bif e then 1 else 0):=by
 unfold baseOf
 rw [List.length_append,List.length_zipWith]
 have:nms4.length=4:=rfl
 cases e<;>simp [this]<;>omega
theorem base_led {fs:List Int} {e:Bool} (hl:fs.length≤4) (hf:∀f∈fs,f=3∨f=20):ledgerB ((0,(baseOf fs e,())):DLe)=true:=by
 have hm:=base_mem (e:=e) hf
 have hlen:=base_len fs e hl
 have hlen5:(baseOf fs e).length≤5:=by rw [hlen];cases e<;>simp<;>omega
 unfold ledgerB
 rw [Bool.and_eq_true]
 refine ⟨rfl,accts_iff.2 ⟨fun a ha=>?_,?_,(show (baseOf fs e).length≤12 by omega),?_⟩⟩
 ·obtain ⟨nm,f,st,rfl,h1,h2,h3,h4,h5⟩:=hm a ha
  exact acc_ok h1 ⟨h2,h3⟩ ⟨h4,h5⟩
 ·have hn:=nm_lt
  have key:(baseOf fs e).Pairwise (fun a b=>sLt a.1 b.1=true):=by
   match fs,hl with
   | [],_=>cases e<;>simp [baseOf,nms4]
   | [f1],_=>cases e<;>simp [baseOf,nms4,accO,hn]
   | [f1,f2],_=>cases e<;>simp [baseOf,nms4,accO,hn]
   | [f1,f2,f3],_=>cases e<;>simp [baseOf,nms4,accO,hn]
   | [f1,f2,f3,f4],_=>cases e<;>simp [baseOf,nms4,accO,hn]
   |f1::f2::f3::f4::f5::r,hl=>simp at hl
  exact key
 ·have:=wealth_small (baseOf fs e) 0 (fun a ha=>by
   obtain ⟨nm,f,st,h0,h1,h2⟩:=hm a ha
   exact ⟨nm,f,st,h0,h2⟩) (Int.le_refl _) (by omega)
  show (baseOf fs e).foldl (fun s y=>iAdd .i64 s (ofA y)) 0≤1000000
  omega
theorem y_base2 (c:DCu) (hc:COk c):Y (F58 (c,())) (fun y=>∃fs e,1≤fs.length∧fs.length≤4∧(∀f∈fs,f=3∨f=20)∧y.1=((0,(baseOf fs e,())):DLe)∧COk y.2.1∧y.2.1.1=c.1):=by
 unfold F58
 refine Y.bind (y_int c _ hc (by simp)) fun y1 h1=>?_
 have hk:1≤y1.1.1∧y1.1.1≤4:=by
  have h:=h1.1
  simp only [List.mem_cons,List.not_mem_nil,or_false] at h
  rcases h with h|h|h|h|h|h<;>rw [h]<;>decide
 refine Y.sum (P:=fun v=>COk (v.2.1,(v.2.2.1,(v.2.2.2.1,())))∧v.2.1=c.1∧∃fs,1≤fs.length∧fs.length≤4∧(∀f∈fs,f=3∨f=20)∧v.2.2.2.2.1=baseOf fs false) (R:=fun _=>False)
  (Y.loop (I:=fun v=>COk (v.2.1,(v.2.2.1,(v.2.2.2.1,())))∧v.2.1=c.1∧∃fs:List Int,v.1=(fs.length:Int)∧fs.length≤4∧(∀f∈fs,f=3∨f=20)∧v.2.2.2.2.1=baseOf fs false) (fun v=>(4 - v.1).toNat) (fun v hv=>?_) _ ⟨h1.2.1,h1.2.2,[],rfl,Nat.zero_le _,fun f hf=>(by cases hf),rfl⟩)
  (fun v hv=>?_) (fun _ h=>h.elim)
 ·obtain ⟨i,b,ci,h,ac,u⟩:=v
  obtain ⟨hc2,hb,fs,h0,h4,hf,ha⟩:=hv
  dsimp only at hc2 hb h0 ha
  subst h0 ha
  unfold F58.b0
  refine Y.bif (fun hlt=>?_) (fun hn=>?_)
  ·have hlt:(fs.length:Int)<y1.1.1:=iLt_iff.1 hlt
   have hi4:fs.length<4:=by omega
   have hnm:fs.length<nms4.length:=hi4
   have g1:([(⟨#[97]⟩,()),(⟨#[98]⟩,()),(⟨#[99]⟩,()),(⟨#[100]⟩,())]:List D9)[fs.length]?=some (nms4[fs.length],()):=by
    generalize fs.length=k at hi4 hnm
    match k,hi4 with
    |0,_=>rfl
    |1,_=>rfl
    |2,_=>rfl
    |3,_=>rfl
   refine Y.eq (getI_of g1) (Y.eq (getN_of g1) ?_)
   refine Y.bind (y_int _ _ hc2 (by simp)) fun y4 h5=>?_
   have hf4:y4.1.1=3∨y4.1.1=20:=by
    have h:=h5.1
    simp only [List.mem_cons,List.not_mem_nil,or_false] at h
    rcases h with h|h
    ·exact .inl (by rw [h])
    ·exact .inr (by rw [h])
   have hi:iAdd .i64 (fs.length:Int) (1:Int)=((fs.length+1:Nat):Int):=nxt (n:=4) hi4 (by unfold L63;omega)
   have hbl:=base_len fs false h4
   refine Y.tt (room_big (by dsimp only;rw [hbl];simp only [List.length_cons,List.length_nil,cond_false];omega) (by decide) (by decide)) (Y.l ⟨⟨h5.2.1,h5.2.2.trans hb,fs++ [y4.1.1],?_,?_,?_,?_⟩,?_⟩)
   ·show iAdd .i64 (fs.length:Int) 1=_
    rw [hi,List.length_append];rfl
   ·rw [List.length_append];simp only [List.length_cons,List.length_nil];omega
   ·intro f hfm
    rcases List.mem_append.1 hfm with h|h
    ·exact hf f h
    ·rw [List.mem_singleton.1 h];exact hf4
   ·show lapp (baseOf fs false) [(nms4[fs.length],(y4.1.1,(0,(10,([],())))))]=baseOf (fs++ [y4.1.1]) false
    match fs,hi4 with
    | [],_=>rfl
    | [f1],_=>rfl
    | [f1,f2],_=>rfl
    | [f1,f2,f3],_=>rfl
   ·show (4 - iAdd .i64 (fs.length:Int) 1).toNat<(4 - (fs.length:Int)).toNat
    rw [hi];omega
  ·have hn:y1.1.1≤(fs.length:Int):=iLt_no.1 hn
   exact Y.rl ⟨hc2,hb,fs,by omega,h4,hf,rfl⟩
 ·obtain ⟨i,b,ci,h,ac,u⟩:=v
  obtain ⟨hc2,hb,fs,h1',h4,hf,ha⟩:=hv
  dsimp only at hc2 hb ha
  subst ha
  have hbl:=base_len fs false h4
  refine Y.sum (P:=fun v=>COk (v.1,(v.2.1,(v.2.2.1,())))∧v.1=c.1∧∃e,v.2.2.2.1=baseOf fs e) (R:=fun _=>False) (Y.bind (y_once _ _ hc2) fun y7 h7=>Y.bif (fun _=>Y.tt (room_big (by dsimp only;rw [hbl];simp only [List.length_cons,List.length_nil,cond_false];omega) (by decide) (by decide)) (Y.l ⟨h7.1,h7.2.trans hb,true,?_⟩)) (fun _=>Y.l ⟨h7.1,h7.2.trans hb,false,rfl⟩)) (fun v hv=>?_) (fun _ h=>h.elim)
  ·show baseOf fs false++ [accO nmE 7 0]=baseOf fs true
   unfold baseOf
   simp
  ·obtain ⟨q1,q2,e,q3⟩:=hv
   exact Y.mk ⟨fs,e,h1',h4,hf,by show ((0,(v.2.2.2.1,())):DLe)=_;rw [q3],q1,q2⟩
def world0 (fs:List Int) (e:Bool) (foul:List D9):DWo:=worldNewL ((0,(baseOf fs e,())):DLe) foul
def FoulOk (foul:List D9):Prop:=foul= []∨∃nm,(nm=nmA∨nm=nmB∨nm=nmC∨nm=nmD)∧foul= [(nm,())]
theorem foul_ok {foul:List D9} (h:FoulOk foul):namesB foul=true∧(Ty.sl e9).Ok foul∧foul.length≤1:=by
 rcases h with rfl|⟨nm,hn,rfl⟩
 ·exact ⟨rfl,Ok_nil,Nat.zero_le _⟩
 ·have hnm:nameB nm=true:=by rcases hn with rfl|rfl|rfl|rfl<;>decide
  have hsz:=nameB_size hnm
  refine ⟨?_,Ok_of (by decide:1≤9223372036854775807) (fun x hx=>?_),Nat.le_refl _⟩
  ·unfold namesB
   show (((nameB nm&&true)&&true)&&true)=true
   rw [hnm];rfl
  ·rw [List.mem_singleton.1 hx]
   exact ⟨Nat.le_trans hsz (by decide),trivial⟩
theorem base_ok {fs:List Int} {e:Bool} (hl:fs.length≤4) (hf:∀f∈fs,f=3∨f=20):(Ty.sl e120).Ok (baseOf fs e)∧AcctL (baseOf fs e):=by
 have hm:=base_mem (e:=e) hf
 have hlen:=base_len fs e hl
 have hlen5:(baseOf fs e).length≤5:=by rw [hlen];cases e<;>simp<;>omega
 refine ⟨Ok_of (Nat.le_trans hlen5 (by decide)) (fun a ha=>?_),⟨Nat.le_trans hlen5 (by decide),fun a ha=>?_⟩⟩
 ·obtain ⟨nm,f,st,rfl,h1,h2,h3,h4,h5⟩:=hm a ha
  have hnm:nm.size≤1:=by rcases h1 with rfl|rfl|rfl|rfl|rfl<;>decide
  exact ⟨Nat.le_trans hnm (by decide),Rwf (by show _≤f;omega) (by show f≤_;omega),rfl,Rwf (by show _≤st;omega) (by show st≤_;omega),Ok_nil,trivial⟩
 ·obtain ⟨nm,f,st,rfl,h1,h2,h3,h4,h5⟩:=hm a ha
  exact Nat.zero_le _
theorem world0_eq {fs:List Int} {e:Bool} {foul:List D9} (hl:fs.length≤4) (hf:∀f∈fs,f=3∨f=20) (hfo:FoulOk foul):world0 fs e foul=(0,(baseOf fs e,(foul,(((baseOf fs e).filter (fun a=> !hasB foul a.1)).map (fun a=>nodeNewL a.1 ((0,(baseOf fs e,())):DLe)),([],([],([],()))))))):=by
 unfold world0 worldNewL
 rw [base_led hl hf,(foul_ok hfo).1]
 show (0,(baseOf fs e,(foul,(nodesL ((0,(baseOf fs e,())):DLe) foul,([],([],([],())))))))=_
 rw [nodesL_eq]
def node0 (nm:ByteArray) (x:DLe):DNd:=(nm,(x.1,(x.1,(x.2.1,(setL x.2.1,([],(1,(0,(0,(-1,([],(0,([],([],(0,([],([],([],([],([],()))))))))))))))))))))
theorem nodeNew_eq {nm:ByteArray} {x:DLe} (h1:nameB nm=true) (h2:ledgerB x=true):nodeNewL nm x=node0 nm x:=by
 unfold nodeNewL node0
 rw [h1,h2];rfl
theorem node0_nw {nm:ByteArray} {L:List D120} (h1:nameB nm=true) (h2:ledgerB ((0,(L,())):DLe)=true) (hx:(Ty.sl e120).Ok L) (hA:AcctL L):NW (node0 nm (0,(L,()))):=by
 have hsz:=nameB_size h1
 have hsl:W1 (setL L).length:=Nat.le_trans (setL_len L) hA.1
 exact NW.mk' (E:=0) (P:=0) ⟨⟨⟨Nat.le_trans hsz (by decide),rfl,rfl,hx,setL_ok _ hx,Ok_nil,rfl,rfl,rfl,rfl,Ok_nil,rfl,Ok_nil,Ok_nil,rfl,Ok_nil,Ok_nil,Ok_nil,Ok_nil,Ok_nil,trivial⟩,⟨hA,hsl,Nat.zero_le _,(fun b hb=>by cases hb),Nat.zero_le _,Nat.zero_le _,Nat.zero_le _,Nat.zero_le _,Nat.zero_le _,Nat.zero_le _,Nat.zero_le _,Nat.zero_le _,(fun b hb=>by cases hb)⟩,treeF rfl,Nat.zero_le _,Nat.zero_le _⟩,h2,rfl,Int.le_refl _,Nat.zero_le _,Nat.zero_le _,⟨List.nodup_nil,fun x hx=>by cases hx⟩,Nat.zero_le _⟩ (Int.le_refl _) rfl
theorem node0_nr {nm:ByteArray} {L:List D120} (h1:nameB nm=true) (h2:acctsB L=true):NR 0 [] (node0 nm (0,(L,()))) :=
 ⟨h1,⟨Int.le_refl _,by show (1:Int)≤0+1;decide⟩,⟨Int.le_refl _,by show (0:Int)≤1;decide⟩,⟨Int.le_refl _,by show (0:Int)≤1;decide⟩,qcB_root,by show (0:Int)<1;decide,tcB_none,by show (0:Int)<1;decide,(fun v hv=>by cases hv),(fun v hv=>by cases hv),rfl,(fun v hv=>by cases hv),rfl,setL_set h2,(fun v hv=>by cases hv),fun k p hp=>by
  have hp:([]:List DPr)[k]?=some p:=hp
  simp at hp⟩
structure DI (fs:List Int) (e:Bool) (foul:List D9) (K:Nat) (w:DWo):Prop where
 wi:WI 889 K w
 wr:WR (14*(K:Int)) w
 one:OneI w
 bl:(wBlocks w).length≤K
 ne:wNodes w≠ []
 fo:FoulOk foul∧wFoul w=foul
 ba:wBase w=(0,(baseOf fs e,()))
 nms:(wNodes w).map (fun n=>n.1)=((baseOf fs e).filter (fun a=> !hasB foul a.1)).map (fun a=>a.1)
theorem base_has1 {fs:List Int} {e:Bool} (h:1≤fs.length):∃f,accO nmA f 10∈baseOf fs e:=by
 match fs,h with
 |f::r,_=>exact ⟨f,by unfold baseOf;simp [nms4]⟩
theorem base_has2 {fs:List Int} {e:Bool} (h:3≤fs.length):∃f,accO nmB f 10∈baseOf fs e:=by
 match fs,h with
 |f::g::r,_=>exact ⟨g,by unfold baseOf;simp [nms4]⟩
theorem world0_di {fs:List Int} {e:Bool} {foul:List D9} (hl1:1≤fs.length) (hl:fs.length≤4) (hf:∀f∈fs,f=3∨f=20) (hfo:FoulOk foul) (hne:foul= []∨3≤fs.length):DI fs e foul 0 (world0 fs e foul):=by
 have hB:=base_ok (e:=e) hl hf
 have hled:=base_led (e:=e) hl hf
 obtain ⟨f1,f2,f3⟩:=foul_ok hfo
 have hlen:=base_len fs e hl
 have hlen5:(baseOf fs e).length≤5:=by rw [hlen];cases e<;>simp<;>omega
 have hac:acctsB (baseOf fs e)=true:=by
  unfold ledgerB at hled
  simp only [Bool.and_eq_true] at hled
  exact hled.2
 have hacc:=accts_iff.1 hac
 have hnode:∀n∈((baseOf fs e).filter (fun a=> !hasB foul a.1)).map (fun a=>nodeNewL a.1 ((0,(baseOf fs e,())):DLe)),∃a∈baseOf fs e,nameB a.1=true∧hasB foul a.1=false∧n=node0 a.1 (0,(baseOf fs e,())):=fun n hn=>by
  obtain ⟨a,ha,rfl⟩:=List.mem_map.1 hn
  obtain ⟨m1,m2⟩:=List.mem_filter.1 ha
  have h1:=(acctB_nm (hacc.1 a m1)).1
  exact ⟨a,m1,h1,by simpa using m2,nodeNew_eq h1 hled⟩
 have hnms:(((baseOf fs e).filter (fun a=> !hasB foul a.1)).map (fun a=>nodeNewL a.1 ((0,(baseOf fs e,())):DLe))).map (fun n=>n.1)=((baseOf fs e).filter (fun a=> !hasB foul a.1)).map (fun a=>a.1):=by
  rw [List.map_map]
  refine List.map_congr_left (fun a ha=>?_)
  have h1:=(acctB_nm (hacc.1 a (List.mem_filter.1 ha).1)).1
  show (nodeNewL a.1 ((0,(baseOf fs e,())):DLe)).1=a.1
  rw [nodeNew_eq h1 hled]
  rfl
 rw [world0_eq hl hf hfo]
 generalize hN:((baseOf fs e).filter (fun a=> !hasB foul a.1)).map (fun a=>nodeNewL a.1 ((0,(baseOf fs e,())):DLe))=nodes at hnode hnms
 have hnl:nodes.length≤5:=by rw [←hN,List.length_map];exact Nat.le_trans (List.length_filter_le _ _) hlen5
 refine ⟨⟨hB.1,hB.2,hled,f2,Nat.le_trans f3 (by decide),Nat.le_trans hnl (by decide),fun n hn=>?_,Ok_nil,Nat.zero_le _,(fun b hb=>by cases hb),Ok_nil,Nat.zero_le _,Nat.zero_le _,(fun b hb=>by cases hb)⟩,⟨Int.le_refl _,rfl,f1,⟨fun i hi=>absurd hi (Nat.not_lt_zero _),(fun b hb=>by cases hb),(fun b hb=>by cases hb)⟩,fun n hn=>?_,⟨fun n hn=>?_,?_⟩,(fun b hb=>by cases hb)⟩,⟨(fun b hb=>by cases hb),(fun b hb=>by cases hb),(fun b hb=>by cases hb)⟩,Nat.zero_le _,?_,⟨hfo,rfl⟩,rfl,hnms⟩
 ·obtain ⟨a,ha,h1,h2,rfl⟩:=hnode n hn
  exact ⟨node0_nw h1 hled hB.1 hB.2,by show (0:Int)≤(889:Nat);decide⟩
 ·obtain ⟨a,ha,h1,h2,rfl⟩:=hnode n hn
  exact node0_nr h1 hac
 ·obtain ⟨a,ha,h1,h2,rfl⟩:=hnode n hn
  exact h2
 ·show ∀(i j:Nat) (hi:i<nodes.length) (hj:j<nodes.length),i<j→sLt nodes[i].1 nodes[j].1=true
  have hp:(nodes.map (fun n=>n.1)).Pairwise (fun a b=>sLt a b=true):=by
   rw [hnms,List.pairwise_map]
   exact hacc.2.1.filter _
  rw [List.pairwise_map,List.pairwise_iff_getElem] at hp
  intro i j hi hj hij
  exact hp i j hi hj hij
 ·show nodes≠ []
  intro h0
  have hall:∀a∈baseOf fs e,hasB foul a.1=true:=fun a ha=>by
   cases hc:hasB foul a.1 with
   |true=>rfl
   |false =>
    have:a∈(baseOf fs e).filter (fun a=> !hasB foul a.1):=List.mem_filter.2 ⟨ha,by rw [hc];rfl⟩
    have h2:((baseOf fs e).filter (fun a=> !hasB foul a.1)).map (fun a=>nodeNewL a.1 ((0,(baseOf fs e,())):DLe))= []:=hN.trans h0
    rw [List.map_eq_nil_iff] at h2
    rw [h2] at this
    cases this
  obtain ⟨fA,hA⟩:=base_has1 (e:=e) hl1
  have h1:=hall _ hA
  rcases hne with h|h
  ·rw [h] at h1;cases h1
  ·obtain ⟨fB,hBm⟩:=base_has2 (e:=e) h
   have h2:=hall _ hBm
   rcases hfo with rfl|⟨nm,_,rfl⟩
   ·cases h1
   ·unfold hasB at h1 h2
    simp only [List.any_cons,List.any_nil,Bool.or_false] at h1 h2
    exact nm_ne ((sEq_iff.1 h1).symm.trans (sEq_iff.1 h2))
theorem DI.step {fs:List Int} {e:Bool} {foul:List D9} {K:Nat} {w w':DWo} (h:DI fs e foul K w) (hK:K≤700) (s:Stp w w'):DI fs e foul (K+1) w':=by
 have h1:=s.wi h.wi (by decide) (by omega)
 have h2:=s.wr h.wi (by decide) h.wr (by omega)
 have h3:=s.one h.wi (by decide) h.wr h.one
 obtain ⟨⟨nb,g1,g2⟩,g3,g4,g5,g6⟩:=s.grow h.wi (by decide)
 have hbl:(wBlocks w').length≤K+1:=by rw [g1,List.length_append];have:=h.bl;omega
 refine ⟨h1.low h2 (by omega),h2.up (by push_cast;omega),h3,hbl,fun e0=>?_,⟨h.fo.1,g6.trans h.fo.2⟩,?_,g3.trans h.nms⟩
 ·rw [e0] at g3
  have:(wNodes w).map (fun n=>n.1)= []:=g3.symm
  rw [List.map_eq_nil_iff] at this
  exact h.ne this
 ·have:=h.ba
  show (w'.1,(w'.2.1,()))=_
  rw [g4,g5]
  exact this
abbrev EvT:Type:=List D5×(Int×(Int×(Int×(Int×(Int×(Int×(ByteArray×(ByteArray×(Int×(Int×(List DNd×(List DBk×(List DSg×(List DMs×DMs))))))))))))))
def evOf (v:EvT):DEv:=(v.2.2.2.1,(v.2.2.2.2.1,(v.2.2.2.2.2.1,(v.2.2.2.2.2.2.1,(v.2.2.2.2.2.2.2.1,(v.2.2.2.2.2.2.2.2.1,(v.2.2.2.2.2.2.2.2.2.1,(v.2.2.2.2.2.2.2.2.2.2.1,v.2.2.2.2.2.2.2.2.2.2.2.2.2.2.2))))))))
theorem ev_in {k a to tk ta tn:Int} {tf tt:ByteArray} {m:DMs} (h1:(Lit.int .i64 tk).wf=true) (h2:L63 tf.size) (h3:L63 tt.size) (h4:(Lit.int .i64 ta).wf=true) (h5:(Lit.int .i64 tn).wf=true) (hm:FIn m):EvIn ((k,(a,(to,(tk,(tf,(tt,(ta,(tn,m)))))))):DEv):=⟨⟨h1,h2,h3,h4,h5,trivial⟩,hm⟩
theorem fin0:FIn msg0:=fin_mk rfl (Nat.zero_le _) rfl (fun b hb=>by cases hb) (Nat.zero_le _) rfl rfl (Nat.zero_le _) rfl rfl (Nat.zero_le _) rfl rfl Ok_nil (Nat.zero_le _)
theorem ev0 (k a to:Int):EvIn ((k,(a,(to,(0,(⟨#[]⟩,(⟨#[]⟩,(0,(0,msg0)))))))):DEv):=ev_in rfl (Nat.zero_le _) (Nat.zero_le _) rfl rfl fin0
theorem y_event {E S:Nat} {w:DWo} (h:WI E S w) (hE:E<890) (hne:wNodes w≠ []) (c:DCu) (hc:COk c) (hrn:∀n∈wNodes w,0≤nRound n∧nRound n≤100000∧(nSet n).length≤12) :
  Y (F62 (c,(w,()))) (fun y=>EvIn y.1∧(iEq y.1.1 9=true→FR w (eM y.1))∧COk y.2.1∧y.2.1.1=c.1∧y.2.2.1=w):=by
 have hnl:(0:Int)<((wNodes w).length:Int):=by have:=List.length_pos_iff.2 hne;omega
 have hn12:=h.nl
 unfold F62
 refine Y.sum (P:=fun v=>COk v∧v.1=c.1) (R:=fun y=>EvIn y.1∧(iEq y.1.1 9=true→FR w (eM y.1))∧COk y.2.1∧y.2.1.1=c.1∧y.2.2.1=w) (Y.bif (fun hnet=>?_) (fun _=>Y.l ⟨hc,rfl⟩)) (fun v4 h4=>?_) (fun v hv=>Y.mk hv)
 ·refine Y.bind (y_once _ _ hc) fun y1 h1=>Y.bif (fun _=>?_) (fun _=>Y.l h1)
  refine Y.bind (y_int _ _ h1.1 (by simp)) fun y2 h2=>Y.bind (y_below _ _ h2.2.1) fun y3 h3=>Y.r ⟨ev0 _ _ _,fun e=>?_,h3.2.2.2.1,h3.2.2.2.2.trans (h2.2.2.trans h1.2),rfl⟩
  have hk:y2.1.1=9:=iEq_iff.1 e
  have h:=h2.1
  simp only [List.mem_cons,List.not_mem_nil,or_false] at h
  rcases h with h|h|h|h|h|h|h|h<;>rw [h] at hk<;>exact absurd hk (by decide)
 ·refine Y.bind (y_below _ _ h4.1) fun y6 h6=>?_
  have hb6:y6.1.1<((wNodes w).length:Int):=h6.2.1 hnl
  obtain ⟨j,hj⟩:=Int.eq_ofNat_of_zero_le h6.1
  have hjl:j<(wNodes w).length:=by omega
  have ec6:y6.2.1.1=c.1:=h6.2.2.2.2.trans h4.2
  refine Y.sum (P:=fun v=>COk (v.1,(v.2.1,(v.2.2.1,())))∧v.1=c.1∧EvIn (evOf v)∧(iEq v.2.2.2.1 9=true→FR w (eM (evOf v)))∧v.2.2.2.2.2.2.2.2.2.2.2.1=wNodes w∧v.2.2.2.2.2.2.2.2.2.2.2.2.1=wBlocks w∧v.2.2.2.2.2.2.2.2.2.2.2.2.2.1=wSig w∧v.2.2.2.2.2.2.2.2.2.2.2.2.2.2.1=wNet w) (R:=fun y=>EvIn y.1∧(iEq y.1.1 9=true→FR w (eM y.1))∧COk y.2.1∧y.2.1.1=c.1∧y.2.2.1=w) ?_ (fun v hv=>?_) (fun v hv=>Y.mk hv)
  ·refine Y.bind (y_below _ _ h6.2.2.2.1) fun y7 h7=>?_
   have ec7:y7.2.1.1=c.1:=h7.2.2.2.2.trans ec6
   have hno9:∀{k:Int} {P:Prop},k≠9→(iEq k 9=true→P):=fun hk e=>absurd (iEq_iff.1 e) hk
   refine Y.sum (P:=fun _=>True) (R:=fun _=>False) (Y.bif (fun _=>Y.l trivial) (fun _=>Y.bif (fun _=>Y.l trivial) (fun _=>Y.bif (fun _=>Y.l trivial) (fun _=>Y.l trivial)))) (fun v8 _=>?_) (fun _ h=>h.elim)
   refine Y.bif (fun _=>?_) (fun _=>?_)
   ·refine Y.sum (P:=fun _=>True) (R:=fun _=>False) (Y.loop (I:=fun v=>0≤v.1∧v.1≤((wNodes w).length:Int)) (fun v=>(((wNodes w).length:Int) - v.1).toNat) (fun v hv=>?_) _ ⟨Int.le_refl _,Int.natCast_nonneg _⟩) (fun v _=>Y.l ⟨h7.2.2.2.1,ec7,ev0 _ _ _,hno9 (by show (1:Int)≠9;decide),rfl,rfl,rfl,rfl⟩) (fun _ h=>h.elim)
    obtain ⟨i,a,u⟩:=v
    obtain ⟨g1,g2⟩:=hv
    dsimp only at g1 g2
    unfold F62.b0
    refine Y.bif (fun hlt=>?_) (fun _=>Y.rl trivial)
    have hlt:i<((wNodes w).length:Int):=iLt_iff.1 hlt
    have e1:iAdd .i64 i 1=i+1:=iAdd_small (by omega) (by omega)
    have hk:(0≤iAdd .i64 i 1∧iAdd .i64 i 1≤((wNodes w).length:Int))∧(((wNodes w).length:Int) - iAdd .i64 i 1).toNat<(((wNodes w).length:Int) - i).toNat:=by rw [e1];omega
    exact Y.dup g1 hlt fun x _=>Y.eq (s_leader (nSet x) (nRound x)) (Y.bif (fun _=>Y.bif (fun _=>Y.l hk) (fun _=>Y.l hk)) (fun _=>Y.l hk))
   ·refine Y.sum (P:=fun _=>True) (R:=fun _=>False) (Y.bif (fun _=>Y.l trivial) (fun _=>Y.l trivial)) (fun v15 _=>?_) (fun _ h=>h.elim)
    refine Y.bif (fun _=>Y.l ⟨h7.2.2.2.1,ec7,ev0 _ _ _,hno9 (by show (2:Int)≠9;decide),rfl,rfl,rfl,rfl⟩) (fun _=>Y.bif (fun _=>?_) (fun _=>?_))
    ·exact Y.bind (y_below _ _ h7.2.2.2.1) fun y17 h17=>Y.l ⟨h17.2.2.2.1,h17.2.2.2.2.trans ec7,ev0 _ _ _,hno9 (by show (3:Int)≠9;decide),rfl,rfl,rfl,rfl⟩
    ·refine Y.sum (P:=fun _=>True) (R:=fun _=>False) (Y.bif (fun _=>Y.l trivial) (fun _=>Y.l trivial)) (fun v18 _=>?_) (fun _ h=>h.elim)
     refine Y.bif (fun _=>?_) (fun _=>Y.bif (fun _=>Y.l ⟨h7.2.2.2.1,ec7,ev0 _ _ _,hno9 (by show (5:Int)≠9;decide),rfl,rfl,rfl,rfl⟩) (fun _=>Y.bif (fun _=>Y.r ⟨ev0 _ _ _,hno9 (by show (2:Int)≠9;decide),h7.2.2.2.1,ec7,rfl⟩) (fun hf=>?_)))
     ·refine Y.dup (xs:=wNodes w) h6.1 hb6 fun x hx=>?_
      obtain ⟨hV,_⟩:=h.nd x hx
      refine Y.bind (y_tx6 _ (nBase x) h7.2.2.2.1 (ledger_names hV.v.led) (Nat.le_trans (ledger_len hV.v.led).1 (by decide))) fun y21 h21=>?_
      have hwf:(Lit.int .i64 y21.1.1).wf=true:=Rwf (by have:=h21.2.1;omega) (by have:=h21.1;omega)
      have hwn:(Lit.int .i64 y21.1.2.2.2.2.1).wf=true:=by
       rcases h21.2.2.2.2.2.2.1 with ⟨q1,q2⟩|⟨a,ha,q⟩
       ·exact Rwf (by omega) (by omega)
       ·rw [q]
        have hao:AOk a:=Ok_mem hV.v.h.ok.base.2 ha
        exact hao.2.2.1
      refine Y.bind (y_int _ _ h21.2.2.2.2.2.2.2.1 (by simp)) fun y22 h22=>Y.l ⟨h22.2.1,h22.2.2.trans (h21.2.2.2.2.2.2.2.2.trans ec7),ev_in hwf (Nat.le_trans h21.2.2.1 (by decide)) (Nat.le_trans h21.2.2.2.1 (by decide)) ?_ ?_ fin0,hno9 (by show (4:Int)≠9;decide),rfl,rfl,rfl,rfl⟩
      ·have h:=h22.1
       simp only [List.mem_cons,List.not_mem_nil,or_false] at h
       rcases h with h|h|h<;>rw [h]<;>rfl
      ·exact hwn
     ·have hf:((wFoul w).length:Int)≠0:=iEq_no.1 hf
      have hfo:wFoul w≠ []:=fun e=>hf (by rw [e];rfl)
      refine Y.bind (y_forged h hE hne hfo _ h7.2.2.2.1 hrn) fun y23 h23=>?_
      obtain ⟨z1,z2,z3,z4,z5⟩:=h23
      have hw:y23.2.2.1=w:=z5
      exact Y.l ⟨z3,z4.trans ec7,ev_in rfl (Nat.zero_le _) (Nat.zero_le _) rfl rfl z1,fun _=>z2,by show wNodes y23.2.2.1=_;rw [hw],by show wBlocks y23.2.2.1=_;rw [hw],by show wSig y23.2.2.1=_;rw [hw],by show wNet y23.2.2.1=_;rw [hw]⟩
  ·obtain ⟨q1,q2,q3,q4,q5,q6,q7,q8⟩:=hv
   refine Y.mk ⟨q3,q4,q1,q2,?_⟩
   show (w.1,(w.2.1,(w.2.2.1,(v.2.2.2.2.2.2.2.2.2.2.2.1,(v.2.2.2.2.2.2.2.2.2.2.2.2.1,(v.2.2.2.2.2.2.2.2.2.2.2.2.2.1,(v.2.2.2.2.2.2.2.2.2.2.2.2.2.2.1,())))))))=w
   rw [q5,q6,q7,q8]
theorem DI.rn {fs:List Int} {e:Bool} {foul:List D9} {K:Nat} {w:DWo} (h:DI fs e foul K w) (hK:K≤700):∀n∈wNodes w,0≤nRound n∧nRound n≤100000∧(nSet n).length≤12:=fun n hn=>by
 have hN:=h.wr.nd n hn
 have:=hN.rd
 exact ⟨by omega,by omega,(set_names hN.set).2⟩
theorem y_drawW (c:DCu) (most:Int) (hc:COk c) (hm:0<most∧most≤256):Y (F26 (c,((most,()),()))) (fun y=>∃fs e foul K,(fs.length≤4∧(∀f∈fs,f=3∨f=20))∧K<most.toNat∧DI fs e foul K y.1∧COk y.2.1∧y.2.1.1=c.1):=by
 unfold F26
 refine Y.bind (y_base2 c hc) fun y1 h1=>?_
 obtain ⟨fs,e,a1,a2,a3,a4,a5,a6⟩:=h1
 have hbl:=base_len fs e a2
 have hbok:=base_ok (e:=e) a2 a3
 obtain ⟨⟨yep,yac,u0⟩,cu1,u1⟩:=y1
 have a4:((yep,(yac,u0)):DLe)=(0,(baseOf fs e,())):=a4
 simp only [Prod.mk.injEq] at a4
 obtain ⟨rfl,rfl,_⟩:=a4
 dsimp only at a5 a6
 refine Y.sum (P:=fun v=>FoulOk v.1∧(v.1= []∨3≤fs.length)∧COk v.2∧v.2.1=c.1) (R:=fun _=>False) (Y.bif (fun h3=>Y.bind (y_once _ _ a5) fun y2 h2=>Y.bif (fun _=>?_) (fun _=>Y.l ⟨.inl rfl,.inl rfl,h2.1,h2.2.trans a6⟩)) (fun _=>Y.l ⟨.inl rfl,.inl rfl,a5,a6⟩)) (fun v5 h5=>?_) (fun _ h=>h.elim)
 ·have h3:(3:Int)<((baseOf fs e).length:Int):=iLt_iff.1 h3
  have h33:3≤fs.length:=by rw [hbl] at h3;cases e<;>simp at h3<;>omega
  refine Y.bind (y_below _ _ h2.1) fun y3 hy3=>?_
  have hb3:=hy3.2.1 (by decide)
  refine Y.dup (by exact hy3.1) (by exact hb3) fun x4 hx4=>Y.l ⟨.inr ⟨x4.1,?_,rfl⟩,.inr h33,hy3.2.2.2.1,hy3.2.2.2.2.trans (h2.2.trans a6)⟩
  simp only [List.mem_cons,List.not_mem_nil,or_false] at hx4
  rcases hx4 with hx|hx|hx|hx<;>rw [hx]
  ·exact .inl rfl
  ·exact .inr (.inl rfl)
  ·exact .inr (.inr (.inl rfl))
  ·exact .inr (.inr (.inr rfl))
 ·obtain ⟨b1,b2,b3,b4⟩:=h5
  obtain ⟨f1,f2,f3⟩:=foul_ok b1
  refine Y.eq (s_worldNew ((0,(baseOf fs e,())):DLe) v5.1 f2 (Nat.le_trans f3 (by decide)) hbok.1 hbok.2) ?_
  refine Y.bind (y_below _ most b3) fun y8 h8=>?_
  have hb8:=h8.2.1 hm.1
  have h80:=h8.1
  refine Y.sum (P:=fun v=>∃K:Nat,K<most.toNat∧DI fs e v5.1 K v.2.2.2.2∧COk (v.2.1,(v.2.2.1,(v.2.2.2.1,())))∧v.2.1=c.1) (R:=fun _=>False) (Y.loop (I:=fun v=>0≤v.1∧∃K:Nat,(K:Int)+v.1=y8.1.1∧DI fs e v5.1 K v.2.2.2.2∧COk (v.2.1,(v.2.2.1,(v.2.2.2.1,())))∧v.2.1=c.1) (fun v=>v.1.toNat) (fun v hv=>?_) _ ⟨h8.1,0,by show ((0:Nat):Int)+y8.1.1=y8.1.1;simp,world0_di a1 a2 a3 b1 b2,h8.2.2.2.1,h8.2.2.2.2.trans b4⟩) (fun v hv=>?_) (fun _ h=>h.elim)
  ·obtain ⟨i,cb,ci,ch,w⟩:=v
   obtain ⟨g0,K,g1,g2,g3,g4⟩:=hv
   dsimp only at g0 g1 g2 g3 g4
   unfold F26.b0
   refine Y.bif (fun hlt=>?_) (fun _=>Y.rl ⟨K,by omega,g2,g3,g4⟩)
   have hlt:0<i:=iLt_iff.1 hlt
   have e1:iSub .i64 i 1=i - 1:=iSub_small (by omega) (by omega)
   refine Y.bind (y_event g2.wi (by decide) g2.ne (cb,(ci,(ch,()))) g3 (g2.rn (by omega))) fun y10 h10=>?_
   obtain ⟨z1,z2,z3,z4,z5⟩:=h10
   have hwe:((w.1,(w.2.1,(w.2.2.1,y10.2.2.1.2.2.2))):DWo)=w:=by
    have:y10.2.2.1=w:=z5
    rw [this]
   have hdo:=y_do g2.wi (by decide) (by omega) z1 z2
   rw [←hwe] at hdo
   refine Y.bind hdo fun y11 h11=>Y.l ⟨⟨?_,K+1,?_,?_,z3,z4.trans g4⟩,?_⟩
   ·show 0≤iSub .i64 i 1;rw [e1];omega
   ·show ((K+1:Nat):Int)+iSub .i64 i 1=y8.1.1;rw [e1];push_cast;omega
   ·rw [hwe] at h11
    exact g2.step (by omega) h11
   ·show (iSub .i64 i 1).toNat<i.toNat;rw [e1];omega
  ·obtain ⟨K,g1,g2,g3,g4⟩:=hv
   exact Y.mk ⟨fs,e,v5.1,K,⟨a2,a3⟩,g1,g2,g3,g4⟩
theorem y_world (code:List D5) (hb:List.length code≤1048576):Y (F8 ((code,()),())) (fun y=>∃fs e foul K,(fs.length≤4∧(∀f∈fs,f=3∨f=20))∧K≤160∧DI fs e foul K y.1):=by
 unfold F8
 refine Y.bind (y_new code hb) fun y1 h1=>Y.bind (y_size code 140 hb (by decide)) fun y2 h2=>?_
 obtain ⟨s1,s2⟩:=h2
 have e:iAdd .i64 20 y2.1.1=20+y2.1.1:=iAdd_small (by omega) (by omega)
 have hd:=y_drawW y1.1 (iAdd .i64 20 y2.1.1) h1.1 (by rw [e];omega)
 rw [e] at hd
 refine Y.bind (P:=fun y=>∃fs e foul K,(fs.length≤4∧(∀f∈fs,f=3∨f=20))∧K≤160∧DI fs e foul K y.1) ?_ (fun y hy=>Y.mk hy)
 show Y (F26 (y1.1,((iAdd .i64 20 y2.1.1,()),()))) _
 rw [e]
 refine hd.mono (fun y hy=>?_)
 obtain ⟨fs,e',foul,K,q0,q1,q2,_⟩:=hy
 exact ⟨fs,e',foul,K,q0,by omega,q2⟩
theorem l_among (l:List D9) (s:ByteArray) (hl:L63 l.length):F17 ((l,()),((s,()),()))=some (B1 (hasB l s)):=by
 have lp:=loopHas (S:=Int×Unit) l (fun v=>sEq v.1 s) (f:=F17.b0 ((l,()),((s,()),()))) (fun k=>(k,())) (Sum.inl ((l.length:Int),())) (Sum.inr (B1 true)) (fun i hi=>?_) ?_
 ·unfold F17 hasB
  refine bind_eq lp ?_
  cases l.any (fun v=>sEq v.1 s)<;>rfl
 ·unfold F17.b0
  refine lt_then (Int.ofNat_lt.2 hi) (bind_eq (getI_lt hi) ?_)
  rw [←nxt hi hl]
 ·unfold F17.b0
  exact lt_else (Int.le_refl _) rfl
def voteConf (a b:D39):Bool:=iEq a.1 1&&(iEq b.1 1&&(iEq a.2.1 b.2.1&&(iEq a.2.2.1 b.2.2.1&&(sEq a.2.2.2.2.1 b.2.2.2.2.1&& !iEq a.2.2.2.1 b.2.2.2.1))))
def voteB (xs:List D39):Bool:=allI (fun i y=>allI (fun _ z=> !voteConf y z) 0 (xs.take i)) 0 xs
theorem voteConf_a {A:Type} {a b:D39} {r n:A}:(bif iEq a.1 1 then bif iEq b.1 1 then bif iEq a.2.1 b.2.1 then bif iEq a.2.2.1 b.2.2.1 then bif sEq a.2.2.2.2.1 b.2.2.2.2.1 then bif !iEq a.2.2.2.1 b.2.2.2.1 then r else n else n else n else n else n else n)=bif !voteConf a b then n else r:=by
 unfold voteConf
 cases iEq a.1 1<;>cases iEq b.1 1<;>cases iEq a.2.1 b.2.1<;>cases iEq a.2.2.1 b.2.2.1<;>cases sEq a.2.2.2.2.1 b.2.2.2.2.1<;>cases iEq a.2.2.2.1 b.2.2.2.1<;>rfl
theorem voteConf_b {A:Type} {a b:D39} {r n:A}:(bif iEq a.1 1 then bif iEq b.1 1 then bif sEq a.2.2.2.2.1 b.2.2.2.2.1 then bif iEq a.2.1 b.2.1 then bif iEq a.2.2.1 b.2.2.1 then bif !iEq a.2.2.2.1 b.2.2.2.1 then r else n else n else n else n else n else n)=bif !voteConf a b then n else r:=by
 unfold voteConf
 cases iEq a.1 1<;>cases iEq b.1 1<;>cases iEq a.2.1 b.2.1<;>cases iEq a.2.2.1 b.2.2.1<;>cases sEq a.2.2.2.2.1 b.2.2.2.2.1<;>cases iEq a.2.2.2.1 b.2.2.2.1<;>rfl
theorem s_oneVote (w:DWo) (hl:List.length w.2.2.2.2.2.1≤1048576):F18 (w,())=some (B1 (voteB w.2.2.2.2.2.1)):=by
 obtain ⟨a,b,c,d,e,xs,g,u⟩:=w
 have hl:List.length xs≤1048576:=hl
 show F18 ((a,(b,(c,(d,(e,(xs,(g,u))))))),())=some (B1 (voteB xs))
 have inner:∀i (hi:i<xs.length),loopF (F18.b1 ((i:Int),()) ((a,(b,(c,(d,(e,(xs,(g,u))))))),())) ((0:Int),())=some (bif allI (fun _ z=> !voteConf xs[i] z) 0 (xs.take i) then Sum.inl ((i:Int),()) else Sum.inr (.inr (.inr (B1 false)))):=by
  intro i hi
  refine loopAll (S:=Int×Unit) (xs.take i) (fun _ z=> !voteConf xs[i] z) (fun k=>(k,())) _ _ (fun k hk=>?_) ?_
  ·have hk':k<i:=by simp at hk;omega
   unfold F18.b1
   dsimp only
   rw [iLt_true (by omega),cond_true,getI_lt hi,Option.bind_some,getI_lt (show k<xs.length by omega),Option.bind_some,iAdd_small (by omega) (by omega),List.getElem_take]
   exact voteConf_a
  ·have:(xs.take i).length=i:=by simp;omega
   rw [this]
   unfold F18.b1
   dsimp only
   rw [iLt_false (Int.le_refl _),cond_false]
 have outer:loopF (F18.b0 ((a,(b,(c,(d,(e,(xs,(g,u))))))),())) ((0:Int),())=some (bif voteB xs then Sum.inl ((xs.length:Int),()) else Sum.inr (B1 false)):=by
  refine loopAll (S:=Int×Unit) xs (fun i y=>allI (fun _ z=> !voteConf y z) 0 (xs.take i)) (fun k=>(k,())) _ _ (fun i hi=>?_) ?_
  ·unfold F18.b0
   dsimp only
   rw [iLt_true (by omega),cond_true,inner i hi,Option.bind_some,iAdd_small (by omega) (by omega)]
   cases allI (fun _ z=> !voteConf xs[i] z) 0 (xs.take i)<;>rfl
  ·unfold F18.b0
   dsimp only
   rw [iLt_false (Int.le_refl _),cond_false]
   try rfl
 unfold F18
 rw [outer]
 cases voteB xs<;>rfl
theorem i_oneVote (w:DWo) (hl:List.length w.2.2.2.2.2.1≤1048576):F11 (w,())=some (B1 (voteB w.2.2.2.2.2.1)):=by
 obtain ⟨a,b,c,d,e,xs,g,u⟩:=w
 have hl:List.length xs≤1048576:=hl
 show F11 ((a,(b,(c,(d,(e,(xs,(g,u))))))),())=some (B1 (voteB xs))
 have inner:∀i (hi:i<xs.length),loopF (F11.b1 ((i:Int),()) ((a,(b,(c,(d,(e,(xs,(g,u))))))),()) xs[i]) ((0:Int),())=some (bif allI (fun _ z=> !voteConf xs[i] z) 0 (xs.take i) then Sum.inl ((i:Int),()) else Sum.inr (.inr (.inr (B1 false)))):=by
  intro i hi
  have hlen:(xs.take i).length=i:=by simp;omega
  refine loopAll (S:=Int×Unit) (xs.take i) (fun _ z=> !voteConf xs[i] z) (fun k=>(k,())) _ _ (fun k hk=>?_) ?_
  ·unfold F11.b1
   dsimp only
   rw [Int.toNat_natCast,Nat.sub_zero,List.drop_zero,iLt_true (by omega),cond_true,getI_lt hk,Option.bind_some,iAdd_small (by omega) (by omega)]
   exact voteConf_b
  ·rw [hlen]
   unfold F11.b1
   dsimp only
   rw [Int.toNat_natCast,Nat.sub_zero,List.drop_zero,iLt_false (by omega),cond_false]
 have outer:loopF (F11.b0 ((a,(b,(c,(d,(e,(xs,(g,u))))))),())) ((0:Int),())=some (bif voteB xs then Sum.inl ((xs.length:Int),()) else Sum.inr (B1 false)):=by
  refine loopAll (S:=Int×Unit) xs (fun i y=>allI (fun _ z=> !voteConf y z) 0 (xs.take i)) (fun k=>(k,())) _ _ (fun i hi=>?_) ?_
  ·unfold F11.b0
   dsimp only
   have hcut:cutHi (i:Int) (List.length xs)=true:=by unfold cutHi;simp only [decide_eq_true_eq];omega
   rw [iLt_true (by omega),cond_true,getI_lt hi,Option.bind_some,hcut,cond_true,inner i hi,Option.bind_some,iAdd_small (by omega) (by omega)]
   cases allI (fun _ z=> !voteConf xs[i] z) 0 (xs.take i)<;>rfl
  ·unfold F11.b0
   dsimp only
   rw [iLt_false (Int.le_refl _),cond_false]
   try rfl
 unfold F11
 rw [outer]
 cases voteB xs<;>rfl
theorem voteB_of {w:DWo} (h:OneI w):voteB (wSig w)=true:=by
 unfold voteB
 refine allI_of (fun i hi=>allI_of (fun j hj=>?_))
 have hj':j<(wSig w).length:=by rw [List.length_take] at hj;omega
 rw [List.getElem_take]
 cases hc:voteConf (wSig w)[i] (wSig w)[j] with
 |false=>rfl
 |true =>
  exfalso
  unfold voteConf at hc
  simp only [Bool.and_eq_true,Bool.not_eq_true',iEq_iff,sEq_iff] at hc
  obtain ⟨c1,c2,c3,c4,c5,c6⟩:=hc
  have:=h.one _ (List.getElem_mem hi) _ (List.getElem_mem hj') c1 c2 c3 c4 c5
  simp only [iEq,decide_eq_false_iff_not] at c6
  exact c6 this
theorem L_Once (code:List D5):F4 ((code,()),())=some ((true,()),()):=by
 unfold F4
 refine bind_eq (show F7 ((code,()),())=some (B1 (iLt 1048576 (List.length code:Int))) from rfl) ?_
 cases hbig:iLt (1048576:Int) (List.length code:Int) with
 |true=>rfl
 |false =>
  have hb:=iLt_no.1 hbig
  obtain ⟨y2,e2,fs,e,foul,K,hf,hK,hD⟩:=y_world code (by omega)
  refine no_then rfl (bind_eq e2 ?_)
  obtain ⟨w,u⟩:=y2
  have hsl:(wSig w).length≤1048576:=Nat.le_trans hD.wi.sl (by omega)
  have hfl:L63 (wFoul w).length:=by have:(wFoul w).length≤20:=hD.wi.foL;unfold L63;omega
  have lp:=loopF_trace (f:=F4.b0 (w,u)) (fun k=>((k:Int),())) (wSig w).length (e:=Sum.inl (((wSig w).length:Int),())) (fun k hk=>by
   unfold F4.b0
   refine lt_then (Int.ofNat_lt.2 hk) (bind_eq (getI_lt hk) (bind_eq (getN_lt hk) (bind_eq (l_among (wFoul w) _ hfl) ?_)))
   obtain ⟨n,hn,hw⟩:=hD.one.who _ (List.getElem_mem hk)
   have hnf:hasB (wFoul w) (wSig w)[k].2.2.2.2.1=false:=by rw [hw];exact hD.wr.nm.nf n hn
   rw [←nxt (n:=(wSig w).length) hk (by unfold L63;omega)]
   exact no_then hnf rfl) (by
   unfold F4.b0
   exact lt_else (Int.le_refl _) rfl)
  have hv:=voteB_of hD.one
  refine bind_eq lp (bind_eq (i_oneVote w hsl) ?_)
  show (bif voteB (wSig w) then _ else _)=_
  rw [hv]
  exact bind_eq (s_oneVote w hsl) (by show some (((voteB (wSig w),()),()):(Bool×Unit)×Unit)=_;rw [hv])
end Go.Proofs.YthjkikiepdnimaaGreat
-- no more blanks than needed
