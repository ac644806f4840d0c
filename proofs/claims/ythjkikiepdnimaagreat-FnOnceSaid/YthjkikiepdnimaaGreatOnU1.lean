/- Plain laws, part 1: what the program's functions and the reference's compute, told as plain words. Conditions: none. -/
import Derived.Test.YthjkikiepdnimaaGreatOnH
import Derived.Test.YthjkikiepdnimaaGreatTm4
namespace Go.Proofs.YthjkikiepdnimaaGreat
open Go Go.Tm
set_option linter.unusedVariables false
set_option maxRecDepth 100000
theorem s_in (n lo hi:Int):F121 ((n,()),((lo,()),((hi,()),())))=some (B1 (inR n lo hi)):=inR_ite
def letter (b:UInt8):Bool:=inR (UInt8.toNat b:Int) 97 122||inR (UInt8.toNat b:Int) 48 57
def nameB (s:ByteArray):Bool:=s.data.toList.all letter&&inR (s.size:Int) 1 8
theorem s_name (s:ByteArray) (hs:L63 s.size):F128 ((s,()),())=some (B1 (nameB s)):=by
 have lp:=loopAllP (S:=Int×Unit) s.data.toList letter (f:=F128.b0 ((s,()),())) (fun k=>(k,())) (Sum.inl ((s.data.toList.length:Int),())) (Sum.inr (B1 false)) (fun i hi=>?_) ?_
 ·unfold F128 nameB
  refine bind_eq lp ?_
  cases s.data.toList.all letter
  ·rfl
  ·exact (congrArg (fun o=>Option.bind o _) (s_in _ _ _)).trans rfl
 ·unfold F128.b0 letter
  refine lt_then (Int.ofNat_lt.2 hi) (bind_eq (getI_lt hi) (bind_eq (s_in _ _ _) ?_))
  rw [←nxt hi hs,wrap_byte]
  cases inR (UInt8.toNat s.data.toList[i]:Int) 97 122
  ·refine bind_eq (getI_lt hi) (bind_eq (s_in _ _ _) ?_)
   rw [wrap_byte]
   cases inR (UInt8.toNat s.data.toList[i]:Int) 48 57<;>rfl
  ·rfl
 ·unfold F128.b0
  exact lt_else (Int.le_refl _) rfl
def namP (xs:List D9) (i:Nat) (y:D9):Bool:=nameB y.1&&behind (fun z y=>sLt z.1 y.1) xs i y
def namesB (xs:List D9):Bool:=allI (namP xs) 0 xs&&iLe (xs.length:Int) 20
theorem s_names (xs:List D9) (hx:(Ty.sl e9).Ok xs):F70 ((xs,()),())=some (B1 (namesB xs)):=by
 have hl:L63 xs.length:=hx.1
 have lp:=loopAll (S:=Int×Unit) xs (namP xs) (f:=F70.b0 ((xs,()),())) (fun k=>(k,())) (Sum.inl ((xs.length:Int),())) (Sum.inr (B1 false)) (fun i hi=>?_) ?_
 ·unfold F70 namesB
  refine bind_eq lp ?_
  cases allI (namP xs) 0 xs<;>rfl
 ·unfold F70.b0 namP
  refine lt_then (Int.ofNat_lt.2 hi) (bind_eq (getI_lt hi) (bind_eq (s_name _ (Ok_mem hx.2 (List.getElem_mem hi)).1) (goN ?_)))
  rw [←nxt hi hl]
  exact asc_step hi hl (fun z=>bind_eq (getI_lt hi) goE)
 ·unfold F70.b0
  exact lt_else (Int.le_refl _) rfl
def valP (xs:List D97) (i:Nat) (y:D97):Bool:=nameB y.1&&(inR y.2.1 1 1000000&&behind (fun z y=>sLt z.1 y.1) xs i y)
def setB (xs:List D97):Bool:=allI (valP xs) 0 xs&&inR (xs.length:Int) 1 12
theorem s_set (xs:List D97) (hx:(Ty.sl e97).Ok xs):F132 ((xs,()),())=some (B1 (setB xs)):=by
 have hl:L63 xs.length:=hx.1
 have lp:=loopAll (S:=Int×Unit) xs (valP xs) (f:=F132.b0 ((xs,()),())) (fun k=>(k,())) (Sum.inl ((xs.length:Int),())) (Sum.inr (B1 false)) (fun i hi=>?_) ?_
 ·unfold F132 setB
  refine bind_eq lp ?_
  cases allI (valP xs) 0 xs
  ·rfl
  ·exact (congrArg (fun o=>Option.bind o _) (s_in _ _ _)).trans rfl
 ·unfold F132.b0 valP
  refine lt_then (Int.ofNat_lt.2 hi) (bind_eq (getI_lt hi) (bind_eq (s_name _ (Ok_mem hx.2 (List.getElem_mem hi)).1) (goN (bind_eq (getI_lt hi) (bind_eq (s_in _ _ _) (goN ?_))))))
  rw [←nxt hi hl]
  exact asc_step hi hl (fun z=>bind_eq (getI_lt hi) goE)
 ·unfold F132.b0
  exact lt_else (Int.le_refl _) rfl
def inB (l:List D97) (s:ByteArray):Bool:=l.any (fun v=>sEq v.1 s)
def hasB (l:List D9) (s:ByteArray):Bool:=l.any (fun v=>sEq v.1 s)
theorem s_isin (l:List D97) (s:ByteArray) (hl:L63 l.length):F164 ((l,()),((s,()),()))=some (B1 (inB l s)):=by
 have lp:=loopHas (S:=Int×Unit) l (fun v=>sEq v.1 s) (f:=F164.b0 ((l,()),((s,()),()))) (fun k=>(k,())) (Sum.inl ((l.length:Int),())) (Sum.inr (B1 true)) (fun i hi=>?_) ?_
 ·unfold F164 inB
  refine bind_eq lp ?_
  cases l.any (fun v=>sEq v.1 s)<;>rfl
 ·unfold F164.b0
  refine lt_then (Int.ofNat_lt.2 hi) (bind_eq (getI_lt hi) ?_)
  rw [←nxt hi hl]
 ·unfold F164.b0
  exact lt_else (Int.le_refl _) rfl
theorem s_has (l:List D9) (s:ByteArray) (hl:L63 l.length):F114 ((l,()),((s,()),()))=some (B1 (hasB l s)):=by
 have lp:=loopHas (S:=Int×Unit) l (fun v=>sEq v.1 s) (f:=F114.b0 ((l,()),((s,()),()))) (fun k=>(k,())) (Sum.inl ((l.length:Int),())) (Sum.inr (B1 true)) (fun i hi=>?_) ?_
 ·unfold F114 hasB
  refine bind_eq lp ?_
  cases l.any (fun v=>sEq v.1 s)<;>rfl
 ·unfold F114.b0
  refine lt_then (Int.ofNat_lt.2 hi) (bind_eq (getI_lt hi) ?_)
  rw [←nxt hi hl]
 ·unfold F114.b0
  exact lt_else (Int.le_refl _) rfl
def allInB (l:List D97) (names:List D9):Bool:=names.all (fun n=>inB l n.1)
theorem s_all (l:List D97) (names:List D9) (hl:L63 l.length) (hn:(Ty.sl e9).Ok names):F215 ((l,()),((names,()),()))=some (B1 (allInB l names&&namesB names)):=by
 have lp:=loopAllP (S:=Int×Unit) names (fun n=>inB l n.1) (f:=F215.b0 ((l,()),((names,()),()))) (fun k=>(k,())) (Sum.inl ((names.length:Int),())) (Sum.inr (B1 false)) (fun i hi=>?_) ?_
 ·unfold F215 allInB
  refine bind_eq lp ?_
  cases names.all (fun n=>inB l n.1)
  ·rfl
  ·exact (congrArg (fun o=>Option.bind o _) (s_names _ hn)).trans rfl
 ·unfold F215.b0
  refine lt_then (Int.ofNat_lt.2 hi) (bind_eq (getI_lt hi) (bind_eq (s_isin _ _ hl) ?_))
  rw [←nxt hi hn.1]
  exact goE
 ·unfold F215.b0
  exact lt_else (Int.le_refl _) rfl
def weight (xs:List D97) (names:List D9):Int:=xs.foldl (fun n v=>bif hasB names v.1 then iAdd .i64 n v.2.1 else n) 0
def total (xs:List D97):Int:=xs.foldl (fun n v=>iAdd .i64 n v.2.1) 0
def quorumB (l:List D97) (names:List D9):Bool:=iLt (iMul .i64 2 (total l)) (iMul .i64 3 (weight l names))
theorem s_weight (xs:List D97) (names:List D9) (hx:L63 xs.length) (hl:L63 names.length):F66 ((xs,()),((names,()),()))=some (I1 (weight xs names)):=by
 have lp:=loopFold0 (S:=Int×(Int×Unit)) xs (fun n v=>bif hasB names v.1 then iAdd .i64 n v.2.1 else n) (f:=F66.b0 ((xs,()),((names,()),()))) (fun a i=>(a,(i,()))) (fun a=>Sum.inl (a,((xs.length:Int),()))) 0 (fun i hi a=>?_) (fun a=>?_)
 ·unfold F66
  exact bind_eq lp rfl
 ·unfold F66.b0
  refine lt_then (Int.ofNat_lt.2 hi) (bind_eq (getI_lt hi) (bind_eq (s_has _ _ hl) ?_))
  rw [←nxt hi hx]
  dsimp only
  cases hasB names xs[i].1
  ·rfl
  ·exact bind_eq (getI_lt hi) rfl
 ·unfold F66.b0
  exact lt_else (Int.le_refl _) rfl
theorem s_total (xs:List D97) (hx:L63 xs.length):F67 ((xs,()),())=some (I1 (total xs)):=by
 have lp:=loopFold0 (S:=Int×(Int×Unit)) xs (fun n v=>iAdd .i64 n v.2.1) (f:=F67.b0 ((xs,()),())) (fun a i=>(a,(i,()))) (fun a=>Sum.inl (a,((xs.length:Int),()))) 0 (fun i hi a=>?_) (fun a=>?_)
 ·unfold F67
  exact bind_eq lp rfl
 ·unfold F67.b0
  refine lt_then (Int.ofNat_lt.2 hi) (bind_eq (getI_lt hi) ?_)
  rw [←nxt hi hx]
 ·unfold F67.b0
  exact lt_else (Int.le_refl _) rfl
theorem s_quorum (l:List D97) (names:List D9) (hl:L63 l.length) (hn:L63 names.length):F216 ((l,()),((names,()),()))=some (B1 (quorumB l names)) :=
 bind_eq (s_weight l names hl hn) (bind_eq (s_total l hl) rfl)
def leafP (xs:List D145) (i:Nat) (y:D145):Bool:=inR y.1 1 1000000&&(inR y.2.1 0 1000&&behind (fun z y=>iLt z.2.1 y.2.1) xs i y)
def leavesB (xs:List D145):Bool:=allI (leafP xs) 0 xs
def acctB (a:D120):Bool:=nameB a.1&&(inR a.2.1 0 1000000&&(inR a.2.2.1 0 10000&&(inR a.2.2.2.1 0 1000000&&(iLe (List.length a.2.2.2.2.1:Int) 4&&leavesB a.2.2.2.2.1))))
abbrev AOk (a:D120):Prop:=e120.Ok a
theorem AOk.ls {a:D120} (h:AOk a):(Ty.sl e145).Ok a.2.2.2.2.1:=h.2.2.2.2.1
theorem s_acct (a:D120) (h:AOk a):F175 (a,())=some (B1 (acctB a)):=by
 have hl:L63 (List.length a.2.2.2.2.1):=h.ls.1
 have lp:=loopAll (S:=Int×Unit) a.2.2.2.2.1 (leafP a.2.2.2.2.1) (f:=F175.b0 (a,())) (fun k=>(k,())) (Sum.inl ((List.length a.2.2.2.2.1:Int),())) (Sum.inr (B1 false)) (fun i hi=>?_) ?_
 ·unfold F175 acctB leavesB
  rw [iLe_lt]
  refine bind_eq (s_name _ h.1) (andN (bind_eq (s_in _ _ _) (andN (bind_eq (s_in _ _ _) (andN (bind_eq (s_in _ _ _) (andN (noT (bind_eq lp ?_)))))))))
  cases allI (leafP a.2.2.2.2.1) 0 a.2.2.2.2.1<;>rfl
 ·unfold F175.b0 leafP
  refine lt_then (Int.ofNat_lt.2 hi) (bind_eq (getI_lt hi) (bind_eq (s_in _ _ _) (goN (bind_eq (s_in _ _ _) (goN ?_)))))
  rw [←nxt hi hl]
  exact asc_step hi hl (fun z=>le_ite)
 ·unfold F175.b0
  exact lt_else (Int.le_refl _) rfl
def addL (n:Int) (xs:List D145):Int:=xs.foldl (fun s y=>iAdd .i64 s y.1) n
theorem addL_add (n m:Int):∀xs:List D145,addL (iAdd .i64 n m) xs=iAdd .i64 n (addL m xs)
 | []=>rfl
 |x::r=>by
  show addL (iAdd .i64 (iAdd .i64 n m) x.1) r=iAdd .i64 n (addL (iAdd .i64 m x.1) r)
  rw [iAdd_assoc,addL_add]
def ofA (a:D120):Int:=addL (iAdd .i64 a.2.1 a.2.2.2.1) a.2.2.2.2.1
def wealth (xs:List D120):Int:=xs.foldl (fun s y=>iAdd .i64 s (ofA y)) 0
theorem s_of (a:D120) (h:AOk a):F213 (a,())=some (I1 (ofA a)):=by
 have hl:L63 (List.length a.2.2.2.2.1):=h.ls.1
 have lp:=loopFold0 (S:=Int×(Int×Unit)) a.2.2.2.2.1 (fun s y=>iAdd .i64 s y.1) (f:=F213.b0 (a,())) (fun a i=>(a,(i,()))) (fun s=>Sum.inl (s,((List.length a.2.2.2.2.1:Int),()))) (iAdd .i64 a.2.1 a.2.2.2.1) (fun i hi s=>?_) (fun s=>?_)
 ·unfold F213
  exact bind_eq lp rfl
 ·unfold F213.b0
  refine lt_then (Int.ofNat_lt.2 hi) (bind_eq (getI_lt hi) ?_)
  rw [←nxt hi hl]
 ·unfold F213.b0
  exact lt_else (Int.le_refl _) rfl
theorem s_wealth (xs:List D120) (hx:(Ty.sl e120).Ok xs):F176 ((xs,()),())=some (I1 (wealth xs)):=by
 have lp:=loopFold0 (S:=Int×(Int×Unit)) xs (fun s y=>iAdd .i64 s (ofA y)) (f:=F176.b0 ((xs,()),())) (fun a i=>(a,(i,()))) (fun s=>Sum.inl (s,((xs.length:Int),()))) 0 (fun i hi s=>?_) (fun s=>?_)
 ·unfold F176
  exact bind_eq lp rfl
 ·unfold F176.b0
  refine lt_then (Int.ofNat_lt.2 hi) (bind_eq (getI_lt hi) (bind_eq (s_of _ (Ok_mem hx.2 (List.getElem_mem hi))) ?_))
  rw [←nxt hi hx.1]
 ·unfold F176.b0
  exact lt_else (Int.le_refl _) rfl
def acctP (xs:List D120) (i:Nat) (y:D120):Bool:=acctB y&&behind (fun z y=>sLt z.1 y.1) xs i y
def acctsB (xs:List D120):Bool:=allI (acctP xs) 0 xs&&(iLe (xs.length:Int) 12&&iLe (wealth xs) 1000000)
abbrev DLe:Type:=Int×(List D120×Unit)
def ledgerB (x:DLe):Bool:=inR x.1 0 900&&acctsB x.2.1
theorem s_accts (xs:List D120) (hx:(Ty.sl e120).Ok xs):F127 ((xs,()),())=some (B1 (acctsB xs)):=by
 have hl:L63 xs.length:=hx.1
 have lp:=loopAll (S:=Int×Unit) xs (acctP xs) (f:=F127.b0 ((xs,()),())) (fun k=>(k,())) (Sum.inl ((xs.length:Int),())) (Sum.inr (B1 false)) (fun i hi=>?_) ?_
 ·unfold F127 acctsB
  refine bind_eq lp ?_
  cases allI (acctP xs) 0 xs
  ·rfl
  ·exact (andY (b:=iLe (xs.length:Int) 12) (bind_eq (s_wealth xs hx) rfl)).trans rfl
 ·unfold F127.b0 acctP
  refine lt_then (Int.ofNat_lt.2 hi) (bind_eq (getI_lt hi) (bind_eq (s_acct _ (Ok_mem hx.2 (List.getElem_mem hi))) (goN ?_)))
  rw [←nxt hi hl]
  exact asc_step hi hl (fun z=>bind_eq (getI_lt hi) goE)
 ·unfold F127.b0
  exact lt_else (Int.le_refl _) rfl
theorem s_ledger (x:DLe) (hx:(Ty.sl e120).Ok x.2.1):F68 (x,())=some (B1 (ledgerB x)):=bind_eq (s_in _ _ _) (andY (bind_eq (s_accts _ hx) rfl))
def setStep (s:List D97) (y:D120):List D97:=bif iLe 5 y.2.2.2.1 then s++([(y.1,(y.2.2.2.1,()))]:List D97) else s
def setL (xs:List D120):List D97:=xs.foldl setStep []
theorem setStep_len (s:List D97) (y:D120) {i:Nat} (h:s.length≤i):(setStep s y).length≤i+1:=by
 unfold setStep
 cases iLe 5 y.2.2.2.1 with
 |false=>exact Nat.le_succ_of_le h
 |true=>simp only [cond_true,List.length_append,List.length_cons,List.length_nil];omega
theorem setL_eq (xs:List D120):setL xs=(xs.filter (fun y=>iLe 5 y.2.2.2.1)).map (fun y=>(y.1,(y.2.2.2.1,()))):=by
 have:∀(xs:List D120) (s:List D97),xs.foldl setStep s=s++(xs.filter (fun y=>iLe 5 y.2.2.2.1)).map (fun y=>(y.1,(y.2.2.2.1,()))):=by
  intro xs
  induction xs with
  |nil=>intro s;simp
  |cons x r ih =>
   intro s
   rw [List.foldl_cons,ih,List.filter_cons]
   unfold setStep
   cases iLe 5 x.2.2.2.1<;>simp
 have h:=this xs []
 rw [List.nil_append] at h
 exact h
theorem setL_len (xs:List D120):(setL xs).length≤xs.length:=by rw [setL_eq,List.length_map];exact List.length_filter_le _ _
theorem setL_mem {xs:List D120} {y:D97} (h:y∈setL xs):∃a∈xs,y=(a.1,(a.2.2.2.1,())):=by
 rw [setL_eq,List.mem_map] at h
 obtain ⟨a,ha,rfl⟩:=h
 exact ⟨a,(List.mem_filter.1 ha).1,rfl⟩
theorem setL_ok (xs:List D120) (hx:(Ty.sl e120).Ok xs):(Ty.sl e97).Ok (setL xs) :=
 Ok_of (Nat.le_trans (setL_len xs) hx.1) (fun y hy=>by
  obtain ⟨a,ha,e⟩:=setL_mem hy
  have hao:AOk a:=Ok_mem hx.2 ha
  rw [e]
  exact ⟨hao.1,hao.2.2.2.1,trivial⟩)
def setOfL (x:DLe):List D97:=bif ledgerB x then setL x.2.1 else []
theorem s_set7 (x:DLe) (hl:W1 x.2.1.length):F69 (x,())=some ((setL x.2.1,()),()):=by
 have lp:=loopFold (S:=List D97×(Int×Unit)) (f:=F69.b0 (x,())) x.2.1 setStep (fun i s=>s.length≤i) (fun a i=>(a,(i,()))) (fun a=>Sum.inl (a,((x.2.1.length:Int),()))) [] (Nat.le_refl _) (fun i hi a ha=>⟨?_,setStep_len _ _ ha⟩) (fun a _=>?_)
 ·unfold F69
  exact bind_eq lp.1 rfl
 ·unfold F69.b0 setStep
  refine lt_then (Int.ofNat_lt.2 hi) (bind_eq (getI_lt hi) ?_)
  rw [←nxt hi hl.l]
  dsimp only
  cases iLe 5 x.2.1[i].2.2.2.1 with
  |false=>rfl
  |true=>exact bind_eq (getI_lt hi) (bind_eq (getI_lt hi) (room_is (n:=a.length+1) (by unfold W1 at hl;omega) (by decide) (by decide) rfl))
 ·unfold F69.b0
  exact lt_else (Int.le_refl _) rfl
theorem setOf_ok (x:DLe) (hx:(Ty.sl e120).Ok x.2.1):(Ty.sl e97).Ok (setOfL x):=by
 unfold setOfL
 cases ledgerB x with
 |true=>exact setL_ok _ hx
 |false=>exact Ok_nil
theorem s_setOf (x:DLe) (hl:W1 x.2.1.length) (hx:(Ty.sl e120).Ok x.2.1):F31 (x,())=some ((setOfL x,()),()):=by
 unfold F31 setOfL
 exact bind_eq (s_ledger _ hx) ((goEq (g:=some ((setL x.2.1,()),())) (bind_eq (s_set7 x hl) rfl)).trans (by cases ledgerB x<;>rfl))
abbrev DQc:Type:=Int×(Int×(List D9×Unit))
abbrev DTc:Type:=Int×(List D9×(List D3×Unit))
def rootB (q:DQc):Bool:=iEq q.1 0&&(iEq q.2.1 (-1)&&iEq (List.length q.2.2.1:Int) 0)
def noneB (t:DTc):Bool:=iEq t.1 0&&(iEq (List.length t.2.1:Int) 0&&iEq (List.length t.2.2.1:Int) 0)
abbrev QOk (q:DQc):Prop:=(Ty.sl e9).Ok q.2.2.1
abbrev TOk (t:DTc):Prop:=(Ty.sl e9).Ok t.2.1∧L63 (List.length t.2.2.1)
def qcF (q:DQc) (round block:Int):Bool:=rootB q||(inR q.1 1 round&&(inR q.2.1 0 block&&namesB q.2.2.1))
def tcF (t:DTc) (round:Int):Bool:=noneB t||(inR t.1 1 round&&(namesB t.2.1&&(iEq (List.length t.2.2.1:Int) (List.length t.2.1:Int)&&t.2.2.1.all (fun h=>inR h.1 0 (iSub .i64 t.1 1)))))
def qcB (l:List D97) (q:DQc):Bool:=rootB q||(inR q.1 1 10000&&(inR q.2.1 0 100000&&(namesB q.2.2.1&&(allInB l q.2.2.1&&quorumB l q.2.2.1))))
def tcB (l:List D97) (t:DTc):Bool:=noneB t||(inR t.1 1 10000&&(namesB t.2.1&&(iEq (List.length t.2.2.1:Int) (List.length t.2.1:Int)&&(t.2.2.1.all (fun h=>inR h.1 0 (iSub .i64 t.1 1))&&(allInB l t.2.1&&quorumB l t.2.1)))))
theorem s_root (q:DQc):F134 (q,())=some (B1 (rootB q)):=by
 unfold F134 rootB
 cases iEq q.1 0<;>cases iEq q.2.1 (-1)<;>rfl
theorem s_none (t:DTc):F136 (t,())=some (B1 (noneB t)):=by
 unfold F136 noneB
 cases iEq t.1 0<;>cases iEq (List.length t.2.1:Int) 0<;>rfl
theorem s_qc (l:List D97) (q:DQc) (hl:L63 l.length) (hq:QOk q):F183 ((l,()),(q,()))=some (B1 (qcB l q)):=by
 unfold F183 qcB
 refine bind_eq (s_root q) (orY (bind_eq (s_in _ _ _) (andY (bind_eq (s_in _ _ _) (andY ?_)))))
 refine bind_eq (s_all l _ hl hq) ((andY (bind_eq (s_quorum l _ hl hq.1) rfl)).trans ?_)
 rw [Bool.and_comm (allInB l _) (namesB _),Bool.and_assoc]
theorem s_tc (l:List D97) (t:DTc) (hl:L63 l.length) (h:TOk t):F184 ((l,()),(t,()))=some (B1 (tcB l t)):=by
 have hh:L63 (List.length t.2.2.1):=h.2
 have lp:=loopAllP (S:=Int×Unit) t.2.2.1 (fun y=>inR y.1 0 (iSub .i64 t.1 1)) (f:=F184.b0 ((l,()),(t,()))) (fun k=>(k,())) (Sum.inl ((t.2.2.1.length:Int),())) (Sum.inr (B1 false)) (fun i hi=>?_) ?_
 ·unfold F184
  refine (bind_eq (s_none t) (orY (bind_eq (s_in _ _ _) (andN (bind_eq (s_all l _ hl h.1) (andN (bind_eq (s_quorum l _ hl h.1.1) (andN (andN (b:=iEq (List.length t.2.2.1:Int) (List.length t.2.1:Int)) (c:=t.2.2.1.all (fun y=>inR y.1 0 (iSub .i64 t.1 1))) (bind_eq lp ?_)))))))))).trans ?_
  ·cases t.2.2.1.all (fun y=>inR y.1 0 (iSub .i64 t.1 1))<;>rfl
  ·unfold tcB
   cases noneB t<;>cases inR t.1 1 10000<;>cases namesB t.2.1<;>cases iEq (List.length t.2.2.1:Int) (List.length t.2.1:Int)<;>cases t.2.2.1.all (fun y=>inR y.1 0 (iSub .i64 t.1 1))<;>cases allInB l t.2.1<;>cases quorumB l t.2.1<;>rfl
 ·unfold F184.b0
  refine lt_then (Int.ofNat_lt.2 hi) (bind_eq (getI_lt hi) (bind_eq (s_in _ _ _) ?_))
  rw [←nxt hi hh]
  exact goE
 ·unfold F184.b0
  exact lt_else (Int.le_refl _) rfl
def txB (t:D110):Bool:=nameB t.2.1&&(inR t.2.2.2.1 1 1000000&&(inR t.2.2.2.2.1 0 10000&&(bif iEq t.1 1 then nameB t.2.2.1 else (inR t.1 2 3&&sEq t.2.2.1 ⟨#[]⟩))))
abbrev XOk (t:D110):Prop:=L63 t.2.1.size∧L63 t.2.2.1.size
theorem XOk_mem {l:List D110} (h:(Ty.sl e110).Ok l) {t:D110} (ht:t∈l):XOk t:=⟨(Ok_mem h.2 ht).2.1,(Ok_mem h.2 ht).2.2.1⟩
theorem s_tx (t:D110) (h:XOk t):F131 (t,())=some (B1 (txB t)):=by
 unfold F131 txB
 refine bind_eq (s_name _ h.1) (andN (bind_eq (s_in _ _ _) (andN (bind_eq (s_in _ _ _) (andN ?_)))))
 cases iEq t.1 1
 ·exact bind_eq (s_in _ _ _) and_yes
 ·exact bind_eq (s_name _ h.2) rfl
abbrev DBk:Type:=D71
def bQc (b:DBk):DQc:=(b.2.2.2.2.1,(b.2.2.2.2.2.1,(b.2.2.2.2.2.2.1,())))
def bTc (b:DBk):DTc:=(b.2.2.2.2.2.2.2.1,(b.2.2.2.2.2.2.2.2.1,(b.2.2.2.2.2.2.2.2.2.1,())))
abbrev bTxs (b:DBk):List D110:=b.2.2.2.2.2.2.2.2.2.2.1
abbrev bEnd (b:DBk):Bool:=b.2.2.2.2.2.2.2.2.2.2.2.1
abbrev bNext (b:DBk):List D97:=b.2.2.2.2.2.2.2.2.2.2.2.2.1
abbrev bRoot (b:DBk):ByteArray:=b.2.2.2.2.2.2.2.2.2.2.2.2.2.1
abbrev BOk (b:DBk):Prop:=e71.Ok b
theorem BOk.by_ {b:DBk} (h:BOk b):L63 b.2.2.2.1.size:=h.2.2.2.1
theorem BOk.qc {b:DBk} (h:BOk b):QOk (bQc b):=h.2.2.2.2.2.2.1
theorem BOk.tc {b:DBk} (h:BOk b):TOk (bTc b):=⟨h.2.2.2.2.2.2.2.2.1,h.2.2.2.2.2.2.2.2.2.1.1⟩
theorem BOk.txs {b:DBk} (h:BOk b):(Ty.sl e110).Ok (bTxs b):=h.2.2.2.2.2.2.2.2.2.2.1
theorem BOk.next {b:DBk} (h:BOk b):(Ty.sl e97).Ok (bNext b):=h.2.2.2.2.2.2.2.2.2.2.2.2.1
def bodyB (b:DBk):Bool:=bif bEnd b then (setB (bNext b)&&iEq ((bRoot b).size:Int) 32) else (iEq (List.length (bNext b):Int) 0&&sEq (bRoot b) ⟨#[]⟩)
def blockB (b:DBk):Bool:=inR b.1 0 100000&&(inR b.2.1 0 900&&(inR b.2.2.1 1 10000&&(nameB b.2.2.2.1&&(qcF (bQc b) (iSub .i64 b.2.2.1 1) (iSub .i64 b.1 1)&&(tcF (bTc b) (iSub .i64 b.2.2.1 1) &&
 (!iLt 4 (List.length (bTxs b):Int)&&((bTxs b).all txB&&bodyB b)))))))
theorem s_qcf (b:DBk) (h:BOk b):F129 (b,())=some (B1 (qcF (bQc b) (iSub .i64 b.2.2.1 1) (iSub .i64 b.1 1))):=by
 unfold F129 qcF
 exact bind_eq (s_root (bQc b)) (orY (bind_eq (s_in _ _ _) (andY (bind_eq (s_in _ _ _) (andY (bind_eq (s_names _ h.qc) rfl))))))
theorem s_tcf (b:DBk) (h:BOk b):F130 (b,())=some (B1 (tcF (bTc b) (iSub .i64 b.2.2.1 1))):=by
 have hl:L63 (List.length (bTc b).2.2.1):=h.tc.2
 have lp:=loopAllP (S:=Int×Unit) (bTc b).2.2.1 (fun y=>inR y.1 0 (iSub .i64 (bTc b).1 1)) (f:=F130.b0 (b,())) (fun k=>(k,())) (Sum.inl (((bTc b).2.2.1.length:Int),())) (Sum.inr (B1 false)) (fun i hi=>?_) ?_
 ·unfold F130 tcF
  refine bind_eq (s_none (bTc b)) (orY (bind_eq (s_in _ _ _) (andN (bind_eq (s_names _ h.tc.1) (andN ?_)))))
  refine (andN (b:=iEq (List.length (bTc b).2.2.1:Int) (List.length (bTc b).2.1:Int)) (bind_eq lp ?_))
  cases (bTc b).2.2.1.all (fun y=>inR y.1 0 (iSub .i64 (bTc b).1 1))<;>rfl
 ·unfold F130.b0
  refine lt_then (Int.ofNat_lt.2 hi) (bind_eq (getI_lt hi) (bind_eq (s_in _ _ _) ?_))
  rw [←nxt hi hl]
  exact goE
 ·unfold F130.b0
  exact lt_else (Int.le_refl _) rfl
theorem s_blk (b:DBk) (h:BOk b):F71 (b,())=some (B1 (blockB b)):=by
 have hl:L63 (bTxs b).length:=h.txs.1
 have lp:=loopAllP (S:=Int×Unit) (bTxs b) txB (f:=F71.b0 (b,())) (fun k=>(k,())) (Sum.inl (((bTxs b).length:Int),())) (Sum.inr (B1 false)) (fun i hi=>?_) ?_
 ·unfold F71 blockB
  refine bind_eq (s_in _ _ _) (andN (bind_eq (s_in _ _ _) (andN (bind_eq (s_in _ _ _) (andN (bind_eq (s_name _ h.by_) (andN (bind_eq (s_qcf b h) (andN (bind_eq (s_tcf b h) (andN (noT (bind_eq lp ?_)))))))))))))
  cases (bTxs b).all txB
  ·rfl
  ·unfold bodyB
   rw [Bool.true_and]
   dsimp only [cond_true,Sum.elim_inl,bEnd]
   cases b.2.2.2.2.2.2.2.2.2.2.2.1
   ·exact and_yes
   ·exact bind_eq (s_set _ h.next) and_yes
 ·unfold F71.b0
  refine lt_then (Int.ofNat_lt.2 hi) (bind_eq (getI_lt hi) (bind_eq (s_tx _ (XOk_mem h.txs (List.getElem_mem hi))) ?_))
  rw [←nxt hi hl]
  exact goE
 ·unfold F71.b0
  exact lt_else (Int.le_refl _) rfl
theorem s_cqc (q:DQc) (h:W1 (List.length q.2.2.1)):F161 (q,())=some (q,()):=by
 unfold F161
 exact room_then h (by decide) (by decide) rfl
theorem s_ctc (t:DTc) (h:W1 (List.length t.2.1)) (h2:W1 (List.length t.2.2.1)):F200 (t,())=some (t,()):=by
 unfold F200
 exact room_then h (by decide) (by decide) (room_then h2 (by decide) (by decide) rfl)
def BlockL (x:DBk):Prop:=W1 (List.length (bQc x).2.2.1)∧W1 (List.length (bTc x).2.1)∧W1 (List.length (bTc x).2.2.1)∧W1 (List.length (bTxs x))∧W1 (List.length (bNext x))
theorem s_cblk (x:DBk) (h:BlockL x):F169 (x,())=some (x,()):=by
 unfold F169
 exact bind_eq (s_cqc (bQc x) h.1) (bind_eq (s_ctc (bTc x) h.2.1 h.2.2.1) (room_then h.2.2.2.1 (by decide) (by decide) (room_then h.2.2.2.2 (by decide) (by decide) rfl)))
theorem s_cblks (xs:List DBk) (hl:W1 xs.length) (hb:∀x∈xs,BlockL x):F199 ((xs,()),())=some ((xs,()),()):=by
 have lp:=loopCopy (S:=List DBk×(Int×Unit)) xs (f:=F199.b0 ((xs,()),())) (fun a k=>(a,(k,()))) (Sum.inl (xs,((xs.length:Int),()))) (fun i hi=>?_) ?_
 ·unfold F199
  exact bind_eq lp rfl
 ·unfold F199.b0
  refine lt_then (Int.ofNat_lt.2 hi) (bind_eq (getI_lt hi) (bind_eq (s_cblk _ (hb _ (List.getElem_mem hi))) (room_one hi hl (by decide) (by decide) ?_)))
  rw [←nxt hi hl.l];rfl
 ·unfold F199.b0
  exact lt_else (Int.le_refl _) rfl
abbrev DPr:Type:=D59
abbrev pBs (p:DPr):List DBk:=p.2.1
def pQ (p:DPr):DQc:=(p.2.2.1,(p.2.2.2.1,(p.2.2.2.2.1,())))
def ProofL (x:DPr):Prop:=W1 (List.length (pBs x))∧(∀y∈pBs x,BlockL y)∧W1 (List.length (pQ x).2.2.1)
theorem s_cproof (x:DPr) (h:ProofL x):F201 (x,())=some (x,()):=by
 unfold F201
 exact bind_eq (s_cblks _ h.1 h.2.1) (bind_eq (s_cqc (pQ x) h.2.2) rfl)
abbrev DNd:Type:=D55
abbrev nPast (n:DNd):List DPr:=n.2.2.2.2.2.2.2.2.2.2.2.2.2.2.2.2.2.2.2.1
def AcctL (l:List D120):Prop:=W1 l.length∧∀a∈l,W1 (List.length a.2.2.2.2.1)
theorem s_caccts (xs:List D120) (h:AcctL xs):F159 ((xs,()),())=some ((xs,()),()):=by
 have hl:=h.1
 have lp:=loopCopy (S:=List D120×(Int×Unit)) xs (f:=F159.b0 ((xs,()),())) (fun a k=>(a,(k,()))) (Sum.inl (xs,((xs.length:Int),()))) (fun i hi=>?_) ?_
 ·unfold F159
  exact bind_eq lp rfl
 ·unfold F159.b0
  refine lt_then (Int.ofNat_lt.2 hi) (bind_eq (getI_lt hi) (room_then (h.2 _ (List.getElem_mem hi)) (by decide) (by decide) (room_one hi hl (by decide) (by decide) ?_)))
  rw [←nxt hi hl.l];rfl
 ·unfold F159.b0
  exact lt_else (Int.le_refl _) rfl
theorem s_cledger (x:DLe) (h:AcctL x.2.1):F113 (x,())=some (x,()):=bind_eq (s_caccts _ h) rfl
def zeroNd:DNd:=(⟨#[]⟩,(0,(0,([],([],([],(0,(0,(0,(0,([],(0,([],([],(0,([],([],([],([],([],()))))))))))))))))))))
def nodeNewL (name:ByteArray) (x:DLe):DNd:=bif nameB name&&ledgerB x then (name,(x.1,(x.1,(x.2.1,(setL x.2.1,([],(1,(0,(0,(-1,([],(0,([],([],(0,([],([],([],([],([],())))))))))))))))))))) else zeroNd
theorem s_nodeNew (name:ByteArray) (x:DLe) (hn:L63 name.size) (hx:(Ty.sl e120).Ok x.2.1) (h:AcctL x.2.1):F115 ((name,()),(x,()))=some (nodeNewL name x,()):=by
 unfold F115 nodeNewL
 refine (bind_eq (s_name _ hn) (goN (bind_eq (s_ledger x hx) (goEq (bind_eq (s_cledger x h) (bind_eq (s_set7 x h.1) rfl)))))).trans ?_
 cases nameB name&&ledgerB x<;>rfl
abbrev DWo:Type:=D33
def zeroWo:DWo:=(0,([],([],([],([],([],([],())))))))
def nodesL (x:DLe) (foul:List D9):List DNd:=x.2.1.foldl (fun s a=>bif !hasB foul a.1 then s++([nodeNewL a.1 x]:List DNd) else s) []
def worldNewL (x:DLe) (foul:List D9):DWo:=bif ledgerB x&&namesB foul then (x.1,(x.2.1,(foul,(nodesL x foul,([],([],([],()))))))) else zeroWo
theorem nodesL_eq (x:DLe) (foul:List D9):nodesL x foul=(x.2.1.filter (fun a=> !hasB foul a.1)).map (fun a=>nodeNewL a.1 x):=by
 have:∀(xs:List D120) (s:List DNd),xs.foldl (fun s a=>bif !hasB foul a.1 then s++([nodeNewL a.1 x]:List DNd) else s) s=s++(xs.filter (fun a=> !hasB foul a.1)).map (fun a=>nodeNewL a.1 x):=by
  intro xs
  induction xs with
  |nil=>intro s;simp
  |cons a r ih =>
   intro s
   rw [List.foldl_cons,ih,List.filter_cons]
   cases hasB foul a.1<;>simp
 have h:=this x.2.1 []
 rw [List.nil_append] at h
 exact h
theorem add_len {A:Type} {s t:List A} {i:Nat} (h:s.length≤i) (b:Bool) (ht:t.length=1):(bif b then s++t else s).length≤i+1:=by
 cases b with
 |false=>exact Nat.le_succ_of_le h
 |true=>simp only [cond_true,List.length_append,ht];omega
theorem s_worldNew (x:DLe) (foul:List D9) (hf:(Ty.sl e9).Ok foul) (hfw:W1 foul.length) (hx:(Ty.sl e120).Ok x.2.1) (h:AcctL x.2.1):F61 (x,((foul,()),()))=some (worldNewL x foul,()):=by
 have lp:=loopFold (S:=Int×(List DNd×Unit)) (f:=F61.b0 (x,((foul,()),()))) x.2.1 (fun s a=>bif !hasB foul a.1 then s++([nodeNewL a.1 x]:List DNd) else s) (fun i s=>s.length≤i) (fun a i=>(i,(a,()))) (fun a=>Sum.inl ((x.2.1.length:Int),(a,()))) [] (Nat.le_refl _) (fun i hi a ha=>⟨?_,add_len ha _ rfl⟩) (fun a _=>?_)
 ·unfold F61 worldNewL
  refine (bind_eq (s_ledger x hx) (goN (bind_eq (s_names _ hf) (goEq (g:=some ((x.1,(x.2.1,(foul,(nodesL x foul,([],([],([],()))))))),())) (bind_eq (s_cledger x h) (room_then hfw (by decide) (by decide) (bind_eq lp.1 rfl))))))).trans ?_
  cases ledgerB x&&namesB foul<;>rfl
 ·unfold F61.b0
  refine lt_then (Int.ofNat_lt.2 hi) (bind_eq (getI_lt hi) (bind_eq (s_has _ _ hf.1) ?_))
  rw [←nxt hi h.1.l]
  dsimp only
  cases hasB foul x.2.1[i].1 with
  |true=>rfl
  |false =>
   have hao:AOk x.2.1[i]:=Ok_mem hx.2 (List.getElem_mem hi)
   have h1:=h.1
   exact bind_eq (getI_lt hi) (bind_eq (s_nodeNew _ x hao.1 hx h) (room_is (n:=a.length+1) (by unfold W1 at h1;omega) (by decide) (by decide) rfl))
 ·unfold F61.b0
  exact lt_else (Int.le_refl _) rfl
def sameT {A:Type} (eq:A→A→Bool) (xs ys:List A):Bool:=iEq (xs.length:Int) (ys.length:Int)&&allI (fun i x=>match ys[i]? with|some y=>eq x y|none=>true) 0 xs
theorem same_loop {A:Type} {xs ys:List A} {eq:A→A→Bool} {f:Int×Unit→Option (Sum (Int×Unit) (Sum (Int×Unit) ((Bool×Unit)×Unit)))} (hl:L63 xs.length)
  (hs:∀i (h:i<xs.length) (h2:i<ys.length),f ((i:Int),())=bif eq xs[i] ys[i] then some (.inl (iAdd .i64 (i:Int) 1,())) else some (.inr (.inr (B1 false))))
  (he:f ((xs.length:Int),())=some (.inr (.inl ((xs.length:Int),())))) :
  (bif !iEq (xs.length:Int) (ys.length:Int) then some (B1 false) else (loopF f ((0:Int),())).bind fun r=>Sum.elim (fun _=>some (B1 true)) some r)=some (B1 (sameT eq xs ys)):=by
 unfold sameT
 cases hq:iEq (xs.length:Int) (ys.length:Int) with
 |false=>rfl
 |true =>
  have hlen:xs.length=ys.length:=by simp [iEq] at hq;omega
  have lp:=loopAll (S:=Int×Unit) xs (fun i x=>match ys[i]? with|some y=>eq x y|none=>true) (f:=f) (fun k=>(k,())) (Sum.inl ((xs.length:Int),())) (Sum.inr (B1 false)) (fun i hi=>?_) he
  ·refine bind_eq lp ?_
   cases allI (fun i x=>match ys[i]? with|some y=>eq x y|none=>true) 0 xs<;>rfl
  ·rw [hs i hi (by omega),List.getElem?_eq_getElem (show i<ys.length by omega),nxt hi hl]
theorem sameT_iff {A:Type} {eq:A→A→Bool} (he:∀a b,eq a b=true↔a=b) {xs ys:List A}:sameT eq xs ys=true↔xs=ys:=by
 unfold sameT
 simp only [Bool.and_eq_true]
 constructor
 ·rintro ⟨h1,h2⟩
  have hlen:xs.length=ys.length:=by simp [iEq] at h1;omega
  refine List.ext_getElem hlen (fun i h1 h3=>?_)
  have:=allI_get h2 i h1
  rw [Nat.zero_add,List.getElem?_eq_getElem h3] at this
  exact (he _ _).1 this
 ·rintro rfl
  refine ⟨iEq_self _,?_⟩
  have:∀(p:Nat→A→Bool) (k:Nat) (l:List A),(∀i (h:i<l.length),p (k+i) l[i]=true)→allI p k l=true:=by
   intro p k l
   induction l generalizing k with
   |nil=>intro _;rfl
   |cons x r ih =>
    intro h
    simp only [allI,Bool.and_eq_true]
    refine ⟨h 0 (Nat.zero_lt_succ _),ih (k+1) (fun i hi=>?_)⟩
    have:=h (i+1) (by simpa using hi)
    rw [show k+1+i=k+(i+1) by omega]
    simpa using this
  refine this _ 0 xs (fun i h=>?_)
  rw [Nat.zero_add,List.getElem?_eq_getElem h]
  exact (he _ _).2 rfl
def txEq (x y:D110):Bool:=(iEq x.1 y.1)&&((sEq x.2.1 y.2.1)&&((sEq x.2.2.1 y.2.2.1)&&((iEq x.2.2.2.1 y.2.2.2.1)&&(iEq x.2.2.2.2.1 y.2.2.2.2.1))))
def valEq (x y:D97):Bool:=(sEq x.1 y.1)&&(iEq x.2.1 y.2.1)
def sameQcB (a b:DQc):Bool:=iEq a.1 b.1&&(iEq a.2.1 b.2.1&&sameT (fun x y=>sEq x.1 y.1) a.2.2.1 b.2.2.1)
def sameTcB (a b:DTc):Bool:=iEq a.1 b.1&&(sameT (fun x y=>sEq x.1 y.1) a.2.1 b.2.1&&sameT (fun x y=>iEq x.1 y.1) a.2.2.1 b.2.2.1)
def sameBlkB (a b:DBk):Bool:=iEq a.1 b.1&&(iEq a.2.1 b.2.1&&(iEq a.2.2.1 b.2.2.1&&(sEq a.2.2.2.1 b.2.2.2.1&&(sameQcB (bQc a) (bQc b)&&(sameTcB (bTc a) (bTc b)&&(sameT txEq (bTxs a) (bTxs b)&&(bEq (bEnd a) (bEnd b)&&(sameT valEq (bNext a) (bNext b)&&sEq (bRoot a) (bRoot b)))))))))
theorem s_sameT (xs ys:List D9) (hl:L63 xs.length):F214 ((xs,()),((ys,()),()))=some (B1 (sameT (fun x y=>sEq x.1 y.1) xs ys)):=by
 unfold F214
 refine same_loop hl (fun i h h2=>?_) ?_
 ·unfold F214.b0
  exact lt_then (Int.ofNat_lt.2 h) (bind_eq (getI_lt h) (bind_eq (getI_lt h2) goE))
 ·unfold F214.b0
  exact lt_else (Int.le_refl _) rfl
theorem s_sameTx (xs ys:List D110) (hl:L63 xs.length):F179 ((xs,()),((ys,()),()))=some (B1 (sameT txEq xs ys)):=by
 unfold F179
 refine same_loop hl (fun i h h2=>?_) ?_
 ·unfold F179.b0 txEq
  exact lt_then (Int.ofNat_lt.2 h) (bind_eq (getI_lt h) (bind_eq (getI_lt h2) goE))
 ·unfold F179.b0
  exact lt_else (Int.le_refl _) rfl
theorem s_sameV (xs ys:List D97) (hl:L63 xs.length):F180 ((xs,()),((ys,()),()))=some (B1 (sameT valEq xs ys)):=by
 unfold F180
 refine same_loop hl (fun i h h2=>?_) ?_
 ·unfold F180.b0 valEq
  exact lt_then (Int.ofNat_lt.2 h) (bind_eq (getI_lt h) (bind_eq (getI_lt h2) goE))
 ·unfold F180.b0
  exact lt_else (Int.le_refl _) rfl
theorem s_sameQc (a b:DQc) (h:QOk a):F177 (a,(b,()))=some (B1 (sameQcB a b)):=andY (andY (bind_eq (s_sameT _ _ h.1) rfl))
theorem s_sameTc (a b:DTc) (h:TOk a):F178 (a,(b,()))=some (B1 (sameTcB a b)):=by
 unfold F178 sameTcB
 refine andN (bind_eq (s_sameT _ _ h.1.1) (andN ?_))
 refine same_loop h.2 (fun i h h2=>?_) ?_
 ·unfold F178.b0
  exact lt_then (Int.ofNat_lt.2 h) (bind_eq (getI_lt h) (bind_eq (getI_lt h2) goE))
 ·unfold F178.b0
  exact lt_else (Int.le_refl _) rfl
theorem s_sameBlk (a b:DBk) (h:BOk a):F138 (a,(b,()))=some (B1 (sameBlkB a b)):=by
 unfold F138 sameBlkB
 exact andY (andY (andY (andY (bind_eq (s_sameQc (bQc a) (bQc b) h.qc) (andY (bind_eq (s_sameTc (bTc a) (bTc b) h.tc) (andY (bind_eq (s_sameTx _ _ h.txs.1) (andY (andY (bind_eq (s_sameV _ _ h.next.1) and_yes)))))))))))
def txLessB (a b:D110):Bool:=bif !sEq a.2.1 b.2.1 then sLt a.2.1 b.2.1 else bif !iEq a.2.2.2.2.1 b.2.2.2.2.1 then iLt a.2.2.2.2.1 b.2.2.2.2.1 else bif !iEq a.1 b.1 then iLt a.1 b.1 else bif !sEq a.2.2.1 b.2.2.1 then sLt a.2.2.1 b.2.2.1 else iLt a.2.2.2.1 b.2.2.2.1
theorem sLt_eq {a b:ByteArray} (h:sEq a b=true):sLt a b=false:=by
 unfold sEq at h
 have:a.toList=b.toList:=by simpa using h
 unfold sLt
 rw [this]
 exact bytesLess_self _
theorem s_txLess (a b:D110):F212 (a,(b,()))=some (B1 (txLessB a b)):=by
 unfold F212 txLessB
 dsimp only
 cases sEq a.2.1 b.2.1<;>cases iEq a.2.2.2.2.1 b.2.2.2.2.1<;>cases iEq a.1 b.1<;>cases sEq a.2.2.1 b.2.2.1<;>rfl
def poolP (xs:List D110) (i:Nat) (y:D110):Bool:=txB y&&behind txLessB xs i y
def poolB (xs:List D110):Bool:=allI (poolP xs) 0 xs&&iLe (xs.length:Int) 20
theorem s_pool (xs:List D110) (hx:(Ty.sl e110).Ok xs):F181 ((xs,()),())=some (B1 (poolB xs)):=by
 have hl:L63 xs.length:=hx.1
 have lp:=loopAll (S:=Int×Unit) xs (poolP xs) (f:=F181.b0 ((xs,()),())) (fun k=>(k,())) (Sum.inl ((xs.length:Int),())) (Sum.inr (B1 false)) (fun i hi=>?_) ?_
 ·unfold F181 poolB
  refine bind_eq lp ?_
  cases allI (poolP xs) 0 xs<;>rfl
 ·unfold F181.b0 poolP
  refine lt_then (Int.ofNat_lt.2 hi) (bind_eq (getI_lt hi) (bind_eq (s_tx _ (XOk_mem hx (List.getElem_mem hi))) (goN ?_)))
  rw [←nxt hi hl]
  exact asc_step hi hl (fun z=>bind_eq (getI_lt hi) (bind_eq (s_txLess _ _) goE))
 ·unfold F181.b0
  exact lt_else (Int.le_refl _) rfl
def headEp (l:List DBk):Int:=match l with
 |b::_=>b.2.1
 | []=>0
theorem head_get {l:List DBk} {i:Nat} (h:i<l.length):∃b,getI l 0=some b∧b.2.1=headEp l:=by
 cases l with
 |nil=>simp at h
 |cons b r=>exact ⟨b,rfl,rfl⟩
def parentB (pre:List DBk) (b:DBk):Bool:=match pre.find? (fun z=>iEq z.1 (bQc b).2.1) with
 |some z=>iEq z.2.2.1 (bQc b).1
 |none=>false
def treeQ (l:List DBk) (i:Nat) (b:DBk):Bool:=blockB b&&(iEq b.2.1 (headEp l)&&behind (fun z y=>iLt z.1 y.1) l i b)
def treeB (l:List DBk):Bool:=allI (fun i b=>treeQ l i b&&(rootB (bQc b)||parentB (l.take i) b)) 0 l&&iLe (l.length:Int) 400
theorem noRoot_lt {b:DBk} (h:blockB b=true) (hr:rootB (bQc b)=false):0≤(bQc b).2.1∧(bQc b).2.1<b.1:=by
 unfold blockB qcF at h
 simp only [Bool.and_eq_true] at h
 have h1:inR b.1 0 100000=true:=h.1
 have h2:=h.2.2.2.2.1
 rw [hr,Bool.false_or] at h2
 simp only [Bool.and_eq_true] at h2
 have h3:0≤b.1∧b.1≤100000:=by simpa [inR,iLe] using h1
 have h4:0≤(bQc b).2.1∧(bQc b).2.1≤iSub .i64 b.1 1:=by simpa [inR,iLe] using h2.2.1
 rw [iSub_small (by omega) (by omega)] at h4
 omega
theorem tree_whole (l:List DBk):allI (fun i b=>treeQ l i b&&(rootB (bQc b)||parentB (l.take i) b)) 0 l=allI (fun i b=>treeQ l i b&&(rootB (bQc b)||parentB l b)) 0 l:=by
 rw [allI_and,allI_and]
 cases hq:allI (fun i b=>treeQ l i b) 0 l with
 |false=>rfl
 |true =>
  rw [Bool.true_and,Bool.true_and]
  have hq:=fun i hi=>by have:=allI_get hq i hi;rw [Nat.zero_add] at this;unfold treeQ at this;simp only [Bool.and_eq_true] at this;exact this
  refine allI_congr (fun i b hb=>?_)
  obtain ⟨hi,rfl⟩:=List.getElem?_eq_some_iff.1 hb
  rw [Nat.zero_add]
  cases hr:rootB (bQc l[i]) with
  |true=>rfl
  |false =>
   rw [Bool.false_or,Bool.false_or]
   have hlt:=noRoot_lt (hq i hi).1 hr
   have hd:(l.drop i).find? (fun z=>iEq z.1 (bQc l[i]).2.1)=none:=by
    rw [List.find?_eq_none]
    intro z hz
    obtain ⟨k,hk,rfl⟩:=List.getElem_of_mem hz
    rw [List.length_drop] at hk
    have:=asc_le (f:=fun b:DBk=>b.1) (l:=l) (fun j hj=>(hq j hj).2.2) k i (by omega)
    rw [List.getElem_drop]
    have this:l[i].1≤l[i+k].1:=this
    simp only [iEq,decide_eq_true_eq]
    omega
   unfold parentB
   have:l.find? (fun z=>iEq z.1 (bQc l[i]).2.1)=(l.take i).find? (fun z=>iEq z.1 (bQc l[i]).2.1):=by
    generalize (bQc l[i]).2.1=id at hd ⊢
    have e:=List.find?_append (p:=fun z:DBk=>iEq z.1 id) (xs:=l.take i) (ys:=l.drop i)
    rw [List.take_append_drop,hd] at e
    rw [e]
    cases (l.take i).find? (fun z=>iEq z.1 id)<;>rfl
   rw [this]
def blkAt (l:List DBk) (id:Int):Int:=idxOf l (fun b=>iEq b.1 id)
theorem s_blkAt (l:List DBk) (id:Int) (hl:L63 l.length):F206 ((l,()),((id,()),()))=some (I1 (blkAt l id)):=by
 have lp:=loopIdx (S:=Int×Unit) l (fun b=>iEq b.1 id) (f:=F206.b0 ((l,()),((id,()),()))) (fun k=>(k,())) (Sum.inl ((l.length:Int),())) (fun i=>Sum.inr (I1 i)) (fun i hi=>?_) ?_
 ·unfold F206 blkAt
  refine bind_eq lp ?_
  rcases idxOf_cases l (fun b=>iEq b.1 id) with ⟨h1,_,h3⟩|⟨j,hj,_,_,h1,_,h3⟩<;>rw [h1,h3]<;>rfl
 ·unfold F206.b0
  refine lt_then (Int.ofNat_lt.2 hi) (bind_eq (getI_lt hi) ?_)
  rw [←nxt hi hl]
 ·unfold F206.b0
  exact lt_else (Int.le_refl _) rfl
theorem s_tree (l:List DBk) (h:(Ty.sl e71).Ok l):F182 ((l,()),())=some (B1 (treeB l)):=by
 have hl:L63 l.length:=h.1
 have lp:=loopAll (S:=Int×Unit) l (fun i b=>treeQ l i b&&(rootB (bQc b)||parentB (l.take i) b)) (f:=F182.b0 ((l,()),())) (fun k=>(k,())) (Sum.inl ((l.length:Int),())) (Sum.inr (B1 false)) (fun i hi=>?_) ?_
 ·unfold F182 treeB
  refine bind_eq lp ?_
  cases allI (fun i b=>treeQ l i b&&(rootB (bQc b)||parentB (l.take i) b)) 0 l<;>rfl
 ·unfold F182.b0 treeQ
  have hb:BOk l[i]:=Ok_mem h.2 (List.getElem_mem hi)
  obtain ⟨b0,hb0,he0⟩:=head_get hi
  refine lt_then (Int.ofNat_lt.2 hi) (bind_eq (getI_lt hi) (join_go (bind_eq (s_blk _ hb) (goN (bind_eq hb0 ?_))) (bind_eq (s_root (bQc l[i])) ?_)))
  ·rw [←he0]
   refine goN (asc_step hi hl (fun z=>le_ite))
  ·rw [←nxt hi hl]
   dsimp only
   cases rootB (bQc l[i]) with
   |true=>rfl
   |false =>
    refine cut_hi (by omega) ?_
    rw [take_nat]
    refine bind_eq (s_blkAt _ _ (by rw [List.length_take];omega)) ?_
    unfold blkAt parentB
    rcases idxOf_cases (l.take i) (fun z=>iEq z.1 (bQc l[i]).2.1) with ⟨_,h2,h3⟩|⟨j,hj,_,_,_,h2,h3⟩
    ·rw [h2,show idxOf (l.take i) (fun b=>iEq b.1 l[i].2.2.2.2.2.1)= -1 from h3];rfl
    ·rw [h2,show idxOf (l.take i) (fun b=>iEq b.1 l[i].2.2.2.2.2.1)=(j:Int) from h3]
     have hj2:j<l.length:=by rw [List.length_take] at hj;omega
     rw [List.getElem_take]
     exact pos_else (Int.natCast_nonneg j) (bind_eq (getI_lt hj2) goE)
 ·unfold F182.b0
  exact lt_else (Int.le_refl _) rfl
abbrev nBase (n:DNd):DLe:=(n.2.2.1,(n.2.2.2.1,()))
abbrev nSet (n:DNd):List D97:=n.2.2.2.2.1
abbrev nTree (n:DNd):List DBk:=n.2.2.2.2.2.1
abbrev nRound (n:DNd):Int:=n.2.2.2.2.2.2.1
abbrev nVoted (n:DNd):Int:=n.2.2.2.2.2.2.2.1
def nHigh (n:DNd):DQc:=(n.2.2.2.2.2.2.2.2.1,(n.2.2.2.2.2.2.2.2.2.1,(n.2.2.2.2.2.2.2.2.2.2.1,())))
def nTc (n:DNd):DTc:=(n.2.2.2.2.2.2.2.2.2.2.2.1,(n.2.2.2.2.2.2.2.2.2.2.2.2.1,(n.2.2.2.2.2.2.2.2.2.2.2.2.2.1,())))
abbrev nLed (n:DNd):Int:=n.2.2.2.2.2.2.2.2.2.2.2.2.2.2.1
abbrev nVotes (n:DNd):List D82:=n.2.2.2.2.2.2.2.2.2.2.2.2.2.2.2.1
abbrev nGones (n:DNd):List D84:=n.2.2.2.2.2.2.2.2.2.2.2.2.2.2.2.2.1
abbrev nDone (n:DNd):List D3:=n.2.2.2.2.2.2.2.2.2.2.2.2.2.2.2.2.2.1
abbrev nPool (n:DNd):List D110:=n.2.2.2.2.2.2.2.2.2.2.2.2.2.2.2.2.2.2.1
abbrev NOk (n:DNd):Prop:=e55.Ok n
theorem NOk.base {n:DNd} (h:NOk n):(Ty.sl e120).Ok (nBase n).2.1:=h.2.2.2.1
theorem NOk.set {n:DNd} (h:NOk n):(Ty.sl e97).Ok (nSet n):=h.2.2.2.2.1
theorem NOk.tree {n:DNd} (h:NOk n):(Ty.sl e71).Ok (nTree n):=h.2.2.2.2.2.1
theorem NOk.high {n:DNd} (h:NOk n):QOk (nHigh n):=h.2.2.2.2.2.2.2.2.2.2.1
theorem NOk.pool {n:DNd} (h:NOk n):(Ty.sl e110).Ok (nPool n):=h.2.2.2.2.2.2.2.2.2.2.2.2.2.2.2.2.2.2.1
abbrev DMs:Type:=D86
abbrev mBs (m:DMs):List DBk:=m.2.2.2.1
def mQ (m:DMs):DQc:=(m.2.2.2.2.2.2.2.2.2.2.1,(m.2.2.2.2.2.2.2.2.2.2.2.1,(m.2.2.2.2.2.2.2.2.2.2.2.2.1,())))
def mT (m:DMs):DTc:=(m.2.2.2.2.2.2.2.2.2.2.2.2.2.1,(m.2.2.2.2.2.2.2.2.2.2.2.2.2.2.1,(m.2.2.2.2.2.2.2.2.2.2.2.2.2.2.2.1,())))
def mV0 (m:DMs):Bool:=(iEq m.2.2.2.2.1 (0:Int))&&((iEq m.2.2.2.2.2.1 (0:Int))&&(sEq m.2.2.2.2.2.2.1 ⟨#[]⟩))
def mG0 (m:DMs):Bool:=(iEq m.2.2.2.2.2.2.2.1 (0:Int))&&((iEq m.2.2.2.2.2.2.2.2.1 (0:Int))&&(sEq m.2.2.2.2.2.2.2.2.2.1 ⟨#[]⟩))
def mVF (m:DMs):Bool:=inR m.2.2.2.2.1 1 10000&&(inR m.2.2.2.2.2.1 0 100000&&nameB m.2.2.2.2.2.2.1)
def mGF (m:DMs):Bool:=inR m.2.2.2.2.2.2.2.1 1 10000&&(inR m.2.2.2.2.2.2.2.2.1 0 (iSub .i64 m.2.2.2.2.2.2.2.1 1)&&(iEq m.2.2.2.2.2.2.2.2.1 m.2.2.2.2.2.2.2.2.2.2.1&&nameB m.2.2.2.2.2.2.2.2.2.1))
abbrev MOk (m:DMs):Prop:=e86.Ok m
theorem MOk.bs {m:DMs} (h:MOk m):(Ty.sl e71).Ok (mBs m):=h.2.2.2.1
theorem MOk.q {m:DMs} (h:MOk m):QOk (mQ m):=h.2.2.2.2.2.2.2.2.2.2.2.2.1
theorem MOk.t {m:DMs} (h:MOk m):TOk (mT m):=⟨h.2.2.2.2.2.2.2.2.2.2.2.2.2.2.1,h.2.2.2.2.2.2.2.2.2.2.2.2.2.2.2.1.1⟩
def blksB (l:List DBk) (ep:Int):Bool:=l.all (fun b=>blockB b&&iEq b.2.1 ep)
def kindB (k:Int) (n:Int) (v0 g0 vf gf r no:Bool):Bool:=bif iEq k 1 then (iEq n 1&&(v0&&(g0&&(r&&no)))) else bif iEq k 2 then (iEq n 0&&(vf&&(g0&&(r&&no)))) else bif iEq k 3 then (iEq n 0&&(v0&&(gf&&no))) else bif iEq k 4 then (v0&&g0) else false
def msgB (m:DMs):Bool:=nameB m.2.1&&(inR m.2.2.1 0 900&&(qcF (mQ m) 10000 100000&&(tcF (mT m) 10000&&((blksB (mBs m) m.2.2.1&&iLe ((mBs m).length:Int) 400)&&kindB m.1 ((mBs m).length:Int) (mV0 m) (mG0 m) (mVF m) (mGF m) (rootB (mQ m)) (noneB (mT m))))))
theorem msg_same (k:Int) (n:Nat) (p1 p2 al v0 g0 vf gf r q no t:Bool) :
  (p1&&(p2&&(inR k 1 4&&((al&&(iLe (n:Int) (bif iEq k 1 then 1 else bif iEq k 4 then 400 else 0)&&(!iEq k 1||iEq (n:Int) 1)))&&((bif iEq k 2 then vf else v0)&&((bif iEq k 2 then g0 else bif iEq k 3 then gf else g0)&&((r||((iEq k 4||iEq k 3)&&(r||q)))&&(no||(iEq k 4&&(no||t))))))))))
   =(p1&&(p2&&((r||q)&&((no||t)&&((al&&iLe (n:Int) 400)&&kindB k (n:Int) v0 g0 vf gf r no))))):=by
 unfold kindB
 have e1:∀x:Int,iEq x x=true:=iEq_self
 by_cases h1:k=1
 ·subst h1
  have a2:iEq (1:Int) 2=false:=rfl
  have a3:iEq (1:Int) 3=false:=rfl
  have a4:iEq (1:Int) 4=false:=rfl
  have a5:inR 1 1 4=true:=rfl
  rw [a2,a3,a4,a5,e1]
  by_cases hn:n=1
  ·subst hn
   have b1:iLe ((1:Nat):Int) 1=true:=rfl
   have b2:iLe ((1:Nat):Int) 400=true:=rfl
   have b3:iEq ((1:Nat):Int) 1=true:=rfl
   simp only [cond_true,cond_false]
   rw [b1,b2,b3]
   cases p1<;>cases p2<;>cases al<;>cases v0<;>cases g0<;>cases r<;>cases q<;>cases no<;>cases t<;>rfl
  ·have b3:iEq (n:Int) 1=false:=by simp [iEq];omega
   simp only [cond_true,cond_false]
   rw [b3]
   cases p1<;>cases p2<;>cases al<;>cases r<;>cases q<;>cases no<;>cases t<;>simp
 ·have a1:iEq k 1=false:=by simp [iEq,h1]
  rw [a1]
  simp only [cond_false]
  have z:∀m:Nat,iLe (m:Int) 0=iEq (m:Int) 0:=fun m=>by simp [iLe,iEq]
  by_cases h4:k=4
  ·subst h4
   have a2:iEq (4:Int) 2=false:=rfl
   have a3:iEq (4:Int) 3=false:=rfl
   have a5:inR 4 1 4=true:=rfl
   rw [a2,a3,a5,e1]
   simp only [cond_true,cond_false]
   cases p1<;>cases p2<;>cases al<;>cases v0<;>cases g0<;>cases r<;>cases q<;>cases no<;>cases t<;>cases iLe (n:Int) 400<;>rfl
  ·have a4:iEq k 4=false:=by simp [iEq,h4]
   rw [a4]
   simp only [cond_false]
   rw [z]
   by_cases hn:n=0
   ·subst hn
    have b2:iLe ((0:Nat):Int) 400=true:=rfl
    have b3:iEq ((0:Nat):Int) 0=true:=rfl
    rw [b2,b3]
    by_cases h2:k=2
    ·subst h2
     have a3:iEq (2:Int) 3=false:=rfl
     have a5:inR 2 1 4=true:=rfl
     rw [a3,a5,e1]
     simp only [cond_true,cond_false]
     cases p1<;>cases p2<;>cases al<;>cases vf<;>cases g0<;>cases r<;>cases q<;>cases no<;>cases t<;>rfl
    ·have a2:iEq k 2=false:=by simp [iEq,h2]
     rw [a2]
     simp only [cond_false]
     by_cases h3:k=3
     ·subst h3
      have a5:inR 3 1 4=true:=rfl
      rw [a5,e1]
      simp only [cond_true]
      cases p1<;>cases p2<;>cases al<;>cases v0<;>cases gf<;>cases r<;>cases q<;>cases no<;>cases t<;>rfl
     ·have a5:inR k 1 4=false:=by simp [inR,iLe];omega
      have a3:iEq k 3=false:=by simp [iEq,h3]
      rw [a5,a3]
      simp
   ·have b3:iEq (n:Int) 0=false:=by simp [iEq];omega
    rw [b3]
    cases iEq k 2<;>cases iEq k 3<;>simp
theorem s_cert (q:DQc) (h:QOk q):F135 (q,())=some (B1 (qcF q 10000 100000)):=by
 unfold F135 qcF
 exact bind_eq (s_root q) (orY (bind_eq (s_in _ _ _) (andY (bind_eq (s_in _ _ _) (andY (bind_eq (s_names _ h) rfl))))))
theorem s_tc13 (t:DTc) (h:TOk t):F137 (t,())=some (B1 (tcF t 10000)):=by
 have lp:=loopAllP (S:=Int×Unit) t.2.2.1 (fun x=>inR x.1 0 (iSub .i64 t.1 1)) (f:=F137.b0 (t,())) (fun k=>(k,())) (Sum.inl ((t.2.2.1.length:Int),())) (Sum.inr (B1 false)) (fun i hi=>?_) ?_
 ·unfold F137 tcF
  refine bind_eq (s_none t) (orY (bind_eq (s_in _ _ _) (andN (bind_eq (s_names _ h.1) (andN (andN ?_))))))
  refine bind_eq lp ?_
  cases t.2.2.1.all (fun x=>inR x.1 0 (iSub .i64 t.1 1))<;>rfl
 ·unfold F137.b0
  refine lt_then (Int.ofNat_lt.2 hi) (bind_eq (getI_lt hi) (bind_eq (s_in _ _ _) ?_))
  rw [←nxt hi h.2]
  exact goE
 ·unfold F137.b0
  exact lt_else (Int.le_refl _) rfl
theorem s_blks (m:DMs) (h:MOk m):F133 (m,())=some (B1 (blksB (mBs m) m.2.2.1&&(iLe ((mBs m).length:Int) (bif iEq m.1 1 then 1 else bif iEq m.1 4 then 400 else 0)&&(!iEq m.1 1||iEq ((mBs m).length:Int) 1)))):=by
 have hl:L63 (mBs m).length:=h.bs.1
 have lp:=loopAllP (S:=Int×Unit) (mBs m) (fun b=>blockB b&&iEq b.2.1 m.2.2.1) (f:=F133.b0 (m,())) (fun k=>(k,())) (Sum.inl (((mBs m).length:Int),())) (Sum.inr (B1 false)) (fun i hi=>?_) ?_
 ·unfold F133
  have hJ:(bif iEq m.1 (1:Int) then some (.inl ((1:Int),())) else bif iEq m.1 (4:Int) then some (.inl ((400:Int),())) else some (.inl ((0:Int),())):Option (Sum (Int×Unit) ((Bool×Unit)×Unit)))=some (.inl ((bif iEq m.1 1 then 1 else bif iEq m.1 4 then 400 else 0),())):=by cases iEq m.1 1<;>cases iEq m.1 4<;>rfl
  refine bind_eq hJ (bind_eq lp ?_)
  unfold blksB
  cases (mBs m).all (fun b=>blockB b&&iEq b.2.1 m.2.2.1) with
  |false=>rfl
  |true =>
   rw [Bool.true_and]
   refine andY ?_
   cases iEq m.1 1<;>rfl
 ·unfold F133.b0
  have hb:BOk (mBs m)[i]:=Ok_mem h.bs.2 (List.getElem_mem hi)
  refine lt_then (Int.ofNat_lt.2 hi) (bind_eq (getI_lt hi) (bind_eq (s_blk _ hb) (goN (bind_eq (getI_lt hi) ?_))))
  rw [←nxt hi hl]
  exact goE
 ·unfold F133.b0
  exact lt_else (Int.le_refl _) rfl
theorem vY {b c:Bool} {A R:Type} {g:A} {K:Option (Sum (Bool×A) R)} (h:K=some (.inl (c,g))):(bif b then K else some (.inl (false,g)))=some (.inl (b&&c,g)):=by rw [h];cases b<;>rfl
theorem gY {b c v:Bool} {R:Type} {K:Option (Sum (Bool×(Bool×Unit)) R)} (h:K=some (.inl (v,(c,())))):(bif b then K else some (.inl (v,(false,()))))=some (.inl (v,(b&&c,()))):=by rw [h];cases b<;>rfl
theorem rootY {r a b c n:Bool} {N C1 C2:Option ((Bool×Unit)×Unit)} (hN:N=some (B1 n)) (h1:C1=some (B1 (c&&n))) (h2:C2=some (B1 (c&&n))):(bif r then N else bif a then C1 else bif b then C2 else some (B1 false))=some (B1 ((r||((a||b)&&c))&&n)):=by
 rw [hN,h1,h2]
 cases r<;>cases a<;>cases b<;>rfl
theorem s_msg (m:DMs) (h:MOk m):F72 (m,())=some (B1 (msgB m)):=by
 refine Eq.trans (b:=some (B1 (nameB m.2.1&&(inR m.2.2.1 0 900&&(inR m.1 1 4&&((blksB (mBs m) m.2.2.1&&(iLe ((mBs m).length:Int) (bif iEq m.1 1 then 1 else bif iEq m.1 4 then 400 else 0)&&(!iEq m.1 1||iEq ((mBs m).length:Int) 1)))&&((bif iEq m.1 2 then mVF m else mV0 m)&&((bif iEq m.1 2 then mG0 m else bif iEq m.1 3 then mGF m else mG0 m)&&((rootB (mQ m)||((iEq m.1 4||iEq m.1 3)&&qcF (mQ m) 10000 100000))&&(noneB (mT m)||(iEq m.1 4&&tcF (mT m) 10000))))))))))) ?_ ?_
 ·unfold F72
  have hN:((F136 (mT m,())).bind fun y14=>bif y14.1.1 then some ((true,()),()) else bif iEq m.1 (4:Int) then (F137 (mT m,())).bind (fun y15=>some (y15.1,())) else some ((false,()),()))=some (B1 (noneB (mT m)||(iEq m.1 4&&tcF (mT m) 10000))):=bind_eq (s_none _) (orY (andY (bind_eq (s_tc13 _ h.t) rfl)))
  refine bind_eq (s_name _ h.2.1) (andN (bind_eq (s_in _ _ _) (andN (bind_eq (s_in _ _ _) (andN (bind_eq (s_blks m h) (andN ?_)))))))
  refine bind_eq (y:= .inl ((bif iEq m.1 2 then mVF m else mV0 m),((bif iEq m.1 2 then mG0 m else bif iEq m.1 3 then mGF m else mG0 m),()))) ?_ ?_
  ·cases iEq m.1 2 with
   |true=>exact bind_eq (s_in _ _ _) (vY (bind_eq (s_in _ _ _) (vY (bind_eq (s_name _ h.2.2.2.2.2.2.1) rfl))))
   |false =>
    cases iEq m.1 3 with
    |true=>exact bind_eq (s_in _ _ _) (gY (bind_eq (s_in _ _ _) (gY (gY (bind_eq (s_name _ h.2.2.2.2.2.2.2.2.2.1) rfl)))))
    |false=>rfl
  ·refine andY (andY (bind_eq (s_root (mQ m)) ?_))
   exact rootY hN (bind_eq (s_cert (mQ m) h.q) (andY hN)) (bind_eq (s_cert (mQ m) h.q) (andY hN))
 ·refine congrArg (fun z=>some (B1 z)) ?_
  exact msg_same m.1 (mBs m).length (nameB m.2.1) (inR m.2.2.1 0 900) (blksB (mBs m) m.2.2.1) (mV0 m) (mG0 m) (mVF m) (mGF m) (rootB (mQ m)) _ (noneB (mT m)) _
theorem allI_of {A:Type} {p:Nat→A→Bool}:∀{k:Nat} {l:List A},(∀i (h:i<l.length),p (k+i) l[i]=true)→allI p k l=true
 |_,[],_=>rfl
 |k,x::r,h=>by
  simp only [allI,Bool.and_eq_true]
  refine ⟨h 0 (Nat.zero_lt_succ _),allI_of (fun i hi=>?_)⟩
  have:=h (i+1) (by simpa using hi)
  rw [show k+1+i=k+(i+1) by omega]
  simpa using this
def realB (bl:List DBk) (b:DBk):Bool:=match getI bl b.1 with
 |some z=>sameBlkB z b
 |none=>false
theorem getI_in {A:Type} {xs:List A} {k:Int} (h0:0≤k) (h:k<(xs.length:Int)):getI xs k=some (xs[k.toNat]'(by omega)):=by
 have:=getI_lt (xs:=xs) (i:=k.toNat) (by omega)
 rwa [show ((k.toNat:Nat):Int)=k by omega] at this
theorem s_nodeAt (w:DWo) (s:ByteArray) (hl:L63 w.2.2.2.1.length):F73 (w,((s,()),()))=some (I1 (idxOf w.2.2.2.1 (fun n=>sEq n.1 s))):=by
 have lp:=loopIdx (S:=Int×Unit) w.2.2.2.1 (fun n=>sEq n.1 s) (f:=F73.b0 (w,((s,()),()))) (fun k=>(k,())) (Sum.inl ((w.2.2.2.1.length:Int),())) (fun i=>Sum.inr (I1 i)) (fun i hi=>?_) ?_
 ·unfold F73
  refine bind_eq lp ?_
  rcases idxOf_cases w.2.2.2.1 (fun n=>sEq n.1 s) with ⟨h1,_,h3⟩|⟨j,hj,_,_,h1,_,h3⟩<;>rw [h1,h3]<;>rfl
 ·unfold F73.b0
  refine lt_then (Int.ofNat_lt.2 hi) (bind_eq (getI_lt hi) ?_)
  rw [←nxt hi hl]
 ·unfold F73.b0
  exact lt_else (Int.le_refl _) rfl
abbrev WOk (w:DWo):Prop:=e33.Ok w
theorem WOk.foul {w:DWo} (h:WOk w):(Ty.sl e9).Ok w.2.2.1:=h.2.2.1
theorem WOk.nodes {w:DWo} (h:WOk w):(Ty.sl e55).Ok w.2.2.2.1:=h.2.2.2.1
theorem WOk.blocks {w:DWo} (h:WOk w):(Ty.sl e71).Ok w.2.2.2.2.1:=h.2.2.2.2.1
theorem WOk.net {w:DWo} (h:WOk w):(Ty.sl e86).Ok w.2.2.2.2.2.2.1:=h.2.2.2.2.2.2.1
def NodeL (n:DNd):Prop:=AcctL (nBase n).2.1∧W1 (nSet n).length∧W1 (nTree n).length∧(∀b∈nTree n,BlockL b)∧W1 (List.length (nHigh n).2.2.1)∧W1 (List.length (nTc n).2.1)∧W1 (List.length (nTc n).2.2.1)∧W1 (List.length (nVotes n))∧W1 (List.length (nGones n))∧W1 (List.length (nDone n))∧W1 (List.length (nPool n))∧W1 (List.length (nPast n))∧∀p∈nPast n,ProofL p
theorem s_cnode (n:DNd) (h:NodeL n):F162 (n,())=some (n,()):=by
 obtain ⟨h1,h2,h3,h4,h5,h6,h7,h8,h9,h10,h11,h12,h13⟩:=h
 have lp:=loopCopy (S:=Int×(List DPr×Unit)) (nPast n) (f:=F162.b0 (n,())) (fun a k=>(k,(a,()))) (Sum.inl (((nPast n).length:Int),(nPast n,()))) (fun i hi=>?_) ?_
 ·unfold F162
  exact bind_eq (s_cledger (nBase n) h1) (room_then h2 (by decide) (by decide) (bind_eq (s_cblks _ h3 h4) (bind_eq (s_cqc (nHigh n) h5) (bind_eq (s_ctc (nTc n) h6 h7) (room_then h8 (by decide) (by decide) (room_then h9 (by decide) (by decide) (room_then h10 (by decide) (by decide) (room_then h11 (by decide) (by decide) (bind_eq lp rfl)))))))))
 ·unfold F162.b0
  refine lt_then (Int.ofNat_lt.2 hi) (bind_eq (getI_lt hi) (bind_eq (s_cproof _ (h13 _ (List.getElem_mem hi))) (room_one hi h12 (by decide) (by decide) ?_)))
  rw [←nxt hi h12.l];rfl
 ·unfold F162.b0
  exact lt_else (Int.le_refl _) rfl
theorem bl_tr:∀{x y z:List UInt8},Op.bytesLess x y=true→Op.bytesLess y z=true→Op.bytesLess x z=true
 |x,[],_,h,_=>by cases x<;>simp [Op.bytesLess] at h
 |_,b::y,[],_,h=>by simp [Op.bytesLess] at h
 | [],_::_,_::_,_,_=>rfl
 |a::x,b::y,c::z,h1,h2=>by
  simp only [Op.bytesLess,Bool.or_eq_true,Bool.and_eq_true,decide_eq_true_eq,beq_iff_eq] at h1 h2 ⊢
  rcases h1 with h1|⟨rfl,h1⟩
  ·rcases h2 with h2|⟨rfl,h2⟩
   ·exact .inl (UInt8.lt_trans h1 h2)
   ·exact .inl h1
  ·rcases h2 with h2|⟨rfl,h2⟩
   ·exact .inl h2
   ·exact .inr ⟨rfl,bl_tr h1 h2⟩
structure Ord3 {A:Type} (lt eq:A→A→Bool):Prop where
 refl:∀a,eq a a=true
 symm:∀a b,eq a b=true→eq b a=true
 etr:∀a b c,eq a b=true→eq b c=true→eq a c=true
 lte:∀a b c,lt a b=true→eq b c=true→lt a c=true
 elt:∀a b c,eq a b=true→lt b c=true→lt a c=true
 tr:∀a b c,lt a b=true→lt b c=true→lt a c=true
 irr:∀a b,lt a b=true→eq a b=false
 tot:∀a b,lt a b=false→eq a b=false→lt b a=true
theorem ord_int:Ord3 iLt iEq where
 refl a:=iEq_self a
 symm a b h:=by simp only [iEq,decide_eq_true_eq] at *;omega
 etr a b c h k:=by simp only [iEq,decide_eq_true_eq] at *;omega
 lte a b c h k:=by simp only [iEq,iLt,decide_eq_true_eq] at *;omega
 elt a b c h k:=by simp only [iEq,iLt,decide_eq_true_eq] at *;omega
 tr a b c h k:=by simp only [iLt,decide_eq_true_eq] at *;omega
 irr a b h:=by simp only [iEq,iLt,decide_eq_true_eq,decide_eq_false_iff_not] at *;omega
 tot a b h k:=by simp only [iEq,iLt,decide_eq_true_eq,decide_eq_false_iff_not] at *;omega
theorem sEq_list {a b:ByteArray}:sEq a b=true↔a.toList=b.toList:=by unfold sEq;simp
theorem ord_str:Ord3 sLt sEq where
 refl a:=sEq_self a
 symm a b h:=sEq_list.2 (sEq_list.1 h).symm
 etr a b c h k:=sEq_list.2 ((sEq_list.1 h).trans (sEq_list.1 k))
 lte a b c h k:=by unfold sLt at *;rw [←sEq_list.1 k];exact h
 elt a b c h k:=by unfold sLt at *;rw [sEq_list.1 h];exact k
 tr a b c h k:=bl_tr h k
 irr a b h:=by
  cases hq:sEq a b with
  |false=>rfl
  |true=>rw [sLt_eq hq] at h;cases h
 tot a b h k:=by
  have:=sLt_tri a b
  rw [h,k] at this
  cases hx:sLt b a with
  |true=>rfl
  |false=>rw [hx] at this;cases this
theorem Ord3.comap {A B:Type} {lt eq:B→B→Bool} (h:Ord3 lt eq) (f:A→B):Ord3 (fun a b=>lt (f a) (f b)) (fun a b=>eq (f a) (f b)) :=
 ⟨fun a=>h.refl _,fun a b=>h.symm _ _,fun a b c=>h.etr _ _ _,fun a b c=>h.lte _ _ _,fun a b c=>h.elt _ _ _,fun a b c=>h.tr _ _ _,fun a b=>h.irr _ _,fun a b=>h.tot _ _⟩
theorem lx {e x y:Bool}:(bif !e then x else y)=true↔(e=false∧x=true)∨(e=true∧y=true):=by cases e<;>simp
theorem lx0 {e x y:Bool}:(bif !e then x else y)=false↔(e=false∧x=false)∨(e=true∧y=false):=by cases e<;>simp
theorem Ord3.lex {A:Type} {l1 e1 l2 e2:A→A→Bool} (h:Ord3 l1 e1) (k:Ord3 l2 e2):Ord3 (fun a b=>bif !e1 a b then l1 a b else l2 a b) (fun a b=>e1 a b&&e2 a b) where
 refl a:=by rw [h.refl,k.refl];rfl
 symm a b q:=by
  simp only [Bool.and_eq_true] at q ⊢
  exact ⟨h.symm _ _ q.1,k.symm _ _ q.2⟩
 etr a b c q r:=by
  simp only [Bool.and_eq_true] at q r ⊢
  exact ⟨h.etr _ _ _ q.1 r.1,k.etr _ _ _ q.2 r.2⟩
 lte a b c q r:=by
  simp only [Bool.and_eq_true] at r
  rcases lx.1 q with ⟨u,v⟩|⟨u,v⟩
  ·have:=h.lte _ _ _ v r.1
   exact lx.2 (.inl ⟨h.irr _ _ this,this⟩)
  ·exact lx.2 (.inr ⟨h.etr _ _ _ u r.1,k.lte _ _ _ v r.2⟩)
 elt a b c q r:=by
  simp only [Bool.and_eq_true] at q
  rcases lx.1 r with ⟨u,v⟩|⟨u,v⟩
  ·have:=h.elt _ _ _ q.1 v
   exact lx.2 (.inl ⟨h.irr _ _ this,this⟩)
  ·exact lx.2 (.inr ⟨h.etr _ _ _ q.1 u,k.elt _ _ _ q.2 v⟩)
 tr a b c q r:=by
  rcases lx.1 q with ⟨u,v⟩|⟨u,v⟩
  ·rcases lx.1 r with ⟨u2,v2⟩|⟨u2,v2⟩
   ·have:=h.tr _ _ _ v v2
    exact lx.2 (.inl ⟨h.irr _ _ this,this⟩)
   ·have:=h.lte _ _ _ v u2
    exact lx.2 (.inl ⟨h.irr _ _ this,this⟩)
  ·rcases lx.1 r with ⟨u2,v2⟩|⟨u2,v2⟩
   ·have:=h.elt _ _ _ u v2
    exact lx.2 (.inl ⟨h.irr _ _ this,this⟩)
   ·exact lx.2 (.inr ⟨h.etr _ _ _ u u2,k.tr _ _ _ v v2⟩)
 irr a b q:=by
  rcases lx.1 q with ⟨u,v⟩|⟨u,v⟩
  ·rw [u];rfl
  ·rw [k.irr _ _ v,Bool.and_false]
 tot a b q r:=by
  rcases lx0.1 q with ⟨u,v⟩|⟨u,v⟩
  ·have:=h.tot _ _ v u
   exact lx.2 (.inl ⟨h.irr _ _ this,this⟩)
  ·rw [u,Bool.true_and] at r
   exact lx.2 (.inr ⟨h.symm _ _ u,k.tot _ _ v r⟩)
def txEqK (a b:D110):Bool:=sEq a.2.1 b.2.1&&(iEq a.2.2.2.2.1 b.2.2.2.2.1&&(iEq a.1 b.1&&(sEq a.2.2.1 b.2.2.1&&iEq a.2.2.2.1 b.2.2.2.1)))
theorem txOrd:Ord3 txLessB txEqK :=
 (ord_str.comap (fun a:D110=>a.2.1)).lex ((ord_int.comap (fun a:D110=>a.2.2.2.2.1)).lex ((ord_int.comap (fun a:D110=>a.1)).lex ((ord_str.comap (fun a:D110=>a.2.2.1)).lex (ord_int.comap (fun a:D110=>a.2.2.2.1)))))
theorem allI_iff {A:Type} {p:Nat→A→Bool} {l:List A}:allI p 0 l=true↔∀i x,l[i]?=some x→p i x=true:=by
 constructor
 ·intro h i x hx
  obtain ⟨hi,rfl⟩:=List.getElem?_eq_some_iff.1 hx
  have:=allI_get h i hi
  rwa [Nat.zero_add] at this
 ·intro h
  exact allI_of (fun i hi=>by rw [Nat.zero_add];exact h i _ (List.getElem?_eq_getElem hi))
def SortedTx (l:List D110):Prop:=∀(i j:Nat) (x y:D110),l[i]?=some x→l[j]?=some y→i<j→txLessB x y=true
theorem sorted_of {l:List D110} (h:allI (poolP l) 0 l=true):SortedTx l:=by
 have hs:=allI_iff.1 h
 have adj:∀i x y,l[i]?=some x→l[i+1]?=some y→txLessB x y=true:=fun i x y hx hy=>by
  have:=hs (i+1) y hy
  unfold poolP behind at this
  simp only [Bool.and_eq_true] at this
  have h2:=this.2
  rw [hx] at h2
  exact h2
 have key:∀d i x y,l[i]?=some x→l[i+1+d]?=some y→txLessB x y=true:=by
  intro d
  induction d with
  |zero=>intro i x y hx hy;exact adj i x y hx hy
  |succ d ih =>
   intro i x y hx hy
   have hlt:i+1+d<l.length:=by
    have:=(List.getElem?_eq_some_iff.1 hy).1
    omega
   exact (txOrd).tr _ _ _ (ih i x _ hx (List.getElem?_eq_getElem hlt)) (adj (i+1+d) _ y (List.getElem?_eq_getElem hlt) hy)
 intro i j x y hx hy hij
 exact key (j - (i+1)) i x y hx (by rwa [show i+1+(j - (i+1))=j by omega])
def Asc {A:Type} (lt:A→A→Bool) (l:List A):Prop:=∀i j (hi:i<l.length) (hj:j<l.length),i<j→lt l[i] l[j]=true
theorem asc_of {A:Type} {lt:A→A→Bool} (tr:∀a b c,lt a b=true→lt b c=true→lt a c=true) {l:List A} (h:∀i (hi:i<l.length),behind lt l i l[i]=true):Asc lt l:=by
 have key:∀d i (hi:i<l.length) (hj:i+1+d<l.length),lt l[i] l[i+1+d]=true:=by
  intro d
  induction d with
  |zero =>
   intro i hi hj
   have:=h (i+1) hj
   rwa [behind_succ hi] at this
  |succ d ih =>
   intro i hi hj
   have h1:=h (i+1+d+1) hj
   rw [behind_succ (by omega)] at h1
   exact tr _ _ _ (ih i hi (by omega)) h1
 intro i j hi hj hij
 have h1:=key (j - (i+1)) i hi (by omega)
 have h2:i+1+(j - (i+1))=j:=by omega
 simp only [h2] at h1
 exact h1
def accAt (l:List D120) (s:ByteArray):Int:=idxOf l (fun a=>sEq a.1 s)
theorem s_acctAt (l:List D120) (s:ByteArray) (hl:L63 l.length):F217 ((l,()),((s,()),()))=some (I1 (accAt l s)):=by
 have lp:=loopIdx (S:=Int×Unit) l (fun a=>sEq a.1 s) (f:=F217.b0 ((l,()),((s,()),()))) (fun k=>(k,())) (Sum.inl ((l.length:Int),())) (fun i=>Sum.inr (I1 i)) (fun i hi=>?_) ?_
 ·unfold F217 accAt
  refine bind_eq lp ?_
  rcases idxOf_cases l (fun a=>sEq a.1 s) with ⟨h1,_,h3⟩|⟨j,hj,_,_,h1,_,h3⟩<;>rw [h1,h3]<;>rfl
 ·unfold F217.b0
  refine lt_then (Int.ofNat_lt.2 hi) (bind_eq (getI_lt hi) ?_)
  rw [←nxt hi hl]
 ·unfold F217.b0
  exact lt_else (Int.le_refl _) rfl
def leaveIn (n at':Int):List D145→List D145
 | []=> [(n,(at',()))]
 |x::r=>bif iEq x.2.1 at' then (iAdd .i64 x.1 n,(x.2.1,()))::r else bif iLt at' x.2.1 then (n,(at',()))::x::r else x::leaveIn n at' r
def leaveStep (n at':Int) (s:List D145×Bool) (x:D145):List D145×Bool :=
 bif s.2 then (s.1++ [x],true) else bif iEq x.2.1 at' then (s.1++ [(iAdd .i64 x.1 n,(x.2.1,()))],true) else bif iLt at' x.2.1 then (s.1++ [(n,(at',()))]++ [x],true) else (s.1++ [x],false)
def leaveEnd (n at':Int) (s:List D145×Bool):List D145:=bif s.2 then s.1 else s.1++ [(n,(at',()))]
theorem leave_put (n at':Int):∀(xs a:List D145),leaveEnd n at' (xs.foldl (leaveStep n at') (a,true))=a++xs
 | [],a=>by simp [leaveEnd]
 |x::r,a=>by
  have:=leave_put n at' r (a++ [x])
  simpa [leaveStep] using this
theorem leave_fold (n at':Int):∀(xs a:List D145),leaveEnd n at' (xs.foldl (leaveStep n at') (a,false))=a++leaveIn n at' xs
 | [],a=>rfl
 |x::r,a=>by
  simp only [List.foldl_cons,leaveIn]
  unfold leaveStep
  cases h1:iEq x.2.1 at' with
  |true=>exact (leave_put n at' r _).trans (by simp)
  |false =>
   cases h2:iLt at' x.2.1 with
   |true=>exact (leave_put n at' r _).trans (by simp)
   |false=>exact (leave_fold n at' r _).trans (by simp)
theorem s_leave (xs:List D145) (n at':Int) (hl:xs.length≤4):F245 ((xs,()),((n,()),((at',()),())))=some ((leaveIn n at' xs,()),()):=by
 have hl63:L63 xs.length:=by unfold L63;omega
 have lp:=(loopFold (S:=List D145×(Bool×(Int×Unit))) xs (leaveStep n at') (fun i s=>s.1.length≤2*i) (f:=F245.b0 ((xs,()),((n,()),((at',()),())))) (fun s k=>(s.1,(s.2,(k,())))) (fun s=>Sum.inl (s.1,(s.2,((xs.length:Int),())))) ([],false) (Nat.le_refl _) (fun i hi s hI=>?_) (fun s _=>?_))
 ·unfold F245
  refine bind_eq lp.1 ?_
  have hlen:=lp.2
  have hf:=leave_fold n at' xs []
  rw [List.nil_append] at hf
  rw [←hf]
  unfold leaveEnd
  revert hlen
  cases (xs.foldl (leaveStep n at') ([],false)) with
  |mk a b =>
   intro hlen
   cases b with
   |true=>rfl
   |false =>
    have:room (a.length+1) 16=true:=room_ok (by simp only at hlen;omega) (by decide) (by decide)
    simp only [Sum.elim_inl,List.length_singleton,this]
    rfl
 ·obtain ⟨a,b⟩:=s
  simp only at hI
  refine ⟨?_,?_⟩
  ·unfold F245.b0
   refine lt_then (Int.ofNat_lt.2 hi) (bind_eq (getI_lt hi) ?_)
   have r1:room (a.length+1) 16=true:=room_ok (by omega) (by decide) (by decide)
   have r2:room (a.length+1+1) 16=true:=room_ok (by omega) (by decide) (by decide)
   unfold leaveStep
   rw [←nxt hi hl63]
   cases b with
   |true =>
    show (bif room (a.length+1) 16 then _ else none)=_
    rw [r1];rfl
   |false =>
    cases h1:iEq xs[i].2.1 at' with
    |true =>
     simp only [h1]
     show (bif room (a.length+1) 16 then _ else none)=_
     rw [r1];rfl
    |false =>
     cases h2:iLt at' xs[i].2.1 with
     |true =>
      simp only [h1,h2,List.length_singleton,r1]
      show (bif room ((a++ [(n,(at',()))]).length+1) 16 then _ else none)=_
      rw [List.length_append,List.length_singleton,r2];rfl
     |false =>
      simp only [h1,h2]
      show (bif room (a.length+1) 16 then _ else none)=_
      rw [r1];rfl
  ·unfold leaveStep
   cases b with
   |true=>simp only [cond_true,List.length_append,List.length_singleton];omega
   |false =>
    simp only [cond_false]
    cases h1:iEq xs[i].2.1 at' with
    |true=>simp only [cond_true,List.length_append,List.length_singleton];omega
    |false =>
     simp only [cond_false]
     cases h2:iLt at' xs[i].2.1<;>simp only [cond_true,cond_false,List.length_append,List.length_singleton]<;>omega
 ·unfold F245.b0
  exact lt_else (Int.le_refl _) rfl
theorem getI_of {A:Type} {l:List A} {k:Nat} {x:A} (h:l[k]?=some x):getI l (k:Int)=some x:=by
 obtain ⟨hk,rfl⟩:=List.getElem?_eq_some_iff.1 h
 exact getI_lt hk
theorem getN_of {A:Type} {l:List A} {k:Nat} {x:A} (h:l[k]?=some x):getN l (Int.toNat (k:Int))=some x:=h
theorem thenT {A:Type} {b:Bool} {t e r:A} (h:b=true) (h2:t=r):(bif b then t else e)=r:=by rw [h];exact h2
theorem st2 {A B F:Type} {a a':A} {b b':B} (h1:a=a') (h2:b=b'):(some (Sum.inl (a,(b,()))):Option (Sum (A×(B×Unit)) F))=some (Sum.inl (a',(b',()))):=by rw [h1,h2]
def newA (s:ByteArray) (n:Int):D120:=(s,(n,(0,(0,([],())))))
theorem leaveIn_ok (n at':Int) (hn:(Lit.int .i64 n).wf=true) (ha:(Lit.int .i64 at').wf=true):∀xs:List D145,(∀y∈xs,e145.Ok y)→∀y∈leaveIn n at' xs,e145.Ok y
 | [],_,y,hy=>by
  simp only [leaveIn,List.mem_singleton] at hy
  subst hy
  exact ⟨hn,ha,trivial⟩
 |x::r,h,y,hy=>by
  have hx:=h x (List.mem_cons_self ..)
  simp only [leaveIn] at hy
  cases h1:iEq x.2.1 at' with
  |true =>
   rw [h1] at hy
   rcases List.mem_cons.1 hy with rfl|hy
   ·exact ⟨okAdd .i64 _,hx.2.1,trivial⟩
   ·exact h y (List.mem_cons_of_mem _ hy)
  |false =>
   cases h2:iLt at' x.2.1 with
   |true =>
    rw [h1,h2] at hy
    rcases List.mem_cons.1 hy with rfl|hy
    ·exact ⟨hn,ha,trivial⟩
    ·exact h y hy
   |false =>
    rw [h1,h2] at hy
    rcases List.mem_cons.1 hy with rfl|hy
    ·exact hx
    ·exact leaveIn_ok n at' hn ha r (fun z hz=>h z (List.mem_cons_of_mem _ hz)) y hy
theorem leaveIn_len (n at':Int):∀xs:List D145,(leaveIn n at' xs).length≤xs.length+1
 | []=>Nat.le_refl _
 |x::r=>by
  have:=leaveIn_len n at' r
  simp only [leaveIn]
  cases iEq x.2.1 at'<;>cases iLt at' x.2.1<;>simp only [cond_true,cond_false,List.length_cons]<;>omega
theorem ledger_len {x:DLe} (h:ledgerB x=true):x.2.1.length≤12∧(∀a∈x.2.1,List.length a.2.2.2.2.1≤4∧Asc (fun z y=>iLt z.2.1 y.2.1) a.2.2.2.2.1)∧Asc (fun z y=>sLt z.1 y.1) x.2.1:=by
 unfold ledgerB acctsB at h
 simp only [Bool.and_eq_true] at h
 obtain ⟨_,h1,h2,_⟩:=h
 have hA:∀i (hi:i<x.2.1.length),acctB x.2.1[i]=true∧behind (fun z y=>sLt z.1 y.1) x.2.1 i x.2.1[i]=true:=fun i hi=>by
  have:=allI_get h1 i hi
  rw [Nat.zero_add] at this
  unfold acctP at this
  simpa only [Bool.and_eq_true] using this
 refine ⟨by simp only [iLe,decide_eq_true_eq] at h2;omega,fun a ha=>?_,asc_of (lt:=fun (z y:D120)=>sLt z.1 y.1) (fun a b c=>(ord_str).tr a.1 b.1 c.1) (fun i hi=>(hA i hi).2)⟩
 obtain ⟨i,hi,rfl⟩:=List.getElem_of_mem ha
 have:=(hA i hi).1
 unfold acctB at this
 simp only [Bool.and_eq_true] at this
 obtain ⟨_,_,_,_,h5,h6⟩:=this
 refine ⟨by simp only [iLe,decide_eq_true_eq] at h5;omega,asc_of (lt:=fun (z y:D145)=>iLt z.2.1 y.2.1) (fun a b c=>(ord_int).tr a.2.1 b.2.1 c.2.1) (fun k hk=>?_)⟩
 unfold leavesB at h6
 have:=allI_get h6 k hk
 rw [Nat.zero_add] at this
 unfold leafP at this
 simp only [Bool.and_eq_true] at this
 exact this.2.2
theorem ledger_acctL {x:DLe} (h:ledgerB x=true):AcctL x.2.1:=⟨by have:=(ledger_len h).1;unfold W1;omega,fun a ha=>by have:=((ledger_len h).2.1 a ha).1;unfold W1;omega⟩
def hasV (t:D110) (a:D120):Int:=bif iEq t.1 3 then a.2.2.2.1 else a.2.1
theorem s_hasV (t:D110) (a:D120) {R:Type}:(bif iEq t.1 3 then some (Sum.inl (a.2.2.2.1,())) else some (Sum.inl (a.2.1,())))=some (Sum.inl (hasV t a,()):Sum (Int×Unit) R):=by
 unfold hasV
 cases iEq t.1 3<;>rfl
noncomputable def applyR (L:DLe) (t:D110):DLe×Int:=match F185 (L,(t,())) with
 |some (R,((c,()),()))=>(R,c)
 |none=>(L,0)
noncomputable def allStep (s:Int×DLe) (t:D110):Int×DLe:=(bif iEq (applyR s.2 t).2 0 then iAdd .i64 s.1 1 else s.1,(applyR s.2 t).1)
noncomputable def allR (L:DLe) (ts:List D110):Int×DLe:=ts.foldl allStep (0,L)
def epStep (e:Int) (s:List D145×Int) (x:D145):List D145×Int:=bif iLe x.2.1 e then (s.1,iAdd .i64 s.2 x.1) else (s.1++ [x],s.2)
def epFold (e:Int) (a:D120):List D145×Int:=a.2.2.2.2.1.foldl (epStep e) ([],a.2.1)
def epAcct (e:Int) (a:D120):D120:=(a.1,((epFold e a).2,(a.2.2.1,(a.2.2.2.1,((epFold e a).1,())))))
theorem epFold_inv (e:Int):∀(xs:List D145) (s:List D145×Int),(Lit.int .i64 s.2).wf=true→(∀y∈s.1,e145.Ok y)→(∀y∈xs,e145.Ok y) →
  (Lit.int .i64 (xs.foldl (epStep e) s).2).wf=true∧(∀y∈(xs.foldl (epStep e) s).1,e145.Ok y)∧(xs.foldl (epStep e) s).1.length≤s.1.length+xs.length
 | [],s,h1,h2,_=>⟨h1,h2,Nat.le_refl _⟩
 |x::r,s,h1,h2,h3=>by
  have hx:=h3 x (List.mem_cons_self ..)
  have hr:=fun y hy=>h3 y (List.mem_cons_of_mem _ hy)
  simp only [List.foldl_cons,List.length_cons]
  cases hc:iLe x.2.1 e with
  |true =>
   have:epStep e s x=(s.1,iAdd .i64 s.2 x.1):=by unfold epStep;rw [hc];rfl
   rw [this]
   have ih:=epFold_inv e r (s.1,iAdd .i64 s.2 x.1) (okAdd .i64 _) h2 hr
   exact ⟨ih.1,ih.2.1,by have:=ih.2.2;simp only at this ⊢;omega⟩
  |false =>
   have:epStep e s x=(s.1++ [x],s.2):=by unfold epStep;rw [hc];rfl
   rw [this]
   have ih:=epFold_inv e r (s.1++ [x],s.2) h1 (fun y hy=>by
    rcases List.mem_append.1 hy with h|h
    ·exact h2 y h
    ·rw [List.mem_singleton.1 h];exact hx) hr
   exact ⟨ih.1,ih.2.1,by have:=ih.2.2;simp only [List.length_append,List.length_singleton] at this ⊢;omega⟩
theorem epAcct_ok (e:Int) (a:D120) (h:e120.Ok a):e120.Ok (epAcct e a):=by
 have hi:=epFold_inv e a.2.2.2.2.1 ([],a.2.1) h.2.1 (fun y hy=>by cases hy) (fun y hy=>Ok_mem h.2.2.2.2.1.2 hy)
 have h9:(a.2.2.2.2.1.foldl (epStep e) ([],a.2.1)).1.length≤List.length a.2.2.2.2.1:=by simpa using hi.2.2
 exact ⟨h.1,hi.1,h.2.2.1,h.2.2.2.1,Ok_of (Nat.le_trans h9 h.2.2.2.2.1.1) hi.2.1,trivial⟩
theorem epAcct_len (e:Int) (a:D120):List.length (epAcct e a).2.2.2.2.1≤List.length a.2.2.2.2.1:=by
 have key:∀(xs:List D145) (s:List D145×Int),(xs.foldl (epStep e) s).1.length≤s.1.length+xs.length:=by
  intro xs
  induction xs with
  |nil=>intro s;exact Nat.le_refl _
  |cons x r ih =>
   intro s
   have:=ih (epStep e s x)
   have h2:(epStep e s x).1.length≤s.1.length+1:=by
    unfold epStep
    cases iLe x.2.1 e<;>simp only [cond_true,cond_false,List.length_append,List.length_singleton]<;>omega
   simp only [List.foldl_cons,List.length_cons]
   omega
 have h9:(a.2.2.2.2.1.foldl (epStep e) ([],a.2.1)).1.length≤List.length a.2.2.2.2.1:=by simpa using key a.2.2.2.2.1 ([],a.2.1)
 exact h9
def upTo (g:D120→D120) (xs:List D120) (k:Nat):List D120:=(xs.take k).map g++xs.drop k
theorem upTo_len (g:D120→D120) (xs:List D120) (k:Nat) (h:k≤xs.length):(upTo g xs k).length=xs.length:=by
 unfold upTo;rw [List.length_append,List.length_map,List.length_take,List.length_drop];omega
theorem upTo_get (g:D120→D120) {xs:List D120} {k:Nat} (h:k<xs.length):(upTo g xs k)[k]?=some xs[k]:=by
 unfold upTo
 rw [List.getElem?_append_right (by rw [List.length_map,List.length_take];omega),List.length_map,List.length_take,List.getElem?_drop]
 rw [show k+(k - min k xs.length)=k by omega,List.getElem?_eq_getElem h]
theorem upTo_set (g:D120→D120) {xs:List D120} {k:Nat} (h:k<xs.length):(upTo g xs k).set k (g xs[k])=upTo g xs (k+1):=by
 unfold upTo
 rw [List.set_append_right _ _ (by rw [List.length_map,List.length_take];omega),List.length_map,List.length_take,show k - min k xs.length=0 by omega,List.drop_eq_getElem_cons h,List.set_cons_zero,List.take_succ_eq_append_getElem h,List.map_append,List.append_assoc]
 rfl
theorem st3 {A B C F:Type} {a a':A} {b b':B} {c c':C} (h1:a=a') (h2:b=b') (h3:c=c'):(some (Sum.inl (a,(b,(c,())))):Option (Sum (A×(B×(C×Unit))) F))=some (Sum.inl (a',(b',(c',())))):=by rw [h1,h2,h3]
theorem s_epIn (L:DLe) (l0:List D120) (j:Nat) (hj:j<l0.length) (h4:List.length (l0[j]).2.2.2.2.1≤4) :
  loopF (F141.b1 ((j:Int),(l0,())) (L,())) ([],((0:Int),(l0,())))=some (Sum.inl ((epFold (iAdd .i64 L.1 1) l0[j]).1,((List.length (l0[j]).2.2.2.2.1:Int),(l0.set j ((l0[j]).1,((epFold (iAdd .i64 L.1 1) l0[j]).2,(l0[j]).2.2)),())))):=by
 have hl63:L63 (List.length (l0[j]).2.2.2.2.1):=by unfold L63;omega
 have hself:l0.set j ((l0[j]).1,((l0[j]).2.1,(l0[j]).2.2))=l0:=List.set_getElem_self hj
 have g:∀s:Int,getN (l0.set j ((l0[j]).1,(s,(l0[j]).2.2))) (Int.toNat (j:Int))=some ((l0[j]).1,(s,(l0[j]).2.2)):=fun s=>getN_set hj
 have lp:=(loopFold (S:=List D145×(Int×(List D120×Unit))) (l0[j]).2.2.2.2.1 (epStep (iAdd .i64 L.1 1)) (fun k s=>s.1.length≤k) (f:=F141.b1 ((j:Int),(l0,())) (L,())) (fun s k=>(s.1,(k,(l0.set j ((l0[j]).1,(s.2,(l0[j]).2.2)),())))) (fun s=>Sum.inl (s.1,((List.length (l0[j]).2.2.2.2.1:Int),(l0.set j ((l0[j]).1,(s.2,(l0[j]).2.2)),())))) ([],(l0[j]).2.1) (Nat.le_refl _) (fun i hi s hI=>by
  have hI:s.1.length≤i:=hI
  have hr:room (s.1.length+1) 16=true:=room_ok (by omega) (by decide) (by decide)
  unfold epStep
  cases hc:iLe ((l0[j]).2.2.2.2.1[i]).2.1 (iAdd .i64 L.1 1) with
  |true =>
   refine ⟨?_,by simp only [cond_true];omega⟩
   unfold F141.b1
   refine bind_eq (g s.2) (lt_then (Int.ofNat_lt.2 hi) (bind_eq (g s.2) (bind_eq (getI_lt hi) (thenT hc (bind_eq (g s.2) (bind_eq (g s.2) (bind_eq (getI_lt hi) (bind_eq (g s.2) (bind_eq rfl (st3 rfl (nxt hi hl63) ?_))))))))))
   exact List.set_set ..
  |false =>
   refine ⟨?_,by simp only [cond_false,List.length_append,List.length_singleton];omega⟩
   unfold F141.b1
   exact bind_eq (g s.2) (lt_then (Int.ofNat_lt.2 hi) (bind_eq (g s.2) (bind_eq (getI_lt hi) (no_then hc (bind_eq (g s.2) (bind_eq (getI_lt hi) (thenT hr (st3 rfl (nxt hi hl63) rfl))))))))) (fun s _=>by
  unfold F141.b1
  exact bind_eq (g s.2) (lt_else (Int.le_refl _) rfl))).1
 have e:(([],((0:Int),(l0,()))):List D145×(Int×(List D120×Unit)))=([],((0:Int),(l0.set j ((l0[j]).1,((l0[j]).2.1,(l0[j]).2.2)),()))):=by rw [hself]
 rw [e]
 exact lp
theorem ep_set (e:Int) {xs:List D120} {j:Nat} (hj:j<xs.length) (hj0:j<(upTo (epAcct e) xs j).length):(((upTo (epAcct e) xs j).set j (((upTo (epAcct e) xs j)[j]).1,((epFold e (upTo (epAcct e) xs j)[j]).2,((upTo (epAcct e) xs j)[j]).2.2))).set j (epAcct e (upTo (epAcct e) xs j)[j]))=upTo (epAcct e) xs (j+1):=by
 have h:=upTo_get (epAcct e) hj
 rw [List.getElem?_eq_getElem hj0] at h
 rw [Option.some.inj h,List.set_set]
 exact upTo_set (epAcct e) hj
def scan {A S E:Type} (step:S→A→Sum S E) (fin:S→E):List A→S→E
 | [],s=>fin s
 |x::r,s=>match step s x with
  | .inl s'=>scan step fin r s'
  | .inr e=>e
noncomputable def nextR (L:DLe):DLe:=match F141 (L,()) with
 |some (R,())=>R
 |none=>L
theorem y_with (l:List D120) (s:ByteArray) (hl:AcctL l) (h9:List.length l≤1000) (Pr:D120→Prop) (hp:∀a∈l,Pr a) (h0:Pr (⟨#[]⟩,(0,(0,(0,([],())))))) (hn:Pr (newA s 0)) :
  Y (F244 ((l,()),((s,()),()))) (fun y=>List.length y.1.1≤List.length l+1∧(∀a∈y.1.1,Pr a)∧y.1.1.any (fun a=>sEq a.1 s)=true):=by
 unfold F244
 refine Y.eq (s_caccts l hl) (Y.eq (s_acctAt l s hl.1.l) (Y.bif (fun h=>Y.mk ⟨Nat.le_succ _,hp,?_⟩) (fun h=>Y.room (by simp only [List.length_cons,List.length_nil];omega) (by decide) (by decide) ?_)))
 ·have h:iLe 0 (accAt l s)=true:=h
  have h:=iLe_iff.1 h
  rcases idxOf_cases l (fun a=>sEq a.1 s) with ⟨_,_,hi⟩|⟨j,hj,_,_,ha,_,_⟩
  ·have hi:accAt l s= -1:=hi
   omega
  ·exact ha
 ·refine Y.sum (P:=fun v=>0≤v.1∧v.1<(List.length v.2.1:Int)∧List.length v.2.1=List.length l+1∧∀a∈v.2.1,Pr a) (R:=fun _=>False) (Y.loop (I:=fun v=>0≤v.1∧v.1<(List.length v.2.1:Int)∧List.length v.2.1=List.length l+1∧∀a∈v.2.1,Pr a) (fun v=>v.1.toNat) (fun v hv=>?_) _ ?_) (fun v hv=>?_) (fun _ h=>h.elim)
  ·obtain ⟨k,ac,u⟩:=v
   obtain ⟨g1,g2,g3,g4⟩:=hv
   dsimp only at g1 g2 g3 g4
   unfold F244.b0
   refine Y.bif (fun hlt=>?_) (fun _=>Y.rl ⟨g1,g2,g3,g4⟩)
   have hlt:0<k:=iLt_iff.1 hlt
   have e:iSub .i64 k 1=k - 1:=iSub_small (by omega) (by omega)
   refine Y.dup (by dsimp only;omega) (by dsimp only;omega) fun x4 _=>Y.bif (fun _=>?_) (fun _=>Y.rl ⟨g1,g2,g3,g4⟩)
   refine Y.dup (by dsimp only;omega) (by dsimp only;omega) fun x5 h5=>Y.dup (by dsimp only;omega) (by dsimp only;omega) fun x6 _=>Y.so (Y.l ?_)
   show (0≤iSub .i64 k 1∧iSub .i64 k 1<(List.length (List.set ac k.toNat x5):Int)∧List.length (List.set ac k.toNat x5)=List.length l+1∧∀a∈List.set ac k.toNat x5,Pr a)∧(iSub .i64 k 1).toNat<k.toNat
   rw [e,List.length_set]
   refine ⟨⟨by omega,by omega,g3,fun a ha=>?_⟩,by omega⟩
   rcases List.mem_or_eq_of_mem_set ha with h1|rfl
   ·exact g4 a h1
   ·exact g4 _ h5
  ·have e:iSub .i64 (List.length (lapp l [((⟨#[]⟩,(0,(0,(0,([],()))))):D120)]):Int) 1=(List.length l:Int):=by
    unfold lapp
    rw [List.length_append,iSub_small]<;>simp only [List.length_cons,List.length_nil]<;>omega
   have el:List.length (lapp l [((⟨#[]⟩,(0,(0,(0,([],()))))):D120)])=List.length l+1:=by unfold lapp;rw [List.length_append];rfl
   refine ⟨?_,?_,el,fun a ha=>?_⟩
   ·dsimp only;rw [e];exact Int.natCast_nonneg _
   ·dsimp only;rw [e,el];omega
   ·rcases List.mem_append.1 ha with h|h
    ·exact hp a h
    ·rw [List.mem_singleton.1 h];exact h0
  ·obtain ⟨k,ac,u⟩:=v
   obtain ⟨g1,g2,g3,g4⟩:=hv
   dsimp only at g1 g2 g3 g4
   refine Y.dup g1 g2 fun x _=>Y.so (Y.mk ⟨?_,?_,?_⟩)
   ·show List.length (List.set ac _ _)≤_;rw [List.length_set];omega
   ·intro a ha
    rcases List.mem_or_eq_of_mem_set ha with h1|rfl
    ·exact g4 a h1
    ·exact hn
   ·rw [List.any_eq_true]
    exact ⟨_,List.mem_set (show k.toNat<ac.length by omega) _,by simp [sEq]⟩
theorem do_spec (L:DLe) (t:D110) (j:Nat) (hj:j<L.2.1.length) (hOk:(Ty.sl e120).Ok L.2.1) (hL:ledgerB L=true) (ht:e110.Ok t) (htx:txB t=true) :
  ∃R:DLe,F218 (L,(t,(((j:Int),()),())))=some (R,())∧(Ty.sl e120).Ok R.2.1∧R.1=L.1:=by
 obtain ⟨hlen,hlv,_⟩:=ledger_len hL
 let Pr:D120→Prop:=fun a=>e120.Ok a∧List.length a.2.2.2.2.1≤4
 have hAL:=ledger_acctL hL
 have hp:∀a∈L.2.1,Pr a:=fun a ha=>⟨Ok_mem hOk.2 ha,(hlv a ha).1⟩
 have hset:∀{l:List D120} {k:Nat} {b:D120},(∀a∈l,Pr a)→Pr b→∀a∈l.set k b,Pr a:=fun h hb a ha=>by
  rcases List.mem_or_eq_of_mem_set ha with h1|rfl
  ·exact h a h1
  ·exact hb
 have w1:∀x y:Int,(Lit.int .i64 (iAdd .i64 x y)).wf=true:=fun x y=>okAdd .i64 _
 have w2:∀x y:Int,(Lit.int .i64 (iSub .i64 x y)).wf=true:=fun x y=>okAdd .i64 _
 have hY:Y (F218 (L,(t,(((j:Int),()),())))) (fun y=>(List.length y.1.2.1≤1000∧∀a∈y.1.2.1,e120.Ok a)∧y.1.1=L.1):=by
  unfold F218
  refine Y.eq (s_cledger L hAL) (Y.dup (Int.natCast_nonneg _) (by dsimp only;omega) fun x2 h2=>Y.nT (by dsimp only;omega) fun x3 h3=>Y.so ?_)
  have q3:=hp _ h3
  have a4:∀a∈L.2.1.set (Int.toNat (j:Int)) (x3.1,(x3.2.1,(iAdd .i64 x2.2.2.1 (1:Int),x3.2.2.2))),Pr a:=hset hp ⟨⟨q3.1.1,q3.1.2.1,w1 _ _,q3.1.2.2.2⟩,q3.2⟩
  have l4:List.length (L.2.1.set (Int.toNat (j:Int)) (x3.1,(x3.2.1,(iAdd .i64 x2.2.2.1 (1:Int),x3.2.2.2))))=L.2.1.length:=List.length_set
  dsimp only
  generalize L.2.1.set (Int.toNat (j:Int)) (x3.1,(x3.2.1,(iAdd .i64 x2.2.2.1 (1:Int),x3.2.2.2)))=z4 at a4 l4
  have hjz:(Int.toNat (j:Int))<z4.length:=by rw [l4];exact hj
  refine Y.sum (P:=fun v=>List.length v.1≤1000∧∀a∈v.1,e120.Ok a) (R:=fun _=>False) (Y.bif (fun _=>?_) (fun _=>Y.bif (fun _=>?_) (fun _=>?_))) (fun v hv=>Y.mk ⟨hv,rfl⟩) (fun _ h=>h.elim)
  ·refine Y.nT hjz fun x5 _=>Y.nT hjz fun x6 h6=>Y.so ?_
   have q6:=a4 _ h6
   have a7:∀a∈z4.set (Int.toNat (j:Int)) (x6.1,(iSub .i64 x5.2.1 t.2.2.2.1,x6.2.2)),Pr a:=hset a4 ⟨⟨q6.1.1,w2 _ _,q6.1.2.2⟩,q6.2⟩
   have l7:List.length (z4.set (Int.toNat (j:Int)) (x6.1,(iSub .i64 x5.2.1 t.2.2.2.1,x6.2.2)))=L.2.1.length:=by rw [List.length_set];exact l4
   generalize z4.set (Int.toNat (j:Int)) (x6.1,(iSub .i64 x5.2.1 t.2.2.2.1,x6.2.2))=z7 at a7 l7
   refine Y.bind (y_with z7 t.2.2.1 ⟨by unfold W1;omega,fun a ha=>by have:=(a7 a ha).2;unfold W1;omega⟩ (by omega) Pr a7 ⟨⟨Nat.zero_le _,rfl,rfl,rfl,Ok_nil,trivial⟩,Nat.zero_le _⟩ ⟨⟨ht.2.2.1,rfl,rfl,rfl,Ok_nil,trivial⟩,Nat.zero_le _⟩) fun y8 h8=>?_
   obtain ⟨⟨z8,_⟩,_⟩:=y8
   obtain ⟨g1,g2,g3⟩:=h8
   dsimp only at g1 g2 g3
   refine Y.eq (s_acctAt z8 t.2.2.1 (by unfold L63;omega)) ?_
   rcases idxOf_cases z8 (fun a=>sEq a.1 t.2.2.1) with ⟨h1,_,_⟩|⟨k,hk,_,_,_,_,hi⟩
   ·rw [h1] at g3;cases g3
   ·have hi:accAt z8 t.2.2.1=(k:Int):=hi
    have hk':(k:Int)<(List.length z8:Int):=by exact_mod_cast hk
    dsimp only [I1]
    rw [hi]
    refine Y.dup (Int.natCast_nonneg _) hk' fun x10 _=>Y.dup (Int.natCast_nonneg _) hk' fun x11 h11=>Y.so (Y.l ⟨?_,fun a ha=>(hset g2 ?_ a ha).1⟩)
    ·show List.length (List.set z8 _ _)≤1000;rw [List.length_set];omega
    ·have q:=g2 _ h11;exact ⟨⟨q.1.1,w1 _ _,q.1.2.2⟩,q.2⟩
  ·refine Y.nT hjz fun x5 _=>Y.nT hjz fun x6 h6=>Y.so ?_
   have q6:=a4 _ h6
   have a7:∀a∈z4.set (Int.toNat (j:Int)) (x6.1,(iSub .i64 x5.2.1 t.2.2.2.1,x6.2.2)),Pr a:=hset a4 ⟨⟨q6.1.1,w2 _ _,q6.1.2.2⟩,q6.2⟩
   have l7:List.length (z4.set (Int.toNat (j:Int)) (x6.1,(iSub .i64 x5.2.1 t.2.2.2.1,x6.2.2)))=L.2.1.length:=by rw [List.length_set];exact l4
   generalize z4.set (Int.toNat (j:Int)) (x6.1,(iSub .i64 x5.2.1 t.2.2.2.1,x6.2.2))=z7 at a7 l7
   have hjz:(Int.toNat (j:Int))<z7.length:=by rw [l7];exact hj
   refine Y.nT hjz fun x8 _=>Y.nT hjz fun x9 h9=>Y.so (Y.l ⟨?_,fun a ha=>(hset a7 ?_ a ha).1⟩)
   ·show List.length (List.set z7 _ _)≤1000;rw [List.length_set];omega
   ·have q:=a7 _ h9;exact ⟨⟨q.1.1,q.1.2.1,q.1.2.2.1,w1 _ _,q.1.2.2.2.2⟩,q.2⟩
  ·refine Y.nT hjz fun x5 _=>Y.nT hjz fun x6 h6=>Y.so ?_
   have q6:=a4 _ h6
   have a7:∀a∈z4.set (Int.toNat (j:Int)) (x6.1,(x6.2.1,(x6.2.2.1,(iSub .i64 x5.2.2.2.1 t.2.2.2.1,x6.2.2.2.2)))),Pr a:=hset a4 ⟨⟨q6.1.1,q6.1.2.1,q6.1.2.2.1,w2 _ _,q6.1.2.2.2.2⟩,q6.2⟩
   have l7:List.length (z4.set (Int.toNat (j:Int)) (x6.1,(x6.2.1,(x6.2.2.1,(iSub .i64 x5.2.2.2.1 t.2.2.2.1,x6.2.2.2.2)))))=L.2.1.length:=by rw [List.length_set];exact l4
   generalize z4.set (Int.toNat (j:Int)) (x6.1,(x6.2.1,(x6.2.2.1,(iSub .i64 x5.2.2.2.1 t.2.2.2.1,x6.2.2.2.2))))=z7 at a7 l7
   have hjz:(Int.toNat (j:Int))<z7.length:=by rw [l7];exact hj
   refine Y.nT hjz fun x8 h8=>?_
   have q8:=a7 _ h8
   refine Y.eq (s_leave x8.2.2.2.2.1 t.2.2.2.1 _ q8.2) (Y.nT hjz fun x9 h9=>Y.so (Y.l ⟨?_,?_⟩))
   ·show List.length (List.set z7 _ _)≤1000;rw [List.length_set];omega
   ·intro a ha
    rcases List.mem_or_eq_of_mem_set ha with h1|rfl
    ·exact (a7 a h1).1
    ·have q:=a7 _ h9
     refine ⟨q.1.1,q.1.2.1,q.1.2.2.1,q.1.2.2.2.1,Ok_of ?_ (leaveIn_ok _ _ ht.2.2.2.1 (w1 _ _) _ (fun y hy=>Ok_mem q8.1.2.2.2.2.1.2 hy)),trivial⟩
     exact Nat.le_trans (leaveIn_len _ _ _) (Nat.le_trans (Nat.succ_le_succ q8.2) (by decide))
 obtain ⟨y,hy,⟨h1,h2⟩,h3⟩:=hY
 exact ⟨y.1,hy,Ok_of (Nat.le_trans h1 (by decide)) h2,h3⟩
theorem apply_spec (L:DLe) (t:D110) (hOk:(Ty.sl e120).Ok L.2.1) (hAL:AcctL L.2.1) (ht:e110.Ok t) :
  ∃(R:DLe) (c:Int),F185 (L,(t,()))=some (R,((c,()),()))∧(Ty.sl e120).Ok R.2.1∧AcctL R.2.1∧(iEq c 0=false→R=L)∧(R=L∨ledgerB R=true)∧R.1=L.1:=by
 have hl63:=hAL.1.l
 have sc:=s_cledger L hAL
 have sa:=s_acctAt L.2.1 t.2.1 hl63
 have sl:=s_ledger L hOk
 have sx:=s_tx t ⟨ht.2.1,ht.2.2.1⟩
 cases hq:ledgerB L with
 |false =>
  rw [hq] at sl
  refine ⟨L,1,?_,hOk,hAL,fun _=>rfl,.inl rfl,rfl⟩
  ·unfold F185;exact bind_eq sc (bind_eq sl (thenT rfl rfl))
 |true =>
  rw [hq] at sl
  cases htx:txB t with
  |false =>
   rw [htx] at sx
   refine ⟨L,1,?_,hOk,hAL,fun _=>rfl,.inl rfl,rfl⟩
   ·unfold F185;exact bind_eq sc (bind_eq sl (no_then rfl (bind_eq sx (thenT rfl rfl))))
  |true =>
   rw [htx] at sx
   rcases idxOf_cases L.2.1 (fun a=>sEq a.1 t.2.1) with ⟨_,_,hi⟩|⟨j,hj,_,_,_,_,hi⟩
   ·have hi:accAt L.2.1 t.2.1= -1:=hi
    rw [hi] at sa
    refine ⟨L,2,?_,hOk,hAL,fun _=>rfl,.inl rfl,rfl⟩
    ·unfold F185;exact bind_eq sc (bind_eq sl (no_then rfl (bind_eq sx (no_then rfl (bind_eq sa (thenT rfl rfl))))))
   ·have hi:accAt L.2.1 t.2.1=(j:Int):=hi
    rw [hi] at sa
    have hj0:iLt (j:Int) 0=false:=iLt_false (Int.natCast_nonneg j)
    cases hn:iEq (L.2.1[j]).2.2.1 t.2.2.2.2.1 with
    |false =>
     refine ⟨L,3,?_,hOk,hAL,fun _=>rfl,.inl rfl,rfl⟩
     ·unfold F185;exact bind_eq sc (bind_eq sl (no_then rfl (bind_eq sx (no_then rfl (bind_eq sa (no_then hj0 (bind_eq (getI_lt hj) (bind_eq (s_hasV t _) (thenT (by rw [hn];rfl) rfl)))))))))
    |true =>
     cases hh:iLt (hasV t L.2.1[j]) t.2.2.2.1 with
     |true =>
      refine ⟨L,4,?_,hOk,hAL,fun _=>rfl,.inl rfl,rfl⟩
      ·unfold F185;exact bind_eq sc (bind_eq sl (no_then rfl (bind_eq sx (no_then rfl (bind_eq sa (no_then hj0 (bind_eq (getI_lt hj) (bind_eq (s_hasV t _) (no_then (by rw [hn];rfl) (thenT hh rfl))))))))))
     |false =>
      obtain ⟨R,d1,d3,d4⟩:=do_spec L t j hj hOk hq ht htx
      have sl2:=s_ledger R d3
      cases hR:ledgerB R with
      |false =>
       rw [hR] at sl2
       refine ⟨L,5,?_,hOk,hAL,fun _=>rfl,.inl rfl,rfl⟩
       ·unfold F185;exact bind_eq sc (bind_eq sl (no_then rfl (bind_eq sx (no_then rfl (bind_eq sa (no_then hj0 (bind_eq (getI_lt hj) (bind_eq (s_hasV t _) (no_then (by rw [hn];rfl) (no_then hh (bind_eq d1 (bind_eq sl2 (thenT rfl rfl)))))))))))))
      |true =>
       rw [hR] at sl2
       refine ⟨R,0,?_,d3,ledger_acctL hR,fun h=>by simp [iEq] at h,.inr hR,d4⟩
       ·unfold F185;exact bind_eq sc (bind_eq sl (no_then rfl (bind_eq sx (no_then rfl (bind_eq sa (no_then hj0 (bind_eq (getI_lt hj) (bind_eq (s_hasV t _) (no_then (by rw [hn];rfl) (no_then hh (bind_eq d1 (bind_eq sl2 (no_then rfl rfl)))))))))))))
theorem applyS_eq (L:DLe) (t:D110) (hOk:(Ty.sl e120).Ok L.2.1) (hAL:AcctL L.2.1) (ht:e110.Ok t) :
  F185 (L,(t,()))=some ((applyR L t).1,(((applyR L t).2,()),()))∧(Ty.sl e120).Ok (applyR L t).1.2.1∧AcctL (applyR L t).1.2.1∧(iEq (applyR L t).2 0=false→(applyR L t).1=L)∧((applyR L t).1=L∨ledgerB (applyR L t).1=true)∧(applyR L t).1.1=L.1:=by
 obtain ⟨R,c,h1,h3,h4,h5,h6,h7⟩:=apply_spec L t hOk hAL ht
 have:applyR L t=(R,c):=by unfold applyR;rw [h1]
 rw [this]
 exact ⟨h1,h3,h4,h5,h6,h7⟩
theorem all_spec (L:DLe) (ts:List D110) (hOk:(Ty.sl e120).Ok L.2.1) (hAL:AcctL L.2.1) (ht:(Ty.sl e110).Ok ts) :
  F140 (L,((ts,()),()))=some ((allR L ts).2,(((allR L ts).1,()),()))∧(Ty.sl e120).Ok (allR L ts).2.2.1∧AcctL (allR L ts).2.2.1:=by
 have hl63:L63 ts.length:=ht.1
 have sp:=loopFold (S:=Int×(Int×(Int×(List D120×Unit)))) ts allStep (fun _ s=>(Ty.sl e120).Ok s.2.2.1∧AcctL s.2.2.1) (f:=F140.b0 (L,((ts,()),()))) (fun s k=>(s.1,(k,(s.2.1,(s.2.2.1,()))))) (fun s=>Sum.inl (s.1,((ts.length:Int),(s.2.1,(s.2.2.1,()))))) (0,L) ⟨hOk,hAL⟩ (fun i hi s hI=>by
  obtain ⟨h1,h3,h4,h5,_⟩:=applyS_eq s.2 ts[i] hI.1 hI.2 (Ok_mem ht.2 (List.getElem_mem hi))
  refine ⟨?_,h3,h4⟩
  unfold F140.b0 allStep
  refine lt_then (Int.ofNat_lt.2 hi) (bind_eq (getI_lt hi) (bind_eq h1 ?_))
  rw [←nxt hi hl63]
  cases hc:iEq (applyR s.2 ts[i]).2 0 with
  |true=>rfl
  |false=>rw [h5 hc];rfl) (fun s _=>by
  unfold F140.b0
  exact lt_else (Int.le_refl _) rfl)
 refine ⟨?_,sp.2.1,sp.2.2⟩
 ·unfold F140
  exact bind_eq (s_cledger L hAL) (bind_eq sp.1 rfl)
theorem next_spec (L:DLe) (hOk:(Ty.sl e120).Ok L.2.1) (hAL:AcctL L.2.1) :
  ∃R:DLe,F141 (L,())=some (R,())∧(Ty.sl e120).Ok R.2.1∧AcctL R.2.1∧(R=L∨R=(iAdd .i64 L.1 1,(L.2.1.map (epAcct (iAdd .i64 L.1 1)),()))∧ledgerB L=true∧ledgerB R=true)∧(ledgerB L=true→ledgerB (iAdd .i64 L.1 1,(L.2.1.map (epAcct (iAdd .i64 L.1 1)),()))=true→R=(iAdd .i64 L.1 1,(L.2.1.map (epAcct (iAdd .i64 L.1 1)),()))):=by
 have sc:=s_cledger L hAL
 have sl:=s_ledger L hOk
 cases hq:ledgerB L with
 |false =>
  rw [hq] at sl
  refine ⟨L,?_,hOk,hAL,.inl rfl,fun h=>by cases h⟩
  ·unfold F141;exact bind_eq sc (bind_eq sl (thenT rfl rfl))
 |true =>
  rw [hq] at sl
  obtain ⟨hlen,hlv,_⟩:=ledger_len hq
  have hl63:L63 L.2.1.length:=hAL.1.l
  let e:=iAdd .i64 L.1 1
  let R:DLe:=(e,(L.2.1.map (epAcct e),()))
  have hRok:(Ty.sl e120).Ok R.2.1:=Ok_of (by show (L.2.1.map (epAcct e)).length≤_;rw [List.length_map];exact hOk.1) (fun y hy=>by
   obtain ⟨a,ha,rfl⟩:=List.mem_map.1 hy
   exact epAcct_ok e a (Ok_mem hOk.2 ha))
  have hRal:AcctL R.2.1:=⟨by show W1 (L.2.1.map (epAcct e)).length;rw [List.length_map];exact hAL.1,fun y hy=>by
   obtain ⟨a,ha,rfl⟩:=List.mem_map.1 hy
   exact Nat.le_trans (epAcct_len e a) (hAL.2 a ha)⟩
  have hend:upTo (epAcct e) L.2.1 L.2.1.length=L.2.1.map (epAcct e):=by unfold upTo;rw [List.take_length,List.drop_length,List.append_nil]
  have el:∀k (hk:k<L.2.1.length) (hk0:k<(upTo (epAcct e) L.2.1 k).length),List.length ((upTo (epAcct e) L.2.1 k)[k]).2.2.2.2.1≤4:=fun k hk hk0=>by
   have h:=upTo_get (epAcct e) hk
   rw [List.getElem?_eq_getElem hk0] at h
   rw [Option.some.inj h]
   exact (hlv _ (List.getElem_mem hk)).1
  have sp:=loopF_trace (f:=F141.b0 (L,())) (fun k=>((k:Int),(upTo (epAcct e) L.2.1 k,()))) L.2.1.length (e:=Sum.inl ((L.2.1.length:Int),(L.2.1.map (epAcct e),()))) (fun k hk=>by
   have hk0:k<(upTo (epAcct e) L.2.1 k).length:=by rw [upTo_len _ _ _ (by omega)];exact hk
   unfold F141.b0
   exact lt_then (Int.ofNat_lt.2 hk0) (bind_eq (getI_lt hk0) (bind_eq (s_epIn L _ k hk0 (el k hk hk0)) (bind_eq (getN_set hk0) (bind_eq rfl (st2 (nxt hk hl63) (ep_set e hk hk0)))))))
   (by
   unfold F141.b0
   refine lt_else (by rw [upTo_len _ _ _ (Nat.le_refl _)];exact Int.le_refl _) ?_
   rw [hend])
  have sl2:=s_ledger R hRok
  cases hR:ledgerB R with
  |false =>
   rw [hR] at sl2
   refine ⟨L,?_,hOk,hAL,.inl rfl,fun _ h=>by cases h⟩
   ·unfold F141;exact bind_eq sc (bind_eq sl (no_then rfl (bind_eq sp (bind_eq sl2 (thenT rfl (bind_eq sc rfl))))))
  |true =>
   rw [hR] at sl2
   refine ⟨R,?_,hRok,hRal,.inr ⟨rfl,rfl,by first|rfl|exact hR⟩,fun _ _=>rfl⟩
   ·unfold F141;exact bind_eq sc (bind_eq sl (no_then rfl (bind_eq sp (bind_eq sl2 (no_then rfl rfl)))))
theorem nextS_eq (L:DLe) (hOk:(Ty.sl e120).Ok L.2.1) (hAL:AcctL L.2.1):F141 (L,())=some (nextR L,())∧(Ty.sl e120).Ok (nextR L).2.1∧AcctL (nextR L).2.1:=by
 obtain ⟨R,h1,h3,h4,_⟩:=next_spec L hOk hAL
 have:nextR L=R:=by unfold nextR;rw [h1]
 rw [this]
 exact ⟨h1,h3,h4⟩
theorem nextS_is (L:DLe) (hOk:(Ty.sl e120).Ok L.2.1) (hAL:AcctL L.2.1):nextR L=L∨nextR L=(iAdd .i64 L.1 1,(L.2.1.map (epAcct (iAdd .i64 L.1 1)),()))∧ledgerB L=true∧ledgerB (nextR L)=true:=by
 obtain ⟨R,h1,h3,h4,h5,_⟩:=next_spec L hOk hAL
 have:nextR L=R:=by unfold nextR;rw [h1]
 rw [this]
 exact h5
theorem applyR_led (L:DLe) (t:D110) (hOk:(Ty.sl e120).Ok L.2.1) (hAL:AcctL L.2.1) (ht:e110.Ok t) (h:ledgerB L=true):ledgerB (applyR L t).1=true:=by
 obtain ⟨_,_,_,_,h6,_⟩:=applyS_eq L t hOk hAL ht
 rcases h6 with h6|h6
 ·rw [h6];exact h
 ·exact h6
theorem allR_led:∀(ts:List D110) (s:Int×DLe),(Ty.sl e120).Ok s.2.2.1→AcctL s.2.2.1→(∀t∈ts,e110.Ok t)→ledgerB s.2=true→ledgerB (ts.foldl allStep s).2=true
 | [],s,_,_,_,h=>h
 |t::r,s,h1,h2,h3,h=>by
  obtain ⟨_,h4,h5,_⟩:=applyS_eq s.2 t h1 h2 (h3 t (by simp))
  exact allR_led r (allStep s t) h4 h5 (fun x hx=>h3 x (by simp [hx])) (applyR_led s.2 t h1 h2 (h3 t (by simp)) h)
theorem allR_ep:∀(ts:List D110) (s:Int×DLe),(Ty.sl e120).Ok s.2.2.1→AcctL s.2.2.1→(∀t∈ts,e110.Ok t)→(ts.foldl allStep s).2.1=s.2.1
 | [],s,_,_,_=>rfl
 |t::r,s,h1,h2,h3=>by
  obtain ⟨_,h4,h5,_,_,h6⟩:=applyS_eq s.2 t h1 h2 (h3 t (by simp))
  exact (allR_ep r (allStep s t) h4 h5 (fun x hx=>h3 x (by simp [hx]))).trans h6
structure TreeF (l:List DBk):Prop where
 nn:∀b∈l,0≤b.1∧b.1≤100000
 blk:∀b∈l,blockB b=true
 asc:∀i j (hi:i<l.length) (hj:j<l.length),i<j→l[i].1<l[j].1
 par:∀b∈l,((bQc b).2.1= -1∧rootB (bQc b)=true)∨(0≤(bQc b).2.1∧(bQc b).2.1<b.1∧rootB (bQc b)=false∧∃p∈l,p.1=(bQc b).2.1∧p.2.2.1=(bQc b).1)
 len:l.length≤400
 ep:∀b∈l,b.2.1=headEp l
theorem blk_nn {b:DBk} (h:blockB b=true):0≤b.1∧b.1≤100000:=by
 unfold blockB at h
 simp only [Bool.and_eq_true] at h
 simpa [inR,iLe] using h.1
theorem asc_lt {A:Type} {f:A→Int} {l:List A} (h:∀i (hi:i<l.length),behind (fun z y=>iLt (f z) (f y)) l i l[i]=true) (i j:Nat) (hi:i<l.length) (hj:j<l.length) (hij:i<j):f l[i]<f l[j]:=by
 have h1:=asc_le h (j - 1 - i) i (by omega)
 have h2:=h ((j - 1)+1) (by omega)
 have h3:=behind_succ (lt:=fun z y=>iLt (f z) (f y)) (xs:=l) (j:=j - 1) (y:=l[j - 1+1]) (by omega)
 rw [h3] at h2
 have h4:f l[j - 1]<f l[j - 1+1]:=by simpa [iLt] using h2
 have e1:l[i+(j - 1 - i)]=l[j - 1]:=by congr 1;omega
 have e2:l[j - 1+1]=l[j]:=by congr 1;omega
 rw [e1] at h1
 rw [e2] at h4
 omega
theorem root_blk {q:DQc} (h:rootB q=true):q.2.1= -1:=by
 unfold rootB at h
 simp only [Bool.and_eq_true,iEq,decide_eq_true_eq] at h
 exact h.2.1
theorem treeF {l:List DBk} (h:treeB l=true):TreeF l:=by
 unfold treeB at h
 rw [tree_whole] at h
 simp only [Bool.and_eq_true] at h
 have hq:∀i (hi:i<l.length),(treeQ l i l[i]=true∧(rootB (bQc l[i])||parentB l l[i])=true):=fun i hi=>by
  have:=allI_get h.1 i hi
  rw [Nat.zero_add] at this
  simpa only [Bool.and_eq_true] using this
 have hb:∀i (hi:i<l.length),blockB l[i]=true∧iEq (l[i]).2.1 (headEp l)=true∧behind (fun z y=>iLt z.1 y.1) l i l[i]=true:=fun i hi=>by
  have:=(hq i hi).1
  unfold treeQ at this
  simpa only [Bool.and_eq_true] using this
 refine ⟨fun b hm=>?_,fun b hm=>?_,asc_lt (f:=fun b:DBk=>b.1) fun i hi=>(hb i hi).2.2,fun b hm=>?_,by have:=h.2;simp only [iLe,decide_eq_true_eq] at this;omega,fun b hm=>?_⟩
 ·obtain ⟨i,hi,rfl⟩:=List.getElem_of_mem hm;exact blk_nn (hb i hi).1
 ·obtain ⟨i,hi,rfl⟩:=List.getElem_of_mem hm;exact (hb i hi).1
 ·obtain ⟨i,hi,rfl⟩:=List.getElem_of_mem hm
  cases hr:rootB (bQc l[i]) with
  |true=>exact .inl ⟨root_blk hr,rfl⟩
  |false =>
   have h1:=noRoot_lt (hb i hi).1 hr
   have h2:=(hq i hi).2
   rw [hr,Bool.false_or] at h2
   unfold parentB at h2
   refine .inr ⟨h1.1,h1.2,rfl,?_⟩
   cases hf:l.find? (fun z=>iEq z.1 (bQc l[i]).2.1) with
   |none=>rw [hf] at h2;cases h2
   |some p =>
    rw [hf] at h2
    have h3:=List.find?_some hf
    simp only [iEq,decide_eq_true_eq] at h2 h3
    exact ⟨p,List.mem_of_find?_eq_some hf,h3,h2⟩
 ·obtain ⟨i,hi,rfl⟩:=List.getElem_of_mem hm;simpa [iEq] using (hb i hi).2.1
theorem TreeF.uniq {l:List DBk} (h:TreeF l) {i j:Nat} (hi:i<l.length) (hj:j<l.length) (e:l[i].1=l[j].1):i=j:=by
 rcases Nat.lt_trichotomy i j with h1|h1|h1
 ·have:=h.asc i j hi hj h1;omega
 ·exact h1
 ·have:=h.asc j i hj hi h1;omega
theorem TreeF.uniqB {l:List DBk} (h:TreeF l) {a b:DBk} (ha:a∈l) (hb:b∈l) (e:a.1=b.1):a=b:=by
 obtain ⟨i,hi,rfl⟩:=List.getElem_of_mem ha
 obtain ⟨j,hj,rfl⟩:=List.getElem_of_mem hb
 have:=h.uniq hi hj e
 subst this
 rfl
theorem blkAt_of {l:List DBk} (h:TreeF l) {j:Nat} (hj:j<l.length):blkAt l l[j].1=(j:Int):=by
 unfold blkAt
 rcases idxOf_cases l (fun b=>iEq b.1 l[j].1) with ⟨h1,_,_⟩|⟨k,hk,hp,_,_,_,h3⟩
 ·rw [List.any_eq_false] at h1
  exact absurd (by simp [iEq]) (h1 l[j] (List.getElem_mem hj))
 ·simp only [iEq,decide_eq_true_eq] at hp
  have:=h.uniq hk hj hp
  rw [h3,this]
theorem getI_blkAt {l:List DBk} (h:TreeF l) {b:DBk} (hb:b∈l):getI l (blkAt l b.1)=some b∧iLt (blkAt l b.1) 0=false:=by
 obtain ⟨j,hj,rfl⟩:=List.getElem_of_mem hb
 rw [blkAt_of h hj]
 exact ⟨getI_lt hj,iLt_false (Int.natCast_nonneg j)⟩
theorem blkAt_cases {l:List DBk} (h:TreeF l) (id:Int):(l.find? (fun b=>iEq b.1 id)=none∧blkAt l id= -1∧∀b∈l,b.1≠id)∨∃b∈l,b.1=id∧l.find? (fun b=>iEq b.1 id)=some b∧0≤blkAt l id∧getI l (blkAt l id)=some b:=by
 unfold blkAt
 rcases idxOf_cases l (fun b=>iEq b.1 id) with ⟨h1,h2,h3⟩|⟨k,hk,hp,_,_,h2,h3⟩
 ·refine .inl ⟨h2,h3,fun b hb e=>?_⟩
  rw [List.any_eq_false] at h1
  exact absurd (by simp [iEq,e]) (h1 b hb)
 ·simp only [iEq,decide_eq_true_eq] at hp
  exact .inr ⟨l[k],List.getElem_mem hk,hp,h2,by rw [h3];exact Int.natCast_nonneg k,by rw [h3];exact getI_lt hk⟩
def chB (l:List DBk):Nat→Int→List DBk
 |0,_=> []
 |f+1,id=>match l.find? (fun b=>iEq b.1 id) with
  |none=> []
  |some b=>chB l f (bQc b).2.1++ [b]
def chain (l:List DBk) (id:Int):List DBk:=chB l (id.toNat+1) id
theorem chB_none {l:List DBk} {id:Int} (h:l.find? (fun b=>iEq b.1 id)=none):∀f,chB l f id= []
 |0=>rfl
 |f+1=>by unfold chB;rw [h]
theorem chB_fuel {l:List DBk} (h:TreeF l):∀(f g:Nat) (id:Int),id.toNat<f→id.toNat<g→chB l f id=chB l g id:=by
 intro f
 induction f with
 |zero=>intro g id hf;omega
 |succ f ih =>
  intro g id hf hg
  cases g with
  |zero=>omega
  |succ g =>
   rcases blkAt_cases h id with ⟨h1,_,_⟩|⟨b,hb,he,h1,_,_⟩
   ·rw [chB_none h1,chB_none h1]
   ·unfold chB
    rw [h1]
    dsimp only
    have hn:=h.nn b hb
    rcases h.par b hb with ⟨h2,_⟩|⟨h2,h3,_⟩
    ·have h4:l.find? (fun z=>iEq z.1 (bQc b).2.1)=none:=by
      rw [List.find?_eq_none]
      intro z hz
      have:=h.nn z hz
      simp only [iEq,decide_eq_true_eq]
      omega
     rw [chB_none h4,chB_none h4]
    ·rw [ih g (bQc b).2.1 (by omega) (by omega)]
theorem chain_some {l:List DBk} (h:TreeF l) {b:DBk} (hb:b∈l):chain l b.1=chain l (bQc b).2.1++ [b]:=by
 have hn:=h.nn b hb
 rcases blkAt_cases h b.1 with ⟨_,_,h1⟩|⟨c,hc,he,h1,_,_⟩
 ·exact absurd rfl (h1 b hb)
 ·have:c=b:=h.uniqB hc hb he
  subst this
  have e:chain l c.1=chB l c.1.toNat (bQc c).2.1++ [c]:=by simp only [chain,chB,h1]
  rw [e]
  congr 1
  rcases h.par c hb with ⟨h2,_⟩|⟨h2,h3,_⟩
  ·have h4:l.find? (fun z=>iEq z.1 (bQc c).2.1)=none:=by
    rw [List.find?_eq_none]
    intro z hz
    have:=h.nn z hz
    simp only [iEq,decide_eq_true_eq]
    omega
   unfold chain
   rw [chB_none h4,chB_none h4]
  ·exact chB_fuel h _ _ _ (by omega) (by omega)
theorem chain_none {l:List DBk} {id:Int} (h:∀b∈l,b.1≠id):chain l id= []:=chB_none (by
 rw [List.find?_eq_none]
 intro z hz
 have:=h z hz
 simpa [iEq] using this) _
theorem chain_neg {l:List DBk} (h:TreeF l) {id:Int} (hn:id<0):chain l id= []:=chain_none (fun b hb=>by have:=h.nn b hb;omega)
theorem chain_ind {l:List DBk} (h:TreeF l) {M:Int→Prop} (h0:∀id,(∀b∈l,b.1≠id)→M id) (h1:∀b∈l,M (bQc b).2.1→M b.1):∀id,M id:=by
 have key:∀(n:Nat) (id:Int),id.toNat<n→M id:=by
  intro n
  induction n with
  |zero=>intro id hn;omega
  |succ n ih =>
   intro id hn
   rcases blkAt_cases h id with ⟨_,_,h2⟩|⟨b,hb,he,_,_,_⟩
   ·exact h0 id h2
   ·rw [←he]
    refine h1 b hb ?_
    have hbn:=h.nn b hb
    rcases h.par b hb with ⟨h3,_⟩|⟨h3,h4,_⟩
    ·rw [h3];exact h0 _ (fun c hc=>by have:=h.nn c hc;omega)
    ·exact ih _ (by omega)
 exact fun id=>key (id.toNat+1) id (by omega)
theorem chain_mem {l:List DBk} (h:TreeF l):∀(id:Int) (b:DBk),b∈chain l id→b∈l:=by
 refine chain_ind h (fun id hn b hb=>?_) (fun b hb ih c hc=>?_)
 ·rw [chain_none hn] at hb;cases hb
 ·rw [chain_some h hb] at hc
  rcases List.mem_append.1 hc with hc|hc
  ·exact ih c hc
  ·rw [List.mem_singleton.1 hc];exact hb
theorem chain_len {l:List DBk} (h:TreeF l):∀(id:Int),(chain l id).length≤(id+1).toNat:=by
 refine chain_ind h (fun id hn=>?_) (fun b hb ih=>?_)
 ·rw [chain_none hn];exact Nat.zero_le _
 ·rw [chain_some h hb]
  have hn:=h.nn b hb
  simp only [List.length_append,List.length_cons,List.length_nil]
  rcases h.par b hb with ⟨h3,_⟩|⟨h3,h4,_⟩<;>omega
theorem chain_len1 {l:List DBk} (h:TreeF l) (id:Int):(chain l id).length≤100001:=by
 rcases blkAt_cases h id with ⟨_,_,h2⟩|⟨b,hb,he,_,_,_⟩
 ·rw [chain_none h2];exact Nat.zero_le _
 ·have:=chain_len h id
  have:=h.nn b hb
  omega
def places (l:List DBk) (ch:List DBk):List D3:=ch.map (fun b=>(blkAt l b.1,()))
def idsOf (ch:List DBk):List D3:=ch.map (fun b=>(b.1,()))
theorem iLe_neg {a:Int} (h:a<0):iLe 0 a=false:=by simp [iLe];omega
theorem iLe_nn {a:Int} (h:0≤a):iLe 0 a=true:=by simp [iLe];exact h
theorem par_in {l:List DBk} (h:TreeF l) {b:DBk} (hb:b∈l):(bQc b).2.1<0∨∃p∈l,p.1=(bQc b).2.1:=by
 rcases h.par b hb with ⟨h3,_⟩|⟨_,_,_,p,hp,he,_⟩
 ·exact .inl (by omega)
 ·exact .inr ⟨p,hp,he⟩
theorem s_chain (l:List DBk) (id:Int) (hOk:(Ty.sl e71).Ok l) (h:TreeF l):F232 ((l,()),((id,()),()))=some ((places l (chain l id),()),()):=by
 have hl:L63 l.length:=hOk.1
 have key:∀id':Int,(id'<0∨∃b∈l,b.1=id')→∀out:List D3,(chain l id').length+out.length≤100001→∃e,loopF (F232.b0 ((l,()),((id,()),()))) (id',(out,()))=some (.inl (e,(places l (chain l id')++out,()))):=by
  refine chain_ind h (fun id' hn hc out ho=>?_) (fun b hb ih _ out ho=>?_)
  ·have hneg:id'<0:=hc.resolve_right (fun ⟨b,hb,he⟩=>hn b hb he)
   refine ⟨id',?_⟩
   rw [chain_none hn]
   refine loopF_end ?_
   unfold F232.b0
   exact no_then (iLe_neg hneg) rfl
  ·have hn:=h.nn b hb
   rw [chain_some h hb] at ho ⊢
   simp only [List.length_append,List.length_cons,List.length_nil] at ho
   obtain ⟨e,he⟩:=ih (par_in h hb) ((blkAt l b.1,())::out) (by simp only [List.length_cons];omega)
   refine ⟨e,?_⟩
   have hst:F232.b0 ((l,()),((id,()),())) (b.1,(out,()))=some (.inl ((bQc b).2.1,((blkAt l b.1,())::out,()))):=by
    unfold F232.b0
    refine thenT (iLe_nn hn.1) (bind_eq (s_blkAt l b.1 hl) (no_then (getI_blkAt h hb).2 (room_is ?_ (by decide) (by decide) (bind_eq (getI_blkAt h hb).1 rfl))))
    show 1+out.length≤1048577
    omega
   rw [loopF_step hst,he]
   unfold places
   simp
 unfold F232
 by_cases hc:id<0∨∃b∈l,b.1=id
 ·obtain ⟨e,he⟩:=key id hc [] (by have:=chain_len1 h id;simpa using this)
  rw [List.append_nil] at he
  exact bind_eq he rfl
 ·have h1:∀b∈l,b.1≠id:=fun b hb e=>hc (.inr ⟨b,hb,e⟩)
  have h2:0≤id:=by
   rcases Int.lt_or_le id 0 with h|h
   ·exact absurd (.inl h) hc
   ·exact h
  rw [chain_none h1]
  rcases blkAt_cases h id with ⟨_,h3,_⟩|⟨b,hb,he,_⟩
  ·refine bind_eq (loopF_end (e:= .inr (([],()),())) ?_) rfl
   unfold F232.b0
   exact thenT (iLe_nn h2) (bind_eq (s_blkAt l id hl) (thenT (by show iLt (blkAt l id) 0=true;rw [h3];rfl) rfl))
  ·exact absurd he (h1 b hb)
def commitId (l:List DBk) (q:DQc):Int:=match l.find? (fun b=>iEq b.1 q.2.1) with
 |none=> -1
 |some b=>bif !iEq b.2.2.1 q.1 then -1 else match l.find? (fun z=>iEq z.1 (bQc b).2.1) with
  |none=> -1
  |some p=>bif !iEq p.2.2.1 (iSub .i64 q.1 1) then -1 else p.1
theorem commitId_in {l:List DBk} {q:DQc} (h:iEq (commitId l q) (-1)=false):∃p∈l,p.1=commitId l q:=by
 unfold commitId at h ⊢
 cases h1:l.find? (fun b=>iEq b.1 q.2.1) with
 |none=>rw [h1] at h;simp [iEq] at h
 |some b =>
  rw [h1] at h
  dsimp only at h ⊢
  cases h2:iEq b.2.2.1 q.1 with
  |false=>rw [h2] at h;simp [iEq] at h
  |true =>
   rw [h2] at h
   cases h3:l.find? (fun z=>iEq z.1 (bQc b).2.1) with
   |none=>rw [h3] at h;simp [iEq] at h
   |some p =>
    rw [h3] at h
    dsimp only at h ⊢
    cases h4:iEq p.2.2.1 (iSub .i64 q.1 1) with
    |false=>rw [h4] at h;simp [iEq] at h
    |true=>exact ⟨p,List.mem_of_find?_eq_some h3,rfl⟩
theorem s_commitOf (l:List DBk) (q:DQc) (hl:L63 l.length) (h:TreeF l):F255 ((l,()),(q,()))=some (I1 (commitId l q)):=by
 unfold F255 commitId
 refine bind_eq (s_blkAt l q.2.1 hl) ?_
 rcases blkAt_cases h q.2.1 with ⟨h1,h2,_⟩|⟨b,hb,he,h1,h2,h3⟩
 ·rw [h1,h2];rfl
 ·rw [h1]
  refine no_then (iLt_false h2) (bind_eq h3 ?_)
  dsimp only
  cases hr:iEq b.2.2.1 q.1 with
  |false=>exact thenT rfl rfl
  |true =>
   refine no_then rfl (bind_eq h3 (bind_eq (s_blkAt l _ hl) ?_))
   rcases blkAt_cases h (bQc b).2.1 with ⟨k1,k2,_⟩|⟨p,hp,pe,k1,k2,k3⟩
   ·rw [k1];exact thenT (by show iLt (blkAt l (bQc b).2.1) 0=true;rw [k2];rfl) rfl
   ·rw [k1]
    refine no_then (iLt_false k2) (bind_eq k3 ?_)
    dsimp only
    cases hp2:iEq p.2.2.1 (iSub .i64 q.1 1) with
    |false=>exact thenT rfl rfl
    |true=>exact no_then rfl (bind_eq k3 rfl)
theorem s_lchain (l:List DBk) (id:Int) (hOk:(Ty.sl e71).Ok l) (h:TreeF l) (hL:∀b∈l,BlockL b):F264 ((l,()),((id,()),()))=some ((chain l id,()),()):=by
 have hc:=chain_len1 h id
 have hpl:(places l (chain l id)).length=(chain l id).length:=by unfold places;simp
 have sp:=loopF_trace (f:=F264.b0 ((places l (chain l id),()),()) ((l,()),((id,()),()))) (fun k=>((chain l id).take k,((k:Int),()))) (chain l id).length (e:=Sum.inl (chain l id,(((chain l id).length:Int),()))) (fun k hk=>by
  have hm:=chain_mem h id _ (List.getElem_mem hk)
  have hx:(places l (chain l id))[k]?=some (blkAt l (chain l id)[k].1,()):=by unfold places;rw [List.getElem?_map,List.getElem?_eq_getElem hk];rfl
  unfold F264.b0
  refine lt_then (show (k:Int)<((places l (chain l id)).length:Int) by rw [hpl];omega) (bind_eq (getI_of hx) (bind_eq (getN_of hx) (bind_eq (getI_blkAt h hm).1 (bind_eq (s_cblk _ (hL _ hm)) (room_is ?_ (by decide) (by decide) ?_)))))
  ·show ((chain l id).take k).length+1≤1048577
   rw [List.length_take];omega
  ·refine st2 ?_ (nxt (n:=(chain l id).length) hk (by unfold L63;omega))
   rw [List.take_succ_eq_append_getElem hk];rfl)
  (by
  unfold F264.b0
  refine lt_else (show ((places l (chain l id)).length:Int)≤((chain l id).length:Int) by rw [hpl];exact Int.le_refl _) ?_
  rw [List.take_length])
 unfold F264
 exact bind_eq (s_chain l id hOk h) (bind_eq sp rfl)
def hasD (d:List D3) (n:Int):Bool:=d.any (fun x=>iEq x.1 n)
def addD (d:List D3) (n:Int):List D3:=bif hasD d n then d else d++ [(n,())]
def addDs (d:List D3) (ids:List D3):List D3:=ids.foldl (fun d x=>addD d x.1) d
theorem addD_len (d:List D3) (n:Int):(addD d n).length≤d.length+1:=by
 unfold addD
 cases hasD d n<;>simp
theorem s_hasInt (d:List D3) (n:Int) (hl:L63 d.length):F265 ((d,()),((n,()),()))=some (B1 (hasD d n)):=by
 have lp:=loopHas (S:=Int×Unit) d (fun x=>iEq x.1 n) (f:=F265.b0 ((d,()),((n,()),()))) (fun k=>(k,())) (Sum.inl ((d.length:Int),())) (Sum.inr (B1 true)) (fun i hi=>by
  unfold F265.b0
  refine lt_then (Int.ofNat_lt.2 hi) (bind_eq (getI_lt hi) ?_)
  rw [←nxt hi hl]) (by
  unfold F265.b0
  exact lt_else (Int.le_refl _) rfl)
 unfold F265
 refine bind_eq lp ?_
 unfold hasD
 cases d.any (fun x=>iEq x.1 n)<;>rfl
noncomputable def foldR (L:DLe) (ch:List DBk):DLe:=ch.foldl (fun s b=>(allR s (bTxs b)).2) L
theorem foldR_ok:∀(ch:List DBk) (L:DLe),(Ty.sl e120).Ok L.2.1→AcctL L.2.1→(∀b∈ch,(Ty.sl e110).Ok (bTxs b))→(Ty.sl e120).Ok (foldR L ch).2.1∧AcctL (foldR L ch).2.1
 | [],L,h1,h2,_=>⟨h1,h2⟩
 |b::r,L,h1,h2,h3=>by
  obtain ⟨_,h4,h5⟩:=all_spec L (bTxs b) h1 h2 (h3 b (by simp))
  exact foldR_ok r _ h4 h5 (fun c hc=>h3 c (by simp [hc]))
def keepT (g:DLe) (t:D110):Bool:=match g.2.1.find? (fun a=>sEq a.1 t.2.1) with
 |some a=>iLe a.2.2.1 t.2.2.2.2.1
 |none=>false
def dropL (pool:List D110) (g:DLe):List D110:=pool.filter (keepT g)
theorem acc_cases (l:List D120) (s:ByteArray):(l.find? (fun a=>sEq a.1 s)=none∧accAt l s= -1)∨∃a∈l,l.find? (fun a=>sEq a.1 s)=some a∧0≤accAt l s∧getI l (accAt l s)=some a:=by
 unfold accAt
 rcases idxOf_cases l (fun a=>sEq a.1 s) with ⟨h1,h2,h3⟩|⟨k,hk,hp,_,_,h2,h3⟩
 ·exact .inl ⟨h2,h3⟩
 ·exact .inr ⟨l[k],List.getElem_mem hk,h2,by rw [h3];exact Int.natCast_nonneg k,by rw [h3];exact getI_lt hk⟩
theorem filter_take {A:Type} (p:A→Bool) (l:List A) {i:Nat} (hi:i<l.length):(l.take (i+1)).filter p=(l.take i).filter p++(bif p l[i] then [l[i]] else []):=by
 rw [List.take_succ_eq_append_getElem hi,List.filter_append]
 cases h:p l[i]<;>simp [h]
theorem fl_len {A:Type} (p:A→Bool) (l:List A) (i:Nat):((l.take i).filter p).length≤l.length:=Nat.le_trans (List.length_filter_le _ _) (by rw [List.length_take];omega)
theorem s_drop (pool:List D110) (g:DLe) (hp:W1 pool.length) (hg:L63 g.2.1.length):F266 ((pool,()),(g,()))=some ((dropL pool g,()),()):=by
 have hl:L63 pool.length:=hp.l
 unfold W1 at hp
 have sp:=loopF_trace (f:=F266.b0 ((pool,()),(g,()))) (fun k=>((pool.take k).filter (keepT g),((k:Int),()))) pool.length (e:=Sum.inl (dropL pool g,((pool.length:Int),()))) (fun k hk=>by
  unfold F266.b0
  refine lt_then (Int.ofNat_lt.2 hk) (bind_eq (getI_lt hk) (bind_eq (s_acctAt g.2.1 _ hg) ?_))
  have hlen:=fl_len (keepT g) pool k
  rcases acc_cases g.2.1 (pool[k]).2.1 with ⟨h1,h2⟩|⟨a,ha,h1,h2,h3⟩
  ·have hk0:keepT g pool[k]=false:=by unfold keepT;rw [h1]
   refine no_then (by show iLe 0 (accAt g.2.1 (pool[k]).2.1)=false;rw [h2];rfl) (st2 ?_ (nxt hk hl))
   rw [filter_take _ _ hk,hk0];simp
  ·refine thenT (iLe_nn h2) (bind_eq (getI_lt hk) (bind_eq h3 ?_))
   have hk0:keepT g pool[k]=iLe a.2.2.1 (pool[k]).2.2.2.2.1:=by unfold keepT;rw [h1]
   cases hc:iLe a.2.2.1 (pool[k]).2.2.2.2.1 with
   |true =>
    refine bind_eq (getI_lt hk) (room_is (by show ((pool.take k).filter (keepT g)).length+1≤1048577;omega) (by decide) (by decide) (st2 ?_ (nxt hk hl)))
    rw [filter_take _ _ hk,hk0,hc];rfl
   |false =>
    refine st2 ?_ (nxt hk hl)
    rw [filter_take _ _ hk,hk0,hc];simp) (by
  unfold F266.b0
  refine lt_else (Int.le_refl _) ?_
  rw [List.take_length];rfl)
 unfold F266
 exact bind_eq sp rfl
theorem keep_next (g:DLe) (hOk:(Ty.sl e120).Ok g.2.1) (hAL:AcctL g.2.1) (t:D110):keepT (nextR g) t=keepT g t:=by
 rcases nextS_is g hOk hAL with h|⟨h,_,_⟩
 ·rw [h]
 ·rw [h]
  unfold keepT
  show (match (g.2.1.map (epAcct _)).find? (fun a=>sEq a.1 t.2.1) with|some a=>_|none=>_)=_
  rw [List.find?_map]
  show (match (g.2.1.find? (fun a=>sEq a.1 t.2.1)).map (epAcct _) with|some a=>_|none=>_)=_
  cases g.2.1.find? (fun a=>sEq a.1 t.2.1)<;>rfl
theorem drop_next (pool:List D110) (g:DLe) (hOk:(Ty.sl e120).Ok g.2.1) (hAL:AcctL g.2.1):dropL pool (nextR g)=dropL pool g:=by
 unfold dropL
 congr 1
 funext t
 exact keep_next g hOk hAL t
noncomputable def walk:List DBk→DLe→List D3→DLe×(List D3×Option DBk)
 | [],g,d=>(g,(d,none))
 |b::r,g,d=>bif bEnd b then ((allR g (bTxs b)).2,(addD d b.1,some b)) else walk r (allR g (bTxs b)).2 (addD d b.1)
def cutEnd:List DBk→List DBk
 | []=> []
 |b::r=>bif bEnd b then [b] else b::cutEnd r
theorem walk_eq:∀(ch:List DBk) (g:DLe) (d:List D3),walk ch g d=(foldR g (cutEnd ch),(addDs d (idsOf (cutEnd ch)),ch.find? (fun b=>bEnd b)))
 | [],g,d=>rfl
 |b::r,g,d=>by
  unfold walk cutEnd
  cases h:bEnd b with
  |true=>simp only [cond_true,List.find?_cons_of_pos h];rfl
  |false =>
   simp only [cond_false,List.find?_cons_of_neg (show ¬bEnd b=true by rw [h];simp)]
   rw [walk_eq r]
   rfl
theorem cutEnd_cases:∀(ch:List DBk),(ch.find? (fun b=>bEnd b)=none∧idxOf ch (fun b=>bEnd b)= -1∧cutEnd ch=ch)∨∃p b r,ch=p++b::r∧bEnd b=true∧ch.find? (fun b=>bEnd b)=some b∧idxOf ch (fun b=>bEnd b)=(p.length:Int)∧cutEnd ch=p++ [b]
 | []=> .inl ⟨rfl,rfl,rfl⟩
 |b::r=>by
  cases h:bEnd b with
  |true=>exact .inr ⟨[],b,r,rfl,h,by rw [List.find?_cons_of_pos h],by unfold idxOf;rw [List.findIdx?_cons,h];rfl,by unfold cutEnd;rw [h];rfl⟩
  |false =>
   have hf:(b::r).find? (fun b=>bEnd b)=r.find? (fun b=>bEnd b):=List.find?_cons_of_neg (by simp [h])
   have hi:(b::r).findIdx? (fun b=>bEnd b)=(r.findIdx? (fun b=>bEnd b)).map (· +1):=by rw [List.findIdx?_cons,h];rfl
   have hc:cutEnd (b::r)=b::cutEnd r:=by rw [cutEnd,h];rfl
   rcases cutEnd_cases r with ⟨h1,h2,h3⟩|⟨p,c,s,h1,h2,h3,h4,h5⟩
   ·refine .inl ⟨by rw [hf,h1],?_,by rw [hc,h3]⟩
    unfold idxOf at h2 ⊢
    rw [hi]
    cases hx:r.findIdx? (fun b=>bEnd b) with
    |none=>rfl
    |some j=>rw [hx] at h2;simp at h2<;>omega
   ·refine .inr ⟨b::p,c,s,by rw [h1];rfl,h2,by rw [hf,h3],?_,by rw [hc,h5];rfl⟩
    unfold idxOf at h4 ⊢
    rw [hi]
    cases hx:r.findIdx? (fun b=>bEnd b) with
    |none=>rw [hx] at h4;simp at h4<;>omega
    |some j=>rw [hx] at h4;simp at h4 ⊢;omega
theorem cutEnd_mem {ch:List DBk} {b:DBk} (h:b∈cutEnd ch):b∈ch:=by
 rcases cutEnd_cases ch with ⟨_,_,h3⟩|⟨p,c,s,h1,_,_,_,h5⟩
 ·rw [h3] at h;exact h
 ·rw [h5] at h;rw [h1]
  rcases List.mem_append.1 h with h|h
  ·exact List.mem_append_left _ h
  ·exact List.mem_append_right _ (by rw [List.mem_singleton.1 h];exact List.mem_cons_self)
def setDP (n:DNd) (d:List D3) (q:List D110):DNd:=(n.1,(n.2.1,(n.2.2.1,(n.2.2.2.1,(n.2.2.2.2.1,(n.2.2.2.2.2.1,(n.2.2.2.2.2.2.1,(n.2.2.2.2.2.2.2.1,(n.2.2.2.2.2.2.2.2.1,(n.2.2.2.2.2.2.2.2.2.1,(n.2.2.2.2.2.2.2.2.2.2.1,(n.2.2.2.2.2.2.2.2.2.2.2.1,(n.2.2.2.2.2.2.2.2.2.2.2.2.1,(n.2.2.2.2.2.2.2.2.2.2.2.2.2.1,(n.2.2.2.2.2.2.2.2.2.2.2.2.2.2.1,(n.2.2.2.2.2.2.2.2.2.2.2.2.2.2.2.1,(n.2.2.2.2.2.2.2.2.2.2.2.2.2.2.2.2.1,(d,(q,(nPast n,()))))))))))))))))))))
def begN (n:DNd) (g:DLe) (next:List D97) (d:List D3) (q:List D110) (past:List DPr):DNd:=(n.1,(g.1,(g.1,(g.2.1,(next,([],(1,(0,(0,(-1,([],(0,([],([],(0,([],([],(d,(q,(past,()))))))))))))))))))))
def proofN (n:DNd) (q:DQc):DPr:=(n.2.1,(chain (nTree n) q.2.1,(q.1,(q.2.1,(q.2.2.1,())))))
noncomputable def endN (n:DNd) (q:DQc) (g:DLe) (d:List D3) (b:DBk):DNd:=begN n (nextR g) (bNext b) d (dropL (nPool n) g) (nPast n++ [proofN n q])
noncomputable def commitN (n:DNd) (id:Int) (q:DQc):DNd:=match walk (chain (nTree n) id) (nBase n) (nDone n) with
 |(g,(d,none))=>setDP n d (dropL (nPool n) g)
 |(g,(d,some b))=>endN n q g d b
theorem loopScanN {S E A σ:Type} (xs:List A) (step:σ→A→Sum σ E) (I:Nat→σ→Prop) {f:S→Option (Sum S E)} (mk:σ→Int→S) (fin:σ→E) (s0:σ) (h0:I 0 s0)
  (hstep:∀i (h:i<xs.length) s,I i s→(∃s',step s xs[i]= .inl s'∧I (i+1) s'∧f (mk s (i:Int))=some (.inl (mk s' ((i+1:Nat):Int))))∨∃e,step s xs[i]= .inr e∧f (mk s (i:Int))=some (.inr e)) (hend:∀s,I xs.length s→f (mk s (xs.length:Int))=some (.inr (fin s))) :
  loopF f (mk s0 0)=some (scan step fin xs s0):=by
 have key:∀(suf pre:List A) (s:σ),pre++suf=xs→I pre.length s→loopF f (mk s (pre.length:Int))=some (scan step fin suf s):=by
  intro suf
  induction suf with
  |nil =>
   intro pre s hp hI
   simp only [List.append_nil] at hp
   subst hp
   exact loopF_end (hend s hI)
  |cons x suf ih =>
   intro pre s hp hI
   have hlt:pre.length<xs.length:=by rw [←hp];simp
   have hx:xs[pre.length]=x:=by
    have:xs[pre.length]?=some x:=by rw [←hp];simp
    rw [List.getElem?_eq_getElem hlt] at this
    simpa using this
   rcases hstep pre.length hlt s hI with ⟨s',h1,h2,h3⟩|⟨e,h1,h3⟩
   ·rw [hx] at h1
    rw [loopF_step h3]
    simp only [scan,h1]
    have:=ih (pre++ [x]) s' (by simpa using hp) (by simpa using h2)
    simpa using this
   ·rw [hx] at h1
    rw [loopF_end h3]
    simp only [scan,h1]
 simpa using key xs [] s0 rfl h0
structure NIn (n:DNd):Prop where
 ok:NOk n
 l:NodeL n
 t:TreeF (nTree n)
 d:(nDone n).length≤800000
 p:(nPast n).length≤800000
theorem NIn.bl {n:DNd} (h:NIn n):∀b∈nTree n,BlockL b:=h.l.2.2.2.1
theorem NIn.acc {n:DNd} (h:NIn n):AcctL (nBase n).2.1:=h.l.1
abbrev CmS:Type:=Int×(List DBk×(Int×(List D120×(List D3×Unit))))
noncomputable def cmStep (n:DNd) (q:DQc) (s:DLe×List D3) (b:DBk):Sum (DLe×List D3) (Sum CmS (DNd×Unit)) :=
 bif bEnd b then .inr (.inr (endN n q (allR s.1 (bTxs b)).2 (addD s.2 b.1) b,())) else .inl ((allR s.1 (bTxs b)).2,addD s.2 b.1)
theorem scan_walk (n:DNd) (q:DQc) (fin:DLe×List D3→Sum CmS (DNd×Unit)):∀(ch:List DBk) (g:DLe) (d:List D3),scan (cmStep n q) fin ch (g,d)=(match walk ch g d with
  |(g',(d',none))=>fin (g',d')
  |(g',(d',some b))=> .inr (endN n q g' d' b,()))
 | [],g,d=>rfl
 |b::r,g,d=>by
  unfold scan walk cmStep
  cases h:bEnd b with
  |true=>rfl
  |false=>exact scan_walk n q fin r _ _
theorem s_commit (n:DNd) (id:Int) (q:DQc) (h:NIn n) (hq:W1 (List.length q.2.2.1)):F256 (n,((id,()),(q,())))=some (commitN n id q,()):=by
 have hT:=h.ok.tree
 have hc:=chain_len1 h.t id
 have sc:=s_lchain (nTree n) id hT h.t h.bl
 have sq:=s_lchain (nTree n) q.2.1 hT h.t h.bl
 let fin:DLe×List D3→Sum CmS (DNd×Unit):=fun s=>Sum.inl (((chain (nTree n) id).length:Int),(chain (nTree n) id,(s.1.1,(s.1.2.1,(s.2,())))))
 let I:DLe×List D3→Prop:=fun s=>(Ty.sl e120).Ok s.1.2.1∧AcctL s.1.2.1
 have sp:=loopScanN (S:=CmS) (chain (nTree n) id) (cmStep n q) (fun i s=>(Ty.sl e120).Ok s.1.2.1∧AcctL s.1.2.1∧s.2.length≤800000+i) (f:=F256.b0 (n,((id,()),(q,())))) (fun s k=>(k,(chain (nTree n) id,(s.1.1,(s.1.2.1,(s.2,())))))) fin (nBase n,nDone n) ⟨h.ok.base,h.acc,h.d⟩ (fun i hi s hI=>by
  have hm:=chain_mem h.t id _ (List.getElem_mem hi)
  have hB:BOk (chain (nTree n) id)[i]:=Ok_mem hT.2 hm
  have hBL:=h.bl _ hm
  obtain ⟨a1,a3,a4⟩:=all_spec s.1 (bTxs (chain (nTree n) id)[i]) hI.1 hI.2.1 hB.txs
  have hd63:L63 s.2.length:=by unfold L63;omega
  have hjoin:∀(R:Type),((getI (chain (nTree n) id) (i:Int)).bind fun x6=>(F265 ((s.2,()),((x6.1,()),()))).bind fun y7=>bif (!y7.1.1) then (getI (chain (nTree n) id) (i:Int)).bind fun x8=>bif room (List.length s.2+List.length ([(x8.1,())]:List D3)) 8 then some (.inl (lapp s.2 ([(x8.1,())]:List D3),())) else none else some (.inl (s.2,())))=some (Sum.inl (addD s.2 (chain (nTree n) id)[i].1,()):Sum (List D3×Unit) R):=by
   intro R
   refine bind_eq (getI_lt hi) (bind_eq (s_hasInt s.2 _ hd63) ?_)
   unfold addD
   cases hasD s.2 (chain (nTree n) id)[i].1 with
   |true=>rfl
   |false=>exact bind_eq (getI_lt hi) (room_is (by show s.2.length+1≤1048577;omega) (by decide) (by decide) rfl)
  cases he:bEnd (chain (nTree n) id)[i] with
  |false =>
   refine .inl ⟨((allR s.1 (bTxs (chain (nTree n) id)[i])).2,addD s.2 (chain (nTree n) id)[i].1),by unfold cmStep;rw [he];rfl,⟨a3,a4,Nat.le_trans (addD_len _ _) (by omega)⟩,?_⟩
   unfold F256.b0
   refine lt_then (Int.ofNat_lt.2 hi) (bind_eq (getI_lt hi) (bind_eq a1 ?_))
   refine bind_eq (hjoin _) (bind_eq (getI_lt hi) (no_then he ?_))
   rw [←nxt (n:=(chain (nTree n) id).length) hi (by unfold L63;omega)]
  |true =>
   refine .inr ⟨.inr (endN n q (allR s.1 (bTxs (chain (nTree n) id)[i])).2 (addD s.2 (chain (nTree n) id)[i].1) (chain (nTree n) id)[i],()),by unfold cmStep;rw [he];rfl,?_⟩
   obtain ⟨n1,n3,n4⟩:=nextS_eq _ a3 a4
   unfold F256.b0
   refine lt_then (Int.ofNat_lt.2 hi) (bind_eq (getI_lt hi) (bind_eq a1 ?_))
   refine bind_eq (hjoin _) (bind_eq (getI_lt hi) (thenT he (bind_eq sq (bind_eq (s_cqc q hq) (room_is (by show (nPast n).length+1≤1048577;have:=h.p;omega) (by decide) (by decide) (bind_eq n1 (bind_eq (s_drop (nPool n) _ h.l.2.2.2.2.2.2.2.2.2.2.1 n4.1.l) (bind_eq (getI_lt hi) (room_then hBL.2.2.2.2 (by decide) (by decide) ?_)))))))))
   rw [drop_next _ _ a3 a4]
   rfl) (fun s _=>by
  unfold F256.b0
  exact lt_else (Int.le_refl _) rfl)
 unfold F256
 refine bind_eq sc (bind_eq (s_cledger (nBase n) h.acc) (bind_eq sp ?_))
 rw [scan_walk]
 unfold commitN
 have hw:=foldR_ok (cutEnd (chain (nTree n) id)) (nBase n) h.ok.base h.acc (fun b hb=>(show BOk b from Ok_mem hT.2 (chain_mem h.t id b (cutEnd_mem hb))).txs)
 rw [walk_eq]
 cases (chain (nTree n) id).find? (fun b=>bEnd b) with
 |none=>exact bind_eq (s_drop (nPool n) _ h.l.2.2.2.2.2.2.2.2.2.2.1 hw.2.1.l) rfl
 |some b=>rfl
noncomputable def commitR (n:DNd) (q:DQc):DNd:=bif iEq (commitId (nTree n) q) (-1) then n else commitN n (commitId (nTree n) q) q
structure QIn (q:DQc):Prop where
 i1:(Lit.int .i64 q.1).wf=true
 i2:(Lit.int .i64 q.2.1).wf=true
 ok:QOk q
 w:W1 (List.length q.2.2.1)
structure TIn (t:DTc):Prop where
 i1:(Lit.int .i64 t.1).wf=true
 ok:(Ty.sl e9).Ok t.2.1
 hi:(Ty.sl e3).Ok t.2.2.1
 w:W1 (List.length t.2.1)
 wh:W1 (List.length t.2.2.1)
theorem TIn.tok {t:DTc} (h:TIn t):TOk t:=⟨h.ok,h.hi.1⟩
theorem QIn.root:QIn ((0,(-1,([],()))):DQc):=⟨rfl,rfl,Ok_nil,Nat.zero_le _⟩
theorem NOk.qin {n:DNd} (h:NOk n) (l:NodeL n):QIn (nHigh n):=⟨h.2.2.2.2.2.2.2.2.1,h.2.2.2.2.2.2.2.2.2.1,h.high,l.2.2.2.2.1⟩
theorem NOk.tin {n:DNd} (h:NOk n) (l:NodeL n):TIn (nTc n):=⟨h.2.2.2.2.2.2.2.2.2.2.2.1,h.2.2.2.2.2.2.2.2.2.2.2.2.1,h.2.2.2.2.2.2.2.2.2.2.2.2.2.1,l.2.2.2.2.2.1,l.2.2.2.2.2.2.1⟩
def setHR (n:DNd) (r:Int) (q:DQc):DNd:=(n.1,(n.2.1,(n.2.2.1,(n.2.2.2.1,(n.2.2.2.2.1,(n.2.2.2.2.2.1,(r,(n.2.2.2.2.2.2.2.1,(q.1,(q.2.1,(q.2.2.1,(n.2.2.2.2.2.2.2.2.2.2.2.1,(n.2.2.2.2.2.2.2.2.2.2.2.2.1,(n.2.2.2.2.2.2.2.2.2.2.2.2.2.1,(n.2.2.2.2.2.2.2.2.2.2.2.2.2.2.1,(n.2.2.2.2.2.2.2.2.2.2.2.2.2.2.2.1,(n.2.2.2.2.2.2.2.2.2.2.2.2.2.2.2.2.1,(n.2.2.2.2.2.2.2.2.2.2.2.2.2.2.2.2.2.1,(n.2.2.2.2.2.2.2.2.2.2.2.2.2.2.2.2.2.2.1,(n.2.2.2.2.2.2.2.2.2.2.2.2.2.2.2.2.2.2.2.1,()))))))))))))))))))))
theorem setHR_ok {n:DNd} {r:Int} {q:DQc} (h:NOk n) (hr:(Lit.int .i64 r).wf=true) (hq:QIn q):NOk (setHR n r q):=⟨h.1,h.2.1,h.2.2.1,h.2.2.2.1,h.2.2.2.2.1,h.2.2.2.2.2.1,hr,h.2.2.2.2.2.2.2.1,hq.i1,hq.i2,hq.ok,h.2.2.2.2.2.2.2.2.2.2.2.1,h.2.2.2.2.2.2.2.2.2.2.2.2.1,h.2.2.2.2.2.2.2.2.2.2.2.2.2.1,h.2.2.2.2.2.2.2.2.2.2.2.2.2.2.1,h.2.2.2.2.2.2.2.2.2.2.2.2.2.2.2.1,h.2.2.2.2.2.2.2.2.2.2.2.2.2.2.2.2.1,h.2.2.2.2.2.2.2.2.2.2.2.2.2.2.2.2.2.1,h.2.2.2.2.2.2.2.2.2.2.2.2.2.2.2.2.2.2.1,h.2.2.2.2.2.2.2.2.2.2.2.2.2.2.2.2.2.2.2.1,trivial⟩
def setTR (n:DNd) (r:Int) (t:DTc):DNd:=(n.1,(n.2.1,(n.2.2.1,(n.2.2.2.1,(n.2.2.2.2.1,(n.2.2.2.2.2.1,(r,(n.2.2.2.2.2.2.2.1,(n.2.2.2.2.2.2.2.2.1,(n.2.2.2.2.2.2.2.2.2.1,(n.2.2.2.2.2.2.2.2.2.2.1,(t.1,(t.2.1,(t.2.2.1,(n.2.2.2.2.2.2.2.2.2.2.2.2.2.2.1,(n.2.2.2.2.2.2.2.2.2.2.2.2.2.2.2.1,(n.2.2.2.2.2.2.2.2.2.2.2.2.2.2.2.2.1,(n.2.2.2.2.2.2.2.2.2.2.2.2.2.2.2.2.2.1,(n.2.2.2.2.2.2.2.2.2.2.2.2.2.2.2.2.2.2.1,(n.2.2.2.2.2.2.2.2.2.2.2.2.2.2.2.2.2.2.2.1,()))))))))))))))))))))
theorem setTR_ok {n:DNd} {r:Int} {t:DTc} (h:NOk n) (hr:(Lit.int .i64 r).wf=true) (ht:TIn t):NOk (setTR n r t):=⟨h.1,h.2.1,h.2.2.1,h.2.2.2.1,h.2.2.2.2.1,h.2.2.2.2.2.1,hr,h.2.2.2.2.2.2.2.1,h.2.2.2.2.2.2.2.2.1,h.2.2.2.2.2.2.2.2.2.1,h.2.2.2.2.2.2.2.2.2.2.1,ht.i1,ht.ok,ht.hi,h.2.2.2.2.2.2.2.2.2.2.2.2.2.2.1,h.2.2.2.2.2.2.2.2.2.2.2.2.2.2.2.1,h.2.2.2.2.2.2.2.2.2.2.2.2.2.2.2.2.1,h.2.2.2.2.2.2.2.2.2.2.2.2.2.2.2.2.2.1,h.2.2.2.2.2.2.2.2.2.2.2.2.2.2.2.2.2.2.1,h.2.2.2.2.2.2.2.2.2.2.2.2.2.2.2.2.2.2.2.1,trivial⟩
def setGo (n:DNd) (g:List D84):DNd:=(n.1,(n.2.1,(n.2.2.1,(n.2.2.2.1,(n.2.2.2.2.1,(n.2.2.2.2.2.1,(n.2.2.2.2.2.2.1,(n.2.2.2.2.2.2.2.1,(n.2.2.2.2.2.2.2.2.1,(n.2.2.2.2.2.2.2.2.2.1,(n.2.2.2.2.2.2.2.2.2.2.1,(n.2.2.2.2.2.2.2.2.2.2.2.1,(n.2.2.2.2.2.2.2.2.2.2.2.2.1,(n.2.2.2.2.2.2.2.2.2.2.2.2.2.1,(n.2.2.2.2.2.2.2.2.2.2.2.2.2.2.1,(n.2.2.2.2.2.2.2.2.2.2.2.2.2.2.2.1,(g,(n.2.2.2.2.2.2.2.2.2.2.2.2.2.2.2.2.2.1,(n.2.2.2.2.2.2.2.2.2.2.2.2.2.2.2.2.2.2.1,(n.2.2.2.2.2.2.2.2.2.2.2.2.2.2.2.2.2.2.2.1,()))))))))))))))))))))
theorem setGo_ok {n:DNd} {g:List D84} (h:NOk n) (hg:(Ty.sl e84).Ok g):NOk (setGo n g):=⟨h.1,h.2.1,h.2.2.1,h.2.2.2.1,h.2.2.2.2.1,h.2.2.2.2.2.1,h.2.2.2.2.2.2.1,h.2.2.2.2.2.2.2.1,h.2.2.2.2.2.2.2.2.1,h.2.2.2.2.2.2.2.2.2.1,h.2.2.2.2.2.2.2.2.2.2.1,h.2.2.2.2.2.2.2.2.2.2.2.1,h.2.2.2.2.2.2.2.2.2.2.2.2.1,h.2.2.2.2.2.2.2.2.2.2.2.2.2.1,h.2.2.2.2.2.2.2.2.2.2.2.2.2.2.1,h.2.2.2.2.2.2.2.2.2.2.2.2.2.2.2.1,hg,h.2.2.2.2.2.2.2.2.2.2.2.2.2.2.2.2.2.1,h.2.2.2.2.2.2.2.2.2.2.2.2.2.2.2.2.2.2.1,h.2.2.2.2.2.2.2.2.2.2.2.2.2.2.2.2.2.2.2.1,trivial⟩
def setVo (n:DNd) (v:Int):DNd:=(n.1,(n.2.1,(n.2.2.1,(n.2.2.2.1,(n.2.2.2.2.1,(n.2.2.2.2.2.1,(n.2.2.2.2.2.2.1,(v,(n.2.2.2.2.2.2.2.2.1,(n.2.2.2.2.2.2.2.2.2.1,(n.2.2.2.2.2.2.2.2.2.2.1,(n.2.2.2.2.2.2.2.2.2.2.2.1,(n.2.2.2.2.2.2.2.2.2.2.2.2.1,(n.2.2.2.2.2.2.2.2.2.2.2.2.2.1,(n.2.2.2.2.2.2.2.2.2.2.2.2.2.2.1,(n.2.2.2.2.2.2.2.2.2.2.2.2.2.2.2.1,(n.2.2.2.2.2.2.2.2.2.2.2.2.2.2.2.2.1,(n.2.2.2.2.2.2.2.2.2.2.2.2.2.2.2.2.2.1,(n.2.2.2.2.2.2.2.2.2.2.2.2.2.2.2.2.2.2.1,(n.2.2.2.2.2.2.2.2.2.2.2.2.2.2.2.2.2.2.2.1,()))))))))))))))))))))
theorem setVo_ok {n:DNd} {v:Int} (h:NOk n) (hv:(Lit.int .i64 v).wf=true):NOk (setVo n v):=⟨h.1,h.2.1,h.2.2.1,h.2.2.2.1,h.2.2.2.2.1,h.2.2.2.2.2.1,h.2.2.2.2.2.2.1,hv,h.2.2.2.2.2.2.2.2.1,h.2.2.2.2.2.2.2.2.2.1,h.2.2.2.2.2.2.2.2.2.2.1,h.2.2.2.2.2.2.2.2.2.2.2.1,h.2.2.2.2.2.2.2.2.2.2.2.2.1,h.2.2.2.2.2.2.2.2.2.2.2.2.2.1,h.2.2.2.2.2.2.2.2.2.2.2.2.2.2.1,h.2.2.2.2.2.2.2.2.2.2.2.2.2.2.2.1,h.2.2.2.2.2.2.2.2.2.2.2.2.2.2.2.2.1,h.2.2.2.2.2.2.2.2.2.2.2.2.2.2.2.2.2.1,h.2.2.2.2.2.2.2.2.2.2.2.2.2.2.2.2.2.2.1,h.2.2.2.2.2.2.2.2.2.2.2.2.2.2.2.2.2.2.2.1,trivial⟩
def setVt (n:DNd) (v:List D82):DNd:=(n.1,(n.2.1,(n.2.2.1,(n.2.2.2.1,(n.2.2.2.2.1,(n.2.2.2.2.2.1,(n.2.2.2.2.2.2.1,(n.2.2.2.2.2.2.2.1,(n.2.2.2.2.2.2.2.2.1,(n.2.2.2.2.2.2.2.2.2.1,(n.2.2.2.2.2.2.2.2.2.2.1,(n.2.2.2.2.2.2.2.2.2.2.2.1,(n.2.2.2.2.2.2.2.2.2.2.2.2.1,(n.2.2.2.2.2.2.2.2.2.2.2.2.2.1,(n.2.2.2.2.2.2.2.2.2.2.2.2.2.2.1,(v,(n.2.2.2.2.2.2.2.2.2.2.2.2.2.2.2.2.1,(n.2.2.2.2.2.2.2.2.2.2.2.2.2.2.2.2.2.1,(n.2.2.2.2.2.2.2.2.2.2.2.2.2.2.2.2.2.2.1,(n.2.2.2.2.2.2.2.2.2.2.2.2.2.2.2.2.2.2.2.1,()))))))))))))))))))))
theorem setVt_ok {n:DNd} {v:List D82} (h:NOk n) (hv:(Ty.sl e82).Ok v):NOk (setVt n v):=⟨h.1,h.2.1,h.2.2.1,h.2.2.2.1,h.2.2.2.2.1,h.2.2.2.2.2.1,h.2.2.2.2.2.2.1,h.2.2.2.2.2.2.2.1,h.2.2.2.2.2.2.2.2.1,h.2.2.2.2.2.2.2.2.2.1,h.2.2.2.2.2.2.2.2.2.2.1,h.2.2.2.2.2.2.2.2.2.2.2.1,h.2.2.2.2.2.2.2.2.2.2.2.2.1,h.2.2.2.2.2.2.2.2.2.2.2.2.2.1,h.2.2.2.2.2.2.2.2.2.2.2.2.2.2.1,hv,h.2.2.2.2.2.2.2.2.2.2.2.2.2.2.2.2.1,h.2.2.2.2.2.2.2.2.2.2.2.2.2.2.2.2.2.1,h.2.2.2.2.2.2.2.2.2.2.2.2.2.2.2.2.2.2.1,h.2.2.2.2.2.2.2.2.2.2.2.2.2.2.2.2.2.2.2.1,trivial⟩
def setTree (n:DNd) (t:List DBk):DNd:=(n.1,(n.2.1,(n.2.2.1,(n.2.2.2.1,(n.2.2.2.2.1,(t,(n.2.2.2.2.2.2.1,(n.2.2.2.2.2.2.2.1,(n.2.2.2.2.2.2.2.2.1,(n.2.2.2.2.2.2.2.2.2.1,(n.2.2.2.2.2.2.2.2.2.2.1,(n.2.2.2.2.2.2.2.2.2.2.2.1,(n.2.2.2.2.2.2.2.2.2.2.2.2.1,(n.2.2.2.2.2.2.2.2.2.2.2.2.2.1,(n.2.2.2.2.2.2.2.2.2.2.2.2.2.2.1,(n.2.2.2.2.2.2.2.2.2.2.2.2.2.2.2.1,(n.2.2.2.2.2.2.2.2.2.2.2.2.2.2.2.2.1,(n.2.2.2.2.2.2.2.2.2.2.2.2.2.2.2.2.2.1,(n.2.2.2.2.2.2.2.2.2.2.2.2.2.2.2.2.2.2.1,(n.2.2.2.2.2.2.2.2.2.2.2.2.2.2.2.2.2.2.2.1,()))))))))))))))))))))
theorem setTree_ok {n:DNd} {t:List DBk} (h:NOk n) (ht:(Ty.sl e71).Ok t):NOk (setTree n t):=⟨h.1,h.2.1,h.2.2.1,h.2.2.2.1,h.2.2.2.2.1,ht,h.2.2.2.2.2.2.1,h.2.2.2.2.2.2.2.1,h.2.2.2.2.2.2.2.2.1,h.2.2.2.2.2.2.2.2.2.1,h.2.2.2.2.2.2.2.2.2.2.1,h.2.2.2.2.2.2.2.2.2.2.2.1,h.2.2.2.2.2.2.2.2.2.2.2.2.1,h.2.2.2.2.2.2.2.2.2.2.2.2.2.1,h.2.2.2.2.2.2.2.2.2.2.2.2.2.2.1,h.2.2.2.2.2.2.2.2.2.2.2.2.2.2.2.1,h.2.2.2.2.2.2.2.2.2.2.2.2.2.2.2.2.1,h.2.2.2.2.2.2.2.2.2.2.2.2.2.2.2.2.2.1,h.2.2.2.2.2.2.2.2.2.2.2.2.2.2.2.2.2.2.1,h.2.2.2.2.2.2.2.2.2.2.2.2.2.2.2.2.2.2.2.1,trivial⟩
def setLed (n:DNd) (v:Int):DNd:=(n.1,(n.2.1,(n.2.2.1,(n.2.2.2.1,(n.2.2.2.2.1,(n.2.2.2.2.2.1,(n.2.2.2.2.2.2.1,(n.2.2.2.2.2.2.2.1,(n.2.2.2.2.2.2.2.2.1,(n.2.2.2.2.2.2.2.2.2.1,(n.2.2.2.2.2.2.2.2.2.2.1,(n.2.2.2.2.2.2.2.2.2.2.2.1,(n.2.2.2.2.2.2.2.2.2.2.2.2.1,(n.2.2.2.2.2.2.2.2.2.2.2.2.2.1,(v,(n.2.2.2.2.2.2.2.2.2.2.2.2.2.2.2.1,(n.2.2.2.2.2.2.2.2.2.2.2.2.2.2.2.2.1,(n.2.2.2.2.2.2.2.2.2.2.2.2.2.2.2.2.2.1,(n.2.2.2.2.2.2.2.2.2.2.2.2.2.2.2.2.2.2.1,(n.2.2.2.2.2.2.2.2.2.2.2.2.2.2.2.2.2.2.2.1,()))))))))))))))))))))
theorem setLed_ok {n:DNd} {v:Int} (h:NOk n) (hv:(Lit.int .i64 v).wf=true):NOk (setLed n v):=⟨h.1,h.2.1,h.2.2.1,h.2.2.2.1,h.2.2.2.2.1,h.2.2.2.2.2.1,h.2.2.2.2.2.2.1,h.2.2.2.2.2.2.2.1,h.2.2.2.2.2.2.2.2.1,h.2.2.2.2.2.2.2.2.2.1,h.2.2.2.2.2.2.2.2.2.2.1,h.2.2.2.2.2.2.2.2.2.2.2.1,h.2.2.2.2.2.2.2.2.2.2.2.2.1,h.2.2.2.2.2.2.2.2.2.2.2.2.2.1,hv,h.2.2.2.2.2.2.2.2.2.2.2.2.2.2.2.1,h.2.2.2.2.2.2.2.2.2.2.2.2.2.2.2.2.1,h.2.2.2.2.2.2.2.2.2.2.2.2.2.2.2.2.2.1,h.2.2.2.2.2.2.2.2.2.2.2.2.2.2.2.2.2.2.1,h.2.2.2.2.2.2.2.2.2.2.2.2.2.2.2.2.2.2.2.1,trivial⟩
def highN (n:DNd) (q:DQc):DQc:=bif iLt (nHigh n).1 q.1 then q else nHigh n
def rndN (r x:Int):Int:=bif iLt r (iAdd .i64 x 1) then iAdd .i64 x 1 else r
def tcT (n:DNd) (t:DTc):DTc:=bif iLt (nTc n).1 t.1 then t else nTc n
theorem rnd_wf {r x:Int} (h:(Lit.int .i64 r).wf=true):(Lit.int .i64 (rndN r x)).wf=true:=by
 unfold rndN
 cases iLt r (iAdd .i64 x 1)
 ·exact h
 ·exact okAdd _ _
theorem highN_in {n:DNd} {q:DQc} (h:QIn (nHigh n)) (hq:QIn q):QIn (highN n q):=by
 unfold highN
 cases iLt (nHigh n).1 q.1
 ·exact h
 ·exact hq
theorem tcT_in {n:DNd} {t:DTc} (h:TIn (nTc n)) (ht:TIn t):TIn (tcT n t):=by
 unfold tcT
 cases iLt (nTc n).1 t.1
 ·exact h
 ·exact ht
def setLn (n:DNd) (q:DQc):DNd:=setHR n (rndN (nRound n) q.1) (highN n q)
noncomputable def learnN (n:DNd) (q:DQc):DNd:=commitR (setLn n q) q
def tcN (n:DNd) (t:DTc):DNd:=setTR n (rndN (nRound n) t.1) (tcT n t)
theorem NIn.round {n:DNd} (h:NIn n):(Lit.int .i64 (nRound n)).wf=true:=h.ok.2.2.2.2.2.2.1
theorem setLn_in {n:DNd} {q:DQc} (h:NIn n) (hq:QIn q):NIn (setLn n q):=by
 have h2:=highN_in (h.ok.qin h.l) hq
 refine ⟨setHR_ok h.ok (rnd_wf h.round) h2,?_,h.t,h.d,h.p⟩
 have l:=h.l
 exact ⟨l.1,l.2.1,l.2.2.1,l.2.2.2.1,h2.w,l.2.2.2.2.2.1,l.2.2.2.2.2.2.1,l.2.2.2.2.2.2.2.1,l.2.2.2.2.2.2.2.2.1,l.2.2.2.2.2.2.2.2.2.1,l.2.2.2.2.2.2.2.2.2.2.1,l.2.2.2.2.2.2.2.2.2.2.2.1,l.2.2.2.2.2.2.2.2.2.2.2.2⟩
theorem commitId_sign {l:List DBk} (h:TreeF l) (q:DQc):iLe 0 (commitId l q)= !iEq (commitId l q) (-1):=by
 cases hc:iEq (commitId l q) (-1) with
 |true =>
  have:commitId l q= -1:=by simpa [iEq] using hc
  rw [this];rfl
 |false =>
  obtain ⟨p,hp,he⟩:=commitId_in hc
  have:=(h.nn p hp).1
  rw [←he]
  exact iLe_nn this
theorem s_learn (n:DNd) (q:DQc) (h:NIn n) (hq:QIn q):F241 (n,(q,()))=some (learnN n q,()):=by
 have hs:=setLn_in h hq
 have hj:∀(R:Type),(bif iLt (nHigh n).1 q.1 then (F161 (q,())).bind fun y1=>some (.inl (y1.1.1,(y1.1.2.1,(y1.1.2.2.1,())))) else some (.inl (nHigh n)))=some (Sum.inl (highN n q):Sum DQc R):=by
  intro R
  unfold highN
  cases iLt (nHigh n).1 q.1 with
  |true=>exact bind_eq (s_cqc q hq.w) rfl
  |false=>rfl
 have hk:∀(R:Type),(bif iLt (nRound n) (iAdd .i64 q.1 1) then some (.inl (iAdd .i64 q.1 1,())) else some (.inl (nRound n,())))=some (Sum.inl (rndN (nRound n) q.1,()):Sum (Int×Unit) R):=by
  intro R
  unfold rndN
  cases iLt (nRound n) (iAdd .i64 q.1 1)<;>rfl
 unfold F241
 refine bind_eq (hj _) (bind_eq (hk _) (bind_eq (s_commitOf (nTree n) q h.ok.tree.1 h.t) ?_))
 have hsg:=commitId_sign h.t q
 unfold learnN commitR
 show (bif iLe 0 (commitId (nTree n) q) then _ else _)=some ((bif iEq (commitId (nTree n) q) (-1) then setLn n q else commitN (setLn n q) (commitId (nTree n) q) q),())
 rw [hsg]
 cases iEq (commitId (nTree n) q) (-1) with
 |true=>rfl
 |false=>exact bind_eq (s_commit (setLn n q) (commitId (nTree n) q) q hs hq.w) rfl
theorem s_learnTc (n:DNd) (t:DTc) (ht:TIn t):F243 (n,(t,()))=some (tcN n t,()):=by
 have hj:∀(R:Type),(bif iLt (nTc n).1 t.1 then (F200 (t,())).bind fun y1=>some (.inl (y1.1.1,(y1.1.2.1,(y1.1.2.2.1,())))) else some (.inl (nTc n)))=some (Sum.inl (tcT n t):Sum DTc R):=by
  intro R
  unfold tcT
  cases iLt (nTc n).1 t.1 with
  |true=>exact bind_eq (s_ctc t ht.w ht.wh) rfl
  |false=>rfl
 unfold F243
 refine bind_eq (hj _) ?_
 unfold tcN rndN
 show (bif iLt (nRound n) (iAdd .i64 t.1 1) then _ else _)=_
 cases iLt (nRound n) (iAdd .i64 t.1 1)<;>rfl
def MsgL (m:DMs):Prop:=W1 (mBs m).length∧(∀b∈mBs m,BlockL b)∧W1 (List.length (mQ m).2.2.1)∧W1 (List.length (mT m).2.1)∧W1 (List.length (mT m).2.2.1)
theorem s_cmsg (m:DMs) (h:MsgL m):F166 (m,())=some (m,()):=by
 unfold F166
 exact bind_eq (s_cblks (mBs m) h.1 h.2.1) (bind_eq (s_cqc (mQ m) h.2.2.1) (bind_eq (s_ctc (mT m) h.2.2.2.1 h.2.2.2.2) rfl))
def msgTo (m:DMs) (to:ByteArray) (ep:Int):DMs:=(m.1,(to,(ep,m.2.2.2)))
def toAllL (set:List D97) (name:ByteArray) (m:DMs) (ep:Int):List DMs:=(set.filter (fun v=> !sEq v.1 name)).map (fun v=>msgTo m v.1 ep)
theorem fm_take {A B:Type} (p:A→Bool) (f:A→B) (l:List A) {i:Nat} (hi:i<l.length):((l.take (i+1)).filter p).map f=((l.take i).filter p).map f++(bif p l[i] then [f l[i]] else []):=by
 rw [filter_take p l hi,List.map_append]
 cases p l[i]<;>rfl
theorem fm_len {A B:Type} (p:A→Bool) (f:A→B) (l:List A) (i:Nat):(((l.take i).filter p).map f).length≤l.length:=by rw [List.length_map];exact fl_len p l i
theorem s_toAll (n:DNd) (m:DMs) (hs:W1 (nSet n).length) (hm:MsgL m):F208 (n,(m,()))=some ((toAllL (nSet n) n.1 m m.2.2.1,()),()):=by
 have hl:L63 (nSet n).length:=hs.l
 unfold W1 at hs
 have sp:=loopF_trace (f:=F208.b0 (n,(m,()))) (fun k=>((((nSet n).take k).filter (fun v=> !sEq v.1 n.1)).map (fun v=>msgTo m v.1 m.2.2.1),((k:Int),()))) (nSet n).length (e:=Sum.inl (toAllL (nSet n) n.1 m m.2.2.1,(((nSet n).length:Int),()))) (fun k hk=>by
  have hlen:=fm_len (fun v:D97=> !sEq v.1 n.1) (fun v=>msgTo m v.1 m.2.2.1) (nSet n) k
  unfold F208.b0
  refine lt_then (Int.ofNat_lt.2 hk) (bind_eq (getI_lt hk) ?_)
  cases hc:(!sEq (nSet n)[k].1 n.1) with
  |true =>
   refine thenT rfl (bind_eq (s_cmsg m hm) (bind_eq (getI_lt hk) (room_is (by show ((((nSet n).take k).filter (fun v=> !sEq v.1 n.1)).map (fun v=>msgTo m v.1 m.2.2.1)).length+1≤1048577;omega) (by decide) (by decide) (st2 ?_ (nxt hk hl)))))
   rw [fm_take _ _ _ hk,hc];rfl
  |false =>
   refine no_then rfl (st2 ?_ (nxt hk hl))
   rw [fm_take _ _ _ hk,hc];simp) (by
  unfold F208.b0
  refine lt_else (Int.le_refl _) ?_
  rw [List.take_length];rfl)
 unfold F208
 exact bind_eq sp rfl
def goneEq (a b:D84):Bool:=iEq a.1 b.1&&(iEq a.2.1 b.2.1&&sEq a.2.2.1 b.2.2.1)
def hasG (l:List D84) (g:D84):Bool:=l.any (fun x=>goneEq x g)
def addG (l:List D84) (g:D84):List D84:=bif !hasG l g&&iLt (l.length:Int) 1000 then l++ [g] else l
def stepG (round:Int) (name:ByteArray) (s:Int) (x:D84):Int:=bif iEq x.1 round&&(sEq x.2.2.1 name&&iLt s x.2.1) then x.2.1 else s
def highG (gones:List D84) (round:Int) (name:ByteArray):Int:=gones.foldl (stepG round name) (-1)
def gathStep (gones:List D84) (round:Int) (s:List D9×List D3) (v:D97):List D9×List D3:=bif iLe 0 (highG gones round v.1) then (s.1++ [(v.1,())],s.2++ [(highG gones round v.1,())]) else s
def gathL (set:List D97) (gones:List D84) (round:Int):List D9×List D3:=set.foldl (gathStep gones round) ([],[])
def gathT (set:List D97) (gones:List D84) (round:Int):DTc:=(round,((gathL set gones round).1,((gathL set gones round).2,())))
def gathTR (set:List D97) (gones:List D84) (round:Int):DTc×((Bool×Unit)×Unit):=bif tcB set (gathT set gones round)&& !noneB (gathT set gones round) then (gathT set gones round,((true,()),())) else ((0,([],([],()))),((false,()),()))
theorem gath_len (gones:List D84) (round:Int):∀(set:List D97) (s:List D9×List D3),(set.foldl (gathStep gones round) s).1.length≤s.1.length+set.length∧(set.foldl (gathStep gones round) s).2.length≤s.2.length+set.length
 | [],s=>⟨Nat.le_refl _,Nat.le_refl _⟩
 |v::r,s=>by
  have h:=gath_len gones round r (gathStep gones round s v)
  have h1:(gathStep gones round s v).1.length≤s.1.length+1∧(gathStep gones round s v).2.length≤s.2.length+1:=by
   unfold gathStep
   cases iLe 0 (highG gones round v.1)<;>simp
  simp only [List.foldl_cons,List.length_cons]
  omega
theorem gath_ok (gones:List D84) (round:Int) (hg:∀x∈gones,e84.Ok x):∀(set:List D97) (s:List D9×List D3),(∀v∈set,e97.Ok v)→(∀x∈s.1,e9.Ok x)→(∀x∈s.2,e3.Ok x) →
  (∀x∈(set.foldl (gathStep gones round) s).1,e9.Ok x)∧(∀x∈(set.foldl (gathStep gones round) s).2,e3.Ok x)
 | [],s,_,h1,h2=>⟨h1,h2⟩
 |v::r,s,hv,h1,h2=>by
  have hw:(Lit.int .i64 (highG gones round v.1)).wf=true:=by
   unfold highG
   have key:∀(l:List D84) (s:Int),(∀x∈l,e84.Ok x)→(Lit.int .i64 s).wf=true→(Lit.int .i64 (l.foldl (stepG round v.1) s)).wf=true:=by
    intro l
    induction l with
    |nil=>intro s _ hs;exact hs
    |cons x r ih =>
     intro s hx hs
     refine ih _ (fun y hy=>hx y (by simp [hy])) ?_
     unfold stepG
     cases (iEq x.1 round&&(sEq x.2.2.1 v.1&&iLt s x.2.1))
     ·exact hs
     ·exact (hx x (by simp)).2.1
   exact key gones (-1) hg rfl
  refine gath_ok gones round hg r _ (fun x hx=>hv x (by simp [hx])) ?_ ?_
  ·unfold gathStep
   cases iLe 0 (highG gones round v.1)
   ·exact h1
   ·intro x hx
    rcases List.mem_append.1 hx with hx|hx
    ·exact h1 x hx
    ·rw [List.mem_singleton.1 hx];exact ⟨(hv v (by simp)).1,trivial⟩
  ·unfold gathStep
   cases iLe 0 (highG gones round v.1)
   ·exact h2
   ·intro x hx
    rcases List.mem_append.1 hx with hx|hx
    ·exact h2 x hx
    ·rw [List.mem_singleton.1 hx];exact ⟨hw,trivial⟩
theorem gathT_in (set:List D97) (gones:List D84) (round:Int) (hs:W1 set.length) (hso:(Ty.sl e97).Ok set) (hg:(Ty.sl e84).Ok gones) (hr:(Lit.int .i64 round).wf=true):TIn (gathT set gones round):=by
 have hl:=gath_len gones round set ([],[])
 have ho:=gath_ok gones round (fun x hx=>Ok_mem hg.2 hx) set ([],[]) (fun x hx=>Ok_mem hso.2 hx) (fun x hx=>by cases hx) (fun x hx=>by cases hx)
 simp only [List.length_nil,Nat.zero_add] at hl
 unfold W1 at hs
 exact ⟨hr,Ok_of (Nat.le_trans hl.1 (Nat.le_trans hs (by decide))) ho.1,Ok_of (Nat.le_trans hl.2 (Nat.le_trans hs (by decide))) ho.2,Nat.le_trans hl.1 hs,Nat.le_trans hl.2 hs⟩
theorem s_highLoop (set:List D97) (gones:List D84) (round:Int) (v1:Int×(List D9×(List D3×Unit))) {i:Nat} (hi:i<set.length) (h1:v1.1=(i:Int)) (hg:L63 gones.length) :
  loopF (F242.b1 ((set,()),((gones,()),((round,()),()))) v1) ((-1:Int),((0:Int),()))=some (.inl (highG gones round set[i].1,((gones.length:Int),()))):=by
 refine loopFold0 (S:=Int×(Int×Unit)) gones (stepG round set[i].1) (f:=F242.b1 ((set,()),((gones,()),((round,()),()))) v1) (fun s k=>(s,(k,()))) (fun s=>Sum.inl (s,((gones.length:Int),()))) (-1) (fun k hk s=>?_) (fun s=>?_)
 ·have hs:getI set v1.1=some set[i]:=by rw [h1];exact getI_lt hi
  unfold F242.b1 stepG
  refine lt_then (Int.ofNat_lt.2 hk) (bind_eq (getI_lt hk) ?_)
  rw [←nxt hk hg]
  cases iEq gones[k].1 round with
  |false=>rfl
  |true =>
   refine thenT rfl (bind_eq (getI_lt hk) (bind_eq hs ?_))
   cases sEq gones[k].2.2.1 set[i].1 with
   |false=>rfl
   |true =>
    refine thenT rfl (bind_eq (getI_lt hk) ?_)
    cases iLt s gones[k].2.1 with
    |false=>rfl
    |true=>exact thenT rfl (bind_eq (getI_lt hk) rfl)
 ·unfold F242.b1
  exact lt_else (Int.le_refl _) rfl
theorem s_gatherTc (set:List D97) (gones:List D84) (round:Int) (hs:W1 set.length) (hso:(Ty.sl e97).Ok set) (hg:(Ty.sl e84).Ok gones) (hr:(Lit.int .i64 round).wf=true) :
  F242 ((set,()),((gones,()),((round,()),())))=some (gathTR set gones round):=by
 have hl:L63 set.length:=hs.l
 have hT:=gathT_in set gones round hs hso hg hr
 unfold W1 at hs
 have sp:=loopFold (S:=Int×(List D9×(List D3×Unit))) set (gathStep gones round) (fun i s=>s.1.length≤i∧s.2.length≤i) (f:=F242.b0 ((set,()),((gones,()),((round,()),())))) (fun s k=>(k,(s.1,(s.2,())))) (fun s=>Sum.inl ((set.length:Int),(s.1,(s.2,())))) ([],[]) ⟨Nat.le_refl _,Nat.le_refl _⟩ (fun i hi s hI=>by
  refine ⟨?_,?_⟩
  ·unfold F242.b0 gathStep
   refine lt_then (Int.ofNat_lt.2 hi) (bind_eq (s_highLoop set gones round _ hi rfl hg.1) ?_)
   cases hc:iLe 0 (highG gones round set[i].1) with
   |false=>exact no_then hc (by rw [←nxt hi hl];rfl)
   |true=>exact thenT hc (bind_eq (getI_lt hi) (room_is (by show s.1.length+1≤1048577;omega) (by decide) (by decide) (room_is (by show s.2.length+1≤1048577;omega) (by decide) (by decide) (by rw [←nxt hi hl];rfl))))
  ·unfold gathStep
   cases iLe 0 (highG gones round set[i].1)<;>simp<;>omega) (fun s _=>by
  unfold F242.b0
  exact lt_else (Int.le_refl _) rfl)
 unfold F242 gathTR
 refine bind_eq sp.1 (bind_eq (s_tc set (gathT set gones round) hl hT.tok) ?_)
 cases htc:tcB set (gathT set gones round) with
 |false=>rfl
 |true =>
  refine no_then rfl (bind_eq (s_none (gathT set gones round)) ?_)
  cases noneB (gathT set gones round)<;>rfl
noncomputable def gonesN (n:DNd) (g:D84):DNd :=
 let n2:=setGo n (addG (nGones n) g)
 let t:=gathTR (nSet n) (addG (nGones n) g) g.1
 bif t.2.1.1 then tcN n2 t.1 else n2
noncomputable def hearGoneN (n:DNd) (g:D84) (q:DQc):DNd :=
 bif inB (nSet n) g.2.2.1&&qcB (nSet n) q then (bif iEq (learnN n q).2.1 n.2.1 then gonesN (learnN n q) g else learnN n q) else n
theorem addG_len (l:List D84) (g:D84):(addG l g).length≤l.length+1:=by
 unfold addG
 cases (!hasG l g&&iLt (l.length:Int) 1000)<;>simp
theorem addG_ok {l:List D84} {g:D84} (hl:(Ty.sl e84).Ok l) (hw:W1 l.length) (hg:e84.Ok g):(Ty.sl e84).Ok (addG l g):=by
 have h1:=addG_len l g
 unfold W1 at hw
 refine Ok_of (Nat.le_trans h1 (by omega)) (fun y hy=>?_)
 unfold addG at hy
 cases hc:(!hasG l g&&iLt (l.length:Int) 1000) with
 |false=>rw [hc] at hy;exact Ok_mem hl.2 hy
 |true =>
  rw [hc] at hy
  rcases List.mem_append.1 hy with hy|hy
  ·exact Ok_mem hl.2 hy
  ·rw [List.mem_singleton.1 hy];exact hg
structure GIn (n:DNd):Prop where
 s:W1 (nSet n).length
 so:(Ty.sl e97).Ok (nSet n)
 g:(nGones n).length≤1048575
 go:(Ty.sl e84).Ok (nGones n)
theorem gath_none {set:List D97} {gones:List D84} {round:Int} (h:(gathTR set gones round).2.1.1=true):noneB (gathTR set gones round).1=false∧tcB set (gathTR set gones round).1=true∧(gathTR set gones round).1=gathT set gones round:=by
 unfold gathTR at h ⊢
 cases hc:(tcB set (gathT set gones round)&& !noneB (gathT set gones round)) with
 |false=>rw [hc] at h;cases h
 |true =>
  simp only [Bool.and_eq_true,Bool.not_eq_true'] at hc
  exact ⟨hc.2,hc.1,rfl⟩
theorem s_hasGone (l:List D84) (g:D84) (y3:DNd×Unit) (x0:DNd×(D84×(DQc×Unit))) (hy:nGones y3.1=l) (hx:x0.2.1=g) (hl:L63 l.length):loopF (F211.b0 y3 x0) (false,((0:Int),()))=some (.inl (hasG l g,((l.length:Int),()))):=by
 subst hy hx
 have lp:=loopFold0 (S:=Bool×(Int×Unit)) (nGones y3.1) (fun s x=>s||goneEq x x0.2.1) (f:=F211.b0 y3 x0) (fun s k=>(s,(k,()))) (fun s=>Sum.inl (s,(((nGones y3.1).length:Int),()))) false (fun k hk s=>by
  unfold F211.b0
  refine lt_then (Int.ofNat_lt.2 hk) ?_
  rw [←nxt hk hl]
  cases s with
  |true=>rfl
  |false=>exact no_then rfl (bind_eq (getI_lt hk) (bind_eq (getN_lt hk) rfl))) (fun s=>by
  unfold F211.b0
  exact lt_else (Int.le_refl _) rfl)
 refine lp.trans ?_
 have:∀(l:List D84) (b:Bool),l.foldl (fun s x=>s||goneEq x x0.2.1) b=(b||l.any (fun x=>goneEq x x0.2.1)):=by
  intro l
  induction l with
  |nil=>intro b;simp
  |cons x r ih=>intro b;rw [List.foldl_cons,ih,List.any_cons,Bool.or_assoc]
 rw [this]
 rfl
theorem s_hearGone (n:DNd) (g:D84) (q:DQc) (h:NIn n) (hq:QIn q) (hg:e84.Ok g) (hG:GIn (learnN n q)):F211 (n,(g,(q,())))=some (hearGoneN n g q,()):=by
 unfold F211 hearGoneN
 refine bind_eq (s_isin (nSet n) g.2.2.1 h.ok.set.1) ?_
 cases inB (nSet n) g.2.2.1 with
 |false=>rfl
 |true =>
  refine no_then rfl (bind_eq (s_qc (nSet n) q h.ok.set.1 hq.ok) ?_)
  cases qcB (nSet n) q with
  |false=>rfl
  |true =>
   refine no_then rfl (bind_eq (s_learn n q h hq) ?_)
   cases he:iEq (learnN n q).2.1 n.2.1 with
   |false=>rfl
   |true =>
    have hg63:L63 (nGones (learnN n q)).length:=hG.go.1
    refine no_then rfl (bind_eq (s_hasGone (nGones (learnN n q)) g _ _ rfl rfl hg63) ?_)
    have hj:∀(R:Type),(bif (!hasG (nGones (learnN n q)) g) then bif iLt (List.length (nGones (learnN n q)):Int) (1000:Int) then bif room (List.length (nGones (learnN n q))+List.length ([g]:List D84)) 32 then some (.inl (lapp (nGones (learnN n q)) ([g]:List D84),())) else none else some (.inl (nGones (learnN n q),())) else some (.inl (nGones (learnN n q),())))=some (Sum.inl (addG (nGones (learnN n q)) g,()):Sum (List D84×Unit) R):=by
     intro R
     unfold addG
     cases hasG (nGones (learnN n q)) g with
     |true=>rfl
     |false =>
      refine thenT rfl ?_
      cases iLt (List.length (nGones (learnN n q)):Int) (1000:Int) with
      |false=>rfl
      |true=>exact thenT rfl (room_is (by show (nGones (learnN n q)).length+1≤1048577;have:=hG.g;omega) (by decide) (by decide) rfl)
    have hgo:=addG_ok hG.go (Nat.le_trans hG.g (by decide)) hg
    refine bind_eq (hj _) (bind_eq (s_gatherTc (nSet (learnN n q)) (addG (nGones (learnN n q)) g) g.1 hG.s hG.so hgo hg.1) ?_)
    unfold gonesN
    have hT:=gathT_in (nSet (learnN n q)) (addG (nGones (learnN n q)) g) g.1 hG.s hG.so hgo hg.1
    cases ht:(gathTR (nSet (learnN n q)) (addG (nGones (learnN n q)) g) g.1).2.1.1 with
    |false=>exact no_then rfl (by simp only [cond_true,ht,cond_false,Bool.and_true];rfl)
    |true =>
     obtain ⟨_,_,e⟩:=gath_none ht
     refine thenT rfl (bind_eq (s_learnTc (setGo (learnN n q) (addG (nGones (learnN n q)) g)) _ (by rw [e];exact hT)) (by simp only [Bool.and_true,cond_true,ht]))
def goneOf (n:DNd):D84:=(nRound n,((nHigh n).1,(n.1,())))
def goneMsg (n:DNd) (ep:Int):DMs:=(3,(⟨#[]⟩,(ep,([],(0,(0,(⟨#[]⟩,(nRound n,((nHigh n).1,(n.1,((nHigh n).1,((nHigh n).2.1,((nHigh n).2.2.1,(0,([],([],()))))))))))))))))
def goneSg (n:DNd):D39:=(2,(n.2.1,(nRound n,((nHigh n).1,(n.1,())))))
noncomputable def leaveN (n:DNd):DNd×(List DMs×List D39):=bif inB (nSet n) n.1&& !iLt (nRound n) (nVoted n) then
  (hearGoneN (setVo n (nRound n)) (goneOf n) (nHigh n),(toAllL (nSet n) n.1 (goneMsg n 0) n.2.1,[goneSg n])) else (n,([],[]))
theorem setVo_in {n:DNd} (h:NIn n) {v:Int} (hv:(Lit.int .i64 v).wf=true):NIn (setVo n v):=⟨setVo_ok h.ok hv,h.l,h.t,h.d,h.p⟩
theorem gmsgL {n:DNd} (l:NodeL n) (ep:Int):MsgL (goneMsg n ep):=⟨Nat.zero_le _,(fun b hb=>by cases hb),l.2.2.2.2.1,Nat.zero_le _,Nat.zero_le _⟩
theorem gone_ok {n:DNd} (h:NOk n):e84.Ok (goneOf n):=⟨h.2.2.2.2.2.2.1,h.2.2.2.2.2.2.2.2.1,h.1,trivial⟩
theorem s_leaveN (n:DNd) (h:NIn n) (hG:GIn (learnN (setVo n (nRound n)) (nHigh n))):F172 (n,())=some (((leaveN n).2.1,()),(((leaveN n).2.2,()),((leaveN n).1,()))):=by
 have hq:=h.ok.qin h.l
 unfold F172 leaveN
 refine bind_eq (s_isin (nSet n) n.1 h.ok.set.1) ?_
 cases inB (nSet n) n.1 with
 |false=>rfl
 |true =>
  refine no_then rfl ?_
  show (bif iLt (nRound n) (nVoted n) then _ else _)=_
  cases iLt (nRound n) (nVoted n) with
  |true=>rfl
  |false =>
   refine no_then rfl (bind_eq (s_cqc (nHigh n) hq.w) (bind_eq (s_toAll (setVo n (nRound n)) (goneMsg n n.2.1) h.l.2.1 (gmsgL h.l _)) (bind_eq (show F210 ((n.2.1,()),(goneOf n,()))=some (goneSg n,()) from rfl) (bind_eq (s_hearGone (setVo n (nRound n)) (goneOf n) (nHigh n) (setVo_in h h.round) hq (gone_ok h.ok) hG) rfl))))
theorem chain_sub {l:List DBk} (h:TreeF l):∀(id:Int) (j:Nat) (hj:j<l.length),l[j].1=id→(chain l id).Sublist (l.take (j+1)):=by
 refine chain_ind h (fun id hn j hj e=>absurd e (hn _ (List.getElem_mem hj))) (fun b hb ih j hj e=>?_)
 rw [chain_some h hb,List.take_succ_eq_append_getElem hj]
 have hbj:l[j]=b:=h.uniqB (List.getElem_mem hj) hb e
 rw [hbj]
 refine List.Sublist.append ?_ (List.Sublist.refl _)
 rcases h.par b hb with ⟨h1,_⟩|⟨_,h2,_,p,hp,hpe,_⟩
 ·rw [chain_neg h (by omega)];exact List.nil_sublist _
 ·obtain ⟨i,hi,rfl⟩:=List.getElem_of_mem hp
  have hij:i<j:=by
   rcases Nat.lt_or_ge i j with h3|h3
   ·exact h3
   ·exfalso
    have h4:l[j].1≤l[i].1:=by
     rcases Nat.eq_or_lt_of_le h3 with h5|h5
     ·subst h5;exact Int.le_refl _
     ·exact Int.le_of_lt (h.asc j i hj hi h5)
    rw [hbj] at h4
    omega
  exact (ih i hi hpe).trans (List.take_sublist_take_left (by omega))
theorem chain_subl {l:List DBk} (h:TreeF l) (id:Int):(chain l id).Sublist l:=by
 rcases blkAt_cases h id with ⟨_,_,h2⟩|⟨b,hb,he,_,_,_⟩
 ·rw [chain_none h2];exact List.nil_sublist _
 ·obtain ⟨j,hj,rfl⟩:=List.getElem_of_mem hb
  exact (chain_sub h id j hj he).trans (List.take_sublist _ _)
theorem led_wf {L:DLe} (h:ledgerB L=true):(Lit.int .i64 L.1).wf=true:=by
 unfold ledgerB at h
 simp only [Bool.and_eq_true] at h
 have:=h.1
 simp only [inR,iLe,Bool.and_eq_true,decide_eq_true_eq] at this
 exact Rwf (by omega) (by omega)
theorem foldR_led:∀(ch:List DBk) (L:DLe),(Ty.sl e120).Ok L.2.1→AcctL L.2.1→(∀b∈ch,(Ty.sl e110).Ok (bTxs b))→ledgerB L=true→ledgerB (foldR L ch)=true
 | [],L,_,_,_,h=>h
 |b::r,L,h1,h2,h3,h=>by
  obtain ⟨_,h4,h5⟩:=all_spec L (bTxs b) h1 h2 (h3 b (by simp))
  exact foldR_led r _ h4 h5 (fun c hc=>h3 c (by simp [hc])) (allR_led (bTxs b) (0,L) h1 h2 (fun t ht=>Ok_mem (h3 b (by simp)).2 ht) h)
theorem addDs_ok:∀(ids d:List D3),(∀x∈d,e3.Ok x)→(∀x∈ids,e3.Ok x)→∀x∈addDs d ids,e3.Ok x
 | [],d,h,_=>h
 |y::r,d,h,h2=>by
  refine addDs_ok r (addD d y.1) (fun x hx=>?_) (fun x hx=>h2 x (by simp [hx]))
  unfold addD at hx
  cases hc:hasD d y.1 with
  |true=>rw [hc] at hx;exact h x hx
  |false =>
   rw [hc] at hx
   rcases List.mem_append.1 hx with hx|hx
   ·exact h x hx
   ·rw [List.mem_singleton.1 hx];exact h2 y (by simp)
theorem iAdd_cm (x y:Int):iAdd .i64 x y=iAdd .i64 y x:=by unfold iAdd;rw [Int.add_comm]
theorem addL_snoc (n:Int) (xs:List D145) (x:D145):addL n (xs++ [x])=iAdd .i64 (addL n xs) x.1:=by
 unfold addL
 rw [List.foldl_append]
 rfl
theorem ep_sum (e st:Int):∀(xs:List D145) (s:List D145×Int),addL (iAdd .i64 (xs.foldl (epStep e) s).2 st) (xs.foldl (epStep e) s).1=addL (addL (iAdd .i64 s.2 st) s.1) xs
 | [],s=>rfl
 |x::r,s=>by
  simp only [List.foldl_cons]
  rw [ep_sum e st r (epStep e s x)]
  show _=addL (iAdd .i64 (addL (iAdd .i64 s.2 st) s.1) x.1) r
  unfold epStep
  cases iLe x.2.1 e with
  |true =>
   simp only [cond_true]
   rw [show iAdd .i64 (iAdd .i64 s.2 x.1) st=iAdd .i64 x.1 (iAdd .i64 s.2 st) by rw [iAdd_cm s.2 x.1,iAdd_assoc],addL_add,iAdd_cm]
  |false =>
   simp only [cond_false]
   rw [addL_snoc]
theorem ofA_ep (e:Int) (a:D120):ofA (epAcct e a)=ofA a:=ep_sum e a.2.2.2.1 a.2.2.2.2.1 ([],a.2.1)
theorem wealth_ep (e:Int) (xs:List D120):wealth (xs.map (epAcct e))=wealth xs:=by
 unfold wealth
 rw [List.foldl_map]
 have:(fun (s:Int) (y:D120)=>iAdd .i64 s (ofA (epAcct e y)))=fun s y=>iAdd .i64 s (ofA y):=by
  funext s y
  rw [ofA_ep]
 rw [this]
theorem leaf_num {xs:List D145} (h:leavesB xs=true):∀y∈xs,1≤y.1∧y.1≤1000000∧0≤y.2.1∧y.2.1≤1000:=by
 intro y hy
 obtain ⟨i,hi,rfl⟩:=List.getElem_of_mem hy
 unfold leavesB at h
 have:=allI_get h i hi
 rw [Nat.zero_add] at this
 unfold leafP at this
 simp only [Bool.and_eq_true,inR,iLe,decide_eq_true_eq] at this
 omega
theorem addL_num:∀(xs:List D145) (n:Int) (k:Nat),(∀y∈xs,1≤y.1∧y.1≤1000000)→0≤n→n≤1000000*k→xs.length+k≤1000→n≤addL n xs∧addL n xs≤1000000*((xs.length+k:Nat):Int)
 | [],n,k,_,h0,h1,_=>⟨Int.le_refl _,by simpa [addL] using h1⟩
 |x::r,n,k,h,h0,h1,h2=>by
  have hx:=h x (List.mem_cons_self ..)
  simp only [List.length_cons] at h2 ⊢
  have e:iAdd .i64 n x.1=n+x.1:=iAdd_small (by omega) (by omega)
  have ih:=addL_num r (n+x.1) (k+1) (fun y hy=>h y (List.mem_cons_of_mem _ hy)) (by omega) (by push_cast;omega) (by omega)
  show n≤addL (iAdd .i64 n x.1) r∧addL (iAdd .i64 n x.1) r≤_
  rw [e]
  refine ⟨by omega,Int.le_trans ih.2 (by push_cast;omega)⟩
theorem acct_num {a:D120} (h:acctB a=true):0≤a.2.1∧a.2.1≤1000000∧0≤a.2.2.2.1∧a.2.2.2.1≤1000000∧List.length a.2.2.2.2.1≤4∧leavesB a.2.2.2.2.1=true∧a.2.1≤ofA a∧ofA a≤6000000:=by
 unfold acctB at h
 simp only [Bool.and_eq_true] at h
 obtain ⟨_,h1,_,h3,h4,h5⟩:=h
 have g1:0≤a.2.1∧a.2.1≤1000000:=by simpa [inR,iLe] using h1
 have g3:0≤a.2.2.2.1∧a.2.2.2.1≤1000000:=by simpa [inR,iLe] using h3
 have g4:List.length a.2.2.2.2.1≤4:=by simp only [iLe,decide_eq_true_eq] at h4;omega
 have e:iAdd .i64 a.2.1 a.2.2.2.1=a.2.1+a.2.2.2.1:=iAdd_small (by omega) (by omega)
 have k:=addL_num a.2.2.2.2.1 (a.2.1+a.2.2.2.1) 2 (fun y hy=>by have:=leaf_num h5 y hy;omega) (by omega) (by omega) (by omega)
 refine ⟨g1.1,g1.2,g3.1,g3.2,g4,h5,?_,?_⟩
 ·unfold ofA;rw [e];omega
 ·unfold ofA;rw [e];omega
theorem behind_mk {A:Type} {lt:A→A→Bool} {xs:List A} (h:xs.Pairwise (fun z y=>lt z y=true)) (i:Nat) (hi:i<xs.length):behind lt xs i xs[i]=true:=by
 cases i with
 |zero=>rfl
 |succ j =>
  show (match xs[j]? with|some z=>lt z xs[j+1]|none=>true)=true
  rw [List.getElem?_eq_getElem (show j<xs.length by omega)]
  exact (List.pairwise_iff_getElem.1 h) j (j+1) (by omega) hi (by omega)
theorem asc_pw {A:Type} {lt:A→A→Bool} {xs:List A} (h:Asc lt xs):xs.Pairwise (fun z y=>lt z y=true):=List.pairwise_iff_getElem.2 fun i j hi hj hij=>h i j hi hj hij
theorem ep_kept (e:Int):∀(xs:List D145) (s:List D145×Int),(xs.foldl (epStep e) s).1=s.1++xs.filter (fun x=> !iLe x.2.1 e)
 | [],s=>by simp
 |x::r,s=>by
  simp only [List.foldl_cons]
  rw [ep_kept e r (epStep e s x)]
  unfold epStep
  cases hc:iLe x.2.1 e with
  |true=>simp [hc]
  |false=>simp [hc]
theorem leaves_sub {xs ys:List D145} (hs:ys.Sublist xs) (h:leavesB xs=true) (ha:Asc (fun (z y:D145)=>iLt z.2.1 y.2.1) xs):leavesB ys=true:=by
 have hp:=(asc_pw ha).sublist hs
 unfold leavesB
 refine allI_of fun i hi=>?_
 have hy:=leaf_num h ys[i] (hs.subset (List.getElem_mem hi))
 rw [Nat.zero_add]
 unfold leafP
 rw [behind_mk (lt:=fun z y=>iLt z.2.1 y.2.1) hp i hi]
 simp only [inR,iLe,Bool.and_true,Bool.and_eq_true,decide_eq_true_eq]
 omega
theorem ep_free (e:Int):∀(xs:List D145) (s:List D145×Int) (k:Nat),(∀y∈xs,1≤y.1∧y.1≤1000000)→0≤s.2→s.2≤1000000*(k:Int)→xs.length+k≤1000→0≤(xs.foldl (epStep e) s).2∧(xs.foldl (epStep e) s).2≤1000000*((xs.length+k:Nat):Int)
 | [],s,k,_,h0,h1,_=>⟨h0,by simpa using h1⟩
 |x::r,s,k,h,h0,h1,h2=>by
  have hx:=h x (List.mem_cons_self ..)
  simp only [List.length_cons] at h2 ⊢
  simp only [List.foldl_cons]
  have e1:iAdd .i64 s.2 x.1=s.2+x.1:=iAdd_small (by omega) (by omega)
  have hs:0≤(epStep e s x).2∧(epStep e s x).2≤1000000*((k+1:Nat):Int):=by
   unfold epStep
   cases iLe x.2.1 e with
   |true=>simp only [cond_true,e1];push_cast;omega
   |false=>simp only [cond_false];push_cast;omega
  have ih:=ep_free e r (epStep e s x) (k+1) (fun y hy=>h y (List.mem_cons_of_mem _ hy)) hs.1 hs.2 (by omega)
  exact ⟨ih.1,Int.le_trans ih.2 (by push_cast;omega)⟩
theorem wealth_num:∀(xs:List D120) (s:Int) (k:Nat),(∀a∈xs,0≤ofA a∧ofA a≤6000000)→0≤s→s≤6000000*(k:Int)→xs.length+k≤1000→s≤xs.foldl (fun s y=>iAdd .i64 s (ofA y)) s∧∀a∈xs,ofA a≤xs.foldl (fun s y=>iAdd .i64 s (ofA y)) s
 | [],s,_,_,_,_,_=>⟨Int.le_refl _,fun a ha=>by cases ha⟩
 |x::r,s,k,h,h0,h1,h2=>by
  have hx:=h x (List.mem_cons_self ..)
  simp only [List.length_cons] at h2
  simp only [List.foldl_cons]
  have e1:iAdd .i64 s (ofA x)=s+ofA x:=iAdd_small (by omega) (by omega)
  rw [e1]
  have ih:=wealth_num r (s+ofA x) (k+1) (fun y hy=>h y (List.mem_cons_of_mem _ hy)) (by omega) (by push_cast;omega) (by omega)
  refine ⟨by have:=ih.1;omega,fun a ha=>?_⟩
  rcases List.mem_cons.1 ha with rfl|h3
  ·have:=ih.1;omega
  ·exact ih.2 a h3
theorem ep_ledger (L:DLe) (h:ledgerB L=true) (h9:L.1<900):ledgerB (iAdd .i64 L.1 1,(L.2.1.map (epAcct (iAdd .i64 L.1 1)),()))=true:=by
 obtain ⟨hlen,hlv,has⟩:=ledger_len h
 unfold ledgerB acctsB at h
 simp only [Bool.and_eq_true] at h
 obtain ⟨h1,h2,h3,h4⟩:=h
 have hA:∀a∈L.2.1,acctB a=true:=fun a ha=>by
  obtain ⟨i,hi,rfl⟩:=List.getElem_of_mem ha
  have:=allI_get h2 i hi
  rw [Nat.zero_add] at this
  unfold acctP at this
  simp only [Bool.and_eq_true] at this
  exact this.1
 have hn:=fun a ha=>acct_num (hA a ha)
 have hw:=wealth_num L.2.1 0 0 (fun a ha=>by have:=hn a ha;omega) (Int.le_refl _) (by omega) (by omega)
 have h1:0≤L.1∧L.1≤900:=by simpa [inR,iLe] using h1
 have e1:iAdd .i64 L.1 1=L.1+1:=iAdd_small (by omega) (by omega)
 have h4':wealth L.2.1≤1000000:=by simpa [iLe] using h4
 generalize hE:iAdd .i64 L.1 1=E at e1
 have hB:∀a∈L.2.1,acctB (epAcct E a)=true:=fun a ha=>by
  have q:=hA a ha
  have n:=hn a ha
  have hfr:=ep_free E a.2.2.2.2.1 ([],a.2.1) 1 (fun y hy=>by have:=leaf_num n.2.2.2.2.2.1 y hy;omega) n.1 (by have:=n.2.1;simpa using this) (by omega)
  have hk:(epFold E a).1=a.2.2.2.2.1.filter (fun x=> !iLe x.2.1 E):=by
   unfold epFold;rw [ep_kept];rfl
  have hsub:(epFold E a).1.Sublist a.2.2.2.2.1:=by rw [hk];exact List.filter_sublist
  have hlb:=leaves_sub hsub n.2.2.2.2.2.1 (hlv a ha).2
  have hkl:=hsub.length_le
  have hof:=ofA_ep E a
  have hle:(epFold E a).2≤ofA (epAcct E a):=by
   have e2:iAdd .i64 (epFold E a).2 a.2.2.2.1=(epFold E a).2+a.2.2.2.1:=iAdd_small (by have:=hfr.1;unfold epFold;omega) (by have:=hfr.2;unfold epFold;omega)
   have k:=addL_num (epFold E a).1 ((epFold E a).2+a.2.2.2.1) 10 (fun y hy=>by have:=leaf_num hlb y hy;omega) (by have:=hfr.1;unfold epFold;omega) (by have:=hfr.2;unfold epFold;omega) (by omega)
   show _≤addL (iAdd .i64 (epFold E a).2 a.2.2.2.1) (epFold E a).1
   rw [e2];omega
  have hub:(epFold E a).2≤1000000:=by
   have:=hw.2 a ha
   have h5:ofA a≤wealth L.2.1:=this
   omega
  unfold acctB at q ⊢
  simp only [Bool.and_eq_true] at q ⊢
  refine ⟨q.1,?_,q.2.2.1,q.2.2.2.1,?_,hlb⟩
  ·show inR (epFold E a).2 0 1000000=true
   have h6:0≤(epFold E a).2:=hfr.1
   simp [inR,iLe];omega
  ·show iLe (List.length (epFold E a).1:Int) 4=true
   have:=n.2.2.2.2.1
   simp [iLe];omega
 unfold ledgerB acctsB
 simp only [Bool.and_eq_true]
 refine ⟨?_,?_,?_,?_⟩
 ·simp [inR,iLe];omega
 ·refine allI_of fun i hi=>?_
  rw [List.length_map] at hi
  rw [Nat.zero_add]
  unfold acctP
  have hp:=asc_pw has
  have hpm:(L.2.1.map (epAcct E)).Pairwise (fun z y=>sLt z.1 y.1=true):=by
   rw [List.pairwise_map];exact hp
  rw [behind_mk (lt:=fun (z y:D120)=>sLt z.1 y.1) hpm i (by rw [List.length_map];exact hi),Bool.and_true,List.getElem_map]
  exact hB _ (List.getElem_mem hi)
 ·rw [List.length_map];exact h3
 ·rw [wealth_ep];exact h4
theorem next_moves (L:DLe) (hOk:(Ty.sl e120).Ok L.2.1) (hAL:AcctL L.2.1) (h:ledgerB L=true) (h9:L.1<900):(nextR L).1=L.1+1∧ledgerB (nextR L)=true:=by
 obtain ⟨R,r1,r2,r3,r4,r5⟩:=next_spec L hOk hAL
 have e:nextR L=R:=by unfold nextR;rw [r1]
 have hl:=ep_ledger L h h9
 have hR:=r5 h hl
 have h0:0≤L.1:=by
  unfold ledgerB at h
  simp only [Bool.and_eq_true,inR,iLe,decide_eq_true_eq] at h
  omega
 rw [e,hR]
 exact ⟨iAdd_small (by omega) (by omega),hl⟩
theorem foldR_ep:∀(ch:List DBk) (L:DLe),(Ty.sl e120).Ok L.2.1→AcctL L.2.1→(∀b∈ch,(Ty.sl e110).Ok (bTxs b))→(foldR L ch).1=L.1
 | [],L,_,_,_=>rfl
 |b::r,L,h1,h2,h3=>by
  obtain ⟨_,h4,h5⟩:=all_spec L (bTxs b) h1 h2 (h3 b (by simp))
  have e:=allR_ep (bTxs b) (0,L) h1 h2 (fun t ht=>Ok_mem (h3 b (by simp)).2 ht)
  exact (foldR_ep r _ h4 h5 (fun c hc=>h3 c (by simp [hc]))).trans e
abbrev DCu:Type:=List D5×(Int×(Int×Unit))
def COk (c:DCu):Prop:=List.length c.1≤1048576∧0≤c.2.1∧c.2.1≤(List.length c.1:Int)
theorem y_new (b:List D5) (hb:List.length b≤1048576):Y (F25 ((b,()),())) (fun y=>COk y.1∧y.1.1=b):=by
 unfold F25
 refine Y.sum (P:=fun _=>True) (R:=fun _=>False) (Y.loop (I:=fun s=>0≤s.2.1∧s.2.1≤(List.length b:Int)) (fun s=>((List.length b:Int) - s.2.1).toNat) (fun s hs=>?_) _ ⟨Int.le_refl _,Int.natCast_nonneg _⟩) (fun v _=>Y.mk ⟨⟨hb,Int.le_refl _,Int.natCast_nonneg _⟩,rfl⟩) (fun _ h=>h.elim)
 unfold F25.b0
 refine Y.bif (fun h1=>Y.bif (fun h2=>?_) (fun _=>Y.rl trivial)) (fun _=>Y.rl trivial)
 have h1:=iLt_iff.1 h1
 refine Y.bind (Y.gi (Q:=fun _=>True) hs.1 h1 fun _ _=>trivial) (fun x _=>Y.l ?_)
 have h3:(iAdd .i64 s.2.1 (1:Int))=s.2.1+1:=iAdd_small (by have:=hs.1;omega) (by have:=hs.2;omega)
 dsimp only at h1 ⊢
 rw [h3]
 omega
theorem y_byte (c:DCu) (hc:COk c):Y (F112 (c,())) (fun y=>0≤y.1.1∧y.1.1≤255∧COk y.2.1∧y.2.1.1=c.1):=by
 unfold F112
 refine Y.ff rfl (Y.ff rfl ?_)
 refine Y.sum (P:=fun v=>0≤v.1∧v.1≤255∧0≤v.2.1∧v.2.1≤(List.length c.1:Int)) (R:=fun _=>False) (Y.bif (fun h1=>?_) (fun h1=>Y.l ⟨(iAnd_255 _).1,(iAnd_255 _).2,hc.2.1,hc.2.2⟩)) (fun v hv=>Y.mk ⟨hv.1,hv.2.1,⟨hc.1,hv.2.2.1,hv.2.2.2⟩,rfl⟩) (fun _ h=>h.elim)
 have h1:=iLt_iff.1 h1
 refine Y.bind (Y.gi (Q:=fun _=>True) hc.2.1 h1 fun _ _=>trivial) (fun x _=>Y.l ⟨(iAnd_255 _).1,(iAnd_255 _).2,?_⟩)
 have h3:(iAdd .i64 c.2.1 (1:Int))=c.2.1+1:=iAdd_small (by have:=hc.2.1;omega) (by have:=hc.2.2;have:=hc.1;omega)
 have h0:=hc.2.1
 dsimp only at h1 h3 ⊢
 rw [h3]
 omega
theorem y_below (c:DCu) (n:Int) (hc:COk c):Y (F60 (c,((n,()),()))) (fun y=>0≤y.1.1∧(0<n→y.1.1<n)∧(n≤0→y.1.1=0)∧COk y.2.1∧y.2.1.1=c.1):=by
 unfold F60
 refine Y.bif (fun h1=>?_) (fun h1=>?_)
 ·have h1:n≤0:=iLe_iff.1 h1
  exact Y.mk ⟨Int.le_refl _,fun h=>by omega,fun _=>rfl,hc,rfl⟩
 ·have h1:0<n:=iLe_no.1 h1
  refine Y.bif (fun _=>Y.bind (y_byte c hc) fun y hy=>?_) (fun _=>Y.bind (y_byte c hc) fun y2 h2=>Y.bind (y_byte _ h2.2.2.1) fun y3 h3=>Y.bind (y_byte _ h3.2.2.1) fun y4 h4=>?_)
  ·refine Y.ff (iEq_no.2 (show n≠0 by omega)) (Y.mk ?_)
   have hr:=iRem_nn hy.1 h1
   exact ⟨hr.1,fun _=>hr.2,fun h=>by omega,hy.2.2.1,hy.2.2.2⟩
  ·refine Y.ff (iEq_no.2 (show n≠0 by omega)) (Y.mk ?_)
   have a:=h2.1;have b:=h2.2.1;have c1:=h3.1;have d:=h3.2.1;have e:=h4.1;have f:=h4.2.1
   have m1:iMul .i64 y2.1.1 (65536:Int)=y2.1.1*65536:=iMul_small (by omega) (by omega)
   have m2:iMul .i64 y3.1.1 (256:Int)=y3.1.1*256:=iMul_small (by omega) (by omega)
   have m3:iAdd .i64 (y2.1.1*65536) (y3.1.1*256)=y2.1.1*65536+y3.1.1*256:=iAdd_small (by omega) (by omega)
   have m4:iAdd .i64 (y2.1.1*65536+y3.1.1*256) y4.1.1=y2.1.1*65536+y3.1.1*256+y4.1.1:=iAdd_small (by omega) (by omega)
   have hr:=iRem_nn (x:=y2.1.1*65536+y3.1.1*256+y4.1.1) (by omega) h1
   rw [←m4,←m3,←m1,←m2] at hr
   exact ⟨hr.1,fun _=>hr.2,fun h=>by omega,h4.2.2.1,h4.2.2.2.trans (h3.2.2.2.trans h2.2.2.2)⟩
theorem y_int (c:DCu) (l:List D3) (hc:COk c) (h0:l≠ []):Y (F104 (c,((l,()),()))) (fun y=>y.1∈l∧COk y.2.1∧y.2.1.1=c.1):=by
 unfold F104
 have hl:(0:Int)<(List.length l:Int):=by have:=List.length_pos_iff.2 h0;omega
 refine Y.bind (y_below c _ hc) fun y hy=>Y.bind (Y.gi (Q:=fun x=>x∈l) hy.1 (hy.2.1 hl) fun x hx=>hx) fun x hx=>Y.mk ⟨hx,hy.2.2.2.1,hy.2.2.2.2⟩
theorem y_str (c:DCu) (l:List D9) (hc:COk c) (h0:l≠ []):Y (F228 (c,((l,()),()))) (fun y=>y.1∈l∧COk y.2.1∧y.2.1.1=c.1):=by
 unfold F228
 have hl:(0:Int)<(List.length l:Int):=by have:=List.length_pos_iff.2 h0;omega
 refine Y.bind (y_below c _ hc) fun y hy=>Y.bind (Y.gi (Q:=fun x=>x∈l) hy.1 (hy.2.1 hl) fun x hx=>hx) fun x hx=>Y.mk ⟨hx,hy.2.2.2.1,hy.2.2.2.2⟩
theorem y_once (c:DCu) (n:Int) (hc:COk c):Y (F59 (c,((n,()),()))) (fun y=>COk y.2.1∧y.2.1.1=c.1):=by
 unfold F59
 exact Y.bind (y_below c _ hc) fun y hy=>Y.mk ⟨hy.2.2.2.1,hy.2.2.2.2⟩
theorem y_name (c:DCu) (hc:COk c):Y (F198 (c,())) (fun y=>y.1.1.size≤8∧COk y.2.1∧y.2.1.1=c.1):=by
 unfold F198
 refine Y.bind (y_str c _ hc (by simp)) fun y hy=>Y.mk ⟨?_,hy.2⟩
 have h:=hy.1
 simp only [List.mem_cons,List.not_mem_nil,or_false] at h
 rcases h with h|h|h|h|h|h<;>rw [h]<;>decide
theorem y_size (b:List D5) (m:Int) (hb:List.length b≤1048576) (hm:0≤m):Y (F27 ((b,()),((m,()),()))) (fun y=>0≤y.1.1∧y.1.1≤m):=by
 unfold F27
 refine Y.ff rfl ?_
 have h1:iQuo .i64 (List.length b:Int) (12:Int)=((List.length b / 12:Nat):Int):=by
  unfold iQuo
  have:((List.length b:Int).tdiv 12)=((List.length b / 12:Nat):Int):=rfl
  rw [this,wrap64 (by omega) (by omega)]
 have h2:iAdd .i64 (3:Int) ((List.length b / 12:Nat):Int)=3+((List.length b / 12:Nat):Int):=iAdd_small (by omega) (by omega)
 dsimp only
 rw [h1,h2]
 refine Y.bif (fun _=>Y.mk ⟨hm,Int.le_refl _⟩) (fun h=>Y.mk ?_)
 have h:3+((List.length b / 12:Nat):Int)≤m:=by
  have:=iLt_no.1 h
  omega
 exact ⟨show (0:Int)≤3+((List.length b / 12:Nat):Int) by omega,h⟩
def txS (t:D110):Prop:=t.1≤3∧1≤t.1∧t.2.1.size≤8∧t.2.2.1.size≤8∧0≤t.2.2.2.1∧t.2.2.2.1≤200∧0≤t.2.2.2.2.1∧t.2.2.2.2.1≤3
theorem y_tx5 (c:DCu) (hc:COk c):Y (F160 (c,())) (fun y=>txS y.1∧COk y.2.1∧y.2.1.1=c.1):=by
 unfold F160
 refine Y.bind (y_below c _ hc) fun y1 h1=>Y.bind (y_name _ h1.2.2.2.1) fun y2 h2=>Y.bind (y_int _ _ h2.2.1 (by simp)) fun y3 h3=>Y.bind (y_below _ _ h3.2.1) fun y4 h4=>?_
 have e:y4.2.1.1=c.1:=h4.2.2.2.2.trans (h3.2.2.trans (h2.2.2.trans h1.2.2.2.2))
 have ha:0≤y3.1.1∧y3.1.1≤200:=by
  have h:=h3.1
  simp only [List.mem_cons,List.not_mem_nil,or_false] at h
  rcases h with h|h|h|h|h<;>rw [h]<;>decide
 refine Y.sum (P:=fun v=>COk (v.1,(v.2.1,(v.2.2.1,())))∧v.1=c.1∧v.2.2.2.1.size≤8) (R:=fun _=>False) (Y.bif (fun _=>Y.bind (y_name _ h4.2.2.2.1) fun y5 h5=>Y.l ⟨h5.2.1,h5.2.2.trans e,h5.1⟩) (fun _=>Y.l ⟨h4.2.2.2.1,e,Nat.zero_le 8⟩)) (fun v hv=>Y.mk ⟨?_,hv.1,hv.2.1⟩) (fun _ h=>h.elim)
 have h0:=h1.1
 have h9:=h1.2.1 (by decide)
 have hi:iAdd .i64 (1:Int) y1.1.1=1+y1.1.1:=iAdd_small (by omega) (by omega)
 exact ⟨by show iAdd .i64 1 y1.1.1≤3;rw [hi];omega,by show 1≤iAdd .i64 1 y1.1.1;rw [hi];omega,h2.1,hv.2.2,ha.1,ha.2,h4.1,by have:=h4.2.1 (by decide);dsimp only;omega⟩
theorem y_tx6 (c:DCu) (l:D26) (hc:COk c) (hn:∀a∈l.2.1,a.1.size≤8) (hl:List.length l.2.1≤1000000):Y (F117 (c,(l,()))) (fun y=>y.1.1≤3∧1≤y.1.1∧y.1.2.1.size≤8∧y.1.2.2.1.size≤8∧0≤y.1.2.2.2.1∧y.1.2.2.2.1≤200∧((0≤y.1.2.2.2.2.1∧y.1.2.2.2.2.1≤3)∨∃a∈l.2.1,y.1.2.2.2.2.1=a.2.2.1)∧COk y.2.1∧y.2.1.1=c.1):=by
 unfold F117
 refine Y.bind (y_tx5 c hc) fun y1 h1=>?_
 refine Y.sum (P:=fun v=>COk (v.1,(v.2.1,(v.2.2.1,())))∧v.1=c.1∧v.2.2.2.1.size≤8∧((0≤v.2.2.2.2.1∧v.2.2.2.2.1≤3)∨∃a∈l.2.1,v.2.2.2.2.1=a.2.2.1)) (R:=fun _=>False) (Y.bif (fun hp=>Y.bind (y_once _ _ h1.2.1) fun y2 h2=>Y.bif (fun _=>Y.bind (y_below _ _ h2.1) fun y3 h3=>Y.bind (Y.gi (Q:=fun x=>x∈l.2.1) h3.1 (h3.2.1 (iLt_iff.1 hp)) fun x hx=>hx) fun x4 hx4=>Y.l ⟨h3.2.2.2.1,h3.2.2.2.2.trans (h2.2.trans h1.2.2),hn _ hx4,.inr ⟨x4,hx4,rfl⟩⟩) (fun _=>Y.l ⟨h2.1,h2.2.trans h1.2.2,h1.1.2.2.1,.inl h1.1.2.2.2.2.2.2⟩)) (fun _=>Y.l ⟨h1.2.1,h1.2.2,h1.1.2.2.1,.inl h1.1.2.2.2.2.2.2⟩)) (fun v hv=>Y.mk ⟨h1.1.1,h1.1.2.1,hv.2.2.1,h1.1.2.2.2.1,h1.1.2.2.2.2.1,h1.1.2.2.2.2.2.1,hv.2.2.2,hv.1,hv.2.1⟩) (fun _ h=>h.elim)
theorem y_turn (x:D3) (n:Int):Y (F279 (x,((n,()),()))) (fun _=>True):=by
 unfold F279
 exact Y.ff (wrap_u64_nn _) (Y.ff (wrap_u64_nn _) (Y.mk trivial))
theorem y_words (b:List D5) (hb:List.length b=64):Y (F278 ((b,()),())) (fun y=>List.length y.1.1=64):=by
 unfold F278
 refine Y.sum (P:=fun v=>List.length v.1=16) (R:=fun _=>False) (Y.loop (I:=fun s=>0≤s.2.1∧s.2.1≤16∧(List.length s.1:Int)=s.2.1) (fun s=>(16 - s.2.1).toNat) (fun s hs=>?_) _ ⟨Int.le_refl _,by show (0:Int)≤16;decide,rfl⟩) (fun v hv=>?_) (fun _ h=>h.elim)
 ·obtain ⟨w,i,u⟩:=s
  obtain ⟨h0,h1,h2⟩:=hs
  dsimp only at h0 h1 h2
  unfold F278.b0
  refine Y.bif (fun hlt=>?_) (fun hn=>Y.rl ?_)
  ·have hlt:i<16:=iLt_iff.1 hlt
   have e0:iMul .i64 (4:Int) i=4*i:=iMul_small (by omega) (by omega)
   have e1:iAdd .i64 (iMul .i64 (4:Int) i) 1=4*i+1:=by rw [e0];exact iAdd_small (by omega) (by omega)
   have e2:iAdd .i64 (iMul .i64 (4:Int) i) 2=4*i+2:=by rw [e0];exact iAdd_small (by omega) (by omega)
   have e3:iAdd .i64 (iMul .i64 (4:Int) i) 3=4*i+3:=by rw [e0];exact iAdd_small (by omega) (by omega)
   have e4:iAdd .i64 i 1=i+1:=iAdd_small (by omega) (by omega)
   refine Y.gT (by dsimp only;omega) (by dsimp only;omega) fun _ _=>Y.ff rfl (Y.gT (by dsimp only;omega) (by dsimp only;omega) fun _ _=>Y.ff rfl (Y.gT (by dsimp only;omega) (by dsimp only;omega) fun _ _=>Y.ff rfl (Y.gT (by dsimp only;omega) (by dsimp only;omega) fun _ _=>Y.room (by simp only [List.length_cons,List.length_nil];omega) (by decide) (by decide) (Y.l ?_))))
   show (0≤iAdd .i64 i 1∧iAdd .i64 i 1≤16∧(List.length (w++ [_]):Int)=iAdd .i64 i 1)∧(16 - iAdd .i64 i 1).toNat<(16 - i).toNat
   rw [e4,List.length_append]
   simp only [List.length_cons,List.length_nil]
   omega
  ·have hn:16≤i:=iLt_no.1 hn
   show List.length w=16
   omega
 ·have hv:List.length v.1=16:=hv
  refine Y.sum (P:=fun v=>List.length v.1=64) (R:=fun _=>False) (Y.loop (I:=fun s=>16≤s.2.1∧s.2.1≤64∧(List.length s.1:Int)=s.2.1) (fun s=>(64 - s.2.1).toNat) (fun s hs=>?_) _ ⟨Int.le_refl _,by show (16:Int)≤64;decide,by show (List.length v.1:Int)=16;omega⟩) (fun v hv=>Y.mk hv) (fun _ h=>h.elim)
  obtain ⟨w,i,u⟩:=s
  obtain ⟨h0,h1,h2⟩:=hs
  dsimp only at h0 h1 h2
  unfold F278.b1
  refine Y.bif (fun hlt=>?_) (fun hn=>Y.rl ?_)
  ·have hlt:i<64:=iLt_iff.1 hlt
   have e1:iSub .i64 i 15=i - 15:=iSub_small (by omega) (by omega)
   have e2:iSub .i64 i 2=i - 2:=iSub_small (by omega) (by omega)
   have e3:iSub .i64 i 16=i - 16:=iSub_small (by omega) (by omega)
   have e5:iSub .i64 i 7=i - 7:=iSub_small (by omega) (by omega)
   have e4:iAdd .i64 i 1=i+1:=iAdd_small (by omega) (by omega)
   refine Y.dup (by dsimp only;omega) (by dsimp only;omega) fun _ _=>Y.dup (by dsimp only;omega) (by dsimp only;omega) fun _ _=>Y.bind (y_turn _ _) fun _ _=>Y.bind (y_turn _ _) fun _ _=>Y.ff rfl (Y.bind (y_turn _ _) fun _ _=>Y.bind (y_turn _ _) fun _ _=>Y.ff rfl (Y.dup (by dsimp only;omega) (by dsimp only;omega) fun _ _=>Y.dup (by dsimp only;omega) (by dsimp only;omega) fun _ _=>Y.room (by simp only [List.length_cons,List.length_nil];omega) (by decide) (by decide) (Y.l ?_)))
   show (16≤iAdd .i64 i 1∧iAdd .i64 i 1≤64∧(List.length (w++ [_]):Int)=iAdd .i64 i 1)∧(64 - iAdd .i64 i 1).toNat<(64 - i).toNat
   rw [e4,List.length_append]
   simp only [List.length_cons,List.length_nil]
   omega
  ·have hn:64≤i:=iLt_no.1 hn
   show List.length w=64
   omega
theorem y_block (h:List D3) (b:List D5) (k:List D3) (hh:List.length h=8) (hb:List.length b=64) (hk:List.length k=64):Y (F277 ((h,()),((b,()),((k,()),())))) (fun y=>List.length y.1.1=8):=by
 unfold F277
 refine Y.bind (y_words b hb) fun y1 hy1=>Y.room (by simp only [List.length_nil];omega) (by decide) (by decide) ?_
 refine Y.sum (P:=fun v=>List.length v.1=8) (R:=fun _=>False) (Y.loop (I:=fun s=>0≤s.2.1∧List.length s.1=8) (fun s=>(64 - s.2.1).toNat) (fun s hs=>?_) _ ⟨Int.le_refl _,hh⟩) (fun v hv=>?_) (fun _ h=>h.elim)
 ·obtain ⟨v,i,u⟩:=s
  obtain ⟨h0,h2⟩:=hs
  dsimp only at h0 h2
  unfold F277.b0
  refine Y.bif (fun hlt=>?_) (fun hn=>Y.rl h2)
  have hlt:i<64:=iLt_iff.1 hlt
  have e4:iAdd .i64 i 1=i+1:=iAdd_small (by omega) (by omega)
  have hx:(y1.1.1).length=64:=hy1
  refine Y.dup (by decide) (by dsimp only;omega) fun _ _=>Y.bind (y_turn _ _) fun _ _=>Y.bind (y_turn _ _) fun _ _=>Y.bind (y_turn _ _) fun _ _=>?_
  refine Y.dup (by decide) (by dsimp only;omega) fun _ _=>Y.dup (by decide) (by dsimp only;omega) fun _ _=>Y.dup (by decide) (by dsimp only;omega) fun _ _=>?_
  refine Y.gT (by dsimp only;omega) (by dsimp only;omega) fun _ _=>Y.dup (by dsimp only;omega) (by dsimp only;omega) fun _ _=>?_
  refine Y.dup (by decide) (by dsimp only;omega) fun _ _=>Y.bind (y_turn _ _) fun _ _=>Y.bind (y_turn _ _) fun _ _=>Y.bind (y_turn _ _) fun _ _=>?_
  refine Y.dup (by decide) (by dsimp only;omega) fun _ _=>Y.dup (by decide) (by dsimp only;omega) fun _ _=>Y.dup (by decide) (by dsimp only;omega) fun _ _=>Y.dup (by decide) (by dsimp only;omega) fun _ _=>Y.dup (by decide) (by dsimp only;omega) fun _ _=>Y.dup (by decide) (by dsimp only;omega) fun _ _=>Y.dup (by decide) (by dsimp only;omega) fun _ _=>Y.dup (by decide) (by dsimp only;omega) fun _ _=>Y.dup (by decide) (by dsimp only;omega) fun _ _=>Y.l ⟨⟨?_,rfl⟩,?_⟩
  ·show 0≤iAdd .i64 i 1;rw [e4];omega
  ·show (64 - iAdd .i64 i 1).toNat<(64 - i).toNat;rw [e4];omega
 ·have hv:List.length v.1=8:=hv
  refine Y.sum (P:=fun v=>List.length v.2.1=8) (R:=fun _=>False) (Y.loop (I:=fun s=>0≤s.1∧List.length s.2.1=8) (fun s=>(8 - s.1).toNat) (fun s hs=>?_) _ ⟨Int.le_refl _,hv⟩) (fun v hv=>Y.mk hv) (fun _ h=>h.elim)
  obtain ⟨i,v,u⟩:=s
  obtain ⟨h0,h2⟩:=hs
  dsimp only at h0 h2
  unfold F277.b1
  refine Y.bif (fun hlt=>?_) (fun hn=>Y.rl h2)
  have hlt:i<8:=iLt_iff.1 hlt
  have e4:iAdd .i64 i 1=i+1:=iAdd_small (by omega) (by omega)
  refine Y.dup (by dsimp only;omega) (by dsimp only;omega) fun _ _=>Y.gT (by dsimp only;omega) (by dsimp only;omega) fun _ _=>Y.dup (by dsimp only;omega) (by dsimp only;omega) fun _ _=>Y.l ⟨⟨?_,?_⟩,?_⟩
  ·show 0≤iAdd .i64 i 1;rw [e4];omega
  ·show List.length (List.set v _ _)=8;rw [List.length_set];exact h2
  ·show (8 - iAdd .i64 i 1).toNat<(8 - i).toNat;rw [e4];omega
theorem y_padded (b:List D5) (hb:List.length b≤1000000000):Y (F275 ((b,()),())) (fun y=>List.length y.1.1 % 64=0∧List.length y.1.1≤1000000100):=by
 unfold F275
 refine Y.room (by simp only [List.length_nil];omega) (by decide) (by decide) (Y.room (by show List.length ([]++b)+1≤_;simp only [List.nil_append];omega) (by decide) (by decide) ?_)
 refine Y.sum (P:=fun v=>List.length v.1 % 64=56∧List.length v.1≤List.length b+65) (R:=fun _=>False) (Y.loop (I:=fun s=>List.length s.1+(120 - List.length s.1 % 64) % 64≤List.length b+65) (fun s=>(120 - List.length s.1 % 64) % 64) (fun s hs=>?_) _ ?_) (fun v hv=>?_) (fun _ h=>h.elim)
 ·obtain ⟨o,u⟩:=s
  dsimp only at hs
  unfold F275.b0
  have er:iRem (List.length o:Int) (64:Int)=((List.length o % 64:Nat):Int):=rfl
  refine Y.ff rfl (Y.bif (fun hne=>?_) (fun he=>Y.rl ?_))
  ·have hne:((List.length o % 64:Nat):Int)≠56:=iEq_no.1 (by rw [←er];simpa using hne)
   refine Y.room (by simp only [List.length_cons,List.length_nil];omega) (by decide) (by decide) (Y.l ?_)
   show (List.length (o++ [_])+(120 - List.length (o++ [_]) % 64) % 64≤List.length b+65)∧(120 - List.length (o++ [_]) % 64) % 64<(120 - List.length o % 64) % 64
   rw [List.length_append]
   simp only [List.length_cons,List.length_nil]
   omega
  ·have he:((List.length o % 64:Nat):Int)=56:=iEq_iff.1 (by rw [←er];simpa using he)
   show List.length o % 64=56∧List.length o≤List.length b+65
   omega
 ·show List.length (([]++b)++ [_])+(120 - List.length (([]++b)++ [_]) % 64) % 64≤List.length b+65
  rw [List.length_append,List.nil_append]
  simp only [List.length_cons,List.length_nil]
  omega
 ·obtain ⟨o,u⟩:=v
  obtain ⟨h1,h2⟩:=hv
  dsimp only at h1 h2
  refine Y.sum (P:=fun v=>List.length v.1=List.length o+8) (R:=fun _=>False) (Y.loop (I:=fun s=> -8≤s.2.1∧8*(List.length s.1:Int)+s.2.1=8*(List.length o:Int)+56∧(List.length s.1)≤List.length o+8) (fun s=>(s.2.1+8).toNat) (fun s hs=>?_) _ ⟨by show (-8:Int)≤56;decide,rfl,by show List.length o≤_;omega⟩) (fun v hv=>Y.mk ?_) (fun _ h=>h.elim)
  ·obtain ⟨q,k,u⟩:=s
   obtain ⟨g1,g2,g3⟩:=hs
   dsimp only at g1 g2 g3
   unfold F275.b1
   refine Y.bif (fun hle=>?_) (fun hn=>Y.rl ?_)
   ·have hle:0≤k:=iLe_iff.1 hle
    have e4:iSub .i64 k 8=k - 8:=iSub_small (by omega) (by omega)
    refine Y.ff (wrap_u64_nn _) (Y.room (by simp only [List.length_cons,List.length_nil];omega) (by decide) (by decide) (Y.l ?_))
    show (-8≤iSub .i64 k 8∧8*(List.length (q++ [_]):Int)+iSub .i64 k 8=8*(List.length o:Int)+56∧List.length (q++ [_])≤List.length o+8)∧(iSub .i64 k 8+8).toNat<(k+8).toNat
    rw [e4,List.length_append]
    simp only [List.length_cons,List.length_nil]
    omega
   ·have hn:k<0:=iLe_no.1 hn
    show List.length q=List.length o+8
    omega
  ·have hv:List.length v.1=List.length o+8:=hv
   show List.length v.1 % 64=0∧List.length v.1≤1000000100
   omega
theorem y_digest (b:List D5) (hb:List.length b≤1000000000):Y (F269 ((b,()),())) (fun y=>y.1.1.size=32):=by
 unfold F269
 refine Y.bind (y_padded b hb) fun y1 h1=>Y.bind (Y.of (Q:=fun y=>List.length y.1.1=64) rfl rfl) fun y2 h2=>?_
 have h1:List.length y1.1.1 % 64=0∧List.length y1.1.1≤1000000100:=h1
 have h2:List.length y2.1.1=64:=h2
 generalize y1.1.1=p at h1
 refine Y.sum (P:=fun v=>List.length v.1=8) (R:=fun _=>False) (Y.loop (I:=fun s=>List.length s.1=8∧0≤s.2.1∧s.2.1 % 64=0∧s.2.1≤(List.length p:Int)∧s.2.2.1=p) (fun s=>((List.length p:Int) - s.2.1).toNat) (fun s hs=>?_) _ ⟨rfl,Int.le_refl _,rfl,Int.natCast_nonneg _,rfl⟩) (fun v hv=>?_) (fun _ h=>h.elim)
 ·obtain ⟨h,at',q,u⟩:=s
  obtain ⟨g1,g2,g3,g4,rfl⟩:=hs
  dsimp only at g1 g2 g3 g4 h1
  unfold F269.b0
  refine Y.bif (fun hlt=>?_) (fun _=>Y.rl g1)
  have hlt:at'<(List.length q:Int):=iLt_iff.1 hlt
  have e:iAdd .i64 at' 64=at'+64:=iAdd_small (by omega) (by omega)
  refine Y.tt (by unfold cutLH;dsimp only;rw [e];exact decide_eq_true (by omega)) (Y.bind (y_block h _ y2.1.1 g1 (by dsimp only;rw [e,List.length_take,List.length_drop];omega) h2) fun y4 h4=>Y.l ?_)
  show (List.length y4.1.1=8∧0≤iAdd .i64 at' 64∧iAdd .i64 at' 64 % 64=0∧iAdd .i64 at' 64≤(List.length q:Int)∧q=q)∧((List.length q:Int) - iAdd .i64 at' 64).toNat<((List.length q:Int) - at').toNat
  rw [e]
  exact ⟨⟨h4,by omega,by omega,by omega,rfl⟩,by omega⟩
 ·have hv:List.length v.1=8:=hv
  refine Y.sum (P:=fun v=>List.length v.1=32) (R:=fun _=>False) (Y.loop (I:=fun s=>0≤s.2.1∧s.2.1≤8∧(List.length s.1:Int)=4*s.2.1) (fun s=>(8 - s.2.1).toNat) (fun s hs=>?_) _ ⟨Int.le_refl _,by show (0:Int)≤8;decide,rfl⟩) (fun v hv=>Y.mk ((bytesStr_size _).trans hv)) (fun _ h=>h.elim)
  obtain ⟨o,i,u⟩:=s
  obtain ⟨g1,g2,g3⟩:=hs
  dsimp only at g1 g2 g3
  unfold F269.b1
  refine Y.bif (fun hlt=>?_) (fun hn=>Y.rl ?_)
  ·have hlt:i<8:=iLt_iff.1 hlt
   have e:iAdd .i64 i 1=i+1:=iAdd_small (by omega) (by omega)
   refine Y.dup (by dsimp only;omega) (by dsimp only;omega) fun _ _=>Y.ff rfl (Y.dup (by dsimp only;omega) (by dsimp only;omega) fun _ _=>Y.ff rfl (Y.dup (by dsimp only;omega) (by dsimp only;omega) fun _ _=>Y.ff rfl (Y.dup (by dsimp only;omega) (by dsimp only;omega) fun _ _=>Y.room (by simp only [List.length_cons,List.length_nil];omega) (by decide) (by decide) (Y.l ?_))))
   show (0≤iAdd .i64 i 1∧iAdd .i64 i 1≤8∧(List.length (o++ [_,_,_,_]):Int)=4*iAdd .i64 i 1)∧(8 - iAdd .i64 i 1).toNat<(8 - i).toNat
   rw [e,List.length_append]
   simp only [List.length_cons,List.length_nil]
   omega
  ·have hn:8≤i:=iLt_no.1 hn
   show List.length o=32
   omega
theorem y_leafDigest (s:ByteArray) (hs:s.size≤100000000):Y (F270 ((s,()),())) (fun y=>y.1.1.size=32):=by
 unfold F270
 have e:List.length (strBytes s)=s.size:=strBytes_len s
 refine Y.room (by dsimp only;rw [e];simp only [List.length_cons,List.length_nil];omega) (by decide) (by decide) (Y.bind (y_digest _ ?_) fun y h=>Y.mk h)
 exact lapp_le (n:=1) (m:=s.size) (Nat.le_refl _) (Nat.le_of_eq e) (by omega)
theorem y_nodeDigest (a b:ByteArray) (ha:a.size≤100000000) (hb:b.size≤100000000):Y (F272 ((a,()),((b,()),()))) (fun y=>y.1.1.size=32):=by
 unfold F272
 have e1:List.length (strBytes a)=a.size:=strBytes_len a
 have e2:List.length (strBytes b)=b.size:=strBytes_len b
 have l1:(lapp ([((1:Int),())]:List D5) (strBytes a)).length≤1+a.size:=lapp_le (n:=1) (m:=a.size) (Nat.le_refl _) (Nat.le_of_eq e1) (Nat.le_refl _)
 refine Y.room (by dsimp only;rw [e1];simp only [List.length_cons,List.length_nil];omega) (by decide) (by decide) (Y.room (Nat.le_trans (Nat.add_le_add l1 (Nat.le_of_eq e2)) (by omega)) (by decide) (by decide) (Y.bind (y_digest _ ?_) fun y h=>Y.mk h))
 exact lapp_le (n:=1+a.size) (m:=b.size) l1 (Nat.le_of_eq e2) (by omega)
theorem y_half (n:Int) (h2:2≤n) (hn:n≤1000000):Y (F271 ((n,()),())) (fun y=>1≤y.1.1∧y.1.1<n):=by
 unfold F271
 refine Y.sum (P:=fun v=>1≤v.1∧v.1<n) (R:=fun _=>False) (Y.loop (I:=fun s=>1≤s.1∧s.1<n) (fun s=>(n - s.1).toNat) (fun s hs=>?_) _ ⟨Int.le_refl _,by show (1:Int)<n;omega⟩) (fun v hv=>Y.mk hv) (fun _ h=>h.elim)
 obtain ⟨v,u⟩:=s
 obtain ⟨g1,g2⟩:=hs
 dsimp only at g1 g2
 unfold F271.b0
 have e:iMul .i64 (2:Int) v=2*v:=iMul_small (by omega) (by omega)
 refine Y.bif (fun hlt=>Y.l ?_) (fun _=>Y.rl ⟨g1,g2⟩)
 have hlt:iMul .i64 (2:Int) v<n:=iLt_iff.1 hlt
 show (1≤iMul .i64 2 v∧iMul .i64 2 v<n)∧(n - iMul .i64 2 v).toNat<(n - v).toNat
 rw [e] at hlt ⊢
 omega
theorem y_root3:∀(k:Nat) (l:List D9),List.length l≤k→List.length l≤1000→(∀s∈l,s.1.size≤100000000)→Y (R263 (k+1) ((l,()),())) (fun y=>y.1.1.size=32)
 |k,l,hk,hl,hs=>by
  show Y (S263 (R263 k) ((l,()),())) _
  unfold S263
  refine Y.bif (fun _=>Y.bind (y_digest _ (Nat.zero_le _)) fun y h=>Y.mk h) (fun h0=>Y.bif (fun h1=>?_) (fun h1=>?_))
  ·have h1:(List.length l:Int)=1:=iEq_iff.1 h1
   exact Y.bind (Y.gi (Q:=fun x=>x∈l) (Int.le_refl _) (by dsimp only;omega) fun _ h=>h) fun x hx=>Y.bind (y_leafDigest x.1 (hs x hx)) fun y h=>Y.mk h
  ·have h0:(List.length l:Int)≠0:=iEq_no.1 h0
   have h1:(List.length l:Int)≠1:=iEq_no.1 h1
   match k,hk with
   |0,hk=>omega
   |k+1,hk =>
   refine Y.bind (y_half (List.length l:Int) (by omega) (by omega)) fun y4 h4=>?_
   have h4:1≤y4.1.1∧y4.1.1<(List.length l:Int):=h4
   have hc:cutHi y4.1.1 (List.length l)=true:=by unfold cutHi;exact decide_eq_true (by omega)
   refine Y.tt hc (Y.bind (y_root3 k _ ?_ ?_ ?_) fun y5 h5=>Y.tt hc (Y.bind (y_root3 k _ ?_ ?_ ?_) fun y6 h6=>Y.bind (y_nodeDigest y5.1.1 y6.1.1 ?_ ?_) fun y h=>Y.mk h))
   ·dsimp only;rw [List.length_take,List.length_drop];omega
   ·dsimp only;rw [List.length_take,List.length_drop];omega
   ·intro s h;exact hs s (List.mem_of_mem_drop (List.mem_of_mem_take h))
   ·dsimp only;rw [List.length_take,List.length_drop];omega
   ·dsimp only;rw [List.length_take,List.length_drop];omega
   ·intro s h;exact hs s (List.mem_of_mem_drop (List.mem_of_mem_take h))
   ·have h5:y5.1.1.size=32:=h5;omega
   ·have h6:y6.1.1.size=32:=h6;omega
theorem bif_some {A:Type} {c:Bool} {t e:Option A} {y:A} (h:(bif c then t else e)=some y):(c=true∧t=some y)∨(c=false∧e=some y):=by
 cases c with
 |true=>exact .inl ⟨rfl,h⟩
 |false=>exact .inr ⟨rfl,h⟩
theorem bind_so {A B:Type} {o:Option A} {K:A→Option B} {y:B} (h:o.bind K=some y):∃a,o=some a∧K a=some y:=Option.bind_eq_some_iff.1 h
theorem p_root3:∀(k:Nat) (l:List D9) (y:(ByteArray×Unit)×Unit),List.length l≤1000→(∀s∈l,s.1.size≤100000000)→R263 k ((l,()),())=some y→y.1.1.size=32
 |0,l,y,_,_,h=>by cases h
 |k+1,l,y,hl,hs,h=>by
  change S263 (R263 k) ((l,()),())=some y at h
  unfold S263 at h
  rcases bif_some h with ⟨_,h⟩|⟨h0,h⟩
  ·obtain ⟨a,ha,h⟩:=bind_so h
   have:=Y.get (y_digest _ (Nat.zero_le _)) ha
   cases h
   exact this
  ·rcases bif_some h with ⟨h1,h⟩|⟨h1,h⟩
   ·obtain ⟨x,hx,h⟩:=bind_so h
    obtain ⟨a,ha,h⟩:=bind_so h
    have h1:(List.length l:Int)=1:=iEq_iff.1 h1
    have hm:x∈l:=Y.get (Y.gi (xs:=l) (i:=0) (Q:=fun x=>x∈l) (Int.le_refl _) (by omega) fun _ h=>h) hx
    have:=Y.get (y_leafDigest x.1 (hs x hm)) ha
    cases h
    exact this
   ·obtain ⟨q,hq,h⟩:=bind_so h
    rcases bif_some h with ⟨_,h⟩|⟨_,h⟩
    ·obtain ⟨a,ha,h⟩:=bind_so h
     rcases bif_some h with ⟨_,h⟩|⟨_,h⟩
     ·obtain ⟨b,hb,h⟩:=bind_so h
      obtain ⟨c,hc,h⟩:=bind_so h
      have s1:=p_root3 k _ a (by rw [List.length_take,List.length_drop];exact Nat.le_trans (Nat.min_le_right _ _) (Nat.le_trans (Nat.sub_le _ _) hl)) (fun s h=>hs s (List.mem_of_mem_drop (List.mem_of_mem_take h))) ha
      have s2:=p_root3 k _ b (by rw [List.length_take,List.length_drop];exact Nat.le_trans (Nat.min_le_right _ _) (Nat.le_trans (Nat.sub_le _ _) hl)) (fun s h=>hs s (List.mem_of_mem_drop (List.mem_of_mem_take h))) hb
      have:=Y.get (y_nodeDigest a.1.1 b.1.1 (by omega) (by omega)) hc
      cases h
      exact this
     ·cases h
    ·cases h
theorem y_rootOf (l:List D9) (hl:List.length l≤1000) (hs:∀s∈l,s.1.size≤100000000):Y (F251 ((l,()),())) (fun y=>y.1.1.size≤32):=by
 unfold F251
 refine Y.bif (fun _=>Y.mk (Nat.zero_le _)) (fun _=>?_)
 obtain ⟨y,hy,_⟩:=y_root3 (List.length l) l (Nat.le_refl _) hl hs
 obtain ⟨z,hz⟩:=recF_ex (R:=R263) ⟨_,y,hy⟩
 obtain ⟨k,hk⟩:=recF_some hz
 have:=p_root3 k l z hl hs hk
 exact Y.bind (Y.of (Q:=fun y=>y.1.1.size≤32) hz (Nat.le_of_eq this)) fun _ h=>Y.mk h
theorem shr7 (n:Int) (h:0≤n):iShr .i64 n 7=n / 128:=by
 unfold iShr
 show n.fdiv 128=n / 128
 exact Int.fdiv_eq_ediv_of_nonneg _ (by decide)
theorem y_putNum (b:List D5) (n:Int) (hb:List.length b≤1000000000):Y (F261 ((b,()),((n,()),()))) (fun y=>List.length y.1.1≤List.length b+6):=by
 unfold F261
 refine Y.room (by simp only [List.length_nil];omega) (by decide) (by decide) ?_
 refine Y.sum (P:=fun v=>v.1≤1000000000) (R:=fun _=>False) (Y.bif (fun _=>Y.l (Int.le_refl _)) (fun h=>Y.l (iLt_no.1 h))) (fun v1 h1=>?_) (fun _ h=>h.elim)
 refine Y.sum (P:=fun v=>v.1≤1000000000∧ -1000000000≤v.1) (R:=fun _=>False) (Y.bif (fun _=>Y.l ⟨by decide,Int.le_refl _⟩) (fun h=>Y.l ⟨h1,iLt_no.1 h⟩)) (fun v2 h2=>?_) (fun _ h=>h.elim)
 refine Y.sum (P:=fun v=>0≤v.1∧v.1≤2000000000) (R:=fun _=>False) (Y.bif (fun h=>Y.l ?_) (fun h=>Y.l ?_)) (fun v3 h3=>?_) (fun _ h=>h.elim)
 ·have h:v2.1<0:=iLt_iff.1 h
  obtain ⟨a,b⟩:=h2
  have e:iMul .i64 (-2:Int) v2.1= -2*v2.1:=iMul_small (by omega) (by omega)
  have e2:iSub .i64 (-2*v2.1) 1= -2*v2.1 - 1:=iSub_small (by omega) (by omega)
  show 0≤iSub .i64 (iMul .i64 (-2:Int) v2.1) 1∧iSub .i64 (iMul .i64 (-2:Int) v2.1) 1≤2000000000
  rw [e,e2];omega
 ·have h:0≤v2.1:=iLt_no.1 h
  obtain ⟨a,b⟩:=h2
  have e:iMul .i64 (2:Int) v2.1=2*v2.1:=iMul_small (by omega) (by omega)
  show 0≤iMul .i64 (2:Int) v2.1∧iMul .i64 (2:Int) v2.1≤2000000000
  rw [e];omega
 ·refine Y.sum (P:=fun v=>List.length v.1≤List.length b+5) (R:=fun _=>False) (Y.loop (I:=fun s=>0≤s.2.1∧((List.length s.1≤List.length b∧s.2.1≤17179869184)∨(List.length s.1≤List.length b+1∧s.2.1≤134217728)∨(List.length s.1≤List.length b+2∧s.2.1≤1048576)∨(List.length s.1≤List.length b+3∧s.2.1≤8192)∨(List.length s.1≤List.length b+4∧s.2.1≤64))) (fun s=>s.2.1.toNat) (fun s hs=>?_) _ ?_) (fun v hv=>?_) (fun _ h=>h.elim)
  ·obtain ⟨o,m,u⟩:=s
   obtain ⟨g1,g2⟩:=hs
   dsimp only at g1 g2
   unfold F261.b0
   refine Y.bif (fun hlt=>?_) (fun _=>Y.rl (by dsimp only;omega))
   have hlt:127<m:=iLt_iff.1 hlt
   refine Y.room (by simp only [List.length_cons,List.length_nil];omega) (by decide) (by decide) (Y.ff rfl (Y.l ?_))
   show (0≤iShr .i64 m 7∧((List.length (o++ [_])≤List.length b∧iShr .i64 m 7≤17179869184)∨(List.length (o++ [_])≤List.length b+1∧iShr .i64 m 7≤134217728)∨(List.length (o++ [_])≤List.length b+2∧iShr .i64 m 7≤1048576)∨(List.length (o++ [_])≤List.length b+3∧iShr .i64 m 7≤8192)∨(List.length (o++ [_])≤List.length b+4∧iShr .i64 m 7≤64)))∧(iShr .i64 m 7).toNat<m.toNat
   rw [shr7 m g1,List.length_append]
   simp only [List.length_cons,List.length_nil]
   omega
  ·obtain ⟨a,c⟩:=h3
   refine ⟨a,.inl ⟨?_,by show v3.1≤_;omega⟩⟩
   show List.length ([]++b)≤_
   rw [List.nil_append]
   exact Nat.le_refl _
  ·have hv:List.length v.1≤List.length b+5:=hv
   refine Y.room (by simp only [List.length_cons,List.length_nil];omega) (by decide) (by decide) (Y.mk ?_)
   show List.length (v.1++ [_])≤_
   rw [List.length_append];simp only [List.length_cons,List.length_nil];omega
theorem y_putText (b:List D5) (s:ByteArray) (hb:List.length b≤100000000) (hs:s.size≤100000000):Y (F262 ((b,()),((s,()),()))) (fun y=>List.length y.1.1≤List.length b+6+s.size):=by
 unfold F262
 refine Y.bind (y_putNum b _ (by omega)) fun y1 h1=>?_
 have h1:List.length y1.1.1≤List.length b+6:=h1
 have e:List.length (strBytes s)=s.size:=strBytes_len s
 refine Y.room (by dsimp only;rw [e];omega) (by decide) (by decide) (Y.mk ?_)
 exact lapp_le (n:=List.length b+6) (m:=s.size) h1 (Nat.le_of_eq e) (Nat.le_refl _)
theorem y_text6 (a:D120) (hn:a.1.size≤1000000) (hl:List.length a.2.2.2.2.1≤1048576):Y (F250 (a,())) (fun y=>y.1.1.size≤100000000):=by
 unfold F250
 refine Y.bind (y_putText [] a.1 (Nat.zero_le _) (by omega)) fun y1 h1=>?_
 have h1:List.length y1.1.1≤0+6+a.1.size:=h1
 refine Y.bind (y_putNum y1.1.1 _ (by omega)) fun y2 h2=>?_
 have h2:List.length y2.1.1≤List.length y1.1.1+6:=h2
 refine Y.bind (y_putNum y2.1.1 _ (by omega)) fun y3 h3=>?_
 have h3:List.length y3.1.1≤List.length y2.1.1+6:=h3
 refine Y.bind (y_putNum y3.1.1 _ (by omega)) fun y4 h4=>?_
 have h4:List.length y4.1.1≤List.length y3.1.1+6:=h4
 refine Y.bind (y_putNum y4.1.1 _ (by omega)) fun y5 h5=>?_
 have h5:List.length y5.1.1≤List.length y4.1.1+6:=h5
 refine Y.sum (P:=fun v=>List.length v.1≤20000000) (R:=fun _=>False) (Y.loop (I:=fun s=>0≤s.2.1∧s.2.1≤(List.length a.2.2.2.2.1:Int)∧(List.length s.1:Int)≤2000000+12*s.2.1) (fun s=>((List.length a.2.2.2.2.1:Int) - s.2.1).toNat) (fun s hs=>?_) _ ⟨Int.le_refl _,Int.natCast_nonneg _,by show (List.length y5.1.1:Int)≤2000000+12*0;omega⟩) (fun v hv=>Y.mk ?_) (fun _ h=>h.elim)
 ·obtain ⟨o,i,u⟩:=s
  obtain ⟨g1,g2,g3⟩:=hs
  dsimp only at g1 g2 g3
  unfold F250.b0
  refine Y.bif (fun hlt=>?_) (fun _=>Y.rl (by dsimp only;omega))
  have hlt:i<(List.length a.2.2.2.2.1:Int):=iLt_iff.1 hlt
  have e:iAdd .i64 i 1=i+1:=iAdd_small (by omega) (by omega)
  refine Y.gT g1 hlt fun x _=>Y.bind (y_putNum o _ (by omega)) fun z1 k1=>Y.gT g1 hlt fun x2 _=>?_
  have k1:List.length z1.1.1≤List.length o+6:=k1
  refine Y.bind (y_putNum z1.1.1 _ (by omega)) fun z2 k2=>Y.l ?_
  have k2:List.length z2.1.1≤List.length z1.1.1+6:=k2
  show (0≤iAdd .i64 i 1∧iAdd .i64 i 1≤(List.length a.2.2.2.2.1:Int)∧(List.length z2.1.1:Int)≤2000000+12*iAdd .i64 i 1)∧((List.length a.2.2.2.2.1:Int) - iAdd .i64 i 1).toNat<((List.length a.2.2.2.2.1:Int) - i).toNat
  rw [e]
  omega
 ·have hv:List.length v.1≤20000000:=hv
  exact Nat.le_trans (Nat.le_of_eq (bytesStr_size v.1)) (Nat.le_trans hv (by decide))
theorem nameB_size {s:ByteArray} (h:nameB s=true):s.size≤8:=by
 unfold nameB at h
 simp only [Bool.and_eq_true] at h
 have:=h.2
 simp only [inR,iLe,Bool.and_eq_true,decide_eq_true_eq] at this
 omega
theorem ledger_names {x:DLe} (h:ledgerB x=true):∀a∈x.2.1,a.1.size≤8:=by
 unfold ledgerB acctsB at h
 simp only [Bool.and_eq_true] at h
 intro a ha
 obtain ⟨i,hi,rfl⟩:=List.getElem_of_mem ha
 have:=allI_get h.2.1 i hi
 rw [Nat.zero_add] at this
 unfold acctP acctB at this
 simp only [Bool.and_eq_true] at this
 exact nameB_size this.1.1
theorem y_stateRoot (L:DLe) (hOk:(Ty.sl e120).Ok L.2.1):Y (F233 (L,())) (fun y=>y.1.1.size≤32):=by
 unfold F233
 refine Y.eq (s_ledger L hOk) ?_
 cases hq:ledgerB L with
 |false=>exact Y.mk (Nat.zero_le _)
 |true =>
  obtain ⟨hlen,hlv,_⟩:=ledger_len hq
  have hnm:=ledger_names hq
  refine Y.ff rfl (Y.sum (P:=fun v=>List.length v.1≤12∧∀s∈v.1,s.1.size≤100000000) (R:=fun _=>False) (Y.loop (I:=fun v=>0≤v.2.1∧(List.length v.1:Int)≤v.2.1∧v.2.1≤(List.length L.2.1:Int)∧∀s∈v.1,s.1.size≤100000000) (fun v=>((List.length L.2.1:Int) - v.2.1).toNat) (fun v hv=>?_) _ ⟨Int.le_refl _,Int.le_refl _,Int.natCast_nonneg _,fun s hs=>by cases hs⟩) (fun v hv=>Y.bind (y_rootOf v.1 (by have:=hv.1;omega) hv.2) fun _ h=>Y.mk h) (fun _ h=>h.elim))
  obtain ⟨o,i,u⟩:=v
  obtain ⟨g1,g2,g3,g4⟩:=hv
  dsimp only at g1 g2 g3 g4
  unfold F233.b0
  refine Y.bif (fun hlt=>?_) (fun _=>Y.rl ⟨by dsimp only;omega,g4⟩)
  have hlt:i<(List.length L.2.1:Int):=iLt_iff.1 hlt
  have e:iAdd .i64 i 1=i+1:=iAdd_small (by omega) (by omega)
  refine Y.gT g1 hlt fun x hx=>Y.bind (y_text6 x (Nat.le_trans (hnm x hx) (by decide)) (Nat.le_trans (hlv x hx).1 (by decide))) fun y4 h4=>Y.room (by simp only [List.length_cons,List.length_nil];omega) (by decide) (by decide) (Y.l ?_)
  show (0≤iAdd .i64 i 1∧(List.length (o++ [y4.1]):Int)≤iAdd .i64 i 1∧iAdd .i64 i 1≤(List.length L.2.1:Int)∧∀s∈o++ [y4.1],s.1.size≤100000000)∧((List.length L.2.1:Int) - iAdd .i64 i 1).toNat<((List.length L.2.1:Int) - i).toNat
  rw [e,List.length_append]
  simp only [List.length_cons,List.length_nil]
  refine ⟨⟨by omega,by omega,by omega,fun s hs=>?_⟩,by omega⟩
  rcases List.mem_append.1 hs with h|h
  ·exact g4 s h
  ·rw [List.mem_singleton.1 h];exact h4
theorem places_in {l:List DBk} (h:TreeF l) (id:Int):(List.length (places l (chain l id))≤100001)∧∀x∈places l (chain l id),0≤x.1∧x.1<(List.length l:Int):=by
 refine ⟨by unfold places;rw [List.length_map];exact chain_len1 h id,fun x hx=>?_⟩
 unfold places at hx
 obtain ⟨b,hb,rfl⟩:=List.mem_map.1 hx
 obtain ⟨j,hj,rfl⟩:=List.getElem_of_mem (chain_mem h id b hb)
 have:=blkAt_of h hj
 dsimp only
 rw [this]
 omega
theorem y_there (l:List DBk) (id:Int) (hOk:(Ty.sl e71).Ok l):Y (F229 ((l,()),((id,()),()))) (fun _=>True):=by
 unfold F229
 exact Y.eq (s_tree l hOk) (Y.bif (fun _=>Y.bif (fun _=>Y.mk trivial) (fun _=>Y.eq (s_blkAt l id hOk.1) (Y.mk trivial))) (fun _=>Y.mk trivial))
theorem y_ended (l:List DBk) (id:Int) (hOk:(Ty.sl e71).Ok l) (h:TreeF l):Y (F230 ((l,()),((id,()),()))) (fun _=>True):=by
 unfold F230
 obtain ⟨p1,p2⟩:=places_in h id
 refine Y.eq (s_chain l id hOk h) ?_
 generalize places l (chain l id)=ps at p1 p2
 refine Y.sum (P:=fun _=>True) (R:=fun _=>True) (Y.loop (I:=fun v=>0≤v.1) (fun v=>((List.length ps:Int) - v.1).toNat) (fun v hv=>?_) _ (Int.le_refl _)) (fun v _=>Y.mk trivial) (fun _ _=>Y.mk trivial)
 obtain ⟨i,u⟩:=v
 have hv:0≤i:=hv
 unfold F230.b0
 refine Y.bif (fun hlt=>?_) (fun _=>Y.rl trivial)
 have hlt:i<(List.length ps:Int):=iLt_iff.1 hlt
 have e:iAdd .i64 i 1=i+1:=iAdd_small (by omega) (by omega)
 refine Y.dup hv hlt fun x hx=>Y.gT (p2 x hx).1 (p2 x hx).2 fun _ _=>Y.bif (fun _=>Y.rr trivial) (fun _=>Y.l ?_)
 show 0≤iAdd .i64 i 1∧((List.length ps:Int) - iAdd .i64 i 1).toNat<((List.length ps:Int) - i).toNat
 rw [e];omega
theorem blk_txs {l:List DBk} (hOk:(Ty.sl e71).Ok l) {b:DBk} (hb:b∈l):(Ty.sl e110).Ok (bTxs b):=(Ok_mem hOk.2 hb).2.2.2.2.2.2.2.2.2.2.1
theorem y_at (L:DLe) (l:List DBk) (id:Int) (hL:(Ty.sl e120).Ok L.2.1) (hA:AcctL L.2.1) (hOk:(Ty.sl e71).Ok l) (h:TreeF l):Y (F231 (L,((l,()),((id,()),())))) (fun y=>(Ty.sl e120).Ok y.1.2.1∧AcctL y.1.2.1):=by
 unfold F231
 obtain ⟨p1,p2⟩:=places_in h id
 refine Y.eq (s_cledger L hA) (Y.eq (s_chain l id hOk h) ?_)
 generalize places l (chain l id)=ps at p1 p2
 refine Y.sum (P:=fun v=>(Ty.sl e120).Ok v.2.2.1∧AcctL v.2.2.1) (R:=fun _=>False) (Y.loop (I:=fun v=>0≤v.1∧(Ty.sl e120).Ok v.2.2.1∧AcctL v.2.2.1) (fun v=>((List.length ps:Int) - v.1).toNat) (fun v hv=>?_) _ ⟨Int.le_refl _,hL,hA⟩) (fun v hv=>Y.mk hv) (fun _ h=>h.elim)
 obtain ⟨i,ep,ac,u⟩:=v
 obtain ⟨g1,g2,g3⟩:=hv
 dsimp only at g1 g2 g3
 unfold F231.b0
 refine Y.bif (fun hlt=>?_) (fun _=>Y.rl ⟨g2,g3⟩)
 have hlt:i<(List.length ps:Int):=iLt_iff.1 hlt
 have e:iAdd .i64 i 1=i+1:=iAdd_small (by omega) (by omega)
 refine Y.dup g1 hlt fun x hx=>Y.gT (p2 x hx).1 (p2 x hx).2 fun b hb=>?_
 obtain ⟨a1,a2,a3⟩:=all_spec (ep,(ac,())) (bTxs b) g2 g3 (blk_txs hOk hb)
 refine Y.eq a1 (Y.l ⟨⟨?_,a2,a3⟩,?_⟩)
 ·show 0≤iAdd .i64 i 1;rw [e];omega
 ·show ((List.length ps:Int) - iAdd .i64 i 1).toNat<((List.length ps:Int) - i).toNat;rw [e];omega
theorem y_body (L:DLe) (l:List DBk) (b:DBk) (hL:(Ty.sl e120).Ok L.2.1) (hA:AcctL L.2.1) (hOk:(Ty.sl e71).Ok l) (h:TreeF l) (hb:e71.Ok b) :
  Y (F253 (L,((l,()),(b,())))) (fun _=>True):=by
 unfold F253
 refine Y.bind (y_there l _ hOk) fun y1 _=>Y.bif (fun _=>Y.mk trivial) (fun _=>Y.bind (y_ended l _ hOk h) fun y2 _=>Y.bif (fun _=>Y.bif (fun _=>Y.bif (fun _=>Y.bif (fun _=>Y.mk trivial) (fun _=>Y.mk trivial)) (fun _=>Y.mk trivial)) (fun _=>Y.mk trivial)) (fun _=>?_))
 refine Y.bind (y_at L l _ hL hA hOk h) fun y3 h3=>?_
 obtain ⟨a1,a2,a3⟩:=all_spec y3.1 (bTxs b) h3.1 h3.2 hb.2.2.2.2.2.2.2.2.2.2.1
 refine Y.eq a1 (Y.eq (s_chain l _ hOk h) (Y.bif (fun _=>Y.mk trivial) (fun _=>Y.bif (fun _=>Y.mk trivial) (fun _=>Y.bif (fun _=>Y.bif (fun _=>Y.mk trivial) (fun _=>Y.mk trivial)) (fun _=>?_)))))
 obtain ⟨n1,n2,n3⟩:=nextS_eq _ a2 a3
 refine Y.eq n1 (Y.eq (s_setOf _ n3.1 n2) (Y.eq (s_sameV _ _ hb.2.2.2.2.2.2.2.2.2.2.2.2.1.1) (Y.bif (fun _=>Y.bind (y_stateRoot _ n2) fun _ _=>Y.mk trivial) (fun _=>Y.mk trivial))))
theorem nodup_len:∀(N:Nat) (xs:List Int),xs.Nodup→(∀x∈xs,0≤x∧x<(N:Int))→xs.length≤N
 |0,xs,_,h=>by
  cases xs with
  |nil=>exact Nat.le_refl _
  |cons x r=>have:=h x (List.mem_cons_self ..);omega
 |N+1,xs,hn,h=>by
  have ih:=nodup_len N (xs.erase (N:Int)) (hn.erase _) (fun x hx=>by
   have h1:=(List.Nodup.mem_erase_iff hn).1 hx
   have:=h x h1.2
   have:=h1.1
   omega)
  rw [List.length_erase] at ih
  split at ih<;>omega
structure DIn (d:List D3):Prop where
 nd:(d.map (fun x=>x.1)).Nodup
 rg:∀x∈d,0≤x.1∧x.1≤100000
theorem DIn.len {d:List D3} (h:DIn d):d.length≤100001:=by
 have:=nodup_len 100001 (d.map (fun x=>x.1)) h.nd (fun x hx=>by
  obtain ⟨y,hy,rfl⟩:=List.mem_map.1 hx
  have:=h.rg y hy
  omega)
 rwa [List.length_map] at this
theorem DIn.add {d:List D3} (h:DIn d) {id:Int} (h0:0≤id∧id≤100000):DIn (addD d id):=by
 unfold addD
 cases hc:hasD d id with
 |true=>exact h
 |false =>
  refine ⟨?_,fun x hx=>?_⟩
  ·show ((d++ [(id,())]).map (fun x=>x.1)).Nodup
   rw [List.map_append,List.nodup_append]
   refine ⟨h.nd,by simp,fun a ha b hb=>?_⟩
   obtain ⟨y,hy,rfl⟩:=List.mem_map.1 ha
   simp only [List.map_cons,List.map_nil,List.mem_singleton] at hb
   subst hb
   intro e
   unfold hasD at hc
   rw [List.any_eq_false] at hc
   exact hc y hy (by simp [iEq,e])
  ·rcases List.mem_append.1 hx with h1|h1
   ·exact h.rg x h1
   ·rw [List.mem_singleton.1 h1];exact h0
theorem DIn.adds:∀(ids d:List D3),DIn d→(∀x∈ids,0≤x.1∧x.1≤100000)→DIn (addDs d ids)
 | [],d,h,_=>h
 |x::r,d,h,h2=>DIn.adds r (addD d x.1) (h.add (h2 x (List.mem_cons_self ..))) (fun y hy=>h2 y (List.mem_cons_of_mem _ hy))
structure NV (E P:Nat) (n:DNd):Prop where
 h:NIn n
 led:ledgerB (nBase n)=true
 ep:n.2.1=n.2.2.1
 le:n.2.1≤(E:Int)
 vo:(nVotes n).length≤1000
 go:(nGones n).length≤1000
 dn:DIn (nDone n)
 pa:(nPast n).length≤P
theorem NV.up {E P E' P':Nat} {n:DNd} (h:NV E P n) (hE:E≤E') (hP:P≤P'):NV E' P' n:=⟨h.h,h.led,h.ep,by have:=h.le;omega,h.vo,h.go,h.dn,Nat.le_trans h.pa hP⟩
structure Adv (n m:DNd):Prop where
 nm:m.1=n.1
 ca:(m.2.1=n.2.1∧nVoted m=nVoted n∧nSet m=nSet n)∨n.2.1<m.2.1
theorem Adv.refl (n:DNd):Adv n n:=⟨rfl,.inl ⟨rfl,rfl,rfl⟩⟩
theorem commitR_nv (E P:Nat) (n:DNd) (q:DQc) (hV:NV E P n) (hq:QIn q) (hE:E<900) (hP:P<800000):NV (E+1) (P+1) (commitR n q)∧Adv n (commitR n q):=by
 have h:=hV.h
 have hL:=hV.led
 unfold commitR
 cases hid:iEq (commitId (nTree n) q) (-1) with
 |true=>exact ⟨hV.up (Nat.le_succ _) (Nat.le_succ _),Adv.refl n⟩
 |false =>
  show NV (E+1) (P+1) (commitN n (commitId (nTree n) q) q)∧Adv n (commitN n (commitId (nTree n) q) q)
  generalize commitId (nTree n) q=id
  have hT:=h.ok.tree
  have htx:∀b∈cutEnd (chain (nTree n) id),(Ty.sl e110).Ok (bTxs b):=fun b hb=>(show BOk b from Ok_mem hT.2 (chain_mem h.t id b (cutEnd_mem hb))).txs
  have hw:=foldR_ok (cutEnd (chain (nTree n) id)) (nBase n) h.ok.base h.acc htx
  have hled:=foldR_led (cutEnd (chain (nTree n) id)) (nBase n) h.ok.base h.acc htx hL
  have hge:=foldR_ep (cutEnd (chain (nTree n) id)) (nBase n) h.ok.base h.acc htx
  have hdn:(Ty.sl e3).Ok (nDone n):=h.ok.2.2.2.2.2.2.2.2.2.2.2.2.2.2.2.2.2.1
  have hids:∀x∈idsOf (cutEnd (chain (nTree n) id)),e3.Ok x:=fun x hx=>by
   obtain ⟨b,hb,rfl⟩:=List.mem_map.1 hx
   exact ⟨(show BOk b from Ok_mem hT.2 (chain_mem h.t id b (cutEnd_mem hb))).1,trivial⟩
  have hdi:DIn (addDs (nDone n) (idsOf (cutEnd (chain (nTree n) id)))):=DIn.adds _ _ hV.dn (fun x hx=>by
   obtain ⟨b,hb,rfl⟩:=List.mem_map.1 hx
   exact h.t.nn b (chain_mem h.t id b (cutEnd_mem hb)))
  have hdl:=hdi.len
  have hdo:(Ty.sl e3).Ok (addDs (nDone n) (idsOf (cutEnd (chain (nTree n) id)))):=Ok_of (Nat.le_trans hdl (by decide)) (addDs_ok _ _ (fun x hx=>Ok_mem hdn.2 hx) hids)
  have hps:(dropL (nPool n) (foldR (nBase n) (cutEnd (chain (nTree n) id)))).Sublist (nPool n):=List.filter_sublist
  have hpo:(Ty.sl e110).Ok (dropL (nPool n) (foldR (nBase n) (cutEnd (chain (nTree n) id)))):=Ok_of (Nat.le_trans hps.length_le h.ok.pool.1) (fun y hy=>Ok_mem h.ok.pool.2 (hps.subset hy))
  have l:=h.l
  unfold commitN
  rw [walk_eq]
  generalize hgg:foldR (nBase n) (cutEnd (chain (nTree n) id))=g at *
  generalize hdd:addDs (nDone n) (idsOf (cutEnd (chain (nTree n) id)))=d at *
  generalize hpp:dropL (nPool n) g=pl at *
  have hpl:pl.length≤(nPool n).length:=hps.length_le
  cases hf:(chain (nTree n) id).find? (fun b=>bEnd b) with
  |none =>
   show NV (E+1) (P+1) (setDP n d (dropL (nPool n) g))∧Adv n (setDP n d (dropL (nPool n) g))
   rw [hpp]
   refine ⟨⟨⟨⟨h.ok.1,h.ok.2.1,h.ok.2.2.1,h.ok.2.2.2.1,h.ok.2.2.2.2.1,h.ok.2.2.2.2.2.1,h.ok.2.2.2.2.2.2.1,h.ok.2.2.2.2.2.2.2.1,h.ok.2.2.2.2.2.2.2.2.1,h.ok.2.2.2.2.2.2.2.2.2.1,h.ok.2.2.2.2.2.2.2.2.2.2.1,h.ok.2.2.2.2.2.2.2.2.2.2.2.1,h.ok.2.2.2.2.2.2.2.2.2.2.2.2.1,h.ok.2.2.2.2.2.2.2.2.2.2.2.2.2.1,h.ok.2.2.2.2.2.2.2.2.2.2.2.2.2.2.1,h.ok.2.2.2.2.2.2.2.2.2.2.2.2.2.2.2.1,h.ok.2.2.2.2.2.2.2.2.2.2.2.2.2.2.2.2.1,hdo,hpo,h.ok.2.2.2.2.2.2.2.2.2.2.2.2.2.2.2.2.2.2.2⟩,?_,h.t,Nat.le_trans hdl (by decide),h.p⟩,hL,hV.ep,?_,hV.vo,hV.go,hdi,Nat.le_trans hV.pa (Nat.le_succ _)⟩,⟨rfl,.inl ⟨rfl,rfl,rfl⟩⟩⟩
   ·exact ⟨l.1,l.2.1,l.2.2.1,l.2.2.2.1,l.2.2.2.2.1,l.2.2.2.2.2.1,l.2.2.2.2.2.2.1,l.2.2.2.2.2.2.2.1,l.2.2.2.2.2.2.2.2.1,Nat.le_trans hdl (by decide),Nat.le_trans hpl l.2.2.2.2.2.2.2.2.2.2.1,l.2.2.2.2.2.2.2.2.2.2.2.1,l.2.2.2.2.2.2.2.2.2.2.2.2⟩
   ·have:=hV.le
    show n.2.1≤((E+1:Nat):Int)
    push_cast;omega
  |some b =>
   have hbm:b∈nTree n:=chain_mem h.t id b (List.mem_of_find?_eq_some hf)
   have hB:BOk b:=Ok_mem hT.2 hbm
   obtain ⟨_,n3,n4⟩:=nextS_eq g hw.1 hw.2
   have hle:=hV.le
   have hep:=hV.ep
   have hge:g.1=n.2.2.1:=hge
   obtain ⟨m1,hnl⟩:=next_moves g hw.1 hw.2 hled (by omega)
   have hwf:=led_wf hnl
   have hcq:=chain_subl h.t q.2.1
   have hcl:=hcq.length_le
   have htl:(nTree n).length≤400:=h.t.len
   have hpok:e59.Ok (proofN n q):=⟨h.ok.2.1,Ok_of (Nat.le_trans hcl hT.1) (fun y hy=>Ok_mem hT.2 (hcq.subset hy)),hq.i1,hq.i2,hq.ok,trivial⟩
   have hpast:=h.ok.2.2.2.2.2.2.2.2.2.2.2.2.2.2.2.2.2.2.2.1
   have hp:=hV.pa
   have hpl2:(nPast n++ [proofN n q]).length≤P+1:=by rw [List.length_append];show (nPast n).length+1≤_;omega
   have hpo2:(Ty.sl e59).Ok (nPast n++ [proofN n q]):=Ok_of (Nat.le_trans hpl2 (Nat.le_trans (show P+1≤800000 by omega) (by decide))) (fun y hy=>by
    rcases List.mem_append.1 hy with hy|hy
    ·exact Ok_mem hpast.2 hy
    ·rw [List.mem_singleton.1 hy];exact hpok)
   show NV (E+1) (P+1) (begN n (nextR g) (bNext b) d (dropL (nPool n) g) (nPast n++ [proofN n q]))∧Adv n (begN n (nextR g) (bNext b) d (dropL (nPool n) g) (nPast n++ [proofN n q]))
   rw [hpp]
   refine ⟨⟨⟨⟨h.ok.1,hwf,hwf,n3,hB.next,Ok_nil,rfl,rfl,rfl,rfl,Ok_nil,rfl,Ok_nil,Ok_nil,rfl,Ok_nil,Ok_nil,hdo,hpo,hpo2,trivial⟩,?_,treeF rfl,Nat.le_trans hdl (by decide),Nat.le_trans hpl2 (show P+1≤800000 by omega)⟩,hnl,rfl,?_,Nat.zero_le _,Nat.zero_le _,hdi,hpl2⟩,⟨rfl,.inr ?_⟩⟩
   ·refine ⟨n4,(h.bl b hbm).2.2.2.2,Nat.zero_le _,(fun x hx=>by cases hx),Nat.zero_le _,Nat.zero_le _,Nat.zero_le _,Nat.zero_le _,Nat.zero_le _,Nat.le_trans hdl (by decide),Nat.le_trans hpl l.2.2.2.2.2.2.2.2.2.2.1,Nat.le_trans hpl2 (Nat.le_trans (show P+1≤800000 by omega) (by decide)),fun p hp=>?_⟩
    rcases List.mem_append.1 hp with hp|hp
    ·exact l.2.2.2.2.2.2.2.2.2.2.2.2 p hp
    ·rw [List.mem_singleton.1 hp]
     exact ⟨Nat.le_trans hcl (Nat.le_trans htl (by decide)),fun y hy=>h.bl y (hcq.subset hy),hq.w⟩
   ·show (nextR g).1≤((E+1:Nat):Int)
    rw [m1];push_cast;omega
   ·show n.2.1<(nextR g).1
    rw [m1];omega
theorem Adv.trans {a b c:DNd} (h:Adv a b) (k:Adv b c):Adv a c:=by
 refine ⟨k.nm.trans h.nm,?_⟩
 rcases h.ca with ⟨h1,h2,h3⟩|h1
 ·rcases k.ca with ⟨k1,k2,k3⟩|k1
  ·exact .inl ⟨k1.trans h1,k2.trans h2,k3.trans h3⟩
  ·exact .inr (by omega)
 ·rcases k.ca with ⟨k1,_,_⟩|k1
  ·exact .inr (by omega)
  ·exact .inr (by omega)
theorem learnN_nv (E P:Nat) (n:DNd) (q:DQc) (hV:NV E P n) (hq:QIn q) (hE:E<900) (hP:P<800000):NV (E+1) (P+1) (learnN n q)∧Adv n (learnN n q):=by
 have h1:NV E P (setLn n q):=⟨setLn_in hV.h hq,hV.led,hV.ep,hV.le,hV.vo,hV.go,hV.dn,hV.pa⟩
 obtain ⟨h2,h3⟩:=commitR_nv E P (setLn n q) q h1 hq hE hP
 exact ⟨h2,Adv.trans (b:=setLn n q) ⟨rfl,.inl ⟨rfl,rfl,rfl⟩⟩ h3⟩
theorem tcN_nv (E P:Nat) (n:DNd) (t:DTc) (hV:NV E P n) (ht:TIn t):NV E P (tcN n t)∧Adv n (tcN n t):=by
 have h:=hV.h
 have l:=h.l
 have h2:=tcT_in (h.ok.tin h.l) ht
 refine ⟨⟨⟨setTR_ok h.ok (rnd_wf h.round) h2,?_,h.t,h.d,h.p⟩,hV.led,hV.ep,hV.le,hV.vo,hV.go,hV.dn,hV.pa⟩,⟨rfl,.inl ⟨rfl,rfl,rfl⟩⟩⟩
 exact ⟨l.1,l.2.1,l.2.2.1,l.2.2.2.1,l.2.2.2.2.1,h2.w,h2.wh,l.2.2.2.2.2.2.2.1,l.2.2.2.2.2.2.2.2.1,l.2.2.2.2.2.2.2.2.2.1,l.2.2.2.2.2.2.2.2.2.2.1,l.2.2.2.2.2.2.2.2.2.2.2.1,l.2.2.2.2.2.2.2.2.2.2.2.2⟩
theorem setTree_nv {E P:Nat} {n:DNd} (hV:NV E P n) {t:List DBk} (ht:TreeF t) (hOk:(Ty.sl e71).Ok t) (hL:∀c∈t,BlockL c):NV E P (setTree n t):=by
 have h:=hV.h
 have l:=h.l
 have hlen:=ht.len
 refine ⟨⟨setTree_ok h.ok hOk,?_,ht,h.d,h.p⟩,hV.led,hV.ep,hV.le,hV.vo,hV.go,hV.dn,hV.pa⟩
 exact ⟨l.1,l.2.1,Nat.le_trans hlen (by decide),hL,l.2.2.2.2.1,l.2.2.2.2.2.1,l.2.2.2.2.2.2.1,l.2.2.2.2.2.2.2.1,l.2.2.2.2.2.2.2.2.1,l.2.2.2.2.2.2.2.2.2.1,l.2.2.2.2.2.2.2.2.2.2.1,l.2.2.2.2.2.2.2.2.2.2.2.1,l.2.2.2.2.2.2.2.2.2.2.2.2⟩
theorem BOk.qin {b:DBk} (h:e71.Ok b) (l:BlockL b):QIn (bQc b):=⟨h.2.2.2.2.1,h.2.2.2.2.2.1,h.2.2.2.2.2.2.1,l.1⟩
theorem BOk.tin {b:DBk} (h:e71.Ok b) (l:BlockL b):TIn (bTc b):=⟨h.2.2.2.2.2.2.2.1,h.2.2.2.2.2.2.2.2.1,h.2.2.2.2.2.2.2.2.2.1,l.2.1,l.2.2.1⟩
theorem NV.low {E P E':Nat} {n:DNd} (h:NV E P n) (hE:n.2.1≤(E':Int)):NV E' P n:=⟨h.h,h.led,h.ep,hE,h.vo,h.go,h.dn,h.pa⟩
theorem setVt_nv {E P:Nat} {n:DNd} (hV:NV E P n) {vs:List D82} (hv:(Ty.sl e82).Ok vs) (hl:vs.length≤1000):NV E P (setVt n vs):=by
 have h:=hV.h
 have l:=h.l
 refine ⟨⟨setVt_ok h.ok hv,?_,h.t,h.d,h.p⟩,hV.led,hV.ep,hV.le,hl,hV.go,hV.dn,hV.pa⟩
 exact ⟨l.1,l.2.1,l.2.2.1,l.2.2.2.1,l.2.2.2.2.1,l.2.2.2.2.2.1,l.2.2.2.2.2.2.1,Nat.le_trans hl (by decide),l.2.2.2.2.2.2.2.2.1,l.2.2.2.2.2.2.2.2.2.1,l.2.2.2.2.2.2.2.2.2.2.1,l.2.2.2.2.2.2.2.2.2.2.2.1,l.2.2.2.2.2.2.2.2.2.2.2.2⟩
def leaderS (l:List D97) (r:Int):ByteArray:=bif iEq (l.length:Int) 0 then ⟨#[]⟩ else bif iLt r 0 then ⟨#[]⟩ else match l[(iRem r (l.length:Int)).toNat]? with
 |some v=>v.1
 |none=>⟨#[]⟩
theorem s_leader (l:List D97) (r:Int):F116 ((l,()),((r,()),()))=some ((leaderS l r,()),()):=by
 unfold F116 leaderS
 cases h0:iEq (l.length:Int) 0 with
 |true=>exact thenT rfl rfl
 |false =>
  refine no_then rfl ?_
  cases hr:iLt r 0 with
  |true=>exact thenT rfl rfl
  |false =>
   refine no_then rfl ?_
   have h0':(List.length l:Int)≠0:=iEq_no.1 h0
   have hr':0≤r:=iLt_no.1 hr
   have hq:=iRem_nn (x:=r) (n:=(List.length l:Int)) hr' (by omega)
   refine no_then rfl ?_
   obtain ⟨k,hk⟩:=Int.eq_ofNat_of_zero_le hq.1
   have hkl:k<l.length:=by have:=hq.2;omega
   dsimp only
   rw [hk]
   refine bind_eq (getI_lt hkl) ?_
   simp only [cond_false,Int.ofNat_eq_natCast,Int.toNat_natCast]
   rw [List.getElem?_eq_getElem hkl]
def highT (t:DTc):Int:=List.foldl (fun (n:Int) (x:D3)=>bif iLt n x.1 then x.1 else n) 0 t.2.2.1
theorem s_highOf (t:DTc) (ht:L63 (List.length t.2.2.1)):F239 (t,())=some (I1 (highT t)):=by
 have lp:=loopFold0 (S:=Int×(Int×Unit)) t.2.2.1 (fun (n:Int) (x:D3)=>bif iLt n x.1 then x.1 else n) (f:=F239.b0 (t,())) (fun s k=>(s,(k,()))) (fun s=>Sum.inl (s,((List.length t.2.2.1:Int),()))) 0 (fun k hk s=>by
  unfold F239.b0
  refine lt_then (Int.ofNat_lt.2 hk) (bind_eq (getI_lt hk) ?_)
  rw [←nxt hk ht]
  cases h:iLt s (t.2.2.1)[k].1 with
  |true=>exact thenT rfl (bind_eq (getI_lt hk) rfl)
  |false=>exact no_then rfl rfl) (fun s=>by
  unfold F239.b0
  exact lt_else (Int.le_refl _) rfl)
 unfold F239
 exact bind_eq lp rfl
def followsB (b:DBk):Bool:=(iEq (bQc b).1 (iSub .i64 b.2.2.1 1)&&noneB (bTc b))||(iEq (bTc b).1 (iSub .i64 b.2.2.1 1)&&(iLt 0 (bTc b).1&&iLe (highT (bTc b)) (bQc b).1))
theorem s_followsB (b:DBk) (hb:BlockL b):F207 (b,())=some (B1 (followsB b)):=by
 have hh:L63 (List.length (bTc b).2.2.1):=hb.2.2.1.l
 have hrest:(bif iEq (bTc b).1 (iSub .i64 b.2.2.1 1) then bif iLt 0 (bTc b).1 then (F239 (bTc b,())).bind (fun y=>some (B1 (iLe y.1.1 (bQc b).1))) else some (B1 false) else some (B1 false))=some (B1 (iEq (bTc b).1 (iSub .i64 b.2.2.1 1)&&(iLt 0 (bTc b).1&&iLe (highT (bTc b)) (bQc b).1))):=andY (andY (bind_eq (s_highOf _ hh) rfl))
 unfold F207 followsB
 cases h1:iEq (bQc b).1 (iSub .i64 b.2.2.1 1) with
 |false=>exact Eq.trans (bind_eq (no_then h1 rfl) hrest) rfl
 |true =>
  cases h2:noneB (bTc b) with
  |false=>exact Eq.trans (bind_eq (thenT h1 (bind_eq (s_none (bTc b)) (no_then h2 rfl))) hrest) rfl
  |true=>exact bind_eq (thenT h1 (bind_eq (s_none (bTc b)) (thenT h2 rfl))) rfl
noncomputable def bodyD (L:DLe) (l:List DBk) (b:DBk):Bool:=((F253 (L,((l,()),(b,())))).map (fun y=>y.1.1)).getD false
theorem s_bodyD (L:DLe) (l:List DBk) (b:DBk) (hL:(Ty.sl e120).Ok L.2.1) (hA:AcctL L.2.1) (hOk:(Ty.sl e71).Ok l) (h:TreeF l) (hb:e71.Ok b):F253 (L,((l,()),(b,())))=some (B1 (bodyD L l b)):=by
 obtain ⟨y,e,_⟩:=y_body L l b hL hA hOk h hb
 unfold bodyD
 rw [e]
 rfl
def insB (l:List DBk) (b:DBk):List DBk:=l.filter (fun c=>iLt c.1 b.1)++b::l.filter (fun c=> !iLt c.1 b.1)
def addOk (l:List DBk) (b:DBk):Bool:=iLt (blkAt l b.1) 0&&treeB (insB l b)
theorem insB_mem {l:List DBk} {b c:DBk}:c∈insB l b↔c∈l∨c=b:=by
 unfold insB
 simp only [List.mem_append,List.mem_cons,List.mem_filter]
 constructor
 ·rintro (⟨h,_⟩|h|⟨h,_⟩)
  ·exact .inl h
  ·exact .inr h
  ·exact .inl h
 ·rintro (h|h)
  ·cases hc:iLt c.1 b.1 with
   |true=>exact .inl ⟨h,rfl⟩
   |false=>exact .inr (.inr ⟨h,rfl⟩)
  ·exact .inr (.inl h)
theorem insB_len (l:List DBk) (b:DBk):(insB l b).length=l.length+1:=by
 unfold insB
 have:∀l:List DBk,(l.filter (fun c=>iLt c.1 b.1)).length+(l.filter (fun c=> !iLt c.1 b.1)).length=l.length:=by
  intro l
  induction l with
  |nil=>rfl
  |cons c r ih =>
   simp only [List.filter_cons,List.length_cons]
   cases iLt c.1 b.1<;>simp<;>omega
 rw [List.length_append,List.length_cons]
 have:=this l
 omega
theorem insB_split {p s:List DBk} {b:DBk} (hp:∀c∈p,c.1<b.1) (hs:∀c∈s,b.1<c.1):insB (p++s) b=p++b::s:=by
 unfold insB
 have e1:(p++s).filter (fun c=>iLt c.1 b.1)=p:=by
  rw [List.filter_append,List.filter_eq_self.2 (fun c hc=>iLt_iff.2 (hp c hc)),List.filter_eq_nil_iff.2 (fun c hc=>by rw [iLt_no.2 (Int.le_of_lt (hs c hc))];simp),List.append_nil]
 have e2:(p++s).filter (fun c=> !iLt c.1 b.1)=s:=by
  rw [List.filter_append,List.filter_eq_nil_iff.2 (fun c hc=>by rw [iLt_iff.2 (hp c hc)];simp),List.nil_append,List.filter_eq_self.2 (fun c hc=>by rw [iLt_no.2 (Int.le_of_lt (hs c hc))];rfl)]
 rw [e1,e2]
theorem s_addTo (l:List DBk) (b:DBk) (hOk:(Ty.sl e71).Ok l) (h:TreeF l) (hL:∀c∈l,BlockL c) (hb:e71.Ok b) (hbL:BlockL b) :
  F254 ((l,()),(b,()))=some ((bif addOk l b then insB l b else l,()),((addOk l b,()),())):=by
 have hlen:=h.len
 have hl1:W1 l.length:=by unfold W1;omega
 have hcp:=s_cblks l hl1 hL
 unfold F254 addOk
 refine bind_eq (s_blkAt l b.1 hOk.1) ?_
 rcases blkAt_cases h b.1 with ⟨_,h3,hno⟩|⟨c,hc,he,_,h2,_⟩
 ·have hneg:iLt (blkAt l b.1) 0=true:=by rw [h3];rfl
  refine no_then (by show iLe 0 (blkAt l b.1)=false;rw [h3];rfl) (bind_eq hcp (bind_eq (s_cblk b hbL) (room_is (by show l.length+1≤1048577;omega) (by decide) (by decide) ?_)))
  have key:∀(p s:List DBk),l=p++s→(∀c∈s,b.1<c.1)→∃k,loopF (F254.b0 ((l,()),(b,()))) ((p.length:Int),(p++b::s,()))=some (Sum.inl (k,(insB l b,()))):=by
   intro p
   induction hn:p.length generalizing p with
   |zero =>
    intro s e hs
    have:p= []:=List.length_eq_zero_iff.1 hn
    subst this
    refine ⟨0,loopF_end ?_⟩
    unfold F254.b0
    refine no_then rfl ?_
    rw [e,insB_split (p:= []) (fun c hc=>by cases hc) hs]
    rfl
   |succ n ih =>
    intro s e hs
    rcases List.eq_nil_or_concat p with rfl|⟨p',z,rfl⟩
    ·simp at hn
    ·have hpn:p'.length=n:=by simpa using hn
     have hz:z∈l:=by rw [e];simp
     have hzb:z.1≠b.1:=hno z hz
     have e1:iSub .i64 ((n+1:Nat):Int) 1=(n:Int):=by
      have:n+1≤l.length:=by rw [e];simp;omega
      rw [iSub_small (by omega) (by omega)];omega
     have hidx:∀(x:DBk) (r:List DBk),getI (p'++x::r) (n:Int)=some x∧getN (p'++x::r) (Int.toNat (n:Int))=some x:=fun x r=>by
      have:(p'++x::r)[n]?=some x:=by rw [←hpn];simp
      exact ⟨getI_of this,getN_of (by simpa using this)⟩
     have hidx1:∀(x y:DBk) (r:List DBk),getI (p'++x::y::r) ((n+1:Nat):Int)=some y∧getN (p'++x::y::r) (Int.toNat ((n+1:Nat):Int))=some y:=fun x y r=>by
      have:(p'++x::y::r)[n+1]?=some y:=by rw [←hpn];simp
      exact ⟨getI_of this,getN_of (by simpa using this)⟩
     have e0:p'++ [z]++b::s=p'++z::b::s:=by simp
     have e0':p'.concat z++b::s=p'++z::b::s:=by simp
     rw [e0']
     by_cases hlt:b.1<z.1
     ·have hst:F254.b0 ((l,()),(b,())) (((n+1:Nat):Int),(p'++z::b::s,()))=some (.inl ((n:Int),(p'++b::z::s,()))):=by
       unfold F254.b0
       refine thenT (show iLt 0 ((n+1:Nat):Int)=true from iLt_iff.2 (by omega)) ?_
       dsimp only
       rw [e1]
       refine bind_eq (hidx z _).1 (bind_eq (hidx z _).2 (thenT (show iLt b.1 z.1=true from iLt_iff.2 hlt) ?_))
       refine bind_eq (hidx z _).1 (bind_eq (hidx z _).2 (bind_eq (hidx1 z b _).1 (bind_eq (hidx1 z b _).2 (bind_eq (hidx z _).1 (bind_eq (hidx z _).2 (bind_eq rfl ?_))))))
       have s1:List.set (p'++z::b::s) (Int.toNat (n:Int)) b=p'++b::b::s:=by
        rw [Int.toNat_natCast,←hpn];simp
       rw [s1]
       refine bind_eq (hidx1 b b _).1 (bind_eq (hidx1 b b _).2 (bind_eq rfl ?_))
       have s2:List.set (p'++b::b::s) (Int.toNat ((n+1:Nat):Int)) z=p'++b::z::s:=by
        rw [Int.toNat_natCast,←hpn];simp
       rw [s2]
      rw [loopF_step hst]
      obtain ⟨k,hk⟩:=ih p' hpn (z::s) (by rw [e];simp) (fun c hc=>by
       rcases List.mem_cons.1 hc with rfl|hc
       ·exact hlt
       ·exact hs c hc)
      exact ⟨k,hk⟩
     ·refine ⟨((n+1:Nat):Int),loopF_end ?_⟩
      unfold F254.b0
      refine thenT (show iLt 0 ((n+1:Nat):Int)=true from iLt_iff.2 (by omega)) ?_
      dsimp only
      rw [e1]
      refine bind_eq (hidx z _).1 (bind_eq (hidx z _).2 (no_then (show iLt b.1 z.1=false from iLt_no.2 (by omega)) ?_))
      have hins:insB l b=p'++z::b::s:=by
       rw [e,show p'.concat z++s=(p'++ [z])++s by simp,insB_split (fun c hc=>?_) hs]
       ·simp
       ·have hcl:c∈p'.concat z:=by simpa using hc
        obtain ⟨i,hi,rfl⟩:=List.getElem_of_mem hc
        have hi':i<n+1:=by simpa [hpn] using hi
        have ll:l=(p'++ [z])++s:=by rw [e];simp
        have hlen2:(p'++ [z]).length=n+1:=by simp [hpn]
        have hin:i<l.length:=by rw [ll,List.length_append];omega
        have hnn:n<l.length:=by rw [ll,List.length_append];omega
        have gi:l[i]=(p'++ [z])[i]:=by simp only [ll];exact List.getElem_append_left (by omega)
        have gn:l[n]=z:=by
         have:l[n]?=some z:=by rw [ll,←hpn];simp
         rw [List.getElem?_eq_getElem hnn] at this
         exact Option.some.inj this
        rcases Nat.lt_or_ge i n with h4|h4
        ·have:=h.asc i n hin hnn h4
         rw [gi,gn] at this
         omega
        ·have:i=n:=by omega
         subst this
         rw [←gi,gn]
         omega
      rw [hins]
  obtain ⟨k,hk⟩:=key l [] (by simp) (fun c hc=>by cases hc)
  have e2:iSub .i64 ((List.length (lapp l [b]):Nat):Int) 1=(l.length:Int):=by
   show iSub .i64 ((List.length (l++ [b]):Nat):Int) 1=_
   rw [List.length_append,iSub_small]<;>simp<;>omega
  refine bind_eq (y:= .inl (k,(insB l b,()))) ?_ ?_
  ·show loopF (F254.b0 ((l,()),(b,()))) (iSub .i64 ((List.length (lapp l [b]):Nat):Int) 1,(lapp l [b],()))=_
   rw [e2]
   exact hk
  ·have ho:(Ty.sl e71).Ok (insB l b):=Ok_of (Nat.le_trans (Nat.le_of_eq (insB_len l b)) (Nat.le_trans (Nat.succ_le_succ hlen) (by decide))) (fun c hc=>by
    rcases insB_mem.1 hc with h|h
    ·exact Ok_mem hOk.2 h
    ·rw [h];exact hb)
   refine bind_eq (s_tree _ ho) ?_
   rw [hneg]
   cases ht:treeB (insB l b) with
   |false=>exact thenT rfl (bind_eq hcp rfl)
   |true=>exact no_then rfl rfl
 ·have hpos:iLe 0 (blkAt l b.1)=true:=iLe_nn h2
  have hneg:iLt (blkAt l b.1) 0=false:=iLt_false h2
  rw [hneg]
  exact thenT hpos (bind_eq hcp rfl)
theorem commitId_some {l:List DBk} {q:DQc} (h:commitId l q≠ -1):∃b∈l,b.1=q.2.1∧b.2.2.1=q.1∧∃p∈l,p.1=(bQc b).2.1∧p.2.2.1=iSub .i64 q.1 1∧p.1=commitId l q:=by
 unfold commitId at h ⊢
 cases h1:l.find? (fun b=>iEq b.1 q.2.1) with
 |none=>rw [h1] at h;exact absurd rfl h
 |some b =>
  rw [h1] at h
  have m1:=List.mem_of_find?_eq_some h1
  have p1:=List.find?_some h1
  simp only [iEq,decide_eq_true_eq] at p1
  dsimp only at h ⊢
  cases h2:iEq b.2.2.1 q.1 with
  |false=>rw [h2] at h;exact absurd rfl h
  |true =>
   rw [h2] at h
   have p2:=iEq_iff.1 h2
   cases h3:l.find? (fun z=>iEq z.1 (bQc b).2.1) with
   |none=>rw [h3] at h;exact absurd rfl h
   |some p =>
    rw [h3] at h
    have m3:=List.mem_of_find?_eq_some h3
    have p3:=List.find?_some h3
    simp only [iEq,decide_eq_true_eq] at p3
    dsimp only at h ⊢
    cases h4:iEq p.2.2.1 (iSub .i64 q.1 1) with
    |false=>rw [h4] at h;exact absurd rfl h
    |true=>exact ⟨b,m1,p1,p2,p,m3,p3,iEq_iff.1 h4,rfl⟩
theorem cutEnd_form:∀ch:List DBk,((∀b∈ch,bEnd b=false)∧cutEnd ch=ch∧ch.find? (fun b=>bEnd b)=none)∨∃p b r,ch=p++b::r∧bEnd b=true∧(∀c∈p,bEnd c=false)∧cutEnd ch=p++ [b]∧ch.find? (fun b=>bEnd b)=some b
 | []=> .inl ⟨fun b hb=>(by cases hb),rfl,rfl⟩
 |b::r=>by
  cases h:bEnd b with
  |true=>exact .inr ⟨[],b,r,rfl,h,fun c hc=>(by cases hc),(by unfold cutEnd;rw [h];rfl),(by rw [List.find?_cons_of_pos h])⟩
  |false =>
   have hf:(b::r).find? (fun b=>bEnd b)=r.find? (fun b=>bEnd b):=List.find?_cons_of_neg (by simp [h])
   have hc:cutEnd (b::r)=b::cutEnd r:=by rw [cutEnd,h];rfl
   rcases cutEnd_form r with ⟨h1,h2,h3⟩|⟨p,c,s,h1,h2,h3,h4,h5⟩
   ·refine .inl ⟨fun x hx=>?_,by rw [hc,h2],by rw [hf,h3]⟩
    rcases List.mem_cons.1 hx with rfl|hx
    ·exact h
    ·exact h1 x hx
   ·refine .inr ⟨b::p,c,s,by rw [h1];rfl,h2,fun x hx=>?_,by rw [hc,h4];rfl,by rw [hf,h5]⟩
    rcases List.mem_cons.1 hx with rfl|hx
    ·exact h
    ·exact h3 x hx
theorem commit_cases (E P:Nat) (n:DNd) (q:DQc) (hV:NV E P n) (hE:E<900) :
  (commitId (nTree n) q= -1∧commitR n q=n)∨(commitId (nTree n) q≠ -1 ∧
   (((∀b∈chain (nTree n) (commitId (nTree n) q),bEnd b=false)∧commitR n q=setDP n (addDs (nDone n) (idsOf (chain (nTree n) (commitId (nTree n) q)))) (dropL (nPool n) (foldR (nBase n) (chain (nTree n) (commitId (nTree n) q)))))
   ∨∃p b r,chain (nTree n) (commitId (nTree n) q)=p++b::r∧bEnd b=true∧(∀c∈p,bEnd c=false)∧b∈nTree n∧commitR n q=endN n q (foldR (nBase n) (p++ [b])) (addDs (nDone n) (idsOf (p++ [b]))) b∧(nextR (foldR (nBase n) (p++ [b]))).1=n.2.1+1)):=by
 have h:=hV.h
 cases hid:iEq (commitId (nTree n) q) (-1) with
 |true=>exact .inl ⟨iEq_iff.1 hid,by unfold commitR;rw [hid];rfl⟩
 |false =>
  refine .inr ⟨iEq_no.1 hid,?_⟩
  have e:commitR n q=commitN n (commitId (nTree n) q) q:=by unfold commitR;rw [hid];rfl
  rw [e]
  generalize commitId (nTree n) q=id
  have hT:=h.ok.tree
  unfold commitN
  rw [walk_eq]
  rcases cutEnd_form (chain (nTree n) id) with ⟨h1,h2,h3⟩|⟨p,b,r,h1,h2,h3,h4,h5⟩
  ·refine .inl ⟨h1,?_⟩
   rw [h3,h2]
  ·refine .inr ⟨p,b,r,h1,h2,h3,chain_mem h.t id b (by rw [h1];simp),by rw [h5,h4],?_⟩
   have htx:∀c∈p++ [b],(Ty.sl e110).Ok (bTxs c):=fun c hc=>(show BOk c from Ok_mem hT.2 (chain_mem h.t id c (cutEnd_mem (by rw [h4];exact hc)))).txs
   have hw:=foldR_ok (p++ [b]) (nBase n) h.ok.base h.acc htx
   have hled:=foldR_led (p++ [b]) (nBase n) h.ok.base h.acc htx hV.led
   have hge:=foldR_ep (p++ [b]) (nBase n) h.ok.base h.acc htx
   have hle:=hV.le
   have hep:=hV.ep
   have hge:(foldR (nBase n) (p++ [b])).1=n.2.2.1:=hge
   have:=(next_moves _ hw.1 hw.2 hled (by omega)).1
   rw [this,hge,hep]
end Go.Proofs.YthjkikiepdnimaaGreat
-- no more blanks than needed
