/- Plain laws, part 1: what the program's functions and the reference's compute, told as plain words. Conditions: none. -/
import Derived.Test.YtmjkakjeiopieaaGreatSaH
import Derived.Test.YtmjkakjeiopieaaGreatTm4
namespace Go.Proofs.YtmjkakjeiopieaaGreat
open Go Go.Tm
set_option linter.unusedVariables false
set_option maxRecDepth 100000
theorem s_in (n lo hi:Int):F26 ((n,()),((lo,()),((hi,()),())))=some (B1 (inR n lo hi)):=inR_ite
theorem i_in (n lo hi:Int):F36 ((n,()),((lo,()),((hi,()),())))=some (B1 (inR n lo hi)):=inR_ite
def letter (b:UInt8):Bool:=inR (UInt8.toNat b:Int) 97 122||inR (UInt8.toNat b:Int) 48 57
def nameB (s:ByteArray):Bool:=s.data.toList.all letter&&inR (s.size:Int) 1 8
theorem sz_list (s:ByteArray):s.size=s.data.toList.length:=rfl
theorem s_name (s:ByteArray) (hs:L63 s.size):F150 ((s,()),())=some (B1 (nameB s)):=by
 have lp:=loopAllP (S:=Int×Unit) s.data.toList letter (f:=F150.b0 ((s,()),())) (fun k=>(k,())) (Sum.inl ((s.data.toList.length:Int),())) (Sum.inr (B1 false)) (fun i hi=>?_) ?_
 ·unfold F150 nameB
  refine bind_eq lp ?_
  cases s.data.toList.all letter
  ·rfl
  ·exact (congrArg (fun o=>Option.bind o _) (s_in _ _ _)).trans rfl
 ·unfold F150.b0 letter
  refine lt_then (Int.ofNat_lt.2 hi) (bind_eq (getI_lt hi) (bind_eq (s_in _ _ _) ?_))
  rw [←nxt hi hs,wrap_byte]
  cases inR (UInt8.toNat s.data.toList[i]:Int) 97 122
  ·refine bind_eq (getI_lt hi) (bind_eq (s_in _ _ _) ?_)
   rw [wrap_byte]
   cases inR (UInt8.toNat s.data.toList[i]:Int) 48 57<;>rfl
  ·rfl
 ·unfold F150.b0
  exact lt_else (Int.le_refl _) rfl
theorem i_name (s:ByteArray) (hs:L63 s.size):F163 ((s,()),())=some (B1 (nameB s)):=by
 have lp:=loopAllP (S:=Int×Unit) s.data.toList letter (f:=F163.b0 ((s,()),())) (fun k=>(k,())) (Sum.inl ((s.data.toList.length:Int),())) (Sum.inr (B1 false)) (fun i hi=>?_) ?_
 ·unfold F163 nameB
  refine bind_eq lp ?_
  cases s.data.toList.all letter
  ·rfl
  ·exact (congrArg (fun o=>Option.bind o _) (i_in _ _ _)).trans rfl
 ·unfold F163.b0 letter inR
  refine lt_then (Int.ofNat_lt.2 hi) (bind_eq (getI_lt hi) ?_)
  rw [←nxt hi hs]
  simp only [getI_lt hi,Option.bind_some]
  cases iLe (97:Int) (UInt8.toNat s.data.toList[i]:Int)<;>cases iLe (UInt8.toNat s.data.toList[i]:Int) (122:Int)<;>cases iLe (48:Int) (UInt8.toNat s.data.toList[i]:Int)<;>cases iLe (UInt8.toNat s.data.toList[i]:Int) (57:Int)<;>rfl
 ·unfold F163.b0
  exact lt_else (Int.le_refl _) rfl
def namP (xs:List D9) (i:Nat) (y:D9):Bool:=nameB y.1&&behind (fun z y=>sLt z.1 y.1) xs i y
def namesB (xs:List D9):Bool:=allI (namP xs) 0 xs&&iLe (xs.length:Int) 20
theorem s_names (xs:List D9) (hx:(Ty.sl e9).Ok xs):F90 ((xs,()),())=some (B1 (namesB xs)):=by
 have hl:L63 xs.length:=hx.1
 have lp:=loopAll (S:=Int×Unit) xs (namP xs) (f:=F90.b0 ((xs,()),())) (fun k=>(k,())) (Sum.inl ((xs.length:Int),())) (Sum.inr (B1 false)) (fun i hi=>?_) ?_
 ·unfold F90 namesB
  refine bind_eq lp ?_
  cases allI (namP xs) 0 xs<;>rfl
 ·unfold F90.b0 namP
  refine lt_then (Int.ofNat_lt.2 hi) (bind_eq (getI_lt hi) (bind_eq (s_name _ (Ok_mem hx.2 (List.getElem_mem hi)).1) (goN ?_)))
  rw [←nxt hi hl]
  exact asc_step hi hl (fun z=>bind_eq (getI_lt hi) goE)
 ·unfold F90.b0
  exact lt_else (Int.le_refl _) rfl
theorem i_names (xs:List D9) (hx:(Ty.sl e9).Ok xs):F99 ((xs,()),())=some (B1 (namesB xs)):=by
 have hl:L63 xs.length:=hx.1
 have lp:=loopAll (S:=Int×Unit) xs (namP xs) (f:=F99.b0 ((xs,()),())) (fun k=>(k,())) (Sum.inl ((xs.length:Int),())) (Sum.inr (B1 false)) (fun i hi=>?_) ?_
 ·unfold F99 namesB
  refine bind_eq lp ?_
  cases allI (namP xs) 0 xs<;>rfl
 ·unfold F99.b0 namP
  refine lt_then (Int.ofNat_lt.2 hi) (bind_eq (getI_lt hi) (bind_eq (i_name _ (Ok_mem hx.2 (List.getElem_mem hi)).1) (goN ?_)))
  rw [←nxt hi hl]
  exact asc_step hi hl (fun z=>ite_tri)
 ·unfold F99.b0
  exact lt_else (Int.le_refl _) rfl
def valP (xs:List D209) (i:Nat) (y:D209):Bool:=nameB y.1&&(inR y.2.1 1 1000000&&behind (fun z y=>sLt z.1 y.1) xs i y)
def setB (xs:List D209):Bool:=allI (valP xs) 0 xs&&inR (xs.length:Int) 1 12
theorem s_set (xs:List D209) (hx:(Ty.sl e209).Ok xs):F153 ((xs,()),())=some (B1 (setB xs)):=by
 have hl:L63 xs.length:=hx.1
 have lp:=loopAll (S:=Int×Unit) xs (valP xs) (f:=F153.b0 ((xs,()),())) (fun k=>(k,())) (Sum.inl ((xs.length:Int),())) (Sum.inr (B1 false)) (fun i hi=>?_) ?_
 ·unfold F153 setB
  refine bind_eq lp ?_
  cases allI (valP xs) 0 xs
  ·rfl
  ·exact (congrArg (fun o=>Option.bind o _) (s_in _ _ _)).trans rfl
 ·unfold F153.b0 valP
  refine lt_then (Int.ofNat_lt.2 hi) (bind_eq (getI_lt hi) (bind_eq (s_name _ (Ok_mem hx.2 (List.getElem_mem hi)).1) (goN (bind_eq (getI_lt hi) (bind_eq (s_in _ _ _) (goN ?_))))))
  rw [←nxt hi hl]
  exact asc_step hi hl (fun z=>bind_eq (getI_lt hi) goE)
 ·unfold F153.b0
  exact lt_else (Int.le_refl _) rfl
theorem i_set (xs:List D209) (hx:(Ty.sl e209).Ok xs):F167 ((xs,()),())=some (B1 (setB xs)):=by
 have hl:L63 xs.length:=hx.1
 have lp:=loopAll (S:=Int×Unit) xs (valP xs) (f:=F167.b0 ((xs,()),())) (fun k=>(k,())) (Sum.inl ((xs.length:Int),())) (Sum.inr (B1 false)) (fun i hi=>?_) ?_
 ·unfold F167 setB
  refine bind_eq lp ?_
  cases allI (valP xs) 0 xs
  ·rfl
  ·exact (congrArg (fun o=>Option.bind o _) (i_in _ _ _)).trans rfl
 ·unfold F167.b0 valP
  refine lt_then (Int.ofNat_lt.2 hi) (bind_eq (getI_lt hi) (bind_eq (i_name _ (Ok_mem hx.2 (List.getElem_mem hi)).1) (goN (bind_eq (i_in _ _ _) (goN ?_)))))
  rw [←nxt hi hl]
  exact asc_step hi hl (fun z=>ite_tri)
 ·unfold F167.b0
  exact lt_else (Int.le_refl _) rfl
def inB (l:List D209) (s:ByteArray):Bool:=l.any (fun v=>sEq v.1 s)
def hasB (l:List D9) (s:ByteArray):Bool:=l.any (fun v=>sEq v.1 s)
theorem s_isin (l:List D209) (s:ByteArray) (hl:L63 l.length):F243 ((l,()),((s,()),()))=some (B1 (inB l s)):=by
 have lp:=loopHas (S:=Int×Unit) l (fun v=>sEq v.1 s) (f:=F243.b0 ((l,()),((s,()),()))) (fun k=>(k,())) (Sum.inl ((l.length:Int),())) (Sum.inr (B1 true)) (fun i hi=>?_) ?_
 ·unfold F243 inB
  refine bind_eq lp ?_
  cases l.any (fun v=>sEq v.1 s)<;>rfl
 ·unfold F243.b0
  refine lt_then (Int.ofNat_lt.2 hi) (bind_eq (getI_lt hi) ?_)
  rw [←nxt hi hl]
 ·unfold F243.b0
  exact lt_else (Int.le_refl _) rfl
theorem s_has (l:List D9) (s:ByteArray) (hl:L63 l.length):F161 ((l,()),((s,()),()))=some (B1 (hasB l s)):=by
 have lp:=loopHas (S:=Int×Unit) l (fun v=>sEq v.1 s) (f:=F161.b0 ((l,()),((s,()),()))) (fun k=>(k,())) (Sum.inl ((l.length:Int),())) (Sum.inr (B1 true)) (fun i hi=>?_) ?_
 ·unfold F161 hasB
  refine bind_eq lp ?_
  cases l.any (fun v=>sEq v.1 s)<;>rfl
 ·unfold F161.b0
  refine lt_then (Int.ofNat_lt.2 hi) (bind_eq (getI_lt hi) ?_)
  rw [←nxt hi hl]
 ·unfold F161.b0
  exact lt_else (Int.le_refl _) rfl
theorem idxFunc_val (l:List D209) (g:D209→Option (Bool×Unit)) (p:D209→Bool) (hg:∀x,g x=some (p x,())) (hl:L63 l.length):F255 ((l,()),((g,()),()))=some (I1 (idxOf l p)):=by
 have lp:=loopIdx (S:=Int×Unit) l p (f:=F255.b0 ((l,()),((g,()),()))) (fun k=>(k,())) (Sum.inl ((l.length:Int),())) (fun i=>Sum.inr (I1 i)) (fun i hi=>?_) ?_
 ·unfold F255
  refine bind_eq lp ?_
  rcases idxOf_cases l p with ⟨h1,_,h3⟩|⟨j,hj,_,_,h1,_,h3⟩<;>rw [h1,h3]<;>rfl
 ·unfold F255.b0
  refine lt_then (Int.ofNat_lt.2 hi) (bind_eq (getI_lt hi) (bind_eq (hg _) ?_))
  rw [←nxt hi hl]
 ·unfold F255.b0
  exact lt_else (Int.le_refl _) rfl
theorem i_isin (l:List D209) (s:ByteArray) (hl:L63 l.length):F235 ((l,()),((s,()),()))=some (B1 (inB l s)):=by
 unfold F235 F249
 refine bind_eq (bind_eq (idxFunc_val l _ (fun v=>sEq v.1 s) (fun x=>rfl) hl) rfl) ?_
 rw [idxOf_any];rfl
theorem i_idxS (l:List D9) (s:ByteArray) (hl:L63 l.length):F172 ((l,()),((s,()),()))=some (I1 (idxOf l (fun v=>sEq s v.1))):=by
 have lp:=loopIdx (S:=Int×Unit) l (fun v=>sEq s v.1) (f:=F172.b0 ((l,()),((s,()),()))) (fun k=>(k,())) (Sum.inl ((l.length:Int),())) (fun i=>Sum.inr (I1 i)) (fun i hi=>?_) ?_
 ·unfold F172
  refine bind_eq lp ?_
  rcases idxOf_cases l (fun v=>sEq s v.1) with ⟨h1,_,h3⟩|⟨j,hj,_,_,h1,_,h3⟩<;>rw [h1,h3]<;>rfl
 ·unfold F172.b0
  refine lt_then (Int.ofNat_lt.2 hi) (bind_eq (getI_lt hi) ?_)
  rw [←nxt hi hl]
 ·unfold F172.b0
  exact lt_else (Int.le_refl _) rfl
theorem i_has (l:List D9) (s:ByteArray) (hl:L63 l.length):F102 ((l,()),((s,()),()))=some (B1 (hasB l s)):=by
 unfold F102 hasB
 refine bind_eq (i_idxS l s hl) ?_
 rw [idxOf_any]
 simp only [sEq_comm]
def allInB (l:List D209) (names:List D9):Bool:=names.all (fun n=>inB l n.1)
theorem s_all (l:List D209) (names:List D9) (hl:L63 l.length) (hn:(Ty.sl e9).Ok names):F230 ((l,()),((names,()),()))=some (B1 (allInB l names&&namesB names)):=by
 have lp:=loopAllP (S:=Int×Unit) names (fun n=>inB l n.1) (f:=F230.b0 ((l,()),((names,()),()))) (fun k=>(k,())) (Sum.inl ((names.length:Int),())) (Sum.inr (B1 false)) (fun i hi=>?_) ?_
 ·unfold F230 allInB
  refine bind_eq lp ?_
  cases names.all (fun n=>inB l n.1)
  ·rfl
  ·exact (congrArg (fun o=>Option.bind o _) (s_names _ hn)).trans rfl
 ·unfold F230.b0
  refine lt_then (Int.ofNat_lt.2 hi) (bind_eq (getI_lt hi) (bind_eq (s_isin _ _ hl) ?_))
  rw [←nxt hi hn.1]
  exact goE
 ·unfold F230.b0
  exact lt_else (Int.le_refl _) rfl
theorem i_all (l:List D209) (names:List D9) (hl:L63 l.length) (hn:L63 names.length):F216 ((l,()),((names,()),()))=some (B1 (allInB l names)):=by
 have lp:=loopAllP (S:=Int×Unit) names (fun n=>inB l n.1) (f:=F216.b0 ((l,()),((names,()),()))) (fun k=>(k,())) (Sum.inl ((names.length:Int),())) (Sum.inr (B1 false)) (fun i hi=>?_) ?_
 ·unfold F216 allInB
  refine bind_eq lp ?_
  cases names.all (fun n=>inB l n.1)<;>rfl
 ·unfold F216.b0
  refine lt_then (Int.ofNat_lt.2 hi) (bind_eq (getI_lt hi) (bind_eq (i_isin _ _ hl) ?_))
  rw [←nxt hi hn]
  exact goE
 ·unfold F216.b0
  exact lt_else (Int.le_refl _) rfl
def weight (xs:List D209) (names:List D9):Int:=xs.foldl (fun n v=>bif hasB names v.1 then iAdd .i64 n v.2.1 else n) 0
def total (xs:List D209):Int:=xs.foldl (fun n v=>iAdd .i64 n v.2.1) 0
def quorumB (l:List D209) (names:List D9):Bool:=iLt (iMul .i64 2 (total l)) (iMul .i64 3 (weight l names))
theorem s_weight (xs:List D209) (names:List D9) (hx:L63 xs.length) (hl:L63 names.length):F244 ((xs,()),((names,()),()))=some (I1 (weight xs names)):=by
 have lp:=loopFold0 (S:=Int×(Int×Unit)) xs (fun n v=>bif hasB names v.1 then iAdd .i64 n v.2.1 else n) (f:=F244.b0 ((xs,()),((names,()),()))) (fun a i=>(a,(i,()))) (fun a=>Sum.inl (a,((xs.length:Int),()))) 0 (fun i hi a=>?_) (fun a=>?_)
 ·unfold F244
  exact bind_eq lp rfl
 ·unfold F244.b0
  refine lt_then (Int.ofNat_lt.2 hi) (bind_eq (getI_lt hi) (bind_eq (s_has _ _ hl) ?_))
  rw [←nxt hi hx]
  dsimp only
  cases hasB names xs[i].1
  ·rfl
  ·exact bind_eq (getI_lt hi) rfl
 ·unfold F244.b0
  exact lt_else (Int.le_refl _) rfl
theorem i_weight (xs:List D209) (names:List D9) (hx:L63 xs.length) (hl:L63 names.length):F233 ((xs,()),((names,()),()))=some (I1 (weight xs names)):=by
 have lp:=loopFold0 (S:=Int×(Int×Unit)) xs (fun n v=>bif hasB names v.1 then iAdd .i64 n v.2.1 else n) (f:=F233.b0 ((xs,()),((names,()),()))) (fun a i=>(a,(i,()))) (fun a=>Sum.inl (a,((xs.length:Int),()))) 0 (fun i hi a=>?_) (fun a=>?_)
 ·unfold F233
  exact bind_eq lp rfl
 ·unfold F233.b0
  refine lt_then (Int.ofNat_lt.2 hi) (bind_eq (getI_lt hi) (bind_eq (i_has _ _ hl) ?_))
  rw [←nxt hi hx]
  dsimp only
  cases hasB names xs[i].1<;>rfl
 ·unfold F233.b0
  exact lt_else (Int.le_refl _) rfl
theorem s_total (xs:List D209) (hx:L63 xs.length):F245 ((xs,()),())=some (I1 (total xs)):=by
 have lp:=loopFold0 (S:=Int×(Int×Unit)) xs (fun n v=>iAdd .i64 n v.2.1) (f:=F245.b0 ((xs,()),())) (fun a i=>(a,(i,()))) (fun a=>Sum.inl (a,((xs.length:Int),()))) 0 (fun i hi a=>?_) (fun a=>?_)
 ·unfold F245
  exact bind_eq lp rfl
 ·unfold F245.b0
  refine lt_then (Int.ofNat_lt.2 hi) (bind_eq (getI_lt hi) ?_)
  rw [←nxt hi hx]
 ·unfold F245.b0
  exact lt_else (Int.le_refl _) rfl
theorem i_total (xs:List D209) (hx:L63 xs.length):F234 ((xs,()),())=some (I1 (total xs)):=by
 have lp:=loopFold0 (S:=Int×(Int×Unit)) xs (fun n v=>iAdd .i64 n v.2.1) (f:=F234.b0 ((xs,()),())) (fun a i=>(a,(i,()))) (fun a=>Sum.inl (a,((xs.length:Int),()))) 0 (fun i hi a=>?_) (fun a=>?_)
 ·unfold F234
  exact bind_eq lp rfl
 ·unfold F234.b0
  refine lt_then (Int.ofNat_lt.2 hi) (bind_eq (getI_lt hi) ?_)
  rw [←nxt hi hx]
 ·unfold F234.b0
  exact lt_else (Int.le_refl _) rfl
theorem s_quorum (l:List D209) (names:List D9) (hl:L63 l.length) (hn:L63 names.length):F231 ((l,()),((names,()),()))=some (B1 (quorumB l names)) :=
 bind_eq (s_weight l names hl hn) (bind_eq (s_total l hl) rfl)
theorem i_quorum (l:List D209) (names:List D9) (hl:L63 l.length) (hn:L63 names.length):F215 ((l,()),((names,()),()))=some (B1 (quorumB l names)) :=
 bind_eq (i_weight l names hl hn) (bind_eq (i_total l hl) rfl)
def leafP (xs:List D129) (i:Nat) (y:D129):Bool:=inR y.1 1 1000000&&(inR y.2.1 0 1000&&behind (fun z y=>iLt z.2.1 y.2.1) xs i y)
def leavesB (xs:List D129):Bool:=allI (leafP xs) 0 xs
def acctB (a:D127):Bool:=nameB a.1&&(inR a.2.1 0 1000000&&(inR a.2.2.1 0 10000&&(inR a.2.2.2.1 0 1000000&&(iLe (List.length a.2.2.2.2.1:Int) 4&&leavesB a.2.2.2.2.1))))
abbrev AOk (a:D127):Prop:=e127.Ok a
theorem AOk.ls {a:D127} (h:AOk a):(Ty.sl e129).Ok a.2.2.2.2.1:=h.2.2.2.2.1
theorem s_acct (a:D127) (h:AOk a):F190 (a,())=some (B1 (acctB a)):=by
 have hl:L63 (List.length a.2.2.2.2.1):=h.ls.1
 have lp:=loopAll (S:=Int×Unit) a.2.2.2.2.1 (leafP a.2.2.2.2.1) (f:=F190.b0 (a,())) (fun k=>(k,())) (Sum.inl ((List.length a.2.2.2.2.1:Int),())) (Sum.inr (B1 false)) (fun i hi=>?_) ?_
 ·unfold F190 acctB leavesB
  rw [iLe_lt]
  refine bind_eq (s_name _ h.1) (andN (bind_eq (s_in _ _ _) (andN (bind_eq (s_in _ _ _) (andN (bind_eq (s_in _ _ _) (andN (noT (bind_eq lp ?_)))))))))
  cases allI (leafP a.2.2.2.2.1) 0 a.2.2.2.2.1<;>rfl
 ·unfold F190.b0 leafP
  refine lt_then (Int.ofNat_lt.2 hi) (bind_eq (getI_lt hi) (bind_eq (s_in _ _ _) (goN (bind_eq (s_in _ _ _) (goN ?_)))))
  rw [←nxt hi hl]
  exact asc_step hi hl (fun z=>le_ite)
 ·unfold F190.b0
  exact lt_else (Int.le_refl _) rfl
theorem i_amount (n:Int):F226 ((n,()),())=some (B1 (inR n 0 1000000)):=bind_eq (i_in _ _ _) rfl
theorem i_acct (a:D127) (h:AOk a):F200 (a,())=some (B1 (acctB a)):=by
 have hl:L63 (List.length a.2.2.2.2.1):=h.ls.1
 have lp:=loopAll (S:=Int×Unit) a.2.2.2.2.1 (leafP a.2.2.2.2.1) (f:=F200.b0 (a,())) (fun k=>(k,())) (Sum.inl ((List.length a.2.2.2.2.1:Int),())) (Sum.inr (B1 false)) (fun i hi=>?_) ?_
 ·unfold F200 acctB leavesB
  refine bind_eq lp ?_
  cases allI (leafP a.2.2.2.2.1) 0 a.2.2.2.2.1
  ·cases nameB a.1<;>cases inR a.2.1 0 1000000<;>cases inR a.2.2.1 0 10000<;>cases inR a.2.2.2.1 0 1000000<;>cases iLe (List.length a.2.2.2.2.1:Int) 4<;>rfl
  ·refine (bind_eq (i_name _ h.1) (andY (bind_eq (i_amount _) (andY (bind_eq (i_amount _) (andY (bind_eq (i_in _ _ _) (and_yes (c:=iLe (List.length a.2.2.2.2.1:Int) 4))))))))).trans ?_
   cases nameB a.1<;>cases inR a.2.1 0 1000000<;>cases inR a.2.2.1 0 10000<;>cases inR a.2.2.2.1 0 1000000<;>cases iLe (List.length a.2.2.2.2.1:Int) 4<;>rfl
 ·unfold F200.b0 leafP
  refine lt_then (Int.ofNat_lt.2 hi) (bind_eq (getI_lt hi) (bind_eq (i_in _ _ _) (goN (bind_eq (i_in _ _ _) (goN ?_)))))
  rw [←nxt hi hl]
  exact asc_step hi hl (fun z=>le_ite)
 ·unfold F200.b0
  exact lt_else (Int.le_refl _) rfl
def addL (n:Int) (xs:List D129):Int:=xs.foldl (fun s y=>iAdd .i64 s y.1) n
theorem addL_add (n m:Int):∀xs:List D129,addL (iAdd .i64 n m) xs=iAdd .i64 n (addL m xs)
 | []=>rfl
 |x::r=>by
  show addL (iAdd .i64 (iAdd .i64 n m) x.1) r=iAdd .i64 n (addL (iAdd .i64 m x.1) r)
  rw [iAdd_assoc,addL_add]
def ofA (a:D127):Int:=addL (iAdd .i64 a.2.1 a.2.2.2.1) a.2.2.2.2.1
def wealth (xs:List D127):Int:=xs.foldl (fun s y=>iAdd .i64 s (ofA y)) 0
theorem s_of (a:D127) (h:AOk a):F222 (a,())=some (I1 (ofA a)):=by
 have hl:L63 (List.length a.2.2.2.2.1):=h.ls.1
 have lp:=loopFold0 (S:=Int×(Int×Unit)) a.2.2.2.2.1 (fun s y=>iAdd .i64 s y.1) (f:=F222.b0 (a,())) (fun a i=>(a,(i,()))) (fun s=>Sum.inl (s,((List.length a.2.2.2.2.1:Int),()))) (iAdd .i64 a.2.1 a.2.2.2.1) (fun i hi s=>?_) (fun s=>?_)
 ·unfold F222
  exact bind_eq lp rfl
 ·unfold F222.b0
  refine lt_then (Int.ofNat_lt.2 hi) (bind_eq (getI_lt hi) ?_)
  rw [←nxt hi hl]
 ·unfold F222.b0
  exact lt_else (Int.le_refl _) rfl
theorem s_wealth (xs:List D127) (hx:(Ty.sl e127).Ok xs):F191 ((xs,()),())=some (I1 (wealth xs)):=by
 have lp:=loopFold0 (S:=Int×(Int×Unit)) xs (fun s y=>iAdd .i64 s (ofA y)) (f:=F191.b0 ((xs,()),())) (fun a i=>(a,(i,()))) (fun s=>Sum.inl (s,((xs.length:Int),()))) 0 (fun i hi s=>?_) (fun s=>?_)
 ·unfold F191
  exact bind_eq lp rfl
 ·unfold F191.b0
  refine lt_then (Int.ofNat_lt.2 hi) (bind_eq (getI_lt hi) (bind_eq (s_of _ (Ok_mem hx.2 (List.getElem_mem hi))) ?_))
  rw [←nxt hi hx.1]
 ·unfold F191.b0
  exact lt_else (Int.le_refl _) rfl
theorem i_wealth (xs:List D127) (hx:(Ty.sl e127).Ok xs):F201 ((xs,()),())=some (I1 (wealth xs)):=by
 have inner:∀(a:D127) (n:Int),L63 (List.length a.2.2.2.2.1)→loopF (F201.b1 a) (n,((0:Int),()))=some (.inl (addL n a.2.2.2.2.1,((List.length a.2.2.2.2.1:Int),()))):=by
  intro a n hl
  refine loopFold0 (S:=Int×(Int×Unit)) a.2.2.2.2.1 (fun s y=>iAdd .i64 s y.1) (fun a i=>(a,(i,()))) (fun s=>Sum.inl (s,((List.length a.2.2.2.2.1:Int),()))) n (fun i hi s=>?_) (fun s=>?_)
  ·unfold F201.b1
   refine lt_then (Int.ofNat_lt.2 hi) (bind_eq (getI_lt hi) ?_)
   rw [←nxt hi hl]
  ·unfold F201.b1
   exact lt_else (Int.le_refl _) rfl
 have lp:=loopFold0 (S:=Int×(Int×Unit)) xs (fun s y=>iAdd .i64 s (ofA y)) (f:=F201.b0 ((xs,()),())) (fun a i=>(a,(i,()))) (fun s=>Sum.inl (s,((xs.length:Int),()))) 0 (fun i hi s=>?_) (fun s=>?_)
 ·unfold F201
  exact bind_eq lp rfl
 ·unfold F201.b0
  refine lt_then (Int.ofNat_lt.2 hi) (bind_eq (getI_lt hi) (bind_eq (inner _ _ (AOk.ls (Ok_mem hx.2 (List.getElem_mem hi))).1) ?_))
  rw [←nxt hi hx.1]
  exact congrArg (fun z=>some (Sum.inl (z,(iAdd .i64 (i:Int) 1,())))) (addL_add s _ _)
 ·unfold F201.b0
  exact lt_else (Int.le_refl _) rfl
def acctP (xs:List D127) (i:Nat) (y:D127):Bool:=acctB y&&behind (fun z y=>sLt z.1 y.1) xs i y
def acctsB (xs:List D127):Bool:=allI (acctP xs) 0 xs&&(iLe (xs.length:Int) 12&&iLe (wealth xs) 1000000)
abbrev DLe:Type:=Int×(List D127×Unit)
def ledgerB (x:DLe):Bool:=inR x.1 0 900&&acctsB x.2.1
theorem s_accts (xs:List D127) (hx:(Ty.sl e127).Ok xs):F123 ((xs,()),())=some (B1 (acctsB xs)):=by
 have hl:L63 xs.length:=hx.1
 have lp:=loopAll (S:=Int×Unit) xs (acctP xs) (f:=F123.b0 ((xs,()),())) (fun k=>(k,())) (Sum.inl ((xs.length:Int),())) (Sum.inr (B1 false)) (fun i hi=>?_) ?_
 ·unfold F123 acctsB
  refine bind_eq lp ?_
  cases allI (acctP xs) 0 xs
  ·rfl
  ·exact (andY (b:=iLe (xs.length:Int) 12) (bind_eq (s_wealth xs hx) rfl)).trans rfl
 ·unfold F123.b0 acctP
  refine lt_then (Int.ofNat_lt.2 hi) (bind_eq (getI_lt hi) (bind_eq (s_acct _ (Ok_mem hx.2 (List.getElem_mem hi))) (goN ?_)))
  rw [←nxt hi hl]
  exact asc_step hi hl (fun z=>bind_eq (getI_lt hi) goE)
 ·unfold F123.b0
  exact lt_else (Int.le_refl _) rfl
theorem s_ledger (x:DLe) (hx:(Ty.sl e127).Ok x.2.1):F68 (x,())=some (B1 (ledgerB x)):=bind_eq (s_in _ _ _) (andY (bind_eq (s_accts _ hx) rfl))
theorem i_accts (xs:List D127) (hx:(Ty.sl e127).Ok xs):F139 ((xs,()),())=some (B1 (acctsB xs)):=by
 have hl:L63 xs.length:=hx.1
 have lp:=loopAll (S:=Int×Unit) xs (acctP xs) (f:=F139.b0 ((xs,()),())) (fun k=>(k,())) (Sum.inl ((xs.length:Int),())) (Sum.inr (B1 false)) (fun i hi=>?_) ?_
 ·unfold F139 acctsB
  refine bind_eq lp ?_
  cases allI (acctP xs) 0 xs
  ·rfl
  ·exact (andY (b:=iLe (xs.length:Int) 12) (bind_eq (i_wealth xs hx) rfl)).trans rfl
 ·unfold F139.b0 acctP
  refine lt_then (Int.ofNat_lt.2 hi) (bind_eq (getI_lt hi) (bind_eq (i_acct _ (Ok_mem hx.2 (List.getElem_mem hi))) (goN ?_)))
  rw [←nxt hi hl]
  exact asc_step hi hl (fun z=>ite_tri)
 ·unfold F139.b0
  exact lt_else (Int.le_refl _) rfl
theorem i_ledger (x:DLe) (hx:(Ty.sl e127).Ok x.2.1):F76 (x,())=some (B1 (ledgerB x)):=bind_eq (i_in _ _ _) (andY (bind_eq (i_accts _ hx) rfl))
def setStep (s:List D209) (y:D127):List D209:=bif iLe 5 y.2.2.2.1 then s++([(y.1,(y.2.2.2.1,()))]:List D209) else s
def setL (xs:List D127):List D209:=xs.foldl setStep []
theorem setStep_len (s:List D209) (y:D127) {i:Nat} (h:s.length≤i):(setStep s y).length≤i+1:=by
 unfold setStep
 cases iLe 5 y.2.2.2.1 with
 |false=>exact Nat.le_succ_of_le h
 |true=>simp only [cond_true,List.length_append,List.length_cons,List.length_nil];omega
theorem setL_eq (xs:List D127):setL xs=(xs.filter (fun y=>iLe 5 y.2.2.2.1)).map (fun y=>(y.1,(y.2.2.2.1,()))):=by
 have:∀(xs:List D127) (s:List D209),xs.foldl setStep s=s++(xs.filter (fun y=>iLe 5 y.2.2.2.1)).map (fun y=>(y.1,(y.2.2.2.1,()))):=by
  intro xs
  induction xs with
  |nil=>intro s;simp
  |cons x r ih =>
   intro s
   rw [List.foldl_cons,ih,List.filter_cons]
   unfold setStep
   cases iLe 5 x.2.2.2.1<;>simp
 have h:=this xs []
 rw [List.nil_append] at h
 exact h
theorem setL_len (xs:List D127):(setL xs).length≤xs.length:=by rw [setL_eq,List.length_map];exact List.length_filter_le _ _
theorem setL_mem {xs:List D127} {y:D209} (h:y∈setL xs):∃a∈xs,y=(a.1,(a.2.2.2.1,())):=by
 rw [setL_eq,List.mem_map] at h
 obtain ⟨a,ha,rfl⟩:=h
 exact ⟨a,(List.mem_filter.1 ha).1,rfl⟩
theorem setL_ok (xs:List D127) (hx:(Ty.sl e127).Ok xs):(Ty.sl e209).Ok (setL xs) :=
 Ok_of (Nat.le_trans (setL_len xs) hx.1) (fun y hy=>by
  obtain ⟨a,ha,e⟩:=setL_mem hy
  have hao:AOk a:=Ok_mem hx.2 ha
  rw [e]
  exact ⟨hao.1,hao.2.2.2.1,trivial⟩)
theorem setL_w (xs:List D127):(Ty.sl e209).w (setL xs)≤(Ty.sl e127).w xs:=by
 rw [setL_eq]
 exact sumW_fm (f:=fun z=>e127.w z) (g:=fun z=>e209.w z) (m:=fun y:D127=>((y.1,(y.2.2.2.1,())):D209)) (fun x=>Nat.le_trans (Nat.le_of_eq (show x.1.size+(0+0)=x.1.size by omega)) (Nat.le_add_right _ _)) xs
abbrev DQc:Type:=Int×(Int×(List D9×Unit))
abbrev DTc:Type:=Int×(List D9×(List D3×Unit))
def rootB (q:DQc):Bool:=iEq q.1 0&&(iEq q.2.1 (-1)&&iEq (List.length q.2.2.1:Int) 0)
def noneB (t:DTc):Bool:=iEq t.1 0&&(iEq (List.length t.2.1:Int) 0&&iEq (List.length t.2.2.1:Int) 0)
abbrev QOk (q:DQc):Prop:=(Ty.sl e9).Ok q.2.2.1
abbrev TOk (t:DTc):Prop:=(Ty.sl e9).Ok t.2.1∧L63 (List.length t.2.2.1)
def qcF (q:DQc) (round block:Int):Bool:=rootB q||(inR q.1 1 round&&(inR q.2.1 0 block&&namesB q.2.2.1))
def tcF (t:DTc) (round:Int):Bool:=noneB t||(inR t.1 1 round&&(namesB t.2.1&&(iEq (List.length t.2.2.1:Int) (List.length t.2.1:Int)&&t.2.2.1.all (fun h=>inR h.1 0 (iSub .i64 t.1 1)))))
def qcB (l:List D209) (q:DQc):Bool:=rootB q||(inR q.1 1 10000&&(inR q.2.1 0 100000&&(namesB q.2.2.1&&(allInB l q.2.2.1&&quorumB l q.2.2.1))))
def tcB (l:List D209) (t:DTc):Bool:=noneB t||(inR t.1 1 10000&&(namesB t.2.1&&(iEq (List.length t.2.2.1:Int) (List.length t.2.1:Int)&&(t.2.2.1.all (fun h=>inR h.1 0 (iSub .i64 t.1 1))&&(allInB l t.2.1&&quorumB l t.2.1)))))
theorem s_root (q:DQc):F155 (q,())=some (B1 (rootB q)):=by
 unfold F155 rootB
 cases iEq q.1 0<;>cases iEq q.2.1 (-1)<;>rfl
theorem i_root (q:DQc):F175 (q,())=some (B1 (rootB q)):=by
 unfold F175 rootB
 cases iEq q.1 0<;>cases iEq q.2.1 (-1)<;>rfl
theorem s_none (t:DTc):F157 (t,())=some (B1 (noneB t)):=by
 unfold F157 noneB
 cases iEq t.1 0<;>cases iEq (List.length t.2.1:Int) 0<;>rfl
theorem i_none (t:DTc):F176 (t,())=some (B1 (noneB t)):=by
 unfold F176 noneB
 cases iEq t.1 0<;>cases iEq (List.length t.2.1:Int) 0<;>rfl
theorem s_qc (l:List D209) (q:DQc) (hl:L63 l.length) (hq:QOk q):F212 ((l,()),(q,()))=some (B1 (qcB l q)):=by
 unfold F212 qcB
 refine bind_eq (s_root q) (orY (bind_eq (s_in _ _ _) (andY (bind_eq (s_in _ _ _) (andY ?_)))))
 refine bind_eq (s_all l _ hl hq) ((andY (bind_eq (s_quorum l _ hl hq.1) rfl)).trans ?_)
 rw [Bool.and_comm (allInB l _) (namesB _),Bool.and_assoc]
theorem i_qcf (q:DQc) (r b:Int) (hq:QOk q):F164 (q,((r,()),((b,()),())))=some (B1 (qcF q r b)):=by
 unfold F164 qcF
 exact bind_eq (i_root q) (orY (bind_eq (i_in _ _ _) (andY (bind_eq (i_in _ _ _) (andY (bind_eq (i_names _ hq) rfl))))))
theorem i_qc (l:List D209) (q:DQc) (hl:L63 l.length) (hq:QOk q):F169 ((l,()),(q,()))=some (B1 (qcB l q)):=by
 unfold F169
 refine (bind_eq (i_root q) (orY (bind_eq (i_qcf q _ _ hq) (andY (bind_eq (i_quorum l _ hl hq.1) (andY (bind_eq (i_all l _ hl hq.1) rfl))))))).trans ?_
 unfold qcB qcF
 cases rootB q<;>cases inR q.1 1 10000<;>cases inR q.2.1 0 100000<;>cases namesB q.2.2.1<;>cases allInB l q.2.2.1<;>cases quorumB l q.2.2.1<;>rfl
theorem i_tcf (t:DTc) (r:Int) (h:TOk t):F165 (t,((r,()),()))=some (B1 (tcF t r)):=by
 have hl:L63 (List.length t.2.2.1):=h.2
 have lp:=loopAllP (S:=Int×Unit) t.2.2.1 (fun y=>inR y.1 0 (iSub .i64 t.1 1)) (f:=F165.b0 (t,((r,()),()))) (fun k=>(k,())) (Sum.inl ((t.2.2.1.length:Int),())) (Sum.inr (B1 false)) (fun i hi=>?_) ?_
 ·unfold F165 tcF
  refine bind_eq (i_none t) (orY (bind_eq lp ?_))
  cases t.2.2.1.all (fun y=>inR y.1 0 (iSub .i64 t.1 1))
  ·cases inR t.1 1 r<;>cases namesB t.2.1<;>cases iEq (List.length t.2.2.1:Int) (List.length t.2.1:Int)<;>rfl
  ·refine (bind_eq (i_in _ _ _) (andY (bind_eq (i_names _ h.1) and_yes))).trans ?_
   cases iEq (List.length t.2.2.1:Int) (List.length t.2.1:Int)<;>rfl
 ·unfold F165.b0
  refine lt_then (Int.ofNat_lt.2 hi) (bind_eq (getI_lt hi) (bind_eq (i_in _ _ _) ?_))
  rw [←nxt hi hl]
  exact goE
 ·unfold F165.b0
  exact lt_else (Int.le_refl _) rfl
theorem s_tc (l:List D209) (t:DTc) (hl:L63 l.length) (h:TOk t):F213 ((l,()),(t,()))=some (B1 (tcB l t)):=by
 have hh:L63 (List.length t.2.2.1):=h.2
 have lp:=loopAllP (S:=Int×Unit) t.2.2.1 (fun y=>inR y.1 0 (iSub .i64 t.1 1)) (f:=F213.b0 ((l,()),(t,()))) (fun k=>(k,())) (Sum.inl ((t.2.2.1.length:Int),())) (Sum.inr (B1 false)) (fun i hi=>?_) ?_
 ·unfold F213
  refine (bind_eq (s_none t) (orY (bind_eq (s_in _ _ _) (andN (bind_eq (s_all l _ hl h.1) (andN (bind_eq (s_quorum l _ hl h.1.1) (andN (andN (b:=iEq (List.length t.2.2.1:Int) (List.length t.2.1:Int)) (c:=t.2.2.1.all (fun y=>inR y.1 0 (iSub .i64 t.1 1))) (bind_eq lp ?_)))))))))).trans ?_
  ·cases t.2.2.1.all (fun y=>inR y.1 0 (iSub .i64 t.1 1))<;>rfl
  ·unfold tcB
   cases noneB t<;>cases inR t.1 1 10000<;>cases namesB t.2.1<;>cases iEq (List.length t.2.2.1:Int) (List.length t.2.1:Int)<;>cases t.2.2.1.all (fun y=>inR y.1 0 (iSub .i64 t.1 1))<;>cases allInB l t.2.1<;>cases quorumB l t.2.1<;>rfl
 ·unfold F213.b0
  refine lt_then (Int.ofNat_lt.2 hi) (bind_eq (getI_lt hi) (bind_eq (s_in _ _ _) ?_))
  rw [←nxt hi hh]
  exact goE
 ·unfold F213.b0
  exact lt_else (Int.le_refl _) rfl
theorem i_tc (l:List D209) (t:DTc) (hl:L63 l.length) (h:TOk t):F170 ((l,()),(t,()))=some (B1 (tcB l t)):=by
 unfold F170
 refine (bind_eq (i_none t) (orY (bind_eq (i_tcf t _ h) (andY (bind_eq (i_quorum l _ hl h.1.1) (andY (bind_eq (i_all l _ hl h.1.1) rfl))))))).trans ?_
 unfold tcB tcF
 cases noneB t<;>cases inR t.1 1 10000<;>cases namesB t.2.1<;>cases iEq (List.length t.2.2.1:Int) (List.length t.2.1:Int)<;>cases t.2.2.1.all (fun y=>inR y.1 0 (iSub .i64 t.1 1))<;>cases allInB l t.2.1<;>cases quorumB l t.2.1<;>rfl
def txB (t:D122):Bool:=nameB t.2.1&&(inR t.2.2.2.1 1 1000000&&(inR t.2.2.2.2.1 0 10000&&(bif iEq t.1 1 then nameB t.2.2.1 else (inR t.1 2 3&&sEq t.2.2.1 ⟨#[]⟩))))
abbrev XOk (t:D122):Prop:=L63 t.2.1.size∧L63 t.2.2.1.size
theorem XOk_mem {l:List D122} (h:(Ty.sl e122).Ok l) {t:D122} (ht:t∈l):XOk t:=⟨(Ok_mem h.2 ht).2.1,(Ok_mem h.2 ht).2.2.1⟩
theorem s_tx (t:D122) (h:XOk t):F120 (t,())=some (B1 (txB t)):=by
 unfold F120 txB
 refine bind_eq (s_name _ h.1) (andN (bind_eq (s_in _ _ _) (andN (bind_eq (s_in _ _ _) (andN ?_)))))
 cases iEq t.1 1
 ·exact bind_eq (s_in _ _ _) and_yes
 ·exact bind_eq (s_name _ h.2) rfl
theorem i_tx (t:D122) (h:XOk t):F136 (t,())=some (B1 (txB t)):=by
 unfold F136 txB
 refine (bind_eq (i_in _ _ _) (andN (bind_eq (i_name _ h.1) (andN (bind_eq (i_in _ _ _) (andN (bind_eq (i_in _ _ _) (andN (c:=bif iEq t.1 1 then nameB t.2.2.1 else sEq t.2.2.1 ⟨#[]⟩) ?_)))))))).trans ?_
 ·cases iEq t.1 1
  ·rfl
  ·exact bind_eq (i_name _ h.2) rfl
 ·have e:inR t.1 1 3=(iEq t.1 1||inR t.1 2 3):=by
   simp only [inR,iLe,iEq]
   rw [Bool.eq_iff_iff]
   simp
   omega
  rw [e]
  cases iEq t.1 1<;>cases inR t.1 2 3<;>cases nameB t.2.1<;>cases inR t.2.2.2.1 1 1000000<;>cases inR t.2.2.2.2.1 0 10000<;>cases sEq t.2.2.1 ⟨#[]⟩<;>cases nameB t.2.2.1<;>rfl
theorem i_txs (l:List D122) (h:(Ty.sl e122).Ok l):F166 ((l,()),())=some (B1 (l.all txB)):=by
 have hl:L63 l.length:=h.1
 have lp:=loopAllP (S:=Int×Unit) l txB (f:=F166.b0 ((l,()),())) (fun k=>(k,())) (Sum.inl ((l.length:Int),())) (Sum.inr (B1 false)) (fun i hi=>?_) ?_
 ·unfold F166
  refine bind_eq lp ?_
  cases l.all txB<;>rfl
 ·unfold F166.b0
  refine lt_then (Int.ofNat_lt.2 hi) (bind_eq (getI_lt hi) (bind_eq (i_tx _ (XOk_mem h (List.getElem_mem hi))) ?_))
  rw [←nxt hi hl]
  exact goE
 ·unfold F166.b0
  exact lt_else (Int.le_refl _) rfl
abbrev DBk:Type:=D71
def bQc (b:DBk):DQc:=(b.2.2.2.2.1,(b.2.2.2.2.2.1,(b.2.2.2.2.2.2.1,())))
def bTc (b:DBk):DTc:=(b.2.2.2.2.2.2.2.1,(b.2.2.2.2.2.2.2.2.1,(b.2.2.2.2.2.2.2.2.2.1,())))
abbrev bTxs (b:DBk):List D122:=b.2.2.2.2.2.2.2.2.2.2.1
abbrev bEnd (b:DBk):Bool:=b.2.2.2.2.2.2.2.2.2.2.2.1
abbrev bNext (b:DBk):List D209:=b.2.2.2.2.2.2.2.2.2.2.2.2.1
abbrev bRoot (b:DBk):ByteArray:=b.2.2.2.2.2.2.2.2.2.2.2.2.2.1
abbrev BOk (b:DBk):Prop:=e71.Ok b
theorem BOk.by_ {b:DBk} (h:BOk b):L63 b.2.2.2.1.size:=h.2.2.2.1
theorem BOk.qc {b:DBk} (h:BOk b):QOk (bQc b):=h.2.2.2.2.2.2.1
theorem BOk.tc {b:DBk} (h:BOk b):TOk (bTc b):=⟨h.2.2.2.2.2.2.2.2.1,h.2.2.2.2.2.2.2.2.2.1.1⟩
theorem BOk.txs {b:DBk} (h:BOk b):(Ty.sl e122).Ok (bTxs b):=h.2.2.2.2.2.2.2.2.2.2.1
theorem BOk.next {b:DBk} (h:BOk b):(Ty.sl e209).Ok (bNext b):=h.2.2.2.2.2.2.2.2.2.2.2.2.1
def bodyB (b:DBk):Bool:=bif bEnd b then (setB (bNext b)&&iEq ((bRoot b).size:Int) 32) else (iEq (List.length (bNext b):Int) 0&&sEq (bRoot b) ⟨#[]⟩)
def blockB (b:DBk):Bool:=inR b.1 0 100000&&(inR b.2.1 0 900&&(inR b.2.2.1 1 10000&&(nameB b.2.2.2.1&&(qcF (bQc b) (iSub .i64 b.2.2.1 1) (iSub .i64 b.1 1)&&(tcF (bTc b) (iSub .i64 b.2.2.1 1) &&
 (!iLt 4 (List.length (bTxs b):Int)&&((bTxs b).all txB&&bodyB b)))))))
theorem s_qcf (b:DBk) (h:BOk b):F151 (b,())=some (B1 (qcF (bQc b) (iSub .i64 b.2.2.1 1) (iSub .i64 b.1 1))):=by
 unfold F151 qcF
 exact bind_eq (s_root (bQc b)) (orY (bind_eq (s_in _ _ _) (andY (bind_eq (s_in _ _ _) (andY (bind_eq (s_names _ h.qc) rfl))))))
theorem s_tcf (b:DBk) (h:BOk b):F152 (b,())=some (B1 (tcF (bTc b) (iSub .i64 b.2.2.1 1))):=by
 have hl:L63 (List.length (bTc b).2.2.1):=h.tc.2
 have lp:=loopAllP (S:=Int×Unit) (bTc b).2.2.1 (fun y=>inR y.1 0 (iSub .i64 (bTc b).1 1)) (f:=F152.b0 (b,())) (fun k=>(k,())) (Sum.inl (((bTc b).2.2.1.length:Int),())) (Sum.inr (B1 false)) (fun i hi=>?_) ?_
 ·unfold F152 tcF
  refine bind_eq (s_none (bTc b)) (orY (bind_eq (s_in _ _ _) (andN (bind_eq (s_names _ h.tc.1) (andN ?_)))))
  refine (andN (b:=iEq (List.length (bTc b).2.2.1:Int) (List.length (bTc b).2.1:Int)) (bind_eq lp ?_))
  cases (bTc b).2.2.1.all (fun y=>inR y.1 0 (iSub .i64 (bTc b).1 1))<;>rfl
 ·unfold F152.b0
  refine lt_then (Int.ofNat_lt.2 hi) (bind_eq (getI_lt hi) (bind_eq (s_in _ _ _) ?_))
  rw [←nxt hi hl]
  exact goE
 ·unfold F152.b0
  exact lt_else (Int.le_refl _) rfl
theorem s_blk (b:DBk) (h:BOk b):F91 (b,())=some (B1 (blockB b)):=by
 have hl:L63 (bTxs b).length:=h.txs.1
 have lp:=loopAllP (S:=Int×Unit) (bTxs b) txB (f:=F91.b0 (b,())) (fun k=>(k,())) (Sum.inl (((bTxs b).length:Int),())) (Sum.inr (B1 false)) (fun i hi=>?_) ?_
 ·unfold F91 blockB
  refine bind_eq (s_in _ _ _) (andN (bind_eq (s_in _ _ _) (andN (bind_eq (s_in _ _ _) (andN (bind_eq (s_name _ h.by_) (andN (bind_eq (s_qcf b h) (andN (bind_eq (s_tcf b h) (andN (noT (bind_eq lp ?_)))))))))))))
  cases (bTxs b).all txB
  ·rfl
  ·unfold bodyB
   rw [Bool.true_and]
   dsimp only [cond_true,Sum.elim_inl,bEnd]
   cases b.2.2.2.2.2.2.2.2.2.2.2.1
   ·exact and_yes
   ·exact bind_eq (s_set _ h.next) and_yes
 ·unfold F91.b0
  refine lt_then (Int.ofNat_lt.2 hi) (bind_eq (getI_lt hi) (bind_eq (s_tx _ (XOk_mem h.txs (List.getElem_mem hi))) ?_))
  rw [←nxt hi hl]
  exact goE
 ·unfold F91.b0
  exact lt_else (Int.le_refl _) rfl
theorem i_blk (b:DBk) (h:BOk b):F100 (b,())=some (B1 (blockB b)):=by
 unfold F100 blockB
 refine bind_eq (i_in _ _ _) (andN (bind_eq (i_in _ _ _) (andN (bind_eq (i_in _ _ _) (andN (bind_eq (i_name _ h.by_) (andN (bind_eq (i_qcf (bQc b) _ _ h.qc) (andN (bind_eq (i_tcf (bTc b) _ h.tc) (andN (noT (bind_eq (i_txs _ h.txs) (andN ?_))))))))))))))
 unfold bodyB
 dsimp only [bEnd]
 cases b.2.2.2.2.2.2.2.2.2.2.2.1
 ·exact and_yes
 ·exact bind_eq (i_set _ h.next) and_yes
theorem i_clL (l:List D129) (h:W1 l.length):F134 ((l,()),())=some ((l,()),()):=by unfold F134;exact clone_ok l h (by decide) (by decide)
def BlockL (x:DBk):Prop:=W1 (List.length (bQc x).2.2.1)∧W1 (List.length (bTc x).2.1)∧W1 (List.length (bTc x).2.2.1)∧W1 (List.length (bTxs x))∧W1 (List.length (bNext x))
abbrev DPr:Type:=D211
abbrev pBs (p:DPr):List DBk:=p.2.1
def pQ (p:DPr):DQc:=(p.2.2.1,(p.2.2.2.1,(p.2.2.2.2.1,())))
def ProofL (x:DPr):Prop:=W1 (List.length (pBs x))∧(∀y∈pBs x,BlockL y)∧W1 (List.length (pQ x).2.2.1)
theorem idxFunc_blk (l:List DBk) (g:DBk→Option (Bool×Unit)) (p:DBk→Bool) (hg:∀x,g x=some (p x,())) (hl:L63 l.length):F236 ((l,()),((g,()),()))=some (I1 (idxOf l p)):=by
 have lp:=loopIdx (S:=Int×Unit) l p (f:=F236.b0 ((l,()),((g,()),()))) (fun k=>(k,())) (Sum.inl ((l.length:Int),())) (fun i=>Sum.inr (I1 i)) (fun i hi=>?_) ?_
 ·unfold F236
  refine bind_eq lp ?_
  rcases idxOf_cases l p with ⟨h1,_,h3⟩|⟨j,hj,_,_,h1,_,h3⟩<;>rw [h1,h3]<;>rfl
 ·unfold F236.b0
  refine lt_then (Int.ofNat_lt.2 hi) (bind_eq (getI_lt hi) (bind_eq (hg _) ?_))
  rw [←nxt hi hl]
 ·unfold F236.b0
  exact lt_else (Int.le_refl _) rfl
abbrev DNd:Type:=D135
abbrev nPast (n:DNd):List DPr:=n.2.2.2.2.2.2.2.2.2.2.2.2.2.2.2.2.2.2.2.1
def AcctL (l:List D127):Prop:=W1 l.length∧∀a∈l,W1 (List.length a.2.2.2.2.1)
theorem AcctL_of {l:List D127} (h:(Ty.sl e127).w l≤1048576):AcctL l:=⟨w_ln h,fun a ha=>w_ln (w_hd (w_tl (w_tl (w_tl (w_tl (w_mem h ha))))))⟩
theorem s_caccts (xs:List D127) (h:AcctL xs):F66 ((xs,()),())=some ((xs,()),()):=by
 have hl:=h.1
 have lp:=loopCopy (S:=List D127×(Int×Unit)) xs (f:=F66.b0 ((xs,()),())) (fun a k=>(a,(k,()))) (Sum.inl (xs,((xs.length:Int),()))) (fun i hi=>?_) ?_
 ·unfold F66
  exact bind_eq lp rfl
 ·unfold F66.b0
  refine lt_then (Int.ofNat_lt.2 hi) (bind_eq (getI_lt hi) (room_then (h.2 _ (List.getElem_mem hi)) (by decide) (by decide) (room_one hi hl (by decide) (by decide) ?_)))
  rw [←nxt hi hl.l];rfl
 ·unfold F66.b0
  exact lt_else (Int.le_refl _) rfl
theorem s_cledger (x:DLe) (h:AcctL x.2.1):F25 (x,())=some (x,()):=bind_eq (s_caccts _ h) rfl
theorem i_caccts (xs:List D127) (h:AcctL xs):F74 ((xs,()),())=some ((xs,()),()):=by
 have hl:=h.1
 have lp:=loopCopy (S:=List D127×(Int×Unit)) xs (f:=F74.b0 ((xs,()),())) (fun a k=>(a,(k,()))) (Sum.inl (xs,((xs.length:Int),()))) (fun i hi=>?_) ?_
 ·unfold F74
  exact bind_eq lp rfl
 ·unfold F74.b0
  refine lt_then (Int.ofNat_lt.2 hi) (bind_eq (getI_lt hi) (bind_eq (i_clL _ (h.2 _ (List.getElem_mem hi))) (room_one hi hl (by decide) (by decide) ?_)))
  rw [←nxt hi hl.l];rfl
 ·unfold F74.b0
  exact lt_else (Int.le_refl _) rfl
theorem i_cledger (x:DLe) (h:AcctL x.2.1):F35 (x,())=some (x,()):=bind_eq (i_caccts _ h) rfl
def zeroNd:DNd:=(⟨#[]⟩,(0,(0,([],([],([],(0,(0,(0,(0,([],(0,([],([],(0,([],([],([],([],([],()))))))))))))))))))))
def nodeNewL (name:ByteArray) (x:DLe):DNd:=bif nameB name&&ledgerB x then (name,(x.1,(x.1,(x.2.1,(setL x.2.1,([],(1,(0,(0,(-1,([],(0,([],([],(0,([],([],([],([],([],())))))))))))))))))))) else zeroNd
abbrev DWo:Type:=D44
def zeroWo:DWo:=(0,([],([],([],([],([],([],())))))))
def nodesL (x:DLe) (foul:List D9):List DNd:=x.2.1.foldl (fun s a=>bif !hasB foul a.1 then s++([nodeNewL a.1 x]:List DNd) else s) []
def worldNewL (x:DLe) (foul:List D9):DWo:=bif ledgerB x&&namesB foul then (x.1,(x.2.1,(foul,(nodesL x foul,([],([],([],()))))))) else zeroWo
theorem nodesL_eq (x:DLe) (foul:List D9):nodesL x foul=(x.2.1.filter (fun a=> !hasB foul a.1)).map (fun a=>nodeNewL a.1 x):=by
 have:∀(xs:List D127) (s:List DNd),xs.foldl (fun s a=>bif !hasB foul a.1 then s++([nodeNewL a.1 x]:List DNd) else s) s=s++(xs.filter (fun a=> !hasB foul a.1)).map (fun a=>nodeNewL a.1 x):=by
  intro xs
  induction xs with
  |nil=>intro s;simp
  |cons a r ih =>
   intro s
   rw [List.foldl_cons,ih,List.filter_cons]
   cases hasB foul a.1<;>simp
 have h:=this x.2.1 []
 rw [List.nil_append] at h
 exact h
theorem add_len {A:Type} {s t:List A} {i:Nat} (h:s.length≤i) (b:Bool) (ht:t.length=1):(bif b then s++t else s).length≤i+1:=by
 cases b with
 |false=>exact Nat.le_succ_of_le h
 |true=>simp only [cond_true,List.length_append,ht];omega
def sameT {A:Type} (eq:A→A→Bool) (xs ys:List A):Bool:=iEq (xs.length:Int) (ys.length:Int)&&allI (fun i x=>match ys[i]? with|some y=>eq x y|none=>true) 0 xs
theorem same_loop {A:Type} {xs ys:List A} {eq:A→A→Bool} {f:Int×Unit→Option (Sum (Int×Unit) (Sum (Int×Unit) ((Bool×Unit)×Unit)))} (hl:L63 xs.length)
  (hs:∀i (h:i<xs.length) (h2:i<ys.length),f ((i:Int),())=bif eq xs[i] ys[i] then some (.inl (iAdd .i64 (i:Int) 1,())) else some (.inr (.inr (B1 false))))
  (he:f ((xs.length:Int),())=some (.inr (.inl ((xs.length:Int),())))) :
  (bif !iEq (xs.length:Int) (ys.length:Int) then some (B1 false) else (loopF f ((0:Int),())).bind fun r=>Sum.elim (fun _=>some (B1 true)) some r)=some (B1 (sameT eq xs ys)):=by
 unfold sameT
 cases hq:iEq (xs.length:Int) (ys.length:Int) with
 |false=>rfl
 |true =>
  have hlen:xs.length=ys.length:=by simp [iEq] at hq;omega
  have lp:=loopAll (S:=Int×Unit) xs (fun i x=>match ys[i]? with|some y=>eq x y|none=>true) (f:=f) (fun k=>(k,())) (Sum.inl ((xs.length:Int),())) (Sum.inr (B1 false)) (fun i hi=>?_) he
  ·refine bind_eq lp ?_
   cases allI (fun i x=>match ys[i]? with|some y=>eq x y|none=>true) 0 xs<;>rfl
  ·rw [hs i hi (by omega),List.getElem?_eq_getElem (show i<ys.length by omega),nxt hi hl]
theorem sameT_iff {A:Type} {eq:A→A→Bool} (he:∀a b,eq a b=true↔a=b) {xs ys:List A}:sameT eq xs ys=true↔xs=ys:=by
 unfold sameT
 simp only [Bool.and_eq_true]
 constructor
 ·rintro ⟨h1,h2⟩
  have hlen:xs.length=ys.length:=by simp [iEq] at h1;omega
  refine List.ext_getElem hlen (fun i h1 h3=>?_)
  have:=allI_get h2 i h1
  rw [Nat.zero_add,List.getElem?_eq_getElem h3] at this
  exact (he _ _).1 this
 ·rintro rfl
  refine ⟨iEq_self _,?_⟩
  have:∀(p:Nat→A→Bool) (k:Nat) (l:List A),(∀i (h:i<l.length),p (k+i) l[i]=true)→allI p k l=true:=by
   intro p k l
   induction l generalizing k with
   |nil=>intro _;rfl
   |cons x r ih =>
    intro h
    simp only [allI,Bool.and_eq_true]
    refine ⟨h 0 (Nat.zero_lt_succ _),ih (k+1) (fun i hi=>?_)⟩
    have:=h (i+1) (by simpa using hi)
    rw [show k+1+i=k+(i+1) by omega]
    simpa using this
  refine this _ 0 xs (fun i h=>?_)
  rw [Nat.zero_add,List.getElem?_eq_getElem h]
  exact (he _ _).2 rfl
def txEq (x y:D122):Bool:=(iEq x.1 y.1)&&((sEq x.2.1 y.2.1)&&((sEq x.2.2.1 y.2.2.1)&&((iEq x.2.2.2.1 y.2.2.2.1)&&(iEq x.2.2.2.2.1 y.2.2.2.2.1))))
def valEq (x y:D209):Bool:=(sEq x.1 y.1)&&(iEq x.2.1 y.2.1)
def sameQcB (a b:DQc):Bool:=iEq a.1 b.1&&(iEq a.2.1 b.2.1&&sameT (fun x y=>sEq x.1 y.1) a.2.2.1 b.2.2.1)
def sameTcB (a b:DTc):Bool:=iEq a.1 b.1&&(sameT (fun x y=>sEq x.1 y.1) a.2.1 b.2.1&&sameT (fun x y=>iEq x.1 y.1) a.2.2.1 b.2.2.1)
def sameBlkB (a b:DBk):Bool:=iEq a.1 b.1&&(iEq a.2.1 b.2.1&&(iEq a.2.2.1 b.2.2.1&&(sEq a.2.2.2.1 b.2.2.2.1&&(sameQcB (bQc a) (bQc b)&&(sameTcB (bTc a) (bTc b)&&(sameT txEq (bTxs a) (bTxs b)&&(bEq (bEnd a) (bEnd b)&&(sameT valEq (bNext a) (bNext b)&&sEq (bRoot a) (bRoot b)))))))))
theorem s_sameT (xs ys:List D9) (hl:L63 xs.length):F227 ((xs,()),((ys,()),()))=some (B1 (sameT (fun x y=>sEq x.1 y.1) xs ys)):=by
 unfold F227
 refine same_loop hl (fun i h h2=>?_) ?_
 ·unfold F227.b0
  exact lt_then (Int.ofNat_lt.2 h) (bind_eq (getI_lt h) (bind_eq (getI_lt h2) goE))
 ·unfold F227.b0
  exact lt_else (Int.le_refl _) rfl
theorem s_sameTx (xs ys:List D122) (hl:L63 xs.length):F208 ((xs,()),((ys,()),()))=some (B1 (sameT txEq xs ys)):=by
 unfold F208
 refine same_loop hl (fun i h h2=>?_) ?_
 ·unfold F208.b0 txEq
  exact lt_then (Int.ofNat_lt.2 h) (bind_eq (getI_lt h) (bind_eq (getI_lt h2) goE))
 ·unfold F208.b0
  exact lt_else (Int.le_refl _) rfl
theorem s_sameV (xs ys:List D209) (hl:L63 xs.length):F209 ((xs,()),((ys,()),()))=some (B1 (sameT valEq xs ys)):=by
 unfold F209
 refine same_loop hl (fun i h h2=>?_) ?_
 ·unfold F209.b0 valEq
  exact lt_then (Int.ofNat_lt.2 h) (bind_eq (getI_lt h) (bind_eq (getI_lt h2) goE))
 ·unfold F209.b0
  exact lt_else (Int.le_refl _) rfl
theorem i_eqS (xs ys:List D9) (hl:L63 xs.length):F238 ((xs,()),((ys,()),()))=some (B1 (sameT (fun x y=>sEq x.1 y.1) xs ys)):=by
 unfold F238
 refine same_loop hl (fun i h h2=>?_) ?_
 ·unfold F238.b0
  exact lt_then (Int.ofNat_lt.2 h) (bind_eq (getI_lt h) (bind_eq (getI_lt h2) goE))
 ·unfold F238.b0
  exact lt_else (Int.le_refl _) rfl
theorem i_eqI (xs ys:List D3) (hl:L63 xs.length):F106 ((xs,()),((ys,()),()))=some (B1 (sameT (fun x y=>iEq x.1 y.1) xs ys)):=by
 unfold F106
 refine same_loop hl (fun i h h2=>?_) ?_
 ·unfold F106.b0
  exact lt_then (Int.ofNat_lt.2 h) (bind_eq (getI_lt h) (bind_eq (getI_lt h2) goE))
 ·unfold F106.b0
  exact lt_else (Int.le_refl _) rfl
theorem i_eqTx (xs ys:List D122) (hl:L63 xs.length):F220 ((xs,()),((ys,()),()))=some (B1 (sameT txEq xs ys)):=by
 unfold F220
 refine same_loop hl (fun i h h2=>?_) ?_
 ·unfold F220.b0 txEq
  exact lt_then (Int.ofNat_lt.2 h) (bind_eq (getI_lt h) (bind_eq (getI_lt h2) goE))
 ·unfold F220.b0
  exact lt_else (Int.le_refl _) rfl
theorem i_eqV (xs ys:List D209) (hl:L63 xs.length):F221 ((xs,()),((ys,()),()))=some (B1 (sameT valEq xs ys)):=by
 unfold F221
 refine same_loop hl (fun i h h2=>?_) ?_
 ·unfold F221.b0 valEq
  exact lt_then (Int.ofNat_lt.2 h) (bind_eq (getI_lt h) (bind_eq (getI_lt h2) goE))
 ·unfold F221.b0
  exact lt_else (Int.le_refl _) rfl
theorem s_sameQc (a b:DQc) (h:QOk a):F206 (a,(b,()))=some (B1 (sameQcB a b)):=andY (andY (bind_eq (s_sameT _ _ h.1) rfl))
theorem s_sameTc (a b:DTc) (h:TOk a):F207 (a,(b,()))=some (B1 (sameTcB a b)):=by
 unfold F207 sameTcB
 refine andN (bind_eq (s_sameT _ _ h.1.1) (andN ?_))
 refine same_loop h.2 (fun i h h2=>?_) ?_
 ·unfold F207.b0
  exact lt_then (Int.ofNat_lt.2 h) (bind_eq (getI_lt h) (bind_eq (getI_lt h2) goE))
 ·unfold F207.b0
  exact lt_else (Int.le_refl _) rfl
theorem s_sameBlk (a b:DBk) (h:BOk a):F159 (a,(b,()))=some (B1 (sameBlkB a b)):=by
 unfold F159 sameBlkB
 exact andY (andY (andY (andY (bind_eq (s_sameQc (bQc a) (bQc b) h.qc) (andY (bind_eq (s_sameTc (bTc a) (bTc b) h.tc) (andY (bind_eq (s_sameTx _ _ h.txs.1) (andY (andY (bind_eq (s_sameV _ _ h.next.1) and_yes)))))))))))
theorem i_sameQc (a b:DQc) (h:QOk a):F218 (a,(b,()))=some (B1 (sameQcB a b)):=andY (andY (bind_eq (i_eqS _ _ h.1) rfl))
theorem i_sameTc (a b:DTc) (h:TOk a):F219 (a,(b,()))=some (B1 (sameTcB a b)):=andY (bind_eq (i_eqS _ _ h.1.1) (andY (bind_eq (i_eqI _ _ h.2) rfl)))
theorem i_sameBlk (a b:DBk) (h:BOk a):F173 (a,(b,()))=some (B1 (sameBlkB a b)):=by
 unfold F173
 refine (andN (andN (andN (andN (andN (b:=bEq (bEnd a) (bEnd b)) (andN (b:=sEq (bRoot a) (bRoot b)) (bind_eq (i_sameQc (bQc a) (bQc b) h.qc) (andY (bind_eq (i_sameTc (bTc a) (bTc b) h.tc) (andY (bind_eq (i_eqTx _ _ h.txs.1) (andY (bind_eq (i_eqV _ _ h.next.1) rfl))))))))))))).trans ?_
 unfold sameBlkB
 generalize iEq a.1 b.1=p1
 generalize iEq a.2.1 b.2.1=p2
 generalize iEq a.2.2.1 b.2.2.1=p3
 generalize sEq a.2.2.2.1 b.2.2.2.1=p4
 generalize bEq (bEnd a) (bEnd b)=p5
 generalize sEq (bRoot a) (bRoot b)=p6
 generalize sameQcB (bQc a) (bQc b)=p7
 generalize sameTcB (bTc a) (bTc b)=p8
 generalize sameT txEq (bTxs a) (bTxs b)=p9
 generalize sameT valEq (bNext a) (bNext b)=p10
 refine congrArg (fun z=>some (B1 z)) ?_
 simp only [Bool.and_comm,Bool.and_left_comm,Bool.and_assoc]
def txLessB (a b:D122):Bool:=bif !sEq a.2.1 b.2.1 then sLt a.2.1 b.2.1 else bif !iEq a.2.2.2.2.1 b.2.2.2.2.1 then iLt a.2.2.2.2.1 b.2.2.2.2.1 else bif !iEq a.1 b.1 then iLt a.1 b.1 else bif !sEq a.2.2.1 b.2.2.1 then sLt a.2.2.1 b.2.2.1 else iLt a.2.2.2.1 b.2.2.2.1
def cmp3 (lt eq:Bool):Int:=bif eq then 0 else bif lt then -1 else 1
theorem sLt_eq {a b:ByteArray} (h:sEq a b=true):sLt a b=false:=by
 unfold sEq at h
 have:a.toList=b.toList:=by simpa using h
 unfold sLt
 rw [this]
 exact bytesLess_self _
theorem iLt_eq {a b:Int} (h:iEq a b=true):iLt a b=false:=by
 have:a=b:=by simpa [iEq] using h
 rw [this]
 exact iLt_false (Int.le_refl _)
def cmpTx (a b:D122):Int :=
 bif !sEq a.2.1 b.2.1 then cmp3 (sLt a.2.1 b.2.1) false else bif !iEq a.2.2.2.2.1 b.2.2.2.2.1 then cmp3 (iLt a.2.2.2.2.1 b.2.2.2.2.1) false else bif !iEq a.1 b.1 then cmp3 (iLt a.1 b.1) false else bif !sEq a.2.2.1 b.2.2.1 then cmp3 (sLt a.2.2.1 b.2.2.1) false else cmp3 (iLt a.2.2.2.1 b.2.2.2.1) (iEq a.2.2.2.1 b.2.2.2.1)
theorem cmpTx_lt (a b:D122):iLt (cmpTx a b) 0=txLessB a b:=by
 unfold cmpTx txLessB cmp3
 cases sEq a.2.1 b.2.1<;>cases iEq a.2.2.2.2.1 b.2.2.2.2.1<;>cases iEq a.1 b.1<;>cases sEq a.2.2.1 b.2.2.1<;>cases h:iEq a.2.2.2.1 b.2.2.2.1<;>first
  |(cases sLt a.2.1 b.2.1<;>rfl)
  |(cases iLt a.2.2.2.2.1 b.2.2.2.2.1<;>rfl)
  |(cases iLt a.1 b.1<;>rfl)
  |(cases sLt a.2.2.1 b.2.2.1<;>rfl)
  |(cases iLt a.2.2.2.1 b.2.2.2.1<;>rfl)
  |(rw [iLt_eq h];rfl)
theorem s_txLess (a b:D122):F228 (a,(b,()))=some (B1 (txLessB a b)):=by
 unfold F228 txLessB
 dsimp only
 cases sEq a.2.1 b.2.1<;>cases iEq a.2.2.2.2.1 b.2.2.2.2.1<;>cases iEq a.1 b.1<;>cases sEq a.2.2.1 b.2.2.1<;>rfl
theorem i_cmpS (a b:ByteArray):F247 ((a,()),((b,()),()))=some (I1 (cmp3 (sLt a b) (sEq a b))):=by
 have hn:∀c:ByteArray,F253 ((c,()),())=some (B1 false):=fun c=>by
  unfold F253
  dsimp only
  rw [sEq_self];rfl
 unfold F247 cmp3
 refine bind_eq (hn a) (bind_eq (hn b) ?_)
 dsimp only
 cases h:sEq a b with
 |true=>rw [sLt_eq h];rfl
 |false=>cases sLt a b<;>rfl
theorem i_cmpI (a b:Int):F248 ((a,()),((b,()),()))=some (I1 (cmp3 (iLt a b) (iEq a b))):=by
 have hn:∀c:Int,F254 ((c,()),())=some (B1 false):=fun c=>by
  unfold F254
  dsimp only
  rw [iEq_self];rfl
 unfold F248 cmp3
 refine bind_eq (hn a) (bind_eq (hn b) ?_)
 dsimp only
 cases h:iEq a b with
 |true =>
  rw [iLt_eq h]
  have:iLt b a=false:=by
   have e:a=b:=by simpa [iEq] using h
   rw [e];exact iLt_false (Int.le_refl _)
  rw [this];rfl
 |false =>
  cases h2:iLt a b with
  |true=>rfl
  |false =>
   have:iLt b a=true:=by simp [iEq,iLt] at h h2 ⊢;omega
   rw [this];rfl
theorem i_orI (l:List D3) (hl:L63 l.length):F246 ((l,()),())=some (match l.find? (fun x=> !iEq x.1 0) with|some x=>(x,())|none=>I1 0):=by
 have lp:=loopFindV (S:=Int×Unit) l (fun x=> !iEq x.1 0) (f:=F246.b0 ((l,()),())) (fun k=>(k,())) (Sum.inl ((l.length:Int),())) (fun x=>Sum.inr (x,())) (fun i hi=>?_) ?_
 ·unfold F246
  refine bind_eq lp ?_
  cases l.find? (fun x=> !iEq x.1 0)<;>rfl
 ·unfold F246.b0
  refine lt_then (Int.ofNat_lt.2 hi) (bind_eq (getI_lt hi) ?_)
  rw [←nxt hi hl]
 ·unfold F246.b0
  exact lt_else (Int.le_refl _) rfl
theorem or_step {v:Int} {lt eq:Bool} {r:List (Int×Unit)} (h:eq=true→lt=false):(match ((cmp3 lt eq,())::r).find? (fun x=> !iEq x.1 0) with|some x=>((x,()):(Int×Unit)×Unit)|none=>I1 0)=bif !eq then I1 (cmp3 lt false) else (match r.find? (fun x=> !iEq x.1 0) with|some x=>(x,())|none=>I1 0):=by
 cases eq with
 |true=>rw [List.find?_cons_of_neg (by exact Bool.false_ne_true)];rfl
 |false=>cases lt<;>(rw [List.find?_cons_of_pos (by decide)];rfl)
theorem i_cmpTx (a b:D122):F232 (a,(b,()))=some (I1 (cmpTx a b)):=by
 unfold F232
 refine bind_eq (i_cmpS _ _) (bind_eq (i_cmpI _ _) (bind_eq (i_cmpI _ _) (bind_eq (i_cmpS _ _) (bind_eq (i_cmpI _ _) (bind_eq (i_orI _ (show (5:Nat)≤9223372036854775807 by decide)) ?_)))))
 refine congrArg some ?_
 refine Eq.trans (b:=(match ([(cmp3 (sLt a.2.1 b.2.1) (sEq a.2.1 b.2.1),()),(cmp3 (iLt a.2.2.2.2.1 b.2.2.2.2.1) (iEq a.2.2.2.2.1 b.2.2.2.2.1),()),(cmp3 (iLt a.1 b.1) (iEq a.1 b.1),()),(cmp3 (sLt a.2.2.1 b.2.2.1) (sEq a.2.2.1 b.2.2.1),()),(cmp3 (iLt a.2.2.2.1 b.2.2.2.1) (iEq a.2.2.2.1 b.2.2.2.1),())]:List (Int×Unit)).find? (fun x=> !iEq x.1 0) with|some x=>((x,()):(Int×Unit)×Unit)|none=>I1 0)) rfl ?_
 rw [or_step (v:=0) sLt_eq,or_step (v:=0) iLt_eq,or_step (v:=0) iLt_eq,or_step (v:=0) sLt_eq,or_step (v:=0) iLt_eq]
 unfold cmpTx
 cases sEq a.2.1 b.2.1<;>cases iEq a.2.2.2.2.1 b.2.2.2.2.1<;>cases iEq a.1 b.1<;>cases sEq a.2.2.1 b.2.2.1<;>cases iEq a.2.2.2.1 b.2.2.2.1<;>rfl
theorem i_txLess (a b:D122):F214 (a,(b,()))=some (B1 (txLessB a b)):=by
 unfold F214
 refine bind_eq (i_cmpTx a b) ?_
 rw [←cmpTx_lt]
def poolP (xs:List D122) (i:Nat) (y:D122):Bool:=txB y&&behind txLessB xs i y
def poolB (xs:List D122):Bool:=allI (poolP xs) 0 xs&&iLe (xs.length:Int) 20
theorem s_pool (xs:List D122) (hx:(Ty.sl e122).Ok xs):F210 ((xs,()),())=some (B1 (poolB xs)):=by
 have hl:L63 xs.length:=hx.1
 have lp:=loopAll (S:=Int×Unit) xs (poolP xs) (f:=F210.b0 ((xs,()),())) (fun k=>(k,())) (Sum.inl ((xs.length:Int),())) (Sum.inr (B1 false)) (fun i hi=>?_) ?_
 ·unfold F210 poolB
  refine bind_eq lp ?_
  cases allI (poolP xs) 0 xs<;>rfl
 ·unfold F210.b0 poolP
  refine lt_then (Int.ofNat_lt.2 hi) (bind_eq (getI_lt hi) (bind_eq (s_tx _ (XOk_mem hx (List.getElem_mem hi))) (goN ?_)))
  rw [←nxt hi hl]
  exact asc_step hi hl (fun z=>bind_eq (getI_lt hi) (bind_eq (s_txLess _ _) goE))
 ·unfold F210.b0
  exact lt_else (Int.le_refl _) rfl
theorem i_pool (xs:List D122) (hx:(Ty.sl e122).Ok xs):F168 ((xs,()),())=some (B1 (poolB xs)):=by
 have hl:L63 xs.length:=hx.1
 have lp:=loopAll (S:=Int×Unit) xs (poolP xs) (f:=F168.b0 ((xs,()),())) (fun k=>(k,())) (Sum.inl ((xs.length:Int),())) (Sum.inr (B1 false)) (fun i hi=>?_) ?_
 ·unfold F168 poolB
  refine bind_eq lp ?_
  cases allI (poolP xs) 0 xs<;>rfl
 ·unfold F168.b0 poolP
  refine lt_then (Int.ofNat_lt.2 hi) (bind_eq (getI_lt hi) (bind_eq (i_tx _ (XOk_mem hx (List.getElem_mem hi))) (goN ?_)))
  rw [←nxt hi hl]
  exact asc_step hi hl (fun z=>bind_eq (i_txLess _ _) goE)
 ·unfold F168.b0
  exact lt_else (Int.le_refl _) rfl
def headEp (l:List DBk):Int:=match l with
 |b::_=>b.2.1
 | []=>0
theorem head_get {l:List DBk} {i:Nat} (h:i<l.length):∃b,getI l 0=some b∧b.2.1=headEp l:=by
 cases l with
 |nil=>simp at h
 |cons b r=>exact ⟨b,rfl,rfl⟩
def parentB (pre:List DBk) (b:DBk):Bool:=match pre.find? (fun z=>iEq z.1 (bQc b).2.1) with
 |some z=>iEq z.2.2.1 (bQc b).1
 |none=>false
def treeQ (l:List DBk) (i:Nat) (b:DBk):Bool:=blockB b&&(iEq b.2.1 (headEp l)&&behind (fun z y=>iLt z.1 y.1) l i b)
def treeB (l:List DBk):Bool:=allI (fun i b=>treeQ l i b&&(rootB (bQc b)||parentB (l.take i) b)) 0 l&&iLe (l.length:Int) 400
theorem noRoot_lt {b:DBk} (h:blockB b=true) (hr:rootB (bQc b)=false):0≤(bQc b).2.1∧(bQc b).2.1<b.1:=by
 unfold blockB qcF at h
 simp only [Bool.and_eq_true] at h
 have h1:inR b.1 0 100000=true:=h.1
 have h2:=h.2.2.2.2.1
 rw [hr,Bool.false_or] at h2
 simp only [Bool.and_eq_true] at h2
 have h3:0≤b.1∧b.1≤100000:=by simpa [inR,iLe] using h1
 have h4:0≤(bQc b).2.1∧(bQc b).2.1≤iSub .i64 b.1 1:=by simpa [inR,iLe] using h2.2.1
 rw [iSub_small (by omega) (by omega)] at h4
 omega
theorem tree_whole (l:List DBk):allI (fun i b=>treeQ l i b&&(rootB (bQc b)||parentB (l.take i) b)) 0 l=allI (fun i b=>treeQ l i b&&(rootB (bQc b)||parentB l b)) 0 l:=by
 rw [allI_and,allI_and]
 cases hq:allI (fun i b=>treeQ l i b) 0 l with
 |false=>rfl
 |true =>
  rw [Bool.true_and,Bool.true_and]
  have hq:=fun i hi=>by have:=allI_get hq i hi;rw [Nat.zero_add] at this;unfold treeQ at this;simp only [Bool.and_eq_true] at this;exact this
  refine allI_congr (fun i b hb=>?_)
  obtain ⟨hi,rfl⟩:=List.getElem?_eq_some_iff.1 hb
  rw [Nat.zero_add]
  cases hr:rootB (bQc l[i]) with
  |true=>rfl
  |false =>
   rw [Bool.false_or,Bool.false_or]
   have hlt:=noRoot_lt (hq i hi).1 hr
   have hd:(l.drop i).find? (fun z=>iEq z.1 (bQc l[i]).2.1)=none:=by
    rw [List.find?_eq_none]
    intro z hz
    obtain ⟨k,hk,rfl⟩:=List.getElem_of_mem hz
    rw [List.length_drop] at hk
    have:=asc_le (f:=fun b:DBk=>b.1) (l:=l) (fun j hj=>(hq j hj).2.2) k i (by omega)
    rw [List.getElem_drop]
    have this:l[i].1≤l[i+k].1:=this
    simp only [iEq,decide_eq_true_eq]
    omega
   unfold parentB
   have:l.find? (fun z=>iEq z.1 (bQc l[i]).2.1)=(l.take i).find? (fun z=>iEq z.1 (bQc l[i]).2.1):=by
    generalize (bQc l[i]).2.1=id at hd ⊢
    have e:=List.find?_append (p:=fun z:DBk=>iEq z.1 id) (xs:=l.take i) (ys:=l.drop i)
    rw [List.take_append_drop,hd] at e
    rw [e]
    cases (l.take i).find? (fun z=>iEq z.1 id)<;>rfl
   rw [this]
def blkAt (l:List DBk) (id:Int):Int:=idxOf l (fun b=>iEq b.1 id)
theorem s_blkAt (l:List DBk) (id:Int) (hl:L63 l.length):F229 ((l,()),((id,()),()))=some (I1 (blkAt l id)):=by
 have lp:=loopIdx (S:=Int×Unit) l (fun b=>iEq b.1 id) (f:=F229.b0 ((l,()),((id,()),()))) (fun k=>(k,())) (Sum.inl ((l.length:Int),())) (fun i=>Sum.inr (I1 i)) (fun i hi=>?_) ?_
 ·unfold F229 blkAt
  refine bind_eq lp ?_
  rcases idxOf_cases l (fun b=>iEq b.1 id) with ⟨h1,_,h3⟩|⟨j,hj,_,_,h1,_,h3⟩<;>rw [h1,h3]<;>rfl
 ·unfold F229.b0
  refine lt_then (Int.ofNat_lt.2 hi) (bind_eq (getI_lt hi) ?_)
  rw [←nxt hi hl]
 ·unfold F229.b0
  exact lt_else (Int.le_refl _) rfl
theorem s_tree (l:List DBk) (h:(Ty.sl e71).Ok l):F211 ((l,()),())=some (B1 (treeB l)):=by
 have hl:L63 l.length:=h.1
 have lp:=loopAll (S:=Int×Unit) l (fun i b=>treeQ l i b&&(rootB (bQc b)||parentB (l.take i) b)) (f:=F211.b0 ((l,()),())) (fun k=>(k,())) (Sum.inl ((l.length:Int),())) (Sum.inr (B1 false)) (fun i hi=>?_) ?_
 ·unfold F211 treeB
  refine bind_eq lp ?_
  cases allI (fun i b=>treeQ l i b&&(rootB (bQc b)||parentB (l.take i) b)) 0 l<;>rfl
 ·unfold F211.b0 treeQ
  have hb:BOk l[i]:=Ok_mem h.2 (List.getElem_mem hi)
  obtain ⟨b0,hb0,he0⟩:=head_get hi
  refine lt_then (Int.ofNat_lt.2 hi) (bind_eq (getI_lt hi) (join_go (bind_eq (s_blk _ hb) (goN (bind_eq hb0 ?_))) (bind_eq (s_root (bQc l[i])) ?_)))
  ·rw [←he0]
   refine goN (asc_step hi hl (fun z=>le_ite))
  ·rw [←nxt hi hl]
   dsimp only
   cases rootB (bQc l[i]) with
   |true=>rfl
   |false =>
    refine cut_hi (by omega) ?_
    rw [take_nat]
    refine bind_eq (s_blkAt _ _ (by rw [List.length_take];omega)) ?_
    unfold blkAt parentB
    rcases idxOf_cases (l.take i) (fun z=>iEq z.1 (bQc l[i]).2.1) with ⟨_,h2,h3⟩|⟨j,hj,_,_,_,h2,h3⟩
    ·rw [h2,show idxOf (l.take i) (fun b=>iEq b.1 l[i].2.2.2.2.2.1)= -1 from h3];rfl
    ·rw [h2,show idxOf (l.take i) (fun b=>iEq b.1 l[i].2.2.2.2.2.1)=(j:Int) from h3]
     have hj2:j<l.length:=by rw [List.length_take] at hj;omega
     rw [List.getElem_take]
     exact pos_else (Int.natCast_nonneg j) (bind_eq (getI_lt hj2) goE)
 ·unfold F211.b0
  exact lt_else (Int.le_refl _) rfl
theorem i_blkAt (l:List DBk) (id:Int) (hl:L63 l.length):F217 ((l,()),((id,()),()))=some (I1 (blkAt l id)):=by
 unfold F217 blkAt
 exact bind_eq (idxFunc_blk l _ (fun b=>iEq b.1 id) (fun x=>rfl) hl) rfl
theorem i_tree (l:List DBk) (h:(Ty.sl e71).Ok l):F171 ((l,()),())=some (B1 (treeB l)):=by
 have hl:L63 l.length:=h.1
 have lp:=loopAll (S:=Int×Unit) l (fun i b=>treeQ l i b&&(rootB (bQc b)||parentB l b)) (f:=F171.b0 ((l,()),())) (fun k=>(k,())) (Sum.inl ((l.length:Int),())) (Sum.inr (B1 false)) (fun i hi=>?_) ?_
 ·unfold F171 treeB
  refine bind_eq lp ?_
  rw [tree_whole]
  cases allI (fun i b=>treeQ l i b&&(rootB (bQc b)||parentB l b)) 0 l<;>rfl
 ·unfold F171.b0 treeQ
  have hb:BOk l[i]:=Ok_mem h.2 (List.getElem_mem hi)
  obtain ⟨b0,hb0,he0⟩:=head_get hi
  refine lt_then (Int.ofNat_lt.2 hi) (bind_eq (getI_lt hi) (join_go (bind_eq (i_blk _ hb) (goN (bind_eq hb0 ?_))) (bind_eq (i_root (bQc l[i])) ?_)))
  ·rw [←he0]
   refine goN (asc_step hi hl (fun z=>le_ite))
  ·rw [←nxt hi hl]
   dsimp only
   cases rootB (bQc l[i]) with
   |true=>rfl
   |false =>
    refine bind_eq (i_blkAt _ _ hl) ?_
    unfold blkAt parentB
    rcases idxOf_cases l (fun z=>iEq z.1 (bQc l[i]).2.1) with ⟨_,h2,h3⟩|⟨j,hj,_,_,_,h2,h3⟩
    ·rw [h2,show idxOf l (fun b=>iEq b.1 l[i].2.2.2.2.2.1)= -1 from h3];rfl
    ·rw [h2,show idxOf l (fun b=>iEq b.1 l[i].2.2.2.2.2.1)=(j:Int) from h3]
     exact pos_else (Int.natCast_nonneg j) (bind_eq (getI_lt hj) goE)
 ·unfold F171.b0
  exact lt_else (Int.le_refl _) rfl
abbrev nBase (n:DNd):DLe:=(n.2.2.1,(n.2.2.2.1,()))
abbrev nSet (n:DNd):List D209:=n.2.2.2.2.1
abbrev nTree (n:DNd):List DBk:=n.2.2.2.2.2.1
abbrev nRound (n:DNd):Int:=n.2.2.2.2.2.2.1
abbrev nVoted (n:DNd):Int:=n.2.2.2.2.2.2.2.1
def nHigh (n:DNd):DQc:=(n.2.2.2.2.2.2.2.2.1,(n.2.2.2.2.2.2.2.2.2.1,(n.2.2.2.2.2.2.2.2.2.2.1,())))
def nTc (n:DNd):DTc:=(n.2.2.2.2.2.2.2.2.2.2.2.1,(n.2.2.2.2.2.2.2.2.2.2.2.2.1,(n.2.2.2.2.2.2.2.2.2.2.2.2.2.1,())))
abbrev nLed (n:DNd):Int:=n.2.2.2.2.2.2.2.2.2.2.2.2.2.2.1
abbrev nVotes (n:DNd):List D140:=n.2.2.2.2.2.2.2.2.2.2.2.2.2.2.2.1
abbrev nGones (n:DNd):List D141:=n.2.2.2.2.2.2.2.2.2.2.2.2.2.2.2.2.1
abbrev nDone (n:DNd):List D3:=n.2.2.2.2.2.2.2.2.2.2.2.2.2.2.2.2.2.1
abbrev nPool (n:DNd):List D122:=n.2.2.2.2.2.2.2.2.2.2.2.2.2.2.2.2.2.2.1
abbrev NOk (n:DNd):Prop:=e135.Ok n
theorem NOk.base {n:DNd} (h:NOk n):(Ty.sl e127).Ok (nBase n).2.1:=h.2.2.2.1
theorem NOk.set {n:DNd} (h:NOk n):(Ty.sl e209).Ok (nSet n):=h.2.2.2.2.1
theorem NOk.tree {n:DNd} (h:NOk n):(Ty.sl e71).Ok (nTree n):=h.2.2.2.2.2.1
theorem NOk.high {n:DNd} (h:NOk n):QOk (nHigh n):=h.2.2.2.2.2.2.2.2.2.2.1
theorem NOk.tcs {n:DNd} (h:NOk n):TOk (nTc n):=⟨h.2.2.2.2.2.2.2.2.2.2.2.2.1,h.2.2.2.2.2.2.2.2.2.2.2.2.2.1.1⟩
theorem NOk.pool {n:DNd} (h:NOk n):(Ty.sl e122).Ok (nPool n):=h.2.2.2.2.2.2.2.2.2.2.2.2.2.2.2.2.2.2.1
def headB (l:List DBk) (ep:Int):Bool:=match l with
 |b::_=>iEq b.2.1 ep
 | []=>true
def nodeB (n:DNd):Bool:=nameB n.1&&(ledgerB (nBase n)&&(iEq (nBase n).1 n.2.1&&(poolB (nPool n)&&((!iLt 0 (List.length (nSet n):Int)||setB (nSet n))&&(treeB (nTree n)&&(headB (nTree n) n.2.1&&(inR (nRound n) 1 10000&&(iLt (nHigh n).1 (nRound n)&&(iLt (nTc n).1 (nRound n)&&(inR (nVoted n) 0 10000&&(inR (nLed n) 0 10000&&(qcB (nSet n) (nHigh n)&&(tcB (nSet n) (nTc n)&&(iLe (List.length (nVotes n):Int) 1000&&(iLe (List.length (nGones n):Int) 1000&&(iLe (List.length (nDone n):Int) 200&&iLe (List.length (nPast n):Int) 200))))))))))))))))
theorem head_go {l:List DBk} {ep:Int} {R:Type} {g x:Option R}:(bif iLt 0 (l.length:Int) then (getI l 0).bind (fun b=>bif !iEq b.2.1 ep then x else g) else g)=bif headB l ep then g else x:=by
 cases l with
 |nil=>rfl
 |cons b r=>exact (lt_then (by simp) (bind_eq rfl goE))
theorem s_node (n:DNd) (h:NOk n):F160 (n,())=some (B1 (nodeB n)):=by
 unfold F160 nodeB
 have hT:∀R (g x:Option R),((F211 ((nTree n,()),())).bind fun y=>bif !y.1.1 then x else (bif iLt 0 (List.length (nTree n):Int) then (getI (nTree n) 0).bind (fun b=>bif !iEq b.2.1 n.2.1 then x else g) else g))=bif (treeB (nTree n)&&headB (nTree n) n.2.1) then g else x:=fun R g x=>bind_eq (s_tree _ h.tree) (goN head_go)
 refine (join_and (b:=nameB n.1&&(ledgerB (nBase n)&&(iEq (nBase n).1 n.2.1&&(poolB (nPool n)&&((!iLt 0 (List.length (nSet n):Int)||setB (nSet n))&&(treeB (nTree n)&&headB (nTree n) n.2.1)))))) (bind_eq (s_name _ h.1) (goN (bind_eq (s_ledger (nBase n) h.base) (goN (goN (bind_eq (s_pool _ h.pool) (goN ?_))))))) (bind_eq (s_in _ _ _) (andY (andY (b:=iLt (nHigh n).1 (nRound n)) (andY (b:=iLt (nTc n).1 (nRound n)) (bind_eq (s_in _ _ _) (andY (bind_eq (s_in _ _ _) (andY (bind_eq (s_qc _ (nHigh n) h.set.1 h.high) (andY (bind_eq (s_tc _ (nTc n) h.set.1 h.tcs) (andY (andY (b:=iLe (List.length (nVotes n):Int) 1000) (andY (b:=iLe (List.length (nGones n):Int) 1000) (and_yes (b:=iLe (List.length (nDone n):Int) 200) (c:=iLe (List.length (nPast n):Int) 200))))))))))))))))).trans ?_
 ·refine Eq.trans ?_ (goDup (c:=iLt 0 (List.length (nSet n):Int)) (s:=setB (nSet n)) (hT _ _ _))
  cases iLt 0 (List.length (nSet n):Int) with
  |false=>rfl
  |true=>exact (congrArg (fun o=>Option.bind o _) (s_set _ h.set)).trans rfl
 ·simp only [Bool.and_assoc]
theorem i_node (n:DNd) (h:NOk n):F101 (n,())=some (B1 (nodeB n)):=by
 unfold F101
 refine (join_and (b:=nameB n.1&&(ledgerB (nBase n)&&(iEq (nBase n).1 n.2.1&&((!iLt 0 (List.length (nSet n):Int)||setB (nSet n))&&poolB (nPool n))))) (bind_eq (i_name _ h.1) (goN (bind_eq (i_ledger (nBase n) h.base) (goN (goN ?_))))) (bind_eq (i_in _ _ _) (andN (bind_eq (i_in _ _ _) (andN (bind_eq (i_in _ _ _) (andN (bind_eq (i_qc _ (nHigh n) h.set.1 h.high) (andN (bind_eq (i_tc _ (nTc n) h.set.1 h.tcs) (andN (noT (b:=iLe (nRound n) (nHigh n).1) (noT (b:=iLe (nRound n) (nTc n).1) (noT (b:=iLt 1000 (List.length (nVotes n):Int)) (noT (b:=iLt 1000 (List.length (nGones n):Int)) (noT (b:=iLt 200 (List.length (nDone n):Int)) (noT (b:=iLt 200 (List.length (nPast n):Int)) (bind_eq (i_tree _ h.tree) (andY (c:=headB (nTree n) n.2.1) ?_))))))))))))))))))).trans ?_
 ·refine Eq.trans ?_ (goDup (c:=iLt 0 (List.length (nSet n):Int)) (s:=setB (nSet n)) (K:=(F168 ((nPool n,()),())).bind fun y=>bif !y.1.1 then some (.inr (B1 false)) else some (.inl ())) (bind_eq (i_pool _ h.pool) goE))
  cases iLt 0 (List.length (nSet n):Int) with
  |false=>rfl
  |true=>exact (congrArg (fun o=>Option.bind o _) (i_set _ h.set)).trans rfl
 ·cases hq:nTree n with
  |nil =>
   have:n.2.2.2.2.2.1=([]:List DBk):=hq
   dsimp only
   rw [this];rfl
  |cons b r =>
   have:n.2.2.2.2.2.1=b::r:=hq
   dsimp only
   rw [this]
   have e:iEq ((List.length (b::r):Nat):Int) 0=false:=by simp [iEq];omega
   rw [e];rfl
 ·unfold nodeB
  have e:∀a b:Int,(!iLe a b)=iLt b a:=fun a b=>by rw [iLe_lt,Bool.not_not]
  have e2:∀a b:Int,(!iLt a b)=iLe b a:=fun a b=>(iLe_lt).symm
  rw [e,e,e2 1000,e2 1000,e2 200,e2 200]
  refine congrArg (fun z=>some (B1 z)) ?_
  generalize nameB n.1=p1
  generalize ledgerB (nBase n)=p2
  generalize iEq (nBase n).1 n.2.1=p3
  generalize poolB (nPool n)=p4
  generalize (!iLt 0 (List.length (nSet n):Int)||setB (nSet n))=p5
  generalize treeB (nTree n)=p6
  generalize headB (nTree n) n.2.1=p7
  generalize inR (nRound n) 1 10000=p8
  generalize iLt (nHigh n).1 (nRound n)=p9
  generalize iLt (nTc n).1 (nRound n)=p10
  generalize inR (nVoted n) 0 10000=p11
  generalize inR (nLed n) 0 10000=p12
  generalize qcB (nSet n) (nHigh n)=p13
  generalize tcB (nSet n) (nTc n)=p14
  generalize iLe (List.length (nVotes n):Int) 1000=p15
  generalize iLe (List.length (nGones n):Int) 1000=p16
  generalize iLe (List.length (nDone n):Int) 200=p17
  generalize iLe (List.length (nPast n):Int) 200=p18
  simp only [Bool.and_comm,Bool.and_left_comm,Bool.and_assoc]
abbrev DMs:Type:=D143
abbrev mBs (m:DMs):List DBk:=m.2.2.2.1
def mQ (m:DMs):DQc:=(m.2.2.2.2.2.2.2.2.2.2.1,(m.2.2.2.2.2.2.2.2.2.2.2.1,(m.2.2.2.2.2.2.2.2.2.2.2.2.1,())))
def mT (m:DMs):DTc:=(m.2.2.2.2.2.2.2.2.2.2.2.2.2.1,(m.2.2.2.2.2.2.2.2.2.2.2.2.2.2.1,(m.2.2.2.2.2.2.2.2.2.2.2.2.2.2.2.1,())))
def mV0 (m:DMs):Bool:=(iEq m.2.2.2.2.1 (0:Int))&&((iEq m.2.2.2.2.2.1 (0:Int))&&(sEq m.2.2.2.2.2.2.1 ⟨#[]⟩))
def mG0 (m:DMs):Bool:=(iEq m.2.2.2.2.2.2.2.1 (0:Int))&&((iEq m.2.2.2.2.2.2.2.2.1 (0:Int))&&(sEq m.2.2.2.2.2.2.2.2.2.1 ⟨#[]⟩))
def mVF (m:DMs):Bool:=inR m.2.2.2.2.1 1 10000&&(inR m.2.2.2.2.2.1 0 100000&&nameB m.2.2.2.2.2.2.1)
def mGF (m:DMs):Bool:=inR m.2.2.2.2.2.2.2.1 1 10000&&(inR m.2.2.2.2.2.2.2.2.1 0 (iSub .i64 m.2.2.2.2.2.2.2.1 1)&&(iEq m.2.2.2.2.2.2.2.2.1 m.2.2.2.2.2.2.2.2.2.2.1&&nameB m.2.2.2.2.2.2.2.2.2.1))
abbrev MOk (m:DMs):Prop:=e143.Ok m
theorem MOk.bs {m:DMs} (h:MOk m):(Ty.sl e71).Ok (mBs m):=h.2.2.2.1
theorem MOk.q {m:DMs} (h:MOk m):QOk (mQ m):=h.2.2.2.2.2.2.2.2.2.2.2.2.1
theorem MOk.t {m:DMs} (h:MOk m):TOk (mT m):=⟨h.2.2.2.2.2.2.2.2.2.2.2.2.2.2.1,h.2.2.2.2.2.2.2.2.2.2.2.2.2.2.2.1.1⟩
def blksB (l:List DBk) (ep:Int):Bool:=l.all (fun b=>blockB b&&iEq b.2.1 ep)
def kindB (k:Int) (n:Int) (v0 g0 vf gf r no:Bool):Bool:=bif iEq k 1 then (iEq n 1&&(v0&&(g0&&(r&&no)))) else bif iEq k 2 then (iEq n 0&&(vf&&(g0&&(r&&no)))) else bif iEq k 3 then (iEq n 0&&(v0&&(gf&&no))) else bif iEq k 4 then (v0&&g0) else false
def msgB (m:DMs):Bool:=nameB m.2.1&&(inR m.2.2.1 0 900&&(qcF (mQ m) 10000 100000&&(tcF (mT m) 10000&&((blksB (mBs m) m.2.2.1&&iLe ((mBs m).length:Int) 400)&&kindB m.1 ((mBs m).length:Int) (mV0 m) (mG0 m) (mVF m) (mGF m) (rootB (mQ m)) (noneB (mT m))))))
theorem msg_same (k:Int) (n:Nat) (p1 p2 al v0 g0 vf gf r q no t:Bool) :
  (p1&&(p2&&(inR k 1 4&&((al&&(iLe (n:Int) (bif iEq k 1 then 1 else bif iEq k 4 then 400 else 0)&&(!iEq k 1||iEq (n:Int) 1)))&&((bif iEq k 2 then vf else v0)&&((bif iEq k 2 then g0 else bif iEq k 3 then gf else g0)&&((r||((iEq k 4||iEq k 3)&&(r||q)))&&(no||(iEq k 4&&(no||t))))))))))
   =(p1&&(p2&&((r||q)&&((no||t)&&((al&&iLe (n:Int) 400)&&kindB k (n:Int) v0 g0 vf gf r no))))):=by
 unfold kindB
 have e1:∀x:Int,iEq x x=true:=iEq_self
 by_cases h1:k=1
 ·subst h1
  have a2:iEq (1:Int) 2=false:=rfl
  have a3:iEq (1:Int) 3=false:=rfl
  have a4:iEq (1:Int) 4=false:=rfl
  have a5:inR 1 1 4=true:=rfl
  rw [a2,a3,a4,a5,e1]
  by_cases hn:n=1
  ·subst hn
   have b1:iLe ((1:Nat):Int) 1=true:=rfl
   have b2:iLe ((1:Nat):Int) 400=true:=rfl
   have b3:iEq ((1:Nat):Int) 1=true:=rfl
   simp only [cond_true,cond_false]
   rw [b1,b2,b3]
   cases p1<;>cases p2<;>cases al<;>cases v0<;>cases g0<;>cases r<;>cases q<;>cases no<;>cases t<;>rfl
  ·have b3:iEq (n:Int) 1=false:=by simp [iEq];omega
   simp only [cond_true,cond_false]
   rw [b3]
   cases p1<;>cases p2<;>cases al<;>cases r<;>cases q<;>cases no<;>cases t<;>simp
 ·have a1:iEq k 1=false:=by simp [iEq,h1]
  rw [a1]
  simp only [cond_false]
  have z:∀m:Nat,iLe (m:Int) 0=iEq (m:Int) 0:=fun m=>by simp [iLe,iEq]
  by_cases h4:k=4
  ·subst h4
   have a2:iEq (4:Int) 2=false:=rfl
   have a3:iEq (4:Int) 3=false:=rfl
   have a5:inR 4 1 4=true:=rfl
   rw [a2,a3,a5,e1]
   simp only [cond_true,cond_false]
   cases p1<;>cases p2<;>cases al<;>cases v0<;>cases g0<;>cases r<;>cases q<;>cases no<;>cases t<;>cases iLe (n:Int) 400<;>rfl
  ·have a4:iEq k 4=false:=by simp [iEq,h4]
   rw [a4]
   simp only [cond_false]
   rw [z]
   by_cases hn:n=0
   ·subst hn
    have b2:iLe ((0:Nat):Int) 400=true:=rfl
    have b3:iEq ((0:Nat):Int) 0=true:=rfl
    rw [b2,b3]
    by_cases h2:k=2
    ·subst h2
     have a3:iEq (2:Int) 3=false:=rfl
     have a5:inR 2 1 4=true:=rfl
     rw [a3,a5,e1]
     simp only [cond_true,cond_false]
     cases p1<;>cases p2<;>cases al<;>cases vf<;>cases g0<;>cases r<;>cases q<;>cases no<;>cases t<;>rfl
    ·have a2:iEq k 2=false:=by simp [iEq,h2]
     rw [a2]
     simp only [cond_false]
     by_cases h3:k=3
     ·subst h3
      have a5:inR 3 1 4=true:=rfl
      rw [a5,e1]
      simp only [cond_true]
      cases p1<;>cases p2<;>cases al<;>cases v0<;>cases gf<;>cases r<;>cases q<;>cases no<;>cases t<;>rfl
     ·have a5:inR k 1 4=false:=by simp [inR,iLe];omega
      have a3:iEq k 3=false:=by simp [iEq,h3]
      rw [a5,a3]
      simp
   ·have b3:iEq (n:Int) 0=false:=by simp [iEq];omega
    rw [b3]
    cases iEq k 2<;>cases iEq k 3<;>simp
theorem s_cert (q:DQc) (h:QOk q):F156 (q,())=some (B1 (qcF q 10000 100000)):=by
 unfold F156 qcF
 exact bind_eq (s_root q) (orY (bind_eq (s_in _ _ _) (andY (bind_eq (s_in _ _ _) (andY (bind_eq (s_names _ h) rfl))))))
theorem s_tc13 (t:DTc) (h:TOk t):F158 (t,())=some (B1 (tcF t 10000)):=by
 have lp:=loopAllP (S:=Int×Unit) t.2.2.1 (fun x=>inR x.1 0 (iSub .i64 t.1 1)) (f:=F158.b0 (t,())) (fun k=>(k,())) (Sum.inl ((t.2.2.1.length:Int),())) (Sum.inr (B1 false)) (fun i hi=>?_) ?_
 ·unfold F158 tcF
  refine bind_eq (s_none t) (orY (bind_eq (s_in _ _ _) (andN (bind_eq (s_names _ h.1) (andN (andN ?_))))))
  refine bind_eq lp ?_
  cases t.2.2.1.all (fun x=>inR x.1 0 (iSub .i64 t.1 1))<;>rfl
 ·unfold F158.b0
  refine lt_then (Int.ofNat_lt.2 hi) (bind_eq (getI_lt hi) (bind_eq (s_in _ _ _) ?_))
  rw [←nxt hi h.2]
  exact goE
 ·unfold F158.b0
  exact lt_else (Int.le_refl _) rfl
theorem s_blks (m:DMs) (h:MOk m):F154 (m,())=some (B1 (blksB (mBs m) m.2.2.1&&(iLe ((mBs m).length:Int) (bif iEq m.1 1 then 1 else bif iEq m.1 4 then 400 else 0)&&(!iEq m.1 1||iEq ((mBs m).length:Int) 1)))):=by
 have hl:L63 (mBs m).length:=h.bs.1
 have lp:=loopAllP (S:=Int×Unit) (mBs m) (fun b=>blockB b&&iEq b.2.1 m.2.2.1) (f:=F154.b0 (m,())) (fun k=>(k,())) (Sum.inl (((mBs m).length:Int),())) (Sum.inr (B1 false)) (fun i hi=>?_) ?_
 ·unfold F154
  have hJ:(bif iEq m.1 (1:Int) then some (.inl ((1:Int),())) else bif iEq m.1 (4:Int) then some (.inl ((400:Int),())) else some (.inl ((0:Int),())):Option (Sum (Int×Unit) ((Bool×Unit)×Unit)))=some (.inl ((bif iEq m.1 1 then 1 else bif iEq m.1 4 then 400 else 0),())):=by cases iEq m.1 1<;>cases iEq m.1 4<;>rfl
  refine bind_eq hJ (bind_eq lp ?_)
  unfold blksB
  cases (mBs m).all (fun b=>blockB b&&iEq b.2.1 m.2.2.1) with
  |false=>rfl
  |true =>
   rw [Bool.true_and]
   refine andY ?_
   cases iEq m.1 1<;>rfl
 ·unfold F154.b0
  have hb:BOk (mBs m)[i]:=Ok_mem h.bs.2 (List.getElem_mem hi)
  refine lt_then (Int.ofNat_lt.2 hi) (bind_eq (getI_lt hi) (bind_eq (s_blk _ hb) (goN (bind_eq (getI_lt hi) ?_))))
  rw [←nxt hi hl]
  exact goE
 ·unfold F154.b0
  exact lt_else (Int.le_refl _) rfl
theorem vY {b c:Bool} {A R:Type} {g:A} {K:Option (Sum (Bool×A) R)} (h:K=some (.inl (c,g))):(bif b then K else some (.inl (false,g)))=some (.inl (b&&c,g)):=by rw [h];cases b<;>rfl
theorem gY {b c v:Bool} {R:Type} {K:Option (Sum (Bool×(Bool×Unit)) R)} (h:K=some (.inl (v,(c,())))):(bif b then K else some (.inl (v,(false,()))))=some (.inl (v,(b&&c,()))):=by rw [h];cases b<;>rfl
theorem rootY {r a b c n:Bool} {N C1 C2:Option ((Bool×Unit)×Unit)} (hN:N=some (B1 n)) (h1:C1=some (B1 (c&&n))) (h2:C2=some (B1 (c&&n))):(bif r then N else bif a then C1 else bif b then C2 else some (B1 false))=some (B1 ((r||((a||b)&&c))&&n)):=by
 rw [hN,h1,h2]
 cases r<;>cases a<;>cases b<;>rfl
theorem s_msg (m:DMs) (h:MOk m):F92 (m,())=some (B1 (msgB m)):=by
 refine Eq.trans (b:=some (B1 (nameB m.2.1&&(inR m.2.2.1 0 900&&(inR m.1 1 4&&((blksB (mBs m) m.2.2.1&&(iLe ((mBs m).length:Int) (bif iEq m.1 1 then 1 else bif iEq m.1 4 then 400 else 0)&&(!iEq m.1 1||iEq ((mBs m).length:Int) 1)))&&((bif iEq m.1 2 then mVF m else mV0 m)&&((bif iEq m.1 2 then mG0 m else bif iEq m.1 3 then mGF m else mG0 m)&&((rootB (mQ m)||((iEq m.1 4||iEq m.1 3)&&qcF (mQ m) 10000 100000))&&(noneB (mT m)||(iEq m.1 4&&tcF (mT m) 10000))))))))))) ?_ ?_
 ·unfold F92
  have hN:((F157 (mT m,())).bind fun y14=>bif y14.1.1 then some ((true,()),()) else bif iEq m.1 (4:Int) then (F158 (mT m,())).bind (fun y15=>some (y15.1,())) else some ((false,()),()))=some (B1 (noneB (mT m)||(iEq m.1 4&&tcF (mT m) 10000))):=bind_eq (s_none _) (orY (andY (bind_eq (s_tc13 _ h.t) rfl)))
  refine bind_eq (s_name _ h.2.1) (andN (bind_eq (s_in _ _ _) (andN (bind_eq (s_in _ _ _) (andN (bind_eq (s_blks m h) (andN ?_)))))))
  refine bind_eq (y:= .inl ((bif iEq m.1 2 then mVF m else mV0 m),((bif iEq m.1 2 then mG0 m else bif iEq m.1 3 then mGF m else mG0 m),()))) ?_ ?_
  ·cases iEq m.1 2 with
   |true=>exact bind_eq (s_in _ _ _) (vY (bind_eq (s_in _ _ _) (vY (bind_eq (s_name _ h.2.2.2.2.2.2.1) rfl))))
   |false =>
    cases iEq m.1 3 with
    |true=>exact bind_eq (s_in _ _ _) (gY (bind_eq (s_in _ _ _) (gY (gY (bind_eq (s_name _ h.2.2.2.2.2.2.2.2.2.1) rfl)))))
    |false=>rfl
  ·refine andY (andY (bind_eq (s_root (mQ m)) ?_))
   exact rootY hN (bind_eq (s_cert (mQ m) h.q) (andY hN)) (bind_eq (s_cert (mQ m) h.q) (andY hN))
 ·refine congrArg (fun z=>some (B1 z)) ?_
  exact msg_same m.1 (mBs m).length (nameB m.2.1) (inR m.2.2.1 0 900) (blksB (mBs m) m.2.2.1) (mV0 m) (mG0 m) (mVF m) (mGF m) (rootB (mQ m)) _ (noneB (mT m)) _
theorem i_blks (l:List DBk) (ep:Int) (h:(Ty.sl e71).Ok l):F174 ((l,()),((ep,()),()))=some (B1 (blksB l ep&&iLe (l.length:Int) 400)):=by
 have hl:L63 l.length:=h.1
 have lp:=loopAllP (S:=Int×Unit) l (fun b=>iEq b.2.1 ep&&blockB b) (f:=F174.b0 ((l,()),((ep,()),()))) (fun k=>(k,())) (Sum.inl ((l.length:Int),())) (Sum.inr (B1 false)) (fun i hi=>?_) ?_
 ·unfold F174
  refine bind_eq lp ?_
  have e:l.all (fun b=>iEq b.2.1 ep&&blockB b)=blksB l ep:=by unfold blksB;exact congrArg (List.all l) (funext fun b=>Bool.and_comm _ _)
  rw [e]
  cases blksB l ep<;>rfl
 ·unfold F174.b0
  have hb:BOk l[i]:=Ok_mem h.2 (List.getElem_mem hi)
  refine lt_then (Int.ofNat_lt.2 hi) (bind_eq (getI_lt hi) (goN (bind_eq (i_blk _ hb) ?_)))
  rw [←nxt hi hl]
  exact goE
 ·unfold F174.b0
  exact lt_else (Int.le_refl _) rfl
theorem i_vote (v:D140) (h:L63 v.2.2.1.size):F177 (v,())=some (B1 (inR v.1 1 10000&&(inR v.2.1 0 100000&&nameB v.2.2.1))):=bind_eq (i_in _ _ _) (andY (bind_eq (i_in _ _ _) (andY (bind_eq (i_name _ h) rfl))))
theorem i_gone (g:D141) (q:DQc) (h:L63 g.2.2.1.size):F178 (g,(q,()))=some (B1 (inR g.1 1 10000&&(inR g.2.1 0 (iSub .i64 g.1 1)&&(iEq g.2.1 q.1&&nameB g.2.2.1)))):=bind_eq (i_in _ _ _) (andY (bind_eq (i_in _ _ _) (andY (andY (bind_eq (i_name _ h) rfl)))))
theorem caseY {b x y:Bool} {K L:Option ((Bool×Unit)×Unit)} (h1:K=some (B1 x)) (h2:L=some (B1 y)):(bif b then K else L)=some (B1 (bif b then x else y)):=by rw [h1,h2];cases b<;>rfl
theorem i_msg (m:DMs) (h:MOk m):F104 (m,())=some (B1 (msgB m)):=by
 unfold F104 msgB kindB
 refine bind_eq (i_name _ h.2.1) (andN (bind_eq (i_in _ _ _) (andN (bind_eq (i_qcf (mQ m) _ _ h.q) (andN (bind_eq (i_tcf (mT m) _ h.t) (andN (bind_eq (i_blks (mBs m) _ h.bs) (andN ?_)))))))))
 refine caseY (andY (andY (andY (bind_eq (i_root (mQ m)) (andY (bind_eq (i_none (mT m)) rfl)))))) (caseY (andY (bind_eq (i_vote (m.2.2.2.2.1,(m.2.2.2.2.2.1,(m.2.2.2.2.2.2.1,()))) h.2.2.2.2.2.2.1) (andY (andY (bind_eq (i_root (mQ m)) (andY (bind_eq (i_none (mT m)) rfl))))))) (caseY (andY (andY (bind_eq (i_gone (m.2.2.2.2.2.2.2.1,(m.2.2.2.2.2.2.2.2.1,(m.2.2.2.2.2.2.2.2.2.1,()))) (mQ m) h.2.2.2.2.2.2.2.2.2.1) (andY (bind_eq (i_none (mT m)) rfl))))) (caseY ?_ rfl)))
 exact and_yes
theorem allI_of {A:Type} {p:Nat→A→Bool}:∀{k:Nat} {l:List A},(∀i (h:i<l.length),p (k+i) l[i]=true)→allI p k l=true
 |_,[],_=>rfl
 |k,x::r,h=>by
  simp only [allI,Bool.and_eq_true]
  refine ⟨h 0 (Nat.zero_lt_succ _),allI_of (fun i hi=>?_)⟩
  have:=h (i+1) (by simpa using hi)
  rw [show k+1+i=k+(i+1) by omega]
  simpa using this
theorem sameT_sp {A:Type} {eq:A→A→Bool} {xs ys:List A}:sameT eq xs ys=true↔xs.length=ys.length∧∀i (h:i<xs.length) (h2:i<ys.length),eq xs[i] ys[i]=true:=by
 unfold sameT
 simp only [Bool.and_eq_true]
 constructor
 ·rintro ⟨h1,h2⟩
  have hlen:xs.length=ys.length:=by simp [iEq] at h1;omega
  refine ⟨hlen,fun i h h3=>?_⟩
  have:=allI_get h2 i h
  rw [Nat.zero_add,List.getElem?_eq_getElem h3] at this
  exact this
 ·rintro ⟨h1,h2⟩
  refine ⟨by rw [h1];exact iEq_self _,?_⟩
  refine allI_of (fun i h=>?_)
  rw [Nat.zero_add,List.getElem?_eq_getElem (by omega)]
  exact h2 i h _
theorem sameT_comm {A:Type} {eq:A→A→Bool} (he:∀a b,eq a b=eq b a) (xs ys:List A):sameT eq xs ys=sameT eq ys xs:=by
 rw [Bool.eq_iff_iff,sameT_sp,sameT_sp]
 constructor
 ·rintro ⟨h1,h2⟩
  exact ⟨h1.symm,fun i h h3=>by rw [he];exact h2 i h3 h⟩
 ·rintro ⟨h1,h2⟩
  exact ⟨h1.symm,fun i h h3=>by rw [he];exact h2 i h3 h⟩
theorem iEq_comm (a b:Int):iEq a b=iEq b a:=by simp only [iEq];exact decide_eq_decide.2 eq_comm
theorem txEq_comm (x y:D122):txEq x y=txEq y x:=by
 unfold txEq
 rw [iEq_comm x.1,sEq_comm x.2.1,sEq_comm x.2.2.1,iEq_comm x.2.2.2.1,iEq_comm x.2.2.2.2.1]
theorem valEq_comm (x y:D209):valEq x y=valEq y x:=by
 unfold valEq
 rw [sEq_comm x.1,iEq_comm x.2.1]
theorem strEq_comm (x y:D9):sEq x.1 y.1=sEq y.1 x.1:=sEq_comm _ _
theorem intEq_comm (x y:D3):iEq x.1 y.1=iEq y.1 x.1:=iEq_comm _ _
theorem sameBlk_comm (a b:DBk):sameBlkB a b=sameBlkB b a:=by
 unfold sameBlkB sameQcB sameTcB
 rw [iEq_comm a.1,iEq_comm a.2.1,iEq_comm a.2.2.1,sEq_comm a.2.2.2.1,iEq_comm (bQc a).1,iEq_comm (bQc a).2.1,sameT_comm (eq:=fun x y=>sEq x.1 y.1) strEq_comm (bQc a).2.2.1,iEq_comm (bTc a).1,sameT_comm (eq:=fun x y=>sEq x.1 y.1) strEq_comm (bTc a).2.1,sameT_comm (eq:=fun x y=>iEq x.1 y.1) intEq_comm (bTc a).2.2.1,sameT_comm txEq_comm (bTxs a),sameT_comm valEq_comm (bNext a),sEq_comm (bRoot a)]
 have e:bEq (bEnd a) (bEnd b)=bEq (bEnd b) (bEnd a):=by cases bEnd a<;>cases bEnd b<;>rfl
 rw [e]
def realB (bl:List DBk) (b:DBk):Bool:=match getI bl b.1 with
 |some z=>sameBlkB z b
 |none=>false
theorem getI_in {A:Type} {xs:List A} {k:Int} (h0:0≤k) (h:k<(xs.length:Int)):getI xs k=some (xs[k.toNat]'(by omega)):=by
 have:=getI_lt (xs:=xs) (i:=k.toNat) (by omega)
 rwa [show ((k.toNat:Nat):Int)=k by omega] at this
theorem getI_out {A:Type} {xs:List A} {k:Int} (h:k<0∨(xs.length:Int)≤k):getI xs k=none:=by
 unfold getI
 rcases h with h|h
 ·simp
  intro _
  omega
 ·simp
  intro _
  omega
theorem s_real (w:DWo) (l:List DBk) (hl:(Ty.sl e71).Ok l) (hb:(Ty.sl e71).Ok w.2.2.2.2.1):F94 (w,((l,()),()))=some (B1 (l.all (realB w.2.2.2.2.1))):=by
 have lp:=loopAllP (S:=Int×Unit) l (realB w.2.2.2.2.1) (f:=F94.b0 (w,((l,()),()))) (fun k=>(k,())) (Sum.inl ((l.length:Int),())) (Sum.inr (B1 false)) (fun i hi=>?_) ?_
 ·unfold F94
  refine bind_eq lp ?_
  cases l.all (realB w.2.2.2.2.1)<;>rfl
 ·unfold F94.b0 realB
  refine lt_then (Int.ofNat_lt.2 hi) (bind_eq (getI_lt hi) (bind_eq (s_in _ _ _) ?_))
  rw [←nxt hi hl.1]
  have hL:L63 w.2.2.2.2.1.length:=hb.1
  have hs:iSub .i64 (w.2.2.2.2.1.length:Int) 1=(w.2.2.2.2.1.length:Int) - 1:=iSub_small (by omega) (by omega)
  rw [hs]
  by_cases hr:0≤l[i].1∧l[i].1<(w.2.2.2.2.1.length:Int)
  ·have e:inR l[i].1 0 ((w.2.2.2.2.1.length:Int) - 1)=true:=by simp [inR,iLe];omega
   rw [e,getI_in hr.1 hr.2]
   refine bind_eq (getI_lt hi) (bind_eq (getI_in hr.1 hr.2) (bind_eq (getI_lt hi) (bind_eq (s_sameBlk _ _ (Ok_mem hb.2 (List.getElem_mem _))) goE)))
  ·have e:inR l[i].1 0 ((w.2.2.2.2.1.length:Int) - 1)=false:=by simp [inR,iLe];omega
   rw [e,getI_out (xs:=w.2.2.2.2.1) (k:=l[i].1) (by omega)]
   rfl
 ·unfold F94.b0
  exact lt_else (Int.le_refl _) rfl
theorem i_real (w:DWo) (l:List DBk) (hl:(Ty.sl e71).Ok l) (hb:(Ty.sl e71).Ok w.2.2.2.2.1) (hp:∀b∈l,0≤b.1):F103 (w,((l,()),()))=some (B1 (l.all (realB w.2.2.2.2.1))):=by
 have lp:=loopAllP (S:=Int×Unit) l (realB w.2.2.2.2.1) (f:=F103.b0 (w,((l,()),()))) (fun k=>(k,())) (Sum.inl ((l.length:Int),())) (Sum.inr (B1 false)) (fun i hi=>?_) ?_
 ·unfold F103
  refine bind_eq lp ?_
  cases l.all (realB w.2.2.2.2.1)<;>rfl
 ·unfold F103.b0 realB
  refine lt_then (Int.ofNat_lt.2 hi) (bind_eq (getI_lt hi) ?_)
  rw [←nxt hi hl.1]
  have h0:=hp _ (List.getElem_mem hi)
  by_cases hr:l[i].1<(w.2.2.2.2.1.length:Int)
  ·have e:iLe (w.2.2.2.2.1.length:Int) l[i].1=false:=by simp [iLe];omega
   rw [e,getI_in h0 hr]
   dsimp only
   rw [sameBlk_comm]
   exact bind_eq (i_sameBlk _ _ (Ok_mem hl.2 (List.getElem_mem _))) goE
  ·have e:iLe (w.2.2.2.2.1.length:Int) l[i].1=true:=by simp [iLe];omega
   rw [e,getI_out (xs:=w.2.2.2.2.1) (k:=l[i].1) (by omega)]
   rfl
 ·unfold F103.b0
  exact lt_else (Int.le_refl _) rfl
theorem s_nodeAt (w:DWo) (s:ByteArray) (hl:L63 w.2.2.2.1.length):F93 (w,((s,()),()))=some (I1 (idxOf w.2.2.2.1 (fun n=>sEq n.1 s))):=by
 have lp:=loopIdx (S:=Int×Unit) w.2.2.2.1 (fun n=>sEq n.1 s) (f:=F93.b0 (w,((s,()),()))) (fun k=>(k,())) (Sum.inl ((w.2.2.2.1.length:Int),())) (fun i=>Sum.inr (I1 i)) (fun i hi=>?_) ?_
 ·unfold F93
  refine bind_eq lp ?_
  rcases idxOf_cases w.2.2.2.1 (fun n=>sEq n.1 s) with ⟨h1,_,h3⟩|⟨j,hj,_,_,h1,_,h3⟩<;>rw [h1,h3]<;>rfl
 ·unfold F93.b0
  refine lt_then (Int.ofNat_lt.2 hi) (bind_eq (getI_lt hi) ?_)
  rw [←nxt hi hl]
 ·unfold F93.b0
  exact lt_else (Int.le_refl _) rfl
theorem idxFunc_nd (l:List DNd) (g:DNd→Option (Bool×Unit)) (p:DNd→Bool) (hg:∀x,g x=some (p x,())) (hl:L63 l.length):F179 ((l,()),((g,()),()))=some (I1 (idxOf l p)):=by
 have lp:=loopIdx (S:=Int×Unit) l p (f:=F179.b0 ((l,()),((g,()),()))) (fun k=>(k,())) (Sum.inl ((l.length:Int),())) (fun i=>Sum.inr (I1 i)) (fun i hi=>?_) ?_
 ·unfold F179
  refine bind_eq lp ?_
  rcases idxOf_cases l p with ⟨h1,_,h3⟩|⟨j,hj,_,_,h1,_,h3⟩<;>rw [h1,h3]<;>rfl
 ·unfold F179.b0
  refine lt_then (Int.ofNat_lt.2 hi) (bind_eq (getI_lt hi) (bind_eq (hg _) ?_))
  rw [←nxt hi hl]
 ·unfold F179.b0
  exact lt_else (Int.le_refl _) rfl
theorem i_nodeAt (w:DWo) (s:ByteArray) (hl:L63 w.2.2.2.1.length):F105 (w,((s,()),()))=some (I1 (idxOf w.2.2.2.1 (fun n=>sEq n.1 s))):=by
 unfold F105
 exact bind_eq (idxFunc_nd _ _ (fun n=>sEq n.1 s) (fun x=>rfl) hl) rfl
abbrev WOk (w:DWo):Prop:=e44.Ok w
def wNodeP (w:DWo) (i:Nat) (n:DNd):Bool:=nodeB n&&(!hasB w.2.2.1 n.1&&(behind (fun z y=>sLt z.1 y.1) w.2.2.2.1 i n&&(nTree n).all (realB w.2.2.2.2.1)))
def wMsgP (w:DWo) (m:DMs):Bool:=msgB m&&(w.2.2.2.1.any (fun n=>sEq n.1 m.2.1)&&(mBs m).all (realB w.2.2.2.2.1))
def wBlkP (i:Nat) (b:DBk):Bool:=iEq b.1 (i:Int)&&blockB b
def worldB (w:DWo):Bool:=ledgerB (w.1,(w.2.1,()))&&(namesB w.2.2.1&&(iLe (w.2.2.2.1.length:Int) 12&&(iLe (w.2.2.2.2.1.length:Int) 1000&&(iLe (w.2.2.2.2.2.2.1.length:Int) 400&&(allI wBlkP 0 w.2.2.2.2.1&&(allI (wNodeP w) 0 w.2.2.2.1&&w.2.2.2.2.2.2.1.all (wMsgP w)))))))
theorem WOk.accts {w:DWo} (h:WOk w):(Ty.sl e127).Ok w.2.1:=h.2.1
theorem WOk.foul {w:DWo} (h:WOk w):(Ty.sl e9).Ok w.2.2.1:=h.2.2.1
theorem WOk.nodes {w:DWo} (h:WOk w):(Ty.sl e135).Ok w.2.2.2.1:=h.2.2.2.1
theorem WOk.blocks {w:DWo} (h:WOk w):(Ty.sl e71).Ok w.2.2.2.2.1:=h.2.2.2.2.1
theorem WOk.net {w:DWo} (h:WOk w):(Ty.sl e143).Ok w.2.2.2.2.2.2.1:=h.2.2.2.2.2.2.1
theorem goC {b c:Bool} {R:Type} {C g x:R} (h:C=bif c then g else x):(bif b then C else x)=bif (b&&c) then g else x:=by rw [h];cases b<;>rfl
theorem goBoth {b c:Bool} {R:Type} {K C g x:R} (h1:K=bif b then C else x) (h2:C=bif c then g else x):K=bif (b&&c) then g else x:=by rw [h1];exact goC h2
theorem idx_neg {A R:Type} {xs:List A} {p:A→Bool} {C g x:R} {c:Bool} (h:C=bif c then g else x):(bif iLt (idxOf xs p) 0 then x else C)=bif (xs.any p&&c) then g else x:=by
 rcases idxOf_cases xs p with ⟨h1,_,h3⟩|⟨j,hj,_,_,h1,_,h3⟩
 ·rw [h1,h3];rfl
 ·rw [h1,h3,iLt_false (Int.natCast_nonneg j),Bool.true_and];exact h
theorem gt_ite {R:Type} {a b c:Int} (h:iLt a b= !iLe b a) {n x:R}:(bif iLt a b then x else n)=bif iLe b a then n else x:=by rw [h];cases iLe b a<;>rfl
theorem iLt_le (a b:Int):iLt a b= !iLe b a:=by rw [iLe_lt,Bool.not_not]
theorem gtN {a b:Int} {c:Bool} {K:Option ((Bool×Unit)×Unit)} (h:K=some (B1 c)):(bif iLt a b then some (B1 false) else K)=some (B1 (iLe b a&&c)):=by rw [h,iLt_le];cases iLe b a<;>rfl
theorem endLoop {b:Bool} {k:Int} {c:Bool} {L:Option (Sum (Int×Unit) ((Bool×Unit)×Unit))} {K:Int×Unit→Option ((Bool×Unit)×Unit)} (h:L=some (bif b then Sum.inl (k,()) else Sum.inr (B1 false))) (hK:K (k,())=some (B1 c)):L.bind (fun r=>Sum.elim K some r)=some (B1 (b&&c)):=by
 rw [h]
 cases b with
 |true=>exact hK
 |false=>rfl
theorem s_nodes15 (w:DWo) (h:WOk w):F95 (w,())=some (B1 (allI (wNodeP w) 0 w.2.2.2.1&&iLe (w.2.2.2.1.length:Int) 12)):=by
 have hl:L63 w.2.2.2.1.length:=h.nodes.1
 have lp:=loopAll (S:=Int×Unit) w.2.2.2.1 (wNodeP w) (f:=F95.b0 (w,())) (fun k=>(k,())) (Sum.inl ((w.2.2.2.1.length:Int),())) (Sum.inr (B1 false)) (fun i hi=>?_) ?_
 ·unfold F95
  exact endLoop lp rfl
 ·unfold F95.b0 wNodeP
  have hn:NOk w.2.2.2.1[i]:=Ok_mem h.nodes.2 (List.getElem_mem hi)
  refine lt_then (Int.ofNat_lt.2 hi) (bind_eq (getI_lt hi) (bind_eq (s_node _ hn) (goN (bind_eq (s_has _ _ h.foul.1) (goT ?_)))))
  rw [←nxt hi hl]
  refine goBoth (asc_step hi hl (fun z=>goE)) ?_
  exact bind_eq (s_real w _ hn.tree h.blocks) goE
 ·unfold F95.b0
  exact lt_else (Int.le_refl _) rfl
theorem s_world (w:DWo) (h:WOk w):F52 (w,())=some (B1 (worldB w)):=by
 have lp0:=loopAll (S:=Int×Unit) w.2.2.2.2.1 wBlkP (f:=F52.b0 (w,())) (fun k=>(k,())) (Sum.inl ((w.2.2.2.2.1.length:Int),())) (Sum.inr (B1 false)) (fun i hi=>?_) ?_
 ·have lp1:=loopAllP (S:=Int×Unit) w.2.2.2.2.2.2.1 (wMsgP w) (f:=F52.b1 (w,())) (fun k=>(k,())) (Sum.inl ((w.2.2.2.2.2.2.1.length:Int),())) (Sum.inr (B1 false)) (fun i hi=>?_) ?_
  ·refine Eq.trans (b:=some (B1 (ledgerB (w.1,(w.2.1,()))&&(namesB w.2.2.1&&(iLe (w.2.2.2.2.1.length:Int) 1000&&(iLe (w.2.2.2.2.2.2.1.length:Int) 400&&(allI wBlkP 0 w.2.2.2.2.1&&(w.2.2.2.2.2.2.1.all (wMsgP w)&&(allI (wNodeP w) 0 w.2.2.2.1&&iLe (w.2.2.2.1.length:Int) 12))))))))) ?_ ?_
   ·unfold F52
    exact bind_eq (s_ledger (w.1,(w.2.1,())) h.accts) (andN (bind_eq (s_names _ h.foul) (andN (gtN (gtN (endLoop lp0 (endLoop lp1 (bind_eq (s_nodes15 w h) rfl))))))))
   ·unfold worldB
    refine congrArg (fun z=>some (B1 z)) ?_
    generalize ledgerB (w.1,(w.2.1,()))=p1
    generalize namesB w.2.2.1=p2
    generalize iLe (w.2.2.2.2.1.length:Int) 1000=p3
    generalize iLe (w.2.2.2.2.2.2.1.length:Int) 400=p4
    generalize allI wBlkP 0 w.2.2.2.2.1=p5
    generalize w.2.2.2.2.2.2.1.all (wMsgP w)=p6
    generalize allI (wNodeP w) 0 w.2.2.2.1=p7
    generalize iLe (w.2.2.2.1.length:Int) 12=p8
    simp only [Bool.and_comm,Bool.and_left_comm,Bool.and_assoc]
  ·unfold F52.b1 wMsgP
   have hm:MOk w.2.2.2.2.2.2.1[i]:=Ok_mem h.net.2 (List.getElem_mem hi)
   refine lt_then (Int.ofNat_lt.2 hi) (bind_eq (getI_lt hi) (bind_eq (s_msg _ hm) (goN (bind_eq (getI_lt hi) (bind_eq (s_nodeAt w _ h.nodes.1) (idx_neg (bind_eq (getI_lt hi) (bind_eq (s_real w _ hm.bs h.blocks) ?_))))))))
   rw [←nxt hi h.net.1]
   exact goE
  ·unfold F52.b1
   exact lt_else (Int.le_refl _) rfl
 ·unfold F52.b0 wBlkP
  refine lt_then (Int.ofNat_lt.2 hi) (bind_eq (getI_lt hi) (goN (bind_eq (getI_lt hi) (bind_eq (s_blk _ (Ok_mem h.blocks.2 (List.getElem_mem hi))) ?_))))
  rw [←nxt hi h.blocks.1]
  exact goE
 ·unfold F52.b0
  exact lt_else (Int.le_refl _) rfl
theorem blk_id {b:DBk} (h:blockB b=true):0≤b.1:=by
 unfold blockB at h
 simp only [Bool.and_eq_true] at h
 have h1:inR b.1 0 100000=true:=h.1
 have h3:0≤b.1∧b.1≤100000:=by simpa [inR,iLe] using h1
 exact h3.1
theorem node_ids {n:DNd} (h:nodeB n=true):∀b∈nTree n,0≤b.1:=by
 unfold nodeB treeB at h
 simp only [Bool.and_eq_true] at h
 have ht:=h.2.2.2.2.2.1.1
 intro b hb
 obtain ⟨i,hi,rfl⟩:=List.getElem_of_mem hb
 have:=allI_get ht i hi
 rw [Nat.zero_add] at this
 unfold treeQ at this
 simp only [Bool.and_eq_true] at this
 exact blk_id this.1.1
theorem msg_ids {m:DMs} (h:msgB m=true):∀b∈mBs m,0≤b.1:=by
 unfold msgB blksB at h
 simp only [Bool.and_eq_true] at h
 have ht:=h.2.2.2.2.1.1
 intro b hb
 have:=List.all_eq_true.1 ht b hb
 simp only [Bool.and_eq_true] at this
 exact blk_id this.1
theorem goNif {b c:Bool} {R:Type} {K g x:R} (h:b=true→K=bif c then g else x):(bif !b then x else K)=bif (b&&c) then g else x:=by
 cases b with
 |true=>exact h rfl
 |false=>rfl
theorem i_world (w:DWo) (h:WOk w):F56 (w,())=some (B1 (worldB w)):=by
 have lp0:=loopAll (S:=Int×Unit) w.2.2.2.2.1 wBlkP (f:=F56.b0 (w,())) (fun k=>(k,())) (Sum.inl ((w.2.2.2.2.1.length:Int),())) (Sum.inr (B1 false)) (fun i hi=>?_) ?_
 ·have lp1:=loopAll (S:=Int×Unit) w.2.2.2.1 (wNodeP w) (f:=F56.b1 (w,())) (fun k=>(k,())) (Sum.inl ((w.2.2.2.1.length:Int),())) (Sum.inr (B1 false)) (fun i hi=>?_) ?_
  ·have lp2:=loopAllP (S:=Int×Unit) w.2.2.2.2.2.2.1 (wMsgP w) (f:=F56.b2 (w,())) (fun k=>(k,())) (Sum.inl ((w.2.2.2.2.2.2.1.length:Int),())) (Sum.inr (B1 false)) (fun i hi=>?_) ?_
   ·unfold F56 worldB
    refine bind_eq (i_ledger (w.1,(w.2.1,())) h.accts) (andN (bind_eq (i_names _ h.foul) (andN (gtN (gtN (gtN (endLoop lp0 (endLoop lp1 ?_))))))))
    refine (endLoop lp2 (c:=true) rfl).trans ?_
    rw [Bool.and_true]
   ·unfold F56.b2 wMsgP
    have hm:MOk w.2.2.2.2.2.2.1[i]:=Ok_mem h.net.2 (List.getElem_mem hi)
    refine lt_then (Int.ofNat_lt.2 hi) (bind_eq (getI_lt hi) (bind_eq (i_msg _ hm) (goNif (fun hb=>bind_eq (i_nodeAt w _ h.nodes.1) (idx_neg (bind_eq (i_real w _ hm.bs h.blocks (msg_ids hb)) ?_))))))
    rw [←nxt hi h.net.1]
    exact goE
   ·unfold F56.b2
    exact lt_else (Int.le_refl _) rfl
  ·unfold F56.b1 wNodeP
   have hn:NOk w.2.2.2.1[i]:=Ok_mem h.nodes.2 (List.getElem_mem hi)
   refine lt_then (Int.ofNat_lt.2 hi) (bind_eq (getI_lt hi) (bind_eq (i_node _ hn) (goNif (fun hb=>bind_eq (i_has _ _ h.foul.1) (goT ?_)))))
   rw [←nxt hi h.nodes.1]
   refine goBoth (asc_step hi h.nodes.1 (fun z=>ite_tri)) ?_
   exact bind_eq (i_real w _ hn.tree h.blocks (node_ids hb)) goE
  ·unfold F56.b1
   exact lt_else (Int.le_refl _) rfl
 ·unfold F56.b0 wBlkP
  refine lt_then (Int.ofNat_lt.2 hi) (bind_eq (getI_lt hi) (goN (bind_eq (i_blk _ (Ok_mem h.blocks.2 (List.getElem_mem hi))) ?_)))
  rw [←nxt hi h.blocks.1]
  exact goE
 ·unfold F56.b0
  exact lt_else (Int.le_refl _) rfl
theorem BlockL_of {b:DBk} (h:e71.w b≤1048576):BlockL b:=⟨w_ln (w_hd (w_tl (w_tl (w_tl (w_tl (w_tl (w_tl h))))))),w_ln (w_hd (w_tl (w_tl (w_tl (w_tl (w_tl (w_tl (w_tl (w_tl h))))))))),w_ln (w_hd (w_tl (w_tl (w_tl (w_tl (w_tl (w_tl (w_tl (w_tl (w_tl h)))))))))),w_ln (w_hd (w_tl (w_tl (w_tl (w_tl (w_tl (w_tl (w_tl (w_tl (w_tl (w_tl h))))))))))),w_ln (w_hd (w_tl (w_tl (w_tl (w_tl (w_tl (w_tl (w_tl (w_tl (w_tl (w_tl (w_tl (w_tl h)))))))))))))⟩
theorem BlocksL_of {l:List DBk} (h:(Ty.sl e71).w l≤1048576):∀b∈l,BlockL b:=fun b hb=>BlockL_of (w_mem h hb)
theorem ProofL_of {p:DPr} (h:e211.w p≤1048576):ProofL p:=⟨w_ln (w_hd (w_tl h)),BlocksL_of (w_hd (w_tl h)),w_ln (w_hd (w_tl (w_tl (w_tl (w_tl h)))))⟩
def NodeL (n:DNd):Prop:=AcctL (nBase n).2.1∧W1 (nSet n).length∧W1 (nTree n).length∧(∀b∈nTree n,BlockL b)∧W1 (List.length (nHigh n).2.2.1)∧W1 (List.length (nTc n).2.1)∧W1 (List.length (nTc n).2.2.1)∧W1 (List.length (nVotes n))∧W1 (List.length (nGones n))∧W1 (List.length (nDone n))∧W1 (List.length (nPool n))∧W1 (List.length (nPast n))∧∀p∈nPast n,ProofL p
theorem NodeL_of {n:DNd} (h:e135.w n≤1048576):NodeL n:=⟨AcctL_of (w_hd (w_tl (w_tl (w_tl h)))),w_ln (w_hd (w_tl (w_tl (w_tl (w_tl h))))),w_ln (w_hd (w_tl (w_tl (w_tl (w_tl (w_tl h)))))),BlocksL_of (w_hd (w_tl (w_tl (w_tl (w_tl (w_tl h)))))),w_ln (w_hd (w_tl (w_tl (w_tl (w_tl (w_tl (w_tl (w_tl (w_tl (w_tl (w_tl h))))))))))),w_ln (w_hd (w_tl (w_tl (w_tl (w_tl (w_tl (w_tl (w_tl (w_tl (w_tl (w_tl (w_tl (w_tl h))))))))))))),w_ln (w_hd (w_tl (w_tl (w_tl (w_tl (w_tl (w_tl (w_tl (w_tl (w_tl (w_tl (w_tl (w_tl (w_tl h)))))))))))))),w_ln (w_hd (w_tl (w_tl (w_tl (w_tl (w_tl (w_tl (w_tl (w_tl (w_tl (w_tl (w_tl (w_tl (w_tl (w_tl (w_tl h)))))))))))))))),w_ln (w_hd (w_tl (w_tl (w_tl (w_tl (w_tl (w_tl (w_tl (w_tl (w_tl (w_tl (w_tl (w_tl (w_tl (w_tl (w_tl (w_tl h))))))))))))))))),w_ln (w_hd (w_tl (w_tl (w_tl (w_tl (w_tl (w_tl (w_tl (w_tl (w_tl (w_tl (w_tl (w_tl (w_tl (w_tl (w_tl (w_tl (w_tl h)))))))))))))))))),w_ln (w_hd (w_tl (w_tl (w_tl (w_tl (w_tl (w_tl (w_tl (w_tl (w_tl (w_tl (w_tl (w_tl (w_tl (w_tl (w_tl (w_tl (w_tl (w_tl h))))))))))))))))))),w_ln (w_hd (w_tl (w_tl (w_tl (w_tl (w_tl (w_tl (w_tl (w_tl (w_tl (w_tl (w_tl (w_tl (w_tl (w_tl (w_tl (w_tl (w_tl (w_tl (w_tl h)))))))))))))))))))),fun p hp=>ProofL_of (w_mem (w_hd (w_tl (w_tl (w_tl (w_tl (w_tl (w_tl (w_tl (w_tl (w_tl (w_tl (w_tl (w_tl (w_tl (w_tl (w_tl (w_tl (w_tl (w_tl (w_tl h)))))))))))))))))))) hp)⟩
theorem bl_tr:∀{x y z:List UInt8},Op.bytesLess x y=true→Op.bytesLess y z=true→Op.bytesLess x z=true
 |x,[],_,h,_=>by cases x<;>simp [Op.bytesLess] at h
 |_,b::y,[],_,h=>by simp [Op.bytesLess] at h
 | [],_::_,_::_,_,_=>rfl
 |a::x,b::y,c::z,h1,h2=>by
  simp only [Op.bytesLess,Bool.or_eq_true,Bool.and_eq_true,decide_eq_true_eq,beq_iff_eq] at h1 h2 ⊢
  rcases h1 with h1|⟨rfl,h1⟩
  ·rcases h2 with h2|⟨rfl,h2⟩
   ·exact .inl (UInt8.lt_trans h1 h2)
   ·exact .inl h1
  ·rcases h2 with h2|⟨rfl,h2⟩
   ·exact .inl h2
   ·exact .inr ⟨rfl,bl_tr h1 h2⟩
structure Ord3 {A:Type} (lt eq:A→A→Bool):Prop where
 refl:∀a,eq a a=true
 symm:∀a b,eq a b=true→eq b a=true
 etr:∀a b c,eq a b=true→eq b c=true→eq a c=true
 lte:∀a b c,lt a b=true→eq b c=true→lt a c=true
 elt:∀a b c,eq a b=true→lt b c=true→lt a c=true
 tr:∀a b c,lt a b=true→lt b c=true→lt a c=true
 irr:∀a b,lt a b=true→eq a b=false
 tot:∀a b,lt a b=false→eq a b=false→lt b a=true
theorem ord_int:Ord3 iLt iEq where
 refl a:=iEq_self a
 symm a b h:=by simp only [iEq,decide_eq_true_eq] at *;omega
 etr a b c h k:=by simp only [iEq,decide_eq_true_eq] at *;omega
 lte a b c h k:=by simp only [iEq,iLt,decide_eq_true_eq] at *;omega
 elt a b c h k:=by simp only [iEq,iLt,decide_eq_true_eq] at *;omega
 tr a b c h k:=by simp only [iLt,decide_eq_true_eq] at *;omega
 irr a b h:=by simp only [iEq,iLt,decide_eq_true_eq,decide_eq_false_iff_not] at *;omega
 tot a b h k:=by simp only [iEq,iLt,decide_eq_true_eq,decide_eq_false_iff_not] at *;omega
theorem sEq_list {a b:ByteArray}:sEq a b=true↔a.toList=b.toList:=by unfold sEq;simp
theorem ord_str:Ord3 sLt sEq where
 refl a:=sEq_self a
 symm a b h:=sEq_list.2 (sEq_list.1 h).symm
 etr a b c h k:=sEq_list.2 ((sEq_list.1 h).trans (sEq_list.1 k))
 lte a b c h k:=by unfold sLt at *;rw [←sEq_list.1 k];exact h
 elt a b c h k:=by unfold sLt at *;rw [sEq_list.1 h];exact k
 tr a b c h k:=bl_tr h k
 irr a b h:=by
  cases hq:sEq a b with
  |false=>rfl
  |true=>rw [sLt_eq hq] at h;cases h
 tot a b h k:=by
  have:=sLt_tri a b
  rw [h,k] at this
  cases hx:sLt b a with
  |true=>rfl
  |false=>rw [hx] at this;cases this
theorem Ord3.comap {A B:Type} {lt eq:B→B→Bool} (h:Ord3 lt eq) (f:A→B):Ord3 (fun a b=>lt (f a) (f b)) (fun a b=>eq (f a) (f b)) :=
 ⟨fun a=>h.refl _,fun a b=>h.symm _ _,fun a b c=>h.etr _ _ _,fun a b c=>h.lte _ _ _,fun a b c=>h.elt _ _ _,fun a b c=>h.tr _ _ _,fun a b=>h.irr _ _,fun a b=>h.tot _ _⟩
theorem lx {e x y:Bool}:(bif !e then x else y)=true↔(e=false∧x=true)∨(e=true∧y=true):=by cases e<;>simp
theorem lx0 {e x y:Bool}:(bif !e then x else y)=false↔(e=false∧x=false)∨(e=true∧y=false):=by cases e<;>simp
theorem Ord3.lex {A:Type} {l1 e1 l2 e2:A→A→Bool} (h:Ord3 l1 e1) (k:Ord3 l2 e2):Ord3 (fun a b=>bif !e1 a b then l1 a b else l2 a b) (fun a b=>e1 a b&&e2 a b) where
 refl a:=by rw [h.refl,k.refl];rfl
 symm a b q:=by
  simp only [Bool.and_eq_true] at q ⊢
  exact ⟨h.symm _ _ q.1,k.symm _ _ q.2⟩
 etr a b c q r:=by
  simp only [Bool.and_eq_true] at q r ⊢
  exact ⟨h.etr _ _ _ q.1 r.1,k.etr _ _ _ q.2 r.2⟩
 lte a b c q r:=by
  simp only [Bool.and_eq_true] at r
  rcases lx.1 q with ⟨u,v⟩|⟨u,v⟩
  ·have:=h.lte _ _ _ v r.1
   exact lx.2 (.inl ⟨h.irr _ _ this,this⟩)
  ·exact lx.2 (.inr ⟨h.etr _ _ _ u r.1,k.lte _ _ _ v r.2⟩)
 elt a b c q r:=by
  simp only [Bool.and_eq_true] at q
  rcases lx.1 r with ⟨u,v⟩|⟨u,v⟩
  ·have:=h.elt _ _ _ q.1 v
   exact lx.2 (.inl ⟨h.irr _ _ this,this⟩)
  ·exact lx.2 (.inr ⟨h.etr _ _ _ q.1 u,k.elt _ _ _ q.2 v⟩)
 tr a b c q r:=by
  rcases lx.1 q with ⟨u,v⟩|⟨u,v⟩
  ·rcases lx.1 r with ⟨u2,v2⟩|⟨u2,v2⟩
   ·have:=h.tr _ _ _ v v2
    exact lx.2 (.inl ⟨h.irr _ _ this,this⟩)
   ·have:=h.lte _ _ _ v u2
    exact lx.2 (.inl ⟨h.irr _ _ this,this⟩)
  ·rcases lx.1 r with ⟨u2,v2⟩|⟨u2,v2⟩
   ·have:=h.elt _ _ _ u v2
    exact lx.2 (.inl ⟨h.irr _ _ this,this⟩)
   ·exact lx.2 (.inr ⟨h.etr _ _ _ u u2,k.tr _ _ _ v v2⟩)
 irr a b q:=by
  rcases lx.1 q with ⟨u,v⟩|⟨u,v⟩
  ·rw [u];rfl
  ·rw [k.irr _ _ v,Bool.and_false]
 tot a b q r:=by
  rcases lx0.1 q with ⟨u,v⟩|⟨u,v⟩
  ·have:=h.tot _ _ v u
   exact lx.2 (.inl ⟨h.irr _ _ this,this⟩)
  ·rw [u,Bool.true_and] at r
   exact lx.2 (.inr ⟨h.symm _ _ u,k.tot _ _ v r⟩)
theorem placeE {A:Type} (p:A→Bool):∀l:List A,∃K,K≤l.length∧(∀i (h:i<l.length),i<K→p l[i]=true)∧(∀h:K<l.length,p l[K]=false)
 | []=>⟨0,Nat.le_refl _,fun i h=>absurd h (Nat.not_lt_zero _),fun h=>absurd h (Nat.not_lt_zero _)⟩
 |y::r=>by
  cases hp:p y with
  |false=>exact ⟨0,Nat.zero_le _,fun i _ h=>absurd h (Nat.not_lt_zero _),fun _=>hp⟩
  |true =>
   obtain ⟨K,h1,h2,h3⟩:=placeE p r
   refine ⟨K+1,by simpa using h1,fun i h hi=>?_,fun h=>h3 (by simpa using h)⟩
   cases i with
   |zero=>exact hp
   |succ i=>exact h2 i (by simpa using h) (by omega)
theorem loopWhile {S E A:Type} (xs:List A) (q:A→Bool) {f:S→Option (Sum S E)} (mk:Int→S) (R:Int→E) (hstep:∀i (h:i<xs.length),f (mk (i:Int))=bif q xs[i] then some (.inl (mk ((i+1:Nat):Int))) else some (.inr (R (i:Int)))) (hend:f (mk (xs.length:Int))=some (.inr (R (xs.length:Int))))
  {p:Nat} (hp:p≤xs.length) (h1:∀i (h:i<xs.length),i<p→q xs[i]=true) (h2:∀h:p<xs.length,q xs[p]=false):loopF f (mk 0)=some (R (p:Int)) :=
 loopF_trace (fun i=>mk (i:Int)) p (fun i hi=>by rw [hstep i (Nat.lt_of_lt_of_le hi hp),h1 i (Nat.lt_of_lt_of_le hi hp) hi];rfl) (by
  rcases Nat.lt_or_ge p xs.length with h|h
  ·rw [hstep p h,h2 h];rfl
  ·have:p=xs.length:=Nat.le_antisymm hp h
   subst this;exact hend)
def Asc {A:Type} (lt:A→A→Bool) (l:List A):Prop:=∀i j (hi:i<l.length) (hj:j<l.length),i<j→lt l[i] l[j]=true
theorem asc_of {A:Type} {lt:A→A→Bool} (tr:∀a b c,lt a b=true→lt b c=true→lt a c=true) {l:List A} (h:∀i (hi:i<l.length),behind lt l i l[i]=true):Asc lt l:=by
 have key:∀d i (hi:i<l.length) (hj:i+1+d<l.length),lt l[i] l[i+1+d]=true:=by
  intro d
  induction d with
  |zero =>
   intro i hi hj
   have:=h (i+1) hj
   rwa [behind_succ hi] at this
  |succ d ih =>
   intro i hi hj
   have h1:=h (i+1+d+1) hj
   rw [behind_succ (by omega)] at h1
   exact tr _ _ _ (ih i hi (by omega)) h1
 intro i j hi hj hij
 have h1:=key (j - (i+1)) i hi (by omega)
 have h2:i+1+(j - (i+1))=j:=by omega
 simp only [h2] at h1
 exact h1
def accAt (l:List D127) (s:ByteArray):Int:=idxOf l (fun a=>sEq a.1 s)
theorem s_acctAt (l:List D127) (s:ByteArray) (hl:L63 l.length):F121 ((l,()),((s,()),()))=some (I1 (accAt l s)):=by
 have lp:=loopIdx (S:=Int×Unit) l (fun a=>sEq a.1 s) (f:=F121.b0 ((l,()),((s,()),()))) (fun k=>(k,())) (Sum.inl ((l.length:Int),())) (fun i=>Sum.inr (I1 i)) (fun i hi=>?_) ?_
 ·unfold F121 accAt
  refine bind_eq lp ?_
  rcases idxOf_cases l (fun a=>sEq a.1 s) with ⟨h1,_,h3⟩|⟨j,hj,_,_,h1,_,h3⟩<;>rw [h1,h3]<;>rfl
 ·unfold F121.b0
  refine lt_then (Int.ofNat_lt.2 hi) (bind_eq (getI_lt hi) ?_)
  rw [←nxt hi hl]
 ·unfold F121.b0
  exact lt_else (Int.le_refl _) rfl
theorem idxFunc_acct (l:List D127) (g:D127→Option (Bool×Unit)) (p:D127→Bool) (hg:∀x,g x=some (p x,())) (hl:L63 l.length):F196 ((l,()),((g,()),()))=some (I1 (idxOf l p)):=by
 have lp:=loopIdx (S:=Int×Unit) l p (f:=F196.b0 ((l,()),((g,()),()))) (fun k=>(k,())) (Sum.inl ((l.length:Int),())) (fun i=>Sum.inr (I1 i)) (fun i hi=>?_) ?_
 ·unfold F196
  refine bind_eq lp ?_
  rcases idxOf_cases l p with ⟨h1,_,h3⟩|⟨j,hj,_,_,h1,_,h3⟩<;>rw [h1,h3]<;>rfl
 ·unfold F196.b0
  refine lt_then (Int.ofNat_lt.2 hi) (bind_eq (getI_lt hi) (bind_eq (hg _) ?_))
  rw [←nxt hi hl]
 ·unfold F196.b0
  exact lt_else (Int.le_refl _) rfl
theorem i_acctAt (l:List D127) (s:ByteArray) (hl:L63 l.length):F135 ((l,()),((s,()),()))=some (I1 (accAt l s)):=by
 unfold F135
 exact bind_eq (idxFunc_acct l _ (fun a=>sEq a.1 s) (fun x=>rfl) hl) rfl
def leaveIn (n at':Int):List D129→List D129
 | []=> [(n,(at',()))]
 |x::r=>bif iEq x.2.1 at' then (iAdd .i64 x.1 n,(x.2.1,()))::r else bif iLt at' x.2.1 then (n,(at',()))::x::r else x::leaveIn n at' r
def leaveStep (n at':Int) (s:List D129×Bool) (x:D129):List D129×Bool :=
 bif s.2 then (s.1++ [x],true) else bif iEq x.2.1 at' then (s.1++ [(iAdd .i64 x.1 n,(x.2.1,()))],true) else bif iLt at' x.2.1 then (s.1++ [(n,(at',()))]++ [x],true) else (s.1++ [x],false)
def leaveEnd (n at':Int) (s:List D129×Bool):List D129:=bif s.2 then s.1 else s.1++ [(n,(at',()))]
theorem leave_put (n at':Int):∀(xs a:List D129),leaveEnd n at' (xs.foldl (leaveStep n at') (a,true))=a++xs
 | [],a=>by simp [leaveEnd]
 |x::r,a=>by
  have:=leave_put n at' r (a++ [x])
  simpa [leaveStep] using this
theorem leave_fold (n at':Int):∀(xs a:List D129),leaveEnd n at' (xs.foldl (leaveStep n at') (a,false))=a++leaveIn n at' xs
 | [],a=>rfl
 |x::r,a=>by
  simp only [List.foldl_cons,leaveIn]
  unfold leaveStep
  cases h1:iEq x.2.1 at' with
  |true=>exact (leave_put n at' r _).trans (by simp)
  |false =>
   cases h2:iLt at' x.2.1 with
   |true=>exact (leave_put n at' r _).trans (by simp)
   |false=>exact (leave_fold n at' r _).trans (by simp)
theorem s_leave (xs:List D129) (n at':Int) (hl:xs.length≤4):F189 ((xs,()),((n,()),((at',()),())))=some ((leaveIn n at' xs,()),()):=by
 have hl63:L63 xs.length:=by unfold L63;omega
 have lp:=(loopFold (S:=List D129×(Bool×(Int×Unit))) xs (leaveStep n at') (fun i s=>s.1.length≤2*i) (f:=F189.b0 ((xs,()),((n,()),((at',()),())))) (fun s k=>(s.1,(s.2,(k,())))) (fun s=>Sum.inl (s.1,(s.2,((xs.length:Int),())))) ([],false) (Nat.le_refl _) (fun i hi s hI=>?_) (fun s _=>?_))
 ·unfold F189
  refine bind_eq lp.1 ?_
  have hlen:=lp.2
  have hf:=leave_fold n at' xs []
  rw [List.nil_append] at hf
  rw [←hf]
  unfold leaveEnd
  revert hlen
  cases (xs.foldl (leaveStep n at') ([],false)) with
  |mk a b =>
   intro hlen
   cases b with
   |true=>rfl
   |false =>
    have:room (a.length+1) 16=true:=room_ok (by simp only at hlen;omega) (by decide) (by decide)
    simp only [Sum.elim_inl,List.length_singleton,this]
    rfl
 ·obtain ⟨a,b⟩:=s
  simp only at hI
  refine ⟨?_,?_⟩
  ·unfold F189.b0
   refine lt_then (Int.ofNat_lt.2 hi) (bind_eq (getI_lt hi) ?_)
   have r1:room (a.length+1) 16=true:=room_ok (by omega) (by decide) (by decide)
   have r2:room (a.length+1+1) 16=true:=room_ok (by omega) (by decide) (by decide)
   unfold leaveStep
   rw [←nxt hi hl63]
   cases b with
   |true =>
    show (bif room (a.length+1) 16 then _ else none)=_
    rw [r1];rfl
   |false =>
    cases h1:iEq xs[i].2.1 at' with
    |true =>
     simp only [h1]
     show (bif room (a.length+1) 16 then _ else none)=_
     rw [r1];rfl
    |false =>
     cases h2:iLt at' xs[i].2.1 with
     |true =>
      simp only [h1,h2,List.length_singleton,r1]
      show (bif room ((a++ [(n,(at',()))]).length+1) 16 then _ else none)=_
      rw [List.length_append,List.length_singleton,r2];rfl
     |false =>
      simp only [h1,h2]
      show (bif room (a.length+1) 16 then _ else none)=_
      rw [r1];rfl
  ·unfold leaveStep
   cases b with
   |true=>simp only [cond_true,List.length_append,List.length_singleton];omega
   |false =>
    simp only [cond_false]
    cases h1:iEq xs[i].2.1 at' with
    |true=>simp only [cond_true,List.length_append,List.length_singleton];omega
    |false =>
     simp only [cond_false]
     cases h2:iLt at' xs[i].2.1<;>simp only [cond_true,cond_false,List.length_append,List.length_singleton]<;>omega
 ·unfold F189.b0
  exact lt_else (Int.le_refl _) rfl
def hole {A:Type} (l:List A) (k:Nat) (y:A):List A:=l.take k++y::l.drop k
theorem hole_len {A:Type} {l:List A} {k:Nat} {y:A} (h:k≤l.length):(hole l k y).length=l.length+1:=by
 unfold hole;rw [List.length_append,List.length_cons,List.length_take,List.length_drop];omega
theorem hole_set {A:Type} {l:List A} {k:Nat} {y z:A} (h:k≤l.length):List.set (hole l k y) k z=hole l k z:=by
 unfold hole
 rw [List.set_append_right _ _ (by rw [List.length_take];omega)]
 have:k - (l.take k).length=0:=by rw [List.length_take];omega
 rw [this,List.set_cons_zero]
theorem hole_at {A:Type} {l:List A} {k:Nat} {y:A} (h:k≤l.length):(hole l k y)[k]?=some y:=by
 unfold hole
 rw [List.getElem?_append_right (by rw [List.length_take];omega)]
 have:k - (l.take k).length=0:=by rw [List.length_take];omega
 rw [this,List.getElem?_cons_zero]
theorem hole_lo {A:Type} {l:List A} {k i:Nat} {y:A} (h:k≤l.length) (hi:i<k):(hole l k y)[i]?=l[i]?:=by
 unfold hole
 rw [List.getElem?_append_left (by rw [List.length_take];omega),List.getElem?_take_of_lt hi]
theorem hole_down {A:Type} {l:List A} {k:Nat} (h:k<l.length):hole l (k+1) l[k]=hole l k l[k]:=by
 unfold hole
 rw [List.take_succ_eq_append_getElem h,List.drop_eq_getElem_cons h,List.append_assoc];rfl
theorem hole_end {A:Type} {l:List A} {y:A}:hole l l.length y=l++ [y]:=by
 unfold hole;rw [List.take_length,List.drop_length]
theorem getI_of {A:Type} {l:List A} {k:Nat} {x:A} (h:l[k]?=some x):getI l (k:Int)=some x:=by
 obtain ⟨hk,rfl⟩:=List.getElem?_eq_some_iff.1 h
 exact getI_lt hk
theorem getN_of {A:Type} {l:List A} {k:Nat} {x:A} (h:l[k]?=some x):getN l (Int.toNat (k:Int))=some x:=h
theorem thenT {A:Type} {b:Bool} {t e r:A} (h:b=true) (h2:t=r):(bif b then t else e)=r:=by rw [h];exact h2
theorem st2 {A B F:Type} {a a':A} {b b':B} (h1:a=a') (h2:b=b'):(some (Sum.inl (a,(b,()))):Option (Sum (A×(B×Unit)) F))=some (Sum.inl (a',(b',()))):=by rw [h1,h2]
theorem ins_one (es:Tys) (bts:Nat) (xs:List es.D) (y:es.D) (p:Nat) (hp:p≤xs.length) (hr:room (xs.length+1) bts=true):insF es bts ((xs,()),(((p:Int),()),(([y],()),())))=some ((hole xs p y,()),()):=by
 unfold insF
 have h1:iLe 0 (p:Int)=true:=by simp [iLe]
 have h2:iLe (p:Int) (xs.length:Int)=true:=by simp only [iLe,decide_eq_true_eq];omega
 show (bif iLe 0 (p:Int)&&(iLe (p:Int) (xs.length:Int)&&room (xs.length+1) bts) then _ else none)=_
 rw [h1,h2,hr];rfl
theorem lt_not {a b:Int} (h:iLt a b=true):iEq a b=false∧iLt b a=false:=by
 simp only [iLt,iEq,decide_eq_true_eq,decide_eq_false_iff_not] at *;omega
theorem leave_hit (n at':Int):∀(xs:List D129) (p:Nat) (hp:p<xs.length),(∀i (h:i<xs.length),i<p→iLt xs[i].2.1 at'=true)→iEq xs[p].2.1 at'=true→leaveIn n at' xs=xs.set p (iAdd .i64 xs[p].1 n,xs[p].2)
 |x::r,0,_,_,h=>by simp only [leaveIn,List.getElem_cons_zero] at h ⊢;rw [h];rfl
 |x::r,p+1,hp,hb,h=>by
  have h0:=lt_not (hb 0 (by simp) (by omega))
  simp only [List.getElem_cons_zero] at h0
  have ih:=leave_hit n at' r p (by simpa using hp) (fun i hi hip=>hb (i+1) (Nat.succ_lt_succ hi) (Nat.succ_lt_succ hip)) (by simpa using h)
  simp only [leaveIn,h0.1,h0.2,cond_false,List.set_cons_succ,List.getElem_cons_succ,ih]
theorem leave_new (n at':Int):∀(xs:List D129) (p:Nat) (_:p≤xs.length),(∀i (h:i<xs.length),i<p→iLt xs[i].2.1 at'=true)→(∀h:p<xs.length,iLt at' xs[p].2.1=true)→leaveIn n at' xs=hole xs p (n,(at',()))
 | [],0,_,_,_=>rfl
 |x::r,0,_,_,h=>by
  have h0:=h (by simp)
  simp only [List.getElem_cons_zero] at h0
  have:iEq x.2.1 at'=false:=by
   have:=(lt_not h0).1
   simp only [iEq,decide_eq_false_iff_not] at this ⊢;omega
  simp only [leaveIn,this,h0,cond_false,cond_true];rfl
 |x::r,p+1,hp,hb,h=>by
  have h0:=lt_not (hb 0 (by simp) (by omega))
  simp only [List.getElem_cons_zero] at h0
  have ih:=leave_new n at' r p (by simpa using hp) (fun i hi hip=>hb (i+1) (Nat.succ_lt_succ hi) (Nat.succ_lt_succ hip)) (fun hh=>h (Nat.succ_lt_succ hh))
  simp only [leaveIn,h0.1,h0.2,cond_false,ih];rfl
theorem i_leaves (nm:ByteArray) (fr no st:Int) (xs:List D129) (n at':Int) (hl:xs.length≤4) (hs:Asc (fun z y=>iLt z.2.1 y.2.1) xs) :
  F199 ((nm,(fr,(no,(st,(xs,()))))),((n,()),((at',()),())))=some ((nm,(fr,(no,(st,(leaveIn n at' xs,()))))),()):=by
 have hl63:L63 xs.length:=by unfold L63;omega
 obtain ⟨p,hp,h1,h2⟩:=placeE (fun x=>iLt x.2.1 at') xs
 have step:∀i (hi:i<xs.length),iEq xs[i].2.1 at'=false→F199.b0 ((nm,(fr,(no,(st,(xs,()))))),((n,()),((at',()),()))) ((i:Int),())=some (.inl (((i+1:Nat):Int),())):=fun i hi he=>by
  unfold F199.b0
  exact lt_then (Int.ofNat_lt.2 hi) (bind_eq (getI_lt hi) (bind_eq (getN_nat hi) (no_then he (st1 (nxt hi hl63)))))
 unfold F199
 by_cases hh:∃h:p<xs.length,iEq xs[p].2.1 at'=true
 ·obtain ⟨hpl,he⟩:=hh
  have lp:=loopF_trace (f:=F199.b0 ((nm,(fr,(no,(st,(xs,()))))),((n,()),((at',()),())))) (fun i=>((i:Int),())) p (e:=Sum.inr ((nm,(fr,(no,(st,(xs.set p (iAdd .i64 xs[p].1 n,xs[p].2),()))))),())) (fun i hi=>step i (by omega) (lt_not (h1 i (by omega) hi)).1) (by
   unfold F199.b0
   exact lt_then (Int.ofNat_lt.2 hpl) (bind_eq (getI_lt hpl) (bind_eq (getN_nat hpl) (thenT he (bind_eq (getI_lt hpl) (bind_eq (getN_nat hpl) (bind_eq (getI_lt hpl) (bind_eq (getN_nat hpl) rfl))))))))
  rw [leave_hit n at' xs p hpl h1 he]
  exact bind_eq lp rfl
 ·have hgt:∀i (hi:i<xs.length),p≤i→iLt at' xs[i].2.1=true:=fun i hi hpi=>by
   have hpl:p<xs.length:=by omega
   have e1:iEq xs[p].2.1 at'=false:=by
    cases hq:iEq xs[p].2.1 at' with
    |false=>rfl
    |true=>exact absurd ⟨hpl,hq⟩ hh
   have e2:=h2 hpl
   have e3:p=i∨iLt xs[p].2.1 xs[i].2.1=true:=by
    rcases Nat.lt_or_ge p i with h|h
    ·exact .inr (hs p i hpl hi h)
    ·exact .inl (by omega)
   rcases e3 with rfl|e3
   ·simp only [iLt,iEq,decide_eq_true_eq,decide_eq_false_iff_not] at *;omega
   ·simp only [iLt,iEq,decide_eq_true_eq,decide_eq_false_iff_not] at *;omega
  have hne:∀i (hi:i<xs.length),iEq xs[i].2.1 at'=false:=fun i hi=>by
   rcases Nat.lt_or_ge i p with h|h
   ·exact (lt_not (h1 i hi h)).1
   ·have:=hgt i hi h
    simp only [iLt,iEq,decide_eq_true_eq,decide_eq_false_iff_not] at *;omega
  have lp:=loopF_trace (f:=F199.b0 ((nm,(fr,(no,(st,(xs,()))))),((n,()),((at',()),())))) (fun i=>((i:Int),())) xs.length (e:=Sum.inl ((xs.length:Int),())) (fun i hi=>step i hi (hne i hi)) (by
   unfold F199.b0
   exact lt_else (Int.le_refl _) rfl)
  have lp2:=loopWhile (S:=Int×Unit) xs (fun x=>iLt x.2.1 at') (f:=F199.b1 ((nm,(fr,(no,(st,(xs,()))))),((n,()),((at',()),())))) (fun k=>(k,())) (fun k=>Sum.inl (k,())) (fun i hi=>by
   unfold F199.b1
   refine lt_then (Int.ofNat_lt.2 hi) (bind_eq (getI_lt hi) (bind_eq (getN_nat hi) ?_))
   rw [←nxt hi hl63]) (by
   unfold F199.b1
   exact lt_else (Int.le_refl _) rfl) hp h1 h2
  have hr:room (xs.length+1) 16=true:=room_ok (by omega) (by decide) (by decide)
  rw [leave_new n at' xs p hp h1 (fun h=>hgt p h (Nat.le_refl _))]
  refine bind_eq lp (bind_eq lp2 (bind_eq (y:=((hole xs p (n,(at',())),()),())) ?_ rfl))
  unfold F225
  exact ins_one e129 16 xs (n,(at',())) p hp hr
def newA (s:ByteArray) (n:Int):D127:=(s,(n,(0,(0,([],())))))
theorem s_withHas (l:List D127) (s:ByteArray) (h:AcctL l) (ha:l.any (fun a=>sEq a.1 s)=true):F188 ((l,()),((s,()),()))=some ((l,()),()):=by
 unfold F188
 exact bind_eq (s_caccts l h) (bind_eq (s_acctAt l s h.1.l) (thenT (idxOf_any.trans ha) rfl))
theorem s_withNew (l:List D127) (s:ByteArray) (h:AcctL l) (ha:l.any (fun a=>sEq a.1 s)=false) (p:Nat) (hp:p≤l.length) (h1:∀i (hi:i<l.length),i<p→sLt l[i].1 s=true) (h2:∀i (hi:i<l.length),p≤i→(!(sLt l[i].1 s||sEq l[i].1 s))=true) :
  F188 ((l,()),((s,()),()))=some ((hole l p (newA s 0),()),()):=by
 have hl63:L63 (l.length+1):=by have:=h.1;unfold L63;unfold W1 at this;omega
 let st:Nat→Int×(List D127×Unit):=fun k=>((k:Int),(hole l k ((l[k]?).getD (newA ⟨#[]⟩ 0)),()))
 have step:∀k (hk:k<l.length),p≤k→F188.b0 ((l,()),((s,()),())) (st (k+1))=some (.inl (st k)):=fun k hk hpk=>by
  have e:iSub .i64 ((k+1:Nat):Int) 1=(k:Int):=sub1 (n:=k+1) (by omega) (by unfold L63 at *;omega)
  have g:(hole l (k+1) ((l[k+1]?).getD (newA ⟨#[]⟩ 0)))[k]?=some l[k]:=by rw [hole_lo (by omega) (by omega),List.getElem?_eq_getElem hk]
  have gi:getI (hole l (k+1) ((l[k+1]?).getD (newA ⟨#[]⟩ 0))) (iSub .i64 ((k+1:Nat):Int) 1)=some l[k]:=by rw [e];exact getI_of g
  have gn:getN (hole l (k+1) ((l[k+1]?).getD (newA ⟨#[]⟩ 0))) (Int.toNat (iSub .i64 ((k+1:Nat):Int) 1))=some l[k]:=by rw [e];exact getN_of g
  have ga:=hole_at (l:=l) (k:=k+1) (y:=(l[k+1]?).getD (newA ⟨#[]⟩ 0)) (by omega)
  unfold F188.b0
  refine lt_then (by show (0:Int)<((k+1:Nat):Int);omega) (bind_eq gi (bind_eq gn (thenT (h2 k hk hpk) (bind_eq gi (bind_eq gn (bind_eq (getI_of ga) (bind_eq (getN_of ga) (bind_eq rfl (st2 e ?_)))))))))
  show List.set (hole l (k+1) ((l[k+1]?).getD (newA ⟨#[]⟩ 0))) (k+1) l[k]=hole l k ((l[k]?).getD (newA ⟨#[]⟩ 0))
  rw [hole_set (by omega),hole_down hk,List.getElem?_eq_getElem hk];rfl
 have fin:F188.b0 ((l,()),((s,()),())) (st p)=some (.inr (.inl (st p))):=by
  cases p with
  |zero=>unfold F188.b0;exact lt_else (Int.le_refl _) rfl
  |succ k =>
   have hk:k<l.length:=by omega
   have e:iSub .i64 ((k+1:Nat):Int) 1=(k:Int):=sub1 (n:=k+1) (by omega) (by unfold L63 at *;omega)
   have g:(hole l (k+1) ((l[k+1]?).getD (newA ⟨#[]⟩ 0)))[k]?=some l[k]:=by rw [hole_lo (by omega) (by omega),List.getElem?_eq_getElem hk]
   have gi:getI (hole l (k+1) ((l[k+1]?).getD (newA ⟨#[]⟩ 0))) (iSub .i64 ((k+1:Nat):Int) 1)=some l[k]:=by rw [e];exact getI_of g
   have gn:getN (hole l (k+1) ((l[k+1]?).getD (newA ⟨#[]⟩ 0))) (Int.toNat (iSub .i64 ((k+1:Nat):Int) 1))=some l[k]:=by rw [e];exact getN_of g
   unfold F188.b0
   exact lt_then (by show (0:Int)<((k+1:Nat):Int);omega) (bind_eq gi (bind_eq gn (no_then (by rw [h1 k hk (by omega)];rfl) rfl)))
 have lp:=loopF_trace (f:=F188.b0 ((l,()),((s,()),()))) (fun i=>st (l.length - i)) (l.length - p) (e:=Sum.inl (st p)) (fun i hi=>by
  have:=step (l.length - i - 1) (by omega) (by omega)
  rw [show l.length - i - 1+1=l.length - i by omega] at this
  rw [this,show l.length - (i+1)=l.length - i - 1 by omega]) (by
  rw [show l.length - (l.length - p)=p by omega];exact fin)
 have h0:(iSub .i64 (List.length (lapp l [newA ⟨#[]⟩ 0]):Int) 1,(lapp l [newA ⟨#[]⟩ 0],()))=st (l.length - 0):=by
  have e:iSub .i64 ((l.length+1:Nat):Int) 1=(l.length:Int):=sub1 (n:=l.length+1) (by omega) hl63
  have e2:lapp l [newA ⟨#[]⟩ 0]=l++ [newA ⟨#[]⟩ 0]:=rfl
  rw [e2,List.length_append,List.length_singleton,e]
  show _=((l.length:Int),(hole l l.length ((l[l.length]?).getD (newA ⟨#[]⟩ 0)),()))
  rw [List.getElem?_eq_none (Nat.le_refl _),hole_end];rfl
 have lp2:loopF (F188.b0 ((l,()),((s,()),()))) (iSub .i64 (List.length (lapp l [newA ⟨#[]⟩ 0]):Int) 1,(lapp l [newA ⟨#[]⟩ 0],()))=some (Sum.inl (st p)):=by rw [h0];exact lp
 have ga:=hole_at (l:=l) (k:=p) (y:=(l[p]?).getD (newA ⟨#[]⟩ 0)) hp
 unfold F188
 refine bind_eq (s_caccts l h) (bind_eq (s_acctAt l s h.1.l) (no_then (idxOf_any.trans ha) (room_is (by show l.length+1≤1048577;have:=h.1;unfold W1 at this;omega) (by decide) (by decide) (bind_eq lp2 (bind_eq (getI_of ga) (bind_eq (getN_of ga) (bind_eq rfl ?_)))))))
 show some ((List.set (hole l p ((l[p]?).getD (newA ⟨#[]⟩ 0))) p (newA s 0),()),())=_
 rw [hole_set hp]
def addF (a:D127) (n:Int):D127:=(a.1,(iAdd .i64 a.2.1 n,a.2.2))
theorem i_creditHas (l:List D127) (s:ByteArray) (n:Int) (hl:L63 l.length) (j:Nat) (hj:j<l.length) (ha:accAt l s=(j:Int)):F198 ((l,()),((s,()),((n,()),())))=some ((l.set j (addF l[j] n),()),()):=by
 unfold F198
 exact bind_eq ((i_acctAt l s hl).trans (by rw [ha])) (thenT (by simp [iLe]) (bind_eq (getI_lt hj) (bind_eq (getN_nat hj) (bind_eq (getI_lt hj) (bind_eq (getN_nat hj) rfl)))))
theorem i_creditNew (l:List D127) (s:ByteArray) (n:Int) (h:AcctL l) (ha:l.any (fun a=>sEq a.1 s)=false) (p:Nat) (hp:p≤l.length) (h1:∀i (hi:i<l.length),i<p→sLt l[i].1 s=true) (h2:∀hi:p<l.length,sLt l[p].1 s=false):F198 ((l,()),((s,()),((n,()),())))=some ((hole l p (newA s n),()),()):=by
 have hl63:L63 l.length:=h.1.l
 have hr:room (l.length+1) 64=true:=room_ok (by have:=h.1;unfold W1 at this;omega) (by decide) (by decide)
 have lp:=loopWhile (S:=Int×Unit) l (fun x=>sLt x.1 s) (f:=F198.b0 ((l,()),((s,()),((n,()),())))) (fun k=>(k,())) (fun k=>Sum.inl (k,())) (fun i hi=>by
  unfold F198.b0
  refine lt_then (Int.ofNat_lt.2 hi) (bind_eq (getI_lt hi) (bind_eq (getN_nat hi) ?_))
  rw [←nxt hi hl63]) (by
  unfold F198.b0
  exact lt_else (Int.le_refl _) rfl) hp h1 h2
 unfold F198
 refine bind_eq (i_acctAt l s hl63) (no_then (idxOf_any.trans ha) (bind_eq lp (bind_eq (y:=((hole l p (newA s n),()),())) ?_ rfl)))
 unfold F224
 exact ins_one e127 64 l (newA s n) p hp hr
theorem acc_hole (l:List D127) (s:ByteArray) (p:Nat) (hp:p≤l.length) (h1:∀i (hi:i<l.length),i<p→sLt l[i].1 s=true) (n:Int):accAt (hole l p (newA s n)) s=(p:Int):=by
 have:(hole l p (newA s n)).findIdx? (fun a=>sEq a.1 s)=some p:=by
  rw [List.findIdx?_eq_some_iff_getElem]
  have hlen:=hole_len (l:=l) (k:=p) (y:=newA s n) hp
  refine ⟨by omega,?_,fun j hj=>?_⟩
  ·have h:=hole_at (l:=l) (k:=p) (y:=newA s n) hp
   rw [List.getElem?_eq_getElem (by omega)] at h
   rw [Option.some.inj h]
   exact sEq_self s
  ·have h:=hole_lo (l:=l) (k:=p) (y:=newA s n) hp hj
   rw [List.getElem?_eq_getElem (by omega),List.getElem?_eq_getElem (by omega)] at h
   rw [Option.some.inj h,(ord_str).irr _ _ (h1 j (by omega) hj)];decide
 unfold accAt idxOf
 rw [this]
theorem pay_both (l:List D127) (s:ByteArray) (n:Int) (h:AcctL l) (hs:Asc (fun z y=>sLt z.1 y.1) l) (hn: -9223372036854775808≤n∧n≤9223372036854775807) :
  ∃Y:List D127,∃k:Nat,∃hk:k<Y.length,F188 ((l,()),((s,()),()))=some ((Y,()),())∧L63 Y.length∧accAt Y s=(k:Int)∧F198 ((l,()),((s,()),((n,()),())))=some ((Y.set k (addF Y[k] n),()),())∧∀a∈Y,a∈l∨a=newA s 0:=by
 rcases idxOf_cases l (fun a=>sEq a.1 s) with ⟨ha,_,_⟩|⟨j,hj,_,_,ha,_,hi⟩
 ·obtain ⟨p,hp,h1,h2⟩:=placeE (fun a=>sLt a.1 s) l
  have hne:∀i (hi:i<l.length),sEq l[i].1 s=false:=fun i hi=>by
   rw [List.any_eq_false] at ha
   simpa using ha _ (List.getElem_mem hi)
  have hge:∀i (hi:i<l.length),p≤i→sLt l[i].1 s=false:=fun i hi hpi=>by
   have hpl:p<l.length:=by omega
   have e1:=(ord_str).tot _ _ (h2 hpl) (hne p hpl)
   have e2:sLt s l[i].1=true:=by
    rcases Nat.lt_or_ge p i with hlt|hlt
    ·exact (ord_str).tr _ _ _ e1 (hs p i hpl hi hlt)
    ·have:p=i:=by omega
     subst this;exact e1
   have e3:=sLt_tri l[i].1 s
   rw [hne i hi,e2,Bool.or_false] at e3
   exact e3
  have hk:p<(hole l p (newA s 0)).length:=by rw [hole_len hp];omega
  have hY:(hole l p (newA s 0))[p]=newA s 0:=by
   have:=hole_at (l:=l) (k:=p) (y:=newA s 0) hp
   rw [List.getElem?_eq_getElem hk] at this
   exact Option.some.inj this
  refine ⟨hole l p (newA s 0),p,hk,s_withNew l s h ha p hp h1 (fun i hi hpi=>by rw [hge i hi hpi,hne i hi];rfl),by rw [hole_len hp];have:=h.1;unfold W1 at this;unfold L63;omega,acc_hole l s p hp h1 0,?_,fun a ham=>?_⟩
  ·rw [i_creditNew l s n h ha p hp h1 h2,hY,hole_set hp]
   have:iAdd .i64 0 n=n:=(iAdd_small (by omega) (by omega)).trans (by omega)
   unfold addF newA
   rw [this]
  ·unfold hole at ham
   rcases List.mem_append.1 ham with h5|h5
   ·exact .inl (List.mem_of_mem_take h5)
   ·rcases List.mem_cons.1 h5 with h5|h5
    ·exact .inr h5
    ·exact .inl (List.mem_of_mem_drop h5)
 ·exact ⟨l,j,hj,s_withHas l s h ha,h.1.l,hi,i_creditHas l s n h.1.l j hj hi,fun a ham=> .inl ham⟩
theorem asc_set {l:List D127} (h:Asc (fun z y=>sLt z.1 y.1) l) {j:Nat} (hj:j<l.length) {a:D127} (ha:a.1=l[j].1):Asc (fun z y=>sLt z.1 y.1) (l.set j a):=by
 have key:∀i (hi:i<(l.set j a).length),(l.set j a)[i].1=(l[i]'(by simpa using hi)).1:=fun i hi=>by
  rw [List.getElem_set]
  by_cases hij:j=i
  ·subst hij;rw [if_pos rfl,ha]
  ·rw [if_neg hij]
 intro i k hi hk hik
 show sLt (l.set j a)[i].1 (l.set j a)[k].1=true
 rw [key i hi,key k hk]
 exact h i k _ _ hik
theorem ok_set {es:Tys} {l:List es.D} (h:(Ty.sl es).Ok l) {j:Nat} {a:es.D} (ha:es.Ok a):(Ty.sl es).Ok (l.set j a) :=
 Ok_of (by rw [List.length_set];exact h.1) (fun y hy=>by
  rcases List.mem_or_eq_of_mem_set hy with h1|rfl
  ·exact Ok_mem h.2 h1
  ·exact ha)
theorem acctl_set {l:List D127} (h:AcctL l) {j:Nat} {a:D127} (ha:W1 (List.length a.2.2.2.2.1)):AcctL (l.set j a) :=
 ⟨by rw [List.length_set];exact h.1,fun y hy=>by
  rcases List.mem_or_eq_of_mem_set hy with h1|rfl
  ·exact h.2 y h1
  ·exact ha⟩
theorem leaveIn_ok (n at':Int) (hn:(Lit.int .i64 n).wf=true) (ha:(Lit.int .i64 at').wf=true):∀xs:List D129,(∀y∈xs,e129.Ok y)→∀y∈leaveIn n at' xs,e129.Ok y
 | [],_,y,hy=>by
  simp only [leaveIn,List.mem_singleton] at hy
  subst hy
  exact ⟨hn,ha,trivial⟩
 |x::r,h,y,hy=>by
  have hx:=h x (List.mem_cons_self ..)
  simp only [leaveIn] at hy
  cases h1:iEq x.2.1 at' with
  |true =>
   rw [h1] at hy
   rcases List.mem_cons.1 hy with rfl|hy
   ·exact ⟨okAdd .i64 _,hx.2.1,trivial⟩
   ·exact h y (List.mem_cons_of_mem _ hy)
  |false =>
   cases h2:iLt at' x.2.1 with
   |true =>
    rw [h1,h2] at hy
    rcases List.mem_cons.1 hy with rfl|hy
    ·exact ⟨hn,ha,trivial⟩
    ·exact h y hy
   |false =>
    rw [h1,h2] at hy
    rcases List.mem_cons.1 hy with rfl|hy
    ·exact hx
    ·exact leaveIn_ok n at' hn ha r (fun z hz=>h z (List.mem_cons_of_mem _ hz)) y hy
theorem leaveIn_len (n at':Int):∀xs:List D129,(leaveIn n at' xs).length≤xs.length+1
 | []=>Nat.le_refl _
 |x::r=>by
  have:=leaveIn_len n at' r
  simp only [leaveIn]
  cases iEq x.2.1 at'<;>cases iLt at' x.2.1<;>simp only [cond_true,cond_false,List.length_cons]<;>omega
theorem ledger_len {x:DLe} (h:ledgerB x=true):x.2.1.length≤12∧(∀a∈x.2.1,List.length a.2.2.2.2.1≤4∧Asc (fun z y=>iLt z.2.1 y.2.1) a.2.2.2.2.1)∧Asc (fun z y=>sLt z.1 y.1) x.2.1:=by
 unfold ledgerB acctsB at h
 simp only [Bool.and_eq_true] at h
 obtain ⟨_,h1,h2,_⟩:=h
 have hA:∀i (hi:i<x.2.1.length),acctB x.2.1[i]=true∧behind (fun z y=>sLt z.1 y.1) x.2.1 i x.2.1[i]=true:=fun i hi=>by
  have:=allI_get h1 i hi
  rw [Nat.zero_add] at this
  unfold acctP at this
  simpa only [Bool.and_eq_true] using this
 refine ⟨by simp only [iLe,decide_eq_true_eq] at h2;omega,fun a ha=>?_,asc_of (lt:=fun (z y:D127)=>sLt z.1 y.1) (fun a b c=>(ord_str).tr a.1 b.1 c.1) (fun i hi=>(hA i hi).2)⟩
 obtain ⟨i,hi,rfl⟩:=List.getElem_of_mem ha
 have:=(hA i hi).1
 unfold acctB at this
 simp only [Bool.and_eq_true] at this
 obtain ⟨_,_,_,_,h5,h6⟩:=this
 refine ⟨by simp only [iLe,decide_eq_true_eq] at h5;omega,asc_of (lt:=fun (z y:D129)=>iLt z.2.1 y.2.1) (fun a b c=>(ord_int).tr a.2.1 b.2.1 c.2.1) (fun k hk=>?_)⟩
 unfold leavesB at h6
 have:=allI_get h6 k hk
 rw [Nat.zero_add] at this
 unfold leafP at this
 simp only [Bool.and_eq_true] at this
 exact this.2.2
theorem ledger_acctL {x:DLe} (h:ledgerB x=true):AcctL x.2.1:=⟨by have:=(ledger_len h).1;unfold W1;omega,fun a ha=>by have:=((ledger_len h).2.1 a ha).1;unfold W1;omega⟩
theorem do_both (L:DLe) (t:D122) (j:Nat) (hj:j<L.2.1.length) (hOk:(Ty.sl e127).Ok L.2.1) (hL:ledgerB L=true) (ht:e122.Ok t) (htx:txB t=true) :
  ∃R:DLe,F122 (L,(t,(((j:Int),()),())))=some (R,())∧F138 (L,(((j:Int),()),(t,())))=some (R,())∧(Ty.sl e127).Ok R.2.1:=by
 obtain ⟨ep,xs,⟨⟩⟩:=L
 simp only at hj hOk
 obtain ⟨hlen,hlv,hasc⟩:=ledger_len hL
 have hAL:=ledger_acctL hL
 simp only at hlen hlv hasc hAL
 have hl63:L63 xs.length:=by unfold L63;omega
 have hA:=Ok_mem hOk.2 (List.getElem_mem hj)
 have hLv:=hlv _ (List.getElem_mem hj)
 have hWl:=hAL.2 _ (List.getElem_mem hj)
 have e0:(xs[j]:D127)=xs[j]:=rfl
 generalize ha:xs[j]=a at hA hLv hWl
 obtain ⟨nm,fr,no,st,lv,⟨⟩⟩:=a
 let a1:D127:=(nm,(fr,(iAdd .i64 no 1,(st,(lv,())))))
 have hOk1:(Ty.sl e127).Ok (xs.set j a1):=ok_set hOk ⟨hA.1,hA.2.1,okAdd .i64 _,hA.2.2.2.1,hA.2.2.2.2.1,trivial⟩
 have hAsc1:Asc (fun z y=>sLt z.1 y.1) (xs.set j a1):=asc_set hasc hj (by rw [ha])
 have hAL1:AcctL (xs.set j a1):=acctl_set hAL hWl
 have hj1:j<(xs.set j a1).length:=by rw [List.length_set];exact hj
 have gi:getI xs (j:Int)=some (nm,(fr,(no,(st,(lv,()))))):=by rw [getI_lt hj,ha]
 have gn:getN xs (Int.toNat (j:Int))=some (nm,(fr,(no,(st,(lv,()))))):=by rw [getN_nat hj,ha]
 have g1:getN (List.set xs (Int.toNat (j:Int)) a1) (Int.toNat (j:Int))=some a1:=getN_set hj
 cases h1:iEq t.1 1 with
 |true =>
  let a2:D127:=(nm,(iSub .i64 fr t.2.2.2.1,(iAdd .i64 no 1,(st,(lv,())))))
  have hOk2:(Ty.sl e127).Ok ((xs.set j a1).set j a2):=ok_set hOk1 ⟨hA.1,okAdd .i64 _,okAdd .i64 _,hA.2.2.2.1,hA.2.2.2.2.1,trivial⟩
  have hAsc2:Asc (fun z y=>sLt z.1 y.1) ((xs.set j a1).set j a2):=asc_set hAsc1 hj1 (by simp [a1,a2])
  have hAL2:AcctL ((xs.set j a1).set j a2):=acctl_set hAL1 hWl
  obtain ⟨Y,k,hk,hw,hYl,hat,hcr,hmem⟩:=pay_both ((xs.set j a1).set j a2) t.2.2.1 t.2.2.2.1 hAL2 hAsc2 (wfR ht.2.2.2.1)
  have hYok:(Ty.sl e127).Ok Y:=Ok_of hYl (fun y hy=>by
   rcases hmem y hy with h|rfl
   ·exact Ok_mem hOk2.2 h
   ·exact ⟨ht.2.2.1,rfl,rfl,rfl,Ok_nil,trivial⟩)
  have hYk:=Ok_mem hYok.2 (List.getElem_mem hk)
  refine ⟨(ep,(Y.set k (addF Y[k] t.2.2.2.1),())),?_,?_,ok_set hYok ⟨hYk.1,okAdd .i64 _,hYk.2.2⟩⟩
  ·unfold F122
   exact bind_eq (s_cledger (ep,(xs,())) hAL) (bind_eq gi (bind_eq gn (bind_eq gn (bind_eq rfl (bind_eq (y:=Sum.inl (Y.set k (addF Y[k] t.2.2.2.1),())) (thenT h1 (bind_eq g1 (bind_eq g1 (bind_eq rfl (bind_eq hw (bind_eq ((s_acctAt Y _ hYl).trans (by rw [hat])) (bind_eq (getI_lt hk) (bind_eq (getN_nat hk) (bind_eq (getI_lt hk) (bind_eq (getN_nat hk) (bind_eq rfl rfl))))))))))) rfl)))))
  ·unfold F138
   exact bind_eq gi (bind_eq gn (bind_eq gn (bind_eq rfl (bind_eq (y:=Sum.inl (Y.set k (addF Y[k] t.2.2.2.1),())) (thenT h1 (bind_eq g1 (bind_eq g1 (bind_eq rfl (bind_eq hcr rfl))))) rfl))))
 |false =>
  cases h2:iEq t.1 2 with
  |true =>
   let a2:D127:=(nm,(iSub .i64 fr t.2.2.2.1,(iAdd .i64 no 1,(st,(lv,())))))
   let a3:D127:=(nm,(iSub .i64 fr t.2.2.2.1,(iAdd .i64 no 1,(iAdd .i64 st t.2.2.2.1,(lv,())))))
   have g2:getN (List.set (List.set xs (Int.toNat (j:Int)) a1) (Int.toNat (j:Int)) a2) (Int.toNat (j:Int))=some a2:=getN_set hj1
   have hOk2:(Ty.sl e127).Ok ((xs.set j a1).set j a2):=ok_set hOk1 ⟨hA.1,okAdd .i64 _,okAdd .i64 _,hA.2.2.2.1,hA.2.2.2.2.1,trivial⟩
   have hOk3:(Ty.sl e127).Ok (((xs.set j a1).set j a2).set j a3):=ok_set hOk2 ⟨hA.1,okAdd .i64 _,okAdd .i64 _,okAdd .i64 _,hA.2.2.2.2.1,trivial⟩
   refine ⟨(ep,(((xs.set j a1).set j a2).set j a3,())),?_,?_,hOk3⟩
   ·unfold F122
    exact bind_eq (s_cledger (ep,(xs,())) hAL) (bind_eq gi (bind_eq gn (bind_eq gn (bind_eq rfl (bind_eq (y:=Sum.inl (((xs.set j a1).set j a2).set j a3,())) (no_then h1 (thenT h2 (bind_eq g1 (bind_eq g1 (bind_eq rfl (bind_eq g2 (bind_eq g2 (bind_eq rfl rfl)))))))) rfl)))))
   ·unfold F138
    exact bind_eq gi (bind_eq gn (bind_eq gn (bind_eq rfl (bind_eq (y:=Sum.inl (((xs.set j a1).set j a2).set j a3,())) (no_then h1 (thenT h2 (bind_eq g1 (bind_eq g1 (bind_eq rfl (bind_eq g2 (bind_eq g2 (bind_eq rfl rfl)))))))) rfl))))
  |false =>
   have h3:iEq t.1 3=true:=by
    unfold txB at htx
    rw [h1] at htx
    simp only [Bool.and_eq_true,cond_false,inR,iLe,decide_eq_true_eq] at htx
    simp only [iEq,decide_eq_true_eq,decide_eq_false_iff_not] at h1 h2 ⊢
    omega
   let lv2:=leaveIn t.2.2.2.1 (iAdd .i64 ep 2) lv
   let a2:D127:=(nm,(fr,(iAdd .i64 no 1,(iSub .i64 st t.2.2.2.1,(lv,())))))
   let a3:D127:=(nm,(fr,(iAdd .i64 no 1,(iSub .i64 st t.2.2.2.1,(lv2,())))))
   have g2:getN (List.set (List.set xs (Int.toNat (j:Int)) a1) (Int.toNat (j:Int)) a2) (Int.toNat (j:Int))=some a2:=getN_set hj1
   have hlv2:(Ty.sl e129).Ok lv2:=Ok_of (by have:=leaveIn_len t.2.2.2.1 (iAdd .i64 ep 2) lv;have:=hLv.1;simp only at this;show List.length (leaveIn _ _ _)≤_;omega) (leaveIn_ok _ _ ht.2.2.2.1 (okAdd .i64 _) lv (fun y hy=>Ok_mem hA.2.2.2.2.1.2 hy))
   have hOk2:(Ty.sl e127).Ok ((xs.set j a1).set j a2):=ok_set hOk1 ⟨hA.1,hA.2.1,okAdd .i64 _,okAdd .i64 _,hA.2.2.2.2.1,trivial⟩
   have hOk3:(Ty.sl e127).Ok (((xs.set j a1).set j a2).set j a3):=ok_set hOk2 ⟨hA.1,hA.2.1,okAdd .i64 _,okAdd .i64 _,hlv2,trivial⟩
   refine ⟨(ep,(((xs.set j a1).set j a2).set j a3,())),?_,?_,hOk3⟩
   ·unfold F122
    exact bind_eq (s_cledger (ep,(xs,())) hAL) (bind_eq gi (bind_eq gn (bind_eq gn (bind_eq rfl (bind_eq (y:=Sum.inl (((xs.set j a1).set j a2).set j a3,())) (no_then h1 (no_then h2 (bind_eq g1 (bind_eq g1 (bind_eq rfl (bind_eq g2 (bind_eq (s_leave lv t.2.2.2.1 (iAdd .i64 ep 2) hLv.1) (bind_eq g2 (bind_eq rfl rfl))))))))) rfl)))))
   ·unfold F138
    exact bind_eq gi (bind_eq gn (bind_eq gn (bind_eq rfl (bind_eq (y:=Sum.inl (((xs.set j a1).set j a2).set j a3,())) (no_then h1 (no_then h2 (thenT h3 (bind_eq g1 (bind_eq g1 (bind_eq rfl (bind_eq g2 (bind_eq (i_leaves nm fr (iAdd .i64 no 1) (iSub .i64 st t.2.2.2.1) lv t.2.2.2.1 (iAdd .i64 ep 2) hLv.1 hLv.2) (bind_eq rfl rfl))))))))) rfl))))
def hasV (t:D122) (a:D127):Int:=bif iEq t.1 3 then a.2.2.2.1 else a.2.1
theorem i_hasV (t:D122) (a:D127):F137 (a,((t.1,()),()))=some (I1 (hasV t a)):=by
 unfold F137 hasV
 show (bif iEq t.1 3 then _ else _)=_
 cases iEq t.1 3<;>rfl
theorem s_hasV (t:D122) (a:D127) {R:Type}:(bif iEq t.1 3 then some (Sum.inl (a.2.2.2.1,())) else some (Sum.inl (a.2.1,())))=some (Sum.inl (hasV t a,()):Sum (Int×Unit) R):=by
 unfold hasV
 cases iEq t.1 3<;>rfl
theorem iEq_sw (a b:Int):iEq a b=iEq b a:=by
 unfold iEq
 by_cases h:a=b
 ·rw [h]
 ·rw [decide_eq_false h,decide_eq_false (fun e=>h e.symm)]
theorem apply_both2 (L:DLe) (t:D122) (hOk:(Ty.sl e127).Ok L.2.1) (hAL:AcctL L.2.1) (ht:e122.Ok t) :
  ∃(R:DLe) (c:Int),F67 (L,(t,()))=some (R,((c,()),()))∧F75 (L,(t,()))=some (R,((c,()),()))∧(Ty.sl e127).Ok R.2.1∧AcctL R.2.1∧(iEq c 0=false→R=L)∧(R=L∨ledgerB R=true):=by
 have hl63:=hAL.1.l
 have sc:=s_cledger L hAL
 have ic:=i_cledger L hAL
 have sa:=s_acctAt L.2.1 t.2.1 hl63
 have ia:=i_acctAt L.2.1 t.2.1 hl63
 have sl:=s_ledger L hOk
 have il:=i_ledger L hOk
 have sx:=s_tx t ⟨ht.2.1,ht.2.2.1⟩
 have ix:=i_tx t ⟨ht.2.1,ht.2.2.1⟩
 cases hq:ledgerB L with
 |false =>
  rw [hq] at sl il
  refine ⟨L,1,?_,?_,hOk,hAL,fun _=>rfl,.inl rfl⟩
  ·unfold F67;exact bind_eq sc (bind_eq sl (thenT rfl rfl))
  ·unfold F75;exact bind_eq ia (bind_eq il (thenT rfl (bind_eq ic rfl)))
 |true =>
  rw [hq] at sl il
  cases htx:txB t with
  |false =>
   rw [htx] at sx ix
   refine ⟨L,1,?_,?_,hOk,hAL,fun _=>rfl,.inl rfl⟩
   ·unfold F67;exact bind_eq sc (bind_eq sl (no_then rfl (bind_eq sx (thenT rfl rfl))))
   ·unfold F75;exact bind_eq ia (bind_eq il (no_then rfl (bind_eq ix (thenT rfl (bind_eq ic rfl)))))
  |true =>
   rw [htx] at sx ix
   rcases idxOf_cases L.2.1 (fun a=>sEq a.1 t.2.1) with ⟨_,_,hi⟩|⟨j,hj,_,_,_,_,hi⟩
   ·have hi:accAt L.2.1 t.2.1= -1:=hi
    rw [hi] at sa ia
    refine ⟨L,2,?_,?_,hOk,hAL,fun _=>rfl,.inl rfl⟩
    ·unfold F67;exact bind_eq sc (bind_eq sl (no_then rfl (bind_eq sx (no_then rfl (bind_eq sa (thenT rfl rfl))))))
    ·unfold F75;exact bind_eq ia (bind_eq il (no_then rfl (bind_eq ix (no_then rfl (thenT rfl (bind_eq ic rfl))))))
   ·have hi:accAt L.2.1 t.2.1=(j:Int):=hi
    rw [hi] at sa ia
    have hj0:iLt (j:Int) 0=false:=iLt_false (Int.natCast_nonneg j)
    cases hn:iEq (L.2.1[j]).2.2.1 t.2.2.2.2.1 with
    |false =>
     refine ⟨L,3,?_,?_,hOk,hAL,fun _=>rfl,.inl rfl⟩
     ·unfold F67;exact bind_eq sc (bind_eq sl (no_then rfl (bind_eq sx (no_then rfl (bind_eq sa (no_then hj0 (bind_eq (getI_lt hj) (bind_eq (s_hasV t _) (thenT (by rw [hn];rfl) rfl)))))))))
     ·unfold F75;exact bind_eq ia (bind_eq il (no_then rfl (bind_eq ix (no_then rfl (no_then hj0 (bind_eq (getI_lt hj) (thenT (by rw [iEq_sw,hn];rfl) (bind_eq ic rfl))))))))
    |true =>
     cases hh:iLt (hasV t L.2.1[j]) t.2.2.2.1 with
     |true =>
      refine ⟨L,4,?_,?_,hOk,hAL,fun _=>rfl,.inl rfl⟩
      ·unfold F67;exact bind_eq sc (bind_eq sl (no_then rfl (bind_eq sx (no_then rfl (bind_eq sa (no_then hj0 (bind_eq (getI_lt hj) (bind_eq (s_hasV t _) (no_then (by rw [hn];rfl) (thenT hh rfl))))))))))
      ·unfold F75;exact bind_eq ia (bind_eq il (no_then rfl (bind_eq ix (no_then rfl (no_then hj0 (bind_eq (getI_lt hj) (no_then (by rw [iEq_sw,hn];rfl) (bind_eq (getI_lt hj) (bind_eq (i_hasV t _) (thenT hh (bind_eq ic rfl)))))))))))
     |false =>
      obtain ⟨R,d1,d2,d3⟩:=do_both L t j hj hOk hq ht htx
      have sl2:=s_ledger R d3
      have il2:=i_ledger R d3
      cases hR:ledgerB R with
      |false =>
       rw [hR] at sl2 il2
       refine ⟨L,5,?_,?_,hOk,hAL,fun _=>rfl,.inl rfl⟩
       ·unfold F67;exact bind_eq sc (bind_eq sl (no_then rfl (bind_eq sx (no_then rfl (bind_eq sa (no_then hj0 (bind_eq (getI_lt hj) (bind_eq (s_hasV t _) (no_then (by rw [hn];rfl) (no_then hh (bind_eq d1 (bind_eq sl2 (thenT rfl rfl)))))))))))))
       ·unfold F75;exact bind_eq ia (bind_eq il (no_then rfl (bind_eq ix (no_then rfl (no_then hj0 (bind_eq (getI_lt hj) (no_then (by rw [iEq_sw,hn];rfl) (bind_eq (getI_lt hj) (bind_eq (i_hasV t _) (no_then hh (bind_eq ic (bind_eq d2 (bind_eq il2 (thenT rfl (bind_eq ic rfl)))))))))))))))
      |true =>
       rw [hR] at sl2 il2
       refine ⟨R,0,?_,?_,d3,ledger_acctL hR,fun h=>by simp [iEq] at h,.inr hR⟩
       ·unfold F67;exact bind_eq sc (bind_eq sl (no_then rfl (bind_eq sx (no_then rfl (bind_eq sa (no_then hj0 (bind_eq (getI_lt hj) (bind_eq (s_hasV t _) (no_then (by rw [hn];rfl) (no_then hh (bind_eq d1 (bind_eq sl2 (no_then rfl rfl)))))))))))))
       ·unfold F75;exact bind_eq ia (bind_eq il (no_then rfl (bind_eq ix (no_then rfl (no_then hj0 (bind_eq (getI_lt hj) (no_then (by rw [iEq_sw,hn];rfl) (bind_eq (getI_lt hj) (bind_eq (i_hasV t _) (no_then hh (bind_eq ic (bind_eq d2 (bind_eq il2 (no_then rfl rfl))))))))))))))
theorem apply_both (L:DLe) (t:D122) (hOk:(Ty.sl e127).Ok L.2.1) (hAL:AcctL L.2.1) (ht:e122.Ok t) :
  ∃(R:DLe) (c:Int),F67 (L,(t,()))=some (R,((c,()),()))∧F75 (L,(t,()))=some (R,((c,()),()))∧(Ty.sl e127).Ok R.2.1∧AcctL R.2.1∧(iEq c 0=false→R=L):=by
 obtain ⟨R,c,h1,h2,h3,h4,h5,_⟩:=apply_both2 L t hOk hAL ht
 exact ⟨R,c,h1,h2,h3,h4,h5⟩
noncomputable def applyR (L:DLe) (t:D122):DLe×Int:=match F67 (L,(t,())) with
 |some (R,((c,()),()))=>(R,c)
 |none=>(L,0)
theorem applyR_eq (L:DLe) (t:D122) (hOk:(Ty.sl e127).Ok L.2.1) (hAL:AcctL L.2.1) (ht:e122.Ok t) :
  F67 (L,(t,()))=some ((applyR L t).1,(((applyR L t).2,()),()))∧F75 (L,(t,()))=some ((applyR L t).1,(((applyR L t).2,()),()))∧(Ty.sl e127).Ok (applyR L t).1.2.1∧AcctL (applyR L t).1.2.1∧(iEq (applyR L t).2 0=false→(applyR L t).1=L):=by
 obtain ⟨R,c,h1,h2,h3,h4,h5⟩:=apply_both L t hOk hAL ht
 have:applyR L t=(R,c):=by unfold applyR;rw [h1]
 rw [this]
 exact ⟨h1,h2,h3,h4,h5⟩
noncomputable def allStep (s:Int×DLe) (t:D122):Int×DLe:=(bif iEq (applyR s.2 t).2 0 then iAdd .i64 s.1 1 else s.1,(applyR s.2 t).1)
noncomputable def allR (L:DLe) (ts:List D122):Int×DLe:=ts.foldl allStep (0,L)
theorem all_both (L:DLe) (ts:List D122) (hOk:(Ty.sl e127).Ok L.2.1) (hAL:AcctL L.2.1) (ht:(Ty.sl e122).Ok ts) :
  F27 (L,((ts,()),()))=some ((allR L ts).2,(((allR L ts).1,()),()))∧F37 (L,((ts,()),()))=some ((allR L ts).2,(((allR L ts).1,()),()))∧(Ty.sl e127).Ok (allR L ts).2.2.1∧AcctL (allR L ts).2.2.1:=by
 have hl63:L63 ts.length:=ht.1
 have sp:=loopFold (S:=Int×(Int×(Int×(List D127×Unit)))) ts allStep (fun _ s=>(Ty.sl e127).Ok s.2.2.1∧AcctL s.2.2.1) (f:=F27.b0 (L,((ts,()),()))) (fun s k=>(s.1,(k,(s.2.1,(s.2.2.1,()))))) (fun s=>Sum.inl (s.1,((ts.length:Int),(s.2.1,(s.2.2.1,()))))) (0,L) ⟨hOk,hAL⟩ (fun i hi s hI=>by
  obtain ⟨h1,h2,h3,h4,h5⟩:=applyR_eq s.2 ts[i] hI.1 hI.2 (Ok_mem ht.2 (List.getElem_mem hi))
  refine ⟨?_,h3,h4⟩
  unfold F27.b0 allStep
  refine lt_then (Int.ofNat_lt.2 hi) (bind_eq (getI_lt hi) (bind_eq h1 ?_))
  rw [←nxt hi hl63]
  cases hc:iEq (applyR s.2 ts[i]).2 0 with
  |true=>rfl
  |false=>rw [h5 hc];rfl) (fun s _=>by
  unfold F27.b0
  exact lt_else (Int.le_refl _) rfl)
 have ip:=loopFold (S:=Int×(Int×(Int×(List D127×Unit)))) ts allStep (fun _ s=>(Ty.sl e127).Ok s.2.2.1∧AcctL s.2.2.1) (f:=F37.b0 (L,((ts,()),()))) (fun s k=>(s.1,(k,(s.2.1,(s.2.2.1,()))))) (fun s=>Sum.inl (s.1,((ts.length:Int),(s.2.1,(s.2.2.1,()))))) (0,L) ⟨hOk,hAL⟩ (fun i hi s hI=>by
  obtain ⟨h1,h2,h3,h4,h5⟩:=applyR_eq s.2 ts[i] hI.1 hI.2 (Ok_mem ht.2 (List.getElem_mem hi))
  refine ⟨?_,h3,h4⟩
  unfold F37.b0 allStep
  refine lt_then (Int.ofNat_lt.2 hi) (bind_eq (getI_lt hi) (bind_eq h2 ?_))
  rw [←nxt hi hl63]
  cases hc:iEq (applyR s.2 ts[i]).2 0 with
  |true=>rfl
  |false=>rfl) (fun s _=>by
  unfold F37.b0
  exact lt_else (Int.le_refl _) rfl)
 refine ⟨?_,?_,sp.2.1,sp.2.2⟩
 ·unfold F27
  exact bind_eq (s_cledger L hAL) (bind_eq sp.1 rfl)
 ·unfold F37
  exact bind_eq (i_cledger L hAL) (bind_eq ip.1 rfl)
def epStep (e:Int) (s:List D129×Int) (x:D129):List D129×Int:=bif iLe x.2.1 e then (s.1,iAdd .i64 s.2 x.1) else (s.1++ [x],s.2)
def epFold (e:Int) (a:D127):List D129×Int:=a.2.2.2.2.1.foldl (epStep e) ([],a.2.1)
def epAcct (e:Int) (a:D127):D127:=(a.1,((epFold e a).2,(a.2.2.1,(a.2.2.2.1,((epFold e a).1,())))))
theorem epFold_inv (e:Int):∀(xs:List D129) (s:List D129×Int),(Lit.int .i64 s.2).wf=true→(∀y∈s.1,e129.Ok y)→(∀y∈xs,e129.Ok y) →
  (Lit.int .i64 (xs.foldl (epStep e) s).2).wf=true∧(∀y∈(xs.foldl (epStep e) s).1,e129.Ok y)∧(xs.foldl (epStep e) s).1.length≤s.1.length+xs.length
 | [],s,h1,h2,_=>⟨h1,h2,Nat.le_refl _⟩
 |x::r,s,h1,h2,h3=>by
  have hx:=h3 x (List.mem_cons_self ..)
  have hr:=fun y hy=>h3 y (List.mem_cons_of_mem _ hy)
  simp only [List.foldl_cons,List.length_cons]
  cases hc:iLe x.2.1 e with
  |true =>
   have:epStep e s x=(s.1,iAdd .i64 s.2 x.1):=by unfold epStep;rw [hc];rfl
   rw [this]
   have ih:=epFold_inv e r (s.1,iAdd .i64 s.2 x.1) (okAdd .i64 _) h2 hr
   exact ⟨ih.1,ih.2.1,by have:=ih.2.2;simp only at this ⊢;omega⟩
  |false =>
   have:epStep e s x=(s.1++ [x],s.2):=by unfold epStep;rw [hc];rfl
   rw [this]
   have ih:=epFold_inv e r (s.1++ [x],s.2) h1 (fun y hy=>by
    rcases List.mem_append.1 hy with h|h
    ·exact h2 y h
    ·rw [List.mem_singleton.1 h];exact hx) hr
   exact ⟨ih.1,ih.2.1,by have:=ih.2.2;simp only [List.length_append,List.length_singleton] at this ⊢;omega⟩
theorem epAcct_ok (e:Int) (a:D127) (h:e127.Ok a):e127.Ok (epAcct e a):=by
 have hi:=epFold_inv e a.2.2.2.2.1 ([],a.2.1) h.2.1 (fun y hy=>by cases hy) (fun y hy=>Ok_mem h.2.2.2.2.1.2 hy)
 have h9:(a.2.2.2.2.1.foldl (epStep e) ([],a.2.1)).1.length≤List.length a.2.2.2.2.1:=by simpa using hi.2.2
 exact ⟨h.1,hi.1,h.2.2.1,h.2.2.2.1,Ok_of (Nat.le_trans h9 h.2.2.2.2.1.1) hi.2.1,trivial⟩
theorem epAcct_len (e:Int) (a:D127):List.length (epAcct e a).2.2.2.2.1≤List.length a.2.2.2.2.1:=by
 have key:∀(xs:List D129) (s:List D129×Int),(xs.foldl (epStep e) s).1.length≤s.1.length+xs.length:=by
  intro xs
  induction xs with
  |nil=>intro s;exact Nat.le_refl _
  |cons x r ih =>
   intro s
   have:=ih (epStep e s x)
   have h2:(epStep e s x).1.length≤s.1.length+1:=by
    unfold epStep
    cases iLe x.2.1 e<;>simp only [cond_true,cond_false,List.length_append,List.length_singleton]<;>omega
   simp only [List.foldl_cons,List.length_cons]
   omega
 have h9:(a.2.2.2.2.1.foldl (epStep e) ([],a.2.1)).1.length≤List.length a.2.2.2.2.1:=by simpa using key a.2.2.2.2.1 ([],a.2.1)
 exact h9
def upTo (g:D127→D127) (xs:List D127) (k:Nat):List D127:=(xs.take k).map g++xs.drop k
theorem upTo_len (g:D127→D127) (xs:List D127) (k:Nat) (h:k≤xs.length):(upTo g xs k).length=xs.length:=by
 unfold upTo;rw [List.length_append,List.length_map,List.length_take,List.length_drop];omega
theorem upTo_get (g:D127→D127) {xs:List D127} {k:Nat} (h:k<xs.length):(upTo g xs k)[k]?=some xs[k]:=by
 unfold upTo
 rw [List.getElem?_append_right (by rw [List.length_map,List.length_take];omega),List.length_map,List.length_take,List.getElem?_drop]
 rw [show k+(k - min k xs.length)=k by omega,List.getElem?_eq_getElem h]
theorem upTo_set (g:D127→D127) {xs:List D127} {k:Nat} (h:k<xs.length):(upTo g xs k).set k (g xs[k])=upTo g xs (k+1):=by
 unfold upTo
 rw [List.set_append_right _ _ (by rw [List.length_map,List.length_take];omega),List.length_map,List.length_take,show k - min k xs.length=0 by omega,List.drop_eq_getElem_cons h,List.set_cons_zero,List.take_succ_eq_append_getElem h,List.map_append,List.append_assoc]
 rfl
theorem st3 {A B C F:Type} {a a':A} {b b':B} {c c':C} (h1:a=a') (h2:b=b') (h3:c=c'):(some (Sum.inl (a,(b,(c,())))):Option (Sum (A×(B×(C×Unit))) F))=some (Sum.inl (a',(b',(c',())))):=by rw [h1,h2,h3]
theorem s_epIn (L:DLe) (l0:List D127) (j:Nat) (hj:j<l0.length) (h4:List.length (l0[j]).2.2.2.2.1≤4) :
  loopF (F28.b1 ((j:Int),(l0,())) (L,())) ([],((0:Int),(l0,())))=some (Sum.inl ((epFold (iAdd .i64 L.1 1) l0[j]).1,((List.length (l0[j]).2.2.2.2.1:Int),(l0.set j ((l0[j]).1,((epFold (iAdd .i64 L.1 1) l0[j]).2,(l0[j]).2.2)),())))):=by
 have hl63:L63 (List.length (l0[j]).2.2.2.2.1):=by unfold L63;omega
 have hself:l0.set j ((l0[j]).1,((l0[j]).2.1,(l0[j]).2.2))=l0:=List.set_getElem_self hj
 have g:∀s:Int,getN (l0.set j ((l0[j]).1,(s,(l0[j]).2.2))) (Int.toNat (j:Int))=some ((l0[j]).1,(s,(l0[j]).2.2)):=fun s=>getN_set hj
 have lp:=(loopFold (S:=List D129×(Int×(List D127×Unit))) (l0[j]).2.2.2.2.1 (epStep (iAdd .i64 L.1 1)) (fun k s=>s.1.length≤k) (f:=F28.b1 ((j:Int),(l0,())) (L,())) (fun s k=>(s.1,(k,(l0.set j ((l0[j]).1,(s.2,(l0[j]).2.2)),())))) (fun s=>Sum.inl (s.1,((List.length (l0[j]).2.2.2.2.1:Int),(l0.set j ((l0[j]).1,(s.2,(l0[j]).2.2)),())))) ([],(l0[j]).2.1) (Nat.le_refl _) (fun i hi s hI=>by
  have hI:s.1.length≤i:=hI
  have hr:room (s.1.length+1) 16=true:=room_ok (by omega) (by decide) (by decide)
  unfold epStep
  cases hc:iLe ((l0[j]).2.2.2.2.1[i]).2.1 (iAdd .i64 L.1 1) with
  |true =>
   refine ⟨?_,by simp only [cond_true];omega⟩
   unfold F28.b1
   refine bind_eq (g s.2) (lt_then (Int.ofNat_lt.2 hi) (bind_eq (g s.2) (bind_eq (getI_lt hi) (thenT hc (bind_eq (g s.2) (bind_eq (g s.2) (bind_eq (getI_lt hi) (bind_eq (g s.2) (bind_eq rfl (st3 rfl (nxt hi hl63) ?_))))))))))
   exact List.set_set ..
  |false =>
   refine ⟨?_,by simp only [cond_false,List.length_append,List.length_singleton];omega⟩
   unfold F28.b1
   exact bind_eq (g s.2) (lt_then (Int.ofNat_lt.2 hi) (bind_eq (g s.2) (bind_eq (getI_lt hi) (no_then hc (bind_eq (g s.2) (bind_eq (getI_lt hi) (thenT hr (st3 rfl (nxt hi hl63) rfl))))))))) (fun s _=>by
  unfold F28.b1
  exact bind_eq (g s.2) (lt_else (Int.le_refl _) rfl))).1
 have e:(([],((0:Int),(l0,()))):List D129×(Int×(List D127×Unit)))=([],((0:Int),(l0.set j ((l0[j]).1,((l0[j]).2.1,(l0[j]).2.2)),()))):=by rw [hself]
 rw [e]
 exact lp
theorem i_epIn (L:DLe) (l0:List D127) (j:Nat) (hj:j<l0.length) (h4:List.length (l0[j]).2.2.2.2.1≤4) :
  loopF (F38.b1 l0[j] (L,()) ((j:Int),(l0,()))) ([],((0:Int),(l0,())))=some (Sum.inl ((epFold (iAdd .i64 L.1 1) l0[j]).1,((List.length (l0[j]).2.2.2.2.1:Int),(l0.set j ((l0[j]).1,((epFold (iAdd .i64 L.1 1) l0[j]).2,(l0[j]).2.2)),())))):=by
 have hl63:L63 (List.length (l0[j]).2.2.2.2.1):=by unfold L63;omega
 have hself:l0.set j ((l0[j]).1,((l0[j]).2.1,(l0[j]).2.2))=l0:=List.set_getElem_self hj
 have g:∀s:Int,getN (l0.set j ((l0[j]).1,(s,(l0[j]).2.2))) (Int.toNat (j:Int))=some ((l0[j]).1,(s,(l0[j]).2.2)):=fun s=>getN_set hj
 have lp:=(loopFold (S:=List D129×(Int×(List D127×Unit))) (l0[j]).2.2.2.2.1 (epStep (iAdd .i64 L.1 1)) (fun k s=>s.1.length≤k) (f:=F38.b1 l0[j] (L,()) ((j:Int),(l0,()))) (fun s k=>(s.1,(k,(l0.set j ((l0[j]).1,(s.2,(l0[j]).2.2)),())))) (fun s=>Sum.inl (s.1,((List.length (l0[j]).2.2.2.2.1:Int),(l0.set j ((l0[j]).1,(s.2,(l0[j]).2.2)),())))) ([],(l0[j]).2.1) (Nat.le_refl _) (fun i hi s hI=>by
  have hI:s.1.length≤i:=hI
  have hr:room (s.1.length+1) 16=true:=room_ok (by omega) (by decide) (by decide)
  unfold epStep
  cases hc:iLe ((l0[j]).2.2.2.2.1[i]).2.1 (iAdd .i64 L.1 1) with
  |true =>
   refine ⟨?_,by simp only [cond_true];omega⟩
   unfold F38.b1
   refine lt_then (Int.ofNat_lt.2 hi) (bind_eq (getI_lt hi) (thenT hc (bind_eq (g s.2) (bind_eq (g s.2) (bind_eq rfl (st3 rfl (nxt hi hl63) ?_))))))
   exact List.set_set ..
  |false =>
   refine ⟨?_,by simp only [cond_false,List.length_append,List.length_singleton];omega⟩
   unfold F38.b1
   exact lt_then (Int.ofNat_lt.2 hi) (bind_eq (getI_lt hi) (no_then hc (thenT hr (st3 rfl (nxt hi hl63) rfl))))) (fun s _=>by
  unfold F38.b1
  exact lt_else (Int.le_refl _) rfl)).1
 have e:(([],((0:Int),(l0,()))):List D129×(Int×(List D127×Unit)))=([],((0:Int),(l0.set j ((l0[j]).1,((l0[j]).2.1,(l0[j]).2.2)),()))):=by rw [hself]
 rw [e]
 exact lp
theorem ep_set (e:Int) {xs:List D127} {j:Nat} (hj:j<xs.length) (hj0:j<(upTo (epAcct e) xs j).length):(((upTo (epAcct e) xs j).set j (((upTo (epAcct e) xs j)[j]).1,((epFold e (upTo (epAcct e) xs j)[j]).2,((upTo (epAcct e) xs j)[j]).2.2))).set j (epAcct e (upTo (epAcct e) xs j)[j]))=upTo (epAcct e) xs (j+1):=by
 have h:=upTo_get (epAcct e) hj
 rw [List.getElem?_eq_getElem hj0] at h
 rw [Option.some.inj h,List.set_set]
 exact upTo_set (epAcct e) hj
theorem next_both2 (L:DLe) (hOk:(Ty.sl e127).Ok L.2.1) (hAL:AcctL L.2.1) :
  ∃R:DLe,F28 (L,())=some (R,())∧F38 (L,())=some (R,())∧(Ty.sl e127).Ok R.2.1∧AcctL R.2.1∧(R=L∨R=(iAdd .i64 L.1 1,(L.2.1.map (epAcct (iAdd .i64 L.1 1)),()))∧ledgerB L=true∧ledgerB R=true):=by
 have sc:=s_cledger L hAL
 have ic:=i_cledger L hAL
 have sl:=s_ledger L hOk
 have il:=i_ledger L hOk
 cases hq:ledgerB L with
 |false =>
  rw [hq] at sl il
  refine ⟨L,?_,?_,hOk,hAL,.inl rfl⟩
  ·unfold F28;exact bind_eq sc (bind_eq sl (thenT rfl rfl))
  ·unfold F38;exact bind_eq il (thenT rfl (bind_eq ic rfl))
 |true =>
  rw [hq] at sl il
  obtain ⟨hlen,hlv,_⟩:=ledger_len hq
  have hl63:L63 L.2.1.length:=hAL.1.l
  let e:=iAdd .i64 L.1 1
  let R:DLe:=(e,(L.2.1.map (epAcct e),()))
  have hRok:(Ty.sl e127).Ok R.2.1:=Ok_of (by show (L.2.1.map (epAcct e)).length≤_;rw [List.length_map];exact hOk.1) (fun y hy=>by
   obtain ⟨a,ha,rfl⟩:=List.mem_map.1 hy
   exact epAcct_ok e a (Ok_mem hOk.2 ha))
  have hRal:AcctL R.2.1:=⟨by show W1 (L.2.1.map (epAcct e)).length;rw [List.length_map];exact hAL.1,fun y hy=>by
   obtain ⟨a,ha,rfl⟩:=List.mem_map.1 hy
   exact Nat.le_trans (epAcct_len e a) (hAL.2 a ha)⟩
  have hend:upTo (epAcct e) L.2.1 L.2.1.length=L.2.1.map (epAcct e):=by unfold upTo;rw [List.take_length,List.drop_length,List.append_nil]
  have el:∀k (hk:k<L.2.1.length) (hk0:k<(upTo (epAcct e) L.2.1 k).length),List.length ((upTo (epAcct e) L.2.1 k)[k]).2.2.2.2.1≤4:=fun k hk hk0=>by
   have h:=upTo_get (epAcct e) hk
   rw [List.getElem?_eq_getElem hk0] at h
   rw [Option.some.inj h]
   exact (hlv _ (List.getElem_mem hk)).1
  have sp:=loopF_trace (f:=F28.b0 (L,())) (fun k=>((k:Int),(upTo (epAcct e) L.2.1 k,()))) L.2.1.length (e:=Sum.inl ((L.2.1.length:Int),(L.2.1.map (epAcct e),()))) (fun k hk=>by
   have hk0:k<(upTo (epAcct e) L.2.1 k).length:=by rw [upTo_len _ _ _ (by omega)];exact hk
   unfold F28.b0
   exact lt_then (Int.ofNat_lt.2 hk0) (bind_eq (getI_lt hk0) (bind_eq (s_epIn L _ k hk0 (el k hk hk0)) (bind_eq (getN_set hk0) (bind_eq rfl (st2 (nxt hk hl63) (ep_set e hk hk0)))))))
   (by
   unfold F28.b0
   refine lt_else (by rw [upTo_len _ _ _ (Nat.le_refl _)];exact Int.le_refl _) ?_
   rw [hend])
  have ip:=loopF_trace (f:=F38.b0 (L,())) (fun k=>((k:Int),(upTo (epAcct e) L.2.1 k,()))) L.2.1.length (e:=Sum.inl ((L.2.1.length:Int),(L.2.1.map (epAcct e),()))) (fun k hk=>by
   have hk0:k<(upTo (epAcct e) L.2.1 k).length:=by rw [upTo_len _ _ _ (by omega)];exact hk
   unfold F38.b0
   exact lt_then (Int.ofNat_lt.2 hk) (bind_eq (getI_lt hk0) (bind_eq (getN_nat hk0) (bind_eq (i_epIn L _ k hk0 (el k hk hk0)) (bind_eq (getN_set hk0) (bind_eq rfl (st2 (nxt hk hl63) (ep_set e hk hk0))))))))
   (by
   unfold F38.b0
   refine lt_else (Int.le_refl _) ?_
   rw [hend])
  have sl2:=s_ledger R hRok
  have il2:=i_ledger R hRok
  cases hR:ledgerB R with
  |false =>
   rw [hR] at sl2 il2
   refine ⟨L,?_,?_,hOk,hAL,.inl rfl⟩
   ·unfold F28;exact bind_eq sc (bind_eq sl (no_then rfl (bind_eq sp (bind_eq sl2 (thenT rfl (bind_eq sc rfl))))))
   ·unfold F38;exact bind_eq il (no_then rfl (bind_eq ic (bind_eq ip (bind_eq il2 (thenT rfl (bind_eq ic rfl))))))
  |true =>
   rw [hR] at sl2 il2
   refine ⟨R,?_,?_,hRok,hRal,.inr ⟨rfl,rfl,by first|rfl|exact hR⟩⟩
   ·unfold F28;exact bind_eq sc (bind_eq sl (no_then rfl (bind_eq sp (bind_eq sl2 (no_then rfl rfl)))))
   ·unfold F38;exact bind_eq il (no_then rfl (bind_eq ic (bind_eq ip (bind_eq il2 (no_then rfl rfl)))))
theorem next_both (L:DLe) (hOk:(Ty.sl e127).Ok L.2.1) (hAL:AcctL L.2.1) :
  ∃R:DLe,F28 (L,())=some (R,())∧F38 (L,())=some (R,())∧(Ty.sl e127).Ok R.2.1∧AcctL R.2.1:=by
 obtain ⟨R,h1,h2,h3,h4,_⟩:=next_both2 L hOk hAL
 exact ⟨R,h1,h2,h3,h4⟩
def scan {A S E:Type} (step:S→A→Sum S E) (fin:S→E):List A→S→E
 | [],s=>fin s
 |x::r,s=>match step s x with
  | .inl s'=>scan step fin r s'
  | .inr e=>e
theorem loopScan {S E A σ:Type} (xs:List A) (step:σ→A→Sum σ E) (I:σ→Prop) {f:S→Option (Sum S E)} (mk:σ→Int→S) (fin:σ→E) (s0:σ) (h0:I s0)
  (hstep:∀i (h:i<xs.length) s,I s→(∃s',step s xs[i]= .inl s'∧I s'∧f (mk s (i:Int))=some (.inl (mk s' ((i+1:Nat):Int))))∨∃e,step s xs[i]= .inr e∧f (mk s (i:Int))=some (.inr e)) (hend:∀s,I s→f (mk s (xs.length:Int))=some (.inr (fin s))) :
  loopF f (mk s0 0)=some (scan step fin xs s0):=by
 have key:∀(suf pre:List A) (s:σ),pre++suf=xs→I s→loopF f (mk s (pre.length:Int))=some (scan step fin suf s):=by
  intro suf
  induction suf with
  |nil =>
   intro pre s hp hI
   simp only [List.append_nil] at hp
   subst hp
   exact loopF_end (hend s hI)
  |cons x suf ih =>
   intro pre s hp hI
   have hlt:pre.length<xs.length:=by rw [←hp];simp
   have hx:xs[pre.length]=x:=by
    have:xs[pre.length]?=some x:=by rw [←hp];simp
    rw [List.getElem?_eq_getElem hlt] at this
    simpa using this
   rcases hstep pre.length hlt s hI with ⟨s',h1,h2,h3⟩|⟨e,h1,h3⟩
   ·rw [hx] at h1
    rw [loopF_step h3]
    simp only [scan,h1]
    have:=ih (pre++ [x]) s' (by simpa using hp) h2
    simpa using this
   ·rw [hx] at h1
    rw [loopF_end h3]
    simp only [scan,h1]
 simpa using key xs [] s0 rfl h0
noncomputable def nextR (L:DLe):DLe:=match F28 (L,()) with
 |some (R,())=>R
 |none=>L
theorem nextR_eq (L:DLe) (hOk:(Ty.sl e127).Ok L.2.1) (hAL:AcctL L.2.1):F28 (L,())=some (nextR L,())∧F38 (L,())=some (nextR L,())∧(Ty.sl e127).Ok (nextR L).2.1∧AcctL (nextR L).2.1:=by
 obtain ⟨R,h1,h2,h3,h4⟩:=next_both L hOk hAL
 have:nextR L=R:=by unfold nextR;rw [h1]
 rw [this]
 exact ⟨h1,h2,h3,h4⟩
theorem nextR_is (L:DLe) (hOk:(Ty.sl e127).Ok L.2.1) (hAL:AcctL L.2.1):nextR L=L∨nextR L=(iAdd .i64 L.1 1,(L.2.1.map (epAcct (iAdd .i64 L.1 1)),()))∧ledgerB L=true∧ledgerB (nextR L)=true:=by
 obtain ⟨R,h1,h2,h3,h4,h5⟩:=next_both2 L hOk hAL
 have:nextR L=R:=by unfold nextR;rw [h1]
 rw [this]
 exact h5
theorem applyR_led (L:DLe) (t:D122) (hOk:(Ty.sl e127).Ok L.2.1) (hAL:AcctL L.2.1) (ht:e122.Ok t) (h:ledgerB L=true):ledgerB (applyR L t).1=true:=by
 obtain ⟨R,c,h1,h2,h3,h4,h5,h6⟩:=apply_both2 L t hOk hAL ht
 have:applyR L t=(R,c):=by unfold applyR;rw [h1]
 rw [this]
 rcases h6 with h6|h6
 ·rw [h6];exact h
 ·exact h6
theorem allR_led:∀(ts:List D122) (s:Int×DLe),(Ty.sl e127).Ok s.2.2.1→AcctL s.2.2.1→(∀t∈ts,e122.Ok t)→ledgerB s.2=true→ledgerB (ts.foldl allStep s).2=true
 | [],s,_,_,_,h=>h
 |t::r,s,h1,h2,h3,h=>by
  obtain ⟨_,_,h4,h5,_⟩:=applyR_eq s.2 t h1 h2 (h3 t (by simp))
  exact allR_led r (allStep s t) h4 h5 (fun x hx=>h3 x (by simp [hx])) (applyR_led s.2 t h1 h2 (h3 t (by simp)) h)
theorem nextR_led (L:DLe) (hOk:(Ty.sl e127).Ok L.2.1) (hAL:AcctL L.2.1) (h:ledgerB L=true):ledgerB (nextR L)=true:=by
 rcases nextR_is L hOk hAL with h1|⟨_,_,h1⟩
 ·rw [h1];exact h
 ·exact h1
def lvEq (ys:List D129) (i:Nat) (x:D129):Bool:=match ys[i]? with
 |some y=>iEq x.1 y.1&&iEq x.2.1 y.2.1
 |none=>false
def lvsEq (xs ys:List D129):Bool:=iEq (xs.length:Int) (ys.length:Int)&&allI (lvEq ys) 0 xs
def acEq (x y:D127):Bool:=sEq x.1 y.1&&(iEq x.2.1 y.2.1&&(iEq x.2.2.1 y.2.2.1&&(iEq x.2.2.2.1 y.2.2.2.1&&lvsEq x.2.2.2.2.1 y.2.2.2.2.1)))
def acsP (ys:List D127) (i:Nat) (x:D127):Bool:=match ys[i]? with
 |some y=>acEq x y
 |none=>false
def leEq (a b:DLe):Bool:=iEq a.1 b.1&&(iEq (a.2.1.length:Int) (b.2.1.length:Int)&&allI (acsP b.2.1) 0 a.2.1)
theorem len_of {n m:Nat} (h:iEq (n:Int) (m:Int)=true):n=m:=by simp only [iEq,decide_eq_true_eq] at h;omega
theorem s_acEq (x y:D127) (hl:L63 (List.length x.2.2.2.2.1)):F162 (x,(y,()))=some (B1 (acEq x y)):=by
 unfold F162 acEq lvsEq
 refine andN (andN (andN (andN ?_)))
 cases hq:iEq (List.length x.2.2.2.2.1:Int) (List.length y.2.2.2.2.1:Int) with
 |false=>exact thenT rfl rfl
 |true =>
  have hlen:=len_of hq
  have lp:=loopAll (S:=Int×Unit) x.2.2.2.2.1 (lvEq y.2.2.2.2.1) (f:=F162.b0 (x,(y,()))) (fun k=>(k,())) (Sum.inl ((List.length x.2.2.2.2.1:Int),())) (Sum.inr (B1 false)) (fun i hi=>by
   unfold F162.b0 lvEq
   refine lt_then (Int.ofNat_lt.2 hi) (bind_eq (getI_lt hi) (bind_eq (getI_lt (hlen▸hi)) ?_))
   rw [←nxt hi hl,List.getElem?_eq_getElem (hlen▸hi)]
   exact goE) (by
   unfold F162.b0
   exact lt_else (Int.le_refl _) rfl)
  refine no_then rfl (bind_eq lp ?_)
  cases allI (lvEq y.2.2.2.2.1) 0 x.2.2.2.2.1<;>rfl
theorem i_lvEq (xs ys:List D129) (hl:L63 xs.length):F183 ((xs,()),((ys,()),()))=some (B1 (lvsEq xs ys)):=by
 unfold F183 lvsEq
 cases hq:iEq (xs.length:Int) (ys.length:Int) with
 |false=>exact thenT rfl rfl
 |true =>
  have hlen:=len_of hq
  have lp:=loopAll (S:=Int×Unit) xs (lvEq ys) (f:=F183.b0 ((xs,()),((ys,()),()))) (fun k=>(k,())) (Sum.inl ((xs.length:Int),())) (Sum.inr (B1 false)) (fun i hi=>by
   unfold F183.b0 lvEq
   refine lt_then (Int.ofNat_lt.2 hi) (bind_eq (getI_lt hi) (bind_eq (getI_lt (hlen▸hi)) ?_))
   rw [←nxt hi hl,List.getElem?_eq_getElem (hlen▸hi)]
   exact goE) (by
   unfold F183.b0
   exact lt_else (Int.le_refl _) rfl)
  refine no_then rfl (bind_eq lp ?_)
  cases allI (lvEq ys) 0 xs<;>rfl
theorem i_acEq (x y:D127) (hl:L63 (List.length x.2.2.2.2.1)):F182 (x,(y,()))=some (B1 (acEq x y)):=by
 unfold F182 acEq
 exact andY (andY (andY (andY (bind_eq (i_lvEq _ _ hl) rfl))))
theorem s_same (a b:DLe) (h:AcctL a.2.1):F98 (a,(b,()))=some (B1 (leEq a b)):=by
 have hl:L63 a.2.1.length:=h.1.l
 unfold F98 leEq
 refine andN ?_
 cases hq:iEq (a.2.1.length:Int) (b.2.1.length:Int) with
 |false=>exact thenT rfl rfl
 |true =>
  have hlen:=len_of hq
  have lp:=loopAll (S:=Int×Unit) a.2.1 (acsP b.2.1) (f:=F98.b0 (a,(b,()))) (fun k=>(k,())) (Sum.inl ((a.2.1.length:Int),())) (Sum.inr (B1 false)) (fun i hi=>by
   unfold F98.b0 acsP
   refine lt_then (Int.ofNat_lt.2 hi) (bind_eq (getI_lt hi) (bind_eq (getI_lt (hlen▸hi)) (bind_eq (s_acEq _ _ (h.2 _ (List.getElem_mem hi)).l) ?_)))
   rw [←nxt hi hl,List.getElem?_eq_getElem (hlen▸hi)]
   exact goE) (by
   unfold F98.b0
   exact lt_else (Int.le_refl _) rfl)
  refine no_then rfl (bind_eq lp ?_)
  cases allI (acsP b.2.1) 0 a.2.1<;>rfl
theorem i_eqFunc (xs ys:List D127) (g:_) (h:AcctL xs) (hg:∀x y:D127,L63 (List.length x.2.2.2.2.1)→g (x.1,(x.2.1,(x.2.2.1,(x.2.2.2.1,(x.2.2.2.2.1,(y.1,(y.2.1,(y.2.2.1,(y.2.2.2.1,(y.2.2.2.2.1,()))))))))))=some (acEq x y,())) :
  F181 ((xs,()),((ys,()),((g,()),())))=some (B1 (iEq (xs.length:Int) (ys.length:Int)&&allI (acsP ys) 0 xs)):=by
 have hl:L63 xs.length:=h.1.l
 unfold F181
 cases hq:iEq (xs.length:Int) (ys.length:Int) with
 |false=>exact thenT rfl rfl
 |true =>
  have hlen:=len_of hq
  have lp:=loopAll (S:=Int×Unit) xs (acsP ys) (f:=F181.b0 ((xs,()),((ys,()),((g,()),())))) (fun k=>(k,())) (Sum.inl ((xs.length:Int),())) (Sum.inr (B1 false)) (fun i hi=>by
   unfold F181.b0 acsP
   refine lt_then (Int.ofNat_lt.2 hi) (bind_eq (getI_lt hi) (bind_eq (getI_lt (hlen▸hi)) (bind_eq (hg _ _ (h.2 _ (List.getElem_mem hi)).l) ?_)))
   rw [←nxt hi hl,List.getElem?_eq_getElem (hlen▸hi)]
   exact goE) (by
   unfold F181.b0
   exact lt_else (Int.le_refl _) rfl)
  refine no_then rfl (bind_eq lp ?_)
  cases allI (acsP ys) 0 xs<;>rfl
theorem i_same (a b:DLe) (h:AcctL a.2.1):F108 (a,(b,()))=some (B1 (leEq a b)):=by
 unfold F108 leEq
 exact andY (bind_eq (i_eqFunc a.2.1 b.2.1 _ h (fun x y hl=>bind_eq (i_acEq x y hl) rfl)) rfl)
structure TreeF (l:List DBk):Prop where
 nn:∀b∈l,0≤b.1∧b.1≤100000
 blk:∀b∈l,blockB b=true
 asc:∀i j (hi:i<l.length) (hj:j<l.length),i<j→l[i].1<l[j].1
 par:∀b∈l,((bQc b).2.1= -1∧rootB (bQc b)=true)∨(0≤(bQc b).2.1∧(bQc b).2.1<b.1∧rootB (bQc b)=false∧∃p∈l,p.1=(bQc b).2.1∧p.2.2.1=(bQc b).1)
 len:l.length≤400
 ep:∀b∈l,b.2.1=headEp l
theorem blk_nn {b:DBk} (h:blockB b=true):0≤b.1∧b.1≤100000:=by
 unfold blockB at h
 simp only [Bool.and_eq_true] at h
 simpa [inR,iLe] using h.1
theorem asc_lt {A:Type} {f:A→Int} {l:List A} (h:∀i (hi:i<l.length),behind (fun z y=>iLt (f z) (f y)) l i l[i]=true) (i j:Nat) (hi:i<l.length) (hj:j<l.length) (hij:i<j):f l[i]<f l[j]:=by
 have h1:=asc_le h (j - 1 - i) i (by omega)
 have h2:=h ((j - 1)+1) (by omega)
 have h3:=behind_succ (lt:=fun z y=>iLt (f z) (f y)) (xs:=l) (j:=j - 1) (y:=l[j - 1+1]) (by omega)
 rw [h3] at h2
 have h4:f l[j - 1]<f l[j - 1+1]:=by simpa [iLt] using h2
 have e1:l[i+(j - 1 - i)]=l[j - 1]:=by congr 1;omega
 have e2:l[j - 1+1]=l[j]:=by congr 1;omega
 rw [e1] at h1
 rw [e2] at h4
 omega
theorem root_blk {q:DQc} (h:rootB q=true):q.2.1= -1:=by
 unfold rootB at h
 simp only [Bool.and_eq_true,iEq,decide_eq_true_eq] at h
 exact h.2.1
theorem treeF {l:List DBk} (h:treeB l=true):TreeF l:=by
 unfold treeB at h
 rw [tree_whole] at h
 simp only [Bool.and_eq_true] at h
 have hq:∀i (hi:i<l.length),(treeQ l i l[i]=true∧(rootB (bQc l[i])||parentB l l[i])=true):=fun i hi=>by
  have:=allI_get h.1 i hi
  rw [Nat.zero_add] at this
  simpa only [Bool.and_eq_true] using this
 have hb:∀i (hi:i<l.length),blockB l[i]=true∧iEq (l[i]).2.1 (headEp l)=true∧behind (fun z y=>iLt z.1 y.1) l i l[i]=true:=fun i hi=>by
  have:=(hq i hi).1
  unfold treeQ at this
  simpa only [Bool.and_eq_true] using this
 refine ⟨fun b hm=>?_,fun b hm=>?_,asc_lt (f:=fun b:DBk=>b.1) fun i hi=>(hb i hi).2.2,fun b hm=>?_,by have:=h.2;simp only [iLe,decide_eq_true_eq] at this;omega,fun b hm=>?_⟩
 ·obtain ⟨i,hi,rfl⟩:=List.getElem_of_mem hm;exact blk_nn (hb i hi).1
 ·obtain ⟨i,hi,rfl⟩:=List.getElem_of_mem hm;exact (hb i hi).1
 ·obtain ⟨i,hi,rfl⟩:=List.getElem_of_mem hm
  cases hr:rootB (bQc l[i]) with
  |true=>exact .inl ⟨root_blk hr,rfl⟩
  |false =>
   have h1:=noRoot_lt (hb i hi).1 hr
   have h2:=(hq i hi).2
   rw [hr,Bool.false_or] at h2
   unfold parentB at h2
   refine .inr ⟨h1.1,h1.2,rfl,?_⟩
   cases hf:l.find? (fun z=>iEq z.1 (bQc l[i]).2.1) with
   |none=>rw [hf] at h2;cases h2
   |some p =>
    rw [hf] at h2
    have h3:=List.find?_some hf
    simp only [iEq,decide_eq_true_eq] at h2 h3
    exact ⟨p,List.mem_of_find?_eq_some hf,h3,h2⟩
 ·obtain ⟨i,hi,rfl⟩:=List.getElem_of_mem hm;simpa [iEq] using (hb i hi).2.1
theorem TreeF.uniq {l:List DBk} (h:TreeF l) {i j:Nat} (hi:i<l.length) (hj:j<l.length) (e:l[i].1=l[j].1):i=j:=by
 rcases Nat.lt_trichotomy i j with h1|h1|h1
 ·have:=h.asc i j hi hj h1;omega
 ·exact h1
 ·have:=h.asc j i hj hi h1;omega
theorem TreeF.uniqB {l:List DBk} (h:TreeF l) {a b:DBk} (ha:a∈l) (hb:b∈l) (e:a.1=b.1):a=b:=by
 obtain ⟨i,hi,rfl⟩:=List.getElem_of_mem ha
 obtain ⟨j,hj,rfl⟩:=List.getElem_of_mem hb
 have:=h.uniq hi hj e
 subst this
 rfl
theorem blkAt_of {l:List DBk} (h:TreeF l) {j:Nat} (hj:j<l.length):blkAt l l[j].1=(j:Int):=by
 unfold blkAt
 rcases idxOf_cases l (fun b=>iEq b.1 l[j].1) with ⟨h1,_,_⟩|⟨k,hk,hp,_,_,_,h3⟩
 ·rw [List.any_eq_false] at h1
  exact absurd (by simp [iEq]) (h1 l[j] (List.getElem_mem hj))
 ·simp only [iEq,decide_eq_true_eq] at hp
  have:=h.uniq hk hj hp
  rw [h3,this]
theorem getI_blkAt {l:List DBk} (h:TreeF l) {b:DBk} (hb:b∈l):getI l (blkAt l b.1)=some b∧iLt (blkAt l b.1) 0=false:=by
 obtain ⟨j,hj,rfl⟩:=List.getElem_of_mem hb
 rw [blkAt_of h hj]
 exact ⟨getI_lt hj,iLt_false (Int.natCast_nonneg j)⟩
theorem blkAt_cases {l:List DBk} (h:TreeF l) (id:Int):(l.find? (fun b=>iEq b.1 id)=none∧blkAt l id= -1∧∀b∈l,b.1≠id)∨∃b∈l,b.1=id∧l.find? (fun b=>iEq b.1 id)=some b∧0≤blkAt l id∧getI l (blkAt l id)=some b:=by
 unfold blkAt
 rcases idxOf_cases l (fun b=>iEq b.1 id) with ⟨h1,h2,h3⟩|⟨k,hk,hp,_,_,h2,h3⟩
 ·refine .inl ⟨h2,h3,fun b hb e=>?_⟩
  rw [List.any_eq_false] at h1
  exact absurd (by simp [iEq,e]) (h1 b hb)
 ·simp only [iEq,decide_eq_true_eq] at hp
  exact .inr ⟨l[k],List.getElem_mem hk,hp,h2,by rw [h3];exact Int.natCast_nonneg k,by rw [h3];exact getI_lt hk⟩
def chB (l:List DBk):Nat→Int→List DBk
 |0,_=> []
 |f+1,id=>match l.find? (fun b=>iEq b.1 id) with
  |none=> []
  |some b=>chB l f (bQc b).2.1++ [b]
def chain (l:List DBk) (id:Int):List DBk:=chB l (id.toNat+1) id
theorem chB_none {l:List DBk} {id:Int} (h:l.find? (fun b=>iEq b.1 id)=none):∀f,chB l f id= []
 |0=>rfl
 |f+1=>by unfold chB;rw [h]
theorem chB_fuel {l:List DBk} (h:TreeF l):∀(f g:Nat) (id:Int),id.toNat<f→id.toNat<g→chB l f id=chB l g id:=by
 intro f
 induction f with
 |zero=>intro g id hf;omega
 |succ f ih =>
  intro g id hf hg
  cases g with
  |zero=>omega
  |succ g =>
   rcases blkAt_cases h id with ⟨h1,_,_⟩|⟨b,hb,he,h1,_,_⟩
   ·rw [chB_none h1,chB_none h1]
   ·unfold chB
    rw [h1]
    dsimp only
    have hn:=h.nn b hb
    rcases h.par b hb with ⟨h2,_⟩|⟨h2,h3,_⟩
    ·have h4:l.find? (fun z=>iEq z.1 (bQc b).2.1)=none:=by
      rw [List.find?_eq_none]
      intro z hz
      have:=h.nn z hz
      simp only [iEq,decide_eq_true_eq]
      omega
     rw [chB_none h4,chB_none h4]
    ·rw [ih g (bQc b).2.1 (by omega) (by omega)]
theorem chain_some {l:List DBk} (h:TreeF l) {b:DBk} (hb:b∈l):chain l b.1=chain l (bQc b).2.1++ [b]:=by
 have hn:=h.nn b hb
 rcases blkAt_cases h b.1 with ⟨_,_,h1⟩|⟨c,hc,he,h1,_,_⟩
 ·exact absurd rfl (h1 b hb)
 ·have:c=b:=h.uniqB hc hb he
  subst this
  have e:chain l c.1=chB l c.1.toNat (bQc c).2.1++ [c]:=by simp only [chain,chB,h1]
  rw [e]
  congr 1
  rcases h.par c hb with ⟨h2,_⟩|⟨h2,h3,_⟩
  ·have h4:l.find? (fun z=>iEq z.1 (bQc c).2.1)=none:=by
    rw [List.find?_eq_none]
    intro z hz
    have:=h.nn z hz
    simp only [iEq,decide_eq_true_eq]
    omega
   unfold chain
   rw [chB_none h4,chB_none h4]
  ·exact chB_fuel h _ _ _ (by omega) (by omega)
theorem chain_none {l:List DBk} {id:Int} (h:∀b∈l,b.1≠id):chain l id= []:=chB_none (by
 rw [List.find?_eq_none]
 intro z hz
 have:=h z hz
 simpa [iEq] using this) _
theorem chain_neg {l:List DBk} (h:TreeF l) {id:Int} (hn:id<0):chain l id= []:=chain_none (fun b hb=>by have:=h.nn b hb;omega)
theorem chain_ind {l:List DBk} (h:TreeF l) {M:Int→Prop} (h0:∀id,(∀b∈l,b.1≠id)→M id) (h1:∀b∈l,M (bQc b).2.1→M b.1):∀id,M id:=by
 have key:∀(n:Nat) (id:Int),id.toNat<n→M id:=by
  intro n
  induction n with
  |zero=>intro id hn;omega
  |succ n ih =>
   intro id hn
   rcases blkAt_cases h id with ⟨_,_,h2⟩|⟨b,hb,he,_,_,_⟩
   ·exact h0 id h2
   ·rw [←he]
    refine h1 b hb ?_
    have hbn:=h.nn b hb
    rcases h.par b hb with ⟨h3,_⟩|⟨h3,h4,_⟩
    ·rw [h3];exact h0 _ (fun c hc=>by have:=h.nn c hc;omega)
    ·exact ih _ (by omega)
 exact fun id=>key (id.toNat+1) id (by omega)
theorem chain_mem {l:List DBk} (h:TreeF l):∀(id:Int) (b:DBk),b∈chain l id→b∈l:=by
 refine chain_ind h (fun id hn b hb=>?_) (fun b hb ih c hc=>?_)
 ·rw [chain_none hn] at hb;cases hb
 ·rw [chain_some h hb] at hc
  rcases List.mem_append.1 hc with hc|hc
  ·exact ih c hc
  ·rw [List.mem_singleton.1 hc];exact hb
theorem chain_len {l:List DBk} (h:TreeF l):∀(id:Int),(chain l id).length≤(id+1).toNat:=by
 refine chain_ind h (fun id hn=>?_) (fun b hb ih=>?_)
 ·rw [chain_none hn];exact Nat.zero_le _
 ·rw [chain_some h hb]
  have hn:=h.nn b hb
  simp only [List.length_append,List.length_cons,List.length_nil]
  rcases h.par b hb with ⟨h3,_⟩|⟨h3,h4,_⟩<;>omega
theorem chain_len1 {l:List DBk} (h:TreeF l) (id:Int):(chain l id).length≤100001:=by
 rcases blkAt_cases h id with ⟨_,_,h2⟩|⟨b,hb,he,_,_,_⟩
 ·rw [chain_none h2];exact Nat.zero_le _
 ·have:=chain_len h id
  have:=h.nn b hb
  omega
theorem chain_pre {l:List DBk} (h:TreeF l):∀(id:Int) (p r:List DBk) (b:DBk),chain l id=p++b::r→chain l b.1=p++ [b]:=by
 refine chain_ind h (fun id hn p r b e=>?_) (fun c hc ih p r b e=>?_)
 ·rw [chain_none hn] at e;simp at e
 ·rw [chain_some h hc] at e
  rcases List.eq_nil_or_concat r with rfl|⟨r',z,rfl⟩
  ·have:=(List.append_inj' e rfl)
   rw [chain_some h (by have:=this.2;simp at this;subst this;exact hc)]
   simp only [List.cons.injEq,and_true] at this
   obtain ⟨h1,rfl⟩:=this
   rw [h1]
  ·have e':chain l (bQc c).2.1++ [c]=(p++b::r')++ [z]:=by rw [e];simp
   exact ih p r' b (List.append_inj' e' rfl).1
def commitId (l:List DBk) (q:DQc):Int:=match l.find? (fun b=>iEq b.1 q.2.1) with
 |none=> -1
 |some b=>bif !iEq b.2.2.1 q.1 then -1 else match l.find? (fun z=>iEq z.1 (bQc b).2.1) with
  |none=> -1
  |some p=>bif !iEq p.2.2.1 (iSub .i64 q.1 1) then -1 else p.1
theorem commitId_in {l:List DBk} {q:DQc} (h:iEq (commitId l q) (-1)=false):∃p∈l,p.1=commitId l q:=by
 unfold commitId at h ⊢
 cases h1:l.find? (fun b=>iEq b.1 q.2.1) with
 |none=>rw [h1] at h;simp [iEq] at h
 |some b =>
  rw [h1] at h
  dsimp only at h ⊢
  cases h2:iEq b.2.2.1 q.1 with
  |false=>rw [h2] at h;simp [iEq] at h
  |true =>
   rw [h2] at h
   cases h3:l.find? (fun z=>iEq z.1 (bQc b).2.1) with
   |none=>rw [h3] at h;simp [iEq] at h
   |some p =>
    rw [h3] at h
    dsimp only at h ⊢
    cases h4:iEq p.2.2.1 (iSub .i64 q.1 1) with
    |false=>rw [h4] at h;simp [iEq] at h
    |true=>exact ⟨p,List.mem_of_find?_eq_some h3,rfl⟩
def hasD (d:List D3) (n:Int):Bool:=d.any (fun x=>iEq x.1 n)
def addD (d:List D3) (n:Int):List D3:=bif hasD d n then d else d++ [(n,())]
def addDs (d:List D3) (ids:List D3):List D3:=ids.foldl (fun d x=>addD d x.1) d
theorem addD_len (d:List D3) (n:Int):(addD d n).length≤d.length+1:=by
 unfold addD
 cases hasD d n<;>simp
theorem addDs_len:∀(ids d:List D3),(addDs d ids).length≤d.length+ids.length
 | [],d=>by simp [addDs]
 |x::r,d=>by
  have h1:=addDs_len r (addD d x.1)
  have h2:=addD_len d x.1
  have h3:addDs d (x::r)=addDs (addD d x.1) r:=rfl
  rw [h3,List.length_cons]
  omega
noncomputable def foldR (L:DLe) (ch:List DBk):DLe:=ch.foldl (fun s b=>(allR s (bTxs b)).2) L
theorem foldR_ok:∀(ch:List DBk) (L:DLe),(Ty.sl e127).Ok L.2.1→AcctL L.2.1→(∀b∈ch,(Ty.sl e122).Ok (bTxs b))→(Ty.sl e127).Ok (foldR L ch).2.1∧AcctL (foldR L ch).2.1
 | [],L,h1,h2,_=>⟨h1,h2⟩
 |b::r,L,h1,h2,h3=>by
  obtain ⟨_,_,h4,h5⟩:=all_both L (bTxs b) h1 h2 (h3 b (by simp))
  exact foldR_ok r _ h4 h5 (fun c hc=>h3 c (by simp [hc]))
theorem foldR_app (L:DLe) (p r:List DBk):foldR L (p++r)=foldR (foldR L p) r:=by unfold foldR;rw [List.foldl_append]
def keepT (g:DLe) (t:D122):Bool:=match g.2.1.find? (fun a=>sEq a.1 t.2.1) with
 |some a=>iLe a.2.2.1 t.2.2.2.2.1
 |none=>false
def dropL (pool:List D122) (g:DLe):List D122:=pool.filter (keepT g)
theorem acc_cases (l:List D127) (s:ByteArray):(l.find? (fun a=>sEq a.1 s)=none∧accAt l s= -1)∨∃a∈l,l.find? (fun a=>sEq a.1 s)=some a∧0≤accAt l s∧getI l (accAt l s)=some a:=by
 unfold accAt
 rcases idxOf_cases l (fun a=>sEq a.1 s) with ⟨h1,h2,h3⟩|⟨k,hk,hp,_,_,h2,h3⟩
 ·exact .inl ⟨h2,h3⟩
 ·exact .inr ⟨l[k],List.getElem_mem hk,h2,by rw [h3];exact Int.natCast_nonneg k,by rw [h3];exact getI_lt hk⟩
theorem filter_take {A:Type} (p:A→Bool) (l:List A) {i:Nat} (hi:i<l.length):(l.take (i+1)).filter p=(l.take i).filter p++(bif p l[i] then [l[i]] else []):=by
 rw [List.take_succ_eq_append_getElem hi,List.filter_append]
 cases h:p l[i]<;>simp [h]
theorem fl_len {A:Type} (p:A→Bool) (l:List A) (i:Nat):((l.take i).filter p).length≤l.length:=Nat.le_trans (List.length_filter_le _ _) (by rw [List.length_take];omega)
theorem keep_next (g:DLe) (hOk:(Ty.sl e127).Ok g.2.1) (hAL:AcctL g.2.1) (t:D122):keepT (nextR g) t=keepT g t:=by
 rcases nextR_is g hOk hAL with h|⟨h,_,_⟩
 ·rw [h]
 ·rw [h]
  unfold keepT
  show (match (g.2.1.map (epAcct _)).find? (fun a=>sEq a.1 t.2.1) with|some a=>_|none=>_)=_
  rw [List.find?_map]
  show (match (g.2.1.find? (fun a=>sEq a.1 t.2.1)).map (epAcct _) with|some a=>_|none=>_)=_
  cases g.2.1.find? (fun a=>sEq a.1 t.2.1)<;>rfl
theorem drop_next (pool:List D122) (g:DLe) (hOk:(Ty.sl e127).Ok g.2.1) (hAL:AcctL g.2.1):dropL pool (nextR g)=dropL pool g:=by
 unfold dropL
 congr 1
 funext t
 exact keep_next g hOk hAL t
theorem loopScanN {S E A σ:Type} (xs:List A) (step:σ→A→Sum σ E) (I:Nat→σ→Prop) {f:S→Option (Sum S E)} (mk:σ→Int→S) (fin:σ→E) (s0:σ) (h0:I 0 s0)
  (hstep:∀i (h:i<xs.length) s,I i s→(∃s',step s xs[i]= .inl s'∧I (i+1) s'∧f (mk s (i:Int))=some (.inl (mk s' ((i+1:Nat):Int))))∨∃e,step s xs[i]= .inr e∧f (mk s (i:Int))=some (.inr e)) (hend:∀s,I xs.length s→f (mk s (xs.length:Int))=some (.inr (fin s))) :
  loopF f (mk s0 0)=some (scan step fin xs s0):=by
 have key:∀(suf pre:List A) (s:σ),pre++suf=xs→I pre.length s→loopF f (mk s (pre.length:Int))=some (scan step fin suf s):=by
  intro suf
  induction suf with
  |nil =>
   intro pre s hp hI
   simp only [List.append_nil] at hp
   subst hp
   exact loopF_end (hend s hI)
  |cons x suf ih =>
   intro pre s hp hI
   have hlt:pre.length<xs.length:=by rw [←hp];simp
   have hx:xs[pre.length]=x:=by
    have:xs[pre.length]?=some x:=by rw [←hp];simp
    rw [List.getElem?_eq_getElem hlt] at this
    simpa using this
   rcases hstep pre.length hlt s hI with ⟨s',h1,h2,h3⟩|⟨e,h1,h3⟩
   ·rw [hx] at h1
    rw [loopF_step h3]
    simp only [scan,h1]
    have:=ih (pre++ [x]) s' (by simpa using hp) (by simpa using h2)
    simpa using this
   ·rw [hx] at h1
    rw [loopF_end h3]
    simp only [scan,h1]
 simpa using key xs [] s0 rfl h0
structure QIn (q:DQc):Prop where
 i1:(Lit.int .i64 q.1).wf=true
 i2:(Lit.int .i64 q.2.1).wf=true
 ok:QOk q
 w:W1 (List.length q.2.2.1)
structure TIn (t:DTc):Prop where
 i1:(Lit.int .i64 t.1).wf=true
 ok:(Ty.sl e9).Ok t.2.1
 hi:(Ty.sl e3).Ok t.2.2.1
 w:W1 (List.length t.2.1)
 wh:W1 (List.length t.2.2.1)
theorem TIn.tok {t:DTc} (h:TIn t):TOk t:=⟨h.ok,h.hi.1⟩
theorem QIn.root:QIn ((0,(-1,([],()))):DQc):=⟨rfl,rfl,Ok_nil,Nat.zero_le _⟩
theorem NOk.qin {n:DNd} (h:NOk n) (l:NodeL n):QIn (nHigh n):=⟨h.2.2.2.2.2.2.2.2.1,h.2.2.2.2.2.2.2.2.2.1,h.high,l.2.2.2.2.1⟩
theorem NOk.tin {n:DNd} (h:NOk n) (l:NodeL n):TIn (nTc n):=⟨h.2.2.2.2.2.2.2.2.2.2.2.1,h.2.2.2.2.2.2.2.2.2.2.2.2.1,h.2.2.2.2.2.2.2.2.2.2.2.2.2.1,l.2.2.2.2.2.1,l.2.2.2.2.2.2.1⟩
theorem blk_at {bs:List D71} (hb:L63 bs.length) {n:Int} (h:inR n 0 (iSub .i64 (bs.length:Int) 1)=true):∃k,∃hk:k<bs.length,n=(k:Int):=by
 unfold inR at h
 unfold L63 at hb
 rw [iSub_small (by omega) (by omega)] at h
 simp only [Bool.and_eq_true,iLe,decide_eq_true_eq] at h
 exact ⟨n.toNat,by omega,by omega⟩
noncomputable def blkR (s:DLe) (b:D71):DLe:=bif b.2.2.2.2.2.2.2.2.2.2.2.1 then nextR (allR s b.2.2.2.2.2.2.2.2.2.2.1).2 else (allR s b.2.2.2.2.2.2.2.2.2.2.1).2
abbrev FoE:Type:=Sum (Int×(Int×(List D127×Unit))) (DLe×((Bool×Unit)×Unit))
noncomputable def foldStep (w:DWo) (s:DLe) (id:D3):Sum DLe FoE:=bif inR id.1 0 (iSub .i64 (w.2.2.2.2.1.length:Int) 1) then (match getI w.2.2.2.2.1 id.1 with
 |some b=> .inl (blkR s b)
 |none=> .inl s) else .inr (.inr ((w.1,(w.2.1,())),((false,()),())))
theorem fold_both (w:DWo) (done:List D3) (hw:WOk w) (hww:e44.w w≤1048576) (hd:L63 done.length) :
  ∃(R:DLe) (c:Bool),F6 (w,((done,()),()))=some (R,((c,()),()))∧F9 (w,((done,()),()))=some (R,((c,()),()))∧AcctL R.2.1:=by
 have hOk:(Ty.sl e127).Ok w.2.1:=hw.2.1
 have hAL:AcctL w.2.1:=AcctL_of (w_hd (w_tl hww))
 have hb:(Ty.sl e71).Ok w.2.2.2.2.1:=hw.2.2.2.2.1
 let L:DLe:=(w.1,(w.2.1,()))
 have sc:=s_cledger L hAL
 have ic:=i_cledger L hAL
 have si:∀(x:D3) (b:Bool),inR x.1 0 (iSub .i64 (w.2.2.2.2.1.length:Int) 1)=b→F26 (x,(((0:Int),()),((iSub .i64 (w.2.2.2.2.1.length:Int) 1,()),())))=some (B1 b):=fun x b h=>(s_in x.1 0 _).trans (by rw [h])
 have ii:∀(x:D3) (b:Bool),inR x.1 0 (iSub .i64 (w.2.2.2.2.1.length:Int) 1)=b→F36 (x,(((0:Int),()),((iSub .i64 (w.2.2.2.2.1.length:Int) 1,()),())))=some (B1 b):=fun x b h=>(i_in x.1 0 _).trans (by rw [h])
 let fin:DLe→FoE:=fun s=>Sum.inl ((done.length:Int),(s.1,(s.2.1,())))
 let I:DLe→Prop:=fun s=>(Ty.sl e127).Ok s.2.1∧AcctL s.2.1
 have sp:=loopScan (S:=Int×(Int×(List D127×Unit))) done (foldStep w) I (f:=F6.b0 (w,((done,()),()))) (fun s k=>(k,(s.1,(s.2.1,())))) fin L ⟨hOk,hAL⟩ (fun i hi s hI=>by
  cases hc:inR (done[i]).1 0 (iSub .i64 (w.2.2.2.2.1.length:Int) 1) with
  |false =>
   refine .inr ⟨.inr (L,((false,()),())),by unfold foldStep;rw [hc];rfl,?_⟩
   unfold F6.b0
   exact lt_then (Int.ofNat_lt.2 hi) (bind_eq (getI_lt hi) (bind_eq (si _ _ hc) (thenT rfl (bind_eq sc rfl))))
  |true =>
   obtain ⟨k,hk,hn⟩:=blk_at hb.1 hc
   have hg:getI w.2.2.2.2.1 (done[i]).1=some w.2.2.2.2.1[k]:=by rw [hn];exact getI_lt hk
   have hB:=Ok_mem hb.2 (List.getElem_mem hk)
   obtain ⟨a1,a2,a3,a4⟩:=all_both s (w.2.2.2.2.1[k]).2.2.2.2.2.2.2.2.2.2.1 hI.1 hI.2 hB.2.2.2.2.2.2.2.2.2.2.1
   obtain ⟨n1,n2,n3,n4⟩:=nextR_eq _ a3 a4
   have hs:foldStep w s done[i]= .inl (blkR s w.2.2.2.2.1[k]):=by unfold foldStep;rw [hc,hg];rfl
   refine .inl ⟨_,hs,?_,?_⟩
   ·unfold blkR
    cases (w.2.2.2.2.1[k]).2.2.2.2.2.2.2.2.2.2.2.1 with
    |true=>exact ⟨n3,n4⟩
    |false=>exact ⟨a3,a4⟩
   ·unfold F6.b0 blkR
    refine lt_then (Int.ofNat_lt.2 hi) (bind_eq (getI_lt hi) (bind_eq (si _ _ hc) (no_then rfl (bind_eq (getI_lt hi) (bind_eq hg (bind_eq a1 ?_))))))
    rw [←nxt hi hd]
    cases he:(w.2.2.2.2.1[k]).2.2.2.2.2.2.2.2.2.2.2.1 with
    |true=>exact bind_eq n1 rfl
    |false=>rfl) (fun s _=>by
  unfold F6.b0
  exact lt_else (Int.le_refl _) rfl)
 have ip:=loopScan (S:=Int×(Int×(List D127×Unit))) done (foldStep w) I (f:=F9.b0 (w,((done,()),()))) (fun s k=>(k,(s.1,(s.2.1,())))) fin L ⟨hOk,hAL⟩ (fun i hi s hI=>by
  cases hc:inR (done[i]).1 0 (iSub .i64 (w.2.2.2.2.1.length:Int) 1) with
  |false =>
   refine .inr ⟨.inr (L,((false,()),())),by unfold foldStep;rw [hc];rfl,?_⟩
   unfold F9.b0
   exact lt_then (Int.ofNat_lt.2 hi) (bind_eq (getI_lt hi) (bind_eq (ii _ _ hc) (thenT rfl (bind_eq ic rfl))))
  |true =>
   obtain ⟨k,hk,hn⟩:=blk_at hb.1 hc
   have hg:getI w.2.2.2.2.1 (done[i]).1=some w.2.2.2.2.1[k]:=by rw [hn];exact getI_lt hk
   have hB:=Ok_mem hb.2 (List.getElem_mem hk)
   obtain ⟨a1,a2,a3,a4⟩:=all_both s (w.2.2.2.2.1[k]).2.2.2.2.2.2.2.2.2.2.1 hI.1 hI.2 hB.2.2.2.2.2.2.2.2.2.2.1
   obtain ⟨n1,n2,n3,n4⟩:=nextR_eq _ a3 a4
   have hs:foldStep w s done[i]= .inl (blkR s w.2.2.2.2.1[k]):=by unfold foldStep;rw [hc,hg];rfl
   refine .inl ⟨_,hs,?_,?_⟩
   ·unfold blkR
    cases (w.2.2.2.2.1[k]).2.2.2.2.2.2.2.2.2.2.2.1 with
    |true=>exact ⟨n3,n4⟩
    |false=>exact ⟨a3,a4⟩
   ·unfold F9.b0 blkR
    refine lt_then (Int.ofNat_lt.2 hi) (bind_eq (getI_lt hi) (bind_eq (ii _ _ hc) (no_then rfl (bind_eq hg (bind_eq a2 ?_)))))
    rw [←nxt hi hd]
    cases he:(w.2.2.2.2.1[k]).2.2.2.2.2.2.2.2.2.2.2.1 with
    |true=>exact bind_eq n2 rfl
    |false=>rfl) (fun s _=>by
  unfold F9.b0
  exact lt_else (Int.le_refl _) rfl)
 have inv:∀(l:List D3) (s:DLe),I s→match scan (foldStep w) fin l s with| .inl v=>AcctL v.2.2.1| .inr r=>AcctL r.1.2.1:=by
  intro l
  induction l with
  |nil=>intro s hI;exact hI.2
  |cons x r ih =>
   intro s hI
   simp only [scan]
   cases hc:inR x.1 0 (iSub .i64 (w.2.2.2.2.1.length:Int) 1) with
   |false =>
    have:foldStep w s x= .inr (.inr (L,((false,()),()))):=by unfold foldStep;rw [hc];rfl
    rw [this];exact hAL
   |true =>
    obtain ⟨k,hk,hn⟩:=blk_at hb.1 hc
    have hg:getI w.2.2.2.2.1 x.1=some w.2.2.2.2.1[k]:=by rw [hn];exact getI_lt hk
    have hB:=Ok_mem hb.2 (List.getElem_mem hk)
    obtain ⟨_,_,a3,a4⟩:=all_both s (w.2.2.2.2.1[k]).2.2.2.2.2.2.2.2.2.2.1 hI.1 hI.2 hB.2.2.2.2.2.2.2.2.2.2.1
    obtain ⟨_,_,n3,n4⟩:=nextR_eq _ a3 a4
    have hs:foldStep w s x= .inl (blkR s w.2.2.2.2.1[k]):=by unfold foldStep;rw [hc,hg];rfl
    rw [hs]
    refine ih _ ?_
    unfold blkR
    cases (w.2.2.2.2.1[k]).2.2.2.2.2.2.2.2.2.2.2.1 with
    |true=>exact ⟨n3,n4⟩
    |false=>exact ⟨a3,a4⟩
 have hinv:=inv done L ⟨hOk,hAL⟩
 revert sp ip hinv
 cases scan (foldStep w) fin done L with
 |inl v =>
  intro sp ip hinv
  refine ⟨(v.2.1,(v.2.2.1,())),true,?_,?_,hinv⟩
  ·unfold F6;exact bind_eq sc (bind_eq sp rfl)
  ·unfold F9;exact bind_eq ic (bind_eq ip rfl)
 |inr r =>
  intro sp ip hinv
  refine ⟨r.1,r.2.1.1,?_,?_,hinv⟩
  ·unfold F6;exact bind_eq sc (bind_eq sp rfl)
  ·unfold F9;exact bind_eq ic (bind_eq ip rfl)
noncomputable def condB (w:DWo) (x:D3):Bool:=inR x.1 0 (iSub .i64 (w.2.2.2.2.1.length:Int) 1)&&(match getI w.2.2.2.2.1 x.1 with
 |some b=>b.2.2.2.2.2.2.2.2.2.2.2.1
 |none=>false)
noncomputable def endStep (w:DWo) (s:Int×Int) (x:D3):Int×Int:=(bif condB w x then iAdd .i64 s.2 1 else s.1,iAdd .i64 s.2 1)
theorem ends_both (w:DWo) (done:List D3) (hw:WOk w) (hd:L63 done.length) :
  ∃m:Nat,m≤done.length∧F97 (w,((done,()),()))=some (I1 (m:Int))∧F107 (w,((done,()),()))=some ((List.take ((Int.toNat (m:Int)) - 0) (List.drop 0 done),()),()):=by
 have hb:(Ty.sl e71).Ok w.2.2.2.2.1:=hw.2.2.2.2.1
 have si:∀(x:D3) (b:Bool),inR x.1 0 (iSub .i64 (w.2.2.2.2.1.length:Int) 1)=b→F26 (x,(((0:Int),()),((iSub .i64 (w.2.2.2.2.1.length:Int) 1,()),())))=some (B1 b):=fun x b h=>(s_in x.1 0 _).trans (by rw [h])
 have ii:∀(x:D3) (b:Bool),inR x.1 0 (iSub .i64 (w.2.2.2.2.1.length:Int) 1)=b→F36 (x,(((0:Int),()),((iSub .i64 (w.2.2.2.2.1.length:Int) 1,()),())))=some (B1 b):=fun x b h=>(i_in x.1 0 _).trans (by rw [h])
 have hinv:∀i (hi:i<done.length) (s:Int×Int),(s.2=(i:Int)∧∃m:Nat,m≤i∧s.1=(m:Int))→((endStep w s done[i]).2=((i+1:Nat):Int)∧∃m:Nat,m≤i+1∧(endStep w s done[i]).1=(m:Int)):=fun i hi s hI=>by
  obtain ⟨e1,m,e2,e3⟩:=hI
  have en:iAdd .i64 s.2 1=((i+1:Nat):Int):=by rw [e1];exact nxt hi hd
  unfold endStep
  refine ⟨en,?_⟩
  cases condB w done[i] with
  |true=>exact ⟨i+1,Nat.le_refl _,en⟩
  |false=>exact ⟨m,by omega,e3⟩
 have sp:=loopFold (S:=Int×(Int×Unit)) done (endStep w) (fun i s=>s.2=(i:Int)∧∃m:Nat,m≤i∧s.1=(m:Int)) (f:=F97.b0 (w,((done,()),()))) (fun s k=>(s.1,(k,()))) (fun s=>Sum.inl (s.1,((done.length:Int),()))) (0,0) ⟨rfl,0,Nat.le_refl _,rfl⟩ (fun i hi s hI=>by
  refine ⟨?_,hinv i hi s hI⟩
  unfold F97.b0 endStep
  rw [hI.1,←nxt hi hd]
  cases hc:inR (done[i]).1 0 (iSub .i64 (w.2.2.2.2.1.length:Int) 1) with
  |false =>
   have hcb:condB w done[i]=false:=by unfold condB;rw [hc];rfl
   rw [hcb]
   exact lt_then (Int.ofNat_lt.2 hi) (bind_eq (getI_lt hi) (bind_eq (si _ _ hc) (no_then rfl rfl)))
  |true =>
   obtain ⟨k,hk,hn⟩:=blk_at hb.1 hc
   have hg:getI w.2.2.2.2.1 (done[i]).1=some w.2.2.2.2.1[k]:=by rw [hn];exact getI_lt hk
   have hcb:condB w done[i]=(w.2.2.2.2.1[k]).2.2.2.2.2.2.2.2.2.2.2.1:=by unfold condB;rw [hc,hg];rfl
   rw [hcb]
   refine lt_then (Int.ofNat_lt.2 hi) (bind_eq (getI_lt hi) (bind_eq (si _ _ hc) (thenT rfl (bind_eq (getI_lt hi) (bind_eq hg ?_)))))
   cases (w.2.2.2.2.1[k]).2.2.2.2.2.2.2.2.2.2.2.1<;>rfl) (fun s _=>by
  unfold F97.b0
  exact lt_else (Int.le_refl _) rfl)
 have ip:=loopFold (S:=Int×(Int×Unit)) done (endStep w) (fun i s=>s.2=(i:Int)∧∃m:Nat,m≤i∧s.1=(m:Int)) (f:=F107.b0 (w,((done,()),()))) (fun s k=>(s.1,(k,()))) (fun s=>Sum.inl (s.1,((done.length:Int),()))) (0,0) ⟨rfl,0,Nat.le_refl _,rfl⟩ (fun i hi s hI=>by
  refine ⟨?_,hinv i hi s hI⟩
  unfold F107.b0 endStep
  rw [hI.1,←nxt hi hd]
  cases hc:inR (done[i]).1 0 (iSub .i64 (w.2.2.2.2.1.length:Int) 1) with
  |false =>
   have hcb:condB w done[i]=false:=by unfold condB;rw [hc];rfl
   rw [hcb]
   exact lt_then (Int.ofNat_lt.2 hi) (bind_eq (getI_lt hi) (bind_eq (ii _ _ hc) (no_then rfl rfl)))
  |true =>
   obtain ⟨k,hk,hn⟩:=blk_at hb.1 hc
   have hg:getI w.2.2.2.2.1 (done[i]).1=some w.2.2.2.2.1[k]:=by rw [hn];exact getI_lt hk
   have hcb:condB w done[i]=(w.2.2.2.2.1[k]).2.2.2.2.2.2.2.2.2.2.2.1:=by unfold condB;rw [hc,hg];rfl
   rw [hcb]
   refine lt_then (Int.ofNat_lt.2 hi) (bind_eq (getI_lt hi) (bind_eq (ii _ _ hc) (thenT rfl (bind_eq hg ?_))))
   cases (w.2.2.2.2.1[k]).2.2.2.2.2.2.2.2.2.2.2.1<;>rfl) (fun s _=>by
  unfold F107.b0
  exact lt_else (Int.le_refl _) rfl)
 obtain ⟨_,m,hm,he⟩:=sp.2
 have sp1:=sp.1
 have ip1:=ip.1
 rw [he] at sp1 ip1
 refine ⟨m,hm,?_,?_⟩
 ·unfold F97;exact bind_eq sp1 rfl
 ·unfold F107;exact bind_eq ip1 (cut_hi hm rfl)
noncomputable def foldedB (w:DWo) (n:DNd):Bool:=match F97 (w,((n.2.2.2.2.2.2.2.2.2.2.2.2.2.2.2.2.2.1,()),())) with
 |some ((k,()),())=>match F6 (w,((List.take ((Int.toNat k) - 0) (List.drop 0 n.2.2.2.2.2.2.2.2.2.2.2.2.2.2.2.2.2.1),()),())) with
  |some (R,((c,()),()))=>c&&leEq R (n.2.2.1,(n.2.2.2.1,()))
  |none=>false
 |none=>false
theorem node_both (w:DWo) (hw:WOk w) (hww:e44.w w≤1048576) (n:DNd) (hn:NOk n) :
  ∃(m:Nat) (R:DLe) (c:Bool),m≤List.length n.2.2.2.2.2.2.2.2.2.2.2.2.2.2.2.2.2.1∧F97 (w,((n.2.2.2.2.2.2.2.2.2.2.2.2.2.2.2.2.2.1,()),()))=some (I1 (m:Int))∧F107 (w,((n.2.2.2.2.2.2.2.2.2.2.2.2.2.2.2.2.2.1,()),()))=some ((List.take ((Int.toNat (m:Int)) - 0) (List.drop 0 n.2.2.2.2.2.2.2.2.2.2.2.2.2.2.2.2.2.1),()),()) ∧
   F6 (w,((List.take ((Int.toNat (m:Int)) - 0) (List.drop 0 n.2.2.2.2.2.2.2.2.2.2.2.2.2.2.2.2.2.1),()),()))=some (R,((c,()),()))∧F9 (w,((List.take ((Int.toNat (m:Int)) - 0) (List.drop 0 n.2.2.2.2.2.2.2.2.2.2.2.2.2.2.2.2.2.1),()),()))=some (R,((c,()),()))∧AcctL R.2.1∧foldedB w n=(c&&leEq R (n.2.2.1,(n.2.2.2.1,()))):=by
 have hd:(Ty.sl (.cons (.int .i64) .nil)).Ok n.2.2.2.2.2.2.2.2.2.2.2.2.2.2.2.2.2.1:=hn.2.2.2.2.2.2.2.2.2.2.2.2.2.2.2.2.2.1
 obtain ⟨m,h1,h2,h3⟩:=ends_both w n.2.2.2.2.2.2.2.2.2.2.2.2.2.2.2.2.2.1 hw hd.1
 obtain ⟨R,c,h4,h5,h6⟩:=fold_both w (List.take ((Int.toNat (m:Int)) - 0) (List.drop 0 n.2.2.2.2.2.2.2.2.2.2.2.2.2.2.2.2.2.1)) hw hww (Nat.le_trans (m:=List.length n.2.2.2.2.2.2.2.2.2.2.2.2.2.2.2.2.2.1) (by rw [List.length_take,List.length_drop];omega) hd.1)
 refine ⟨m,R,c,h1,h2,h3,h4,h5,h6,?_⟩
 unfold foldedB
 rw [h2]
 show (match F6 (w,((List.take ((Int.toNat (m:Int)) - 0) (List.drop 0 n.2.2.2.2.2.2.2.2.2.2.2.2.2.2.2.2.2.1),()),())) with
  |some (R,((c,()),()))=>c&&leEq R (n.2.2.1,(n.2.2.2.1,()))
  |none=>false)=_
 rw [h4]
theorem s_folded (w:DWo) (hw:WOk w) (hww:e44.w w≤1048576):F55 (w,())=some (B1 (w.2.2.2.1.all (foldedB w))):=by
 have hns:(Ty.sl e135).Ok w.2.2.2.1:=hw.2.2.2.1
 have lp:=loopAllP (S:=Int×Unit) w.2.2.2.1 (foldedB w) (f:=F55.b0 (w,())) (fun k=>(k,())) (Sum.inl ((w.2.2.2.1.length:Int),())) (Sum.inr (B1 false)) (fun i hi=>by
  obtain ⟨m,R,c,h1,h2,h3,h4,h5,h6,h7⟩:=node_both w hw hww w.2.2.2.1[i] (Ok_mem hns.2 (List.getElem_mem hi))
  unfold F55.b0
  rw [h7,←nxt hi hns.1]
  exact lt_then (Int.ofNat_lt.2 hi) (bind_eq (getI_lt hi) (bind_eq h2 (cut_hi h1 (bind_eq h4 (goN (bind_eq (s_same R _ h6) goE))))))) (by
  unfold F55.b0
  exact lt_else (Int.le_refl _) rfl)
 unfold F55
 refine bind_eq lp ?_
 cases w.2.2.2.1.all (foldedB w)<;>rfl
theorem i_folded (w:DWo) (hw:WOk w) (hww:e44.w w≤1048576):F59 (w,())=some (B1 (w.2.2.2.1.all (foldedB w))):=by
 have hns:(Ty.sl e135).Ok w.2.2.2.1:=hw.2.2.2.1
 have lp:=loopAllP (S:=Int×Unit) w.2.2.2.1 (foldedB w) (f:=F59.b0 (w,())) (fun k=>(k,())) (Sum.inl ((w.2.2.2.1.length:Int),())) (Sum.inr (B1 false)) (fun i hi=>by
  obtain ⟨m,R,c,h1,h2,h3,h4,h5,h6,h7⟩:=node_both w hw hww w.2.2.2.1[i] (Ok_mem hns.2 (List.getElem_mem hi))
  unfold F59.b0
  rw [h7,←nxt hi hns.1]
  exact lt_then (Int.ofNat_lt.2 hi) (bind_eq (getI_lt hi) (bind_eq h3 (bind_eq h5 (goN (bind_eq (i_same R _ h6) goE)))))) (by
  unfold F59.b0
  exact lt_else (Int.le_refl _) rfl)
 unfold F59
 refine bind_eq lp ?_
 cases w.2.2.2.1.all (foldedB w)<;>rfl
theorem L_Folded (w:DWo) (hw:e44.Ok w) (hww:e44.w w≤1048576) :
  ∃R,F55 (w,())=some R∧F59 (w,())=some R∧(.cons .bool .nil:Tys).Ok R.1∧(.cons .bool .nil:Tys).w R.1≤67108864 :=
 ⟨_,s_folded w hw hww,i_folded w hw hww,⟨trivial,trivial⟩,Nat.zero_le _⟩
theorem sumW_app {A:Type} (f:A→Nat):∀(a b:List A),sumW f (a++b)=sumW f a+sumW f b
 | [],b=>by simp [sumW]
 |x::r,b=>by simp only [List.cons_append,sumW];rw [sumW_app f r b];omega
theorem sumW_sub {A:Type} (f:A→Nat) {a b:List A} (h:a.Sublist b):sumW f a≤sumW f b:=by
 induction h with
 |slnil=>exact Nat.le_refl _
 |cons x _ ih=>simp only [sumW];omega
 |cons_cons x _ ih=>simp only [sumW];omega
theorem w_app {es:Tys} (a b:List es.D):(Ty.sl es).w (a++b)=(Ty.sl es).w a+(Ty.sl es).w b:=by
 show (a++b).length+sumW (fun x=>es.w x) (a++b)=(a.length+sumW (fun x=>es.w x) a)+(b.length+sumW (fun x=>es.w x) b)
 rw [sumW_app,List.length_append];omega
theorem w_sub {es:Tys} {a b:List es.D} (h:a.Sublist b):(Ty.sl es).w a≤(Ty.sl es).w b:=by
 show a.length+sumW (fun x=>es.w x) a≤b.length+sumW (fun x=>es.w x) b
 have:=sumW_sub (fun x=>es.w x) h
 have:=h.length_le
 omega
theorem sumW_const {A:Type} {f:A→Nat} {c:Nat}:∀{xs:List A},(∀x∈xs,f x≤c)→sumW f xs≤c*xs.length
 | [],_=>by simp [sumW]
 |x::r,h=>by
  have h1:=sumW_const (f:=f) (c:=c) (xs:=r) (fun y hy=>h y (by simp [hy]))
  have h2:=h x (by simp)
  simp only [sumW,List.length_cons,Nat.mul_add,Nat.mul_one]
  omega
theorem chain_sub {l:List DBk} (h:TreeF l):∀(id:Int) (j:Nat) (hj:j<l.length),l[j].1=id→(chain l id).Sublist (l.take (j+1)):=by
 refine chain_ind h (fun id hn j hj e=>absurd e (hn _ (List.getElem_mem hj))) (fun b hb ih j hj e=>?_)
 rw [chain_some h hb,List.take_succ_eq_append_getElem hj]
 have hbj:l[j]=b:=h.uniqB (List.getElem_mem hj) hb e
 rw [hbj]
 refine List.Sublist.append ?_ (List.Sublist.refl _)
 rcases h.par b hb with ⟨h1,_⟩|⟨_,h2,_,p,hp,hpe,_⟩
 ·rw [chain_neg h (by omega)];exact List.nil_sublist _
 ·obtain ⟨i,hi,rfl⟩:=List.getElem_of_mem hp
  have hij:i<j:=by
   rcases Nat.lt_or_ge i j with h3|h3
   ·exact h3
   ·exfalso
    have h4:l[j].1≤l[i].1:=by
     rcases Nat.eq_or_lt_of_le h3 with h5|h5
     ·subst h5;exact Int.le_refl _
     ·exact Int.le_of_lt (h.asc j i hj hi h5)
    rw [hbj] at h4
    omega
  exact (ih i hi hpe).trans (List.take_sublist_take_left (by omega))
theorem chain_subl {l:List DBk} (h:TreeF l) (id:Int):(chain l id).Sublist l:=by
 rcases blkAt_cases h id with ⟨_,_,h2⟩|⟨b,hb,he,_,_,_⟩
 ·rw [chain_none h2];exact List.nil_sublist _
 ·obtain ⟨j,hj,rfl⟩:=List.getElem_of_mem hb
  exact (chain_sub h id j hj he).trans (List.take_sublist _ _)
theorem name_size {s:ByteArray} (h:nameB s=true):s.size≤8:=by
 unfold nameB at h
 simp only [Bool.and_eq_true] at h
 have:=h.2
 simp only [inR,iLe,Bool.and_eq_true,decide_eq_true_eq] at this
 omega
theorem led_w {L:DLe} (h:ledgerB L=true):(Ty.sl e127).w L.2.1≤1000:=by
 have hl:=ledger_len h
 have hn:∀a∈L.2.1,e127.w a≤12:=by
  intro a ha
  unfold ledgerB acctsB at h
  simp only [Bool.and_eq_true] at h
  obtain ⟨i,hi,rfl⟩:=List.getElem_of_mem ha
  have h1:=allI_get h.2.1 i hi
  rw [Nat.zero_add] at h1
  unfold acctP acctB at h1
  simp only [Bool.and_eq_true] at h1
  have h2:=name_size h1.1.1
  have h3:=(hl.2.1 _ (List.getElem_mem hi)).1
  have h4:(Ty.sl e129).w (L.2.1[i]).2.2.2.2.1≤4:=by
   show List.length (L.2.1[i]).2.2.2.2.1+sumW (fun x=>e129.w x) (L.2.1[i]).2.2.2.2.1≤4
   have:sumW (fun x=>e129.w x) (L.2.1[i]).2.2.2.2.1≤0*List.length (L.2.1[i]).2.2.2.2.1:=sumW_const (fun x _=>Nat.le_refl _)
   omega
  show (L.2.1[i]).1.size+(0+(0+(0+((Ty.sl e129).w (L.2.1[i]).2.2.2.2.1+0))))≤12
  omega
 show L.2.1.length+sumW (fun x=>e127.w x) L.2.1≤1000
 have h1:=sumW_const (f:=fun x=>e127.w x) hn
 have h2:sumW (fun x=>e127.w x) L.2.1≤12*12:=Nat.le_trans h1 (Nat.mul_le_mul_left 12 hl.1)
 exact Nat.le_trans (Nat.add_le_add hl.1 h2) (by decide)
theorem led_wf {L:DLe} (h:ledgerB L=true):(Lit.int .i64 L.1).wf=true:=by
 unfold ledgerB at h
 simp only [Bool.and_eq_true] at h
 have:=h.1
 simp only [inR,iLe,Bool.and_eq_true,decide_eq_true_eq] at this
 exact Rwf (by omega) (by omega)
theorem foldR_led:∀(ch:List DBk) (L:DLe),(Ty.sl e127).Ok L.2.1→AcctL L.2.1→(∀b∈ch,(Ty.sl e122).Ok (bTxs b))→ledgerB L=true→ledgerB (foldR L ch)=true
 | [],L,_,_,_,h=>h
 |b::r,L,h1,h2,h3,h=>by
  obtain ⟨_,_,h4,h5⟩:=all_both L (bTxs b) h1 h2 (h3 b (by simp))
  exact foldR_led r _ h4 h5 (fun c hc=>h3 c (by simp [hc])) (allR_led (bTxs b) (0,L) h1 h2 (fun t ht=>Ok_mem (h3 b (by simp)).2 ht) h)
theorem node_w (n:DNd):e135.w n=n.1.size+(Ty.sl e127).w n.2.2.2.1+(Ty.sl e209).w (nSet n)+(Ty.sl e71).w (nTree n)+(Ty.sl e9).w (nHigh n).2.2.1+(Ty.sl e9).w (nTc n).2.1+(Ty.sl e3).w (nTc n).2.2.1+(Ty.sl e140).w (nVotes n)+(Ty.sl e141).w (nGones n)+(Ty.sl e3).w (nDone n)+(Ty.sl e122).w (nPool n)+(Ty.sl e211).w (nPast n):=by
 show n.1.size+(0+(0+((Ty.sl e127).w n.2.2.2.1+((Ty.sl e209).w (nSet n)+((Ty.sl e71).w (nTree n)+(0+(0+(0+(0+((Ty.sl e9).w (nHigh n).2.2.1+(0+((Ty.sl e9).w (nTc n).2.1+((Ty.sl e3).w (nTc n).2.2.1+(0+((Ty.sl e140).w (nVotes n)+((Ty.sl e141).w (nGones n)+((Ty.sl e3).w (nDone n)+((Ty.sl e122).w (nPool n)+((Ty.sl e211).w (nPast n)+0)))))))))))))))))))=_
 omega
def voteConf (a b:D138):Bool:=iEq a.1 1&&(iEq b.1 1&&(iEq a.2.1 b.2.1&&(iEq a.2.2.1 b.2.2.1&&(sEq a.2.2.2.2.1 b.2.2.2.2.1&& !iEq a.2.2.2.1 b.2.2.2.1))))
def voteB (xs:List D138):Bool:=allI (fun i y=>allI (fun _ z=> !voteConf y z) 0 (xs.take i)) 0 xs
theorem voteConf_a {A:Type} {a b:D138} {r n:A}:(bif iEq a.1 1 then bif iEq b.1 1 then bif iEq a.2.1 b.2.1 then bif iEq a.2.2.1 b.2.2.1 then bif sEq a.2.2.2.2.1 b.2.2.2.2.1 then bif !iEq a.2.2.2.1 b.2.2.2.1 then r else n else n else n else n else n else n)=bif !voteConf a b then n else r:=by
 unfold voteConf
 cases iEq a.1 1<;>cases iEq b.1 1<;>cases iEq a.2.1 b.2.1<;>cases iEq a.2.2.1 b.2.2.1<;>cases sEq a.2.2.2.2.1 b.2.2.2.2.1<;>cases iEq a.2.2.2.1 b.2.2.2.1<;>rfl
theorem voteConf_b {A:Type} {a b:D138} {r n:A}:(bif iEq a.1 1 then bif iEq b.1 1 then bif sEq a.2.2.2.2.1 b.2.2.2.2.1 then bif iEq a.2.1 b.2.1 then bif iEq a.2.2.1 b.2.2.1 then bif !iEq a.2.2.2.1 b.2.2.2.1 then r else n else n else n else n else n else n)=bif !voteConf a b then n else r:=by
 unfold voteConf
 cases iEq a.1 1<;>cases iEq b.1 1<;>cases iEq a.2.1 b.2.1<;>cases iEq a.2.2.1 b.2.2.1<;>cases sEq a.2.2.2.2.1 b.2.2.2.2.1<;>cases iEq a.2.2.2.1 b.2.2.2.1<;>rfl
theorem s_oneVote (w:DWo) (hl:List.length w.2.2.2.2.2.1≤1048576):F53 (w,())=some (B1 (voteB w.2.2.2.2.2.1)):=by
 obtain ⟨a,b,c,d,e,xs,g,u⟩:=w
 have hl:List.length xs≤1048576:=hl
 show F53 ((a,(b,(c,(d,(e,(xs,(g,u))))))),())=some (B1 (voteB xs))
 have inner:∀i (hi:i<xs.length),loopF (F53.b1 ((i:Int),()) ((a,(b,(c,(d,(e,(xs,(g,u))))))),())) ((0:Int),())=some (bif allI (fun _ z=> !voteConf xs[i] z) 0 (xs.take i) then Sum.inl ((i:Int),()) else Sum.inr (.inr (.inr (B1 false)))):=by
  intro i hi
  refine loopAll (S:=Int×Unit) (xs.take i) (fun _ z=> !voteConf xs[i] z) (fun k=>(k,())) _ _ (fun k hk=>?_) ?_
  ·have hk':k<i:=by simp at hk;omega
   unfold F53.b1
   dsimp only
   rw [iLt_true (by omega),cond_true,getI_lt hi,Option.bind_some,getI_lt (show k<xs.length by omega),Option.bind_some,iAdd_small (by omega) (by omega),List.getElem_take]
   exact voteConf_a
  ·have:(xs.take i).length=i:=by simp;omega
   rw [this]
   unfold F53.b1
   dsimp only
   rw [iLt_false (Int.le_refl _),cond_false]
 have outer:loopF (F53.b0 ((a,(b,(c,(d,(e,(xs,(g,u))))))),())) ((0:Int),())=some (bif voteB xs then Sum.inl ((xs.length:Int),()) else Sum.inr (B1 false)):=by
  refine loopAll (S:=Int×Unit) xs (fun i y=>allI (fun _ z=> !voteConf y z) 0 (xs.take i)) (fun k=>(k,())) _ _ (fun i hi=>?_) ?_
  ·unfold F53.b0
   dsimp only
   rw [iLt_true (by omega),cond_true,inner i hi,Option.bind_some,iAdd_small (by omega) (by omega)]
   cases allI (fun _ z=> !voteConf xs[i] z) 0 (xs.take i)<;>rfl
  ·unfold F53.b0
   dsimp only
   rw [iLt_false (Int.le_refl _),cond_false]
   try rfl
 unfold F53
 rw [outer]
 cases voteB xs<;>rfl
theorem i_oneVote (w:DWo) (hl:List.length w.2.2.2.2.2.1≤1048576):F57 (w,())=some (B1 (voteB w.2.2.2.2.2.1)):=by
 obtain ⟨a,b,c,d,e,xs,g,u⟩:=w
 have hl:List.length xs≤1048576:=hl
 show F57 ((a,(b,(c,(d,(e,(xs,(g,u))))))),())=some (B1 (voteB xs))
 have inner:∀i (hi:i<xs.length),loopF (F57.b1 ((i:Int),()) ((a,(b,(c,(d,(e,(xs,(g,u))))))),()) xs[i]) ((0:Int),())=some (bif allI (fun _ z=> !voteConf xs[i] z) 0 (xs.take i) then Sum.inl ((i:Int),()) else Sum.inr (.inr (.inr (B1 false)))):=by
  intro i hi
  have hlen:(xs.take i).length=i:=by simp;omega
  refine loopAll (S:=Int×Unit) (xs.take i) (fun _ z=> !voteConf xs[i] z) (fun k=>(k,())) _ _ (fun k hk=>?_) ?_
  ·unfold F57.b1
   dsimp only
   rw [Int.toNat_natCast,Nat.sub_zero,List.drop_zero,iLt_true (by omega),cond_true,getI_lt hk,Option.bind_some,iAdd_small (by omega) (by omega)]
   exact voteConf_b
  ·rw [hlen]
   unfold F57.b1
   dsimp only
   rw [Int.toNat_natCast,Nat.sub_zero,List.drop_zero,iLt_false (by omega),cond_false]
 have outer:loopF (F57.b0 ((a,(b,(c,(d,(e,(xs,(g,u))))))),())) ((0:Int),())=some (bif voteB xs then Sum.inl ((xs.length:Int),()) else Sum.inr (B1 false)):=by
  refine loopAll (S:=Int×Unit) xs (fun i y=>allI (fun _ z=> !voteConf y z) 0 (xs.take i)) (fun k=>(k,())) _ _ (fun i hi=>?_) ?_
  ·unfold F57.b0
   dsimp only
   have hcut:cutHi (i:Int) (List.length xs)=true:=by unfold cutHi;simp only [decide_eq_true_eq];omega
   rw [iLt_true (by omega),cond_true,getI_lt hi,Option.bind_some,hcut,cond_true,inner i hi,Option.bind_some,iAdd_small (by omega) (by omega)]
   cases allI (fun _ z=> !voteConf xs[i] z) 0 (xs.take i)<;>rfl
  ·unfold F57.b0
   dsimp only
   rw [iLt_false (Int.le_refl _),cond_false]
   try rfl
 unfold F57
 rw [outer]
 cases voteB xs<;>rfl
def begs (a b:List D3):Bool:=allI (fun _ p=>iEq p.1.1 p.2.1) 0 (a.zip b)
theorem ne_ite {A:Type} {b:Bool} {r n:A}:(bif !b then r else n)=bif b then n else r:=by cases b<;>rfl
theorem s_begs (a b:List D3) (ha:a.length≤9223372036854775807):F96 ((a,()),((b,()),()))=some (B1 (begs a b)):=by
 have lp:loopF (F96.b0 ((a,()),((b,()),()))) ((0:Int),())=some (bif begs a b then Sum.inl (((a.zip b).length:Int),()) else Sum.inr (B1 false)):=by
  refine loopAll (S:=Int×Unit) (a.zip b) (fun _ p=>iEq p.1.1 p.2.1) (fun k=>(k,())) _ _ (fun i hi=>?_) ?_
  ·have hl:i<a.length∧i<b.length:=by rw [List.length_zip] at hi;omega
   unfold F96.b0
   dsimp only
   rw [iLt_true (by omega),cond_true,iLt_true (by omega),cond_true,getI_lt hl.1,Option.bind_some,getI_lt hl.2,Option.bind_some,iAdd_small (by omega) (by omega),List.getElem_zip,ne_ite]
   try rfl
  ·unfold F96.b0
   dsimp only
   rw [List.length_zip]
   by_cases h:a.length≤b.length
   ·rw [Nat.min_eq_left h,iLt_false (Int.le_refl _),cond_false]
    try rfl
   ·rw [Nat.min_eq_right (by omega),iLt_true (by omega),cond_true,iLt_false (Int.le_refl _),cond_false]
    try rfl
 unfold F96
 rw [lp]
 cases begs a b<;>rfl
theorem i_begs (a b:List D3) (ha:a.length=b.length) (hl:a.length≤9223372036854775807):F106 ((a,()),((b,()),()))=some (B1 (begs a b)):=by
 have hz:(a.zip b).length=a.length:=by rw [List.length_zip];omega
 have lp:loopF (F106.b0 ((a,()),((b,()),()))) ((0:Int),())=some (bif begs a b then Sum.inl (((a.zip b).length:Int),()) else Sum.inr (B1 false)):=by
  refine loopAll (S:=Int×Unit) (a.zip b) (fun _ p=>iEq p.1.1 p.2.1) (fun k=>(k,())) _ _ (fun i hi=>?_) ?_
  ·have hi':i<a.length∧i<b.length:=by rw [List.length_zip] at hi;omega
   unfold F106.b0
   dsimp only
   rw [iLt_true (by omega),cond_true,getI_lt hi'.1,Option.bind_some,getI_lt hi'.2,Option.bind_some,iAdd_small (by omega) (by omega),List.getElem_zip,ne_ite]
   try rfl
  ·unfold F106.b0
   dsimp only
   rw [hz,iLt_false (Int.le_refl _),cond_false]
   try rfl
 unfold F106
 dsimp only
 have e:iEq (a.length:Int) (b.length:Int)=true:=by unfold iEq;rw [ha];exact decide_eq_true rfl
 rw [e,Bool.not_true,cond_false,lp]
 cases begs a b<;>rfl
theorem zip_take {α β:Type} (a:List α) (b:List β) (k:Nat):(a.take k).zip (b.take k)=(a.zip b).take k:=by
 induction k generalizing a b with
 |zero=>simp
 |succ k ih=>cases a<;>cases b<;>simp [ih]
theorem begs_take (a b:List D3) (k:Nat) (hk:k=min a.length b.length):begs (a.take k) (b.take k)=begs a b:=by
 unfold begs
 have:(a.take k).zip (b.take k)=a.zip b:=by
  rw [zip_take,List.take_of_length_le]
  rw [List.length_zip];omega
 rw [this]
theorem iMin_nat {a b:Nat}:iMin (a:Int) (b:Int)=((min a b:Nat):Int):=by
 unfold iMin iLt
 by_cases h:b<a
 ·rw [decide_eq_true (by omega),cond_true,Nat.min_eq_right (by omega)]
 ·rw [decide_eq_false (by omega),cond_false,Nat.min_eq_left (by omega)]
def doneOf (y:DNd):List D3:=y.2.2.2.2.2.2.2.2.2.2.2.2.2.2.2.2.2.1
def prefB (xs:List DNd):Bool:=allI (fun i y=>allI (fun _ z=>begs (doneOf y) (doneOf z)) 0 (xs.take i)) 0 xs
theorem s_pref (w:DWo) (hl:List.length w.2.2.2.1≤1048576) (hd:∀y∈w.2.2.2.1,(doneOf y).length≤9223372036854775807):F54 (w,())=some (B1 (prefB w.2.2.2.1)):=by
 obtain ⟨a,b,c,xs,d,e,g,u⟩:=w
 have hl:List.length xs≤1048576:=hl
 have hd:∀y∈xs,(doneOf y).length≤9223372036854775807:=hd
 show F54 ((a,(b,(c,(xs,(d,(e,(g,u))))))),())=some (B1 (prefB xs))
 have inner:∀i (hi:i<xs.length),loopF (F54.b1 ((i:Int),()) ((a,(b,(c,(xs,(d,(e,(g,u))))))),())) ((0:Int),())=some (bif allI (fun _ z=>begs (doneOf xs[i]) (doneOf z)) 0 (xs.take i) then Sum.inl ((i:Int),()) else Sum.inr (.inr (.inr (B1 false)))):=by
  intro i hi
  refine loopAll (S:=Int×Unit) (xs.take i) (fun _ z=>begs (doneOf xs[i]) (doneOf z)) (fun k=>(k,())) _ _ (fun k hk=>?_) ?_
  ·have hk':k<i:=by simp at hk;omega
   unfold F54.b1
   dsimp only
   rw [iLt_true (by omega),cond_true,getI_lt hi,Option.bind_some,getI_lt (show k<xs.length by omega),Option.bind_some,iAdd_small (by omega) (by omega),List.getElem_take]
   refine (congrArg (fun o=>Option.bind o _) (s_begs (doneOf xs[i]) (doneOf xs[k]) (hd _ (List.getElem_mem hi)))).trans ?_
   cases begs (doneOf xs[i]) (doneOf xs[k])<;>rfl
  ·have:(xs.take i).length=i:=by simp;omega
   rw [this]
   unfold F54.b1
   dsimp only
   rw [iLt_false (Int.le_refl _),cond_false]
 have outer:loopF (F54.b0 ((a,(b,(c,(xs,(d,(e,(g,u))))))),())) ((0:Int),())=some (bif prefB xs then Sum.inl ((xs.length:Int),()) else Sum.inr (B1 false)):=by
  refine loopAll (S:=Int×Unit) xs (fun i y=>allI (fun _ z=>begs (doneOf y) (doneOf z)) 0 (xs.take i)) (fun k=>(k,())) _ _ (fun i hi=>?_) ?_
  ·unfold F54.b0
   dsimp only
   rw [iLt_true (by omega),cond_true,inner i hi,Option.bind_some,iAdd_small (by omega) (by omega)]
   cases allI (fun _ z=>begs (doneOf xs[i]) (doneOf z)) 0 (xs.take i)<;>rfl
  ·unfold F54.b0
   dsimp only
   rw [iLt_false (Int.le_refl _),cond_false]
   try rfl
 unfold F54
 rw [outer]
 cases prefB xs<;>rfl
theorem i_pref (w:DWo) (hl:List.length w.2.2.2.1≤1048576) (hd:∀y∈w.2.2.2.1,(doneOf y).length≤9223372036854775807):F58 (w,())=some (B1 (prefB w.2.2.2.1)):=by
 obtain ⟨a,b,c,xs,d,e,g,u⟩:=w
 have hl:List.length xs≤1048576:=hl
 have hd:∀y∈xs,(doneOf y).length≤9223372036854775807:=hd
 show F58 ((a,(b,(c,(xs,(d,(e,(g,u))))))),())=some (B1 (prefB xs))
 have inner:∀i (hi:i<xs.length),loopF (F58.b1 ((i:Int),()) ((a,(b,(c,(xs,(d,(e,(g,u))))))),()) xs[i]) ((0:Int),())=some (bif allI (fun _ z=>begs (doneOf xs[i]) (doneOf z)) 0 (xs.take i) then Sum.inl ((i:Int),()) else Sum.inr (.inr (.inr (B1 false)))):=by
  intro i hi
  have hlen:(xs.take i).length=i:=by simp;omega
  refine loopAll (S:=Int×Unit) (xs.take i) (fun _ z=>begs (doneOf xs[i]) (doneOf z)) (fun k=>(k,())) _ _ (fun k hk=>?_) ?_
  ·unfold F58.b1
   dsimp only
   rw [Int.toNat_natCast,Nat.sub_zero,List.drop_zero,iLt_true (by omega),cond_true,getI_lt hk,Option.bind_some,iMin_nat,iAdd_small (by omega) (by omega)]
   generalize hz:(xs.take i)[k]=z
   have hi2:=hd _ (List.getElem_mem hi)
   have c1:cutHi ((min (doneOf xs[i]).length (doneOf z).length:Nat):Int) (doneOf xs[i]).length=true:=by unfold cutHi;exact decide_eq_true (by omega)
   have c2:cutHi ((min (doneOf xs[i]).length (doneOf z).length:Nat):Int) (doneOf z).length=true:=by unfold cutHi;exact decide_eq_true (by omega)
   refine (congrArg (fun t=>bif t then _ else none) c1).trans ((congrArg (fun t=>bif t then _ else none) c2).trans ?_)
   have e22:=i_begs ((doneOf xs[i]).take (min (doneOf xs[i]).length (doneOf z).length)) ((doneOf z).take (min (doneOf xs[i]).length (doneOf z).length)) (by rw [List.length_take,List.length_take];omega) (by rw [List.length_take];omega)
   rw [begs_take _ _ _ rfl] at e22
   refine (congrArg (fun o=>Option.bind o _) e22).trans ?_
   cases begs (doneOf xs[i]) (doneOf z)<;>rfl
  ·rw [hlen]
   unfold F58.b1
   dsimp only
   rw [Int.toNat_natCast,Nat.sub_zero,List.drop_zero,iLt_false (by omega),cond_false]
 have outer:loopF (F58.b0 ((a,(b,(c,(xs,(d,(e,(g,u))))))),())) ((0:Int),())=some (bif prefB xs then Sum.inl ((xs.length:Int),()) else Sum.inr (B1 false)):=by
  refine loopAll (S:=Int×Unit) xs (fun i y=>allI (fun _ z=>begs (doneOf y) (doneOf z)) 0 (xs.take i)) (fun k=>(k,())) _ _ (fun i hi=>?_) ?_
  ·unfold F58.b0
   dsimp only
   have hcut:cutHi (i:Int) (List.length xs)=true:=by unfold cutHi;simp only [decide_eq_true_eq];omega
   rw [iLt_true (by omega),cond_true,getI_lt hi,Option.bind_some,hcut,cond_true,inner i hi,Option.bind_some,iAdd_small (by omega) (by omega)]
   cases allI (fun _ z=>begs (doneOf xs[i]) (doneOf z)) 0 (xs.take i)<;>rfl
  ·unfold F58.b0
   dsimp only
   rw [iLt_false (Int.le_refl _),cond_false]
   try rfl
 unfold F58
 rw [outer]
 cases prefB xs<;>rfl
def safeN (a b c d:Bool):Int:=bif a then bif b then bif c then bif d then 0 else 4 else 3 else 2 else 1
theorem i_idxB (l:List D4) (s:Bool) (hl:L63 l.length):F60 ((l,()),((s,()),()))=some (I1 (idxOf l (fun v=>bEq s v.1))):=by
 have lp:=loopIdx (S:=Int×Unit) l (fun v=>bEq s v.1) (f:=F60.b0 ((l,()),((s,()),()))) (fun k=>(k,())) (Sum.inl ((l.length:Int),())) (fun i=>Sum.inr (I1 i)) (fun i hi=>?_) ?_
 ·unfold F60
  refine bind_eq lp ?_
  rcases idxOf_cases l (fun v=>bEq s v.1) with ⟨h1,_,h3⟩|⟨j,hj,_,_,h1,_,h3⟩<;>rw [h1,h3]<;>rfl
 ·unfold F60.b0
  refine lt_then (Int.ofNat_lt.2 hi) (bind_eq (getI_lt hi) ?_)
  rw [←nxt hi hl]
 ·unfold F60.b0
  exact lt_else (Int.le_refl _) rfl
theorem i_judge (a b c d:Bool):(F60 ((([(a,()),(b,()),(c,()),(d,())]:List D4),()),((false,()),()))).bind (fun y6=>some ((iAdd .i64 (1:Int) y6.1.1,()),()))=some (I1 (safeN a b c d)):=by
 refine bind_eq (i_idxB _ _ (show (4:Nat)≤9223372036854775807 by decide)) ?_
 cases a<;>cases b<;>cases c<;>cases d<;>rfl
theorem s_judge (w:DWo) (a b c d:Bool) (h1:F52 (w,())=some (B1 a)) (h2:F53 (w,())=some (B1 b)) (h3:F54 (w,())=some (B1 c)) (h4:F55 (w,())=some (B1 d)) :
  F17 (w,())=some (I1 (safeN a b c d)):=by
 unfold F17
 refine bind_eq h1 ?_
 cases a
 ·rfl
 refine no_then rfl (bind_eq h2 ?_)
 cases b
 ·rfl
 refine no_then rfl (bind_eq h3 ?_)
 cases c
 ·rfl
 refine no_then rfl (bind_eq h4 ?_)
 cases d<;>rfl
theorem safe_ok (a b c d:Bool):(Ty.int .i64).Ok (safeN a b c d):=by
 cases a<;>cases b<;>cases c<;>cases d<;>rfl
theorem L_Safe (w:DWo) (hw:e44.Ok w) (hww:e44.w w≤1048576) :
  ∃R,F17 (w,())=some R∧F18 (w,())=some R∧(.cons (.int .i64) .nil:Tys).Ok R.1∧(.cons (.int .i64) .nil:Tys).w R.1≤67108864:=by
 have hl6:List.length w.2.2.2.2.2.1≤1048576:=w_len (w_1 (w_tl (w_tl (w_tl (w_tl (w_tl hww))))))
 have hl4:List.length w.2.2.2.1≤1048576:=w_len (w_1 (w_tl (w_tl (w_tl hww))))
 have hns:(Ty.sl e135).Ok w.2.2.2.1:=hw.2.2.2.1
 have hd:∀y∈w.2.2.2.1,(doneOf y).length≤9223372036854775807:=fun y hy=>by
  have hn:=Ok_mem hns.2 hy
  have hd:(Ty.sl (.cons (.int .i64) .nil)).Ok y.2.2.2.2.2.2.2.2.2.2.2.2.2.2.2.2.2.1:=hn.2.2.2.2.2.2.2.2.2.2.2.2.2.2.2.2.2.1
  exact hd.1
 refine ⟨I1 (safeN (worldB w) (voteB w.2.2.2.2.2.1) (prefB w.2.2.2.1) (w.2.2.2.1.all (foldedB w))),?_,?_,⟨?_,trivial⟩,Nat.zero_le _⟩
 ·exact s_judge w _ _ _ _ (s_world w hw) (s_oneVote w hl6) (s_pref w hl4 hd) (s_folded w hw hww)
 ·unfold F18
  exact bind_eq (i_world w hw) (bind_eq (i_oneVote w hl6) (bind_eq (i_pref w hl4 hd) (bind_eq (i_folded w hw hww) (i_judge _ _ _ _))))
 ·exact safe_ok _ _ _ _
end Go.Proofs.YtmjkakjeiopieaaGreat
-- no more blanks than needed
