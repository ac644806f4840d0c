/- Plain laws, part 1: what the program's functions and the reference's compute, told as plain words. Conditions: none. -/
import Derived.Test.YtbhckidcagloeaaGreatLrH
import Derived.Test.YtbhckidcagloeaaGreatTm4
namespace Go.Proofs.YtbhckidcagloeaaGreat
open Go Go.Tm
set_option linter.unusedVariables false
set_option maxRecDepth 100000
theorem s_in (n lo hi:Int):F96 ((n,()),((lo,()),((hi,()),())))=some (B1 (inR n lo hi)):=inR_ite
theorem i_in (n lo hi:Int):F125 ((n,()),((lo,()),((hi,()),())))=some (B1 (inR n lo hi)):=inR_ite
def letter (b:UInt8):Bool:=inR (UInt8.toNat b:Int) 97 122||inR (UInt8.toNat b:Int) 48 57
def nameB (s:ByteArray):Bool:=s.data.toList.all letter&&inR (s.size:Int) 1 8
theorem sz_list (s:ByteArray):s.size=s.data.toList.length:=rfl
theorem s_name (s:ByteArray) (hs:L63 s.size):F91 ((s,()),())=some (B1 (nameB s)):=by
 have lp:=loopAllP (S:=Int×Unit) s.data.toList letter (f:=F91.b0 ((s,()),())) (fun k=>(k,())) (Sum.inl ((s.data.toList.length:Int),())) (Sum.inr (B1 false)) (fun i hi=>?_) ?_
 ·unfold F91 nameB
  refine bind_eq lp ?_
  cases s.data.toList.all letter
  ·rfl
  ·exact (congrArg (fun o=>Option.bind o _) (s_in _ _ _)).trans rfl
 ·unfold F91.b0 letter
  refine lt_then (Int.ofNat_lt.2 hi) (bind_eq (getI_lt hi) (bind_eq (s_in _ _ _) ?_))
  rw [←nxt hi hs,wrap_byte]
  cases inR (UInt8.toNat s.data.toList[i]:Int) 97 122
  ·refine bind_eq (getI_lt hi) (bind_eq (s_in _ _ _) ?_)
   rw [wrap_byte]
   cases inR (UInt8.toNat s.data.toList[i]:Int) 48 57<;>rfl
  ·rfl
 ·unfold F91.b0
  exact lt_else (Int.le_refl _) rfl
theorem i_name (s:ByteArray) (hs:L63 s.size):F121 ((s,()),())=some (B1 (nameB s)):=by
 have lp:=loopAllP (S:=Int×Unit) s.data.toList letter (f:=F121.b0 ((s,()),())) (fun k=>(k,())) (Sum.inl ((s.data.toList.length:Int),())) (Sum.inr (B1 false)) (fun i hi=>?_) ?_
 ·unfold F121 nameB
  refine bind_eq lp ?_
  cases s.data.toList.all letter
  ·rfl
  ·exact (congrArg (fun o=>Option.bind o _) (i_in _ _ _)).trans rfl
 ·unfold F121.b0 letter inR
  refine lt_then (Int.ofNat_lt.2 hi) (bind_eq (getI_lt hi) ?_)
  rw [←nxt hi hs]
  simp only [getI_lt hi,Option.bind_some]
  cases iLe (97:Int) (UInt8.toNat s.data.toList[i]:Int)<;>cases iLe (UInt8.toNat s.data.toList[i]:Int) (122:Int)<;>cases iLe (48:Int) (UInt8.toNat s.data.toList[i]:Int)<;>cases iLe (UInt8.toNat s.data.toList[i]:Int) (57:Int)<;>rfl
 ·unfold F121.b0
  exact lt_else (Int.le_refl _) rfl
def namP (xs:List D9) (i:Nat) (y:D9):Bool:=nameB y.1&&behind (fun z y=>sLt z.1 y.1) xs i y
def namesB (xs:List D9):Bool:=allI (namP xs) 0 xs&&iLe (xs.length:Int) 20
theorem s_names (xs:List D9) (hx:(Ty.sl e9).Ok xs):F189 ((xs,()),())=some (B1 (namesB xs)):=by
 have hl:L63 xs.length:=hx.1
 have lp:=loopAll (S:=Int×Unit) xs (namP xs) (f:=F189.b0 ((xs,()),())) (fun k=>(k,())) (Sum.inl ((xs.length:Int),())) (Sum.inr (B1 false)) (fun i hi=>?_) ?_
 ·unfold F189 namesB
  refine bind_eq lp ?_
  cases allI (namP xs) 0 xs<;>rfl
 ·unfold F189.b0 namP
  refine lt_then (Int.ofNat_lt.2 hi) (bind_eq (getI_lt hi) (bind_eq (s_name _ (Ok_mem hx.2 (List.getElem_mem hi)).1) (goN ?_)))
  rw [←nxt hi hl]
  exact asc_step hi hl (fun z=>bind_eq (getI_lt hi) goE)
 ·unfold F189.b0
  exact lt_else (Int.le_refl _) rfl
theorem i_names (xs:List D9) (hx:(Ty.sl e9).Ok xs):F199 ((xs,()),())=some (B1 (namesB xs)):=by
 have hl:L63 xs.length:=hx.1
 have lp:=loopAll (S:=Int×Unit) xs (namP xs) (f:=F199.b0 ((xs,()),())) (fun k=>(k,())) (Sum.inl ((xs.length:Int),())) (Sum.inr (B1 false)) (fun i hi=>?_) ?_
 ·unfold F199 namesB
  refine bind_eq lp ?_
  cases allI (namP xs) 0 xs<;>rfl
 ·unfold F199.b0 namP
  refine lt_then (Int.ofNat_lt.2 hi) (bind_eq (getI_lt hi) (bind_eq (i_name _ (Ok_mem hx.2 (List.getElem_mem hi)).1) (goN ?_)))
  rw [←nxt hi hl]
  exact asc_step hi hl (fun z=>ite_tri)
 ·unfold F199.b0
  exact lt_else (Int.le_refl _) rfl
def valP (xs:List D163) (i:Nat) (y:D163):Bool:=nameB y.1&&(inR y.2.1 1 1000000&&behind (fun z y=>sLt z.1 y.1) xs i y)
def setB (xs:List D163):Bool:=allI (valP xs) 0 xs&&inR (xs.length:Int) 1 12
theorem s_set (xs:List D163) (hx:(Ty.sl e163).Ok xs):F94 ((xs,()),())=some (B1 (setB xs)):=by
 have hl:L63 xs.length:=hx.1
 have lp:=loopAll (S:=Int×Unit) xs (valP xs) (f:=F94.b0 ((xs,()),())) (fun k=>(k,())) (Sum.inl ((xs.length:Int),())) (Sum.inr (B1 false)) (fun i hi=>?_) ?_
 ·unfold F94 setB
  refine bind_eq lp ?_
  cases allI (valP xs) 0 xs
  ·rfl
  ·exact (congrArg (fun o=>Option.bind o _) (s_in _ _ _)).trans rfl
 ·unfold F94.b0 valP
  refine lt_then (Int.ofNat_lt.2 hi) (bind_eq (getI_lt hi) (bind_eq (s_name _ (Ok_mem hx.2 (List.getElem_mem hi)).1) (goN (bind_eq (getI_lt hi) (bind_eq (s_in _ _ _) (goN ?_))))))
  rw [←nxt hi hl]
  exact asc_step hi hl (fun z=>bind_eq (getI_lt hi) goE)
 ·unfold F94.b0
  exact lt_else (Int.le_refl _) rfl
theorem i_set (xs:List D163) (hx:(Ty.sl e163).Ok xs):F123 ((xs,()),())=some (B1 (setB xs)):=by
 have hl:L63 xs.length:=hx.1
 have lp:=loopAll (S:=Int×Unit) xs (valP xs) (f:=F123.b0 ((xs,()),())) (fun k=>(k,())) (Sum.inl ((xs.length:Int),())) (Sum.inr (B1 false)) (fun i hi=>?_) ?_
 ·unfold F123 setB
  refine bind_eq lp ?_
  cases allI (valP xs) 0 xs
  ·rfl
  ·exact (congrArg (fun o=>Option.bind o _) (i_in _ _ _)).trans rfl
 ·unfold F123.b0 valP
  refine lt_then (Int.ofNat_lt.2 hi) (bind_eq (getI_lt hi) (bind_eq (i_name _ (Ok_mem hx.2 (List.getElem_mem hi)).1) (goN (bind_eq (i_in _ _ _) (goN ?_)))))
  rw [←nxt hi hl]
  exact asc_step hi hl (fun z=>ite_tri)
 ·unfold F123.b0
  exact lt_else (Int.le_refl _) rfl
def inB (l:List D163) (s:ByteArray):Bool:=l.any (fun v=>sEq v.1 s)
def hasB (l:List D9) (s:ByteArray):Bool:=l.any (fun v=>sEq v.1 s)
theorem s_isin (l:List D163) (s:ByteArray) (hl:L63 l.length):F99 ((l,()),((s,()),()))=some (B1 (inB l s)):=by
 have lp:=loopHas (S:=Int×Unit) l (fun v=>sEq v.1 s) (f:=F99.b0 ((l,()),((s,()),()))) (fun k=>(k,())) (Sum.inl ((l.length:Int),())) (Sum.inr (B1 true)) (fun i hi=>?_) ?_
 ·unfold F99 inB
  refine bind_eq lp ?_
  cases l.any (fun v=>sEq v.1 s)<;>rfl
 ·unfold F99.b0
  refine lt_then (Int.ofNat_lt.2 hi) (bind_eq (getI_lt hi) ?_)
  rw [←nxt hi hl]
 ·unfold F99.b0
  exact lt_else (Int.le_refl _) rfl
theorem s_has (l:List D9) (s:ByteArray) (hl:L63 l.length):F210 ((l,()),((s,()),()))=some (B1 (hasB l s)):=by
 have lp:=loopHas (S:=Int×Unit) l (fun v=>sEq v.1 s) (f:=F210.b0 ((l,()),((s,()),()))) (fun k=>(k,())) (Sum.inl ((l.length:Int),())) (Sum.inr (B1 true)) (fun i hi=>?_) ?_
 ·unfold F210 hasB
  refine bind_eq lp ?_
  cases l.any (fun v=>sEq v.1 s)<;>rfl
 ·unfold F210.b0
  refine lt_then (Int.ofNat_lt.2 hi) (bind_eq (getI_lt hi) ?_)
  rw [←nxt hi hl]
 ·unfold F210.b0
  exact lt_else (Int.le_refl _) rfl
theorem idxFunc_val (l:List D163) (g:D163→Option (Bool×Unit)) (p:D163→Bool) (hg:∀x,g x=some (p x,())) (hl:L63 l.length):F205 ((l,()),((g,()),()))=some (I1 (idxOf l p)):=by
 have lp:=loopIdx (S:=Int×Unit) l p (f:=F205.b0 ((l,()),((g,()),()))) (fun k=>(k,())) (Sum.inl ((l.length:Int),())) (fun i=>Sum.inr (I1 i)) (fun i hi=>?_) ?_
 ·unfold F205
  refine bind_eq lp ?_
  rcases idxOf_cases l p with ⟨h1,_,h3⟩|⟨j,hj,_,_,h1,_,h3⟩<;>rw [h1,h3]<;>rfl
 ·unfold F205.b0
  refine lt_then (Int.ofNat_lt.2 hi) (bind_eq (getI_lt hi) (bind_eq (hg _) ?_))
  rw [←nxt hi hl]
 ·unfold F205.b0
  exact lt_else (Int.le_refl _) rfl
theorem i_isin (l:List D163) (s:ByteArray) (hl:L63 l.length):F129 ((l,()),((s,()),()))=some (B1 (inB l s)):=by
 unfold F129 F174
 refine bind_eq (bind_eq (idxFunc_val l _ (fun v=>sEq v.1 s) (fun x=>rfl) hl) rfl) ?_
 rw [idxOf_any];rfl
theorem i_idxS (l:List D9) (s:ByteArray) (hl:L63 l.length):F235 ((l,()),((s,()),()))=some (I1 (idxOf l (fun v=>sEq s v.1))):=by
 have lp:=loopIdx (S:=Int×Unit) l (fun v=>sEq s v.1) (f:=F235.b0 ((l,()),((s,()),()))) (fun k=>(k,())) (Sum.inl ((l.length:Int),())) (fun i=>Sum.inr (I1 i)) (fun i hi=>?_) ?_
 ·unfold F235
  refine bind_eq lp ?_
  rcases idxOf_cases l (fun v=>sEq s v.1) with ⟨h1,_,h3⟩|⟨j,hj,_,_,h1,_,h3⟩<;>rw [h1,h3]<;>rfl
 ·unfold F235.b0
  refine lt_then (Int.ofNat_lt.2 hi) (bind_eq (getI_lt hi) ?_)
  rw [←nxt hi hl]
 ·unfold F235.b0
  exact lt_else (Int.le_refl _) rfl
theorem i_has (l:List D9) (s:ByteArray) (hl:L63 l.length):F221 ((l,()),((s,()),()))=some (B1 (hasB l s)):=by
 unfold F221 hasB
 refine bind_eq (i_idxS l s hl) ?_
 rw [idxOf_any]
 simp only [sEq_comm]
def allInB (l:List D163) (names:List D9):Bool:=names.all (fun n=>inB l n.1)
theorem s_all (l:List D163) (names:List D9) (hl:L63 l.length) (hn:(Ty.sl e9).Ok names):F152 ((l,()),((names,()),()))=some (B1 (allInB l names&&namesB names)):=by
 have lp:=loopAllP (S:=Int×Unit) names (fun n=>inB l n.1) (f:=F152.b0 ((l,()),((names,()),()))) (fun k=>(k,())) (Sum.inl ((names.length:Int),())) (Sum.inr (B1 false)) (fun i hi=>?_) ?_
 ·unfold F152 allInB
  refine bind_eq lp ?_
  cases names.all (fun n=>inB l n.1)
  ·rfl
  ·exact (congrArg (fun o=>Option.bind o _) (s_names _ hn)).trans rfl
 ·unfold F152.b0
  refine lt_then (Int.ofNat_lt.2 hi) (bind_eq (getI_lt hi) (bind_eq (s_isin _ _ hl) ?_))
  rw [←nxt hi hn.1]
  exact goE
 ·unfold F152.b0
  exact lt_else (Int.le_refl _) rfl
theorem i_all (l:List D163) (names:List D9) (hl:L63 l.length) (hn:L63 names.length):F169 ((l,()),((names,()),()))=some (B1 (allInB l names)):=by
 have lp:=loopAllP (S:=Int×Unit) names (fun n=>inB l n.1) (f:=F169.b0 ((l,()),((names,()),()))) (fun k=>(k,())) (Sum.inl ((names.length:Int),())) (Sum.inr (B1 false)) (fun i hi=>?_) ?_
 ·unfold F169 allInB
  refine bind_eq lp ?_
  cases names.all (fun n=>inB l n.1)<;>rfl
 ·unfold F169.b0
  refine lt_then (Int.ofNat_lt.2 hi) (bind_eq (getI_lt hi) (bind_eq (i_isin _ _ hl) ?_))
  rw [←nxt hi hn]
  exact goE
 ·unfold F169.b0
  exact lt_else (Int.le_refl _) rfl
def weight (xs:List D163) (names:List D9):Int:=xs.foldl (fun n v=>bif hasB names v.1 then iAdd .i64 n v.2.1 else n) 0
def total (xs:List D163):Int:=xs.foldl (fun n v=>iAdd .i64 n v.2.1) 0
def quorumB (l:List D163) (names:List D9):Bool:=iLt (iMul .i64 2 (total l)) (iMul .i64 3 (weight l names))
theorem s_weight (xs:List D163) (names:List D9) (hx:L63 xs.length) (hl:L63 names.length):F190 ((xs,()),((names,()),()))=some (I1 (weight xs names)):=by
 have lp:=loopFold0 (S:=Int×(Int×Unit)) xs (fun n v=>bif hasB names v.1 then iAdd .i64 n v.2.1 else n) (f:=F190.b0 ((xs,()),((names,()),()))) (fun a i=>(a,(i,()))) (fun a=>Sum.inl (a,((xs.length:Int),()))) 0 (fun i hi a=>?_) (fun a=>?_)
 ·unfold F190
  exact bind_eq lp rfl
 ·unfold F190.b0
  refine lt_then (Int.ofNat_lt.2 hi) (bind_eq (getI_lt hi) (bind_eq (s_has _ _ hl) ?_))
  rw [←nxt hi hx]
  dsimp only
  cases hasB names xs[i].1
  ·rfl
  ·exact bind_eq (getI_lt hi) rfl
 ·unfold F190.b0
  exact lt_else (Int.le_refl _) rfl
theorem i_weight (xs:List D163) (names:List D9) (hx:L63 xs.length) (hl:L63 names.length):F200 ((xs,()),((names,()),()))=some (I1 (weight xs names)):=by
 have lp:=loopFold0 (S:=Int×(Int×Unit)) xs (fun n v=>bif hasB names v.1 then iAdd .i64 n v.2.1 else n) (f:=F200.b0 ((xs,()),((names,()),()))) (fun a i=>(a,(i,()))) (fun a=>Sum.inl (a,((xs.length:Int),()))) 0 (fun i hi a=>?_) (fun a=>?_)
 ·unfold F200
  exact bind_eq lp rfl
 ·unfold F200.b0
  refine lt_then (Int.ofNat_lt.2 hi) (bind_eq (getI_lt hi) (bind_eq (i_has _ _ hl) ?_))
  rw [←nxt hi hx]
  dsimp only
  cases hasB names xs[i].1<;>rfl
 ·unfold F200.b0
  exact lt_else (Int.le_refl _) rfl
theorem s_total (xs:List D163) (hx:L63 xs.length):F191 ((xs,()),())=some (I1 (total xs)):=by
 have lp:=loopFold0 (S:=Int×(Int×Unit)) xs (fun n v=>iAdd .i64 n v.2.1) (f:=F191.b0 ((xs,()),())) (fun a i=>(a,(i,()))) (fun a=>Sum.inl (a,((xs.length:Int),()))) 0 (fun i hi a=>?_) (fun a=>?_)
 ·unfold F191
  exact bind_eq lp rfl
 ·unfold F191.b0
  refine lt_then (Int.ofNat_lt.2 hi) (bind_eq (getI_lt hi) ?_)
  rw [←nxt hi hx]
 ·unfold F191.b0
  exact lt_else (Int.le_refl _) rfl
theorem i_total (xs:List D163) (hx:L63 xs.length):F201 ((xs,()),())=some (I1 (total xs)):=by
 have lp:=loopFold0 (S:=Int×(Int×Unit)) xs (fun n v=>iAdd .i64 n v.2.1) (f:=F201.b0 ((xs,()),())) (fun a i=>(a,(i,()))) (fun a=>Sum.inl (a,((xs.length:Int),()))) 0 (fun i hi a=>?_) (fun a=>?_)
 ·unfold F201
  exact bind_eq lp rfl
 ·unfold F201.b0
  refine lt_then (Int.ofNat_lt.2 hi) (bind_eq (getI_lt hi) ?_)
  rw [←nxt hi hx]
 ·unfold F201.b0
  exact lt_else (Int.le_refl _) rfl
theorem s_quorum (l:List D163) (names:List D9) (hl:L63 l.length) (hn:L63 names.length):F153 ((l,()),((names,()),()))=some (B1 (quorumB l names)) :=
 bind_eq (s_weight l names hl hn) (bind_eq (s_total l hl) rfl)
theorem i_quorum (l:List D163) (names:List D9) (hl:L63 l.length) (hn:L63 names.length):F168 ((l,()),((names,()),()))=some (B1 (quorumB l names)) :=
 bind_eq (i_weight l names hl hn) (bind_eq (i_total l hl) rfl)
def leafP (xs:List D229) (i:Nat) (y:D229):Bool:=inR y.1 1 1000000&&(inR y.2.1 0 1000&&behind (fun z y=>iLt z.2.1 y.2.1) xs i y)
def leavesB (xs:List D229):Bool:=allI (leafP xs) 0 xs
def acctB (a:D207):Bool:=nameB a.1&&(inR a.2.1 0 1000000&&(inR a.2.2.1 0 10000&&(inR a.2.2.2.1 0 1000000&&(iLe (List.length a.2.2.2.2.1:Int) 4&&leavesB a.2.2.2.2.1))))
abbrev AOk (a:D207):Prop:=e207.Ok a
theorem AOk.ls {a:D207} (h:AOk a):(Ty.sl e229).Ok a.2.2.2.2.1:=h.2.2.2.2.1
theorem s_acct (a:D207) (h:AOk a):F185 (a,())=some (B1 (acctB a)):=by
 have hl:L63 (List.length a.2.2.2.2.1):=h.ls.1
 have lp:=loopAll (S:=Int×Unit) a.2.2.2.2.1 (leafP a.2.2.2.2.1) (f:=F185.b0 (a,())) (fun k=>(k,())) (Sum.inl ((List.length a.2.2.2.2.1:Int),())) (Sum.inr (B1 false)) (fun i hi=>?_) ?_
 ·unfold F185 acctB leavesB
  rw [iLe_lt]
  refine bind_eq (s_name _ h.1) (andN (bind_eq (s_in _ _ _) (andN (bind_eq (s_in _ _ _) (andN (bind_eq (s_in _ _ _) (andN (noT (bind_eq lp ?_)))))))))
  cases allI (leafP a.2.2.2.2.1) 0 a.2.2.2.2.1<;>rfl
 ·unfold F185.b0 leafP
  refine lt_then (Int.ofNat_lt.2 hi) (bind_eq (getI_lt hi) (bind_eq (s_in _ _ _) (goN (bind_eq (s_in _ _ _) (goN ?_)))))
  rw [←nxt hi hl]
  exact asc_step hi hl (fun z=>le_ite)
 ·unfold F185.b0
  exact lt_else (Int.le_refl _) rfl
theorem i_amount (n:Int):F217 ((n,()),())=some (B1 (inR n 0 1000000)):=bind_eq (i_in _ _ _) rfl
theorem i_acct (a:D207) (h:AOk a):F196 (a,())=some (B1 (acctB a)):=by
 have hl:L63 (List.length a.2.2.2.2.1):=h.ls.1
 have lp:=loopAll (S:=Int×Unit) a.2.2.2.2.1 (leafP a.2.2.2.2.1) (f:=F196.b0 (a,())) (fun k=>(k,())) (Sum.inl ((List.length a.2.2.2.2.1:Int),())) (Sum.inr (B1 false)) (fun i hi=>?_) ?_
 ·unfold F196 acctB leavesB
  refine bind_eq lp ?_
  cases allI (leafP a.2.2.2.2.1) 0 a.2.2.2.2.1
  ·cases nameB a.1<;>cases inR a.2.1 0 1000000<;>cases inR a.2.2.1 0 10000<;>cases inR a.2.2.2.1 0 1000000<;>cases iLe (List.length a.2.2.2.2.1:Int) 4<;>rfl
  ·refine (bind_eq (i_name _ h.1) (andY (bind_eq (i_amount _) (andY (bind_eq (i_amount _) (andY (bind_eq (i_in _ _ _) (and_yes (c:=iLe (List.length a.2.2.2.2.1:Int) 4))))))))).trans ?_
   cases nameB a.1<;>cases inR a.2.1 0 1000000<;>cases inR a.2.2.1 0 10000<;>cases inR a.2.2.2.1 0 1000000<;>cases iLe (List.length a.2.2.2.2.1:Int) 4<;>rfl
 ·unfold F196.b0 leafP
  refine lt_then (Int.ofNat_lt.2 hi) (bind_eq (getI_lt hi) (bind_eq (i_in _ _ _) (goN (bind_eq (i_in _ _ _) (goN ?_)))))
  rw [←nxt hi hl]
  exact asc_step hi hl (fun z=>le_ite)
 ·unfold F196.b0
  exact lt_else (Int.le_refl _) rfl
def addL (n:Int) (xs:List D229):Int:=xs.foldl (fun s y=>iAdd .i64 s y.1) n
theorem addL_add (n m:Int):∀xs:List D229,addL (iAdd .i64 n m) xs=iAdd .i64 n (addL m xs)
 | []=>rfl
 |x::r=>by
  show addL (iAdd .i64 (iAdd .i64 n m) x.1) r=iAdd .i64 n (addL (iAdd .i64 m x.1) r)
  rw [iAdd_assoc,addL_add]
def ofA (a:D207):Int:=addL (iAdd .i64 a.2.1 a.2.2.2.1) a.2.2.2.2.1
def wealth (xs:List D207):Int:=xs.foldl (fun s y=>iAdd .i64 s (ofA y)) 0
theorem s_of (a:D207) (h:AOk a):F209 (a,())=some (I1 (ofA a)):=by
 have hl:L63 (List.length a.2.2.2.2.1):=h.ls.1
 have lp:=loopFold0 (S:=Int×(Int×Unit)) a.2.2.2.2.1 (fun s y=>iAdd .i64 s y.1) (f:=F209.b0 (a,())) (fun a i=>(a,(i,()))) (fun s=>Sum.inl (s,((List.length a.2.2.2.2.1:Int),()))) (iAdd .i64 a.2.1 a.2.2.2.1) (fun i hi s=>?_) (fun s=>?_)
 ·unfold F209
  exact bind_eq lp rfl
 ·unfold F209.b0
  refine lt_then (Int.ofNat_lt.2 hi) (bind_eq (getI_lt hi) ?_)
  rw [←nxt hi hl]
 ·unfold F209.b0
  exact lt_else (Int.le_refl _) rfl
theorem s_wealth (xs:List D207) (hx:(Ty.sl e207).Ok xs):F186 ((xs,()),())=some (I1 (wealth xs)):=by
 have lp:=loopFold0 (S:=Int×(Int×Unit)) xs (fun s y=>iAdd .i64 s (ofA y)) (f:=F186.b0 ((xs,()),())) (fun a i=>(a,(i,()))) (fun s=>Sum.inl (s,((xs.length:Int),()))) 0 (fun i hi s=>?_) (fun s=>?_)
 ·unfold F186
  exact bind_eq lp rfl
 ·unfold F186.b0
  refine lt_then (Int.ofNat_lt.2 hi) (bind_eq (getI_lt hi) (bind_eq (s_of _ (Ok_mem hx.2 (List.getElem_mem hi))) ?_))
  rw [←nxt hi hx.1]
 ·unfold F186.b0
  exact lt_else (Int.le_refl _) rfl
theorem i_wealth (xs:List D207) (hx:(Ty.sl e207).Ok xs):F197 ((xs,()),())=some (I1 (wealth xs)):=by
 have inner:∀(a:D207) (n:Int),L63 (List.length a.2.2.2.2.1)→loopF (F197.b1 a) (n,((0:Int),()))=some (.inl (addL n a.2.2.2.2.1,((List.length a.2.2.2.2.1:Int),()))):=by
  intro a n hl
  refine loopFold0 (S:=Int×(Int×Unit)) a.2.2.2.2.1 (fun s y=>iAdd .i64 s y.1) (fun a i=>(a,(i,()))) (fun s=>Sum.inl (s,((List.length a.2.2.2.2.1:Int),()))) n (fun i hi s=>?_) (fun s=>?_)
  ·unfold F197.b1
   refine lt_then (Int.ofNat_lt.2 hi) (bind_eq (getI_lt hi) ?_)
   rw [←nxt hi hl]
  ·unfold F197.b1
   exact lt_else (Int.le_refl _) rfl
 have lp:=loopFold0 (S:=Int×(Int×Unit)) xs (fun s y=>iAdd .i64 s (ofA y)) (f:=F197.b0 ((xs,()),())) (fun a i=>(a,(i,()))) (fun s=>Sum.inl (s,((xs.length:Int),()))) 0 (fun i hi s=>?_) (fun s=>?_)
 ·unfold F197
  exact bind_eq lp rfl
 ·unfold F197.b0
  refine lt_then (Int.ofNat_lt.2 hi) (bind_eq (getI_lt hi) (bind_eq (inner _ _ (AOk.ls (Ok_mem hx.2 (List.getElem_mem hi))).1) ?_))
  rw [←nxt hi hx.1]
  exact congrArg (fun z=>some (Sum.inl (z,(iAdd .i64 (i:Int) 1,())))) (addL_add s _ _)
 ·unfold F197.b0
  exact lt_else (Int.le_refl _) rfl
def acctP (xs:List D207) (i:Nat) (y:D207):Bool:=acctB y&&behind (fun z y=>sLt z.1 y.1) xs i y
def acctsB (xs:List D207):Bool:=allI (acctP xs) 0 xs&&(iLe (xs.length:Int) 12&&iLe (wealth xs) 1000000)
abbrev DLe:Type:=Int×(List D207×Unit)
def ledgerB (x:DLe):Bool:=inR x.1 0 900&&acctsB x.2.1
theorem s_accts (xs:List D207) (hx:(Ty.sl e207).Ok xs):F146 ((xs,()),())=some (B1 (acctsB xs)):=by
 have hl:L63 xs.length:=hx.1
 have lp:=loopAll (S:=Int×Unit) xs (acctP xs) (f:=F146.b0 ((xs,()),())) (fun k=>(k,())) (Sum.inl ((xs.length:Int),())) (Sum.inr (B1 false)) (fun i hi=>?_) ?_
 ·unfold F146 acctsB
  refine bind_eq lp ?_
  cases allI (acctP xs) 0 xs
  ·rfl
  ·exact (andY (b:=iLe (xs.length:Int) 12) (bind_eq (s_wealth xs hx) rfl)).trans rfl
 ·unfold F146.b0 acctP
  refine lt_then (Int.ofNat_lt.2 hi) (bind_eq (getI_lt hi) (bind_eq (s_acct _ (Ok_mem hx.2 (List.getElem_mem hi))) (goN ?_)))
  rw [←nxt hi hl]
  exact asc_step hi hl (fun z=>bind_eq (getI_lt hi) goE)
 ·unfold F146.b0
  exact lt_else (Int.le_refl _) rfl
theorem s_ledger (x:DLe) (hx:(Ty.sl e207).Ok x.2.1):F92 (x,())=some (B1 (ledgerB x)):=bind_eq (s_in _ _ _) (andY (bind_eq (s_accts _ hx) rfl))
theorem i_accts (xs:List D207) (hx:(Ty.sl e207).Ok xs):F163 ((xs,()),())=some (B1 (acctsB xs)):=by
 have hl:L63 xs.length:=hx.1
 have lp:=loopAll (S:=Int×Unit) xs (acctP xs) (f:=F163.b0 ((xs,()),())) (fun k=>(k,())) (Sum.inl ((xs.length:Int),())) (Sum.inr (B1 false)) (fun i hi=>?_) ?_
 ·unfold F163 acctsB
  refine bind_eq lp ?_
  cases allI (acctP xs) 0 xs
  ·rfl
  ·exact (andY (b:=iLe (xs.length:Int) 12) (bind_eq (i_wealth xs hx) rfl)).trans rfl
 ·unfold F163.b0 acctP
  refine lt_then (Int.ofNat_lt.2 hi) (bind_eq (getI_lt hi) (bind_eq (i_acct _ (Ok_mem hx.2 (List.getElem_mem hi))) (goN ?_)))
  rw [←nxt hi hl]
  exact asc_step hi hl (fun z=>ite_tri)
 ·unfold F163.b0
  exact lt_else (Int.le_refl _) rfl
theorem i_ledger (x:DLe) (hx:(Ty.sl e207).Ok x.2.1):F122 (x,())=some (B1 (ledgerB x)):=bind_eq (i_in _ _ _) (andY (bind_eq (i_accts _ hx) rfl))
abbrev DQc:Type:=Int×(Int×(List D9×Unit))
abbrev DTc:Type:=Int×(List D9×(List D3×Unit))
def rootB (q:DQc):Bool:=iEq q.1 0&&(iEq q.2.1 (-1)&&iEq (List.length q.2.2.1:Int) 0)
def noneB (t:DTc):Bool:=iEq t.1 0&&(iEq (List.length t.2.1:Int) 0&&iEq (List.length t.2.2.1:Int) 0)
abbrev QOk (q:DQc):Prop:=(Ty.sl e9).Ok q.2.2.1
abbrev TOk (t:DTc):Prop:=(Ty.sl e9).Ok t.2.1∧L63 (List.length t.2.2.1)
def qcF (q:DQc) (round block:Int):Bool:=rootB q||(inR q.1 1 round&&(inR q.2.1 0 block&&namesB q.2.2.1))
def tcF (t:DTc) (round:Int):Bool:=noneB t||(inR t.1 1 round&&(namesB t.2.1&&(iEq (List.length t.2.2.1:Int) (List.length t.2.1:Int)&&t.2.2.1.all (fun h=>inR h.1 0 (iSub .i64 t.1 1)))))
def qcB (l:List D163) (q:DQc):Bool:=rootB q||(inR q.1 1 10000&&(inR q.2.1 0 100000&&(namesB q.2.2.1&&(allInB l q.2.2.1&&quorumB l q.2.2.1))))
def tcB (l:List D163) (t:DTc):Bool:=noneB t||(inR t.1 1 10000&&(namesB t.2.1&&(iEq (List.length t.2.2.1:Int) (List.length t.2.1:Int)&&(t.2.2.1.all (fun h=>inR h.1 0 (iSub .i64 t.1 1))&&(allInB l t.2.1&&quorumB l t.2.1)))))
theorem s_root (q:DQc):F150 (q,())=some (B1 (rootB q)):=by
 unfold F150 rootB
 cases iEq q.1 0<;>cases iEq q.2.1 (-1)<;>rfl
theorem i_root (q:DQc):F166 (q,())=some (B1 (rootB q)):=by
 unfold F166 rootB
 cases iEq q.1 0<;>cases iEq q.2.1 (-1)<;>rfl
theorem s_none (t:DTc):F154 (t,())=some (B1 (noneB t)):=by
 unfold F154 noneB
 cases iEq t.1 0<;>cases iEq (List.length t.2.1:Int) 0<;>rfl
theorem i_none (t:DTc):F170 (t,())=some (B1 (noneB t)):=by
 unfold F170 noneB
 cases iEq t.1 0<;>cases iEq (List.length t.2.1:Int) 0<;>rfl
theorem s_qc (l:List D163) (q:DQc) (hl:L63 l.length) (hq:QOk q):F97 ((l,()),(q,()))=some (B1 (qcB l q)):=by
 unfold F97 qcB
 refine bind_eq (s_root q) (orY (bind_eq (s_in _ _ _) (andY (bind_eq (s_in _ _ _) (andY ?_)))))
 refine bind_eq (s_all l _ hl hq) ((andY (bind_eq (s_quorum l _ hl hq.1) rfl)).trans ?_)
 rw [Bool.and_comm (allInB l _) (namesB _),Bool.and_assoc]
theorem i_qcf (q:DQc) (r b:Int) (hq:QOk q):F167 (q,((r,()),((b,()),())))=some (B1 (qcF q r b)):=by
 unfold F167 qcF
 exact bind_eq (i_root q) (orY (bind_eq (i_in _ _ _) (andY (bind_eq (i_in _ _ _) (andY (bind_eq (i_names _ hq) rfl))))))
theorem i_qc (l:List D163) (q:DQc) (hl:L63 l.length) (hq:QOk q):F126 ((l,()),(q,()))=some (B1 (qcB l q)):=by
 unfold F126
 refine (bind_eq (i_root q) (orY (bind_eq (i_qcf q _ _ hq) (andY (bind_eq (i_quorum l _ hl hq.1) (andY (bind_eq (i_all l _ hl hq.1) rfl))))))).trans ?_
 unfold qcB qcF
 cases rootB q<;>cases inR q.1 1 10000<;>cases inR q.2.1 0 100000<;>cases namesB q.2.2.1<;>cases allInB l q.2.2.1<;>cases quorumB l q.2.2.1<;>rfl
theorem i_tcf (t:DTc) (r:Int) (h:TOk t):F171 (t,((r,()),()))=some (B1 (tcF t r)):=by
 have hl:L63 (List.length t.2.2.1):=h.2
 have lp:=loopAllP (S:=Int×Unit) t.2.2.1 (fun y=>inR y.1 0 (iSub .i64 t.1 1)) (f:=F171.b0 (t,((r,()),()))) (fun k=>(k,())) (Sum.inl ((t.2.2.1.length:Int),())) (Sum.inr (B1 false)) (fun i hi=>?_) ?_
 ·unfold F171 tcF
  refine bind_eq (i_none t) (orY (bind_eq lp ?_))
  cases t.2.2.1.all (fun y=>inR y.1 0 (iSub .i64 t.1 1))
  ·cases inR t.1 1 r<;>cases namesB t.2.1<;>cases iEq (List.length t.2.2.1:Int) (List.length t.2.1:Int)<;>rfl
  ·refine (bind_eq (i_in _ _ _) (andY (bind_eq (i_names _ h.1) and_yes))).trans ?_
   cases iEq (List.length t.2.2.1:Int) (List.length t.2.1:Int)<;>rfl
 ·unfold F171.b0
  refine lt_then (Int.ofNat_lt.2 hi) (bind_eq (getI_lt hi) (bind_eq (i_in _ _ _) ?_))
  rw [←nxt hi hl]
  exact goE
 ·unfold F171.b0
  exact lt_else (Int.le_refl _) rfl
theorem s_tc (l:List D163) (t:DTc) (hl:L63 l.length) (h:TOk t):F98 ((l,()),(t,()))=some (B1 (tcB l t)):=by
 have hh:L63 (List.length t.2.2.1):=h.2
 have lp:=loopAllP (S:=Int×Unit) t.2.2.1 (fun y=>inR y.1 0 (iSub .i64 t.1 1)) (f:=F98.b0 ((l,()),(t,()))) (fun k=>(k,())) (Sum.inl ((t.2.2.1.length:Int),())) (Sum.inr (B1 false)) (fun i hi=>?_) ?_
 ·unfold F98
  refine (bind_eq (s_none t) (orY (bind_eq (s_in _ _ _) (andN (bind_eq (s_all l _ hl h.1) (andN (bind_eq (s_quorum l _ hl h.1.1) (andN (andN (b:=iEq (List.length t.2.2.1:Int) (List.length t.2.1:Int)) (c:=t.2.2.1.all (fun y=>inR y.1 0 (iSub .i64 t.1 1))) (bind_eq lp ?_)))))))))).trans ?_
  ·cases t.2.2.1.all (fun y=>inR y.1 0 (iSub .i64 t.1 1))<;>rfl
  ·unfold tcB
   cases noneB t<;>cases inR t.1 1 10000<;>cases namesB t.2.1<;>cases iEq (List.length t.2.2.1:Int) (List.length t.2.1:Int)<;>cases t.2.2.1.all (fun y=>inR y.1 0 (iSub .i64 t.1 1))<;>cases allInB l t.2.1<;>cases quorumB l t.2.1<;>rfl
 ·unfold F98.b0
  refine lt_then (Int.ofNat_lt.2 hi) (bind_eq (getI_lt hi) (bind_eq (s_in _ _ _) ?_))
  rw [←nxt hi hh]
  exact goE
 ·unfold F98.b0
  exact lt_else (Int.le_refl _) rfl
theorem i_tc (l:List D163) (t:DTc) (hl:L63 l.length) (h:TOk t):F127 ((l,()),(t,()))=some (B1 (tcB l t)):=by
 unfold F127
 refine (bind_eq (i_none t) (orY (bind_eq (i_tcf t _ h) (andY (bind_eq (i_quorum l _ hl h.1.1) (andY (bind_eq (i_all l _ hl h.1.1) rfl))))))).trans ?_
 unfold tcB tcF
 cases noneB t<;>cases inR t.1 1 10000<;>cases namesB t.2.1<;>cases iEq (List.length t.2.2.1:Int) (List.length t.2.1:Int)<;>cases t.2.2.1.all (fun y=>inR y.1 0 (iSub .i64 t.1 1))<;>cases allInB l t.2.1<;>cases quorumB l t.2.1<;>rfl
def txB (t:D169):Bool:=nameB t.2.1&&(inR t.2.2.2.1 1 1000000&&(inR t.2.2.2.2.1 0 10000&&(bif iEq t.1 1 then nameB t.2.2.1 else (inR t.1 2 3&&sEq t.2.2.1 ⟨#[]⟩))))
abbrev XOk (t:D169):Prop:=L63 t.2.1.size∧L63 t.2.2.1.size
theorem XOk_mem {l:List D169} (h:(Ty.sl e169).Ok l) {t:D169} (ht:t∈l):XOk t:=⟨(Ok_mem h.2 ht).2.1,(Ok_mem h.2 ht).2.2.1⟩
theorem s_tx (t:D169) (h:XOk t):F147 (t,())=some (B1 (txB t)):=by
 unfold F147 txB
 refine bind_eq (s_name _ h.1) (andN (bind_eq (s_in _ _ _) (andN (bind_eq (s_in _ _ _) (andN ?_)))))
 cases iEq t.1 1
 ·exact bind_eq (s_in _ _ _) and_yes
 ·exact bind_eq (s_name _ h.2) rfl
theorem i_tx (t:D169) (h:XOk t):F164 (t,())=some (B1 (txB t)):=by
 unfold F164 txB
 refine (bind_eq (i_in _ _ _) (andN (bind_eq (i_name _ h.1) (andN (bind_eq (i_in _ _ _) (andN (bind_eq (i_in _ _ _) (andN (c:=bif iEq t.1 1 then nameB t.2.2.1 else sEq t.2.2.1 ⟨#[]⟩) ?_)))))))).trans ?_
 ·cases iEq t.1 1
  ·rfl
  ·exact bind_eq (i_name _ h.2) rfl
 ·have e:inR t.1 1 3=(iEq t.1 1||inR t.1 2 3):=by
   simp only [inR,iLe,iEq]
   rw [Bool.eq_iff_iff]
   simp
   omega
  rw [e]
  cases iEq t.1 1<;>cases inR t.1 2 3<;>cases nameB t.2.1<;>cases inR t.2.2.2.1 1 1000000<;>cases inR t.2.2.2.2.1 0 10000<;>cases sEq t.2.2.1 ⟨#[]⟩<;>cases nameB t.2.2.1<;>rfl
theorem i_txs (l:List D169) (h:(Ty.sl e169).Ok l):F202 ((l,()),())=some (B1 (l.all txB)):=by
 have hl:L63 l.length:=h.1
 have lp:=loopAllP (S:=Int×Unit) l txB (f:=F202.b0 ((l,()),())) (fun k=>(k,())) (Sum.inl ((l.length:Int),())) (Sum.inr (B1 false)) (fun i hi=>?_) ?_
 ·unfold F202
  refine bind_eq lp ?_
  cases l.all txB<;>rfl
 ·unfold F202.b0
  refine lt_then (Int.ofNat_lt.2 hi) (bind_eq (getI_lt hi) (bind_eq (i_tx _ (XOk_mem h (List.getElem_mem hi))) ?_))
  rw [←nxt hi hl]
  exact goE
 ·unfold F202.b0
  exact lt_else (Int.le_refl _) rfl
abbrev DBk:Type:=D154
def bQc (b:DBk):DQc:=(b.2.2.2.2.1,(b.2.2.2.2.2.1,(b.2.2.2.2.2.2.1,())))
def bTc (b:DBk):DTc:=(b.2.2.2.2.2.2.2.1,(b.2.2.2.2.2.2.2.2.1,(b.2.2.2.2.2.2.2.2.2.1,())))
abbrev bTxs (b:DBk):List D169:=b.2.2.2.2.2.2.2.2.2.2.1
abbrev bEnd (b:DBk):Bool:=b.2.2.2.2.2.2.2.2.2.2.2.1
abbrev bNext (b:DBk):List D163:=b.2.2.2.2.2.2.2.2.2.2.2.2.1
abbrev bRoot (b:DBk):ByteArray:=b.2.2.2.2.2.2.2.2.2.2.2.2.2.1
abbrev BOk (b:DBk):Prop:=e154.Ok b
theorem BOk.by_ {b:DBk} (h:BOk b):L63 b.2.2.2.1.size:=h.2.2.2.1
theorem BOk.qc {b:DBk} (h:BOk b):QOk (bQc b):=h.2.2.2.2.2.2.1
theorem BOk.tc {b:DBk} (h:BOk b):TOk (bTc b):=⟨h.2.2.2.2.2.2.2.2.1,h.2.2.2.2.2.2.2.2.2.1.1⟩
theorem BOk.txs {b:DBk} (h:BOk b):(Ty.sl e169).Ok (bTxs b):=h.2.2.2.2.2.2.2.2.2.2.1
theorem BOk.next {b:DBk} (h:BOk b):(Ty.sl e163).Ok (bNext b):=h.2.2.2.2.2.2.2.2.2.2.2.2.1
def bodyB (b:DBk):Bool:=bif bEnd b then (setB (bNext b)&&iEq ((bRoot b).size:Int) 32) else (iEq (List.length (bNext b):Int) 0&&sEq (bRoot b) ⟨#[]⟩)
def blockB (b:DBk):Bool:=inR b.1 0 100000&&(inR b.2.1 0 900&&(inR b.2.2.1 1 10000&&(nameB b.2.2.2.1&&(qcF (bQc b) (iSub .i64 b.2.2.1 1) (iSub .i64 b.1 1)&&(tcF (bTc b) (iSub .i64 b.2.2.1 1) &&
 (!iLt 4 (List.length (bTxs b):Int)&&((bTxs b).all txB&&bodyB b)))))))
theorem s_qcf (b:DBk) (h:BOk b):F187 (b,())=some (B1 (qcF (bQc b) (iSub .i64 b.2.2.1 1) (iSub .i64 b.1 1))):=by
 unfold F187 qcF
 exact bind_eq (s_root (bQc b)) (orY (bind_eq (s_in _ _ _) (andY (bind_eq (s_in _ _ _) (andY (bind_eq (s_names _ h.qc) rfl))))))
theorem s_tcf (b:DBk) (h:BOk b):F188 (b,())=some (B1 (tcF (bTc b) (iSub .i64 b.2.2.1 1))):=by
 have hl:L63 (List.length (bTc b).2.2.1):=h.tc.2
 have lp:=loopAllP (S:=Int×Unit) (bTc b).2.2.1 (fun y=>inR y.1 0 (iSub .i64 (bTc b).1 1)) (f:=F188.b0 (b,())) (fun k=>(k,())) (Sum.inl (((bTc b).2.2.1.length:Int),())) (Sum.inr (B1 false)) (fun i hi=>?_) ?_
 ·unfold F188 tcF
  refine bind_eq (s_none (bTc b)) (orY (bind_eq (s_in _ _ _) (andN (bind_eq (s_names _ h.tc.1) (andN ?_)))))
  refine (andN (b:=iEq (List.length (bTc b).2.2.1:Int) (List.length (bTc b).2.1:Int)) (bind_eq lp ?_))
  cases (bTc b).2.2.1.all (fun y=>inR y.1 0 (iSub .i64 (bTc b).1 1))<;>rfl
 ·unfold F188.b0
  refine lt_then (Int.ofNat_lt.2 hi) (bind_eq (getI_lt hi) (bind_eq (s_in _ _ _) ?_))
  rw [←nxt hi hl]
  exact goE
 ·unfold F188.b0
  exact lt_else (Int.le_refl _) rfl
theorem s_blk (b:DBk) (h:BOk b):F149 (b,())=some (B1 (blockB b)):=by
 have hl:L63 (bTxs b).length:=h.txs.1
 have lp:=loopAllP (S:=Int×Unit) (bTxs b) txB (f:=F149.b0 (b,())) (fun k=>(k,())) (Sum.inl (((bTxs b).length:Int),())) (Sum.inr (B1 false)) (fun i hi=>?_) ?_
 ·unfold F149 blockB
  refine bind_eq (s_in _ _ _) (andN (bind_eq (s_in _ _ _) (andN (bind_eq (s_in _ _ _) (andN (bind_eq (s_name _ h.by_) (andN (bind_eq (s_qcf b h) (andN (bind_eq (s_tcf b h) (andN (noT (bind_eq lp ?_)))))))))))))
  cases (bTxs b).all txB
  ·rfl
  ·unfold bodyB
   rw [Bool.true_and]
   dsimp only [cond_true,Sum.elim_inl,bEnd]
   cases b.2.2.2.2.2.2.2.2.2.2.2.1
   ·exact and_yes
   ·exact bind_eq (s_set _ h.next) and_yes
 ·unfold F149.b0
  refine lt_then (Int.ofNat_lt.2 hi) (bind_eq (getI_lt hi) (bind_eq (s_tx _ (XOk_mem h.txs (List.getElem_mem hi))) ?_))
  rw [←nxt hi hl]
  exact goE
 ·unfold F149.b0
  exact lt_else (Int.le_refl _) rfl
theorem i_blk (b:DBk) (h:BOk b):F172 (b,())=some (B1 (blockB b)):=by
 unfold F172 blockB
 refine bind_eq (i_in _ _ _) (andN (bind_eq (i_in _ _ _) (andN (bind_eq (i_in _ _ _) (andN (bind_eq (i_name _ h.by_) (andN (bind_eq (i_qcf (bQc b) _ _ h.qc) (andN (bind_eq (i_tcf (bTc b) _ h.tc) (andN (noT (bind_eq (i_txs _ h.txs) (andN ?_))))))))))))))
 unfold bodyB
 dsimp only [bEnd]
 cases b.2.2.2.2.2.2.2.2.2.2.2.1
 ·exact and_yes
 ·exact bind_eq (i_set _ h.next) and_yes
theorem s_cqc (q:DQc) (h:W1 (List.length q.2.2.1)):F88 (q,())=some (q,()):=by
 unfold F88
 exact room_then h (by decide) (by decide) rfl
theorem s_ctc (t:DTc) (h:W1 (List.length t.2.1)) (h2:W1 (List.length t.2.2.1)):F89 (t,())=some (t,()):=by
 unfold F89
 exact room_then h (by decide) (by decide) (room_then h2 (by decide) (by decide) rfl)
theorem i_clS (l:List D9) (h:W1 l.length):F162 ((l,()),())=some ((l,()),()):=by unfold F162;exact clone_ok l h (by decide) (by decide)
theorem i_clI (l:List D3) (h:W1 l.length):F118 ((l,()),())=some ((l,()),()):=by unfold F118;exact clone_ok l h (by decide) (by decide)
theorem i_clT (l:List D169) (h:W1 l.length):F119 ((l,()),())=some ((l,()),()):=by unfold F119;exact clone_ok l h (by decide) (by decide)
theorem i_clV (l:List D163) (h:W1 l.length):F112 ((l,()),())=some ((l,()),()):=by unfold F112;exact clone_ok l h (by decide) (by decide)
theorem i_clL (l:List D229) (h:W1 l.length):F195 ((l,()),())=some ((l,()),()):=by unfold F195;exact clone_ok l h (by decide) (by decide)
theorem i_clVo (l:List D105) (h:W1 l.length):F116 ((l,()),())=some ((l,()),()):=by unfold F116;exact clone_ok l h (by decide) (by decide)
theorem i_clGo (l:List D107) (h:W1 l.length):F117 ((l,()),())=some ((l,()),()):=by unfold F117;exact clone_ok l h (by decide) (by decide)
theorem i_cqc (q:DQc) (h:W1 (List.length q.2.2.1)):F114 (q,())=some (q,()):=by
 unfold F114
 exact bind_eq (i_clS _ h) rfl
theorem i_ctc (t:DTc) (h:W1 (List.length t.2.1)) (h2:W1 (List.length t.2.2.1)):F115 (t,())=some (t,()):=by
 unfold F115
 exact bind_eq (i_clS _ h) (bind_eq (i_clI _ h2) rfl)
def BlockL (x:DBk):Prop:=W1 (List.length (bQc x).2.2.1)∧W1 (List.length (bTc x).2.1)∧W1 (List.length (bTc x).2.2.1)∧W1 (List.length (bTxs x))∧W1 (List.length (bNext x))
theorem s_cblk (x:DBk) (h:BlockL x):F145 (x,())=some (x,()):=by
 unfold F145
 exact bind_eq (s_cqc (bQc x) h.1) (bind_eq (s_ctc (bTc x) h.2.1 h.2.2.1) (room_then h.2.2.2.1 (by decide) (by decide) (room_then h.2.2.2.2 (by decide) (by decide) rfl)))
theorem i_cblk (x:DBk) (h:BlockL x):F161 (x,())=some (x,()):=by
 unfold F161
 exact bind_eq (i_cqc (bQc x) h.1) (bind_eq (i_ctc (bTc x) h.2.1 h.2.2.1) (bind_eq (i_clT _ h.2.2.2.1) (bind_eq (i_clV _ h.2.2.2.2) rfl)))
theorem s_cblks (xs:List DBk) (hl:W1 xs.length) (hb:∀x∈xs,BlockL x):F87 ((xs,()),())=some ((xs,()),()):=by
 have lp:=loopCopy (S:=List DBk×(Int×Unit)) xs (f:=F87.b0 ((xs,()),())) (fun a k=>(a,(k,()))) (Sum.inl (xs,((xs.length:Int),()))) (fun i hi=>?_) ?_
 ·unfold F87
  exact bind_eq lp rfl
 ·unfold F87.b0
  refine lt_then (Int.ofNat_lt.2 hi) (bind_eq (getI_lt hi) (bind_eq (s_cblk _ (hb _ (List.getElem_mem hi))) (room_one hi hl (by decide) (by decide) ?_)))
  rw [←nxt hi hl.l];rfl
 ·unfold F87.b0
  exact lt_else (Int.le_refl _) rfl
theorem i_cblks (xs:List DBk) (hl:W1 xs.length) (hb:∀x∈xs,BlockL x):F113 ((xs,()),())=some ((xs,()),()):=by
 have lp:=loopCopy (S:=List DBk×(Int×Unit)) xs (f:=F113.b0 ((xs,()),())) (fun a k=>(a,(k,()))) (Sum.inl (xs,((xs.length:Int),()))) (fun i hi=>?_) ?_
 ·unfold F113
  exact bind_eq lp rfl
 ·unfold F113.b0
  refine lt_then (Int.ofNat_lt.2 hi) (bind_eq (getI_lt hi) (bind_eq (i_cblk _ (hb _ (List.getElem_mem hi))) (room_one hi hl (by decide) (by decide) ?_)))
  rw [←nxt hi hl.l];rfl
 ·unfold F113.b0
  exact lt_else (Int.le_refl _) rfl
abbrev DPr:Type:=D146
abbrev pBs (p:DPr):List DBk:=p.2.1
def pQ (p:DPr):DQc:=(p.2.2.1,(p.2.2.2.1,(p.2.2.2.2.1,())))
def ProofL (x:DPr):Prop:=W1 (List.length (pBs x))∧(∀y∈pBs x,BlockL y)∧W1 (List.length (pQ x).2.2.1)
theorem s_cproof (x:DPr) (h:ProofL x):F90 (x,())=some (x,()):=by
 unfold F90
 exact bind_eq (s_cblks _ h.1 h.2.1) (bind_eq (s_cqc (pQ x) h.2.2) rfl)
theorem i_cproof (x:DPr) (h:ProofL x):F120 (x,())=some (x,()):=by
 unfold F120
 exact bind_eq (i_cblks _ h.1 h.2.1) (bind_eq (i_cqc (pQ x) h.2.2) rfl)
theorem idxFunc_blk (l:List DBk) (g:DBk→Option (Bool×Unit)) (p:DBk→Bool) (hg:∀x,g x=some (p x,())) (hl:L63 l.length):F203 ((l,()),((g,()),()))=some (I1 (idxOf l p)):=by
 have lp:=loopIdx (S:=Int×Unit) l p (f:=F203.b0 ((l,()),((g,()),()))) (fun k=>(k,())) (Sum.inl ((l.length:Int),())) (fun i=>Sum.inr (I1 i)) (fun i hi=>?_) ?_
 ·unfold F203
  refine bind_eq lp ?_
  rcases idxOf_cases l p with ⟨h1,_,h3⟩|⟨j,hj,_,_,h1,_,h3⟩<;>rw [h1,h3]<;>rfl
 ·unfold F203.b0
  refine lt_then (Int.ofNat_lt.2 hi) (bind_eq (getI_lt hi) (bind_eq (hg _) ?_))
  rw [←nxt hi hl]
 ·unfold F203.b0
  exact lt_else (Int.le_refl _) rfl
abbrev DNd:Type:=D52
abbrev nPast (n:DNd):List DPr:=n.2.2.2.2.2.2.2.2.2.2.2.2.2.2.2.2.2.2.2.1
def AcctL (l:List D207):Prop:=W1 l.length∧∀a∈l,W1 (List.length a.2.2.2.2.1)
theorem AcctL_of {l:List D207} (h:(Ty.sl e207).w l≤1048576):AcctL l:=⟨w_ln h,fun a ha=>w_ln (w_hd (w_tl (w_tl (w_tl (w_tl (w_mem h ha))))))⟩
theorem s_caccts (xs:List D207) (h:AcctL xs):F144 ((xs,()),())=some ((xs,()),()):=by
 have hl:=h.1
 have lp:=loopCopy (S:=List D207×(Int×Unit)) xs (f:=F144.b0 ((xs,()),())) (fun a k=>(a,(k,()))) (Sum.inl (xs,((xs.length:Int),()))) (fun i hi=>?_) ?_
 ·unfold F144
  exact bind_eq lp rfl
 ·unfold F144.b0
  refine lt_then (Int.ofNat_lt.2 hi) (bind_eq (getI_lt hi) (room_then (h.2 _ (List.getElem_mem hi)) (by decide) (by decide) (room_one hi hl (by decide) (by decide) ?_)))
  rw [←nxt hi hl.l];rfl
 ·unfold F144.b0
  exact lt_else (Int.le_refl _) rfl
theorem s_cledger (x:DLe) (h:AcctL x.2.1):F86 (x,())=some (x,()):=bind_eq (s_caccts _ h) rfl
theorem i_caccts (xs:List D207) (h:AcctL xs):F160 ((xs,()),())=some ((xs,()),()):=by
 have hl:=h.1
 have lp:=loopCopy (S:=List D207×(Int×Unit)) xs (f:=F160.b0 ((xs,()),())) (fun a k=>(a,(k,()))) (Sum.inl (xs,((xs.length:Int),()))) (fun i hi=>?_) ?_
 ·unfold F160
  exact bind_eq lp rfl
 ·unfold F160.b0
  refine lt_then (Int.ofNat_lt.2 hi) (bind_eq (getI_lt hi) (bind_eq (i_clL _ (h.2 _ (List.getElem_mem hi))) (room_one hi hl (by decide) (by decide) ?_)))
  rw [←nxt hi hl.l];rfl
 ·unfold F160.b0
  exact lt_else (Int.le_refl _) rfl
theorem i_cledger (x:DLe) (h:AcctL x.2.1):F111 (x,())=some (x,()):=bind_eq (i_caccts _ h) rfl
def txLessB (a b:D169):Bool:=bif !sEq a.2.1 b.2.1 then sLt a.2.1 b.2.1 else bif !iEq a.2.2.2.2.1 b.2.2.2.2.1 then iLt a.2.2.2.2.1 b.2.2.2.2.1 else bif !iEq a.1 b.1 then iLt a.1 b.1 else bif !sEq a.2.2.1 b.2.2.1 then sLt a.2.2.1 b.2.2.1 else iLt a.2.2.2.1 b.2.2.2.1
def cmp3 (lt eq:Bool):Int:=bif eq then 0 else bif lt then -1 else 1
theorem sLt_eq {a b:ByteArray} (h:sEq a b=true):sLt a b=false:=by
 unfold sEq at h
 have:a.toList=b.toList:=by simpa using h
 unfold sLt
 rw [this]
 exact bytesLess_self _
theorem iLt_eq {a b:Int} (h:iEq a b=true):iLt a b=false:=by
 have:a=b:=by simpa [iEq] using h
 rw [this]
 exact iLt_false (Int.le_refl _)
def cmpTx (a b:D169):Int :=
 bif !sEq a.2.1 b.2.1 then cmp3 (sLt a.2.1 b.2.1) false else bif !iEq a.2.2.2.2.1 b.2.2.2.2.1 then cmp3 (iLt a.2.2.2.2.1 b.2.2.2.2.1) false else bif !iEq a.1 b.1 then cmp3 (iLt a.1 b.1) false else bif !sEq a.2.2.1 b.2.2.1 then cmp3 (sLt a.2.2.1 b.2.2.1) false else cmp3 (iLt a.2.2.2.1 b.2.2.2.1) (iEq a.2.2.2.1 b.2.2.2.1)
theorem cmpTx_lt (a b:D169):iLt (cmpTx a b) 0=txLessB a b:=by
 unfold cmpTx txLessB cmp3
 cases sEq a.2.1 b.2.1<;>cases iEq a.2.2.2.2.1 b.2.2.2.2.1<;>cases iEq a.1 b.1<;>cases sEq a.2.2.1 b.2.2.1<;>cases h:iEq a.2.2.2.1 b.2.2.2.1<;>first
  |(cases sLt a.2.1 b.2.1<;>rfl)
  |(cases iLt a.2.2.2.2.1 b.2.2.2.2.1<;>rfl)
  |(cases iLt a.1 b.1<;>rfl)
  |(cases sLt a.2.2.1 b.2.2.1<;>rfl)
  |(cases iLt a.2.2.2.1 b.2.2.2.1<;>rfl)
  |(rw [iLt_eq h];rfl)
theorem s_txLess (a b:D169):F148 (a,(b,()))=some (B1 (txLessB a b)):=by
 unfold F148 txLessB
 dsimp only
 cases sEq a.2.1 b.2.1<;>cases iEq a.2.2.2.2.1 b.2.2.2.2.1<;>cases iEq a.1 b.1<;>cases sEq a.2.2.1 b.2.2.1<;>rfl
theorem i_cmpS (a b:ByteArray):F219 ((a,()),((b,()),()))=some (I1 (cmp3 (sLt a b) (sEq a b))):=by
 have hn:∀c:ByteArray,F233 ((c,()),())=some (B1 false):=fun c=>by
  unfold F233
  dsimp only
  rw [sEq_self];rfl
 unfold F219 cmp3
 refine bind_eq (hn a) (bind_eq (hn b) ?_)
 dsimp only
 cases h:sEq a b with
 |true=>rw [sLt_eq h];rfl
 |false=>cases sLt a b<;>rfl
theorem i_cmpI (a b:Int):F220 ((a,()),((b,()),()))=some (I1 (cmp3 (iLt a b) (iEq a b))):=by
 have hn:∀c:Int,F234 ((c,()),())=some (B1 false):=fun c=>by
  unfold F234
  dsimp only
  rw [iEq_self];rfl
 unfold F220 cmp3
 refine bind_eq (hn a) (bind_eq (hn b) ?_)
 dsimp only
 cases h:iEq a b with
 |true =>
  rw [iLt_eq h]
  have:iLt b a=false:=by
   have e:a=b:=by simpa [iEq] using h
   rw [e];exact iLt_false (Int.le_refl _)
  rw [this];rfl
 |false =>
  cases h2:iLt a b with
  |true=>rfl
  |false =>
   have:iLt b a=true:=by simp [iEq,iLt] at h h2 ⊢;omega
   rw [this];rfl
theorem i_orI (l:List D3) (hl:L63 l.length):F218 ((l,()),())=some (match l.find? (fun x=> !iEq x.1 0) with|some x=>(x,())|none=>I1 0):=by
 have lp:=loopFindV (S:=Int×Unit) l (fun x=> !iEq x.1 0) (f:=F218.b0 ((l,()),())) (fun k=>(k,())) (Sum.inl ((l.length:Int),())) (fun x=>Sum.inr (x,())) (fun i hi=>?_) ?_
 ·unfold F218
  refine bind_eq lp ?_
  cases l.find? (fun x=> !iEq x.1 0)<;>rfl
 ·unfold F218.b0
  refine lt_then (Int.ofNat_lt.2 hi) (bind_eq (getI_lt hi) ?_)
  rw [←nxt hi hl]
 ·unfold F218.b0
  exact lt_else (Int.le_refl _) rfl
theorem or_step {v:Int} {lt eq:Bool} {r:List (Int×Unit)} (h:eq=true→lt=false):(match ((cmp3 lt eq,())::r).find? (fun x=> !iEq x.1 0) with|some x=>((x,()):(Int×Unit)×Unit)|none=>I1 0)=bif !eq then I1 (cmp3 lt false) else (match r.find? (fun x=> !iEq x.1 0) with|some x=>(x,())|none=>I1 0):=by
 cases eq with
 |true=>rw [List.find?_cons_of_neg (by exact Bool.false_ne_true)];rfl
 |false=>cases lt<;>(rw [List.find?_cons_of_pos (by decide)];rfl)
theorem i_cmpTx (a b:D169):F198 (a,(b,()))=some (I1 (cmpTx a b)):=by
 unfold F198
 refine bind_eq (i_cmpS _ _) (bind_eq (i_cmpI _ _) (bind_eq (i_cmpI _ _) (bind_eq (i_cmpS _ _) (bind_eq (i_cmpI _ _) (bind_eq (i_orI _ (show (5:Nat)≤9223372036854775807 by decide)) ?_)))))
 refine congrArg some ?_
 refine Eq.trans (b:=(match ([(cmp3 (sLt a.2.1 b.2.1) (sEq a.2.1 b.2.1),()),(cmp3 (iLt a.2.2.2.2.1 b.2.2.2.2.1) (iEq a.2.2.2.2.1 b.2.2.2.2.1),()),(cmp3 (iLt a.1 b.1) (iEq a.1 b.1),()),(cmp3 (sLt a.2.2.1 b.2.2.1) (sEq a.2.2.1 b.2.2.1),()),(cmp3 (iLt a.2.2.2.1 b.2.2.2.1) (iEq a.2.2.2.1 b.2.2.2.1),())]:List (Int×Unit)).find? (fun x=> !iEq x.1 0) with|some x=>((x,()):(Int×Unit)×Unit)|none=>I1 0)) rfl ?_
 rw [or_step (v:=0) sLt_eq,or_step (v:=0) iLt_eq,or_step (v:=0) iLt_eq,or_step (v:=0) sLt_eq,or_step (v:=0) iLt_eq]
 unfold cmpTx
 cases sEq a.2.1 b.2.1<;>cases iEq a.2.2.2.2.1 b.2.2.2.2.1<;>cases iEq a.1 b.1<;>cases sEq a.2.2.1 b.2.2.1<;>cases iEq a.2.2.2.1 b.2.2.2.1<;>rfl
theorem i_txLess (a b:D169):F165 (a,(b,()))=some (B1 (txLessB a b)):=by
 unfold F165
 refine bind_eq (i_cmpTx a b) ?_
 rw [←cmpTx_lt]
def poolP (xs:List D169) (i:Nat) (y:D169):Bool:=txB y&&behind txLessB xs i y
def poolB (xs:List D169):Bool:=allI (poolP xs) 0 xs&&iLe (xs.length:Int) 20
theorem s_pool (xs:List D169) (hx:(Ty.sl e169).Ok xs):F93 ((xs,()),())=some (B1 (poolB xs)):=by
 have hl:L63 xs.length:=hx.1
 have lp:=loopAll (S:=Int×Unit) xs (poolP xs) (f:=F93.b0 ((xs,()),())) (fun k=>(k,())) (Sum.inl ((xs.length:Int),())) (Sum.inr (B1 false)) (fun i hi=>?_) ?_
 ·unfold F93 poolB
  refine bind_eq lp ?_
  cases allI (poolP xs) 0 xs<;>rfl
 ·unfold F93.b0 poolP
  refine lt_then (Int.ofNat_lt.2 hi) (bind_eq (getI_lt hi) (bind_eq (s_tx _ (XOk_mem hx (List.getElem_mem hi))) (goN ?_)))
  rw [←nxt hi hl]
  exact asc_step hi hl (fun z=>bind_eq (getI_lt hi) (bind_eq (s_txLess _ _) goE))
 ·unfold F93.b0
  exact lt_else (Int.le_refl _) rfl
theorem i_pool (xs:List D169) (hx:(Ty.sl e169).Ok xs):F124 ((xs,()),())=some (B1 (poolB xs)):=by
 have hl:L63 xs.length:=hx.1
 have lp:=loopAll (S:=Int×Unit) xs (poolP xs) (f:=F124.b0 ((xs,()),())) (fun k=>(k,())) (Sum.inl ((xs.length:Int),())) (Sum.inr (B1 false)) (fun i hi=>?_) ?_
 ·unfold F124 poolB
  refine bind_eq lp ?_
  cases allI (poolP xs) 0 xs<;>rfl
 ·unfold F124.b0 poolP
  refine lt_then (Int.ofNat_lt.2 hi) (bind_eq (getI_lt hi) (bind_eq (i_tx _ (XOk_mem hx (List.getElem_mem hi))) (goN ?_)))
  rw [←nxt hi hl]
  exact asc_step hi hl (fun z=>bind_eq (i_txLess _ _) goE)
 ·unfold F124.b0
  exact lt_else (Int.le_refl _) rfl
def headEp (l:List DBk):Int:=match l with
 |b::_=>b.2.1
 | []=>0
theorem head_get {l:List DBk} {i:Nat} (h:i<l.length):∃b,getI l 0=some b∧b.2.1=headEp l:=by
 cases l with
 |nil=>simp at h
 |cons b r=>exact ⟨b,rfl,rfl⟩
def parentB (pre:List DBk) (b:DBk):Bool:=match pre.find? (fun z=>iEq z.1 (bQc b).2.1) with
 |some z=>iEq z.2.2.1 (bQc b).1
 |none=>false
def treeQ (l:List DBk) (i:Nat) (b:DBk):Bool:=blockB b&&(iEq b.2.1 (headEp l)&&behind (fun z y=>iLt z.1 y.1) l i b)
def treeB (l:List DBk):Bool:=allI (fun i b=>treeQ l i b&&(rootB (bQc b)||parentB (l.take i) b)) 0 l&&iLe (l.length:Int) 400
theorem noRoot_lt {b:DBk} (h:blockB b=true) (hr:rootB (bQc b)=false):0≤(bQc b).2.1∧(bQc b).2.1<b.1:=by
 unfold blockB qcF at h
 simp only [Bool.and_eq_true] at h
 have h1:inR b.1 0 100000=true:=h.1
 have h2:=h.2.2.2.2.1
 rw [hr,Bool.false_or] at h2
 simp only [Bool.and_eq_true] at h2
 have h3:0≤b.1∧b.1≤100000:=by simpa [inR,iLe] using h1
 have h4:0≤(bQc b).2.1∧(bQc b).2.1≤iSub .i64 b.1 1:=by simpa [inR,iLe] using h2.2.1
 rw [iSub_small (by omega) (by omega)] at h4
 omega
theorem tree_whole (l:List DBk):allI (fun i b=>treeQ l i b&&(rootB (bQc b)||parentB (l.take i) b)) 0 l=allI (fun i b=>treeQ l i b&&(rootB (bQc b)||parentB l b)) 0 l:=by
 rw [allI_and,allI_and]
 cases hq:allI (fun i b=>treeQ l i b) 0 l with
 |false=>rfl
 |true =>
  rw [Bool.true_and,Bool.true_and]
  have hq:=fun i hi=>by have:=allI_get hq i hi;rw [Nat.zero_add] at this;unfold treeQ at this;simp only [Bool.and_eq_true] at this;exact this
  refine allI_congr (fun i b hb=>?_)
  obtain ⟨hi,rfl⟩:=List.getElem?_eq_some_iff.1 hb
  rw [Nat.zero_add]
  cases hr:rootB (bQc l[i]) with
  |true=>rfl
  |false =>
   rw [Bool.false_or,Bool.false_or]
   have hlt:=noRoot_lt (hq i hi).1 hr
   have hd:(l.drop i).find? (fun z=>iEq z.1 (bQc l[i]).2.1)=none:=by
    rw [List.find?_eq_none]
    intro z hz
    obtain ⟨k,hk,rfl⟩:=List.getElem_of_mem hz
    rw [List.length_drop] at hk
    have:=asc_le (f:=fun b:DBk=>b.1) (l:=l) (fun j hj=>(hq j hj).2.2) k i (by omega)
    rw [List.getElem_drop]
    have this:l[i].1≤l[i+k].1:=this
    simp only [iEq,decide_eq_true_eq]
    omega
   unfold parentB
   have:l.find? (fun z=>iEq z.1 (bQc l[i]).2.1)=(l.take i).find? (fun z=>iEq z.1 (bQc l[i]).2.1):=by
    generalize (bQc l[i]).2.1=id at hd ⊢
    have e:=List.find?_append (p:=fun z:DBk=>iEq z.1 id) (xs:=l.take i) (ys:=l.drop i)
    rw [List.take_append_drop,hd] at e
    rw [e]
    cases (l.take i).find? (fun z=>iEq z.1 id)<;>rfl
   rw [this]
def blkAt (l:List DBk) (id:Int):Int:=idxOf l (fun b=>iEq b.1 id)
theorem s_blkAt (l:List DBk) (id:Int) (hl:L63 l.length):F151 ((l,()),((id,()),()))=some (I1 (blkAt l id)):=by
 have lp:=loopIdx (S:=Int×Unit) l (fun b=>iEq b.1 id) (f:=F151.b0 ((l,()),((id,()),()))) (fun k=>(k,())) (Sum.inl ((l.length:Int),())) (fun i=>Sum.inr (I1 i)) (fun i hi=>?_) ?_
 ·unfold F151 blkAt
  refine bind_eq lp ?_
  rcases idxOf_cases l (fun b=>iEq b.1 id) with ⟨h1,_,h3⟩|⟨j,hj,_,_,h1,_,h3⟩<;>rw [h1,h3]<;>rfl
 ·unfold F151.b0
  refine lt_then (Int.ofNat_lt.2 hi) (bind_eq (getI_lt hi) ?_)
  rw [←nxt hi hl]
 ·unfold F151.b0
  exact lt_else (Int.le_refl _) rfl
theorem s_tree (l:List DBk) (h:(Ty.sl e154).Ok l):F95 ((l,()),())=some (B1 (treeB l)):=by
 have hl:L63 l.length:=h.1
 have lp:=loopAll (S:=Int×Unit) l (fun i b=>treeQ l i b&&(rootB (bQc b)||parentB (l.take i) b)) (f:=F95.b0 ((l,()),())) (fun k=>(k,())) (Sum.inl ((l.length:Int),())) (Sum.inr (B1 false)) (fun i hi=>?_) ?_
 ·unfold F95 treeB
  refine bind_eq lp ?_
  cases allI (fun i b=>treeQ l i b&&(rootB (bQc b)||parentB (l.take i) b)) 0 l<;>rfl
 ·unfold F95.b0 treeQ
  have hb:BOk l[i]:=Ok_mem h.2 (List.getElem_mem hi)
  obtain ⟨b0,hb0,he0⟩:=head_get hi
  refine lt_then (Int.ofNat_lt.2 hi) (bind_eq (getI_lt hi) (join_go (bind_eq (s_blk _ hb) (goN (bind_eq hb0 ?_))) (bind_eq (s_root (bQc l[i])) ?_)))
  ·rw [←he0]
   refine goN (asc_step hi hl (fun z=>le_ite))
  ·rw [←nxt hi hl]
   dsimp only
   cases rootB (bQc l[i]) with
   |true=>rfl
   |false =>
    refine cut_hi (by omega) ?_
    rw [take_nat]
    refine bind_eq (s_blkAt _ _ (by rw [List.length_take];omega)) ?_
    unfold blkAt parentB
    rcases idxOf_cases (l.take i) (fun z=>iEq z.1 (bQc l[i]).2.1) with ⟨_,h2,h3⟩|⟨j,hj,_,_,_,h2,h3⟩
    ·rw [h2,show idxOf (l.take i) (fun b=>iEq b.1 l[i].2.2.2.2.2.1)= -1 from h3];rfl
    ·rw [h2,show idxOf (l.take i) (fun b=>iEq b.1 l[i].2.2.2.2.2.1)=(j:Int) from h3]
     have hj2:j<l.length:=by rw [List.length_take] at hj;omega
     rw [List.getElem_take]
     exact pos_else (Int.natCast_nonneg j) (bind_eq (getI_lt hj2) goE)
 ·unfold F95.b0
  exact lt_else (Int.le_refl _) rfl
theorem i_blkAt (l:List DBk) (id:Int) (hl:L63 l.length):F173 ((l,()),((id,()),()))=some (I1 (blkAt l id)):=by
 unfold F173 blkAt
 exact bind_eq (idxFunc_blk l _ (fun b=>iEq b.1 id) (fun x=>rfl) hl) rfl
theorem i_tree (l:List DBk) (h:(Ty.sl e154).Ok l):F128 ((l,()),())=some (B1 (treeB l)):=by
 have hl:L63 l.length:=h.1
 have lp:=loopAll (S:=Int×Unit) l (fun i b=>treeQ l i b&&(rootB (bQc b)||parentB l b)) (f:=F128.b0 ((l,()),())) (fun k=>(k,())) (Sum.inl ((l.length:Int),())) (Sum.inr (B1 false)) (fun i hi=>?_) ?_
 ·unfold F128 treeB
  refine bind_eq lp ?_
  rw [tree_whole]
  cases allI (fun i b=>treeQ l i b&&(rootB (bQc b)||parentB l b)) 0 l<;>rfl
 ·unfold F128.b0 treeQ
  have hb:BOk l[i]:=Ok_mem h.2 (List.getElem_mem hi)
  obtain ⟨b0,hb0,he0⟩:=head_get hi
  refine lt_then (Int.ofNat_lt.2 hi) (bind_eq (getI_lt hi) (join_go (bind_eq (i_blk _ hb) (goN (bind_eq hb0 ?_))) (bind_eq (i_root (bQc l[i])) ?_)))
  ·rw [←he0]
   refine goN (asc_step hi hl (fun z=>le_ite))
  ·rw [←nxt hi hl]
   dsimp only
   cases rootB (bQc l[i]) with
   |true=>rfl
   |false =>
    refine bind_eq (i_blkAt _ _ hl) ?_
    unfold blkAt parentB
    rcases idxOf_cases l (fun z=>iEq z.1 (bQc l[i]).2.1) with ⟨_,h2,h3⟩|⟨j,hj,_,_,_,h2,h3⟩
    ·rw [h2,show idxOf l (fun b=>iEq b.1 l[i].2.2.2.2.2.1)= -1 from h3];rfl
    ·rw [h2,show idxOf l (fun b=>iEq b.1 l[i].2.2.2.2.2.1)=(j:Int) from h3]
     exact pos_else (Int.natCast_nonneg j) (bind_eq (getI_lt hj) goE)
 ·unfold F128.b0
  exact lt_else (Int.le_refl _) rfl
abbrev nBase (n:DNd):DLe:=(n.2.2.1,(n.2.2.2.1,()))
abbrev nSet (n:DNd):List D163:=n.2.2.2.2.1
abbrev nTree (n:DNd):List DBk:=n.2.2.2.2.2.1
abbrev nRound (n:DNd):Int:=n.2.2.2.2.2.2.1
abbrev nVoted (n:DNd):Int:=n.2.2.2.2.2.2.2.1
def nHigh (n:DNd):DQc:=(n.2.2.2.2.2.2.2.2.1,(n.2.2.2.2.2.2.2.2.2.1,(n.2.2.2.2.2.2.2.2.2.2.1,())))
def nTc (n:DNd):DTc:=(n.2.2.2.2.2.2.2.2.2.2.2.1,(n.2.2.2.2.2.2.2.2.2.2.2.2.1,(n.2.2.2.2.2.2.2.2.2.2.2.2.2.1,())))
abbrev nLed (n:DNd):Int:=n.2.2.2.2.2.2.2.2.2.2.2.2.2.2.1
abbrev nVotes (n:DNd):List D105:=n.2.2.2.2.2.2.2.2.2.2.2.2.2.2.2.1
abbrev nGones (n:DNd):List D107:=n.2.2.2.2.2.2.2.2.2.2.2.2.2.2.2.2.1
abbrev nDone (n:DNd):List D3:=n.2.2.2.2.2.2.2.2.2.2.2.2.2.2.2.2.2.1
abbrev nPool (n:DNd):List D169:=n.2.2.2.2.2.2.2.2.2.2.2.2.2.2.2.2.2.2.1
abbrev NOk (n:DNd):Prop:=e52.Ok n
theorem NOk.base {n:DNd} (h:NOk n):(Ty.sl e207).Ok (nBase n).2.1:=h.2.2.2.1
theorem NOk.set {n:DNd} (h:NOk n):(Ty.sl e163).Ok (nSet n):=h.2.2.2.2.1
theorem NOk.tree {n:DNd} (h:NOk n):(Ty.sl e154).Ok (nTree n):=h.2.2.2.2.2.1
theorem NOk.high {n:DNd} (h:NOk n):QOk (nHigh n):=h.2.2.2.2.2.2.2.2.2.2.1
theorem NOk.tcs {n:DNd} (h:NOk n):TOk (nTc n):=⟨h.2.2.2.2.2.2.2.2.2.2.2.2.1,h.2.2.2.2.2.2.2.2.2.2.2.2.2.1.1⟩
theorem NOk.pool {n:DNd} (h:NOk n):(Ty.sl e169).Ok (nPool n):=h.2.2.2.2.2.2.2.2.2.2.2.2.2.2.2.2.2.2.1
def headB (l:List DBk) (ep:Int):Bool:=match l with
 |b::_=>iEq b.2.1 ep
 | []=>true
def nodeB (n:DNd):Bool:=nameB n.1&&(ledgerB (nBase n)&&(iEq (nBase n).1 n.2.1&&(poolB (nPool n)&&((!iLt 0 (List.length (nSet n):Int)||setB (nSet n))&&(treeB (nTree n)&&(headB (nTree n) n.2.1&&(inR (nRound n) 1 10000&&(iLt (nHigh n).1 (nRound n)&&(iLt (nTc n).1 (nRound n)&&(inR (nVoted n) 0 10000&&(inR (nLed n) 0 10000&&(qcB (nSet n) (nHigh n)&&(tcB (nSet n) (nTc n)&&(iLe (List.length (nVotes n):Int) 1000&&(iLe (List.length (nGones n):Int) 1000&&(iLe (List.length (nDone n):Int) 200&&iLe (List.length (nPast n):Int) 200))))))))))))))))
theorem head_go {l:List DBk} {ep:Int} {R:Type} {g x:Option R}:(bif iLt 0 (l.length:Int) then (getI l 0).bind (fun b=>bif !iEq b.2.1 ep then x else g) else g)=bif headB l ep then g else x:=by
 cases l with
 |nil=>rfl
 |cons b r=>exact (lt_then (by simp) (bind_eq rfl goE))
theorem s_node (n:DNd) (h:NOk n):F28 (n,())=some (B1 (nodeB n)):=by
 unfold F28 nodeB
 have hT:∀R (g x:Option R),((F95 ((nTree n,()),())).bind fun y=>bif !y.1.1 then x else (bif iLt 0 (List.length (nTree n):Int) then (getI (nTree n) 0).bind (fun b=>bif !iEq b.2.1 n.2.1 then x else g) else g))=bif (treeB (nTree n)&&headB (nTree n) n.2.1) then g else x:=fun R g x=>bind_eq (s_tree _ h.tree) (goN head_go)
 refine (join_and (b:=nameB n.1&&(ledgerB (nBase n)&&(iEq (nBase n).1 n.2.1&&(poolB (nPool n)&&((!iLt 0 (List.length (nSet n):Int)||setB (nSet n))&&(treeB (nTree n)&&headB (nTree n) n.2.1)))))) (bind_eq (s_name _ h.1) (goN (bind_eq (s_ledger (nBase n) h.base) (goN (goN (bind_eq (s_pool _ h.pool) (goN ?_))))))) (bind_eq (s_in _ _ _) (andY (andY (b:=iLt (nHigh n).1 (nRound n)) (andY (b:=iLt (nTc n).1 (nRound n)) (bind_eq (s_in _ _ _) (andY (bind_eq (s_in _ _ _) (andY (bind_eq (s_qc _ (nHigh n) h.set.1 h.high) (andY (bind_eq (s_tc _ (nTc n) h.set.1 h.tcs) (andY (andY (b:=iLe (List.length (nVotes n):Int) 1000) (andY (b:=iLe (List.length (nGones n):Int) 1000) (and_yes (b:=iLe (List.length (nDone n):Int) 200) (c:=iLe (List.length (nPast n):Int) 200))))))))))))))))).trans ?_
 ·refine Eq.trans ?_ (goDup (c:=iLt 0 (List.length (nSet n):Int)) (s:=setB (nSet n)) (hT _ _ _))
  cases iLt 0 (List.length (nSet n):Int) with
  |false=>rfl
  |true=>exact (congrArg (fun o=>Option.bind o _) (s_set _ h.set)).trans rfl
 ·simp only [Bool.and_assoc]
theorem i_node (n:DNd) (h:NOk n):F41 (n,())=some (B1 (nodeB n)):=by
 unfold F41
 refine (join_and (b:=nameB n.1&&(ledgerB (nBase n)&&(iEq (nBase n).1 n.2.1&&((!iLt 0 (List.length (nSet n):Int)||setB (nSet n))&&poolB (nPool n))))) (bind_eq (i_name _ h.1) (goN (bind_eq (i_ledger (nBase n) h.base) (goN (goN ?_))))) (bind_eq (i_in _ _ _) (andN (bind_eq (i_in _ _ _) (andN (bind_eq (i_in _ _ _) (andN (bind_eq (i_qc _ (nHigh n) h.set.1 h.high) (andN (bind_eq (i_tc _ (nTc n) h.set.1 h.tcs) (andN (noT (b:=iLe (nRound n) (nHigh n).1) (noT (b:=iLe (nRound n) (nTc n).1) (noT (b:=iLt 1000 (List.length (nVotes n):Int)) (noT (b:=iLt 1000 (List.length (nGones n):Int)) (noT (b:=iLt 200 (List.length (nDone n):Int)) (noT (b:=iLt 200 (List.length (nPast n):Int)) (bind_eq (i_tree _ h.tree) (andY (c:=headB (nTree n) n.2.1) ?_))))))))))))))))))).trans ?_
 ·refine Eq.trans ?_ (goDup (c:=iLt 0 (List.length (nSet n):Int)) (s:=setB (nSet n)) (K:=(F124 ((nPool n,()),())).bind fun y=>bif !y.1.1 then some (.inr (B1 false)) else some (.inl ())) (bind_eq (i_pool _ h.pool) goE))
  cases iLt 0 (List.length (nSet n):Int) with
  |false=>rfl
  |true=>exact (congrArg (fun o=>Option.bind o _) (i_set _ h.set)).trans rfl
 ·cases hq:nTree n with
  |nil =>
   have:n.2.2.2.2.2.1=([]:List DBk):=hq
   dsimp only
   rw [this];rfl
  |cons b r =>
   have:n.2.2.2.2.2.1=b::r:=hq
   dsimp only
   rw [this]
   have e:iEq ((List.length (b::r):Nat):Int) 0=false:=by simp [iEq];omega
   rw [e];rfl
 ·unfold nodeB
  have e:∀a b:Int,(!iLe a b)=iLt b a:=fun a b=>by rw [iLe_lt,Bool.not_not]
  have e2:∀a b:Int,(!iLt a b)=iLe b a:=fun a b=>(iLe_lt).symm
  rw [e,e,e2 1000,e2 1000,e2 200,e2 200]
  refine congrArg (fun z=>some (B1 z)) ?_
  generalize nameB n.1=p1
  generalize ledgerB (nBase n)=p2
  generalize iEq (nBase n).1 n.2.1=p3
  generalize poolB (nPool n)=p4
  generalize (!iLt 0 (List.length (nSet n):Int)||setB (nSet n))=p5
  generalize treeB (nTree n)=p6
  generalize headB (nTree n) n.2.1=p7
  generalize inR (nRound n) 1 10000=p8
  generalize iLt (nHigh n).1 (nRound n)=p9
  generalize iLt (nTc n).1 (nRound n)=p10
  generalize inR (nVoted n) 0 10000=p11
  generalize inR (nLed n) 0 10000=p12
  generalize qcB (nSet n) (nHigh n)=p13
  generalize tcB (nSet n) (nTc n)=p14
  generalize iLe (List.length (nVotes n):Int) 1000=p15
  generalize iLe (List.length (nGones n):Int) 1000=p16
  generalize iLe (List.length (nDone n):Int) 200=p17
  generalize iLe (List.length (nPast n):Int) 200=p18
  simp only [Bool.and_comm,Bool.and_left_comm,Bool.and_assoc]
abbrev DMs:Type:=D109
abbrev mBs (m:DMs):List DBk:=m.2.2.2.1
def mQ (m:DMs):DQc:=(m.2.2.2.2.2.2.2.2.2.2.1,(m.2.2.2.2.2.2.2.2.2.2.2.1,(m.2.2.2.2.2.2.2.2.2.2.2.2.1,())))
def mT (m:DMs):DTc:=(m.2.2.2.2.2.2.2.2.2.2.2.2.2.1,(m.2.2.2.2.2.2.2.2.2.2.2.2.2.2.1,(m.2.2.2.2.2.2.2.2.2.2.2.2.2.2.2.1,())))
def mV0 (m:DMs):Bool:=(iEq m.2.2.2.2.1 (0:Int))&&((iEq m.2.2.2.2.2.1 (0:Int))&&(sEq m.2.2.2.2.2.2.1 ⟨#[]⟩))
def mG0 (m:DMs):Bool:=(iEq m.2.2.2.2.2.2.2.1 (0:Int))&&((iEq m.2.2.2.2.2.2.2.2.1 (0:Int))&&(sEq m.2.2.2.2.2.2.2.2.2.1 ⟨#[]⟩))
def mVF (m:DMs):Bool:=inR m.2.2.2.2.1 1 10000&&(inR m.2.2.2.2.2.1 0 100000&&nameB m.2.2.2.2.2.2.1)
def mGF (m:DMs):Bool:=inR m.2.2.2.2.2.2.2.1 1 10000&&(inR m.2.2.2.2.2.2.2.2.1 0 (iSub .i64 m.2.2.2.2.2.2.2.1 1)&&(iEq m.2.2.2.2.2.2.2.2.1 m.2.2.2.2.2.2.2.2.2.2.1&&nameB m.2.2.2.2.2.2.2.2.2.1))
abbrev MOk (m:DMs):Prop:=e109.Ok m
theorem MOk.bs {m:DMs} (h:MOk m):(Ty.sl e154).Ok (mBs m):=h.2.2.2.1
theorem MOk.q {m:DMs} (h:MOk m):QOk (mQ m):=h.2.2.2.2.2.2.2.2.2.2.2.2.1
theorem MOk.t {m:DMs} (h:MOk m):TOk (mT m):=⟨h.2.2.2.2.2.2.2.2.2.2.2.2.2.2.1,h.2.2.2.2.2.2.2.2.2.2.2.2.2.2.2.1.1⟩
def blksB (l:List DBk) (ep:Int):Bool:=l.all (fun b=>blockB b&&iEq b.2.1 ep)
def kindB (k:Int) (n:Int) (v0 g0 vf gf r no:Bool):Bool:=bif iEq k 1 then (iEq n 1&&(v0&&(g0&&(r&&no)))) else bif iEq k 2 then (iEq n 0&&(vf&&(g0&&(r&&no)))) else bif iEq k 3 then (iEq n 0&&(v0&&(gf&&no))) else bif iEq k 4 then (v0&&g0) else false
def msgB (m:DMs):Bool:=nameB m.2.1&&(inR m.2.2.1 0 900&&(qcF (mQ m) 10000 100000&&(tcF (mT m) 10000&&((blksB (mBs m) m.2.2.1&&iLe ((mBs m).length:Int) 400)&&kindB m.1 ((mBs m).length:Int) (mV0 m) (mG0 m) (mVF m) (mGF m) (rootB (mQ m)) (noneB (mT m))))))
theorem msg_same (k:Int) (n:Nat) (p1 p2 al v0 g0 vf gf r q no t:Bool) :
  (p1&&(p2&&(inR k 1 4&&((al&&(iLe (n:Int) (bif iEq k 1 then 1 else bif iEq k 4 then 400 else 0)&&(!iEq k 1||iEq (n:Int) 1)))&&((bif iEq k 2 then vf else v0)&&((bif iEq k 2 then g0 else bif iEq k 3 then gf else g0)&&((r||((iEq k 4||iEq k 3)&&(r||q)))&&(no||(iEq k 4&&(no||t))))))))))
   =(p1&&(p2&&((r||q)&&((no||t)&&((al&&iLe (n:Int) 400)&&kindB k (n:Int) v0 g0 vf gf r no))))):=by
 unfold kindB
 have e1:∀x:Int,iEq x x=true:=iEq_self
 by_cases h1:k=1
 ·subst h1
  have a2:iEq (1:Int) 2=false:=rfl
  have a3:iEq (1:Int) 3=false:=rfl
  have a4:iEq (1:Int) 4=false:=rfl
  have a5:inR 1 1 4=true:=rfl
  rw [a2,a3,a4,a5,e1]
  by_cases hn:n=1
  ·subst hn
   have b1:iLe ((1:Nat):Int) 1=true:=rfl
   have b2:iLe ((1:Nat):Int) 400=true:=rfl
   have b3:iEq ((1:Nat):Int) 1=true:=rfl
   simp only [cond_true,cond_false]
   rw [b1,b2,b3]
   cases p1<;>cases p2<;>cases al<;>cases v0<;>cases g0<;>cases r<;>cases q<;>cases no<;>cases t<;>rfl
  ·have b3:iEq (n:Int) 1=false:=by simp [iEq];omega
   simp only [cond_true,cond_false]
   rw [b3]
   cases p1<;>cases p2<;>cases al<;>cases r<;>cases q<;>cases no<;>cases t<;>simp
 ·have a1:iEq k 1=false:=by simp [iEq,h1]
  rw [a1]
  simp only [cond_false]
  have z:∀m:Nat,iLe (m:Int) 0=iEq (m:Int) 0:=fun m=>by simp [iLe,iEq]
  by_cases h4:k=4
  ·subst h4
   have a2:iEq (4:Int) 2=false:=rfl
   have a3:iEq (4:Int) 3=false:=rfl
   have a5:inR 4 1 4=true:=rfl
   rw [a2,a3,a5,e1]
   simp only [cond_true,cond_false]
   cases p1<;>cases p2<;>cases al<;>cases v0<;>cases g0<;>cases r<;>cases q<;>cases no<;>cases t<;>cases iLe (n:Int) 400<;>rfl
  ·have a4:iEq k 4=false:=by simp [iEq,h4]
   rw [a4]
   simp only [cond_false]
   rw [z]
   by_cases hn:n=0
   ·subst hn
    have b2:iLe ((0:Nat):Int) 400=true:=rfl
    have b3:iEq ((0:Nat):Int) 0=true:=rfl
    rw [b2,b3]
    by_cases h2:k=2
    ·subst h2
     have a3:iEq (2:Int) 3=false:=rfl
     have a5:inR 2 1 4=true:=rfl
     rw [a3,a5,e1]
     simp only [cond_true,cond_false]
     cases p1<;>cases p2<;>cases al<;>cases vf<;>cases g0<;>cases r<;>cases q<;>cases no<;>cases t<;>rfl
    ·have a2:iEq k 2=false:=by simp [iEq,h2]
     rw [a2]
     simp only [cond_false]
     by_cases h3:k=3
     ·subst h3
      have a5:inR 3 1 4=true:=rfl
      rw [a5,e1]
      simp only [cond_true]
      cases p1<;>cases p2<;>cases al<;>cases v0<;>cases gf<;>cases r<;>cases q<;>cases no<;>cases t<;>rfl
     ·have a5:inR k 1 4=false:=by simp [inR,iLe];omega
      have a3:iEq k 3=false:=by simp [iEq,h3]
      rw [a5,a3]
      simp
   ·have b3:iEq (n:Int) 0=false:=by simp [iEq];omega
    rw [b3]
    cases iEq k 2<;>cases iEq k 3<;>simp
theorem BlockL_of {b:DBk} (h:e154.w b≤1048576):BlockL b:=⟨w_ln (w_hd (w_tl (w_tl (w_tl (w_tl (w_tl (w_tl h))))))),w_ln (w_hd (w_tl (w_tl (w_tl (w_tl (w_tl (w_tl (w_tl (w_tl h))))))))),w_ln (w_hd (w_tl (w_tl (w_tl (w_tl (w_tl (w_tl (w_tl (w_tl (w_tl h)))))))))),w_ln (w_hd (w_tl (w_tl (w_tl (w_tl (w_tl (w_tl (w_tl (w_tl (w_tl (w_tl h))))))))))),w_ln (w_hd (w_tl (w_tl (w_tl (w_tl (w_tl (w_tl (w_tl (w_tl (w_tl (w_tl (w_tl (w_tl h)))))))))))))⟩
theorem BlocksL_of {l:List DBk} (h:(Ty.sl e154).w l≤1048576):∀b∈l,BlockL b:=fun b hb=>BlockL_of (w_mem h hb)
theorem ProofL_of {p:DPr} (h:e146.w p≤1048576):ProofL p:=⟨w_ln (w_hd (w_tl h)),BlocksL_of (w_hd (w_tl h)),w_ln (w_hd (w_tl (w_tl (w_tl (w_tl h)))))⟩
def NodeL (n:DNd):Prop:=AcctL (nBase n).2.1∧W1 (nSet n).length∧W1 (nTree n).length∧(∀b∈nTree n,BlockL b)∧W1 (List.length (nHigh n).2.2.1)∧W1 (List.length (nTc n).2.1)∧W1 (List.length (nTc n).2.2.1)∧W1 (List.length (nVotes n))∧W1 (List.length (nGones n))∧W1 (List.length (nDone n))∧W1 (List.length (nPool n))∧W1 (List.length (nPast n))∧∀p∈nPast n,ProofL p
theorem NodeL_of {n:DNd} (h:e52.w n≤1048576):NodeL n:=⟨AcctL_of (w_hd (w_tl (w_tl (w_tl h)))),w_ln (w_hd (w_tl (w_tl (w_tl (w_tl h))))),w_ln (w_hd (w_tl (w_tl (w_tl (w_tl (w_tl h)))))),BlocksL_of (w_hd (w_tl (w_tl (w_tl (w_tl (w_tl h)))))),w_ln (w_hd (w_tl (w_tl (w_tl (w_tl (w_tl (w_tl (w_tl (w_tl (w_tl (w_tl h))))))))))),w_ln (w_hd (w_tl (w_tl (w_tl (w_tl (w_tl (w_tl (w_tl (w_tl (w_tl (w_tl (w_tl (w_tl h))))))))))))),w_ln (w_hd (w_tl (w_tl (w_tl (w_tl (w_tl (w_tl (w_tl (w_tl (w_tl (w_tl (w_tl (w_tl (w_tl h)))))))))))))),w_ln (w_hd (w_tl (w_tl (w_tl (w_tl (w_tl (w_tl (w_tl (w_tl (w_tl (w_tl (w_tl (w_tl (w_tl (w_tl (w_tl h)))))))))))))))),w_ln (w_hd (w_tl (w_tl (w_tl (w_tl (w_tl (w_tl (w_tl (w_tl (w_tl (w_tl (w_tl (w_tl (w_tl (w_tl (w_tl (w_tl h))))))))))))))))),w_ln (w_hd (w_tl (w_tl (w_tl (w_tl (w_tl (w_tl (w_tl (w_tl (w_tl (w_tl (w_tl (w_tl (w_tl (w_tl (w_tl (w_tl (w_tl h)))))))))))))))))),w_ln (w_hd (w_tl (w_tl (w_tl (w_tl (w_tl (w_tl (w_tl (w_tl (w_tl (w_tl (w_tl (w_tl (w_tl (w_tl (w_tl (w_tl (w_tl (w_tl h))))))))))))))))))),w_ln (w_hd (w_tl (w_tl (w_tl (w_tl (w_tl (w_tl (w_tl (w_tl (w_tl (w_tl (w_tl (w_tl (w_tl (w_tl (w_tl (w_tl (w_tl (w_tl (w_tl h)))))))))))))))))))),fun p hp=>ProofL_of (w_mem (w_hd (w_tl (w_tl (w_tl (w_tl (w_tl (w_tl (w_tl (w_tl (w_tl (w_tl (w_tl (w_tl (w_tl (w_tl (w_tl (w_tl (w_tl (w_tl (w_tl h)))))))))))))))))))) hp)⟩
theorem s_cnode (n:DNd) (h:NodeL n):F27 (n,())=some (n,()):=by
 obtain ⟨h1,h2,h3,h4,h5,h6,h7,h8,h9,h10,h11,h12,h13⟩:=h
 have lp:=loopCopy (S:=Int×(List DPr×Unit)) (nPast n) (f:=F27.b0 (n,())) (fun a k=>(k,(a,()))) (Sum.inl (((nPast n).length:Int),(nPast n,()))) (fun i hi=>?_) ?_
 ·unfold F27
  exact bind_eq (s_cledger (nBase n) h1) (room_then h2 (by decide) (by decide) (bind_eq (s_cblks _ h3 h4) (bind_eq (s_cqc (nHigh n) h5) (bind_eq (s_ctc (nTc n) h6 h7) (room_then h8 (by decide) (by decide) (room_then h9 (by decide) (by decide) (room_then h10 (by decide) (by decide) (room_then h11 (by decide) (by decide) (bind_eq lp rfl)))))))))
 ·unfold F27.b0
  refine lt_then (Int.ofNat_lt.2 hi) (bind_eq (getI_lt hi) (bind_eq (s_cproof _ (h13 _ (List.getElem_mem hi))) (room_one hi h12 (by decide) (by decide) ?_)))
  rw [←nxt hi h12.l];rfl
 ·unfold F27.b0
  exact lt_else (Int.le_refl _) rfl
theorem i_cnode (n:DNd) (h:NodeL n):F40 (n,())=some (n,()):=by
 obtain ⟨h1,h2,h3,h4,h5,h6,h7,h8,h9,h10,h11,h12,h13⟩:=h
 have lp:=loopCopy (S:=Int×(List DPr×Unit)) (nPast n) (f:=F40.b0 (n,())) (fun a k=>(k,(a,()))) (Sum.inl (((nPast n).length:Int),(nPast n,()))) (fun i hi=>?_) ?_
 ·unfold F40
  exact bind_eq (i_cledger (nBase n) h1) (bind_eq (i_clV _ h2) (bind_eq (i_cblks _ h3 h4) (bind_eq (i_cqc (nHigh n) h5) (bind_eq (i_ctc (nTc n) h6 h7) (bind_eq (i_clVo _ h8) (bind_eq (i_clGo _ h9) (bind_eq (i_clI _ h10) (bind_eq (i_clT _ h11) (bind_eq lp rfl)))))))))
 ·unfold F40.b0
  refine lt_then (Int.ofNat_lt.2 hi) (bind_eq (getI_lt hi) (bind_eq (i_cproof _ (h13 _ (List.getElem_mem hi))) (room_one hi h12 (by decide) (by decide) ?_)))
  rw [←nxt hi h12.l];rfl
 ·unfold F40.b0
  exact lt_else (Int.le_refl _) rfl
theorem bl_tr:∀{x y z:List UInt8},Op.bytesLess x y=true→Op.bytesLess y z=true→Op.bytesLess x z=true
 |x,[],_,h,_=>by cases x<;>simp [Op.bytesLess] at h
 |_,b::y,[],_,h=>by simp [Op.bytesLess] at h
 | [],_::_,_::_,_,_=>rfl
 |a::x,b::y,c::z,h1,h2=>by
  simp only [Op.bytesLess,Bool.or_eq_true,Bool.and_eq_true,decide_eq_true_eq,beq_iff_eq] at h1 h2 ⊢
  rcases h1 with h1|⟨rfl,h1⟩
  ·rcases h2 with h2|⟨rfl,h2⟩
   ·exact .inl (UInt8.lt_trans h1 h2)
   ·exact .inl h1
  ·rcases h2 with h2|⟨rfl,h2⟩
   ·exact .inl h2
   ·exact .inr ⟨rfl,bl_tr h1 h2⟩
structure Ord3 {A:Type} (lt eq:A→A→Bool):Prop where
 refl:∀a,eq a a=true
 symm:∀a b,eq a b=true→eq b a=true
 etr:∀a b c,eq a b=true→eq b c=true→eq a c=true
 lte:∀a b c,lt a b=true→eq b c=true→lt a c=true
 elt:∀a b c,eq a b=true→lt b c=true→lt a c=true
 tr:∀a b c,lt a b=true→lt b c=true→lt a c=true
 irr:∀a b,lt a b=true→eq a b=false
 tot:∀a b,lt a b=false→eq a b=false→lt b a=true
theorem ord_int:Ord3 iLt iEq where
 refl a:=iEq_self a
 symm a b h:=by simp only [iEq,decide_eq_true_eq] at *;omega
 etr a b c h k:=by simp only [iEq,decide_eq_true_eq] at *;omega
 lte a b c h k:=by simp only [iEq,iLt,decide_eq_true_eq] at *;omega
 elt a b c h k:=by simp only [iEq,iLt,decide_eq_true_eq] at *;omega
 tr a b c h k:=by simp only [iLt,decide_eq_true_eq] at *;omega
 irr a b h:=by simp only [iEq,iLt,decide_eq_true_eq,decide_eq_false_iff_not] at *;omega
 tot a b h k:=by simp only [iEq,iLt,decide_eq_true_eq,decide_eq_false_iff_not] at *;omega
theorem sEq_list {a b:ByteArray}:sEq a b=true↔a.toList=b.toList:=by unfold sEq;simp
theorem ord_str:Ord3 sLt sEq where
 refl a:=sEq_self a
 symm a b h:=sEq_list.2 (sEq_list.1 h).symm
 etr a b c h k:=sEq_list.2 ((sEq_list.1 h).trans (sEq_list.1 k))
 lte a b c h k:=by unfold sLt at *;rw [←sEq_list.1 k];exact h
 elt a b c h k:=by unfold sLt at *;rw [sEq_list.1 h];exact k
 tr a b c h k:=bl_tr h k
 irr a b h:=by
  cases hq:sEq a b with
  |false=>rfl
  |true=>rw [sLt_eq hq] at h;cases h
 tot a b h k:=by
  have:=sLt_tri a b
  rw [h,k] at this
  cases hx:sLt b a with
  |true=>rfl
  |false=>rw [hx] at this;cases this
theorem Ord3.comap {A B:Type} {lt eq:B→B→Bool} (h:Ord3 lt eq) (f:A→B):Ord3 (fun a b=>lt (f a) (f b)) (fun a b=>eq (f a) (f b)) :=
 ⟨fun a=>h.refl _,fun a b=>h.symm _ _,fun a b c=>h.etr _ _ _,fun a b c=>h.lte _ _ _,fun a b c=>h.elt _ _ _,fun a b c=>h.tr _ _ _,fun a b=>h.irr _ _,fun a b=>h.tot _ _⟩
theorem lx {e x y:Bool}:(bif !e then x else y)=true↔(e=false∧x=true)∨(e=true∧y=true):=by cases e<;>simp
theorem lx0 {e x y:Bool}:(bif !e then x else y)=false↔(e=false∧x=false)∨(e=true∧y=false):=by cases e<;>simp
theorem Ord3.lex {A:Type} {l1 e1 l2 e2:A→A→Bool} (h:Ord3 l1 e1) (k:Ord3 l2 e2):Ord3 (fun a b=>bif !e1 a b then l1 a b else l2 a b) (fun a b=>e1 a b&&e2 a b) where
 refl a:=by rw [h.refl,k.refl];rfl
 symm a b q:=by
  simp only [Bool.and_eq_true] at q ⊢
  exact ⟨h.symm _ _ q.1,k.symm _ _ q.2⟩
 etr a b c q r:=by
  simp only [Bool.and_eq_true] at q r ⊢
  exact ⟨h.etr _ _ _ q.1 r.1,k.etr _ _ _ q.2 r.2⟩
 lte a b c q r:=by
  simp only [Bool.and_eq_true] at r
  rcases lx.1 q with ⟨u,v⟩|⟨u,v⟩
  ·have:=h.lte _ _ _ v r.1
   exact lx.2 (.inl ⟨h.irr _ _ this,this⟩)
  ·exact lx.2 (.inr ⟨h.etr _ _ _ u r.1,k.lte _ _ _ v r.2⟩)
 elt a b c q r:=by
  simp only [Bool.and_eq_true] at q
  rcases lx.1 r with ⟨u,v⟩|⟨u,v⟩
  ·have:=h.elt _ _ _ q.1 v
   exact lx.2 (.inl ⟨h.irr _ _ this,this⟩)
  ·exact lx.2 (.inr ⟨h.etr _ _ _ q.1 u,k.elt _ _ _ q.2 v⟩)
 tr a b c q r:=by
  rcases lx.1 q with ⟨u,v⟩|⟨u,v⟩
  ·rcases lx.1 r with ⟨u2,v2⟩|⟨u2,v2⟩
   ·have:=h.tr _ _ _ v v2
    exact lx.2 (.inl ⟨h.irr _ _ this,this⟩)
   ·have:=h.lte _ _ _ v u2
    exact lx.2 (.inl ⟨h.irr _ _ this,this⟩)
  ·rcases lx.1 r with ⟨u2,v2⟩|⟨u2,v2⟩
   ·have:=h.elt _ _ _ u v2
    exact lx.2 (.inl ⟨h.irr _ _ this,this⟩)
   ·exact lx.2 (.inr ⟨h.etr _ _ _ u u2,k.tr _ _ _ v v2⟩)
 irr a b q:=by
  rcases lx.1 q with ⟨u,v⟩|⟨u,v⟩
  ·rw [u];rfl
  ·rw [k.irr _ _ v,Bool.and_false]
 tot a b q r:=by
  rcases lx0.1 q with ⟨u,v⟩|⟨u,v⟩
  ·have:=h.tot _ _ v u
   exact lx.2 (.inl ⟨h.irr _ _ this,this⟩)
  ·rw [u,Bool.true_and] at r
   exact lx.2 (.inr ⟨h.symm _ _ u,k.tot _ _ v r⟩)
theorem placeE {A:Type} (p:A→Bool):∀l:List A,∃K,K≤l.length∧(∀i (h:i<l.length),i<K→p l[i]=true)∧(∀h:K<l.length,p l[K]=false)
 | []=>⟨0,Nat.le_refl _,fun i h=>absurd h (Nat.not_lt_zero _),fun h=>absurd h (Nat.not_lt_zero _)⟩
 |y::r=>by
  cases hp:p y with
  |false=>exact ⟨0,Nat.zero_le _,fun i _ h=>absurd h (Nat.not_lt_zero _),fun _=>hp⟩
  |true =>
   obtain ⟨K,h1,h2,h3⟩:=placeE p r
   refine ⟨K+1,by simpa using h1,fun i h hi=>?_,fun h=>h3 (by simpa using h)⟩
   cases i with
   |zero=>exact hp
   |succ i=>exact h2 i (by simpa using h) (by omega)
theorem loopWhile {S E A:Type} (xs:List A) (q:A→Bool) {f:S→Option (Sum S E)} (mk:Int→S) (R:Int→E) (hstep:∀i (h:i<xs.length),f (mk (i:Int))=bif q xs[i] then some (.inl (mk ((i+1:Nat):Int))) else some (.inr (R (i:Int)))) (hend:f (mk (xs.length:Int))=some (.inr (R (xs.length:Int))))
  {p:Nat} (hp:p≤xs.length) (h1:∀i (h:i<xs.length),i<p→q xs[i]=true) (h2:∀h:p<xs.length,q xs[p]=false):loopF f (mk 0)=some (R (p:Int)) :=
 loopF_trace (fun i=>mk (i:Int)) p (fun i hi=>by rw [hstep i (Nat.lt_of_lt_of_le hi hp),h1 i (Nat.lt_of_lt_of_le hi hp) hi];rfl) (by
  rcases Nat.lt_or_ge p xs.length with h|h
  ·rw [hstep p h,h2 h];rfl
  ·have:p=xs.length:=Nat.le_antisymm hp h
   subst this;exact hend)
def Asc {A:Type} (lt:A→A→Bool) (l:List A):Prop:=∀i j (hi:i<l.length) (hj:j<l.length),i<j→lt l[i] l[j]=true
theorem asc_of {A:Type} {lt:A→A→Bool} (tr:∀a b c,lt a b=true→lt b c=true→lt a c=true) {l:List A} (h:∀i (hi:i<l.length),behind lt l i l[i]=true):Asc lt l:=by
 have key:∀d i (hi:i<l.length) (hj:i+1+d<l.length),lt l[i] l[i+1+d]=true:=by
  intro d
  induction d with
  |zero =>
   intro i hi hj
   have:=h (i+1) hj
   rwa [behind_succ hi] at this
  |succ d ih =>
   intro i hi hj
   have h1:=h (i+1+d+1) hj
   rw [behind_succ (by omega)] at h1
   exact tr _ _ _ (ih i hi (by omega)) h1
 intro i j hi hj hij
 have h1:=key (j - (i+1)) i hi (by omega)
 have h2:i+1+(j - (i+1))=j:=by omega
 simp only [h2] at h1
 exact h1
def accAt (l:List D207) (s:ByteArray):Int:=idxOf l (fun a=>sEq a.1 s)
theorem s_acctAt (l:List D207) (s:ByteArray) (hl:L63 l.length):F232 ((l,()),((s,()),()))=some (I1 (accAt l s)):=by
 have lp:=loopIdx (S:=Int×Unit) l (fun a=>sEq a.1 s) (f:=F232.b0 ((l,()),((s,()),()))) (fun k=>(k,())) (Sum.inl ((l.length:Int),())) (fun i=>Sum.inr (I1 i)) (fun i hi=>?_) ?_
 ·unfold F232 accAt
  refine bind_eq lp ?_
  rcases idxOf_cases l (fun a=>sEq a.1 s) with ⟨h1,_,h3⟩|⟨j,hj,_,_,h1,_,h3⟩<;>rw [h1,h3]<;>rfl
 ·unfold F232.b0
  refine lt_then (Int.ofNat_lt.2 hi) (bind_eq (getI_lt hi) ?_)
  rw [←nxt hi hl]
 ·unfold F232.b0
  exact lt_else (Int.le_refl _) rfl
theorem idxFunc_acct (l:List D207) (g:D207→Option (Bool×Unit)) (p:D207→Bool) (hg:∀x,g x=some (p x,())) (hl:L63 l.length):F246 ((l,()),((g,()),()))=some (I1 (idxOf l p)):=by
 have lp:=loopIdx (S:=Int×Unit) l p (f:=F246.b0 ((l,()),((g,()),()))) (fun k=>(k,())) (Sum.inl ((l.length:Int),())) (fun i=>Sum.inr (I1 i)) (fun i hi=>?_) ?_
 ·unfold F246
  refine bind_eq lp ?_
  rcases idxOf_cases l p with ⟨h1,_,h3⟩|⟨j,hj,_,_,h1,_,h3⟩<;>rw [h1,h3]<;>rfl
 ·unfold F246.b0
  refine lt_then (Int.ofNat_lt.2 hi) (bind_eq (getI_lt hi) (bind_eq (hg _) ?_))
  rw [←nxt hi hl]
 ·unfold F246.b0
  exact lt_else (Int.le_refl _) rfl
theorem i_acctAt (l:List D207) (s:ByteArray) (hl:L63 l.length):F241 ((l,()),((s,()),()))=some (I1 (accAt l s)):=by
 unfold F241
 exact bind_eq (idxFunc_acct l _ (fun a=>sEq a.1 s) (fun x=>rfl) hl) rfl
def leaveIn (n at':Int):List D229→List D229
 | []=> [(n,(at',()))]
 |x::r=>bif iEq x.2.1 at' then (iAdd .i64 x.1 n,(x.2.1,()))::r else bif iLt at' x.2.1 then (n,(at',()))::x::r else x::leaveIn n at' r
def leaveStep (n at':Int) (s:List D229×Bool) (x:D229):List D229×Bool :=
 bif s.2 then (s.1++ [x],true) else bif iEq x.2.1 at' then (s.1++ [(iAdd .i64 x.1 n,(x.2.1,()))],true) else bif iLt at' x.2.1 then (s.1++ [(n,(at',()))]++ [x],true) else (s.1++ [x],false)
def leaveEnd (n at':Int) (s:List D229×Bool):List D229:=bif s.2 then s.1 else s.1++ [(n,(at',()))]
theorem leave_put (n at':Int):∀(xs a:List D229),leaveEnd n at' (xs.foldl (leaveStep n at') (a,true))=a++xs
 | [],a=>by simp [leaveEnd]
 |x::r,a=>by
  have:=leave_put n at' r (a++ [x])
  simpa [leaveStep] using this
theorem leave_fold (n at':Int):∀(xs a:List D229),leaveEnd n at' (xs.foldl (leaveStep n at') (a,false))=a++leaveIn n at' xs
 | [],a=>rfl
 |x::r,a=>by
  simp only [List.foldl_cons,leaveIn]
  unfold leaveStep
  cases h1:iEq x.2.1 at' with
  |true=>exact (leave_put n at' r _).trans (by simp)
  |false =>
   cases h2:iLt at' x.2.1 with
   |true=>exact (leave_put n at' r _).trans (by simp)
   |false=>exact (leave_fold n at' r _).trans (by simp)
theorem s_leave (xs:List D229) (n at':Int) (hl:xs.length≤4):F249 ((xs,()),((n,()),((at',()),())))=some ((leaveIn n at' xs,()),()):=by
 have hl63:L63 xs.length:=by unfold L63;omega
 have lp:=(loopFold (S:=List D229×(Bool×(Int×Unit))) xs (leaveStep n at') (fun i s=>s.1.length≤2*i) (f:=F249.b0 ((xs,()),((n,()),((at',()),())))) (fun s k=>(s.1,(s.2,(k,())))) (fun s=>Sum.inl (s.1,(s.2,((xs.length:Int),())))) ([],false) (Nat.le_refl _) (fun i hi s hI=>?_) (fun s _=>?_))
 ·unfold F249
  refine bind_eq lp.1 ?_
  have hlen:=lp.2
  have hf:=leave_fold n at' xs []
  rw [List.nil_append] at hf
  rw [←hf]
  unfold leaveEnd
  revert hlen
  cases (xs.foldl (leaveStep n at') ([],false)) with
  |mk a b =>
   intro hlen
   cases b with
   |true=>rfl
   |false =>
    have:room (a.length+1) 16=true:=room_ok (by simp only at hlen;omega) (by decide) (by decide)
    simp only [Sum.elim_inl,List.length_singleton,this]
    rfl
 ·obtain ⟨a,b⟩:=s
  simp only at hI
  refine ⟨?_,?_⟩
  ·unfold F249.b0
   refine lt_then (Int.ofNat_lt.2 hi) (bind_eq (getI_lt hi) ?_)
   have r1:room (a.length+1) 16=true:=room_ok (by omega) (by decide) (by decide)
   have r2:room (a.length+1+1) 16=true:=room_ok (by omega) (by decide) (by decide)
   unfold leaveStep
   rw [←nxt hi hl63]
   cases b with
   |true =>
    show (bif room (a.length+1) 16 then _ else none)=_
    rw [r1];rfl
   |false =>
    cases h1:iEq xs[i].2.1 at' with
    |true =>
     simp only [h1]
     show (bif room (a.length+1) 16 then _ else none)=_
     rw [r1];rfl
    |false =>
     cases h2:iLt at' xs[i].2.1 with
     |true =>
      simp only [h1,h2,List.length_singleton,r1]
      show (bif room ((a++ [(n,(at',()))]).length+1) 16 then _ else none)=_
      rw [List.length_append,List.length_singleton,r2];rfl
     |false =>
      simp only [h1,h2]
      show (bif room (a.length+1) 16 then _ else none)=_
      rw [r1];rfl
  ·unfold leaveStep
   cases b with
   |true=>simp only [cond_true,List.length_append,List.length_singleton];omega
   |false =>
    simp only [cond_false]
    cases h1:iEq xs[i].2.1 at' with
    |true=>simp only [cond_true,List.length_append,List.length_singleton];omega
    |false =>
     simp only [cond_false]
     cases h2:iLt at' xs[i].2.1<;>simp only [cond_true,cond_false,List.length_append,List.length_singleton]<;>omega
 ·unfold F249.b0
  exact lt_else (Int.le_refl _) rfl
def hole {A:Type} (l:List A) (k:Nat) (y:A):List A:=l.take k++y::l.drop k
theorem hole_len {A:Type} {l:List A} {k:Nat} {y:A} (h:k≤l.length):(hole l k y).length=l.length+1:=by
 unfold hole;rw [List.length_append,List.length_cons,List.length_take,List.length_drop];omega
theorem hole_set {A:Type} {l:List A} {k:Nat} {y z:A} (h:k≤l.length):List.set (hole l k y) k z=hole l k z:=by
 unfold hole
 rw [List.set_append_right _ _ (by rw [List.length_take];omega)]
 have:k - (l.take k).length=0:=by rw [List.length_take];omega
 rw [this,List.set_cons_zero]
theorem hole_at {A:Type} {l:List A} {k:Nat} {y:A} (h:k≤l.length):(hole l k y)[k]?=some y:=by
 unfold hole
 rw [List.getElem?_append_right (by rw [List.length_take];omega)]
 have:k - (l.take k).length=0:=by rw [List.length_take];omega
 rw [this,List.getElem?_cons_zero]
theorem hole_lo {A:Type} {l:List A} {k i:Nat} {y:A} (h:k≤l.length) (hi:i<k):(hole l k y)[i]?=l[i]?:=by
 unfold hole
 rw [List.getElem?_append_left (by rw [List.length_take];omega),List.getElem?_take_of_lt hi]
theorem hole_down {A:Type} {l:List A} {k:Nat} (h:k<l.length):hole l (k+1) l[k]=hole l k l[k]:=by
 unfold hole
 rw [List.take_succ_eq_append_getElem h,List.drop_eq_getElem_cons h,List.append_assoc];rfl
theorem hole_end {A:Type} {l:List A} {y:A}:hole l l.length y=l++ [y]:=by
 unfold hole;rw [List.take_length,List.drop_length]
theorem getI_of {A:Type} {l:List A} {k:Nat} {x:A} (h:l[k]?=some x):getI l (k:Int)=some x:=by
 obtain ⟨hk,rfl⟩:=List.getElem?_eq_some_iff.1 h
 exact getI_lt hk
theorem getN_of {A:Type} {l:List A} {k:Nat} {x:A} (h:l[k]?=some x):getN l (Int.toNat (k:Int))=some x:=h
theorem thenT {A:Type} {b:Bool} {t e r:A} (h:b=true) (h2:t=r):(bif b then t else e)=r:=by rw [h];exact h2
theorem st2 {A B F:Type} {a a':A} {b b':B} (h1:a=a') (h2:b=b'):(some (Sum.inl (a,(b,()))):Option (Sum (A×(B×Unit)) F))=some (Sum.inl (a',(b',()))):=by rw [h1,h2]
theorem ins_one (es:Tys) (bts:Nat) (xs:List es.D) (y:es.D) (p:Nat) (hp:p≤xs.length) (hr:room (xs.length+1) bts=true):insF es bts ((xs,()),(((p:Int),()),(([y],()),())))=some ((hole xs p y,()),()):=by
 unfold insF
 have h1:iLe 0 (p:Int)=true:=by simp [iLe]
 have h2:iLe (p:Int) (xs.length:Int)=true:=by simp only [iLe,decide_eq_true_eq];omega
 show (bif iLe 0 (p:Int)&&(iLe (p:Int) (xs.length:Int)&&room (xs.length+1) bts) then _ else none)=_
 rw [h1,h2,hr];rfl
theorem lt_not {a b:Int} (h:iLt a b=true):iEq a b=false∧iLt b a=false:=by
 simp only [iLt,iEq,decide_eq_true_eq,decide_eq_false_iff_not] at *;omega
theorem leave_hit (n at':Int):∀(xs:List D229) (p:Nat) (hp:p<xs.length),(∀i (h:i<xs.length),i<p→iLt xs[i].2.1 at'=true)→iEq xs[p].2.1 at'=true→leaveIn n at' xs=xs.set p (iAdd .i64 xs[p].1 n,xs[p].2)
 |x::r,0,_,_,h=>by simp only [leaveIn,List.getElem_cons_zero] at h ⊢;rw [h];rfl
 |x::r,p+1,hp,hb,h=>by
  have h0:=lt_not (hb 0 (by simp) (by omega))
  simp only [List.getElem_cons_zero] at h0
  have ih:=leave_hit n at' r p (by simpa using hp) (fun i hi hip=>hb (i+1) (Nat.succ_lt_succ hi) (Nat.succ_lt_succ hip)) (by simpa using h)
  simp only [leaveIn,h0.1,h0.2,cond_false,List.set_cons_succ,List.getElem_cons_succ,ih]
theorem leave_new (n at':Int):∀(xs:List D229) (p:Nat) (_:p≤xs.length),(∀i (h:i<xs.length),i<p→iLt xs[i].2.1 at'=true)→(∀h:p<xs.length,iLt at' xs[p].2.1=true)→leaveIn n at' xs=hole xs p (n,(at',()))
 | [],0,_,_,_=>rfl
 |x::r,0,_,_,h=>by
  have h0:=h (by simp)
  simp only [List.getElem_cons_zero] at h0
  have:iEq x.2.1 at'=false:=by
   have:=(lt_not h0).1
   simp only [iEq,decide_eq_false_iff_not] at this ⊢;omega
  simp only [leaveIn,this,h0,cond_false,cond_true];rfl
 |x::r,p+1,hp,hb,h=>by
  have h0:=lt_not (hb 0 (by simp) (by omega))
  simp only [List.getElem_cons_zero] at h0
  have ih:=leave_new n at' r p (by simpa using hp) (fun i hi hip=>hb (i+1) (Nat.succ_lt_succ hi) (Nat.succ_lt_succ hip)) (fun hh=>h (Nat.succ_lt_succ hh))
  simp only [leaveIn,h0.1,h0.2,cond_false,ih];rfl
theorem i_leaves (nm:ByteArray) (fr no st:Int) (xs:List D229) (n at':Int) (hl:xs.length≤4) (hs:Asc (fun z y=>iLt z.2.1 y.2.1) xs) :
  F253 ((nm,(fr,(no,(st,(xs,()))))),((n,()),((at',()),())))=some ((nm,(fr,(no,(st,(leaveIn n at' xs,()))))),()):=by
 have hl63:L63 xs.length:=by unfold L63;omega
 obtain ⟨p,hp,h1,h2⟩:=placeE (fun x=>iLt x.2.1 at') xs
 have step:∀i (hi:i<xs.length),iEq xs[i].2.1 at'=false→F253.b0 ((nm,(fr,(no,(st,(xs,()))))),((n,()),((at',()),()))) ((i:Int),())=some (.inl (((i+1:Nat):Int),())):=fun i hi he=>by
  unfold F253.b0
  exact lt_then (Int.ofNat_lt.2 hi) (bind_eq (getI_lt hi) (bind_eq (getN_nat hi) (no_then he (st1 (nxt hi hl63)))))
 unfold F253
 by_cases hh:∃h:p<xs.length,iEq xs[p].2.1 at'=true
 ·obtain ⟨hpl,he⟩:=hh
  have lp:=loopF_trace (f:=F253.b0 ((nm,(fr,(no,(st,(xs,()))))),((n,()),((at',()),())))) (fun i=>((i:Int),())) p (e:=Sum.inr ((nm,(fr,(no,(st,(xs.set p (iAdd .i64 xs[p].1 n,xs[p].2),()))))),())) (fun i hi=>step i (by omega) (lt_not (h1 i (by omega) hi)).1) (by
   unfold F253.b0
   exact lt_then (Int.ofNat_lt.2 hpl) (bind_eq (getI_lt hpl) (bind_eq (getN_nat hpl) (thenT he (bind_eq (getI_lt hpl) (bind_eq (getN_nat hpl) (bind_eq (getI_lt hpl) (bind_eq (getN_nat hpl) rfl))))))))
  rw [leave_hit n at' xs p hpl h1 he]
  exact bind_eq lp rfl
 ·have hgt:∀i (hi:i<xs.length),p≤i→iLt at' xs[i].2.1=true:=fun i hi hpi=>by
   have hpl:p<xs.length:=by omega
   have e1:iEq xs[p].2.1 at'=false:=by
    cases hq:iEq xs[p].2.1 at' with
    |false=>rfl
    |true=>exact absurd ⟨hpl,hq⟩ hh
   have e2:=h2 hpl
   have e3:p=i∨iLt xs[p].2.1 xs[i].2.1=true:=by
    rcases Nat.lt_or_ge p i with h|h
    ·exact .inr (hs p i hpl hi h)
    ·exact .inl (by omega)
   rcases e3 with rfl|e3
   ·simp only [iLt,iEq,decide_eq_true_eq,decide_eq_false_iff_not] at *;omega
   ·simp only [iLt,iEq,decide_eq_true_eq,decide_eq_false_iff_not] at *;omega
  have hne:∀i (hi:i<xs.length),iEq xs[i].2.1 at'=false:=fun i hi=>by
   rcases Nat.lt_or_ge i p with h|h
   ·exact (lt_not (h1 i hi h)).1
   ·have:=hgt i hi h
    simp only [iLt,iEq,decide_eq_true_eq,decide_eq_false_iff_not] at *;omega
  have lp:=loopF_trace (f:=F253.b0 ((nm,(fr,(no,(st,(xs,()))))),((n,()),((at',()),())))) (fun i=>((i:Int),())) xs.length (e:=Sum.inl ((xs.length:Int),())) (fun i hi=>step i hi (hne i hi)) (by
   unfold F253.b0
   exact lt_else (Int.le_refl _) rfl)
  have lp2:=loopWhile (S:=Int×Unit) xs (fun x=>iLt x.2.1 at') (f:=F253.b1 ((nm,(fr,(no,(st,(xs,()))))),((n,()),((at',()),())))) (fun k=>(k,())) (fun k=>Sum.inl (k,())) (fun i hi=>by
   unfold F253.b1
   refine lt_then (Int.ofNat_lt.2 hi) (bind_eq (getI_lt hi) (bind_eq (getN_nat hi) ?_))
   rw [←nxt hi hl63]) (by
   unfold F253.b1
   exact lt_else (Int.le_refl _) rfl) hp h1 h2
  have hr:room (xs.length+1) 16=true:=room_ok (by omega) (by decide) (by decide)
  rw [leave_new n at' xs p hp h1 (fun h=>hgt p h (Nat.le_refl _))]
  refine bind_eq lp (bind_eq lp2 (bind_eq (y:=((hole xs p (n,(at',())),()),())) ?_ rfl))
  unfold F255
  exact ins_one e229 16 xs (n,(at',())) p hp hr
def newA (s:ByteArray) (n:Int):D207:=(s,(n,(0,(0,([],())))))
theorem s_withHas (l:List D207) (s:ByteArray) (h:AcctL l) (ha:l.any (fun a=>sEq a.1 s)=true):F248 ((l,()),((s,()),()))=some ((l,()),()):=by
 unfold F248
 exact bind_eq (s_caccts l h) (bind_eq (s_acctAt l s h.1.l) (thenT (idxOf_any.trans ha) rfl))
theorem s_withNew (l:List D207) (s:ByteArray) (h:AcctL l) (ha:l.any (fun a=>sEq a.1 s)=false) (p:Nat) (hp:p≤l.length) (h1:∀i (hi:i<l.length),i<p→sLt l[i].1 s=true) (h2:∀i (hi:i<l.length),p≤i→(!(sLt l[i].1 s||sEq l[i].1 s))=true) :
  F248 ((l,()),((s,()),()))=some ((hole l p (newA s 0),()),()):=by
 have hl63:L63 (l.length+1):=by have:=h.1;unfold L63;unfold W1 at this;omega
 let st:Nat→Int×(List D207×Unit):=fun k=>((k:Int),(hole l k ((l[k]?).getD (newA ⟨#[]⟩ 0)),()))
 have step:∀k (hk:k<l.length),p≤k→F248.b0 ((l,()),((s,()),())) (st (k+1))=some (.inl (st k)):=fun k hk hpk=>by
  have e:iSub .i64 ((k+1:Nat):Int) 1=(k:Int):=sub1 (n:=k+1) (by omega) (by unfold L63 at *;omega)
  have g:(hole l (k+1) ((l[k+1]?).getD (newA ⟨#[]⟩ 0)))[k]?=some l[k]:=by rw [hole_lo (by omega) (by omega),List.getElem?_eq_getElem hk]
  have gi:getI (hole l (k+1) ((l[k+1]?).getD (newA ⟨#[]⟩ 0))) (iSub .i64 ((k+1:Nat):Int) 1)=some l[k]:=by rw [e];exact getI_of g
  have gn:getN (hole l (k+1) ((l[k+1]?).getD (newA ⟨#[]⟩ 0))) (Int.toNat (iSub .i64 ((k+1:Nat):Int) 1))=some l[k]:=by rw [e];exact getN_of g
  have ga:=hole_at (l:=l) (k:=k+1) (y:=(l[k+1]?).getD (newA ⟨#[]⟩ 0)) (by omega)
  unfold F248.b0
  refine lt_then (by show (0:Int)<((k+1:Nat):Int);omega) (bind_eq gi (bind_eq gn (thenT (h2 k hk hpk) (bind_eq gi (bind_eq gn (bind_eq (getI_of ga) (bind_eq (getN_of ga) (bind_eq rfl (st2 e ?_)))))))))
  show List.set (hole l (k+1) ((l[k+1]?).getD (newA ⟨#[]⟩ 0))) (k+1) l[k]=hole l k ((l[k]?).getD (newA ⟨#[]⟩ 0))
  rw [hole_set (by omega),hole_down hk,List.getElem?_eq_getElem hk];rfl
 have fin:F248.b0 ((l,()),((s,()),())) (st p)=some (.inr (.inl (st p))):=by
  cases p with
  |zero=>unfold F248.b0;exact lt_else (Int.le_refl _) rfl
  |succ k =>
   have hk:k<l.length:=by omega
   have e:iSub .i64 ((k+1:Nat):Int) 1=(k:Int):=sub1 (n:=k+1) (by omega) (by unfold L63 at *;omega)
   have g:(hole l (k+1) ((l[k+1]?).getD (newA ⟨#[]⟩ 0)))[k]?=some l[k]:=by rw [hole_lo (by omega) (by omega),List.getElem?_eq_getElem hk]
   have gi:getI (hole l (k+1) ((l[k+1]?).getD (newA ⟨#[]⟩ 0))) (iSub .i64 ((k+1:Nat):Int) 1)=some l[k]:=by rw [e];exact getI_of g
   have gn:getN (hole l (k+1) ((l[k+1]?).getD (newA ⟨#[]⟩ 0))) (Int.toNat (iSub .i64 ((k+1:Nat):Int) 1))=some l[k]:=by rw [e];exact getN_of g
   unfold F248.b0
   exact lt_then (by show (0:Int)<((k+1:Nat):Int);omega) (bind_eq gi (bind_eq gn (no_then (by rw [h1 k hk (by omega)];rfl) rfl)))
 have lp:=loopF_trace (f:=F248.b0 ((l,()),((s,()),()))) (fun i=>st (l.length - i)) (l.length - p) (e:=Sum.inl (st p)) (fun i hi=>by
  have:=step (l.length - i - 1) (by omega) (by omega)
  rw [show l.length - i - 1+1=l.length - i by omega] at this
  rw [this,show l.length - (i+1)=l.length - i - 1 by omega]) (by
  rw [show l.length - (l.length - p)=p by omega];exact fin)
 have h0:(iSub .i64 (List.length (lapp l [newA ⟨#[]⟩ 0]):Int) 1,(lapp l [newA ⟨#[]⟩ 0],()))=st (l.length - 0):=by
  have e:iSub .i64 ((l.length+1:Nat):Int) 1=(l.length:Int):=sub1 (n:=l.length+1) (by omega) hl63
  have e2:lapp l [newA ⟨#[]⟩ 0]=l++ [newA ⟨#[]⟩ 0]:=rfl
  rw [e2,List.length_append,List.length_singleton,e]
  show _=((l.length:Int),(hole l l.length ((l[l.length]?).getD (newA ⟨#[]⟩ 0)),()))
  rw [List.getElem?_eq_none (Nat.le_refl _),hole_end];rfl
 have lp2:loopF (F248.b0 ((l,()),((s,()),()))) (iSub .i64 (List.length (lapp l [newA ⟨#[]⟩ 0]):Int) 1,(lapp l [newA ⟨#[]⟩ 0],()))=some (Sum.inl (st p)):=by rw [h0];exact lp
 have ga:=hole_at (l:=l) (k:=p) (y:=(l[p]?).getD (newA ⟨#[]⟩ 0)) hp
 unfold F248
 refine bind_eq (s_caccts l h) (bind_eq (s_acctAt l s h.1.l) (no_then (idxOf_any.trans ha) (room_is (by show l.length+1≤1048577;have:=h.1;unfold W1 at this;omega) (by decide) (by decide) (bind_eq lp2 (bind_eq (getI_of ga) (bind_eq (getN_of ga) (bind_eq rfl ?_)))))))
 show some ((List.set (hole l p ((l[p]?).getD (newA ⟨#[]⟩ 0))) p (newA s 0),()),())=_
 rw [hole_set hp]
def addF (a:D207) (n:Int):D207:=(a.1,(iAdd .i64 a.2.1 n,a.2.2))
theorem i_creditHas (l:List D207) (s:ByteArray) (n:Int) (hl:L63 l.length) (j:Nat) (hj:j<l.length) (ha:accAt l s=(j:Int)):F252 ((l,()),((s,()),((n,()),())))=some ((l.set j (addF l[j] n),()),()):=by
 unfold F252
 exact bind_eq ((i_acctAt l s hl).trans (by rw [ha])) (thenT (by simp [iLe]) (bind_eq (getI_lt hj) (bind_eq (getN_nat hj) (bind_eq (getI_lt hj) (bind_eq (getN_nat hj) rfl)))))
theorem i_creditNew (l:List D207) (s:ByteArray) (n:Int) (h:AcctL l) (ha:l.any (fun a=>sEq a.1 s)=false) (p:Nat) (hp:p≤l.length) (h1:∀i (hi:i<l.length),i<p→sLt l[i].1 s=true) (h2:∀hi:p<l.length,sLt l[p].1 s=false):F252 ((l,()),((s,()),((n,()),())))=some ((hole l p (newA s n),()),()):=by
 have hl63:L63 l.length:=h.1.l
 have hr:room (l.length+1) 64=true:=room_ok (by have:=h.1;unfold W1 at this;omega) (by decide) (by decide)
 have lp:=loopWhile (S:=Int×Unit) l (fun x=>sLt x.1 s) (f:=F252.b0 ((l,()),((s,()),((n,()),())))) (fun k=>(k,())) (fun k=>Sum.inl (k,())) (fun i hi=>by
  unfold F252.b0
  refine lt_then (Int.ofNat_lt.2 hi) (bind_eq (getI_lt hi) (bind_eq (getN_nat hi) ?_))
  rw [←nxt hi hl63]) (by
  unfold F252.b0
  exact lt_else (Int.le_refl _) rfl) hp h1 h2
 unfold F252
 refine bind_eq (i_acctAt l s hl63) (no_then (idxOf_any.trans ha) (bind_eq lp (bind_eq (y:=((hole l p (newA s n),()),())) ?_ rfl)))
 unfold F254
 exact ins_one e207 64 l (newA s n) p hp hr
theorem acc_hole (l:List D207) (s:ByteArray) (p:Nat) (hp:p≤l.length) (h1:∀i (hi:i<l.length),i<p→sLt l[i].1 s=true) (n:Int):accAt (hole l p (newA s n)) s=(p:Int):=by
 have:(hole l p (newA s n)).findIdx? (fun a=>sEq a.1 s)=some p:=by
  rw [List.findIdx?_eq_some_iff_getElem]
  have hlen:=hole_len (l:=l) (k:=p) (y:=newA s n) hp
  refine ⟨by omega,?_,fun j hj=>?_⟩
  ·have h:=hole_at (l:=l) (k:=p) (y:=newA s n) hp
   rw [List.getElem?_eq_getElem (by omega)] at h
   rw [Option.some.inj h]
   exact sEq_self s
  ·have h:=hole_lo (l:=l) (k:=p) (y:=newA s n) hp hj
   rw [List.getElem?_eq_getElem (by omega),List.getElem?_eq_getElem (by omega)] at h
   rw [Option.some.inj h,(ord_str).irr _ _ (h1 j (by omega) hj)];decide
 unfold accAt idxOf
 rw [this]
theorem pay_both (l:List D207) (s:ByteArray) (n:Int) (h:AcctL l) (hs:Asc (fun z y=>sLt z.1 y.1) l) (hn: -9223372036854775808≤n∧n≤9223372036854775807) :
  ∃Y:List D207,∃k:Nat,∃hk:k<Y.length,F248 ((l,()),((s,()),()))=some ((Y,()),())∧L63 Y.length∧accAt Y s=(k:Int)∧F252 ((l,()),((s,()),((n,()),())))=some ((Y.set k (addF Y[k] n),()),())∧∀a∈Y,a∈l∨a=newA s 0:=by
 rcases idxOf_cases l (fun a=>sEq a.1 s) with ⟨ha,_,_⟩|⟨j,hj,_,_,ha,_,hi⟩
 ·obtain ⟨p,hp,h1,h2⟩:=placeE (fun a=>sLt a.1 s) l
  have hne:∀i (hi:i<l.length),sEq l[i].1 s=false:=fun i hi=>by
   rw [List.any_eq_false] at ha
   simpa using ha _ (List.getElem_mem hi)
  have hge:∀i (hi:i<l.length),p≤i→sLt l[i].1 s=false:=fun i hi hpi=>by
   have hpl:p<l.length:=by omega
   have e1:=(ord_str).tot _ _ (h2 hpl) (hne p hpl)
   have e2:sLt s l[i].1=true:=by
    rcases Nat.lt_or_ge p i with hlt|hlt
    ·exact (ord_str).tr _ _ _ e1 (hs p i hpl hi hlt)
    ·have:p=i:=by omega
     subst this;exact e1
   have e3:=sLt_tri l[i].1 s
   rw [hne i hi,e2,Bool.or_false] at e3
   exact e3
  have hk:p<(hole l p (newA s 0)).length:=by rw [hole_len hp];omega
  have hY:(hole l p (newA s 0))[p]=newA s 0:=by
   have:=hole_at (l:=l) (k:=p) (y:=newA s 0) hp
   rw [List.getElem?_eq_getElem hk] at this
   exact Option.some.inj this
  refine ⟨hole l p (newA s 0),p,hk,s_withNew l s h ha p hp h1 (fun i hi hpi=>by rw [hge i hi hpi,hne i hi];rfl),by rw [hole_len hp];have:=h.1;unfold W1 at this;unfold L63;omega,acc_hole l s p hp h1 0,?_,fun a ham=>?_⟩
  ·rw [i_creditNew l s n h ha p hp h1 h2,hY,hole_set hp]
   have:iAdd .i64 0 n=n:=(iAdd_small (by omega) (by omega)).trans (by omega)
   unfold addF newA
   rw [this]
  ·unfold hole at ham
   rcases List.mem_append.1 ham with h5|h5
   ·exact .inl (List.mem_of_mem_take h5)
   ·rcases List.mem_cons.1 h5 with h5|h5
    ·exact .inr h5
    ·exact .inl (List.mem_of_mem_drop h5)
 ·exact ⟨l,j,hj,s_withHas l s h ha,h.1.l,hi,i_creditHas l s n h.1.l j hj hi,fun a ham=> .inl ham⟩
theorem asc_set {l:List D207} (h:Asc (fun z y=>sLt z.1 y.1) l) {j:Nat} (hj:j<l.length) {a:D207} (ha:a.1=l[j].1):Asc (fun z y=>sLt z.1 y.1) (l.set j a):=by
 have key:∀i (hi:i<(l.set j a).length),(l.set j a)[i].1=(l[i]'(by simpa using hi)).1:=fun i hi=>by
  rw [List.getElem_set]
  by_cases hij:j=i
  ·subst hij;rw [if_pos rfl,ha]
  ·rw [if_neg hij]
 intro i k hi hk hik
 show sLt (l.set j a)[i].1 (l.set j a)[k].1=true
 rw [key i hi,key k hk]
 exact h i k _ _ hik
theorem ok_set {es:Tys} {l:List es.D} (h:(Ty.sl es).Ok l) {j:Nat} {a:es.D} (ha:es.Ok a):(Ty.sl es).Ok (l.set j a) :=
 Ok_of (by rw [List.length_set];exact h.1) (fun y hy=>by
  rcases List.mem_or_eq_of_mem_set hy with h1|rfl
  ·exact Ok_mem h.2 h1
  ·exact ha)
theorem acctl_set {l:List D207} (h:AcctL l) {j:Nat} {a:D207} (ha:W1 (List.length a.2.2.2.2.1)):AcctL (l.set j a) :=
 ⟨by rw [List.length_set];exact h.1,fun y hy=>by
  rcases List.mem_or_eq_of_mem_set hy with h1|rfl
  ·exact h.2 y h1
  ·exact ha⟩
theorem leaveIn_ok (n at':Int) (hn:(Lit.int .i64 n).wf=true) (ha:(Lit.int .i64 at').wf=true):∀xs:List D229,(∀y∈xs,e229.Ok y)→∀y∈leaveIn n at' xs,e229.Ok y
 | [],_,y,hy=>by
  simp only [leaveIn,List.mem_singleton] at hy
  subst hy
  exact ⟨hn,ha,trivial⟩
 |x::r,h,y,hy=>by
  have hx:=h x (List.mem_cons_self ..)
  simp only [leaveIn] at hy
  cases h1:iEq x.2.1 at' with
  |true =>
   rw [h1] at hy
   rcases List.mem_cons.1 hy with rfl|hy
   ·exact ⟨okAdd .i64 _,hx.2.1,trivial⟩
   ·exact h y (List.mem_cons_of_mem _ hy)
  |false =>
   cases h2:iLt at' x.2.1 with
   |true =>
    rw [h1,h2] at hy
    rcases List.mem_cons.1 hy with rfl|hy
    ·exact ⟨hn,ha,trivial⟩
    ·exact h y hy
   |false =>
    rw [h1,h2] at hy
    rcases List.mem_cons.1 hy with rfl|hy
    ·exact hx
    ·exact leaveIn_ok n at' hn ha r (fun z hz=>h z (List.mem_cons_of_mem _ hz)) y hy
theorem leaveIn_len (n at':Int):∀xs:List D229,(leaveIn n at' xs).length≤xs.length+1
 | []=>Nat.le_refl _
 |x::r=>by
  have:=leaveIn_len n at' r
  simp only [leaveIn]
  cases iEq x.2.1 at'<;>cases iLt at' x.2.1<;>simp only [cond_true,cond_false,List.length_cons]<;>omega
theorem ledger_len {x:DLe} (h:ledgerB x=true):x.2.1.length≤12∧(∀a∈x.2.1,List.length a.2.2.2.2.1≤4∧Asc (fun z y=>iLt z.2.1 y.2.1) a.2.2.2.2.1)∧Asc (fun z y=>sLt z.1 y.1) x.2.1:=by
 unfold ledgerB acctsB at h
 simp only [Bool.and_eq_true] at h
 obtain ⟨_,h1,h2,_⟩:=h
 have hA:∀i (hi:i<x.2.1.length),acctB x.2.1[i]=true∧behind (fun z y=>sLt z.1 y.1) x.2.1 i x.2.1[i]=true:=fun i hi=>by
  have:=allI_get h1 i hi
  rw [Nat.zero_add] at this
  unfold acctP at this
  simpa only [Bool.and_eq_true] using this
 refine ⟨by simp only [iLe,decide_eq_true_eq] at h2;omega,fun a ha=>?_,asc_of (lt:=fun (z y:D207)=>sLt z.1 y.1) (fun a b c=>(ord_str).tr a.1 b.1 c.1) (fun i hi=>(hA i hi).2)⟩
 obtain ⟨i,hi,rfl⟩:=List.getElem_of_mem ha
 have:=(hA i hi).1
 unfold acctB at this
 simp only [Bool.and_eq_true] at this
 obtain ⟨_,_,_,_,h5,h6⟩:=this
 refine ⟨by simp only [iLe,decide_eq_true_eq] at h5;omega,asc_of (lt:=fun (z y:D229)=>iLt z.2.1 y.2.1) (fun a b c=>(ord_int).tr a.2.1 b.2.1 c.2.1) (fun k hk=>?_)⟩
 unfold leavesB at h6
 have:=allI_get h6 k hk
 rw [Nat.zero_add] at this
 unfold leafP at this
 simp only [Bool.and_eq_true] at this
 exact this.2.2
theorem ledger_acctL {x:DLe} (h:ledgerB x=true):AcctL x.2.1:=⟨by have:=(ledger_len h).1;unfold W1;omega,fun a ha=>by have:=((ledger_len h).2.1 a ha).1;unfold W1;omega⟩
theorem do_both (L:DLe) (t:D169) (j:Nat) (hj:j<L.2.1.length) (hOk:(Ty.sl e207).Ok L.2.1) (hL:ledgerB L=true) (ht:e169.Ok t) (htx:txB t=true) :
  ∃R:DLe,F244 (L,(t,(((j:Int),()),())))=some (R,())∧F251 (L,(((j:Int),()),(t,())))=some (R,())∧(Ty.sl e207).Ok R.2.1:=by
 obtain ⟨ep,xs,⟨⟩⟩:=L
 simp only at hj hOk
 obtain ⟨hlen,hlv,hasc⟩:=ledger_len hL
 have hAL:=ledger_acctL hL
 simp only at hlen hlv hasc hAL
 have hl63:L63 xs.length:=by unfold L63;omega
 have hA:=Ok_mem hOk.2 (List.getElem_mem hj)
 have hLv:=hlv _ (List.getElem_mem hj)
 have hWl:=hAL.2 _ (List.getElem_mem hj)
 have e0:(xs[j]:D207)=xs[j]:=rfl
 generalize ha:xs[j]=a at hA hLv hWl
 obtain ⟨nm,fr,no,st,lv,⟨⟩⟩:=a
 let a1:D207:=(nm,(fr,(iAdd .i64 no 1,(st,(lv,())))))
 have hOk1:(Ty.sl e207).Ok (xs.set j a1):=ok_set hOk ⟨hA.1,hA.2.1,okAdd .i64 _,hA.2.2.2.1,hA.2.2.2.2.1,trivial⟩
 have hAsc1:Asc (fun z y=>sLt z.1 y.1) (xs.set j a1):=asc_set hasc hj (by rw [ha])
 have hAL1:AcctL (xs.set j a1):=acctl_set hAL hWl
 have hj1:j<(xs.set j a1).length:=by rw [List.length_set];exact hj
 have gi:getI xs (j:Int)=some (nm,(fr,(no,(st,(lv,()))))):=by rw [getI_lt hj,ha]
 have gn:getN xs (Int.toNat (j:Int))=some (nm,(fr,(no,(st,(lv,()))))):=by rw [getN_nat hj,ha]
 have g1:getN (List.set xs (Int.toNat (j:Int)) a1) (Int.toNat (j:Int))=some a1:=getN_set hj
 cases h1:iEq t.1 1 with
 |true =>
  let a2:D207:=(nm,(iSub .i64 fr t.2.2.2.1,(iAdd .i64 no 1,(st,(lv,())))))
  have hOk2:(Ty.sl e207).Ok ((xs.set j a1).set j a2):=ok_set hOk1 ⟨hA.1,okAdd .i64 _,okAdd .i64 _,hA.2.2.2.1,hA.2.2.2.2.1,trivial⟩
  have hAsc2:Asc (fun z y=>sLt z.1 y.1) ((xs.set j a1).set j a2):=asc_set hAsc1 hj1 (by simp [a1,a2])
  have hAL2:AcctL ((xs.set j a1).set j a2):=acctl_set hAL1 hWl
  obtain ⟨Y,k,hk,hw,hYl,hat,hcr,hmem⟩:=pay_both ((xs.set j a1).set j a2) t.2.2.1 t.2.2.2.1 hAL2 hAsc2 (wfR ht.2.2.2.1)
  have hYok:(Ty.sl e207).Ok Y:=Ok_of hYl (fun y hy=>by
   rcases hmem y hy with h|rfl
   ·exact Ok_mem hOk2.2 h
   ·exact ⟨ht.2.2.1,rfl,rfl,rfl,Ok_nil,trivial⟩)
  have hYk:=Ok_mem hYok.2 (List.getElem_mem hk)
  refine ⟨(ep,(Y.set k (addF Y[k] t.2.2.2.1),())),?_,?_,ok_set hYok ⟨hYk.1,okAdd .i64 _,hYk.2.2⟩⟩
  ·unfold F244
   exact bind_eq (s_cledger (ep,(xs,())) hAL) (bind_eq gi (bind_eq gn (bind_eq gn (bind_eq rfl (bind_eq (y:=Sum.inl (Y.set k (addF Y[k] t.2.2.2.1),())) (thenT h1 (bind_eq g1 (bind_eq g1 (bind_eq rfl (bind_eq hw (bind_eq ((s_acctAt Y _ hYl).trans (by rw [hat])) (bind_eq (getI_lt hk) (bind_eq (getN_nat hk) (bind_eq (getI_lt hk) (bind_eq (getN_nat hk) (bind_eq rfl rfl))))))))))) rfl)))))
  ·unfold F251
   exact bind_eq gi (bind_eq gn (bind_eq gn (bind_eq rfl (bind_eq (y:=Sum.inl (Y.set k (addF Y[k] t.2.2.2.1),())) (thenT h1 (bind_eq g1 (bind_eq g1 (bind_eq rfl (bind_eq hcr rfl))))) rfl))))
 |false =>
  cases h2:iEq t.1 2 with
  |true =>
   let a2:D207:=(nm,(iSub .i64 fr t.2.2.2.1,(iAdd .i64 no 1,(st,(lv,())))))
   let a3:D207:=(nm,(iSub .i64 fr t.2.2.2.1,(iAdd .i64 no 1,(iAdd .i64 st t.2.2.2.1,(lv,())))))
   have g2:getN (List.set (List.set xs (Int.toNat (j:Int)) a1) (Int.toNat (j:Int)) a2) (Int.toNat (j:Int))=some a2:=getN_set hj1
   have hOk2:(Ty.sl e207).Ok ((xs.set j a1).set j a2):=ok_set hOk1 ⟨hA.1,okAdd .i64 _,okAdd .i64 _,hA.2.2.2.1,hA.2.2.2.2.1,trivial⟩
   have hOk3:(Ty.sl e207).Ok (((xs.set j a1).set j a2).set j a3):=ok_set hOk2 ⟨hA.1,okAdd .i64 _,okAdd .i64 _,okAdd .i64 _,hA.2.2.2.2.1,trivial⟩
   refine ⟨(ep,(((xs.set j a1).set j a2).set j a3,())),?_,?_,hOk3⟩
   ·unfold F244
    exact bind_eq (s_cledger (ep,(xs,())) hAL) (bind_eq gi (bind_eq gn (bind_eq gn (bind_eq rfl (bind_eq (y:=Sum.inl (((xs.set j a1).set j a2).set j a3,())) (no_then h1 (thenT h2 (bind_eq g1 (bind_eq g1 (bind_eq rfl (bind_eq g2 (bind_eq g2 (bind_eq rfl rfl)))))))) rfl)))))
   ·unfold F251
    exact bind_eq gi (bind_eq gn (bind_eq gn (bind_eq rfl (bind_eq (y:=Sum.inl (((xs.set j a1).set j a2).set j a3,())) (no_then h1 (thenT h2 (bind_eq g1 (bind_eq g1 (bind_eq rfl (bind_eq g2 (bind_eq g2 (bind_eq rfl rfl)))))))) rfl))))
  |false =>
   have h3:iEq t.1 3=true:=by
    unfold txB at htx
    rw [h1] at htx
    simp only [Bool.and_eq_true,cond_false,inR,iLe,decide_eq_true_eq] at htx
    simp only [iEq,decide_eq_true_eq,decide_eq_false_iff_not] at h1 h2 ⊢
    omega
   let lv2:=leaveIn t.2.2.2.1 (iAdd .i64 ep 2) lv
   let a2:D207:=(nm,(fr,(iAdd .i64 no 1,(iSub .i64 st t.2.2.2.1,(lv,())))))
   let a3:D207:=(nm,(fr,(iAdd .i64 no 1,(iSub .i64 st t.2.2.2.1,(lv2,())))))
   have g2:getN (List.set (List.set xs (Int.toNat (j:Int)) a1) (Int.toNat (j:Int)) a2) (Int.toNat (j:Int))=some a2:=getN_set hj1
   have hlv2:(Ty.sl e229).Ok lv2:=Ok_of (by have:=leaveIn_len t.2.2.2.1 (iAdd .i64 ep 2) lv;have:=hLv.1;simp only at this;show List.length (leaveIn _ _ _)≤_;omega) (leaveIn_ok _ _ ht.2.2.2.1 (okAdd .i64 _) lv (fun y hy=>Ok_mem hA.2.2.2.2.1.2 hy))
   have hOk2:(Ty.sl e207).Ok ((xs.set j a1).set j a2):=ok_set hOk1 ⟨hA.1,hA.2.1,okAdd .i64 _,okAdd .i64 _,hA.2.2.2.2.1,trivial⟩
   have hOk3:(Ty.sl e207).Ok (((xs.set j a1).set j a2).set j a3):=ok_set hOk2 ⟨hA.1,hA.2.1,okAdd .i64 _,okAdd .i64 _,hlv2,trivial⟩
   refine ⟨(ep,(((xs.set j a1).set j a2).set j a3,())),?_,?_,hOk3⟩
   ·unfold F244
    exact bind_eq (s_cledger (ep,(xs,())) hAL) (bind_eq gi (bind_eq gn (bind_eq gn (bind_eq rfl (bind_eq (y:=Sum.inl (((xs.set j a1).set j a2).set j a3,())) (no_then h1 (no_then h2 (bind_eq g1 (bind_eq g1 (bind_eq rfl (bind_eq g2 (bind_eq (s_leave lv t.2.2.2.1 (iAdd .i64 ep 2) hLv.1) (bind_eq g2 (bind_eq rfl rfl))))))))) rfl)))))
   ·unfold F251
    exact bind_eq gi (bind_eq gn (bind_eq gn (bind_eq rfl (bind_eq (y:=Sum.inl (((xs.set j a1).set j a2).set j a3,())) (no_then h1 (no_then h2 (thenT h3 (bind_eq g1 (bind_eq g1 (bind_eq rfl (bind_eq g2 (bind_eq (i_leaves nm fr (iAdd .i64 no 1) (iSub .i64 st t.2.2.2.1) lv t.2.2.2.1 (iAdd .i64 ep 2) hLv.1 hLv.2) (bind_eq rfl rfl))))))))) rfl))))
def hasV (t:D169) (a:D207):Int:=bif iEq t.1 3 then a.2.2.2.1 else a.2.1
theorem i_hasV (t:D169) (a:D207):F250 (a,((t.1,()),()))=some (I1 (hasV t a)):=by
 unfold F250 hasV
 show (bif iEq t.1 3 then _ else _)=_
 cases iEq t.1 3<;>rfl
theorem s_hasV (t:D169) (a:D207) {R:Type}:(bif iEq t.1 3 then some (Sum.inl (a.2.2.2.1,())) else some (Sum.inl (a.2.1,())))=some (Sum.inl (hasV t a,()):Sum (Int×Unit) R):=by
 unfold hasV
 cases iEq t.1 3<;>rfl
theorem iEq_sw (a b:Int):iEq a b=iEq b a:=by
 unfold iEq
 by_cases h:a=b
 ·rw [h]
 ·rw [decide_eq_false h,decide_eq_false (fun e=>h e.symm)]
theorem apply_both2 (L:DLe) (t:D169) (hOk:(Ty.sl e207).Ok L.2.1) (hAL:AcctL L.2.1) (ht:e169.Ok t) :
  ∃(R:DLe) (c:Int),F231 (L,(t,()))=some (R,((c,()),()))∧F245 (L,(t,()))=some (R,((c,()),()))∧(Ty.sl e207).Ok R.2.1∧AcctL R.2.1∧(iEq c 0=false→R=L)∧(R=L∨ledgerB R=true):=by
 have hl63:=hAL.1.l
 have sc:=s_cledger L hAL
 have ic:=i_cledger L hAL
 have sa:=s_acctAt L.2.1 t.2.1 hl63
 have ia:=i_acctAt L.2.1 t.2.1 hl63
 have sl:=s_ledger L hOk
 have il:=i_ledger L hOk
 have sx:=s_tx t ⟨ht.2.1,ht.2.2.1⟩
 have ix:=i_tx t ⟨ht.2.1,ht.2.2.1⟩
 cases hq:ledgerB L with
 |false =>
  rw [hq] at sl il
  refine ⟨L,1,?_,?_,hOk,hAL,fun _=>rfl,.inl rfl⟩
  ·unfold F231;exact bind_eq sc (bind_eq sl (thenT rfl rfl))
  ·unfold F245;exact bind_eq ia (bind_eq il (thenT rfl (bind_eq ic rfl)))
 |true =>
  rw [hq] at sl il
  cases htx:txB t with
  |false =>
   rw [htx] at sx ix
   refine ⟨L,1,?_,?_,hOk,hAL,fun _=>rfl,.inl rfl⟩
   ·unfold F231;exact bind_eq sc (bind_eq sl (no_then rfl (bind_eq sx (thenT rfl rfl))))
   ·unfold F245;exact bind_eq ia (bind_eq il (no_then rfl (bind_eq ix (thenT rfl (bind_eq ic rfl)))))
  |true =>
   rw [htx] at sx ix
   rcases idxOf_cases L.2.1 (fun a=>sEq a.1 t.2.1) with ⟨_,_,hi⟩|⟨j,hj,_,_,_,_,hi⟩
   ·have hi:accAt L.2.1 t.2.1= -1:=hi
    rw [hi] at sa ia
    refine ⟨L,2,?_,?_,hOk,hAL,fun _=>rfl,.inl rfl⟩
    ·unfold F231;exact bind_eq sc (bind_eq sl (no_then rfl (bind_eq sx (no_then rfl (bind_eq sa (thenT rfl rfl))))))
    ·unfold F245;exact bind_eq ia (bind_eq il (no_then rfl (bind_eq ix (no_then rfl (thenT rfl (bind_eq ic rfl))))))
   ·have hi:accAt L.2.1 t.2.1=(j:Int):=hi
    rw [hi] at sa ia
    have hj0:iLt (j:Int) 0=false:=iLt_false (Int.natCast_nonneg j)
    cases hn:iEq (L.2.1[j]).2.2.1 t.2.2.2.2.1 with
    |false =>
     refine ⟨L,3,?_,?_,hOk,hAL,fun _=>rfl,.inl rfl⟩
     ·unfold F231;exact bind_eq sc (bind_eq sl (no_then rfl (bind_eq sx (no_then rfl (bind_eq sa (no_then hj0 (bind_eq (getI_lt hj) (bind_eq (s_hasV t _) (thenT (by rw [hn];rfl) rfl)))))))))
     ·unfold F245;exact bind_eq ia (bind_eq il (no_then rfl (bind_eq ix (no_then rfl (no_then hj0 (bind_eq (getI_lt hj) (thenT (by rw [iEq_sw,hn];rfl) (bind_eq ic rfl))))))))
    |true =>
     cases hh:iLt (hasV t L.2.1[j]) t.2.2.2.1 with
     |true =>
      refine ⟨L,4,?_,?_,hOk,hAL,fun _=>rfl,.inl rfl⟩
      ·unfold F231;exact bind_eq sc (bind_eq sl (no_then rfl (bind_eq sx (no_then rfl (bind_eq sa (no_then hj0 (bind_eq (getI_lt hj) (bind_eq (s_hasV t _) (no_then (by rw [hn];rfl) (thenT hh rfl))))))))))
      ·unfold F245;exact bind_eq ia (bind_eq il (no_then rfl (bind_eq ix (no_then rfl (no_then hj0 (bind_eq (getI_lt hj) (no_then (by rw [iEq_sw,hn];rfl) (bind_eq (getI_lt hj) (bind_eq (i_hasV t _) (thenT hh (bind_eq ic rfl)))))))))))
     |false =>
      obtain ⟨R,d1,d2,d3⟩:=do_both L t j hj hOk hq ht htx
      have sl2:=s_ledger R d3
      have il2:=i_ledger R d3
      cases hR:ledgerB R with
      |false =>
       rw [hR] at sl2 il2
       refine ⟨L,5,?_,?_,hOk,hAL,fun _=>rfl,.inl rfl⟩
       ·unfold F231;exact bind_eq sc (bind_eq sl (no_then rfl (bind_eq sx (no_then rfl (bind_eq sa (no_then hj0 (bind_eq (getI_lt hj) (bind_eq (s_hasV t _) (no_then (by rw [hn];rfl) (no_then hh (bind_eq d1 (bind_eq sl2 (thenT rfl rfl)))))))))))))
       ·unfold F245;exact bind_eq ia (bind_eq il (no_then rfl (bind_eq ix (no_then rfl (no_then hj0 (bind_eq (getI_lt hj) (no_then (by rw [iEq_sw,hn];rfl) (bind_eq (getI_lt hj) (bind_eq (i_hasV t _) (no_then hh (bind_eq ic (bind_eq d2 (bind_eq il2 (thenT rfl (bind_eq ic rfl)))))))))))))))
      |true =>
       rw [hR] at sl2 il2
       refine ⟨R,0,?_,?_,d3,ledger_acctL hR,fun h=>by simp [iEq] at h,.inr hR⟩
       ·unfold F231;exact bind_eq sc (bind_eq sl (no_then rfl (bind_eq sx (no_then rfl (bind_eq sa (no_then hj0 (bind_eq (getI_lt hj) (bind_eq (s_hasV t _) (no_then (by rw [hn];rfl) (no_then hh (bind_eq d1 (bind_eq sl2 (no_then rfl rfl)))))))))))))
       ·unfold F245;exact bind_eq ia (bind_eq il (no_then rfl (bind_eq ix (no_then rfl (no_then hj0 (bind_eq (getI_lt hj) (no_then (by rw [iEq_sw,hn];rfl) (bind_eq (getI_lt hj) (bind_eq (i_hasV t _) (no_then hh (bind_eq ic (bind_eq d2 (bind_eq il2 (no_then rfl rfl))))))))))))))
theorem apply_both (L:DLe) (t:D169) (hOk:(Ty.sl e207).Ok L.2.1) (hAL:AcctL L.2.1) (ht:e169.Ok t) :
  ∃(R:DLe) (c:Int),F231 (L,(t,()))=some (R,((c,()),()))∧F245 (L,(t,()))=some (R,((c,()),()))∧(Ty.sl e207).Ok R.2.1∧AcctL R.2.1∧(iEq c 0=false→R=L):=by
 obtain ⟨R,c,h1,h2,h3,h4,h5,_⟩:=apply_both2 L t hOk hAL ht
 exact ⟨R,c,h1,h2,h3,h4,h5⟩
noncomputable def applyR (L:DLe) (t:D169):DLe×Int:=match F231 (L,(t,())) with
 |some (R,((c,()),()))=>(R,c)
 |none=>(L,0)
theorem applyR_eq (L:DLe) (t:D169) (hOk:(Ty.sl e207).Ok L.2.1) (hAL:AcctL L.2.1) (ht:e169.Ok t) :
  F231 (L,(t,()))=some ((applyR L t).1,(((applyR L t).2,()),()))∧F245 (L,(t,()))=some ((applyR L t).1,(((applyR L t).2,()),()))∧(Ty.sl e207).Ok (applyR L t).1.2.1∧AcctL (applyR L t).1.2.1∧(iEq (applyR L t).2 0=false→(applyR L t).1=L):=by
 obtain ⟨R,c,h1,h2,h3,h4,h5⟩:=apply_both L t hOk hAL ht
 have:applyR L t=(R,c):=by unfold applyR;rw [h1]
 rw [this]
 exact ⟨h1,h2,h3,h4,h5⟩
noncomputable def allStep (s:Int×DLe) (t:D169):Int×DLe:=(bif iEq (applyR s.2 t).2 0 then iAdd .i64 s.1 1 else s.1,(applyR s.2 t).1)
noncomputable def allR (L:DLe) (ts:List D169):Int×DLe:=ts.foldl allStep (0,L)
theorem all_both (L:DLe) (ts:List D169) (hOk:(Ty.sl e207).Ok L.2.1) (hAL:AcctL L.2.1) (ht:(Ty.sl e169).Ok ts) :
  F212 (L,((ts,()),()))=some ((allR L ts).2,(((allR L ts).1,()),()))∧F240 (L,((ts,()),()))=some ((allR L ts).2,(((allR L ts).1,()),()))∧(Ty.sl e207).Ok (allR L ts).2.2.1∧AcctL (allR L ts).2.2.1:=by
 have hl63:L63 ts.length:=ht.1
 have sp:=loopFold (S:=Int×(Int×(Int×(List D207×Unit)))) ts allStep (fun _ s=>(Ty.sl e207).Ok s.2.2.1∧AcctL s.2.2.1) (f:=F212.b0 (L,((ts,()),()))) (fun s k=>(s.1,(k,(s.2.1,(s.2.2.1,()))))) (fun s=>Sum.inl (s.1,((ts.length:Int),(s.2.1,(s.2.2.1,()))))) (0,L) ⟨hOk,hAL⟩ (fun i hi s hI=>by
  obtain ⟨h1,h2,h3,h4,h5⟩:=applyR_eq s.2 ts[i] hI.1 hI.2 (Ok_mem ht.2 (List.getElem_mem hi))
  refine ⟨?_,h3,h4⟩
  unfold F212.b0 allStep
  refine lt_then (Int.ofNat_lt.2 hi) (bind_eq (getI_lt hi) (bind_eq h1 ?_))
  rw [←nxt hi hl63]
  cases hc:iEq (applyR s.2 ts[i]).2 0 with
  |true=>rfl
  |false=>rw [h5 hc];rfl) (fun s _=>by
  unfold F212.b0
  exact lt_else (Int.le_refl _) rfl)
 have ip:=loopFold (S:=Int×(Int×(Int×(List D207×Unit)))) ts allStep (fun _ s=>(Ty.sl e207).Ok s.2.2.1∧AcctL s.2.2.1) (f:=F240.b0 (L,((ts,()),()))) (fun s k=>(s.1,(k,(s.2.1,(s.2.2.1,()))))) (fun s=>Sum.inl (s.1,((ts.length:Int),(s.2.1,(s.2.2.1,()))))) (0,L) ⟨hOk,hAL⟩ (fun i hi s hI=>by
  obtain ⟨h1,h2,h3,h4,h5⟩:=applyR_eq s.2 ts[i] hI.1 hI.2 (Ok_mem ht.2 (List.getElem_mem hi))
  refine ⟨?_,h3,h4⟩
  unfold F240.b0 allStep
  refine lt_then (Int.ofNat_lt.2 hi) (bind_eq (getI_lt hi) (bind_eq h2 ?_))
  rw [←nxt hi hl63]
  cases hc:iEq (applyR s.2 ts[i]).2 0 with
  |true=>rfl
  |false=>rfl) (fun s _=>by
  unfold F240.b0
  exact lt_else (Int.le_refl _) rfl)
 refine ⟨?_,?_,sp.2.1,sp.2.2⟩
 ·unfold F212
  exact bind_eq (s_cledger L hAL) (bind_eq sp.1 rfl)
 ·unfold F240
  exact bind_eq (i_cledger L hAL) (bind_eq ip.1 rfl)
def epStep (e:Int) (s:List D229×Int) (x:D229):List D229×Int:=bif iLe x.2.1 e then (s.1,iAdd .i64 s.2 x.1) else (s.1++ [x],s.2)
def epFold (e:Int) (a:D207):List D229×Int:=a.2.2.2.2.1.foldl (epStep e) ([],a.2.1)
def epAcct (e:Int) (a:D207):D207:=(a.1,((epFold e a).2,(a.2.2.1,(a.2.2.2.1,((epFold e a).1,())))))
theorem epFold_inv (e:Int):∀(xs:List D229) (s:List D229×Int),(Lit.int .i64 s.2).wf=true→(∀y∈s.1,e229.Ok y)→(∀y∈xs,e229.Ok y) →
  (Lit.int .i64 (xs.foldl (epStep e) s).2).wf=true∧(∀y∈(xs.foldl (epStep e) s).1,e229.Ok y)∧(xs.foldl (epStep e) s).1.length≤s.1.length+xs.length
 | [],s,h1,h2,_=>⟨h1,h2,Nat.le_refl _⟩
 |x::r,s,h1,h2,h3=>by
  have hx:=h3 x (List.mem_cons_self ..)
  have hr:=fun y hy=>h3 y (List.mem_cons_of_mem _ hy)
  simp only [List.foldl_cons,List.length_cons]
  cases hc:iLe x.2.1 e with
  |true =>
   have:epStep e s x=(s.1,iAdd .i64 s.2 x.1):=by unfold epStep;rw [hc];rfl
   rw [this]
   have ih:=epFold_inv e r (s.1,iAdd .i64 s.2 x.1) (okAdd .i64 _) h2 hr
   exact ⟨ih.1,ih.2.1,by have:=ih.2.2;simp only at this ⊢;omega⟩
  |false =>
   have:epStep e s x=(s.1++ [x],s.2):=by unfold epStep;rw [hc];rfl
   rw [this]
   have ih:=epFold_inv e r (s.1++ [x],s.2) h1 (fun y hy=>by
    rcases List.mem_append.1 hy with h|h
    ·exact h2 y h
    ·rw [List.mem_singleton.1 h];exact hx) hr
   exact ⟨ih.1,ih.2.1,by have:=ih.2.2;simp only [List.length_append,List.length_singleton] at this ⊢;omega⟩
theorem epAcct_ok (e:Int) (a:D207) (h:e207.Ok a):e207.Ok (epAcct e a):=by
 have hi:=epFold_inv e a.2.2.2.2.1 ([],a.2.1) h.2.1 (fun y hy=>by cases hy) (fun y hy=>Ok_mem h.2.2.2.2.1.2 hy)
 have h9:(a.2.2.2.2.1.foldl (epStep e) ([],a.2.1)).1.length≤List.length a.2.2.2.2.1:=by simpa using hi.2.2
 exact ⟨h.1,hi.1,h.2.2.1,h.2.2.2.1,Ok_of (Nat.le_trans h9 h.2.2.2.2.1.1) hi.2.1,trivial⟩
theorem epAcct_len (e:Int) (a:D207):List.length (epAcct e a).2.2.2.2.1≤List.length a.2.2.2.2.1:=by
 have key:∀(xs:List D229) (s:List D229×Int),(xs.foldl (epStep e) s).1.length≤s.1.length+xs.length:=by
  intro xs
  induction xs with
  |nil=>intro s;exact Nat.le_refl _
  |cons x r ih =>
   intro s
   have:=ih (epStep e s x)
   have h2:(epStep e s x).1.length≤s.1.length+1:=by
    unfold epStep
    cases iLe x.2.1 e<;>simp only [cond_true,cond_false,List.length_append,List.length_singleton]<;>omega
   simp only [List.foldl_cons,List.length_cons]
   omega
 have h9:(a.2.2.2.2.1.foldl (epStep e) ([],a.2.1)).1.length≤List.length a.2.2.2.2.1:=by simpa using key a.2.2.2.2.1 ([],a.2.1)
 exact h9
def upTo (g:D207→D207) (xs:List D207) (k:Nat):List D207:=(xs.take k).map g++xs.drop k
theorem upTo_len (g:D207→D207) (xs:List D207) (k:Nat) (h:k≤xs.length):(upTo g xs k).length=xs.length:=by
 unfold upTo;rw [List.length_append,List.length_map,List.length_take,List.length_drop];omega
theorem upTo_get (g:D207→D207) {xs:List D207} {k:Nat} (h:k<xs.length):(upTo g xs k)[k]?=some xs[k]:=by
 unfold upTo
 rw [List.getElem?_append_right (by rw [List.length_map,List.length_take];omega),List.length_map,List.length_take,List.getElem?_drop]
 rw [show k+(k - min k xs.length)=k by omega,List.getElem?_eq_getElem h]
theorem upTo_set (g:D207→D207) {xs:List D207} {k:Nat} (h:k<xs.length):(upTo g xs k).set k (g xs[k])=upTo g xs (k+1):=by
 unfold upTo
 rw [List.set_append_right _ _ (by rw [List.length_map,List.length_take];omega),List.length_map,List.length_take,show k - min k xs.length=0 by omega,List.drop_eq_getElem_cons h,List.set_cons_zero,List.take_succ_eq_append_getElem h,List.map_append,List.append_assoc]
 rfl
theorem st3 {A B C F:Type} {a a':A} {b b':B} {c c':C} (h1:a=a') (h2:b=b') (h3:c=c'):(some (Sum.inl (a,(b,(c,())))):Option (Sum (A×(B×(C×Unit))) F))=some (Sum.inl (a',(b',(c',())))):=by rw [h1,h2,h3]
theorem s_epIn (L:DLe) (l0:List D207) (j:Nat) (hj:j<l0.length) (h4:List.length (l0[j]).2.2.2.2.1≤4) :
  loopF (F214.b1 ((j:Int),(l0,())) (L,())) ([],((0:Int),(l0,())))=some (Sum.inl ((epFold (iAdd .i64 L.1 1) l0[j]).1,((List.length (l0[j]).2.2.2.2.1:Int),(l0.set j ((l0[j]).1,((epFold (iAdd .i64 L.1 1) l0[j]).2,(l0[j]).2.2)),())))):=by
 have hl63:L63 (List.length (l0[j]).2.2.2.2.1):=by unfold L63;omega
 have hself:l0.set j ((l0[j]).1,((l0[j]).2.1,(l0[j]).2.2))=l0:=List.set_getElem_self hj
 have g:∀s:Int,getN (l0.set j ((l0[j]).1,(s,(l0[j]).2.2))) (Int.toNat (j:Int))=some ((l0[j]).1,(s,(l0[j]).2.2)):=fun s=>getN_set hj
 have lp:=(loopFold (S:=List D229×(Int×(List D207×Unit))) (l0[j]).2.2.2.2.1 (epStep (iAdd .i64 L.1 1)) (fun k s=>s.1.length≤k) (f:=F214.b1 ((j:Int),(l0,())) (L,())) (fun s k=>(s.1,(k,(l0.set j ((l0[j]).1,(s.2,(l0[j]).2.2)),())))) (fun s=>Sum.inl (s.1,((List.length (l0[j]).2.2.2.2.1:Int),(l0.set j ((l0[j]).1,(s.2,(l0[j]).2.2)),())))) ([],(l0[j]).2.1) (Nat.le_refl _) (fun i hi s hI=>by
  have hI:s.1.length≤i:=hI
  have hr:room (s.1.length+1) 16=true:=room_ok (by omega) (by decide) (by decide)
  unfold epStep
  cases hc:iLe ((l0[j]).2.2.2.2.1[i]).2.1 (iAdd .i64 L.1 1) with
  |true =>
   refine ⟨?_,by simp only [cond_true];omega⟩
   unfold F214.b1
   refine bind_eq (g s.2) (lt_then (Int.ofNat_lt.2 hi) (bind_eq (g s.2) (bind_eq (getI_lt hi) (thenT hc (bind_eq (g s.2) (bind_eq (g s.2) (bind_eq (getI_lt hi) (bind_eq (g s.2) (bind_eq rfl (st3 rfl (nxt hi hl63) ?_))))))))))
   exact List.set_set ..
  |false =>
   refine ⟨?_,by simp only [cond_false,List.length_append,List.length_singleton];omega⟩
   unfold F214.b1
   exact bind_eq (g s.2) (lt_then (Int.ofNat_lt.2 hi) (bind_eq (g s.2) (bind_eq (getI_lt hi) (no_then hc (bind_eq (g s.2) (bind_eq (getI_lt hi) (thenT hr (st3 rfl (nxt hi hl63) rfl))))))))) (fun s _=>by
  unfold F214.b1
  exact bind_eq (g s.2) (lt_else (Int.le_refl _) rfl))).1
 have e:(([],((0:Int),(l0,()))):List D229×(Int×(List D207×Unit)))=([],((0:Int),(l0.set j ((l0[j]).1,((l0[j]).2.1,(l0[j]).2.2)),()))):=by rw [hself]
 rw [e]
 exact lp
theorem i_epIn (L:DLe) (l0:List D207) (j:Nat) (hj:j<l0.length) (h4:List.length (l0[j]).2.2.2.2.1≤4) :
  loopF (F242.b1 l0[j] (L,()) ((j:Int),(l0,()))) ([],((0:Int),(l0,())))=some (Sum.inl ((epFold (iAdd .i64 L.1 1) l0[j]).1,((List.length (l0[j]).2.2.2.2.1:Int),(l0.set j ((l0[j]).1,((epFold (iAdd .i64 L.1 1) l0[j]).2,(l0[j]).2.2)),())))):=by
 have hl63:L63 (List.length (l0[j]).2.2.2.2.1):=by unfold L63;omega
 have hself:l0.set j ((l0[j]).1,((l0[j]).2.1,(l0[j]).2.2))=l0:=List.set_getElem_self hj
 have g:∀s:Int,getN (l0.set j ((l0[j]).1,(s,(l0[j]).2.2))) (Int.toNat (j:Int))=some ((l0[j]).1,(s,(l0[j]).2.2)):=fun s=>getN_set hj
 have lp:=(loopFold (S:=List D229×(Int×(List D207×Unit))) (l0[j]).2.2.2.2.1 (epStep (iAdd .i64 L.1 1)) (fun k s=>s.1.length≤k) (f:=F242.b1 l0[j] (L,()) ((j:Int),(l0,()))) (fun s k=>(s.1,(k,(l0.set j ((l0[j]).1,(s.2,(l0[j]).2.2)),())))) (fun s=>Sum.inl (s.1,((List.length (l0[j]).2.2.2.2.1:Int),(l0.set j ((l0[j]).1,(s.2,(l0[j]).2.2)),())))) ([],(l0[j]).2.1) (Nat.le_refl _) (fun i hi s hI=>by
  have hI:s.1.length≤i:=hI
  have hr:room (s.1.length+1) 16=true:=room_ok (by omega) (by decide) (by decide)
  unfold epStep
  cases hc:iLe ((l0[j]).2.2.2.2.1[i]).2.1 (iAdd .i64 L.1 1) with
  |true =>
   refine ⟨?_,by simp only [cond_true];omega⟩
   unfold F242.b1
   refine lt_then (Int.ofNat_lt.2 hi) (bind_eq (getI_lt hi) (thenT hc (bind_eq (g s.2) (bind_eq (g s.2) (bind_eq rfl (st3 rfl (nxt hi hl63) ?_))))))
   exact List.set_set ..
  |false =>
   refine ⟨?_,by simp only [cond_false,List.length_append,List.length_singleton];omega⟩
   unfold F242.b1
   exact lt_then (Int.ofNat_lt.2 hi) (bind_eq (getI_lt hi) (no_then hc (thenT hr (st3 rfl (nxt hi hl63) rfl))))) (fun s _=>by
  unfold F242.b1
  exact lt_else (Int.le_refl _) rfl)).1
 have e:(([],((0:Int),(l0,()))):List D229×(Int×(List D207×Unit)))=([],((0:Int),(l0.set j ((l0[j]).1,((l0[j]).2.1,(l0[j]).2.2)),()))):=by rw [hself]
 rw [e]
 exact lp
theorem ep_set (e:Int) {xs:List D207} {j:Nat} (hj:j<xs.length) (hj0:j<(upTo (epAcct e) xs j).length):(((upTo (epAcct e) xs j).set j (((upTo (epAcct e) xs j)[j]).1,((epFold e (upTo (epAcct e) xs j)[j]).2,((upTo (epAcct e) xs j)[j]).2.2))).set j (epAcct e (upTo (epAcct e) xs j)[j]))=upTo (epAcct e) xs (j+1):=by
 have h:=upTo_get (epAcct e) hj
 rw [List.getElem?_eq_getElem hj0] at h
 rw [Option.some.inj h,List.set_set]
 exact upTo_set (epAcct e) hj
theorem next_both2 (L:DLe) (hOk:(Ty.sl e207).Ok L.2.1) (hAL:AcctL L.2.1) :
  ∃R:DLe,F214 (L,())=some (R,())∧F242 (L,())=some (R,())∧(Ty.sl e207).Ok R.2.1∧AcctL R.2.1∧(R=L∨R=(iAdd .i64 L.1 1,(L.2.1.map (epAcct (iAdd .i64 L.1 1)),()))∧ledgerB L=true∧ledgerB R=true):=by
 have sc:=s_cledger L hAL
 have ic:=i_cledger L hAL
 have sl:=s_ledger L hOk
 have il:=i_ledger L hOk
 cases hq:ledgerB L with
 |false =>
  rw [hq] at sl il
  refine ⟨L,?_,?_,hOk,hAL,.inl rfl⟩
  ·unfold F214;exact bind_eq sc (bind_eq sl (thenT rfl rfl))
  ·unfold F242;exact bind_eq il (thenT rfl (bind_eq ic rfl))
 |true =>
  rw [hq] at sl il
  obtain ⟨hlen,hlv,_⟩:=ledger_len hq
  have hl63:L63 L.2.1.length:=hAL.1.l
  let e:=iAdd .i64 L.1 1
  let R:DLe:=(e,(L.2.1.map (epAcct e),()))
  have hRok:(Ty.sl e207).Ok R.2.1:=Ok_of (by show (L.2.1.map (epAcct e)).length≤_;rw [List.length_map];exact hOk.1) (fun y hy=>by
   obtain ⟨a,ha,rfl⟩:=List.mem_map.1 hy
   exact epAcct_ok e a (Ok_mem hOk.2 ha))
  have hRal:AcctL R.2.1:=⟨by show W1 (L.2.1.map (epAcct e)).length;rw [List.length_map];exact hAL.1,fun y hy=>by
   obtain ⟨a,ha,rfl⟩:=List.mem_map.1 hy
   exact Nat.le_trans (epAcct_len e a) (hAL.2 a ha)⟩
  have hend:upTo (epAcct e) L.2.1 L.2.1.length=L.2.1.map (epAcct e):=by unfold upTo;rw [List.take_length,List.drop_length,List.append_nil]
  have el:∀k (hk:k<L.2.1.length) (hk0:k<(upTo (epAcct e) L.2.1 k).length),List.length ((upTo (epAcct e) L.2.1 k)[k]).2.2.2.2.1≤4:=fun k hk hk0=>by
   have h:=upTo_get (epAcct e) hk
   rw [List.getElem?_eq_getElem hk0] at h
   rw [Option.some.inj h]
   exact (hlv _ (List.getElem_mem hk)).1
  have sp:=loopF_trace (f:=F214.b0 (L,())) (fun k=>((k:Int),(upTo (epAcct e) L.2.1 k,()))) L.2.1.length (e:=Sum.inl ((L.2.1.length:Int),(L.2.1.map (epAcct e),()))) (fun k hk=>by
   have hk0:k<(upTo (epAcct e) L.2.1 k).length:=by rw [upTo_len _ _ _ (by omega)];exact hk
   unfold F214.b0
   exact lt_then (Int.ofNat_lt.2 hk0) (bind_eq (getI_lt hk0) (bind_eq (s_epIn L _ k hk0 (el k hk hk0)) (bind_eq (getN_set hk0) (bind_eq rfl (st2 (nxt hk hl63) (ep_set e hk hk0)))))))
   (by
   unfold F214.b0
   refine lt_else (by rw [upTo_len _ _ _ (Nat.le_refl _)];exact Int.le_refl _) ?_
   rw [hend])
  have ip:=loopF_trace (f:=F242.b0 (L,())) (fun k=>((k:Int),(upTo (epAcct e) L.2.1 k,()))) L.2.1.length (e:=Sum.inl ((L.2.1.length:Int),(L.2.1.map (epAcct e),()))) (fun k hk=>by
   have hk0:k<(upTo (epAcct e) L.2.1 k).length:=by rw [upTo_len _ _ _ (by omega)];exact hk
   unfold F242.b0
   exact lt_then (Int.ofNat_lt.2 hk) (bind_eq (getI_lt hk0) (bind_eq (getN_nat hk0) (bind_eq (i_epIn L _ k hk0 (el k hk hk0)) (bind_eq (getN_set hk0) (bind_eq rfl (st2 (nxt hk hl63) (ep_set e hk hk0))))))))
   (by
   unfold F242.b0
   refine lt_else (Int.le_refl _) ?_
   rw [hend])
  have sl2:=s_ledger R hRok
  have il2:=i_ledger R hRok
  cases hR:ledgerB R with
  |false =>
   rw [hR] at sl2 il2
   refine ⟨L,?_,?_,hOk,hAL,.inl rfl⟩
   ·unfold F214;exact bind_eq sc (bind_eq sl (no_then rfl (bind_eq sp (bind_eq sl2 (thenT rfl (bind_eq sc rfl))))))
   ·unfold F242;exact bind_eq il (no_then rfl (bind_eq ic (bind_eq ip (bind_eq il2 (thenT rfl (bind_eq ic rfl))))))
  |true =>
   rw [hR] at sl2 il2
   refine ⟨R,?_,?_,hRok,hRal,.inr ⟨rfl,rfl,by first|rfl|exact hR⟩⟩
   ·unfold F214;exact bind_eq sc (bind_eq sl (no_then rfl (bind_eq sp (bind_eq sl2 (no_then rfl rfl)))))
   ·unfold F242;exact bind_eq il (no_then rfl (bind_eq ic (bind_eq ip (bind_eq il2 (no_then rfl rfl)))))
theorem next_both (L:DLe) (hOk:(Ty.sl e207).Ok L.2.1) (hAL:AcctL L.2.1) :
  ∃R:DLe,F214 (L,())=some (R,())∧F242 (L,())=some (R,())∧(Ty.sl e207).Ok R.2.1∧AcctL R.2.1:=by
 obtain ⟨R,h1,h2,h3,h4,_⟩:=next_both2 L hOk hAL
 exact ⟨R,h1,h2,h3,h4⟩
def scan {A S E:Type} (step:S→A→Sum S E) (fin:S→E):List A→S→E
 | [],s=>fin s
 |x::r,s=>match step s x with
  | .inl s'=>scan step fin r s'
  | .inr e=>e
theorem loopScan {S E A σ:Type} (xs:List A) (step:σ→A→Sum σ E) (I:σ→Prop) {f:S→Option (Sum S E)} (mk:σ→Int→S) (fin:σ→E) (s0:σ) (h0:I s0)
  (hstep:∀i (h:i<xs.length) s,I s→(∃s',step s xs[i]= .inl s'∧I s'∧f (mk s (i:Int))=some (.inl (mk s' ((i+1:Nat):Int))))∨∃e,step s xs[i]= .inr e∧f (mk s (i:Int))=some (.inr e)) (hend:∀s,I s→f (mk s (xs.length:Int))=some (.inr (fin s))) :
  loopF f (mk s0 0)=some (scan step fin xs s0):=by
 have key:∀(suf pre:List A) (s:σ),pre++suf=xs→I s→loopF f (mk s (pre.length:Int))=some (scan step fin suf s):=by
  intro suf
  induction suf with
  |nil =>
   intro pre s hp hI
   simp only [List.append_nil] at hp
   subst hp
   exact loopF_end (hend s hI)
  |cons x suf ih =>
   intro pre s hp hI
   have hlt:pre.length<xs.length:=by rw [←hp];simp
   have hx:xs[pre.length]=x:=by
    have:xs[pre.length]?=some x:=by rw [←hp];simp
    rw [List.getElem?_eq_getElem hlt] at this
    simpa using this
   rcases hstep pre.length hlt s hI with ⟨s',h1,h2,h3⟩|⟨e,h1,h3⟩
   ·rw [hx] at h1
    rw [loopF_step h3]
    simp only [scan,h1]
    have:=ih (pre++ [x]) s' (by simpa using hp) h2
    simpa using this
   ·rw [hx] at h1
    rw [loopF_end h3]
    simp only [scan,h1]
 simpa using key xs [] s0 rfl h0
noncomputable def nextR (L:DLe):DLe:=match F214 (L,()) with
 |some (R,())=>R
 |none=>L
theorem nextR_eq (L:DLe) (hOk:(Ty.sl e207).Ok L.2.1) (hAL:AcctL L.2.1):F214 (L,())=some (nextR L,())∧F242 (L,())=some (nextR L,())∧(Ty.sl e207).Ok (nextR L).2.1∧AcctL (nextR L).2.1:=by
 obtain ⟨R,h1,h2,h3,h4⟩:=next_both L hOk hAL
 have:nextR L=R:=by unfold nextR;rw [h1]
 rw [this]
 exact ⟨h1,h2,h3,h4⟩
theorem nextR_is (L:DLe) (hOk:(Ty.sl e207).Ok L.2.1) (hAL:AcctL L.2.1):nextR L=L∨nextR L=(iAdd .i64 L.1 1,(L.2.1.map (epAcct (iAdd .i64 L.1 1)),()))∧ledgerB L=true∧ledgerB (nextR L)=true:=by
 obtain ⟨R,h1,h2,h3,h4,h5⟩:=next_both2 L hOk hAL
 have:nextR L=R:=by unfold nextR;rw [h1]
 rw [this]
 exact h5
theorem applyR_led (L:DLe) (t:D169) (hOk:(Ty.sl e207).Ok L.2.1) (hAL:AcctL L.2.1) (ht:e169.Ok t) (h:ledgerB L=true):ledgerB (applyR L t).1=true:=by
 obtain ⟨R,c,h1,h2,h3,h4,h5,h6⟩:=apply_both2 L t hOk hAL ht
 have:applyR L t=(R,c):=by unfold applyR;rw [h1]
 rw [this]
 rcases h6 with h6|h6
 ·rw [h6];exact h
 ·exact h6
theorem allR_led:∀(ts:List D169) (s:Int×DLe),(Ty.sl e207).Ok s.2.2.1→AcctL s.2.2.1→(∀t∈ts,e169.Ok t)→ledgerB s.2=true→ledgerB (ts.foldl allStep s).2=true
 | [],s,_,_,_,h=>h
 |t::r,s,h1,h2,h3,h=>by
  obtain ⟨_,_,h4,h5,_⟩:=applyR_eq s.2 t h1 h2 (h3 t (by simp))
  exact allR_led r (allStep s t) h4 h5 (fun x hx=>h3 x (by simp [hx])) (applyR_led s.2 t h1 h2 (h3 t (by simp)) h)
theorem nextR_led (L:DLe) (hOk:(Ty.sl e207).Ok L.2.1) (hAL:AcctL L.2.1) (h:ledgerB L=true):ledgerB (nextR L)=true:=by
 rcases nextR_is L hOk hAL with h1|⟨_,_,h1⟩
 ·rw [h1];exact h
 ·exact h1
structure TreeF (l:List DBk):Prop where
 nn:∀b∈l,0≤b.1∧b.1≤100000
 blk:∀b∈l,blockB b=true
 asc:∀i j (hi:i<l.length) (hj:j<l.length),i<j→l[i].1<l[j].1
 par:∀b∈l,((bQc b).2.1= -1∧rootB (bQc b)=true)∨(0≤(bQc b).2.1∧(bQc b).2.1<b.1∧rootB (bQc b)=false∧∃p∈l,p.1=(bQc b).2.1∧p.2.2.1=(bQc b).1)
 len:l.length≤400
 ep:∀b∈l,b.2.1=headEp l
theorem blk_nn {b:DBk} (h:blockB b=true):0≤b.1∧b.1≤100000:=by
 unfold blockB at h
 simp only [Bool.and_eq_true] at h
 simpa [inR,iLe] using h.1
theorem asc_lt {A:Type} {f:A→Int} {l:List A} (h:∀i (hi:i<l.length),behind (fun z y=>iLt (f z) (f y)) l i l[i]=true) (i j:Nat) (hi:i<l.length) (hj:j<l.length) (hij:i<j):f l[i]<f l[j]:=by
 have h1:=asc_le h (j - 1 - i) i (by omega)
 have h2:=h ((j - 1)+1) (by omega)
 have h3:=behind_succ (lt:=fun z y=>iLt (f z) (f y)) (xs:=l) (j:=j - 1) (y:=l[j - 1+1]) (by omega)
 rw [h3] at h2
 have h4:f l[j - 1]<f l[j - 1+1]:=by simpa [iLt] using h2
 have e1:l[i+(j - 1 - i)]=l[j - 1]:=by congr 1;omega
 have e2:l[j - 1+1]=l[j]:=by congr 1;omega
 rw [e1] at h1
 rw [e2] at h4
 omega
theorem root_blk {q:DQc} (h:rootB q=true):q.2.1= -1:=by
 unfold rootB at h
 simp only [Bool.and_eq_true,iEq,decide_eq_true_eq] at h
 exact h.2.1
theorem treeF {l:List DBk} (h:treeB l=true):TreeF l:=by
 unfold treeB at h
 rw [tree_whole] at h
 simp only [Bool.and_eq_true] at h
 have hq:∀i (hi:i<l.length),(treeQ l i l[i]=true∧(rootB (bQc l[i])||parentB l l[i])=true):=fun i hi=>by
  have:=allI_get h.1 i hi
  rw [Nat.zero_add] at this
  simpa only [Bool.and_eq_true] using this
 have hb:∀i (hi:i<l.length),blockB l[i]=true∧iEq (l[i]).2.1 (headEp l)=true∧behind (fun z y=>iLt z.1 y.1) l i l[i]=true:=fun i hi=>by
  have:=(hq i hi).1
  unfold treeQ at this
  simpa only [Bool.and_eq_true] using this
 refine ⟨fun b hm=>?_,fun b hm=>?_,asc_lt (f:=fun b:DBk=>b.1) fun i hi=>(hb i hi).2.2,fun b hm=>?_,by have:=h.2;simp only [iLe,decide_eq_true_eq] at this;omega,fun b hm=>?_⟩
 ·obtain ⟨i,hi,rfl⟩:=List.getElem_of_mem hm;exact blk_nn (hb i hi).1
 ·obtain ⟨i,hi,rfl⟩:=List.getElem_of_mem hm;exact (hb i hi).1
 ·obtain ⟨i,hi,rfl⟩:=List.getElem_of_mem hm
  cases hr:rootB (bQc l[i]) with
  |true=>exact .inl ⟨root_blk hr,rfl⟩
  |false =>
   have h1:=noRoot_lt (hb i hi).1 hr
   have h2:=(hq i hi).2
   rw [hr,Bool.false_or] at h2
   unfold parentB at h2
   refine .inr ⟨h1.1,h1.2,rfl,?_⟩
   cases hf:l.find? (fun z=>iEq z.1 (bQc l[i]).2.1) with
   |none=>rw [hf] at h2;cases h2
   |some p =>
    rw [hf] at h2
    have h3:=List.find?_some hf
    simp only [iEq,decide_eq_true_eq] at h2 h3
    exact ⟨p,List.mem_of_find?_eq_some hf,h3,h2⟩
 ·obtain ⟨i,hi,rfl⟩:=List.getElem_of_mem hm;simpa [iEq] using (hb i hi).2.1
theorem TreeF.uniq {l:List DBk} (h:TreeF l) {i j:Nat} (hi:i<l.length) (hj:j<l.length) (e:l[i].1=l[j].1):i=j:=by
 rcases Nat.lt_trichotomy i j with h1|h1|h1
 ·have:=h.asc i j hi hj h1;omega
 ·exact h1
 ·have:=h.asc j i hj hi h1;omega
theorem TreeF.uniqB {l:List DBk} (h:TreeF l) {a b:DBk} (ha:a∈l) (hb:b∈l) (e:a.1=b.1):a=b:=by
 obtain ⟨i,hi,rfl⟩:=List.getElem_of_mem ha
 obtain ⟨j,hj,rfl⟩:=List.getElem_of_mem hb
 have:=h.uniq hi hj e
 subst this
 rfl
theorem blkAt_of {l:List DBk} (h:TreeF l) {j:Nat} (hj:j<l.length):blkAt l l[j].1=(j:Int):=by
 unfold blkAt
 rcases idxOf_cases l (fun b=>iEq b.1 l[j].1) with ⟨h1,_,_⟩|⟨k,hk,hp,_,_,_,h3⟩
 ·rw [List.any_eq_false] at h1
  exact absurd (by simp [iEq]) (h1 l[j] (List.getElem_mem hj))
 ·simp only [iEq,decide_eq_true_eq] at hp
  have:=h.uniq hk hj hp
  rw [h3,this]
theorem getI_blkAt {l:List DBk} (h:TreeF l) {b:DBk} (hb:b∈l):getI l (blkAt l b.1)=some b∧iLt (blkAt l b.1) 0=false:=by
 obtain ⟨j,hj,rfl⟩:=List.getElem_of_mem hb
 rw [blkAt_of h hj]
 exact ⟨getI_lt hj,iLt_false (Int.natCast_nonneg j)⟩
theorem blkAt_cases {l:List DBk} (h:TreeF l) (id:Int):(l.find? (fun b=>iEq b.1 id)=none∧blkAt l id= -1∧∀b∈l,b.1≠id)∨∃b∈l,b.1=id∧l.find? (fun b=>iEq b.1 id)=some b∧0≤blkAt l id∧getI l (blkAt l id)=some b:=by
 unfold blkAt
 rcases idxOf_cases l (fun b=>iEq b.1 id) with ⟨h1,h2,h3⟩|⟨k,hk,hp,_,_,h2,h3⟩
 ·refine .inl ⟨h2,h3,fun b hb e=>?_⟩
  rw [List.any_eq_false] at h1
  exact absurd (by simp [iEq,e]) (h1 b hb)
 ·simp only [iEq,decide_eq_true_eq] at hp
  exact .inr ⟨l[k],List.getElem_mem hk,hp,h2,by rw [h3];exact Int.natCast_nonneg k,by rw [h3];exact getI_lt hk⟩
def chB (l:List DBk):Nat→Int→List DBk
 |0,_=> []
 |f+1,id=>match l.find? (fun b=>iEq b.1 id) with
  |none=> []
  |some b=>chB l f (bQc b).2.1++ [b]
def chain (l:List DBk) (id:Int):List DBk:=chB l (id.toNat+1) id
theorem chB_none {l:List DBk} {id:Int} (h:l.find? (fun b=>iEq b.1 id)=none):∀f,chB l f id= []
 |0=>rfl
 |f+1=>by unfold chB;rw [h]
theorem chB_fuel {l:List DBk} (h:TreeF l):∀(f g:Nat) (id:Int),id.toNat<f→id.toNat<g→chB l f id=chB l g id:=by
 intro f
 induction f with
 |zero=>intro g id hf;omega
 |succ f ih =>
  intro g id hf hg
  cases g with
  |zero=>omega
  |succ g =>
   rcases blkAt_cases h id with ⟨h1,_,_⟩|⟨b,hb,he,h1,_,_⟩
   ·rw [chB_none h1,chB_none h1]
   ·unfold chB
    rw [h1]
    dsimp only
    have hn:=h.nn b hb
    rcases h.par b hb with ⟨h2,_⟩|⟨h2,h3,_⟩
    ·have h4:l.find? (fun z=>iEq z.1 (bQc b).2.1)=none:=by
      rw [List.find?_eq_none]
      intro z hz
      have:=h.nn z hz
      simp only [iEq,decide_eq_true_eq]
      omega
     rw [chB_none h4,chB_none h4]
    ·rw [ih g (bQc b).2.1 (by omega) (by omega)]
theorem chain_some {l:List DBk} (h:TreeF l) {b:DBk} (hb:b∈l):chain l b.1=chain l (bQc b).2.1++ [b]:=by
 have hn:=h.nn b hb
 rcases blkAt_cases h b.1 with ⟨_,_,h1⟩|⟨c,hc,he,h1,_,_⟩
 ·exact absurd rfl (h1 b hb)
 ·have:c=b:=h.uniqB hc hb he
  subst this
  have e:chain l c.1=chB l c.1.toNat (bQc c).2.1++ [c]:=by simp only [chain,chB,h1]
  rw [e]
  congr 1
  rcases h.par c hb with ⟨h2,_⟩|⟨h2,h3,_⟩
  ·have h4:l.find? (fun z=>iEq z.1 (bQc c).2.1)=none:=by
    rw [List.find?_eq_none]
    intro z hz
    have:=h.nn z hz
    simp only [iEq,decide_eq_true_eq]
    omega
   unfold chain
   rw [chB_none h4,chB_none h4]
  ·exact chB_fuel h _ _ _ (by omega) (by omega)
theorem chain_none {l:List DBk} {id:Int} (h:∀b∈l,b.1≠id):chain l id= []:=chB_none (by
 rw [List.find?_eq_none]
 intro z hz
 have:=h z hz
 simpa [iEq] using this) _
theorem chain_neg {l:List DBk} (h:TreeF l) {id:Int} (hn:id<0):chain l id= []:=chain_none (fun b hb=>by have:=h.nn b hb;omega)
theorem chain_ind {l:List DBk} (h:TreeF l) {M:Int→Prop} (h0:∀id,(∀b∈l,b.1≠id)→M id) (h1:∀b∈l,M (bQc b).2.1→M b.1):∀id,M id:=by
 have key:∀(n:Nat) (id:Int),id.toNat<n→M id:=by
  intro n
  induction n with
  |zero=>intro id hn;omega
  |succ n ih =>
   intro id hn
   rcases blkAt_cases h id with ⟨_,_,h2⟩|⟨b,hb,he,_,_,_⟩
   ·exact h0 id h2
   ·rw [←he]
    refine h1 b hb ?_
    have hbn:=h.nn b hb
    rcases h.par b hb with ⟨h3,_⟩|⟨h3,h4,_⟩
    ·rw [h3];exact h0 _ (fun c hc=>by have:=h.nn c hc;omega)
    ·exact ih _ (by omega)
 exact fun id=>key (id.toNat+1) id (by omega)
theorem chain_mem {l:List DBk} (h:TreeF l):∀(id:Int) (b:DBk),b∈chain l id→b∈l:=by
 refine chain_ind h (fun id hn b hb=>?_) (fun b hb ih c hc=>?_)
 ·rw [chain_none hn] at hb;cases hb
 ·rw [chain_some h hb] at hc
  rcases List.mem_append.1 hc with hc|hc
  ·exact ih c hc
  ·rw [List.mem_singleton.1 hc];exact hb
theorem chain_len {l:List DBk} (h:TreeF l):∀(id:Int),(chain l id).length≤(id+1).toNat:=by
 refine chain_ind h (fun id hn=>?_) (fun b hb ih=>?_)
 ·rw [chain_none hn];exact Nat.zero_le _
 ·rw [chain_some h hb]
  have hn:=h.nn b hb
  simp only [List.length_append,List.length_cons,List.length_nil]
  rcases h.par b hb with ⟨h3,_⟩|⟨h3,h4,_⟩<;>omega
theorem chain_len1 {l:List DBk} (h:TreeF l) (id:Int):(chain l id).length≤100001:=by
 rcases blkAt_cases h id with ⟨_,_,h2⟩|⟨b,hb,he,_,_,_⟩
 ·rw [chain_none h2];exact Nat.zero_le _
 ·have:=chain_len h id
  have:=h.nn b hb
  omega
theorem chain_pre {l:List DBk} (h:TreeF l):∀(id:Int) (p r:List DBk) (b:DBk),chain l id=p++b::r→chain l b.1=p++ [b]:=by
 refine chain_ind h (fun id hn p r b e=>?_) (fun c hc ih p r b e=>?_)
 ·rw [chain_none hn] at e;simp at e
 ·rw [chain_some h hc] at e
  rcases List.eq_nil_or_concat r with rfl|⟨r',z,rfl⟩
  ·have:=(List.append_inj' e rfl)
   rw [chain_some h (by have:=this.2;simp at this;subst this;exact hc)]
   simp only [List.cons.injEq,and_true] at this
   obtain ⟨h1,rfl⟩:=this
   rw [h1]
  ·have e':chain l (bQc c).2.1++ [c]=(p++b::r')++ [z]:=by rw [e];simp
   exact ih p r' b (List.append_inj' e' rfl).1
def places (l:List DBk) (ch:List DBk):List D3:=ch.map (fun b=>(blkAt l b.1,()))
def idsOf (ch:List DBk):List D3:=ch.map (fun b=>(b.1,()))
theorem iLe_neg {a:Int} (h:a<0):iLe 0 a=false:=by simp [iLe];omega
theorem iLe_nn {a:Int} (h:0≤a):iLe 0 a=true:=by simp [iLe];exact h
theorem par_in {l:List DBk} (h:TreeF l) {b:DBk} (hb:b∈l):(bQc b).2.1<0∨∃p∈l,p.1=(bQc b).2.1:=by
 rcases h.par b hb with ⟨h3,_⟩|⟨_,_,_,p,hp,he,_⟩
 ·exact .inl (by omega)
 ·exact .inr ⟨p,hp,he⟩
theorem s_chain (l:List DBk) (id:Int) (hOk:(Ty.sl e154).Ok l) (h:TreeF l):F230 ((l,()),((id,()),()))=some ((places l (chain l id),()),()):=by
 have hl:L63 l.length:=hOk.1
 have key:∀id':Int,(id'<0∨∃b∈l,b.1=id')→∀out:List D3,(chain l id').length+out.length≤100001→∃e,loopF (F230.b0 ((l,()),((id,()),()))) (id',(out,()))=some (.inl (e,(places l (chain l id')++out,()))):=by
  refine chain_ind h (fun id' hn hc out ho=>?_) (fun b hb ih _ out ho=>?_)
  ·have hneg:id'<0:=hc.resolve_right (fun ⟨b,hb,he⟩=>hn b hb he)
   refine ⟨id',?_⟩
   rw [chain_none hn]
   refine loopF_end ?_
   unfold F230.b0
   exact no_then (iLe_neg hneg) rfl
  ·have hn:=h.nn b hb
   rw [chain_some h hb] at ho ⊢
   simp only [List.length_append,List.length_cons,List.length_nil] at ho
   obtain ⟨e,he⟩:=ih (par_in h hb) ((blkAt l b.1,())::out) (by simp only [List.length_cons];omega)
   refine ⟨e,?_⟩
   have hst:F230.b0 ((l,()),((id,()),())) (b.1,(out,()))=some (.inl ((bQc b).2.1,((blkAt l b.1,())::out,()))):=by
    unfold F230.b0
    refine thenT (iLe_nn hn.1) (bind_eq (s_blkAt l b.1 hl) (no_then (getI_blkAt h hb).2 (room_is ?_ (by decide) (by decide) (bind_eq (getI_blkAt h hb).1 rfl))))
    show 1+out.length≤1048577
    omega
   rw [loopF_step hst,he]
   unfold places
   simp
 unfold F230
 by_cases hc:id<0∨∃b∈l,b.1=id
 ·obtain ⟨e,he⟩:=key id hc [] (by have:=chain_len1 h id;simpa using this)
  rw [List.append_nil] at he
  exact bind_eq he rfl
 ·have h1:∀b∈l,b.1≠id:=fun b hb e=>hc (.inr ⟨b,hb,e⟩)
  have h2:0≤id:=by
   rcases Int.lt_or_le id 0 with h|h
   ·exact absurd (.inl h) hc
   ·exact h
  rw [chain_none h1]
  rcases blkAt_cases h id with ⟨_,h3,_⟩|⟨b,hb,he,_⟩
  ·refine bind_eq (loopF_end (e:= .inr (([],()),())) ?_) rfl
   unfold F230.b0
   exact thenT (iLe_nn h2) (bind_eq (s_blkAt l id hl) (thenT (by show iLt (blkAt l id) 0=true;rw [h3];rfl) rfl))
  ·exact absurd he (h1 b hb)
theorem rev_loop (xs:List D3) (hl:xs.length≤1048576):∀(m k:Nat) (Y:List D3),xs.length≤2*k+m→Y.length=xs.length →
  (∀p,p<xs.length→Y[p]?=if p<k∨xs.length - 1 - k<p then xs[xs.length - 1 - p]? else xs[p]?)→k≤xs.length →
  ∃i j,loopF F236.b0 ((k:Int),((xs.length:Int) - 1 - k,(Y,())))=some (.inl (i,(j,(xs.reverse,())))):=by
 have fin:∀(k:Nat) (Y:List D3),xs.length≤2*k+1→Y.length=xs.length →
  (∀p,p<xs.length→Y[p]?=if p<k∨xs.length - 1 - k<p then xs[xs.length - 1 - p]? else xs[p]?)→k≤xs.length →
  ∃i j,loopF F236.b0 ((k:Int),((xs.length:Int) - 1 - k,(Y,())))=some (.inl (i,(j,(xs.reverse,())))):=by
  intro k Y hm hlen hY hk
  have hYe:Y=xs.reverse:=by
   apply List.ext_getElem?
   intro p
   rcases Nat.lt_or_ge p xs.length with hp|hp
   ·rw [hY p hp,List.getElem?_reverse hp]
    split
    ·rfl
    ·have:p=xs.length - 1 - p:=by omega
     rw [←this]
   ·rw [List.getElem?_eq_none (by omega),List.getElem?_eq_none (by simp;omega)]
  refine ⟨(k:Int),(xs.length:Int) - 1 - k,loopF_end ?_⟩
  unfold F236.b0
  refine lt_else (show (xs.length:Int) - 1 - k≤(k:Int) by omega) ?_
  rw [hYe]
 intro m
 induction m with
 |zero=>intro k Y hm;exact fin k Y (by omega)
 |succ m ih =>
  intro k Y hm hlen hY hk
  rcases Nat.lt_or_ge (2*k+1) xs.length with hlt|hge
  ·have hj:(xs.length:Int) - 1 - k=((xs.length - 1 - k:Nat):Int):=by omega
   have hYj:Y[xs.length - 1 - k]?=some (xs[xs.length - 1 - k]'(by omega)):=by
    rw [hY _ (by omega),if_neg (by omega),List.getElem?_eq_getElem (by omega)]
   have hYk:Y[k]?=some (xs[k]'(by omega)):=by
    rw [hY _ (by omega),if_neg (by omega),List.getElem?_eq_getElem (by omega)]
   let Z:List D3:=Y.set k (xs[xs.length - 1 - k]'(by omega))
   have hZj:Z[xs.length - 1 - k]?=some (xs[xs.length - 1 - k]'(by omega)):=by
    show (Y.set _ _)[_]?=_
    rw [List.getElem?_set_ne (by omega)]
    exact hYj
   have hst:F236.b0 ((k:Int),((xs.length:Int) - 1 - k,(Y,())))=some (.inl (((k+1:Nat):Int),((xs.length:Int) - 1 - ((k+1:Nat):Int),(Z.set (xs.length - 1 - k) (xs[k]'(by omega)),())))):=by
    rw [hj]
    unfold F236.b0
    refine lt_then (show (k:Int)<((xs.length - 1 - k:Nat):Int) by omega) (bind_eq (getI_of hYj) (bind_eq (getN_of hYj) (bind_eq (getI_of hYk) (bind_eq (getN_of hYk) (bind_eq (getI_of hYk) (bind_eq (getN_of hYk) (bind_eq rfl (bind_eq (getI_of hZj) (bind_eq (getN_of hZj) (bind_eq rfl ?_))))))))))
    have e1:iAdd .i64 (k:Int) 1=((k+1:Nat):Int):=nxt (n:=xs.length) (by omega) (by unfold L63;omega)
    have e2:iSub .i64 ((xs.length - 1 - k:Nat):Int) 1=(xs.length:Int) - 1 - ((k+1:Nat):Int):=by rw [iSub_small (by omega) (by omega)];omega
    exact st3 e1 e2 rfl
   rw [loopF_step hst]
   refine ih (k+1) _ (by omega) (by simp [Z,hlen]) (fun p hp=>?_) (by omega)
   by_cases h1:p=xs.length - 1 - k
   ·subst h1
    rw [List.getElem?_set_self (by simp [Z,hlen];omega),if_pos (by omega),←List.getElem?_eq_getElem (by omega)]
    congr 1;omega
   ·rw [List.getElem?_set_ne (by omega)]
    by_cases h2:p=k
    ·subst h2
     show (Y.set _ _)[_]?=_
     rw [List.getElem?_set_self (by omega),if_pos (by omega),←List.getElem?_eq_getElem (by omega)]
    ·show (Y.set _ _)[_]?=_
     rw [List.getElem?_set_ne (by omega),hY p hp]
     by_cases h3:p<k∨xs.length - 1 - k<p
     ·rw [if_pos h3,if_pos (by omega)]
     ·rw [if_neg h3,if_neg (by omega)]
  ·exact fin k Y (by omega) hlen hY hk
theorem i_revInts (xs:List D3) (hl:xs.length≤1048576):F236 ((xs,()),())=some ((xs.reverse,()),()):=by
 obtain ⟨i,j,h⟩:=rev_loop xs hl xs.length 0 xs (by omega) rfl (fun p hp=>by rw [if_neg (by omega)]) (Nat.zero_le _)
 unfold F236
 have e:iSub .i64 (List.length xs:Int) 1=(xs.length:Int) - 1 - ((0:Nat):Int):=by rw [iSub_small (by omega) (by omega)];omega
 rw [show iSub .i64 (List.length ((xs,()),()).1.1:Int) (1:Int)=iSub .i64 (List.length xs:Int) 1 from rfl,e]
 exact bind_eq h rfl
theorem i_chain (l:List DBk) (id:Int) (hOk:(Ty.sl e154).Ok l) (h:TreeF l):F223 ((l,()),((id,()),()))=some ((idsOf (chain l id),()),()):=by
 have hl:L63 l.length:=hOk.1
 have key:∀id':Int,∀out:List D3,(chain l id').length+out.length≤100001→loopF (F223.b0 ((l,()),((id,()),()))) (out,(blkAt l id',()))=some (.inl (out++(idsOf (chain l id')).reverse,(-1,()))):=by
  refine chain_ind h (fun id' hn out ho=>?_) (fun b hb ih out ho=>?_)
  ·rw [chain_none hn]
   rcases blkAt_cases h id' with ⟨_,h3,_⟩|⟨b,hb,he,_⟩
   ·rw [h3]
    refine loopF_end ?_
    unfold F223.b0
    refine no_then rfl ?_
    simp [idsOf]
   ·exact absurd he (hn b hb)
  ·rw [chain_some h hb] at ho ⊢
   simp only [List.length_append,List.length_cons,List.length_nil] at ho
   have hg:=getI_blkAt h hb
   have hst:F223.b0 ((l,()),((id,()),())) (out,(blkAt l b.1,()))=some (.inl (out++ [(b.1,())],(blkAt l (bQc b).2.1,()))):=by
    unfold F223.b0
    refine thenT (by show iLe 0 (blkAt l b.1)=true;rw [iLe_lt,hg.2];rfl) (bind_eq hg.1 (room_is ?_ (by decide) (by decide) (bind_eq hg.1 (bind_eq (i_blkAt l _ hl) rfl))))
    show out.length+1≤1048577
    omega
   rw [loopF_step hst,ih _ (by simp only [List.length_append,List.length_cons,List.length_nil];omega)]
   simp [idsOf]
 unfold F223
 refine bind_eq (i_blkAt l id hl) (bind_eq (key id [] (by have:=chain_len1 h id;simpa using this)) (bind_eq (i_revInts _ (by have:=chain_len1 h id;simp [idsOf];omega)) ?_))
 simp
def commitId (l:List DBk) (q:DQc):Int:=match l.find? (fun b=>iEq b.1 q.2.1) with
 |none=> -1
 |some b=>bif !iEq b.2.2.1 q.1 then -1 else match l.find? (fun z=>iEq z.1 (bQc b).2.1) with
  |none=> -1
  |some p=>bif !iEq p.2.2.1 (iSub .i64 q.1 1) then -1 else p.1
theorem commitId_in {l:List DBk} {q:DQc} (h:iEq (commitId l q) (-1)=false):∃p∈l,p.1=commitId l q:=by
 unfold commitId at h ⊢
 cases h1:l.find? (fun b=>iEq b.1 q.2.1) with
 |none=>rw [h1] at h;simp [iEq] at h
 |some b =>
  rw [h1] at h
  dsimp only at h ⊢
  cases h2:iEq b.2.2.1 q.1 with
  |false=>rw [h2] at h;simp [iEq] at h
  |true =>
   rw [h2] at h
   cases h3:l.find? (fun z=>iEq z.1 (bQc b).2.1) with
   |none=>rw [h3] at h;simp [iEq] at h
   |some p =>
    rw [h3] at h
    dsimp only at h ⊢
    cases h4:iEq p.2.2.1 (iSub .i64 q.1 1) with
    |false=>rw [h4] at h;simp [iEq] at h
    |true=>exact ⟨p,List.mem_of_find?_eq_some h3,rfl⟩
theorem s_commitOf (l:List DBk) (q:DQc) (hl:L63 l.length) (h:TreeF l):F192 ((l,()),(q,()))=some (I1 (commitId l q)):=by
 unfold F192 commitId
 refine bind_eq (s_blkAt l q.2.1 hl) ?_
 rcases blkAt_cases h q.2.1 with ⟨h1,h2,_⟩|⟨b,hb,he,h1,h2,h3⟩
 ·rw [h1,h2];rfl
 ·rw [h1]
  refine no_then (iLt_false h2) (bind_eq h3 ?_)
  dsimp only
  cases hr:iEq b.2.2.1 q.1 with
  |false=>exact thenT rfl rfl
  |true =>
   refine no_then rfl (bind_eq h3 (bind_eq (s_blkAt l _ hl) ?_))
   rcases blkAt_cases h (bQc b).2.1 with ⟨k1,k2,_⟩|⟨p,hp,pe,k1,k2,k3⟩
   ·rw [k1];exact thenT (by show iLt (blkAt l (bQc b).2.1) 0=true;rw [k2];rfl) rfl
   ·rw [k1]
    refine no_then (iLt_false k2) (bind_eq k3 ?_)
    dsimp only
    cases hp2:iEq p.2.2.1 (iSub .i64 q.1 1) with
    |false=>exact thenT rfl rfl
    |true=>exact no_then rfl (bind_eq k3 rfl)
theorem i_commitOf (l:List DBk) (q:DQc) (hl:L63 l.length) (h:TreeF l):F222 ((l,()),(q,()))=some (I1 (commitId l q)):=by
 unfold F222 commitId
 refine bind_eq (i_blkAt l q.2.1 hl) ?_
 rcases blkAt_cases h q.2.1 with ⟨h1,h2,_⟩|⟨b,hb,he,h1,h2,h3⟩
 ·rw [h1,h2];rfl
 ·rw [h1]
  refine no_then (iLt_false h2) (bind_eq h3 ?_)
  dsimp only
  cases hr:iEq b.2.2.1 q.1 with
  |false=>exact thenT rfl rfl
  |true =>
   have hrq:b.2.2.1=q.1:=by simpa [iEq] using hr
   refine no_then rfl (bind_eq h3 (bind_eq (i_blkAt l _ hl) ?_))
   rcases blkAt_cases h (bQc b).2.1 with ⟨k1,k2,_⟩|⟨p,hp,pe,k1,k2,k3⟩
   ·rw [k1];exact thenT (by show iLt (blkAt l (bQc b).2.1) 0=true;rw [k2];rfl) rfl
   ·rw [k1]
    refine no_then (iLt_false k2) (bind_eq k3 (bind_eq h3 ?_))
    dsimp only
    cases hp2:iEq p.2.2.1 (iSub .i64 q.1 1) with
    |false=>exact thenT (by show (!iEq p.2.2.1 (iSub .i64 b.2.2.1 1))=_;rw [hrq,hp2];rfl) rfl
    |true=>exact no_then (by show (!iEq p.2.2.1 (iSub .i64 b.2.2.1 1))=_;rw [hrq,hp2];rfl) (bind_eq k3 rfl)
theorem s_lchain (l:List DBk) (id:Int) (hOk:(Ty.sl e154).Ok l) (h:TreeF l) (hL:∀b∈l,BlockL b):F211 ((l,()),((id,()),()))=some ((chain l id,()),()):=by
 have hc:=chain_len1 h id
 have hpl:(places l (chain l id)).length=(chain l id).length:=by unfold places;simp
 have sp:=loopF_trace (f:=F211.b0 ((places l (chain l id),()),()) ((l,()),((id,()),()))) (fun k=>((chain l id).take k,((k:Int),()))) (chain l id).length (e:=Sum.inl (chain l id,(((chain l id).length:Int),()))) (fun k hk=>by
  have hm:=chain_mem h id _ (List.getElem_mem hk)
  have hx:(places l (chain l id))[k]?=some (blkAt l (chain l id)[k].1,()):=by unfold places;rw [List.getElem?_map,List.getElem?_eq_getElem hk];rfl
  unfold F211.b0
  refine lt_then (show (k:Int)<((places l (chain l id)).length:Int) by rw [hpl];omega) (bind_eq (getI_of hx) (bind_eq (getN_of hx) (bind_eq (getI_blkAt h hm).1 (bind_eq (s_cblk _ (hL _ hm)) (room_is ?_ (by decide) (by decide) ?_)))))
  ·show ((chain l id).take k).length+1≤1048577
   rw [List.length_take];omega
  ·refine st2 ?_ (nxt (n:=(chain l id).length) hk (by unfold L63;omega))
   rw [List.take_succ_eq_append_getElem hk];rfl)
  (by
  unfold F211.b0
  refine lt_else (show ((places l (chain l id)).length:Int)≤((chain l id).length:Int) by rw [hpl];exact Int.le_refl _) ?_
  rw [List.take_length])
 unfold F211
 exact bind_eq (s_chain l id hOk h) (bind_eq sp rfl)
def hasD (d:List D3) (n:Int):Bool:=d.any (fun x=>iEq x.1 n)
def addD (d:List D3) (n:Int):List D3:=bif hasD d n then d else d++ [(n,())]
def addDs (d:List D3) (ids:List D3):List D3:=ids.foldl (fun d x=>addD d x.1) d
theorem addD_len (d:List D3) (n:Int):(addD d n).length≤d.length+1:=by
 unfold addD
 cases hasD d n<;>simp
theorem addDs_len:∀(ids d:List D3),(addDs d ids).length≤d.length+ids.length
 | [],d=>by simp [addDs]
 |x::r,d=>by
  have h1:=addDs_len r (addD d x.1)
  have h2:=addD_len d x.1
  have h3:addDs d (x::r)=addDs (addD d x.1) r:=rfl
  rw [h3,List.length_cons]
  omega
theorem s_hasInt (d:List D3) (n:Int) (hl:L63 d.length):F213 ((d,()),((n,()),()))=some (B1 (hasD d n)):=by
 have lp:=loopHas (S:=Int×Unit) d (fun x=>iEq x.1 n) (f:=F213.b0 ((d,()),((n,()),()))) (fun k=>(k,())) (Sum.inl ((d.length:Int),())) (Sum.inr (B1 true)) (fun i hi=>by
  unfold F213.b0
  refine lt_then (Int.ofNat_lt.2 hi) (bind_eq (getI_lt hi) ?_)
  rw [←nxt hi hl]) (by
  unfold F213.b0
  exact lt_else (Int.le_refl _) rfl)
 unfold F213
 refine bind_eq lp ?_
 unfold hasD
 cases d.any (fun x=>iEq x.1 n)<;>rfl
theorem iEq_flip (a b:Int):iEq a b=iEq b a:=by simp only [iEq];exact decide_eq_decide.2 eq_comm
theorem i_idxInt (d:List D3) (n:Int) (hl:L63 d.length):F239 ((d,()),((n,()),()))=some (I1 (idxOf d (fun x=>iEq n x.1))):=by
 have lp:=loopIdx (S:=Int×Unit) d (fun x=>iEq n x.1) (f:=F239.b0 ((d,()),((n,()),()))) (fun k=>(k,())) (Sum.inl ((d.length:Int),())) (fun i=>Sum.inr (I1 i)) (fun i hi=>by
  unfold F239.b0
  refine lt_then (Int.ofNat_lt.2 hi) (bind_eq (getI_lt hi) ?_)
  rw [←nxt hi hl]) (by
  unfold F239.b0
  exact lt_else (Int.le_refl _) rfl)
 unfold F239
 refine bind_eq lp ?_
 rcases idxOf_cases d (fun x=>iEq n x.1) with ⟨h1,_,h3⟩|⟨j,hj,_,_,h1,_,h3⟩<;>rw [h1,h3]<;>rfl
theorem i_hasInt (d:List D3) (n:Int) (hl:L63 d.length):F225 ((d,()),((n,()),()))=some (B1 (hasD d n)):=by
 unfold F225
 refine bind_eq (i_idxInt d n hl) ?_
 have:hasD d n=d.any (fun x=>iEq n x.1):=by unfold hasD;congr 1;funext x;exact iEq_flip _ _
 rw [this,←idxOf_any]
theorem idxFunc_int (l:List D3) (g:D3→Option (Bool×Unit)) (p:D3→Bool) (hg:∀x∈l,g x=some (p x,())) (hl:L63 l.length):F237 ((l,()),((g,()),()))=some (I1 (idxOf l p)):=by
 have lp:=loopIdx (S:=Int×Unit) l p (f:=F237.b0 ((l,()),((g,()),()))) (fun k=>(k,())) (Sum.inl ((l.length:Int),())) (fun i=>Sum.inr (I1 i)) (fun i hi=>by
  unfold F237.b0
  refine lt_then (Int.ofNat_lt.2 hi) (bind_eq (getI_lt hi) (bind_eq (hg _ (List.getElem_mem hi)) ?_))
  rw [←nxt hi hl]) (by
  unfold F237.b0
  exact lt_else (Int.le_refl _) rfl)
 unfold F237
 refine bind_eq lp ?_
 rcases idxOf_cases l p with ⟨h1,_,h3⟩|⟨j,hj,_,_,h1,_,h3⟩<;>rw [h1,h3]<;>rfl
theorem idxOf_map {A B:Type} (f:A→B) (p:B→Bool) (l:List A):idxOf (l.map f) p=idxOf l (fun x=>p (f x)):=by
 unfold idxOf
 rw [List.findIdx?_map]
 rfl
theorem idxOf_congr {A:Type} {p q:A→Bool} {l:List A} (h:∀x∈l,p x=q x):idxOf l p=idxOf l q:=by
 have:l.findIdx? p=l.findIdx? q:=by
  induction l with
  |nil=>rfl
  |cons a l ih =>
   rw [List.findIdx?_cons,List.findIdx?_cons,h a (by simp),ih (fun x hx=>h x (by simp [hx]))]
 unfold idxOf
 rw [this]
def endB (l:List DBk) (x:D3):Bool:=match l.find? (fun b=>iEq b.1 x.1) with
 |some b=>bEnd b
 |none=>false
theorem endB_of {l:List DBk} (h:TreeF l) {b:DBk} (hb:b∈l):endB l (b.1,())=bEnd b:=by
 unfold endB
 rcases blkAt_cases h b.1 with ⟨_,_,h1⟩|⟨c,hc,he,h1,_,_⟩
 ·exact absurd rfl (h1 b hb)
 ·have h1:l.find? (fun z=>iEq z.1 ((b.1,()):D3).1)=some c:=h1
  rw [h1,h.uniqB hc hb he]
theorem i_endOf (l ch:List DBk) (hl:L63 l.length) (h:TreeF l) (hc:∀b∈ch,b∈l) (hcl:L63 ch.length):F224 ((l,()),((idsOf ch,()),()))=some (I1 (idxOf ch (fun b=>bEnd b))):=by
 unfold F224
 refine bind_eq (idxFunc_int (idsOf ch) _ (endB l) (fun x hx=>?_) (by unfold idsOf;rw [List.length_map];exact hcl)) ?_
 ·obtain ⟨b,hb,rfl⟩:=List.mem_map.1 hx
  rw [endB_of h (hc b hb)]
  exact bind_eq (show F238 _=some (B1 (bEnd b)) from by
   unfold F238
   exact bind_eq (i_blkAt l b.1 hl) (bind_eq (getI_blkAt h (hc b hb)).1 rfl)) rfl
 ·have e:idxOf (idsOf ch) (endB l)=idxOf ch (fun b=>bEnd b):=by
   unfold idsOf
   rw [idxOf_map]
   exact idxOf_congr (fun x hx=>endB_of h (hc x hx))
  rw [e]
noncomputable def foldR (L:DLe) (ch:List DBk):DLe:=ch.foldl (fun s b=>(allR s (bTxs b)).2) L
theorem foldR_ok:∀(ch:List DBk) (L:DLe),(Ty.sl e207).Ok L.2.1→AcctL L.2.1→(∀b∈ch,(Ty.sl e169).Ok (bTxs b))→(Ty.sl e207).Ok (foldR L ch).2.1∧AcctL (foldR L ch).2.1
 | [],L,h1,h2,_=>⟨h1,h2⟩
 |b::r,L,h1,h2,h3=>by
  obtain ⟨_,_,h4,h5⟩:=all_both L (bTxs b) h1 h2 (h3 b (by simp))
  exact foldR_ok r _ h4 h5 (fun c hc=>h3 c (by simp [hc]))
theorem foldR_app (L:DLe) (p r:List DBk):foldR L (p++r)=foldR (foldR L p) r:=by unfold foldR;rw [List.foldl_append]
theorem i_ledgerAt (L:DLe) (l:List DBk) (id:Int) (hL:(Ty.sl e207).Ok L.2.1) (hAL:AcctL L.2.1) (hOk:(Ty.sl e154).Ok l) (h:TreeF l) :
  F226 (L,((l,()),((id,()),())))=some (foldR L (chain l id),()):=by
 have hl:L63 l.length:=hOk.1
 have hc:=chain_len1 h id
 have hlen:(idsOf (chain l id)).length=(chain l id).length:=by unfold idsOf;simp
 have htx:∀b∈chain l id,(Ty.sl e169).Ok (bTxs b):=fun b hb=>(show BOk b from Ok_mem hOk.2 (chain_mem h id b hb)).txs
 have sp:=loopFold (S:=Int×(Int×(List D207×Unit))) (chain l id) (fun s b=>(allR s (bTxs b)).2) (fun _ s=>(Ty.sl e207).Ok s.2.1∧AcctL s.2.1) (f:=F226.b0 ((idsOf (chain l id),()),()) (L,((l,()),((id,()),())))) (fun s k=>(k,(s.1,(s.2.1,())))) (fun s=>Sum.inl (((chain l id).length:Int),(s.1,(s.2.1,())))) L ⟨hL,hAL⟩ (fun i hi s hI=>by
  have hm:=chain_mem h id _ (List.getElem_mem hi)
  have hx:(idsOf (chain l id))[i]?=some ((chain l id)[i].1,()):=by unfold idsOf;rw [List.getElem?_map,List.getElem?_eq_getElem hi];rfl
  obtain ⟨_,h2,h3,h4⟩:=all_both s (bTxs (chain l id)[i]) hI.1 hI.2 (htx _ (List.getElem_mem hi))
  refine ⟨?_,h3,h4⟩
  unfold F226.b0
  refine lt_then (show (i:Int)<((idsOf (chain l id)).length:Int) by rw [hlen];omega) (bind_eq (getI_of hx) (bind_eq (getN_of hx) (bind_eq (i_blkAt l _ hl) (bind_eq (getI_blkAt h hm).1 (bind_eq h2 ?_)))))
  rw [←nxt (n:=(chain l id).length) hi (by unfold L63;omega)]) (fun s _=>by
  unfold F226.b0
  exact lt_else (show ((idsOf (chain l id)).length:Int)≤((chain l id).length:Int) by rw [hlen];exact Int.le_refl _) rfl)
 unfold F226
 exact bind_eq (i_cledger L hAL) (bind_eq (i_chain l id hOk h) (bind_eq sp.1 rfl))
def keepT (g:DLe) (t:D169):Bool:=match g.2.1.find? (fun a=>sEq a.1 t.2.1) with
 |some a=>iLe a.2.2.1 t.2.2.2.2.1
 |none=>false
def dropL (pool:List D169) (g:DLe):List D169:=pool.filter (keepT g)
theorem acc_cases (l:List D207) (s:ByteArray):(l.find? (fun a=>sEq a.1 s)=none∧accAt l s= -1)∨∃a∈l,l.find? (fun a=>sEq a.1 s)=some a∧0≤accAt l s∧getI l (accAt l s)=some a:=by
 unfold accAt
 rcases idxOf_cases l (fun a=>sEq a.1 s) with ⟨h1,h2,h3⟩|⟨k,hk,hp,_,_,h2,h3⟩
 ·exact .inl ⟨h2,h3⟩
 ·exact .inr ⟨l[k],List.getElem_mem hk,h2,by rw [h3];exact Int.natCast_nonneg k,by rw [h3];exact getI_lt hk⟩
theorem filter_take {A:Type} (p:A→Bool) (l:List A) {i:Nat} (hi:i<l.length):(l.take (i+1)).filter p=(l.take i).filter p++(bif p l[i] then [l[i]] else []):=by
 rw [List.take_succ_eq_append_getElem hi,List.filter_append]
 cases h:p l[i]<;>simp [h]
theorem fl_len {A:Type} (p:A→Bool) (l:List A) (i:Nat):((l.take i).filter p).length≤l.length:=Nat.le_trans (List.length_filter_le _ _) (by rw [List.length_take];omega)
theorem s_drop (pool:List D169) (g:DLe) (hp:W1 pool.length) (hg:L63 g.2.1.length):F215 ((pool,()),(g,()))=some ((dropL pool g,()),()):=by
 have hl:L63 pool.length:=hp.l
 unfold W1 at hp
 have sp:=loopF_trace (f:=F215.b0 ((pool,()),(g,()))) (fun k=>((pool.take k).filter (keepT g),((k:Int),()))) pool.length (e:=Sum.inl (dropL pool g,((pool.length:Int),()))) (fun k hk=>by
  unfold F215.b0
  refine lt_then (Int.ofNat_lt.2 hk) (bind_eq (getI_lt hk) (bind_eq (s_acctAt g.2.1 _ hg) ?_))
  have hlen:=fl_len (keepT g) pool k
  rcases acc_cases g.2.1 (pool[k]).2.1 with ⟨h1,h2⟩|⟨a,ha,h1,h2,h3⟩
  ·have hk0:keepT g pool[k]=false:=by unfold keepT;rw [h1]
   refine no_then (by show iLe 0 (accAt g.2.1 (pool[k]).2.1)=false;rw [h2];rfl) (st2 ?_ (nxt hk hl))
   rw [filter_take _ _ hk,hk0];simp
  ·refine thenT (iLe_nn h2) (bind_eq (getI_lt hk) (bind_eq h3 ?_))
   have hk0:keepT g pool[k]=iLe a.2.2.1 (pool[k]).2.2.2.2.1:=by unfold keepT;rw [h1]
   cases hc:iLe a.2.2.1 (pool[k]).2.2.2.2.1 with
   |true =>
    refine bind_eq (getI_lt hk) (room_is (by show ((pool.take k).filter (keepT g)).length+1≤1048577;omega) (by decide) (by decide) (st2 ?_ (nxt hk hl)))
    rw [filter_take _ _ hk,hk0,hc];rfl
   |false =>
    refine st2 ?_ (nxt hk hl)
    rw [filter_take _ _ hk,hk0,hc];simp) (by
  unfold F215.b0
  refine lt_else (Int.le_refl _) ?_
  rw [List.take_length];rfl)
 unfold F215
 exact bind_eq sp rfl
theorem i_drop (pool:List D169) (g:DLe) (hp:W1 pool.length) (hg:L63 g.2.1.length):F227 ((pool,()),(g,()))=some ((dropL pool g,()),()):=by
 have hl:L63 pool.length:=hp.l
 unfold W1 at hp
 have sp:=loopF_trace (f:=F227.b0 ((pool,()),(g,()))) (fun k=>((pool.take k).filter (keepT g),((k:Int),()))) pool.length (e:=Sum.inl (dropL pool g,((pool.length:Int),()))) (fun k hk=>by
  unfold F227.b0
  refine lt_then (Int.ofNat_lt.2 hk) (bind_eq (getI_lt hk) (bind_eq (i_acctAt g.2.1 _ hg) ?_))
  have hlen:=fl_len (keepT g) pool k
  rcases acc_cases g.2.1 (pool[k]).2.1 with ⟨h1,h2⟩|⟨a,ha,h1,h2,h3⟩
  ·have hk0:keepT g pool[k]=false:=by unfold keepT;rw [h1]
   refine no_then (by show iLe 0 (accAt g.2.1 (pool[k]).2.1)=false;rw [h2];rfl) (st2 ?_ (nxt hk hl))
   rw [filter_take _ _ hk,hk0];simp
  ·refine thenT (iLe_nn h2) (bind_eq h3 ?_)
   have hk0:keepT g pool[k]=iLe a.2.2.1 (pool[k]).2.2.2.2.1:=by unfold keepT;rw [h1]
   cases hc:iLe a.2.2.1 (pool[k]).2.2.2.2.1 with
   |true =>
    refine room_is (by show ((pool.take k).filter (keepT g)).length+1≤1048577;omega) (by decide) (by decide) (st2 ?_ (nxt hk hl))
    rw [filter_take _ _ hk,hk0,hc];rfl
   |false =>
    refine st2 ?_ (nxt hk hl)
    rw [filter_take _ _ hk,hk0,hc];simp) (by
  unfold F227.b0
  refine lt_else (Int.le_refl _) ?_
  rw [List.take_length];rfl)
 unfold F227
 exact bind_eq sp rfl
theorem keep_next (g:DLe) (hOk:(Ty.sl e207).Ok g.2.1) (hAL:AcctL g.2.1) (t:D169):keepT (nextR g) t=keepT g t:=by
 rcases nextR_is g hOk hAL with h|⟨h,_,_⟩
 ·rw [h]
 ·rw [h]
  unfold keepT
  show (match (g.2.1.map (epAcct _)).find? (fun a=>sEq a.1 t.2.1) with|some a=>_|none=>_)=_
  rw [List.find?_map]
  show (match (g.2.1.find? (fun a=>sEq a.1 t.2.1)).map (epAcct _) with|some a=>_|none=>_)=_
  cases g.2.1.find? (fun a=>sEq a.1 t.2.1)<;>rfl
theorem drop_next (pool:List D169) (g:DLe) (hOk:(Ty.sl e207).Ok g.2.1) (hAL:AcctL g.2.1):dropL pool (nextR g)=dropL pool g:=by
 unfold dropL
 congr 1
 funext t
 exact keep_next g hOk hAL t
noncomputable def walk:List DBk→DLe→List D3→DLe×(List D3×Option DBk)
 | [],g,d=>(g,(d,none))
 |b::r,g,d=>bif bEnd b then ((allR g (bTxs b)).2,(addD d b.1,some b)) else walk r (allR g (bTxs b)).2 (addD d b.1)
def cutEnd:List DBk→List DBk
 | []=> []
 |b::r=>bif bEnd b then [b] else b::cutEnd r
theorem walk_eq:∀(ch:List DBk) (g:DLe) (d:List D3),walk ch g d=(foldR g (cutEnd ch),(addDs d (idsOf (cutEnd ch)),ch.find? (fun b=>bEnd b)))
 | [],g,d=>rfl
 |b::r,g,d=>by
  unfold walk cutEnd
  cases h:bEnd b with
  |true=>simp only [cond_true,List.find?_cons_of_pos h];rfl
  |false =>
   simp only [cond_false,List.find?_cons_of_neg (show ¬bEnd b=true by rw [h];simp)]
   rw [walk_eq r]
   rfl
theorem cutEnd_cases:∀(ch:List DBk),(ch.find? (fun b=>bEnd b)=none∧idxOf ch (fun b=>bEnd b)= -1∧cutEnd ch=ch)∨∃p b r,ch=p++b::r∧bEnd b=true∧ch.find? (fun b=>bEnd b)=some b∧idxOf ch (fun b=>bEnd b)=(p.length:Int)∧cutEnd ch=p++ [b]
 | []=> .inl ⟨rfl,rfl,rfl⟩
 |b::r=>by
  cases h:bEnd b with
  |true=>exact .inr ⟨[],b,r,rfl,h,by rw [List.find?_cons_of_pos h],by unfold idxOf;rw [List.findIdx?_cons,h];rfl,by unfold cutEnd;rw [h];rfl⟩
  |false =>
   have hf:(b::r).find? (fun b=>bEnd b)=r.find? (fun b=>bEnd b):=List.find?_cons_of_neg (by simp [h])
   have hi:(b::r).findIdx? (fun b=>bEnd b)=(r.findIdx? (fun b=>bEnd b)).map (· +1):=by rw [List.findIdx?_cons,h];rfl
   have hc:cutEnd (b::r)=b::cutEnd r:=by rw [cutEnd,h];rfl
   rcases cutEnd_cases r with ⟨h1,h2,h3⟩|⟨p,c,s,h1,h2,h3,h4,h5⟩
   ·refine .inl ⟨by rw [hf,h1],?_,by rw [hc,h3]⟩
    unfold idxOf at h2 ⊢
    rw [hi]
    cases hx:r.findIdx? (fun b=>bEnd b) with
    |none=>rfl
    |some j=>rw [hx] at h2;simp at h2<;>omega
   ·refine .inr ⟨b::p,c,s,by rw [h1];rfl,h2,by rw [hf,h3],?_,by rw [hc,h5];rfl⟩
    unfold idxOf at h4 ⊢
    rw [hi]
    cases hx:r.findIdx? (fun b=>bEnd b) with
    |none=>rw [hx] at h4;simp at h4<;>omega
    |some j=>rw [hx] at h4;simp at h4 ⊢;omega
theorem cutEnd_mem {ch:List DBk} {b:DBk} (h:b∈cutEnd ch):b∈ch:=by
 rcases cutEnd_cases ch with ⟨_,_,h3⟩|⟨p,c,s,h1,_,_,_,h5⟩
 ·rw [h3] at h;exact h
 ·rw [h5] at h;rw [h1]
  rcases List.mem_append.1 h with h|h
  ·exact List.mem_append_left _ h
  ·exact List.mem_append_right _ (by rw [List.mem_singleton.1 h];exact List.mem_cons_self)
theorem cutEnd_len (ch:List DBk):(cutEnd ch).length≤ch.length:=by
 rcases cutEnd_cases ch with ⟨_,_,h3⟩|⟨p,c,s,h1,_,_,_,h5⟩
 ·rw [h3];exact Nat.le_refl _
 ·rw [h5,h1];simp
def setDP (n:DNd) (d:List D3) (q:List D169):DNd:=(n.1,(n.2.1,(n.2.2.1,(n.2.2.2.1,(n.2.2.2.2.1,(n.2.2.2.2.2.1,(n.2.2.2.2.2.2.1,(n.2.2.2.2.2.2.2.1,(n.2.2.2.2.2.2.2.2.1,(n.2.2.2.2.2.2.2.2.2.1,(n.2.2.2.2.2.2.2.2.2.2.1,(n.2.2.2.2.2.2.2.2.2.2.2.1,(n.2.2.2.2.2.2.2.2.2.2.2.2.1,(n.2.2.2.2.2.2.2.2.2.2.2.2.2.1,(n.2.2.2.2.2.2.2.2.2.2.2.2.2.2.1,(n.2.2.2.2.2.2.2.2.2.2.2.2.2.2.2.1,(n.2.2.2.2.2.2.2.2.2.2.2.2.2.2.2.2.1,(d,(q,(nPast n,()))))))))))))))))))))
def begN (n:DNd) (g:DLe) (next:List D163) (d:List D3) (q:List D169) (past:List DPr):DNd:=(n.1,(g.1,(g.1,(g.2.1,(next,([],(1,(0,(0,(-1,([],(0,([],([],(0,([],([],(d,(q,(past,()))))))))))))))))))))
def proofN (n:DNd) (q:DQc):DPr:=(n.2.1,(chain (nTree n) q.2.1,(q.1,(q.2.1,(q.2.2.1,())))))
noncomputable def endN (n:DNd) (q:DQc) (g:DLe) (d:List D3) (b:DBk):DNd:=begN n (nextR g) (bNext b) d (dropL (nPool n) g) (nPast n++ [proofN n q])
noncomputable def commitN (n:DNd) (id:Int) (q:DQc):DNd:=match walk (chain (nTree n) id) (nBase n) (nDone n) with
 |(g,(d,none))=>setDP n d (dropL (nPool n) g)
 |(g,(d,some b))=>endN n q g d b
theorem loopScanN {S E A σ:Type} (xs:List A) (step:σ→A→Sum σ E) (I:Nat→σ→Prop) {f:S→Option (Sum S E)} (mk:σ→Int→S) (fin:σ→E) (s0:σ) (h0:I 0 s0)
  (hstep:∀i (h:i<xs.length) s,I i s→(∃s',step s xs[i]= .inl s'∧I (i+1) s'∧f (mk s (i:Int))=some (.inl (mk s' ((i+1:Nat):Int))))∨∃e,step s xs[i]= .inr e∧f (mk s (i:Int))=some (.inr e)) (hend:∀s,I xs.length s→f (mk s (xs.length:Int))=some (.inr (fin s))) :
  loopF f (mk s0 0)=some (scan step fin xs s0):=by
 have key:∀(suf pre:List A) (s:σ),pre++suf=xs→I pre.length s→loopF f (mk s (pre.length:Int))=some (scan step fin suf s):=by
  intro suf
  induction suf with
  |nil =>
   intro pre s hp hI
   simp only [List.append_nil] at hp
   subst hp
   exact loopF_end (hend s hI)
  |cons x suf ih =>
   intro pre s hp hI
   have hlt:pre.length<xs.length:=by rw [←hp];simp
   have hx:xs[pre.length]=x:=by
    have:xs[pre.length]?=some x:=by rw [←hp];simp
    rw [List.getElem?_eq_getElem hlt] at this
    simpa using this
   rcases hstep pre.length hlt s hI with ⟨s',h1,h2,h3⟩|⟨e,h1,h3⟩
   ·rw [hx] at h1
    rw [loopF_step h3]
    simp only [scan,h1]
    have:=ih (pre++ [x]) s' (by simpa using hp) (by simpa using h2)
    simpa using this
   ·rw [hx] at h1
    rw [loopF_end h3]
    simp only [scan,h1]
 simpa using key xs [] s0 rfl h0
structure NIn (n:DNd):Prop where
 ok:NOk n
 l:NodeL n
 t:TreeF (nTree n)
 d:(nDone n).length≤800000
 p:(nPast n).length≤800000
theorem NIn.bl {n:DNd} (h:NIn n):∀b∈nTree n,BlockL b:=h.l.2.2.2.1
theorem NIn.acc {n:DNd} (h:NIn n):AcctL (nBase n).2.1:=h.l.1
abbrev CmS:Type:=Int×(List DBk×(Int×(List D207×(List D3×Unit))))
noncomputable def cmStep (n:DNd) (q:DQc) (s:DLe×List D3) (b:DBk):Sum (DLe×List D3) (Sum CmS (DNd×Unit)) :=
 bif bEnd b then .inr (.inr (endN n q (allR s.1 (bTxs b)).2 (addD s.2 b.1) b,())) else .inl ((allR s.1 (bTxs b)).2,addD s.2 b.1)
theorem scan_walk (n:DNd) (q:DQc) (fin:DLe×List D3→Sum CmS (DNd×Unit)):∀(ch:List DBk) (g:DLe) (d:List D3),scan (cmStep n q) fin ch (g,d)=(match walk ch g d with
  |(g',(d',none))=>fin (g',d')
  |(g',(d',some b))=> .inr (endN n q g' d' b,()))
 | [],g,d=>rfl
 |b::r,g,d=>by
  unfold scan walk cmStep
  cases h:bEnd b with
  |true=>rfl
  |false=>exact scan_walk n q fin r _ _
theorem s_commit (n:DNd) (id:Int) (q:DQc) (h:NIn n) (hq:W1 (List.length q.2.2.1)):F193 (n,((id,()),(q,())))=some (commitN n id q,()):=by
 have hT:=h.ok.tree
 have hc:=chain_len1 h.t id
 have sc:=s_lchain (nTree n) id hT h.t h.bl
 have sq:=s_lchain (nTree n) q.2.1 hT h.t h.bl
 let fin:DLe×List D3→Sum CmS (DNd×Unit):=fun s=>Sum.inl (((chain (nTree n) id).length:Int),(chain (nTree n) id,(s.1.1,(s.1.2.1,(s.2,())))))
 let I:DLe×List D3→Prop:=fun s=>(Ty.sl e207).Ok s.1.2.1∧AcctL s.1.2.1
 have sp:=loopScanN (S:=CmS) (chain (nTree n) id) (cmStep n q) (fun i s=>(Ty.sl e207).Ok s.1.2.1∧AcctL s.1.2.1∧s.2.length≤800000+i) (f:=F193.b0 (n,((id,()),(q,())))) (fun s k=>(k,(chain (nTree n) id,(s.1.1,(s.1.2.1,(s.2,())))))) fin (nBase n,nDone n) ⟨h.ok.base,h.acc,h.d⟩ (fun i hi s hI=>by
  have hm:=chain_mem h.t id _ (List.getElem_mem hi)
  have hB:BOk (chain (nTree n) id)[i]:=Ok_mem hT.2 hm
  have hBL:=h.bl _ hm
  obtain ⟨a1,a2,a3,a4⟩:=all_both s.1 (bTxs (chain (nTree n) id)[i]) hI.1 hI.2.1 hB.txs
  have hd63:L63 s.2.length:=by unfold L63;omega
  have hjoin:∀(R:Type),((getI (chain (nTree n) id) (i:Int)).bind fun x6=>(F213 ((s.2,()),((x6.1,()),()))).bind fun y7=>bif (!y7.1.1) then (getI (chain (nTree n) id) (i:Int)).bind fun x8=>bif room (List.length s.2+List.length ([(x8.1,())]:List D3)) 8 then some (.inl (lapp s.2 ([(x8.1,())]:List D3),())) else none else some (.inl (s.2,())))=some (Sum.inl (addD s.2 (chain (nTree n) id)[i].1,()):Sum (List D3×Unit) R):=by
   intro R
   refine bind_eq (getI_lt hi) (bind_eq (s_hasInt s.2 _ hd63) ?_)
   unfold addD
   cases hasD s.2 (chain (nTree n) id)[i].1 with
   |true=>rfl
   |false=>exact bind_eq (getI_lt hi) (room_is (by show s.2.length+1≤1048577;omega) (by decide) (by decide) rfl)
  cases he:bEnd (chain (nTree n) id)[i] with
  |false =>
   refine .inl ⟨((allR s.1 (bTxs (chain (nTree n) id)[i])).2,addD s.2 (chain (nTree n) id)[i].1),by unfold cmStep;rw [he];rfl,⟨a3,a4,Nat.le_trans (addD_len _ _) (by omega)⟩,?_⟩
   unfold F193.b0
   refine lt_then (Int.ofNat_lt.2 hi) (bind_eq (getI_lt hi) (bind_eq a1 ?_))
   refine bind_eq (hjoin _) (bind_eq (getI_lt hi) (no_then he ?_))
   rw [←nxt (n:=(chain (nTree n) id).length) hi (by unfold L63;omega)]
  |true =>
   refine .inr ⟨.inr (endN n q (allR s.1 (bTxs (chain (nTree n) id)[i])).2 (addD s.2 (chain (nTree n) id)[i].1) (chain (nTree n) id)[i],()),by unfold cmStep;rw [he];rfl,?_⟩
   obtain ⟨n1,n2,n3,n4⟩:=nextR_eq _ a3 a4
   unfold F193.b0
   refine lt_then (Int.ofNat_lt.2 hi) (bind_eq (getI_lt hi) (bind_eq a1 ?_))
   refine bind_eq (hjoin _) (bind_eq (getI_lt hi) (thenT he (bind_eq sq (bind_eq (s_cqc q hq) (room_is (by show (nPast n).length+1≤1048577;have:=h.p;omega) (by decide) (by decide) (bind_eq n1 (bind_eq (s_drop (nPool n) _ h.l.2.2.2.2.2.2.2.2.2.2.1 n4.1.l) (bind_eq (getI_lt hi) (room_then hBL.2.2.2.2 (by decide) (by decide) ?_)))))))))
   rw [drop_next _ _ a3 a4]
   rfl) (fun s _=>by
  unfold F193.b0
  exact lt_else (Int.le_refl _) rfl)
 unfold F193
 refine bind_eq sc (bind_eq (s_cledger (nBase n) h.acc) (bind_eq sp ?_))
 rw [scan_walk]
 unfold commitN
 have hw:=foldR_ok (cutEnd (chain (nTree n) id)) (nBase n) h.ok.base h.acc (fun b hb=>(show BOk b from Ok_mem hT.2 (chain_mem h.t id b (cutEnd_mem hb))).txs)
 rw [walk_eq]
 cases (chain (nTree n) id).find? (fun b=>bEnd b) with
 |none=>exact bind_eq (s_drop (nPool n) _ h.l.2.2.2.2.2.2.2.2.2.2.1 hw.2.1.l) rfl
 |some b=>rfl
theorem ids_len (ch:List DBk):(idsOf ch).length=ch.length:=by unfold idsOf;simp
theorem ids_get {ch:List DBk} {i:Nat} (hi:i<ch.length):(idsOf ch)[i]?=some (ch[i].1,()):=by unfold idsOf;rw [List.getElem?_map,List.getElem?_eq_getElem hi];rfl
theorem chain_last {l:List DBk} (h:TreeF l) {b:DBk} (hb:b∈l):∃p,chain l b.1=p++ [b]:=⟨_,chain_some h hb⟩
theorem i_begin (n:DNd) (g:DLe) (next:List D163) (hg:(Ty.sl e207).Ok g.2.1) (hAL:AcctL g.2.1) (hn:W1 next.length):F228 (n,(g,((next,()),())))=some (begN n (nextR g) next (nDone n) (nPool n) (nPast n),()):=by
 obtain ⟨_,n2,_,_⟩:=nextR_eq g hg hAL
 unfold F228
 exact bind_eq n2 (bind_eq (i_clV next hn) (bind_eq (show F243 ()=some ((0,(-1,([],()))),()) from rfl) rfl))
theorem i_addLoop (ids d:List D3) (hi:ids.length≤100001) (hd:d.length≤800000):loopF (F206.b0 (ids,())) ((0:Int),(d,()))=some (.inl ((ids.length:Int),(addDs d ids,()))):=by
 have sp:=loopFold (S:=Int×(List D3×Unit)) ids (fun s x=>addD s x.1) (fun i s=>s.length≤800000+i) (f:=F206.b0 (ids,())) (fun s k=>(k,(s,()))) (fun s=>Sum.inl ((ids.length:Int),(s,()))) d hd (fun i hi' s hI=>by
  refine ⟨?_,Nat.le_trans (addD_len _ _) (by omega)⟩
  have hd63:L63 s.length:=by unfold L63;omega
  unfold F206.b0
  refine lt_then (Int.ofNat_lt.2 hi') (bind_eq (getI_lt hi') (bind_eq (i_hasInt s _ hd63) ?_))
  rw [←nxt (n:=ids.length) hi' (by unfold L63;omega)]
  unfold addD
  cases hasD s ids[i].1 with
  |true=>rfl
  |false=>exact room_is (by show s.length+1≤1048577;omega) (by decide) (by decide) rfl) (fun s _=>by
  unfold F206.b0
  exact lt_else (Int.le_refl _) rfl)
 exact sp.1
theorem i_copyLoop (n:DNd) (q:DQc) (ch:List DBk) (h:NIn n) (hc:∀b∈ch,b∈nTree n) (hl:ch.length≤100001):loopF (F206.b1 ((idsOf ch,()),()) (n,(q,()))) ((0:Int),([],()))=some (.inl ((ch.length:Int),(ch,()))):=by
 have hT:=h.ok.tree
 have sp:=loopF_trace (f:=F206.b1 ((idsOf ch,()),()) (n,(q,()))) (fun k=>((k:Int),(ch.take k,()))) ch.length (e:=Sum.inl ((ch.length:Int),(ch,()))) (fun k hk=>by
  have hm:=hc _ (List.getElem_mem hk)
  have hx:=ids_get hk
  unfold F206.b1
  refine lt_then (show (k:Int)<((idsOf ch).length:Int) by rw [ids_len];omega) (bind_eq (getI_of hx) (bind_eq (getN_of hx) (bind_eq (i_blkAt _ _ hT.1) (bind_eq (getI_blkAt h.t hm).1 (bind_eq (i_cblk _ (h.bl _ hm)) (room_is ?_ (by decide) (by decide) ?_))))))
  ·show (ch.take k).length+1≤1048577
   rw [List.length_take];omega
  ·refine st2 (nxt (n:=ch.length) hk (by unfold L63;omega)) ?_
   rw [List.take_succ_eq_append_getElem hk];rfl)
  (by
  unfold F206.b1
  refine lt_else (show ((idsOf ch).length:Int)≤(ch.length:Int) by rw [ids_len];exact Int.le_refl _) ?_
  rw [List.take_length])
 exact sp
noncomputable def commitR (n:DNd) (q:DQc):DNd:=bif iEq (commitId (nTree n) q) (-1) then n else commitN n (commitId (nTree n) q) q
theorem i_commit (n:DNd) (q:DQc) (h:NIn n) (hq:W1 (List.length q.2.2.1)):F206 (n,(q,()))=some (commitR n q,()):=by
 have hT:=h.ok.tree
 unfold F206 commitR
 refine bind_eq (i_commitOf (nTree n) q hT.1 h.t) ?_
 cases hid:iEq (commitId (nTree n) q) (-1) with
 |true=>exact thenT rfl rfl
 |false =>
  obtain ⟨pb,hpb,hpe⟩:=commitId_in hid
  refine no_then rfl ?_
  rw [←hpe]
  have hc:=chain_len1 h.t pb.1
  have hcm:=chain_mem h.t pb.1
  obtain ⟨pre,hpre⟩:=chain_last h.t hpb
  refine bind_eq (i_chain (nTree n) pb.1 hT h.t) (bind_eq (i_endOf (nTree n) (chain (nTree n) pb.1) hT.1 h.t hcm (by unfold L63;omega)) ?_)
  have hw:=foldR_ok (cutEnd (chain (nTree n) pb.1)) (nBase n) h.ok.base h.acc (fun b hb=>(show BOk b from Ok_mem hT.2 (hcm b (cutEnd_mem hb))).txs)
  have hN:commitN n pb.1 q=(match (chain (nTree n) pb.1).find? (fun b=>bEnd b) with
   |none=>setDP n (addDs (nDone n) (idsOf (cutEnd (chain (nTree n) pb.1)))) (dropL (nPool n) (foldR (nBase n) (cutEnd (chain (nTree n) pb.1))))
   |some b=>endN n q (foldR (nBase n) (cutEnd (chain (nTree n) pb.1))) (addDs (nDone n) (idsOf (cutEnd (chain (nTree n) pb.1)))) b):=by
   unfold commitN
   rw [walk_eq]
   cases (chain (nTree n) pb.1).find? (fun b=>bEnd b)<;>rfl
  have hclen:=cutEnd_len (chain (nTree n) pb.1)
  have lp:=i_addLoop (idsOf (cutEnd (chain (nTree n) pb.1))) (nDone n) (by rw [ids_len];omega) h.d
  have rest:∀(p:List DBk) (b:DBk),cutEnd (chain (nTree n) pb.1)=p++ [b]→b∈nTree n→chain (nTree n) b.1=p++ [b] →
    (getI (idsOf (p++ [b])) (iSub .i64 ((idsOf (p++ [b])).length:Int) 1)=some (b.1,()))∧getI (nTree n) (blkAt (nTree n) b.1)=some b∧F226 (nBase n,((nTree n,()),((b.1,()),())))=some (foldR (nBase n) (p++ [b]),()):=by
   intro p b hcut hb hch
   refine ⟨?_,(getI_blkAt h.t hb).1,?_⟩
   ·have hl:(idsOf (p++ [b])).length=p.length+1:=by rw [ids_len];simp
    have hlt:p.length<100002:=by have:=hclen;rw [hcut] at this;simp at this;omega
    rw [hl,show iSub .i64 ((p.length+1:Nat):Int) 1=(p.length:Int) by rw [iSub_small (by omega) (by omega)];omega]
    refine getI_of ?_
    unfold idsOf
    simp
   ·have:=i_ledgerAt (nBase n) (nTree n) b.1 h.ok.base h.acc hT h.t
    rw [hch] at this
    exact this
  rcases cutEnd_cases (chain (nTree n) pb.1) with ⟨f1,f2,f3⟩|⟨p,b,r,f1,f2,f3,f4,f5⟩
  ·rw [f1] at hN
   dsimp only at hN
   rw [hN]
   obtain ⟨r1,r2,r3⟩:=rest pre pb (by rw [f3,hpre]) hpb hpre
   refine bind_eq (y:=Sum.inl (idsOf (cutEnd (chain (nTree n) pb.1)),())) ?_ ?_
   ·rw [f3];exact no_then (by show iLe 0 (idxOf _ _)=false;rw [f2];rfl) rfl
   ·rw [f3] at lp hw ⊢
    rw [hpre] at lp hw ⊢
    refine bind_eq lp (bind_eq r1 (bind_eq (i_blkAt _ _ hT.1) (bind_eq r2 (bind_eq r3 (bind_eq (i_drop (nPool n) _ h.l.2.2.2.2.2.2.2.2.2.2.1 hw.2.1.l) (thenT ?_ rfl))))))
    show iLt (idxOf _ _) 0=true
    rw [hpre] at f2
    rw [f2];rfl
  ·rw [f3] at hN
   dsimp only at hN
   rw [hN]
   have hbm:b∈nTree n:=hcm b (by rw [f1];simp)
   have hB:BOk b:=Ok_mem hT.2 hbm
   have hchb:=chain_pre h.t pb.1 p r b f1
   obtain ⟨r1,r2,r3⟩:=rest p b f5 hbm hchb
   have hqc:=chain_len1 h.t q.2.1
   have cl:=i_copyLoop n q (chain (nTree n) q.2.1) h (chain_mem h.t q.2.1) hqc
   have hpl:p.length+1≤(idsOf (chain (nTree n) pb.1)).length:=by rw [ids_len,f1];simp
   refine bind_eq (y:=Sum.inl (idsOf (cutEnd (chain (nTree n) pb.1)),())) ?_ ?_
   ·refine thenT (by show iLe 0 (idxOf _ _)=true;rw [f4];exact iLe_nn (Int.natCast_nonneg _)) ?_
    have e:iAdd .i64 (idxOf (chain (nTree n) pb.1) (fun b=>bEnd b)) 1=((p.length+1:Nat):Int):=by rw [f4];exact iAdd_small (by omega) (by rw [ids_len] at hpl;omega)
    show (bif cutHi (iAdd .i64 (idxOf (chain (nTree n) pb.1) (fun b=>bEnd b)) 1) (idsOf (chain (nTree n) pb.1)).length then _ else _)=_
    rw [e]
    refine cut_hi hpl ?_
    show some (Sum.inl (List.take (Int.toNat ((p.length+1:Nat):Int) - 0) (List.drop 0 (idsOf (chain (nTree n) pb.1))),()))=_
    rw [take_nat,f5,f1]
    have e2:(idsOf (p++b::r)).take (p.length+1)=idsOf (p++ [b]):=by
     unfold idsOf
     rw [show p++b::r=(p++ [b])++r by simp,List.map_append,List.take_append_of_le_length (by simp),List.take_of_length_le (by simp)]
    rw [e2]
   ·rw [f5] at lp hw ⊢
    refine bind_eq lp (bind_eq r1 (bind_eq (i_blkAt _ _ hT.1) (bind_eq r2 (bind_eq r3 (bind_eq (i_drop (nPool n) _ h.l.2.2.2.2.2.2.2.2.2.2.1 hw.2.1.l) (no_then ?_ (bind_eq (i_cqc q hq) (bind_eq (i_chain (nTree n) q.2.1 hT h.t) (bind_eq cl (room_is (by show (nPast n).length+1≤1048577;have:=h.p;omega) (by decide) (by decide) (bind_eq (i_begin _ _ _ hw.1 hw.2 (h.bl b hbm).2.2.2.2) rfl)))))))))))
    show iLt (idxOf _ _) 0=false
    rw [f4]
    exact iLt_false (Int.natCast_nonneg _)
structure QIn (q:DQc):Prop where
 i1:(Lit.int .i64 q.1).wf=true
 i2:(Lit.int .i64 q.2.1).wf=true
 ok:QOk q
 w:W1 (List.length q.2.2.1)
structure TIn (t:DTc):Prop where
 i1:(Lit.int .i64 t.1).wf=true
 ok:(Ty.sl e9).Ok t.2.1
 hi:(Ty.sl e3).Ok t.2.2.1
 w:W1 (List.length t.2.1)
 wh:W1 (List.length t.2.2.1)
theorem TIn.tok {t:DTc} (h:TIn t):TOk t:=⟨h.ok,h.hi.1⟩
theorem QIn.root:QIn ((0,(-1,([],()))):DQc):=⟨rfl,rfl,Ok_nil,Nat.zero_le _⟩
theorem NOk.qin {n:DNd} (h:NOk n) (l:NodeL n):QIn (nHigh n):=⟨h.2.2.2.2.2.2.2.2.1,h.2.2.2.2.2.2.2.2.2.1,h.high,l.2.2.2.2.1⟩
theorem NOk.tin {n:DNd} (h:NOk n) (l:NodeL n):TIn (nTc n):=⟨h.2.2.2.2.2.2.2.2.2.2.2.1,h.2.2.2.2.2.2.2.2.2.2.2.2.1,h.2.2.2.2.2.2.2.2.2.2.2.2.2.1,l.2.2.2.2.2.1,l.2.2.2.2.2.2.1⟩
def setHR (n:DNd) (r:Int) (q:DQc):DNd:=(n.1,(n.2.1,(n.2.2.1,(n.2.2.2.1,(n.2.2.2.2.1,(n.2.2.2.2.2.1,(r,(n.2.2.2.2.2.2.2.1,(q.1,(q.2.1,(q.2.2.1,(n.2.2.2.2.2.2.2.2.2.2.2.1,(n.2.2.2.2.2.2.2.2.2.2.2.2.1,(n.2.2.2.2.2.2.2.2.2.2.2.2.2.1,(n.2.2.2.2.2.2.2.2.2.2.2.2.2.2.1,(n.2.2.2.2.2.2.2.2.2.2.2.2.2.2.2.1,(n.2.2.2.2.2.2.2.2.2.2.2.2.2.2.2.2.1,(n.2.2.2.2.2.2.2.2.2.2.2.2.2.2.2.2.2.1,(n.2.2.2.2.2.2.2.2.2.2.2.2.2.2.2.2.2.2.1,(n.2.2.2.2.2.2.2.2.2.2.2.2.2.2.2.2.2.2.2.1,()))))))))))))))))))))
theorem setHR_ok {n:DNd} {r:Int} {q:DQc} (h:NOk n) (hr:(Lit.int .i64 r).wf=true) (hq:QIn q):NOk (setHR n r q):=⟨h.1,h.2.1,h.2.2.1,h.2.2.2.1,h.2.2.2.2.1,h.2.2.2.2.2.1,hr,h.2.2.2.2.2.2.2.1,hq.i1,hq.i2,hq.ok,h.2.2.2.2.2.2.2.2.2.2.2.1,h.2.2.2.2.2.2.2.2.2.2.2.2.1,h.2.2.2.2.2.2.2.2.2.2.2.2.2.1,h.2.2.2.2.2.2.2.2.2.2.2.2.2.2.1,h.2.2.2.2.2.2.2.2.2.2.2.2.2.2.2.1,h.2.2.2.2.2.2.2.2.2.2.2.2.2.2.2.2.1,h.2.2.2.2.2.2.2.2.2.2.2.2.2.2.2.2.2.1,h.2.2.2.2.2.2.2.2.2.2.2.2.2.2.2.2.2.2.1,h.2.2.2.2.2.2.2.2.2.2.2.2.2.2.2.2.2.2.2.1,trivial⟩
def setTR (n:DNd) (r:Int) (t:DTc):DNd:=(n.1,(n.2.1,(n.2.2.1,(n.2.2.2.1,(n.2.2.2.2.1,(n.2.2.2.2.2.1,(r,(n.2.2.2.2.2.2.2.1,(n.2.2.2.2.2.2.2.2.1,(n.2.2.2.2.2.2.2.2.2.1,(n.2.2.2.2.2.2.2.2.2.2.1,(t.1,(t.2.1,(t.2.2.1,(n.2.2.2.2.2.2.2.2.2.2.2.2.2.2.1,(n.2.2.2.2.2.2.2.2.2.2.2.2.2.2.2.1,(n.2.2.2.2.2.2.2.2.2.2.2.2.2.2.2.2.1,(n.2.2.2.2.2.2.2.2.2.2.2.2.2.2.2.2.2.1,(n.2.2.2.2.2.2.2.2.2.2.2.2.2.2.2.2.2.2.1,(n.2.2.2.2.2.2.2.2.2.2.2.2.2.2.2.2.2.2.2.1,()))))))))))))))))))))
theorem setTR_ok {n:DNd} {r:Int} {t:DTc} (h:NOk n) (hr:(Lit.int .i64 r).wf=true) (ht:TIn t):NOk (setTR n r t):=⟨h.1,h.2.1,h.2.2.1,h.2.2.2.1,h.2.2.2.2.1,h.2.2.2.2.2.1,hr,h.2.2.2.2.2.2.2.1,h.2.2.2.2.2.2.2.2.1,h.2.2.2.2.2.2.2.2.2.1,h.2.2.2.2.2.2.2.2.2.2.1,ht.i1,ht.ok,ht.hi,h.2.2.2.2.2.2.2.2.2.2.2.2.2.2.1,h.2.2.2.2.2.2.2.2.2.2.2.2.2.2.2.1,h.2.2.2.2.2.2.2.2.2.2.2.2.2.2.2.2.1,h.2.2.2.2.2.2.2.2.2.2.2.2.2.2.2.2.2.1,h.2.2.2.2.2.2.2.2.2.2.2.2.2.2.2.2.2.2.1,h.2.2.2.2.2.2.2.2.2.2.2.2.2.2.2.2.2.2.2.1,trivial⟩
def setGo (n:DNd) (g:List D107):DNd:=(n.1,(n.2.1,(n.2.2.1,(n.2.2.2.1,(n.2.2.2.2.1,(n.2.2.2.2.2.1,(n.2.2.2.2.2.2.1,(n.2.2.2.2.2.2.2.1,(n.2.2.2.2.2.2.2.2.1,(n.2.2.2.2.2.2.2.2.2.1,(n.2.2.2.2.2.2.2.2.2.2.1,(n.2.2.2.2.2.2.2.2.2.2.2.1,(n.2.2.2.2.2.2.2.2.2.2.2.2.1,(n.2.2.2.2.2.2.2.2.2.2.2.2.2.1,(n.2.2.2.2.2.2.2.2.2.2.2.2.2.2.1,(n.2.2.2.2.2.2.2.2.2.2.2.2.2.2.2.1,(g,(n.2.2.2.2.2.2.2.2.2.2.2.2.2.2.2.2.2.1,(n.2.2.2.2.2.2.2.2.2.2.2.2.2.2.2.2.2.2.1,(n.2.2.2.2.2.2.2.2.2.2.2.2.2.2.2.2.2.2.2.1,()))))))))))))))))))))
theorem setGo_ok {n:DNd} {g:List D107} (h:NOk n) (hg:(Ty.sl e107).Ok g):NOk (setGo n g):=⟨h.1,h.2.1,h.2.2.1,h.2.2.2.1,h.2.2.2.2.1,h.2.2.2.2.2.1,h.2.2.2.2.2.2.1,h.2.2.2.2.2.2.2.1,h.2.2.2.2.2.2.2.2.1,h.2.2.2.2.2.2.2.2.2.1,h.2.2.2.2.2.2.2.2.2.2.1,h.2.2.2.2.2.2.2.2.2.2.2.1,h.2.2.2.2.2.2.2.2.2.2.2.2.1,h.2.2.2.2.2.2.2.2.2.2.2.2.2.1,h.2.2.2.2.2.2.2.2.2.2.2.2.2.2.1,h.2.2.2.2.2.2.2.2.2.2.2.2.2.2.2.1,hg,h.2.2.2.2.2.2.2.2.2.2.2.2.2.2.2.2.2.1,h.2.2.2.2.2.2.2.2.2.2.2.2.2.2.2.2.2.2.1,h.2.2.2.2.2.2.2.2.2.2.2.2.2.2.2.2.2.2.2.1,trivial⟩
def setVo (n:DNd) (v:Int):DNd:=(n.1,(n.2.1,(n.2.2.1,(n.2.2.2.1,(n.2.2.2.2.1,(n.2.2.2.2.2.1,(n.2.2.2.2.2.2.1,(v,(n.2.2.2.2.2.2.2.2.1,(n.2.2.2.2.2.2.2.2.2.1,(n.2.2.2.2.2.2.2.2.2.2.1,(n.2.2.2.2.2.2.2.2.2.2.2.1,(n.2.2.2.2.2.2.2.2.2.2.2.2.1,(n.2.2.2.2.2.2.2.2.2.2.2.2.2.1,(n.2.2.2.2.2.2.2.2.2.2.2.2.2.2.1,(n.2.2.2.2.2.2.2.2.2.2.2.2.2.2.2.1,(n.2.2.2.2.2.2.2.2.2.2.2.2.2.2.2.2.1,(n.2.2.2.2.2.2.2.2.2.2.2.2.2.2.2.2.2.1,(n.2.2.2.2.2.2.2.2.2.2.2.2.2.2.2.2.2.2.1,(n.2.2.2.2.2.2.2.2.2.2.2.2.2.2.2.2.2.2.2.1,()))))))))))))))))))))
theorem setVo_ok {n:DNd} {v:Int} (h:NOk n) (hv:(Lit.int .i64 v).wf=true):NOk (setVo n v):=⟨h.1,h.2.1,h.2.2.1,h.2.2.2.1,h.2.2.2.2.1,h.2.2.2.2.2.1,h.2.2.2.2.2.2.1,hv,h.2.2.2.2.2.2.2.2.1,h.2.2.2.2.2.2.2.2.2.1,h.2.2.2.2.2.2.2.2.2.2.1,h.2.2.2.2.2.2.2.2.2.2.2.1,h.2.2.2.2.2.2.2.2.2.2.2.2.1,h.2.2.2.2.2.2.2.2.2.2.2.2.2.1,h.2.2.2.2.2.2.2.2.2.2.2.2.2.2.1,h.2.2.2.2.2.2.2.2.2.2.2.2.2.2.2.1,h.2.2.2.2.2.2.2.2.2.2.2.2.2.2.2.2.1,h.2.2.2.2.2.2.2.2.2.2.2.2.2.2.2.2.2.1,h.2.2.2.2.2.2.2.2.2.2.2.2.2.2.2.2.2.2.1,h.2.2.2.2.2.2.2.2.2.2.2.2.2.2.2.2.2.2.2.1,trivial⟩
def highN (n:DNd) (q:DQc):DQc:=bif iLt (nHigh n).1 q.1 then q else nHigh n
def rndN (r x:Int):Int:=bif iLt r (iAdd .i64 x 1) then iAdd .i64 x 1 else r
def tcT (n:DNd) (t:DTc):DTc:=bif iLt (nTc n).1 t.1 then t else nTc n
theorem rnd_max (r x:Int):iMax r (iAdd .i64 x 1)=rndN r x:=rfl
theorem rnd_wf {r x:Int} (h:(Lit.int .i64 r).wf=true):(Lit.int .i64 (rndN r x)).wf=true:=by
 unfold rndN
 cases iLt r (iAdd .i64 x 1)
 ·exact h
 ·exact okAdd _ _
theorem highN_in {n:DNd} {q:DQc} (h:QIn (nHigh n)) (hq:QIn q):QIn (highN n q):=by
 unfold highN
 cases iLt (nHigh n).1 q.1
 ·exact h
 ·exact hq
theorem tcT_in {n:DNd} {t:DTc} (h:TIn (nTc n)) (ht:TIn t):TIn (tcT n t):=by
 unfold tcT
 cases iLt (nTc n).1 t.1
 ·exact h
 ·exact ht
def setLn (n:DNd) (q:DQc):DNd:=setHR n (rndN (nRound n) q.1) (highN n q)
noncomputable def learnN (n:DNd) (q:DQc):DNd:=commitR (setLn n q) q
def tcN (n:DNd) (t:DTc):DNd:=setTR n (rndN (nRound n) t.1) (tcT n t)
theorem NIn.round {n:DNd} (h:NIn n):(Lit.int .i64 (nRound n)).wf=true:=h.ok.2.2.2.2.2.2.1
theorem setLn_in {n:DNd} {q:DQc} (h:NIn n) (hq:QIn q):NIn (setLn n q):=by
 have h2:=highN_in (h.ok.qin h.l) hq
 refine ⟨setHR_ok h.ok (rnd_wf h.round) h2,?_,h.t,h.d,h.p⟩
 have l:=h.l
 exact ⟨l.1,l.2.1,l.2.2.1,l.2.2.2.1,h2.w,l.2.2.2.2.2.1,l.2.2.2.2.2.2.1,l.2.2.2.2.2.2.2.1,l.2.2.2.2.2.2.2.2.1,l.2.2.2.2.2.2.2.2.2.1,l.2.2.2.2.2.2.2.2.2.2.1,l.2.2.2.2.2.2.2.2.2.2.2.1,l.2.2.2.2.2.2.2.2.2.2.2.2⟩
theorem commitId_sign {l:List DBk} (h:TreeF l) (q:DQc):iLe 0 (commitId l q)= !iEq (commitId l q) (-1):=by
 cases hc:iEq (commitId l q) (-1) with
 |true =>
  have:commitId l q= -1:=by simpa [iEq] using hc
  rw [this];rfl
 |false =>
  obtain ⟨p,hp,he⟩:=commitId_in hc
  have:=(h.nn p hp).1
  rw [←he]
  exact iLe_nn this
theorem s_learn (n:DNd) (q:DQc) (h:NIn n) (hq:QIn q):F156 (n,(q,()))=some (learnN n q,()):=by
 have hs:=setLn_in h hq
 have hj:∀(R:Type),(bif iLt (nHigh n).1 q.1 then (F88 (q,())).bind fun y1=>some (.inl (y1.1.1,(y1.1.2.1,(y1.1.2.2.1,())))) else some (.inl (nHigh n)))=some (Sum.inl (highN n q):Sum DQc R):=by
  intro R
  unfold highN
  cases iLt (nHigh n).1 q.1 with
  |true=>exact bind_eq (s_cqc q hq.w) rfl
  |false=>rfl
 have hk:∀(R:Type),(bif iLt (nRound n) (iAdd .i64 q.1 1) then some (.inl (iAdd .i64 q.1 1,())) else some (.inl (nRound n,())))=some (Sum.inl (rndN (nRound n) q.1,()):Sum (Int×Unit) R):=by
  intro R
  unfold rndN
  cases iLt (nRound n) (iAdd .i64 q.1 1)<;>rfl
 unfold F156
 refine bind_eq (hj _) (bind_eq (hk _) (bind_eq (s_commitOf (nTree n) q h.ok.tree.1 h.t) ?_))
 have hsg:=commitId_sign h.t q
 unfold learnN commitR
 show (bif iLe 0 (commitId (nTree n) q) then _ else _)=some ((bif iEq (commitId (nTree n) q) (-1) then setLn n q else commitN (setLn n q) (commitId (nTree n) q) q),())
 rw [hsg]
 cases iEq (commitId (nTree n) q) (-1) with
 |true=>rfl
 |false=>exact bind_eq (s_commit (setLn n q) (commitId (nTree n) q) q hs hq.w) rfl
theorem i_learn (n:DNd) (q:DQc) (h:NIn n) (hq:QIn q):F177 (n,(q,()))=some (bif qcB (nSet n) q then learnN n q else n,()):=by
 have hs:=setLn_in h hq
 have hj:∀(R:Type),(bif iLt (nHigh n).1 q.1 then (F114 (q,())).bind fun y1=>some (.inl (y1.1.1,(y1.1.2.1,(y1.1.2.2.1,())))) else some (.inl (nHigh n)))=some (Sum.inl (highN n q):Sum DQc R):=by
  intro R
  unfold highN
  cases iLt (nHigh n).1 q.1 with
  |true=>exact bind_eq (i_cqc q hq.w) rfl
  |false=>rfl
 unfold F177
 refine bind_eq (i_qc (nSet n) q h.ok.set.1 hq.ok) ?_
 cases hqc:qcB (nSet n) q with
 |false=>rfl
 |true=>exact bind_eq (hj _) (bind_eq (i_commit (setLn n q) q hs hq.w) rfl)
theorem s_learnTc (n:DNd) (t:DTc) (ht:TIn t):F158 (n,(t,()))=some (tcN n t,()):=by
 have hj:∀(R:Type),(bif iLt (nTc n).1 t.1 then (F89 (t,())).bind fun y1=>some (.inl (y1.1.1,(y1.1.2.1,(y1.1.2.2.1,())))) else some (.inl (nTc n)))=some (Sum.inl (tcT n t):Sum DTc R):=by
  intro R
  unfold tcT
  cases iLt (nTc n).1 t.1 with
  |true=>exact bind_eq (s_ctc t ht.w ht.wh) rfl
  |false=>rfl
 unfold F158
 refine bind_eq (hj _) ?_
 unfold tcN rndN
 show (bif iLt (nRound n) (iAdd .i64 t.1 1) then _ else _)=_
 cases iLt (nRound n) (iAdd .i64 t.1 1)<;>rfl
theorem i_learnTc (n:DNd) (t:DTc) (hn:L63 (nSet n).length) (ht:TIn t):F180 (n,(t,()))=some (bif noneB t then n else bif tcB (nSet n) t then tcN n t else n,()):=by
 have hj:∀(R:Type),(bif iLt (nTc n).1 t.1 then (F115 (t,())).bind fun y1=>some (.inl (y1.1.1,(y1.1.2.1,(y1.1.2.2.1,())))) else some (.inl (nTc n)))=some (Sum.inl (tcT n t):Sum DTc R):=by
  intro R
  unfold tcT
  cases iLt (nTc n).1 t.1 with
  |true=>exact bind_eq (i_ctc t ht.w ht.wh) rfl
  |false=>rfl
 unfold F180
 refine bind_eq (i_none t) ?_
 cases noneB t with
 |true=>rfl
 |false =>
  refine no_then rfl (bind_eq (i_tc (nSet n) t hn ht.tok) ?_)
  cases tcB (nSet n) t with
  |false=>rfl
  |true=>exact bind_eq (hj _) rfl
def MsgL (m:DMs):Prop:=W1 (mBs m).length∧(∀b∈mBs m,BlockL b)∧W1 (List.length (mQ m).2.2.1)∧W1 (List.length (mT m).2.1)∧W1 (List.length (mT m).2.2.1)
theorem s_cmsg (m:DMs) (h:MsgL m):F155 (m,())=some (m,()):=by
 unfold F155
 exact bind_eq (s_cblks (mBs m) h.1 h.2.1) (bind_eq (s_cqc (mQ m) h.2.2.1) (bind_eq (s_ctc (mT m) h.2.2.2.1 h.2.2.2.2) rfl))
theorem i_cmsg (m:DMs) (h:MsgL m):F176 (m,())=some (m,()):=by
 unfold F176
 exact bind_eq (i_cblks (mBs m) h.1 h.2.1) (bind_eq (i_cqc (mQ m) h.2.2.1) (bind_eq (i_ctc (mT m) h.2.2.2.1 h.2.2.2.2) rfl))
def msgTo (m:DMs) (to:ByteArray) (ep:Int):DMs:=(m.1,(to,(ep,m.2.2.2)))
def toAllL (set:List D163) (name:ByteArray) (m:DMs) (ep:Int):List DMs:=(set.filter (fun v=> !sEq v.1 name)).map (fun v=>msgTo m v.1 ep)
theorem fm_take {A B:Type} (p:A→Bool) (f:A→B) (l:List A) {i:Nat} (hi:i<l.length):((l.take (i+1)).filter p).map f=((l.take i).filter p).map f++(bif p l[i] then [f l[i]] else []):=by
 rw [filter_take p l hi,List.map_append]
 cases p l[i]<;>rfl
theorem fm_len {A B:Type} (p:A→Bool) (f:A→B) (l:List A) (i:Nat):(((l.take i).filter p).map f).length≤l.length:=by rw [List.length_map];exact fl_len p l i
theorem s_toAll (n:DNd) (m:DMs) (hs:W1 (nSet n).length) (hm:MsgL m):F100 (n,(m,()))=some ((toAllL (nSet n) n.1 m m.2.2.1,()),()):=by
 have hl:L63 (nSet n).length:=hs.l
 unfold W1 at hs
 have sp:=loopF_trace (f:=F100.b0 (n,(m,()))) (fun k=>((((nSet n).take k).filter (fun v=> !sEq v.1 n.1)).map (fun v=>msgTo m v.1 m.2.2.1),((k:Int),()))) (nSet n).length (e:=Sum.inl (toAllL (nSet n) n.1 m m.2.2.1,(((nSet n).length:Int),()))) (fun k hk=>by
  have hlen:=fm_len (fun v:D163=> !sEq v.1 n.1) (fun v=>msgTo m v.1 m.2.2.1) (nSet n) k
  unfold F100.b0
  refine lt_then (Int.ofNat_lt.2 hk) (bind_eq (getI_lt hk) ?_)
  cases hc:(!sEq (nSet n)[k].1 n.1) with
  |true =>
   refine thenT rfl (bind_eq (s_cmsg m hm) (bind_eq (getI_lt hk) (room_is (by show ((((nSet n).take k).filter (fun v=> !sEq v.1 n.1)).map (fun v=>msgTo m v.1 m.2.2.1)).length+1≤1048577;omega) (by decide) (by decide) (st2 ?_ (nxt hk hl)))))
   rw [fm_take _ _ _ hk,hc];rfl
  |false =>
   refine no_then rfl (st2 ?_ (nxt hk hl))
   rw [fm_take _ _ _ hk,hc];simp) (by
  unfold F100.b0
  refine lt_else (Int.le_refl _) ?_
  rw [List.take_length];rfl)
 unfold F100
 exact bind_eq sp rfl
theorem i_toAll (n:DNd) (m:DMs) (hs:W1 (nSet n).length) (hm:MsgL m):F130 (n,(m,()))=some ((toAllL (nSet n) n.1 m n.2.1,()),()):=by
 have hl:L63 (nSet n).length:=hs.l
 unfold W1 at hs
 have sp:=loopF_trace (f:=F130.b0 (n,(m,()))) (fun k=>((((nSet n).take k).filter (fun v=> !sEq v.1 n.1)).map (fun v=>msgTo m v.1 n.2.1),((k:Int),()))) (nSet n).length (e:=Sum.inl (toAllL (nSet n) n.1 m n.2.1,(((nSet n).length:Int),()))) (fun k hk=>by
  have hlen:=fm_len (fun v:D163=> !sEq v.1 n.1) (fun v=>msgTo m v.1 n.2.1) (nSet n) k
  unfold F130.b0
  refine lt_then (Int.ofNat_lt.2 hk) (bind_eq (getI_lt hk) ?_)
  cases hc:(!sEq (nSet n)[k].1 n.1) with
  |true =>
   refine thenT rfl (bind_eq (i_cmsg m hm) (room_is (by show ((((nSet n).take k).filter (fun v=> !sEq v.1 n.1)).map (fun v=>msgTo m v.1 n.2.1)).length+1≤1048577;omega) (by decide) (by decide) (st2 ?_ (nxt hk hl))))
   rw [fm_take _ _ _ hk,hc];rfl
  |false =>
   refine no_then rfl (st2 ?_ (nxt hk hl))
   rw [fm_take _ _ _ hk,hc];simp) (by
  unfold F130.b0
  refine lt_else (Int.le_refl _) ?_
  rw [List.take_length];rfl)
 unfold F130
 exact bind_eq sp rfl
def goneEq (a b:D107):Bool:=iEq a.1 b.1&&(iEq a.2.1 b.2.1&&sEq a.2.2.1 b.2.2.1)
def hasG (l:List D107) (g:D107):Bool:=l.any (fun x=>goneEq x g)
def addG (l:List D107) (g:D107):List D107:=bif !hasG l g&&iLt (l.length:Int) 1000 then l++ [g] else l
theorem i_hasGone (l:List D107) (g:D107) (hl:L63 l.length):F178 ((l,()),(g,()))=some (B1 (hasG l g)):=by
 have lp:=loopIdx (S:=Int×Unit) l (fun x=>goneEq g x) (f:=F207.b0 ((l,()),(g,()))) (fun k=>(k,())) (Sum.inl ((l.length:Int),())) (fun i=>Sum.inr (I1 i)) (fun i hi=>by
  unfold F207.b0
  refine lt_then (Int.ofNat_lt.2 hi) (bind_eq (getI_lt hi) ?_)
  rw [←nxt hi hl];rfl) (by
  unfold F207.b0
  exact lt_else (Int.le_refl _) rfl)
 have e:hasG l g=l.any (fun x=>goneEq g x):=by
  unfold hasG goneEq
  congr 1;funext x
  rw [iEq_flip,iEq_flip x.2.1,sEq_comm]
 unfold F178
 refine bind_eq (show F207 ((l,()),(g,()))=some (I1 (idxOf l (fun x=>goneEq g x))) from ?_) ?_
 ·unfold F207
  refine bind_eq lp ?_
  rcases idxOf_cases l (fun x=>goneEq g x) with ⟨h1,_,h3⟩|⟨j,hj,_,_,h1,_,h3⟩<;>rw [h1,h3]<;>rfl
 ·rw [e,←idxOf_any]
def stepG (round:Int) (name:ByteArray) (s:Int) (x:D107):Int:=bif iEq x.1 round&&(sEq x.2.2.1 name&&iLt s x.2.1) then x.2.1 else s
def highG (gones:List D107) (round:Int) (name:ByteArray):Int:=gones.foldl (stepG round name) (-1)
def gathStep (gones:List D107) (round:Int) (s:List D9×List D3) (v:D163):List D9×List D3:=bif iLe 0 (highG gones round v.1) then (s.1++ [(v.1,())],s.2++ [(highG gones round v.1,())]) else s
def gathL (set:List D163) (gones:List D107) (round:Int):List D9×List D3:=set.foldl (gathStep gones round) ([],[])
def gathT (set:List D163) (gones:List D107) (round:Int):DTc:=(round,((gathL set gones round).1,((gathL set gones round).2,())))
def gathTR (set:List D163) (gones:List D107) (round:Int):DTc×((Bool×Unit)×Unit):=bif tcB set (gathT set gones round)&& !noneB (gathT set gones round) then (gathT set gones round,((true,()),())) else ((0,([],([],()))),((false,()),()))
theorem gath_len (gones:List D107) (round:Int):∀(set:List D163) (s:List D9×List D3),(set.foldl (gathStep gones round) s).1.length≤s.1.length+set.length∧(set.foldl (gathStep gones round) s).2.length≤s.2.length+set.length
 | [],s=>⟨Nat.le_refl _,Nat.le_refl _⟩
 |v::r,s=>by
  have h:=gath_len gones round r (gathStep gones round s v)
  have h1:(gathStep gones round s v).1.length≤s.1.length+1∧(gathStep gones round s v).2.length≤s.2.length+1:=by
   unfold gathStep
   cases iLe 0 (highG gones round v.1)<;>simp
  simp only [List.foldl_cons,List.length_cons]
  omega
theorem gath_ok (gones:List D107) (round:Int) (hg:∀x∈gones,e107.Ok x):∀(set:List D163) (s:List D9×List D3),(∀v∈set,e163.Ok v)→(∀x∈s.1,e9.Ok x)→(∀x∈s.2,e3.Ok x) →
  (∀x∈(set.foldl (gathStep gones round) s).1,e9.Ok x)∧(∀x∈(set.foldl (gathStep gones round) s).2,e3.Ok x)
 | [],s,_,h1,h2=>⟨h1,h2⟩
 |v::r,s,hv,h1,h2=>by
  have hw:(Lit.int .i64 (highG gones round v.1)).wf=true:=by
   unfold highG
   have key:∀(l:List D107) (s:Int),(∀x∈l,e107.Ok x)→(Lit.int .i64 s).wf=true→(Lit.int .i64 (l.foldl (stepG round v.1) s)).wf=true:=by
    intro l
    induction l with
    |nil=>intro s _ hs;exact hs
    |cons x r ih =>
     intro s hx hs
     refine ih _ (fun y hy=>hx y (by simp [hy])) ?_
     unfold stepG
     cases (iEq x.1 round&&(sEq x.2.2.1 v.1&&iLt s x.2.1))
     ·exact hs
     ·exact (hx x (by simp)).2.1
   exact key gones (-1) hg rfl
  refine gath_ok gones round hg r _ (fun x hx=>hv x (by simp [hx])) ?_ ?_
  ·unfold gathStep
   cases iLe 0 (highG gones round v.1)
   ·exact h1
   ·intro x hx
    rcases List.mem_append.1 hx with hx|hx
    ·exact h1 x hx
    ·rw [List.mem_singleton.1 hx];exact ⟨(hv v (by simp)).1,trivial⟩
  ·unfold gathStep
   cases iLe 0 (highG gones round v.1)
   ·exact h2
   ·intro x hx
    rcases List.mem_append.1 hx with hx|hx
    ·exact h2 x hx
    ·rw [List.mem_singleton.1 hx];exact ⟨hw,trivial⟩
theorem gathT_in (set:List D163) (gones:List D107) (round:Int) (hs:W1 set.length) (hso:(Ty.sl e163).Ok set) (hg:(Ty.sl e107).Ok gones) (hr:(Lit.int .i64 round).wf=true):TIn (gathT set gones round):=by
 have hl:=gath_len gones round set ([],[])
 have ho:=gath_ok gones round (fun x hx=>Ok_mem hg.2 hx) set ([],[]) (fun x hx=>Ok_mem hso.2 hx) (fun x hx=>by cases hx) (fun x hx=>by cases hx)
 simp only [List.length_nil,Nat.zero_add] at hl
 unfold W1 at hs
 exact ⟨hr,Ok_of (Nat.le_trans hl.1 (Nat.le_trans hs (by decide))) ho.1,Ok_of (Nat.le_trans hl.2 (Nat.le_trans hs (by decide))) ho.2,Nat.le_trans hl.1 hs,Nat.le_trans hl.2 hs⟩
theorem s_highLoop (set:List D163) (gones:List D107) (round:Int) (v1:Int×(List D9×(List D3×Unit))) {i:Nat} (hi:i<set.length) (h1:v1.1=(i:Int)) (hg:L63 gones.length) :
  loopF (F157.b1 ((set,()),((gones,()),((round,()),()))) v1) ((-1:Int),((0:Int),()))=some (.inl (highG gones round set[i].1,((gones.length:Int),()))):=by
 refine loopFold0 (S:=Int×(Int×Unit)) gones (stepG round set[i].1) (f:=F157.b1 ((set,()),((gones,()),((round,()),()))) v1) (fun s k=>(s,(k,()))) (fun s=>Sum.inl (s,((gones.length:Int),()))) (-1) (fun k hk s=>?_) (fun s=>?_)
 ·have hs:getI set v1.1=some set[i]:=by rw [h1];exact getI_lt hi
  unfold F157.b1 stepG
  refine lt_then (Int.ofNat_lt.2 hk) (bind_eq (getI_lt hk) ?_)
  rw [←nxt hk hg]
  cases iEq gones[k].1 round with
  |false=>rfl
  |true =>
   refine thenT rfl (bind_eq (getI_lt hk) (bind_eq hs ?_))
   cases sEq gones[k].2.2.1 set[i].1 with
   |false=>rfl
   |true =>
    refine thenT rfl (bind_eq (getI_lt hk) ?_)
    cases iLt s gones[k].2.1 with
    |false=>rfl
    |true=>exact thenT rfl (bind_eq (getI_lt hk) rfl)
 ·unfold F157.b1
  exact lt_else (Int.le_refl _) rfl
theorem s_gatherTc (set:List D163) (gones:List D107) (round:Int) (hs:W1 set.length) (hso:(Ty.sl e163).Ok set) (hg:(Ty.sl e107).Ok gones) (hr:(Lit.int .i64 round).wf=true) :
  F157 ((set,()),((gones,()),((round,()),())))=some (gathTR set gones round):=by
 have hl:L63 set.length:=hs.l
 have hT:=gathT_in set gones round hs hso hg hr
 unfold W1 at hs
 have sp:=loopFold (S:=Int×(List D9×(List D3×Unit))) set (gathStep gones round) (fun i s=>s.1.length≤i∧s.2.length≤i) (f:=F157.b0 ((set,()),((gones,()),((round,()),())))) (fun s k=>(k,(s.1,(s.2,())))) (fun s=>Sum.inl ((set.length:Int),(s.1,(s.2,())))) ([],[]) ⟨Nat.le_refl _,Nat.le_refl _⟩ (fun i hi s hI=>by
  refine ⟨?_,?_⟩
  ·unfold F157.b0 gathStep
   refine lt_then (Int.ofNat_lt.2 hi) (bind_eq (s_highLoop set gones round _ hi rfl hg.1) ?_)
   cases hc:iLe 0 (highG gones round set[i].1) with
   |false=>exact no_then hc (by rw [←nxt hi hl];rfl)
   |true=>exact thenT hc (bind_eq (getI_lt hi) (room_is (by show s.1.length+1≤1048577;omega) (by decide) (by decide) (room_is (by show s.2.length+1≤1048577;omega) (by decide) (by decide) (by rw [←nxt hi hl];rfl))))
  ·unfold gathStep
   cases iLe 0 (highG gones round set[i].1)<;>simp<;>omega) (fun s _=>by
  unfold F157.b0
  exact lt_else (Int.le_refl _) rfl)
 unfold F157 gathTR
 refine bind_eq sp.1 (bind_eq (s_tc set (gathT set gones round) hl hT.tok) ?_)
 cases htc:tcB set (gathT set gones round) with
 |false=>rfl
 |true =>
  refine no_then rfl (bind_eq (s_none (gathT set gones round)) ?_)
  cases noneB (gathT set gones round)<;>rfl
def stepH (round:Int) (name:ByteArray) (s:Int×Bool) (x:D107):Int×Bool:=bif iEq x.1 round&&(sEq x.2.2.1 name&&(iLe 0 x.2.1&&(!s.2||iLt s.1 x.2.1))) then (x.2.1,true) else s
theorem stepH_eq (round:Int) (name:ByteArray):∀(l:List D107) (h:Int) (b:Bool) (s:Int),(b=true→s=h∧0≤h)→(b=false→s= -1) →
  (l.foldl (stepH round name) (h,b)).2=iLe 0 (l.foldl (stepG round name) s)∧((l.foldl (stepH round name) (h,b)).2=true→(l.foldl (stepH round name) (h,b)).1=l.foldl (stepG round name) s)
 | [],h,b,s,h1,h2=>by
  cases b with
  |true=>obtain ⟨rfl,h0⟩:=h1 rfl;exact ⟨(iLe_nn h0).symm,fun _=>rfl⟩
  |false=>rw [h2 rfl];exact ⟨rfl,fun e=>by cases e⟩
 |x::r,h,b,s,h1,h2=>by
  simp only [List.foldl_cons]
  cases hc:(iEq x.1 round&&sEq x.2.2.1 name) with
  |false =>
   have e1:stepH round name (h,b) x=(h,b):=by
    unfold stepH
    rw [←Bool.and_assoc,hc];rfl
   have e2:stepG round name s x=s:=by
    unfold stepG
    rw [←Bool.and_assoc,hc];rfl
   rw [e1,e2]
   exact stepH_eq round name r h b s h1 h2
  |true =>
   have e1:stepH round name (h,b) x=bif iLe 0 x.2.1&&(!b||iLt h x.2.1) then (x.2.1,true) else (h,b):=by
    unfold stepH
    rw [←Bool.and_assoc,hc];rfl
   have e2:stepG round name s x=bif iLt s x.2.1 then x.2.1 else s:=by
    unfold stepG
    rw [←Bool.and_assoc,hc];rfl
   rw [e1,e2]
   cases b with
   |true =>
    obtain ⟨rfl,h0⟩:=h1 rfl
    cases hl:iLt s x.2.1 with
    |true =>
     have:0≤x.2.1:=by
      have:s<x.2.1:=by simpa [iLt] using hl
      omega
     rw [iLe_nn this]
     exact stepH_eq round name r _ _ _ (fun _=>⟨rfl,this⟩) (fun e=>by cases e)
    |false =>
     have e3:(iLe 0 x.2.1&&(!true||false))=false:=by simp
     rw [e3]
     exact stepH_eq round name r _ _ _ (fun _=>⟨rfl,h0⟩) (fun e=>by cases e)
   |false =>
    have hs:=h2 rfl
    subst hs
    have e3:(iLe 0 x.2.1&&(!false||iLt h x.2.1))=iLe 0 x.2.1:=by simp
    have e4:iLt (-1) x.2.1=iLe 0 x.2.1:=by simp only [iLt,iLe];exact decide_eq_decide.2 ⟨fun h=>by omega,fun h=>by omega⟩
    rw [e3,e4]
    cases hn:iLe 0 x.2.1 with
    |true=>exact stepH_eq round name r _ _ _ (fun _=>⟨rfl,by simpa [iLe] using hn⟩) (fun e=>by cases e)
    |false=>exact stepH_eq round name r _ _ _ (fun e=>by cases e) (fun _=>rfl)
theorem i_highLoop (set:List D163) (gones:List D107) (round:Int) (v:D163) (hg:L63 gones.length) :
  loopF (F179.b1 ((set,()),((gones,()),((round,()),()))) v) ((0:Int),(false,((0:Int),())))=some (.inl ((gones.foldl (stepH round v.1) (0,false)).1,((gones.foldl (stepH round v.1) (0,false)).2,((gones.length:Int),())))):=by
 refine loopFold0 (S:=Int×(Bool×(Int×Unit))) gones (stepH round v.1) (f:=F179.b1 ((set,()),((gones,()),((round,()),()))) v) (fun s k=>(s.1,(s.2,(k,())))) (fun s=>Sum.inl (s.1,(s.2,((gones.length:Int),())))) (0,false) (fun k hk s=>?_) (fun s=>?_)
 ·obtain ⟨s1,s2⟩:=s
  unfold F179.b1 stepH
  refine lt_then (Int.ofNat_lt.2 hk) (bind_eq (getI_lt hk) ?_)
  rw [←nxt hk hg]
  cases iEq gones[k].1 round with
  |false=>rfl
  |true =>
   refine thenT rfl ?_
   cases sEq gones[k].2.2.1 v.1 with
   |false=>rfl
   |true =>
    refine thenT rfl ?_
    cases iLe 0 gones[k].2.1 with
    |false=>rfl
    |true =>
     refine thenT rfl ?_
     cases s2 with
     |false=>rfl
     |true=>cases iLt s1 gones[k].2.1<;>rfl
 ·unfold F179.b1
  exact lt_else (Int.le_refl _) rfl
theorem i_gatherTc (set:List D163) (gones:List D107) (round:Int) (hs:W1 set.length) (hso:(Ty.sl e163).Ok set) (hg:(Ty.sl e107).Ok gones) (hr:(Lit.int .i64 round).wf=true) :
  F179 ((set,()),((gones,()),((round,()),())))=some (gathTR set gones round):=by
 have hl:L63 set.length:=hs.l
 have hT:=gathT_in set gones round hs hso hg hr
 unfold W1 at hs
 have sp:=loopFold (S:=Int×(List D9×(List D3×Unit))) set (gathStep gones round) (fun i s=>s.1.length≤i∧s.2.length≤i) (f:=F179.b0 ((set,()),((gones,()),((round,()),())))) (fun s k=>(k,(s.1,(s.2,())))) (fun s=>Sum.inl ((set.length:Int),(s.1,(s.2,())))) ([],[]) ⟨Nat.le_refl _,Nat.le_refl _⟩ (fun i hi s hI=>by
  obtain ⟨q1,q2⟩:=stepH_eq round set[i].1 gones 0 false (-1) (fun e=>by cases e) (fun _=>rfl)
  refine ⟨?_,?_⟩
  ·unfold F179.b0 gathStep
   refine lt_then (Int.ofNat_lt.2 hi) (bind_eq (getI_lt hi) (bind_eq (i_highLoop set gones round _ hg.1) ?_))
   show (bif (gones.foldl (stepH round set[i].1) (0,false)).2 then _ else _)=_
   cases hc:(gones.foldl (stepH round set[i].1) (0,false)).2 with
   |false =>
    rw [hc] at q1
    have q1:iLe 0 (highG gones round set[i].1)=false:=q1.symm
    rw [q1,←nxt hi hl];rfl
   |true =>
    rw [hc] at q1 q2
    have q1:iLe 0 (highG gones round set[i].1)=true:=q1.symm
    have q2:(gones.foldl (stepH round set[i].1) (0,false)).1=highG gones round set[i].1:=q2 rfl
    rw [q1]
    refine thenT rfl (room_is (by show s.1.length+1≤1048577;omega) (by decide) (by decide) (room_is (by show s.2.length+1≤1048577;omega) (by decide) (by decide) ?_))
    rw [←nxt hi hl,←q2];rfl
  ·unfold gathStep
   cases iLe 0 (highG gones round set[i].1)<;>simp<;>omega) (fun s _=>by
  unfold F179.b0
  exact lt_else (Int.le_refl _) rfl)
 unfold F179 gathTR
 refine bind_eq sp.1 (bind_eq (i_none (gathT set gones round)) ?_)
 cases hno:noneB (gathT set gones round) with
 |true=>cases tcB set (gathT set gones round)<;>rfl
 |false =>
  refine no_then rfl (bind_eq (i_tc set (gathT set gones round) hl hT.tok) ?_)
  cases tcB set (gathT set gones round)<;>rfl
noncomputable def gonesN (n:DNd) (g:D107):DNd :=
 let n2:=setGo n (addG (nGones n) g)
 let t:=gathTR (nSet n) (addG (nGones n) g) g.1
 bif t.2.1.1 then tcN n2 t.1 else n2
noncomputable def hearGoneN (n:DNd) (g:D107) (q:DQc):DNd :=
 bif inB (nSet n) g.2.2.1&&qcB (nSet n) q then (bif iEq (learnN n q).2.1 n.2.1 then gonesN (learnN n q) g else learnN n q) else n
theorem addG_len (l:List D107) (g:D107):(addG l g).length≤l.length+1:=by
 unfold addG
 cases (!hasG l g&&iLt (l.length:Int) 1000)<;>simp
theorem addG_ok {l:List D107} {g:D107} (hl:(Ty.sl e107).Ok l) (hw:W1 l.length) (hg:e107.Ok g):(Ty.sl e107).Ok (addG l g):=by
 have h1:=addG_len l g
 unfold W1 at hw
 refine Ok_of (Nat.le_trans h1 (by omega)) (fun y hy=>?_)
 unfold addG at hy
 cases hc:(!hasG l g&&iLt (l.length:Int) 1000) with
 |false=>rw [hc] at hy;exact Ok_mem hl.2 hy
 |true =>
  rw [hc] at hy
  rcases List.mem_append.1 hy with hy|hy
  ·exact Ok_mem hl.2 hy
  ·rw [List.mem_singleton.1 hy];exact hg
structure GIn (n:DNd):Prop where
 s:W1 (nSet n).length
 so:(Ty.sl e163).Ok (nSet n)
 g:(nGones n).length≤1048575
 go:(Ty.sl e107).Ok (nGones n)
theorem gath_none {set:List D163} {gones:List D107} {round:Int} (h:(gathTR set gones round).2.1.1=true):noneB (gathTR set gones round).1=false∧tcB set (gathTR set gones round).1=true∧(gathTR set gones round).1=gathT set gones round:=by
 unfold gathTR at h ⊢
 cases hc:(tcB set (gathT set gones round)&& !noneB (gathT set gones round)) with
 |false=>rw [hc] at h;cases h
 |true =>
  simp only [Bool.and_eq_true,Bool.not_eq_true'] at hc
  exact ⟨hc.2,hc.1,rfl⟩
theorem s_hasGone (l:List D107) (g:D107) (y3:DNd×Unit) (x0:DNd×(D107×(DQc×Unit))) (hy:nGones y3.1=l) (hx:x0.2.1=g) (hl:L63 l.length):loopF (F102.b0 y3 x0) (false,((0:Int),()))=some (.inl (hasG l g,((l.length:Int),()))):=by
 subst hy hx
 have lp:=loopFold0 (S:=Bool×(Int×Unit)) (nGones y3.1) (fun s x=>s||goneEq x x0.2.1) (f:=F102.b0 y3 x0) (fun s k=>(s,(k,()))) (fun s=>Sum.inl (s,(((nGones y3.1).length:Int),()))) false (fun k hk s=>by
  unfold F102.b0
  refine lt_then (Int.ofNat_lt.2 hk) ?_
  rw [←nxt hk hl]
  cases s with
  |true=>rfl
  |false=>exact no_then rfl (bind_eq (getI_lt hk) (bind_eq (getN_lt hk) rfl))) (fun s=>by
  unfold F102.b0
  exact lt_else (Int.le_refl _) rfl)
 refine lp.trans ?_
 have:∀(l:List D107) (b:Bool),l.foldl (fun s x=>s||goneEq x x0.2.1) b=(b||l.any (fun x=>goneEq x x0.2.1)):=by
  intro l
  induction l with
  |nil=>intro b;simp
  |cons x r ih=>intro b;rw [List.foldl_cons,ih,List.any_cons,Bool.or_assoc]
 rw [this]
 rfl
theorem s_hearGone (n:DNd) (g:D107) (q:DQc) (h:NIn n) (hq:QIn q) (hg:e107.Ok g) (hG:GIn (learnN n q)):F102 (n,(g,(q,())))=some (hearGoneN n g q,()):=by
 unfold F102 hearGoneN
 refine bind_eq (s_isin (nSet n) g.2.2.1 h.ok.set.1) ?_
 cases inB (nSet n) g.2.2.1 with
 |false=>rfl
 |true =>
  refine no_then rfl (bind_eq (s_qc (nSet n) q h.ok.set.1 hq.ok) ?_)
  cases qcB (nSet n) q with
  |false=>rfl
  |true =>
   refine no_then rfl (bind_eq (s_learn n q h hq) ?_)
   cases he:iEq (learnN n q).2.1 n.2.1 with
   |false=>rfl
   |true =>
    have hg63:L63 (nGones (learnN n q)).length:=hG.go.1
    refine no_then rfl (bind_eq (s_hasGone (nGones (learnN n q)) g _ _ rfl rfl hg63) ?_)
    have hj:∀(R:Type),(bif (!hasG (nGones (learnN n q)) g) then bif iLt (List.length (nGones (learnN n q)):Int) (1000:Int) then bif room (List.length (nGones (learnN n q))+List.length ([g]:List D107)) 32 then some (.inl (lapp (nGones (learnN n q)) ([g]:List D107),())) else none else some (.inl (nGones (learnN n q),())) else some (.inl (nGones (learnN n q),())))=some (Sum.inl (addG (nGones (learnN n q)) g,()):Sum (List D107×Unit) R):=by
     intro R
     unfold addG
     cases hasG (nGones (learnN n q)) g with
     |true=>rfl
     |false =>
      refine thenT rfl ?_
      cases iLt (List.length (nGones (learnN n q)):Int) (1000:Int) with
      |false=>rfl
      |true=>exact thenT rfl (room_is (by show (nGones (learnN n q)).length+1≤1048577;have:=hG.g;omega) (by decide) (by decide) rfl)
    have hgo:=addG_ok hG.go (Nat.le_trans hG.g (by decide)) hg
    refine bind_eq (hj _) (bind_eq (s_gatherTc (nSet (learnN n q)) (addG (nGones (learnN n q)) g) g.1 hG.s hG.so hgo hg.1) ?_)
    unfold gonesN
    have hT:=gathT_in (nSet (learnN n q)) (addG (nGones (learnN n q)) g) g.1 hG.s hG.so hgo hg.1
    cases ht:(gathTR (nSet (learnN n q)) (addG (nGones (learnN n q)) g) g.1).2.1.1 with
    |false=>exact no_then rfl (by simp only [cond_true,ht,cond_false,Bool.and_true];rfl)
    |true =>
     obtain ⟨_,_,e⟩:=gath_none ht
     refine thenT rfl (bind_eq (s_learnTc (setGo (learnN n q) (addG (nGones (learnN n q)) g)) _ (by rw [e];exact hT)) (by simp only [Bool.and_true,cond_true,ht]))
theorem i_hearGone (n:DNd) (g:D107) (q:DQc) (h:NIn n) (hq:QIn q) (hg:e107.Ok g) (hG:GIn (learnN n q)):F132 (n,(g,(q,())))=some (hearGoneN n g q,()):=by
 unfold F132 hearGoneN
 refine bind_eq (i_isin (nSet n) g.2.2.1 h.ok.set.1) ?_
 cases inB (nSet n) g.2.2.1 with
 |false=>rfl
 |true =>
  refine no_then rfl (bind_eq (i_qc (nSet n) q h.ok.set.1 hq.ok) ?_)
  have il:=i_learn n q h hq
  cases hqc:qcB (nSet n) q with
  |false=>rfl
  |true =>
   rw [hqc] at il
   refine no_then rfl (bind_eq il ?_)
   cases he:iEq (learnN n q).2.1 n.2.1 with
   |false=>exact thenT (by show (!iEq (learnN n q).2.1 n.2.1)=true;rw [he];rfl) rfl
   |true =>
    refine no_then (by show (!iEq (learnN n q).2.1 n.2.1)=false;rw [he];rfl) ?_
    have hg63:L63 (nGones (learnN n q)).length:=hG.go.1
    have hj:∀(R:Type),((F178 ((nGones (learnN n q),()),(g,()))).bind fun y4=>bif (!y4.1.1) then bif iLt (List.length (nGones (learnN n q)):Int) (1000:Int) then bif room (List.length (nGones (learnN n q))+List.length ([g]:List D107)) 32 then some (.inl (lapp (nGones (learnN n q)) ([g]:List D107),())) else none else some (.inl (nGones (learnN n q),())) else some (.inl (nGones (learnN n q),())))=some (Sum.inl (addG (nGones (learnN n q)) g,()):Sum (List D107×Unit) R):=by
     intro R
     refine bind_eq (i_hasGone _ g hg63) ?_
     unfold addG
     cases hasG (nGones (learnN n q)) g with
     |true=>rfl
     |false =>
      refine thenT rfl ?_
      cases iLt (List.length (nGones (learnN n q)):Int) (1000:Int) with
      |false=>rfl
      |true=>exact thenT rfl (room_is (by show (nGones (learnN n q)).length+1≤1048577;have:=hG.g;omega) (by decide) (by decide) rfl)
    have hgo:=addG_ok hG.go (Nat.le_trans hG.g (by decide)) hg
    refine bind_eq (hj _) (bind_eq (i_gatherTc (nSet (learnN n q)) (addG (nGones (learnN n q)) g) g.1 hG.s hG.so hgo hg.1) ?_)
    unfold gonesN
    have hT:=gathT_in (nSet (learnN n q)) (addG (nGones (learnN n q)) g) g.1 hG.s hG.so hgo hg.1
    cases ht:(gathTR (nSet (learnN n q)) (addG (nGones (learnN n q)) g) g.1).2.1.1 with
    |false=>exact no_then rfl (by simp only [cond_true,ht,cond_false,Bool.and_true];rfl)
    |true =>
     obtain ⟨e1,e2,e⟩:=gath_none ht
     have it:=i_learnTc (setGo (learnN n q) (addG (nGones (learnN n q)) g)) (gathTR (nSet (learnN n q)) (addG (nGones (learnN n q)) g) g.1).1 hG.so.1 (by rw [e];exact hT)
     rw [e1,show tcB (nSet (setGo (learnN n q) (addG (nGones (learnN n q)) g))) (gathTR (nSet (learnN n q)) (addG (nGones (learnN n q)) g) g.1).1=true from e2] at it
     refine thenT rfl (bind_eq it (by simp only [Bool.and_true,cond_true,cond_false,ht]))
def goneOf (n:DNd):D107:=(nRound n,((nHigh n).1,(n.1,())))
def goneMsg (n:DNd) (ep:Int):DMs:=(3,(⟨#[]⟩,(ep,([],(0,(0,(⟨#[]⟩,(nRound n,((nHigh n).1,(n.1,((nHigh n).1,((nHigh n).2.1,((nHigh n).2.2.1,(0,([],([],()))))))))))))))))
def goneSg (n:DNd):D112:=(2,(n.2.1,(nRound n,((nHigh n).1,(n.1,())))))
noncomputable def leaveN (n:DNd):DNd×(List DMs×List D112):=bif inB (nSet n) n.1&& !iLt (nRound n) (nVoted n) then
  (hearGoneN (setVo n (nRound n)) (goneOf n) (nHigh n),(toAllL (nSet n) n.1 (goneMsg n 0) n.2.1,[goneSg n])) else (n,([],[]))
theorem toAll_ep (set:List D163) (name:ByteArray) (n:DNd) (a b ep:Int):toAllL set name (goneMsg n a) ep=toAllL set name (goneMsg n b) ep:=rfl
theorem setVo_in {n:DNd} (h:NIn n) {v:Int} (hv:(Lit.int .i64 v).wf=true):NIn (setVo n v):=⟨setVo_ok h.ok hv,h.l,h.t,h.d,h.p⟩
theorem gmsgL {n:DNd} (l:NodeL n) (ep:Int):MsgL (goneMsg n ep):=⟨Nat.zero_le _,(fun b hb=>by cases hb),l.2.2.2.2.1,Nat.zero_le _,Nat.zero_le _⟩
theorem gone_ok {n:DNd} (h:NOk n):e107.Ok (goneOf n):=⟨h.2.2.2.2.2.2.1,h.2.2.2.2.2.2.2.2.1,h.1,trivial⟩
theorem s_leaveN (n:DNd) (h:NIn n) (hG:GIn (learnN (setVo n (nRound n)) (nHigh n))):F29 (n,())=some (((leaveN n).2.1,()),(((leaveN n).2.2,()),((leaveN n).1,()))):=by
 have hq:=h.ok.qin h.l
 unfold F29 leaveN
 refine bind_eq (s_isin (nSet n) n.1 h.ok.set.1) ?_
 cases inB (nSet n) n.1 with
 |false=>rfl
 |true =>
  refine no_then rfl ?_
  show (bif iLt (nRound n) (nVoted n) then _ else _)=_
  cases iLt (nRound n) (nVoted n) with
  |true=>rfl
  |false =>
   refine no_then rfl (bind_eq (s_cqc (nHigh n) hq.w) (bind_eq (s_toAll (setVo n (nRound n)) (goneMsg n n.2.1) h.l.2.1 (gmsgL h.l _)) (bind_eq (show F101 ((n.2.1,()),(goneOf n,()))=some (goneSg n,()) from rfl) (bind_eq (s_hearGone (setVo n (nRound n)) (goneOf n) (nHigh n) (setVo_in h h.round) hq (gone_ok h.ok) hG) rfl))))
theorem i_leaveN (n:DNd) (h:NIn n) (hG:GIn (learnN (setVo n (nRound n)) (nHigh n))):F42 (n,())=some (((leaveN n).2.1,((leaveN n).2.2,())),((leaveN n).1,())):=by
 have hq:=h.ok.qin h.l
 unfold F42 leaveN
 refine bind_eq (i_isin (nSet n) n.1 h.ok.set.1) ?_
 cases inB (nSet n) n.1 with
 |false=>rfl
 |true =>
  refine no_then rfl ?_
  show (bif iLt (nRound n) (nVoted n) then _ else _)=_
  cases iLt (nRound n) (nVoted n) with
  |true=>rfl
  |false =>
   refine no_then rfl (bind_eq (i_cqc (nHigh n) hq.w) (bind_eq (i_toAll (setVo n (nRound n)) (goneMsg n 0) h.l.2.1 (gmsgL h.l _)) (bind_eq (show F131 ((n.2.1,()),(goneOf n,()))=some (goneSg n,()) from rfl) (bind_eq (i_hearGone (setVo n (nRound n)) (goneOf n) (nHigh n) (setVo_in h h.round) hq (gone_ok h.ok) hG) rfl))))
theorem sumW_app {A:Type} (f:A→Nat):∀(a b:List A),sumW f (a++b)=sumW f a+sumW f b
 | [],b=>by simp [sumW]
 |x::r,b=>by simp only [List.cons_append,sumW];rw [sumW_app f r b];omega
theorem sumW_sub {A:Type} (f:A→Nat) {a b:List A} (h:a.Sublist b):sumW f a≤sumW f b:=by
 induction h with
 |slnil=>exact Nat.le_refl _
 |cons x _ ih=>simp only [sumW];omega
 |cons_cons x _ ih=>simp only [sumW];omega
theorem w_app {es:Tys} (a b:List es.D):(Ty.sl es).w (a++b)=(Ty.sl es).w a+(Ty.sl es).w b:=by
 show (a++b).length+sumW (fun x=>es.w x) (a++b)=(a.length+sumW (fun x=>es.w x) a)+(b.length+sumW (fun x=>es.w x) b)
 rw [sumW_app,List.length_append];omega
theorem w_sub {es:Tys} {a b:List es.D} (h:a.Sublist b):(Ty.sl es).w a≤(Ty.sl es).w b:=by
 show a.length+sumW (fun x=>es.w x) a≤b.length+sumW (fun x=>es.w x) b
 have:=sumW_sub (fun x=>es.w x) h
 have:=h.length_le
 omega
theorem sumW_const {A:Type} {f:A→Nat} {c:Nat}:∀{xs:List A},(∀x∈xs,f x≤c)→sumW f xs≤c*xs.length
 | [],_=>by simp [sumW]
 |x::r,h=>by
  have h1:=sumW_const (f:=f) (c:=c) (xs:=r) (fun y hy=>h y (by simp [hy]))
  have h2:=h x (by simp)
  simp only [sumW,List.length_cons,Nat.mul_add,Nat.mul_one]
  omega
theorem chain_sub {l:List DBk} (h:TreeF l):∀(id:Int) (j:Nat) (hj:j<l.length),l[j].1=id→(chain l id).Sublist (l.take (j+1)):=by
 refine chain_ind h (fun id hn j hj e=>absurd e (hn _ (List.getElem_mem hj))) (fun b hb ih j hj e=>?_)
 rw [chain_some h hb,List.take_succ_eq_append_getElem hj]
 have hbj:l[j]=b:=h.uniqB (List.getElem_mem hj) hb e
 rw [hbj]
 refine List.Sublist.append ?_ (List.Sublist.refl _)
 rcases h.par b hb with ⟨h1,_⟩|⟨_,h2,_,p,hp,hpe,_⟩
 ·rw [chain_neg h (by omega)];exact List.nil_sublist _
 ·obtain ⟨i,hi,rfl⟩:=List.getElem_of_mem hp
  have hij:i<j:=by
   rcases Nat.lt_or_ge i j with h3|h3
   ·exact h3
   ·exfalso
    have h4:l[j].1≤l[i].1:=by
     rcases Nat.eq_or_lt_of_le h3 with h5|h5
     ·subst h5;exact Int.le_refl _
     ·exact Int.le_of_lt (h.asc j i hj hi h5)
    rw [hbj] at h4
    omega
  exact (ih i hi hpe).trans (List.take_sublist_take_left (by omega))
theorem chain_subl {l:List DBk} (h:TreeF l) (id:Int):(chain l id).Sublist l:=by
 rcases blkAt_cases h id with ⟨_,_,h2⟩|⟨b,hb,he,_,_,_⟩
 ·rw [chain_none h2];exact List.nil_sublist _
 ·obtain ⟨j,hj,rfl⟩:=List.getElem_of_mem hb
  exact (chain_sub h id j hj he).trans (List.take_sublist _ _)
theorem name_size {s:ByteArray} (h:nameB s=true):s.size≤8:=by
 unfold nameB at h
 simp only [Bool.and_eq_true] at h
 have:=h.2
 simp only [inR,iLe,Bool.and_eq_true,decide_eq_true_eq] at this
 omega
theorem led_w {L:DLe} (h:ledgerB L=true):(Ty.sl e207).w L.2.1≤1000:=by
 have hl:=ledger_len h
 have hn:∀a∈L.2.1,e207.w a≤12:=by
  intro a ha
  unfold ledgerB acctsB at h
  simp only [Bool.and_eq_true] at h
  obtain ⟨i,hi,rfl⟩:=List.getElem_of_mem ha
  have h1:=allI_get h.2.1 i hi
  rw [Nat.zero_add] at h1
  unfold acctP acctB at h1
  simp only [Bool.and_eq_true] at h1
  have h2:=name_size h1.1.1
  have h3:=(hl.2.1 _ (List.getElem_mem hi)).1
  have h4:(Ty.sl e229).w (L.2.1[i]).2.2.2.2.1≤4:=by
   show List.length (L.2.1[i]).2.2.2.2.1+sumW (fun x=>e229.w x) (L.2.1[i]).2.2.2.2.1≤4
   have:sumW (fun x=>e229.w x) (L.2.1[i]).2.2.2.2.1≤0*List.length (L.2.1[i]).2.2.2.2.1:=sumW_const (fun x _=>Nat.le_refl _)
   omega
  show (L.2.1[i]).1.size+(0+(0+(0+((Ty.sl e229).w (L.2.1[i]).2.2.2.2.1+0))))≤12
  omega
 show L.2.1.length+sumW (fun x=>e207.w x) L.2.1≤1000
 have h1:=sumW_const (f:=fun x=>e207.w x) hn
 have h2:sumW (fun x=>e207.w x) L.2.1≤12*12:=Nat.le_trans h1 (Nat.mul_le_mul_left 12 hl.1)
 exact Nat.le_trans (Nat.add_le_add hl.1 h2) (by decide)
theorem led_wf {L:DLe} (h:ledgerB L=true):(Lit.int .i64 L.1).wf=true:=by
 unfold ledgerB at h
 simp only [Bool.and_eq_true] at h
 have:=h.1
 simp only [inR,iLe,Bool.and_eq_true,decide_eq_true_eq] at this
 exact Rwf (by omega) (by omega)
theorem foldR_led:∀(ch:List DBk) (L:DLe),(Ty.sl e207).Ok L.2.1→AcctL L.2.1→(∀b∈ch,(Ty.sl e169).Ok (bTxs b))→ledgerB L=true→ledgerB (foldR L ch)=true
 | [],L,_,_,_,h=>h
 |b::r,L,h1,h2,h3,h=>by
  obtain ⟨_,_,h4,h5⟩:=all_both L (bTxs b) h1 h2 (h3 b (by simp))
  exact foldR_led r _ h4 h5 (fun c hc=>h3 c (by simp [hc])) (allR_led (bTxs b) (0,L) h1 h2 (fun t ht=>Ok_mem (h3 b (by simp)).2 ht) h)
theorem node_w (n:DNd):e52.w n=n.1.size+(Ty.sl e207).w n.2.2.2.1+(Ty.sl e163).w (nSet n)+(Ty.sl e154).w (nTree n)+(Ty.sl e9).w (nHigh n).2.2.1+(Ty.sl e9).w (nTc n).2.1+(Ty.sl e3).w (nTc n).2.2.1+(Ty.sl e105).w (nVotes n)+(Ty.sl e107).w (nGones n)+(Ty.sl e3).w (nDone n)+(Ty.sl e169).w (nPool n)+(Ty.sl e146).w (nPast n):=by
 show n.1.size+(0+(0+((Ty.sl e207).w n.2.2.2.1+((Ty.sl e163).w (nSet n)+((Ty.sl e154).w (nTree n)+(0+(0+(0+(0+((Ty.sl e9).w (nHigh n).2.2.1+(0+((Ty.sl e9).w (nTc n).2.1+((Ty.sl e3).w (nTc n).2.2.1+(0+((Ty.sl e105).w (nVotes n)+((Ty.sl e107).w (nGones n)+((Ty.sl e3).w (nDone n)+((Ty.sl e169).w (nPool n)+((Ty.sl e146).w (nPast n)+0)))))))))))))))))))=_
 omega
theorem intw (d:List D3):(Ty.sl e3).w d=d.length:=by
 show d.length+sumW (fun x=>e3.w x) d=d.length
 have:sumW (fun x=>e3.w x) d≤0*d.length:=sumW_const (fun x _=>Nat.le_refl _)
 omega
theorem addDs_ok:∀(ids d:List D3),(∀x∈d,e3.Ok x)→(∀x∈ids,e3.Ok x)→∀x∈addDs d ids,e3.Ok x
 | [],d,h,_=>h
 |y::r,d,h,h2=>by
  refine addDs_ok r (addD d y.1) (fun x hx=>?_) (fun x hx=>h2 x (by simp [hx]))
  unfold addD at hx
  cases hc:hasD d y.1 with
  |true=>rw [hc] at hx;exact h x hx
  |false =>
   rw [hc] at hx
   rcases List.mem_append.1 hx with hx|hx
   ·exact h x hx
   ·rw [List.mem_singleton.1 hx];exact h2 y (by simp)
structure NOut (n m:DNd):Prop where
 ok:NOk m
 l:NodeL m
 name:m.1=n.1
 go:nGones m=nGones n∨nGones m= []
 w:e52.w m≤e52.w n+(e52.w n+200000)
theorem NOut.refl {n:DNd} (h:NIn n):NOut n n:=⟨h.ok,h.l,rfl,.inl rfl,by omega⟩
theorem commitR_out (n:DNd) (q:DQc) (h:NIn n) (hq:QIn q) (hL:ledgerB (nBase n)=true) (hqw:(Ty.sl e9).w q.2.2.1≤(Ty.sl e9).w (nHigh n).2.2.1):NOut n (commitR n q):=by
 unfold commitR
 cases hid:iEq (commitId (nTree n) q) (-1) with
 |true=>exact NOut.refl h
 |false =>
  show NOut n (commitN n (commitId (nTree n) q) q)
  generalize commitId (nTree n) q=id
  have hT:=h.ok.tree
  have hc:=chain_len1 h.t id
  have hclen:=cutEnd_len (chain (nTree n) id)
  have htx:∀b∈cutEnd (chain (nTree n) id),(Ty.sl e169).Ok (bTxs b):=fun b hb=>(show BOk b from Ok_mem hT.2 (chain_mem h.t id b (cutEnd_mem hb))).txs
  have hw:=foldR_ok (cutEnd (chain (nTree n) id)) (nBase n) h.ok.base h.acc htx
  have hled:=foldR_led (cutEnd (chain (nTree n) id)) (nBase n) h.ok.base h.acc htx hL
  have hdl:=addDs_len (idsOf (cutEnd (chain (nTree n) id))) (nDone n)
  rw [ids_len] at hdl
  have hd:=h.d
  have hdn:(Ty.sl e3).Ok (nDone n):=h.ok.2.2.2.2.2.2.2.2.2.2.2.2.2.2.2.2.2.1
  have hids:∀x∈idsOf (cutEnd (chain (nTree n) id)),e3.Ok x:=fun x hx=>by
   obtain ⟨b,hb,rfl⟩:=List.mem_map.1 hx
   exact ⟨(show BOk b from Ok_mem hT.2 (chain_mem h.t id b (cutEnd_mem hb))).1,trivial⟩
  have hdo:(Ty.sl e3).Ok (addDs (nDone n) (idsOf (cutEnd (chain (nTree n) id)))):=Ok_of (Nat.le_trans hdl (by omega)) (addDs_ok _ _ (fun x hx=>Ok_mem hdn.2 hx) hids)
  have hps:(dropL (nPool n) (foldR (nBase n) (cutEnd (chain (nTree n) id)))).Sublist (nPool n):=List.filter_sublist
  have hpo:(Ty.sl e169).Ok (dropL (nPool n) (foldR (nBase n) (cutEnd (chain (nTree n) id)))):=Ok_of (Nat.le_trans hps.length_le h.ok.pool.1) (fun y hy=>Ok_mem h.ok.pool.2 (hps.subset hy))
  have hpw:=w_sub (es:=e169) hps
  have hdw:(Ty.sl e3).w (addDs (nDone n) (idsOf (cutEnd (chain (nTree n) id))))≤(Ty.sl e3).w (nDone n)+100001:=by rw [intw,intw];omega
  have hnw:=node_w n
  have l:=h.l
  unfold commitN
  rw [walk_eq]
  generalize hgg:foldR (nBase n) (cutEnd (chain (nTree n) id))=g at *
  generalize hdd:addDs (nDone n) (idsOf (cutEnd (chain (nTree n) id)))=d at *
  generalize hpp:dropL (nPool n) g=pl at *
  have hpl:pl.length≤(nPool n).length:=hps.length_le
  cases hf:(chain (nTree n) id).find? (fun b=>bEnd b) with
  |none =>
   have e:=node_w (setDP n d pl)
   show NOut n (setDP n d (dropL (nPool n) g))
   rw [hpp]
   refine ⟨⟨h.ok.1,h.ok.2.1,h.ok.2.2.1,h.ok.2.2.2.1,h.ok.2.2.2.2.1,h.ok.2.2.2.2.2.1,h.ok.2.2.2.2.2.2.1,h.ok.2.2.2.2.2.2.2.1,h.ok.2.2.2.2.2.2.2.2.1,h.ok.2.2.2.2.2.2.2.2.2.1,h.ok.2.2.2.2.2.2.2.2.2.2.1,h.ok.2.2.2.2.2.2.2.2.2.2.2.1,h.ok.2.2.2.2.2.2.2.2.2.2.2.2.1,h.ok.2.2.2.2.2.2.2.2.2.2.2.2.2.1,h.ok.2.2.2.2.2.2.2.2.2.2.2.2.2.2.1,h.ok.2.2.2.2.2.2.2.2.2.2.2.2.2.2.2.1,h.ok.2.2.2.2.2.2.2.2.2.2.2.2.2.2.2.2.1,hdo,hpo,h.ok.2.2.2.2.2.2.2.2.2.2.2.2.2.2.2.2.2.2.2.1,trivial⟩,?_,rfl,.inl rfl,?_⟩
   ·exact ⟨l.1,l.2.1,l.2.2.1,l.2.2.2.1,l.2.2.2.2.1,l.2.2.2.2.2.1,l.2.2.2.2.2.2.1,l.2.2.2.2.2.2.2.1,l.2.2.2.2.2.2.2.2.1,Nat.le_trans hdl (by omega),Nat.le_trans hpl l.2.2.2.2.2.2.2.2.2.2.1,l.2.2.2.2.2.2.2.2.2.2.2.1,l.2.2.2.2.2.2.2.2.2.2.2.2⟩
   ·show e52.w (setDP n d pl)≤_
    rw [e]
    show n.1.size+(Ty.sl e207).w n.2.2.2.1+(Ty.sl e163).w (nSet n)+(Ty.sl e154).w (nTree n)+(Ty.sl e9).w (nHigh n).2.2.1+(Ty.sl e9).w (nTc n).2.1+(Ty.sl e3).w (nTc n).2.2.1+(Ty.sl e105).w (nVotes n)+(Ty.sl e107).w (nGones n)+(Ty.sl e3).w d+(Ty.sl e169).w pl+(Ty.sl e146).w (nPast n)≤_
    omega
  |some b =>
   have hbm:b∈nTree n:=chain_mem h.t id b (List.mem_of_find?_eq_some hf)
   have hB:BOk b:=Ok_mem hT.2 hbm
   obtain ⟨_,_,n3,n4⟩:=nextR_eq g hw.1 hw.2
   have hnl:=nextR_led g hw.1 hw.2 hled
   have hwf:=led_wf hnl
   have hlw:=led_w hnl
   have hcq:=chain_subl h.t q.2.1
   have hcw:=w_sub (es:=e154) hcq
   have hcl:=hcq.length_le
   have htl:(nTree n).length≤400:=h.t.len
   have hpok:e146.Ok (proofN n q):=⟨h.ok.2.1,Ok_of (Nat.le_trans hcl hT.1) (fun y hy=>Ok_mem hT.2 (hcq.subset hy)),hq.i1,hq.i2,hq.ok,trivial⟩
   have hpast:=h.ok.2.2.2.2.2.2.2.2.2.2.2.2.2.2.2.2.2.2.2.1
   have hp:=h.p
   have hpo2:(Ty.sl e146).Ok (nPast n++ [proofN n q]):=Ok_of (by show (nPast n++ [proofN n q]).length≤_;rw [List.length_append];show (nPast n).length+1≤_;omega) (fun y hy=>by
    rcases List.mem_append.1 hy with hy|hy
    ·exact Ok_mem hpast.2 hy
    ·rw [List.mem_singleton.1 hy];exact hpok)
   have hbw:e154.w b≤(Ty.sl e154).w (nTree n):=w_mem (Nat.le_refl _) hbm
   have hnx:(Ty.sl e163).w (bNext b)≤(Ty.sl e154).w (nTree n):=w_hd (w_tl (w_tl (w_tl (w_tl (w_tl (w_tl (w_tl (w_tl (w_tl (w_tl (w_tl (w_tl hbw))))))))))))
   have hpfw:(Ty.sl e146).w (nPast n++ [proofN n q])=(Ty.sl e146).w (nPast n)+(1+((0+((Ty.sl e154).w (chain (nTree n) q.2.1)+(0+(0+((Ty.sl e9).w q.2.2.1+0)))))+0)):=w_app (es:=e146) (nPast n) [proofN n q]
   have e:=node_w (begN n (nextR g) (bNext b) d pl (nPast n++ [proofN n q]))
   have hz:∀{es:Tys},(Ty.sl es).w ([]:List es.D)=0:=rfl
   show NOut n (begN n (nextR g) (bNext b) d (dropL (nPool n) g) (nPast n++ [proofN n q]))
   rw [hpp]
   refine ⟨⟨h.ok.1,hwf,hwf,n3,hB.next,Ok_nil,rfl,rfl,rfl,rfl,Ok_nil,rfl,Ok_nil,Ok_nil,rfl,Ok_nil,Ok_nil,hdo,hpo,hpo2,trivial⟩,?_,rfl,.inr rfl,?_⟩
   ·refine ⟨n4,(h.bl b hbm).2.2.2.2,Nat.zero_le _,(fun x hx=>by cases hx),Nat.zero_le _,Nat.zero_le _,Nat.zero_le _,Nat.zero_le _,Nat.zero_le _,Nat.le_trans hdl (by omega),Nat.le_trans hpl l.2.2.2.2.2.2.2.2.2.2.1,?_,fun p hp=>?_⟩
    ·show (nPast n++ [proofN n q]).length≤1048576
     rw [List.length_append];show (nPast n).length+1≤_;omega
    ·rcases List.mem_append.1 hp with hp|hp
     ·exact l.2.2.2.2.2.2.2.2.2.2.2.2 p hp
     ·rw [List.mem_singleton.1 hp]
      exact ⟨Nat.le_trans hcl (Nat.le_trans htl (by decide)),fun y hy=>h.bl y (hcq.subset hy),hq.w⟩
   ·rw [e]
    show n.1.size+(Ty.sl e207).w (nextR g).2.1+(Ty.sl e163).w (bNext b)+0+0+0+0+0+0+(Ty.sl e3).w d+(Ty.sl e169).w pl+(Ty.sl e146).w (nPast n++ [proofN n q])≤_
    rw [hpfw]
    omega
theorem node_facts {n:DNd} (h:nodeB n=true):ledgerB (nBase n)=true∧treeB (nTree n)=true∧(nSet n).length≤12∧(nVotes n).length≤1000∧(nGones n).length≤1000∧(nDone n).length≤200∧(nPast n).length≤200:=by
 unfold nodeB at h
 simp only [Bool.and_eq_true] at h
 obtain ⟨_,h1,_,_,h2,h3,_,_,_,_,_,_,_,_,h5,h6,h7,h8⟩:=h
 refine ⟨h1,h3,?_,by simp only [iLe,decide_eq_true_eq] at h5;omega,by simp only [iLe,decide_eq_true_eq] at h6;omega,by simp only [iLe,decide_eq_true_eq] at h7;omega,by simp only [iLe,decide_eq_true_eq] at h8;omega⟩
 cases hl:iLt 0 (List.length (nSet n):Int) with
 |false =>
  have:¬(0<(List.length (nSet n):Int)):=by simpa [iLt] using hl
  omega
 |true =>
  rw [hl] at h2
  have h2:setB (nSet n)=true:=by simpa using h2
  unfold setB at h2
  simp only [Bool.and_eq_true] at h2
  have:=h2.2
  simp only [inR,iLe,Bool.and_eq_true,decide_eq_true_eq] at this
  omega
theorem leave_out (n:DNd) (h:NIn n) (hL:ledgerB (nBase n)=true) (hgl:(nGones n).length≤1000) (q:DQc) (hqe:q=nHigh n) (g:D107) (hg:e107.Ok g) (hgw:g.2.2.1.size≤n.1.size) :
  GIn (learnN n q)∧NOk (hearGoneN n g q)∧NodeL (hearGoneN n g q)∧e52.w (hearGoneN n g q)≤12*e52.w n+1000000:=by
 subst hqe
 have hq:=h.ok.qin h.l
 have hs:=setLn_in h hq
 have hhi:highN n (nHigh n)=nHigh n:=by unfold highN;cases iLt (nHigh n).1 (nHigh n).1<;>rfl
 have hsw:e52.w (setLn n (nHigh n))=e52.w n:=by
  rw [node_w,node_w]
  unfold setLn
  rw [hhi];rfl
 have o:=commitR_out (setLn n (nHigh n)) (nHigh n) hs hq hL (by unfold setLn;rw [hhi];exact Nat.le_refl _)
 have ow:=o.w
 rw [hsw] at ow
 have hm:commitR (setLn n (nHigh n)) (nHigh n)=learnN n (nHigh n):=rfl
 rw [hm] at o ow
 have ogo:(nGones (learnN n (nHigh n))).length≤1000:=by
  rcases o.go with e|e
  ·rw [e];exact hgl
  ·rw [e];exact Nat.zero_le _
 have gok:(Ty.sl e107).Ok (nGones (learnN n (nHigh n))):=o.ok.2.2.2.2.2.2.2.2.2.2.2.2.2.2.2.2.1
 have hG:GIn (learnN n (nHigh n)):=⟨o.l.2.1,o.ok.set,by omega,gok⟩
 refine ⟨hG,?_⟩
 unfold hearGoneN
 cases (inB (nSet n) g.2.2.1&&qcB (nSet n) (nHigh n)) with
 |false=>exact ⟨h.ok,h.l,by show e52.w n≤12*e52.w n+1000000;omega⟩
 |true =>
  simp only [cond_true]
  cases iEq (learnN n (nHigh n)).2.1 n.2.1 with
  |false=>exact ⟨o.ok,o.l,Nat.le_trans ow (by generalize e52.w n=z;omega)⟩
  |true =>
   simp only [cond_true]
   generalize learnN n (nHigh n)=m at *
   have hgo:=addG_ok gok (by unfold W1;omega) hg
   have hal:=addG_len (nGones m) g
   have hT:=gathT_in (nSet m) (addG (nGones m) g) g.1 hG.s hG.so hgo hg.1
   have l:=o.l
   have hok2:=setGo_ok o.ok hgo
   have hl2:NodeL (setGo m (addG (nGones m) g)):=⟨l.1,l.2.1,l.2.2.1,l.2.2.2.1,l.2.2.2.2.1,l.2.2.2.2.2.1,l.2.2.2.2.2.2.1,l.2.2.2.2.2.2.2.1,Nat.le_trans hal (by omega),l.2.2.2.2.2.2.2.2.2.1,l.2.2.2.2.2.2.2.2.2.2.1,l.2.2.2.2.2.2.2.2.2.2.2.1,l.2.2.2.2.2.2.2.2.2.2.2.2⟩
   have hmw:=node_w m
   have haw:(Ty.sl e107).w (addG (nGones m) g)≤(Ty.sl e107).w (nGones m)+(1+g.2.2.1.size):=by
    unfold addG
    cases (!hasG (nGones m) g&&iLt ((nGones m).length:Int) 1000) with
    |false=>exact Nat.le_add_right _ _
    |true =>
     refine Nat.le_trans (Nat.le_of_eq (w_app (es:=e107) (nGones m) [g])) ?_
     show _+(1+((0+(0+(g.2.2.1.size+0)))+0))≤_
     omega
   have hw2:=node_w (setGo m (addG (nGones m) g))
   have hw2:e52.w (setGo m (addG (nGones m) g))≤e52.w m+(1+g.2.2.1.size):=by
    rw [hw2]
    show m.1.size+(Ty.sl e207).w m.2.2.2.1+(Ty.sl e163).w (nSet m)+(Ty.sl e154).w (nTree m)+(Ty.sl e9).w (nHigh m).2.2.1+(Ty.sl e9).w (nTc m).2.1+(Ty.sl e3).w (nTc m).2.2.1+(Ty.sl e105).w (nVotes m)+(Ty.sl e107).w (addG (nGones m) g)+(Ty.sl e3).w (nDone m)+(Ty.sl e169).w (nPool m)+(Ty.sl e146).w (nPast m)≤_
    omega
   have hnsz:g.2.2.1.size≤e52.w n:=Nat.le_trans hgw (by rw [node_w n];omega)
   unfold gonesN
   dsimp only
   cases ht:(gathTR (nSet m) (addG (nGones m) g) g.1).2.1.1 with
   |false=>exact ⟨hok2,hl2,by show e52.w (setGo m (addG (nGones m) g))≤12*e52.w n+1000000;omega⟩
   |true =>
    obtain ⟨_,_,e⟩:=gath_none ht
    rw [e]
    simp only [cond_true]
    have hti:=tcT_in (n:=setGo m (addG (nGones m) g)) (hok2.tin hl2) hT
    have hrd:(Lit.int .i64 (nRound (setGo m (addG (nGones m) g)))).wf=true:=hok2.2.2.2.2.2.2.1
    refine ⟨setTR_ok hok2 (rnd_wf hrd) hti,?_,?_⟩
    ·exact ⟨hl2.1,hl2.2.1,hl2.2.2.1,hl2.2.2.2.1,hl2.2.2.2.2.1,hti.w,hti.wh,hl2.2.2.2.2.2.2.2.1,hl2.2.2.2.2.2.2.2.2.1,hl2.2.2.2.2.2.2.2.2.2.1,hl2.2.2.2.2.2.2.2.2.2.2.1,hl2.2.2.2.2.2.2.2.2.2.2.2.1,hl2.2.2.2.2.2.2.2.2.2.2.2.2⟩
    ·have hTw:(Ty.sl e9).w (gathT (nSet m) (addG (nGones m) g) g.1).2.1≤(Ty.sl e163).w (nSet m)∧(Ty.sl e3).w (gathT (nSet m) (addG (nGones m) g) g.1).2.2.1≤(Ty.sl e163).w (nSet m):=by
      have key:∀(set:List D163) (s:List D9×List D3),(Ty.sl e9).w (set.foldl (gathStep (addG (nGones m) g) g.1) s).1≤(Ty.sl e9).w s.1+(Ty.sl e163).w set∧(Ty.sl e3).w (set.foldl (gathStep (addG (nGones m) g) g.1) s).2≤(Ty.sl e3).w s.2+(Ty.sl e163).w set:=by
       intro set
       induction set with
       |nil=>intro s;exact ⟨Nat.le_add_right _ _,Nat.le_add_right _ _⟩
       |cons v r ih =>
        intro s
        have h1:=ih (gathStep (addG (nGones m) g) g.1 s v)
        have h2:(Ty.sl e163).w (v::r)=(1+((v.1.size+(0+0))+0))+(Ty.sl e163).w r:=w_app (es:=e163) [v] r
        have h3:(Ty.sl e9).w (gathStep (addG (nGones m) g) g.1 s v).1≤(Ty.sl e9).w s.1+(1+v.1.size)∧(Ty.sl e3).w (gathStep (addG (nGones m) g) g.1 s v).2≤(Ty.sl e3).w s.2+1:=by
         unfold gathStep
         cases iLe 0 (highG (addG (nGones m) g) g.1 v.1) with
         |false=>exact ⟨Nat.le_add_right _ _,Nat.le_add_right _ _⟩
         |true =>
          refine ⟨?_,?_⟩
          ·refine Nat.le_trans (Nat.le_of_eq (w_app (es:=e9) s.1 [(v.1,())])) ?_
           show _+(1+((v.1.size+0)+0))≤_
           omega
          ·refine Nat.le_trans (Nat.le_of_eq (w_app (es:=e3) s.2 [(highG (addG (nGones m) g) g.1 v.1,())])) ?_
           show _+(1+((0+0)+0))≤_
           omega
        simp only [List.foldl_cons]
        refine ⟨Nat.le_trans h1.1 (Nat.le_trans (Nat.add_le_add_right h3.1 _) (Nat.le_trans (m:=(Ty.sl e9).w s.1+((1+((v.1.size+(0+0))+0))+(Ty.sl e163).w r)) (by omega) (Nat.add_le_add_left (Nat.le_of_eq h2.symm) _))),Nat.le_trans h1.2 (Nat.le_trans (Nat.add_le_add_right h3.2 _) (Nat.le_trans (m:=(Ty.sl e3).w s.2+((1+((v.1.size+(0+0))+0))+(Ty.sl e163).w r)) (by omega) (Nat.add_le_add_left (Nat.le_of_eq h2.symm) _)))⟩
      have:=key (nSet m) ([],[])
      have hz1:(Ty.sl e9).w ([]:List D9)=0:=rfl
      have hz2:(Ty.sl e3).w ([]:List D3)=0:=rfl
      simp only [hz1,hz2,Nat.zero_add] at this
      exact this
     have hw3:=node_w (tcN (setGo m (addG (nGones m) g)) (gathT (nSet m) (addG (nGones m) g) g.1))
     have htt:(Ty.sl e9).w (tcT (setGo m (addG (nGones m) g)) (gathT (nSet m) (addG (nGones m) g) g.1)).2.1≤e52.w m∧(Ty.sl e3).w (tcT (setGo m (addG (nGones m) g)) (gathT (nSet m) (addG (nGones m) g) g.1)).2.2.1≤e52.w m:=by
      unfold tcT
      cases iLt (nTc (setGo m (addG (nGones m) g))).1 (gathT (nSet m) (addG (nGones m) g) g.1).1 with
      |false=>exact ⟨by show (Ty.sl e9).w (nTc m).2.1≤_;omega,by show (Ty.sl e3).w (nTc m).2.2.1≤_;omega⟩
      |true=>exact ⟨Nat.le_trans hTw.1 (by omega),Nat.le_trans hTw.2 (by omega)⟩
     show e52.w (tcN (setGo m (addG (nGones m) g)) (gathT (nSet m) (addG (nGones m) g) g.1))≤_
     rw [hw3]
     show m.1.size+(Ty.sl e207).w m.2.2.2.1+(Ty.sl e163).w (nSet m)+(Ty.sl e154).w (nTree m)+(Ty.sl e9).w (nHigh m).2.2.1+(Ty.sl e9).w (tcT (setGo m (addG (nGones m) g)) (gathT (nSet m) (addG (nGones m) g) g.1)).2.1+(Ty.sl e3).w (tcT (setGo m (addG (nGones m) g)) (gathT (nSet m) (addG (nGones m) g) g.1)).2.2.1+(Ty.sl e105).w (nVotes m)+(Ty.sl e107).w (addG (nGones m) g)+(Ty.sl e3).w (nDone m)+(Ty.sl e169).w (nPool m)+(Ty.sl e146).w (nPast m)≤_
     have hx:=htt.1
     have hy:=htt.2
     omega
theorem L_LeaveRound (n:DNd) (hn:e52.Ok n) (hw:e52.w n≤1048576) :
  ∃R,F5 (n,())=some R∧F7 (n,())=some R∧e52.Ok R.1∧e52.w R.1≤67108864∧(.cons (.sl e109) .nil:Tys).Ok R.2.1∧(.cons (.sl e109) .nil:Tys).w R.2.1≤67108864∧(.cons (.sl e112) .nil:Tys).Ok R.2.2.1∧(.cons (.sl e112) .nil:Tys).w R.2.2.1≤67108864:=by
 have hl:=NodeL_of hw
 have sn:=s_node n hn
 have inn:=i_node n hn
 cases hq:nodeB n with
 |false =>
  rw [hq] at sn inn
  refine ⟨(n,(([],()),(([],()),()))),?_,?_,hn,Nat.le_trans hw (by decide),⟨Ok_nil,trivial⟩,Nat.zero_le _,⟨Ok_nil,trivial⟩,Nat.zero_le _⟩
  ·unfold F5;exact bind_eq (s_cnode n hl) (bind_eq sn (thenT rfl rfl))
  ·unfold F7;exact bind_eq (i_cnode n hl) (bind_eq inn (thenT rfl rfl))
 |true =>
  rw [hq] at sn inn
  obtain ⟨f1,f2,f3,f4,f5,f6,f7⟩:=node_facts hq
  have hI:NIn n:=⟨hn,hl,treeF f2,by omega,by omega⟩
  have hIv:=setVo_in hI hI.round
  have hvw:e52.w (setVo n (nRound n))=e52.w n:=by rw [node_w,node_w];rfl
  obtain ⟨o1,o2,o3,o4⟩:=leave_out (setVo n (nRound n)) hIv f1 f5 (nHigh n) rfl (goneOf n) (gone_ok hn) (Nat.le_refl _)
  rw [hvw] at o4
  have key:NOk (leaveN n).1∧NodeL (leaveN n).1∧e52.w (leaveN n).1≤67108864∧(Ty.sl e109).Ok (leaveN n).2.1∧(Ty.sl e109).w (leaveN n).2.1≤67108864∧(Ty.sl e112).Ok (leaveN n).2.2∧(Ty.sl e112).w (leaveN n).2.2≤67108864:=by
   unfold leaveN
   cases (inB (nSet n) n.1&& !iLt (nRound n) (nVoted n)) with
   |false=>exact ⟨hn,hl,Nat.le_trans hw (by decide),Ok_nil,Nat.zero_le _,Ok_nil,Nat.zero_le _⟩
   |true =>
    have hN:NOk n:=hn
    have hqi:=hN.qin hl
    have hmem:∀y∈toAllL (nSet n) n.1 (goneMsg n 0) n.2.1,∃v∈nSet n,y=msgTo (goneMsg n 0) v.1 n.2.1:=fun y hy=>by
     obtain ⟨v,hv,rfl⟩:=List.mem_map.1 hy
     exact ⟨v,(List.mem_filter.1 hv).1,rfl⟩
    have hlen:(toAllL (nSet n) n.1 (goneMsg n 0) n.2.1).length≤12:=by
     unfold toAllL
     rw [List.length_map]
     exact Nat.le_trans (List.length_filter_le _ _) f3
    have hnw:=node_w n
    refine ⟨o2,o3,Nat.le_trans o4 (by omega),Ok_of (Nat.le_trans hlen (by decide)) (fun y hy=>?_),?_,Ok_of (show 1≤9223372036854775807 by decide) (fun y hy=>?_),?_⟩
    ·obtain ⟨v,hv,rfl⟩:=hmem y hy
     exact ⟨rfl,(show e163.Ok v from Ok_mem hN.set.2 hv).1,hn.2.1,Ok_nil,rfl,rfl,Nat.zero_le _,hn.2.2.2.2.2.2.1,hqi.i1,hn.1,hqi.i1,hqi.i2,hqi.ok,rfl,Ok_nil,Ok_nil,trivial⟩
    ·have hb:∀y∈toAllL (nSet n) n.1 (goneMsg n 0) n.2.1,e109.w y≤3*1048576:=fun y hy=>by
      obtain ⟨v,hv,rfl⟩:=hmem y hy
      have hvw:e163.w v≤(Ty.sl e163).w (nSet n):=w_mem (Nat.le_refl _) hv
      have hvz:v.1.size≤(Ty.sl e163).w (nSet n):=w_hd hvw
      show 0+(v.1.size+(0+(0+(0+(0+(0+(0+(0+(n.1.size+(0+(0+((Ty.sl e9).w (nHigh n).2.2.1+(0+(0+(0+0)))))))))))))))≤_
      omega
     show (toAllL (nSet n) n.1 (goneMsg n 0) n.2.1).length+sumW (fun x=>e109.w x) (toAllL (nSet n) n.1 (goneMsg n 0) n.2.1)≤_
     have h1:=sumW_const (f:=fun x=>e109.w x) hb
     have h2:sumW (fun x=>e109.w x) (toAllL (nSet n) n.1 (goneMsg n 0) n.2.1)≤3*1048576*12:=Nat.le_trans h1 (Nat.mul_le_mul_left _ hlen)
     exact Nat.le_trans (Nat.add_le_add hlen h2) (by decide)
    ·rw [List.mem_singleton.1 hy]
     exact ⟨rfl,hn.2.1,hn.2.2.2.2.2.2.1,hqi.i1,hn.1,trivial⟩
    ·show 1+((0+(0+(0+(0+(n.1.size+0)))))+0)≤_
     omega
  refine ⟨((leaveN n).1,(((leaveN n).2.1,()),(((leaveN n).2.2,()),()))),?_,?_,key.1,key.2.2.1,⟨key.2.2.2.1,trivial⟩,key.2.2.2.2.1,⟨key.2.2.2.2.2.1,trivial⟩,key.2.2.2.2.2.2⟩
  ·unfold F5;exact bind_eq (s_cnode n hl) (bind_eq sn (no_then rfl (bind_eq (s_leaveN n hI o1) rfl)))
  ·unfold F7;exact bind_eq (i_cnode n hl) (bind_eq inn (no_then rfl (bind_eq (i_leaveN n hI o1) (bind_eq (i_cnode _ key.2.1) rfl))))
end Go.Proofs.YtbhckidcagloeaaGreat
-- no more blanks than needed
