/- Plain laws, part 1: what the program's functions and the reference's compute, told as plain words. Conditions: none. -/
import Derived.Test.YtodcmpnbcgobkacGreatRbH
import Derived.Test.YtodcmpnbcgobkacGreatTm4
namespace Go.Proofs.YtodcmpnbcgobkacGreat
open Go Go.Tm
set_option linter.unusedVariables false
set_option maxRecDepth 100000

theorem s_in (n lo hi : Int) : F84 ((n, ()), ((lo, ()), ((hi, ()), ()))) = some (B1 (inR n lo hi)) := inR_ite

theorem i_in (n lo hi : Int) : F109 ((n, ()), ((lo, ()), ((hi, ()), ()))) = some (B1 (inR n lo hi)) := inR_ite

/-- A letter of a name; a name. -/
def letter (b : UInt8) : Bool := inR (UInt8.toNat b : Int) 97 122 || inR (UInt8.toNat b : Int) 48 57
def nameB (s : ByteArray) : Bool := s.data.toList.all letter && inR (s.size : Int) 1 8
theorem sz_list (s : ByteArray) : s.size = s.data.toList.length := rfl

theorem s_name (s : ByteArray) (hs : L63 s.size) : F79 ((s, ()), ()) = some (B1 (nameB s)) := by
  have lp := loopAllP (S := Int × Unit) s.data.toList letter (f := F79.b0 ((s, ()), ())) (fun k => (k, ())) (Sum.inl ((s.data.toList.length : Int), ())) (Sum.inr (B1 false)) (fun i hi => ?_) ?_
  · unfold F79 nameB
    refine bind_eq lp ?_
    cases s.data.toList.all letter
    · rfl
    · exact (congrArg (fun o => Option.bind o _) (s_in _ _ _)).trans rfl
  · unfold F79.b0 letter
    refine lt_then (Int.ofNat_lt.2 hi) (bind_eq (getI_lt hi) (bind_eq (s_in _ _ _) ?_))
    rw [← nxt hi hs, wrap_byte]
    cases inR (UInt8.toNat s.data.toList[i] : Int) 97 122
    · refine bind_eq (getI_lt hi) (bind_eq (s_in _ _ _) ?_)
      rw [wrap_byte]
      cases inR (UInt8.toNat s.data.toList[i] : Int) 48 57 <;> rfl
    · rfl
  · unfold F79.b0
    exact lt_else (Int.le_refl _) rfl

theorem i_name (s : ByteArray) (hs : L63 s.size) : F105 ((s, ()), ()) = some (B1 (nameB s)) := by
  have lp := loopAllP (S := Int × Unit) s.data.toList letter (f := F105.b0 ((s, ()), ())) (fun k => (k, ())) (Sum.inl ((s.data.toList.length : Int), ())) (Sum.inr (B1 false)) (fun i hi => ?_) ?_
  · unfold F105 nameB
    refine bind_eq lp ?_
    cases s.data.toList.all letter
    · rfl
    · exact (congrArg (fun o => Option.bind o _) (i_in _ _ _)).trans rfl
  · unfold F105.b0 letter inR
    refine lt_then (Int.ofNat_lt.2 hi) (bind_eq (getI_lt hi) ?_)
    rw [← nxt hi hs]
    simp only [getI_lt hi, Option.bind_some]
    cases iLe (97:Int) (UInt8.toNat s.data.toList[i] : Int) <;> cases iLe (UInt8.toNat s.data.toList[i] : Int) (122:Int) <;> cases iLe (48:Int) (UInt8.toNat s.data.toList[i] : Int) <;> cases iLe (UInt8.toNat s.data.toList[i] : Int) (57:Int) <;> rfl
  · unfold F105.b0
    exact lt_else (Int.le_refl _) rfl

/-- Names, in order. -/
def namP (xs : List D9) (i : Nat) (y : D9) : Bool := nameB y.1 && behind (fun z y => sLt z.1 y.1) xs i y
def namesB (xs : List D9) : Bool := allI (namP xs) 0 xs && iLe (xs.length : Int) 20

theorem s_names (xs : List D9) (hx : (Ty.sl e9).Ok xs) : F162 ((xs, ()), ()) = some (B1 (namesB xs)) := by
  have hl : L63 xs.length := hx.1
  have lp := loopAll (S := Int × Unit) xs (namP xs) (f := F162.b0 ((xs, ()), ())) (fun k => (k, ())) (Sum.inl ((xs.length : Int), ())) (Sum.inr (B1 false)) (fun i hi => ?_) ?_
  · unfold F162 namesB
    refine bind_eq lp ?_
    cases allI (namP xs) 0 xs <;> rfl
  · unfold F162.b0 namP
    refine lt_then (Int.ofNat_lt.2 hi) (bind_eq (getI_lt hi) (bind_eq (s_name _ (Ok_mem hx.2 (List.getElem_mem hi)).1) (goN ?_)))
    rw [← nxt hi hl]
    exact asc_step hi hl (fun z => bind_eq (getI_lt hi) goE)
  · unfold F162.b0
    exact lt_else (Int.le_refl _) rfl

theorem i_names (xs : List D9) (hx : (Ty.sl e9).Ok xs) : F170 ((xs, ()), ()) = some (B1 (namesB xs)) := by
  have hl : L63 xs.length := hx.1
  have lp := loopAll (S := Int × Unit) xs (namP xs) (f := F170.b0 ((xs, ()), ())) (fun k => (k, ())) (Sum.inl ((xs.length : Int), ())) (Sum.inr (B1 false)) (fun i hi => ?_) ?_
  · unfold F170 namesB
    refine bind_eq lp ?_
    cases allI (namP xs) 0 xs <;> rfl
  · unfold F170.b0 namP
    refine lt_then (Int.ofNat_lt.2 hi) (bind_eq (getI_lt hi) (bind_eq (i_name _ (Ok_mem hx.2 (List.getElem_mem hi)).1) (goN ?_)))
    rw [← nxt hi hl]
    exact asc_step hi hl (fun z => ite_tri)
  · unfold F170.b0
    exact lt_else (Int.le_refl _) rfl

/-- Those who vote. -/
def valP (xs : List D138) (i : Nat) (y : D138) : Bool := nameB y.1 && (inR y.2.1 1 1000000 && behind (fun z y => sLt z.1 y.1) xs i y)
def setB (xs : List D138) : Bool := allI (valP xs) 0 xs && inR (xs.length : Int) 1 12

theorem s_set (xs : List D138) (hx : (Ty.sl e138).Ok xs) : F82 ((xs, ()), ()) = some (B1 (setB xs)) := by
  have hl : L63 xs.length := hx.1
  have lp := loopAll (S := Int × Unit) xs (valP xs) (f := F82.b0 ((xs, ()), ())) (fun k => (k, ())) (Sum.inl ((xs.length : Int), ())) (Sum.inr (B1 false)) (fun i hi => ?_) ?_
  · unfold F82 setB
    refine bind_eq lp ?_
    cases allI (valP xs) 0 xs
    · rfl
    · exact (congrArg (fun o => Option.bind o _) (s_in _ _ _)).trans rfl
  · unfold F82.b0 valP
    refine lt_then (Int.ofNat_lt.2 hi) (bind_eq (getI_lt hi) (bind_eq (s_name _ (Ok_mem hx.2 (List.getElem_mem hi)).1) (goN (bind_eq (getI_lt hi) (bind_eq (s_in _ _ _) (goN ?_))))))
    rw [← nxt hi hl]
    exact asc_step hi hl (fun z => bind_eq (getI_lt hi) goE)
  · unfold F82.b0
    exact lt_else (Int.le_refl _) rfl

theorem i_set (xs : List D138) (hx : (Ty.sl e138).Ok xs) : F107 ((xs, ()), ()) = some (B1 (setB xs)) := by
  have hl : L63 xs.length := hx.1
  have lp := loopAll (S := Int × Unit) xs (valP xs) (f := F107.b0 ((xs, ()), ())) (fun k => (k, ())) (Sum.inl ((xs.length : Int), ())) (Sum.inr (B1 false)) (fun i hi => ?_) ?_
  · unfold F107 setB
    refine bind_eq lp ?_
    cases allI (valP xs) 0 xs
    · rfl
    · exact (congrArg (fun o => Option.bind o _) (i_in _ _ _)).trans rfl
  · unfold F107.b0 valP
    refine lt_then (Int.ofNat_lt.2 hi) (bind_eq (getI_lt hi) (bind_eq (i_name _ (Ok_mem hx.2 (List.getElem_mem hi)).1) (goN (bind_eq (i_in _ _ _) (goN ?_)))))
    rw [← nxt hi hl]
    exact asc_step hi hl (fun z => ite_tri)
  · unfold F107.b0
    exact lt_else (Int.le_refl _) rfl

/-- Is it among those who vote? among names? -/
def inB (l : List D138) (s : ByteArray) : Bool := l.any (fun v => sEq v.1 s)
def hasB (l : List D9) (s : ByteArray) : Bool := l.any (fun v => sEq v.1 s)

theorem s_isin (l : List D138) (s : ByteArray) (hl : L63 l.length) : F161 ((l, ()), ((s, ()), ())) = some (B1 (inB l s)) := by
  have lp := loopHas (S := Int × Unit) l (fun v => sEq v.1 s) (f := F161.b0 ((l, ()), ((s, ()), ()))) (fun k => (k, ())) (Sum.inl ((l.length : Int), ())) (Sum.inr (B1 true)) (fun i hi => ?_) ?_
  · unfold F161 inB
    refine bind_eq lp ?_
    cases l.any (fun v => sEq v.1 s) <;> rfl
  · unfold F161.b0
    refine lt_then (Int.ofNat_lt.2 hi) (bind_eq (getI_lt hi) ?_)
    rw [← nxt hi hl]
  · unfold F161.b0
    exact lt_else (Int.le_refl _) rfl

theorem s_has (l : List D9) (s : ByteArray) (hl : L63 l.length) : F179 ((l, ()), ((s, ()), ())) = some (B1 (hasB l s)) := by
  have lp := loopHas (S := Int × Unit) l (fun v => sEq v.1 s) (f := F179.b0 ((l, ()), ((s, ()), ()))) (fun k => (k, ())) (Sum.inl ((l.length : Int), ())) (Sum.inr (B1 true)) (fun i hi => ?_) ?_
  · unfold F179 hasB
    refine bind_eq lp ?_
    cases l.any (fun v => sEq v.1 s) <;> rfl
  · unfold F179.b0
    refine lt_then (Int.ofNat_lt.2 hi) (bind_eq (getI_lt hi) ?_)
    rw [← nxt hi hl]
  · unfold F179.b0
    exact lt_else (Int.le_refl _) rfl

theorem idxFunc_val (l : List D138) (g : D138 → Option (Bool × Unit)) (p : D138 → Bool) (hg : ∀ x, g x = some (p x, ())) (hl : L63 l.length) : F192 ((l, ()), ((g, ()), ())) = some (I1 (idxOf l p)) := by
  have lp := loopIdx (S := Int × Unit) l p (f := F192.b0 ((l, ()), ((g, ()), ()))) (fun k => (k, ())) (Sum.inl ((l.length : Int), ())) (fun i => Sum.inr (I1 i)) (fun i hi => ?_) ?_
  · unfold F192
    refine bind_eq lp ?_
    rcases idxOf_cases l p with ⟨h1, _, h3⟩ | ⟨j, hj, _, _, h1, _, h3⟩ <;> rw [h1, h3] <;> rfl
  · unfold F192.b0
    refine lt_then (Int.ofNat_lt.2 hi) (bind_eq (getI_lt hi) (bind_eq (hg _) ?_))
    rw [← nxt hi hl]
  · unfold F192.b0
    exact lt_else (Int.le_refl _) rfl

theorem i_isin (l : List D138) (s : ByteArray) (hl : L63 l.length) : F173 ((l, ()), ((s, ()), ())) = some (B1 (inB l s)) := by
  unfold F173 F186
  refine bind_eq (bind_eq (idxFunc_val l _ (fun v => sEq v.1 s) (fun x => rfl) hl) rfl) ?_
  rw [idxOf_any]; rfl

theorem i_idxS (l : List D9) (s : ByteArray) (hl : L63 l.length) : F191 ((l, ()), ((s, ()), ())) = some (I1 (idxOf l (fun v => sEq s v.1))) := by
  have lp := loopIdx (S := Int × Unit) l (fun v => sEq s v.1) (f := F191.b0 ((l, ()), ((s, ()), ()))) (fun k => (k, ())) (Sum.inl ((l.length : Int), ())) (fun i => Sum.inr (I1 i)) (fun i hi => ?_) ?_
  · unfold F191
    refine bind_eq lp ?_
    rcases idxOf_cases l (fun v => sEq s v.1) with ⟨h1, _, h3⟩ | ⟨j, hj, _, _, h1, _, h3⟩ <;> rw [h1, h3] <;> rfl
  · unfold F191.b0
    refine lt_then (Int.ofNat_lt.2 hi) (bind_eq (getI_lt hi) ?_)
    rw [← nxt hi hl]
  · unfold F191.b0
    exact lt_else (Int.le_refl _) rfl
theorem i_has (l : List D9) (s : ByteArray) (hl : L63 l.length) : F185 ((l, ()), ((s, ()), ())) = some (B1 (hasB l s)) := by
  unfold F185 hasB
  refine bind_eq (i_idxS l s hl) ?_
  rw [idxOf_any]
  simp only [sEq_comm]

def allInB (l : List D138) (names : List D9) : Bool := names.all (fun n => inB l n.1)

theorem s_all (l : List D138) (names : List D9) (hl : L63 l.length) (hn : (Ty.sl e9).Ok names) : F135 ((l, ()), ((names, ()), ())) = some (B1 (allInB l names && namesB names)) := by
  have lp := loopAllP (S := Int × Unit) names (fun n => inB l n.1) (f := F135.b0 ((l, ()), ((names, ()), ()))) (fun k => (k, ())) (Sum.inl ((names.length : Int), ())) (Sum.inr (B1 false)) (fun i hi => ?_) ?_
  · unfold F135 allInB
    refine bind_eq lp ?_
    cases names.all (fun n => inB l n.1)
    · rfl
    · exact (congrArg (fun o => Option.bind o _) (s_names _ hn)).trans rfl
  · unfold F135.b0
    refine lt_then (Int.ofNat_lt.2 hi) (bind_eq (getI_lt hi) (bind_eq (s_isin _ _ hl) ?_))
    rw [← nxt hi hn.1]
    exact goE
  · unfold F135.b0
    exact lt_else (Int.le_refl _) rfl

theorem i_all (l : List D138) (names : List D9) (hl : L63 l.length) (hn : L63 names.length) : F148 ((l, ()), ((names, ()), ())) = some (B1 (allInB l names)) := by
  have lp := loopAllP (S := Int × Unit) names (fun n => inB l n.1) (f := F148.b0 ((l, ()), ((names, ()), ()))) (fun k => (k, ())) (Sum.inl ((names.length : Int), ())) (Sum.inr (B1 false)) (fun i hi => ?_) ?_
  · unfold F148 allInB
    refine bind_eq lp ?_
    cases names.all (fun n => inB l n.1) <;> rfl
  · unfold F148.b0
    refine lt_then (Int.ofNat_lt.2 hi) (bind_eq (getI_lt hi) (bind_eq (i_isin _ _ hl) ?_))
    rw [← nxt hi hn]
    exact goE
  · unfold F148.b0
    exact lt_else (Int.le_refl _) rfl

/-- What they weigh. -/
def weight (xs : List D138) (names : List D9) : Int := xs.foldl (fun n v => bif hasB names v.1 then iAdd .i64 n v.2.1 else n) 0
def total (xs : List D138) : Int := xs.foldl (fun n v => iAdd .i64 n v.2.1) 0
def quorumB (l : List D138) (names : List D9) : Bool := iLt (iMul .i64 2 (total l)) (iMul .i64 3 (weight l names))

theorem s_weight (xs : List D138) (names : List D9) (hx : L63 xs.length) (hl : L63 names.length) : F163 ((xs, ()), ((names, ()), ())) = some (I1 (weight xs names)) := by
  have lp := loopFold0 (S := Int × (Int × Unit)) xs (fun n v => bif hasB names v.1 then iAdd .i64 n v.2.1 else n) (f := F163.b0 ((xs, ()), ((names, ()), ()))) (fun a i => (a, (i, ()))) (fun a => Sum.inl (a, ((xs.length : Int), ()))) 0 (fun i hi a => ?_) (fun a => ?_)
  · unfold F163
    exact bind_eq lp rfl
  · unfold F163.b0
    refine lt_then (Int.ofNat_lt.2 hi) (bind_eq (getI_lt hi) (bind_eq (s_has _ _ hl) ?_))
    rw [← nxt hi hx]
    dsimp only
    cases hasB names xs[i].1
    · rfl
    · exact bind_eq (getI_lt hi) rfl
  · unfold F163.b0
    exact lt_else (Int.le_refl _) rfl

theorem i_weight (xs : List D138) (names : List D9) (hx : L63 xs.length) (hl : L63 names.length) : F171 ((xs, ()), ((names, ()), ())) = some (I1 (weight xs names)) := by
  have lp := loopFold0 (S := Int × (Int × Unit)) xs (fun n v => bif hasB names v.1 then iAdd .i64 n v.2.1 else n) (f := F171.b0 ((xs, ()), ((names, ()), ()))) (fun a i => (a, (i, ()))) (fun a => Sum.inl (a, ((xs.length : Int), ()))) 0 (fun i hi a => ?_) (fun a => ?_)
  · unfold F171
    exact bind_eq lp rfl
  · unfold F171.b0
    refine lt_then (Int.ofNat_lt.2 hi) (bind_eq (getI_lt hi) (bind_eq (i_has _ _ hl) ?_))
    rw [← nxt hi hx]
    dsimp only
    cases hasB names xs[i].1 <;> rfl
  · unfold F171.b0
    exact lt_else (Int.le_refl _) rfl

theorem s_total (xs : List D138) (hx : L63 xs.length) : F164 ((xs, ()), ()) = some (I1 (total xs)) := by
  have lp := loopFold0 (S := Int × (Int × Unit)) xs (fun n v => iAdd .i64 n v.2.1) (f := F164.b0 ((xs, ()), ())) (fun a i => (a, (i, ()))) (fun a => Sum.inl (a, ((xs.length : Int), ()))) 0 (fun i hi a => ?_) (fun a => ?_)
  · unfold F164
    exact bind_eq lp rfl
  · unfold F164.b0
    refine lt_then (Int.ofNat_lt.2 hi) (bind_eq (getI_lt hi) ?_)
    rw [← nxt hi hx]
  · unfold F164.b0
    exact lt_else (Int.le_refl _) rfl

theorem i_total (xs : List D138) (hx : L63 xs.length) : F172 ((xs, ()), ()) = some (I1 (total xs)) := by
  have lp := loopFold0 (S := Int × (Int × Unit)) xs (fun n v => iAdd .i64 n v.2.1) (f := F172.b0 ((xs, ()), ())) (fun a i => (a, (i, ()))) (fun a => Sum.inl (a, ((xs.length : Int), ()))) 0 (fun i hi a => ?_) (fun a => ?_)
  · unfold F172
    exact bind_eq lp rfl
  · unfold F172.b0
    refine lt_then (Int.ofNat_lt.2 hi) (bind_eq (getI_lt hi) ?_)
    rw [← nxt hi hx]
  · unfold F172.b0
    exact lt_else (Int.le_refl _) rfl

theorem s_quorum (l : List D138) (names : List D9) (hl : L63 l.length) (hn : L63 names.length) : F136 ((l, ()), ((names, ()), ())) = some (B1 (quorumB l names)) :=
  bind_eq (s_weight l names hl hn) (bind_eq (s_total l hl) rfl)

theorem i_quorum (l : List D138) (names : List D9) (hl : L63 l.length) (hn : L63 names.length) : F147 ((l, ()), ((names, ()), ())) = some (B1 (quorumB l names)) :=
  bind_eq (i_weight l names hl hn) (bind_eq (i_total l hl) rfl)

/-- What leaves, in order; an account. -/
def leafP (xs : List D194) (i : Nat) (y : D194) : Bool := inR y.1 1 1000000 && (inR y.2.1 0 1000 && behind (fun z y => iLt z.2.1 y.2.1) xs i y)
def leavesB (xs : List D194) : Bool := allI (leafP xs) 0 xs
def acctB (a : D177) : Bool := nameB a.1 && (inR a.2.1 0 1000000 && (inR a.2.2.1 0 10000 && (inR a.2.2.2.1 0 1000000 && (iLe (List.length a.2.2.2.2.1 : Int) 4 && leavesB a.2.2.2.2.1))))
abbrev AOk (a : D177) : Prop := e177.Ok a
theorem AOk.ls {a : D177} (h : AOk a) : (Ty.sl e194).Ok a.2.2.2.2.1 := h.2.2.2.2.1

theorem s_acct (a : D177) (h : AOk a) : F157 (a, ()) = some (B1 (acctB a)) := by
  have hl : L63 (List.length a.2.2.2.2.1) := h.ls.1
  have lp := loopAll (S := Int × Unit) a.2.2.2.2.1 (leafP a.2.2.2.2.1) (f := F157.b0 (a, ())) (fun k => (k, ())) (Sum.inl ((List.length a.2.2.2.2.1 : Int), ())) (Sum.inr (B1 false)) (fun i hi => ?_) ?_
  · unfold F157 acctB leavesB
    rw [iLe_lt]
    refine bind_eq (s_name _ h.1) (andN (bind_eq (s_in _ _ _) (andN (bind_eq (s_in _ _ _) (andN (bind_eq (s_in _ _ _) (andN (noT (bind_eq lp ?_)))))))))
    cases allI (leafP a.2.2.2.2.1) 0 a.2.2.2.2.1 <;> rfl
  · unfold F157.b0 leafP
    refine lt_then (Int.ofNat_lt.2 hi) (bind_eq (getI_lt hi) (bind_eq (s_in _ _ _) (goN (bind_eq (s_in _ _ _) (goN ?_)))))
    rw [← nxt hi hl]
    exact asc_step hi hl (fun z => le_ite)
  · unfold F157.b0
    exact lt_else (Int.le_refl _) rfl

theorem i_amount (n : Int) : F181 ((n, ()), ()) = some (B1 (inR n 0 1000000)) := bind_eq (i_in _ _ _) rfl
theorem i_acct (a : D177) (h : AOk a) : F167 (a, ()) = some (B1 (acctB a)) := by
  have hl : L63 (List.length a.2.2.2.2.1) := h.ls.1
  have lp := loopAll (S := Int × Unit) a.2.2.2.2.1 (leafP a.2.2.2.2.1) (f := F167.b0 (a, ())) (fun k => (k, ())) (Sum.inl ((List.length a.2.2.2.2.1 : Int), ())) (Sum.inr (B1 false)) (fun i hi => ?_) ?_
  · unfold F167 acctB leavesB
    refine bind_eq lp ?_
    cases allI (leafP a.2.2.2.2.1) 0 a.2.2.2.2.1
    · cases nameB a.1 <;> cases inR a.2.1 0 1000000 <;> cases inR a.2.2.1 0 10000 <;> cases inR a.2.2.2.1 0 1000000 <;> cases iLe (List.length a.2.2.2.2.1 : Int) 4 <;> rfl
    · refine (bind_eq (i_name _ h.1) (andY (bind_eq (i_amount _) (andY (bind_eq (i_amount _) (andY (bind_eq (i_in _ _ _) (and_yes (c := iLe (List.length a.2.2.2.2.1 : Int) 4))))))))).trans ?_
      cases nameB a.1 <;> cases inR a.2.1 0 1000000 <;> cases inR a.2.2.1 0 10000 <;> cases inR a.2.2.2.1 0 1000000 <;> cases iLe (List.length a.2.2.2.2.1 : Int) 4 <;> rfl
  · unfold F167.b0 leafP
    refine lt_then (Int.ofNat_lt.2 hi) (bind_eq (getI_lt hi) (bind_eq (i_in _ _ _) (goN (bind_eq (i_in _ _ _) (goN ?_)))))
    rw [← nxt hi hl]
    exact asc_step hi hl (fun z => le_ite)
  · unfold F167.b0
    exact lt_else (Int.le_refl _) rfl

def addL (n : Int) (xs : List D194) : Int := xs.foldl (fun s y => iAdd .i64 s y.1) n
theorem addL_add (n m : Int) : ∀ xs : List D194, addL (iAdd .i64 n m) xs = iAdd .i64 n (addL m xs)
  | [] => rfl
  | x :: r => by
    show addL (iAdd .i64 (iAdd .i64 n m) x.1) r = iAdd .i64 n (addL (iAdd .i64 m x.1) r)
    rw [iAdd_assoc, addL_add]
def ofA (a : D177) : Int := addL (iAdd .i64 a.2.1 a.2.2.2.1) a.2.2.2.2.1
def wealth (xs : List D177) : Int := xs.foldl (fun s y => iAdd .i64 s (ofA y)) 0

theorem s_of (a : D177) (h : AOk a) : F178 (a, ()) = some (I1 (ofA a)) := by
  have hl : L63 (List.length a.2.2.2.2.1) := h.ls.1
  have lp := loopFold0 (S := Int × (Int × Unit)) a.2.2.2.2.1 (fun s y => iAdd .i64 s y.1) (f := F178.b0 (a, ())) (fun a i => (a, (i, ()))) (fun s => Sum.inl (s, ((List.length a.2.2.2.2.1 : Int), ()))) (iAdd .i64 a.2.1 a.2.2.2.1) (fun i hi s => ?_) (fun s => ?_)
  · unfold F178
    exact bind_eq lp rfl
  · unfold F178.b0
    refine lt_then (Int.ofNat_lt.2 hi) (bind_eq (getI_lt hi) ?_)
    rw [← nxt hi hl]
  · unfold F178.b0
    exact lt_else (Int.le_refl _) rfl
theorem s_wealth (xs : List D177) (hx : (Ty.sl e177).Ok xs) : F158 ((xs, ()), ()) = some (I1 (wealth xs)) := by
  have lp := loopFold0 (S := Int × (Int × Unit)) xs (fun s y => iAdd .i64 s (ofA y)) (f := F158.b0 ((xs, ()), ())) (fun a i => (a, (i, ()))) (fun s => Sum.inl (s, ((xs.length : Int), ()))) 0 (fun i hi s => ?_) (fun s => ?_)
  · unfold F158
    exact bind_eq lp rfl
  · unfold F158.b0
    refine lt_then (Int.ofNat_lt.2 hi) (bind_eq (getI_lt hi) (bind_eq (s_of _ (Ok_mem hx.2 (List.getElem_mem hi))) ?_))
    rw [← nxt hi hx.1]
  · unfold F158.b0
    exact lt_else (Int.le_refl _) rfl

theorem i_wealth (xs : List D177) (hx : (Ty.sl e177).Ok xs) : F168 ((xs, ()), ()) = some (I1 (wealth xs)) := by
  have inner : ∀ (a : D177) (n : Int), L63 (List.length a.2.2.2.2.1) → loopF (F168.b1 a) (n, ((0:Int), ())) = some (.inl (addL n a.2.2.2.2.1, ((List.length a.2.2.2.2.1 : Int), ()))) := by
    intro a n hl
    refine loopFold0 (S := Int × (Int × Unit)) a.2.2.2.2.1 (fun s y => iAdd .i64 s y.1) (fun a i => (a, (i, ()))) (fun s => Sum.inl (s, ((List.length a.2.2.2.2.1 : Int), ()))) n (fun i hi s => ?_) (fun s => ?_)
    · unfold F168.b1
      refine lt_then (Int.ofNat_lt.2 hi) (bind_eq (getI_lt hi) ?_)
      rw [← nxt hi hl]
    · unfold F168.b1
      exact lt_else (Int.le_refl _) rfl
  have lp := loopFold0 (S := Int × (Int × Unit)) xs (fun s y => iAdd .i64 s (ofA y)) (f := F168.b0 ((xs, ()), ())) (fun a i => (a, (i, ()))) (fun s => Sum.inl (s, ((xs.length : Int), ()))) 0 (fun i hi s => ?_) (fun s => ?_)
  · unfold F168
    exact bind_eq lp rfl
  · unfold F168.b0
    refine lt_then (Int.ofNat_lt.2 hi) (bind_eq (getI_lt hi) (bind_eq (inner _ _ (AOk.ls (Ok_mem hx.2 (List.getElem_mem hi))).1) ?_))
    rw [← nxt hi hx.1]
    exact congrArg (fun z => some (Sum.inl (z, (iAdd .i64 (i : Int) 1, ())))) (addL_add s _ _)
  · unfold F168.b0
    exact lt_else (Int.le_refl _) rfl

def acctP (xs : List D177) (i : Nat) (y : D177) : Bool := acctB y && behind (fun z y => sLt z.1 y.1) xs i y
def acctsB (xs : List D177) : Bool := allI (acctP xs) 0 xs && (iLe (xs.length : Int) 12 && iLe (wealth xs) 1000000)
abbrev DLe : Type := Int × (List D177 × Unit)
def ledgerB (x : DLe) : Bool := inR x.1 0 900 && acctsB x.2.1

theorem s_accts (xs : List D177) (hx : (Ty.sl e177).Ok xs) : F129 ((xs, ()), ()) = some (B1 (acctsB xs)) := by
  have hl : L63 xs.length := hx.1
  have lp := loopAll (S := Int × Unit) xs (acctP xs) (f := F129.b0 ((xs, ()), ())) (fun k => (k, ())) (Sum.inl ((xs.length : Int), ())) (Sum.inr (B1 false)) (fun i hi => ?_) ?_
  · unfold F129 acctsB
    refine bind_eq lp ?_
    cases allI (acctP xs) 0 xs
    · rfl
    · exact (andY (b := iLe (xs.length : Int) 12) (bind_eq (s_wealth xs hx) rfl)).trans rfl
  · unfold F129.b0 acctP
    refine lt_then (Int.ofNat_lt.2 hi) (bind_eq (getI_lt hi) (bind_eq (s_acct _ (Ok_mem hx.2 (List.getElem_mem hi))) (goN ?_)))
    rw [← nxt hi hl]
    exact asc_step hi hl (fun z => bind_eq (getI_lt hi) goE)
  · unfold F129.b0
    exact lt_else (Int.le_refl _) rfl
theorem s_ledger (x : DLe) (hx : (Ty.sl e177).Ok x.2.1) : F80 (x, ()) = some (B1 (ledgerB x)) := bind_eq (s_in _ _ _) (andY (bind_eq (s_accts _ hx) rfl))

theorem i_accts (xs : List D177) (hx : (Ty.sl e177).Ok xs) : F142 ((xs, ()), ()) = some (B1 (acctsB xs)) := by
  have hl : L63 xs.length := hx.1
  have lp := loopAll (S := Int × Unit) xs (acctP xs) (f := F142.b0 ((xs, ()), ())) (fun k => (k, ())) (Sum.inl ((xs.length : Int), ())) (Sum.inr (B1 false)) (fun i hi => ?_) ?_
  · unfold F142 acctsB
    refine bind_eq lp ?_
    cases allI (acctP xs) 0 xs
    · rfl
    · exact (andY (b := iLe (xs.length : Int) 12) (bind_eq (i_wealth xs hx) rfl)).trans rfl
  · unfold F142.b0 acctP
    refine lt_then (Int.ofNat_lt.2 hi) (bind_eq (getI_lt hi) (bind_eq (i_acct _ (Ok_mem hx.2 (List.getElem_mem hi))) (goN ?_)))
    rw [← nxt hi hl]
    exact asc_step hi hl (fun z => ite_tri)
  · unfold F142.b0
    exact lt_else (Int.le_refl _) rfl
theorem i_ledger (x : DLe) (hx : (Ty.sl e177).Ok x.2.1) : F106 (x, ()) = some (B1 (ledgerB x)) := bind_eq (i_in _ _ _) (andY (bind_eq (i_accts _ hx) rfl))

/-- A certificate; one of leavings. -/
abbrev DQc : Type := Int × (Int × (List D9 × Unit))
abbrev DTc : Type := Int × (List D9 × (List D3 × Unit))
def rootB (q : DQc) : Bool := iEq q.1 0 && (iEq q.2.1 (-1) && iEq (List.length q.2.2.1 : Int) 0)
def noneB (t : DTc) : Bool := iEq t.1 0 && (iEq (List.length t.2.1 : Int) 0 && iEq (List.length t.2.2.1 : Int) 0)
abbrev QOk (q : DQc) : Prop := (Ty.sl e9).Ok q.2.2.1
abbrev TOk (t : DTc) : Prop := (Ty.sl e9).Ok t.2.1 ∧ L63 (List.length t.2.2.1)
def qcF (q : DQc) (round block : Int) : Bool := rootB q || (inR q.1 1 round && (inR q.2.1 0 block && namesB q.2.2.1))
def tcF (t : DTc) (round : Int) : Bool := noneB t || (inR t.1 1 round && (namesB t.2.1 && (iEq (List.length t.2.2.1 : Int) (List.length t.2.1 : Int) && t.2.2.1.all (fun h => inR h.1 0 (iSub .i64 t.1 1)))))
def qcB (l : List D138) (q : DQc) : Bool := rootB q || (inR q.1 1 10000 && (inR q.2.1 0 100000 && (namesB q.2.2.1 && (allInB l q.2.2.1 && quorumB l q.2.2.1))))
def tcB (l : List D138) (t : DTc) : Bool := noneB t || (inR t.1 1 10000 && (namesB t.2.1 && (iEq (List.length t.2.2.1 : Int) (List.length t.2.1 : Int) && (t.2.2.1.all (fun h => inR h.1 0 (iSub .i64 t.1 1)) && (allInB l t.2.1 && quorumB l t.2.1)))))

theorem s_root (q : DQc) : F133 (q, ()) = some (B1 (rootB q)) := by
  unfold F133 rootB
  cases iEq q.1 0 <;> cases iEq q.2.1 (-1) <;> rfl

theorem i_root (q : DQc) : F145 (q, ()) = some (B1 (rootB q)) := by
  unfold F145 rootB
  cases iEq q.1 0 <;> cases iEq q.2.1 (-1) <;> rfl

theorem s_none (t : DTc) : F137 (t, ()) = some (B1 (noneB t)) := by
  unfold F137 noneB
  cases iEq t.1 0 <;> cases iEq (List.length t.2.1 : Int) 0 <;> rfl

theorem i_none (t : DTc) : F149 (t, ()) = some (B1 (noneB t)) := by
  unfold F149 noneB
  cases iEq t.1 0 <;> cases iEq (List.length t.2.1 : Int) 0 <;> rfl

theorem s_qc (l : List D138) (q : DQc) (hl : L63 l.length) (hq : QOk q) : F85 ((l, ()), (q, ())) = some (B1 (qcB l q)) := by
  unfold F85 qcB
  refine bind_eq (s_root q) (orY (bind_eq (s_in _ _ _) (andY (bind_eq (s_in _ _ _) (andY ?_)))))
  refine bind_eq (s_all l _ hl hq) ((andY (bind_eq (s_quorum l _ hl hq.1) rfl)).trans ?_)
  rw [Bool.and_comm (allInB l _) (namesB _), Bool.and_assoc]

theorem i_qcf (q : DQc) (r b : Int) (hq : QOk q) : F146 (q, ((r, ()), ((b, ()), ()))) = some (B1 (qcF q r b)) := by
  unfold F146 qcF
  exact bind_eq (i_root q) (orY (bind_eq (i_in _ _ _) (andY (bind_eq (i_in _ _ _) (andY (bind_eq (i_names _ hq) rfl))))))

theorem i_qc (l : List D138) (q : DQc) (hl : L63 l.length) (hq : QOk q) : F110 ((l, ()), (q, ())) = some (B1 (qcB l q)) := by
  unfold F110
  refine (bind_eq (i_root q) (orY (bind_eq (i_qcf q _ _ hq) (andY (bind_eq (i_quorum l _ hl hq.1) (andY (bind_eq (i_all l _ hl hq.1) rfl))))))).trans ?_
  unfold qcB qcF
  cases rootB q <;> cases inR q.1 1 10000 <;> cases inR q.2.1 0 100000 <;> cases namesB q.2.2.1 <;> cases allInB l q.2.2.1 <;> cases quorumB l q.2.2.1 <;> rfl

theorem i_tcf (t : DTc) (r : Int) (h : TOk t) : F150 (t, ((r, ()), ())) = some (B1 (tcF t r)) := by
  have hl : L63 (List.length t.2.2.1) := h.2
  have lp := loopAllP (S := Int × Unit) t.2.2.1 (fun y => inR y.1 0 (iSub .i64 t.1 1)) (f := F150.b0 (t, ((r, ()), ()))) (fun k => (k, ())) (Sum.inl ((t.2.2.1.length : Int), ())) (Sum.inr (B1 false)) (fun i hi => ?_) ?_
  · unfold F150 tcF
    refine bind_eq (i_none t) (orY (bind_eq lp ?_))
    cases t.2.2.1.all (fun y => inR y.1 0 (iSub .i64 t.1 1))
    · cases inR t.1 1 r <;> cases namesB t.2.1 <;> cases iEq (List.length t.2.2.1 : Int) (List.length t.2.1 : Int) <;> rfl
    · refine (bind_eq (i_in _ _ _) (andY (bind_eq (i_names _ h.1) and_yes))).trans ?_
      cases iEq (List.length t.2.2.1 : Int) (List.length t.2.1 : Int) <;> rfl
  · unfold F150.b0
    refine lt_then (Int.ofNat_lt.2 hi) (bind_eq (getI_lt hi) (bind_eq (i_in _ _ _) ?_))
    rw [← nxt hi hl]
    exact goE
  · unfold F150.b0
    exact lt_else (Int.le_refl _) rfl

theorem s_tc (l : List D138) (t : DTc) (hl : L63 l.length) (h : TOk t) : F86 ((l, ()), (t, ())) = some (B1 (tcB l t)) := by
  have hh : L63 (List.length t.2.2.1) := h.2
  have lp := loopAllP (S := Int × Unit) t.2.2.1 (fun y => inR y.1 0 (iSub .i64 t.1 1)) (f := F86.b0 ((l, ()), (t, ()))) (fun k => (k, ())) (Sum.inl ((t.2.2.1.length : Int), ())) (Sum.inr (B1 false)) (fun i hi => ?_) ?_
  · unfold F86
    refine (bind_eq (s_none t) (orY (bind_eq (s_in _ _ _) (andN (bind_eq (s_all l _ hl h.1) (andN (bind_eq (s_quorum l _ hl h.1.1) (andN (andN (b := iEq (List.length t.2.2.1 : Int) (List.length t.2.1 : Int)) (c := t.2.2.1.all (fun y => inR y.1 0 (iSub .i64 t.1 1))) (bind_eq lp ?_)))))))))).trans ?_
    · cases t.2.2.1.all (fun y => inR y.1 0 (iSub .i64 t.1 1)) <;> rfl
    · unfold tcB
      cases noneB t <;> cases inR t.1 1 10000 <;> cases namesB t.2.1 <;> cases iEq (List.length t.2.2.1 : Int) (List.length t.2.1 : Int) <;> cases t.2.2.1.all (fun y => inR y.1 0 (iSub .i64 t.1 1)) <;> cases allInB l t.2.1 <;> cases quorumB l t.2.1 <;> rfl
  · unfold F86.b0
    refine lt_then (Int.ofNat_lt.2 hi) (bind_eq (getI_lt hi) (bind_eq (s_in _ _ _) ?_))
    rw [← nxt hi hh]
    exact goE
  · unfold F86.b0
    exact lt_else (Int.le_refl _) rfl

theorem i_tc (l : List D138) (t : DTc) (hl : L63 l.length) (h : TOk t) : F111 ((l, ()), (t, ())) = some (B1 (tcB l t)) := by
  unfold F111
  refine (bind_eq (i_none t) (orY (bind_eq (i_tcf t _ h) (andY (bind_eq (i_quorum l _ hl h.1.1) (andY (bind_eq (i_all l _ hl h.1.1) rfl))))))).trans ?_
  unfold tcB tcF
  cases noneB t <;> cases inR t.1 1 10000 <;> cases namesB t.2.1 <;> cases iEq (List.length t.2.2.1 : Int) (List.length t.2.1 : Int) <;> cases t.2.2.1.all (fun y => inR y.1 0 (iSub .i64 t.1 1)) <;> cases allInB l t.2.1 <;> cases quorumB l t.2.1 <;> rfl

/-- An order. -/
def txB (t : D146) : Bool := nameB t.2.1 && (inR t.2.2.2.1 1 1000000 && (inR t.2.2.2.2.1 0 10000 && (bif iEq t.1 1 then nameB t.2.2.1 else (inR t.1 2 3 && sEq t.2.2.1 ⟨#[]⟩))))
abbrev XOk (t : D146) : Prop := L63 t.2.1.size ∧ L63 t.2.2.1.size
theorem XOk_mem {l : List D146} (h : (Ty.sl e146).Ok l) {t : D146} (ht : t ∈ l) : XOk t := ⟨(Ok_mem h.2 ht).2.1, (Ok_mem h.2 ht).2.2.1⟩

theorem s_tx (t : D146) (h : XOk t) : F130 (t, ()) = some (B1 (txB t)) := by
  unfold F130 txB
  refine bind_eq (s_name _ h.1) (andN (bind_eq (s_in _ _ _) (andN (bind_eq (s_in _ _ _) (andN ?_)))))
  cases iEq t.1 1
  · exact bind_eq (s_in _ _ _) and_yes
  · exact bind_eq (s_name _ h.2) rfl

theorem i_tx (t : D146) (h : XOk t) : F143 (t, ()) = some (B1 (txB t)) := by
  unfold F143 txB
  refine (bind_eq (i_in _ _ _) (andN (bind_eq (i_name _ h.1) (andN (bind_eq (i_in _ _ _) (andN (bind_eq (i_in _ _ _) (andN (c := bif iEq t.1 1 then nameB t.2.2.1 else sEq t.2.2.1 ⟨#[]⟩) ?_)))))))).trans ?_
  · cases iEq t.1 1
    · rfl
    · exact bind_eq (i_name _ h.2) rfl
  · have e : inR t.1 1 3 = (iEq t.1 1 || inR t.1 2 3) := by
      simp only [inR, iLe, iEq]
      rw [Bool.eq_iff_iff]
      simp
      omega
    rw [e]
    cases iEq t.1 1 <;> cases inR t.1 2 3 <;> cases nameB t.2.1 <;> cases inR t.2.2.2.1 1 1000000 <;> cases inR t.2.2.2.2.1 0 10000 <;> cases sEq t.2.2.1 ⟨#[]⟩ <;> cases nameB t.2.2.1 <;> rfl

theorem i_txs (l : List D146) (h : (Ty.sl e146).Ok l) : F174 ((l, ()), ()) = some (B1 (l.all txB)) := by
  have hl : L63 l.length := h.1
  have lp := loopAllP (S := Int × Unit) l txB (f := F174.b0 ((l, ()), ())) (fun k => (k, ())) (Sum.inl ((l.length : Int), ())) (Sum.inr (B1 false)) (fun i hi => ?_) ?_
  · unfold F174
    refine bind_eq lp ?_
    cases l.all txB <;> rfl
  · unfold F174.b0
    refine lt_then (Int.ofNat_lt.2 hi) (bind_eq (getI_lt hi) (bind_eq (i_tx _ (XOk_mem h (List.getElem_mem hi))) ?_))
    rw [← nxt hi hl]
    exact goE
  · unfold F174.b0
    exact lt_else (Int.le_refl _) rfl

/-- A block. -/
abbrev DBk : Type := D133
def bQc (b : DBk) : DQc := (b.2.2.2.2.1, (b.2.2.2.2.2.1, (b.2.2.2.2.2.2.1, ())))
def bTc (b : DBk) : DTc := (b.2.2.2.2.2.2.2.1, (b.2.2.2.2.2.2.2.2.1, (b.2.2.2.2.2.2.2.2.2.1, ())))
abbrev bTxs (b : DBk) : List D146 := b.2.2.2.2.2.2.2.2.2.2.1
abbrev bEnd (b : DBk) : Bool := b.2.2.2.2.2.2.2.2.2.2.2.1
abbrev bNext (b : DBk) : List D138 := b.2.2.2.2.2.2.2.2.2.2.2.2.1
abbrev bRoot (b : DBk) : ByteArray := b.2.2.2.2.2.2.2.2.2.2.2.2.2.1
abbrev BOk (b : DBk) : Prop := e133.Ok b
theorem BOk.by_ {b : DBk} (h : BOk b) : L63 b.2.2.2.1.size := h.2.2.2.1
theorem BOk.qc {b : DBk} (h : BOk b) : QOk (bQc b) := h.2.2.2.2.2.2.1
theorem BOk.tc {b : DBk} (h : BOk b) : TOk (bTc b) := ⟨h.2.2.2.2.2.2.2.2.1, h.2.2.2.2.2.2.2.2.2.1.1⟩
theorem BOk.txs {b : DBk} (h : BOk b) : (Ty.sl e146).Ok (bTxs b) := h.2.2.2.2.2.2.2.2.2.2.1
theorem BOk.next {b : DBk} (h : BOk b) : (Ty.sl e138).Ok (bNext b) := h.2.2.2.2.2.2.2.2.2.2.2.2.1

def bodyB (b : DBk) : Bool := bif bEnd b then (setB (bNext b) && iEq ((bRoot b).size : Int) 32) else (iEq (List.length (bNext b) : Int) 0 && sEq (bRoot b) ⟨#[]⟩)
def blockB (b : DBk) : Bool := inR b.1 0 100000 && (inR b.2.1 0 900 && (inR b.2.2.1 1 10000 && (nameB b.2.2.2.1 && (qcF (bQc b) (iSub .i64 b.2.2.1 1) (iSub .i64 b.1 1) && (tcF (bTc b) (iSub .i64 b.2.2.1 1) &&
  (!iLt 4 (List.length (bTxs b) : Int) && ((bTxs b).all txB && bodyB b)))))))

theorem s_qcf (b : DBk) (h : BOk b) : F159 (b, ()) = some (B1 (qcF (bQc b) (iSub .i64 b.2.2.1 1) (iSub .i64 b.1 1))) := by
  unfold F159 qcF
  exact bind_eq (s_root (bQc b)) (orY (bind_eq (s_in _ _ _) (andY (bind_eq (s_in _ _ _) (andY (bind_eq (s_names _ h.qc) rfl))))))
theorem s_tcf (b : DBk) (h : BOk b) : F160 (b, ()) = some (B1 (tcF (bTc b) (iSub .i64 b.2.2.1 1))) := by
  have hl : L63 (List.length (bTc b).2.2.1) := h.tc.2
  have lp := loopAllP (S := Int × Unit) (bTc b).2.2.1 (fun y => inR y.1 0 (iSub .i64 (bTc b).1 1)) (f := F160.b0 (b, ())) (fun k => (k, ())) (Sum.inl (((bTc b).2.2.1.length : Int), ())) (Sum.inr (B1 false)) (fun i hi => ?_) ?_
  · unfold F160 tcF
    refine bind_eq (s_none (bTc b)) (orY (bind_eq (s_in _ _ _) (andN (bind_eq (s_names _ h.tc.1) (andN ?_)))))
    refine (andN (b := iEq (List.length (bTc b).2.2.1 : Int) (List.length (bTc b).2.1 : Int)) (bind_eq lp ?_))
    cases (bTc b).2.2.1.all (fun y => inR y.1 0 (iSub .i64 (bTc b).1 1)) <;> rfl
  · unfold F160.b0
    refine lt_then (Int.ofNat_lt.2 hi) (bind_eq (getI_lt hi) (bind_eq (s_in _ _ _) ?_))
    rw [← nxt hi hl]
    exact goE
  · unfold F160.b0
    exact lt_else (Int.le_refl _) rfl
theorem s_blk (b : DBk) (h : BOk b) : F132 (b, ()) = some (B1 (blockB b)) := by
  have hl : L63 (bTxs b).length := h.txs.1
  have lp := loopAllP (S := Int × Unit) (bTxs b) txB (f := F132.b0 (b, ())) (fun k => (k, ())) (Sum.inl (((bTxs b).length : Int), ())) (Sum.inr (B1 false)) (fun i hi => ?_) ?_
  · unfold F132 blockB
    refine bind_eq (s_in _ _ _) (andN (bind_eq (s_in _ _ _) (andN (bind_eq (s_in _ _ _) (andN (bind_eq (s_name _ h.by_) (andN (bind_eq (s_qcf b h) (andN (bind_eq (s_tcf b h) (andN (noT (bind_eq lp ?_)))))))))))))
    cases (bTxs b).all txB
    · rfl
    · unfold bodyB
      rw [Bool.true_and]
      dsimp only [cond_true, Sum.elim_inl, bEnd]
      cases b.2.2.2.2.2.2.2.2.2.2.2.1
      · exact and_yes
      · exact bind_eq (s_set _ h.next) and_yes
  · unfold F132.b0
    refine lt_then (Int.ofNat_lt.2 hi) (bind_eq (getI_lt hi) (bind_eq (s_tx _ (XOk_mem h.txs (List.getElem_mem hi))) ?_))
    rw [← nxt hi hl]
    exact goE
  · unfold F132.b0
    exact lt_else (Int.le_refl _) rfl

theorem i_blk (b : DBk) (h : BOk b) : F151 (b, ()) = some (B1 (blockB b)) := by
  unfold F151 blockB
  refine bind_eq (i_in _ _ _) (andN (bind_eq (i_in _ _ _) (andN (bind_eq (i_in _ _ _) (andN (bind_eq (i_name _ h.by_) (andN (bind_eq (i_qcf (bQc b) _ _ h.qc) (andN (bind_eq (i_tcf (bTc b) _ h.tc) (andN (noT (bind_eq (i_txs _ h.txs) (andN ?_))))))))))))))
  unfold bodyB
  dsimp only [bEnd]
  cases b.2.2.2.2.2.2.2.2.2.2.2.1
  · exact and_yes
  · exact bind_eq (i_set _ h.next) and_yes

theorem s_cqc (q : DQc) (h : W1 (List.length q.2.2.1)) : F76 (q, ()) = some (q, ()) := by
  unfold F76
  exact room_then h (by decide) (by decide) rfl

theorem s_ctc (t : DTc) (h : W1 (List.length t.2.1)) (h2 : W1 (List.length t.2.2.1)) : F77 (t, ()) = some (t, ()) := by
  unfold F77
  exact room_then h (by decide) (by decide) (room_then h2 (by decide) (by decide) rfl)

theorem i_clS (l : List D9) (h : W1 l.length) : F141 ((l, ()), ()) = some ((l, ()), ()) := by unfold F141; exact clone_ok l h (by decide) (by decide)

theorem i_clI (l : List D3) (h : W1 l.length) : F102 ((l, ()), ()) = some ((l, ()), ()) := by unfold F102; exact clone_ok l h (by decide) (by decide)

theorem i_clT (l : List D146) (h : W1 l.length) : F103 ((l, ()), ()) = some ((l, ()), ()) := by unfold F103; exact clone_ok l h (by decide) (by decide)

theorem i_clV (l : List D138) (h : W1 l.length) : F96 ((l, ()), ()) = some ((l, ()), ()) := by unfold F96; exact clone_ok l h (by decide) (by decide)

theorem i_clL (l : List D194) (h : W1 l.length) : F166 ((l, ()), ()) = some ((l, ()), ()) := by unfold F166; exact clone_ok l h (by decide) (by decide)

theorem i_clVo (l : List D142) (h : W1 l.length) : F100 ((l, ()), ()) = some ((l, ()), ()) := by unfold F100; exact clone_ok l h (by decide) (by decide)

theorem i_clGo (l : List D144) (h : W1 l.length) : F101 ((l, ()), ()) = some ((l, ()), ()) := by unfold F101; exact clone_ok l h (by decide) (by decide)

theorem i_cqc (q : DQc) (h : W1 (List.length q.2.2.1)) : F98 (q, ()) = some (q, ()) := by
  unfold F98
  exact bind_eq (i_clS _ h) rfl

theorem i_ctc (t : DTc) (h : W1 (List.length t.2.1)) (h2 : W1 (List.length t.2.2.1)) : F99 (t, ()) = some (t, ()) := by
  unfold F99
  exact bind_eq (i_clS _ h) (bind_eq (i_clI _ h2) rfl)

/-- A block's lists are not long. -/
def BlockL (x : DBk) : Prop := W1 (List.length (bQc x).2.2.1) ∧ W1 (List.length (bTc x).2.1) ∧ W1 (List.length (bTc x).2.2.1) ∧ W1 (List.length (bTxs x)) ∧ W1 (List.length (bNext x))

theorem s_cblk (x : DBk) (h : BlockL x) : F128 (x, ()) = some (x, ()) := by
  unfold F128
  exact bind_eq (s_cqc (bQc x) h.1) (bind_eq (s_ctc (bTc x) h.2.1 h.2.2.1) (room_then h.2.2.2.1 (by decide) (by decide) (room_then h.2.2.2.2 (by decide) (by decide) rfl)))

theorem i_cblk (x : DBk) (h : BlockL x) : F140 (x, ()) = some (x, ()) := by
  unfold F140
  exact bind_eq (i_cqc (bQc x) h.1) (bind_eq (i_ctc (bTc x) h.2.1 h.2.2.1) (bind_eq (i_clT _ h.2.2.2.1) (bind_eq (i_clV _ h.2.2.2.2) rfl)))

theorem s_cblks (xs : List DBk) (hl : W1 xs.length) (hb : ∀ x ∈ xs, BlockL x) : F75 ((xs, ()), ()) = some ((xs, ()), ()) := by
  have lp := loopCopy (S := List DBk × (Int × Unit)) xs (f := F75.b0 ((xs, ()), ())) (fun a k => (a, (k, ()))) (Sum.inl (xs, ((xs.length : Int), ()))) (fun i hi => ?_) ?_
  · unfold F75
    exact bind_eq lp rfl
  · unfold F75.b0
    refine lt_then (Int.ofNat_lt.2 hi) (bind_eq (getI_lt hi) (bind_eq (s_cblk _ (hb _ (List.getElem_mem hi))) (room_one hi hl (by decide) (by decide) ?_)))
    rw [← nxt hi hl.l]; rfl
  · unfold F75.b0
    exact lt_else (Int.le_refl _) rfl

theorem i_cblks (xs : List DBk) (hl : W1 xs.length) (hb : ∀ x ∈ xs, BlockL x) : F97 ((xs, ()), ()) = some ((xs, ()), ()) := by
  have lp := loopCopy (S := List DBk × (Int × Unit)) xs (f := F97.b0 ((xs, ()), ())) (fun a k => (a, (k, ()))) (Sum.inl (xs, ((xs.length : Int), ()))) (fun i hi => ?_) ?_
  · unfold F97
    exact bind_eq lp rfl
  · unfold F97.b0
    refine lt_then (Int.ofNat_lt.2 hi) (bind_eq (getI_lt hi) (bind_eq (i_cblk _ (hb _ (List.getElem_mem hi))) (room_one hi hl (by decide) (by decide) ?_)))
    rw [← nxt hi hl.l]; rfl
  · unfold F97.b0
    exact lt_else (Int.le_refl _) rfl

/-- A proof's lists are not long. -/
abbrev DPr : Type := D125
abbrev pBs (p : DPr) : List DBk := p.2.1
def pQ (p : DPr) : DQc := (p.2.2.1, (p.2.2.2.1, (p.2.2.2.2.1, ())))
def ProofL (x : DPr) : Prop := W1 (List.length (pBs x)) ∧ (∀ y ∈ pBs x, BlockL y) ∧ W1 (List.length (pQ x).2.2.1)

theorem s_cproof (x : DPr) (h : ProofL x) : F78 (x, ()) = some (x, ()) := by
  unfold F78
  exact bind_eq (s_cblks _ h.1 h.2.1) (bind_eq (s_cqc (pQ x) h.2.2) rfl)

theorem i_cproof (x : DPr) (h : ProofL x) : F104 (x, ()) = some (x, ()) := by
  unfold F104
  exact bind_eq (i_cblks _ h.1 h.2.1) (bind_eq (i_cqc (pQ x) h.2.2) rfl)

theorem idxFunc_blk (l : List DBk) (g : DBk → Option (Bool × Unit)) (p : DBk → Bool) (hg : ∀ x, g x = some (p x, ())) (hl : L63 l.length) : F175 ((l, ()), ((g, ()), ())) = some (I1 (idxOf l p)) := by
  have lp := loopIdx (S := Int × Unit) l p (f := F175.b0 ((l, ()), ((g, ()), ()))) (fun k => (k, ())) (Sum.inl ((l.length : Int), ())) (fun i => Sum.inr (I1 i)) (fun i hi => ?_) ?_
  · unfold F175
    refine bind_eq lp ?_
    rcases idxOf_cases l p with ⟨h1, _, h3⟩ | ⟨j, hj, _, _, h1, _, h3⟩ <;> rw [h1, h3] <;> rfl
  · unfold F175.b0
    refine lt_then (Int.ofNat_lt.2 hi) (bind_eq (getI_lt hi) (bind_eq (hg _) ?_))
    rw [← nxt hi hl]
  · unfold F175.b0
    exact lt_else (Int.le_refl _) rfl

/-- A node; how its epochs ended. -/
abbrev DNd : Type := D52
abbrev nPast (n : DNd) : List DPr := n.2.2.2.2.2.2.2.2.2.2.2.2.2.2.2.2.2.2.2.1

/-- A ledger's lists are not long. -/
def AcctL (l : List D177) : Prop := W1 l.length ∧ ∀ a ∈ l, W1 (List.length a.2.2.2.2.1)
theorem AcctL_of {l : List D177} (h : (Ty.sl e177).w l ≤ 1048576) : AcctL l := ⟨w_ln h, fun a ha => w_ln (w_hd (w_tl (w_tl (w_tl (w_tl (w_mem h ha))))))⟩

theorem s_caccts (xs : List D177) (h : AcctL xs) : F127 ((xs, ()), ()) = some ((xs, ()), ()) := by
  have hl := h.1
  have lp := loopCopy (S := List D177 × (Int × Unit)) xs (f := F127.b0 ((xs, ()), ())) (fun a k => (a, (k, ()))) (Sum.inl (xs, ((xs.length : Int), ()))) (fun i hi => ?_) ?_
  · unfold F127
    exact bind_eq lp rfl
  · unfold F127.b0
    refine lt_then (Int.ofNat_lt.2 hi) (bind_eq (getI_lt hi) (room_then (h.2 _ (List.getElem_mem hi)) (by decide) (by decide) (room_one hi hl (by decide) (by decide) ?_)))
    rw [← nxt hi hl.l]; rfl
  · unfold F127.b0
    exact lt_else (Int.le_refl _) rfl
theorem s_cledger (x : DLe) (h : AcctL x.2.1) : F74 (x, ()) = some (x, ()) := bind_eq (s_caccts _ h) rfl

theorem i_caccts (xs : List D177) (h : AcctL xs) : F139 ((xs, ()), ()) = some ((xs, ()), ()) := by
  have hl := h.1
  have lp := loopCopy (S := List D177 × (Int × Unit)) xs (f := F139.b0 ((xs, ()), ())) (fun a k => (a, (k, ()))) (Sum.inl (xs, ((xs.length : Int), ()))) (fun i hi => ?_) ?_
  · unfold F139
    exact bind_eq lp rfl
  · unfold F139.b0
    refine lt_then (Int.ofNat_lt.2 hi) (bind_eq (getI_lt hi) (bind_eq (i_clL _ (h.2 _ (List.getElem_mem hi))) (room_one hi hl (by decide) (by decide) ?_)))
    rw [← nxt hi hl.l]; rfl
  · unfold F139.b0
    exact lt_else (Int.le_refl _) rfl
theorem i_cledger (x : DLe) (h : AcctL x.2.1) : F95 (x, ()) = some (x, ()) := bind_eq (i_caccts _ h) rfl

def txLessB (a b : D146) : Bool := bif !sEq a.2.1 b.2.1 then sLt a.2.1 b.2.1 else bif !iEq a.2.2.2.2.1 b.2.2.2.2.1 then iLt a.2.2.2.2.1 b.2.2.2.2.1 else bif !iEq a.1 b.1 then iLt a.1 b.1 else bif !sEq a.2.2.1 b.2.2.1 then sLt a.2.2.1 b.2.2.1 else iLt a.2.2.2.1 b.2.2.2.1
/-- -1, 0 or 1. -/
def cmp3 (lt eq : Bool) : Int := bif eq then 0 else bif lt then -1 else 1
theorem sLt_eq {a b : ByteArray} (h : sEq a b = true) : sLt a b = false := by
  unfold sEq at h
  have : a.toList = b.toList := by simpa using h
  unfold sLt
  rw [this]
  exact bytesLess_self _
theorem iLt_eq {a b : Int} (h : iEq a b = true) : iLt a b = false := by
  have : a = b := by simpa [iEq] using h
  rw [this]
  exact iLt_false (Int.le_refl _)
def cmpTx (a b : D146) : Int := 
  bif !sEq a.2.1 b.2.1 then cmp3 (sLt a.2.1 b.2.1) false else bif !iEq a.2.2.2.2.1 b.2.2.2.2.1 then cmp3 (iLt a.2.2.2.2.1 b.2.2.2.2.1) false else bif !iEq a.1 b.1 then cmp3 (iLt a.1 b.1) false else bif !sEq a.2.2.1 b.2.2.1 then cmp3 (sLt a.2.2.1 b.2.2.1) false else cmp3 (iLt a.2.2.2.1 b.2.2.2.1) (iEq a.2.2.2.1 b.2.2.2.1)
theorem cmpTx_lt (a b : D146) : iLt (cmpTx a b) 0 = txLessB a b := by
  unfold cmpTx txLessB cmp3
  cases sEq a.2.1 b.2.1 <;> cases iEq a.2.2.2.2.1 b.2.2.2.2.1 <;> cases iEq a.1 b.1 <;> cases sEq a.2.2.1 b.2.2.1 <;> cases h : iEq a.2.2.2.1 b.2.2.2.1 <;> first
    | (cases sLt a.2.1 b.2.1 <;> rfl)
    | (cases iLt a.2.2.2.2.1 b.2.2.2.2.1 <;> rfl)
    | (cases iLt a.1 b.1 <;> rfl)
    | (cases sLt a.2.2.1 b.2.2.1 <;> rfl)
    | (cases iLt a.2.2.2.1 b.2.2.2.1 <;> rfl)
    | (rw [iLt_eq h]; rfl)

theorem s_txLess (a b : D146) : F131 (a, (b, ())) = some (B1 (txLessB a b)) := by
  unfold F131 txLessB
  dsimp only
  cases sEq a.2.1 b.2.1 <;> cases iEq a.2.2.2.2.1 b.2.2.2.2.1 <;> cases iEq a.1 b.1 <;> cases sEq a.2.2.1 b.2.2.1 <;> rfl

theorem i_cmpS (a b : ByteArray) : F183 ((a, ()), ((b, ()), ())) = some (I1 (cmp3 (sLt a b) (sEq a b))) := by
  have hn : ∀ c : ByteArray, F189 ((c, ()), ()) = some (B1 false) := fun c => by
    unfold F189
    dsimp only
    rw [sEq_self]; rfl
  unfold F183 cmp3
  refine bind_eq (hn a) (bind_eq (hn b) ?_)
  dsimp only
  cases h : sEq a b with
  | true => rw [sLt_eq h]; rfl
  | false => cases sLt a b <;> rfl
theorem i_cmpI (a b : Int) : F184 ((a, ()), ((b, ()), ())) = some (I1 (cmp3 (iLt a b) (iEq a b))) := by
  have hn : ∀ c : Int, F190 ((c, ()), ()) = some (B1 false) := fun c => by
    unfold F190
    dsimp only
    rw [iEq_self]; rfl
  unfold F184 cmp3
  refine bind_eq (hn a) (bind_eq (hn b) ?_)
  dsimp only
  cases h : iEq a b with
  | true =>
    rw [iLt_eq h]
    have : iLt b a = false := by have e : a = b := by simpa [iEq] using h
                                 rw [e]; exact iLt_false (Int.le_refl _)
    rw [this]; rfl
  | false =>
    cases h2 : iLt a b with
    | true => rfl
    | false =>
      have : iLt b a = true := by simp [iEq, iLt] at h h2 ⊢; omega
      rw [this]; rfl
theorem i_orI (l : List D3) (hl : L63 l.length) : F182 ((l, ()), ()) = some (match l.find? (fun x => !iEq x.1 0) with | some x => (x, ()) | none => I1 0) := by
  have lp := loopFindV (S := Int × Unit) l (fun x => !iEq x.1 0) (f := F182.b0 ((l, ()), ())) (fun k => (k, ())) (Sum.inl ((l.length : Int), ())) (fun x => Sum.inr (x, ())) (fun i hi => ?_) ?_
  · unfold F182
    refine bind_eq lp ?_
    cases l.find? (fun x => !iEq x.1 0) <;> rfl
  · unfold F182.b0
    refine lt_then (Int.ofNat_lt.2 hi) (bind_eq (getI_lt hi) ?_)
    rw [← nxt hi hl]
  · unfold F182.b0
    exact lt_else (Int.le_refl _) rfl
theorem or_step {v : Int} {lt eq : Bool} {r : List (Int × Unit)} (h : eq = true → lt = false) : (match ((cmp3 lt eq, ()) :: r).find? (fun x => !iEq x.1 0) with | some x => ((x, ()) : (Int × Unit) × Unit) | none => I1 0) = bif !eq then I1 (cmp3 lt false) else (match r.find? (fun x => !iEq x.1 0) with | some x => (x, ()) | none => I1 0) := by
  cases eq with
  | true => rw [List.find?_cons_of_neg (by exact Bool.false_ne_true)]; rfl
  | false => cases lt <;> (rw [List.find?_cons_of_pos (by decide)]; rfl)
theorem i_cmpTx (a b : D146) : F169 (a, (b, ())) = some (I1 (cmpTx a b)) := by
  unfold F169
  refine bind_eq (i_cmpS _ _) (bind_eq (i_cmpI _ _) (bind_eq (i_cmpI _ _) (bind_eq (i_cmpS _ _) (bind_eq (i_cmpI _ _) (bind_eq (i_orI _ (show (5:Nat) ≤ 9223372036854775807 by decide)) ?_)))))
  refine congrArg some ?_
  refine Eq.trans (b := (match ([(cmp3 (sLt a.2.1 b.2.1) (sEq a.2.1 b.2.1), ()), (cmp3 (iLt a.2.2.2.2.1 b.2.2.2.2.1) (iEq a.2.2.2.2.1 b.2.2.2.2.1), ()), (cmp3 (iLt a.1 b.1) (iEq a.1 b.1), ()), (cmp3 (sLt a.2.2.1 b.2.2.1) (sEq a.2.2.1 b.2.2.1), ()), (cmp3 (iLt a.2.2.2.1 b.2.2.2.1) (iEq a.2.2.2.1 b.2.2.2.1), ())] : List (Int × Unit)).find? (fun x => !iEq x.1 0) with | some x => ((x, ()) : (Int × Unit) × Unit) | none => I1 0)) rfl ?_
  rw [or_step (v := 0) sLt_eq, or_step (v := 0) iLt_eq, or_step (v := 0) iLt_eq, or_step (v := 0) sLt_eq, or_step (v := 0) iLt_eq]
  unfold cmpTx
  cases sEq a.2.1 b.2.1 <;> cases iEq a.2.2.2.2.1 b.2.2.2.2.1 <;> cases iEq a.1 b.1 <;> cases sEq a.2.2.1 b.2.2.1 <;> cases iEq a.2.2.2.1 b.2.2.2.1 <;> rfl

theorem i_txLess (a b : D146) : F144 (a, (b, ())) = some (B1 (txLessB a b)) := by
  unfold F144
  refine bind_eq (i_cmpTx a b) ?_
  rw [← cmpTx_lt]

def poolP (xs : List D146) (i : Nat) (y : D146) : Bool := txB y && behind txLessB xs i y
def poolB (xs : List D146) : Bool := allI (poolP xs) 0 xs && iLe (xs.length : Int) 20

theorem s_pool (xs : List D146) (hx : (Ty.sl e146).Ok xs) : F81 ((xs, ()), ()) = some (B1 (poolB xs)) := by
  have hl : L63 xs.length := hx.1
  have lp := loopAll (S := Int × Unit) xs (poolP xs) (f := F81.b0 ((xs, ()), ())) (fun k => (k, ())) (Sum.inl ((xs.length : Int), ())) (Sum.inr (B1 false)) (fun i hi => ?_) ?_
  · unfold F81 poolB
    refine bind_eq lp ?_
    cases allI (poolP xs) 0 xs <;> rfl
  · unfold F81.b0 poolP
    refine lt_then (Int.ofNat_lt.2 hi) (bind_eq (getI_lt hi) (bind_eq (s_tx _ (XOk_mem hx (List.getElem_mem hi))) (goN ?_)))
    rw [← nxt hi hl]
    exact asc_step hi hl (fun z => bind_eq (getI_lt hi) (bind_eq (s_txLess _ _) goE))
  · unfold F81.b0
    exact lt_else (Int.le_refl _) rfl

theorem i_pool (xs : List D146) (hx : (Ty.sl e146).Ok xs) : F108 ((xs, ()), ()) = some (B1 (poolB xs)) := by
  have hl : L63 xs.length := hx.1
  have lp := loopAll (S := Int × Unit) xs (poolP xs) (f := F108.b0 ((xs, ()), ())) (fun k => (k, ())) (Sum.inl ((xs.length : Int), ())) (Sum.inr (B1 false)) (fun i hi => ?_) ?_
  · unfold F108 poolB
    refine bind_eq lp ?_
    cases allI (poolP xs) 0 xs <;> rfl
  · unfold F108.b0 poolP
    refine lt_then (Int.ofNat_lt.2 hi) (bind_eq (getI_lt hi) (bind_eq (i_tx _ (XOk_mem hx (List.getElem_mem hi))) (goN ?_)))
    rw [← nxt hi hl]
    exact asc_step hi hl (fun z => bind_eq (i_txLess _ _) goE)
  · unfold F108.b0
    exact lt_else (Int.le_refl _) rfl

def headEp (l : List DBk) : Int := match l with
  | b :: _ => b.2.1
  | [] => 0
theorem head_get {l : List DBk} {i : Nat} (h : i < l.length) : ∃ b, getI l 0 = some b ∧ b.2.1 = headEp l := by
  cases l with
  | nil => simp at h
  | cons b r => exact ⟨b, rfl, rfl⟩
/-- The block that it comes behind is among these, of the round that is told. -/
def parentB (pre : List DBk) (b : DBk) : Bool := match pre.find? (fun z => iEq z.1 (bQc b).2.1) with
  | some z => iEq z.2.2.1 (bQc b).1
  | none => false
def treeQ (l : List DBk) (i : Nat) (b : DBk) : Bool := blockB b && (iEq b.2.1 (headEp l) && behind (fun z y => iLt z.1 y.1) l i b)
def treeB (l : List DBk) : Bool := allI (fun i b => treeQ l i b && (rootB (bQc b) || parentB (l.take i) b)) 0 l && iLe (l.length : Int) 400
theorem noRoot_lt {b : DBk} (h : blockB b = true) (hr : rootB (bQc b) = false) : 0 ≤ (bQc b).2.1 ∧ (bQc b).2.1 < b.1 := by
  unfold blockB qcF at h
  simp only [Bool.and_eq_true] at h
  have h1 : inR b.1 0 100000 = true := h.1
  have h2 := h.2.2.2.2.1
  rw [hr, Bool.false_or] at h2
  simp only [Bool.and_eq_true] at h2
  have h3 : 0 ≤ b.1 ∧ b.1 ≤ 100000 := by simpa [inR, iLe] using h1
  have h4 : 0 ≤ (bQc b).2.1 ∧ (bQc b).2.1 ≤ iSub .i64 b.1 1 := by simpa [inR, iLe] using h2.2.1
  rw [iSub_small (by omega) (by omega)] at h4
  omega
theorem tree_whole (l : List DBk) : allI (fun i b => treeQ l i b && (rootB (bQc b) || parentB (l.take i) b)) 0 l = allI (fun i b => treeQ l i b && (rootB (bQc b) || parentB l b)) 0 l := by
  rw [allI_and, allI_and]
  cases hq : allI (fun i b => treeQ l i b) 0 l with
  | false => rfl
  | true =>
    rw [Bool.true_and, Bool.true_and]
    have hq := fun i hi => by have := allI_get hq i hi; rw [Nat.zero_add] at this; unfold treeQ at this; simp only [Bool.and_eq_true] at this; exact this
    refine allI_congr (fun i b hb => ?_)
    obtain ⟨hi, rfl⟩ := List.getElem?_eq_some_iff.1 hb
    rw [Nat.zero_add]
    cases hr : rootB (bQc l[i]) with
    | true => rfl
    | false =>
      rw [Bool.false_or, Bool.false_or]
      have hlt := noRoot_lt (hq i hi).1 hr
      have hd : (l.drop i).find? (fun z => iEq z.1 (bQc l[i]).2.1) = none := by
        rw [List.find?_eq_none]
        intro z hz
        obtain ⟨k, hk, rfl⟩ := List.getElem_of_mem hz
        rw [List.length_drop] at hk
        have := asc_le (f := fun b : DBk => b.1) (l := l) (fun j hj => (hq j hj).2.2) k i (by omega)
        rw [List.getElem_drop]
        have this : l[i].1 ≤ l[i + k].1 := this
        simp only [iEq, decide_eq_true_eq]
        omega
      unfold parentB
      have : l.find? (fun z => iEq z.1 (bQc l[i]).2.1) = (l.take i).find? (fun z => iEq z.1 (bQc l[i]).2.1) := by
        generalize (bQc l[i]).2.1 = id at hd ⊢
        have e := List.find?_append (p := fun z : DBk => iEq z.1 id) (xs := l.take i) (ys := l.drop i)
        rw [List.take_append_drop, hd] at e
        rw [e]
        cases (l.take i).find? (fun z => iEq z.1 id) <;> rfl
      rw [this]

/-- The place of a block. -/
def blkAt (l : List DBk) (id : Int) : Int := idxOf l (fun b => iEq b.1 id)
theorem s_blkAt (l : List DBk) (id : Int) (hl : L63 l.length) : F134 ((l, ()), ((id, ()), ())) = some (I1 (blkAt l id)) := by
  have lp := loopIdx (S := Int × Unit) l (fun b => iEq b.1 id) (f := F134.b0 ((l, ()), ((id, ()), ()))) (fun k => (k, ())) (Sum.inl ((l.length : Int), ())) (fun i => Sum.inr (I1 i)) (fun i hi => ?_) ?_
  · unfold F134 blkAt
    refine bind_eq lp ?_
    rcases idxOf_cases l (fun b => iEq b.1 id) with ⟨h1, _, h3⟩ | ⟨j, hj, _, _, h1, _, h3⟩ <;> rw [h1, h3] <;> rfl
  · unfold F134.b0
    refine lt_then (Int.ofNat_lt.2 hi) (bind_eq (getI_lt hi) ?_)
    rw [← nxt hi hl]
  · unfold F134.b0
    exact lt_else (Int.le_refl _) rfl

theorem s_tree (l : List DBk) (h : (Ty.sl e133).Ok l) : F83 ((l, ()), ()) = some (B1 (treeB l)) := by
  have hl : L63 l.length := h.1
  have lp := loopAll (S := Int × Unit) l (fun i b => treeQ l i b && (rootB (bQc b) || parentB (l.take i) b)) (f := F83.b0 ((l, ()), ())) (fun k => (k, ())) (Sum.inl ((l.length : Int), ())) (Sum.inr (B1 false)) (fun i hi => ?_) ?_
  · unfold F83 treeB
    refine bind_eq lp ?_
    cases allI (fun i b => treeQ l i b && (rootB (bQc b) || parentB (l.take i) b)) 0 l <;> rfl
  · unfold F83.b0 treeQ
    have hb : BOk l[i] := Ok_mem h.2 (List.getElem_mem hi)
    obtain ⟨b0, hb0, he0⟩ := head_get hi
    refine lt_then (Int.ofNat_lt.2 hi) (bind_eq (getI_lt hi) (join_go (bind_eq (s_blk _ hb) (goN (bind_eq hb0 ?_))) (bind_eq (s_root (bQc l[i])) ?_)))
    · rw [← he0]
      refine goN (asc_step hi hl (fun z => le_ite))
    · rw [← nxt hi hl]
      dsimp only
      cases rootB (bQc l[i]) with
      | true => rfl
      | false =>
        refine cut_hi (by omega) ?_
        rw [take_nat]
        refine bind_eq (s_blkAt _ _ (by rw [List.length_take]; omega)) ?_
        unfold blkAt parentB
        rcases idxOf_cases (l.take i) (fun z => iEq z.1 (bQc l[i]).2.1) with ⟨_, h2, h3⟩ | ⟨j, hj, _, _, _, h2, h3⟩
        · rw [h2, show idxOf (l.take i) (fun b => iEq b.1 l[i].2.2.2.2.2.1) = -1 from h3]; rfl
        · rw [h2, show idxOf (l.take i) (fun b => iEq b.1 l[i].2.2.2.2.2.1) = (j : Int) from h3]
          have hj2 : j < l.length := by rw [List.length_take] at hj; omega
          rw [List.getElem_take]
          exact pos_else (Int.natCast_nonneg j) (bind_eq (getI_lt hj2) goE)
  · unfold F83.b0
    exact lt_else (Int.le_refl _) rfl

theorem i_blkAt (l : List DBk) (id : Int) (hl : L63 l.length) : F152 ((l, ()), ((id, ()), ())) = some (I1 (blkAt l id)) := by
  unfold F152 blkAt
  exact bind_eq (idxFunc_blk l _ (fun b => iEq b.1 id) (fun x => rfl) hl) rfl

theorem i_tree (l : List DBk) (h : (Ty.sl e133).Ok l) : F112 ((l, ()), ()) = some (B1 (treeB l)) := by
  have hl : L63 l.length := h.1
  have lp := loopAll (S := Int × Unit) l (fun i b => treeQ l i b && (rootB (bQc b) || parentB l b)) (f := F112.b0 ((l, ()), ())) (fun k => (k, ())) (Sum.inl ((l.length : Int), ())) (Sum.inr (B1 false)) (fun i hi => ?_) ?_
  · unfold F112 treeB
    refine bind_eq lp ?_
    rw [tree_whole]
    cases allI (fun i b => treeQ l i b && (rootB (bQc b) || parentB l b)) 0 l <;> rfl
  · unfold F112.b0 treeQ
    have hb : BOk l[i] := Ok_mem h.2 (List.getElem_mem hi)
    obtain ⟨b0, hb0, he0⟩ := head_get hi
    refine lt_then (Int.ofNat_lt.2 hi) (bind_eq (getI_lt hi) (join_go (bind_eq (i_blk _ hb) (goN (bind_eq hb0 ?_))) (bind_eq (i_root (bQc l[i])) ?_)))
    · rw [← he0]
      refine goN (asc_step hi hl (fun z => le_ite))
    · rw [← nxt hi hl]
      dsimp only
      cases rootB (bQc l[i]) with
      | true => rfl
      | false =>
        refine bind_eq (i_blkAt _ _ hl) ?_
        unfold blkAt parentB
        rcases idxOf_cases l (fun z => iEq z.1 (bQc l[i]).2.1) with ⟨_, h2, h3⟩ | ⟨j, hj, _, _, _, h2, h3⟩
        · rw [h2, show idxOf l (fun b => iEq b.1 l[i].2.2.2.2.2.1) = -1 from h3]; rfl
        · rw [h2, show idxOf l (fun b => iEq b.1 l[i].2.2.2.2.2.1) = (j : Int) from h3]
          exact pos_else (Int.natCast_nonneg j) (bind_eq (getI_lt hj) goE)
  · unfold F112.b0
    exact lt_else (Int.le_refl _) rfl

abbrev nBase (n : DNd) : DLe := (n.2.2.1, (n.2.2.2.1, ()))
abbrev nSet (n : DNd) : List D138 := n.2.2.2.2.1
abbrev nTree (n : DNd) : List DBk := n.2.2.2.2.2.1
abbrev nRound (n : DNd) : Int := n.2.2.2.2.2.2.1
abbrev nVoted (n : DNd) : Int := n.2.2.2.2.2.2.2.1
def nHigh (n : DNd) : DQc := (n.2.2.2.2.2.2.2.2.1, (n.2.2.2.2.2.2.2.2.2.1, (n.2.2.2.2.2.2.2.2.2.2.1, ())))
def nTc (n : DNd) : DTc := (n.2.2.2.2.2.2.2.2.2.2.2.1, (n.2.2.2.2.2.2.2.2.2.2.2.2.1, (n.2.2.2.2.2.2.2.2.2.2.2.2.2.1, ())))
abbrev nLed (n : DNd) : Int := n.2.2.2.2.2.2.2.2.2.2.2.2.2.2.1
abbrev nVotes (n : DNd) : List D142 := n.2.2.2.2.2.2.2.2.2.2.2.2.2.2.2.1
abbrev nGones (n : DNd) : List D144 := n.2.2.2.2.2.2.2.2.2.2.2.2.2.2.2.2.1
abbrev nDone (n : DNd) : List D3 := n.2.2.2.2.2.2.2.2.2.2.2.2.2.2.2.2.2.1
abbrev nPool (n : DNd) : List D146 := n.2.2.2.2.2.2.2.2.2.2.2.2.2.2.2.2.2.2.1
abbrev NOk (n : DNd) : Prop := e52.Ok n
theorem NOk.base {n : DNd} (h : NOk n) : (Ty.sl e177).Ok (nBase n).2.1 := h.2.2.2.1
theorem NOk.set {n : DNd} (h : NOk n) : (Ty.sl e138).Ok (nSet n) := h.2.2.2.2.1
theorem NOk.tree {n : DNd} (h : NOk n) : (Ty.sl e133).Ok (nTree n) := h.2.2.2.2.2.1
theorem NOk.high {n : DNd} (h : NOk n) : QOk (nHigh n) := h.2.2.2.2.2.2.2.2.2.2.1
theorem NOk.tcs {n : DNd} (h : NOk n) : TOk (nTc n) := ⟨h.2.2.2.2.2.2.2.2.2.2.2.2.1, h.2.2.2.2.2.2.2.2.2.2.2.2.2.1.1⟩
theorem NOk.pool {n : DNd} (h : NOk n) : (Ty.sl e146).Ok (nPool n) := h.2.2.2.2.2.2.2.2.2.2.2.2.2.2.2.2.2.2.1
def headB (l : List DBk) (ep : Int) : Bool := match l with
  | b :: _ => iEq b.2.1 ep
  | [] => true
def nodeB (n : DNd) : Bool := nameB n.1 && (ledgerB (nBase n) && (iEq (nBase n).1 n.2.1 && (poolB (nPool n) && ((!iLt 0 (List.length (nSet n) : Int) || setB (nSet n)) && (treeB (nTree n) && (headB (nTree n) n.2.1 && (inR (nRound n) 1 10000 && (iLt (nHigh n).1 (nRound n) && (iLt (nTc n).1 (nRound n) && (inR (nVoted n) 0 10000 && (inR (nLed n) 0 10000 && (qcB (nSet n) (nHigh n) && (tcB (nSet n) (nTc n) && (iLe (List.length (nVotes n) : Int) 1000 && (iLe (List.length (nGones n) : Int) 1000 && (iLe (List.length (nDone n) : Int) 200 && iLe (List.length (nPast n) : Int) 200))))))))))))))))
theorem head_go {l : List DBk} {ep : Int} {R : Type} {g x : Option R} : (bif iLt 0 (l.length : Int) then (getI l 0).bind (fun b => bif !iEq b.2.1 ep then x else g) else g) = bif headB l ep then g else x := by
  cases l with
  | nil => rfl
  | cons b r => exact (lt_then (by simp) (bind_eq rfl goE))

theorem s_node (n : DNd) (h : NOk n) : F22 (n, ()) = some (B1 (nodeB n)) := by
  unfold F22 nodeB
  have hT : ∀ R (g x : Option R), ((F83 ((nTree n, ()), ())).bind fun y => bif !y.1.1 then x else (bif iLt 0 (List.length (nTree n) : Int) then (getI (nTree n) 0).bind (fun b => bif !iEq b.2.1 n.2.1 then x else g) else g)) = bif (treeB (nTree n) && headB (nTree n) n.2.1) then g else x := fun R g x => bind_eq (s_tree _ h.tree) (goN head_go)
  refine (join_and (b := nameB n.1 && (ledgerB (nBase n) && (iEq (nBase n).1 n.2.1 && (poolB (nPool n) && ((!iLt 0 (List.length (nSet n) : Int) || setB (nSet n)) && (treeB (nTree n) && headB (nTree n) n.2.1)))))) (bind_eq (s_name _ h.1) (goN (bind_eq (s_ledger (nBase n) h.base) (goN (goN (bind_eq (s_pool _ h.pool) (goN ?_))))))) (bind_eq (s_in _ _ _) (andY (andY (b := iLt (nHigh n).1 (nRound n)) (andY (b := iLt (nTc n).1 (nRound n)) (bind_eq (s_in _ _ _) (andY (bind_eq (s_in _ _ _) (andY (bind_eq (s_qc _ (nHigh n) h.set.1 h.high) (andY (bind_eq (s_tc _ (nTc n) h.set.1 h.tcs) (andY (andY (b := iLe (List.length (nVotes n) : Int) 1000) (andY (b := iLe (List.length (nGones n) : Int) 1000) (and_yes (b := iLe (List.length (nDone n) : Int) 200) (c := iLe (List.length (nPast n) : Int) 200))))))))))))))))).trans ?_
  · refine Eq.trans ?_ (goDup (c := iLt 0 (List.length (nSet n) : Int)) (s := setB (nSet n)) (hT _ _ _))
    cases iLt 0 (List.length (nSet n) : Int) with
    | false => rfl
    | true => exact (congrArg (fun o => Option.bind o _) (s_set _ h.set)).trans rfl
  · simp only [Bool.and_assoc]

theorem i_node (n : DNd) (h : NOk n) : F35 (n, ()) = some (B1 (nodeB n)) := by
  unfold F35
  refine (join_and (b := nameB n.1 && (ledgerB (nBase n) && (iEq (nBase n).1 n.2.1 && ((!iLt 0 (List.length (nSet n) : Int) || setB (nSet n)) && poolB (nPool n))))) (bind_eq (i_name _ h.1) (goN (bind_eq (i_ledger (nBase n) h.base) (goN (goN ?_))))) (bind_eq (i_in _ _ _) (andN (bind_eq (i_in _ _ _) (andN (bind_eq (i_in _ _ _) (andN (bind_eq (i_qc _ (nHigh n) h.set.1 h.high) (andN (bind_eq (i_tc _ (nTc n) h.set.1 h.tcs) (andN (noT (b := iLe (nRound n) (nHigh n).1) (noT (b := iLe (nRound n) (nTc n).1) (noT (b := iLt 1000 (List.length (nVotes n) : Int)) (noT (b := iLt 1000 (List.length (nGones n) : Int)) (noT (b := iLt 200 (List.length (nDone n) : Int)) (noT (b := iLt 200 (List.length (nPast n) : Int)) (bind_eq (i_tree _ h.tree) (andY (c := headB (nTree n) n.2.1) ?_))))))))))))))))))).trans ?_
  · refine Eq.trans ?_ (goDup (c := iLt 0 (List.length (nSet n) : Int)) (s := setB (nSet n)) (K := (F108 ((nPool n, ()), ())).bind fun y => bif !y.1.1 then some (.inr (B1 false)) else some (.inl ())) (bind_eq (i_pool _ h.pool) goE))
    cases iLt 0 (List.length (nSet n) : Int) with
    | false => rfl
    | true => exact (congrArg (fun o => Option.bind o _) (i_set _ h.set)).trans rfl
  · cases hq : nTree n with
    | nil =>
      have : n.2.2.2.2.2.1 = ([] : List DBk) := hq
      dsimp only
      rw [this]; rfl
    | cons b r =>
      have : n.2.2.2.2.2.1 = b :: r := hq
      dsimp only
      rw [this]
      have e : iEq ((List.length (b :: r) : Nat) : Int) 0 = false := by simp [iEq]; omega
      rw [e]; rfl
  · unfold nodeB
    have e : ∀ a b : Int, (!iLe a b) = iLt b a := fun a b => by rw [iLe_lt, Bool.not_not]
    have e2 : ∀ a b : Int, (!iLt a b) = iLe b a := fun a b => (iLe_lt).symm
    rw [e, e, e2 1000, e2 1000, e2 200, e2 200]
    refine congrArg (fun z => some (B1 z)) ?_
    generalize nameB n.1 = p1
    generalize ledgerB (nBase n) = p2
    generalize iEq (nBase n).1 n.2.1 = p3
    generalize poolB (nPool n) = p4
    generalize (!iLt 0 (List.length (nSet n) : Int) || setB (nSet n)) = p5
    generalize treeB (nTree n) = p6
    generalize headB (nTree n) n.2.1 = p7
    generalize inR (nRound n) 1 10000 = p8
    generalize iLt (nHigh n).1 (nRound n) = p9
    generalize iLt (nTc n).1 (nRound n) = p10
    generalize inR (nVoted n) 0 10000 = p11
    generalize inR (nLed n) 0 10000 = p12
    generalize qcB (nSet n) (nHigh n) = p13
    generalize tcB (nSet n) (nTc n) = p14
    generalize iLe (List.length (nVotes n) : Int) 1000 = p15
    generalize iLe (List.length (nGones n) : Int) 1000 = p16
    generalize iLe (List.length (nDone n) : Int) 200 = p17
    generalize iLe (List.length (nPast n) : Int) 200 = p18
    simp only [Bool.and_comm, Bool.and_left_comm, Bool.and_assoc]

theorem BlockL_of {b : DBk} (h : e133.w b ≤ 1048576) : BlockL b := ⟨w_ln (w_hd (w_tl (w_tl (w_tl (w_tl (w_tl (w_tl h))))))), w_ln (w_hd (w_tl (w_tl (w_tl (w_tl (w_tl (w_tl (w_tl (w_tl h))))))))), w_ln (w_hd (w_tl (w_tl (w_tl (w_tl (w_tl (w_tl (w_tl (w_tl (w_tl h)))))))))), w_ln (w_hd (w_tl (w_tl (w_tl (w_tl (w_tl (w_tl (w_tl (w_tl (w_tl (w_tl h))))))))))), w_ln (w_hd (w_tl (w_tl (w_tl (w_tl (w_tl (w_tl (w_tl (w_tl (w_tl (w_tl (w_tl (w_tl h)))))))))))))⟩
theorem BlocksL_of {l : List DBk} (h : (Ty.sl e133).w l ≤ 1048576) : ∀ b ∈ l, BlockL b := fun b hb => BlockL_of (w_mem h hb)
theorem ProofL_of {p : DPr} (h : e125.w p ≤ 1048576) : ProofL p := ⟨w_ln (w_hd (w_tl h)), BlocksL_of (w_hd (w_tl h)), w_ln (w_hd (w_tl (w_tl (w_tl (w_tl h)))))⟩
def NodeL (n : DNd) : Prop := AcctL (nBase n).2.1 ∧ W1 (nSet n).length ∧ W1 (nTree n).length ∧ (∀ b ∈ nTree n, BlockL b) ∧ W1 (List.length (nHigh n).2.2.1) ∧ W1 (List.length (nTc n).2.1) ∧ W1 (List.length (nTc n).2.2.1) ∧ W1 (List.length (nVotes n)) ∧ W1 (List.length (nGones n)) ∧ W1 (List.length (nDone n)) ∧ W1 (List.length (nPool n)) ∧ W1 (List.length (nPast n)) ∧ ∀ p ∈ nPast n, ProofL p
theorem NodeL_of {n : DNd} (h : e52.w n ≤ 1048576) : NodeL n := ⟨AcctL_of (w_hd (w_tl (w_tl (w_tl h)))), w_ln (w_hd (w_tl (w_tl (w_tl (w_tl h))))), w_ln (w_hd (w_tl (w_tl (w_tl (w_tl (w_tl h)))))), BlocksL_of (w_hd (w_tl (w_tl (w_tl (w_tl (w_tl h)))))), w_ln (w_hd (w_tl (w_tl (w_tl (w_tl (w_tl (w_tl (w_tl (w_tl (w_tl (w_tl h))))))))))), w_ln (w_hd (w_tl (w_tl (w_tl (w_tl (w_tl (w_tl (w_tl (w_tl (w_tl (w_tl (w_tl (w_tl h))))))))))))), w_ln (w_hd (w_tl (w_tl (w_tl (w_tl (w_tl (w_tl (w_tl (w_tl (w_tl (w_tl (w_tl (w_tl (w_tl h)))))))))))))), w_ln (w_hd (w_tl (w_tl (w_tl (w_tl (w_tl (w_tl (w_tl (w_tl (w_tl (w_tl (w_tl (w_tl (w_tl (w_tl (w_tl h)))))))))))))))), w_ln (w_hd (w_tl (w_tl (w_tl (w_tl (w_tl (w_tl (w_tl (w_tl (w_tl (w_tl (w_tl (w_tl (w_tl (w_tl (w_tl (w_tl h))))))))))))))))), w_ln (w_hd (w_tl (w_tl (w_tl (w_tl (w_tl (w_tl (w_tl (w_tl (w_tl (w_tl (w_tl (w_tl (w_tl (w_tl (w_tl (w_tl (w_tl h)))))))))))))))))), w_ln (w_hd (w_tl (w_tl (w_tl (w_tl (w_tl (w_tl (w_tl (w_tl (w_tl (w_tl (w_tl (w_tl (w_tl (w_tl (w_tl (w_tl (w_tl (w_tl h))))))))))))))))))), w_ln (w_hd (w_tl (w_tl (w_tl (w_tl (w_tl (w_tl (w_tl (w_tl (w_tl (w_tl (w_tl (w_tl (w_tl (w_tl (w_tl (w_tl (w_tl (w_tl (w_tl h)))))))))))))))))))), fun p hp => ProofL_of (w_mem (w_hd (w_tl (w_tl (w_tl (w_tl (w_tl (w_tl (w_tl (w_tl (w_tl (w_tl (w_tl (w_tl (w_tl (w_tl (w_tl (w_tl (w_tl (w_tl (w_tl h)))))))))))))))))))) hp)⟩

theorem s_cnode (n : DNd) (h : NodeL n) : F21 (n, ()) = some (n, ()) := by
  obtain ⟨h1, h2, h3, h4, h5, h6, h7, h8, h9, h10, h11, h12, h13⟩ := h
  have lp := loopCopy (S := Int × (List DPr × Unit)) (nPast n) (f := F21.b0 (n, ())) (fun a k => (k, (a, ()))) (Sum.inl (((nPast n).length : Int), (nPast n, ()))) (fun i hi => ?_) ?_
  · unfold F21
    exact bind_eq (s_cledger (nBase n) h1) (room_then h2 (by decide) (by decide) (bind_eq (s_cblks _ h3 h4) (bind_eq (s_cqc (nHigh n) h5) (bind_eq (s_ctc (nTc n) h6 h7) (room_then h8 (by decide) (by decide) (room_then h9 (by decide) (by decide) (room_then h10 (by decide) (by decide) (room_then h11 (by decide) (by decide) (bind_eq lp rfl)))))))))
  · unfold F21.b0
    refine lt_then (Int.ofNat_lt.2 hi) (bind_eq (getI_lt hi) (bind_eq (s_cproof _ (h13 _ (List.getElem_mem hi))) (room_one hi h12 (by decide) (by decide) ?_)))
    rw [← nxt hi h12.l]; rfl
  · unfold F21.b0
    exact lt_else (Int.le_refl _) rfl

theorem i_cnode (n : DNd) (h : NodeL n) : F34 (n, ()) = some (n, ()) := by
  obtain ⟨h1, h2, h3, h4, h5, h6, h7, h8, h9, h10, h11, h12, h13⟩ := h
  have lp := loopCopy (S := Int × (List DPr × Unit)) (nPast n) (f := F34.b0 (n, ())) (fun a k => (k, (a, ()))) (Sum.inl (((nPast n).length : Int), (nPast n, ()))) (fun i hi => ?_) ?_
  · unfold F34
    exact bind_eq (i_cledger (nBase n) h1) (bind_eq (i_clV _ h2) (bind_eq (i_cblks _ h3 h4) (bind_eq (i_cqc (nHigh n) h5) (bind_eq (i_ctc (nTc n) h6 h7) (bind_eq (i_clVo _ h8) (bind_eq (i_clGo _ h9) (bind_eq (i_clI _ h10) (bind_eq (i_clT _ h11) (bind_eq lp rfl)))))))))
  · unfold F34.b0
    refine lt_then (Int.ofNat_lt.2 hi) (bind_eq (getI_lt hi) (bind_eq (i_cproof _ (h13 _ (List.getElem_mem hi))) (room_one hi h12 (by decide) (by decide) ?_)))
    rw [← nxt hi h12.l]; rfl
  · unfold F34.b0
    exact lt_else (Int.le_refl _) rfl

def rebootL (n : DNd) : DNd := bif nodeB n then (n.1, (n.2.1, (n.2.2.1, (n.2.2.2.1, (n.2.2.2.2.1, (n.2.2.2.2.2.1, (n.2.2.2.2.2.2.1, (n.2.2.2.2.2.2.2.1, (n.2.2.2.2.2.2.2.2.1, (n.2.2.2.2.2.2.2.2.2.1, (n.2.2.2.2.2.2.2.2.2.2.1, (n.2.2.2.2.2.2.2.2.2.2.2.1, (n.2.2.2.2.2.2.2.2.2.2.2.2.1, (n.2.2.2.2.2.2.2.2.2.2.2.2.2.1, (n.2.2.2.2.2.2.2.2.2.2.2.2.2.2.1, ([], ([], (n.2.2.2.2.2.2.2.2.2.2.2.2.2.2.2.2.2.1, ([], (n.2.2.2.2.2.2.2.2.2.2.2.2.2.2.2.2.2.2.2.1, ())))))))))))))))))))) else n

theorem s_reboot (n : DNd) (h : NodeL n) (hn : NOk n) : F5 (n, ()) = some (rebootL n, ()) := by
  unfold F5 rebootL
  refine bind_eq (s_cnode n h) ?_
  dsimp only
  rw [s_node n hn]
  cases nodeB n <;> rfl

theorem i_reboot (n : DNd) (h : NodeL n) (hn : NOk n) : F7 (n, ()) = some (rebootL n, ()) := by
  unfold F7 rebootL
  refine bind_eq (i_cnode n h) ?_
  dsimp only
  rw [i_node n hn]
  cases nodeB n <;> rfl

theorem L_Reboot (n : DNd) (hn : e52.Ok n) (hw : e52.w n ≤ 1048576) :
    ∃ R, F5 (n, ()) = some R ∧ F7 (n, ()) = some R ∧ e52.Ok R.1 ∧ e52.w R.1 ≤ 67108864 := by
  refine ⟨_, s_reboot n (NodeL_of hw) hn, i_reboot n (NodeL_of hw) hn, ?_⟩
  unfold rebootL
  cases nodeB n with
  | false => exact ⟨hn, Nat.le_trans hw (by decide)⟩
  | true =>
    refine ⟨⟨hn.1, hn.2.1, hn.2.2.1, hn.2.2.2.1, hn.2.2.2.2.1, hn.2.2.2.2.2.1, hn.2.2.2.2.2.2.1, hn.2.2.2.2.2.2.2.1, hn.2.2.2.2.2.2.2.2.1, hn.2.2.2.2.2.2.2.2.2.1, hn.2.2.2.2.2.2.2.2.2.2.1, hn.2.2.2.2.2.2.2.2.2.2.2.1, hn.2.2.2.2.2.2.2.2.2.2.2.2.1, hn.2.2.2.2.2.2.2.2.2.2.2.2.2.1, hn.2.2.2.2.2.2.2.2.2.2.2.2.2.2.1, Ok_nil, Ok_nil, hn.2.2.2.2.2.2.2.2.2.2.2.2.2.2.2.2.2.1, Ok_nil, hn.2.2.2.2.2.2.2.2.2.2.2.2.2.2.2.2.2.2.2.1, trivial⟩, Nat.le_trans ?_ (Nat.le_trans hw (by decide))⟩
    exact (Nat.add_le_add (Nat.le_refl _) (Nat.add_le_add (Nat.le_refl _) (Nat.add_le_add (Nat.le_refl _) (Nat.add_le_add (Nat.le_refl _) (Nat.add_le_add (Nat.le_refl _) (Nat.add_le_add (Nat.le_refl _) (Nat.add_le_add (Nat.le_refl _) (Nat.add_le_add (Nat.le_refl _) (Nat.add_le_add (Nat.le_refl _) (Nat.add_le_add (Nat.le_refl _) (Nat.add_le_add (Nat.le_refl _) (Nat.add_le_add (Nat.le_refl _) (Nat.add_le_add (Nat.le_refl _) (Nat.add_le_add (Nat.le_refl _) (Nat.add_le_add (Nat.le_refl _) (Nat.add_le_add (Nat.zero_le _) (Nat.add_le_add (Nat.zero_le _) (Nat.add_le_add (Nat.le_refl _) (Nat.add_le_add (Nat.zero_le _) (Nat.add_le_add (Nat.le_refl _) (Nat.le_refl _)))))))))))))))))))))
end Go.Proofs.YtodcmpnbcgobkacGreat
