/- Plain laws, part 1: what the program's functions and the reference's compute, told as plain words. Conditions: none. -/
import Derived.Test.YtodcmpnbcgobkabGreatWoH
import Derived.Test.YtodcmpnbcgobkabGreatTm4
namespace Go.Proofs.YtodcmpnbcgobkabGreat
open Go Go.Tm
set_option linter.unusedVariables false
set_option maxRecDepth 100000

theorem s_in (n lo hi : Int) : F47 ((n, ()), ((lo, ()), ((hi, ()), ()))) = some (B1 (inR n lo hi)) := inR_ite

theorem i_in (n lo hi : Int) : F67 ((n, ()), ((lo, ()), ((hi, ()), ()))) = some (B1 (inR n lo hi)) := inR_ite

/-- A letter of a name; a name. -/
def letter (b : UInt8) : Bool := inR (UInt8.toNat b : Int) 97 122 || inR (UInt8.toNat b : Int) 48 57
def nameB (s : ByteArray) : Bool := s.data.toList.all letter && inR (s.size : Int) 1 8
theorem sz_list (s : ByteArray) : s.size = s.data.toList.length := rfl

theorem s_name (s : ByteArray) (hs : L63 s.size) : F49 ((s, ()), ()) = some (B1 (nameB s)) := by
  have lp := loopAllP (S := Int × Unit) s.data.toList letter (f := F49.b0 ((s, ()), ())) (fun k => (k, ())) (Sum.inl ((s.data.toList.length : Int), ())) (Sum.inr (B1 false)) (fun i hi => ?_) ?_
  · unfold F49 nameB
    refine bind_eq lp ?_
    cases s.data.toList.all letter
    · rfl
    · exact (congrArg (fun o => Option.bind o _) (s_in _ _ _)).trans rfl
  · unfold F49.b0 letter
    refine lt_then (Int.ofNat_lt.2 hi) (bind_eq (getI_lt hi) (bind_eq (s_in _ _ _) ?_))
    rw [← nxt hi hs, wrap_byte]
    cases inR (UInt8.toNat s.data.toList[i] : Int) 97 122
    · refine bind_eq (getI_lt hi) (bind_eq (s_in _ _ _) ?_)
      rw [wrap_byte]
      cases inR (UInt8.toNat s.data.toList[i] : Int) 48 57 <;> rfl
    · rfl
  · unfold F49.b0
    exact lt_else (Int.le_refl _) rfl

theorem i_name (s : ByteArray) (hs : L63 s.size) : F69 ((s, ()), ()) = some (B1 (nameB s)) := by
  have lp := loopAllP (S := Int × Unit) s.data.toList letter (f := F69.b0 ((s, ()), ())) (fun k => (k, ())) (Sum.inl ((s.data.toList.length : Int), ())) (Sum.inr (B1 false)) (fun i hi => ?_) ?_
  · unfold F69 nameB
    refine bind_eq lp ?_
    cases s.data.toList.all letter
    · rfl
    · exact (congrArg (fun o => Option.bind o _) (i_in _ _ _)).trans rfl
  · unfold F69.b0 letter inR
    refine lt_then (Int.ofNat_lt.2 hi) (bind_eq (getI_lt hi) ?_)
    rw [← nxt hi hs]
    simp only [getI_lt hi, Option.bind_some]
    cases iLe (97:Int) (UInt8.toNat s.data.toList[i] : Int) <;> cases iLe (UInt8.toNat s.data.toList[i] : Int) (122:Int) <;> cases iLe (48:Int) (UInt8.toNat s.data.toList[i] : Int) <;> cases iLe (UInt8.toNat s.data.toList[i] : Int) (57:Int) <;> rfl
  · unfold F69.b0
    exact lt_else (Int.le_refl _) rfl

/-- Names, in order. -/
def namP (xs : List D9) (i : Nat) (y : D9) : Bool := nameB y.1 && behind (fun z y => sLt z.1 y.1) xs i y
def namesB (xs : List D9) : Bool := allI (namP xs) 0 xs && iLe (xs.length : Int) 20

theorem s_names (xs : List D9) (hx : (Ty.sl e9).Ok xs) : F16 ((xs, ()), ()) = some (B1 (namesB xs)) := by
  have hl : L63 xs.length := hx.1
  have lp := loopAll (S := Int × Unit) xs (namP xs) (f := F16.b0 ((xs, ()), ())) (fun k => (k, ())) (Sum.inl ((xs.length : Int), ())) (Sum.inr (B1 false)) (fun i hi => ?_) ?_
  · unfold F16 namesB
    refine bind_eq lp ?_
    cases allI (namP xs) 0 xs <;> rfl
  · unfold F16.b0 namP
    refine lt_then (Int.ofNat_lt.2 hi) (bind_eq (getI_lt hi) (bind_eq (s_name _ (Ok_mem hx.2 (List.getElem_mem hi)).1) (goN ?_)))
    rw [← nxt hi hl]
    exact asc_step hi hl (fun z => bind_eq (getI_lt hi) goE)
  · unfold F16.b0
    exact lt_else (Int.le_refl _) rfl

theorem i_names (xs : List D9) (hx : (Ty.sl e9).Ok xs) : F29 ((xs, ()), ()) = some (B1 (namesB xs)) := by
  have hl : L63 xs.length := hx.1
  have lp := loopAll (S := Int × Unit) xs (namP xs) (f := F29.b0 ((xs, ()), ())) (fun k => (k, ())) (Sum.inl ((xs.length : Int), ())) (Sum.inr (B1 false)) (fun i hi => ?_) ?_
  · unfold F29 namesB
    refine bind_eq lp ?_
    cases allI (namP xs) 0 xs <;> rfl
  · unfold F29.b0 namP
    refine lt_then (Int.ofNat_lt.2 hi) (bind_eq (getI_lt hi) (bind_eq (i_name _ (Ok_mem hx.2 (List.getElem_mem hi)).1) (goN ?_)))
    rw [← nxt hi hl]
    exact asc_step hi hl (fun z => ite_tri)
  · unfold F29.b0
    exact lt_else (Int.le_refl _) rfl

/-- Those who vote. -/
def valP (xs : List D167) (i : Nat) (y : D167) : Bool := nameB y.1 && (inR y.2.1 1 1000000 && behind (fun z y => sLt z.1 y.1) xs i y)
def setB (xs : List D167) : Bool := allI (valP xs) 0 xs && inR (xs.length : Int) 1 12

theorem s_set (xs : List D167) (hx : (Ty.sl e167).Ok xs) : F53 ((xs, ()), ()) = some (B1 (setB xs)) := by
  have hl : L63 xs.length := hx.1
  have lp := loopAll (S := Int × Unit) xs (valP xs) (f := F53.b0 ((xs, ()), ())) (fun k => (k, ())) (Sum.inl ((xs.length : Int), ())) (Sum.inr (B1 false)) (fun i hi => ?_) ?_
  · unfold F53 setB
    refine bind_eq lp ?_
    cases allI (valP xs) 0 xs
    · rfl
    · exact (congrArg (fun o => Option.bind o _) (s_in _ _ _)).trans rfl
  · unfold F53.b0 valP
    refine lt_then (Int.ofNat_lt.2 hi) (bind_eq (getI_lt hi) (bind_eq (s_name _ (Ok_mem hx.2 (List.getElem_mem hi)).1) (goN (bind_eq (getI_lt hi) (bind_eq (s_in _ _ _) (goN ?_))))))
    rw [← nxt hi hl]
    exact asc_step hi hl (fun z => bind_eq (getI_lt hi) goE)
  · unfold F53.b0
    exact lt_else (Int.le_refl _) rfl

theorem i_set (xs : List D167) (hx : (Ty.sl e167).Ok xs) : F73 ((xs, ()), ()) = some (B1 (setB xs)) := by
  have hl : L63 xs.length := hx.1
  have lp := loopAll (S := Int × Unit) xs (valP xs) (f := F73.b0 ((xs, ()), ())) (fun k => (k, ())) (Sum.inl ((xs.length : Int), ())) (Sum.inr (B1 false)) (fun i hi => ?_) ?_
  · unfold F73 setB
    refine bind_eq lp ?_
    cases allI (valP xs) 0 xs
    · rfl
    · exact (congrArg (fun o => Option.bind o _) (i_in _ _ _)).trans rfl
  · unfold F73.b0 valP
    refine lt_then (Int.ofNat_lt.2 hi) (bind_eq (getI_lt hi) (bind_eq (i_name _ (Ok_mem hx.2 (List.getElem_mem hi)).1) (goN (bind_eq (i_in _ _ _) (goN ?_)))))
    rw [← nxt hi hl]
    exact asc_step hi hl (fun z => ite_tri)
  · unfold F73.b0
    exact lt_else (Int.le_refl _) rfl

/-- Is it among those who vote? among names? -/
def inB (l : List D167) (s : ByteArray) : Bool := l.any (fun v => sEq v.1 s)
def hasB (l : List D9) (s : ByteArray) : Bool := l.any (fun v => sEq v.1 s)

theorem s_isin (l : List D167) (s : ByteArray) (hl : L63 l.length) : F173 ((l, ()), ((s, ()), ())) = some (B1 (inB l s)) := by
  have lp := loopHas (S := Int × Unit) l (fun v => sEq v.1 s) (f := F173.b0 ((l, ()), ((s, ()), ()))) (fun k => (k, ())) (Sum.inl ((l.length : Int), ())) (Sum.inr (B1 true)) (fun i hi => ?_) ?_
  · unfold F173 inB
    refine bind_eq lp ?_
    cases l.any (fun v => sEq v.1 s) <;> rfl
  · unfold F173.b0
    refine lt_then (Int.ofNat_lt.2 hi) (bind_eq (getI_lt hi) ?_)
    rw [← nxt hi hl]
  · unfold F173.b0
    exact lt_else (Int.le_refl _) rfl

theorem s_has (l : List D9) (s : ByteArray) (hl : L63 l.length) : F61 ((l, ()), ((s, ()), ())) = some (B1 (hasB l s)) := by
  have lp := loopHas (S := Int × Unit) l (fun v => sEq v.1 s) (f := F61.b0 ((l, ()), ((s, ()), ()))) (fun k => (k, ())) (Sum.inl ((l.length : Int), ())) (Sum.inr (B1 true)) (fun i hi => ?_) ?_
  · unfold F61 hasB
    refine bind_eq lp ?_
    cases l.any (fun v => sEq v.1 s) <;> rfl
  · unfold F61.b0
    refine lt_then (Int.ofNat_lt.2 hi) (bind_eq (getI_lt hi) ?_)
    rw [← nxt hi hl]
  · unfold F61.b0
    exact lt_else (Int.le_refl _) rfl

theorem idxFunc_val (l : List D167) (g : D167 → Option (Bool × Unit)) (p : D167 → Bool) (hg : ∀ x, g x = some (p x, ())) (hl : L63 l.length) : F185 ((l, ()), ((g, ()), ())) = some (I1 (idxOf l p)) := by
  have lp := loopIdx (S := Int × Unit) l p (f := F185.b0 ((l, ()), ((g, ()), ()))) (fun k => (k, ())) (Sum.inl ((l.length : Int), ())) (fun i => Sum.inr (I1 i)) (fun i hi => ?_) ?_
  · unfold F185
    refine bind_eq lp ?_
    rcases idxOf_cases l p with ⟨h1, _, h3⟩ | ⟨j, hj, _, _, h1, _, h3⟩ <;> rw [h1, h3] <;> rfl
  · unfold F185.b0
    refine lt_then (Int.ofNat_lt.2 hi) (bind_eq (getI_lt hi) (bind_eq (hg _) ?_))
    rw [← nxt hi hl]
  · unfold F185.b0
    exact lt_else (Int.le_refl _) rfl

theorem i_isin (l : List D167) (s : ByteArray) (hl : L63 l.length) : F164 ((l, ()), ((s, ()), ())) = some (B1 (inB l s)) := by
  unfold F164 F180
  refine bind_eq (bind_eq (idxFunc_val l _ (fun v => sEq v.1 s) (fun x => rfl) hl) rfl) ?_
  rw [idxOf_any]; rfl

theorem i_idxS (l : List D9) (s : ByteArray) (hl : L63 l.length) : F78 ((l, ()), ((s, ()), ())) = some (I1 (idxOf l (fun v => sEq s v.1))) := by
  have lp := loopIdx (S := Int × Unit) l (fun v => sEq s v.1) (f := F78.b0 ((l, ()), ((s, ()), ()))) (fun k => (k, ())) (Sum.inl ((l.length : Int), ())) (fun i => Sum.inr (I1 i)) (fun i hi => ?_) ?_
  · unfold F78
    refine bind_eq lp ?_
    rcases idxOf_cases l (fun v => sEq s v.1) with ⟨h1, _, h3⟩ | ⟨j, hj, _, _, h1, _, h3⟩ <;> rw [h1, h3] <;> rfl
  · unfold F78.b0
    refine lt_then (Int.ofNat_lt.2 hi) (bind_eq (getI_lt hi) ?_)
    rw [← nxt hi hl]
  · unfold F78.b0
    exact lt_else (Int.le_refl _) rfl
theorem i_has (l : List D9) (s : ByteArray) (hl : L63 l.length) : F32 ((l, ()), ((s, ()), ())) = some (B1 (hasB l s)) := by
  unfold F32 hasB
  refine bind_eq (i_idxS l s hl) ?_
  rw [idxOf_any]
  simp only [sEq_comm]

def allInB (l : List D167) (names : List D9) : Bool := names.all (fun n => inB l n.1)

theorem s_all (l : List D167) (names : List D9) (hl : L63 l.length) (hn : (Ty.sl e9).Ok names) : F154 ((l, ()), ((names, ()), ())) = some (B1 (allInB l names && namesB names)) := by
  have lp := loopAllP (S := Int × Unit) names (fun n => inB l n.1) (f := F154.b0 ((l, ()), ((names, ()), ()))) (fun k => (k, ())) (Sum.inl ((names.length : Int), ())) (Sum.inr (B1 false)) (fun i hi => ?_) ?_
  · unfold F154 allInB
    refine bind_eq lp ?_
    cases names.all (fun n => inB l n.1)
    · rfl
    · exact (congrArg (fun o => Option.bind o _) (s_names _ hn)).trans rfl
  · unfold F154.b0
    refine lt_then (Int.ofNat_lt.2 hi) (bind_eq (getI_lt hi) (bind_eq (s_isin _ _ hl) ?_))
    rw [← nxt hi hn.1]
    exact goE
  · unfold F154.b0
    exact lt_else (Int.le_refl _) rfl

theorem i_all (l : List D167) (names : List D9) (hl : L63 l.length) (hn : L63 names.length) : F129 ((l, ()), ((names, ()), ())) = some (B1 (allInB l names)) := by
  have lp := loopAllP (S := Int × Unit) names (fun n => inB l n.1) (f := F129.b0 ((l, ()), ((names, ()), ()))) (fun k => (k, ())) (Sum.inl ((names.length : Int), ())) (Sum.inr (B1 false)) (fun i hi => ?_) ?_
  · unfold F129 allInB
    refine bind_eq lp ?_
    cases names.all (fun n => inB l n.1) <;> rfl
  · unfold F129.b0
    refine lt_then (Int.ofNat_lt.2 hi) (bind_eq (getI_lt hi) (bind_eq (i_isin _ _ hl) ?_))
    rw [← nxt hi hn]
    exact goE
  · unfold F129.b0
    exact lt_else (Int.le_refl _) rfl

/-- What they weigh. -/
def weight (xs : List D167) (names : List D9) : Int := xs.foldl (fun n v => bif hasB names v.1 then iAdd .i64 n v.2.1 else n) 0
def total (xs : List D167) : Int := xs.foldl (fun n v => iAdd .i64 n v.2.1) 0
def quorumB (l : List D167) (names : List D9) : Bool := iLt (iMul .i64 2 (total l)) (iMul .i64 3 (weight l names))

theorem s_weight (xs : List D167) (names : List D9) (hx : L63 xs.length) (hl : L63 names.length) : F174 ((xs, ()), ((names, ()), ())) = some (I1 (weight xs names)) := by
  have lp := loopFold0 (S := Int × (Int × Unit)) xs (fun n v => bif hasB names v.1 then iAdd .i64 n v.2.1 else n) (f := F174.b0 ((xs, ()), ((names, ()), ()))) (fun a i => (a, (i, ()))) (fun a => Sum.inl (a, ((xs.length : Int), ()))) 0 (fun i hi a => ?_) (fun a => ?_)
  · unfold F174
    exact bind_eq lp rfl
  · unfold F174.b0
    refine lt_then (Int.ofNat_lt.2 hi) (bind_eq (getI_lt hi) (bind_eq (s_has _ _ hl) ?_))
    rw [← nxt hi hx]
    dsimp only
    cases hasB names xs[i].1
    · rfl
    · exact bind_eq (getI_lt hi) rfl
  · unfold F174.b0
    exact lt_else (Int.le_refl _) rfl

theorem i_weight (xs : List D167) (names : List D9) (hx : L63 xs.length) (hl : L63 names.length) : F162 ((xs, ()), ((names, ()), ())) = some (I1 (weight xs names)) := by
  have lp := loopFold0 (S := Int × (Int × Unit)) xs (fun n v => bif hasB names v.1 then iAdd .i64 n v.2.1 else n) (f := F162.b0 ((xs, ()), ((names, ()), ()))) (fun a i => (a, (i, ()))) (fun a => Sum.inl (a, ((xs.length : Int), ()))) 0 (fun i hi a => ?_) (fun a => ?_)
  · unfold F162
    exact bind_eq lp rfl
  · unfold F162.b0
    refine lt_then (Int.ofNat_lt.2 hi) (bind_eq (getI_lt hi) (bind_eq (i_has _ _ hl) ?_))
    rw [← nxt hi hx]
    dsimp only
    cases hasB names xs[i].1 <;> rfl
  · unfold F162.b0
    exact lt_else (Int.le_refl _) rfl

theorem s_total (xs : List D167) (hx : L63 xs.length) : F175 ((xs, ()), ()) = some (I1 (total xs)) := by
  have lp := loopFold0 (S := Int × (Int × Unit)) xs (fun n v => iAdd .i64 n v.2.1) (f := F175.b0 ((xs, ()), ())) (fun a i => (a, (i, ()))) (fun a => Sum.inl (a, ((xs.length : Int), ()))) 0 (fun i hi a => ?_) (fun a => ?_)
  · unfold F175
    exact bind_eq lp rfl
  · unfold F175.b0
    refine lt_then (Int.ofNat_lt.2 hi) (bind_eq (getI_lt hi) ?_)
    rw [← nxt hi hx]
  · unfold F175.b0
    exact lt_else (Int.le_refl _) rfl

theorem i_total (xs : List D167) (hx : L63 xs.length) : F163 ((xs, ()), ()) = some (I1 (total xs)) := by
  have lp := loopFold0 (S := Int × (Int × Unit)) xs (fun n v => iAdd .i64 n v.2.1) (f := F163.b0 ((xs, ()), ())) (fun a i => (a, (i, ()))) (fun a => Sum.inl (a, ((xs.length : Int), ()))) 0 (fun i hi a => ?_) (fun a => ?_)
  · unfold F163
    exact bind_eq lp rfl
  · unfold F163.b0
    refine lt_then (Int.ofNat_lt.2 hi) (bind_eq (getI_lt hi) ?_)
    rw [← nxt hi hx]
  · unfold F163.b0
    exact lt_else (Int.le_refl _) rfl

theorem s_quorum (l : List D167) (names : List D9) (hl : L63 l.length) (hn : L63 names.length) : F155 ((l, ()), ((names, ()), ())) = some (B1 (quorumB l names)) :=
  bind_eq (s_weight l names hl hn) (bind_eq (s_total l hl) rfl)

theorem i_quorum (l : List D167) (names : List D9) (hl : L63 l.length) (hn : L63 names.length) : F128 ((l, ()), ((names, ()), ())) = some (B1 (quorumB l names)) :=
  bind_eq (i_weight l names hl hn) (bind_eq (i_total l hl) rfl)

/-- What leaves, in order; an account. -/
def leafP (xs : List D202) (i : Nat) (y : D202) : Bool := inR y.1 1 1000000 && (inR y.2.1 0 1000 && behind (fun z y => iLt z.2.1 y.2.1) xs i y)
def leavesB (xs : List D202) : Bool := allI (leafP xs) 0 xs
def acctB (a : D164) : Bool := nameB a.1 && (inR a.2.1 0 1000000 && (inR a.2.2.1 0 10000 && (inR a.2.2.2.1 0 1000000 && (iLe (List.length a.2.2.2.2.1 : Int) 4 && leavesB a.2.2.2.2.1))))
abbrev AOk (a : D164) : Prop := e164.Ok a
theorem AOk.ls {a : D164} (h : AOk a) : (Ty.sl e202).Ok a.2.2.2.2.1 := h.2.2.2.2.1

theorem s_acct (a : D164) (h : AOk a) : F103 (a, ()) = some (B1 (acctB a)) := by
  have hl : L63 (List.length a.2.2.2.2.1) := h.ls.1
  have lp := loopAll (S := Int × Unit) a.2.2.2.2.1 (leafP a.2.2.2.2.1) (f := F103.b0 (a, ())) (fun k => (k, ())) (Sum.inl ((List.length a.2.2.2.2.1 : Int), ())) (Sum.inr (B1 false)) (fun i hi => ?_) ?_
  · unfold F103 acctB leavesB
    rw [iLe_lt]
    refine bind_eq (s_name _ h.1) (andN (bind_eq (s_in _ _ _) (andN (bind_eq (s_in _ _ _) (andN (bind_eq (s_in _ _ _) (andN (noT (bind_eq lp ?_)))))))))
    cases allI (leafP a.2.2.2.2.1) 0 a.2.2.2.2.1 <;> rfl
  · unfold F103.b0 leafP
    refine lt_then (Int.ofNat_lt.2 hi) (bind_eq (getI_lt hi) (bind_eq (s_in _ _ _) (goN (bind_eq (s_in _ _ _) (goN ?_)))))
    rw [← nxt hi hl]
    exact asc_step hi hl (fun z => le_ite)
  · unfold F103.b0
    exact lt_else (Int.le_refl _) rfl

theorem i_amount (n : Int) : F160 ((n, ()), ()) = some (B1 (inR n 0 1000000)) := bind_eq (i_in _ _ _) rfl
theorem i_acct (a : D164) (h : AOk a) : F124 (a, ()) = some (B1 (acctB a)) := by
  have hl : L63 (List.length a.2.2.2.2.1) := h.ls.1
  have lp := loopAll (S := Int × Unit) a.2.2.2.2.1 (leafP a.2.2.2.2.1) (f := F124.b0 (a, ())) (fun k => (k, ())) (Sum.inl ((List.length a.2.2.2.2.1 : Int), ())) (Sum.inr (B1 false)) (fun i hi => ?_) ?_
  · unfold F124 acctB leavesB
    refine bind_eq lp ?_
    cases allI (leafP a.2.2.2.2.1) 0 a.2.2.2.2.1
    · cases nameB a.1 <;> cases inR a.2.1 0 1000000 <;> cases inR a.2.2.1 0 10000 <;> cases inR a.2.2.2.1 0 1000000 <;> cases iLe (List.length a.2.2.2.2.1 : Int) 4 <;> rfl
    · refine (bind_eq (i_name _ h.1) (andY (bind_eq (i_amount _) (andY (bind_eq (i_amount _) (andY (bind_eq (i_in _ _ _) (and_yes (c := iLe (List.length a.2.2.2.2.1 : Int) 4))))))))).trans ?_
      cases nameB a.1 <;> cases inR a.2.1 0 1000000 <;> cases inR a.2.2.1 0 10000 <;> cases inR a.2.2.2.1 0 1000000 <;> cases iLe (List.length a.2.2.2.2.1 : Int) 4 <;> rfl
  · unfold F124.b0 leafP
    refine lt_then (Int.ofNat_lt.2 hi) (bind_eq (getI_lt hi) (bind_eq (i_in _ _ _) (goN (bind_eq (i_in _ _ _) (goN ?_)))))
    rw [← nxt hi hl]
    exact asc_step hi hl (fun z => le_ite)
  · unfold F124.b0
    exact lt_else (Int.le_refl _) rfl

def addL (n : Int) (xs : List D202) : Int := xs.foldl (fun s y => iAdd .i64 s y.1) n
theorem addL_add (n m : Int) : ∀ xs : List D202, addL (iAdd .i64 n m) xs = iAdd .i64 n (addL m xs)
  | [] => rfl
  | x :: r => by
    show addL (iAdd .i64 (iAdd .i64 n m) x.1) r = iAdd .i64 n (addL (iAdd .i64 m x.1) r)
    rw [iAdd_assoc, addL_add]
def ofA (a : D164) : Int := addL (iAdd .i64 a.2.1 a.2.2.2.1) a.2.2.2.2.1
def wealth (xs : List D164) : Int := xs.foldl (fun s y => iAdd .i64 s (ofA y)) 0

theorem s_of (a : D164) (h : AOk a) : F150 (a, ()) = some (I1 (ofA a)) := by
  have hl : L63 (List.length a.2.2.2.2.1) := h.ls.1
  have lp := loopFold0 (S := Int × (Int × Unit)) a.2.2.2.2.1 (fun s y => iAdd .i64 s y.1) (f := F150.b0 (a, ())) (fun a i => (a, (i, ()))) (fun s => Sum.inl (s, ((List.length a.2.2.2.2.1 : Int), ()))) (iAdd .i64 a.2.1 a.2.2.2.1) (fun i hi s => ?_) (fun s => ?_)
  · unfold F150
    exact bind_eq lp rfl
  · unfold F150.b0
    refine lt_then (Int.ofNat_lt.2 hi) (bind_eq (getI_lt hi) ?_)
    rw [← nxt hi hl]
  · unfold F150.b0
    exact lt_else (Int.le_refl _) rfl
theorem s_wealth (xs : List D164) (hx : (Ty.sl e164).Ok xs) : F104 ((xs, ()), ()) = some (I1 (wealth xs)) := by
  have lp := loopFold0 (S := Int × (Int × Unit)) xs (fun s y => iAdd .i64 s (ofA y)) (f := F104.b0 ((xs, ()), ())) (fun a i => (a, (i, ()))) (fun s => Sum.inl (s, ((xs.length : Int), ()))) 0 (fun i hi s => ?_) (fun s => ?_)
  · unfold F104
    exact bind_eq lp rfl
  · unfold F104.b0
    refine lt_then (Int.ofNat_lt.2 hi) (bind_eq (getI_lt hi) (bind_eq (s_of _ (Ok_mem hx.2 (List.getElem_mem hi))) ?_))
    rw [← nxt hi hx.1]
  · unfold F104.b0
    exact lt_else (Int.le_refl _) rfl

theorem i_wealth (xs : List D164) (hx : (Ty.sl e164).Ok xs) : F125 ((xs, ()), ()) = some (I1 (wealth xs)) := by
  have inner : ∀ (a : D164) (n : Int), L63 (List.length a.2.2.2.2.1) → loopF (F125.b1 a) (n, ((0:Int), ())) = some (.inl (addL n a.2.2.2.2.1, ((List.length a.2.2.2.2.1 : Int), ()))) := by
    intro a n hl
    refine loopFold0 (S := Int × (Int × Unit)) a.2.2.2.2.1 (fun s y => iAdd .i64 s y.1) (fun a i => (a, (i, ()))) (fun s => Sum.inl (s, ((List.length a.2.2.2.2.1 : Int), ()))) n (fun i hi s => ?_) (fun s => ?_)
    · unfold F125.b1
      refine lt_then (Int.ofNat_lt.2 hi) (bind_eq (getI_lt hi) ?_)
      rw [← nxt hi hl]
    · unfold F125.b1
      exact lt_else (Int.le_refl _) rfl
  have lp := loopFold0 (S := Int × (Int × Unit)) xs (fun s y => iAdd .i64 s (ofA y)) (f := F125.b0 ((xs, ()), ())) (fun a i => (a, (i, ()))) (fun s => Sum.inl (s, ((xs.length : Int), ()))) 0 (fun i hi s => ?_) (fun s => ?_)
  · unfold F125
    exact bind_eq lp rfl
  · unfold F125.b0
    refine lt_then (Int.ofNat_lt.2 hi) (bind_eq (getI_lt hi) (bind_eq (inner _ _ (AOk.ls (Ok_mem hx.2 (List.getElem_mem hi))).1) ?_))
    rw [← nxt hi hx.1]
    exact congrArg (fun z => some (Sum.inl (z, (iAdd .i64 (i : Int) 1, ())))) (addL_add s _ _)
  · unfold F125.b0
    exact lt_else (Int.le_refl _) rfl

def acctP (xs : List D164) (i : Nat) (y : D164) : Bool := acctB y && behind (fun z y => sLt z.1 y.1) xs i y
def acctsB (xs : List D164) : Bool := allI (acctP xs) 0 xs && (iLe (xs.length : Int) 12 && iLe (wealth xs) 1000000)
abbrev DLe : Type := Int × (List D164 × Unit)
def ledgerB (x : DLe) : Bool := inR x.1 0 900 && acctsB x.2.1

theorem s_accts (xs : List D164) (hx : (Ty.sl e164).Ok xs) : F48 ((xs, ()), ()) = some (B1 (acctsB xs)) := by
  have hl : L63 xs.length := hx.1
  have lp := loopAll (S := Int × Unit) xs (acctP xs) (f := F48.b0 ((xs, ()), ())) (fun k => (k, ())) (Sum.inl ((xs.length : Int), ())) (Sum.inr (B1 false)) (fun i hi => ?_) ?_
  · unfold F48 acctsB
    refine bind_eq lp ?_
    cases allI (acctP xs) 0 xs
    · rfl
    · exact (andY (b := iLe (xs.length : Int) 12) (bind_eq (s_wealth xs hx) rfl)).trans rfl
  · unfold F48.b0 acctP
    refine lt_then (Int.ofNat_lt.2 hi) (bind_eq (getI_lt hi) (bind_eq (s_acct _ (Ok_mem hx.2 (List.getElem_mem hi))) (goN ?_)))
    rw [← nxt hi hl]
    exact asc_step hi hl (fun z => bind_eq (getI_lt hi) goE)
  · unfold F48.b0
    exact lt_else (Int.le_refl _) rfl
theorem s_ledger (x : DLe) (hx : (Ty.sl e164).Ok x.2.1) : F15 (x, ()) = some (B1 (ledgerB x)) := bind_eq (s_in _ _ _) (andY (bind_eq (s_accts _ hx) rfl))

theorem i_accts (xs : List D164) (hx : (Ty.sl e164).Ok xs) : F68 ((xs, ()), ()) = some (B1 (acctsB xs)) := by
  have hl : L63 xs.length := hx.1
  have lp := loopAll (S := Int × Unit) xs (acctP xs) (f := F68.b0 ((xs, ()), ())) (fun k => (k, ())) (Sum.inl ((xs.length : Int), ())) (Sum.inr (B1 false)) (fun i hi => ?_) ?_
  · unfold F68 acctsB
    refine bind_eq lp ?_
    cases allI (acctP xs) 0 xs
    · rfl
    · exact (andY (b := iLe (xs.length : Int) 12) (bind_eq (i_wealth xs hx) rfl)).trans rfl
  · unfold F68.b0 acctP
    refine lt_then (Int.ofNat_lt.2 hi) (bind_eq (getI_lt hi) (bind_eq (i_acct _ (Ok_mem hx.2 (List.getElem_mem hi))) (goN ?_)))
    rw [← nxt hi hl]
    exact asc_step hi hl (fun z => ite_tri)
  · unfold F68.b0
    exact lt_else (Int.le_refl _) rfl
theorem i_ledger (x : DLe) (hx : (Ty.sl e164).Ok x.2.1) : F28 (x, ()) = some (B1 (ledgerB x)) := bind_eq (i_in _ _ _) (andY (bind_eq (i_accts _ hx) rfl))

/-- Who votes. -/
def setStep (s : List D167) (y : D164) : List D167 := bif iLe 5 y.2.2.2.1 then s ++ ([(y.1, (y.2.2.2.1, ()))] : List D167) else s
def setL (xs : List D164) : List D167 := xs.foldl setStep []
theorem setStep_len (s : List D167) (y : D164) {i : Nat} (h : s.length ≤ i) : (setStep s y).length ≤ i + 1 := by
  unfold setStep
  cases iLe 5 y.2.2.2.1 with
  | false => exact Nat.le_succ_of_le h
  | true => simp only [cond_true, List.length_append, List.length_cons, List.length_nil]; omega
theorem setL_eq (xs : List D164) : setL xs = (xs.filter (fun y => iLe 5 y.2.2.2.1)).map (fun y => (y.1, (y.2.2.2.1, ()))) := by
  have : ∀ (xs : List D164) (s : List D167), xs.foldl setStep s = s ++ (xs.filter (fun y => iLe 5 y.2.2.2.1)).map (fun y => (y.1, (y.2.2.2.1, ()))) := by
    intro xs
    induction xs with
    | nil => intro s; simp
    | cons x r ih =>
      intro s
      rw [List.foldl_cons, ih, List.filter_cons]
      unfold setStep
      cases iLe 5 x.2.2.2.1 <;> simp
  have h := this xs []
  rw [List.nil_append] at h
  exact h
theorem setL_len (xs : List D164) : (setL xs).length ≤ xs.length := by rw [setL_eq, List.length_map]; exact List.length_filter_le _ _
theorem setL_mem {xs : List D164} {y : D167} (h : y ∈ setL xs) : ∃ a ∈ xs, y = (a.1, (a.2.2.2.1, ())) := by
  rw [setL_eq, List.mem_map] at h
  obtain ⟨a, ha, rfl⟩ := h
  exact ⟨a, (List.mem_filter.1 ha).1, rfl⟩
theorem setL_ok (xs : List D164) (hx : (Ty.sl e164).Ok xs) : (Ty.sl e167).Ok (setL xs) :=
  Ok_of (Nat.le_trans (setL_len xs) hx.1) (fun y hy => by
    obtain ⟨a, ha, e⟩ := setL_mem hy
    have hao : AOk a := Ok_mem hx.2 ha
    rw [e]
    exact ⟨hao.1, hao.2.2.2.1, trivial⟩)
theorem setL_w (xs : List D164) : (Ty.sl e167).w (setL xs) ≤ (Ty.sl e164).w xs := by
  rw [setL_eq]
  exact sumW_fm (f := fun z => e164.w z) (g := fun z => e167.w z) (m := fun y : D164 => ((y.1, (y.2.2.2.1, ())) : D167)) (fun x => Nat.le_trans (Nat.le_of_eq (show x.1.size + (0 + 0) = x.1.size by omega)) (Nat.le_add_right _ _)) xs

/-- A certificate; one of leavings. -/
abbrev DQc : Type := Int × (Int × (List D9 × Unit))
abbrev DTc : Type := Int × (List D9 × (List D3 × Unit))
def rootB (q : DQc) : Bool := iEq q.1 0 && (iEq q.2.1 (-1) && iEq (List.length q.2.2.1 : Int) 0)
def noneB (t : DTc) : Bool := iEq t.1 0 && (iEq (List.length t.2.1 : Int) 0 && iEq (List.length t.2.2.1 : Int) 0)
abbrev QOk (q : DQc) : Prop := (Ty.sl e9).Ok q.2.2.1
abbrev TOk (t : DTc) : Prop := (Ty.sl e9).Ok t.2.1 ∧ L63 (List.length t.2.2.1)
def qcF (q : DQc) (round block : Int) : Bool := rootB q || (inR q.1 1 round && (inR q.2.1 0 block && namesB q.2.2.1))
def tcF (t : DTc) (round : Int) : Bool := noneB t || (inR t.1 1 round && (namesB t.2.1 && (iEq (List.length t.2.2.1 : Int) (List.length t.2.1 : Int) && t.2.2.1.all (fun h => inR h.1 0 (iSub .i64 t.1 1)))))
def qcB (l : List D167) (q : DQc) : Bool := rootB q || (inR q.1 1 10000 && (inR q.2.1 0 100000 && (namesB q.2.2.1 && (allInB l q.2.2.1 && quorumB l q.2.2.1))))
def tcB (l : List D167) (t : DTc) : Bool := noneB t || (inR t.1 1 10000 && (namesB t.2.1 && (iEq (List.length t.2.2.1 : Int) (List.length t.2.1 : Int) && (t.2.2.1.all (fun h => inR h.1 0 (iSub .i64 t.1 1)) && (allInB l t.2.1 && quorumB l t.2.1)))))

theorem s_root (q : DQc) : F55 (q, ()) = some (B1 (rootB q)) := by
  unfold F55 rootB
  cases iEq q.1 0 <;> cases iEq q.2.1 (-1) <;> rfl

theorem i_root (q : DQc) : F81 (q, ()) = some (B1 (rootB q)) := by
  unfold F81 rootB
  cases iEq q.1 0 <;> cases iEq q.2.1 (-1) <;> rfl

theorem s_none (t : DTc) : F57 (t, ()) = some (B1 (noneB t)) := by
  unfold F57 noneB
  cases iEq t.1 0 <;> cases iEq (List.length t.2.1 : Int) 0 <;> rfl

theorem i_none (t : DTc) : F82 (t, ()) = some (B1 (noneB t)) := by
  unfold F82 noneB
  cases iEq t.1 0 <;> cases iEq (List.length t.2.1 : Int) 0 <;> rfl

theorem s_qc (l : List D167) (q : DQc) (hl : L63 l.length) (hq : QOk q) : F111 ((l, ()), (q, ())) = some (B1 (qcB l q)) := by
  unfold F111 qcB
  refine bind_eq (s_root q) (orY (bind_eq (s_in _ _ _) (andY (bind_eq (s_in _ _ _) (andY ?_)))))
  refine bind_eq (s_all l _ hl hq) ((andY (bind_eq (s_quorum l _ hl hq.1) rfl)).trans ?_)
  rw [Bool.and_comm (allInB l _) (namesB _), Bool.and_assoc]

theorem i_qcf (q : DQc) (r b : Int) (hq : QOk q) : F70 (q, ((r, ()), ((b, ()), ()))) = some (B1 (qcF q r b)) := by
  unfold F70 qcF
  exact bind_eq (i_root q) (orY (bind_eq (i_in _ _ _) (andY (bind_eq (i_in _ _ _) (andY (bind_eq (i_names _ hq) rfl))))))

theorem i_qc (l : List D167) (q : DQc) (hl : L63 l.length) (hq : QOk q) : F75 ((l, ()), (q, ())) = some (B1 (qcB l q)) := by
  unfold F75
  refine (bind_eq (i_root q) (orY (bind_eq (i_qcf q _ _ hq) (andY (bind_eq (i_quorum l _ hl hq.1) (andY (bind_eq (i_all l _ hl hq.1) rfl))))))).trans ?_
  unfold qcB qcF
  cases rootB q <;> cases inR q.1 1 10000 <;> cases inR q.2.1 0 100000 <;> cases namesB q.2.2.1 <;> cases allInB l q.2.2.1 <;> cases quorumB l q.2.2.1 <;> rfl

theorem i_tcf (t : DTc) (r : Int) (h : TOk t) : F71 (t, ((r, ()), ())) = some (B1 (tcF t r)) := by
  have hl : L63 (List.length t.2.2.1) := h.2
  have lp := loopAllP (S := Int × Unit) t.2.2.1 (fun y => inR y.1 0 (iSub .i64 t.1 1)) (f := F71.b0 (t, ((r, ()), ()))) (fun k => (k, ())) (Sum.inl ((t.2.2.1.length : Int), ())) (Sum.inr (B1 false)) (fun i hi => ?_) ?_
  · unfold F71 tcF
    refine bind_eq (i_none t) (orY (bind_eq lp ?_))
    cases t.2.2.1.all (fun y => inR y.1 0 (iSub .i64 t.1 1))
    · cases inR t.1 1 r <;> cases namesB t.2.1 <;> cases iEq (List.length t.2.2.1 : Int) (List.length t.2.1 : Int) <;> rfl
    · refine (bind_eq (i_in _ _ _) (andY (bind_eq (i_names _ h.1) and_yes))).trans ?_
      cases iEq (List.length t.2.2.1 : Int) (List.length t.2.1 : Int) <;> rfl
  · unfold F71.b0
    refine lt_then (Int.ofNat_lt.2 hi) (bind_eq (getI_lt hi) (bind_eq (i_in _ _ _) ?_))
    rw [← nxt hi hl]
    exact goE
  · unfold F71.b0
    exact lt_else (Int.le_refl _) rfl

theorem s_tc (l : List D167) (t : DTc) (hl : L63 l.length) (h : TOk t) : F112 ((l, ()), (t, ())) = some (B1 (tcB l t)) := by
  have hh : L63 (List.length t.2.2.1) := h.2
  have lp := loopAllP (S := Int × Unit) t.2.2.1 (fun y => inR y.1 0 (iSub .i64 t.1 1)) (f := F112.b0 ((l, ()), (t, ()))) (fun k => (k, ())) (Sum.inl ((t.2.2.1.length : Int), ())) (Sum.inr (B1 false)) (fun i hi => ?_) ?_
  · unfold F112
    refine (bind_eq (s_none t) (orY (bind_eq (s_in _ _ _) (andN (bind_eq (s_all l _ hl h.1) (andN (bind_eq (s_quorum l _ hl h.1.1) (andN (andN (b := iEq (List.length t.2.2.1 : Int) (List.length t.2.1 : Int)) (c := t.2.2.1.all (fun y => inR y.1 0 (iSub .i64 t.1 1))) (bind_eq lp ?_)))))))))).trans ?_
    · cases t.2.2.1.all (fun y => inR y.1 0 (iSub .i64 t.1 1)) <;> rfl
    · unfold tcB
      cases noneB t <;> cases inR t.1 1 10000 <;> cases namesB t.2.1 <;> cases iEq (List.length t.2.2.1 : Int) (List.length t.2.1 : Int) <;> cases t.2.2.1.all (fun y => inR y.1 0 (iSub .i64 t.1 1)) <;> cases allInB l t.2.1 <;> cases quorumB l t.2.1 <;> rfl
  · unfold F112.b0
    refine lt_then (Int.ofNat_lt.2 hi) (bind_eq (getI_lt hi) (bind_eq (s_in _ _ _) ?_))
    rw [← nxt hi hh]
    exact goE
  · unfold F112.b0
    exact lt_else (Int.le_refl _) rfl

theorem i_tc (l : List D167) (t : DTc) (hl : L63 l.length) (h : TOk t) : F76 ((l, ()), (t, ())) = some (B1 (tcB l t)) := by
  unfold F76
  refine (bind_eq (i_none t) (orY (bind_eq (i_tcf t _ h) (andY (bind_eq (i_quorum l _ hl h.1.1) (andY (bind_eq (i_all l _ hl h.1.1) rfl))))))).trans ?_
  unfold tcB tcF
  cases noneB t <;> cases inR t.1 1 10000 <;> cases namesB t.2.1 <;> cases iEq (List.length t.2.2.1 : Int) (List.length t.2.1 : Int) <;> cases t.2.2.1.all (fun y => inR y.1 0 (iSub .i64 t.1 1)) <;> cases allInB l t.2.1 <;> cases quorumB l t.2.1 <;> rfl

/-- An order. -/
def txB (t : D121) : Bool := nameB t.2.1 && (inR t.2.2.2.1 1 1000000 && (inR t.2.2.2.2.1 0 10000 && (bif iEq t.1 1 then nameB t.2.2.1 else (inR t.1 2 3 && sEq t.2.2.1 ⟨#[]⟩))))
abbrev XOk (t : D121) : Prop := L63 t.2.1.size ∧ L63 t.2.2.1.size
theorem XOk_mem {l : List D121} (h : (Ty.sl e121).Ok l) {t : D121} (ht : t ∈ l) : XOk t := ⟨(Ok_mem h.2 ht).2.1, (Ok_mem h.2 ht).2.2.1⟩

theorem s_tx (t : D121) (h : XOk t) : F52 (t, ()) = some (B1 (txB t)) := by
  unfold F52 txB
  refine bind_eq (s_name _ h.1) (andN (bind_eq (s_in _ _ _) (andN (bind_eq (s_in _ _ _) (andN ?_)))))
  cases iEq t.1 1
  · exact bind_eq (s_in _ _ _) and_yes
  · exact bind_eq (s_name _ h.2) rfl

theorem i_tx (t : D121) (h : XOk t) : F126 (t, ()) = some (B1 (txB t)) := by
  unfold F126 txB
  refine (bind_eq (i_in _ _ _) (andN (bind_eq (i_name _ h.1) (andN (bind_eq (i_in _ _ _) (andN (bind_eq (i_in _ _ _) (andN (c := bif iEq t.1 1 then nameB t.2.2.1 else sEq t.2.2.1 ⟨#[]⟩) ?_)))))))).trans ?_
  · cases iEq t.1 1
    · rfl
    · exact bind_eq (i_name _ h.2) rfl
  · have e : inR t.1 1 3 = (iEq t.1 1 || inR t.1 2 3) := by
      simp only [inR, iLe, iEq]
      rw [Bool.eq_iff_iff]
      simp
      omega
    rw [e]
    cases iEq t.1 1 <;> cases inR t.1 2 3 <;> cases nameB t.2.1 <;> cases inR t.2.2.2.1 1 1000000 <;> cases inR t.2.2.2.2.1 0 10000 <;> cases sEq t.2.2.1 ⟨#[]⟩ <;> cases nameB t.2.2.1 <;> rfl

theorem i_txs (l : List D121) (h : (Ty.sl e121).Ok l) : F72 ((l, ()), ()) = some (B1 (l.all txB)) := by
  have hl : L63 l.length := h.1
  have lp := loopAllP (S := Int × Unit) l txB (f := F72.b0 ((l, ()), ())) (fun k => (k, ())) (Sum.inl ((l.length : Int), ())) (Sum.inr (B1 false)) (fun i hi => ?_) ?_
  · unfold F72
    refine bind_eq lp ?_
    cases l.all txB <;> rfl
  · unfold F72.b0
    refine lt_then (Int.ofNat_lt.2 hi) (bind_eq (getI_lt hi) (bind_eq (i_tx _ (XOk_mem h (List.getElem_mem hi))) ?_))
    rw [← nxt hi hl]
    exact goE
  · unfold F72.b0
    exact lt_else (Int.le_refl _) rfl

/-- A block. -/
abbrev DBk : Type := D62
def bQc (b : DBk) : DQc := (b.2.2.2.2.1, (b.2.2.2.2.2.1, (b.2.2.2.2.2.2.1, ())))
def bTc (b : DBk) : DTc := (b.2.2.2.2.2.2.2.1, (b.2.2.2.2.2.2.2.2.1, (b.2.2.2.2.2.2.2.2.2.1, ())))
abbrev bTxs (b : DBk) : List D121 := b.2.2.2.2.2.2.2.2.2.2.1
abbrev bEnd (b : DBk) : Bool := b.2.2.2.2.2.2.2.2.2.2.2.1
abbrev bNext (b : DBk) : List D167 := b.2.2.2.2.2.2.2.2.2.2.2.2.1
abbrev bRoot (b : DBk) : ByteArray := b.2.2.2.2.2.2.2.2.2.2.2.2.2.1
abbrev BOk (b : DBk) : Prop := e62.Ok b
theorem BOk.by_ {b : DBk} (h : BOk b) : L63 b.2.2.2.1.size := h.2.2.2.1
theorem BOk.qc {b : DBk} (h : BOk b) : QOk (bQc b) := h.2.2.2.2.2.2.1
theorem BOk.tc {b : DBk} (h : BOk b) : TOk (bTc b) := ⟨h.2.2.2.2.2.2.2.2.1, h.2.2.2.2.2.2.2.2.2.1.1⟩
theorem BOk.txs {b : DBk} (h : BOk b) : (Ty.sl e121).Ok (bTxs b) := h.2.2.2.2.2.2.2.2.2.2.1
theorem BOk.next {b : DBk} (h : BOk b) : (Ty.sl e167).Ok (bNext b) := h.2.2.2.2.2.2.2.2.2.2.2.2.1

def bodyB (b : DBk) : Bool := bif bEnd b then (setB (bNext b) && iEq ((bRoot b).size : Int) 32) else (iEq (List.length (bNext b) : Int) 0 && sEq (bRoot b) ⟨#[]⟩)
def blockB (b : DBk) : Bool := inR b.1 0 100000 && (inR b.2.1 0 900 && (inR b.2.2.1 1 10000 && (nameB b.2.2.2.1 && (qcF (bQc b) (iSub .i64 b.2.2.1 1) (iSub .i64 b.1 1) && (tcF (bTc b) (iSub .i64 b.2.2.1 1) &&
  (!iLt 4 (List.length (bTxs b) : Int) && ((bTxs b).all txB && bodyB b)))))))

theorem s_qcf (b : DBk) (h : BOk b) : F50 (b, ()) = some (B1 (qcF (bQc b) (iSub .i64 b.2.2.1 1) (iSub .i64 b.1 1))) := by
  unfold F50 qcF
  exact bind_eq (s_root (bQc b)) (orY (bind_eq (s_in _ _ _) (andY (bind_eq (s_in _ _ _) (andY (bind_eq (s_names _ h.qc) rfl))))))
theorem s_tcf (b : DBk) (h : BOk b) : F51 (b, ()) = some (B1 (tcF (bTc b) (iSub .i64 b.2.2.1 1))) := by
  have hl : L63 (List.length (bTc b).2.2.1) := h.tc.2
  have lp := loopAllP (S := Int × Unit) (bTc b).2.2.1 (fun y => inR y.1 0 (iSub .i64 (bTc b).1 1)) (f := F51.b0 (b, ())) (fun k => (k, ())) (Sum.inl (((bTc b).2.2.1.length : Int), ())) (Sum.inr (B1 false)) (fun i hi => ?_) ?_
  · unfold F51 tcF
    refine bind_eq (s_none (bTc b)) (orY (bind_eq (s_in _ _ _) (andN (bind_eq (s_names _ h.tc.1) (andN ?_)))))
    refine (andN (b := iEq (List.length (bTc b).2.2.1 : Int) (List.length (bTc b).2.1 : Int)) (bind_eq lp ?_))
    cases (bTc b).2.2.1.all (fun y => inR y.1 0 (iSub .i64 (bTc b).1 1)) <;> rfl
  · unfold F51.b0
    refine lt_then (Int.ofNat_lt.2 hi) (bind_eq (getI_lt hi) (bind_eq (s_in _ _ _) ?_))
    rw [← nxt hi hl]
    exact goE
  · unfold F51.b0
    exact lt_else (Int.le_refl _) rfl
theorem s_blk (b : DBk) (h : BOk b) : F17 (b, ()) = some (B1 (blockB b)) := by
  have hl : L63 (bTxs b).length := h.txs.1
  have lp := loopAllP (S := Int × Unit) (bTxs b) txB (f := F17.b0 (b, ())) (fun k => (k, ())) (Sum.inl (((bTxs b).length : Int), ())) (Sum.inr (B1 false)) (fun i hi => ?_) ?_
  · unfold F17 blockB
    refine bind_eq (s_in _ _ _) (andN (bind_eq (s_in _ _ _) (andN (bind_eq (s_in _ _ _) (andN (bind_eq (s_name _ h.by_) (andN (bind_eq (s_qcf b h) (andN (bind_eq (s_tcf b h) (andN (noT (bind_eq lp ?_)))))))))))))
    cases (bTxs b).all txB
    · rfl
    · unfold bodyB
      rw [Bool.true_and]
      dsimp only [cond_true, Sum.elim_inl, bEnd]
      cases b.2.2.2.2.2.2.2.2.2.2.2.1
      · exact and_yes
      · exact bind_eq (s_set _ h.next) and_yes
  · unfold F17.b0
    refine lt_then (Int.ofNat_lt.2 hi) (bind_eq (getI_lt hi) (bind_eq (s_tx _ (XOk_mem h.txs (List.getElem_mem hi))) ?_))
    rw [← nxt hi hl]
    exact goE
  · unfold F17.b0
    exact lt_else (Int.le_refl _) rfl

theorem i_blk (b : DBk) (h : BOk b) : F30 (b, ()) = some (B1 (blockB b)) := by
  unfold F30 blockB
  refine bind_eq (i_in _ _ _) (andN (bind_eq (i_in _ _ _) (andN (bind_eq (i_in _ _ _) (andN (bind_eq (i_name _ h.by_) (andN (bind_eq (i_qcf (bQc b) _ _ h.qc) (andN (bind_eq (i_tcf (bTc b) _ h.tc) (andN (noT (bind_eq (i_txs _ h.txs) (andN ?_))))))))))))))
  unfold bodyB
  dsimp only [bEnd]
  cases b.2.2.2.2.2.2.2.2.2.2.2.1
  · exact and_yes
  · exact bind_eq (i_set _ h.next) and_yes

/-- A block's lists are not long. -/
def BlockL (x : DBk) : Prop := W1 (List.length (bQc x).2.2.1) ∧ W1 (List.length (bTc x).2.1) ∧ W1 (List.length (bTc x).2.2.1) ∧ W1 (List.length (bTxs x)) ∧ W1 (List.length (bNext x))

/-- A proof's lists are not long. -/
abbrev DPr : Type := D208
abbrev pBs (p : DPr) : List DBk := p.2.1
def pQ (p : DPr) : DQc := (p.2.2.1, (p.2.2.2.1, (p.2.2.2.2.1, ())))
def ProofL (x : DPr) : Prop := W1 (List.length (pBs x)) ∧ (∀ y ∈ pBs x, BlockL y) ∧ W1 (List.length (pQ x).2.2.1)

theorem idxFunc_blk (l : List DBk) (g : DBk → Option (Bool × Unit)) (p : DBk → Bool) (hg : ∀ x, g x = some (p x, ())) (hl : L63 l.length) : F165 ((l, ()), ((g, ()), ())) = some (I1 (idxOf l p)) := by
  have lp := loopIdx (S := Int × Unit) l p (f := F165.b0 ((l, ()), ((g, ()), ()))) (fun k => (k, ())) (Sum.inl ((l.length : Int), ())) (fun i => Sum.inr (I1 i)) (fun i hi => ?_) ?_
  · unfold F165
    refine bind_eq lp ?_
    rcases idxOf_cases l p with ⟨h1, _, h3⟩ | ⟨j, hj, _, _, h1, _, h3⟩ <;> rw [h1, h3] <;> rfl
  · unfold F165.b0
    refine lt_then (Int.ofNat_lt.2 hi) (bind_eq (getI_lt hi) (bind_eq (hg _) ?_))
    rw [← nxt hi hl]
  · unfold F165.b0
    exact lt_else (Int.le_refl _) rfl

/-- A node; how its epochs ended. -/
abbrev DNd : Type := D83
abbrev nPast (n : DNd) : List DPr := n.2.2.2.2.2.2.2.2.2.2.2.2.2.2.2.2.2.2.2.1

def zeroNd : DNd := (⟨#[]⟩, (0, (0, ([], ([], ([], (0, (0, (0, (0, ([], (0, ([], ([], (0, ([], ([], ([], ([], ([], ()))))))))))))))))))))
def nodeNewL (name : ByteArray) (x : DLe) : DNd := bif nameB name && ledgerB x then (name, (x.1, (x.1, (x.2.1, (setL x.2.1, ([], (1, (0, (0, (-1, ([], (0, ([], ([], (0, ([], ([], ([], ([], ([], ())))))))))))))))))))) else zeroNd

abbrev DWo : Type := D42
def zeroWo : DWo := (0, ([], ([], ([], ([], ([], ([], ())))))))
def nodesL (x : DLe) (foul : List D9) : List DNd := x.2.1.foldl (fun s a => bif !hasB foul a.1 then s ++ ([nodeNewL a.1 x] : List DNd) else s) []
def worldNewL (x : DLe) (foul : List D9) : DWo := bif ledgerB x && namesB foul then (x.1, (x.2.1, (foul, (nodesL x foul, ([], ([], ([], ()))))))) else zeroWo
theorem nodesL_eq (x : DLe) (foul : List D9) : nodesL x foul = (x.2.1.filter (fun a => !hasB foul a.1)).map (fun a => nodeNewL a.1 x) := by
  have : ∀ (xs : List D164) (s : List DNd), xs.foldl (fun s a => bif !hasB foul a.1 then s ++ ([nodeNewL a.1 x] : List DNd) else s) s = s ++ (xs.filter (fun a => !hasB foul a.1)).map (fun a => nodeNewL a.1 x) := by
    intro xs
    induction xs with
    | nil => intro s; simp
    | cons a r ih =>
      intro s
      rw [List.foldl_cons, ih, List.filter_cons]
      cases hasB foul a.1 <;> simp
  have h := this x.2.1 []
  rw [List.nil_append] at h
  exact h
theorem add_len {A : Type} {s t : List A} {i : Nat} (h : s.length ≤ i) (b : Bool) (ht : t.length = 1) : (bif b then s ++ t else s).length ≤ i + 1 := by
  cases b with
  | false => exact Nat.le_succ_of_le h
  | true => simp only [cond_true, List.length_append, ht]; omega

/-- Two lists are the same, place by place. -/
def sameT {A : Type} (eq : A → A → Bool) (xs ys : List A) : Bool := iEq (xs.length : Int) (ys.length : Int) && allI (fun i x => match ys[i]? with | some y => eq x y | none => true) 0 xs
theorem same_loop {A : Type} {xs ys : List A} {eq : A → A → Bool} {f : Int × Unit → Option (Sum (Int × Unit) (Sum (Int × Unit) ((Bool × Unit) × Unit)))} (hl : L63 xs.length)
    (hs : ∀ i (h : i < xs.length) (h2 : i < ys.length), f ((i : Int), ()) = bif eq xs[i] ys[i] then some (.inl (iAdd .i64 (i : Int) 1, ())) else some (.inr (.inr (B1 false))))
    (he : f ((xs.length : Int), ()) = some (.inr (.inl ((xs.length : Int), ())))) :
    (bif !iEq (xs.length : Int) (ys.length : Int) then some (B1 false) else (loopF f ((0:Int), ())).bind fun r => Sum.elim (fun _ => some (B1 true)) some r) = some (B1 (sameT eq xs ys)) := by
  unfold sameT
  cases hq : iEq (xs.length : Int) (ys.length : Int) with
  | false => rfl
  | true =>
    have hlen : xs.length = ys.length := by simp [iEq] at hq; omega
    have lp := loopAll (S := Int × Unit) xs (fun i x => match ys[i]? with | some y => eq x y | none => true) (f := f) (fun k => (k, ())) (Sum.inl ((xs.length : Int), ())) (Sum.inr (B1 false)) (fun i hi => ?_) he
    · refine bind_eq lp ?_
      cases allI (fun i x => match ys[i]? with | some y => eq x y | none => true) 0 xs <;> rfl
    · rw [hs i hi (by omega), List.getElem?_eq_getElem (show i < ys.length by omega), nxt hi hl]
theorem sameT_iff {A : Type} {eq : A → A → Bool} (he : ∀ a b, eq a b = true ↔ a = b) {xs ys : List A} : sameT eq xs ys = true ↔ xs = ys := by
  unfold sameT
  simp only [Bool.and_eq_true]
  constructor
  · rintro ⟨h1, h2⟩
    have hlen : xs.length = ys.length := by simp [iEq] at h1; omega
    refine List.ext_getElem hlen (fun i h1 h3 => ?_)
    have := allI_get h2 i h1
    rw [Nat.zero_add, List.getElem?_eq_getElem h3] at this
    exact (he _ _).1 this
  · rintro rfl
    refine ⟨iEq_self _, ?_⟩
    have : ∀ (p : Nat → A → Bool) (k : Nat) (l : List A), (∀ i (h : i < l.length), p (k + i) l[i] = true) → allI p k l = true := by
      intro p k l
      induction l generalizing k with
      | nil => intro _; rfl
      | cons x r ih =>
        intro h
        simp only [allI, Bool.and_eq_true]
        refine ⟨h 0 (Nat.zero_lt_succ _), ih (k + 1) (fun i hi => ?_)⟩
        have := h (i + 1) (by simpa using hi)
        rw [show k + 1 + i = k + (i + 1) by omega]
        simpa using this
    refine this _ 0 xs (fun i h => ?_)
    rw [Nat.zero_add, List.getElem?_eq_getElem h]
    exact (he _ _).2 rfl

def txEq (x y : D121) : Bool := (iEq x.1 y.1) && ((sEq x.2.1 y.2.1) && ((sEq x.2.2.1 y.2.2.1) && ((iEq x.2.2.2.1 y.2.2.2.1) && (iEq x.2.2.2.2.1 y.2.2.2.2.1))))
def valEq (x y : D167) : Bool := (sEq x.1 y.1) && (iEq x.2.1 y.2.1)
def sameQcB (a b : DQc) : Bool := iEq a.1 b.1 && (iEq a.2.1 b.2.1 && sameT (fun x y => sEq x.1 y.1) a.2.2.1 b.2.2.1)
def sameTcB (a b : DTc) : Bool := iEq a.1 b.1 && (sameT (fun x y => sEq x.1 y.1) a.2.1 b.2.1 && sameT (fun x y => iEq x.1 y.1) a.2.2.1 b.2.2.1)
def sameBlkB (a b : DBk) : Bool := iEq a.1 b.1 && (iEq a.2.1 b.2.1 && (iEq a.2.2.1 b.2.2.1 && (sEq a.2.2.2.1 b.2.2.2.1 && (sameQcB (bQc a) (bQc b) && (sameTcB (bTc a) (bTc b) && (sameT txEq (bTxs a) (bTxs b) && (bEq (bEnd a) (bEnd b) && (sameT valEq (bNext a) (bNext b) && sEq (bRoot a) (bRoot b)))))))))

theorem s_sameT (xs ys : List D9) (hl : L63 xs.length) : F151 ((xs, ()), ((ys, ()), ())) = some (B1 (sameT (fun x y => sEq x.1 y.1) xs ys)) := by
  unfold F151
  refine same_loop hl (fun i h h2 => ?_) ?_
  · unfold F151.b0
    exact lt_then (Int.ofNat_lt.2 h) (bind_eq (getI_lt h) (bind_eq (getI_lt h2) goE))
  · unfold F151.b0
    exact lt_else (Int.le_refl _) rfl

theorem s_sameTx (xs ys : List D121) (hl : L63 xs.length) : F107 ((xs, ()), ((ys, ()), ())) = some (B1 (sameT txEq xs ys)) := by
  unfold F107
  refine same_loop hl (fun i h h2 => ?_) ?_
  · unfold F107.b0 txEq
    exact lt_then (Int.ofNat_lt.2 h) (bind_eq (getI_lt h) (bind_eq (getI_lt h2) goE))
  · unfold F107.b0
    exact lt_else (Int.le_refl _) rfl

theorem s_sameV (xs ys : List D167) (hl : L63 xs.length) : F108 ((xs, ()), ((ys, ()), ())) = some (B1 (sameT valEq xs ys)) := by
  unfold F108
  refine same_loop hl (fun i h h2 => ?_) ?_
  · unfold F108.b0 valEq
    exact lt_then (Int.ofNat_lt.2 h) (bind_eq (getI_lt h) (bind_eq (getI_lt h2) goE))
  · unfold F108.b0
    exact lt_else (Int.le_refl _) rfl

theorem i_eqS (xs ys : List D9) (hl : L63 xs.length) : F167 ((xs, ()), ((ys, ()), ())) = some (B1 (sameT (fun x y => sEq x.1 y.1) xs ys)) := by
  unfold F167
  refine same_loop hl (fun i h h2 => ?_) ?_
  · unfold F167.b0
    exact lt_then (Int.ofNat_lt.2 h) (bind_eq (getI_lt h) (bind_eq (getI_lt h2) goE))
  · unfold F167.b0
    exact lt_else (Int.le_refl _) rfl

theorem i_eqI (xs ys : List D3) (hl : L63 xs.length) : F168 ((xs, ()), ((ys, ()), ())) = some (B1 (sameT (fun x y => iEq x.1 y.1) xs ys)) := by
  unfold F168
  refine same_loop hl (fun i h h2 => ?_) ?_
  · unfold F168.b0
    exact lt_then (Int.ofNat_lt.2 h) (bind_eq (getI_lt h) (bind_eq (getI_lt h2) goE))
  · unfold F168.b0
    exact lt_else (Int.le_refl _) rfl

theorem i_eqTx (xs ys : List D121) (hl : L63 xs.length) : F133 ((xs, ()), ((ys, ()), ())) = some (B1 (sameT txEq xs ys)) := by
  unfold F133
  refine same_loop hl (fun i h h2 => ?_) ?_
  · unfold F133.b0 txEq
    exact lt_then (Int.ofNat_lt.2 h) (bind_eq (getI_lt h) (bind_eq (getI_lt h2) goE))
  · unfold F133.b0
    exact lt_else (Int.le_refl _) rfl

theorem i_eqV (xs ys : List D167) (hl : L63 xs.length) : F134 ((xs, ()), ((ys, ()), ())) = some (B1 (sameT valEq xs ys)) := by
  unfold F134
  refine same_loop hl (fun i h h2 => ?_) ?_
  · unfold F134.b0 valEq
    exact lt_then (Int.ofNat_lt.2 h) (bind_eq (getI_lt h) (bind_eq (getI_lt h2) goE))
  · unfold F134.b0
    exact lt_else (Int.le_refl _) rfl

theorem s_sameQc (a b : DQc) (h : QOk a) : F105 (a, (b, ())) = some (B1 (sameQcB a b)) := andY (andY (bind_eq (s_sameT _ _ h.1) rfl))
theorem s_sameTc (a b : DTc) (h : TOk a) : F106 (a, (b, ())) = some (B1 (sameTcB a b)) := by
  unfold F106 sameTcB
  refine andN (bind_eq (s_sameT _ _ h.1.1) (andN ?_))
  refine same_loop h.2 (fun i h h2 => ?_) ?_
  · unfold F106.b0
    exact lt_then (Int.ofNat_lt.2 h) (bind_eq (getI_lt h) (bind_eq (getI_lt h2) goE))
  · unfold F106.b0
    exact lt_else (Int.le_refl _) rfl
theorem s_sameBlk (a b : DBk) (h : BOk a) : F59 (a, (b, ())) = some (B1 (sameBlkB a b)) := by
  unfold F59 sameBlkB
  exact andY (andY (andY (andY (bind_eq (s_sameQc (bQc a) (bQc b) h.qc) (andY (bind_eq (s_sameTc (bTc a) (bTc b) h.tc) (andY (bind_eq (s_sameTx _ _ h.txs.1) (andY (andY (bind_eq (s_sameV _ _ h.next.1) and_yes)))))))))))

theorem i_sameQc (a b : DQc) (h : QOk a) : F131 (a, (b, ())) = some (B1 (sameQcB a b)) := andY (andY (bind_eq (i_eqS _ _ h.1) rfl))
theorem i_sameTc (a b : DTc) (h : TOk a) : F132 (a, (b, ())) = some (B1 (sameTcB a b)) := andY (bind_eq (i_eqS _ _ h.1.1) (andY (bind_eq (i_eqI _ _ h.2) rfl)))
theorem i_sameBlk (a b : DBk) (h : BOk a) : F79 (a, (b, ())) = some (B1 (sameBlkB a b)) := by
  unfold F79
  refine (andN (andN (andN (andN (andN (b := bEq (bEnd a) (bEnd b)) (andN (b := sEq (bRoot a) (bRoot b)) (bind_eq (i_sameQc (bQc a) (bQc b) h.qc) (andY (bind_eq (i_sameTc (bTc a) (bTc b) h.tc) (andY (bind_eq (i_eqTx _ _ h.txs.1) (andY (bind_eq (i_eqV _ _ h.next.1) rfl))))))))))))).trans ?_
  unfold sameBlkB
  generalize iEq a.1 b.1 = p1
  generalize iEq a.2.1 b.2.1 = p2
  generalize iEq a.2.2.1 b.2.2.1 = p3
  generalize sEq a.2.2.2.1 b.2.2.2.1 = p4
  generalize bEq (bEnd a) (bEnd b) = p5
  generalize sEq (bRoot a) (bRoot b) = p6
  generalize sameQcB (bQc a) (bQc b) = p7
  generalize sameTcB (bTc a) (bTc b) = p8
  generalize sameT txEq (bTxs a) (bTxs b) = p9
  generalize sameT valEq (bNext a) (bNext b) = p10
  refine congrArg (fun z => some (B1 z)) ?_
  simp only [Bool.and_comm, Bool.and_left_comm, Bool.and_assoc]

def txLessB (a b : D121) : Bool := bif !sEq a.2.1 b.2.1 then sLt a.2.1 b.2.1 else bif !iEq a.2.2.2.2.1 b.2.2.2.2.1 then iLt a.2.2.2.2.1 b.2.2.2.2.1 else bif !iEq a.1 b.1 then iLt a.1 b.1 else bif !sEq a.2.2.1 b.2.2.1 then sLt a.2.2.1 b.2.2.1 else iLt a.2.2.2.1 b.2.2.2.1
/-- -1, 0 or 1. -/
def cmp3 (lt eq : Bool) : Int := bif eq then 0 else bif lt then -1 else 1
theorem sLt_eq {a b : ByteArray} (h : sEq a b = true) : sLt a b = false := by
  unfold sEq at h
  have : a.toList = b.toList := by simpa using h
  unfold sLt
  rw [this]
  exact bytesLess_self _
theorem iLt_eq {a b : Int} (h : iEq a b = true) : iLt a b = false := by
  have : a = b := by simpa [iEq] using h
  rw [this]
  exact iLt_false (Int.le_refl _)
def cmpTx (a b : D121) : Int := 
  bif !sEq a.2.1 b.2.1 then cmp3 (sLt a.2.1 b.2.1) false else bif !iEq a.2.2.2.2.1 b.2.2.2.2.1 then cmp3 (iLt a.2.2.2.2.1 b.2.2.2.2.1) false else bif !iEq a.1 b.1 then cmp3 (iLt a.1 b.1) false else bif !sEq a.2.2.1 b.2.2.1 then cmp3 (sLt a.2.2.1 b.2.2.1) false else cmp3 (iLt a.2.2.2.1 b.2.2.2.1) (iEq a.2.2.2.1 b.2.2.2.1)
theorem cmpTx_lt (a b : D121) : iLt (cmpTx a b) 0 = txLessB a b := by
  unfold cmpTx txLessB cmp3
  cases sEq a.2.1 b.2.1 <;> cases iEq a.2.2.2.2.1 b.2.2.2.2.1 <;> cases iEq a.1 b.1 <;> cases sEq a.2.2.1 b.2.2.1 <;> cases h : iEq a.2.2.2.1 b.2.2.2.1 <;> first
    | (cases sLt a.2.1 b.2.1 <;> rfl)
    | (cases iLt a.2.2.2.2.1 b.2.2.2.2.1 <;> rfl)
    | (cases iLt a.1 b.1 <;> rfl)
    | (cases sLt a.2.2.1 b.2.2.1 <;> rfl)
    | (cases iLt a.2.2.2.1 b.2.2.2.1 <;> rfl)
    | (rw [iLt_eq h]; rfl)

theorem s_txLess (a b : D121) : F152 (a, (b, ())) = some (B1 (txLessB a b)) := by
  unfold F152 txLessB
  dsimp only
  cases sEq a.2.1 b.2.1 <;> cases iEq a.2.2.2.2.1 b.2.2.2.2.1 <;> cases iEq a.1 b.1 <;> cases sEq a.2.2.1 b.2.2.1 <;> rfl

theorem i_cmpS (a b : ByteArray) : F178 ((a, ()), ((b, ()), ())) = some (I1 (cmp3 (sLt a b) (sEq a b))) := by
  have hn : ∀ c : ByteArray, F183 ((c, ()), ()) = some (B1 false) := fun c => by
    unfold F183
    dsimp only
    rw [sEq_self]; rfl
  unfold F178 cmp3
  refine bind_eq (hn a) (bind_eq (hn b) ?_)
  dsimp only
  cases h : sEq a b with
  | true => rw [sLt_eq h]; rfl
  | false => cases sLt a b <;> rfl
theorem i_cmpI (a b : Int) : F179 ((a, ()), ((b, ()), ())) = some (I1 (cmp3 (iLt a b) (iEq a b))) := by
  have hn : ∀ c : Int, F184 ((c, ()), ()) = some (B1 false) := fun c => by
    unfold F184
    dsimp only
    rw [iEq_self]; rfl
  unfold F179 cmp3
  refine bind_eq (hn a) (bind_eq (hn b) ?_)
  dsimp only
  cases h : iEq a b with
  | true =>
    rw [iLt_eq h]
    have : iLt b a = false := by have e : a = b := by simpa [iEq] using h
                                 rw [e]; exact iLt_false (Int.le_refl _)
    rw [this]; rfl
  | false =>
    cases h2 : iLt a b with
    | true => rfl
    | false =>
      have : iLt b a = true := by simp [iEq, iLt] at h h2 ⊢; omega
      rw [this]; rfl
theorem i_orI (l : List D3) (hl : L63 l.length) : F177 ((l, ()), ()) = some (match l.find? (fun x => !iEq x.1 0) with | some x => (x, ()) | none => I1 0) := by
  have lp := loopFindV (S := Int × Unit) l (fun x => !iEq x.1 0) (f := F177.b0 ((l, ()), ())) (fun k => (k, ())) (Sum.inl ((l.length : Int), ())) (fun x => Sum.inr (x, ())) (fun i hi => ?_) ?_
  · unfold F177
    refine bind_eq lp ?_
    cases l.find? (fun x => !iEq x.1 0) <;> rfl
  · unfold F177.b0
    refine lt_then (Int.ofNat_lt.2 hi) (bind_eq (getI_lt hi) ?_)
    rw [← nxt hi hl]
  · unfold F177.b0
    exact lt_else (Int.le_refl _) rfl
theorem or_step {v : Int} {lt eq : Bool} {r : List (Int × Unit)} (h : eq = true → lt = false) : (match ((cmp3 lt eq, ()) :: r).find? (fun x => !iEq x.1 0) with | some x => ((x, ()) : (Int × Unit) × Unit) | none => I1 0) = bif !eq then I1 (cmp3 lt false) else (match r.find? (fun x => !iEq x.1 0) with | some x => (x, ()) | none => I1 0) := by
  cases eq with
  | true => rw [List.find?_cons_of_neg (by exact Bool.false_ne_true)]; rfl
  | false => cases lt <;> (rw [List.find?_cons_of_pos (by decide)]; rfl)
theorem i_cmpTx (a b : D121) : F161 (a, (b, ())) = some (I1 (cmpTx a b)) := by
  unfold F161
  refine bind_eq (i_cmpS _ _) (bind_eq (i_cmpI _ _) (bind_eq (i_cmpI _ _) (bind_eq (i_cmpS _ _) (bind_eq (i_cmpI _ _) (bind_eq (i_orI _ (show (5:Nat) ≤ 9223372036854775807 by decide)) ?_)))))
  refine congrArg some ?_
  refine Eq.trans (b := (match ([(cmp3 (sLt a.2.1 b.2.1) (sEq a.2.1 b.2.1), ()), (cmp3 (iLt a.2.2.2.2.1 b.2.2.2.2.1) (iEq a.2.2.2.2.1 b.2.2.2.2.1), ()), (cmp3 (iLt a.1 b.1) (iEq a.1 b.1), ()), (cmp3 (sLt a.2.2.1 b.2.2.1) (sEq a.2.2.1 b.2.2.1), ()), (cmp3 (iLt a.2.2.2.1 b.2.2.2.1) (iEq a.2.2.2.1 b.2.2.2.1), ())] : List (Int × Unit)).find? (fun x => !iEq x.1 0) with | some x => ((x, ()) : (Int × Unit) × Unit) | none => I1 0)) rfl ?_
  rw [or_step (v := 0) sLt_eq, or_step (v := 0) iLt_eq, or_step (v := 0) iLt_eq, or_step (v := 0) sLt_eq, or_step (v := 0) iLt_eq]
  unfold cmpTx
  cases sEq a.2.1 b.2.1 <;> cases iEq a.2.2.2.2.1 b.2.2.2.2.1 <;> cases iEq a.1 b.1 <;> cases sEq a.2.2.1 b.2.2.1 <;> cases iEq a.2.2.2.1 b.2.2.2.1 <;> rfl

theorem i_txLess (a b : D121) : F127 (a, (b, ())) = some (B1 (txLessB a b)) := by
  unfold F127
  refine bind_eq (i_cmpTx a b) ?_
  rw [← cmpTx_lt]

def poolP (xs : List D121) (i : Nat) (y : D121) : Bool := txB y && behind txLessB xs i y
def poolB (xs : List D121) : Bool := allI (poolP xs) 0 xs && iLe (xs.length : Int) 20

theorem s_pool (xs : List D121) (hx : (Ty.sl e121).Ok xs) : F109 ((xs, ()), ()) = some (B1 (poolB xs)) := by
  have hl : L63 xs.length := hx.1
  have lp := loopAll (S := Int × Unit) xs (poolP xs) (f := F109.b0 ((xs, ()), ())) (fun k => (k, ())) (Sum.inl ((xs.length : Int), ())) (Sum.inr (B1 false)) (fun i hi => ?_) ?_
  · unfold F109 poolB
    refine bind_eq lp ?_
    cases allI (poolP xs) 0 xs <;> rfl
  · unfold F109.b0 poolP
    refine lt_then (Int.ofNat_lt.2 hi) (bind_eq (getI_lt hi) (bind_eq (s_tx _ (XOk_mem hx (List.getElem_mem hi))) (goN ?_)))
    rw [← nxt hi hl]
    exact asc_step hi hl (fun z => bind_eq (getI_lt hi) (bind_eq (s_txLess _ _) goE))
  · unfold F109.b0
    exact lt_else (Int.le_refl _) rfl

theorem i_pool (xs : List D121) (hx : (Ty.sl e121).Ok xs) : F74 ((xs, ()), ()) = some (B1 (poolB xs)) := by
  have hl : L63 xs.length := hx.1
  have lp := loopAll (S := Int × Unit) xs (poolP xs) (f := F74.b0 ((xs, ()), ())) (fun k => (k, ())) (Sum.inl ((xs.length : Int), ())) (Sum.inr (B1 false)) (fun i hi => ?_) ?_
  · unfold F74 poolB
    refine bind_eq lp ?_
    cases allI (poolP xs) 0 xs <;> rfl
  · unfold F74.b0 poolP
    refine lt_then (Int.ofNat_lt.2 hi) (bind_eq (getI_lt hi) (bind_eq (i_tx _ (XOk_mem hx (List.getElem_mem hi))) (goN ?_)))
    rw [← nxt hi hl]
    exact asc_step hi hl (fun z => bind_eq (i_txLess _ _) goE)
  · unfold F74.b0
    exact lt_else (Int.le_refl _) rfl

def headEp (l : List DBk) : Int := match l with
  | b :: _ => b.2.1
  | [] => 0
theorem head_get {l : List DBk} {i : Nat} (h : i < l.length) : ∃ b, getI l 0 = some b ∧ b.2.1 = headEp l := by
  cases l with
  | nil => simp at h
  | cons b r => exact ⟨b, rfl, rfl⟩
/-- The block that it comes behind is among these, of the round that is told. -/
def parentB (pre : List DBk) (b : DBk) : Bool := match pre.find? (fun z => iEq z.1 (bQc b).2.1) with
  | some z => iEq z.2.2.1 (bQc b).1
  | none => false
def treeQ (l : List DBk) (i : Nat) (b : DBk) : Bool := blockB b && (iEq b.2.1 (headEp l) && behind (fun z y => iLt z.1 y.1) l i b)
def treeB (l : List DBk) : Bool := allI (fun i b => treeQ l i b && (rootB (bQc b) || parentB (l.take i) b)) 0 l && iLe (l.length : Int) 400
theorem noRoot_lt {b : DBk} (h : blockB b = true) (hr : rootB (bQc b) = false) : 0 ≤ (bQc b).2.1 ∧ (bQc b).2.1 < b.1 := by
  unfold blockB qcF at h
  simp only [Bool.and_eq_true] at h
  have h1 : inR b.1 0 100000 = true := h.1
  have h2 := h.2.2.2.2.1
  rw [hr, Bool.false_or] at h2
  simp only [Bool.and_eq_true] at h2
  have h3 : 0 ≤ b.1 ∧ b.1 ≤ 100000 := by simpa [inR, iLe] using h1
  have h4 : 0 ≤ (bQc b).2.1 ∧ (bQc b).2.1 ≤ iSub .i64 b.1 1 := by simpa [inR, iLe] using h2.2.1
  rw [iSub_small (by omega) (by omega)] at h4
  omega
theorem tree_whole (l : List DBk) : allI (fun i b => treeQ l i b && (rootB (bQc b) || parentB (l.take i) b)) 0 l = allI (fun i b => treeQ l i b && (rootB (bQc b) || parentB l b)) 0 l := by
  rw [allI_and, allI_and]
  cases hq : allI (fun i b => treeQ l i b) 0 l with
  | false => rfl
  | true =>
    rw [Bool.true_and, Bool.true_and]
    have hq := fun i hi => by have := allI_get hq i hi; rw [Nat.zero_add] at this; unfold treeQ at this; simp only [Bool.and_eq_true] at this; exact this
    refine allI_congr (fun i b hb => ?_)
    obtain ⟨hi, rfl⟩ := List.getElem?_eq_some_iff.1 hb
    rw [Nat.zero_add]
    cases hr : rootB (bQc l[i]) with
    | true => rfl
    | false =>
      rw [Bool.false_or, Bool.false_or]
      have hlt := noRoot_lt (hq i hi).1 hr
      have hd : (l.drop i).find? (fun z => iEq z.1 (bQc l[i]).2.1) = none := by
        rw [List.find?_eq_none]
        intro z hz
        obtain ⟨k, hk, rfl⟩ := List.getElem_of_mem hz
        rw [List.length_drop] at hk
        have := asc_le (f := fun b : DBk => b.1) (l := l) (fun j hj => (hq j hj).2.2) k i (by omega)
        rw [List.getElem_drop]
        have this : l[i].1 ≤ l[i + k].1 := this
        simp only [iEq, decide_eq_true_eq]
        omega
      unfold parentB
      have : l.find? (fun z => iEq z.1 (bQc l[i]).2.1) = (l.take i).find? (fun z => iEq z.1 (bQc l[i]).2.1) := by
        generalize (bQc l[i]).2.1 = id at hd ⊢
        have e := List.find?_append (p := fun z : DBk => iEq z.1 id) (xs := l.take i) (ys := l.drop i)
        rw [List.take_append_drop, hd] at e
        rw [e]
        cases (l.take i).find? (fun z => iEq z.1 id) <;> rfl
      rw [this]

/-- The place of a block. -/
def blkAt (l : List DBk) (id : Int) : Int := idxOf l (fun b => iEq b.1 id)
theorem s_blkAt (l : List DBk) (id : Int) (hl : L63 l.length) : F153 ((l, ()), ((id, ()), ())) = some (I1 (blkAt l id)) := by
  have lp := loopIdx (S := Int × Unit) l (fun b => iEq b.1 id) (f := F153.b0 ((l, ()), ((id, ()), ()))) (fun k => (k, ())) (Sum.inl ((l.length : Int), ())) (fun i => Sum.inr (I1 i)) (fun i hi => ?_) ?_
  · unfold F153 blkAt
    refine bind_eq lp ?_
    rcases idxOf_cases l (fun b => iEq b.1 id) with ⟨h1, _, h3⟩ | ⟨j, hj, _, _, h1, _, h3⟩ <;> rw [h1, h3] <;> rfl
  · unfold F153.b0
    refine lt_then (Int.ofNat_lt.2 hi) (bind_eq (getI_lt hi) ?_)
    rw [← nxt hi hl]
  · unfold F153.b0
    exact lt_else (Int.le_refl _) rfl

theorem s_tree (l : List DBk) (h : (Ty.sl e62).Ok l) : F110 ((l, ()), ()) = some (B1 (treeB l)) := by
  have hl : L63 l.length := h.1
  have lp := loopAll (S := Int × Unit) l (fun i b => treeQ l i b && (rootB (bQc b) || parentB (l.take i) b)) (f := F110.b0 ((l, ()), ())) (fun k => (k, ())) (Sum.inl ((l.length : Int), ())) (Sum.inr (B1 false)) (fun i hi => ?_) ?_
  · unfold F110 treeB
    refine bind_eq lp ?_
    cases allI (fun i b => treeQ l i b && (rootB (bQc b) || parentB (l.take i) b)) 0 l <;> rfl
  · unfold F110.b0 treeQ
    have hb : BOk l[i] := Ok_mem h.2 (List.getElem_mem hi)
    obtain ⟨b0, hb0, he0⟩ := head_get hi
    refine lt_then (Int.ofNat_lt.2 hi) (bind_eq (getI_lt hi) (join_go (bind_eq (s_blk _ hb) (goN (bind_eq hb0 ?_))) (bind_eq (s_root (bQc l[i])) ?_)))
    · rw [← he0]
      refine goN (asc_step hi hl (fun z => le_ite))
    · rw [← nxt hi hl]
      dsimp only
      cases rootB (bQc l[i]) with
      | true => rfl
      | false =>
        refine cut_hi (by omega) ?_
        rw [take_nat]
        refine bind_eq (s_blkAt _ _ (by rw [List.length_take]; omega)) ?_
        unfold blkAt parentB
        rcases idxOf_cases (l.take i) (fun z => iEq z.1 (bQc l[i]).2.1) with ⟨_, h2, h3⟩ | ⟨j, hj, _, _, _, h2, h3⟩
        · rw [h2, show idxOf (l.take i) (fun b => iEq b.1 l[i].2.2.2.2.2.1) = -1 from h3]; rfl
        · rw [h2, show idxOf (l.take i) (fun b => iEq b.1 l[i].2.2.2.2.2.1) = (j : Int) from h3]
          have hj2 : j < l.length := by rw [List.length_take] at hj; omega
          rw [List.getElem_take]
          exact pos_else (Int.natCast_nonneg j) (bind_eq (getI_lt hj2) goE)
  · unfold F110.b0
    exact lt_else (Int.le_refl _) rfl

theorem i_blkAt (l : List DBk) (id : Int) (hl : L63 l.length) : F130 ((l, ()), ((id, ()), ())) = some (I1 (blkAt l id)) := by
  unfold F130 blkAt
  exact bind_eq (idxFunc_blk l _ (fun b => iEq b.1 id) (fun x => rfl) hl) rfl

theorem i_tree (l : List DBk) (h : (Ty.sl e62).Ok l) : F77 ((l, ()), ()) = some (B1 (treeB l)) := by
  have hl : L63 l.length := h.1
  have lp := loopAll (S := Int × Unit) l (fun i b => treeQ l i b && (rootB (bQc b) || parentB l b)) (f := F77.b0 ((l, ()), ())) (fun k => (k, ())) (Sum.inl ((l.length : Int), ())) (Sum.inr (B1 false)) (fun i hi => ?_) ?_
  · unfold F77 treeB
    refine bind_eq lp ?_
    rw [tree_whole]
    cases allI (fun i b => treeQ l i b && (rootB (bQc b) || parentB l b)) 0 l <;> rfl
  · unfold F77.b0 treeQ
    have hb : BOk l[i] := Ok_mem h.2 (List.getElem_mem hi)
    obtain ⟨b0, hb0, he0⟩ := head_get hi
    refine lt_then (Int.ofNat_lt.2 hi) (bind_eq (getI_lt hi) (join_go (bind_eq (i_blk _ hb) (goN (bind_eq hb0 ?_))) (bind_eq (i_root (bQc l[i])) ?_)))
    · rw [← he0]
      refine goN (asc_step hi hl (fun z => le_ite))
    · rw [← nxt hi hl]
      dsimp only
      cases rootB (bQc l[i]) with
      | true => rfl
      | false =>
        refine bind_eq (i_blkAt _ _ hl) ?_
        unfold blkAt parentB
        rcases idxOf_cases l (fun z => iEq z.1 (bQc l[i]).2.1) with ⟨_, h2, h3⟩ | ⟨j, hj, _, _, _, h2, h3⟩
        · rw [h2, show idxOf l (fun b => iEq b.1 l[i].2.2.2.2.2.1) = -1 from h3]; rfl
        · rw [h2, show idxOf l (fun b => iEq b.1 l[i].2.2.2.2.2.1) = (j : Int) from h3]
          exact pos_else (Int.natCast_nonneg j) (bind_eq (getI_lt hj) goE)
  · unfold F77.b0
    exact lt_else (Int.le_refl _) rfl

abbrev nBase (n : DNd) : DLe := (n.2.2.1, (n.2.2.2.1, ()))
abbrev nSet (n : DNd) : List D167 := n.2.2.2.2.1
abbrev nTree (n : DNd) : List DBk := n.2.2.2.2.2.1
abbrev nRound (n : DNd) : Int := n.2.2.2.2.2.2.1
abbrev nVoted (n : DNd) : Int := n.2.2.2.2.2.2.2.1
def nHigh (n : DNd) : DQc := (n.2.2.2.2.2.2.2.2.1, (n.2.2.2.2.2.2.2.2.2.1, (n.2.2.2.2.2.2.2.2.2.2.1, ())))
def nTc (n : DNd) : DTc := (n.2.2.2.2.2.2.2.2.2.2.2.1, (n.2.2.2.2.2.2.2.2.2.2.2.2.1, (n.2.2.2.2.2.2.2.2.2.2.2.2.2.1, ())))
abbrev nLed (n : DNd) : Int := n.2.2.2.2.2.2.2.2.2.2.2.2.2.2.1
abbrev nVotes (n : DNd) : List D66 := n.2.2.2.2.2.2.2.2.2.2.2.2.2.2.2.1
abbrev nGones (n : DNd) : List D68 := n.2.2.2.2.2.2.2.2.2.2.2.2.2.2.2.2.1
abbrev nDone (n : DNd) : List D3 := n.2.2.2.2.2.2.2.2.2.2.2.2.2.2.2.2.2.1
abbrev nPool (n : DNd) : List D121 := n.2.2.2.2.2.2.2.2.2.2.2.2.2.2.2.2.2.2.1
abbrev NOk (n : DNd) : Prop := e83.Ok n
theorem NOk.base {n : DNd} (h : NOk n) : (Ty.sl e164).Ok (nBase n).2.1 := h.2.2.2.1
theorem NOk.set {n : DNd} (h : NOk n) : (Ty.sl e167).Ok (nSet n) := h.2.2.2.2.1
theorem NOk.tree {n : DNd} (h : NOk n) : (Ty.sl e62).Ok (nTree n) := h.2.2.2.2.2.1
theorem NOk.high {n : DNd} (h : NOk n) : QOk (nHigh n) := h.2.2.2.2.2.2.2.2.2.2.1
theorem NOk.tcs {n : DNd} (h : NOk n) : TOk (nTc n) := ⟨h.2.2.2.2.2.2.2.2.2.2.2.2.1, h.2.2.2.2.2.2.2.2.2.2.2.2.2.1.1⟩
theorem NOk.pool {n : DNd} (h : NOk n) : (Ty.sl e121).Ok (nPool n) := h.2.2.2.2.2.2.2.2.2.2.2.2.2.2.2.2.2.2.1
def headB (l : List DBk) (ep : Int) : Bool := match l with
  | b :: _ => iEq b.2.1 ep
  | [] => true
def nodeB (n : DNd) : Bool := nameB n.1 && (ledgerB (nBase n) && (iEq (nBase n).1 n.2.1 && (poolB (nPool n) && ((!iLt 0 (List.length (nSet n) : Int) || setB (nSet n)) && (treeB (nTree n) && (headB (nTree n) n.2.1 && (inR (nRound n) 1 10000 && (iLt (nHigh n).1 (nRound n) && (iLt (nTc n).1 (nRound n) && (inR (nVoted n) 0 10000 && (inR (nLed n) 0 10000 && (qcB (nSet n) (nHigh n) && (tcB (nSet n) (nTc n) && (iLe (List.length (nVotes n) : Int) 1000 && (iLe (List.length (nGones n) : Int) 1000 && (iLe (List.length (nDone n) : Int) 200 && iLe (List.length (nPast n) : Int) 200))))))))))))))))
theorem head_go {l : List DBk} {ep : Int} {R : Type} {g x : Option R} : (bif iLt 0 (l.length : Int) then (getI l 0).bind (fun b => bif !iEq b.2.1 ep then x else g) else g) = bif headB l ep then g else x := by
  cases l with
  | nil => rfl
  | cons b r => exact (lt_then (by simp) (bind_eq rfl goE))

theorem s_node (n : DNd) (h : NOk n) : F60 (n, ()) = some (B1 (nodeB n)) := by
  unfold F60 nodeB
  have hT : ∀ R (g x : Option R), ((F110 ((nTree n, ()), ())).bind fun y => bif !y.1.1 then x else (bif iLt 0 (List.length (nTree n) : Int) then (getI (nTree n) 0).bind (fun b => bif !iEq b.2.1 n.2.1 then x else g) else g)) = bif (treeB (nTree n) && headB (nTree n) n.2.1) then g else x := fun R g x => bind_eq (s_tree _ h.tree) (goN head_go)
  refine (join_and (b := nameB n.1 && (ledgerB (nBase n) && (iEq (nBase n).1 n.2.1 && (poolB (nPool n) && ((!iLt 0 (List.length (nSet n) : Int) || setB (nSet n)) && (treeB (nTree n) && headB (nTree n) n.2.1)))))) (bind_eq (s_name _ h.1) (goN (bind_eq (s_ledger (nBase n) h.base) (goN (goN (bind_eq (s_pool _ h.pool) (goN ?_))))))) (bind_eq (s_in _ _ _) (andY (andY (b := iLt (nHigh n).1 (nRound n)) (andY (b := iLt (nTc n).1 (nRound n)) (bind_eq (s_in _ _ _) (andY (bind_eq (s_in _ _ _) (andY (bind_eq (s_qc _ (nHigh n) h.set.1 h.high) (andY (bind_eq (s_tc _ (nTc n) h.set.1 h.tcs) (andY (andY (b := iLe (List.length (nVotes n) : Int) 1000) (andY (b := iLe (List.length (nGones n) : Int) 1000) (and_yes (b := iLe (List.length (nDone n) : Int) 200) (c := iLe (List.length (nPast n) : Int) 200))))))))))))))))).trans ?_
  · refine Eq.trans ?_ (goDup (c := iLt 0 (List.length (nSet n) : Int)) (s := setB (nSet n)) (hT _ _ _))
    cases iLt 0 (List.length (nSet n) : Int) with
    | false => rfl
    | true => exact (congrArg (fun o => Option.bind o _) (s_set _ h.set)).trans rfl
  · simp only [Bool.and_assoc]

theorem i_node (n : DNd) (h : NOk n) : F31 (n, ()) = some (B1 (nodeB n)) := by
  unfold F31
  refine (join_and (b := nameB n.1 && (ledgerB (nBase n) && (iEq (nBase n).1 n.2.1 && ((!iLt 0 (List.length (nSet n) : Int) || setB (nSet n)) && poolB (nPool n))))) (bind_eq (i_name _ h.1) (goN (bind_eq (i_ledger (nBase n) h.base) (goN (goN ?_))))) (bind_eq (i_in _ _ _) (andN (bind_eq (i_in _ _ _) (andN (bind_eq (i_in _ _ _) (andN (bind_eq (i_qc _ (nHigh n) h.set.1 h.high) (andN (bind_eq (i_tc _ (nTc n) h.set.1 h.tcs) (andN (noT (b := iLe (nRound n) (nHigh n).1) (noT (b := iLe (nRound n) (nTc n).1) (noT (b := iLt 1000 (List.length (nVotes n) : Int)) (noT (b := iLt 1000 (List.length (nGones n) : Int)) (noT (b := iLt 200 (List.length (nDone n) : Int)) (noT (b := iLt 200 (List.length (nPast n) : Int)) (bind_eq (i_tree _ h.tree) (andY (c := headB (nTree n) n.2.1) ?_))))))))))))))))))).trans ?_
  · refine Eq.trans ?_ (goDup (c := iLt 0 (List.length (nSet n) : Int)) (s := setB (nSet n)) (K := (F74 ((nPool n, ()), ())).bind fun y => bif !y.1.1 then some (.inr (B1 false)) else some (.inl ())) (bind_eq (i_pool _ h.pool) goE))
    cases iLt 0 (List.length (nSet n) : Int) with
    | false => rfl
    | true => exact (congrArg (fun o => Option.bind o _) (i_set _ h.set)).trans rfl
  · cases hq : nTree n with
    | nil =>
      have : n.2.2.2.2.2.1 = ([] : List DBk) := hq
      dsimp only
      rw [this]; rfl
    | cons b r =>
      have : n.2.2.2.2.2.1 = b :: r := hq
      dsimp only
      rw [this]
      have e : iEq ((List.length (b :: r) : Nat) : Int) 0 = false := by simp [iEq]; omega
      rw [e]; rfl
  · unfold nodeB
    have e : ∀ a b : Int, (!iLe a b) = iLt b a := fun a b => by rw [iLe_lt, Bool.not_not]
    have e2 : ∀ a b : Int, (!iLt a b) = iLe b a := fun a b => (iLe_lt).symm
    rw [e, e, e2 1000, e2 1000, e2 200, e2 200]
    refine congrArg (fun z => some (B1 z)) ?_
    generalize nameB n.1 = p1
    generalize ledgerB (nBase n) = p2
    generalize iEq (nBase n).1 n.2.1 = p3
    generalize poolB (nPool n) = p4
    generalize (!iLt 0 (List.length (nSet n) : Int) || setB (nSet n)) = p5
    generalize treeB (nTree n) = p6
    generalize headB (nTree n) n.2.1 = p7
    generalize inR (nRound n) 1 10000 = p8
    generalize iLt (nHigh n).1 (nRound n) = p9
    generalize iLt (nTc n).1 (nRound n) = p10
    generalize inR (nVoted n) 0 10000 = p11
    generalize inR (nLed n) 0 10000 = p12
    generalize qcB (nSet n) (nHigh n) = p13
    generalize tcB (nSet n) (nTc n) = p14
    generalize iLe (List.length (nVotes n) : Int) 1000 = p15
    generalize iLe (List.length (nGones n) : Int) 1000 = p16
    generalize iLe (List.length (nDone n) : Int) 200 = p17
    generalize iLe (List.length (nPast n) : Int) 200 = p18
    simp only [Bool.and_comm, Bool.and_left_comm, Bool.and_assoc]

abbrev DMs : Type := D70
abbrev mBs (m : DMs) : List DBk := m.2.2.2.1
def mQ (m : DMs) : DQc := (m.2.2.2.2.2.2.2.2.2.2.1, (m.2.2.2.2.2.2.2.2.2.2.2.1, (m.2.2.2.2.2.2.2.2.2.2.2.2.1, ())))
def mT (m : DMs) : DTc := (m.2.2.2.2.2.2.2.2.2.2.2.2.2.1, (m.2.2.2.2.2.2.2.2.2.2.2.2.2.2.1, (m.2.2.2.2.2.2.2.2.2.2.2.2.2.2.2.1, ())))
def mV0 (m : DMs) : Bool := (iEq m.2.2.2.2.1 (0:Int)) && ((iEq m.2.2.2.2.2.1 (0:Int)) && (sEq m.2.2.2.2.2.2.1 ⟨#[]⟩))
def mG0 (m : DMs) : Bool := (iEq m.2.2.2.2.2.2.2.1 (0:Int)) && ((iEq m.2.2.2.2.2.2.2.2.1 (0:Int)) && (sEq m.2.2.2.2.2.2.2.2.2.1 ⟨#[]⟩))
def mVF (m : DMs) : Bool := inR m.2.2.2.2.1 1 10000 && (inR m.2.2.2.2.2.1 0 100000 && nameB m.2.2.2.2.2.2.1)
def mGF (m : DMs) : Bool := inR m.2.2.2.2.2.2.2.1 1 10000 && (inR m.2.2.2.2.2.2.2.2.1 0 (iSub .i64 m.2.2.2.2.2.2.2.1 1) && (iEq m.2.2.2.2.2.2.2.2.1 m.2.2.2.2.2.2.2.2.2.2.1 && nameB m.2.2.2.2.2.2.2.2.2.1))
abbrev MOk (m : DMs) : Prop := e70.Ok m
theorem MOk.bs {m : DMs} (h : MOk m) : (Ty.sl e62).Ok (mBs m) := h.2.2.2.1
theorem MOk.q {m : DMs} (h : MOk m) : QOk (mQ m) := h.2.2.2.2.2.2.2.2.2.2.2.2.1
theorem MOk.t {m : DMs} (h : MOk m) : TOk (mT m) := ⟨h.2.2.2.2.2.2.2.2.2.2.2.2.2.2.1, h.2.2.2.2.2.2.2.2.2.2.2.2.2.2.2.1.1⟩
def blksB (l : List DBk) (ep : Int) : Bool := l.all (fun b => blockB b && iEq b.2.1 ep)
def kindB (k : Int) (n : Int) (v0 g0 vf gf r no : Bool) : Bool := bif iEq k 1 then (iEq n 1 && (v0 && (g0 && (r && no)))) else bif iEq k 2 then (iEq n 0 && (vf && (g0 && (r && no)))) else bif iEq k 3 then (iEq n 0 && (v0 && (gf && no))) else bif iEq k 4 then (v0 && g0) else false
def msgB (m : DMs) : Bool := nameB m.2.1 && (inR m.2.2.1 0 900 && (qcF (mQ m) 10000 100000 && (tcF (mT m) 10000 && ((blksB (mBs m) m.2.2.1 && iLe ((mBs m).length : Int) 400) && kindB m.1 ((mBs m).length : Int) (mV0 m) (mG0 m) (mVF m) (mGF m) (rootB (mQ m)) (noneB (mT m))))))
theorem msg_same (k : Int) (n : Nat) (p1 p2 al v0 g0 vf gf r q no t : Bool) :
    (p1 && (p2 && (inR k 1 4 && ((al && (iLe (n : Int) (bif iEq k 1 then 1 else bif iEq k 4 then 400 else 0) && (!iEq k 1 || iEq (n : Int) 1))) && ((bif iEq k 2 then vf else v0) && ((bif iEq k 2 then g0 else bif iEq k 3 then gf else g0) && ((r || ((iEq k 4 || iEq k 3) && (r || q))) && (no || (iEq k 4 && (no || t))))))))))
      = (p1 && (p2 && ((r || q) && ((no || t) && ((al && iLe (n : Int) 400) && kindB k (n : Int) v0 g0 vf gf r no))))) := by
  unfold kindB
  have e1 : ∀ x : Int, iEq x x = true := iEq_self
  by_cases h1 : k = 1
  · subst h1
    have a2 : iEq (1:Int) 2 = false := rfl
    have a3 : iEq (1:Int) 3 = false := rfl
    have a4 : iEq (1:Int) 4 = false := rfl
    have a5 : inR 1 1 4 = true := rfl
    rw [a2, a3, a4, a5, e1]
    by_cases hn : n = 1
    · subst hn
      have b1 : iLe ((1 : Nat) : Int) 1 = true := rfl
      have b2 : iLe ((1 : Nat) : Int) 400 = true := rfl
      have b3 : iEq ((1 : Nat) : Int) 1 = true := rfl
      simp only [cond_true, cond_false]
      rw [b1, b2, b3]
      cases p1 <;> cases p2 <;> cases al <;> cases v0 <;> cases g0 <;> cases r <;> cases q <;> cases no <;> cases t <;> rfl
    · have b3 : iEq (n : Int) 1 = false := by simp [iEq]; omega
      simp only [cond_true, cond_false]
      rw [b3]
      cases p1 <;> cases p2 <;> cases al <;> cases r <;> cases q <;> cases no <;> cases t <;> simp
  · have a1 : iEq k 1 = false := by simp [iEq, h1]
    rw [a1]
    simp only [cond_false]
    have z : ∀ m : Nat, iLe (m : Int) 0 = iEq (m : Int) 0 := fun m => by simp [iLe, iEq]
    by_cases h4 : k = 4
    · subst h4
      have a2 : iEq (4:Int) 2 = false := rfl
      have a3 : iEq (4:Int) 3 = false := rfl
      have a5 : inR 4 1 4 = true := rfl
      rw [a2, a3, a5, e1]
      simp only [cond_true, cond_false]
      cases p1 <;> cases p2 <;> cases al <;> cases v0 <;> cases g0 <;> cases r <;> cases q <;> cases no <;> cases t <;> cases iLe (n : Int) 400 <;> rfl
    · have a4 : iEq k 4 = false := by simp [iEq, h4]
      rw [a4]
      simp only [cond_false]
      rw [z]
      by_cases hn : n = 0
      · subst hn
        have b2 : iLe ((0 : Nat) : Int) 400 = true := rfl
        have b3 : iEq ((0 : Nat) : Int) 0 = true := rfl
        rw [b2, b3]
        by_cases h2 : k = 2
        · subst h2
          have a3 : iEq (2:Int) 3 = false := rfl
          have a5 : inR 2 1 4 = true := rfl
          rw [a3, a5, e1]
          simp only [cond_true, cond_false]
          cases p1 <;> cases p2 <;> cases al <;> cases vf <;> cases g0 <;> cases r <;> cases q <;> cases no <;> cases t <;> rfl
        · have a2 : iEq k 2 = false := by simp [iEq, h2]
          rw [a2]
          simp only [cond_false]
          by_cases h3 : k = 3
          · subst h3
            have a5 : inR 3 1 4 = true := rfl
            rw [a5, e1]
            simp only [cond_true]
            cases p1 <;> cases p2 <;> cases al <;> cases v0 <;> cases gf <;> cases r <;> cases q <;> cases no <;> cases t <;> rfl
          · have a5 : inR k 1 4 = false := by simp [inR, iLe]; omega
            have a3 : iEq k 3 = false := by simp [iEq, h3]
            rw [a5, a3]
            simp
      · have b3 : iEq (n : Int) 0 = false := by simp [iEq]; omega
        rw [b3]
        cases iEq k 2 <;> cases iEq k 3 <;> simp

theorem s_cert (q : DQc) (h : QOk q) : F56 (q, ()) = some (B1 (qcF q 10000 100000)) := by
  unfold F56 qcF
  exact bind_eq (s_root q) (orY (bind_eq (s_in _ _ _) (andY (bind_eq (s_in _ _ _) (andY (bind_eq (s_names _ h) rfl))))))
theorem s_tc13 (t : DTc) (h : TOk t) : F58 (t, ()) = some (B1 (tcF t 10000)) := by
  have lp := loopAllP (S := Int × Unit) t.2.2.1 (fun x => inR x.1 0 (iSub .i64 t.1 1)) (f := F58.b0 (t, ())) (fun k => (k, ())) (Sum.inl ((t.2.2.1.length : Int), ())) (Sum.inr (B1 false)) (fun i hi => ?_) ?_
  · unfold F58 tcF
    refine bind_eq (s_none t) (orY (bind_eq (s_in _ _ _) (andN (bind_eq (s_names _ h.1) (andN (andN ?_))))))
    refine bind_eq lp ?_
    cases t.2.2.1.all (fun x => inR x.1 0 (iSub .i64 t.1 1)) <;> rfl
  · unfold F58.b0
    refine lt_then (Int.ofNat_lt.2 hi) (bind_eq (getI_lt hi) (bind_eq (s_in _ _ _) ?_))
    rw [← nxt hi h.2]
    exact goE
  · unfold F58.b0
    exact lt_else (Int.le_refl _) rfl
theorem s_blks (m : DMs) (h : MOk m) : F54 (m, ()) = some (B1 (blksB (mBs m) m.2.2.1 && (iLe ((mBs m).length : Int) (bif iEq m.1 1 then 1 else bif iEq m.1 4 then 400 else 0) && (!iEq m.1 1 || iEq ((mBs m).length : Int) 1)))) := by
  have hl : L63 (mBs m).length := h.bs.1
  have lp := loopAllP (S := Int × Unit) (mBs m) (fun b => blockB b && iEq b.2.1 m.2.2.1) (f := F54.b0 (m, ())) (fun k => (k, ())) (Sum.inl (((mBs m).length : Int), ())) (Sum.inr (B1 false)) (fun i hi => ?_) ?_
  · unfold F54
    have hJ : (bif iEq m.1 (1:Int) then some (.inl ((1:Int), ())) else bif iEq m.1 (4:Int) then some (.inl ((400:Int), ())) else some (.inl ((0:Int), ())) : Option (Sum (Int × Unit) ((Bool × Unit) × Unit))) = some (.inl ((bif iEq m.1 1 then 1 else bif iEq m.1 4 then 400 else 0), ())) := by cases iEq m.1 1 <;> cases iEq m.1 4 <;> rfl
    refine bind_eq hJ (bind_eq lp ?_)
    unfold blksB
    cases (mBs m).all (fun b => blockB b && iEq b.2.1 m.2.2.1) with
    | false => rfl
    | true =>
      rw [Bool.true_and]
      refine andY ?_
      cases iEq m.1 1 <;> rfl
  · unfold F54.b0
    have hb : BOk (mBs m)[i] := Ok_mem h.bs.2 (List.getElem_mem hi)
    refine lt_then (Int.ofNat_lt.2 hi) (bind_eq (getI_lt hi) (bind_eq (s_blk _ hb) (goN (bind_eq (getI_lt hi) ?_))))
    rw [← nxt hi hl]
    exact goE
  · unfold F54.b0
    exact lt_else (Int.le_refl _) rfl
theorem vY {b c : Bool} {A R : Type} {g : A} {K : Option (Sum (Bool × A) R)} (h : K = some (.inl (c, g))) : (bif b then K else some (.inl (false, g))) = some (.inl (b && c, g)) := by rw [h]; cases b <;> rfl
theorem gY {b c v : Bool} {R : Type} {K : Option (Sum (Bool × (Bool × Unit)) R)} (h : K = some (.inl (v, (c, ())))) : (bif b then K else some (.inl (v, (false, ())))) = some (.inl (v, (b && c, ()))) := by rw [h]; cases b <;> rfl
theorem rootY {r a b c n : Bool} {N C1 C2 : Option ((Bool × Unit) × Unit)} (hN : N = some (B1 n)) (h1 : C1 = some (B1 (c && n))) (h2 : C2 = some (B1 (c && n))) : (bif r then N else bif a then C1 else bif b then C2 else some (B1 false)) = some (B1 ((r || ((a || b) && c)) && n)) := by
  rw [hN, h1, h2]
  cases r <;> cases a <;> cases b <;> rfl
theorem s_msg (m : DMs) (h : MOk m) : F18 (m, ()) = some (B1 (msgB m)) := by
  refine Eq.trans (b := some (B1 (nameB m.2.1 && (inR m.2.2.1 0 900 && (inR m.1 1 4 && ((blksB (mBs m) m.2.2.1 && (iLe ((mBs m).length : Int) (bif iEq m.1 1 then 1 else bif iEq m.1 4 then 400 else 0) && (!iEq m.1 1 || iEq ((mBs m).length : Int) 1))) && ((bif iEq m.1 2 then mVF m else mV0 m) && ((bif iEq m.1 2 then mG0 m else bif iEq m.1 3 then mGF m else mG0 m) && ((rootB (mQ m) || ((iEq m.1 4 || iEq m.1 3) && qcF (mQ m) 10000 100000)) && (noneB (mT m) || (iEq m.1 4 && tcF (mT m) 10000))))))))))) ?_ ?_
  · unfold F18
    have hN : ((F57 (mT m, ())).bind fun y14 => bif y14.1.1 then some ((true, ()), ()) else bif iEq m.1 (4:Int) then (F58 (mT m, ())).bind (fun y15 => some (y15.1, ())) else some ((false, ()), ())) = some (B1 (noneB (mT m) || (iEq m.1 4 && tcF (mT m) 10000))) := bind_eq (s_none _) (orY (andY (bind_eq (s_tc13 _ h.t) rfl)))
    refine bind_eq (s_name _ h.2.1) (andN (bind_eq (s_in _ _ _) (andN (bind_eq (s_in _ _ _) (andN (bind_eq (s_blks m h) (andN ?_)))))))
    refine bind_eq (y := .inl ((bif iEq m.1 2 then mVF m else mV0 m), ((bif iEq m.1 2 then mG0 m else bif iEq m.1 3 then mGF m else mG0 m), ()))) ?_ ?_
    · cases iEq m.1 2 with
      | true => exact bind_eq (s_in _ _ _) (vY (bind_eq (s_in _ _ _) (vY (bind_eq (s_name _ h.2.2.2.2.2.2.1) rfl))))
      | false =>
        cases iEq m.1 3 with
        | true => exact bind_eq (s_in _ _ _) (gY (bind_eq (s_in _ _ _) (gY (gY (bind_eq (s_name _ h.2.2.2.2.2.2.2.2.2.1) rfl)))))
        | false => rfl
    · refine andY (andY (bind_eq (s_root (mQ m)) ?_))
      exact rootY hN (bind_eq (s_cert (mQ m) h.q) (andY hN)) (bind_eq (s_cert (mQ m) h.q) (andY hN))
  · refine congrArg (fun z => some (B1 z)) ?_
    exact msg_same m.1 (mBs m).length (nameB m.2.1) (inR m.2.2.1 0 900) (blksB (mBs m) m.2.2.1) (mV0 m) (mG0 m) (mVF m) (mGF m) (rootB (mQ m)) _ (noneB (mT m)) _

theorem i_blks (l : List DBk) (ep : Int) (h : (Ty.sl e62).Ok l) : F80 ((l, ()), ((ep, ()), ())) = some (B1 (blksB l ep && iLe (l.length : Int) 400)) := by
  have hl : L63 l.length := h.1
  have lp := loopAllP (S := Int × Unit) l (fun b => iEq b.2.1 ep && blockB b) (f := F80.b0 ((l, ()), ((ep, ()), ()))) (fun k => (k, ())) (Sum.inl ((l.length : Int), ())) (Sum.inr (B1 false)) (fun i hi => ?_) ?_
  · unfold F80
    refine bind_eq lp ?_
    have e : l.all (fun b => iEq b.2.1 ep && blockB b) = blksB l ep := by unfold blksB; exact congrArg (List.all l) (funext fun b => Bool.and_comm _ _)
    rw [e]
    cases blksB l ep <;> rfl
  · unfold F80.b0
    have hb : BOk l[i] := Ok_mem h.2 (List.getElem_mem hi)
    refine lt_then (Int.ofNat_lt.2 hi) (bind_eq (getI_lt hi) (goN (bind_eq (i_blk _ hb) ?_)))
    rw [← nxt hi hl]
    exact goE
  · unfold F80.b0
    exact lt_else (Int.le_refl _) rfl
theorem i_vote (v : D66) (h : L63 v.2.2.1.size) : F83 (v, ()) = some (B1 (inR v.1 1 10000 && (inR v.2.1 0 100000 && nameB v.2.2.1))) := bind_eq (i_in _ _ _) (andY (bind_eq (i_in _ _ _) (andY (bind_eq (i_name _ h) rfl))))
theorem i_gone (g : D68) (q : DQc) (h : L63 g.2.2.1.size) : F84 (g, (q, ())) = some (B1 (inR g.1 1 10000 && (inR g.2.1 0 (iSub .i64 g.1 1) && (iEq g.2.1 q.1 && nameB g.2.2.1)))) := bind_eq (i_in _ _ _) (andY (bind_eq (i_in _ _ _) (andY (andY (bind_eq (i_name _ h) rfl)))))
theorem caseY {b x y : Bool} {K L : Option ((Bool × Unit) × Unit)} (h1 : K = some (B1 x)) (h2 : L = some (B1 y)) : (bif b then K else L) = some (B1 (bif b then x else y)) := by rw [h1, h2]; cases b <;> rfl
theorem i_msg (m : DMs) (h : MOk m) : F34 (m, ()) = some (B1 (msgB m)) := by
  unfold F34 msgB kindB
  refine bind_eq (i_name _ h.2.1) (andN (bind_eq (i_in _ _ _) (andN (bind_eq (i_qcf (mQ m) _ _ h.q) (andN (bind_eq (i_tcf (mT m) _ h.t) (andN (bind_eq (i_blks (mBs m) _ h.bs) (andN ?_)))))))))
  refine caseY (andY (andY (andY (bind_eq (i_root (mQ m)) (andY (bind_eq (i_none (mT m)) rfl)))))) (caseY (andY (bind_eq (i_vote (m.2.2.2.2.1, (m.2.2.2.2.2.1, (m.2.2.2.2.2.2.1, ()))) h.2.2.2.2.2.2.1) (andY (andY (bind_eq (i_root (mQ m)) (andY (bind_eq (i_none (mT m)) rfl))))))) (caseY (andY (andY (bind_eq (i_gone (m.2.2.2.2.2.2.2.1, (m.2.2.2.2.2.2.2.2.1, (m.2.2.2.2.2.2.2.2.2.1, ()))) (mQ m) h.2.2.2.2.2.2.2.2.2.1) (andY (bind_eq (i_none (mT m)) rfl))))) (caseY ?_ rfl)))
  exact and_yes

theorem allI_of {A : Type} {p : Nat → A → Bool} : ∀ {k : Nat} {l : List A}, (∀ i (h : i < l.length), p (k + i) l[i] = true) → allI p k l = true
  | _, [], _ => rfl
  | k, x :: r, h => by
    simp only [allI, Bool.and_eq_true]
    refine ⟨h 0 (Nat.zero_lt_succ _), allI_of (fun i hi => ?_)⟩
    have := h (i + 1) (by simpa using hi)
    rw [show k + 1 + i = k + (i + 1) by omega]
    simpa using this
theorem sameT_sp {A : Type} {eq : A → A → Bool} {xs ys : List A} : sameT eq xs ys = true ↔ xs.length = ys.length ∧ ∀ i (h : i < xs.length) (h2 : i < ys.length), eq xs[i] ys[i] = true := by
  unfold sameT
  simp only [Bool.and_eq_true]
  constructor
  · rintro ⟨h1, h2⟩
    have hlen : xs.length = ys.length := by simp [iEq] at h1; omega
    refine ⟨hlen, fun i h h3 => ?_⟩
    have := allI_get h2 i h
    rw [Nat.zero_add, List.getElem?_eq_getElem h3] at this
    exact this
  · rintro ⟨h1, h2⟩
    refine ⟨by rw [h1]; exact iEq_self _, ?_⟩
    refine allI_of (fun i h => ?_)
    rw [Nat.zero_add, List.getElem?_eq_getElem (by omega)]
    exact h2 i h _
theorem sameT_comm {A : Type} {eq : A → A → Bool} (he : ∀ a b, eq a b = eq b a) (xs ys : List A) : sameT eq xs ys = sameT eq ys xs := by
  rw [Bool.eq_iff_iff, sameT_sp, sameT_sp]
  constructor
  · rintro ⟨h1, h2⟩
    exact ⟨h1.symm, fun i h h3 => by rw [he]; exact h2 i h3 h⟩
  · rintro ⟨h1, h2⟩
    exact ⟨h1.symm, fun i h h3 => by rw [he]; exact h2 i h3 h⟩
theorem iEq_comm (a b : Int) : iEq a b = iEq b a := by simp only [iEq]; exact decide_eq_decide.2 eq_comm
theorem txEq_comm (x y : D121) : txEq x y = txEq y x := by
  unfold txEq
  rw [iEq_comm x.1, sEq_comm x.2.1, sEq_comm x.2.2.1, iEq_comm x.2.2.2.1, iEq_comm x.2.2.2.2.1]
theorem valEq_comm (x y : D167) : valEq x y = valEq y x := by
  unfold valEq
  rw [sEq_comm x.1, iEq_comm x.2.1]
theorem strEq_comm (x y : D9) : sEq x.1 y.1 = sEq y.1 x.1 := sEq_comm _ _
theorem intEq_comm (x y : D3) : iEq x.1 y.1 = iEq y.1 x.1 := iEq_comm _ _
theorem sameBlk_comm (a b : DBk) : sameBlkB a b = sameBlkB b a := by
  unfold sameBlkB sameQcB sameTcB
  rw [iEq_comm a.1, iEq_comm a.2.1, iEq_comm a.2.2.1, sEq_comm a.2.2.2.1, iEq_comm (bQc a).1, iEq_comm (bQc a).2.1, sameT_comm (eq := fun x y => sEq x.1 y.1) strEq_comm (bQc a).2.2.1, iEq_comm (bTc a).1, sameT_comm (eq := fun x y => sEq x.1 y.1) strEq_comm (bTc a).2.1, sameT_comm (eq := fun x y => iEq x.1 y.1) intEq_comm (bTc a).2.2.1, sameT_comm txEq_comm (bTxs a), sameT_comm valEq_comm (bNext a), sEq_comm (bRoot a)]
  have e : bEq (bEnd a) (bEnd b) = bEq (bEnd b) (bEnd a) := by cases bEnd a <;> cases bEnd b <;> rfl
  rw [e]

/-- The block is that of those that were made. -/
def realB (bl : List DBk) (b : DBk) : Bool := match getI bl b.1 with
  | some z => sameBlkB z b
  | none => false
theorem getI_in {A : Type} {xs : List A} {k : Int} (h0 : 0 ≤ k) (h : k < (xs.length : Int)) : getI xs k = some (xs[k.toNat]'(by omega)) := by
  have := getI_lt (xs := xs) (i := k.toNat) (by omega)
  rwa [show ((k.toNat : Nat) : Int) = k by omega] at this
theorem getI_out {A : Type} {xs : List A} {k : Int} (h : k < 0 ∨ (xs.length : Int) ≤ k) : getI xs k = none := by
  unfold getI
  rcases h with h | h
  · simp
    intro _
    omega
  · simp
    intro _
    omega

theorem s_real (w : DWo) (l : List DBk) (hl : (Ty.sl e62).Ok l) (hb : (Ty.sl e62).Ok w.2.2.2.2.1) : F20 (w, ((l, ()), ())) = some (B1 (l.all (realB w.2.2.2.2.1))) := by
  have lp := loopAllP (S := Int × Unit) l (realB w.2.2.2.2.1) (f := F20.b0 (w, ((l, ()), ()))) (fun k => (k, ())) (Sum.inl ((l.length : Int), ())) (Sum.inr (B1 false)) (fun i hi => ?_) ?_
  · unfold F20
    refine bind_eq lp ?_
    cases l.all (realB w.2.2.2.2.1) <;> rfl
  · unfold F20.b0 realB
    refine lt_then (Int.ofNat_lt.2 hi) (bind_eq (getI_lt hi) (bind_eq (s_in _ _ _) ?_))
    rw [← nxt hi hl.1]
    have hL : L63 w.2.2.2.2.1.length := hb.1
    have hs : iSub .i64 (w.2.2.2.2.1.length : Int) 1 = (w.2.2.2.2.1.length : Int) - 1 := iSub_small (by omega) (by omega)
    rw [hs]
    by_cases hr : 0 ≤ l[i].1 ∧ l[i].1 < (w.2.2.2.2.1.length : Int)
    · have e : inR l[i].1 0 ((w.2.2.2.2.1.length : Int) - 1) = true := by simp [inR, iLe]; omega
      rw [e, getI_in hr.1 hr.2]
      refine bind_eq (getI_lt hi) (bind_eq (getI_in hr.1 hr.2) (bind_eq (getI_lt hi) (bind_eq (s_sameBlk _ _ (Ok_mem hb.2 (List.getElem_mem _))) goE)))
    · have e : inR l[i].1 0 ((w.2.2.2.2.1.length : Int) - 1) = false := by simp [inR, iLe]; omega
      rw [e, getI_out (xs := w.2.2.2.2.1) (k := l[i].1) (by omega)]
      rfl
  · unfold F20.b0
    exact lt_else (Int.le_refl _) rfl

theorem i_real (w : DWo) (l : List DBk) (hl : (Ty.sl e62).Ok l) (hb : (Ty.sl e62).Ok w.2.2.2.2.1) (hp : ∀ b ∈ l, 0 ≤ b.1) : F33 (w, ((l, ()), ())) = some (B1 (l.all (realB w.2.2.2.2.1))) := by
  have lp := loopAllP (S := Int × Unit) l (realB w.2.2.2.2.1) (f := F33.b0 (w, ((l, ()), ()))) (fun k => (k, ())) (Sum.inl ((l.length : Int), ())) (Sum.inr (B1 false)) (fun i hi => ?_) ?_
  · unfold F33
    refine bind_eq lp ?_
    cases l.all (realB w.2.2.2.2.1) <;> rfl
  · unfold F33.b0 realB
    refine lt_then (Int.ofNat_lt.2 hi) (bind_eq (getI_lt hi) ?_)
    rw [← nxt hi hl.1]
    have h0 := hp _ (List.getElem_mem hi)
    by_cases hr : l[i].1 < (w.2.2.2.2.1.length : Int)
    · have e : iLe (w.2.2.2.2.1.length : Int) l[i].1 = false := by simp [iLe]; omega
      rw [e, getI_in h0 hr]
      dsimp only
      rw [sameBlk_comm]
      exact bind_eq (i_sameBlk _ _ (Ok_mem hl.2 (List.getElem_mem _))) goE
    · have e : iLe (w.2.2.2.2.1.length : Int) l[i].1 = true := by simp [iLe]; omega
      rw [e, getI_out (xs := w.2.2.2.2.1) (k := l[i].1) (by omega)]
      rfl
  · unfold F33.b0
    exact lt_else (Int.le_refl _) rfl

theorem s_nodeAt (w : DWo) (s : ByteArray) (hl : L63 w.2.2.2.1.length) : F19 (w, ((s, ()), ())) = some (I1 (idxOf w.2.2.2.1 (fun n => sEq n.1 s))) := by
  have lp := loopIdx (S := Int × Unit) w.2.2.2.1 (fun n => sEq n.1 s) (f := F19.b0 (w, ((s, ()), ()))) (fun k => (k, ())) (Sum.inl ((w.2.2.2.1.length : Int), ())) (fun i => Sum.inr (I1 i)) (fun i hi => ?_) ?_
  · unfold F19
    refine bind_eq lp ?_
    rcases idxOf_cases w.2.2.2.1 (fun n => sEq n.1 s) with ⟨h1, _, h3⟩ | ⟨j, hj, _, _, h1, _, h3⟩ <;> rw [h1, h3] <;> rfl
  · unfold F19.b0
    refine lt_then (Int.ofNat_lt.2 hi) (bind_eq (getI_lt hi) ?_)
    rw [← nxt hi hl]
  · unfold F19.b0
    exact lt_else (Int.le_refl _) rfl

theorem idxFunc_nd (l : List DNd) (g : DNd → Option (Bool × Unit)) (p : DNd → Bool) (hg : ∀ x, g x = some (p x, ())) (hl : L63 l.length) : F85 ((l, ()), ((g, ()), ())) = some (I1 (idxOf l p)) := by
  have lp := loopIdx (S := Int × Unit) l p (f := F85.b0 ((l, ()), ((g, ()), ()))) (fun k => (k, ())) (Sum.inl ((l.length : Int), ())) (fun i => Sum.inr (I1 i)) (fun i hi => ?_) ?_
  · unfold F85
    refine bind_eq lp ?_
    rcases idxOf_cases l p with ⟨h1, _, h3⟩ | ⟨j, hj, _, _, h1, _, h3⟩ <;> rw [h1, h3] <;> rfl
  · unfold F85.b0
    refine lt_then (Int.ofNat_lt.2 hi) (bind_eq (getI_lt hi) (bind_eq (hg _) ?_))
    rw [← nxt hi hl]
  · unfold F85.b0
    exact lt_else (Int.le_refl _) rfl
theorem i_nodeAt (w : DWo) (s : ByteArray) (hl : L63 w.2.2.2.1.length) : F35 (w, ((s, ()), ())) = some (I1 (idxOf w.2.2.2.1 (fun n => sEq n.1 s))) := by
  unfold F35
  exact bind_eq (idxFunc_nd _ _ (fun n => sEq n.1 s) (fun x => rfl) hl) rfl

abbrev WOk (w : DWo) : Prop := e42.Ok w
def wNodeP (w : DWo) (i : Nat) (n : DNd) : Bool := nodeB n && (!hasB w.2.2.1 n.1 && (behind (fun z y => sLt z.1 y.1) w.2.2.2.1 i n && (nTree n).all (realB w.2.2.2.2.1)))
def wMsgP (w : DWo) (m : DMs) : Bool := msgB m && (w.2.2.2.1.any (fun n => sEq n.1 m.2.1) && (mBs m).all (realB w.2.2.2.2.1))
def wBlkP (i : Nat) (b : DBk) : Bool := iEq b.1 (i : Int) && blockB b
def worldB (w : DWo) : Bool := ledgerB (w.1, (w.2.1, ())) && (namesB w.2.2.1 && (iLe (w.2.2.2.1.length : Int) 12 && (iLe (w.2.2.2.2.1.length : Int) 1000 && (iLe (w.2.2.2.2.2.2.1.length : Int) 400 && (allI wBlkP 0 w.2.2.2.2.1 && (allI (wNodeP w) 0 w.2.2.2.1 && w.2.2.2.2.2.2.1.all (wMsgP w)))))))
theorem WOk.accts {w : DWo} (h : WOk w) : (Ty.sl e164).Ok w.2.1 := h.2.1
theorem WOk.foul {w : DWo} (h : WOk w) : (Ty.sl e9).Ok w.2.2.1 := h.2.2.1
theorem WOk.nodes {w : DWo} (h : WOk w) : (Ty.sl e83).Ok w.2.2.2.1 := h.2.2.2.1
theorem WOk.blocks {w : DWo} (h : WOk w) : (Ty.sl e62).Ok w.2.2.2.2.1 := h.2.2.2.2.1
theorem WOk.net {w : DWo} (h : WOk w) : (Ty.sl e70).Ok w.2.2.2.2.2.2.1 := h.2.2.2.2.2.2.1
theorem goC {b c : Bool} {R : Type} {C g x : R} (h : C = bif c then g else x) : (bif b then C else x) = bif (b && c) then g else x := by rw [h]; cases b <;> rfl
theorem goBoth {b c : Bool} {R : Type} {K C g x : R} (h1 : K = bif b then C else x) (h2 : C = bif c then g else x) : K = bif (b && c) then g else x := by rw [h1]; exact goC h2
theorem idx_neg {A R : Type} {xs : List A} {p : A → Bool} {C g x : R} {c : Bool} (h : C = bif c then g else x) : (bif iLt (idxOf xs p) 0 then x else C) = bif (xs.any p && c) then g else x := by
  rcases idxOf_cases xs p with ⟨h1, _, h3⟩ | ⟨j, hj, _, _, h1, _, h3⟩
  · rw [h1, h3]; rfl
  · rw [h1, h3, iLt_false (Int.natCast_nonneg j), Bool.true_and]; exact h
theorem gt_ite {R : Type} {a b c : Int} (h : iLt a b = !iLe b a) {n x : R} : (bif iLt a b then x else n) = bif iLe b a then n else x := by rw [h]; cases iLe b a <;> rfl
theorem iLt_le (a b : Int) : iLt a b = !iLe b a := by rw [iLe_lt, Bool.not_not]
theorem gtN {a b : Int} {c : Bool} {K : Option ((Bool × Unit) × Unit)} (h : K = some (B1 c)) : (bif iLt a b then some (B1 false) else K) = some (B1 (iLe b a && c)) := by rw [h, iLt_le]; cases iLe b a <;> rfl
theorem endLoop {b : Bool} {k : Int} {c : Bool} {L : Option (Sum (Int × Unit) ((Bool × Unit) × Unit))} {K : Int × Unit → Option ((Bool × Unit) × Unit)} (h : L = some (bif b then Sum.inl (k, ()) else Sum.inr (B1 false))) (hK : K (k, ()) = some (B1 c)) : L.bind (fun r => Sum.elim K some r) = some (B1 (b && c)) := by
  rw [h]
  cases b with
  | true => exact hK
  | false => rfl

theorem s_nodes15 (w : DWo) (h : WOk w) : F21 (w, ()) = some (B1 (allI (wNodeP w) 0 w.2.2.2.1 && iLe (w.2.2.2.1.length : Int) 12)) := by
  have hl : L63 w.2.2.2.1.length := h.nodes.1
  have lp := loopAll (S := Int × Unit) w.2.2.2.1 (wNodeP w) (f := F21.b0 (w, ())) (fun k => (k, ())) (Sum.inl ((w.2.2.2.1.length : Int), ())) (Sum.inr (B1 false)) (fun i hi => ?_) ?_
  · unfold F21
    exact endLoop lp rfl
  · unfold F21.b0 wNodeP
    have hn : NOk w.2.2.2.1[i] := Ok_mem h.nodes.2 (List.getElem_mem hi)
    refine lt_then (Int.ofNat_lt.2 hi) (bind_eq (getI_lt hi) (bind_eq (s_node _ hn) (goN (bind_eq (s_has _ _ h.foul.1) (goT ?_)))))
    rw [← nxt hi hl]
    refine goBoth (asc_step hi hl (fun z => goE)) ?_
    exact bind_eq (s_real w _ hn.tree h.blocks) goE
  · unfold F21.b0
    exact lt_else (Int.le_refl _) rfl
theorem s_world (w : DWo) (h : WOk w) : F5 (w, ()) = some (B1 (worldB w)) := by
  have lp0 := loopAll (S := Int × Unit) w.2.2.2.2.1 wBlkP (f := F5.b0 (w, ())) (fun k => (k, ())) (Sum.inl ((w.2.2.2.2.1.length : Int), ())) (Sum.inr (B1 false)) (fun i hi => ?_) ?_
  · have lp1 := loopAllP (S := Int × Unit) w.2.2.2.2.2.2.1 (wMsgP w) (f := F5.b1 (w, ())) (fun k => (k, ())) (Sum.inl ((w.2.2.2.2.2.2.1.length : Int), ())) (Sum.inr (B1 false)) (fun i hi => ?_) ?_
    · refine Eq.trans (b := some (B1 (ledgerB (w.1, (w.2.1, ())) && (namesB w.2.2.1 && (iLe (w.2.2.2.2.1.length : Int) 1000 && (iLe (w.2.2.2.2.2.2.1.length : Int) 400 && (allI wBlkP 0 w.2.2.2.2.1 && (w.2.2.2.2.2.2.1.all (wMsgP w) && (allI (wNodeP w) 0 w.2.2.2.1 && iLe (w.2.2.2.1.length : Int) 12))))))))) ?_ ?_
      · unfold F5
        exact bind_eq (s_ledger (w.1, (w.2.1, ())) h.accts) (andN (bind_eq (s_names _ h.foul) (andN (gtN (gtN (endLoop lp0 (endLoop lp1 (bind_eq (s_nodes15 w h) rfl))))))))
      · unfold worldB
        refine congrArg (fun z => some (B1 z)) ?_
        generalize ledgerB (w.1, (w.2.1, ())) = p1
        generalize namesB w.2.2.1 = p2
        generalize iLe (w.2.2.2.2.1.length : Int) 1000 = p3
        generalize iLe (w.2.2.2.2.2.2.1.length : Int) 400 = p4
        generalize allI wBlkP 0 w.2.2.2.2.1 = p5
        generalize w.2.2.2.2.2.2.1.all (wMsgP w) = p6
        generalize allI (wNodeP w) 0 w.2.2.2.1 = p7
        generalize iLe (w.2.2.2.1.length : Int) 12 = p8
        simp only [Bool.and_comm, Bool.and_left_comm, Bool.and_assoc]
    · unfold F5.b1 wMsgP
      have hm : MOk w.2.2.2.2.2.2.1[i] := Ok_mem h.net.2 (List.getElem_mem hi)
      refine lt_then (Int.ofNat_lt.2 hi) (bind_eq (getI_lt hi) (bind_eq (s_msg _ hm) (goN (bind_eq (getI_lt hi) (bind_eq (s_nodeAt w _ h.nodes.1) (idx_neg (bind_eq (getI_lt hi) (bind_eq (s_real w _ hm.bs h.blocks) ?_))))))))
      rw [← nxt hi h.net.1]
      exact goE
    · unfold F5.b1
      exact lt_else (Int.le_refl _) rfl
  · unfold F5.b0 wBlkP
    refine lt_then (Int.ofNat_lt.2 hi) (bind_eq (getI_lt hi) (goN (bind_eq (getI_lt hi) (bind_eq (s_blk _ (Ok_mem h.blocks.2 (List.getElem_mem hi))) ?_))))
    rw [← nxt hi h.blocks.1]
    exact goE
  · unfold F5.b0
    exact lt_else (Int.le_refl _) rfl

theorem blk_id {b : DBk} (h : blockB b = true) : 0 ≤ b.1 := by
  unfold blockB at h
  simp only [Bool.and_eq_true] at h
  have h1 : inR b.1 0 100000 = true := h.1
  have h3 : 0 ≤ b.1 ∧ b.1 ≤ 100000 := by simpa [inR, iLe] using h1
  exact h3.1
theorem node_ids {n : DNd} (h : nodeB n = true) : ∀ b ∈ nTree n, 0 ≤ b.1 := by
  unfold nodeB treeB at h
  simp only [Bool.and_eq_true] at h
  have ht := h.2.2.2.2.2.1.1
  intro b hb
  obtain ⟨i, hi, rfl⟩ := List.getElem_of_mem hb
  have := allI_get ht i hi
  rw [Nat.zero_add] at this
  unfold treeQ at this
  simp only [Bool.and_eq_true] at this
  exact blk_id this.1.1
theorem msg_ids {m : DMs} (h : msgB m = true) : ∀ b ∈ mBs m, 0 ≤ b.1 := by
  unfold msgB blksB at h
  simp only [Bool.and_eq_true] at h
  have ht := h.2.2.2.2.1.1
  intro b hb
  have := List.all_eq_true.1 ht b hb
  simp only [Bool.and_eq_true] at this
  exact blk_id this.1
theorem goNif {b c : Bool} {R : Type} {K g x : R} (h : b = true → K = bif c then g else x) : (bif !b then x else K) = bif (b && c) then g else x := by
  cases b with
  | true => exact h rfl
  | false => rfl
theorem i_world (w : DWo) (h : WOk w) : F7 (w, ()) = some (B1 (worldB w)) := by
  have lp0 := loopAll (S := Int × Unit) w.2.2.2.2.1 wBlkP (f := F7.b0 (w, ())) (fun k => (k, ())) (Sum.inl ((w.2.2.2.2.1.length : Int), ())) (Sum.inr (B1 false)) (fun i hi => ?_) ?_
  · have lp1 := loopAll (S := Int × Unit) w.2.2.2.1 (wNodeP w) (f := F7.b1 (w, ())) (fun k => (k, ())) (Sum.inl ((w.2.2.2.1.length : Int), ())) (Sum.inr (B1 false)) (fun i hi => ?_) ?_
    · have lp2 := loopAllP (S := Int × Unit) w.2.2.2.2.2.2.1 (wMsgP w) (f := F7.b2 (w, ())) (fun k => (k, ())) (Sum.inl ((w.2.2.2.2.2.2.1.length : Int), ())) (Sum.inr (B1 false)) (fun i hi => ?_) ?_
      · unfold F7 worldB
        refine bind_eq (i_ledger (w.1, (w.2.1, ())) h.accts) (andN (bind_eq (i_names _ h.foul) (andN (gtN (gtN (gtN (endLoop lp0 (endLoop lp1 ?_))))))))
        refine (endLoop lp2 (c := true) rfl).trans ?_
        rw [Bool.and_true]
      · unfold F7.b2 wMsgP
        have hm : MOk w.2.2.2.2.2.2.1[i] := Ok_mem h.net.2 (List.getElem_mem hi)
        refine lt_then (Int.ofNat_lt.2 hi) (bind_eq (getI_lt hi) (bind_eq (i_msg _ hm) (goNif (fun hb => bind_eq (i_nodeAt w _ h.nodes.1) (idx_neg (bind_eq (i_real w _ hm.bs h.blocks (msg_ids hb)) ?_))))))
        rw [← nxt hi h.net.1]
        exact goE
      · unfold F7.b2
        exact lt_else (Int.le_refl _) rfl
    · unfold F7.b1 wNodeP
      have hn : NOk w.2.2.2.1[i] := Ok_mem h.nodes.2 (List.getElem_mem hi)
      refine lt_then (Int.ofNat_lt.2 hi) (bind_eq (getI_lt hi) (bind_eq (i_node _ hn) (goNif (fun hb => bind_eq (i_has _ _ h.foul.1) (goT ?_)))))
      rw [← nxt hi h.nodes.1]
      refine goBoth (asc_step hi h.nodes.1 (fun z => ite_tri)) ?_
      exact bind_eq (i_real w _ hn.tree h.blocks (node_ids hb)) goE
    · unfold F7.b1
      exact lt_else (Int.le_refl _) rfl
  · unfold F7.b0 wBlkP
    refine lt_then (Int.ofNat_lt.2 hi) (bind_eq (getI_lt hi) (goN (bind_eq (i_blk _ (Ok_mem h.blocks.2 (List.getElem_mem hi))) ?_)))
    rw [← nxt hi h.blocks.1]
    exact goE
  · unfold F7.b0
    exact lt_else (Int.le_refl _) rfl

theorem L_WorldOk (w : DWo) (hw : e42.Ok w) (hww : e42.w w ≤ 1048576) :
    ∃ R, F5 (w, ()) = some R ∧ F7 (w, ()) = some R ∧ (.cons .bool .nil : Tys).Ok R.1 ∧ (.cons .bool .nil : Tys).w R.1 ≤ 67108864 :=
  ⟨_, s_world w hw, i_world w hw, ⟨trivial, trivial⟩, Nat.zero_le _⟩
end Go.Proofs.YtodcmpnbcgobkabGreat
