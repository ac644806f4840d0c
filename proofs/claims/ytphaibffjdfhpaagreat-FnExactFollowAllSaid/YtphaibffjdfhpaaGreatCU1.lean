/- Plain laws, part 1: what the program's functions and the reference's compute, told as plain words. Conditions: none. -/
import Derived.Test.YtphaibffjdfhpaaGreatCH
import Derived.Test.YtphaibffjdfhpaaGreatTm4
namespace Go.Proofs.YtphaibffjdfhpaaGreat
open Go Go.Tm
set_option linter.unusedVariables false
set_option maxRecDepth 100000

theorem s_in (n lo hi : Int) : F167 ((n, ()), ((lo, ()), ((hi, ()), ()))) = some (B1 (inR n lo hi)) := inR_ite

theorem i_in (n lo hi : Int) : F172 ((n, ()), ((lo, ()), ((hi, ()), ()))) = some (B1 (inR n lo hi)) := inR_ite

/-- A letter of a name; a name. -/
def letter (b : UInt8) : Bool := inR (UInt8.toNat b : Int) 97 122 || inR (UInt8.toNat b : Int) 48 57
def nameB (s : ByteArray) : Bool := s.data.toList.all letter && inR (s.size : Int) 1 8
theorem sz_list (s : ByteArray) : s.size = s.data.toList.length := rfl

theorem s_name (s : ByteArray) (hs : L63 s.size) : F169 ((s, ()), ()) = some (B1 (nameB s)) := by
  have lp := loopAllP (S := Int × Unit) s.data.toList letter (f := F169.b0 ((s, ()), ())) (fun k => (k, ())) (Sum.inl ((s.data.toList.length : Int), ())) (Sum.inr (B1 false)) (fun i hi => ?_) ?_
  · unfold F169 nameB
    refine bind_eq lp ?_
    cases s.data.toList.all letter
    · rfl
    · exact (congrArg (fun o => Option.bind o _) (s_in _ _ _)).trans rfl
  · unfold F169.b0 letter
    refine lt_then (Int.ofNat_lt.2 hi) (bind_eq (getI_lt hi) (bind_eq (s_in _ _ _) ?_))
    rw [← nxt hi hs, wrap_byte]
    cases inR (UInt8.toNat s.data.toList[i] : Int) 97 122
    · refine bind_eq (getI_lt hi) (bind_eq (s_in _ _ _) ?_)
      rw [wrap_byte]
      cases inR (UInt8.toNat s.data.toList[i] : Int) 48 57 <;> rfl
    · rfl
  · unfold F169.b0
    exact lt_else (Int.le_refl _) rfl

theorem i_name (s : ByteArray) (hs : L63 s.size) : F174 ((s, ()), ()) = some (B1 (nameB s)) := by
  have lp := loopAllP (S := Int × Unit) s.data.toList letter (f := F174.b0 ((s, ()), ())) (fun k => (k, ())) (Sum.inl ((s.data.toList.length : Int), ())) (Sum.inr (B1 false)) (fun i hi => ?_) ?_
  · unfold F174 nameB
    refine bind_eq lp ?_
    cases s.data.toList.all letter
    · rfl
    · exact (congrArg (fun o => Option.bind o _) (i_in _ _ _)).trans rfl
  · unfold F174.b0 letter inR
    refine lt_then (Int.ofNat_lt.2 hi) (bind_eq (getI_lt hi) ?_)
    rw [← nxt hi hs]
    simp only [getI_lt hi, Option.bind_some]
    cases iLe (97:Int) (UInt8.toNat s.data.toList[i] : Int) <;> cases iLe (UInt8.toNat s.data.toList[i] : Int) (122:Int) <;> cases iLe (48:Int) (UInt8.toNat s.data.toList[i] : Int) <;> cases iLe (UInt8.toNat s.data.toList[i] : Int) (57:Int) <;> rfl
  · unfold F174.b0
    exact lt_else (Int.le_refl _) rfl

/-- Names, in order. -/
def namP (xs : List D9) (i : Nat) (y : D9) : Bool := nameB y.1 && behind (fun z y => sLt z.1 y.1) xs i y
def namesB (xs : List D9) : Bool := allI (namP xs) 0 xs && iLe (xs.length : Int) 20

theorem s_names (xs : List D9) (hx : (Ty.sl e9).Ok xs) : F97 ((xs, ()), ()) = some (B1 (namesB xs)) := by
  have hl : L63 xs.length := hx.1
  have lp := loopAll (S := Int × Unit) xs (namP xs) (f := F97.b0 ((xs, ()), ())) (fun k => (k, ())) (Sum.inl ((xs.length : Int), ())) (Sum.inr (B1 false)) (fun i hi => ?_) ?_
  · unfold F97 namesB
    refine bind_eq lp ?_
    cases allI (namP xs) 0 xs <;> rfl
  · unfold F97.b0 namP
    refine lt_then (Int.ofNat_lt.2 hi) (bind_eq (getI_lt hi) (bind_eq (s_name _ (Ok_mem hx.2 (List.getElem_mem hi)).1) (goN ?_)))
    rw [← nxt hi hl]
    exact asc_step hi hl (fun z => bind_eq (getI_lt hi) goE)
  · unfold F97.b0
    exact lt_else (Int.le_refl _) rfl

theorem i_names (xs : List D9) (hx : (Ty.sl e9).Ok xs) : F103 ((xs, ()), ()) = some (B1 (namesB xs)) := by
  have hl : L63 xs.length := hx.1
  have lp := loopAll (S := Int × Unit) xs (namP xs) (f := F103.b0 ((xs, ()), ())) (fun k => (k, ())) (Sum.inl ((xs.length : Int), ())) (Sum.inr (B1 false)) (fun i hi => ?_) ?_
  · unfold F103 namesB
    refine bind_eq lp ?_
    cases allI (namP xs) 0 xs <;> rfl
  · unfold F103.b0 namP
    refine lt_then (Int.ofNat_lt.2 hi) (bind_eq (getI_lt hi) (bind_eq (i_name _ (Ok_mem hx.2 (List.getElem_mem hi)).1) (goN ?_)))
    rw [← nxt hi hl]
    exact asc_step hi hl (fun z => ite_tri)
  · unfold F103.b0
    exact lt_else (Int.le_refl _) rfl

/-- Those who vote. -/
def valP (xs : List D188) (i : Nat) (y : D188) : Bool := nameB y.1 && (inR y.2.1 1 1000000 && behind (fun z y => sLt z.1 y.1) xs i y)
def setB (xs : List D188) : Bool := allI (valP xs) 0 xs && inR (xs.length : Int) 1 12

theorem s_set (xs : List D188) (hx : (Ty.sl e188).Ok xs) : F185 ((xs, ()), ()) = some (B1 (setB xs)) := by
  have hl : L63 xs.length := hx.1
  have lp := loopAll (S := Int × Unit) xs (valP xs) (f := F185.b0 ((xs, ()), ())) (fun k => (k, ())) (Sum.inl ((xs.length : Int), ())) (Sum.inr (B1 false)) (fun i hi => ?_) ?_
  · unfold F185 setB
    refine bind_eq lp ?_
    cases allI (valP xs) 0 xs
    · rfl
    · exact (congrArg (fun o => Option.bind o _) (s_in _ _ _)).trans rfl
  · unfold F185.b0 valP
    refine lt_then (Int.ofNat_lt.2 hi) (bind_eq (getI_lt hi) (bind_eq (s_name _ (Ok_mem hx.2 (List.getElem_mem hi)).1) (goN (bind_eq (getI_lt hi) (bind_eq (s_in _ _ _) (goN ?_))))))
    rw [← nxt hi hl]
    exact asc_step hi hl (fun z => bind_eq (getI_lt hi) goE)
  · unfold F185.b0
    exact lt_else (Int.le_refl _) rfl

theorem i_set (xs : List D188) (hx : (Ty.sl e188).Ok xs) : F188 ((xs, ()), ()) = some (B1 (setB xs)) := by
  have hl : L63 xs.length := hx.1
  have lp := loopAll (S := Int × Unit) xs (valP xs) (f := F188.b0 ((xs, ()), ())) (fun k => (k, ())) (Sum.inl ((xs.length : Int), ())) (Sum.inr (B1 false)) (fun i hi => ?_) ?_
  · unfold F188 setB
    refine bind_eq lp ?_
    cases allI (valP xs) 0 xs
    · rfl
    · exact (congrArg (fun o => Option.bind o _) (i_in _ _ _)).trans rfl
  · unfold F188.b0 valP
    refine lt_then (Int.ofNat_lt.2 hi) (bind_eq (getI_lt hi) (bind_eq (i_name _ (Ok_mem hx.2 (List.getElem_mem hi)).1) (goN (bind_eq (i_in _ _ _) (goN ?_)))))
    rw [← nxt hi hl]
    exact asc_step hi hl (fun z => ite_tri)
  · unfold F188.b0
    exact lt_else (Int.le_refl _) rfl

/-- Is it among those who vote? among names? -/
def inB (l : List D188) (s : ByteArray) : Bool := l.any (fun v => sEq v.1 s)
def hasB (l : List D9) (s : ByteArray) : Bool := l.any (fun v => sEq v.1 s)

theorem s_isin (l : List D188) (s : ByteArray) (hl : L63 l.length) : F235 ((l, ()), ((s, ()), ())) = some (B1 (inB l s)) := by
  have lp := loopHas (S := Int × Unit) l (fun v => sEq v.1 s) (f := F235.b0 ((l, ()), ((s, ()), ()))) (fun k => (k, ())) (Sum.inl ((l.length : Int), ())) (Sum.inr (B1 true)) (fun i hi => ?_) ?_
  · unfold F235 inB
    refine bind_eq lp ?_
    cases l.any (fun v => sEq v.1 s) <;> rfl
  · unfold F235.b0
    refine lt_then (Int.ofNat_lt.2 hi) (bind_eq (getI_lt hi) ?_)
    rw [← nxt hi hl]
  · unfold F235.b0
    exact lt_else (Int.le_refl _) rfl

theorem s_has (l : List D9) (s : ByteArray) (hl : L63 l.length) : F99 ((l, ()), ((s, ()), ())) = some (B1 (hasB l s)) := by
  have lp := loopHas (S := Int × Unit) l (fun v => sEq v.1 s) (f := F99.b0 ((l, ()), ((s, ()), ()))) (fun k => (k, ())) (Sum.inl ((l.length : Int), ())) (Sum.inr (B1 true)) (fun i hi => ?_) ?_
  · unfold F99 hasB
    refine bind_eq lp ?_
    cases l.any (fun v => sEq v.1 s) <;> rfl
  · unfold F99.b0
    refine lt_then (Int.ofNat_lt.2 hi) (bind_eq (getI_lt hi) ?_)
    rw [← nxt hi hl]
  · unfold F99.b0
    exact lt_else (Int.le_refl _) rfl

theorem idxFunc_val (l : List D188) (g : D188 → Option (Bool × Unit)) (p : D188 → Bool) (hg : ∀ x, g x = some (p x, ())) (hl : L63 l.length) : F256 ((l, ()), ((g, ()), ())) = some (I1 (idxOf l p)) := by
  have lp := loopIdx (S := Int × Unit) l p (f := F256.b0 ((l, ()), ((g, ()), ()))) (fun k => (k, ())) (Sum.inl ((l.length : Int), ())) (fun i => Sum.inr (I1 i)) (fun i hi => ?_) ?_
  · unfold F256
    refine bind_eq lp ?_
    rcases idxOf_cases l p with ⟨h1, _, h3⟩ | ⟨j, hj, _, _, h1, _, h3⟩ <;> rw [h1, h3] <;> rfl
  · unfold F256.b0
    refine lt_then (Int.ofNat_lt.2 hi) (bind_eq (getI_lt hi) (bind_eq (hg _) ?_))
    rw [← nxt hi hl]
  · unfold F256.b0
    exact lt_else (Int.le_refl _) rfl

theorem i_isin (l : List D188) (s : ByteArray) (hl : L63 l.length) : F238 ((l, ()), ((s, ()), ())) = some (B1 (inB l s)) := by
  unfold F238 F248
  refine bind_eq (bind_eq (idxFunc_val l _ (fun v => sEq v.1 s) (fun x => rfl) hl) rfl) ?_
  rw [idxOf_any]; rfl

theorem i_idxS (l : List D9) (s : ByteArray) (hl : L63 l.length) : F176 ((l, ()), ((s, ()), ())) = some (I1 (idxOf l (fun v => sEq s v.1))) := by
  have lp := loopIdx (S := Int × Unit) l (fun v => sEq s v.1) (f := F176.b0 ((l, ()), ((s, ()), ()))) (fun k => (k, ())) (Sum.inl ((l.length : Int), ())) (fun i => Sum.inr (I1 i)) (fun i hi => ?_) ?_
  · unfold F176
    refine bind_eq lp ?_
    rcases idxOf_cases l (fun v => sEq s v.1) with ⟨h1, _, h3⟩ | ⟨j, hj, _, _, h1, _, h3⟩ <;> rw [h1, h3] <;> rfl
  · unfold F176.b0
    refine lt_then (Int.ofNat_lt.2 hi) (bind_eq (getI_lt hi) ?_)
    rw [← nxt hi hl]
  · unfold F176.b0
    exact lt_else (Int.le_refl _) rfl
theorem i_has (l : List D9) (s : ByteArray) (hl : L63 l.length) : F106 ((l, ()), ((s, ()), ())) = some (B1 (hasB l s)) := by
  unfold F106 hasB
  refine bind_eq (i_idxS l s hl) ?_
  rw [idxOf_any]
  simp only [sEq_comm]

def allInB (l : List D188) (names : List D9) : Bool := names.all (fun n => inB l n.1)

theorem s_all (l : List D188) (names : List D9) (hl : L63 l.length) (hn : (Ty.sl e9).Ok names) : F216 ((l, ()), ((names, ()), ())) = some (B1 (allInB l names && namesB names)) := by
  have lp := loopAllP (S := Int × Unit) names (fun n => inB l n.1) (f := F216.b0 ((l, ()), ((names, ()), ()))) (fun k => (k, ())) (Sum.inl ((names.length : Int), ())) (Sum.inr (B1 false)) (fun i hi => ?_) ?_
  · unfold F216 allInB
    refine bind_eq lp ?_
    cases names.all (fun n => inB l n.1)
    · rfl
    · exact (congrArg (fun o => Option.bind o _) (s_names _ hn)).trans rfl
  · unfold F216.b0
    refine lt_then (Int.ofNat_lt.2 hi) (bind_eq (getI_lt hi) (bind_eq (s_isin _ _ hl) ?_))
    rw [← nxt hi hn.1]
    exact goE
  · unfold F216.b0
    exact lt_else (Int.le_refl _) rfl

theorem i_all (l : List D188) (names : List D9) (hl : L63 l.length) (hn : L63 names.length) : F222 ((l, ()), ((names, ()), ())) = some (B1 (allInB l names)) := by
  have lp := loopAllP (S := Int × Unit) names (fun n => inB l n.1) (f := F222.b0 ((l, ()), ((names, ()), ()))) (fun k => (k, ())) (Sum.inl ((names.length : Int), ())) (Sum.inr (B1 false)) (fun i hi => ?_) ?_
  · unfold F222 allInB
    refine bind_eq lp ?_
    cases names.all (fun n => inB l n.1) <;> rfl
  · unfold F222.b0
    refine lt_then (Int.ofNat_lt.2 hi) (bind_eq (getI_lt hi) (bind_eq (i_isin _ _ hl) ?_))
    rw [← nxt hi hn]
    exact goE
  · unfold F222.b0
    exact lt_else (Int.le_refl _) rfl

/-- What they weigh. -/
def weight (xs : List D188) (names : List D9) : Int := xs.foldl (fun n v => bif hasB names v.1 then iAdd .i64 n v.2.1 else n) 0
def total (xs : List D188) : Int := xs.foldl (fun n v => iAdd .i64 n v.2.1) 0
def quorumB (l : List D188) (names : List D9) : Bool := iLt (iMul .i64 2 (total l)) (iMul .i64 3 (weight l names))

theorem s_weight (xs : List D188) (names : List D9) (hx : L63 xs.length) (hl : L63 names.length) : F157 ((xs, ()), ((names, ()), ())) = some (I1 (weight xs names)) := by
  have lp := loopFold0 (S := Int × (Int × Unit)) xs (fun n v => bif hasB names v.1 then iAdd .i64 n v.2.1 else n) (f := F157.b0 ((xs, ()), ((names, ()), ()))) (fun a i => (a, (i, ()))) (fun a => Sum.inl (a, ((xs.length : Int), ()))) 0 (fun i hi a => ?_) (fun a => ?_)
  · unfold F157
    exact bind_eq lp rfl
  · unfold F157.b0
    refine lt_then (Int.ofNat_lt.2 hi) (bind_eq (getI_lt hi) (bind_eq (s_has _ _ hl) ?_))
    rw [← nxt hi hx]
    dsimp only
    cases hasB names xs[i].1
    · rfl
    · exact bind_eq (getI_lt hi) rfl
  · unfold F157.b0
    exact lt_else (Int.le_refl _) rfl

theorem i_weight (xs : List D188) (names : List D9) (hx : L63 xs.length) (hl : L63 names.length) : F162 ((xs, ()), ((names, ()), ())) = some (I1 (weight xs names)) := by
  have lp := loopFold0 (S := Int × (Int × Unit)) xs (fun n v => bif hasB names v.1 then iAdd .i64 n v.2.1 else n) (f := F162.b0 ((xs, ()), ((names, ()), ()))) (fun a i => (a, (i, ()))) (fun a => Sum.inl (a, ((xs.length : Int), ()))) 0 (fun i hi a => ?_) (fun a => ?_)
  · unfold F162
    exact bind_eq lp rfl
  · unfold F162.b0
    refine lt_then (Int.ofNat_lt.2 hi) (bind_eq (getI_lt hi) (bind_eq (i_has _ _ hl) ?_))
    rw [← nxt hi hx]
    dsimp only
    cases hasB names xs[i].1 <;> rfl
  · unfold F162.b0
    exact lt_else (Int.le_refl _) rfl

theorem s_total (xs : List D188) (hx : L63 xs.length) : F158 ((xs, ()), ()) = some (I1 (total xs)) := by
  have lp := loopFold0 (S := Int × (Int × Unit)) xs (fun n v => iAdd .i64 n v.2.1) (f := F158.b0 ((xs, ()), ())) (fun a i => (a, (i, ()))) (fun a => Sum.inl (a, ((xs.length : Int), ()))) 0 (fun i hi a => ?_) (fun a => ?_)
  · unfold F158
    exact bind_eq lp rfl
  · unfold F158.b0
    refine lt_then (Int.ofNat_lt.2 hi) (bind_eq (getI_lt hi) ?_)
    rw [← nxt hi hx]
  · unfold F158.b0
    exact lt_else (Int.le_refl _) rfl

theorem i_total (xs : List D188) (hx : L63 xs.length) : F163 ((xs, ()), ()) = some (I1 (total xs)) := by
  have lp := loopFold0 (S := Int × (Int × Unit)) xs (fun n v => iAdd .i64 n v.2.1) (f := F163.b0 ((xs, ()), ())) (fun a i => (a, (i, ()))) (fun a => Sum.inl (a, ((xs.length : Int), ()))) 0 (fun i hi a => ?_) (fun a => ?_)
  · unfold F163
    exact bind_eq lp rfl
  · unfold F163.b0
    refine lt_then (Int.ofNat_lt.2 hi) (bind_eq (getI_lt hi) ?_)
    rw [← nxt hi hx]
  · unfold F163.b0
    exact lt_else (Int.le_refl _) rfl

theorem s_quorum (l : List D188) (names : List D9) (hl : L63 l.length) (hn : L63 names.length) : F217 ((l, ()), ((names, ()), ())) = some (B1 (quorumB l names)) :=
  bind_eq (s_weight l names hl hn) (bind_eq (s_total l hl) rfl)

theorem i_quorum (l : List D188) (names : List D9) (hl : L63 l.length) (hn : L63 names.length) : F221 ((l, ()), ((names, ()), ())) = some (B1 (quorumB l names)) :=
  bind_eq (i_weight l names hl hn) (bind_eq (i_total l hl) rfl)

/-- What leaves, in order; an account. -/
def leafP (xs : List D248) (i : Nat) (y : D248) : Bool := inR y.1 1 1000000 && (inR y.2.1 0 1000 && behind (fun z y => iLt z.2.1 y.2.1) xs i y)
def leavesB (xs : List D248) : Bool := allI (leafP xs) 0 xs
def acctB (a : D153) : Bool := nameB a.1 && (inR a.2.1 0 1000000 && (inR a.2.2.1 0 10000 && (inR a.2.2.2.1 0 1000000 && (iLe (List.length a.2.2.2.2.1 : Int) 4 && leavesB a.2.2.2.2.1))))
abbrev AOk (a : D153) : Prop := e153.Ok a
theorem AOk.ls {a : D153} (h : AOk a) : (Ty.sl e248).Ok a.2.2.2.2.1 := h.2.2.2.2.1

theorem s_acct (a : D153) (h : AOk a) : F206 (a, ()) = some (B1 (acctB a)) := by
  have hl : L63 (List.length a.2.2.2.2.1) := h.ls.1
  have lp := loopAll (S := Int × Unit) a.2.2.2.2.1 (leafP a.2.2.2.2.1) (f := F206.b0 (a, ())) (fun k => (k, ())) (Sum.inl ((List.length a.2.2.2.2.1 : Int), ())) (Sum.inr (B1 false)) (fun i hi => ?_) ?_
  · unfold F206 acctB leavesB
    rw [iLe_lt]
    refine bind_eq (s_name _ h.1) (andN (bind_eq (s_in _ _ _) (andN (bind_eq (s_in _ _ _) (andN (bind_eq (s_in _ _ _) (andN (noT (bind_eq lp ?_)))))))))
    cases allI (leafP a.2.2.2.2.1) 0 a.2.2.2.2.1 <;> rfl
  · unfold F206.b0 leafP
    refine lt_then (Int.ofNat_lt.2 hi) (bind_eq (getI_lt hi) (bind_eq (s_in _ _ _) (goN (bind_eq (s_in _ _ _) (goN ?_)))))
    rw [← nxt hi hl]
    exact asc_step hi hl (fun z => le_ite)
  · unfold F206.b0
    exact lt_else (Int.le_refl _) rfl

theorem i_amount (n : Int) : F230 ((n, ()), ()) = some (B1 (inR n 0 1000000)) := bind_eq (i_in _ _ _) rfl
theorem i_acct (a : D153) (h : AOk a) : F209 (a, ()) = some (B1 (acctB a)) := by
  have hl : L63 (List.length a.2.2.2.2.1) := h.ls.1
  have lp := loopAll (S := Int × Unit) a.2.2.2.2.1 (leafP a.2.2.2.2.1) (f := F209.b0 (a, ())) (fun k => (k, ())) (Sum.inl ((List.length a.2.2.2.2.1 : Int), ())) (Sum.inr (B1 false)) (fun i hi => ?_) ?_
  · unfold F209 acctB leavesB
    refine bind_eq lp ?_
    cases allI (leafP a.2.2.2.2.1) 0 a.2.2.2.2.1
    · cases nameB a.1 <;> cases inR a.2.1 0 1000000 <;> cases inR a.2.2.1 0 10000 <;> cases inR a.2.2.2.1 0 1000000 <;> cases iLe (List.length a.2.2.2.2.1 : Int) 4 <;> rfl
    · refine (bind_eq (i_name _ h.1) (andY (bind_eq (i_amount _) (andY (bind_eq (i_amount _) (andY (bind_eq (i_in _ _ _) (and_yes (c := iLe (List.length a.2.2.2.2.1 : Int) 4))))))))).trans ?_
      cases nameB a.1 <;> cases inR a.2.1 0 1000000 <;> cases inR a.2.2.1 0 10000 <;> cases inR a.2.2.2.1 0 1000000 <;> cases iLe (List.length a.2.2.2.2.1 : Int) 4 <;> rfl
  · unfold F209.b0 leafP
    refine lt_then (Int.ofNat_lt.2 hi) (bind_eq (getI_lt hi) (bind_eq (i_in _ _ _) (goN (bind_eq (i_in _ _ _) (goN ?_)))))
    rw [← nxt hi hl]
    exact asc_step hi hl (fun z => le_ite)
  · unfold F209.b0
    exact lt_else (Int.le_refl _) rfl

def addL (n : Int) (xs : List D248) : Int := xs.foldl (fun s y => iAdd .i64 s y.1) n
theorem addL_add (n m : Int) : ∀ xs : List D248, addL (iAdd .i64 n m) xs = iAdd .i64 n (addL m xs)
  | [] => rfl
  | x :: r => by
    show addL (iAdd .i64 (iAdd .i64 n m) x.1) r = iAdd .i64 n (addL (iAdd .i64 m x.1) r)
    rw [iAdd_assoc, addL_add]
def ofA (a : D153) : Int := addL (iAdd .i64 a.2.1 a.2.2.2.1) a.2.2.2.2.1
def wealth (xs : List D153) : Int := xs.foldl (fun s y => iAdd .i64 s (ofA y)) 0

theorem s_of (a : D153) (h : AOk a) : F228 (a, ()) = some (I1 (ofA a)) := by
  have hl : L63 (List.length a.2.2.2.2.1) := h.ls.1
  have lp := loopFold0 (S := Int × (Int × Unit)) a.2.2.2.2.1 (fun s y => iAdd .i64 s y.1) (f := F228.b0 (a, ())) (fun a i => (a, (i, ()))) (fun s => Sum.inl (s, ((List.length a.2.2.2.2.1 : Int), ()))) (iAdd .i64 a.2.1 a.2.2.2.1) (fun i hi s => ?_) (fun s => ?_)
  · unfold F228
    exact bind_eq lp rfl
  · unfold F228.b0
    refine lt_then (Int.ofNat_lt.2 hi) (bind_eq (getI_lt hi) ?_)
    rw [← nxt hi hl]
  · unfold F228.b0
    exact lt_else (Int.le_refl _) rfl
theorem s_wealth (xs : List D153) (hx : (Ty.sl e153).Ok xs) : F207 ((xs, ()), ()) = some (I1 (wealth xs)) := by
  have lp := loopFold0 (S := Int × (Int × Unit)) xs (fun s y => iAdd .i64 s (ofA y)) (f := F207.b0 ((xs, ()), ())) (fun a i => (a, (i, ()))) (fun s => Sum.inl (s, ((xs.length : Int), ()))) 0 (fun i hi s => ?_) (fun s => ?_)
  · unfold F207
    exact bind_eq lp rfl
  · unfold F207.b0
    refine lt_then (Int.ofNat_lt.2 hi) (bind_eq (getI_lt hi) (bind_eq (s_of _ (Ok_mem hx.2 (List.getElem_mem hi))) ?_))
    rw [← nxt hi hx.1]
  · unfold F207.b0
    exact lt_else (Int.le_refl _) rfl

theorem i_wealth (xs : List D153) (hx : (Ty.sl e153).Ok xs) : F210 ((xs, ()), ()) = some (I1 (wealth xs)) := by
  have inner : ∀ (a : D153) (n : Int), L63 (List.length a.2.2.2.2.1) → loopF (F210.b1 a) (n, ((0:Int), ())) = some (.inl (addL n a.2.2.2.2.1, ((List.length a.2.2.2.2.1 : Int), ()))) := by
    intro a n hl
    refine loopFold0 (S := Int × (Int × Unit)) a.2.2.2.2.1 (fun s y => iAdd .i64 s y.1) (fun a i => (a, (i, ()))) (fun s => Sum.inl (s, ((List.length a.2.2.2.2.1 : Int), ()))) n (fun i hi s => ?_) (fun s => ?_)
    · unfold F210.b1
      refine lt_then (Int.ofNat_lt.2 hi) (bind_eq (getI_lt hi) ?_)
      rw [← nxt hi hl]
    · unfold F210.b1
      exact lt_else (Int.le_refl _) rfl
  have lp := loopFold0 (S := Int × (Int × Unit)) xs (fun s y => iAdd .i64 s (ofA y)) (f := F210.b0 ((xs, ()), ())) (fun a i => (a, (i, ()))) (fun s => Sum.inl (s, ((xs.length : Int), ()))) 0 (fun i hi s => ?_) (fun s => ?_)
  · unfold F210
    exact bind_eq lp rfl
  · unfold F210.b0
    refine lt_then (Int.ofNat_lt.2 hi) (bind_eq (getI_lt hi) (bind_eq (inner _ _ (AOk.ls (Ok_mem hx.2 (List.getElem_mem hi))).1) ?_))
    rw [← nxt hi hx.1]
    exact congrArg (fun z => some (Sum.inl (z, (iAdd .i64 (i : Int) 1, ())))) (addL_add s _ _)
  · unfold F210.b0
    exact lt_else (Int.le_refl _) rfl

def acctP (xs : List D153) (i : Nat) (y : D153) : Bool := acctB y && behind (fun z y => sLt z.1 y.1) xs i y
def acctsB (xs : List D153) : Bool := allI (acctP xs) 0 xs && (iLe (xs.length : Int) 12 && iLe (wealth xs) 1000000)
abbrev DLe : Type := Int × (List D153 × Unit)
def ledgerB (x : DLe) : Bool := inR x.1 0 900 && acctsB x.2.1

theorem s_accts (xs : List D153) (hx : (Ty.sl e153).Ok xs) : F168 ((xs, ()), ()) = some (B1 (acctsB xs)) := by
  have hl : L63 xs.length := hx.1
  have lp := loopAll (S := Int × Unit) xs (acctP xs) (f := F168.b0 ((xs, ()), ())) (fun k => (k, ())) (Sum.inl ((xs.length : Int), ())) (Sum.inr (B1 false)) (fun i hi => ?_) ?_
  · unfold F168 acctsB
    refine bind_eq lp ?_
    cases allI (acctP xs) 0 xs
    · rfl
    · exact (andY (b := iLe (xs.length : Int) 12) (bind_eq (s_wealth xs hx) rfl)).trans rfl
  · unfold F168.b0 acctP
    refine lt_then (Int.ofNat_lt.2 hi) (bind_eq (getI_lt hi) (bind_eq (s_acct _ (Ok_mem hx.2 (List.getElem_mem hi))) (goN ?_)))
    rw [← nxt hi hl]
    exact asc_step hi hl (fun z => bind_eq (getI_lt hi) goE)
  · unfold F168.b0
    exact lt_else (Int.le_refl _) rfl
theorem s_ledger (x : DLe) (hx : (Ty.sl e153).Ok x.2.1) : F96 (x, ()) = some (B1 (ledgerB x)) := bind_eq (s_in _ _ _) (andY (bind_eq (s_accts _ hx) rfl))

theorem i_accts (xs : List D153) (hx : (Ty.sl e153).Ok xs) : F173 ((xs, ()), ()) = some (B1 (acctsB xs)) := by
  have hl : L63 xs.length := hx.1
  have lp := loopAll (S := Int × Unit) xs (acctP xs) (f := F173.b0 ((xs, ()), ())) (fun k => (k, ())) (Sum.inl ((xs.length : Int), ())) (Sum.inr (B1 false)) (fun i hi => ?_) ?_
  · unfold F173 acctsB
    refine bind_eq lp ?_
    cases allI (acctP xs) 0 xs
    · rfl
    · exact (andY (b := iLe (xs.length : Int) 12) (bind_eq (i_wealth xs hx) rfl)).trans rfl
  · unfold F173.b0 acctP
    refine lt_then (Int.ofNat_lt.2 hi) (bind_eq (getI_lt hi) (bind_eq (i_acct _ (Ok_mem hx.2 (List.getElem_mem hi))) (goN ?_)))
    rw [← nxt hi hl]
    exact asc_step hi hl (fun z => ite_tri)
  · unfold F173.b0
    exact lt_else (Int.le_refl _) rfl
theorem i_ledger (x : DLe) (hx : (Ty.sl e153).Ok x.2.1) : F102 (x, ()) = some (B1 (ledgerB x)) := bind_eq (i_in _ _ _) (andY (bind_eq (i_accts _ hx) rfl))

/-- Who votes. -/
def setStep (s : List D188) (y : D153) : List D188 := bif iLe 5 y.2.2.2.1 then s ++ ([(y.1, (y.2.2.2.1, ()))] : List D188) else s
def setL (xs : List D153) : List D188 := xs.foldl setStep []
theorem setStep_len (s : List D188) (y : D153) {i : Nat} (h : s.length ≤ i) : (setStep s y).length ≤ i + 1 := by
  unfold setStep
  cases iLe 5 y.2.2.2.1 with
  | false => exact Nat.le_succ_of_le h
  | true => simp only [cond_true, List.length_append, List.length_cons, List.length_nil]; omega
theorem setL_eq (xs : List D153) : setL xs = (xs.filter (fun y => iLe 5 y.2.2.2.1)).map (fun y => (y.1, (y.2.2.2.1, ()))) := by
  have : ∀ (xs : List D153) (s : List D188), xs.foldl setStep s = s ++ (xs.filter (fun y => iLe 5 y.2.2.2.1)).map (fun y => (y.1, (y.2.2.2.1, ()))) := by
    intro xs
    induction xs with
    | nil => intro s; simp
    | cons x r ih =>
      intro s
      rw [List.foldl_cons, ih, List.filter_cons]
      unfold setStep
      cases iLe 5 x.2.2.2.1 <;> simp
  have h := this xs []
  rw [List.nil_append] at h
  exact h
theorem setL_len (xs : List D153) : (setL xs).length ≤ xs.length := by rw [setL_eq, List.length_map]; exact List.length_filter_le _ _
theorem setL_mem {xs : List D153} {y : D188} (h : y ∈ setL xs) : ∃ a ∈ xs, y = (a.1, (a.2.2.2.1, ())) := by
  rw [setL_eq, List.mem_map] at h
  obtain ⟨a, ha, rfl⟩ := h
  exact ⟨a, (List.mem_filter.1 ha).1, rfl⟩
theorem setL_ok (xs : List D153) (hx : (Ty.sl e153).Ok xs) : (Ty.sl e188).Ok (setL xs) :=
  Ok_of (Nat.le_trans (setL_len xs) hx.1) (fun y hy => by
    obtain ⟨a, ha, e⟩ := setL_mem hy
    have hao : AOk a := Ok_mem hx.2 ha
    rw [e]
    exact ⟨hao.1, hao.2.2.2.1, trivial⟩)
theorem setL_w (xs : List D153) : (Ty.sl e188).w (setL xs) ≤ (Ty.sl e153).w xs := by
  rw [setL_eq]
  exact sumW_fm (f := fun z => e153.w z) (g := fun z => e188.w z) (m := fun y : D153 => ((y.1, (y.2.2.2.1, ())) : D188)) (fun x => Nat.le_trans (Nat.le_of_eq (show x.1.size + (0 + 0) = x.1.size by omega)) (Nat.le_add_right _ _)) xs

theorem s_set7 (x : DLe) (hl : W1 x.2.1.length) : F159 (x, ()) = some ((setL x.2.1, ()), ()) := by
  have lp := loopFold (S := List D188 × (Int × Unit)) (f := F159.b0 (x, ())) x.2.1 setStep (fun i s => s.length ≤ i) (fun a i => (a, (i, ()))) (fun a => Sum.inl (a, ((x.2.1.length : Int), ()))) [] (Nat.le_refl _) (fun i hi a ha => ⟨?_, setStep_len _ _ ha⟩) (fun a _ => ?_)
  · unfold F159
    exact bind_eq lp.1 rfl
  · unfold F159.b0 setStep
    refine lt_then (Int.ofNat_lt.2 hi) (bind_eq (getI_lt hi) ?_)
    rw [← nxt hi hl.l]
    dsimp only
    cases iLe 5 x.2.1[i].2.2.2.1 with
    | false => rfl
    | true => exact bind_eq (getI_lt hi) (bind_eq (getI_lt hi) (room_is (n := a.length + 1) (by unfold W1 at hl; omega) (by decide) (by decide) rfl))
  · unfold F159.b0
    exact lt_else (Int.le_refl _) rfl

def setOfL (x : DLe) : List D188 := bif ledgerB x then setL x.2.1 else []
theorem setOf_ok (x : DLe) (hx : (Ty.sl e153).Ok x.2.1) : (Ty.sl e188).Ok (setOfL x) := by
  unfold setOfL
  cases ledgerB x with
  | true => exact setL_ok _ hx
  | false => exact Ok_nil
theorem i_setOf (x : DLe) (hl : W1 x.2.1.length) (hx : (Ty.sl e153).Ok x.2.1) : F91 (x, ()) = some ((setOfL x, ()), ()) := by
  unfold F91 setOfL
  refine bind_eq (i_ledger _ hx) ((goEq (K := _) (g := some ((setL x.2.1, ()), ())) ?_).trans (by cases ledgerB x <;> rfl))
  have lp := loopFold (S := List D188 × (Int × Unit)) (f := F91.b0 (x, ())) x.2.1 setStep (fun i s => s.length ≤ i) (fun a i => (a, (i, ()))) (fun a => Sum.inl (a, ((x.2.1.length : Int), ()))) [] (Nat.le_refl _) (fun i hi a ha => ⟨?_, setStep_len _ _ ha⟩) (fun a _ => ?_)
  · exact bind_eq lp.1 rfl
  · unfold F91.b0 setStep
    refine lt_then (Int.ofNat_lt.2 hi) (bind_eq (getI_lt hi) ?_)
    rw [← nxt hi hl.l]
    dsimp only
    cases iLe 5 x.2.1[i].2.2.2.1 with
    | false => rfl
    | true => exact room_is (n := a.length + 1) (by unfold W1 at hl; omega) (by decide) (by decide) rfl
  · unfold F91.b0
    exact lt_else (Int.le_refl _) rfl

/-- A certificate; one of leavings. -/
abbrev DQc : Type := Int × (Int × (List D9 × Unit))
abbrev DTc : Type := Int × (List D9 × (List D3 × Unit))
def rootB (q : DQc) : Bool := iEq q.1 0 && (iEq q.2.1 (-1) && iEq (List.length q.2.2.1 : Int) 0)
def noneB (t : DTc) : Bool := iEq t.1 0 && (iEq (List.length t.2.1 : Int) 0 && iEq (List.length t.2.2.1 : Int) 0)
abbrev QOk (q : DQc) : Prop := (Ty.sl e9).Ok q.2.2.1
abbrev TOk (t : DTc) : Prop := (Ty.sl e9).Ok t.2.1 ∧ L63 (List.length t.2.2.1)
def qcF (q : DQc) (round block : Int) : Bool := rootB q || (inR q.1 1 round && (inR q.2.1 0 block && namesB q.2.2.1))
def tcF (t : DTc) (round : Int) : Bool := noneB t || (inR t.1 1 round && (namesB t.2.1 && (iEq (List.length t.2.2.1 : Int) (List.length t.2.1 : Int) && t.2.2.1.all (fun h => inR h.1 0 (iSub .i64 t.1 1)))))
def qcB (l : List D188) (q : DQc) : Bool := rootB q || (inR q.1 1 10000 && (inR q.2.1 0 100000 && (namesB q.2.2.1 && (allInB l q.2.2.1 && quorumB l q.2.2.1))))
def tcB (l : List D188) (t : DTc) : Bool := noneB t || (inR t.1 1 10000 && (namesB t.2.1 && (iEq (List.length t.2.2.1 : Int) (List.length t.2.1 : Int) && (t.2.2.1.all (fun h => inR h.1 0 (iSub .i64 t.1 1)) && (allInB l t.2.1 && quorumB l t.2.1)))))

theorem s_root (q : DQc) : F215 (q, ()) = some (B1 (rootB q)) := by
  unfold F215 rootB
  cases iEq q.1 0 <;> cases iEq q.2.1 (-1) <;> rfl

theorem i_root (q : DQc) : F219 (q, ()) = some (B1 (rootB q)) := by
  unfold F219 rootB
  cases iEq q.1 0 <;> cases iEq q.2.1 (-1) <;> rfl

theorem s_none (t : DTc) : F246 (t, ()) = some (B1 (noneB t)) := by
  unfold F246 noneB
  cases iEq t.1 0 <;> cases iEq (List.length t.2.1 : Int) 0 <;> rfl

theorem i_none (t : DTc) : F247 (t, ()) = some (B1 (noneB t)) := by
  unfold F247 noneB
  cases iEq t.1 0 <;> cases iEq (List.length t.2.1 : Int) 0 <;> rfl

theorem s_qc (l : List D188) (q : DQc) (hl : L63 l.length) (hq : QOk q) : F187 ((l, ()), (q, ())) = some (B1 (qcB l q)) := by
  unfold F187 qcB
  refine bind_eq (s_root q) (orY (bind_eq (s_in _ _ _) (andY (bind_eq (s_in _ _ _) (andY ?_)))))
  refine bind_eq (s_all l _ hl hq) ((andY (bind_eq (s_quorum l _ hl hq.1) rfl)).trans ?_)
  rw [Bool.and_comm (allInB l _) (namesB _), Bool.and_assoc]

theorem i_qcf (q : DQc) (r b : Int) (hq : QOk q) : F220 (q, ((r, ()), ((b, ()), ()))) = some (B1 (qcF q r b)) := by
  unfold F220 qcF
  exact bind_eq (i_root q) (orY (bind_eq (i_in _ _ _) (andY (bind_eq (i_in _ _ _) (andY (bind_eq (i_names _ hq) rfl))))))

theorem i_qc (l : List D188) (q : DQc) (hl : L63 l.length) (hq : QOk q) : F191 ((l, ()), (q, ())) = some (B1 (qcB l q)) := by
  unfold F191
  refine (bind_eq (i_root q) (orY (bind_eq (i_qcf q _ _ hq) (andY (bind_eq (i_quorum l _ hl hq.1) (andY (bind_eq (i_all l _ hl hq.1) rfl))))))).trans ?_
  unfold qcB qcF
  cases rootB q <;> cases inR q.1 1 10000 <;> cases inR q.2.1 0 100000 <;> cases namesB q.2.2.1 <;> cases allInB l q.2.2.1 <;> cases quorumB l q.2.2.1 <;> rfl

theorem i_tcf (t : DTc) (r : Int) (h : TOk t) : F236 (t, ((r, ()), ())) = some (B1 (tcF t r)) := by
  have hl : L63 (List.length t.2.2.1) := h.2
  have lp := loopAllP (S := Int × Unit) t.2.2.1 (fun y => inR y.1 0 (iSub .i64 t.1 1)) (f := F236.b0 (t, ((r, ()), ()))) (fun k => (k, ())) (Sum.inl ((t.2.2.1.length : Int), ())) (Sum.inr (B1 false)) (fun i hi => ?_) ?_
  · unfold F236 tcF
    refine bind_eq (i_none t) (orY (bind_eq lp ?_))
    cases t.2.2.1.all (fun y => inR y.1 0 (iSub .i64 t.1 1))
    · cases inR t.1 1 r <;> cases namesB t.2.1 <;> cases iEq (List.length t.2.2.1 : Int) (List.length t.2.1 : Int) <;> rfl
    · refine (bind_eq (i_in _ _ _) (andY (bind_eq (i_names _ h.1) and_yes))).trans ?_
      cases iEq (List.length t.2.2.1 : Int) (List.length t.2.1 : Int) <;> rfl
  · unfold F236.b0
    refine lt_then (Int.ofNat_lt.2 hi) (bind_eq (getI_lt hi) (bind_eq (i_in _ _ _) ?_))
    rw [← nxt hi hl]
    exact goE
  · unfold F236.b0
    exact lt_else (Int.le_refl _) rfl

/-- An order. -/
def txB (t : D195) : Bool := nameB t.2.1 && (inR t.2.2.2.1 1 1000000 && (inR t.2.2.2.2.1 0 10000 && (bif iEq t.1 1 then nameB t.2.2.1 else (inR t.1 2 3 && sEq t.2.2.1 ⟨#[]⟩))))
abbrev XOk (t : D195) : Prop := L63 t.2.1.size ∧ L63 t.2.2.1.size
theorem XOk_mem {l : List D195} (h : (Ty.sl e195).Ok l) {t : D195} (ht : t ∈ l) : XOk t := ⟨(Ok_mem h.2 ht).2.1, (Ok_mem h.2 ht).2.2.1⟩

theorem s_tx (t : D195) (h : XOk t) : F234 (t, ()) = some (B1 (txB t)) := by
  unfold F234 txB
  refine bind_eq (s_name _ h.1) (andN (bind_eq (s_in _ _ _) (andN (bind_eq (s_in _ _ _) (andN ?_)))))
  cases iEq t.1 1
  · exact bind_eq (s_in _ _ _) and_yes
  · exact bind_eq (s_name _ h.2) rfl

theorem i_tx (t : D195) (h : XOk t) : F242 (t, ()) = some (B1 (txB t)) := by
  unfold F242 txB
  refine (bind_eq (i_in _ _ _) (andN (bind_eq (i_name _ h.1) (andN (bind_eq (i_in _ _ _) (andN (bind_eq (i_in _ _ _) (andN (c := bif iEq t.1 1 then nameB t.2.2.1 else sEq t.2.2.1 ⟨#[]⟩) ?_)))))))).trans ?_
  · cases iEq t.1 1
    · rfl
    · exact bind_eq (i_name _ h.2) rfl
  · have e : inR t.1 1 3 = (iEq t.1 1 || inR t.1 2 3) := by
      simp only [inR, iLe, iEq]
      rw [Bool.eq_iff_iff]
      simp
      omega
    rw [e]
    cases iEq t.1 1 <;> cases inR t.1 2 3 <;> cases nameB t.2.1 <;> cases inR t.2.2.2.1 1 1000000 <;> cases inR t.2.2.2.2.1 0 10000 <;> cases sEq t.2.2.1 ⟨#[]⟩ <;> cases nameB t.2.2.1 <;> rfl

theorem i_txs (l : List D195) (h : (Ty.sl e195).Ok l) : F237 ((l, ()), ()) = some (B1 (l.all txB)) := by
  have hl : L63 l.length := h.1
  have lp := loopAllP (S := Int × Unit) l txB (f := F237.b0 ((l, ()), ())) (fun k => (k, ())) (Sum.inl ((l.length : Int), ())) (Sum.inr (B1 false)) (fun i hi => ?_) ?_
  · unfold F237
    refine bind_eq lp ?_
    cases l.all txB <;> rfl
  · unfold F237.b0
    refine lt_then (Int.ofNat_lt.2 hi) (bind_eq (getI_lt hi) (bind_eq (i_tx _ (XOk_mem h (List.getElem_mem hi))) ?_))
    rw [← nxt hi hl]
    exact goE
  · unfold F237.b0
    exact lt_else (Int.le_refl _) rfl

/-- A block. -/
abbrev DBk : Type := D138
def bQc (b : DBk) : DQc := (b.2.2.2.2.1, (b.2.2.2.2.2.1, (b.2.2.2.2.2.2.1, ())))
def bTc (b : DBk) : DTc := (b.2.2.2.2.2.2.2.1, (b.2.2.2.2.2.2.2.2.1, (b.2.2.2.2.2.2.2.2.2.1, ())))
abbrev bTxs (b : DBk) : List D195 := b.2.2.2.2.2.2.2.2.2.2.1
abbrev bEnd (b : DBk) : Bool := b.2.2.2.2.2.2.2.2.2.2.2.1
abbrev bNext (b : DBk) : List D188 := b.2.2.2.2.2.2.2.2.2.2.2.2.1
abbrev bRoot (b : DBk) : ByteArray := b.2.2.2.2.2.2.2.2.2.2.2.2.2.1
abbrev BOk (b : DBk) : Prop := e138.Ok b
theorem BOk.by_ {b : DBk} (h : BOk b) : L63 b.2.2.2.1.size := h.2.2.2.1
theorem BOk.qc {b : DBk} (h : BOk b) : QOk (bQc b) := h.2.2.2.2.2.2.1
theorem BOk.tc {b : DBk} (h : BOk b) : TOk (bTc b) := ⟨h.2.2.2.2.2.2.2.2.1, h.2.2.2.2.2.2.2.2.2.1.1⟩
theorem BOk.txs {b : DBk} (h : BOk b) : (Ty.sl e195).Ok (bTxs b) := h.2.2.2.2.2.2.2.2.2.2.1
theorem BOk.next {b : DBk} (h : BOk b) : (Ty.sl e188).Ok (bNext b) := h.2.2.2.2.2.2.2.2.2.2.2.2.1

def bodyB (b : DBk) : Bool := bif bEnd b then (setB (bNext b) && iEq ((bRoot b).size : Int) 32) else (iEq (List.length (bNext b) : Int) 0 && sEq (bRoot b) ⟨#[]⟩)
def blockB (b : DBk) : Bool := inR b.1 0 100000 && (inR b.2.1 0 900 && (inR b.2.2.1 1 10000 && (nameB b.2.2.2.1 && (qcF (bQc b) (iSub .i64 b.2.2.1 1) (iSub .i64 b.1 1) && (tcF (bTc b) (iSub .i64 b.2.2.1 1) &&
  (!iLt 4 (List.length (bTxs b) : Int) && ((bTxs b).all txB && bodyB b)))))))

theorem s_qcf (b : DBk) (h : BOk b) : F232 (b, ()) = some (B1 (qcF (bQc b) (iSub .i64 b.2.2.1 1) (iSub .i64 b.1 1))) := by
  unfold F232 qcF
  exact bind_eq (s_root (bQc b)) (orY (bind_eq (s_in _ _ _) (andY (bind_eq (s_in _ _ _) (andY (bind_eq (s_names _ h.qc) rfl))))))
theorem s_tcf (b : DBk) (h : BOk b) : F233 (b, ()) = some (B1 (tcF (bTc b) (iSub .i64 b.2.2.1 1))) := by
  have hl : L63 (List.length (bTc b).2.2.1) := h.tc.2
  have lp := loopAllP (S := Int × Unit) (bTc b).2.2.1 (fun y => inR y.1 0 (iSub .i64 (bTc b).1 1)) (f := F233.b0 (b, ())) (fun k => (k, ())) (Sum.inl (((bTc b).2.2.1.length : Int), ())) (Sum.inr (B1 false)) (fun i hi => ?_) ?_
  · unfold F233 tcF
    refine bind_eq (s_none (bTc b)) (orY (bind_eq (s_in _ _ _) (andN (bind_eq (s_names _ h.tc.1) (andN ?_)))))
    refine (andN (b := iEq (List.length (bTc b).2.2.1 : Int) (List.length (bTc b).2.1 : Int)) (bind_eq lp ?_))
    cases (bTc b).2.2.1.all (fun y => inR y.1 0 (iSub .i64 (bTc b).1 1)) <;> rfl
  · unfold F233.b0
    refine lt_then (Int.ofNat_lt.2 hi) (bind_eq (getI_lt hi) (bind_eq (s_in _ _ _) ?_))
    rw [← nxt hi hl]
    exact goE
  · unfold F233.b0
    exact lt_else (Int.le_refl _) rfl
theorem s_blk (b : DBk) (h : BOk b) : F214 (b, ()) = some (B1 (blockB b)) := by
  have hl : L63 (bTxs b).length := h.txs.1
  have lp := loopAllP (S := Int × Unit) (bTxs b) txB (f := F214.b0 (b, ())) (fun k => (k, ())) (Sum.inl (((bTxs b).length : Int), ())) (Sum.inr (B1 false)) (fun i hi => ?_) ?_
  · unfold F214 blockB
    refine bind_eq (s_in _ _ _) (andN (bind_eq (s_in _ _ _) (andN (bind_eq (s_in _ _ _) (andN (bind_eq (s_name _ h.by_) (andN (bind_eq (s_qcf b h) (andN (bind_eq (s_tcf b h) (andN (noT (bind_eq lp ?_)))))))))))))
    cases (bTxs b).all txB
    · rfl
    · unfold bodyB
      rw [Bool.true_and]
      dsimp only [cond_true, Sum.elim_inl, bEnd]
      cases b.2.2.2.2.2.2.2.2.2.2.2.1
      · exact and_yes
      · exact bind_eq (s_set _ h.next) and_yes
  · unfold F214.b0
    refine lt_then (Int.ofNat_lt.2 hi) (bind_eq (getI_lt hi) (bind_eq (s_tx _ (XOk_mem h.txs (List.getElem_mem hi))) ?_))
    rw [← nxt hi hl]
    exact goE
  · unfold F214.b0
    exact lt_else (Int.le_refl _) rfl

theorem i_blk (b : DBk) (h : BOk b) : F218 (b, ()) = some (B1 (blockB b)) := by
  unfold F218 blockB
  refine bind_eq (i_in _ _ _) (andN (bind_eq (i_in _ _ _) (andN (bind_eq (i_in _ _ _) (andN (bind_eq (i_name _ h.by_) (andN (bind_eq (i_qcf (bQc b) _ _ h.qc) (andN (bind_eq (i_tcf (bTc b) _ h.tc) (andN (noT (bind_eq (i_txs _ h.txs) (andN ?_))))))))))))))
  unfold bodyB
  dsimp only [bEnd]
  cases b.2.2.2.2.2.2.2.2.2.2.2.1
  · exact and_yes
  · exact bind_eq (i_set _ h.next) and_yes

theorem s_cqc (q : DQc) (h : W1 (List.length q.2.2.1)) : F137 (q, ()) = some (q, ()) := by
  unfold F137
  exact room_then h (by decide) (by decide) rfl

theorem s_ctc (t : DTc) (h : W1 (List.length t.2.1)) (h2 : W1 (List.length t.2.2.1)) : F225 (t, ()) = some (t, ()) := by
  unfold F225
  exact room_then h (by decide) (by decide) (room_then h2 (by decide) (by decide) rfl)

theorem i_clV (l : List D188) (h : W1 l.length) : F194 ((l, ()), ()) = some ((l, ()), ()) := by unfold F194; exact clone_ok l h (by decide) (by decide)

/-- A block's lists are not long. -/
def BlockL (x : DBk) : Prop := W1 (List.length (bQc x).2.2.1) ∧ W1 (List.length (bTc x).2.1) ∧ W1 (List.length (bTc x).2.2.1) ∧ W1 (List.length (bTxs x)) ∧ W1 (List.length (bNext x))

theorem s_cblk (x : DBk) (h : BlockL x) : F203 (x, ()) = some (x, ()) := by
  unfold F203
  exact bind_eq (s_cqc (bQc x) h.1) (bind_eq (s_ctc (bTc x) h.2.1 h.2.2.1) (room_then h.2.2.2.1 (by decide) (by decide) (room_then h.2.2.2.2 (by decide) (by decide) rfl)))

theorem s_cblks (xs : List DBk) (hl : W1 xs.length) (hb : ∀ x ∈ xs, BlockL x) : F136 ((xs, ()), ()) = some ((xs, ()), ()) := by
  have lp := loopCopy (S := List DBk × (Int × Unit)) xs (f := F136.b0 ((xs, ()), ())) (fun a k => (a, (k, ()))) (Sum.inl (xs, ((xs.length : Int), ()))) (fun i hi => ?_) ?_
  · unfold F136
    exact bind_eq lp rfl
  · unfold F136.b0
    refine lt_then (Int.ofNat_lt.2 hi) (bind_eq (getI_lt hi) (bind_eq (s_cblk _ (hb _ (List.getElem_mem hi))) (room_one hi hl (by decide) (by decide) ?_)))
    rw [← nxt hi hl.l]; rfl
  · unfold F136.b0
    exact lt_else (Int.le_refl _) rfl

/-- A proof's lists are not long. -/
abbrev DPr : Type := D43
abbrev pBs (p : DPr) : List DBk := p.2.1
def pQ (p : DPr) : DQc := (p.2.2.1, (p.2.2.2.1, (p.2.2.2.2.1, ())))
def ProofL (x : DPr) : Prop := W1 (List.length (pBs x)) ∧ (∀ y ∈ pBs x, BlockL y) ∧ W1 (List.length (pQ x).2.2.1)

theorem s_cproof (x : DPr) (h : ProofL x) : F50 (x, ()) = some (x, ()) := by
  unfold F50
  exact bind_eq (s_cblks _ h.1 h.2.1) (bind_eq (s_cqc (pQ x) h.2.2) rfl)

/-- Blocks of an epoch, one behind the other, certified. -/
def linkP (ep : Int) (set : List D188) (l : List DBk) (i : Nat) (b : DBk) : Bool := blockB b && (iEq b.2.1 ep && behind (fun z y => iEq (bQc y).2.1 z.1 && (iEq (bQc y).1 z.2.2.1 && qcB set (bQc y))) l i b)
def linkB (ep : Int) (set : List D188) (l : List DBk) : Bool := allI (linkP ep set l) 0 l
abbrev DCl : Type := Int × (List D188 × Unit)

theorem s_link (c : DCl) (l : List DBk) (hc : (Ty.sl e188).Ok c.2.1) (h : (Ty.sl e138).Ok l) : F186 (c, ((l, ()), ())) = some (B1 (linkB c.1 c.2.1 l)) := by
  have hl : L63 l.length := h.1
  have lp := loopAll (S := Int × Unit) l (linkP c.1 c.2.1 l) (f := F186.b0 (c, ((l, ()), ()))) (fun k => (k, ())) (Sum.inl ((l.length : Int), ())) (Sum.inr (B1 false)) (fun i hi => ?_) ?_
  · unfold F186 linkB
    refine bind_eq lp ?_
    cases allI (linkP c.1 c.2.1 l) 0 l <;> rfl
  · unfold F186.b0 linkP
    have hb : BOk l[i] := Ok_mem h.2 (List.getElem_mem hi)
    refine lt_then (Int.ofNat_lt.2 hi) (bind_eq (getI_lt hi) (bind_eq (s_blk _ hb) (goN (bind_eq (getI_lt hi) (goN ?_)))))
    rw [← nxt hi hl]
    cases i with
    | zero => rfl
    | succ j =>
      have hp := prev_get (xs := l) (j := j) hl (by omega)
      rw [behind_succ (by omega)]
      refine lt_then (by omega) (bind_eq (getI_lt hi) (bind_eq hp (goN (bind_eq (getI_lt hi) (bind_eq hp (goN (bind_eq (getI_lt hi) (bind_eq (s_qc _ (bQc l[j + 1]) hc.1 hb.qc) goE))))))))
  · unfold F186.b0
    exact lt_else (Int.le_refl _) rfl

theorem i_link (c : DCl) (l : List DBk) (hc : (Ty.sl e188).Ok c.2.1) (h : (Ty.sl e138).Ok l) : F189 (c, ((l, ()), ())) = some (B1 (linkB c.1 c.2.1 l)) := by
  have hl : L63 l.length := h.1
  have lp := loopAll (S := Int × Unit) l (linkP c.1 c.2.1 l) (f := F189.b0 (c, ((l, ()), ()))) (fun k => (k, ())) (Sum.inl ((l.length : Int), ())) (Sum.inr (B1 false)) (fun i hi => ?_) ?_
  · unfold F189 linkB
    refine bind_eq lp ?_
    cases allI (linkP c.1 c.2.1 l) 0 l <;> rfl
  · unfold F189.b0 linkP
    have hb : BOk l[i] := Ok_mem h.2 (List.getElem_mem hi)
    refine lt_then (Int.ofNat_lt.2 hi) (bind_eq (getI_lt hi) ?_)
    rw [Bool.and_left_comm]
    refine goN (bind_eq (i_blk _ hb) (goN ?_))
    rw [← nxt hi hl]
    cases i with
    | zero => rfl
    | succ j =>
      have hp := prev_get (xs := l) (j := j) hl (by omega)
      rw [behind_succ (by omega)]
      exact lt_then (by omega) (bind_eq hp (goN (bind_eq hp (goN (bind_eq (i_qc _ (bQc l[j + 1]) hc.1 hb.qc) goE)))))
  · unfold F189.b0
    exact lt_else (Int.le_refl _) rfl

/-- What is accepted. -/
def lastB (c : DCl) (p : DPr) : Bool := match (pBs p)[(pBs p).length - 1]?, (pBs p)[(pBs p).length - 2]? with
  | some b, some a => iEq b.2.2.1 (iAdd .i64 a.2.2.1 1) && (qcB c.2.1 (pQ p) && (iEq (pQ p).1 b.2.2.1 && iEq (pQ p).2.1 b.1))
  | _, _ => false
def acceptB (c : DCl) (p : DPr) : Bool := setB c.2.1 && (iEq p.1 c.1 && (!iLt ((pBs p).length : Int) 2 && (linkB c.1 c.2.1 (pBs p) && lastB c p)))
def acceptR (c : DCl) (p : DPr) : DCl × ((Bool × Unit) × Unit) := bif acceptB c p then (match ((pBs p).take ((pBs p).length - 1)).find? (fun b => bEnd b) with
  | some b => ((iAdd .i64 c.1 1, (bNext b, ())), ((true, ()), ()))
  | none => (c, ((false, ()), ()))) else (c, ((false, ()), ()))
theorem accN {b c : Bool} {R : Type} {K g x : R} (h : K = bif c then g else x) : (bif !b then x else K) = bif (b && c) then g else x := goN h

theorem s_accept (c : DCl) (p : DPr) (hc : (Ty.sl e188).Ok c.2.1) (hcw : W1 c.2.1.length) (hp : e43.Ok p) (hw : ∀ b ∈ pBs p, W1 (List.length (bNext b))) : F120 (c, (p, ())) = some (acceptR c p) := by
  have hl : L63 (pBs p).length := hp.2.1.1
  have hcopy : F184 (c, ()) = some (c, ()) := by
    unfold F184
    exact room_then hcw (by decide) (by decide) rfl
  have key : F120 (c, (p, ())) = bif acceptB c p then some (match ((pBs p).take ((pBs p).length - 1)).find? (fun b => bEnd b) with
      | some b => ((iAdd .i64 c.1 1, (bNext b, ())), ((true, ()), ()))
      | none => (c, ((false, ()), ()))) else some (c, ((false, ()), ())) := by
    unfold F120 acceptB
    refine bind_eq hcopy (bind_eq (s_set _ hc) (goN (goN ?_)))
    by_cases hn : 2 ≤ (pBs p).length
    · refine goT (bind_eq (s_link c _ hc hp.2.1) (goN ?_))
      have h1 : getI (pBs p) (iSub .i64 ((pBs p).length : Int) 1) = some (pBs p)[(pBs p).length - 1] := by
        rw [iSub_small (by omega) (by omega), show ((pBs p).length : Int) - 1 = (((pBs p).length - 1 : Nat) : Int) by omega]
        exact getI_lt (by omega)
      have h2 : getI (pBs p) (iSub .i64 ((pBs p).length : Int) 2) = some (pBs p)[(pBs p).length - 2] := by
        rw [iSub_small (by omega) (by omega), show ((pBs p).length : Int) - 2 = (((pBs p).length - 2 : Nat) : Int) by omega]
        exact getI_lt (by omega)
      refine bind_eq h1 (bind_eq h2 ?_)
      unfold lastB
      rw [List.getElem?_eq_getElem (show (pBs p).length - 1 < (pBs p).length by omega), List.getElem?_eq_getElem (show (pBs p).length - 2 < (pBs p).length by omega)]
      refine goN (bind_eq (s_qc _ (pQ p) hc.1 hp.2.2.2.2.1) (goN (goN (b := iEq (pQ p).1 _) ?_)))
      refine Eq.trans (b := bif !iEq (pQ p).2.1 (pBs p)[(pBs p).length - 1].1 then some (c, ((false, ()), ())) else some (match ((pBs p).take ((pBs p).length - 1)).find? (fun b => bEnd b) with
        | some b => ((iAdd .i64 c.1 1, (bNext b, ())), ((true, ()), ()))
        | none => (c, ((false, ()), ())))) (congrArg (fun z => bif !iEq (pQ p).2.1 (pBs p)[(pBs p).length - 1].1 then some (c, ((false, ()), ())) else z) ?_) goE
      have hsub : iSub .i64 ((pBs p).length : Int) 1 = (((pBs p).take ((pBs p).length - 1)).length : Int) := by
        rw [iSub_small (by omega) (by omega), List.length_take]; omega
      have lp := loopFindV (S := Int × Unit) ((pBs p).take ((pBs p).length - 1)) (fun b => bEnd b) (f := F120.b0 (c, (p, ()))) (fun k => (k, ())) (Sum.inl ((((pBs p).take ((pBs p).length - 1)).length : Int), ())) (fun b => Sum.inr ((iAdd .i64 c.1 1, (bNext b, ())), ((true, ()), ()))) (fun i hi => ?_) ?_
      · refine bind_eq lp ?_
        cases ((pBs p).take ((pBs p).length - 1)).find? (fun b => bEnd b) <;> rfl
      · have hi2 : i < (pBs p).length := by rw [List.length_take] at hi; omega
        rw [List.getElem_take]
        unfold F120.b0
        refine lt_then (Int.lt_of_lt_of_le (Int.ofNat_lt.2 hi) (Int.le_of_eq hsub.symm)) (bind_eq (getI_lt hi2) ?_)
        rw [← nxt hi2 hl]
        refine if_bool (fun hb => ?_) (fun hb => ?_)
        · rw [show bEnd (pBs p)[i] = true from hb]
          exact bind_eq (getI_lt hi2) (room_then (hw _ (List.getElem_mem hi2)) (by decide) (by decide) rfl)
        · rw [show bEnd (pBs p)[i] = false from hb]; rfl
      · unfold F120.b0
        exact lt_else (Int.le_of_eq hsub) rfl
    · have h : iLt ((pBs p).length : Int) 2 = true := iLt_true (by omega)
      rw [show iLt (List.length (c, (p, ())).2.1.2.1 : Int) 2 = true from h]; rfl
  rw [key]
  unfold acceptR
  cases acceptB c p <;> rfl

theorem idxFunc_blk (l : List DBk) (g : DBk → Option (Bool × Unit)) (p : DBk → Bool) (hg : ∀ x, g x = some (p x, ())) (hl : L63 l.length) : F192 ((l, ()), ((g, ()), ())) = some (I1 (idxOf l p)) := by
  have lp := loopIdx (S := Int × Unit) l p (f := F192.b0 ((l, ()), ((g, ()), ()))) (fun k => (k, ())) (Sum.inl ((l.length : Int), ())) (fun i => Sum.inr (I1 i)) (fun i hi => ?_) ?_
  · unfold F192
    refine bind_eq lp ?_
    rcases idxOf_cases l p with ⟨h1, _, h3⟩ | ⟨j, hj, _, _, h1, _, h3⟩ <;> rw [h1, h3] <;> rfl
  · unfold F192.b0
    refine lt_then (Int.ofNat_lt.2 hi) (bind_eq (getI_lt hi) (bind_eq (hg _) ?_))
    rw [← nxt hi hl]
  · unfold F192.b0
    exact lt_else (Int.le_refl _) rfl

theorem i_accept (c : DCl) (p : DPr) (hc : (Ty.sl e188).Ok c.2.1) (hcw : W1 c.2.1.length) (hp : e43.Ok p) (hw : ∀ b ∈ pBs p, W1 (List.length (bNext b))) : F122 (c, (p, ())) = some (acceptR c p) := by
  have hl : L63 (pBs p).length := hp.2.1.1
  have hcopy : F190 (c, ()) = some (c, ()) := by
    unfold F190
    exact bind_eq (i_clV _ hcw) rfl
  have hno : ((F190 (c, ())).bind fun y => some (y.1, ((false, ()), ()))) = some (c, ((false, ()), ())) := bind_eq hcopy rfl
  have key : F122 (c, (p, ())) = bif acceptB c p then some (match ((pBs p).take ((pBs p).length - 1)).find? (fun b => bEnd b) with
      | some b => ((iAdd .i64 c.1 1, (bNext b, ())), ((true, ()), ()))
      | none => (c, ((false, ()), ()))) else some (c, ((false, ()), ())) := by
    unfold F122
    rw [hno]
    by_cases hn : 2 ≤ (pBs p).length
    · have h1 : getI (pBs p) (iSub .i64 ((pBs p).length : Int) 1) = some (pBs p)[(pBs p).length - 1] := by
        rw [iSub_small (by omega) (by omega), show ((pBs p).length : Int) - 1 = (((pBs p).length - 1 : Nat) : Int) by omega]
        exact getI_lt (by omega)
      have h2 : getI (pBs p) (iSub .i64 (iSub .i64 ((pBs p).length : Int) 1) 1) = some (pBs p)[(pBs p).length - 2] := by
        rw [iSub_small (a := (List.length (pBs p) : Int)) (by omega) (by omega), iSub_small (by omega) (by omega), show ((pBs p).length : Int) - 1 - 1 = (((pBs p).length - 2 : Nat) : Int) by omega]
        exact getI_lt (by omega)
      refine lt_else (a := iSub .i64 ((pBs p).length : Int) 1) (by rw [iSub_small (by omega) (by omega)]; omega) ?_
      refine (goN (bind_eq (i_set _ hc) (goN (bind_eq (i_link c _ hc hp.2.1) (goN (bind_eq h1 (bind_eq h2 (goN (goN (b := iEq (pQ p).1 _) (goN (b := iEq (pQ p).2.1 _) (bind_eq (i_qc _ (pQ p) hc.1 hp.2.2.2.2.1) (goEq ?_)))))))))))).trans (b := bif (iEq p.1 c.1 && (setB c.2.1 && (linkB c.1 c.2.1 (pBs p) && (iEq (pBs p)[(pBs p).length - 2].2.2.1 (iSub .i64 (pBs p)[(pBs p).length - 1].2.2.1 1) && (iEq (pQ p).1 (pBs p)[(pBs p).length - 1].2.2.1 && (iEq (pQ p).2.1 (pBs p)[(pBs p).length - 1].1 && qcB c.2.1 (pQ p))))))) then some (match ((pBs p).take ((pBs p).length - 1)).find? (fun b => bEnd b) with
      | some b => ((iAdd .i64 c.1 1, (bNext b, ())), ((true, ()), ()))
      | none => (c, ((false, ()), ()))) else some (c, ((false, ()), ()))) ?_
      · have hs := sub1 (n := (pBs p).length) (by omega) hl
        have hT : (bif cutHi (((pBs p).length - 1 : Nat) : Int) (pBs p).length then (F192 ((List.take (Int.toNat (((pBs p).length - 1 : Nat) : Int) - 0) (List.drop 0 (pBs p)), ()), (((fun b => some (bEnd b, ())), ()), ()))).bind (fun y => bif iLt y.1.1 0 then some (c, ((false, ()), ())) else (getI (pBs p) y.1.1).bind fun x => (F194 ((bNext x, ()), ())).bind fun z => some ((iAdd .i64 c.1 1, (z.1.1, ())), ((true, ()), ()))) else none) = some (match ((pBs p).take ((pBs p).length - 1)).find? (fun b => bEnd b) with
            | some b => ((iAdd .i64 c.1 1, (bNext b, ())), ((true, ()), ()))
            | none => (c, ((false, ()), ()))) := by
          refine cut_hi (by omega) ?_
          rw [take_nat]
          refine bind_eq (idxFunc_blk _ _ (fun b => bEnd b) (fun _ => rfl) (by rw [List.length_take]; omega)) ?_
          rcases idxOf_cases ((pBs p).take ((pBs p).length - 1)) (fun b => bEnd b) with ⟨_, h2, h3⟩ | ⟨j, hj, hpj, hn, _, h2, h3⟩
          · rw [h2, h3]; rfl
          · rw [h2, h3]
            have hj2 : j < (pBs p).length := by rw [List.length_take] at hj; omega
            rw [List.getElem_take]
            exact pos_else (Int.natCast_nonneg j) (bind_eq (getI_lt hj2) (bind_eq (i_clV _ (hw _ (List.getElem_mem hj2))) rfl))
        rw [← hs] at hT
        exact hT
      · have hb1 : BOk (pBs p)[(pBs p).length - 1] := Ok_mem hp.2.1.2 (List.getElem_mem _)
        have hb2 : BOk (pBs p)[(pBs p).length - 2] := Ok_mem hp.2.1.2 (List.getElem_mem _)
        unfold acceptB lastB
        rw [List.getElem?_eq_getElem (show (pBs p).length - 1 < (pBs p).length by omega), List.getElem?_eq_getElem (show (pBs p).length - 2 < (pBs p).length by omega), ← iEq_up (wfR hb1.2.2.1) (wfR hb2.2.2.1), show iLt ((pBs p).length : Int) 2 = false from iLt_false (by omega)]
        dsimp only
        cases iEq p.1 c.1 <;> cases setB c.2.1 <;> cases linkB c.1 c.2.1 (pBs p) <;> cases iEq (pBs p)[(pBs p).length - 1].2.2.1 (iAdd .i64 (pBs p)[(pBs p).length - 2].2.2.1 1) <;> cases iEq (pQ p).1 (pBs p)[(pBs p).length - 1].2.2.1 <;> cases iEq (pQ p).2.1 (pBs p)[(pBs p).length - 1].1 <;> cases qcB c.2.1 (pQ p) <;> rfl
    · refine lt_then (a := iSub .i64 ((pBs p).length : Int) 1) (by rw [iSub_small (by omega) (by omega)]; omega) ?_
      unfold acceptB
      rw [show iLt ((pBs p).length : Int) 2 = true from iLt_true (by omega)]
      cases setB c.2.1 <;> cases iEq p.1 c.1 <;> rfl
  rw [key]
  unfold acceptR
  cases acceptB c p <;> rfl

def clientL (x : DLe) : DCl := bif ledgerB x then (x.1, (setL x.2.1, ())) else (0, ([], ()))
theorem clientL_ok (x : DLe) (hn : (Lit.int .i64 x.1).wf = true) (hx : (Ty.sl e153).Ok x.2.1) : (.cons (.int .i64) (.cons (.sl e188) .nil) : Tys).Ok (clientL x) := by
  unfold clientL
  cases ledgerB x with
  | true => exact ⟨hn, setL_ok _ hx, trivial⟩
  | false => exact ⟨rfl, Ok_nil, trivial⟩
theorem clientL_w (x : DLe) : (.cons (.int .i64) (.cons (.sl e188) .nil) : Tys).w (clientL x) ≤ (Ty.sl e153).w x.2.1 := by
  unfold clientL
  cases ledgerB x with
  | true =>
    refine Nat.le_trans (Nat.le_of_eq ?_) (setL_w x.2.1)
    show 0 + ((Ty.sl e188).w (setL x.2.1) + 0) = _
    omega
  | false => exact Nat.zero_le _

theorem s_client (x : DLe) (hl : W1 x.2.1.length) (hx : (Ty.sl e153).Ok x.2.1) : F119 (x, ()) = some (clientL x, ()) := by
  unfold F119 clientL
  exact bind_eq (s_ledger _ hx) ((goEq (bind_eq (s_set7 x hl) rfl)).trans (by cases ledgerB x <;> rfl))

theorem i_client (x : DLe) (hl : W1 x.2.1.length) (hx : (Ty.sl e153).Ok x.2.1) : F121 (x, ()) = some (clientL x, ()) := by
  unfold F121 clientL
  refine bind_eq (i_ledger _ hx) ((goEq (bind_eq (i_setOf x hl hx) rfl)).trans ?_)
  unfold setOfL
  cases ledgerB x <;> rfl

/-- A node; how its epochs ended. -/
abbrev DNd : Type := D56
abbrev nPast (n : DNd) : List DPr := n.2.2.2.2.2.2.2.2.2.2.2.2.2.2.2.2.2.2.2.1

def proofR (past : List DPr) (ep : Int) : DPr × ((Bool × Unit) × Unit) := match past.find? (fun p => iEq p.1 ep) with
  | some p => (p, ((true, ()), ()))
  | none => (((0:Int), ([], ((0:Int), ((0:Int), ([], ()))))), ((false, ()), ()))

theorem s_proofOf (n : DNd) (ep : Int) (hl : W1 (nPast n).length) (hp : ∀ p ∈ nPast n, ProofL p) : F9 (n, ((ep, ()), ())) = some (proofR (nPast n) ep) := by
  have lp := loopFindV (S := Int × Unit) (nPast n) (fun p => iEq p.1 ep) (f := F9.b0 (n, ((ep, ()), ()))) (fun k => (k, ())) (Sum.inl (((nPast n).length : Int), ())) (fun p => Sum.inr (p, ((true, ()), ()))) (fun i hi => ?_) ?_
  · unfold F9 proofR
    refine bind_eq lp ?_
    cases (nPast n).find? (fun p => iEq p.1 ep) <;> rfl
  · unfold F9.b0
    refine lt_then (Int.ofNat_lt.2 hi) (bind_eq (getI_lt (xs := nPast n) hi) ?_)
    rw [← nxt hi hl.l]
    refine if_bool (fun hb => ?_) (fun hb => ?_)
    · rw [show iEq (nPast n)[i].1 ep = true from hb]
      exact bind_eq (getI_lt (xs := nPast n) hi) (bind_eq (s_cproof _ (hp _ (List.getElem_mem hi))) rfl)
    · rw [show iEq (nPast n)[i].1 ep = false from hb]; rfl
  · unfold F9.b0
    exact lt_else (Int.le_refl _) rfl

theorem i_proofAt (n : DNd) (ep : Int) (hl : W1 (nPast n).length) : F60 (n, ((ep, ()), ())) = some (I1 (idxOf (nPast n) (fun p => iEq p.1 ep))) := by
  have lp := loopIdx (S := Int × Unit) (nPast n) (fun p => iEq p.1 ep) (f := F144.b0 ((nPast n, ()), (((fun p1 => (F145 ((p1.1, (p1.2.1, (p1.2.2.1, (p1.2.2.2.1, (p1.2.2.2.2.1, ()))))), ((ep, ()), ()))).bind fun y2 => some (y2.1.1, ())), ()), ()))) (fun k => (k, ())) (Sum.inl (((nPast n).length : Int), ())) (fun i => Sum.inr (I1 i)) (fun i hi => ?_) ?_
  · unfold F60 F144
    refine bind_eq (bind_eq lp (r := some (I1 (idxOf (nPast n) (fun p => iEq p.1 ep)))) ?_) rfl
    rcases idxOf_cases (nPast n) (fun p => iEq p.1 ep) with ⟨h1, _, h3⟩ | ⟨j, hj, _, _, h1, _, h3⟩ <;> rw [h1, h3] <;> rfl
  · unfold F144.b0
    refine lt_then (Int.ofNat_lt.2 hi) (bind_eq (getI_lt hi) ?_)
    rw [← nxt hi hl.l]; rfl
  · unfold F144.b0
    exact lt_else (Int.le_refl _) rfl

/-- As long as it is accepted. -/
def followL (past : List DPr) : Nat → DCl → Int → DCl × ((Int × Unit) × Unit)
  | 0, c, k => (c, ((k, ()), ()))
  | f + 1, c, k => match past.find? (fun p => iEq p.1 c.1) with
    | none => (c, ((k, ()), ()))
    | some p => bif (acceptR c p).2.1.1 then followL past f (acceptR c p).1 (iAdd .i64 k 1) else (c, ((k, ()), ()))
/-- How many epochs may still be. -/
def epLeft (c : DCl) : Nat := (901 - c.1).toNat
theorem accept_ep {c : DCl} {p : DPr} (h : (acceptR c p).2.1.1 = true) : 0 ≤ c.1 ∧ c.1 ≤ 900 ∧ (acceptR c p).1.1 = c.1 + 1 := by
  unfold acceptR at h ⊢
  cases hb : acceptB c p with
  | false => rw [hb] at h; exact Bool.noConfusion (show false = true from h)
  | true =>
    rw [hb] at h
    dsimp only [cond_true] at h ⊢
    unfold acceptB at hb
    simp only [Bool.and_eq_true] at hb
    obtain ⟨_, _, hn, hlk, _⟩ := hb
    have hn2 : 2 ≤ (pBs p).length := by
      have : iLt ((pBs p).length : Int) 2 = false := by simpa using hn
      simp [iLt] at this
      omega
    have h0 : linkP c.1 c.2.1 (pBs p) 0 (pBs p)[0] = true := by
      have := allI_get hlk 0 (by omega)
      simpa using this
    unfold linkP blockB at h0
    simp only [Bool.and_eq_true] at h0
    have he : (pBs p)[0].2.1 = c.1 := by have := h0.2.1; simpa [iEq] using this
    have hr : inR (pBs p)[0].2.1 0 900 = true := h0.1.2.1
    rw [he] at hr
    have hr2 : 0 ≤ c.1 ∧ c.1 ≤ 900 := by simpa [inR, iLe] using hr
    refine ⟨hr2.1, hr2.2, ?_⟩
    cases hf : ((pBs p).take ((pBs p).length - 1)).find? (fun b => bEnd b) with
    | none => rw [hf] at h; exact Bool.noConfusion (show false = true from h)
    | some b => exact iAdd_small (by omega) (by omega)
theorem accept_left {c : DCl} {p : DPr} (h : (acceptR c p).2.1.1 = true) : epLeft (acceptR c p).1 < epLeft c := by
  obtain ⟨h1, h2, h3⟩ := accept_ep h
  unfold epLeft
  rw [h3]
  omega
theorem accept_okw (c : DCl) (hc : (.cons (.int .i64) (.cons (.sl e188) .nil) : Tys).Ok c) (hcw : (.cons (.int .i64) (.cons (.sl e188) .nil) : Tys).w c ≤ 1048576) (p : DPr) (hp : e43.Ok p) (hpw : e43.w p ≤ 1048576) :
    (.cons (.int .i64) (.cons (.sl e188) .nil) : Tys).Ok (acceptR c p).1 ∧ (.cons (.int .i64) (.cons (.sl e188) .nil) : Tys).w (acceptR c p).1 ≤ 1048576 := by
  unfold acceptR
  cases acceptB c p with
  | false => exact ⟨hc, hcw⟩
  | true =>
    cases hq : ((pBs p).take ((pBs p).length - 1)).find? (fun b => bEnd b) with
    | none => exact ⟨hc, hcw⟩
    | some b =>
      have hm : b ∈ pBs p := List.mem_of_mem_take (List.mem_of_find?_eq_some hq)
      have hbo : BOk b := Ok_mem hp.2.1.2 hm
      have h1 : e138.w b ≤ 1048576 := w_mem (w_hd (w_tl hpw)) hm
      have h2 : (Ty.sl e188).w (bNext b) ≤ 1048576 := w_hd (w_tl (w_tl (w_tl (w_tl (w_tl (w_tl (w_tl (w_tl (w_tl (w_tl (w_tl (w_tl h1))))))))))))
      refine ⟨⟨okAdd .i64 _, hbo.next, trivial⟩, ?_⟩
      show 0 + ((Ty.sl e188).w (bNext b) + 0) ≤ 1048576
      omega
theorem follow_okw (past : List DPr) (hp : ∀ p ∈ past, e43.Ok p ∧ e43.w p ≤ 1048576) : ∀ (f : Nat) (c : DCl) (k : Int), (.cons (.int .i64) (.cons (.sl e188) .nil) : Tys).Ok c → (.cons (.int .i64) (.cons (.sl e188) .nil) : Tys).w c ≤ 1048576 → (Lit.int .i64 k).wf = true →
    (.cons (.int .i64) (.cons (.sl e188) .nil) : Tys).Ok (followL past f c k).1 ∧ (.cons (.int .i64) (.cons (.sl e188) .nil) : Tys).w (followL past f c k).1 ≤ 1048576 ∧ (Lit.int .i64 (followL past f c k).2.1.1).wf = true
  | 0, c, k, h1, h2, h3 => ⟨h1, h2, h3⟩
  | f + 1, c, k, h1, h2, h3 => by
    unfold followL
    cases hq : past.find? (fun p => iEq p.1 c.1) with
    | none => exact ⟨h1, h2, h3⟩
    | some p =>
      have hm := hp p (List.mem_of_find?_eq_some hq)
      have ha := accept_okw c h1 h2 p hm.1 hm.2
      dsimp only
      cases (acceptR c p).2.1.1 with
      | false => exact ⟨h1, h2, h3⟩
      | true => exact follow_okw past hp f _ _ ha.1 ha.2 (okAdd .i64 _)
theorem prL_of {p : DPr} (hpw : e43.w p ≤ 1048576) : ProofL p := by
  have hbs := w_hd (w_tl hpw)
  refine ⟨w_ln hbs, fun b hb => ?_, w_ln (w_hd (w_tl (w_tl (w_tl (w_tl hpw)))))⟩
  have h1 : e138.w b ≤ 1048576 := w_mem hbs hb
  have h6 := w_tl (w_tl (w_tl (w_tl (w_tl (w_tl h1)))))
  have h8 := w_tl (w_tl h6)
  exact ⟨w_ln (w_hd h6), w_ln (w_hd h8), w_ln (w_hd (w_tl h8)), w_ln (w_hd (w_tl (w_tl h8))), w_ln (w_hd (w_tl (w_tl (w_tl (w_tl h8)))))⟩
theorem nextW {p : DPr} (hpw : e43.w p ≤ 1048576) : ∀ b ∈ pBs p, W1 (List.length (bNext b)) := fun b hb => (prL_of hpw).2.1 b hb |>.2.2.2.2

theorem s_follow (x : DLe) (n : DNd) (hl : W1 (nPast n).length) (hp : ∀ p ∈ nPast n, e43.Ok p ∧ e43.w p ≤ 1048576) : ∀ (f : Nat) (c : DCl) (k : Int), epLeft c < f → (.cons (.int .i64) (.cons (.sl e188) .nil) : Tys).Ok c → (.cons (.int .i64) (.cons (.sl e188) .nil) : Tys).w c ≤ 1048576 → ∀ d : Int,
    loopF (F34.b0 (x, (n, ()))) (d, (k, (c.1, (c.2.1, ())))) = some (.inr (followL (nPast n) f c k))
  | 0, c, k, hf, _, _, d => by omega
  | f + 1, c, k, hf, h1, h2, d => by
    have hpl : ∀ p ∈ nPast n, ProofL p := fun p h => prL_of (hp p h).2
    have hc : ∀ p : DPr, e43.Ok p → e43.w p ≤ 1048576 → F120 (c, (p, ())) = some (acceptR c p) := fun p h3 h4 => s_accept c p h1.2.1 (w_ln (w_hd (w_tl h2))) h3 (nextW h4)
    unfold followL
    cases hq : (nPast n).find? (fun p => iEq p.1 c.1) with
    | none =>
      refine loopF_end ?_
      unfold F34.b0
      refine bind_eq (s_proofOf n c.1 hl hpl) ?_
      unfold proofR
      rw [hq]
      exact bind_eq (hc _ ⟨rfl, Ok_nil, rfl, rfl, Ok_nil, trivial⟩ (Nat.zero_le _)) rfl
    | some p =>
      have hm := hp p (List.mem_of_find?_eq_some hq)
      have hb : F34.b0 (x, (n, ())) (d, (k, (c.1, (c.2.1, ())))) = bif (acceptR c p).2.1.1 then some (.inl (d, (iAdd .i64 k 1, ((acceptR c p).1.1, ((acceptR c p).1.2.1, ()))))) else some (.inr (.inr (c, ((k, ()), ())))) := by
        unfold F34.b0
        refine bind_eq (s_proofOf n c.1 hl hpl) ?_
        unfold proofR
        rw [hq]
        refine bind_eq (hc p hm.1 hm.2) ?_
        dsimp only
        cases (acceptR c p).2.1.1 <;> rfl
      dsimp only
      cases ha : (acceptR c p).2.1.1 with
      | false => rw [ha] at hb; exact loopF_end hb
      | true =>
        rw [ha] at hb
        rw [loopF_step hb]
        have hl2 := accept_left ha
        have h3 := accept_okw c h1 h2 p hm.1 hm.2
        exact s_follow x n hl hp f (acceptR c p).1 _ (by omega) h3.1 h3.2 d
theorem s_followAll (x : DLe) (n : DNd) (hn : (Lit.int .i64 x.1).wf = true) (hx : (Ty.sl e153).Ok x.2.1) (hxw : (Ty.sl e153).w x.2.1 ≤ 1048576) (hl : W1 (nPast n).length) (hp : ∀ p ∈ nPast n, e43.Ok p ∧ e43.w p ≤ 1048576) :
    F34 (x, (n, ())) = some (followL (nPast n) (epLeft (clientL x) + 1) (clientL x) 0) := by
  unfold F34
  exact bind_eq (s_client x (w_ln hxw) hx) (bind_eq (s_follow x n hl hp _ (clientL x) 0 (Nat.lt_succ_self _) (clientL_ok x hn hx) (Nat.le_trans (clientL_w x) hxw) 0) rfl)

theorem i_follow (x : DLe) (n : DNd) (hl : W1 (nPast n).length) (hp : ∀ p ∈ nPast n, e43.Ok p ∧ e43.w p ≤ 1048576) : ∀ (f : Nat) (c : DCl) (k : Int), epLeft c < f → (.cons (.int .i64) (.cons (.sl e188) .nil) : Tys).Ok c → (.cons (.int .i64) (.cons (.sl e188) .nil) : Tys).w c ≤ 1048576 → ∀ d : Int,
    loopF (F35.b0 (x, (n, ()))) (d, (k, (c.1, (c.2.1, ())))) = some (.inr (followL (nPast n) f c k))
  | 0, c, k, hf, _, _, d => by omega
  | f + 1, c, k, hf, h1, h2, d => by
    unfold followL
    rcases idxOf_cases (nPast n) (fun p => iEq p.1 c.1) with ⟨_, hq, hi⟩ | ⟨j, hj, _, _, _, hq, hi⟩
    · rw [hq]
      refine loopF_end ?_
      unfold F35.b0
      refine bind_eq (i_proofAt n c.1 hl) ?_
      rw [hi]; rfl
    · rw [hq]
      have hm := hp _ (List.getElem_mem hj)
      have hb : F35.b0 (x, (n, ())) (d, (k, (c.1, (c.2.1, ())))) = bif (acceptR c (nPast n)[j]).2.1.1 then some (.inl (d, (iAdd .i64 k 1, ((acceptR c (nPast n)[j]).1.1, ((acceptR c (nPast n)[j]).1.2.1, ()))))) else some (.inr (.inr (c, ((k, ()), ())))) := by
        unfold F35.b0
        refine bind_eq (i_proofAt n c.1 hl) ?_
        rw [hi]
        refine pos_else (Int.natCast_nonneg j) (bind_eq (getI_lt (xs := nPast n) hj) (bind_eq (i_accept c _ h1.2.1 (w_ln (w_hd (w_tl h2))) hm.1 (nextW hm.2)) ?_))
        dsimp only
        cases (acceptR c (nPast n)[j]).2.1.1 <;> rfl
      dsimp only
      cases ha : (acceptR c (nPast n)[j]).2.1.1 with
      | false => rw [ha] at hb; exact loopF_end hb
      | true =>
        rw [ha] at hb
        rw [loopF_step hb]
        have hl2 := accept_left ha
        have h3 := accept_okw c h1 h2 _ hm.1 hm.2
        exact i_follow x n hl hp f (acceptR c (nPast n)[j]).1 _ (by omega) h3.1 h3.2 d
theorem i_followAll (x : DLe) (n : DNd) (hn : (Lit.int .i64 x.1).wf = true) (hx : (Ty.sl e153).Ok x.2.1) (hxw : (Ty.sl e153).w x.2.1 ≤ 1048576) (hl : W1 (nPast n).length) (hp : ∀ p ∈ nPast n, e43.Ok p ∧ e43.w p ≤ 1048576) :
    F35 (x, (n, ())) = some (followL (nPast n) (epLeft (clientL x) + 1) (clientL x) 0) := by
  unfold F35
  exact bind_eq (i_client x (w_ln hxw) hx) (bind_eq (i_follow x n hl hp _ (clientL x) 0 (Nat.lt_succ_self _) (clientL_ok x hn hx) (Nat.le_trans (clientL_w x) hxw) 0) rfl)

theorem L_Accept (c : DCl) (hc : (.cons (.int .i64) (.cons (.sl e188) .nil) : Tys).Ok c) (hcw : (.cons (.int .i64) (.cons (.sl e188) .nil) : Tys).w c ≤ 1048576) (p : DPr) (hp : e43.Ok p) (hpw : e43.w p ≤ 1048576) :
    ∃ R, F120 (c, (p, ())) = some R ∧ F122 (c, (p, ())) = some R ∧ (.cons (.int .i64) (.cons (.sl e188) .nil) : Tys).Ok R.1 ∧ (.cons (.int .i64) (.cons (.sl e188) .nil) : Tys).w R.1 ≤ 67108864 ∧ (.cons .bool .nil : Tys).Ok R.2.1 ∧ (.cons .bool .nil : Tys).w R.2.1 ≤ 67108864 := by
  have hn : ∀ b ∈ pBs p, (Ty.sl e188).w (bNext b) ≤ 1048576 := fun b hb => by
    have h1 : e138.w b ≤ 1048576 := w_mem (w_hd (w_tl hpw)) hb
    exact w_hd (w_tl (w_tl (w_tl (w_tl (w_tl (w_tl (w_tl (w_tl (w_tl (w_tl (w_tl (w_tl h1))))))))))))
  have hcl : (Ty.sl e188).w c.2.1 ≤ 1048576 := w_hd (w_tl hcw)
  refine ⟨_, s_accept c p hc.2.1 (w_ln hcl) hp (fun b hb => w_ln (hn b hb)), i_accept c p hc.2.1 (w_ln hcl) hp (fun b hb => w_ln (hn b hb)), ?_⟩
  unfold acceptR
  cases acceptB c p with
  | false => exact ⟨hc, Nat.le_trans hcw (by decide), ⟨trivial, trivial⟩, Nat.zero_le _⟩
  | true =>
    cases hq : ((pBs p).take ((pBs p).length - 1)).find? (fun b => bEnd b) with
    | none => exact ⟨hc, Nat.le_trans hcw (by decide), ⟨trivial, trivial⟩, Nat.zero_le _⟩
    | some b =>
      have hm : b ∈ pBs p := List.mem_of_mem_take (List.mem_of_find?_eq_some hq)
      have hbo : BOk b := Ok_mem hp.2.1.2 hm
      refine ⟨⟨okAdd .i64 _, hbo.next, trivial⟩, ?_, ⟨trivial, trivial⟩, Nat.zero_le _⟩
      have := hn b hm
      show 0 + ((Ty.sl e188).w (bNext b) + 0) ≤ 67108864
      omega

theorem past_hyp {n : DNd} (hn : e56.Ok n) (hw : e56.w n ≤ 1048576) : W1 (nPast n).length ∧ ∀ p ∈ nPast n, e43.Ok p ∧ e43.w p ≤ 1048576 := by
  have h := w_hd (w_tl (w_tl (w_tl (w_tl (w_tl (w_tl (w_tl (w_tl (w_tl (w_tl (w_tl (w_tl (w_tl (w_tl (w_tl (w_tl (w_tl (w_tl (w_tl hw)))))))))))))))))))
  exact ⟨w_ln h, fun p hp => ⟨Ok_mem hn.2.2.2.2.2.2.2.2.2.2.2.2.2.2.2.2.2.2.2.1.2 hp, w_mem h hp⟩⟩
theorem L_FollowAll (x : DLe) (hx : e48.Ok x) (hxw : e48.w x ≤ 1048576) (n : DNd) (hn : e56.Ok n) (hw : e56.w n ≤ 1048576) :
    ∃ R, F34 (x, (n, ())) = some R ∧ F35 (x, (n, ())) = some R ∧ (.cons (.int .i64) (.cons (.sl e188) .nil) : Tys).Ok R.1 ∧ (.cons (.int .i64) (.cons (.sl e188) .nil) : Tys).w R.1 ≤ 67108864 ∧ (.cons (.int .i64) .nil : Tys).Ok R.2.1 ∧ (.cons (.int .i64) .nil : Tys).w R.2.1 ≤ 67108864 := by
  obtain ⟨h1, h2⟩ := past_hyp hn hw
  have hxw2 := w_hd (w_tl hxw)
  have h3 := follow_okw (nPast n) h2 (epLeft (clientL x) + 1) (clientL x) 0 (clientL_ok x hx.1 hx.2.1) (Nat.le_trans (clientL_w x) hxw2) rfl
  exact ⟨_, s_followAll x n hx.1 hx.2.1 hxw2 h1 h2, i_followAll x n hx.1 hx.2.1 hxw2 h1 h2, h3.1, Nat.le_trans h3.2.1 (by decide), ⟨h3.2.2, trivial⟩, Nat.zero_le _⟩
end Go.Proofs.YtphaibffjdfhpaaGreat
