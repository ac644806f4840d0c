/- Plain laws, part 1: what the program's functions and the reference's compute, told as plain words. Conditions: none. -/
import Derived.Test.YtmfeejonafjehaaGreatSuH
import Derived.Test.YtmfeejonafjehaaGreatTm4
namespace Go.Proofs.YtmfeejonafjehaaGreat
open Go Go.Tm
set_option linter.unusedVariables false
set_option maxRecDepth 100000

theorem s_in (n lo hi : Int) : F86 ((n, ()), ((lo, ()), ((hi, ()), ()))) = some (B1 (inR n lo hi)) := inR_ite

theorem i_in (n lo hi : Int) : F111 ((n, ()), ((lo, ()), ((hi, ()), ()))) = some (B1 (inR n lo hi)) := inR_ite

/-- A letter of a name; a name. -/
def letter (b : UInt8) : Bool := inR (UInt8.toNat b : Int) 97 122 || inR (UInt8.toNat b : Int) 48 57
def nameB (s : ByteArray) : Bool := s.data.toList.all letter && inR (s.size : Int) 1 8
theorem sz_list (s : ByteArray) : s.size = s.data.toList.length := rfl

theorem s_name (s : ByteArray) (hs : L63 s.size) : F81 ((s, ()), ()) = some (B1 (nameB s)) := by
  have lp := loopAllP (S := Int × Unit) s.data.toList letter (f := F81.b0 ((s, ()), ())) (fun k => (k, ())) (Sum.inl ((s.data.toList.length : Int), ())) (Sum.inr (B1 false)) (fun i hi => ?_) ?_
  · unfold F81 nameB
    refine bind_eq lp ?_
    cases s.data.toList.all letter
    · rfl
    · exact (congrArg (fun o => Option.bind o _) (s_in _ _ _)).trans rfl
  · unfold F81.b0 letter
    refine lt_then (Int.ofNat_lt.2 hi) (bind_eq (getI_lt hi) (bind_eq (s_in _ _ _) ?_))
    rw [← nxt hi hs, wrap_byte]
    cases inR (UInt8.toNat s.data.toList[i] : Int) 97 122
    · refine bind_eq (getI_lt hi) (bind_eq (s_in _ _ _) ?_)
      rw [wrap_byte]
      cases inR (UInt8.toNat s.data.toList[i] : Int) 48 57 <;> rfl
    · rfl
  · unfold F81.b0
    exact lt_else (Int.le_refl _) rfl

theorem i_name (s : ByteArray) (hs : L63 s.size) : F107 ((s, ()), ()) = some (B1 (nameB s)) := by
  have lp := loopAllP (S := Int × Unit) s.data.toList letter (f := F107.b0 ((s, ()), ())) (fun k => (k, ())) (Sum.inl ((s.data.toList.length : Int), ())) (Sum.inr (B1 false)) (fun i hi => ?_) ?_
  · unfold F107 nameB
    refine bind_eq lp ?_
    cases s.data.toList.all letter
    · rfl
    · exact (congrArg (fun o => Option.bind o _) (i_in _ _ _)).trans rfl
  · unfold F107.b0 letter inR
    refine lt_then (Int.ofNat_lt.2 hi) (bind_eq (getI_lt hi) ?_)
    rw [← nxt hi hs]
    simp only [getI_lt hi, Option.bind_some]
    cases iLe (97:Int) (UInt8.toNat s.data.toList[i] : Int) <;> cases iLe (UInt8.toNat s.data.toList[i] : Int) (122:Int) <;> cases iLe (48:Int) (UInt8.toNat s.data.toList[i] : Int) <;> cases iLe (UInt8.toNat s.data.toList[i] : Int) (57:Int) <;> rfl
  · unfold F107.b0
    exact lt_else (Int.le_refl _) rfl

/-- Names, in order. -/
def namP (xs : List D9) (i : Nat) (y : D9) : Bool := nameB y.1 && behind (fun z y => sLt z.1 y.1) xs i y
def namesB (xs : List D9) : Bool := allI (namP xs) 0 xs && iLe (xs.length : Int) 20

theorem s_names (xs : List D9) (hx : (Ty.sl e9).Ok xs) : F171 ((xs, ()), ()) = some (B1 (namesB xs)) := by
  have hl : L63 xs.length := hx.1
  have lp := loopAll (S := Int × Unit) xs (namP xs) (f := F171.b0 ((xs, ()), ())) (fun k => (k, ())) (Sum.inl ((xs.length : Int), ())) (Sum.inr (B1 false)) (fun i hi => ?_) ?_
  · unfold F171 namesB
    refine bind_eq lp ?_
    cases allI (namP xs) 0 xs <;> rfl
  · unfold F171.b0 namP
    refine lt_then (Int.ofNat_lt.2 hi) (bind_eq (getI_lt hi) (bind_eq (s_name _ (Ok_mem hx.2 (List.getElem_mem hi)).1) (goN ?_)))
    rw [← nxt hi hl]
    exact asc_step hi hl (fun z => bind_eq (getI_lt hi) goE)
  · unfold F171.b0
    exact lt_else (Int.le_refl _) rfl

theorem i_names (xs : List D9) (hx : (Ty.sl e9).Ok xs) : F178 ((xs, ()), ()) = some (B1 (namesB xs)) := by
  have hl : L63 xs.length := hx.1
  have lp := loopAll (S := Int × Unit) xs (namP xs) (f := F178.b0 ((xs, ()), ())) (fun k => (k, ())) (Sum.inl ((xs.length : Int), ())) (Sum.inr (B1 false)) (fun i hi => ?_) ?_
  · unfold F178 namesB
    refine bind_eq lp ?_
    cases allI (namP xs) 0 xs <;> rfl
  · unfold F178.b0 namP
    refine lt_then (Int.ofNat_lt.2 hi) (bind_eq (getI_lt hi) (bind_eq (i_name _ (Ok_mem hx.2 (List.getElem_mem hi)).1) (goN ?_)))
    rw [← nxt hi hl]
    exact asc_step hi hl (fun z => ite_tri)
  · unfold F178.b0
    exact lt_else (Int.le_refl _) rfl

/-- Those who vote. -/
def valP (xs : List D143) (i : Nat) (y : D143) : Bool := nameB y.1 && (inR y.2.1 1 1000000 && behind (fun z y => sLt z.1 y.1) xs i y)
def setB (xs : List D143) : Bool := allI (valP xs) 0 xs && inR (xs.length : Int) 1 12

theorem s_set (xs : List D143) (hx : (Ty.sl e143).Ok xs) : F84 ((xs, ()), ()) = some (B1 (setB xs)) := by
  have hl : L63 xs.length := hx.1
  have lp := loopAll (S := Int × Unit) xs (valP xs) (f := F84.b0 ((xs, ()), ())) (fun k => (k, ())) (Sum.inl ((xs.length : Int), ())) (Sum.inr (B1 false)) (fun i hi => ?_) ?_
  · unfold F84 setB
    refine bind_eq lp ?_
    cases allI (valP xs) 0 xs
    · rfl
    · exact (congrArg (fun o => Option.bind o _) (s_in _ _ _)).trans rfl
  · unfold F84.b0 valP
    refine lt_then (Int.ofNat_lt.2 hi) (bind_eq (getI_lt hi) (bind_eq (s_name _ (Ok_mem hx.2 (List.getElem_mem hi)).1) (goN (bind_eq (getI_lt hi) (bind_eq (s_in _ _ _) (goN ?_))))))
    rw [← nxt hi hl]
    exact asc_step hi hl (fun z => bind_eq (getI_lt hi) goE)
  · unfold F84.b0
    exact lt_else (Int.le_refl _) rfl

theorem i_set (xs : List D143) (hx : (Ty.sl e143).Ok xs) : F109 ((xs, ()), ()) = some (B1 (setB xs)) := by
  have hl : L63 xs.length := hx.1
  have lp := loopAll (S := Int × Unit) xs (valP xs) (f := F109.b0 ((xs, ()), ())) (fun k => (k, ())) (Sum.inl ((xs.length : Int), ())) (Sum.inr (B1 false)) (fun i hi => ?_) ?_
  · unfold F109 setB
    refine bind_eq lp ?_
    cases allI (valP xs) 0 xs
    · rfl
    · exact (congrArg (fun o => Option.bind o _) (i_in _ _ _)).trans rfl
  · unfold F109.b0 valP
    refine lt_then (Int.ofNat_lt.2 hi) (bind_eq (getI_lt hi) (bind_eq (i_name _ (Ok_mem hx.2 (List.getElem_mem hi)).1) (goN (bind_eq (i_in _ _ _) (goN ?_)))))
    rw [← nxt hi hl]
    exact asc_step hi hl (fun z => ite_tri)
  · unfold F109.b0
    exact lt_else (Int.le_refl _) rfl

/-- Is it among those who vote? among names? -/
def inB (l : List D143) (s : ByteArray) : Bool := l.any (fun v => sEq v.1 s)
def hasB (l : List D9) (s : ByteArray) : Bool := l.any (fun v => sEq v.1 s)

theorem s_isin (l : List D143) (s : ByteArray) (hl : L63 l.length) : F170 ((l, ()), ((s, ()), ())) = some (B1 (inB l s)) := by
  have lp := loopHas (S := Int × Unit) l (fun v => sEq v.1 s) (f := F170.b0 ((l, ()), ((s, ()), ()))) (fun k => (k, ())) (Sum.inl ((l.length : Int), ())) (Sum.inr (B1 true)) (fun i hi => ?_) ?_
  · unfold F170 inB
    refine bind_eq lp ?_
    cases l.any (fun v => sEq v.1 s) <;> rfl
  · unfold F170.b0
    refine lt_then (Int.ofNat_lt.2 hi) (bind_eq (getI_lt hi) ?_)
    rw [← nxt hi hl]
  · unfold F170.b0
    exact lt_else (Int.le_refl _) rfl

theorem s_has (l : List D9) (s : ByteArray) (hl : L63 l.length) : F190 ((l, ()), ((s, ()), ())) = some (B1 (hasB l s)) := by
  have lp := loopHas (S := Int × Unit) l (fun v => sEq v.1 s) (f := F190.b0 ((l, ()), ((s, ()), ()))) (fun k => (k, ())) (Sum.inl ((l.length : Int), ())) (Sum.inr (B1 true)) (fun i hi => ?_) ?_
  · unfold F190 hasB
    refine bind_eq lp ?_
    cases l.any (fun v => sEq v.1 s) <;> rfl
  · unfold F190.b0
    refine lt_then (Int.ofNat_lt.2 hi) (bind_eq (getI_lt hi) ?_)
    rw [← nxt hi hl]
  · unfold F190.b0
    exact lt_else (Int.le_refl _) rfl

theorem idxFunc_val (l : List D143) (g : D143 → Option (Bool × Unit)) (p : D143 → Bool) (hg : ∀ x, g x = some (p x, ())) (hl : L63 l.length) : F199 ((l, ()), ((g, ()), ())) = some (I1 (idxOf l p)) := by
  have lp := loopIdx (S := Int × Unit) l p (f := F199.b0 ((l, ()), ((g, ()), ()))) (fun k => (k, ())) (Sum.inl ((l.length : Int), ())) (fun i => Sum.inr (I1 i)) (fun i hi => ?_) ?_
  · unfold F199
    refine bind_eq lp ?_
    rcases idxOf_cases l p with ⟨h1, _, h3⟩ | ⟨j, hj, _, _, h1, _, h3⟩ <;> rw [h1, h3] <;> rfl
  · unfold F199.b0
    refine lt_then (Int.ofNat_lt.2 hi) (bind_eq (getI_lt hi) (bind_eq (hg _) ?_))
    rw [← nxt hi hl]
  · unfold F199.b0
    exact lt_else (Int.le_refl _) rfl

theorem i_isin (l : List D143) (s : ByteArray) (hl : L63 l.length) : F181 ((l, ()), ((s, ()), ())) = some (B1 (inB l s)) := by
  unfold F181 F194
  refine bind_eq (bind_eq (idxFunc_val l _ (fun v => sEq v.1 s) (fun x => rfl) hl) rfl) ?_
  rw [idxOf_any]; rfl

theorem i_idxS (l : List D9) (s : ByteArray) (hl : L63 l.length) : F198 ((l, ()), ((s, ()), ())) = some (I1 (idxOf l (fun v => sEq s v.1))) := by
  have lp := loopIdx (S := Int × Unit) l (fun v => sEq s v.1) (f := F198.b0 ((l, ()), ((s, ()), ()))) (fun k => (k, ())) (Sum.inl ((l.length : Int), ())) (fun i => Sum.inr (I1 i)) (fun i hi => ?_) ?_
  · unfold F198
    refine bind_eq lp ?_
    rcases idxOf_cases l (fun v => sEq s v.1) with ⟨h1, _, h3⟩ | ⟨j, hj, _, _, h1, _, h3⟩ <;> rw [h1, h3] <;> rfl
  · unfold F198.b0
    refine lt_then (Int.ofNat_lt.2 hi) (bind_eq (getI_lt hi) ?_)
    rw [← nxt hi hl]
  · unfold F198.b0
    exact lt_else (Int.le_refl _) rfl
theorem i_has (l : List D9) (s : ByteArray) (hl : L63 l.length) : F193 ((l, ()), ((s, ()), ())) = some (B1 (hasB l s)) := by
  unfold F193 hasB
  refine bind_eq (i_idxS l s hl) ?_
  rw [idxOf_any]
  simp only [sEq_comm]

def allInB (l : List D143) (names : List D9) : Bool := names.all (fun n => inB l n.1)

theorem s_all (l : List D143) (names : List D9) (hl : L63 l.length) (hn : (Ty.sl e9).Ok names) : F140 ((l, ()), ((names, ()), ())) = some (B1 (allInB l names && namesB names)) := by
  have lp := loopAllP (S := Int × Unit) names (fun n => inB l n.1) (f := F140.b0 ((l, ()), ((names, ()), ()))) (fun k => (k, ())) (Sum.inl ((names.length : Int), ())) (Sum.inr (B1 false)) (fun i hi => ?_) ?_
  · unfold F140 allInB
    refine bind_eq lp ?_
    cases names.all (fun n => inB l n.1)
    · rfl
    · exact (congrArg (fun o => Option.bind o _) (s_names _ hn)).trans rfl
  · unfold F140.b0
    refine lt_then (Int.ofNat_lt.2 hi) (bind_eq (getI_lt hi) (bind_eq (s_isin _ _ hl) ?_))
    rw [← nxt hi hn.1]
    exact goE
  · unfold F140.b0
    exact lt_else (Int.le_refl _) rfl

theorem i_all (l : List D143) (names : List D9) (hl : L63 l.length) (hn : L63 names.length) : F152 ((l, ()), ((names, ()), ())) = some (B1 (allInB l names)) := by
  have lp := loopAllP (S := Int × Unit) names (fun n => inB l n.1) (f := F152.b0 ((l, ()), ((names, ()), ()))) (fun k => (k, ())) (Sum.inl ((names.length : Int), ())) (Sum.inr (B1 false)) (fun i hi => ?_) ?_
  · unfold F152 allInB
    refine bind_eq lp ?_
    cases names.all (fun n => inB l n.1) <;> rfl
  · unfold F152.b0
    refine lt_then (Int.ofNat_lt.2 hi) (bind_eq (getI_lt hi) (bind_eq (i_isin _ _ hl) ?_))
    rw [← nxt hi hn]
    exact goE
  · unfold F152.b0
    exact lt_else (Int.le_refl _) rfl

/-- What they weigh. -/
def weight (xs : List D143) (names : List D9) : Int := xs.foldl (fun n v => bif hasB names v.1 then iAdd .i64 n v.2.1 else n) 0
def total (xs : List D143) : Int := xs.foldl (fun n v => iAdd .i64 n v.2.1) 0
def quorumB (l : List D143) (names : List D9) : Bool := iLt (iMul .i64 2 (total l)) (iMul .i64 3 (weight l names))

theorem s_weight (xs : List D143) (names : List D9) (hx : L63 xs.length) (hl : L63 names.length) : F172 ((xs, ()), ((names, ()), ())) = some (I1 (weight xs names)) := by
  have lp := loopFold0 (S := Int × (Int × Unit)) xs (fun n v => bif hasB names v.1 then iAdd .i64 n v.2.1 else n) (f := F172.b0 ((xs, ()), ((names, ()), ()))) (fun a i => (a, (i, ()))) (fun a => Sum.inl (a, ((xs.length : Int), ()))) 0 (fun i hi a => ?_) (fun a => ?_)
  · unfold F172
    exact bind_eq lp rfl
  · unfold F172.b0
    refine lt_then (Int.ofNat_lt.2 hi) (bind_eq (getI_lt hi) (bind_eq (s_has _ _ hl) ?_))
    rw [← nxt hi hx]
    dsimp only
    cases hasB names xs[i].1
    · rfl
    · exact bind_eq (getI_lt hi) rfl
  · unfold F172.b0
    exact lt_else (Int.le_refl _) rfl

theorem i_weight (xs : List D143) (names : List D9) (hx : L63 xs.length) (hl : L63 names.length) : F179 ((xs, ()), ((names, ()), ())) = some (I1 (weight xs names)) := by
  have lp := loopFold0 (S := Int × (Int × Unit)) xs (fun n v => bif hasB names v.1 then iAdd .i64 n v.2.1 else n) (f := F179.b0 ((xs, ()), ((names, ()), ()))) (fun a i => (a, (i, ()))) (fun a => Sum.inl (a, ((xs.length : Int), ()))) 0 (fun i hi a => ?_) (fun a => ?_)
  · unfold F179
    exact bind_eq lp rfl
  · unfold F179.b0
    refine lt_then (Int.ofNat_lt.2 hi) (bind_eq (getI_lt hi) (bind_eq (i_has _ _ hl) ?_))
    rw [← nxt hi hx]
    dsimp only
    cases hasB names xs[i].1 <;> rfl
  · unfold F179.b0
    exact lt_else (Int.le_refl _) rfl

theorem s_total (xs : List D143) (hx : L63 xs.length) : F173 ((xs, ()), ()) = some (I1 (total xs)) := by
  have lp := loopFold0 (S := Int × (Int × Unit)) xs (fun n v => iAdd .i64 n v.2.1) (f := F173.b0 ((xs, ()), ())) (fun a i => (a, (i, ()))) (fun a => Sum.inl (a, ((xs.length : Int), ()))) 0 (fun i hi a => ?_) (fun a => ?_)
  · unfold F173
    exact bind_eq lp rfl
  · unfold F173.b0
    refine lt_then (Int.ofNat_lt.2 hi) (bind_eq (getI_lt hi) ?_)
    rw [← nxt hi hx]
  · unfold F173.b0
    exact lt_else (Int.le_refl _) rfl

theorem i_total (xs : List D143) (hx : L63 xs.length) : F180 ((xs, ()), ()) = some (I1 (total xs)) := by
  have lp := loopFold0 (S := Int × (Int × Unit)) xs (fun n v => iAdd .i64 n v.2.1) (f := F180.b0 ((xs, ()), ())) (fun a i => (a, (i, ()))) (fun a => Sum.inl (a, ((xs.length : Int), ()))) 0 (fun i hi a => ?_) (fun a => ?_)
  · unfold F180
    exact bind_eq lp rfl
  · unfold F180.b0
    refine lt_then (Int.ofNat_lt.2 hi) (bind_eq (getI_lt hi) ?_)
    rw [← nxt hi hx]
  · unfold F180.b0
    exact lt_else (Int.le_refl _) rfl

theorem s_quorum (l : List D143) (names : List D9) (hl : L63 l.length) (hn : L63 names.length) : F141 ((l, ()), ((names, ()), ())) = some (B1 (quorumB l names)) :=
  bind_eq (s_weight l names hl hn) (bind_eq (s_total l hl) rfl)

theorem i_quorum (l : List D143) (names : List D9) (hl : L63 l.length) (hn : L63 names.length) : F151 ((l, ()), ((names, ()), ())) = some (B1 (quorumB l names)) :=
  bind_eq (i_weight l names hl hn) (bind_eq (i_total l hl) rfl)

/-- What leaves, in order; an account. -/
def leafP (xs : List D205) (i : Nat) (y : D205) : Bool := inR y.1 1 1000000 && (inR y.2.1 0 1000 && behind (fun z y => iLt z.2.1 y.2.1) xs i y)
def leavesB (xs : List D205) : Bool := allI (leafP xs) 0 xs
def acctB (a : D183) : Bool := nameB a.1 && (inR a.2.1 0 1000000 && (inR a.2.2.1 0 10000 && (inR a.2.2.2.1 0 1000000 && (iLe (List.length a.2.2.2.2.1 : Int) 4 && leavesB a.2.2.2.2.1))))
abbrev AOk (a : D183) : Prop := e183.Ok a
theorem AOk.ls {a : D183} (h : AOk a) : (Ty.sl e205).Ok a.2.2.2.2.1 := h.2.2.2.2.1

theorem s_acct (a : D183) (h : AOk a) : F166 (a, ()) = some (B1 (acctB a)) := by
  have hl : L63 (List.length a.2.2.2.2.1) := h.ls.1
  have lp := loopAll (S := Int × Unit) a.2.2.2.2.1 (leafP a.2.2.2.2.1) (f := F166.b0 (a, ())) (fun k => (k, ())) (Sum.inl ((List.length a.2.2.2.2.1 : Int), ())) (Sum.inr (B1 false)) (fun i hi => ?_) ?_
  · unfold F166 acctB leavesB
    rw [iLe_lt]
    refine bind_eq (s_name _ h.1) (andN (bind_eq (s_in _ _ _) (andN (bind_eq (s_in _ _ _) (andN (bind_eq (s_in _ _ _) (andN (noT (bind_eq lp ?_)))))))))
    cases allI (leafP a.2.2.2.2.1) 0 a.2.2.2.2.1 <;> rfl
  · unfold F166.b0 leafP
    refine lt_then (Int.ofNat_lt.2 hi) (bind_eq (getI_lt hi) (bind_eq (s_in _ _ _) (goN (bind_eq (s_in _ _ _) (goN ?_)))))
    rw [← nxt hi hl]
    exact asc_step hi hl (fun z => le_ite)
  · unfold F166.b0
    exact lt_else (Int.le_refl _) rfl

theorem i_amount (n : Int) : F192 ((n, ()), ()) = some (B1 (inR n 0 1000000)) := bind_eq (i_in _ _ _) rfl
theorem i_acct (a : D183) (h : AOk a) : F176 (a, ()) = some (B1 (acctB a)) := by
  have hl : L63 (List.length a.2.2.2.2.1) := h.ls.1
  have lp := loopAll (S := Int × Unit) a.2.2.2.2.1 (leafP a.2.2.2.2.1) (f := F176.b0 (a, ())) (fun k => (k, ())) (Sum.inl ((List.length a.2.2.2.2.1 : Int), ())) (Sum.inr (B1 false)) (fun i hi => ?_) ?_
  · unfold F176 acctB leavesB
    refine bind_eq lp ?_
    cases allI (leafP a.2.2.2.2.1) 0 a.2.2.2.2.1
    · cases nameB a.1 <;> cases inR a.2.1 0 1000000 <;> cases inR a.2.2.1 0 10000 <;> cases inR a.2.2.2.1 0 1000000 <;> cases iLe (List.length a.2.2.2.2.1 : Int) 4 <;> rfl
    · refine (bind_eq (i_name _ h.1) (andY (bind_eq (i_amount _) (andY (bind_eq (i_amount _) (andY (bind_eq (i_in _ _ _) (and_yes (c := iLe (List.length a.2.2.2.2.1 : Int) 4))))))))).trans ?_
      cases nameB a.1 <;> cases inR a.2.1 0 1000000 <;> cases inR a.2.2.1 0 10000 <;> cases inR a.2.2.2.1 0 1000000 <;> cases iLe (List.length a.2.2.2.2.1 : Int) 4 <;> rfl
  · unfold F176.b0 leafP
    refine lt_then (Int.ofNat_lt.2 hi) (bind_eq (getI_lt hi) (bind_eq (i_in _ _ _) (goN (bind_eq (i_in _ _ _) (goN ?_)))))
    rw [← nxt hi hl]
    exact asc_step hi hl (fun z => le_ite)
  · unfold F176.b0
    exact lt_else (Int.le_refl _) rfl

def addL (n : Int) (xs : List D205) : Int := xs.foldl (fun s y => iAdd .i64 s y.1) n
theorem addL_add (n m : Int) : ∀ xs : List D205, addL (iAdd .i64 n m) xs = iAdd .i64 n (addL m xs)
  | [] => rfl
  | x :: r => by
    show addL (iAdd .i64 (iAdd .i64 n m) x.1) r = iAdd .i64 n (addL (iAdd .i64 m x.1) r)
    rw [iAdd_assoc, addL_add]
def ofA (a : D183) : Int := addL (iAdd .i64 a.2.1 a.2.2.2.1) a.2.2.2.2.1
def wealth (xs : List D183) : Int := xs.foldl (fun s y => iAdd .i64 s (ofA y)) 0

theorem s_of (a : D183) (h : AOk a) : F189 (a, ()) = some (I1 (ofA a)) := by
  have hl : L63 (List.length a.2.2.2.2.1) := h.ls.1
  have lp := loopFold0 (S := Int × (Int × Unit)) a.2.2.2.2.1 (fun s y => iAdd .i64 s y.1) (f := F189.b0 (a, ())) (fun a i => (a, (i, ()))) (fun s => Sum.inl (s, ((List.length a.2.2.2.2.1 : Int), ()))) (iAdd .i64 a.2.1 a.2.2.2.1) (fun i hi s => ?_) (fun s => ?_)
  · unfold F189
    exact bind_eq lp rfl
  · unfold F189.b0
    refine lt_then (Int.ofNat_lt.2 hi) (bind_eq (getI_lt hi) ?_)
    rw [← nxt hi hl]
  · unfold F189.b0
    exact lt_else (Int.le_refl _) rfl
theorem s_wealth (xs : List D183) (hx : (Ty.sl e183).Ok xs) : F167 ((xs, ()), ()) = some (I1 (wealth xs)) := by
  have lp := loopFold0 (S := Int × (Int × Unit)) xs (fun s y => iAdd .i64 s (ofA y)) (f := F167.b0 ((xs, ()), ())) (fun a i => (a, (i, ()))) (fun s => Sum.inl (s, ((xs.length : Int), ()))) 0 (fun i hi s => ?_) (fun s => ?_)
  · unfold F167
    exact bind_eq lp rfl
  · unfold F167.b0
    refine lt_then (Int.ofNat_lt.2 hi) (bind_eq (getI_lt hi) (bind_eq (s_of _ (Ok_mem hx.2 (List.getElem_mem hi))) ?_))
    rw [← nxt hi hx.1]
  · unfold F167.b0
    exact lt_else (Int.le_refl _) rfl

theorem i_wealth (xs : List D183) (hx : (Ty.sl e183).Ok xs) : F177 ((xs, ()), ()) = some (I1 (wealth xs)) := by
  have inner : ∀ (a : D183) (n : Int), L63 (List.length a.2.2.2.2.1) → loopF (F177.b1 a) (n, ((0:Int), ())) = some (.inl (addL n a.2.2.2.2.1, ((List.length a.2.2.2.2.1 : Int), ()))) := by
    intro a n hl
    refine loopFold0 (S := Int × (Int × Unit)) a.2.2.2.2.1 (fun s y => iAdd .i64 s y.1) (fun a i => (a, (i, ()))) (fun s => Sum.inl (s, ((List.length a.2.2.2.2.1 : Int), ()))) n (fun i hi s => ?_) (fun s => ?_)
    · unfold F177.b1
      refine lt_then (Int.ofNat_lt.2 hi) (bind_eq (getI_lt hi) ?_)
      rw [← nxt hi hl]
    · unfold F177.b1
      exact lt_else (Int.le_refl _) rfl
  have lp := loopFold0 (S := Int × (Int × Unit)) xs (fun s y => iAdd .i64 s (ofA y)) (f := F177.b0 ((xs, ()), ())) (fun a i => (a, (i, ()))) (fun s => Sum.inl (s, ((xs.length : Int), ()))) 0 (fun i hi s => ?_) (fun s => ?_)
  · unfold F177
    exact bind_eq lp rfl
  · unfold F177.b0
    refine lt_then (Int.ofNat_lt.2 hi) (bind_eq (getI_lt hi) (bind_eq (inner _ _ (AOk.ls (Ok_mem hx.2 (List.getElem_mem hi))).1) ?_))
    rw [← nxt hi hx.1]
    exact congrArg (fun z => some (Sum.inl (z, (iAdd .i64 (i : Int) 1, ())))) (addL_add s _ _)
  · unfold F177.b0
    exact lt_else (Int.le_refl _) rfl

def acctP (xs : List D183) (i : Nat) (y : D183) : Bool := acctB y && behind (fun z y => sLt z.1 y.1) xs i y
def acctsB (xs : List D183) : Bool := allI (acctP xs) 0 xs && (iLe (xs.length : Int) 12 && iLe (wealth xs) 1000000)
abbrev DLe : Type := Int × (List D183 × Unit)
def ledgerB (x : DLe) : Bool := inR x.1 0 900 && acctsB x.2.1

theorem s_accts (xs : List D183) (hx : (Ty.sl e183).Ok xs) : F135 ((xs, ()), ()) = some (B1 (acctsB xs)) := by
  have hl : L63 xs.length := hx.1
  have lp := loopAll (S := Int × Unit) xs (acctP xs) (f := F135.b0 ((xs, ()), ())) (fun k => (k, ())) (Sum.inl ((xs.length : Int), ())) (Sum.inr (B1 false)) (fun i hi => ?_) ?_
  · unfold F135 acctsB
    refine bind_eq lp ?_
    cases allI (acctP xs) 0 xs
    · rfl
    · exact (andY (b := iLe (xs.length : Int) 12) (bind_eq (s_wealth xs hx) rfl)).trans rfl
  · unfold F135.b0 acctP
    refine lt_then (Int.ofNat_lt.2 hi) (bind_eq (getI_lt hi) (bind_eq (s_acct _ (Ok_mem hx.2 (List.getElem_mem hi))) (goN ?_)))
    rw [← nxt hi hl]
    exact asc_step hi hl (fun z => bind_eq (getI_lt hi) goE)
  · unfold F135.b0
    exact lt_else (Int.le_refl _) rfl
theorem s_ledger (x : DLe) (hx : (Ty.sl e183).Ok x.2.1) : F82 (x, ()) = some (B1 (ledgerB x)) := bind_eq (s_in _ _ _) (andY (bind_eq (s_accts _ hx) rfl))

theorem i_accts (xs : List D183) (hx : (Ty.sl e183).Ok xs) : F147 ((xs, ()), ()) = some (B1 (acctsB xs)) := by
  have hl : L63 xs.length := hx.1
  have lp := loopAll (S := Int × Unit) xs (acctP xs) (f := F147.b0 ((xs, ()), ())) (fun k => (k, ())) (Sum.inl ((xs.length : Int), ())) (Sum.inr (B1 false)) (fun i hi => ?_) ?_
  · unfold F147 acctsB
    refine bind_eq lp ?_
    cases allI (acctP xs) 0 xs
    · rfl
    · exact (andY (b := iLe (xs.length : Int) 12) (bind_eq (i_wealth xs hx) rfl)).trans rfl
  · unfold F147.b0 acctP
    refine lt_then (Int.ofNat_lt.2 hi) (bind_eq (getI_lt hi) (bind_eq (i_acct _ (Ok_mem hx.2 (List.getElem_mem hi))) (goN ?_)))
    rw [← nxt hi hl]
    exact asc_step hi hl (fun z => ite_tri)
  · unfold F147.b0
    exact lt_else (Int.le_refl _) rfl
theorem i_ledger (x : DLe) (hx : (Ty.sl e183).Ok x.2.1) : F108 (x, ()) = some (B1 (ledgerB x)) := bind_eq (i_in _ _ _) (andY (bind_eq (i_accts _ hx) rfl))

/-- A certificate; one of leavings. -/
abbrev DQc : Type := Int × (Int × (List D9 × Unit))
abbrev DTc : Type := Int × (List D9 × (List D3 × Unit))
def rootB (q : DQc) : Bool := iEq q.1 0 && (iEq q.2.1 (-1) && iEq (List.length q.2.2.1 : Int) 0)
def noneB (t : DTc) : Bool := iEq t.1 0 && (iEq (List.length t.2.1 : Int) 0 && iEq (List.length t.2.2.1 : Int) 0)
abbrev QOk (q : DQc) : Prop := (Ty.sl e9).Ok q.2.2.1
abbrev TOk (t : DTc) : Prop := (Ty.sl e9).Ok t.2.1 ∧ L63 (List.length t.2.2.1)
def qcF (q : DQc) (round block : Int) : Bool := rootB q || (inR q.1 1 round && (inR q.2.1 0 block && namesB q.2.2.1))
def tcF (t : DTc) (round : Int) : Bool := noneB t || (inR t.1 1 round && (namesB t.2.1 && (iEq (List.length t.2.2.1 : Int) (List.length t.2.1 : Int) && t.2.2.1.all (fun h => inR h.1 0 (iSub .i64 t.1 1)))))
def qcB (l : List D143) (q : DQc) : Bool := rootB q || (inR q.1 1 10000 && (inR q.2.1 0 100000 && (namesB q.2.2.1 && (allInB l q.2.2.1 && quorumB l q.2.2.1))))
def tcB (l : List D143) (t : DTc) : Bool := noneB t || (inR t.1 1 10000 && (namesB t.2.1 && (iEq (List.length t.2.2.1 : Int) (List.length t.2.1 : Int) && (t.2.2.1.all (fun h => inR h.1 0 (iSub .i64 t.1 1)) && (allInB l t.2.1 && quorumB l t.2.1)))))

theorem s_root (q : DQc) : F138 (q, ()) = some (B1 (rootB q)) := by
  unfold F138 rootB
  cases iEq q.1 0 <;> cases iEq q.2.1 (-1) <;> rfl

theorem i_root (q : DQc) : F149 (q, ()) = some (B1 (rootB q)) := by
  unfold F149 rootB
  cases iEq q.1 0 <;> cases iEq q.2.1 (-1) <;> rfl

theorem s_none (t : DTc) : F142 (t, ()) = some (B1 (noneB t)) := by
  unfold F142 noneB
  cases iEq t.1 0 <;> cases iEq (List.length t.2.1 : Int) 0 <;> rfl

theorem i_none (t : DTc) : F153 (t, ()) = some (B1 (noneB t)) := by
  unfold F153 noneB
  cases iEq t.1 0 <;> cases iEq (List.length t.2.1 : Int) 0 <;> rfl

theorem s_qc (l : List D143) (q : DQc) (hl : L63 l.length) (hq : QOk q) : F87 ((l, ()), (q, ())) = some (B1 (qcB l q)) := by
  unfold F87 qcB
  refine bind_eq (s_root q) (orY (bind_eq (s_in _ _ _) (andY (bind_eq (s_in _ _ _) (andY ?_)))))
  refine bind_eq (s_all l _ hl hq) ((andY (bind_eq (s_quorum l _ hl hq.1) rfl)).trans ?_)
  rw [Bool.and_comm (allInB l _) (namesB _), Bool.and_assoc]

theorem i_qcf (q : DQc) (r b : Int) (hq : QOk q) : F150 (q, ((r, ()), ((b, ()), ()))) = some (B1 (qcF q r b)) := by
  unfold F150 qcF
  exact bind_eq (i_root q) (orY (bind_eq (i_in _ _ _) (andY (bind_eq (i_in _ _ _) (andY (bind_eq (i_names _ hq) rfl))))))

theorem i_qc (l : List D143) (q : DQc) (hl : L63 l.length) (hq : QOk q) : F112 ((l, ()), (q, ())) = some (B1 (qcB l q)) := by
  unfold F112
  refine (bind_eq (i_root q) (orY (bind_eq (i_qcf q _ _ hq) (andY (bind_eq (i_quorum l _ hl hq.1) (andY (bind_eq (i_all l _ hl hq.1) rfl))))))).trans ?_
  unfold qcB qcF
  cases rootB q <;> cases inR q.1 1 10000 <;> cases inR q.2.1 0 100000 <;> cases namesB q.2.2.1 <;> cases allInB l q.2.2.1 <;> cases quorumB l q.2.2.1 <;> rfl

theorem i_tcf (t : DTc) (r : Int) (h : TOk t) : F154 (t, ((r, ()), ())) = some (B1 (tcF t r)) := by
  have hl : L63 (List.length t.2.2.1) := h.2
  have lp := loopAllP (S := Int × Unit) t.2.2.1 (fun y => inR y.1 0 (iSub .i64 t.1 1)) (f := F154.b0 (t, ((r, ()), ()))) (fun k => (k, ())) (Sum.inl ((t.2.2.1.length : Int), ())) (Sum.inr (B1 false)) (fun i hi => ?_) ?_
  · unfold F154 tcF
    refine bind_eq (i_none t) (orY (bind_eq lp ?_))
    cases t.2.2.1.all (fun y => inR y.1 0 (iSub .i64 t.1 1))
    · cases inR t.1 1 r <;> cases namesB t.2.1 <;> cases iEq (List.length t.2.2.1 : Int) (List.length t.2.1 : Int) <;> rfl
    · refine (bind_eq (i_in _ _ _) (andY (bind_eq (i_names _ h.1) and_yes))).trans ?_
      cases iEq (List.length t.2.2.1 : Int) (List.length t.2.1 : Int) <;> rfl
  · unfold F154.b0
    refine lt_then (Int.ofNat_lt.2 hi) (bind_eq (getI_lt hi) (bind_eq (i_in _ _ _) ?_))
    rw [← nxt hi hl]
    exact goE
  · unfold F154.b0
    exact lt_else (Int.le_refl _) rfl

theorem s_tc (l : List D143) (t : DTc) (hl : L63 l.length) (h : TOk t) : F88 ((l, ()), (t, ())) = some (B1 (tcB l t)) := by
  have hh : L63 (List.length t.2.2.1) := h.2
  have lp := loopAllP (S := Int × Unit) t.2.2.1 (fun y => inR y.1 0 (iSub .i64 t.1 1)) (f := F88.b0 ((l, ()), (t, ()))) (fun k => (k, ())) (Sum.inl ((t.2.2.1.length : Int), ())) (Sum.inr (B1 false)) (fun i hi => ?_) ?_
  · unfold F88
    refine (bind_eq (s_none t) (orY (bind_eq (s_in _ _ _) (andN (bind_eq (s_all l _ hl h.1) (andN (bind_eq (s_quorum l _ hl h.1.1) (andN (andN (b := iEq (List.length t.2.2.1 : Int) (List.length t.2.1 : Int)) (c := t.2.2.1.all (fun y => inR y.1 0 (iSub .i64 t.1 1))) (bind_eq lp ?_)))))))))).trans ?_
    · cases t.2.2.1.all (fun y => inR y.1 0 (iSub .i64 t.1 1)) <;> rfl
    · unfold tcB
      cases noneB t <;> cases inR t.1 1 10000 <;> cases namesB t.2.1 <;> cases iEq (List.length t.2.2.1 : Int) (List.length t.2.1 : Int) <;> cases t.2.2.1.all (fun y => inR y.1 0 (iSub .i64 t.1 1)) <;> cases allInB l t.2.1 <;> cases quorumB l t.2.1 <;> rfl
  · unfold F88.b0
    refine lt_then (Int.ofNat_lt.2 hi) (bind_eq (getI_lt hi) (bind_eq (s_in _ _ _) ?_))
    rw [← nxt hi hh]
    exact goE
  · unfold F88.b0
    exact lt_else (Int.le_refl _) rfl

theorem i_tc (l : List D143) (t : DTc) (hl : L63 l.length) (h : TOk t) : F113 ((l, ()), (t, ())) = some (B1 (tcB l t)) := by
  unfold F113
  refine (bind_eq (i_none t) (orY (bind_eq (i_tcf t _ h) (andY (bind_eq (i_quorum l _ hl h.1.1) (andY (bind_eq (i_all l _ hl h.1.1) rfl))))))).trans ?_
  unfold tcB tcF
  cases noneB t <;> cases inR t.1 1 10000 <;> cases namesB t.2.1 <;> cases iEq (List.length t.2.2.1 : Int) (List.length t.2.1 : Int) <;> cases t.2.2.1.all (fun y => inR y.1 0 (iSub .i64 t.1 1)) <;> cases allInB l t.2.1 <;> cases quorumB l t.2.1 <;> rfl

/-- An order. -/
def txB (t : D59) : Bool := nameB t.2.1 && (inR t.2.2.2.1 1 1000000 && (inR t.2.2.2.2.1 0 10000 && (bif iEq t.1 1 then nameB t.2.2.1 else (inR t.1 2 3 && sEq t.2.2.1 ⟨#[]⟩))))
abbrev XOk (t : D59) : Prop := L63 t.2.1.size ∧ L63 t.2.2.1.size
theorem XOk_mem {l : List D59} (h : (Ty.sl e59).Ok l) {t : D59} (ht : t ∈ l) : XOk t := ⟨(Ok_mem h.2 ht).2.1, (Ok_mem h.2 ht).2.2.1⟩

theorem s_tx (t : D59) (h : XOk t) : F136 (t, ()) = some (B1 (txB t)) := by
  unfold F136 txB
  refine bind_eq (s_name _ h.1) (andN (bind_eq (s_in _ _ _) (andN (bind_eq (s_in _ _ _) (andN ?_)))))
  cases iEq t.1 1
  · exact bind_eq (s_in _ _ _) and_yes
  · exact bind_eq (s_name _ h.2) rfl

theorem i_tx (t : D59) (h : XOk t) : F117 (t, ()) = some (B1 (txB t)) := by
  unfold F117 txB
  refine (bind_eq (i_in _ _ _) (andN (bind_eq (i_name _ h.1) (andN (bind_eq (i_in _ _ _) (andN (bind_eq (i_in _ _ _) (andN (c := bif iEq t.1 1 then nameB t.2.2.1 else sEq t.2.2.1 ⟨#[]⟩) ?_)))))))).trans ?_
  · cases iEq t.1 1
    · rfl
    · exact bind_eq (i_name _ h.2) rfl
  · have e : inR t.1 1 3 = (iEq t.1 1 || inR t.1 2 3) := by
      simp only [inR, iLe, iEq]
      rw [Bool.eq_iff_iff]
      simp
      omega
    rw [e]
    cases iEq t.1 1 <;> cases inR t.1 2 3 <;> cases nameB t.2.1 <;> cases inR t.2.2.2.1 1 1000000 <;> cases inR t.2.2.2.2.1 0 10000 <;> cases sEq t.2.2.1 ⟨#[]⟩ <;> cases nameB t.2.2.1 <;> rfl

theorem i_txs (l : List D59) (h : (Ty.sl e59).Ok l) : F182 ((l, ()), ()) = some (B1 (l.all txB)) := by
  have hl : L63 l.length := h.1
  have lp := loopAllP (S := Int × Unit) l txB (f := F182.b0 ((l, ()), ())) (fun k => (k, ())) (Sum.inl ((l.length : Int), ())) (Sum.inr (B1 false)) (fun i hi => ?_) ?_
  · unfold F182
    refine bind_eq lp ?_
    cases l.all txB <;> rfl
  · unfold F182.b0
    refine lt_then (Int.ofNat_lt.2 hi) (bind_eq (getI_lt hi) (bind_eq (i_tx _ (XOk_mem h (List.getElem_mem hi))) ?_))
    rw [← nxt hi hl]
    exact goE
  · unfold F182.b0
    exact lt_else (Int.le_refl _) rfl

/-- A block. -/
abbrev DBk : Type := D137
def bQc (b : DBk) : DQc := (b.2.2.2.2.1, (b.2.2.2.2.2.1, (b.2.2.2.2.2.2.1, ())))
def bTc (b : DBk) : DTc := (b.2.2.2.2.2.2.2.1, (b.2.2.2.2.2.2.2.2.1, (b.2.2.2.2.2.2.2.2.2.1, ())))
abbrev bTxs (b : DBk) : List D59 := b.2.2.2.2.2.2.2.2.2.2.1
abbrev bEnd (b : DBk) : Bool := b.2.2.2.2.2.2.2.2.2.2.2.1
abbrev bNext (b : DBk) : List D143 := b.2.2.2.2.2.2.2.2.2.2.2.2.1
abbrev bRoot (b : DBk) : ByteArray := b.2.2.2.2.2.2.2.2.2.2.2.2.2.1
abbrev BOk (b : DBk) : Prop := e137.Ok b
theorem BOk.by_ {b : DBk} (h : BOk b) : L63 b.2.2.2.1.size := h.2.2.2.1
theorem BOk.qc {b : DBk} (h : BOk b) : QOk (bQc b) := h.2.2.2.2.2.2.1
theorem BOk.tc {b : DBk} (h : BOk b) : TOk (bTc b) := ⟨h.2.2.2.2.2.2.2.2.1, h.2.2.2.2.2.2.2.2.2.1.1⟩
theorem BOk.txs {b : DBk} (h : BOk b) : (Ty.sl e59).Ok (bTxs b) := h.2.2.2.2.2.2.2.2.2.2.1
theorem BOk.next {b : DBk} (h : BOk b) : (Ty.sl e143).Ok (bNext b) := h.2.2.2.2.2.2.2.2.2.2.2.2.1

def bodyB (b : DBk) : Bool := bif bEnd b then (setB (bNext b) && iEq ((bRoot b).size : Int) 32) else (iEq (List.length (bNext b) : Int) 0 && sEq (bRoot b) ⟨#[]⟩)
def blockB (b : DBk) : Bool := inR b.1 0 100000 && (inR b.2.1 0 900 && (inR b.2.2.1 1 10000 && (nameB b.2.2.2.1 && (qcF (bQc b) (iSub .i64 b.2.2.1 1) (iSub .i64 b.1 1) && (tcF (bTc b) (iSub .i64 b.2.2.1 1) &&
  (!iLt 4 (List.length (bTxs b) : Int) && ((bTxs b).all txB && bodyB b)))))))

theorem s_qcf (b : DBk) (h : BOk b) : F168 (b, ()) = some (B1 (qcF (bQc b) (iSub .i64 b.2.2.1 1) (iSub .i64 b.1 1))) := by
  unfold F168 qcF
  exact bind_eq (s_root (bQc b)) (orY (bind_eq (s_in _ _ _) (andY (bind_eq (s_in _ _ _) (andY (bind_eq (s_names _ h.qc) rfl))))))
theorem s_tcf (b : DBk) (h : BOk b) : F169 (b, ()) = some (B1 (tcF (bTc b) (iSub .i64 b.2.2.1 1))) := by
  have hl : L63 (List.length (bTc b).2.2.1) := h.tc.2
  have lp := loopAllP (S := Int × Unit) (bTc b).2.2.1 (fun y => inR y.1 0 (iSub .i64 (bTc b).1 1)) (f := F169.b0 (b, ())) (fun k => (k, ())) (Sum.inl (((bTc b).2.2.1.length : Int), ())) (Sum.inr (B1 false)) (fun i hi => ?_) ?_
  · unfold F169 tcF
    refine bind_eq (s_none (bTc b)) (orY (bind_eq (s_in _ _ _) (andN (bind_eq (s_names _ h.tc.1) (andN ?_)))))
    refine (andN (b := iEq (List.length (bTc b).2.2.1 : Int) (List.length (bTc b).2.1 : Int)) (bind_eq lp ?_))
    cases (bTc b).2.2.1.all (fun y => inR y.1 0 (iSub .i64 (bTc b).1 1)) <;> rfl
  · unfold F169.b0
    refine lt_then (Int.ofNat_lt.2 hi) (bind_eq (getI_lt hi) (bind_eq (s_in _ _ _) ?_))
    rw [← nxt hi hl]
    exact goE
  · unfold F169.b0
    exact lt_else (Int.le_refl _) rfl
theorem s_blk (b : DBk) (h : BOk b) : F137 (b, ()) = some (B1 (blockB b)) := by
  have hl : L63 (bTxs b).length := h.txs.1
  have lp := loopAllP (S := Int × Unit) (bTxs b) txB (f := F137.b0 (b, ())) (fun k => (k, ())) (Sum.inl (((bTxs b).length : Int), ())) (Sum.inr (B1 false)) (fun i hi => ?_) ?_
  · unfold F137 blockB
    refine bind_eq (s_in _ _ _) (andN (bind_eq (s_in _ _ _) (andN (bind_eq (s_in _ _ _) (andN (bind_eq (s_name _ h.by_) (andN (bind_eq (s_qcf b h) (andN (bind_eq (s_tcf b h) (andN (noT (bind_eq lp ?_)))))))))))))
    cases (bTxs b).all txB
    · rfl
    · unfold bodyB
      rw [Bool.true_and]
      dsimp only [cond_true, Sum.elim_inl, bEnd]
      cases b.2.2.2.2.2.2.2.2.2.2.2.1
      · exact and_yes
      · exact bind_eq (s_set _ h.next) and_yes
  · unfold F137.b0
    refine lt_then (Int.ofNat_lt.2 hi) (bind_eq (getI_lt hi) (bind_eq (s_tx _ (XOk_mem h.txs (List.getElem_mem hi))) ?_))
    rw [← nxt hi hl]
    exact goE
  · unfold F137.b0
    exact lt_else (Int.le_refl _) rfl

theorem i_blk (b : DBk) (h : BOk b) : F155 (b, ()) = some (B1 (blockB b)) := by
  unfold F155 blockB
  refine bind_eq (i_in _ _ _) (andN (bind_eq (i_in _ _ _) (andN (bind_eq (i_in _ _ _) (andN (bind_eq (i_name _ h.by_) (andN (bind_eq (i_qcf (bQc b) _ _ h.qc) (andN (bind_eq (i_tcf (bTc b) _ h.tc) (andN (noT (bind_eq (i_txs _ h.txs) (andN ?_))))))))))))))
  unfold bodyB
  dsimp only [bEnd]
  cases b.2.2.2.2.2.2.2.2.2.2.2.1
  · exact and_yes
  · exact bind_eq (i_set _ h.next) and_yes

theorem s_cqc (q : DQc) (h : W1 (List.length q.2.2.1)) : F78 (q, ()) = some (q, ()) := by
  unfold F78
  exact room_then h (by decide) (by decide) rfl

theorem s_ctc (t : DTc) (h : W1 (List.length t.2.1)) (h2 : W1 (List.length t.2.2.1)) : F79 (t, ()) = some (t, ()) := by
  unfold F79
  exact room_then h (by decide) (by decide) (room_then h2 (by decide) (by decide) rfl)

theorem i_clS (l : List D9) (h : W1 l.length) : F146 ((l, ()), ()) = some ((l, ()), ()) := by unfold F146; exact clone_ok l h (by decide) (by decide)

theorem i_clI (l : List D3) (h : W1 l.length) : F104 ((l, ()), ()) = some ((l, ()), ()) := by unfold F104; exact clone_ok l h (by decide) (by decide)

theorem i_clT (l : List D59) (h : W1 l.length) : F105 ((l, ()), ()) = some ((l, ()), ()) := by unfold F105; exact clone_ok l h (by decide) (by decide)

theorem i_clV (l : List D143) (h : W1 l.length) : F98 ((l, ()), ()) = some ((l, ()), ()) := by unfold F98; exact clone_ok l h (by decide) (by decide)

theorem i_clL (l : List D205) (h : W1 l.length) : F175 ((l, ()), ()) = some ((l, ()), ()) := by unfold F175; exact clone_ok l h (by decide) (by decide)

theorem i_clVo (l : List D147) (h : W1 l.length) : F102 ((l, ()), ()) = some ((l, ()), ()) := by unfold F102; exact clone_ok l h (by decide) (by decide)

theorem i_clGo (l : List D149) (h : W1 l.length) : F103 ((l, ()), ()) = some ((l, ()), ()) := by unfold F103; exact clone_ok l h (by decide) (by decide)

theorem i_cqc (q : DQc) (h : W1 (List.length q.2.2.1)) : F100 (q, ()) = some (q, ()) := by
  unfold F100
  exact bind_eq (i_clS _ h) rfl

theorem i_ctc (t : DTc) (h : W1 (List.length t.2.1)) (h2 : W1 (List.length t.2.2.1)) : F101 (t, ()) = some (t, ()) := by
  unfold F101
  exact bind_eq (i_clS _ h) (bind_eq (i_clI _ h2) rfl)

/-- A block's lists are not long. -/
def BlockL (x : DBk) : Prop := W1 (List.length (bQc x).2.2.1) ∧ W1 (List.length (bTc x).2.1) ∧ W1 (List.length (bTc x).2.2.1) ∧ W1 (List.length (bTxs x)) ∧ W1 (List.length (bNext x))

theorem s_cblk (x : DBk) (h : BlockL x) : F134 (x, ()) = some (x, ()) := by
  unfold F134
  exact bind_eq (s_cqc (bQc x) h.1) (bind_eq (s_ctc (bTc x) h.2.1 h.2.2.1) (room_then h.2.2.2.1 (by decide) (by decide) (room_then h.2.2.2.2 (by decide) (by decide) rfl)))

theorem i_cblk (x : DBk) (h : BlockL x) : F145 (x, ()) = some (x, ()) := by
  unfold F145
  exact bind_eq (i_cqc (bQc x) h.1) (bind_eq (i_ctc (bTc x) h.2.1 h.2.2.1) (bind_eq (i_clT _ h.2.2.2.1) (bind_eq (i_clV _ h.2.2.2.2) rfl)))

theorem s_cblks (xs : List DBk) (hl : W1 xs.length) (hb : ∀ x ∈ xs, BlockL x) : F77 ((xs, ()), ()) = some ((xs, ()), ()) := by
  have lp := loopCopy (S := List DBk × (Int × Unit)) xs (f := F77.b0 ((xs, ()), ())) (fun a k => (a, (k, ()))) (Sum.inl (xs, ((xs.length : Int), ()))) (fun i hi => ?_) ?_
  · unfold F77
    exact bind_eq lp rfl
  · unfold F77.b0
    refine lt_then (Int.ofNat_lt.2 hi) (bind_eq (getI_lt hi) (bind_eq (s_cblk _ (hb _ (List.getElem_mem hi))) (room_one hi hl (by decide) (by decide) ?_)))
    rw [← nxt hi hl.l]; rfl
  · unfold F77.b0
    exact lt_else (Int.le_refl _) rfl

theorem i_cblks (xs : List DBk) (hl : W1 xs.length) (hb : ∀ x ∈ xs, BlockL x) : F99 ((xs, ()), ()) = some ((xs, ()), ()) := by
  have lp := loopCopy (S := List DBk × (Int × Unit)) xs (f := F99.b0 ((xs, ()), ())) (fun a k => (a, (k, ()))) (Sum.inl (xs, ((xs.length : Int), ()))) (fun i hi => ?_) ?_
  · unfold F99
    exact bind_eq lp rfl
  · unfold F99.b0
    refine lt_then (Int.ofNat_lt.2 hi) (bind_eq (getI_lt hi) (bind_eq (i_cblk _ (hb _ (List.getElem_mem hi))) (room_one hi hl (by decide) (by decide) ?_)))
    rw [← nxt hi hl.l]; rfl
  · unfold F99.b0
    exact lt_else (Int.le_refl _) rfl

/-- A proof's lists are not long. -/
abbrev DPr : Type := D129
abbrev pBs (p : DPr) : List DBk := p.2.1
def pQ (p : DPr) : DQc := (p.2.2.1, (p.2.2.2.1, (p.2.2.2.2.1, ())))
def ProofL (x : DPr) : Prop := W1 (List.length (pBs x)) ∧ (∀ y ∈ pBs x, BlockL y) ∧ W1 (List.length (pQ x).2.2.1)

theorem s_cproof (x : DPr) (h : ProofL x) : F80 (x, ()) = some (x, ()) := by
  unfold F80
  exact bind_eq (s_cblks _ h.1 h.2.1) (bind_eq (s_cqc (pQ x) h.2.2) rfl)

theorem i_cproof (x : DPr) (h : ProofL x) : F106 (x, ()) = some (x, ()) := by
  unfold F106
  exact bind_eq (i_cblks _ h.1 h.2.1) (bind_eq (i_cqc (pQ x) h.2.2) rfl)

theorem idxFunc_blk (l : List DBk) (g : DBk → Option (Bool × Unit)) (p : DBk → Bool) (hg : ∀ x, g x = some (p x, ())) (hl : L63 l.length) : F183 ((l, ()), ((g, ()), ())) = some (I1 (idxOf l p)) := by
  have lp := loopIdx (S := Int × Unit) l p (f := F183.b0 ((l, ()), ((g, ()), ()))) (fun k => (k, ())) (Sum.inl ((l.length : Int), ())) (fun i => Sum.inr (I1 i)) (fun i hi => ?_) ?_
  · unfold F183
    refine bind_eq lp ?_
    rcases idxOf_cases l p with ⟨h1, _, h3⟩ | ⟨j, hj, _, _, h1, _, h3⟩ <;> rw [h1, h3] <;> rfl
  · unfold F183.b0
    refine lt_then (Int.ofNat_lt.2 hi) (bind_eq (getI_lt hi) (bind_eq (hg _) ?_))
    rw [← nxt hi hl]
  · unfold F183.b0
    exact lt_else (Int.le_refl _) rfl

/-- A node; how its epochs ended. -/
abbrev DNd : Type := D55
abbrev nPast (n : DNd) : List DPr := n.2.2.2.2.2.2.2.2.2.2.2.2.2.2.2.2.2.2.2.1

/-- A ledger's lists are not long. -/
def AcctL (l : List D183) : Prop := W1 l.length ∧ ∀ a ∈ l, W1 (List.length a.2.2.2.2.1)
theorem AcctL_of {l : List D183} (h : (Ty.sl e183).w l ≤ 1048576) : AcctL l := ⟨w_ln h, fun a ha => w_ln (w_hd (w_tl (w_tl (w_tl (w_tl (w_mem h ha))))))⟩

theorem s_caccts (xs : List D183) (h : AcctL xs) : F133 ((xs, ()), ()) = some ((xs, ()), ()) := by
  have hl := h.1
  have lp := loopCopy (S := List D183 × (Int × Unit)) xs (f := F133.b0 ((xs, ()), ())) (fun a k => (a, (k, ()))) (Sum.inl (xs, ((xs.length : Int), ()))) (fun i hi => ?_) ?_
  · unfold F133
    exact bind_eq lp rfl
  · unfold F133.b0
    refine lt_then (Int.ofNat_lt.2 hi) (bind_eq (getI_lt hi) (room_then (h.2 _ (List.getElem_mem hi)) (by decide) (by decide) (room_one hi hl (by decide) (by decide) ?_)))
    rw [← nxt hi hl.l]; rfl
  · unfold F133.b0
    exact lt_else (Int.le_refl _) rfl
theorem s_cledger (x : DLe) (h : AcctL x.2.1) : F76 (x, ()) = some (x, ()) := bind_eq (s_caccts _ h) rfl

theorem i_caccts (xs : List D183) (h : AcctL xs) : F144 ((xs, ()), ()) = some ((xs, ()), ()) := by
  have hl := h.1
  have lp := loopCopy (S := List D183 × (Int × Unit)) xs (f := F144.b0 ((xs, ()), ())) (fun a k => (a, (k, ()))) (Sum.inl (xs, ((xs.length : Int), ()))) (fun i hi => ?_) ?_
  · unfold F144
    exact bind_eq lp rfl
  · unfold F144.b0
    refine lt_then (Int.ofNat_lt.2 hi) (bind_eq (getI_lt hi) (bind_eq (i_clL _ (h.2 _ (List.getElem_mem hi))) (room_one hi hl (by decide) (by decide) ?_)))
    rw [← nxt hi hl.l]; rfl
  · unfold F144.b0
    exact lt_else (Int.le_refl _) rfl
theorem i_cledger (x : DLe) (h : AcctL x.2.1) : F97 (x, ()) = some (x, ()) := bind_eq (i_caccts _ h) rfl

/-- Two lists are the same, place by place. -/
def sameT {A : Type} (eq : A → A → Bool) (xs ys : List A) : Bool := iEq (xs.length : Int) (ys.length : Int) && allI (fun i x => match ys[i]? with | some y => eq x y | none => true) 0 xs
theorem same_loop {A : Type} {xs ys : List A} {eq : A → A → Bool} {f : Int × Unit → Option (Sum (Int × Unit) (Sum (Int × Unit) ((Bool × Unit) × Unit)))} (hl : L63 xs.length)
    (hs : ∀ i (h : i < xs.length) (h2 : i < ys.length), f ((i : Int), ()) = bif eq xs[i] ys[i] then some (.inl (iAdd .i64 (i : Int) 1, ())) else some (.inr (.inr (B1 false))))
    (he : f ((xs.length : Int), ()) = some (.inr (.inl ((xs.length : Int), ())))) :
    (bif !iEq (xs.length : Int) (ys.length : Int) then some (B1 false) else (loopF f ((0:Int), ())).bind fun r => Sum.elim (fun _ => some (B1 true)) some r) = some (B1 (sameT eq xs ys)) := by
  unfold sameT
  cases hq : iEq (xs.length : Int) (ys.length : Int) with
  | false => rfl
  | true =>
    have hlen : xs.length = ys.length := by simp [iEq] at hq; omega
    have lp := loopAll (S := Int × Unit) xs (fun i x => match ys[i]? with | some y => eq x y | none => true) (f := f) (fun k => (k, ())) (Sum.inl ((xs.length : Int), ())) (Sum.inr (B1 false)) (fun i hi => ?_) he
    · refine bind_eq lp ?_
      cases allI (fun i x => match ys[i]? with | some y => eq x y | none => true) 0 xs <;> rfl
    · rw [hs i hi (by omega), List.getElem?_eq_getElem (show i < ys.length by omega), nxt hi hl]
theorem sameT_iff {A : Type} {eq : A → A → Bool} (he : ∀ a b, eq a b = true ↔ a = b) {xs ys : List A} : sameT eq xs ys = true ↔ xs = ys := by
  unfold sameT
  simp only [Bool.and_eq_true]
  constructor
  · rintro ⟨h1, h2⟩
    have hlen : xs.length = ys.length := by simp [iEq] at h1; omega
    refine List.ext_getElem hlen (fun i h1 h3 => ?_)
    have := allI_get h2 i h1
    rw [Nat.zero_add, List.getElem?_eq_getElem h3] at this
    exact (he _ _).1 this
  · rintro rfl
    refine ⟨iEq_self _, ?_⟩
    have : ∀ (p : Nat → A → Bool) (k : Nat) (l : List A), (∀ i (h : i < l.length), p (k + i) l[i] = true) → allI p k l = true := by
      intro p k l
      induction l generalizing k with
      | nil => intro _; rfl
      | cons x r ih =>
        intro h
        simp only [allI, Bool.and_eq_true]
        refine ⟨h 0 (Nat.zero_lt_succ _), ih (k + 1) (fun i hi => ?_)⟩
        have := h (i + 1) (by simpa using hi)
        rw [show k + 1 + i = k + (i + 1) by omega]
        simpa using this
    refine this _ 0 xs (fun i h => ?_)
    rw [Nat.zero_add, List.getElem?_eq_getElem h]
    exact (he _ _).2 rfl

def txEq (x y : D59) : Bool := (iEq x.1 y.1) && ((sEq x.2.1 y.2.1) && ((sEq x.2.2.1 y.2.2.1) && ((iEq x.2.2.2.1 y.2.2.2.1) && (iEq x.2.2.2.2.1 y.2.2.2.2.1))))
def valEq (x y : D143) : Bool := (sEq x.1 y.1) && (iEq x.2.1 y.2.1)
def sameQcB (a b : DQc) : Bool := iEq a.1 b.1 && (iEq a.2.1 b.2.1 && sameT (fun x y => sEq x.1 y.1) a.2.2.1 b.2.2.1)
def sameTcB (a b : DTc) : Bool := iEq a.1 b.1 && (sameT (fun x y => sEq x.1 y.1) a.2.1 b.2.1 && sameT (fun x y => iEq x.1 y.1) a.2.2.1 b.2.2.1)
def sameBlkB (a b : DBk) : Bool := iEq a.1 b.1 && (iEq a.2.1 b.2.1 && (iEq a.2.2.1 b.2.2.1 && (sEq a.2.2.2.1 b.2.2.2.1 && (sameQcB (bQc a) (bQc b) && (sameTcB (bTc a) (bTc b) && (sameT txEq (bTxs a) (bTxs b) && (bEq (bEnd a) (bEnd b) && (sameT valEq (bNext a) (bNext b) && sEq (bRoot a) (bRoot b)))))))))

def txLessB (a b : D59) : Bool := bif !sEq a.2.1 b.2.1 then sLt a.2.1 b.2.1 else bif !iEq a.2.2.2.2.1 b.2.2.2.2.1 then iLt a.2.2.2.2.1 b.2.2.2.2.1 else bif !iEq a.1 b.1 then iLt a.1 b.1 else bif !sEq a.2.2.1 b.2.2.1 then sLt a.2.2.1 b.2.2.1 else iLt a.2.2.2.1 b.2.2.2.1
/-- -1, 0 or 1. -/
def cmp3 (lt eq : Bool) : Int := bif eq then 0 else bif lt then -1 else 1
theorem sLt_eq {a b : ByteArray} (h : sEq a b = true) : sLt a b = false := by
  unfold sEq at h
  have : a.toList = b.toList := by simpa using h
  unfold sLt
  rw [this]
  exact bytesLess_self _
theorem iLt_eq {a b : Int} (h : iEq a b = true) : iLt a b = false := by
  have : a = b := by simpa [iEq] using h
  rw [this]
  exact iLt_false (Int.le_refl _)
def cmpTx (a b : D59) : Int := 
  bif !sEq a.2.1 b.2.1 then cmp3 (sLt a.2.1 b.2.1) false else bif !iEq a.2.2.2.2.1 b.2.2.2.2.1 then cmp3 (iLt a.2.2.2.2.1 b.2.2.2.2.1) false else bif !iEq a.1 b.1 then cmp3 (iLt a.1 b.1) false else bif !sEq a.2.2.1 b.2.2.1 then cmp3 (sLt a.2.2.1 b.2.2.1) false else cmp3 (iLt a.2.2.2.1 b.2.2.2.1) (iEq a.2.2.2.1 b.2.2.2.1)
theorem cmpTx_lt (a b : D59) : iLt (cmpTx a b) 0 = txLessB a b := by
  unfold cmpTx txLessB cmp3
  cases sEq a.2.1 b.2.1 <;> cases iEq a.2.2.2.2.1 b.2.2.2.2.1 <;> cases iEq a.1 b.1 <;> cases sEq a.2.2.1 b.2.2.1 <;> cases h : iEq a.2.2.2.1 b.2.2.2.1 <;> first
    | (cases sLt a.2.1 b.2.1 <;> rfl)
    | (cases iLt a.2.2.2.2.1 b.2.2.2.2.1 <;> rfl)
    | (cases iLt a.1 b.1 <;> rfl)
    | (cases sLt a.2.2.1 b.2.2.1 <;> rfl)
    | (cases iLt a.2.2.2.1 b.2.2.2.1 <;> rfl)
    | (rw [iLt_eq h]; rfl)

theorem s_txLess (a b : D59) : F89 (a, (b, ())) = some (B1 (txLessB a b)) := by
  unfold F89 txLessB
  dsimp only
  cases sEq a.2.1 b.2.1 <;> cases iEq a.2.2.2.2.1 b.2.2.2.2.1 <;> cases iEq a.1 b.1 <;> cases sEq a.2.2.1 b.2.2.1 <;> rfl

theorem i_cmpS (a b : ByteArray) : F158 ((a, ()), ((b, ()), ())) = some (I1 (cmp3 (sLt a b) (sEq a b))) := by
  have hn : ∀ c : ByteArray, F185 ((c, ()), ()) = some (B1 false) := fun c => by
    unfold F185
    dsimp only
    rw [sEq_self]; rfl
  unfold F158 cmp3
  refine bind_eq (hn a) (bind_eq (hn b) ?_)
  dsimp only
  cases h : sEq a b with
  | true => rw [sLt_eq h]; rfl
  | false => cases sLt a b <;> rfl
theorem i_cmpI (a b : Int) : F159 ((a, ()), ((b, ()), ())) = some (I1 (cmp3 (iLt a b) (iEq a b))) := by
  have hn : ∀ c : Int, F186 ((c, ()), ()) = some (B1 false) := fun c => by
    unfold F186
    dsimp only
    rw [iEq_self]; rfl
  unfold F159 cmp3
  refine bind_eq (hn a) (bind_eq (hn b) ?_)
  dsimp only
  cases h : iEq a b with
  | true =>
    rw [iLt_eq h]
    have : iLt b a = false := by have e : a = b := by simpa [iEq] using h
                                 rw [e]; exact iLt_false (Int.le_refl _)
    rw [this]; rfl
  | false =>
    cases h2 : iLt a b with
    | true => rfl
    | false =>
      have : iLt b a = true := by simp [iEq, iLt] at h h2 ⊢; omega
      rw [this]; rfl
theorem i_orI (l : List D3) (hl : L63 l.length) : F157 ((l, ()), ()) = some (match l.find? (fun x => !iEq x.1 0) with | some x => (x, ()) | none => I1 0) := by
  have lp := loopFindV (S := Int × Unit) l (fun x => !iEq x.1 0) (f := F157.b0 ((l, ()), ())) (fun k => (k, ())) (Sum.inl ((l.length : Int), ())) (fun x => Sum.inr (x, ())) (fun i hi => ?_) ?_
  · unfold F157
    refine bind_eq lp ?_
    cases l.find? (fun x => !iEq x.1 0) <;> rfl
  · unfold F157.b0
    refine lt_then (Int.ofNat_lt.2 hi) (bind_eq (getI_lt hi) ?_)
    rw [← nxt hi hl]
  · unfold F157.b0
    exact lt_else (Int.le_refl _) rfl
theorem or_step {v : Int} {lt eq : Bool} {r : List (Int × Unit)} (h : eq = true → lt = false) : (match ((cmp3 lt eq, ()) :: r).find? (fun x => !iEq x.1 0) with | some x => ((x, ()) : (Int × Unit) × Unit) | none => I1 0) = bif !eq then I1 (cmp3 lt false) else (match r.find? (fun x => !iEq x.1 0) with | some x => (x, ()) | none => I1 0) := by
  cases eq with
  | true => rw [List.find?_cons_of_neg (by exact Bool.false_ne_true)]; rfl
  | false => cases lt <;> (rw [List.find?_cons_of_pos (by decide)]; rfl)
theorem i_cmpTx (a b : D59) : F116 (a, (b, ())) = some (I1 (cmpTx a b)) := by
  unfold F116
  refine bind_eq (i_cmpS _ _) (bind_eq (i_cmpI _ _) (bind_eq (i_cmpI _ _) (bind_eq (i_cmpS _ _) (bind_eq (i_cmpI _ _) (bind_eq (i_orI _ (show (5:Nat) ≤ 9223372036854775807 by decide)) ?_)))))
  refine congrArg some ?_
  refine Eq.trans (b := (match ([(cmp3 (sLt a.2.1 b.2.1) (sEq a.2.1 b.2.1), ()), (cmp3 (iLt a.2.2.2.2.1 b.2.2.2.2.1) (iEq a.2.2.2.2.1 b.2.2.2.2.1), ()), (cmp3 (iLt a.1 b.1) (iEq a.1 b.1), ()), (cmp3 (sLt a.2.2.1 b.2.2.1) (sEq a.2.2.1 b.2.2.1), ()), (cmp3 (iLt a.2.2.2.1 b.2.2.2.1) (iEq a.2.2.2.1 b.2.2.2.1), ())] : List (Int × Unit)).find? (fun x => !iEq x.1 0) with | some x => ((x, ()) : (Int × Unit) × Unit) | none => I1 0)) rfl ?_
  rw [or_step (v := 0) sLt_eq, or_step (v := 0) iLt_eq, or_step (v := 0) iLt_eq, or_step (v := 0) sLt_eq, or_step (v := 0) iLt_eq]
  unfold cmpTx
  cases sEq a.2.1 b.2.1 <;> cases iEq a.2.2.2.2.1 b.2.2.2.2.1 <;> cases iEq a.1 b.1 <;> cases sEq a.2.2.1 b.2.2.1 <;> cases iEq a.2.2.2.1 b.2.2.2.1 <;> rfl

theorem i_txLess (a b : D59) : F148 (a, (b, ())) = some (B1 (txLessB a b)) := by
  unfold F148
  refine bind_eq (i_cmpTx a b) ?_
  rw [← cmpTx_lt]

def poolP (xs : List D59) (i : Nat) (y : D59) : Bool := txB y && behind txLessB xs i y
def poolB (xs : List D59) : Bool := allI (poolP xs) 0 xs && iLe (xs.length : Int) 20

theorem s_pool (xs : List D59) (hx : (Ty.sl e59).Ok xs) : F83 ((xs, ()), ()) = some (B1 (poolB xs)) := by
  have hl : L63 xs.length := hx.1
  have lp := loopAll (S := Int × Unit) xs (poolP xs) (f := F83.b0 ((xs, ()), ())) (fun k => (k, ())) (Sum.inl ((xs.length : Int), ())) (Sum.inr (B1 false)) (fun i hi => ?_) ?_
  · unfold F83 poolB
    refine bind_eq lp ?_
    cases allI (poolP xs) 0 xs <;> rfl
  · unfold F83.b0 poolP
    refine lt_then (Int.ofNat_lt.2 hi) (bind_eq (getI_lt hi) (bind_eq (s_tx _ (XOk_mem hx (List.getElem_mem hi))) (goN ?_)))
    rw [← nxt hi hl]
    exact asc_step hi hl (fun z => bind_eq (getI_lt hi) (bind_eq (s_txLess _ _) goE))
  · unfold F83.b0
    exact lt_else (Int.le_refl _) rfl

theorem i_pool (xs : List D59) (hx : (Ty.sl e59).Ok xs) : F110 ((xs, ()), ()) = some (B1 (poolB xs)) := by
  have hl : L63 xs.length := hx.1
  have lp := loopAll (S := Int × Unit) xs (poolP xs) (f := F110.b0 ((xs, ()), ())) (fun k => (k, ())) (Sum.inl ((xs.length : Int), ())) (Sum.inr (B1 false)) (fun i hi => ?_) ?_
  · unfold F110 poolB
    refine bind_eq lp ?_
    cases allI (poolP xs) 0 xs <;> rfl
  · unfold F110.b0 poolP
    refine lt_then (Int.ofNat_lt.2 hi) (bind_eq (getI_lt hi) (bind_eq (i_tx _ (XOk_mem hx (List.getElem_mem hi))) (goN ?_)))
    rw [← nxt hi hl]
    exact asc_step hi hl (fun z => bind_eq (i_txLess _ _) goE)
  · unfold F110.b0
    exact lt_else (Int.le_refl _) rfl

def headEp (l : List DBk) : Int := match l with
  | b :: _ => b.2.1
  | [] => 0
theorem head_get {l : List DBk} {i : Nat} (h : i < l.length) : ∃ b, getI l 0 = some b ∧ b.2.1 = headEp l := by
  cases l with
  | nil => simp at h
  | cons b r => exact ⟨b, rfl, rfl⟩
/-- The block that it comes behind is among these, of the round that is told. -/
def parentB (pre : List DBk) (b : DBk) : Bool := match pre.find? (fun z => iEq z.1 (bQc b).2.1) with
  | some z => iEq z.2.2.1 (bQc b).1
  | none => false
def treeQ (l : List DBk) (i : Nat) (b : DBk) : Bool := blockB b && (iEq b.2.1 (headEp l) && behind (fun z y => iLt z.1 y.1) l i b)
def treeB (l : List DBk) : Bool := allI (fun i b => treeQ l i b && (rootB (bQc b) || parentB (l.take i) b)) 0 l && iLe (l.length : Int) 400
theorem noRoot_lt {b : DBk} (h : blockB b = true) (hr : rootB (bQc b) = false) : 0 ≤ (bQc b).2.1 ∧ (bQc b).2.1 < b.1 := by
  unfold blockB qcF at h
  simp only [Bool.and_eq_true] at h
  have h1 : inR b.1 0 100000 = true := h.1
  have h2 := h.2.2.2.2.1
  rw [hr, Bool.false_or] at h2
  simp only [Bool.and_eq_true] at h2
  have h3 : 0 ≤ b.1 ∧ b.1 ≤ 100000 := by simpa [inR, iLe] using h1
  have h4 : 0 ≤ (bQc b).2.1 ∧ (bQc b).2.1 ≤ iSub .i64 b.1 1 := by simpa [inR, iLe] using h2.2.1
  rw [iSub_small (by omega) (by omega)] at h4
  omega
theorem tree_whole (l : List DBk) : allI (fun i b => treeQ l i b && (rootB (bQc b) || parentB (l.take i) b)) 0 l = allI (fun i b => treeQ l i b && (rootB (bQc b) || parentB l b)) 0 l := by
  rw [allI_and, allI_and]
  cases hq : allI (fun i b => treeQ l i b) 0 l with
  | false => rfl
  | true =>
    rw [Bool.true_and, Bool.true_and]
    have hq := fun i hi => by have := allI_get hq i hi; rw [Nat.zero_add] at this; unfold treeQ at this; simp only [Bool.and_eq_true] at this; exact this
    refine allI_congr (fun i b hb => ?_)
    obtain ⟨hi, rfl⟩ := List.getElem?_eq_some_iff.1 hb
    rw [Nat.zero_add]
    cases hr : rootB (bQc l[i]) with
    | true => rfl
    | false =>
      rw [Bool.false_or, Bool.false_or]
      have hlt := noRoot_lt (hq i hi).1 hr
      have hd : (l.drop i).find? (fun z => iEq z.1 (bQc l[i]).2.1) = none := by
        rw [List.find?_eq_none]
        intro z hz
        obtain ⟨k, hk, rfl⟩ := List.getElem_of_mem hz
        rw [List.length_drop] at hk
        have := asc_le (f := fun b : DBk => b.1) (l := l) (fun j hj => (hq j hj).2.2) k i (by omega)
        rw [List.getElem_drop]
        have this : l[i].1 ≤ l[i + k].1 := this
        simp only [iEq, decide_eq_true_eq]
        omega
      unfold parentB
      have : l.find? (fun z => iEq z.1 (bQc l[i]).2.1) = (l.take i).find? (fun z => iEq z.1 (bQc l[i]).2.1) := by
        generalize (bQc l[i]).2.1 = id at hd ⊢
        have e := List.find?_append (p := fun z : DBk => iEq z.1 id) (xs := l.take i) (ys := l.drop i)
        rw [List.take_append_drop, hd] at e
        rw [e]
        cases (l.take i).find? (fun z => iEq z.1 id) <;> rfl
      rw [this]

/-- The place of a block. -/
def blkAt (l : List DBk) (id : Int) : Int := idxOf l (fun b => iEq b.1 id)
theorem s_blkAt (l : List DBk) (id : Int) (hl : L63 l.length) : F139 ((l, ()), ((id, ()), ())) = some (I1 (blkAt l id)) := by
  have lp := loopIdx (S := Int × Unit) l (fun b => iEq b.1 id) (f := F139.b0 ((l, ()), ((id, ()), ()))) (fun k => (k, ())) (Sum.inl ((l.length : Int), ())) (fun i => Sum.inr (I1 i)) (fun i hi => ?_) ?_
  · unfold F139 blkAt
    refine bind_eq lp ?_
    rcases idxOf_cases l (fun b => iEq b.1 id) with ⟨h1, _, h3⟩ | ⟨j, hj, _, _, h1, _, h3⟩ <;> rw [h1, h3] <;> rfl
  · unfold F139.b0
    refine lt_then (Int.ofNat_lt.2 hi) (bind_eq (getI_lt hi) ?_)
    rw [← nxt hi hl]
  · unfold F139.b0
    exact lt_else (Int.le_refl _) rfl

theorem s_tree (l : List DBk) (h : (Ty.sl e137).Ok l) : F85 ((l, ()), ()) = some (B1 (treeB l)) := by
  have hl : L63 l.length := h.1
  have lp := loopAll (S := Int × Unit) l (fun i b => treeQ l i b && (rootB (bQc b) || parentB (l.take i) b)) (f := F85.b0 ((l, ()), ())) (fun k => (k, ())) (Sum.inl ((l.length : Int), ())) (Sum.inr (B1 false)) (fun i hi => ?_) ?_
  · unfold F85 treeB
    refine bind_eq lp ?_
    cases allI (fun i b => treeQ l i b && (rootB (bQc b) || parentB (l.take i) b)) 0 l <;> rfl
  · unfold F85.b0 treeQ
    have hb : BOk l[i] := Ok_mem h.2 (List.getElem_mem hi)
    obtain ⟨b0, hb0, he0⟩ := head_get hi
    refine lt_then (Int.ofNat_lt.2 hi) (bind_eq (getI_lt hi) (join_go (bind_eq (s_blk _ hb) (goN (bind_eq hb0 ?_))) (bind_eq (s_root (bQc l[i])) ?_)))
    · rw [← he0]
      refine goN (asc_step hi hl (fun z => le_ite))
    · rw [← nxt hi hl]
      dsimp only
      cases rootB (bQc l[i]) with
      | true => rfl
      | false =>
        refine cut_hi (by omega) ?_
        rw [take_nat]
        refine bind_eq (s_blkAt _ _ (by rw [List.length_take]; omega)) ?_
        unfold blkAt parentB
        rcases idxOf_cases (l.take i) (fun z => iEq z.1 (bQc l[i]).2.1) with ⟨_, h2, h3⟩ | ⟨j, hj, _, _, _, h2, h3⟩
        · rw [h2, show idxOf (l.take i) (fun b => iEq b.1 l[i].2.2.2.2.2.1) = -1 from h3]; rfl
        · rw [h2, show idxOf (l.take i) (fun b => iEq b.1 l[i].2.2.2.2.2.1) = (j : Int) from h3]
          have hj2 : j < l.length := by rw [List.length_take] at hj; omega
          rw [List.getElem_take]
          exact pos_else (Int.natCast_nonneg j) (bind_eq (getI_lt hj2) goE)
  · unfold F85.b0
    exact lt_else (Int.le_refl _) rfl

theorem i_blkAt (l : List DBk) (id : Int) (hl : L63 l.length) : F156 ((l, ()), ((id, ()), ())) = some (I1 (blkAt l id)) := by
  unfold F156 blkAt
  exact bind_eq (idxFunc_blk l _ (fun b => iEq b.1 id) (fun x => rfl) hl) rfl

theorem i_tree (l : List DBk) (h : (Ty.sl e137).Ok l) : F114 ((l, ()), ()) = some (B1 (treeB l)) := by
  have hl : L63 l.length := h.1
  have lp := loopAll (S := Int × Unit) l (fun i b => treeQ l i b && (rootB (bQc b) || parentB l b)) (f := F114.b0 ((l, ()), ())) (fun k => (k, ())) (Sum.inl ((l.length : Int), ())) (Sum.inr (B1 false)) (fun i hi => ?_) ?_
  · unfold F114 treeB
    refine bind_eq lp ?_
    rw [tree_whole]
    cases allI (fun i b => treeQ l i b && (rootB (bQc b) || parentB l b)) 0 l <;> rfl
  · unfold F114.b0 treeQ
    have hb : BOk l[i] := Ok_mem h.2 (List.getElem_mem hi)
    obtain ⟨b0, hb0, he0⟩ := head_get hi
    refine lt_then (Int.ofNat_lt.2 hi) (bind_eq (getI_lt hi) (join_go (bind_eq (i_blk _ hb) (goN (bind_eq hb0 ?_))) (bind_eq (i_root (bQc l[i])) ?_)))
    · rw [← he0]
      refine goN (asc_step hi hl (fun z => le_ite))
    · rw [← nxt hi hl]
      dsimp only
      cases rootB (bQc l[i]) with
      | true => rfl
      | false =>
        refine bind_eq (i_blkAt _ _ hl) ?_
        unfold blkAt parentB
        rcases idxOf_cases l (fun z => iEq z.1 (bQc l[i]).2.1) with ⟨_, h2, h3⟩ | ⟨j, hj, _, _, _, h2, h3⟩
        · rw [h2, show idxOf l (fun b => iEq b.1 l[i].2.2.2.2.2.1) = -1 from h3]; rfl
        · rw [h2, show idxOf l (fun b => iEq b.1 l[i].2.2.2.2.2.1) = (j : Int) from h3]
          exact pos_else (Int.natCast_nonneg j) (bind_eq (getI_lt hj) goE)
  · unfold F114.b0
    exact lt_else (Int.le_refl _) rfl

abbrev nBase (n : DNd) : DLe := (n.2.2.1, (n.2.2.2.1, ()))
abbrev nSet (n : DNd) : List D143 := n.2.2.2.2.1
abbrev nTree (n : DNd) : List DBk := n.2.2.2.2.2.1
abbrev nRound (n : DNd) : Int := n.2.2.2.2.2.2.1
abbrev nVoted (n : DNd) : Int := n.2.2.2.2.2.2.2.1
def nHigh (n : DNd) : DQc := (n.2.2.2.2.2.2.2.2.1, (n.2.2.2.2.2.2.2.2.2.1, (n.2.2.2.2.2.2.2.2.2.2.1, ())))
def nTc (n : DNd) : DTc := (n.2.2.2.2.2.2.2.2.2.2.2.1, (n.2.2.2.2.2.2.2.2.2.2.2.2.1, (n.2.2.2.2.2.2.2.2.2.2.2.2.2.1, ())))
abbrev nLed (n : DNd) : Int := n.2.2.2.2.2.2.2.2.2.2.2.2.2.2.1
abbrev nVotes (n : DNd) : List D147 := n.2.2.2.2.2.2.2.2.2.2.2.2.2.2.2.1
abbrev nGones (n : DNd) : List D149 := n.2.2.2.2.2.2.2.2.2.2.2.2.2.2.2.2.1
abbrev nDone (n : DNd) : List D3 := n.2.2.2.2.2.2.2.2.2.2.2.2.2.2.2.2.2.1
abbrev nPool (n : DNd) : List D59 := n.2.2.2.2.2.2.2.2.2.2.2.2.2.2.2.2.2.2.1
abbrev NOk (n : DNd) : Prop := e55.Ok n
theorem NOk.base {n : DNd} (h : NOk n) : (Ty.sl e183).Ok (nBase n).2.1 := h.2.2.2.1
theorem NOk.set {n : DNd} (h : NOk n) : (Ty.sl e143).Ok (nSet n) := h.2.2.2.2.1
theorem NOk.tree {n : DNd} (h : NOk n) : (Ty.sl e137).Ok (nTree n) := h.2.2.2.2.2.1
theorem NOk.high {n : DNd} (h : NOk n) : QOk (nHigh n) := h.2.2.2.2.2.2.2.2.2.2.1
theorem NOk.tcs {n : DNd} (h : NOk n) : TOk (nTc n) := ⟨h.2.2.2.2.2.2.2.2.2.2.2.2.1, h.2.2.2.2.2.2.2.2.2.2.2.2.2.1.1⟩
theorem NOk.pool {n : DNd} (h : NOk n) : (Ty.sl e59).Ok (nPool n) := h.2.2.2.2.2.2.2.2.2.2.2.2.2.2.2.2.2.2.1
def headB (l : List DBk) (ep : Int) : Bool := match l with
  | b :: _ => iEq b.2.1 ep
  | [] => true
def nodeB (n : DNd) : Bool := nameB n.1 && (ledgerB (nBase n) && (iEq (nBase n).1 n.2.1 && (poolB (nPool n) && ((!iLt 0 (List.length (nSet n) : Int) || setB (nSet n)) && (treeB (nTree n) && (headB (nTree n) n.2.1 && (inR (nRound n) 1 10000 && (iLt (nHigh n).1 (nRound n) && (iLt (nTc n).1 (nRound n) && (inR (nVoted n) 0 10000 && (inR (nLed n) 0 10000 && (qcB (nSet n) (nHigh n) && (tcB (nSet n) (nTc n) && (iLe (List.length (nVotes n) : Int) 1000 && (iLe (List.length (nGones n) : Int) 1000 && (iLe (List.length (nDone n) : Int) 200 && iLe (List.length (nPast n) : Int) 200))))))))))))))))
theorem head_go {l : List DBk} {ep : Int} {R : Type} {g x : Option R} : (bif iLt 0 (l.length : Int) then (getI l 0).bind (fun b => bif !iEq b.2.1 ep then x else g) else g) = bif headB l ep then g else x := by
  cases l with
  | nil => rfl
  | cons b r => exact (lt_then (by simp) (bind_eq rfl goE))

theorem s_node (n : DNd) (h : NOk n) : F24 (n, ()) = some (B1 (nodeB n)) := by
  unfold F24 nodeB
  have hT : ∀ R (g x : Option R), ((F85 ((nTree n, ()), ())).bind fun y => bif !y.1.1 then x else (bif iLt 0 (List.length (nTree n) : Int) then (getI (nTree n) 0).bind (fun b => bif !iEq b.2.1 n.2.1 then x else g) else g)) = bif (treeB (nTree n) && headB (nTree n) n.2.1) then g else x := fun R g x => bind_eq (s_tree _ h.tree) (goN head_go)
  refine (join_and (b := nameB n.1 && (ledgerB (nBase n) && (iEq (nBase n).1 n.2.1 && (poolB (nPool n) && ((!iLt 0 (List.length (nSet n) : Int) || setB (nSet n)) && (treeB (nTree n) && headB (nTree n) n.2.1)))))) (bind_eq (s_name _ h.1) (goN (bind_eq (s_ledger (nBase n) h.base) (goN (goN (bind_eq (s_pool _ h.pool) (goN ?_))))))) (bind_eq (s_in _ _ _) (andY (andY (b := iLt (nHigh n).1 (nRound n)) (andY (b := iLt (nTc n).1 (nRound n)) (bind_eq (s_in _ _ _) (andY (bind_eq (s_in _ _ _) (andY (bind_eq (s_qc _ (nHigh n) h.set.1 h.high) (andY (bind_eq (s_tc _ (nTc n) h.set.1 h.tcs) (andY (andY (b := iLe (List.length (nVotes n) : Int) 1000) (andY (b := iLe (List.length (nGones n) : Int) 1000) (and_yes (b := iLe (List.length (nDone n) : Int) 200) (c := iLe (List.length (nPast n) : Int) 200))))))))))))))))).trans ?_
  · refine Eq.trans ?_ (goDup (c := iLt 0 (List.length (nSet n) : Int)) (s := setB (nSet n)) (hT _ _ _))
    cases iLt 0 (List.length (nSet n) : Int) with
    | false => rfl
    | true => exact (congrArg (fun o => Option.bind o _) (s_set _ h.set)).trans rfl
  · simp only [Bool.and_assoc]

theorem i_node (n : DNd) (h : NOk n) : F37 (n, ()) = some (B1 (nodeB n)) := by
  unfold F37
  refine (join_and (b := nameB n.1 && (ledgerB (nBase n) && (iEq (nBase n).1 n.2.1 && ((!iLt 0 (List.length (nSet n) : Int) || setB (nSet n)) && poolB (nPool n))))) (bind_eq (i_name _ h.1) (goN (bind_eq (i_ledger (nBase n) h.base) (goN (goN ?_))))) (bind_eq (i_in _ _ _) (andN (bind_eq (i_in _ _ _) (andN (bind_eq (i_in _ _ _) (andN (bind_eq (i_qc _ (nHigh n) h.set.1 h.high) (andN (bind_eq (i_tc _ (nTc n) h.set.1 h.tcs) (andN (noT (b := iLe (nRound n) (nHigh n).1) (noT (b := iLe (nRound n) (nTc n).1) (noT (b := iLt 1000 (List.length (nVotes n) : Int)) (noT (b := iLt 1000 (List.length (nGones n) : Int)) (noT (b := iLt 200 (List.length (nDone n) : Int)) (noT (b := iLt 200 (List.length (nPast n) : Int)) (bind_eq (i_tree _ h.tree) (andY (c := headB (nTree n) n.2.1) ?_))))))))))))))))))).trans ?_
  · refine Eq.trans ?_ (goDup (c := iLt 0 (List.length (nSet n) : Int)) (s := setB (nSet n)) (K := (F110 ((nPool n, ()), ())).bind fun y => bif !y.1.1 then some (.inr (B1 false)) else some (.inl ())) (bind_eq (i_pool _ h.pool) goE))
    cases iLt 0 (List.length (nSet n) : Int) with
    | false => rfl
    | true => exact (congrArg (fun o => Option.bind o _) (i_set _ h.set)).trans rfl
  · cases hq : nTree n with
    | nil =>
      have : n.2.2.2.2.2.1 = ([] : List DBk) := hq
      dsimp only
      rw [this]; rfl
    | cons b r =>
      have : n.2.2.2.2.2.1 = b :: r := hq
      dsimp only
      rw [this]
      have e : iEq ((List.length (b :: r) : Nat) : Int) 0 = false := by simp [iEq]; omega
      rw [e]; rfl
  · unfold nodeB
    have e : ∀ a b : Int, (!iLe a b) = iLt b a := fun a b => by rw [iLe_lt, Bool.not_not]
    have e2 : ∀ a b : Int, (!iLt a b) = iLe b a := fun a b => (iLe_lt).symm
    rw [e, e, e2 1000, e2 1000, e2 200, e2 200]
    refine congrArg (fun z => some (B1 z)) ?_
    generalize nameB n.1 = p1
    generalize ledgerB (nBase n) = p2
    generalize iEq (nBase n).1 n.2.1 = p3
    generalize poolB (nPool n) = p4
    generalize (!iLt 0 (List.length (nSet n) : Int) || setB (nSet n)) = p5
    generalize treeB (nTree n) = p6
    generalize headB (nTree n) n.2.1 = p7
    generalize inR (nRound n) 1 10000 = p8
    generalize iLt (nHigh n).1 (nRound n) = p9
    generalize iLt (nTc n).1 (nRound n) = p10
    generalize inR (nVoted n) 0 10000 = p11
    generalize inR (nLed n) 0 10000 = p12
    generalize qcB (nSet n) (nHigh n) = p13
    generalize tcB (nSet n) (nTc n) = p14
    generalize iLe (List.length (nVotes n) : Int) 1000 = p15
    generalize iLe (List.length (nGones n) : Int) 1000 = p16
    generalize iLe (List.length (nDone n) : Int) 200 = p17
    generalize iLe (List.length (nPast n) : Int) 200 = p18
    simp only [Bool.and_comm, Bool.and_left_comm, Bool.and_assoc]

theorem allI_of {A : Type} {p : Nat → A → Bool} : ∀ {k : Nat} {l : List A}, (∀ i (h : i < l.length), p (k + i) l[i] = true) → allI p k l = true
  | _, [], _ => rfl
  | k, x :: r, h => by
    simp only [allI, Bool.and_eq_true]
    refine ⟨h 0 (Nat.zero_lt_succ _), allI_of (fun i hi => ?_)⟩
    have := h (i + 1) (by simpa using hi)
    rw [show k + 1 + i = k + (i + 1) by omega]
    simpa using this
theorem sameT_sp {A : Type} {eq : A → A → Bool} {xs ys : List A} : sameT eq xs ys = true ↔ xs.length = ys.length ∧ ∀ i (h : i < xs.length) (h2 : i < ys.length), eq xs[i] ys[i] = true := by
  unfold sameT
  simp only [Bool.and_eq_true]
  constructor
  · rintro ⟨h1, h2⟩
    have hlen : xs.length = ys.length := by simp [iEq] at h1; omega
    refine ⟨hlen, fun i h h3 => ?_⟩
    have := allI_get h2 i h
    rw [Nat.zero_add, List.getElem?_eq_getElem h3] at this
    exact this
  · rintro ⟨h1, h2⟩
    refine ⟨by rw [h1]; exact iEq_self _, ?_⟩
    refine allI_of (fun i h => ?_)
    rw [Nat.zero_add, List.getElem?_eq_getElem (by omega)]
    exact h2 i h _
theorem sameT_comm {A : Type} {eq : A → A → Bool} (he : ∀ a b, eq a b = eq b a) (xs ys : List A) : sameT eq xs ys = sameT eq ys xs := by
  rw [Bool.eq_iff_iff, sameT_sp, sameT_sp]
  constructor
  · rintro ⟨h1, h2⟩
    exact ⟨h1.symm, fun i h h3 => by rw [he]; exact h2 i h3 h⟩
  · rintro ⟨h1, h2⟩
    exact ⟨h1.symm, fun i h h3 => by rw [he]; exact h2 i h3 h⟩
theorem iEq_comm (a b : Int) : iEq a b = iEq b a := by simp only [iEq]; exact decide_eq_decide.2 eq_comm
theorem txEq_comm (x y : D59) : txEq x y = txEq y x := by
  unfold txEq
  rw [iEq_comm x.1, sEq_comm x.2.1, sEq_comm x.2.2.1, iEq_comm x.2.2.2.1, iEq_comm x.2.2.2.2.1]
theorem valEq_comm (x y : D143) : valEq x y = valEq y x := by
  unfold valEq
  rw [sEq_comm x.1, iEq_comm x.2.1]
theorem strEq_comm (x y : D9) : sEq x.1 y.1 = sEq y.1 x.1 := sEq_comm _ _
theorem intEq_comm (x y : D3) : iEq x.1 y.1 = iEq y.1 x.1 := iEq_comm _ _
theorem sameBlk_comm (a b : DBk) : sameBlkB a b = sameBlkB b a := by
  unfold sameBlkB sameQcB sameTcB
  rw [iEq_comm a.1, iEq_comm a.2.1, iEq_comm a.2.2.1, sEq_comm a.2.2.2.1, iEq_comm (bQc a).1, iEq_comm (bQc a).2.1, sameT_comm (eq := fun x y => sEq x.1 y.1) strEq_comm (bQc a).2.2.1, iEq_comm (bTc a).1, sameT_comm (eq := fun x y => sEq x.1 y.1) strEq_comm (bTc a).2.1, sameT_comm (eq := fun x y => iEq x.1 y.1) intEq_comm (bTc a).2.2.1, sameT_comm txEq_comm (bTxs a), sameT_comm valEq_comm (bNext a), sEq_comm (bRoot a)]
  have e : bEq (bEnd a) (bEnd b) = bEq (bEnd b) (bEnd a) := by cases bEnd a <;> cases bEnd b <;> rfl
  rw [e]

theorem BlockL_of {b : DBk} (h : e137.w b ≤ 1048576) : BlockL b := ⟨w_ln (w_hd (w_tl (w_tl (w_tl (w_tl (w_tl (w_tl h))))))), w_ln (w_hd (w_tl (w_tl (w_tl (w_tl (w_tl (w_tl (w_tl (w_tl h))))))))), w_ln (w_hd (w_tl (w_tl (w_tl (w_tl (w_tl (w_tl (w_tl (w_tl (w_tl h)))))))))), w_ln (w_hd (w_tl (w_tl (w_tl (w_tl (w_tl (w_tl (w_tl (w_tl (w_tl (w_tl h))))))))))), w_ln (w_hd (w_tl (w_tl (w_tl (w_tl (w_tl (w_tl (w_tl (w_tl (w_tl (w_tl (w_tl (w_tl h)))))))))))))⟩
theorem BlocksL_of {l : List DBk} (h : (Ty.sl e137).w l ≤ 1048576) : ∀ b ∈ l, BlockL b := fun b hb => BlockL_of (w_mem h hb)
theorem ProofL_of {p : DPr} (h : e129.w p ≤ 1048576) : ProofL p := ⟨w_ln (w_hd (w_tl h)), BlocksL_of (w_hd (w_tl h)), w_ln (w_hd (w_tl (w_tl (w_tl (w_tl h)))))⟩
def NodeL (n : DNd) : Prop := AcctL (nBase n).2.1 ∧ W1 (nSet n).length ∧ W1 (nTree n).length ∧ (∀ b ∈ nTree n, BlockL b) ∧ W1 (List.length (nHigh n).2.2.1) ∧ W1 (List.length (nTc n).2.1) ∧ W1 (List.length (nTc n).2.2.1) ∧ W1 (List.length (nVotes n)) ∧ W1 (List.length (nGones n)) ∧ W1 (List.length (nDone n)) ∧ W1 (List.length (nPool n)) ∧ W1 (List.length (nPast n)) ∧ ∀ p ∈ nPast n, ProofL p
theorem NodeL_of {n : DNd} (h : e55.w n ≤ 1048576) : NodeL n := ⟨AcctL_of (w_hd (w_tl (w_tl (w_tl h)))), w_ln (w_hd (w_tl (w_tl (w_tl (w_tl h))))), w_ln (w_hd (w_tl (w_tl (w_tl (w_tl (w_tl h)))))), BlocksL_of (w_hd (w_tl (w_tl (w_tl (w_tl (w_tl h)))))), w_ln (w_hd (w_tl (w_tl (w_tl (w_tl (w_tl (w_tl (w_tl (w_tl (w_tl (w_tl h))))))))))), w_ln (w_hd (w_tl (w_tl (w_tl (w_tl (w_tl (w_tl (w_tl (w_tl (w_tl (w_tl (w_tl (w_tl h))))))))))))), w_ln (w_hd (w_tl (w_tl (w_tl (w_tl (w_tl (w_tl (w_tl (w_tl (w_tl (w_tl (w_tl (w_tl (w_tl h)))))))))))))), w_ln (w_hd (w_tl (w_tl (w_tl (w_tl (w_tl (w_tl (w_tl (w_tl (w_tl (w_tl (w_tl (w_tl (w_tl (w_tl (w_tl h)))))))))))))))), w_ln (w_hd (w_tl (w_tl (w_tl (w_tl (w_tl (w_tl (w_tl (w_tl (w_tl (w_tl (w_tl (w_tl (w_tl (w_tl (w_tl (w_tl h))))))))))))))))), w_ln (w_hd (w_tl (w_tl (w_tl (w_tl (w_tl (w_tl (w_tl (w_tl (w_tl (w_tl (w_tl (w_tl (w_tl (w_tl (w_tl (w_tl (w_tl h)))))))))))))))))), w_ln (w_hd (w_tl (w_tl (w_tl (w_tl (w_tl (w_tl (w_tl (w_tl (w_tl (w_tl (w_tl (w_tl (w_tl (w_tl (w_tl (w_tl (w_tl (w_tl h))))))))))))))))))), w_ln (w_hd (w_tl (w_tl (w_tl (w_tl (w_tl (w_tl (w_tl (w_tl (w_tl (w_tl (w_tl (w_tl (w_tl (w_tl (w_tl (w_tl (w_tl (w_tl (w_tl h)))))))))))))))))))), fun p hp => ProofL_of (w_mem (w_hd (w_tl (w_tl (w_tl (w_tl (w_tl (w_tl (w_tl (w_tl (w_tl (w_tl (w_tl (w_tl (w_tl (w_tl (w_tl (w_tl (w_tl (w_tl (w_tl h)))))))))))))))))))) hp)⟩

theorem s_cnode (n : DNd) (h : NodeL n) : F23 (n, ()) = some (n, ()) := by
  obtain ⟨h1, h2, h3, h4, h5, h6, h7, h8, h9, h10, h11, h12, h13⟩ := h
  have lp := loopCopy (S := Int × (List DPr × Unit)) (nPast n) (f := F23.b0 (n, ())) (fun a k => (k, (a, ()))) (Sum.inl (((nPast n).length : Int), (nPast n, ()))) (fun i hi => ?_) ?_
  · unfold F23
    exact bind_eq (s_cledger (nBase n) h1) (room_then h2 (by decide) (by decide) (bind_eq (s_cblks _ h3 h4) (bind_eq (s_cqc (nHigh n) h5) (bind_eq (s_ctc (nTc n) h6 h7) (room_then h8 (by decide) (by decide) (room_then h9 (by decide) (by decide) (room_then h10 (by decide) (by decide) (room_then h11 (by decide) (by decide) (bind_eq lp rfl)))))))))
  · unfold F23.b0
    refine lt_then (Int.ofNat_lt.2 hi) (bind_eq (getI_lt hi) (bind_eq (s_cproof _ (h13 _ (List.getElem_mem hi))) (room_one hi h12 (by decide) (by decide) ?_)))
    rw [← nxt hi h12.l]; rfl
  · unfold F23.b0
    exact lt_else (Int.le_refl _) rfl

theorem i_cnode (n : DNd) (h : NodeL n) : F36 (n, ()) = some (n, ()) := by
  obtain ⟨h1, h2, h3, h4, h5, h6, h7, h8, h9, h10, h11, h12, h13⟩ := h
  have lp := loopCopy (S := Int × (List DPr × Unit)) (nPast n) (f := F36.b0 (n, ())) (fun a k => (k, (a, ()))) (Sum.inl (((nPast n).length : Int), (nPast n, ()))) (fun i hi => ?_) ?_
  · unfold F36
    exact bind_eq (i_cledger (nBase n) h1) (bind_eq (i_clV _ h2) (bind_eq (i_cblks _ h3 h4) (bind_eq (i_cqc (nHigh n) h5) (bind_eq (i_ctc (nTc n) h6 h7) (bind_eq (i_clVo _ h8) (bind_eq (i_clGo _ h9) (bind_eq (i_clI _ h10) (bind_eq (i_clT _ h11) (bind_eq lp rfl)))))))))
  · unfold F36.b0
    refine lt_then (Int.ofNat_lt.2 hi) (bind_eq (getI_lt hi) (bind_eq (i_cproof _ (h13 _ (List.getElem_mem hi))) (room_one hi h12 (by decide) (by decide) ?_)))
    rw [← nxt hi h12.l]; rfl
  · unfold F36.b0
    exact lt_else (Int.le_refl _) rfl

theorem bl_tr : ∀ {x y z : List UInt8}, Op.bytesLess x y = true → Op.bytesLess y z = true → Op.bytesLess x z = true
  | x, [], _, h, _ => by cases x <;> simp [Op.bytesLess] at h
  | _, b :: y, [], _, h => by simp [Op.bytesLess] at h
  | [], _ :: _, _ :: _, _, _ => rfl
  | a :: x, b :: y, c :: z, h1, h2 => by
    simp only [Op.bytesLess, Bool.or_eq_true, Bool.and_eq_true, decide_eq_true_eq, beq_iff_eq] at h1 h2 ⊢
    rcases h1 with h1 | ⟨rfl, h1⟩
    · rcases h2 with h2 | ⟨rfl, h2⟩
      · exact .inl (UInt8.lt_trans h1 h2)
      · exact .inl h1
    · rcases h2 with h2 | ⟨rfl, h2⟩
      · exact .inl h2
      · exact .inr ⟨rfl, bl_tr h1 h2⟩
/-- An order, by what is less and what is the same. -/
structure Ord3 {A : Type} (lt eq : A → A → Bool) : Prop where
  refl : ∀ a, eq a a = true
  symm : ∀ a b, eq a b = true → eq b a = true
  etr : ∀ a b c, eq a b = true → eq b c = true → eq a c = true
  lte : ∀ a b c, lt a b = true → eq b c = true → lt a c = true
  elt : ∀ a b c, eq a b = true → lt b c = true → lt a c = true
  tr : ∀ a b c, lt a b = true → lt b c = true → lt a c = true
  irr : ∀ a b, lt a b = true → eq a b = false
  tot : ∀ a b, lt a b = false → eq a b = false → lt b a = true
theorem ord_int : Ord3 iLt iEq where
  refl a := iEq_self a
  symm a b h := by simp only [iEq, decide_eq_true_eq] at *; omega
  etr a b c h k := by simp only [iEq, decide_eq_true_eq] at *; omega
  lte a b c h k := by simp only [iEq, iLt, decide_eq_true_eq] at *; omega
  elt a b c h k := by simp only [iEq, iLt, decide_eq_true_eq] at *; omega
  tr a b c h k := by simp only [iLt, decide_eq_true_eq] at *; omega
  irr a b h := by simp only [iEq, iLt, decide_eq_true_eq, decide_eq_false_iff_not] at *; omega
  tot a b h k := by simp only [iEq, iLt, decide_eq_true_eq, decide_eq_false_iff_not] at *; omega
theorem sEq_list {a b : ByteArray} : sEq a b = true ↔ a.toList = b.toList := by unfold sEq; simp
theorem ord_str : Ord3 sLt sEq where
  refl a := sEq_self a
  symm a b h := sEq_list.2 (sEq_list.1 h).symm
  etr a b c h k := sEq_list.2 ((sEq_list.1 h).trans (sEq_list.1 k))
  lte a b c h k := by unfold sLt at *; rw [← sEq_list.1 k]; exact h
  elt a b c h k := by unfold sLt at *; rw [sEq_list.1 h]; exact k
  tr a b c h k := bl_tr h k
  irr a b h := by
    cases hq : sEq a b with
    | false => rfl
    | true => rw [sLt_eq hq] at h; cases h
  tot a b h k := by
    have := sLt_tri a b
    rw [h, k] at this
    cases hx : sLt b a with
    | true => rfl
    | false => rw [hx] at this; cases this
theorem Ord3.comap {A B : Type} {lt eq : B → B → Bool} (h : Ord3 lt eq) (f : A → B) : Ord3 (fun a b => lt (f a) (f b)) (fun a b => eq (f a) (f b)) :=
  ⟨fun a => h.refl _, fun a b => h.symm _ _, fun a b c => h.etr _ _ _, fun a b c => h.lte _ _ _, fun a b c => h.elt _ _ _, fun a b c => h.tr _ _ _, fun a b => h.irr _ _, fun a b => h.tot _ _⟩
theorem lx {e x y : Bool} : (bif !e then x else y) = true ↔ (e = false ∧ x = true) ∨ (e = true ∧ y = true) := by cases e <;> simp
theorem lx0 {e x y : Bool} : (bif !e then x else y) = false ↔ (e = false ∧ x = false) ∨ (e = true ∧ y = false) := by cases e <;> simp
theorem Ord3.lex {A : Type} {l1 e1 l2 e2 : A → A → Bool} (h : Ord3 l1 e1) (k : Ord3 l2 e2) : Ord3 (fun a b => bif !e1 a b then l1 a b else l2 a b) (fun a b => e1 a b && e2 a b) where
  refl a := by rw [h.refl, k.refl]; rfl
  symm a b q := by
    simp only [Bool.and_eq_true] at q ⊢
    exact ⟨h.symm _ _ q.1, k.symm _ _ q.2⟩
  etr a b c q r := by
    simp only [Bool.and_eq_true] at q r ⊢
    exact ⟨h.etr _ _ _ q.1 r.1, k.etr _ _ _ q.2 r.2⟩
  lte a b c q r := by
    simp only [Bool.and_eq_true] at r
    rcases lx.1 q with ⟨u, v⟩ | ⟨u, v⟩
    · have := h.lte _ _ _ v r.1
      exact lx.2 (.inl ⟨h.irr _ _ this, this⟩)
    · exact lx.2 (.inr ⟨h.etr _ _ _ u r.1, k.lte _ _ _ v r.2⟩)
  elt a b c q r := by
    simp only [Bool.and_eq_true] at q
    rcases lx.1 r with ⟨u, v⟩ | ⟨u, v⟩
    · have := h.elt _ _ _ q.1 v
      exact lx.2 (.inl ⟨h.irr _ _ this, this⟩)
    · exact lx.2 (.inr ⟨h.etr _ _ _ q.1 u, k.elt _ _ _ q.2 v⟩)
  tr a b c q r := by
    rcases lx.1 q with ⟨u, v⟩ | ⟨u, v⟩
    · rcases lx.1 r with ⟨u2, v2⟩ | ⟨u2, v2⟩
      · have := h.tr _ _ _ v v2
        exact lx.2 (.inl ⟨h.irr _ _ this, this⟩)
      · have := h.lte _ _ _ v u2
        exact lx.2 (.inl ⟨h.irr _ _ this, this⟩)
    · rcases lx.1 r with ⟨u2, v2⟩ | ⟨u2, v2⟩
      · have := h.elt _ _ _ u v2
        exact lx.2 (.inl ⟨h.irr _ _ this, this⟩)
      · exact lx.2 (.inr ⟨h.etr _ _ _ u u2, k.tr _ _ _ v v2⟩)
  irr a b q := by
    rcases lx.1 q with ⟨u, v⟩ | ⟨u, v⟩
    · rw [u]; rfl
    · rw [k.irr _ _ v, Bool.and_false]
  tot a b q r := by
    rcases lx0.1 q with ⟨u, v⟩ | ⟨u, v⟩
    · have := h.tot _ _ v u
      exact lx.2 (.inl ⟨h.irr _ _ this, this⟩)
    · rw [u, Bool.true_and] at r
      exact lx.2 (.inr ⟨h.symm _ _ u, k.tot _ _ v r⟩)

def txEqK (a b : D59) : Bool := sEq a.2.1 b.2.1 && (iEq a.2.2.2.2.1 b.2.2.2.2.1 && (iEq a.1 b.1 && (sEq a.2.2.1 b.2.2.1 && iEq a.2.2.2.1 b.2.2.2.1)))
theorem txOrd : Ord3 txLessB txEqK :=
  (ord_str.comap (fun a : D59 => a.2.1)).lex ((ord_int.comap (fun a : D59 => a.2.2.2.2.1)).lex ((ord_int.comap (fun a : D59 => a.1)).lex ((ord_str.comap (fun a : D59 => a.2.2.1)).lex (ord_int.comap (fun a : D59 => a.2.2.2.1)))))
theorem cmpTx_eq (a b : D59) : iEq (cmpTx a b) 0 = txEqK a b := by
  unfold cmpTx txEqK cmp3
  cases sEq a.2.1 b.2.1 <;> cases iEq a.2.2.2.2.1 b.2.2.2.2.1 <;> cases iEq a.1 b.1 <;> cases sEq a.2.2.1 b.2.2.1 <;> cases iEq a.2.2.2.1 b.2.2.2.1 <;> first
    | rfl
    | (cases sLt a.2.1 b.2.1 <;> rfl)
    | (cases iLt a.2.2.2.2.1 b.2.2.2.2.1 <;> rfl)
    | (cases iLt a.1 b.1 <;> rfl)
    | (cases sLt a.2.2.1 b.2.2.1 <;> rfl)
    | (cases iLt a.2.2.2.1 b.2.2.2.1 <;> rfl)

theorem allI_iff {A : Type} {p : Nat → A → Bool} {l : List A} : allI p 0 l = true ↔ ∀ i x, l[i]? = some x → p i x = true := by
  constructor
  · intro h i x hx
    obtain ⟨hi, rfl⟩ := List.getElem?_eq_some_iff.1 hx
    have := allI_get h i hi
    rwa [Nat.zero_add] at this
  · intro h
    exact allI_of (fun i hi => by rw [Nat.zero_add]; exact h i _ (List.getElem?_eq_getElem hi))
def SortedTx (l : List D59) : Prop := ∀ (i j : Nat) (x y : D59), l[i]? = some x → l[j]? = some y → i < j → txLessB x y = true
theorem sorted_of {l : List D59} (h : allI (poolP l) 0 l = true) : SortedTx l := by
  have hs := allI_iff.1 h
  have adj : ∀ i x y, l[i]? = some x → l[i + 1]? = some y → txLessB x y = true := fun i x y hx hy => by
    have := hs (i + 1) y hy
    unfold poolP behind at this
    simp only [Bool.and_eq_true] at this
    have h2 := this.2
    rw [hx] at h2
    exact h2
  have key : ∀ d i x y, l[i]? = some x → l[i + 1 + d]? = some y → txLessB x y = true := by
    intro d
    induction d with
    | zero => intro i x y hx hy; exact adj i x y hx hy
    | succ d ih =>
      intro i x y hx hy
      have hlt : i + 1 + d < l.length := by
        have := (List.getElem?_eq_some_iff.1 hy).1
        omega
      exact txOrd.tr _ _ _ (ih i x _ hx (List.getElem?_eq_getElem hlt)) (adj (i + 1 + d) _ y (List.getElem?_eq_getElem hlt) hy)
  intro i j x y hx hy hij
  exact key (j - (i + 1)) i x y hx (by rwa [show i + 1 + (j - (i + 1)) = j by omega])

theorem pos_ex {A : Type} (p : A → Bool) : ∀ l : List A, ∃ K, K ≤ l.length ∧ (∀ i x, l[i]? = some x → i < K → p x = true) ∧ (∀ x, l[K]? = some x → p x = false)
  | [] => ⟨0, Nat.le_refl _, fun i x h => by simp at h, fun x h => by simp at h⟩
  | y :: r => by
    cases hp : p y with
    | false => exact ⟨0, Nat.zero_le _, fun i x _ h => absurd h (Nat.not_lt_zero _), fun x h => by simp at h; rw [← h]; exact hp⟩
    | true =>
      obtain ⟨K, h1, h2, h3⟩ := pos_ex p r
      refine ⟨K + 1, by simpa using h1, fun i x h hi => ?_, fun x h => h3 x (by simpa using h)⟩
      cases i with
      | zero => simp at h; rw [← h]; exact hp
      | succ i => exact h2 i x (by simpa using h) (by omega)
structure At (l : List D59) (t : D59) (K : Nat) : Prop where
  le : K ≤ l.length
  lo : ∀ i x, l[i]? = some x → i < K → txLessB x t = true
  hi : ∀ i x, l[i]? = some x → K ≤ i → txLessB x t = false
theorem at_ex {l : List D59} (hs : SortedTx l) (t : D59) : ∃ K, At l t K := by
  obtain ⟨K, h1, h2, h3⟩ := pos_ex (fun x => txLessB x t) l
  refine ⟨K, h1, h2, fun i x hx hi => ?_⟩
  have hK : K < l.length := by
    have := (List.getElem?_eq_some_iff.1 hx).1
    omega
  have hk := List.getElem?_eq_getElem hK
  by_cases he : i = K
  · subst he; exact h3 x hx
  · cases hq : txLessB x t with
    | false => rfl
    | true =>
      have := txOrd.tr _ _ _ (hs K i _ x hk hx (by omega)) hq
      rw [h3 _ hk] at this; cases this
def hasK (l : List D59) (t : D59) (K : Nat) : Bool := match l[K]? with
  | some x => txEqK x t
  | none => false
def midL (l : List D59) (t : D59) (J : Nat) : List D59 := l.take J ++ t :: l.drop J
def addR (l : List D59) (t : D59) (K : Nat) : (List D59 × Unit) × ((Bool × Unit) × Unit) := bif !hasK l t K && (iLt (l.length : Int) 20 && txB t) then ((midL l t K, ()), ((true, ()), ())) else ((l, ()), ((false, ()), ()))
theorem mid_get {l : List D59} {t : D59} {J : Nat} (hJ : J ≤ l.length) (i : Nat) : (midL l t J)[i]? = if i < J then l[i]? else if i = J then some t else l[i - 1]? := by
  unfold midL
  by_cases h : i < J
  · rw [List.getElem?_append_left (by rw [List.length_take]; omega), List.getElem?_take, if_pos h, if_pos h]
  · have e : (l.take J).length = J := by rw [List.length_take]; omega
    rw [List.getElem?_append_right (by omega), e, if_neg h]
    by_cases h2 : i = J
    · rw [if_pos h2, h2, Nat.sub_self]; rfl
    · rw [if_neg h2]
      obtain ⟨d, rfl⟩ : ∃ d, i = J + 1 + d := ⟨i - J - 1, by omega⟩
      rw [show J + 1 + d - J = d + 1 by omega, List.getElem?_cons_succ, List.getElem?_drop, show J + 1 + d - 1 = J + d by omega]
theorem mid_len {l : List D59} {t : D59} {J : Nat} (hJ : J ≤ l.length) : (midL l t J).length = l.length + 1 := by
  unfold midL
  rw [List.length_append, List.length_take, List.length_cons, List.length_drop]
  omega
theorem set_mid {l : List D59} {z t : D59} {J : Nat} (hJ : J ≤ l.length) : (midL l z J).set J t = midL l t J := by
  unfold midL
  rw [List.set_append_right _ _ (by rw [List.length_take]; omega), List.length_take, Nat.min_eq_left hJ, Nat.sub_self]
  rfl

theorem half {i j : Nat} (h : i + j < 4611686018427387904) : IntKind.wrap .i64 (iShr .u64 (IntKind.wrap .u64 (iAdd .i64 (i : Int) (j : Int))) (1:Int)) = (((i + j) / 2 : Nat) : Int) := by
  have e1 : iAdd .i64 (i : Int) (j : Int) = ((i + j : Nat) : Int) := by rw [iAdd_small (by omega) (by omega)]; omega
  have e2 : IntKind.wrap .u64 ((i + j : Nat) : Int) = ((i + j : Nat) : Int) := by
    have : ∀ n : Int, IntKind.wrap .u64 n = n % 18446744073709551616 := fun n => by simp [IntKind.wrap, IntKind.bits, IntKind.signed]
    rw [this]; omega
  rw [e1, e2]
  have e3 : iShr .u64 ((i + j : Nat) : Int) 1 = (((i + j) / 2 : Nat) : Int) := by
    show Int.fdiv ((i + j : Nat) : Int) 2 = _
    rw [Int.fdiv_eq_ediv_of_nonneg _ (by omega)]
    omega
  rw [e3, IntKind.wrap_i64]
  omega
abbrev BsG : Type := (Int × (ByteArray × (ByteArray × (Int × (Int × (Int × (ByteArray × (ByteArray × (Int × (Int × Unit)))))))))) → Option (Int × Unit)
theorem bs_loop {l : List D59} {t : D59} {K : Nat} (hK : At l t K) (hl : l.length ≤ 20) (g : BsG) (hg : ∀ x : D59, g (x.1, (x.2.1, (x.2.2.1, (x.2.2.2.1, (x.2.2.2.2.1, (t.1, (t.2.1, (t.2.2.1, (t.2.2.2.1, (t.2.2.2.2.1, ())))))))))) = some (cmpTx x t, ())) :
    ∀ d i j : Nat, j - i ≤ d → i ≤ K → K ≤ j → j ≤ l.length → loopF (F115.b0 ((l, ()), (t, ((g, ()), ())))) ((i : Int), ((j : Int), ())) = some (Sum.inl ((K : Int), ((K : Int), ()))) := by
  intro d
  induction d with
  | zero =>
    intro i j h1 h2 h3 h4
    have e1 : i = K := by omega
    have e2 : j = K := by omega
    subst e1; subst e2
    refine loopF_end ?_
    unfold F115.b0
    exact lt_else (Int.le_refl _) rfl
  | succ d ih =>
    intro i j h1 h2 h3 h4
    by_cases hij : i < j
    · have hh : (i + j) / 2 < l.length := by omega
      have hx := List.getElem?_eq_getElem hh
      refine (loopF_step (s' := bif txLessB l[(i + j) / 2] t then ((((i + j) / 2 + 1 : Nat) : Int), ((j : Int), ())) else ((i : Int), ((((i + j) / 2 : Nat) : Int), ()))) ?_).trans ?_
      · unfold F115.b0
        refine lt_then (Int.ofNat_lt.2 hij) ?_
        dsimp only
        rw [half (by omega)]
        refine bind_eq (getI_lt hh) (bind_eq (hg _) ?_)
        dsimp only
        rw [cmpTx_lt, iAdd_small (by omega) (by omega)]
        cases txLessB l[(i + j) / 2] t <;> rfl
      · cases hq : txLessB l[(i + j) / 2] t with
        | true =>
          have hlt : (i + j) / 2 < K := by
            by_cases h5 : (i + j) / 2 < K
            · exact h5
            · have := hK.hi _ _ hx (by omega)
              rw [hq] at this; cases this
          exact ih ((i + j) / 2 + 1) j (by omega) (by omega) h3 h4
        | false =>
          have hle : K ≤ (i + j) / 2 := by
            by_cases h5 : (i + j) / 2 < K
            · have := hK.lo _ _ hx h5
              rw [hq] at this; cases this
            · omega
          exact ih i ((i + j) / 2) (by omega) h2 hle (by omega)
    · have e1 : i = K := by omega
      have e2 : j = K := by omega
      subst e1; subst e2
      refine loopF_end ?_
      unfold F115.b0
      exact lt_else (Int.le_refl _) rfl
theorem i_bs {l : List D59} {t : D59} {K : Nat} (hK : At l t K) (hl : l.length ≤ 20) (g : BsG) (hg : ∀ x : D59, g (x.1, (x.2.1, (x.2.2.1, (x.2.2.2.1, (x.2.2.2.2.1, (t.1, (t.2.1, (t.2.2.1, (t.2.2.2.1, (t.2.2.2.2.1, ())))))))))) = some (cmpTx x t, ())) :
    F115 ((l, ()), (t, ((g, ()), ()))) = some (((K : Int), ()), ((hasK l t K, ()), ())) := by
  unfold F115
  refine bind_eq (bs_loop hK hl g hg l.length 0 l.length (by omega) (Nat.zero_le _) hK.le (Nat.le_refl _)) ?_
  unfold hasK
  by_cases h : K < l.length
  · rw [List.getElem?_eq_getElem h]
    refine lt_then (Int.ofNat_lt.2 h) (bind_eq (getI_lt h) (bind_eq (hg _) ?_))
    dsimp only
    rw [cmpTx_eq]
  · have e : l[K]? = none := List.getElem?_eq_none (by omega)
    rw [e]
    exact lt_else (show (l.length : Int) ≤ (K : Int) by omega) rfl

theorem insF_ok {es : Tys} {bts : Nat} {xs vs : List es.D} {k : Nat} (hk : k ≤ xs.length) (hr : room (xs.length + vs.length) bts = true) : insF es bts ((xs, ()), (((k : Int), ()), ((vs, ()), ()))) = some ((lapp (xs.take k) (lapp vs (xs.drop k)), ()), ()) := by
  unfold insF
  dsimp only
  have c1 : iLe 0 (k : Int) = true := by simp [iLe]
  have c2 : iLe (k : Int) (xs.length : Int) = true := by simp [iLe]; omega
  rw [c1, c2, hr]
  rfl
theorem i_padd {l : List D59} {t : D59} {K : Nat} (hK : At l t K) (hx : (Ty.sl e59).Ok l) (ht : XOk t) (hp : poolB l = true) : F38 ((l, ()), (t, ())) = some (addR l t K) := by
  have hl : l.length ≤ 20 := by
    unfold poolB at hp
    simp only [Bool.and_eq_true] at hp
    have := hp.2
    simp only [iLe, decide_eq_true_eq] at this
    omega
  unfold F38 addR
  refine bind_eq (i_clT l (by show l.length ≤ 1048576; omega)) (bind_eq (i_bs hK hl _ (fun x => bind_eq (i_cmpTx x t) rfl)) ?_)
  dsimp only
  cases hasK l t K with
  | true => rfl
  | false =>
    simp only [cond_false, Bool.not_false, Bool.true_and]
    have e : iLe (20:Int) (l.length : Int) = !iLt (l.length : Int) 20 := by rw [iLe_lt]
    rw [e]
    cases hq : iLt (l.length : Int) 20 with
    | false => rfl
    | true =>
      simp only [Bool.not_true, cond_false, Bool.true_and]
      refine bind_eq (i_tx t ht) ?_
      dsimp only
      cases txB t with
      | false => rfl
      | true =>
        simp only [B1, Bool.not_true, cond_false, cond_true]
        refine bind_eq (i_pool l hx) ?_
        rw [hp]
        dsimp only [B1]
        simp only [Bool.not_true, cond_false]
        refine bind_eq (y := ((midL l t K, ()), ())) ?_ rfl
        unfold F118
        exact insF_ok (es := e59) (xs := l) (vs := [t]) hK.le (room_ok (by show l.length + 1 ≤ 1048577; omega) (by decide) (by decide))

theorem take_one {l : List D59} {k : Nat} (h : k < l.length) : l.take (k + 1) = l.take k ++ [l[k]] := by
  rw [List.take_add_one, List.getElem?_eq_getElem h]; rfl
theorem mid_down {l : List D59} {k : Nat} (h : k < l.length) : midL l l[k] (k + 1) = midL l l[k] k := by
  unfold midL
  rw [take_one h, List.drop_eq_getElem_cons h, List.append_assoc]; rfl
theorem sp_step (l : List D59) (t z : D59) (k : Nat) (h : k < l.length) (hl : l.length ≤ 20) :
    F25.b0 ((l, ()), (t, ())) (((k + 1 : Nat) : Int), (midL l z (k + 1), ())) = bif txLessB t l[k] then some (.inl ((k : Int), (midL l l[k] k, ()))) else some (.inr (.inl (((k + 1 : Nat) : Int), (midL l z (k + 1), ())))) := by
  have hk1 : k + 1 ≤ l.length := h
  have hlen := mid_len (t := z) hk1
  have g1 : (midL l z (k + 1))[k]? = some l[k] := by rw [mid_get hk1, if_pos (by omega)]; exact List.getElem?_eq_getElem h
  have g2 : (midL l z (k + 1))[k + 1]? = some z := by rw [mid_get hk1, if_neg (by omega), if_pos rfl]
  have i1 : getI (midL l z (k + 1)) (k : Int) = some l[k] := by
    have hlt : k < (midL l z (k + 1)).length := by omega
    rw [getI_lt hlt, ← List.getElem?_eq_getElem hlt, g1]
  have i2 : getI (midL l z (k + 1)) ((k + 1 : Nat) : Int) = some z := by
    have hlt : k + 1 < (midL l z (k + 1)).length := by omega
    rw [getI_lt hlt, ← List.getElem?_eq_getElem hlt, g2]
  unfold F25.b0
  refine lt_then (show (0:Int) < ((k + 1 : Nat) : Int) by omega) ?_
  dsimp only
  have e1 : iSub .i64 ((k + 1 : Nat) : Int) 1 = (k : Int) := by rw [iSub_small (by omega) (by omega)]; omega
  rw [e1]
  refine bind_eq i1 (bind_eq (show getN (midL l z (k + 1)) (Int.toNat (k : Int)) = some l[k] by rw [Int.toNat_natCast]; exact g1) (bind_eq (s_txLess t _) ?_))
  dsimp only [B1]
  cases txLessB t l[k] with
  | false => rfl
  | true =>
    refine bind_eq i1 (bind_eq (show getN (midL l z (k + 1)) (Int.toNat (k : Int)) = some l[k] by rw [Int.toNat_natCast]; exact g1) (bind_eq i2 (bind_eq (show getN (midL l z (k + 1)) (Int.toNat ((k + 1 : Nat) : Int)) = some z by rw [Int.toNat_natCast]; exact g2) ?_)))
    have e2 : List.set (midL l z (k + 1)) (Int.toNat ((k + 1 : Nat) : Int)) (l[k].1, (l[k].2.1, (l[k].2.2.1, (l[k].2.2.2.1, (l[k].2.2.2.2.1, ()))))) = midL l l[k] k := by
      rw [Int.toNat_natCast]
      exact (set_mid hk1).trans (mid_down h)
    rw [e2]
    rfl
theorem sp_loop (l : List D59) (t : D59) (J : Nat) (hJ : J ≤ l.length) (hl : l.length ≤ 20) (h1 : ∀ i x, l[i]? = some x → J ≤ i → txLessB t x = true) (h2 : ∀ x, 0 < J → l[J - 1]? = some x → txLessB t x = false) :
    ∀ d k z, k = J + d → k ≤ l.length → ∃ z', loopF (F25.b0 ((l, ()), (t, ()))) ((k : Int), (midL l z k, ())) = some (Sum.inl ((J : Int), (midL l z' J, ()))) := by
  intro d
  induction d with
  | zero =>
    intro k z hk hkl
    have hk : k = J := hk
    subst hk
    refine ⟨z, loopF_end ?_⟩
    cases k with
    | zero => unfold F25.b0; exact lt_else (Int.le_refl _) rfl
    | succ k =>
      rw [sp_step l t z k hkl hl, h2 l[k] (by omega) (List.getElem?_eq_getElem hkl)]
      rfl
  | succ d ih =>
    intro k z hk hkl
    obtain ⟨k', rfl⟩ : ∃ k', k = k' + 1 := ⟨J + d, by omega⟩
    obtain ⟨z', hz⟩ := ih k' l[k'] (by omega) (by omega)
    refine ⟨z', (loopF_step ?_).trans hz⟩
    rw [sp_step l t z k' hkl hl, h1 k' l[k'] (List.getElem?_eq_getElem hkl) (by omega)]
    rfl
theorem pool_mid {l : List D59} {t : D59} {K : Nat} (hK : At l t K) (hp : poolB l = true) (hh : hasK l t K = false) : poolB (midL l t K) = (iLt (l.length : Int) 20 && txB t) := by
  have hp0 := hp
  unfold poolB at hp
  simp only [Bool.and_eq_true] at hp
  have hs := sorted_of hp.1
  have hq := allI_iff.1 hp.1
  have hall : allI (poolP (midL l t K)) 0 (midL l t K) = txB t := by
    rw [Bool.eq_iff_iff]
    constructor
    · intro h
      have := allI_iff.1 h K t (by rw [mid_get hK.le, if_neg (by omega), if_pos rfl])
      unfold poolP at this
      simp only [Bool.and_eq_true] at this
      exact this.1
    · intro htx
      refine allI_iff.2 (fun i x hx => ?_)
      unfold poolP
      rw [mid_get hK.le] at hx
      simp only [Bool.and_eq_true]
      by_cases c1 : i < K
      · rw [if_pos c1] at hx
        have := hq i x hx
        unfold poolP at this
        simp only [Bool.and_eq_true] at this
        refine ⟨this.1, ?_⟩
        cases i with
        | zero => rfl
        | succ i =>
          have h2 := this.2
          unfold behind at h2 ⊢
          dsimp only at h2 ⊢
          rw [mid_get hK.le, if_pos (by omega)]
          exact h2
      · rw [if_neg c1] at hx
        by_cases c2 : i = K
        · rw [if_pos c2] at hx
          cases hx
          refine ⟨htx, ?_⟩
          subst c2
          cases i with
          | zero => rfl
          | succ i =>
            unfold behind
            dsimp only
            rw [mid_get hK.le, if_pos (by omega)]
            cases hy : l[i]? with
            | none => rfl
            | some y => exact hK.lo i y hy (by omega)
        · rw [if_neg c2] at hx
          obtain ⟨j, rfl⟩ : ∃ j, i = j + 1 := ⟨i - 1, by omega⟩
          rw [Nat.add_sub_cancel] at hx
          have := hq j x hx
          unfold poolP at this
          simp only [Bool.and_eq_true] at this
          refine ⟨this.1, ?_⟩
          unfold behind
          dsimp only
          rw [mid_get hK.le, if_neg (by omega)]
          by_cases c3 : j = K
          · rw [if_pos c3]
            subst c3
            have h1 := hK.hi j x hx (Nat.le_refl _)
            unfold hasK at hh
            rw [hx] at hh
            exact txOrd.tot _ _ h1 hh
          · rw [if_neg c3]
            cases hy : l[j - 1]? with
            | none => rfl
            | some y => exact hs (j - 1) j y x hy hx (by omega)
  unfold poolB
  rw [hall, mid_len hK.le]
  have : iLe ((l.length + 1 : Nat) : Int) 20 = iLt (l.length : Int) 20 := by
    simp only [iLe, iLt]
    exact decide_eq_decide.2 (by omega)
  rw [this, Bool.and_comm]
theorem pool_dup {l : List D59} {t : D59} {K : Nat} (hK : At l t K) (hlt : K < l.length) : poolB (midL l t (K + 1)) = false := by
  cases h : poolB (midL l t (K + 1)) with
  | false => rfl
  | true =>
    unfold poolB at h
    simp only [Bool.and_eq_true] at h
    have := allI_iff.1 h.1 (K + 1) t (by rw [mid_get (by omega), if_neg (by omega), if_pos rfl])
    unfold poolP behind at this
    simp only [Bool.and_eq_true] at this
    have h2 := this.2
    rw [mid_get (by omega), if_pos (by omega), List.getElem?_eq_getElem hlt] at h2
    have h3 := hK.hi K _ (List.getElem?_eq_getElem hlt) (Nat.le_refl _)
    have h2 : txLessB l[K] t = true := h2
    rw [h3] at h2; cases h2
theorem mid_Ok {l : List D59} {t : D59} {J : Nat} (hx : (Ty.sl e59).Ok l) (hl : l.length ≤ 20) (ht : e59.Ok t) : (Ty.sl e59).Ok (midL l t J) := by
  refine Ok_of ?_ (fun y hy => ?_)
  · have h : (midL l t J).length ≤ l.length + 1 := by
      unfold midL
      rw [List.length_append, List.length_take, List.length_cons, List.length_drop]
      omega
    show (midL l t J).length ≤ 9223372036854775807
    omega
  · unfold midL at hy
    rcases List.mem_append.1 hy with h | h
    · exact Ok_mem hx.2 (List.mem_of_mem_take h)
    · rcases List.mem_cons.1 h with rfl | h
      · exact ht
      · exact Ok_mem hx.2 (List.mem_of_mem_drop h)
theorem s_padd {l : List D59} {t : D59} {K : Nat} (hK : At l t K) (hx : (Ty.sl e59).Ok l) (ht : e59.Ok t) (hp : poolB l = true) : F25 ((l, ()), (t, ())) = some (addR l t K) := by
  have hl : l.length ≤ 20 := by
    unfold poolB at hp
    simp only [Bool.and_eq_true] at hp
    have := hp.2
    simp only [iLe, decide_eq_true_eq] at this
    omega
  have hs : SortedTx l := by
    unfold poolB at hp
    simp only [Bool.and_eq_true] at hp
    exact sorted_of hp.1
  -- where it comes to stand
  have main : ∀ J, J ≤ l.length → (∀ i x, l[i]? = some x → J ≤ i → txLessB t x = true) → (∀ x, 0 < J → l[J - 1]? = some x → txLessB t x = false) →
      F25 ((l, ()), (t, ())) = some (bif poolB (midL l t J) then ((midL l t J, ()), ((true, ()), ())) else ((l, ()), ((false, ()), ()))) := fun J hJ h1 h2 => by
    unfold F25
    refine room_then (show l.length ≤ 1048576 by omega) (by decide) (by decide) (room_is (show (lapp ([] : List D59) l).length + 1 ≤ 1048577 from (show l.length + 1 ≤ 1048577 by omega)) (by decide) (by decide) ?_)
    have e0 : lapp (lapp ([] : List D59) l) ([t] : List D59) = midL l t l.length := by
      unfold midL
      rw [List.take_of_length_le (Nat.le_refl _), List.drop_eq_nil_of_le (Nat.le_refl _)]; rfl
    dsimp only
    rw [e0, mid_len (Nat.le_refl _)]
    have e1 : iSub .i64 ((l.length + 1 : Nat) : Int) 1 = (l.length : Int) := by rw [iSub_small (by omega) (by omega)]; omega
    rw [e1]
    obtain ⟨z', hz⟩ := sp_loop l t J hJ hl h1 h2 (l.length - J) l.length t (by omega) (Nat.le_refl _)
    refine bind_eq hz ?_
    have g2 : (midL l z' J)[J]? = some z' := by rw [mid_get hJ, if_neg (by omega), if_pos rfl]
    have i2 : getI (midL l z' J) (J : Int) = some z' := by
      have hlt : J < (midL l z' J).length := by rw [mid_len hJ]; omega
      rw [getI_lt hlt, ← List.getElem?_eq_getElem hlt, g2]
    refine bind_eq i2 (bind_eq (show getN (midL l z' J) (Int.toNat (J : Int)) = some z' by rw [Int.toNat_natCast]; exact g2) ?_)
    have e2 : List.set (midL l z' J) (Int.toNat (J : Int)) (t.1, (t.2.1, (t.2.2.1, (t.2.2.2.1, (t.2.2.2.2.1, ()))))) = midL l t J := by
      rw [Int.toNat_natCast]; exact set_mid hJ
    dsimp only
    rw [e2]
    refine bind_eq (y := midL l t J) rfl (bind_eq (s_pool l hx) ?_)
    rw [hp]
    dsimp only [B1]
    simp only [Bool.not_true, cond_false]
    refine bind_eq (s_pool _ (mid_Ok hx hl ht)) ?_
    dsimp only [B1]
    cases poolB (midL l t J) with
    | true => rfl
    | false => exact room_then (show l.length ≤ 1048576 by omega) (by decide) (by decide) rfl
  unfold addR
  cases hh : hasK l t K with
  | false =>
    refine (main K hK.le (fun i x hxi hi => ?_) (fun x h0 hxi => ?_)).trans ?_
    · have hlt : K < l.length := by
        have := (List.getElem?_eq_some_iff.1 hxi).1
        omega
      have hk := List.getElem?_eq_getElem hlt
      have h0 : txLessB t l[K] = true := by
        unfold hasK at hh
        rw [hk] at hh
        exact txOrd.tot _ _ (hK.hi K _ hk (Nat.le_refl _)) hh
      by_cases he : i = K
      · subst he; rw [hk] at hxi; cases hxi; exact h0
      · exact txOrd.tr _ _ _ h0 (hs K i _ x hk hxi (by omega))
    · have := hK.lo (K - 1) x hxi (by omega)
      cases hq : txLessB t x with
      | false => rfl
      | true =>
        have h3 := txOrd.irr _ _ (txOrd.tr _ _ _ this hq)
        rw [txOrd.refl] at h3; cases h3
    · rw [pool_mid hK hp hh]
      rfl
  | true =>
    have hlt : K < l.length := by
      unfold hasK at hh
      cases hq : l[K]? with
      | none => rw [hq] at hh; cases hh
      | some x => exact (List.getElem?_eq_some_iff.1 hq).1
    have hk := List.getElem?_eq_getElem hlt
    have he : txEqK l[K] t = true := by
      unfold hasK at hh
      rw [hk] at hh; exact hh
    refine (main (K + 1) hlt (fun i x hxi hi => ?_) (fun x h0 hxi => ?_)).trans ?_
    · exact txOrd.elt _ _ _ (txOrd.symm _ _ he) (hs K i _ x hk hxi (by omega))
    · rw [Nat.add_sub_cancel, hk] at hxi
      cases hxi
      cases hq : txLessB t l[K] with
      | false => rfl
      | true =>
        have h3 := txOrd.irr _ _ hq
        rw [txOrd.symm _ _ he] at h3; cases h3
    · rw [pool_dup hK hlt]
      rfl

def poolSet (n : DNd) (q : List D59) : DNd := (n.1, (n.2.1, (n.2.2.1, (n.2.2.2.1, (n.2.2.2.2.1, (n.2.2.2.2.2.1, (n.2.2.2.2.2.2.1, (n.2.2.2.2.2.2.2.1, (n.2.2.2.2.2.2.2.2.1, (n.2.2.2.2.2.2.2.2.2.1, (n.2.2.2.2.2.2.2.2.2.2.1, (n.2.2.2.2.2.2.2.2.2.2.2.1, (n.2.2.2.2.2.2.2.2.2.2.2.2.1, (n.2.2.2.2.2.2.2.2.2.2.2.2.2.1, (n.2.2.2.2.2.2.2.2.2.2.2.2.2.2.1, (n.2.2.2.2.2.2.2.2.2.2.2.2.2.2.2.1, (n.2.2.2.2.2.2.2.2.2.2.2.2.2.2.2.2.1, (n.2.2.2.2.2.2.2.2.2.2.2.2.2.2.2.2.2.1, (q, (n.2.2.2.2.2.2.2.2.2.2.2.2.2.2.2.2.2.2.2.1, ()))))))))))))))))))))
def submitR (n : DNd) (t : D59) (K : Nat) : DNd × ((Bool × Unit) × Unit) := bif nodeB n then (poolSet n (addR (nPool n) t K).1.1, ((addR (nPool n) t K).2.1.1, ()), ()) else (n, ((false, ()), ()))
theorem node_pool {n : DNd} (h : nodeB n = true) : poolB (nPool n) = true := by
  unfold nodeB at h
  simp only [Bool.and_eq_true] at h
  exact h.2.2.2.1
theorem s_submit (n : DNd) (t : D59) (K : Nat) (h : NodeL n) (hn : NOk n) (ht : e59.Ok t) (hK : nodeB n = true → At (nPool n) t K) : F6 (n, (t, ())) = some (submitR n t K) := by
  unfold F6 submitR
  refine bind_eq (s_cnode n h) (bind_eq (s_node n hn) ?_)
  dsimp only [B1]
  cases hq : nodeB n with
  | false => rfl
  | true => exact bind_eq (s_padd (hK hq) hn.pool ht (node_pool hq)) rfl

theorem i_submit (n : DNd) (t : D59) (K : Nat) (h : NodeL n) (hn : NOk n) (ht : XOk t) (hK : nodeB n = true → At (nPool n) t K) : F9 (n, (t, ())) = some (submitR n t K) := by
  unfold F9 submitR
  refine bind_eq (i_cnode n h) (bind_eq (i_node n hn) ?_)
  dsimp only [B1]
  cases hq : nodeB n with
  | false => rfl
  | true => exact bind_eq (i_padd (hK hq) hn.pool ht (node_pool hq)) rfl

theorem poolSet_ok {n : DNd} {q : List D59} (hn : e55.Ok n) (hq : (Ty.sl e59).Ok q) : e55.Ok (poolSet n q) := ⟨hn.1, hn.2.1, hn.2.2.1, hn.2.2.2.1, hn.2.2.2.2.1, hn.2.2.2.2.2.1, hn.2.2.2.2.2.2.1, hn.2.2.2.2.2.2.2.1, hn.2.2.2.2.2.2.2.2.1, hn.2.2.2.2.2.2.2.2.2.1, hn.2.2.2.2.2.2.2.2.2.2.1, hn.2.2.2.2.2.2.2.2.2.2.2.1, hn.2.2.2.2.2.2.2.2.2.2.2.2.1, hn.2.2.2.2.2.2.2.2.2.2.2.2.2.1, hn.2.2.2.2.2.2.2.2.2.2.2.2.2.2.1, hn.2.2.2.2.2.2.2.2.2.2.2.2.2.2.2.1, hn.2.2.2.2.2.2.2.2.2.2.2.2.2.2.2.2.1, hn.2.2.2.2.2.2.2.2.2.2.2.2.2.2.2.2.2.1, hq, hn.2.2.2.2.2.2.2.2.2.2.2.2.2.2.2.2.2.2.2.1, trivial⟩
theorem poolSet_w {n : DNd} {q : List D59} : e55.w (poolSet n q) ≤ e55.w n + (Ty.sl e59).w q := by
  unfold poolSet
  simp only [e55, Tys.w, Ty.w]
  omega
theorem L_Submit (n : DNd) (hn : e55.Ok n) (hw : e55.w n ≤ 1048576) (t : D59) (ht : e59.Ok t) (htw : e59.w t ≤ 1048576) :
    ∃ R, F6 (n, (t, ())) = some R ∧ F9 (n, (t, ())) = some R ∧ e55.Ok R.1 ∧ e55.w R.1 ≤ 67108864 ∧ (.cons .bool .nil : Tys).Ok R.2.1 ∧ (.cons .bool .nil : Tys).w R.2.1 ≤ 67108864 := by
  have hK : ∃ K, nodeB n = true → At (nPool n) t K := by
    cases hq : nodeB n with
    | false => exact ⟨0, fun h => by cases h⟩
    | true =>
      have hp := node_pool hq
      unfold poolB at hp
      simp only [Bool.and_eq_true] at hp
      obtain ⟨K, h⟩ := at_ex (sorted_of hp.1) t
      exact ⟨K, fun _ => h⟩
  obtain ⟨K, hK⟩ := hK
  refine ⟨_, s_submit n t K (NodeL_of hw) hn ht hK, i_submit n t K (NodeL_of hw) hn ⟨ht.2.1, ht.2.2.1⟩ hK, ?_⟩
  unfold submitR
  cases hq : nodeB n with
  | false => exact ⟨hn, Nat.le_trans hw (by decide), ⟨trivial, trivial⟩, Nat.zero_le _⟩
  | true =>
    have hp := node_pool hq
    have hl : (nPool n).length ≤ 20 := by
      unfold poolB at hp
      simp only [Bool.and_eq_true] at hp
      have := hp.2
      simp only [iLe, decide_eq_true_eq] at this
      omega
    have hpw : (Ty.sl e59).w (nPool n) ≤ 1048576 := w_hd (w_tl (w_tl (w_tl (w_tl (w_tl (w_tl (w_tl (w_tl (w_tl (w_tl (w_tl (w_tl (w_tl (w_tl (w_tl (w_tl (w_tl (w_tl hw))))))))))))))))))
    have key : (Ty.sl e59).Ok (addR (nPool n) t K).1.1 ∧ (Ty.sl e59).w (addR (nPool n) t K).1.1 ≤ 33554432 := by
      unfold addR
      cases (!hasK (nPool n) t K && (iLt ((nPool n).length : Int) 20 && txB t)) with
      | false => exact ⟨(NOk.pool hn), Nat.le_trans hpw (by decide)⟩
      | true =>
        refine ⟨mid_Ok (NOk.pool hn) hl ht, ?_⟩
        have hb : ∀ y ∈ midL (nPool n) t K, e59.w y ≤ 1048576 := fun y hy => by
          unfold midL at hy
          rcases List.mem_append.1 hy with h | h
          · exact w_mem hpw (List.mem_of_mem_take h)
          · rcases List.mem_cons.1 h with rfl | h
            · exact htw
            · exact w_mem hpw (List.mem_of_mem_drop h)
        have hlen : (midL (nPool n) t K).length ≤ 21 := by rw [mid_len (hK hq).le]; omega
        have hs : ∀ xs : List D59, (∀ y ∈ xs, e59.w y ≤ 1048576) → sumW e59.w xs ≤ xs.length * 1048576 := by
          intro xs
          induction xs with
          | nil => intro _; exact Nat.zero_le _
          | cons x r ih =>
            intro h
            have h1 := ih (fun y hy => h y (List.mem_cons_of_mem _ hy))
            have h2 := h x (List.mem_cons_self ..)
            simp only [sumW, List.length_cons, Nat.add_mul, Nat.one_mul]
            exact Nat.le_trans (Nat.add_le_add h2 h1) (by omega)
        have h3 := hs _ hb
        show (midL (nPool n) t K).length + sumW e59.w (midL (nPool n) t K) ≤ 33554432
        omega
    refine ⟨poolSet_ok hn key.1, ?_, ⟨trivial, trivial⟩, Nat.zero_le _⟩
    exact Nat.le_trans poolSet_w (by have := key.2; omega)
end Go.Proofs.YtmfeejonafjehaaGreat
