/- Plain laws, part 1: what the program's functions and the reference's compute, told as plain words. Conditions: none. -/
import Derived.Test.YtehcfgnpbelfnaaCH
import Derived.Test.YtehcfgnpbelfnaaTm4
namespace Go.Proofs.Ytehcfgnpbelfnaa
open Go Go.Tm
set_option linter.unusedVariables false
set_option maxRecDepth 100000

theorem s_in (n lo hi : Int) : F79 ((n, ()), ((lo, ()), ((hi, ()), ()))) = some (B1 (inR n lo hi)) := inR_ite

theorem i_in (n lo hi : Int) : F82 ((n, ()), ((lo, ()), ((hi, ()), ()))) = some (B1 (inR n lo hi)) := inR_ite

/-- A letter of a name; a name. -/
def letter (b : UInt8) : Bool := inR (UInt8.toNat b : Int) 97 122 || inR (UInt8.toNat b : Int) 48 57
def nameB (s : ByteArray) : Bool := s.data.toList.all letter && inR (s.size : Int) 1 8
theorem sz_list (s : ByteArray) : s.size = s.data.toList.length := rfl

theorem s_name (s : ByteArray) (hs : L63 s.size) : F90 ((s, ()), ()) = some (B1 (nameB s)) := by
  have lp := loopAllP (S := Int × Unit) s.data.toList letter (f := F90.b0 ((s, ()), ())) (fun k => (k, ())) (Sum.inl ((s.data.toList.length : Int), ())) (Sum.inr (B1 false)) (fun i hi => ?_) ?_
  · unfold F90 nameB
    refine bind_eq lp ?_
    cases s.data.toList.all letter
    · rfl
    · exact (congrArg (fun o => Option.bind o _) (s_in _ _ _)).trans rfl
  · unfold F90.b0 letter
    refine lt_then (Int.ofNat_lt.2 hi) (bind_eq (getI_lt hi) (bind_eq (s_in _ _ _) ?_))
    rw [← nxt hi hs, wrap_byte]
    cases inR (UInt8.toNat s.data.toList[i] : Int) 97 122
    · refine bind_eq (getI_lt hi) (bind_eq (s_in _ _ _) ?_)
      rw [wrap_byte]
      cases inR (UInt8.toNat s.data.toList[i] : Int) 48 57 <;> rfl
    · rfl
  · unfold F90.b0
    exact lt_else (Int.le_refl _) rfl

theorem i_name (s : ByteArray) (hs : L63 s.size) : F97 ((s, ()), ()) = some (B1 (nameB s)) := by
  have lp := loopAllP (S := Int × Unit) s.data.toList letter (f := F97.b0 ((s, ()), ())) (fun k => (k, ())) (Sum.inl ((s.data.toList.length : Int), ())) (Sum.inr (B1 false)) (fun i hi => ?_) ?_
  · unfold F97 nameB
    refine bind_eq lp ?_
    cases s.data.toList.all letter
    · rfl
    · exact (congrArg (fun o => Option.bind o _) (i_in _ _ _)).trans rfl
  · unfold F97.b0 letter inR
    refine lt_then (Int.ofNat_lt.2 hi) (bind_eq (getI_lt hi) ?_)
    rw [← nxt hi hs]
    simp only [getI_lt hi, Option.bind_some]
    cases iLe (97:Int) (UInt8.toNat s.data.toList[i] : Int) <;> cases iLe (UInt8.toNat s.data.toList[i] : Int) (122:Int) <;> cases iLe (48:Int) (UInt8.toNat s.data.toList[i] : Int) <;> cases iLe (UInt8.toNat s.data.toList[i] : Int) (57:Int) <;> rfl
  · unfold F97.b0
    exact lt_else (Int.le_refl _) rfl

/-- Names, in order. -/
def namP (xs : List D9) (i : Nat) (y : D9) : Bool := nameB y.1 && behind (fun z y => sLt z.1 y.1) xs i y
def namesB (xs : List D9) : Bool := allI (namP xs) 0 xs && iLe (xs.length : Int) 20

theorem s_names (xs : List D9) (hx : (Ty.sl e9).Ok xs) : F129 ((xs, ()), ()) = some (B1 (namesB xs)) := by
  have hl : L63 xs.length := hx.1
  have lp := loopAll (S := Int × Unit) xs (namP xs) (f := F129.b0 ((xs, ()), ())) (fun k => (k, ())) (Sum.inl ((xs.length : Int), ())) (Sum.inr (B1 false)) (fun i hi => ?_) ?_
  · unfold F129 namesB
    refine bind_eq lp ?_
    cases allI (namP xs) 0 xs <;> rfl
  · unfold F129.b0 namP
    refine lt_then (Int.ofNat_lt.2 hi) (bind_eq (getI_lt hi) (bind_eq (s_name _ (Ok_mem hx.2 (List.getElem_mem hi)).1) (goN ?_)))
    rw [← nxt hi hl]
    exact asc_step hi hl (fun z => bind_eq (getI_lt hi) goE)
  · unfold F129.b0
    exact lt_else (Int.le_refl _) rfl

theorem i_names (xs : List D9) (hx : (Ty.sl e9).Ok xs) : F136 ((xs, ()), ()) = some (B1 (namesB xs)) := by
  have hl : L63 xs.length := hx.1
  have lp := loopAll (S := Int × Unit) xs (namP xs) (f := F136.b0 ((xs, ()), ())) (fun k => (k, ())) (Sum.inl ((xs.length : Int), ())) (Sum.inr (B1 false)) (fun i hi => ?_) ?_
  · unfold F136 namesB
    refine bind_eq lp ?_
    cases allI (namP xs) 0 xs <;> rfl
  · unfold F136.b0 namP
    refine lt_then (Int.ofNat_lt.2 hi) (bind_eq (getI_lt hi) (bind_eq (i_name _ (Ok_mem hx.2 (List.getElem_mem hi)).1) (goN ?_)))
    rw [← nxt hi hl]
    exact asc_step hi hl (fun z => ite_tri)
  · unfold F136.b0
    exact lt_else (Int.le_refl _) rfl

/-- Those who vote. -/
def valP (xs : List D106) (i : Nat) (y : D106) : Bool := nameB y.1 && (inR y.2.1 1 1000000 && behind (fun z y => sLt z.1 y.1) xs i y)
def setB (xs : List D106) : Bool := allI (valP xs) 0 xs && inR (xs.length : Int) 1 12

theorem s_set (xs : List D106) (hx : (Ty.sl e106).Ok xs) : F49 ((xs, ()), ()) = some (B1 (setB xs)) := by
  have hl : L63 xs.length := hx.1
  have lp := loopAll (S := Int × Unit) xs (valP xs) (f := F49.b0 ((xs, ()), ())) (fun k => (k, ())) (Sum.inl ((xs.length : Int), ())) (Sum.inr (B1 false)) (fun i hi => ?_) ?_
  · unfold F49 setB
    refine bind_eq lp ?_
    cases allI (valP xs) 0 xs
    · rfl
    · exact (congrArg (fun o => Option.bind o _) (s_in _ _ _)).trans rfl
  · unfold F49.b0 valP
    refine lt_then (Int.ofNat_lt.2 hi) (bind_eq (getI_lt hi) (bind_eq (s_name _ (Ok_mem hx.2 (List.getElem_mem hi)).1) (goN (bind_eq (getI_lt hi) (bind_eq (s_in _ _ _) (goN ?_))))))
    rw [← nxt hi hl]
    exact asc_step hi hl (fun z => bind_eq (getI_lt hi) goE)
  · unfold F49.b0
    exact lt_else (Int.le_refl _) rfl

theorem i_set (xs : List D106) (hx : (Ty.sl e106).Ok xs) : F55 ((xs, ()), ()) = some (B1 (setB xs)) := by
  have hl : L63 xs.length := hx.1
  have lp := loopAll (S := Int × Unit) xs (valP xs) (f := F55.b0 ((xs, ()), ())) (fun k => (k, ())) (Sum.inl ((xs.length : Int), ())) (Sum.inr (B1 false)) (fun i hi => ?_) ?_
  · unfold F55 setB
    refine bind_eq lp ?_
    cases allI (valP xs) 0 xs
    · rfl
    · exact (congrArg (fun o => Option.bind o _) (i_in _ _ _)).trans rfl
  · unfold F55.b0 valP
    refine lt_then (Int.ofNat_lt.2 hi) (bind_eq (getI_lt hi) (bind_eq (i_name _ (Ok_mem hx.2 (List.getElem_mem hi)).1) (goN (bind_eq (i_in _ _ _) (goN ?_)))))
    rw [← nxt hi hl]
    exact asc_step hi hl (fun z => ite_tri)
  · unfold F55.b0
    exact lt_else (Int.le_refl _) rfl

/-- Is it among those who vote? among names? -/
def inB (l : List D106) (s : ByteArray) : Bool := l.any (fun v => sEq v.1 s)
def hasB (l : List D9) (s : ByteArray) : Bool := l.any (fun v => sEq v.1 s)

theorem s_isin (l : List D106) (s : ByteArray) (hl : L63 l.length) : F128 ((l, ()), ((s, ()), ())) = some (B1 (inB l s)) := by
  have lp := loopHas (S := Int × Unit) l (fun v => sEq v.1 s) (f := F128.b0 ((l, ()), ((s, ()), ()))) (fun k => (k, ())) (Sum.inl ((l.length : Int), ())) (Sum.inr (B1 true)) (fun i hi => ?_) ?_
  · unfold F128 inB
    refine bind_eq lp ?_
    cases l.any (fun v => sEq v.1 s) <;> rfl
  · unfold F128.b0
    refine lt_then (Int.ofNat_lt.2 hi) (bind_eq (getI_lt hi) ?_)
    rw [← nxt hi hl]
  · unfold F128.b0
    exact lt_else (Int.le_refl _) rfl

theorem s_has (l : List D9) (s : ByteArray) (hl : L63 l.length) : F166 ((l, ()), ((s, ()), ())) = some (B1 (hasB l s)) := by
  have lp := loopHas (S := Int × Unit) l (fun v => sEq v.1 s) (f := F166.b0 ((l, ()), ((s, ()), ()))) (fun k => (k, ())) (Sum.inl ((l.length : Int), ())) (Sum.inr (B1 true)) (fun i hi => ?_) ?_
  · unfold F166 hasB
    refine bind_eq lp ?_
    cases l.any (fun v => sEq v.1 s) <;> rfl
  · unfold F166.b0
    refine lt_then (Int.ofNat_lt.2 hi) (bind_eq (getI_lt hi) ?_)
    rw [← nxt hi hl]
  · unfold F166.b0
    exact lt_else (Int.le_refl _) rfl

theorem idxFunc_val (l : List D106) (g : D106 → Option (Bool × Unit)) (p : D106 → Bool) (hg : ∀ x, g x = some (p x, ())) (hl : L63 l.length) : F175 ((l, ()), ((g, ()), ())) = some (I1 (idxOf l p)) := by
  have lp := loopIdx (S := Int × Unit) l p (f := F175.b0 ((l, ()), ((g, ()), ()))) (fun k => (k, ())) (Sum.inl ((l.length : Int), ())) (fun i => Sum.inr (I1 i)) (fun i hi => ?_) ?_
  · unfold F175
    refine bind_eq lp ?_
    rcases idxOf_cases l p with ⟨h1, _, h3⟩ | ⟨j, hj, _, _, h1, _, h3⟩ <;> rw [h1, h3] <;> rfl
  · unfold F175.b0
    refine lt_then (Int.ofNat_lt.2 hi) (bind_eq (getI_lt hi) (bind_eq (hg _) ?_))
    rw [← nxt hi hl]
  · unfold F175.b0
    exact lt_else (Int.le_refl _) rfl

theorem i_isin (l : List D106) (s : ByteArray) (hl : L63 l.length) : F139 ((l, ()), ((s, ()), ())) = some (B1 (inB l s)) := by
  unfold F139 F171
  refine bind_eq (bind_eq (idxFunc_val l _ (fun v => sEq v.1 s) (fun x => rfl) hl) rfl) ?_
  rw [idxOf_any]; rfl

theorem i_idxS (l : List D9) (s : ByteArray) (hl : L63 l.length) : F174 ((l, ()), ((s, ()), ())) = some (I1 (idxOf l (fun v => sEq s v.1))) := by
  have lp := loopIdx (S := Int × Unit) l (fun v => sEq s v.1) (f := F174.b0 ((l, ()), ((s, ()), ()))) (fun k => (k, ())) (Sum.inl ((l.length : Int), ())) (fun i => Sum.inr (I1 i)) (fun i hi => ?_) ?_
  · unfold F174
    refine bind_eq lp ?_
    rcases idxOf_cases l (fun v => sEq s v.1) with ⟨h1, _, h3⟩ | ⟨j, hj, _, _, h1, _, h3⟩ <;> rw [h1, h3] <;> rfl
  · unfold F174.b0
    refine lt_then (Int.ofNat_lt.2 hi) (bind_eq (getI_lt hi) ?_)
    rw [← nxt hi hl]
  · unfold F174.b0
    exact lt_else (Int.le_refl _) rfl
theorem i_has (l : List D9) (s : ByteArray) (hl : L63 l.length) : F170 ((l, ()), ((s, ()), ())) = some (B1 (hasB l s)) := by
  unfold F170 hasB
  refine bind_eq (i_idxS l s hl) ?_
  rw [idxOf_any]
  simp only [sEq_comm]

def allInB (l : List D106) (names : List D9) : Bool := names.all (fun n => inB l n.1)

theorem s_all (l : List D106) (names : List D9) (hl : L63 l.length) (hn : (Ty.sl e9).Ok names) : F93 ((l, ()), ((names, ()), ())) = some (B1 (allInB l names && namesB names)) := by
  have lp := loopAllP (S := Int × Unit) names (fun n => inB l n.1) (f := F93.b0 ((l, ()), ((names, ()), ()))) (fun k => (k, ())) (Sum.inl ((names.length : Int), ())) (Sum.inr (B1 false)) (fun i hi => ?_) ?_
  · unfold F93 allInB
    refine bind_eq lp ?_
    cases names.all (fun n => inB l n.1)
    · rfl
    · exact (congrArg (fun o => Option.bind o _) (s_names _ hn)).trans rfl
  · unfold F93.b0
    refine lt_then (Int.ofNat_lt.2 hi) (bind_eq (getI_lt hi) (bind_eq (s_isin _ _ hl) ?_))
    rw [← nxt hi hn.1]
    exact goE
  · unfold F93.b0
    exact lt_else (Int.le_refl _) rfl

theorem i_all (l : List D106) (names : List D9) (hl : L63 l.length) (hn : L63 names.length) : F102 ((l, ()), ((names, ()), ())) = some (B1 (allInB l names)) := by
  have lp := loopAllP (S := Int × Unit) names (fun n => inB l n.1) (f := F102.b0 ((l, ()), ((names, ()), ()))) (fun k => (k, ())) (Sum.inl ((names.length : Int), ())) (Sum.inr (B1 false)) (fun i hi => ?_) ?_
  · unfold F102 allInB
    refine bind_eq lp ?_
    cases names.all (fun n => inB l n.1) <;> rfl
  · unfold F102.b0
    refine lt_then (Int.ofNat_lt.2 hi) (bind_eq (getI_lt hi) (bind_eq (i_isin _ _ hl) ?_))
    rw [← nxt hi hn]
    exact goE
  · unfold F102.b0
    exact lt_else (Int.le_refl _) rfl

/-- What they weigh. -/
def weight (xs : List D106) (names : List D9) : Int := xs.foldl (fun n v => bif hasB names v.1 then iAdd .i64 n v.2.1 else n) 0
def total (xs : List D106) : Int := xs.foldl (fun n v => iAdd .i64 n v.2.1) 0
def quorumB (l : List D106) (names : List D9) : Bool := iLt (iMul .i64 2 (total l)) (iMul .i64 3 (weight l names))

theorem s_weight (xs : List D106) (names : List D9) (hx : L63 xs.length) (hl : L63 names.length) : F130 ((xs, ()), ((names, ()), ())) = some (I1 (weight xs names)) := by
  have lp := loopFold0 (S := Int × (Int × Unit)) xs (fun n v => bif hasB names v.1 then iAdd .i64 n v.2.1 else n) (f := F130.b0 ((xs, ()), ((names, ()), ()))) (fun a i => (a, (i, ()))) (fun a => Sum.inl (a, ((xs.length : Int), ()))) 0 (fun i hi a => ?_) (fun a => ?_)
  · unfold F130
    exact bind_eq lp rfl
  · unfold F130.b0
    refine lt_then (Int.ofNat_lt.2 hi) (bind_eq (getI_lt hi) (bind_eq (s_has _ _ hl) ?_))
    rw [← nxt hi hx]
    dsimp only
    cases hasB names xs[i].1
    · rfl
    · exact bind_eq (getI_lt hi) rfl
  · unfold F130.b0
    exact lt_else (Int.le_refl _) rfl

theorem i_weight (xs : List D106) (names : List D9) (hx : L63 xs.length) (hl : L63 names.length) : F137 ((xs, ()), ((names, ()), ())) = some (I1 (weight xs names)) := by
  have lp := loopFold0 (S := Int × (Int × Unit)) xs (fun n v => bif hasB names v.1 then iAdd .i64 n v.2.1 else n) (f := F137.b0 ((xs, ()), ((names, ()), ()))) (fun a i => (a, (i, ()))) (fun a => Sum.inl (a, ((xs.length : Int), ()))) 0 (fun i hi a => ?_) (fun a => ?_)
  · unfold F137
    exact bind_eq lp rfl
  · unfold F137.b0
    refine lt_then (Int.ofNat_lt.2 hi) (bind_eq (getI_lt hi) (bind_eq (i_has _ _ hl) ?_))
    rw [← nxt hi hx]
    dsimp only
    cases hasB names xs[i].1 <;> rfl
  · unfold F137.b0
    exact lt_else (Int.le_refl _) rfl

theorem s_total (xs : List D106) (hx : L63 xs.length) : F131 ((xs, ()), ()) = some (I1 (total xs)) := by
  have lp := loopFold0 (S := Int × (Int × Unit)) xs (fun n v => iAdd .i64 n v.2.1) (f := F131.b0 ((xs, ()), ())) (fun a i => (a, (i, ()))) (fun a => Sum.inl (a, ((xs.length : Int), ()))) 0 (fun i hi a => ?_) (fun a => ?_)
  · unfold F131
    exact bind_eq lp rfl
  · unfold F131.b0
    refine lt_then (Int.ofNat_lt.2 hi) (bind_eq (getI_lt hi) ?_)
    rw [← nxt hi hx]
  · unfold F131.b0
    exact lt_else (Int.le_refl _) rfl

theorem i_total (xs : List D106) (hx : L63 xs.length) : F138 ((xs, ()), ()) = some (I1 (total xs)) := by
  have lp := loopFold0 (S := Int × (Int × Unit)) xs (fun n v => iAdd .i64 n v.2.1) (f := F138.b0 ((xs, ()), ())) (fun a i => (a, (i, ()))) (fun a => Sum.inl (a, ((xs.length : Int), ()))) 0 (fun i hi a => ?_) (fun a => ?_)
  · unfold F138
    exact bind_eq lp rfl
  · unfold F138.b0
    refine lt_then (Int.ofNat_lt.2 hi) (bind_eq (getI_lt hi) ?_)
    rw [← nxt hi hx]
  · unfold F138.b0
    exact lt_else (Int.le_refl _) rfl

theorem s_quorum (l : List D106) (names : List D9) (hl : L63 l.length) (hn : L63 names.length) : F94 ((l, ()), ((names, ()), ())) = some (B1 (quorumB l names)) :=
  bind_eq (s_weight l names hl hn) (bind_eq (s_total l hl) rfl)

theorem i_quorum (l : List D106) (names : List D9) (hl : L63 l.length) (hn : L63 names.length) : F101 ((l, ()), ((names, ()), ())) = some (B1 (quorumB l names)) :=
  bind_eq (i_weight l names hl hn) (bind_eq (i_total l hl) rfl)

/-- A certificate; one of leavings. -/
abbrev DQc : Type := Int × (Int × (List D9 × Unit))
abbrev DTc : Type := Int × (List D9 × (List D3 × Unit))
def rootB (q : DQc) : Bool := iEq q.1 0 && (iEq q.2.1 (-1) && iEq (List.length q.2.2.1 : Int) 0)
def noneB (t : DTc) : Bool := iEq t.1 0 && (iEq (List.length t.2.1 : Int) 0 && iEq (List.length t.2.2.1 : Int) 0)
abbrev QOk (q : DQc) : Prop := (Ty.sl e9).Ok q.2.2.1
abbrev TOk (t : DTc) : Prop := (Ty.sl e9).Ok t.2.1 ∧ L63 (List.length t.2.2.1)
def qcF (q : DQc) (round block : Int) : Bool := rootB q || (inR q.1 1 round && (inR q.2.1 0 block && namesB q.2.2.1))
def tcF (t : DTc) (round : Int) : Bool := noneB t || (inR t.1 1 round && (namesB t.2.1 && (iEq (List.length t.2.2.1 : Int) (List.length t.2.1 : Int) && t.2.2.1.all (fun h => inR h.1 0 (iSub .i64 t.1 1)))))
def qcB (l : List D106) (q : DQc) : Bool := rootB q || (inR q.1 1 10000 && (inR q.2.1 0 100000 && (namesB q.2.2.1 && (allInB l q.2.2.1 && quorumB l q.2.2.1))))
def tcB (l : List D106) (t : DTc) : Bool := noneB t || (inR t.1 1 10000 && (namesB t.2.1 && (iEq (List.length t.2.2.1 : Int) (List.length t.2.1 : Int) && (t.2.2.1.all (fun h => inR h.1 0 (iSub .i64 t.1 1)) && (allInB l t.2.1 && quorumB l t.2.1)))))

theorem s_root (q : DQc) : F92 (q, ()) = some (B1 (rootB q)) := by
  unfold F92 rootB
  cases iEq q.1 0 <;> cases iEq q.2.1 (-1) <;> rfl

theorem i_root (q : DQc) : F99 (q, ()) = some (B1 (rootB q)) := by
  unfold F99 rootB
  cases iEq q.1 0 <;> cases iEq q.2.1 (-1) <;> rfl

theorem s_none (t : DTc) : F165 (t, ()) = some (B1 (noneB t)) := by
  unfold F165 noneB
  cases iEq t.1 0 <;> cases iEq (List.length t.2.1 : Int) 0 <;> rfl

theorem i_none (t : DTc) : F168 (t, ()) = some (B1 (noneB t)) := by
  unfold F168 noneB
  cases iEq t.1 0 <;> cases iEq (List.length t.2.1 : Int) 0 <;> rfl

theorem s_qc (l : List D106) (q : DQc) (hl : L63 l.length) (hq : QOk q) : F51 ((l, ()), (q, ())) = some (B1 (qcB l q)) := by
  unfold F51 qcB
  refine bind_eq (s_root q) (orY (bind_eq (s_in _ _ _) (andY (bind_eq (s_in _ _ _) (andY ?_)))))
  refine bind_eq (s_all l _ hl hq) ((andY (bind_eq (s_quorum l _ hl hq.1) rfl)).trans ?_)
  rw [Bool.and_comm (allInB l _) (namesB _), Bool.and_assoc]

theorem i_qcf (q : DQc) (r b : Int) (hq : QOk q) : F100 (q, ((r, ()), ((b, ()), ()))) = some (B1 (qcF q r b)) := by
  unfold F100 qcF
  exact bind_eq (i_root q) (orY (bind_eq (i_in _ _ _) (andY (bind_eq (i_in _ _ _) (andY (bind_eq (i_names _ hq) rfl))))))

theorem i_qc (l : List D106) (q : DQc) (hl : L63 l.length) (hq : QOk q) : F58 ((l, ()), (q, ())) = some (B1 (qcB l q)) := by
  unfold F58
  refine (bind_eq (i_root q) (orY (bind_eq (i_qcf q _ _ hq) (andY (bind_eq (i_quorum l _ hl hq.1) (andY (bind_eq (i_all l _ hl hq.1) rfl))))))).trans ?_
  unfold qcB qcF
  cases rootB q <;> cases inR q.1 1 10000 <;> cases inR q.2.1 0 100000 <;> cases namesB q.2.2.1 <;> cases allInB l q.2.2.1 <;> cases quorumB l q.2.2.1 <;> rfl

theorem i_tcf (t : DTc) (r : Int) (h : TOk t) : F134 (t, ((r, ()), ())) = some (B1 (tcF t r)) := by
  have hl : L63 (List.length t.2.2.1) := h.2
  have lp := loopAllP (S := Int × Unit) t.2.2.1 (fun y => inR y.1 0 (iSub .i64 t.1 1)) (f := F134.b0 (t, ((r, ()), ()))) (fun k => (k, ())) (Sum.inl ((t.2.2.1.length : Int), ())) (Sum.inr (B1 false)) (fun i hi => ?_) ?_
  · unfold F134 tcF
    refine bind_eq (i_none t) (orY (bind_eq lp ?_))
    cases t.2.2.1.all (fun y => inR y.1 0 (iSub .i64 t.1 1))
    · cases inR t.1 1 r <;> cases namesB t.2.1 <;> cases iEq (List.length t.2.2.1 : Int) (List.length t.2.1 : Int) <;> rfl
    · refine (bind_eq (i_in _ _ _) (andY (bind_eq (i_names _ h.1) and_yes))).trans ?_
      cases iEq (List.length t.2.2.1 : Int) (List.length t.2.1 : Int) <;> rfl
  · unfold F134.b0
    refine lt_then (Int.ofNat_lt.2 hi) (bind_eq (getI_lt hi) (bind_eq (i_in _ _ _) ?_))
    rw [← nxt hi hl]
    exact goE
  · unfold F134.b0
    exact lt_else (Int.le_refl _) rfl

/-- An order. -/
def txB (t : D198) : Bool := nameB t.2.1 && (inR t.2.2.2.1 1 1000000 && (inR t.2.2.2.2.1 0 10000 && (bif iEq t.1 1 then nameB t.2.2.1 else (inR t.1 2 3 && sEq t.2.2.1 ⟨#[]⟩))))
abbrev XOk (t : D198) : Prop := L63 t.2.1.size ∧ L63 t.2.2.1.size
theorem XOk_mem {l : List D198} (h : (Ty.sl e198).Ok l) {t : D198} (ht : t ∈ l) : XOk t := ⟨(Ok_mem h.2 ht).2.1, (Ok_mem h.2 ht).2.2.1⟩

theorem s_tx (t : D198) (h : XOk t) : F127 (t, ()) = some (B1 (txB t)) := by
  unfold F127 txB
  refine bind_eq (s_name _ h.1) (andN (bind_eq (s_in _ _ _) (andN (bind_eq (s_in _ _ _) (andN ?_)))))
  cases iEq t.1 1
  · exact bind_eq (s_in _ _ _) and_yes
  · exact bind_eq (s_name _ h.2) rfl

theorem i_tx (t : D198) (h : XOk t) : F169 (t, ()) = some (B1 (txB t)) := by
  unfold F169 txB
  refine (bind_eq (i_in _ _ _) (andN (bind_eq (i_name _ h.1) (andN (bind_eq (i_in _ _ _) (andN (bind_eq (i_in _ _ _) (andN (c := bif iEq t.1 1 then nameB t.2.2.1 else sEq t.2.2.1 ⟨#[]⟩) ?_)))))))).trans ?_
  · cases iEq t.1 1
    · rfl
    · exact bind_eq (i_name _ h.2) rfl
  · have e : inR t.1 1 3 = (iEq t.1 1 || inR t.1 2 3) := by
      simp only [inR, iLe, iEq]
      rw [Bool.eq_iff_iff]
      simp
      omega
    rw [e]
    cases iEq t.1 1 <;> cases inR t.1 2 3 <;> cases nameB t.2.1 <;> cases inR t.2.2.2.1 1 1000000 <;> cases inR t.2.2.2.2.1 0 10000 <;> cases sEq t.2.2.1 ⟨#[]⟩ <;> cases nameB t.2.2.1 <;> rfl

theorem i_txs (l : List D198) (h : (Ty.sl e198).Ok l) : F135 ((l, ()), ()) = some (B1 (l.all txB)) := by
  have hl : L63 l.length := h.1
  have lp := loopAllP (S := Int × Unit) l txB (f := F135.b0 ((l, ()), ())) (fun k => (k, ())) (Sum.inl ((l.length : Int), ())) (Sum.inr (B1 false)) (fun i hi => ?_) ?_
  · unfold F135
    refine bind_eq lp ?_
    cases l.all txB <;> rfl
  · unfold F135.b0
    refine lt_then (Int.ofNat_lt.2 hi) (bind_eq (getI_lt hi) (bind_eq (i_tx _ (XOk_mem h (List.getElem_mem hi))) ?_))
    rw [← nxt hi hl]
    exact goE
  · unfold F135.b0
    exact lt_else (Int.le_refl _) rfl

/-- A block. -/
abbrev DBk : Type := D96
def bQc (b : DBk) : DQc := (b.2.2.2.2.1, (b.2.2.2.2.2.1, (b.2.2.2.2.2.2.1, ())))
def bTc (b : DBk) : DTc := (b.2.2.2.2.2.2.2.1, (b.2.2.2.2.2.2.2.2.1, (b.2.2.2.2.2.2.2.2.2.1, ())))
abbrev bTxs (b : DBk) : List D198 := b.2.2.2.2.2.2.2.2.2.2.1
abbrev bEnd (b : DBk) : Bool := b.2.2.2.2.2.2.2.2.2.2.2.1
abbrev bNext (b : DBk) : List D106 := b.2.2.2.2.2.2.2.2.2.2.2.2.1
abbrev bRoot (b : DBk) : ByteArray := b.2.2.2.2.2.2.2.2.2.2.2.2.2.1
abbrev BOk (b : DBk) : Prop := e96.Ok b
theorem BOk.by_ {b : DBk} (h : BOk b) : L63 b.2.2.2.1.size := h.2.2.2.1
theorem BOk.qc {b : DBk} (h : BOk b) : QOk (bQc b) := h.2.2.2.2.2.2.1
theorem BOk.tc {b : DBk} (h : BOk b) : TOk (bTc b) := ⟨h.2.2.2.2.2.2.2.2.1, h.2.2.2.2.2.2.2.2.2.1.1⟩
theorem BOk.txs {b : DBk} (h : BOk b) : (Ty.sl e198).Ok (bTxs b) := h.2.2.2.2.2.2.2.2.2.2.1
theorem BOk.next {b : DBk} (h : BOk b) : (Ty.sl e106).Ok (bNext b) := h.2.2.2.2.2.2.2.2.2.2.2.2.1

def bodyB (b : DBk) : Bool := bif bEnd b then (setB (bNext b) && iEq ((bRoot b).size : Int) 32) else (iEq (List.length (bNext b) : Int) 0 && sEq (bRoot b) ⟨#[]⟩)
def blockB (b : DBk) : Bool := inR b.1 0 100000 && (inR b.2.1 0 900 && (inR b.2.2.1 1 10000 && (nameB b.2.2.2.1 && (qcF (bQc b) (iSub .i64 b.2.2.1 1) (iSub .i64 b.1 1) && (tcF (bTc b) (iSub .i64 b.2.2.1 1) &&
  (!iLt 4 (List.length (bTxs b) : Int) && ((bTxs b).all txB && bodyB b)))))))

theorem s_qcf (b : DBk) (h : BOk b) : F125 (b, ()) = some (B1 (qcF (bQc b) (iSub .i64 b.2.2.1 1) (iSub .i64 b.1 1))) := by
  unfold F125 qcF
  exact bind_eq (s_root (bQc b)) (orY (bind_eq (s_in _ _ _) (andY (bind_eq (s_in _ _ _) (andY (bind_eq (s_names _ h.qc) rfl))))))
theorem s_tcf (b : DBk) (h : BOk b) : F126 (b, ()) = some (B1 (tcF (bTc b) (iSub .i64 b.2.2.1 1))) := by
  have hl : L63 (List.length (bTc b).2.2.1) := h.tc.2
  have lp := loopAllP (S := Int × Unit) (bTc b).2.2.1 (fun y => inR y.1 0 (iSub .i64 (bTc b).1 1)) (f := F126.b0 (b, ())) (fun k => (k, ())) (Sum.inl (((bTc b).2.2.1.length : Int), ())) (Sum.inr (B1 false)) (fun i hi => ?_) ?_
  · unfold F126 tcF
    refine bind_eq (s_none (bTc b)) (orY (bind_eq (s_in _ _ _) (andN (bind_eq (s_names _ h.tc.1) (andN ?_)))))
    refine (andN (b := iEq (List.length (bTc b).2.2.1 : Int) (List.length (bTc b).2.1 : Int)) (bind_eq lp ?_))
    cases (bTc b).2.2.1.all (fun y => inR y.1 0 (iSub .i64 (bTc b).1 1)) <;> rfl
  · unfold F126.b0
    refine lt_then (Int.ofNat_lt.2 hi) (bind_eq (getI_lt hi) (bind_eq (s_in _ _ _) ?_))
    rw [← nxt hi hl]
    exact goE
  · unfold F126.b0
    exact lt_else (Int.le_refl _) rfl
theorem s_blk (b : DBk) (h : BOk b) : F91 (b, ()) = some (B1 (blockB b)) := by
  have hl : L63 (bTxs b).length := h.txs.1
  have lp := loopAllP (S := Int × Unit) (bTxs b) txB (f := F91.b0 (b, ())) (fun k => (k, ())) (Sum.inl (((bTxs b).length : Int), ())) (Sum.inr (B1 false)) (fun i hi => ?_) ?_
  · unfold F91 blockB
    refine bind_eq (s_in _ _ _) (andN (bind_eq (s_in _ _ _) (andN (bind_eq (s_in _ _ _) (andN (bind_eq (s_name _ h.by_) (andN (bind_eq (s_qcf b h) (andN (bind_eq (s_tcf b h) (andN (noT (bind_eq lp ?_)))))))))))))
    cases (bTxs b).all txB
    · rfl
    · unfold bodyB
      rw [Bool.true_and]
      dsimp only [cond_true, Sum.elim_inl, bEnd]
      cases b.2.2.2.2.2.2.2.2.2.2.2.1
      · exact and_yes
      · exact bind_eq (s_set _ h.next) and_yes
  · unfold F91.b0
    refine lt_then (Int.ofNat_lt.2 hi) (bind_eq (getI_lt hi) (bind_eq (s_tx _ (XOk_mem h.txs (List.getElem_mem hi))) ?_))
    rw [← nxt hi hl]
    exact goE
  · unfold F91.b0
    exact lt_else (Int.le_refl _) rfl

theorem i_blk (b : DBk) (h : BOk b) : F98 (b, ()) = some (B1 (blockB b)) := by
  unfold F98 blockB
  refine bind_eq (i_in _ _ _) (andN (bind_eq (i_in _ _ _) (andN (bind_eq (i_in _ _ _) (andN (bind_eq (i_name _ h.by_) (andN (bind_eq (i_qcf (bQc b) _ _ h.qc) (andN (bind_eq (i_tcf (bTc b) _ h.tc) (andN (noT (bind_eq (i_txs _ h.txs) (andN ?_))))))))))))))
  unfold bodyB
  dsimp only [bEnd]
  cases b.2.2.2.2.2.2.2.2.2.2.2.1
  · exact and_yes
  · exact bind_eq (i_set _ h.next) and_yes

theorem i_clV (l : List D106) (h : W1 l.length) : F61 ((l, ()), ()) = some ((l, ()), ()) := by unfold F61; exact clone_ok l h (by decide) (by decide)

/-- A block's lists are not long. -/
def BlockL (x : DBk) : Prop := W1 (List.length (bQc x).2.2.1) ∧ W1 (List.length (bTc x).2.1) ∧ W1 (List.length (bTc x).2.2.1) ∧ W1 (List.length (bTxs x)) ∧ W1 (List.length (bNext x))

/-- A proof's lists are not long. -/
abbrev DPr : Type := D56
abbrev pBs (p : DPr) : List DBk := p.2.1
def pQ (p : DPr) : DQc := (p.2.2.1, (p.2.2.2.1, (p.2.2.2.2.1, ())))
def ProofL (x : DPr) : Prop := W1 (List.length (pBs x)) ∧ (∀ y ∈ pBs x, BlockL y) ∧ W1 (List.length (pQ x).2.2.1)

theorem wfR {n : Int} (h : (Lit.int .i64 n).wf = true) : -9223372036854775808 ≤ n ∧ n ≤ 9223372036854775807 := by
  simp [Lit.wf, IntKind.min, IntKind.max, IntKind.signed, IntKind.bits] at h
  omega
theorem iEq_up {a b : Int} (ha : -9223372036854775808 ≤ a ∧ a ≤ 9223372036854775807) (hb : -9223372036854775808 ≤ b ∧ b ≤ 9223372036854775807) : iEq a (iAdd .i64 b 1) = iEq b (iSub .i64 a 1) := by
  unfold iEq iAdd iSub
  rw [Bool.eq_iff_iff]
  simp [IntKind.wrap, IntKind.signed, IntKind.bits]
  omega

/-- Blocks of an epoch, one behind the other, certified. -/
def linkP (ep : Int) (set : List D106) (l : List DBk) (i : Nat) (b : DBk) : Bool := blockB b && (iEq b.2.1 ep && behind (fun z y => iEq (bQc y).2.1 z.1 && (iEq (bQc y).1 z.2.2.1 && qcB set (bQc y))) l i b)
def linkB (ep : Int) (set : List D106) (l : List DBk) : Bool := allI (linkP ep set l) 0 l
abbrev DCl : Type := Int × (List D106 × Unit)

theorem s_link (c : DCl) (l : List DBk) (hc : (Ty.sl e106).Ok c.2.1) (h : (Ty.sl e96).Ok l) : F50 (c, ((l, ()), ())) = some (B1 (linkB c.1 c.2.1 l)) := by
  have hl : L63 l.length := h.1
  have lp := loopAll (S := Int × Unit) l (linkP c.1 c.2.1 l) (f := F50.b0 (c, ((l, ()), ()))) (fun k => (k, ())) (Sum.inl ((l.length : Int), ())) (Sum.inr (B1 false)) (fun i hi => ?_) ?_
  · unfold F50 linkB
    refine bind_eq lp ?_
    cases allI (linkP c.1 c.2.1 l) 0 l <;> rfl
  · unfold F50.b0 linkP
    have hb : BOk l[i] := Ok_mem h.2 (List.getElem_mem hi)
    refine lt_then (Int.ofNat_lt.2 hi) (bind_eq (getI_lt hi) (bind_eq (s_blk _ hb) (goN (bind_eq (getI_lt hi) (goN ?_)))))
    rw [← nxt hi hl]
    cases i with
    | zero => rfl
    | succ j =>
      have hp := prev_get (xs := l) (j := j) hl (by omega)
      rw [behind_succ (by omega)]
      refine lt_then (by omega) (bind_eq (getI_lt hi) (bind_eq hp (goN (bind_eq (getI_lt hi) (bind_eq hp (goN (bind_eq (getI_lt hi) (bind_eq (s_qc _ (bQc l[j + 1]) hc.1 hb.qc) goE))))))))
  · unfold F50.b0
    exact lt_else (Int.le_refl _) rfl

theorem i_link (c : DCl) (l : List DBk) (hc : (Ty.sl e106).Ok c.2.1) (h : (Ty.sl e96).Ok l) : F56 (c, ((l, ()), ())) = some (B1 (linkB c.1 c.2.1 l)) := by
  have hl : L63 l.length := h.1
  have lp := loopAll (S := Int × Unit) l (linkP c.1 c.2.1 l) (f := F56.b0 (c, ((l, ()), ()))) (fun k => (k, ())) (Sum.inl ((l.length : Int), ())) (Sum.inr (B1 false)) (fun i hi => ?_) ?_
  · unfold F56 linkB
    refine bind_eq lp ?_
    cases allI (linkP c.1 c.2.1 l) 0 l <;> rfl
  · unfold F56.b0 linkP
    have hb : BOk l[i] := Ok_mem h.2 (List.getElem_mem hi)
    refine lt_then (Int.ofNat_lt.2 hi) (bind_eq (getI_lt hi) ?_)
    rw [Bool.and_left_comm]
    refine goN (bind_eq (i_blk _ hb) (goN ?_))
    rw [← nxt hi hl]
    cases i with
    | zero => rfl
    | succ j =>
      have hp := prev_get (xs := l) (j := j) hl (by omega)
      rw [behind_succ (by omega)]
      exact lt_then (by omega) (bind_eq hp (goN (bind_eq hp (goN (bind_eq (i_qc _ (bQc l[j + 1]) hc.1 hb.qc) goE)))))
  · unfold F56.b0
    exact lt_else (Int.le_refl _) rfl

/-- What is accepted. -/
def lastB (c : DCl) (p : DPr) : Bool := match (pBs p)[(pBs p).length - 1]?, (pBs p)[(pBs p).length - 2]? with
  | some b, some a => iEq b.2.2.1 (iAdd .i64 a.2.2.1 1) && (qcB c.2.1 (pQ p) && (iEq (pQ p).1 b.2.2.1 && iEq (pQ p).2.1 b.1))
  | _, _ => false
def acceptB (c : DCl) (p : DPr) : Bool := setB c.2.1 && (iEq p.1 c.1 && (!iLt ((pBs p).length : Int) 2 && (linkB c.1 c.2.1 (pBs p) && lastB c p)))
def acceptR (c : DCl) (p : DPr) : DCl × ((Bool × Unit) × Unit) := bif acceptB c p then (match ((pBs p).take ((pBs p).length - 1)).find? (fun b => bEnd b) with
  | some b => ((iAdd .i64 c.1 1, (bNext b, ())), ((true, ()), ()))
  | none => (c, ((false, ()), ()))) else (c, ((false, ()), ()))
theorem accN {b c : Bool} {R : Type} {K g x : R} (h : K = bif c then g else x) : (bif !b then x else K) = bif (b && c) then g else x := goN h

theorem s_accept (c : DCl) (p : DPr) (hc : (Ty.sl e106).Ok c.2.1) (hcw : W1 c.2.1.length) (hp : e56.Ok p) (hw : ∀ b ∈ pBs p, W1 (List.length (bNext b))) : F19 (c, (p, ())) = some (acceptR c p) := by
  have hl : L63 (pBs p).length := hp.2.1.1
  have hcopy : F48 (c, ()) = some (c, ()) := by
    unfold F48
    exact room_then hcw (by decide) (by decide) rfl
  have key : F19 (c, (p, ())) = bif acceptB c p then some (match ((pBs p).take ((pBs p).length - 1)).find? (fun b => bEnd b) with
      | some b => ((iAdd .i64 c.1 1, (bNext b, ())), ((true, ()), ()))
      | none => (c, ((false, ()), ()))) else some (c, ((false, ()), ())) := by
    unfold F19 acceptB
    refine bind_eq hcopy (bind_eq (s_set _ hc) (goN (goN ?_)))
    by_cases hn : 2 ≤ (pBs p).length
    · refine goT (bind_eq (s_link c _ hc hp.2.1) (goN ?_))
      have h1 : getI (pBs p) (iSub .i64 ((pBs p).length : Int) 1) = some (pBs p)[(pBs p).length - 1] := by
        rw [iSub_small (by omega) (by omega), show ((pBs p).length : Int) - 1 = (((pBs p).length - 1 : Nat) : Int) by omega]
        exact getI_lt (by omega)
      have h2 : getI (pBs p) (iSub .i64 ((pBs p).length : Int) 2) = some (pBs p)[(pBs p).length - 2] := by
        rw [iSub_small (by omega) (by omega), show ((pBs p).length : Int) - 2 = (((pBs p).length - 2 : Nat) : Int) by omega]
        exact getI_lt (by omega)
      refine bind_eq h1 (bind_eq h2 ?_)
      unfold lastB
      rw [List.getElem?_eq_getElem (show (pBs p).length - 1 < (pBs p).length by omega), List.getElem?_eq_getElem (show (pBs p).length - 2 < (pBs p).length by omega)]
      refine goN (bind_eq (s_qc _ (pQ p) hc.1 hp.2.2.2.2.1) (goN (goN (b := iEq (pQ p).1 _) ?_)))
      refine Eq.trans (b := bif !iEq (pQ p).2.1 (pBs p)[(pBs p).length - 1].1 then some (c, ((false, ()), ())) else some (match ((pBs p).take ((pBs p).length - 1)).find? (fun b => bEnd b) with
        | some b => ((iAdd .i64 c.1 1, (bNext b, ())), ((true, ()), ()))
        | none => (c, ((false, ()), ())))) (congrArg (fun z => bif !iEq (pQ p).2.1 (pBs p)[(pBs p).length - 1].1 then some (c, ((false, ()), ())) else z) ?_) goE
      have hsub : iSub .i64 ((pBs p).length : Int) 1 = (((pBs p).take ((pBs p).length - 1)).length : Int) := by
        rw [iSub_small (by omega) (by omega), List.length_take]; omega
      have lp := loopFindV (S := Int × Unit) ((pBs p).take ((pBs p).length - 1)) (fun b => bEnd b) (f := F19.b0 (c, (p, ()))) (fun k => (k, ())) (Sum.inl ((((pBs p).take ((pBs p).length - 1)).length : Int), ())) (fun b => Sum.inr ((iAdd .i64 c.1 1, (bNext b, ())), ((true, ()), ()))) (fun i hi => ?_) ?_
      · refine bind_eq lp ?_
        cases ((pBs p).take ((pBs p).length - 1)).find? (fun b => bEnd b) <;> rfl
      · have hi2 : i < (pBs p).length := by rw [List.length_take] at hi; omega
        rw [List.getElem_take]
        unfold F19.b0
        refine lt_then (Int.lt_of_lt_of_le (Int.ofNat_lt.2 hi) (Int.le_of_eq hsub.symm)) (bind_eq (getI_lt hi2) ?_)
        rw [← nxt hi2 hl]
        refine if_bool (fun hb => ?_) (fun hb => ?_)
        · rw [show bEnd (pBs p)[i] = true from hb]
          exact bind_eq (getI_lt hi2) (room_then (hw _ (List.getElem_mem hi2)) (by decide) (by decide) rfl)
        · rw [show bEnd (pBs p)[i] = false from hb]; rfl
      · unfold F19.b0
        exact lt_else (Int.le_of_eq hsub) rfl
    · have h : iLt ((pBs p).length : Int) 2 = true := iLt_true (by omega)
      rw [show iLt (List.length (c, (p, ())).2.1.2.1 : Int) 2 = true from h]; rfl
  rw [key]
  unfold acceptR
  cases acceptB c p <;> rfl

theorem idxFunc_blk (l : List DBk) (g : DBk → Option (Bool × Unit)) (p : DBk → Bool) (hg : ∀ x, g x = some (p x, ())) (hl : L63 l.length) : F59 ((l, ()), ((g, ()), ())) = some (I1 (idxOf l p)) := by
  have lp := loopIdx (S := Int × Unit) l p (f := F59.b0 ((l, ()), ((g, ()), ()))) (fun k => (k, ())) (Sum.inl ((l.length : Int), ())) (fun i => Sum.inr (I1 i)) (fun i hi => ?_) ?_
  · unfold F59
    refine bind_eq lp ?_
    rcases idxOf_cases l p with ⟨h1, _, h3⟩ | ⟨j, hj, _, _, h1, _, h3⟩ <;> rw [h1, h3] <;> rfl
  · unfold F59.b0
    refine lt_then (Int.ofNat_lt.2 hi) (bind_eq (getI_lt hi) (bind_eq (hg _) ?_))
    rw [← nxt hi hl]
  · unfold F59.b0
    exact lt_else (Int.le_refl _) rfl

theorem i_accept (c : DCl) (p : DPr) (hc : (Ty.sl e106).Ok c.2.1) (hcw : W1 c.2.1.length) (hp : e56.Ok p) (hw : ∀ b ∈ pBs p, W1 (List.length (bNext b))) : F22 (c, (p, ())) = some (acceptR c p) := by
  have hl : L63 (pBs p).length := hp.2.1.1
  have hcopy : F57 (c, ()) = some (c, ()) := by
    unfold F57
    exact bind_eq (i_clV _ hcw) rfl
  have hno : ((F57 (c, ())).bind fun y => some (y.1, ((false, ()), ()))) = some (c, ((false, ()), ())) := bind_eq hcopy rfl
  have key : F22 (c, (p, ())) = bif acceptB c p then some (match ((pBs p).take ((pBs p).length - 1)).find? (fun b => bEnd b) with
      | some b => ((iAdd .i64 c.1 1, (bNext b, ())), ((true, ()), ()))
      | none => (c, ((false, ()), ()))) else some (c, ((false, ()), ())) := by
    unfold F22
    rw [hno]
    by_cases hn : 2 ≤ (pBs p).length
    · have h1 : getI (pBs p) (iSub .i64 ((pBs p).length : Int) 1) = some (pBs p)[(pBs p).length - 1] := by
        rw [iSub_small (by omega) (by omega), show ((pBs p).length : Int) - 1 = (((pBs p).length - 1 : Nat) : Int) by omega]
        exact getI_lt (by omega)
      have h2 : getI (pBs p) (iSub .i64 (iSub .i64 ((pBs p).length : Int) 1) 1) = some (pBs p)[(pBs p).length - 2] := by
        rw [iSub_small (a := (List.length (pBs p) : Int)) (by omega) (by omega), iSub_small (by omega) (by omega), show ((pBs p).length : Int) - 1 - 1 = (((pBs p).length - 2 : Nat) : Int) by omega]
        exact getI_lt (by omega)
      refine lt_else (a := iSub .i64 ((pBs p).length : Int) 1) (by rw [iSub_small (by omega) (by omega)]; omega) ?_
      refine (goN (bind_eq (i_set _ hc) (goN (bind_eq (i_link c _ hc hp.2.1) (goN (bind_eq h1 (bind_eq h2 (goN (goN (b := iEq (pQ p).1 _) (goN (b := iEq (pQ p).2.1 _) (bind_eq (i_qc _ (pQ p) hc.1 hp.2.2.2.2.1) (goEq ?_)))))))))))).trans (b := bif (iEq p.1 c.1 && (setB c.2.1 && (linkB c.1 c.2.1 (pBs p) && (iEq (pBs p)[(pBs p).length - 2].2.2.1 (iSub .i64 (pBs p)[(pBs p).length - 1].2.2.1 1) && (iEq (pQ p).1 (pBs p)[(pBs p).length - 1].2.2.1 && (iEq (pQ p).2.1 (pBs p)[(pBs p).length - 1].1 && qcB c.2.1 (pQ p))))))) then some (match ((pBs p).take ((pBs p).length - 1)).find? (fun b => bEnd b) with
      | some b => ((iAdd .i64 c.1 1, (bNext b, ())), ((true, ()), ()))
      | none => (c, ((false, ()), ()))) else some (c, ((false, ()), ()))) ?_
      · have hs := sub1 (n := (pBs p).length) (by omega) hl
        have hT : (bif cutHi (((pBs p).length - 1 : Nat) : Int) (pBs p).length then (F59 ((List.take (Int.toNat (((pBs p).length - 1 : Nat) : Int) - 0) (List.drop 0 (pBs p)), ()), (((fun b => some (bEnd b, ())), ()), ()))).bind (fun y => bif iLt y.1.1 0 then some (c, ((false, ()), ())) else (getI (pBs p) y.1.1).bind fun x => (F61 ((bNext x, ()), ())).bind fun z => some ((iAdd .i64 c.1 1, (z.1.1, ())), ((true, ()), ()))) else none) = some (match ((pBs p).take ((pBs p).length - 1)).find? (fun b => bEnd b) with
            | some b => ((iAdd .i64 c.1 1, (bNext b, ())), ((true, ()), ()))
            | none => (c, ((false, ()), ()))) := by
          refine cut_hi (by omega) ?_
          rw [take_nat]
          refine bind_eq (idxFunc_blk _ _ (fun b => bEnd b) (fun _ => rfl) (by rw [List.length_take]; omega)) ?_
          rcases idxOf_cases ((pBs p).take ((pBs p).length - 1)) (fun b => bEnd b) with ⟨_, h2, h3⟩ | ⟨j, hj, hpj, hn, _, h2, h3⟩
          · rw [h2, h3]; rfl
          · rw [h2, h3]
            have hj2 : j < (pBs p).length := by rw [List.length_take] at hj; omega
            rw [List.getElem_take]
            exact pos_else (Int.natCast_nonneg j) (bind_eq (getI_lt hj2) (bind_eq (i_clV _ (hw _ (List.getElem_mem hj2))) rfl))
        rw [← hs] at hT
        exact hT
      · have hb1 : BOk (pBs p)[(pBs p).length - 1] := Ok_mem hp.2.1.2 (List.getElem_mem _)
        have hb2 : BOk (pBs p)[(pBs p).length - 2] := Ok_mem hp.2.1.2 (List.getElem_mem _)
        unfold acceptB lastB
        rw [List.getElem?_eq_getElem (show (pBs p).length - 1 < (pBs p).length by omega), List.getElem?_eq_getElem (show (pBs p).length - 2 < (pBs p).length by omega), ← iEq_up (wfR hb1.2.2.1) (wfR hb2.2.2.1), show iLt ((pBs p).length : Int) 2 = false from iLt_false (by omega)]
        dsimp only
        cases iEq p.1 c.1 <;> cases setB c.2.1 <;> cases linkB c.1 c.2.1 (pBs p) <;> cases iEq (pBs p)[(pBs p).length - 1].2.2.1 (iAdd .i64 (pBs p)[(pBs p).length - 2].2.2.1 1) <;> cases iEq (pQ p).1 (pBs p)[(pBs p).length - 1].2.2.1 <;> cases iEq (pQ p).2.1 (pBs p)[(pBs p).length - 1].1 <;> cases qcB c.2.1 (pQ p) <;> rfl
    · refine lt_then (a := iSub .i64 ((pBs p).length : Int) 1) (by rw [iSub_small (by omega) (by omega)]; omega) ?_
      unfold acceptB
      rw [show iLt ((pBs p).length : Int) 2 = true from iLt_true (by omega)]
      cases setB c.2.1 <;> cases iEq p.1 c.1 <;> rfl
  rw [key]
  unfold acceptR
  cases acceptB c p <;> rfl

theorem w_mem {es : Tys} {xs : List es.D} {y : es.D} {n : Nat} (h : (Ty.sl es).w xs ≤ n) (hy : y ∈ xs) : es.w y ≤ n := by
  have h : List.length xs + sumW (fun z => es.w z) xs ≤ n := h
  have := sumW_mem (f := fun z => es.w z) hy
  omega
theorem w_ln {es : Tys} {xs : List es.D} {n : Nat} (h : (Ty.sl es).w xs ≤ n) : xs.length ≤ n := by
  have h : List.length xs + sumW (fun z => es.w z) xs ≤ n := h
  omega
theorem w_hd {t : Ty} {ts : Tys} {x : (Tys.cons t ts).D} {n : Nat} (h : (Tys.cons t ts).w x ≤ n) : t.w x.1 ≤ n := Nat.le_trans (Nat.le_add_right _ _) h
theorem okAdd (k : IntKind) (n : Int) : (Lit.int k (k.wrap n)).wf = true := by
  cases k <;> simp [Lit.wf, IntKind.wrap, IntKind.min, IntKind.max, IntKind.signed, IntKind.bits] <;> omega

theorem L_Accept (c : DCl) (hc : (.cons (.int .i64) (.cons (.sl e106) .nil) : Tys).Ok c) (hcw : (.cons (.int .i64) (.cons (.sl e106) .nil) : Tys).w c ≤ 1048576) (p : DPr) (hp : e56.Ok p) (hpw : e56.w p ≤ 1048576) :
    ∃ R, F19 (c, (p, ())) = some R ∧ F22 (c, (p, ())) = some R ∧ (.cons (.int .i64) (.cons (.sl e106) .nil) : Tys).Ok R.1 ∧ (.cons (.int .i64) (.cons (.sl e106) .nil) : Tys).w R.1 ≤ 67108864 ∧ (.cons .bool .nil : Tys).Ok R.2.1 ∧ (.cons .bool .nil : Tys).w R.2.1 ≤ 67108864 := by
  have hn : ∀ b ∈ pBs p, (Ty.sl e106).w (bNext b) ≤ 1048576 := fun b hb => by
    have h1 : e96.w b ≤ 1048576 := w_mem (w_hd (w_tl hpw)) hb
    exact w_hd (w_tl (w_tl (w_tl (w_tl (w_tl (w_tl (w_tl (w_tl (w_tl (w_tl (w_tl (w_tl h1))))))))))))
  have hcl : (Ty.sl e106).w c.2.1 ≤ 1048576 := w_hd (w_tl hcw)
  refine ⟨_, s_accept c p hc.2.1 (w_ln hcl) hp (fun b hb => w_ln (hn b hb)), i_accept c p hc.2.1 (w_ln hcl) hp (fun b hb => w_ln (hn b hb)), ?_⟩
  unfold acceptR
  cases acceptB c p with
  | false => exact ⟨hc, Nat.le_trans hcw (by decide), ⟨trivial, trivial⟩, Nat.zero_le _⟩
  | true =>
    cases hq : ((pBs p).take ((pBs p).length - 1)).find? (fun b => bEnd b) with
    | none => exact ⟨hc, Nat.le_trans hcw (by decide), ⟨trivial, trivial⟩, Nat.zero_le _⟩
    | some b =>
      have hm : b ∈ pBs p := List.mem_of_mem_take (List.mem_of_find?_eq_some hq)
      have hbo : BOk b := Ok_mem hp.2.1.2 hm
      refine ⟨⟨okAdd .i64 _, hbo.next, trivial⟩, ?_, ⟨trivial, trivial⟩, Nat.zero_le _⟩
      have := hn b hm
      show 0 + ((Ty.sl e106).w (bNext b) + 0) ≤ 67108864
      omega
end Go.Proofs.Ytehcfgnpbelfnaa
