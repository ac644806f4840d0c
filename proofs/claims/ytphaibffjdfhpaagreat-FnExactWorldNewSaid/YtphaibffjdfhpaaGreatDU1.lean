/- Plain laws, part 1: what the program's functions and the reference's compute, told as plain words. Conditions: none. -/
import Derived.Test.YtphaibffjdfhpaaGreatDH
import Derived.Test.YtphaibffjdfhpaaGreatTm4
namespace Go.Proofs.YtphaibffjdfhpaaGreat
open Go Go.Tm
set_option linter.unusedVariables false
set_option maxRecDepth 100000

theorem s_in (n lo hi : Int) : F167 ((n, ()), ((lo, ()), ((hi, ()), ()))) = some (B1 (inR n lo hi)) := inR_ite

theorem i_in (n lo hi : Int) : F172 ((n, ()), ((lo, ()), ((hi, ()), ()))) = some (B1 (inR n lo hi)) := inR_ite

/-- A letter of a name; a name. -/
def letter (b : UInt8) : Bool := inR (UInt8.toNat b : Int) 97 122 || inR (UInt8.toNat b : Int) 48 57
def nameB (s : ByteArray) : Bool := s.data.toList.all letter && inR (s.size : Int) 1 8
theorem sz_list (s : ByteArray) : s.size = s.data.toList.length := rfl

theorem s_name (s : ByteArray) (hs : L63 s.size) : F169 ((s, ()), ()) = some (B1 (nameB s)) := by
  have lp := loopAllP (S := Int × Unit) s.data.toList letter (f := F169.b0 ((s, ()), ())) (fun k => (k, ())) (Sum.inl ((s.data.toList.length : Int), ())) (Sum.inr (B1 false)) (fun i hi => ?_) ?_
  · unfold F169 nameB
    refine bind_eq lp ?_
    cases s.data.toList.all letter
    · rfl
    · exact (congrArg (fun o => Option.bind o _) (s_in _ _ _)).trans rfl
  · unfold F169.b0 letter
    refine lt_then (Int.ofNat_lt.2 hi) (bind_eq (getI_lt hi) (bind_eq (s_in _ _ _) ?_))
    rw [← nxt hi hs, wrap_byte]
    cases inR (UInt8.toNat s.data.toList[i] : Int) 97 122
    · refine bind_eq (getI_lt hi) (bind_eq (s_in _ _ _) ?_)
      rw [wrap_byte]
      cases inR (UInt8.toNat s.data.toList[i] : Int) 48 57 <;> rfl
    · rfl
  · unfold F169.b0
    exact lt_else (Int.le_refl _) rfl

theorem i_name (s : ByteArray) (hs : L63 s.size) : F174 ((s, ()), ()) = some (B1 (nameB s)) := by
  have lp := loopAllP (S := Int × Unit) s.data.toList letter (f := F174.b0 ((s, ()), ())) (fun k => (k, ())) (Sum.inl ((s.data.toList.length : Int), ())) (Sum.inr (B1 false)) (fun i hi => ?_) ?_
  · unfold F174 nameB
    refine bind_eq lp ?_
    cases s.data.toList.all letter
    · rfl
    · exact (congrArg (fun o => Option.bind o _) (i_in _ _ _)).trans rfl
  · unfold F174.b0 letter inR
    refine lt_then (Int.ofNat_lt.2 hi) (bind_eq (getI_lt hi) ?_)
    rw [← nxt hi hs]
    simp only [getI_lt hi, Option.bind_some]
    cases iLe (97:Int) (UInt8.toNat s.data.toList[i] : Int) <;> cases iLe (UInt8.toNat s.data.toList[i] : Int) (122:Int) <;> cases iLe (48:Int) (UInt8.toNat s.data.toList[i] : Int) <;> cases iLe (UInt8.toNat s.data.toList[i] : Int) (57:Int) <;> rfl
  · unfold F174.b0
    exact lt_else (Int.le_refl _) rfl

/-- Names, in order. -/
def namP (xs : List D9) (i : Nat) (y : D9) : Bool := nameB y.1 && behind (fun z y => sLt z.1 y.1) xs i y
def namesB (xs : List D9) : Bool := allI (namP xs) 0 xs && iLe (xs.length : Int) 20

theorem s_names (xs : List D9) (hx : (Ty.sl e9).Ok xs) : F97 ((xs, ()), ()) = some (B1 (namesB xs)) := by
  have hl : L63 xs.length := hx.1
  have lp := loopAll (S := Int × Unit) xs (namP xs) (f := F97.b0 ((xs, ()), ())) (fun k => (k, ())) (Sum.inl ((xs.length : Int), ())) (Sum.inr (B1 false)) (fun i hi => ?_) ?_
  · unfold F97 namesB
    refine bind_eq lp ?_
    cases allI (namP xs) 0 xs <;> rfl
  · unfold F97.b0 namP
    refine lt_then (Int.ofNat_lt.2 hi) (bind_eq (getI_lt hi) (bind_eq (s_name _ (Ok_mem hx.2 (List.getElem_mem hi)).1) (goN ?_)))
    rw [← nxt hi hl]
    exact asc_step hi hl (fun z => bind_eq (getI_lt hi) goE)
  · unfold F97.b0
    exact lt_else (Int.le_refl _) rfl

theorem i_names (xs : List D9) (hx : (Ty.sl e9).Ok xs) : F103 ((xs, ()), ()) = some (B1 (namesB xs)) := by
  have hl : L63 xs.length := hx.1
  have lp := loopAll (S := Int × Unit) xs (namP xs) (f := F103.b0 ((xs, ()), ())) (fun k => (k, ())) (Sum.inl ((xs.length : Int), ())) (Sum.inr (B1 false)) (fun i hi => ?_) ?_
  · unfold F103 namesB
    refine bind_eq lp ?_
    cases allI (namP xs) 0 xs <;> rfl
  · unfold F103.b0 namP
    refine lt_then (Int.ofNat_lt.2 hi) (bind_eq (getI_lt hi) (bind_eq (i_name _ (Ok_mem hx.2 (List.getElem_mem hi)).1) (goN ?_)))
    rw [← nxt hi hl]
    exact asc_step hi hl (fun z => ite_tri)
  · unfold F103.b0
    exact lt_else (Int.le_refl _) rfl

/-- Is it among those who vote? among names? -/
def inB (l : List D188) (s : ByteArray) : Bool := l.any (fun v => sEq v.1 s)
def hasB (l : List D9) (s : ByteArray) : Bool := l.any (fun v => sEq v.1 s)

theorem s_has (l : List D9) (s : ByteArray) (hl : L63 l.length) : F99 ((l, ()), ((s, ()), ())) = some (B1 (hasB l s)) := by
  have lp := loopHas (S := Int × Unit) l (fun v => sEq v.1 s) (f := F99.b0 ((l, ()), ((s, ()), ()))) (fun k => (k, ())) (Sum.inl ((l.length : Int), ())) (Sum.inr (B1 true)) (fun i hi => ?_) ?_
  · unfold F99 hasB
    refine bind_eq lp ?_
    cases l.any (fun v => sEq v.1 s) <;> rfl
  · unfold F99.b0
    refine lt_then (Int.ofNat_lt.2 hi) (bind_eq (getI_lt hi) ?_)
    rw [← nxt hi hl]
  · unfold F99.b0
    exact lt_else (Int.le_refl _) rfl

theorem i_idxS (l : List D9) (s : ByteArray) (hl : L63 l.length) : F176 ((l, ()), ((s, ()), ())) = some (I1 (idxOf l (fun v => sEq s v.1))) := by
  have lp := loopIdx (S := Int × Unit) l (fun v => sEq s v.1) (f := F176.b0 ((l, ()), ((s, ()), ()))) (fun k => (k, ())) (Sum.inl ((l.length : Int), ())) (fun i => Sum.inr (I1 i)) (fun i hi => ?_) ?_
  · unfold F176
    refine bind_eq lp ?_
    rcases idxOf_cases l (fun v => sEq s v.1) with ⟨h1, _, h3⟩ | ⟨j, hj, _, _, h1, _, h3⟩ <;> rw [h1, h3] <;> rfl
  · unfold F176.b0
    refine lt_then (Int.ofNat_lt.2 hi) (bind_eq (getI_lt hi) ?_)
    rw [← nxt hi hl]
  · unfold F176.b0
    exact lt_else (Int.le_refl _) rfl
theorem i_has (l : List D9) (s : ByteArray) (hl : L63 l.length) : F106 ((l, ()), ((s, ()), ())) = some (B1 (hasB l s)) := by
  unfold F106 hasB
  refine bind_eq (i_idxS l s hl) ?_
  rw [idxOf_any]
  simp only [sEq_comm]

def allInB (l : List D188) (names : List D9) : Bool := names.all (fun n => inB l n.1)

/-- What they weigh. -/
def weight (xs : List D188) (names : List D9) : Int := xs.foldl (fun n v => bif hasB names v.1 then iAdd .i64 n v.2.1 else n) 0
def total (xs : List D188) : Int := xs.foldl (fun n v => iAdd .i64 n v.2.1) 0
def quorumB (l : List D188) (names : List D9) : Bool := iLt (iMul .i64 2 (total l)) (iMul .i64 3 (weight l names))

/-- What leaves, in order; an account. -/
def leafP (xs : List D248) (i : Nat) (y : D248) : Bool := inR y.1 1 1000000 && (inR y.2.1 0 1000 && behind (fun z y => iLt z.2.1 y.2.1) xs i y)
def leavesB (xs : List D248) : Bool := allI (leafP xs) 0 xs
def acctB (a : D153) : Bool := nameB a.1 && (inR a.2.1 0 1000000 && (inR a.2.2.1 0 10000 && (inR a.2.2.2.1 0 1000000 && (iLe (List.length a.2.2.2.2.1 : Int) 4 && leavesB a.2.2.2.2.1))))
abbrev AOk (a : D153) : Prop := e153.Ok a
theorem AOk.ls {a : D153} (h : AOk a) : (Ty.sl e248).Ok a.2.2.2.2.1 := h.2.2.2.2.1

theorem s_acct (a : D153) (h : AOk a) : F206 (a, ()) = some (B1 (acctB a)) := by
  have hl : L63 (List.length a.2.2.2.2.1) := h.ls.1
  have lp := loopAll (S := Int × Unit) a.2.2.2.2.1 (leafP a.2.2.2.2.1) (f := F206.b0 (a, ())) (fun k => (k, ())) (Sum.inl ((List.length a.2.2.2.2.1 : Int), ())) (Sum.inr (B1 false)) (fun i hi => ?_) ?_
  · unfold F206 acctB leavesB
    rw [iLe_lt]
    refine bind_eq (s_name _ h.1) (andN (bind_eq (s_in _ _ _) (andN (bind_eq (s_in _ _ _) (andN (bind_eq (s_in _ _ _) (andN (noT (bind_eq lp ?_)))))))))
    cases allI (leafP a.2.2.2.2.1) 0 a.2.2.2.2.1 <;> rfl
  · unfold F206.b0 leafP
    refine lt_then (Int.ofNat_lt.2 hi) (bind_eq (getI_lt hi) (bind_eq (s_in _ _ _) (goN (bind_eq (s_in _ _ _) (goN ?_)))))
    rw [← nxt hi hl]
    exact asc_step hi hl (fun z => le_ite)
  · unfold F206.b0
    exact lt_else (Int.le_refl _) rfl

theorem i_amount (n : Int) : F230 ((n, ()), ()) = some (B1 (inR n 0 1000000)) := bind_eq (i_in _ _ _) rfl
theorem i_acct (a : D153) (h : AOk a) : F209 (a, ()) = some (B1 (acctB a)) := by
  have hl : L63 (List.length a.2.2.2.2.1) := h.ls.1
  have lp := loopAll (S := Int × Unit) a.2.2.2.2.1 (leafP a.2.2.2.2.1) (f := F209.b0 (a, ())) (fun k => (k, ())) (Sum.inl ((List.length a.2.2.2.2.1 : Int), ())) (Sum.inr (B1 false)) (fun i hi => ?_) ?_
  · unfold F209 acctB leavesB
    refine bind_eq lp ?_
    cases allI (leafP a.2.2.2.2.1) 0 a.2.2.2.2.1
    · cases nameB a.1 <;> cases inR a.2.1 0 1000000 <;> cases inR a.2.2.1 0 10000 <;> cases inR a.2.2.2.1 0 1000000 <;> cases iLe (List.length a.2.2.2.2.1 : Int) 4 <;> rfl
    · refine (bind_eq (i_name _ h.1) (andY (bind_eq (i_amount _) (andY (bind_eq (i_amount _) (andY (bind_eq (i_in _ _ _) (and_yes (c := iLe (List.length a.2.2.2.2.1 : Int) 4))))))))).trans ?_
      cases nameB a.1 <;> cases inR a.2.1 0 1000000 <;> cases inR a.2.2.1 0 10000 <;> cases inR a.2.2.2.1 0 1000000 <;> cases iLe (List.length a.2.2.2.2.1 : Int) 4 <;> rfl
  · unfold F209.b0 leafP
    refine lt_then (Int.ofNat_lt.2 hi) (bind_eq (getI_lt hi) (bind_eq (i_in _ _ _) (goN (bind_eq (i_in _ _ _) (goN ?_)))))
    rw [← nxt hi hl]
    exact asc_step hi hl (fun z => le_ite)
  · unfold F209.b0
    exact lt_else (Int.le_refl _) rfl

def addL (n : Int) (xs : List D248) : Int := xs.foldl (fun s y => iAdd .i64 s y.1) n
theorem addL_add (n m : Int) : ∀ xs : List D248, addL (iAdd .i64 n m) xs = iAdd .i64 n (addL m xs)
  | [] => rfl
  | x :: r => by
    show addL (iAdd .i64 (iAdd .i64 n m) x.1) r = iAdd .i64 n (addL (iAdd .i64 m x.1) r)
    rw [iAdd_assoc, addL_add]
def ofA (a : D153) : Int := addL (iAdd .i64 a.2.1 a.2.2.2.1) a.2.2.2.2.1
def wealth (xs : List D153) : Int := xs.foldl (fun s y => iAdd .i64 s (ofA y)) 0

theorem s_of (a : D153) (h : AOk a) : F228 (a, ()) = some (I1 (ofA a)) := by
  have hl : L63 (List.length a.2.2.2.2.1) := h.ls.1
  have lp := loopFold0 (S := Int × (Int × Unit)) a.2.2.2.2.1 (fun s y => iAdd .i64 s y.1) (f := F228.b0 (a, ())) (fun a i => (a, (i, ()))) (fun s => Sum.inl (s, ((List.length a.2.2.2.2.1 : Int), ()))) (iAdd .i64 a.2.1 a.2.2.2.1) (fun i hi s => ?_) (fun s => ?_)
  · unfold F228
    exact bind_eq lp rfl
  · unfold F228.b0
    refine lt_then (Int.ofNat_lt.2 hi) (bind_eq (getI_lt hi) ?_)
    rw [← nxt hi hl]
  · unfold F228.b0
    exact lt_else (Int.le_refl _) rfl
theorem s_wealth (xs : List D153) (hx : (Ty.sl e153).Ok xs) : F207 ((xs, ()), ()) = some (I1 (wealth xs)) := by
  have lp := loopFold0 (S := Int × (Int × Unit)) xs (fun s y => iAdd .i64 s (ofA y)) (f := F207.b0 ((xs, ()), ())) (fun a i => (a, (i, ()))) (fun s => Sum.inl (s, ((xs.length : Int), ()))) 0 (fun i hi s => ?_) (fun s => ?_)
  · unfold F207
    exact bind_eq lp rfl
  · unfold F207.b0
    refine lt_then (Int.ofNat_lt.2 hi) (bind_eq (getI_lt hi) (bind_eq (s_of _ (Ok_mem hx.2 (List.getElem_mem hi))) ?_))
    rw [← nxt hi hx.1]
  · unfold F207.b0
    exact lt_else (Int.le_refl _) rfl

theorem i_wealth (xs : List D153) (hx : (Ty.sl e153).Ok xs) : F210 ((xs, ()), ()) = some (I1 (wealth xs)) := by
  have inner : ∀ (a : D153) (n : Int), L63 (List.length a.2.2.2.2.1) → loopF (F210.b1 a) (n, ((0:Int), ())) = some (.inl (addL n a.2.2.2.2.1, ((List.length a.2.2.2.2.1 : Int), ()))) := by
    intro a n hl
    refine loopFold0 (S := Int × (Int × Unit)) a.2.2.2.2.1 (fun s y => iAdd .i64 s y.1) (fun a i => (a, (i, ()))) (fun s => Sum.inl (s, ((List.length a.2.2.2.2.1 : Int), ()))) n (fun i hi s => ?_) (fun s => ?_)
    · unfold F210.b1
      refine lt_then (Int.ofNat_lt.2 hi) (bind_eq (getI_lt hi) ?_)
      rw [← nxt hi hl]
    · unfold F210.b1
      exact lt_else (Int.le_refl _) rfl
  have lp := loopFold0 (S := Int × (Int × Unit)) xs (fun s y => iAdd .i64 s (ofA y)) (f := F210.b0 ((xs, ()), ())) (fun a i => (a, (i, ()))) (fun s => Sum.inl (s, ((xs.length : Int), ()))) 0 (fun i hi s => ?_) (fun s => ?_)
  · unfold F210
    exact bind_eq lp rfl
  · unfold F210.b0
    refine lt_then (Int.ofNat_lt.2 hi) (bind_eq (getI_lt hi) (bind_eq (inner _ _ (AOk.ls (Ok_mem hx.2 (List.getElem_mem hi))).1) ?_))
    rw [← nxt hi hx.1]
    exact congrArg (fun z => some (Sum.inl (z, (iAdd .i64 (i : Int) 1, ())))) (addL_add s _ _)
  · unfold F210.b0
    exact lt_else (Int.le_refl _) rfl

def acctP (xs : List D153) (i : Nat) (y : D153) : Bool := acctB y && behind (fun z y => sLt z.1 y.1) xs i y
def acctsB (xs : List D153) : Bool := allI (acctP xs) 0 xs && (iLe (xs.length : Int) 12 && iLe (wealth xs) 1000000)
abbrev DLe : Type := Int × (List D153 × Unit)
def ledgerB (x : DLe) : Bool := inR x.1 0 900 && acctsB x.2.1

theorem s_accts (xs : List D153) (hx : (Ty.sl e153).Ok xs) : F168 ((xs, ()), ()) = some (B1 (acctsB xs)) := by
  have hl : L63 xs.length := hx.1
  have lp := loopAll (S := Int × Unit) xs (acctP xs) (f := F168.b0 ((xs, ()), ())) (fun k => (k, ())) (Sum.inl ((xs.length : Int), ())) (Sum.inr (B1 false)) (fun i hi => ?_) ?_
  · unfold F168 acctsB
    refine bind_eq lp ?_
    cases allI (acctP xs) 0 xs
    · rfl
    · exact (andY (b := iLe (xs.length : Int) 12) (bind_eq (s_wealth xs hx) rfl)).trans rfl
  · unfold F168.b0 acctP
    refine lt_then (Int.ofNat_lt.2 hi) (bind_eq (getI_lt hi) (bind_eq (s_acct _ (Ok_mem hx.2 (List.getElem_mem hi))) (goN ?_)))
    rw [← nxt hi hl]
    exact asc_step hi hl (fun z => bind_eq (getI_lt hi) goE)
  · unfold F168.b0
    exact lt_else (Int.le_refl _) rfl
theorem s_ledger (x : DLe) (hx : (Ty.sl e153).Ok x.2.1) : F96 (x, ()) = some (B1 (ledgerB x)) := bind_eq (s_in _ _ _) (andY (bind_eq (s_accts _ hx) rfl))

theorem i_accts (xs : List D153) (hx : (Ty.sl e153).Ok xs) : F173 ((xs, ()), ()) = some (B1 (acctsB xs)) := by
  have hl : L63 xs.length := hx.1
  have lp := loopAll (S := Int × Unit) xs (acctP xs) (f := F173.b0 ((xs, ()), ())) (fun k => (k, ())) (Sum.inl ((xs.length : Int), ())) (Sum.inr (B1 false)) (fun i hi => ?_) ?_
  · unfold F173 acctsB
    refine bind_eq lp ?_
    cases allI (acctP xs) 0 xs
    · rfl
    · exact (andY (b := iLe (xs.length : Int) 12) (bind_eq (i_wealth xs hx) rfl)).trans rfl
  · unfold F173.b0 acctP
    refine lt_then (Int.ofNat_lt.2 hi) (bind_eq (getI_lt hi) (bind_eq (i_acct _ (Ok_mem hx.2 (List.getElem_mem hi))) (goN ?_)))
    rw [← nxt hi hl]
    exact asc_step hi hl (fun z => ite_tri)
  · unfold F173.b0
    exact lt_else (Int.le_refl _) rfl
theorem i_ledger (x : DLe) (hx : (Ty.sl e153).Ok x.2.1) : F102 (x, ()) = some (B1 (ledgerB x)) := bind_eq (i_in _ _ _) (andY (bind_eq (i_accts _ hx) rfl))

/-- Who votes. -/
def setStep (s : List D188) (y : D153) : List D188 := bif iLe 5 y.2.2.2.1 then s ++ ([(y.1, (y.2.2.2.1, ()))] : List D188) else s
def setL (xs : List D153) : List D188 := xs.foldl setStep []
theorem setStep_len (s : List D188) (y : D153) {i : Nat} (h : s.length ≤ i) : (setStep s y).length ≤ i + 1 := by
  unfold setStep
  cases iLe 5 y.2.2.2.1 with
  | false => exact Nat.le_succ_of_le h
  | true => simp only [cond_true, List.length_append, List.length_cons, List.length_nil]; omega
theorem setL_eq (xs : List D153) : setL xs = (xs.filter (fun y => iLe 5 y.2.2.2.1)).map (fun y => (y.1, (y.2.2.2.1, ()))) := by
  have : ∀ (xs : List D153) (s : List D188), xs.foldl setStep s = s ++ (xs.filter (fun y => iLe 5 y.2.2.2.1)).map (fun y => (y.1, (y.2.2.2.1, ()))) := by
    intro xs
    induction xs with
    | nil => intro s; simp
    | cons x r ih =>
      intro s
      rw [List.foldl_cons, ih, List.filter_cons]
      unfold setStep
      cases iLe 5 x.2.2.2.1 <;> simp
  have h := this xs []
  rw [List.nil_append] at h
  exact h
theorem setL_len (xs : List D153) : (setL xs).length ≤ xs.length := by rw [setL_eq, List.length_map]; exact List.length_filter_le _ _
theorem setL_mem {xs : List D153} {y : D188} (h : y ∈ setL xs) : ∃ a ∈ xs, y = (a.1, (a.2.2.2.1, ())) := by
  rw [setL_eq, List.mem_map] at h
  obtain ⟨a, ha, rfl⟩ := h
  exact ⟨a, (List.mem_filter.1 ha).1, rfl⟩
theorem setL_ok (xs : List D153) (hx : (Ty.sl e153).Ok xs) : (Ty.sl e188).Ok (setL xs) :=
  Ok_of (Nat.le_trans (setL_len xs) hx.1) (fun y hy => by
    obtain ⟨a, ha, e⟩ := setL_mem hy
    have hao : AOk a := Ok_mem hx.2 ha
    rw [e]
    exact ⟨hao.1, hao.2.2.2.1, trivial⟩)
theorem setL_w (xs : List D153) : (Ty.sl e188).w (setL xs) ≤ (Ty.sl e153).w xs := by
  rw [setL_eq]
  exact sumW_fm (f := fun z => e153.w z) (g := fun z => e188.w z) (m := fun y : D153 => ((y.1, (y.2.2.2.1, ())) : D188)) (fun x => Nat.le_trans (Nat.le_of_eq (show x.1.size + (0 + 0) = x.1.size by omega)) (Nat.le_add_right _ _)) xs

theorem s_set7 (x : DLe) (hl : W1 x.2.1.length) : F159 (x, ()) = some ((setL x.2.1, ()), ()) := by
  have lp := loopFold (S := List D188 × (Int × Unit)) (f := F159.b0 (x, ())) x.2.1 setStep (fun i s => s.length ≤ i) (fun a i => (a, (i, ()))) (fun a => Sum.inl (a, ((x.2.1.length : Int), ()))) [] (Nat.le_refl _) (fun i hi a ha => ⟨?_, setStep_len _ _ ha⟩) (fun a _ => ?_)
  · unfold F159
    exact bind_eq lp.1 rfl
  · unfold F159.b0 setStep
    refine lt_then (Int.ofNat_lt.2 hi) (bind_eq (getI_lt hi) ?_)
    rw [← nxt hi hl.l]
    dsimp only
    cases iLe 5 x.2.1[i].2.2.2.1 with
    | false => rfl
    | true => exact bind_eq (getI_lt hi) (bind_eq (getI_lt hi) (room_is (n := a.length + 1) (by unfold W1 at hl; omega) (by decide) (by decide) rfl))
  · unfold F159.b0
    exact lt_else (Int.le_refl _) rfl

def setOfL (x : DLe) : List D188 := bif ledgerB x then setL x.2.1 else []
theorem setOf_ok (x : DLe) (hx : (Ty.sl e153).Ok x.2.1) : (Ty.sl e188).Ok (setOfL x) := by
  unfold setOfL
  cases ledgerB x with
  | true => exact setL_ok _ hx
  | false => exact Ok_nil
theorem i_setOf (x : DLe) (hl : W1 x.2.1.length) (hx : (Ty.sl e153).Ok x.2.1) : F91 (x, ()) = some ((setOfL x, ()), ()) := by
  unfold F91 setOfL
  refine bind_eq (i_ledger _ hx) ((goEq (K := _) (g := some ((setL x.2.1, ()), ())) ?_).trans (by cases ledgerB x <;> rfl))
  have lp := loopFold (S := List D188 × (Int × Unit)) (f := F91.b0 (x, ())) x.2.1 setStep (fun i s => s.length ≤ i) (fun a i => (a, (i, ()))) (fun a => Sum.inl (a, ((x.2.1.length : Int), ()))) [] (Nat.le_refl _) (fun i hi a ha => ⟨?_, setStep_len _ _ ha⟩) (fun a _ => ?_)
  · exact bind_eq lp.1 rfl
  · unfold F91.b0 setStep
    refine lt_then (Int.ofNat_lt.2 hi) (bind_eq (getI_lt hi) ?_)
    rw [← nxt hi hl.l]
    dsimp only
    cases iLe 5 x.2.1[i].2.2.2.1 with
    | false => rfl
    | true => exact room_is (n := a.length + 1) (by unfold W1 at hl; omega) (by decide) (by decide) rfl
  · unfold F91.b0
    exact lt_else (Int.le_refl _) rfl

/-- A certificate; one of leavings. -/
abbrev DQc : Type := Int × (Int × (List D9 × Unit))
abbrev DTc : Type := Int × (List D9 × (List D3 × Unit))
def rootB (q : DQc) : Bool := iEq q.1 0 && (iEq q.2.1 (-1) && iEq (List.length q.2.2.1 : Int) 0)
def noneB (t : DTc) : Bool := iEq t.1 0 && (iEq (List.length t.2.1 : Int) 0 && iEq (List.length t.2.2.1 : Int) 0)
abbrev QOk (q : DQc) : Prop := (Ty.sl e9).Ok q.2.2.1
abbrev TOk (t : DTc) : Prop := (Ty.sl e9).Ok t.2.1 ∧ L63 (List.length t.2.2.1)
def qcF (q : DQc) (round block : Int) : Bool := rootB q || (inR q.1 1 round && (inR q.2.1 0 block && namesB q.2.2.1))
def tcF (t : DTc) (round : Int) : Bool := noneB t || (inR t.1 1 round && (namesB t.2.1 && (iEq (List.length t.2.2.1 : Int) (List.length t.2.1 : Int) && t.2.2.1.all (fun h => inR h.1 0 (iSub .i64 t.1 1)))))
def qcB (l : List D188) (q : DQc) : Bool := rootB q || (inR q.1 1 10000 && (inR q.2.1 0 100000 && (namesB q.2.2.1 && (allInB l q.2.2.1 && quorumB l q.2.2.1))))
def tcB (l : List D188) (t : DTc) : Bool := noneB t || (inR t.1 1 10000 && (namesB t.2.1 && (iEq (List.length t.2.2.1 : Int) (List.length t.2.1 : Int) && (t.2.2.1.all (fun h => inR h.1 0 (iSub .i64 t.1 1)) && (allInB l t.2.1 && quorumB l t.2.1)))))

/-- A block. -/
abbrev DBk : Type := D138
def bQc (b : DBk) : DQc := (b.2.2.2.2.1, (b.2.2.2.2.2.1, (b.2.2.2.2.2.2.1, ())))
def bTc (b : DBk) : DTc := (b.2.2.2.2.2.2.2.1, (b.2.2.2.2.2.2.2.2.1, (b.2.2.2.2.2.2.2.2.2.1, ())))
abbrev bTxs (b : DBk) : List D195 := b.2.2.2.2.2.2.2.2.2.2.1
abbrev bEnd (b : DBk) : Bool := b.2.2.2.2.2.2.2.2.2.2.2.1
abbrev bNext (b : DBk) : List D188 := b.2.2.2.2.2.2.2.2.2.2.2.2.1
abbrev bRoot (b : DBk) : ByteArray := b.2.2.2.2.2.2.2.2.2.2.2.2.2.1
abbrev BOk (b : DBk) : Prop := e138.Ok b
theorem BOk.by_ {b : DBk} (h : BOk b) : L63 b.2.2.2.1.size := h.2.2.2.1
theorem BOk.qc {b : DBk} (h : BOk b) : QOk (bQc b) := h.2.2.2.2.2.2.1
theorem BOk.tc {b : DBk} (h : BOk b) : TOk (bTc b) := ⟨h.2.2.2.2.2.2.2.2.1, h.2.2.2.2.2.2.2.2.2.1.1⟩
theorem BOk.txs {b : DBk} (h : BOk b) : (Ty.sl e195).Ok (bTxs b) := h.2.2.2.2.2.2.2.2.2.2.1
theorem BOk.next {b : DBk} (h : BOk b) : (Ty.sl e188).Ok (bNext b) := h.2.2.2.2.2.2.2.2.2.2.2.2.1

theorem i_clS (l : List D9) (h : W1 l.length) : F105 ((l, ()), ()) = some ((l, ()), ()) := by unfold F105; exact clone_ok l h (by decide) (by decide)

theorem i_clL (l : List D248) (h : W1 l.length) : F211 ((l, ()), ()) = some ((l, ()), ()) := by unfold F211; exact clone_ok l h (by decide) (by decide)

/-- A block's lists are not long. -/
def BlockL (x : DBk) : Prop := W1 (List.length (bQc x).2.2.1) ∧ W1 (List.length (bTc x).2.1) ∧ W1 (List.length (bTc x).2.2.1) ∧ W1 (List.length (bTxs x)) ∧ W1 (List.length (bNext x))

/-- A proof's lists are not long. -/
abbrev DPr : Type := D43
abbrev pBs (p : DPr) : List DBk := p.2.1
def pQ (p : DPr) : DQc := (p.2.2.1, (p.2.2.2.1, (p.2.2.2.2.1, ())))
def ProofL (x : DPr) : Prop := W1 (List.length (pBs x)) ∧ (∀ y ∈ pBs x, BlockL y) ∧ W1 (List.length (pQ x).2.2.1)

/-- A node; how its epochs ended. -/
abbrev DNd : Type := D56
abbrev nPast (n : DNd) : List DPr := n.2.2.2.2.2.2.2.2.2.2.2.2.2.2.2.2.2.2.2.1

/-- A ledger's lists are not long. -/
def AcctL (l : List D153) : Prop := W1 l.length ∧ ∀ a ∈ l, W1 (List.length a.2.2.2.2.1)
theorem AcctL_of {l : List D153} (h : (Ty.sl e153).w l ≤ 1048576) : AcctL l := ⟨w_ln h, fun a ha => w_ln (w_hd (w_tl (w_tl (w_tl (w_tl (w_mem h ha))))))⟩

theorem s_caccts (xs : List D153) (h : AcctL xs) : F170 ((xs, ()), ()) = some ((xs, ()), ()) := by
  have hl := h.1
  have lp := loopCopy (S := List D153 × (Int × Unit)) xs (f := F170.b0 ((xs, ()), ())) (fun a k => (a, (k, ()))) (Sum.inl (xs, ((xs.length : Int), ()))) (fun i hi => ?_) ?_
  · unfold F170
    exact bind_eq lp rfl
  · unfold F170.b0
    refine lt_then (Int.ofNat_lt.2 hi) (bind_eq (getI_lt hi) (room_then (h.2 _ (List.getElem_mem hi)) (by decide) (by decide) (room_one hi hl (by decide) (by decide) ?_)))
    rw [← nxt hi hl.l]; rfl
  · unfold F170.b0
    exact lt_else (Int.le_refl _) rfl
theorem s_cledger (x : DLe) (h : AcctL x.2.1) : F98 (x, ()) = some (x, ()) := bind_eq (s_caccts _ h) rfl

theorem i_caccts (xs : List D153) (h : AcctL xs) : F175 ((xs, ()), ()) = some ((xs, ()), ()) := by
  have hl := h.1
  have lp := loopCopy (S := List D153 × (Int × Unit)) xs (f := F175.b0 ((xs, ()), ())) (fun a k => (a, (k, ()))) (Sum.inl (xs, ((xs.length : Int), ()))) (fun i hi => ?_) ?_
  · unfold F175
    exact bind_eq lp rfl
  · unfold F175.b0
    refine lt_then (Int.ofNat_lt.2 hi) (bind_eq (getI_lt hi) (bind_eq (i_clL _ (h.2 _ (List.getElem_mem hi))) (room_one hi hl (by decide) (by decide) ?_)))
    rw [← nxt hi hl.l]; rfl
  · unfold F175.b0
    exact lt_else (Int.le_refl _) rfl
theorem i_cledger (x : DLe) (h : AcctL x.2.1) : F104 (x, ()) = some (x, ()) := bind_eq (i_caccts _ h) rfl

def zeroNd : DNd := (⟨#[]⟩, (0, (0, ([], ([], ([], (0, (0, (0, (0, ([], (0, ([], ([], (0, ([], ([], ([], ([], ([], ()))))))))))))))))))))
def nodeNewL (name : ByteArray) (x : DLe) : DNd := bif nameB name && ledgerB x then (name, (x.1, (x.1, (x.2.1, (setL x.2.1, ([], (1, (0, (0, (-1, ([], (0, ([], ([], (0, ([], ([], ([], ([], ([], ())))))))))))))))))))) else zeroNd

theorem s_nodeNew (name : ByteArray) (x : DLe) (hn : L63 name.size) (hx : (Ty.sl e153).Ok x.2.1) (h : AcctL x.2.1) : F100 ((name, ()), (x, ())) = some (nodeNewL name x, ()) := by
  unfold F100 nodeNewL
  refine (bind_eq (s_name _ hn) (goN (bind_eq (s_ledger x hx) (goEq (bind_eq (s_cledger x h) (bind_eq (s_set7 x h.1) rfl)))))).trans ?_
  cases nameB name && ledgerB x <;> rfl

theorem i_nodeNew (name : ByteArray) (x : DLe) (hn : L63 name.size) (hx : (Ty.sl e153).Ok x.2.1) (h : AcctL x.2.1) : F107 ((name, ()), (x, ())) = some (nodeNewL name x, ()) := by
  unfold F107 nodeNewL
  refine (bind_eq (i_name _ hn) (goN (bind_eq (i_ledger x hx) (goEq (g := some ((name, (x.1, (x.1, (x.2.1, (setOfL x, ([], (1, (0, (0, (-1, ([], (0, ([], ([], (0, ([], ([], ([], ([], ([], ())))))))))))))))))))), ())) (bind_eq (i_cledger x h) (bind_eq (i_setOf x h.1 hx) (bind_eq rfl rfl))))))).trans ?_
  unfold setOfL
  cases nameB name <;> cases ledgerB x <;> rfl

abbrev DWo : Type := D74
def zeroWo : DWo := (0, ([], ([], ([], ([], ([], ([], ())))))))
def nodesL (x : DLe) (foul : List D9) : List DNd := x.2.1.foldl (fun s a => bif !hasB foul a.1 then s ++ ([nodeNewL a.1 x] : List DNd) else s) []
def worldNewL (x : DLe) (foul : List D9) : DWo := bif ledgerB x && namesB foul then (x.1, (x.2.1, (foul, (nodesL x foul, ([], ([], ([], ()))))))) else zeroWo
theorem nodesL_eq (x : DLe) (foul : List D9) : nodesL x foul = (x.2.1.filter (fun a => !hasB foul a.1)).map (fun a => nodeNewL a.1 x) := by
  have : ∀ (xs : List D153) (s : List DNd), xs.foldl (fun s a => bif !hasB foul a.1 then s ++ ([nodeNewL a.1 x] : List DNd) else s) s = s ++ (xs.filter (fun a => !hasB foul a.1)).map (fun a => nodeNewL a.1 x) := by
    intro xs
    induction xs with
    | nil => intro s; simp
    | cons a r ih =>
      intro s
      rw [List.foldl_cons, ih, List.filter_cons]
      cases hasB foul a.1 <;> simp
  have h := this x.2.1 []
  rw [List.nil_append] at h
  exact h
theorem add_len {A : Type} {s t : List A} {i : Nat} (h : s.length ≤ i) (b : Bool) (ht : t.length = 1) : (bif b then s ++ t else s).length ≤ i + 1 := by
  cases b with
  | false => exact Nat.le_succ_of_le h
  | true => simp only [cond_true, List.length_append, ht]; omega

theorem s_worldNew (x : DLe) (foul : List D9) (hf : (Ty.sl e9).Ok foul) (hfw : W1 foul.length) (hx : (Ty.sl e153).Ok x.2.1) (h : AcctL x.2.1) : F24 (x, ((foul, ()), ())) = some (worldNewL x foul, ()) := by
  have lp := loopFold (S := Int × (List DNd × Unit)) (f := F24.b0 (x, ((foul, ()), ()))) x.2.1 (fun s a => bif !hasB foul a.1 then s ++ ([nodeNewL a.1 x] : List DNd) else s) (fun i s => s.length ≤ i) (fun a i => (i, (a, ()))) (fun a => Sum.inl ((x.2.1.length : Int), (a, ()))) [] (Nat.le_refl _) (fun i hi a ha => ⟨?_, add_len ha _ rfl⟩) (fun a _ => ?_)
  · unfold F24 worldNewL
    refine (bind_eq (s_ledger x hx) (goN (bind_eq (s_names _ hf) (goEq (g := some ((x.1, (x.2.1, (foul, (nodesL x foul, ([], ([], ([], ()))))))), ())) (bind_eq (s_cledger x h) (room_then hfw (by decide) (by decide) (bind_eq lp.1 rfl))))))).trans ?_
    cases ledgerB x && namesB foul <;> rfl
  · unfold F24.b0
    refine lt_then (Int.ofNat_lt.2 hi) (bind_eq (getI_lt hi) (bind_eq (s_has _ _ hf.1) ?_))
    rw [← nxt hi h.1.l]
    dsimp only
    cases hasB foul x.2.1[i].1 with
    | true => rfl
    | false =>
      have hao : AOk x.2.1[i] := Ok_mem hx.2 (List.getElem_mem hi)
      have h1 := h.1
      exact bind_eq (getI_lt hi) (bind_eq (s_nodeNew _ x hao.1 hx h) (room_is (n := a.length + 1) (by unfold W1 at h1; omega) (by decide) (by decide) rfl))
  · unfold F24.b0
    exact lt_else (Int.le_refl _) rfl

theorem i_worldNew (x : DLe) (foul : List D9) (hf : (Ty.sl e9).Ok foul) (hfw : W1 foul.length) (hx : (Ty.sl e153).Ok x.2.1) (h : AcctL x.2.1) : F27 (x, ((foul, ()), ())) = some (worldNewL x foul, ()) := by
  have lp := loopFold (S := Int × (List DNd × Unit)) (f := F27.b0 (x, ((foul, ()), ()))) x.2.1 (fun s a => bif !hasB foul a.1 then s ++ ([nodeNewL a.1 x] : List DNd) else s) (fun i s => s.length ≤ i) (fun a i => (i, (a, ()))) (fun a => Sum.inl ((x.2.1.length : Int), (a, ()))) [] (Nat.le_refl _) (fun i hi a ha => ⟨?_, add_len ha _ rfl⟩) (fun a _ => ?_)
  · unfold F27 worldNewL
    refine (bind_eq (i_ledger x hx) (goN (bind_eq (i_names _ hf) (goEq (g := some ((x.1, (x.2.1, (foul, (nodesL x foul, ([], ([], ([], ()))))))), ())) (bind_eq (i_cledger x h) (bind_eq (i_clS _ hfw) (bind_eq lp.1 rfl))))))).trans ?_
    cases ledgerB x && namesB foul <;> rfl
  · unfold F27.b0
    refine lt_then (Int.ofNat_lt.2 hi) (bind_eq (getI_lt hi) (bind_eq (i_has _ _ hf.1) ?_))
    rw [← nxt hi h.1.l]
    dsimp only
    cases hasB foul x.2.1[i].1 with
    | true => rfl
    | false =>
      have hao : AOk x.2.1[i] := Ok_mem hx.2 (List.getElem_mem hi)
      have h1 := h.1
      exact bind_eq (i_nodeNew _ x hao.1 hx h) (room_is (n := a.length + 1) (by unfold W1 at h1; omega) (by decide) (by decide) rfl)
  · unfold F27.b0
    exact lt_else (Int.le_refl _) rfl

theorem i0 : (Lit.int .i64 0).wf = true := rfl
theorem zeroNd_ok : e56.Ok zeroNd := ⟨Nat.zero_le _, i0, i0, Ok_nil, Ok_nil, Ok_nil, i0, i0, i0, i0, Ok_nil, i0, Ok_nil, Ok_nil, i0, Ok_nil, Ok_nil, Ok_nil, Ok_nil, Ok_nil, trivial⟩
theorem nodeNew_ok {name : ByteArray} {x : DLe} (hn : L63 name.size) (h0 : (Lit.int .i64 x.1).wf = true) (hx : (Ty.sl e153).Ok x.2.1) : e56.Ok (nodeNewL name x) := by
  unfold nodeNewL
  cases nameB name && ledgerB x with
  | false => exact zeroNd_ok
  | true => exact ⟨hn, h0, h0, hx, setL_ok _ hx, Ok_nil, rfl, i0, i0, rfl, Ok_nil, i0, Ok_nil, Ok_nil, i0, Ok_nil, Ok_nil, Ok_nil, Ok_nil, Ok_nil, trivial⟩
theorem nodeNew_w {name : ByteArray} {x : DLe} : e56.w (nodeNewL name x) ≤ name.size + 2 * (Ty.sl e153).w x.2.1 := by
  unfold nodeNewL
  cases nameB name && ledgerB x with
  | false => exact Nat.le_trans (Nat.le_of_eq (show e56.w zeroNd = 0 from rfl)) (Nat.zero_le _)
  | true =>
    have h := setL_w x.2.1
    dsimp only [cond_true]
    simp only [e56, Tys.w, Ty.w, sumW, List.length_nil, Nat.zero_add, Nat.add_zero] at h ⊢
    have h0 : List.length ([] : List e9.D) = 0 := rfl
    have h1 : List.length ([] : List D9) = 0 := rfl
    omega
theorem sumW_le_len {A : Type} {f : A → Nat} {b : Nat} (h : ∀ x, f x ≤ b) : ∀ xs : List A, sumW f xs ≤ xs.length * b
  | [] => Nat.zero_le _
  | x :: r => by
    have := sumW_le_len h r
    have hx := h x
    simp only [sumW, List.length_cons, Nat.add_mul, Nat.one_mul]
    omega
theorem L_WorldNew (x : DLe) (hx : e48.Ok x) (hxw : e48.w x ≤ 1048576) (f : List D9 × Unit) (hf : (.cons (.sl e9) .nil : Tys).Ok f) (hfw : (.cons (.sl e9) .nil : Tys).w f ≤ 1048576) :
    ∃ R, F24 (x, (f, ())) = some R ∧ F27 (x, (f, ())) = some R ∧ e74.Ok R.1 ∧ e74.w R.1 ≤ 67108864 := by
  have hw2 := w_hd (w_tl hxw)
  have ha := AcctL_of hw2
  refine ⟨_, s_worldNew x f.1 hf.1 (w_ln (w_hd hfw)) hx.2.1 ha, i_worldNew x f.1 hf.1 (w_ln (w_hd hfw)) hx.2.1 ha, ?_⟩
  unfold worldNewL
  cases hb : ledgerB x && namesB f.1 with
  | false => exact ⟨⟨i0, Ok_nil, Ok_nil, Ok_nil, Ok_nil, Ok_nil, Ok_nil, trivial⟩, Nat.zero_le _⟩
  | true =>
    have hlen : (x.2.1).length ≤ 12 := by
      simp only [Bool.and_eq_true] at hb
      have h1 := hb.1
      unfold ledgerB acctsB at h1
      simp only [Bool.and_eq_true] at h1
      have := h1.2.2.1
      simp [iLe] at this
      omega
    have hle : ((x.2.1.filter (fun a => !hasB f.1 a.1)).map (fun a => nodeNewL a.1 x)).length ≤ 12 := by rw [List.length_map]; exact Nat.le_trans (List.length_filter_le _ _) hlen
    have hmem : ∀ y, y ∈ (x.2.1.filter (fun a => !hasB f.1 a.1)).map (fun a => nodeNewL a.1 x) → e56.Ok y ∧ e56.w y ≤ 3145728 := by
      intro y hy
      obtain ⟨a, h1, e⟩ := List.mem_map.1 hy
      have hm := (List.mem_filter.1 h1).1
      have hao : AOk a := Ok_mem hx.2.1.2 hm
      have haw : e153.w a ≤ 1048576 := w_mem hw2 hm
      have hs : a.1.size ≤ 1048576 := Nat.le_trans (Nat.le_add_right _ _) haw
      have := nodeNew_w (name := a.1) (x := x)
      rw [← e]
      exact ⟨nodeNew_ok hao.1 hx.1 hx.2.1, by omega⟩
    dsimp only [cond_true]
    rw [nodesL_eq]
    refine ⟨⟨hx.1, hx.2.1, hf.1, Ok_of (es := e56) (Nat.le_trans hle (by decide)) (fun y hy => (hmem y hy).1), Ok_nil, Ok_nil, Ok_nil, trivial⟩, ?_⟩
    have hsum : ∀ l : List DNd, (∀ y ∈ l, e56.w y ≤ 3145728) → l.length ≤ 12 → (Ty.sl e56).w l ≤ 12 + 12 * 3145728 := by
      intro l hl hn
      have key : ∀ l : List DNd, (∀ y ∈ l, e56.w y ≤ 3145728) → sumW (fun z => e56.w z) l ≤ l.length * 3145728 := by
        intro l
        induction l with
        | nil => intro _; exact Nat.zero_le _
        | cons y r ih =>
          intro h
          have h1 := ih (fun z hz => h z (List.mem_cons_of_mem _ hz))
          have h2 := h y List.mem_cons_self
          simp only [sumW, List.length_cons, Nat.add_mul, Nat.one_mul]
          omega
      have := key l hl
      show List.length l + sumW (fun z => e56.w z) l ≤ _
      omega
    have h3 := hsum _ (fun y hy => (hmem y hy).2) hle
    have h4 : (Ty.sl e9).w f.1 ≤ 1048576 := w_hd hfw
    exact Nat.le_trans (Nat.add_le_add (Nat.le_refl 0) (Nat.add_le_add hw2 (Nat.add_le_add h4 (Nat.add_le_add h3 (Nat.le_refl 0))))) (by decide)
end Go.Proofs.YtphaibffjdfhpaaGreat
