/- Plain laws, part 1: what the program's functions and the reference's compute, told as plain words. Conditions: none. -/
import Derived.Test.YtphaibffjdfhpaaGreatFoH
import Derived.Test.YtphaibffjdfhpaaGreatTm4
namespace Go.Proofs.YtphaibffjdfhpaaGreat
open Go Go.Tm
set_option linter.unusedVariables false
set_option maxRecDepth 100000

theorem s_in (n lo hi : Int) : F167 ((n, ()), ((lo, ()), ((hi, ()), ()))) = some (B1 (inR n lo hi)) := inR_ite

theorem i_in (n lo hi : Int) : F172 ((n, ()), ((lo, ()), ((hi, ()), ()))) = some (B1 (inR n lo hi)) := inR_ite

/-- A letter of a name; a name. -/
def letter (b : UInt8) : Bool := inR (UInt8.toNat b : Int) 97 122 || inR (UInt8.toNat b : Int) 48 57
def nameB (s : ByteArray) : Bool := s.data.toList.all letter && inR (s.size : Int) 1 8
theorem sz_list (s : ByteArray) : s.size = s.data.toList.length := rfl

theorem s_name (s : ByteArray) (hs : L63 s.size) : F169 ((s, ()), ()) = some (B1 (nameB s)) := by
  have lp := loopAllP (S := Int × Unit) s.data.toList letter (f := F169.b0 ((s, ()), ())) (fun k => (k, ())) (Sum.inl ((s.data.toList.length : Int), ())) (Sum.inr (B1 false)) (fun i hi => ?_) ?_
  · unfold F169 nameB
    refine bind_eq lp ?_
    cases s.data.toList.all letter
    · rfl
    · exact (congrArg (fun o => Option.bind o _) (s_in _ _ _)).trans rfl
  · unfold F169.b0 letter
    refine lt_then (Int.ofNat_lt.2 hi) (bind_eq (getI_lt hi) (bind_eq (s_in _ _ _) ?_))
    rw [← nxt hi hs, wrap_byte]
    cases inR (UInt8.toNat s.data.toList[i] : Int) 97 122
    · refine bind_eq (getI_lt hi) (bind_eq (s_in _ _ _) ?_)
      rw [wrap_byte]
      cases inR (UInt8.toNat s.data.toList[i] : Int) 48 57 <;> rfl
    · rfl
  · unfold F169.b0
    exact lt_else (Int.le_refl _) rfl

theorem i_name (s : ByteArray) (hs : L63 s.size) : F174 ((s, ()), ()) = some (B1 (nameB s)) := by
  have lp := loopAllP (S := Int × Unit) s.data.toList letter (f := F174.b0 ((s, ()), ())) (fun k => (k, ())) (Sum.inl ((s.data.toList.length : Int), ())) (Sum.inr (B1 false)) (fun i hi => ?_) ?_
  · unfold F174 nameB
    refine bind_eq lp ?_
    cases s.data.toList.all letter
    · rfl
    · exact (congrArg (fun o => Option.bind o _) (i_in _ _ _)).trans rfl
  · unfold F174.b0 letter inR
    refine lt_then (Int.ofNat_lt.2 hi) (bind_eq (getI_lt hi) ?_)
    rw [← nxt hi hs]
    simp only [getI_lt hi, Option.bind_some]
    cases iLe (97:Int) (UInt8.toNat s.data.toList[i] : Int) <;> cases iLe (UInt8.toNat s.data.toList[i] : Int) (122:Int) <;> cases iLe (48:Int) (UInt8.toNat s.data.toList[i] : Int) <;> cases iLe (UInt8.toNat s.data.toList[i] : Int) (57:Int) <;> rfl
  · unfold F174.b0
    exact lt_else (Int.le_refl _) rfl

/-- Names, in order. -/
def namP (xs : List D9) (i : Nat) (y : D9) : Bool := nameB y.1 && behind (fun z y => sLt z.1 y.1) xs i y
def namesB (xs : List D9) : Bool := allI (namP xs) 0 xs && iLe (xs.length : Int) 20

/-- Those who vote. -/
def valP (xs : List D188) (i : Nat) (y : D188) : Bool := nameB y.1 && (inR y.2.1 1 1000000 && behind (fun z y => sLt z.1 y.1) xs i y)
def setB (xs : List D188) : Bool := allI (valP xs) 0 xs && inR (xs.length : Int) 1 12

/-- Is it among those who vote? among names? -/
def inB (l : List D188) (s : ByteArray) : Bool := l.any (fun v => sEq v.1 s)
def hasB (l : List D9) (s : ByteArray) : Bool := l.any (fun v => sEq v.1 s)

def allInB (l : List D188) (names : List D9) : Bool := names.all (fun n => inB l n.1)

/-- What they weigh. -/
def weight (xs : List D188) (names : List D9) : Int := xs.foldl (fun n v => bif hasB names v.1 then iAdd .i64 n v.2.1 else n) 0
def total (xs : List D188) : Int := xs.foldl (fun n v => iAdd .i64 n v.2.1) 0
def quorumB (l : List D188) (names : List D9) : Bool := iLt (iMul .i64 2 (total l)) (iMul .i64 3 (weight l names))

/-- What leaves, in order; an account. -/
def leafP (xs : List D248) (i : Nat) (y : D248) : Bool := inR y.1 1 1000000 && (inR y.2.1 0 1000 && behind (fun z y => iLt z.2.1 y.2.1) xs i y)
def leavesB (xs : List D248) : Bool := allI (leafP xs) 0 xs
def acctB (a : D153) : Bool := nameB a.1 && (inR a.2.1 0 1000000 && (inR a.2.2.1 0 10000 && (inR a.2.2.2.1 0 1000000 && (iLe (List.length a.2.2.2.2.1 : Int) 4 && leavesB a.2.2.2.2.1))))
abbrev AOk (a : D153) : Prop := e153.Ok a
theorem AOk.ls {a : D153} (h : AOk a) : (Ty.sl e248).Ok a.2.2.2.2.1 := h.2.2.2.2.1

theorem s_acct (a : D153) (h : AOk a) : F206 (a, ()) = some (B1 (acctB a)) := by
  have hl : L63 (List.length a.2.2.2.2.1) := h.ls.1
  have lp := loopAll (S := Int × Unit) a.2.2.2.2.1 (leafP a.2.2.2.2.1) (f := F206.b0 (a, ())) (fun k => (k, ())) (Sum.inl ((List.length a.2.2.2.2.1 : Int), ())) (Sum.inr (B1 false)) (fun i hi => ?_) ?_
  · unfold F206 acctB leavesB
    rw [iLe_lt]
    refine bind_eq (s_name _ h.1) (andN (bind_eq (s_in _ _ _) (andN (bind_eq (s_in _ _ _) (andN (bind_eq (s_in _ _ _) (andN (noT (bind_eq lp ?_)))))))))
    cases allI (leafP a.2.2.2.2.1) 0 a.2.2.2.2.1 <;> rfl
  · unfold F206.b0 leafP
    refine lt_then (Int.ofNat_lt.2 hi) (bind_eq (getI_lt hi) (bind_eq (s_in _ _ _) (goN (bind_eq (s_in _ _ _) (goN ?_)))))
    rw [← nxt hi hl]
    exact asc_step hi hl (fun z => le_ite)
  · unfold F206.b0
    exact lt_else (Int.le_refl _) rfl

theorem i_amount (n : Int) : F230 ((n, ()), ()) = some (B1 (inR n 0 1000000)) := bind_eq (i_in _ _ _) rfl
theorem i_acct (a : D153) (h : AOk a) : F209 (a, ()) = some (B1 (acctB a)) := by
  have hl : L63 (List.length a.2.2.2.2.1) := h.ls.1
  have lp := loopAll (S := Int × Unit) a.2.2.2.2.1 (leafP a.2.2.2.2.1) (f := F209.b0 (a, ())) (fun k => (k, ())) (Sum.inl ((List.length a.2.2.2.2.1 : Int), ())) (Sum.inr (B1 false)) (fun i hi => ?_) ?_
  · unfold F209 acctB leavesB
    refine bind_eq lp ?_
    cases allI (leafP a.2.2.2.2.1) 0 a.2.2.2.2.1
    · cases nameB a.1 <;> cases inR a.2.1 0 1000000 <;> cases inR a.2.2.1 0 10000 <;> cases inR a.2.2.2.1 0 1000000 <;> cases iLe (List.length a.2.2.2.2.1 : Int) 4 <;> rfl
    · refine (bind_eq (i_name _ h.1) (andY (bind_eq (i_amount _) (andY (bind_eq (i_amount _) (andY (bind_eq (i_in _ _ _) (and_yes (c := iLe (List.length a.2.2.2.2.1 : Int) 4))))))))).trans ?_
      cases nameB a.1 <;> cases inR a.2.1 0 1000000 <;> cases inR a.2.2.1 0 10000 <;> cases inR a.2.2.2.1 0 1000000 <;> cases iLe (List.length a.2.2.2.2.1 : Int) 4 <;> rfl
  · unfold F209.b0 leafP
    refine lt_then (Int.ofNat_lt.2 hi) (bind_eq (getI_lt hi) (bind_eq (i_in _ _ _) (goN (bind_eq (i_in _ _ _) (goN ?_)))))
    rw [← nxt hi hl]
    exact asc_step hi hl (fun z => le_ite)
  · unfold F209.b0
    exact lt_else (Int.le_refl _) rfl

def addL (n : Int) (xs : List D248) : Int := xs.foldl (fun s y => iAdd .i64 s y.1) n
theorem addL_add (n m : Int) : ∀ xs : List D248, addL (iAdd .i64 n m) xs = iAdd .i64 n (addL m xs)
  | [] => rfl
  | x :: r => by
    show addL (iAdd .i64 (iAdd .i64 n m) x.1) r = iAdd .i64 n (addL (iAdd .i64 m x.1) r)
    rw [iAdd_assoc, addL_add]
def ofA (a : D153) : Int := addL (iAdd .i64 a.2.1 a.2.2.2.1) a.2.2.2.2.1
def wealth (xs : List D153) : Int := xs.foldl (fun s y => iAdd .i64 s (ofA y)) 0

theorem s_of (a : D153) (h : AOk a) : F228 (a, ()) = some (I1 (ofA a)) := by
  have hl : L63 (List.length a.2.2.2.2.1) := h.ls.1
  have lp := loopFold0 (S := Int × (Int × Unit)) a.2.2.2.2.1 (fun s y => iAdd .i64 s y.1) (f := F228.b0 (a, ())) (fun a i => (a, (i, ()))) (fun s => Sum.inl (s, ((List.length a.2.2.2.2.1 : Int), ()))) (iAdd .i64 a.2.1 a.2.2.2.1) (fun i hi s => ?_) (fun s => ?_)
  · unfold F228
    exact bind_eq lp rfl
  · unfold F228.b0
    refine lt_then (Int.ofNat_lt.2 hi) (bind_eq (getI_lt hi) ?_)
    rw [← nxt hi hl]
  · unfold F228.b0
    exact lt_else (Int.le_refl _) rfl
theorem s_wealth (xs : List D153) (hx : (Ty.sl e153).Ok xs) : F207 ((xs, ()), ()) = some (I1 (wealth xs)) := by
  have lp := loopFold0 (S := Int × (Int × Unit)) xs (fun s y => iAdd .i64 s (ofA y)) (f := F207.b0 ((xs, ()), ())) (fun a i => (a, (i, ()))) (fun s => Sum.inl (s, ((xs.length : Int), ()))) 0 (fun i hi s => ?_) (fun s => ?_)
  · unfold F207
    exact bind_eq lp rfl
  · unfold F207.b0
    refine lt_then (Int.ofNat_lt.2 hi) (bind_eq (getI_lt hi) (bind_eq (s_of _ (Ok_mem hx.2 (List.getElem_mem hi))) ?_))
    rw [← nxt hi hx.1]
  · unfold F207.b0
    exact lt_else (Int.le_refl _) rfl

theorem i_wealth (xs : List D153) (hx : (Ty.sl e153).Ok xs) : F210 ((xs, ()), ()) = some (I1 (wealth xs)) := by
  have inner : ∀ (a : D153) (n : Int), L63 (List.length a.2.2.2.2.1) → loopF (F210.b1 a) (n, ((0:Int), ())) = some (.inl (addL n a.2.2.2.2.1, ((List.length a.2.2.2.2.1 : Int), ()))) := by
    intro a n hl
    refine loopFold0 (S := Int × (Int × Unit)) a.2.2.2.2.1 (fun s y => iAdd .i64 s y.1) (fun a i => (a, (i, ()))) (fun s => Sum.inl (s, ((List.length a.2.2.2.2.1 : Int), ()))) n (fun i hi s => ?_) (fun s => ?_)
    · unfold F210.b1
      refine lt_then (Int.ofNat_lt.2 hi) (bind_eq (getI_lt hi) ?_)
      rw [← nxt hi hl]
    · unfold F210.b1
      exact lt_else (Int.le_refl _) rfl
  have lp := loopFold0 (S := Int × (Int × Unit)) xs (fun s y => iAdd .i64 s (ofA y)) (f := F210.b0 ((xs, ()), ())) (fun a i => (a, (i, ()))) (fun s => Sum.inl (s, ((xs.length : Int), ()))) 0 (fun i hi s => ?_) (fun s => ?_)
  · unfold F210
    exact bind_eq lp rfl
  · unfold F210.b0
    refine lt_then (Int.ofNat_lt.2 hi) (bind_eq (getI_lt hi) (bind_eq (inner _ _ (AOk.ls (Ok_mem hx.2 (List.getElem_mem hi))).1) ?_))
    rw [← nxt hi hx.1]
    exact congrArg (fun z => some (Sum.inl (z, (iAdd .i64 (i : Int) 1, ())))) (addL_add s _ _)
  · unfold F210.b0
    exact lt_else (Int.le_refl _) rfl

def acctP (xs : List D153) (i : Nat) (y : D153) : Bool := acctB y && behind (fun z y => sLt z.1 y.1) xs i y
def acctsB (xs : List D153) : Bool := allI (acctP xs) 0 xs && (iLe (xs.length : Int) 12 && iLe (wealth xs) 1000000)
abbrev DLe : Type := Int × (List D153 × Unit)
def ledgerB (x : DLe) : Bool := inR x.1 0 900 && acctsB x.2.1

theorem s_accts (xs : List D153) (hx : (Ty.sl e153).Ok xs) : F168 ((xs, ()), ()) = some (B1 (acctsB xs)) := by
  have hl : L63 xs.length := hx.1
  have lp := loopAll (S := Int × Unit) xs (acctP xs) (f := F168.b0 ((xs, ()), ())) (fun k => (k, ())) (Sum.inl ((xs.length : Int), ())) (Sum.inr (B1 false)) (fun i hi => ?_) ?_
  · unfold F168 acctsB
    refine bind_eq lp ?_
    cases allI (acctP xs) 0 xs
    · rfl
    · exact (andY (b := iLe (xs.length : Int) 12) (bind_eq (s_wealth xs hx) rfl)).trans rfl
  · unfold F168.b0 acctP
    refine lt_then (Int.ofNat_lt.2 hi) (bind_eq (getI_lt hi) (bind_eq (s_acct _ (Ok_mem hx.2 (List.getElem_mem hi))) (goN ?_)))
    rw [← nxt hi hl]
    exact asc_step hi hl (fun z => bind_eq (getI_lt hi) goE)
  · unfold F168.b0
    exact lt_else (Int.le_refl _) rfl
theorem s_ledger (x : DLe) (hx : (Ty.sl e153).Ok x.2.1) : F96 (x, ()) = some (B1 (ledgerB x)) := bind_eq (s_in _ _ _) (andY (bind_eq (s_accts _ hx) rfl))

theorem i_accts (xs : List D153) (hx : (Ty.sl e153).Ok xs) : F173 ((xs, ()), ()) = some (B1 (acctsB xs)) := by
  have hl : L63 xs.length := hx.1
  have lp := loopAll (S := Int × Unit) xs (acctP xs) (f := F173.b0 ((xs, ()), ())) (fun k => (k, ())) (Sum.inl ((xs.length : Int), ())) (Sum.inr (B1 false)) (fun i hi => ?_) ?_
  · unfold F173 acctsB
    refine bind_eq lp ?_
    cases allI (acctP xs) 0 xs
    · rfl
    · exact (andY (b := iLe (xs.length : Int) 12) (bind_eq (i_wealth xs hx) rfl)).trans rfl
  · unfold F173.b0 acctP
    refine lt_then (Int.ofNat_lt.2 hi) (bind_eq (getI_lt hi) (bind_eq (i_acct _ (Ok_mem hx.2 (List.getElem_mem hi))) (goN ?_)))
    rw [← nxt hi hl]
    exact asc_step hi hl (fun z => ite_tri)
  · unfold F173.b0
    exact lt_else (Int.le_refl _) rfl
theorem i_ledger (x : DLe) (hx : (Ty.sl e153).Ok x.2.1) : F102 (x, ()) = some (B1 (ledgerB x)) := bind_eq (i_in _ _ _) (andY (bind_eq (i_accts _ hx) rfl))

/-- Who votes. -/
def setStep (s : List D188) (y : D153) : List D188 := bif iLe 5 y.2.2.2.1 then s ++ ([(y.1, (y.2.2.2.1, ()))] : List D188) else s
def setL (xs : List D153) : List D188 := xs.foldl setStep []
theorem setStep_len (s : List D188) (y : D153) {i : Nat} (h : s.length ≤ i) : (setStep s y).length ≤ i + 1 := by
  unfold setStep
  cases iLe 5 y.2.2.2.1 with
  | false => exact Nat.le_succ_of_le h
  | true => simp only [cond_true, List.length_append, List.length_cons, List.length_nil]; omega
theorem setL_eq (xs : List D153) : setL xs = (xs.filter (fun y => iLe 5 y.2.2.2.1)).map (fun y => (y.1, (y.2.2.2.1, ()))) := by
  have : ∀ (xs : List D153) (s : List D188), xs.foldl setStep s = s ++ (xs.filter (fun y => iLe 5 y.2.2.2.1)).map (fun y => (y.1, (y.2.2.2.1, ()))) := by
    intro xs
    induction xs with
    | nil => intro s; simp
    | cons x r ih =>
      intro s
      rw [List.foldl_cons, ih, List.filter_cons]
      unfold setStep
      cases iLe 5 x.2.2.2.1 <;> simp
  have h := this xs []
  rw [List.nil_append] at h
  exact h
theorem setL_len (xs : List D153) : (setL xs).length ≤ xs.length := by rw [setL_eq, List.length_map]; exact List.length_filter_le _ _
theorem setL_mem {xs : List D153} {y : D188} (h : y ∈ setL xs) : ∃ a ∈ xs, y = (a.1, (a.2.2.2.1, ())) := by
  rw [setL_eq, List.mem_map] at h
  obtain ⟨a, ha, rfl⟩ := h
  exact ⟨a, (List.mem_filter.1 ha).1, rfl⟩
theorem setL_ok (xs : List D153) (hx : (Ty.sl e153).Ok xs) : (Ty.sl e188).Ok (setL xs) :=
  Ok_of (Nat.le_trans (setL_len xs) hx.1) (fun y hy => by
    obtain ⟨a, ha, e⟩ := setL_mem hy
    have hao : AOk a := Ok_mem hx.2 ha
    rw [e]
    exact ⟨hao.1, hao.2.2.2.1, trivial⟩)
theorem setL_w (xs : List D153) : (Ty.sl e188).w (setL xs) ≤ (Ty.sl e153).w xs := by
  rw [setL_eq]
  exact sumW_fm (f := fun z => e153.w z) (g := fun z => e188.w z) (m := fun y : D153 => ((y.1, (y.2.2.2.1, ())) : D188)) (fun x => Nat.le_trans (Nat.le_of_eq (show x.1.size + (0 + 0) = x.1.size by omega)) (Nat.le_add_right _ _)) xs

/-- A certificate; one of leavings. -/
abbrev DQc : Type := Int × (Int × (List D9 × Unit))
abbrev DTc : Type := Int × (List D9 × (List D3 × Unit))
def rootB (q : DQc) : Bool := iEq q.1 0 && (iEq q.2.1 (-1) && iEq (List.length q.2.2.1 : Int) 0)
def noneB (t : DTc) : Bool := iEq t.1 0 && (iEq (List.length t.2.1 : Int) 0 && iEq (List.length t.2.2.1 : Int) 0)
abbrev QOk (q : DQc) : Prop := (Ty.sl e9).Ok q.2.2.1
abbrev TOk (t : DTc) : Prop := (Ty.sl e9).Ok t.2.1 ∧ L63 (List.length t.2.2.1)
def qcF (q : DQc) (round block : Int) : Bool := rootB q || (inR q.1 1 round && (inR q.2.1 0 block && namesB q.2.2.1))
def tcF (t : DTc) (round : Int) : Bool := noneB t || (inR t.1 1 round && (namesB t.2.1 && (iEq (List.length t.2.2.1 : Int) (List.length t.2.1 : Int) && t.2.2.1.all (fun h => inR h.1 0 (iSub .i64 t.1 1)))))
def qcB (l : List D188) (q : DQc) : Bool := rootB q || (inR q.1 1 10000 && (inR q.2.1 0 100000 && (namesB q.2.2.1 && (allInB l q.2.2.1 && quorumB l q.2.2.1))))
def tcB (l : List D188) (t : DTc) : Bool := noneB t || (inR t.1 1 10000 && (namesB t.2.1 && (iEq (List.length t.2.2.1 : Int) (List.length t.2.1 : Int) && (t.2.2.1.all (fun h => inR h.1 0 (iSub .i64 t.1 1)) && (allInB l t.2.1 && quorumB l t.2.1)))))

/-- An order. -/
def txB (t : D195) : Bool := nameB t.2.1 && (inR t.2.2.2.1 1 1000000 && (inR t.2.2.2.2.1 0 10000 && (bif iEq t.1 1 then nameB t.2.2.1 else (inR t.1 2 3 && sEq t.2.2.1 ⟨#[]⟩))))
abbrev XOk (t : D195) : Prop := L63 t.2.1.size ∧ L63 t.2.2.1.size
theorem XOk_mem {l : List D195} (h : (Ty.sl e195).Ok l) {t : D195} (ht : t ∈ l) : XOk t := ⟨(Ok_mem h.2 ht).2.1, (Ok_mem h.2 ht).2.2.1⟩

theorem s_tx (t : D195) (h : XOk t) : F234 (t, ()) = some (B1 (txB t)) := by
  unfold F234 txB
  refine bind_eq (s_name _ h.1) (andN (bind_eq (s_in _ _ _) (andN (bind_eq (s_in _ _ _) (andN ?_)))))
  cases iEq t.1 1
  · exact bind_eq (s_in _ _ _) and_yes
  · exact bind_eq (s_name _ h.2) rfl

theorem i_tx (t : D195) (h : XOk t) : F242 (t, ()) = some (B1 (txB t)) := by
  unfold F242 txB
  refine (bind_eq (i_in _ _ _) (andN (bind_eq (i_name _ h.1) (andN (bind_eq (i_in _ _ _) (andN (bind_eq (i_in _ _ _) (andN (c := bif iEq t.1 1 then nameB t.2.2.1 else sEq t.2.2.1 ⟨#[]⟩) ?_)))))))).trans ?_
  · cases iEq t.1 1
    · rfl
    · exact bind_eq (i_name _ h.2) rfl
  · have e : inR t.1 1 3 = (iEq t.1 1 || inR t.1 2 3) := by
      simp only [inR, iLe, iEq]
      rw [Bool.eq_iff_iff]
      simp
      omega
    rw [e]
    cases iEq t.1 1 <;> cases inR t.1 2 3 <;> cases nameB t.2.1 <;> cases inR t.2.2.2.1 1 1000000 <;> cases inR t.2.2.2.2.1 0 10000 <;> cases sEq t.2.2.1 ⟨#[]⟩ <;> cases nameB t.2.2.1 <;> rfl

/-- A block. -/
abbrev DBk : Type := D138
def bQc (b : DBk) : DQc := (b.2.2.2.2.1, (b.2.2.2.2.2.1, (b.2.2.2.2.2.2.1, ())))
def bTc (b : DBk) : DTc := (b.2.2.2.2.2.2.2.1, (b.2.2.2.2.2.2.2.2.1, (b.2.2.2.2.2.2.2.2.2.1, ())))
abbrev bTxs (b : DBk) : List D195 := b.2.2.2.2.2.2.2.2.2.2.1
abbrev bEnd (b : DBk) : Bool := b.2.2.2.2.2.2.2.2.2.2.2.1
abbrev bNext (b : DBk) : List D188 := b.2.2.2.2.2.2.2.2.2.2.2.2.1
abbrev bRoot (b : DBk) : ByteArray := b.2.2.2.2.2.2.2.2.2.2.2.2.2.1
abbrev BOk (b : DBk) : Prop := e138.Ok b
theorem BOk.by_ {b : DBk} (h : BOk b) : L63 b.2.2.2.1.size := h.2.2.2.1
theorem BOk.qc {b : DBk} (h : BOk b) : QOk (bQc b) := h.2.2.2.2.2.2.1
theorem BOk.tc {b : DBk} (h : BOk b) : TOk (bTc b) := ⟨h.2.2.2.2.2.2.2.2.1, h.2.2.2.2.2.2.2.2.2.1.1⟩
theorem BOk.txs {b : DBk} (h : BOk b) : (Ty.sl e195).Ok (bTxs b) := h.2.2.2.2.2.2.2.2.2.2.1
theorem BOk.next {b : DBk} (h : BOk b) : (Ty.sl e188).Ok (bNext b) := h.2.2.2.2.2.2.2.2.2.2.2.2.1

def bodyB (b : DBk) : Bool := bif bEnd b then (setB (bNext b) && iEq ((bRoot b).size : Int) 32) else (iEq (List.length (bNext b) : Int) 0 && sEq (bRoot b) ⟨#[]⟩)
def blockB (b : DBk) : Bool := inR b.1 0 100000 && (inR b.2.1 0 900 && (inR b.2.2.1 1 10000 && (nameB b.2.2.2.1 && (qcF (bQc b) (iSub .i64 b.2.2.1 1) (iSub .i64 b.1 1) && (tcF (bTc b) (iSub .i64 b.2.2.1 1) &&
  (!iLt 4 (List.length (bTxs b) : Int) && ((bTxs b).all txB && bodyB b)))))))

theorem i_clL (l : List D248) (h : W1 l.length) : F211 ((l, ()), ()) = some ((l, ()), ()) := by unfold F211; exact clone_ok l h (by decide) (by decide)

/-- A block's lists are not long. -/
def BlockL (x : DBk) : Prop := W1 (List.length (bQc x).2.2.1) ∧ W1 (List.length (bTc x).2.1) ∧ W1 (List.length (bTc x).2.2.1) ∧ W1 (List.length (bTxs x)) ∧ W1 (List.length (bNext x))

/-- A proof's lists are not long. -/
abbrev DPr : Type := D43
abbrev pBs (p : DPr) : List DBk := p.2.1
def pQ (p : DPr) : DQc := (p.2.2.1, (p.2.2.2.1, (p.2.2.2.2.1, ())))
def ProofL (x : DPr) : Prop := W1 (List.length (pBs x)) ∧ (∀ y ∈ pBs x, BlockL y) ∧ W1 (List.length (pQ x).2.2.1)

/-- A node; how its epochs ended. -/
abbrev DNd : Type := D56
abbrev nPast (n : DNd) : List DPr := n.2.2.2.2.2.2.2.2.2.2.2.2.2.2.2.2.2.2.2.1

/-- A ledger's lists are not long. -/
def AcctL (l : List D153) : Prop := W1 l.length ∧ ∀ a ∈ l, W1 (List.length a.2.2.2.2.1)
theorem AcctL_of {l : List D153} (h : (Ty.sl e153).w l ≤ 1048576) : AcctL l := ⟨w_ln h, fun a ha => w_ln (w_hd (w_tl (w_tl (w_tl (w_tl (w_mem h ha))))))⟩

theorem s_caccts (xs : List D153) (h : AcctL xs) : F170 ((xs, ()), ()) = some ((xs, ()), ()) := by
  have hl := h.1
  have lp := loopCopy (S := List D153 × (Int × Unit)) xs (f := F170.b0 ((xs, ()), ())) (fun a k => (a, (k, ()))) (Sum.inl (xs, ((xs.length : Int), ()))) (fun i hi => ?_) ?_
  · unfold F170
    exact bind_eq lp rfl
  · unfold F170.b0
    refine lt_then (Int.ofNat_lt.2 hi) (bind_eq (getI_lt hi) (room_then (h.2 _ (List.getElem_mem hi)) (by decide) (by decide) (room_one hi hl (by decide) (by decide) ?_)))
    rw [← nxt hi hl.l]; rfl
  · unfold F170.b0
    exact lt_else (Int.le_refl _) rfl
theorem s_cledger (x : DLe) (h : AcctL x.2.1) : F98 (x, ()) = some (x, ()) := bind_eq (s_caccts _ h) rfl

theorem i_caccts (xs : List D153) (h : AcctL xs) : F175 ((xs, ()), ()) = some ((xs, ()), ()) := by
  have hl := h.1
  have lp := loopCopy (S := List D153 × (Int × Unit)) xs (f := F175.b0 ((xs, ()), ())) (fun a k => (a, (k, ()))) (Sum.inl (xs, ((xs.length : Int), ()))) (fun i hi => ?_) ?_
  · unfold F175
    exact bind_eq lp rfl
  · unfold F175.b0
    refine lt_then (Int.ofNat_lt.2 hi) (bind_eq (getI_lt hi) (bind_eq (i_clL _ (h.2 _ (List.getElem_mem hi))) (room_one hi hl (by decide) (by decide) ?_)))
    rw [← nxt hi hl.l]; rfl
  · unfold F175.b0
    exact lt_else (Int.le_refl _) rfl
theorem i_cledger (x : DLe) (h : AcctL x.2.1) : F104 (x, ()) = some (x, ()) := bind_eq (i_caccts _ h) rfl

def zeroNd : DNd := (⟨#[]⟩, (0, (0, ([], ([], ([], (0, (0, (0, (0, ([], (0, ([], ([], (0, ([], ([], ([], ([], ([], ()))))))))))))))))))))
def nodeNewL (name : ByteArray) (x : DLe) : DNd := bif nameB name && ledgerB x then (name, (x.1, (x.1, (x.2.1, (setL x.2.1, ([], (1, (0, (0, (-1, ([], (0, ([], ([], (0, ([], ([], ([], ([], ([], ())))))))))))))))))))) else zeroNd

abbrev DWo : Type := D74
def zeroWo : DWo := (0, ([], ([], ([], ([], ([], ([], ())))))))
def nodesL (x : DLe) (foul : List D9) : List DNd := x.2.1.foldl (fun s a => bif !hasB foul a.1 then s ++ ([nodeNewL a.1 x] : List DNd) else s) []
def worldNewL (x : DLe) (foul : List D9) : DWo := bif ledgerB x && namesB foul then (x.1, (x.2.1, (foul, (nodesL x foul, ([], ([], ([], ()))))))) else zeroWo
theorem nodesL_eq (x : DLe) (foul : List D9) : nodesL x foul = (x.2.1.filter (fun a => !hasB foul a.1)).map (fun a => nodeNewL a.1 x) := by
  have : ∀ (xs : List D153) (s : List DNd), xs.foldl (fun s a => bif !hasB foul a.1 then s ++ ([nodeNewL a.1 x] : List DNd) else s) s = s ++ (xs.filter (fun a => !hasB foul a.1)).map (fun a => nodeNewL a.1 x) := by
    intro xs
    induction xs with
    | nil => intro s; simp
    | cons a r ih =>
      intro s
      rw [List.foldl_cons, ih, List.filter_cons]
      cases hasB foul a.1 <;> simp
  have h := this x.2.1 []
  rw [List.nil_append] at h
  exact h
theorem add_len {A : Type} {s t : List A} {i : Nat} (h : s.length ≤ i) (b : Bool) (ht : t.length = 1) : (bif b then s ++ t else s).length ≤ i + 1 := by
  cases b with
  | false => exact Nat.le_succ_of_le h
  | true => simp only [cond_true, List.length_append, ht]; omega

/-- Two lists are the same, place by place. -/
def sameT {A : Type} (eq : A → A → Bool) (xs ys : List A) : Bool := iEq (xs.length : Int) (ys.length : Int) && allI (fun i x => match ys[i]? with | some y => eq x y | none => true) 0 xs
theorem same_loop {A : Type} {xs ys : List A} {eq : A → A → Bool} {f : Int × Unit → Option (Sum (Int × Unit) (Sum (Int × Unit) ((Bool × Unit) × Unit)))} (hl : L63 xs.length)
    (hs : ∀ i (h : i < xs.length) (h2 : i < ys.length), f ((i : Int), ()) = bif eq xs[i] ys[i] then some (.inl (iAdd .i64 (i : Int) 1, ())) else some (.inr (.inr (B1 false))))
    (he : f ((xs.length : Int), ()) = some (.inr (.inl ((xs.length : Int), ())))) :
    (bif !iEq (xs.length : Int) (ys.length : Int) then some (B1 false) else (loopF f ((0:Int), ())).bind fun r => Sum.elim (fun _ => some (B1 true)) some r) = some (B1 (sameT eq xs ys)) := by
  unfold sameT
  cases hq : iEq (xs.length : Int) (ys.length : Int) with
  | false => rfl
  | true =>
    have hlen : xs.length = ys.length := by simp [iEq] at hq; omega
    have lp := loopAll (S := Int × Unit) xs (fun i x => match ys[i]? with | some y => eq x y | none => true) (f := f) (fun k => (k, ())) (Sum.inl ((xs.length : Int), ())) (Sum.inr (B1 false)) (fun i hi => ?_) he
    · refine bind_eq lp ?_
      cases allI (fun i x => match ys[i]? with | some y => eq x y | none => true) 0 xs <;> rfl
    · rw [hs i hi (by omega), List.getElem?_eq_getElem (show i < ys.length by omega), nxt hi hl]
theorem sameT_iff {A : Type} {eq : A → A → Bool} (he : ∀ a b, eq a b = true ↔ a = b) {xs ys : List A} : sameT eq xs ys = true ↔ xs = ys := by
  unfold sameT
  simp only [Bool.and_eq_true]
  constructor
  · rintro ⟨h1, h2⟩
    have hlen : xs.length = ys.length := by simp [iEq] at h1; omega
    refine List.ext_getElem hlen (fun i h1 h3 => ?_)
    have := allI_get h2 i h1
    rw [Nat.zero_add, List.getElem?_eq_getElem h3] at this
    exact (he _ _).1 this
  · rintro rfl
    refine ⟨iEq_self _, ?_⟩
    have : ∀ (p : Nat → A → Bool) (k : Nat) (l : List A), (∀ i (h : i < l.length), p (k + i) l[i] = true) → allI p k l = true := by
      intro p k l
      induction l generalizing k with
      | nil => intro _; rfl
      | cons x r ih =>
        intro h
        simp only [allI, Bool.and_eq_true]
        refine ⟨h 0 (Nat.zero_lt_succ _), ih (k + 1) (fun i hi => ?_)⟩
        have := h (i + 1) (by simpa using hi)
        rw [show k + 1 + i = k + (i + 1) by omega]
        simpa using this
    refine this _ 0 xs (fun i h => ?_)
    rw [Nat.zero_add, List.getElem?_eq_getElem h]
    exact (he _ _).2 rfl

def txEq (x y : D195) : Bool := (iEq x.1 y.1) && ((sEq x.2.1 y.2.1) && ((sEq x.2.2.1 y.2.2.1) && ((iEq x.2.2.2.1 y.2.2.2.1) && (iEq x.2.2.2.2.1 y.2.2.2.2.1))))
def valEq (x y : D188) : Bool := (sEq x.1 y.1) && (iEq x.2.1 y.2.1)
def sameQcB (a b : DQc) : Bool := iEq a.1 b.1 && (iEq a.2.1 b.2.1 && sameT (fun x y => sEq x.1 y.1) a.2.2.1 b.2.2.1)
def sameTcB (a b : DTc) : Bool := iEq a.1 b.1 && (sameT (fun x y => sEq x.1 y.1) a.2.1 b.2.1 && sameT (fun x y => iEq x.1 y.1) a.2.2.1 b.2.2.1)
def sameBlkB (a b : DBk) : Bool := iEq a.1 b.1 && (iEq a.2.1 b.2.1 && (iEq a.2.2.1 b.2.2.1 && (sEq a.2.2.2.1 b.2.2.2.1 && (sameQcB (bQc a) (bQc b) && (sameTcB (bTc a) (bTc b) && (sameT txEq (bTxs a) (bTxs b) && (bEq (bEnd a) (bEnd b) && (sameT valEq (bNext a) (bNext b) && sEq (bRoot a) (bRoot b)))))))))

def txLessB (a b : D195) : Bool := bif !sEq a.2.1 b.2.1 then sLt a.2.1 b.2.1 else bif !iEq a.2.2.2.2.1 b.2.2.2.2.1 then iLt a.2.2.2.2.1 b.2.2.2.2.1 else bif !iEq a.1 b.1 then iLt a.1 b.1 else bif !sEq a.2.2.1 b.2.2.1 then sLt a.2.2.1 b.2.2.1 else iLt a.2.2.2.1 b.2.2.2.1
/-- -1, 0 or 1. -/
def cmp3 (lt eq : Bool) : Int := bif eq then 0 else bif lt then -1 else 1
theorem sLt_eq {a b : ByteArray} (h : sEq a b = true) : sLt a b = false := by
  unfold sEq at h
  have : a.toList = b.toList := by simpa using h
  unfold sLt
  rw [this]
  exact bytesLess_self _
theorem iLt_eq {a b : Int} (h : iEq a b = true) : iLt a b = false := by
  have : a = b := by simpa [iEq] using h
  rw [this]
  exact iLt_false (Int.le_refl _)
def cmpTx (a b : D195) : Int := 
  bif !sEq a.2.1 b.2.1 then cmp3 (sLt a.2.1 b.2.1) false else bif !iEq a.2.2.2.2.1 b.2.2.2.2.1 then cmp3 (iLt a.2.2.2.2.1 b.2.2.2.2.1) false else bif !iEq a.1 b.1 then cmp3 (iLt a.1 b.1) false else bif !sEq a.2.2.1 b.2.2.1 then cmp3 (sLt a.2.2.1 b.2.2.1) false else cmp3 (iLt a.2.2.2.1 b.2.2.2.1) (iEq a.2.2.2.1 b.2.2.2.1)
theorem cmpTx_lt (a b : D195) : iLt (cmpTx a b) 0 = txLessB a b := by
  unfold cmpTx txLessB cmp3
  cases sEq a.2.1 b.2.1 <;> cases iEq a.2.2.2.2.1 b.2.2.2.2.1 <;> cases iEq a.1 b.1 <;> cases sEq a.2.2.1 b.2.2.1 <;> cases h : iEq a.2.2.2.1 b.2.2.2.1 <;> first
    | (cases sLt a.2.1 b.2.1 <;> rfl)
    | (cases iLt a.2.2.2.2.1 b.2.2.2.2.1 <;> rfl)
    | (cases iLt a.1 b.1 <;> rfl)
    | (cases sLt a.2.2.1 b.2.2.1 <;> rfl)
    | (cases iLt a.2.2.2.1 b.2.2.2.1 <;> rfl)
    | (rw [iLt_eq h]; rfl)

def poolP (xs : List D195) (i : Nat) (y : D195) : Bool := txB y && behind txLessB xs i y
def poolB (xs : List D195) : Bool := allI (poolP xs) 0 xs && iLe (xs.length : Int) 20

def headEp (l : List DBk) : Int := match l with
  | b :: _ => b.2.1
  | [] => 0
theorem head_get {l : List DBk} {i : Nat} (h : i < l.length) : ∃ b, getI l 0 = some b ∧ b.2.1 = headEp l := by
  cases l with
  | nil => simp at h
  | cons b r => exact ⟨b, rfl, rfl⟩
/-- The block that it comes behind is among these, of the round that is told. -/
def parentB (pre : List DBk) (b : DBk) : Bool := match pre.find? (fun z => iEq z.1 (bQc b).2.1) with
  | some z => iEq z.2.2.1 (bQc b).1
  | none => false
def treeQ (l : List DBk) (i : Nat) (b : DBk) : Bool := blockB b && (iEq b.2.1 (headEp l) && behind (fun z y => iLt z.1 y.1) l i b)
def treeB (l : List DBk) : Bool := allI (fun i b => treeQ l i b && (rootB (bQc b) || parentB (l.take i) b)) 0 l && iLe (l.length : Int) 400
theorem noRoot_lt {b : DBk} (h : blockB b = true) (hr : rootB (bQc b) = false) : 0 ≤ (bQc b).2.1 ∧ (bQc b).2.1 < b.1 := by
  unfold blockB qcF at h
  simp only [Bool.and_eq_true] at h
  have h1 : inR b.1 0 100000 = true := h.1
  have h2 := h.2.2.2.2.1
  rw [hr, Bool.false_or] at h2
  simp only [Bool.and_eq_true] at h2
  have h3 : 0 ≤ b.1 ∧ b.1 ≤ 100000 := by simpa [inR, iLe] using h1
  have h4 : 0 ≤ (bQc b).2.1 ∧ (bQc b).2.1 ≤ iSub .i64 b.1 1 := by simpa [inR, iLe] using h2.2.1
  rw [iSub_small (by omega) (by omega)] at h4
  omega
theorem tree_whole (l : List DBk) : allI (fun i b => treeQ l i b && (rootB (bQc b) || parentB (l.take i) b)) 0 l = allI (fun i b => treeQ l i b && (rootB (bQc b) || parentB l b)) 0 l := by
  rw [allI_and, allI_and]
  cases hq : allI (fun i b => treeQ l i b) 0 l with
  | false => rfl
  | true =>
    rw [Bool.true_and, Bool.true_and]
    have hq := fun i hi => by have := allI_get hq i hi; rw [Nat.zero_add] at this; unfold treeQ at this; simp only [Bool.and_eq_true] at this; exact this
    refine allI_congr (fun i b hb => ?_)
    obtain ⟨hi, rfl⟩ := List.getElem?_eq_some_iff.1 hb
    rw [Nat.zero_add]
    cases hr : rootB (bQc l[i]) with
    | true => rfl
    | false =>
      rw [Bool.false_or, Bool.false_or]
      have hlt := noRoot_lt (hq i hi).1 hr
      have hd : (l.drop i).find? (fun z => iEq z.1 (bQc l[i]).2.1) = none := by
        rw [List.find?_eq_none]
        intro z hz
        obtain ⟨k, hk, rfl⟩ := List.getElem_of_mem hz
        rw [List.length_drop] at hk
        have := asc_le (f := fun b : DBk => b.1) (l := l) (fun j hj => (hq j hj).2.2) k i (by omega)
        rw [List.getElem_drop]
        have this : l[i].1 ≤ l[i + k].1 := this
        simp only [iEq, decide_eq_true_eq]
        omega
      unfold parentB
      have : l.find? (fun z => iEq z.1 (bQc l[i]).2.1) = (l.take i).find? (fun z => iEq z.1 (bQc l[i]).2.1) := by
        generalize (bQc l[i]).2.1 = id at hd ⊢
        have e := List.find?_append (p := fun z : DBk => iEq z.1 id) (xs := l.take i) (ys := l.drop i)
        rw [List.take_append_drop, hd] at e
        rw [e]
        cases (l.take i).find? (fun z => iEq z.1 id) <;> rfl
      rw [this]

abbrev nBase (n : DNd) : DLe := (n.2.2.1, (n.2.2.2.1, ()))
abbrev nSet (n : DNd) : List D188 := n.2.2.2.2.1
abbrev nTree (n : DNd) : List DBk := n.2.2.2.2.2.1
abbrev nRound (n : DNd) : Int := n.2.2.2.2.2.2.1
abbrev nVoted (n : DNd) : Int := n.2.2.2.2.2.2.2.1
def nHigh (n : DNd) : DQc := (n.2.2.2.2.2.2.2.2.1, (n.2.2.2.2.2.2.2.2.2.1, (n.2.2.2.2.2.2.2.2.2.2.1, ())))
def nTc (n : DNd) : DTc := (n.2.2.2.2.2.2.2.2.2.2.2.1, (n.2.2.2.2.2.2.2.2.2.2.2.2.1, (n.2.2.2.2.2.2.2.2.2.2.2.2.2.1, ())))
abbrev nLed (n : DNd) : Int := n.2.2.2.2.2.2.2.2.2.2.2.2.2.2.1
abbrev nVotes (n : DNd) : List D191 := n.2.2.2.2.2.2.2.2.2.2.2.2.2.2.2.1
abbrev nGones (n : DNd) : List D193 := n.2.2.2.2.2.2.2.2.2.2.2.2.2.2.2.2.1
abbrev nDone (n : DNd) : List D3 := n.2.2.2.2.2.2.2.2.2.2.2.2.2.2.2.2.2.1
abbrev nPool (n : DNd) : List D195 := n.2.2.2.2.2.2.2.2.2.2.2.2.2.2.2.2.2.2.1
abbrev NOk (n : DNd) : Prop := e56.Ok n
theorem NOk.base {n : DNd} (h : NOk n) : (Ty.sl e153).Ok (nBase n).2.1 := h.2.2.2.1
theorem NOk.set {n : DNd} (h : NOk n) : (Ty.sl e188).Ok (nSet n) := h.2.2.2.2.1
theorem NOk.tree {n : DNd} (h : NOk n) : (Ty.sl e138).Ok (nTree n) := h.2.2.2.2.2.1
theorem NOk.high {n : DNd} (h : NOk n) : QOk (nHigh n) := h.2.2.2.2.2.2.2.2.2.2.1
theorem NOk.tcs {n : DNd} (h : NOk n) : TOk (nTc n) := ⟨h.2.2.2.2.2.2.2.2.2.2.2.2.1, h.2.2.2.2.2.2.2.2.2.2.2.2.2.1.1⟩
theorem NOk.pool {n : DNd} (h : NOk n) : (Ty.sl e195).Ok (nPool n) := h.2.2.2.2.2.2.2.2.2.2.2.2.2.2.2.2.2.2.1
def headB (l : List DBk) (ep : Int) : Bool := match l with
  | b :: _ => iEq b.2.1 ep
  | [] => true
def nodeB (n : DNd) : Bool := nameB n.1 && (ledgerB (nBase n) && (iEq (nBase n).1 n.2.1 && (poolB (nPool n) && ((!iLt 0 (List.length (nSet n) : Int) || setB (nSet n)) && (treeB (nTree n) && (headB (nTree n) n.2.1 && (inR (nRound n) 1 10000 && (iLt (nHigh n).1 (nRound n) && (iLt (nTc n).1 (nRound n) && (inR (nVoted n) 0 10000 && (inR (nLed n) 0 10000 && (qcB (nSet n) (nHigh n) && (tcB (nSet n) (nTc n) && (iLe (List.length (nVotes n) : Int) 1000 && (iLe (List.length (nGones n) : Int) 1000 && (iLe (List.length (nDone n) : Int) 200 && iLe (List.length (nPast n) : Int) 200))))))))))))))))
theorem head_go {l : List DBk} {ep : Int} {R : Type} {g x : Option R} : (bif iLt 0 (l.length : Int) then (getI l 0).bind (fun b => bif !iEq b.2.1 ep then x else g) else g) = bif headB l ep then g else x := by
  cases l with
  | nil => rfl
  | cons b r => exact (lt_then (by simp) (bind_eq rfl goE))

abbrev DMs : Type := D217
abbrev mBs (m : DMs) : List DBk := m.2.2.2.1
def mQ (m : DMs) : DQc := (m.2.2.2.2.2.2.2.2.2.2.1, (m.2.2.2.2.2.2.2.2.2.2.2.1, (m.2.2.2.2.2.2.2.2.2.2.2.2.1, ())))
def mT (m : DMs) : DTc := (m.2.2.2.2.2.2.2.2.2.2.2.2.2.1, (m.2.2.2.2.2.2.2.2.2.2.2.2.2.2.1, (m.2.2.2.2.2.2.2.2.2.2.2.2.2.2.2.1, ())))
def mV0 (m : DMs) : Bool := (iEq m.2.2.2.2.1 (0:Int)) && ((iEq m.2.2.2.2.2.1 (0:Int)) && (sEq m.2.2.2.2.2.2.1 ⟨#[]⟩))
def mG0 (m : DMs) : Bool := (iEq m.2.2.2.2.2.2.2.1 (0:Int)) && ((iEq m.2.2.2.2.2.2.2.2.1 (0:Int)) && (sEq m.2.2.2.2.2.2.2.2.2.1 ⟨#[]⟩))
def mVF (m : DMs) : Bool := inR m.2.2.2.2.1 1 10000 && (inR m.2.2.2.2.2.1 0 100000 && nameB m.2.2.2.2.2.2.1)
def mGF (m : DMs) : Bool := inR m.2.2.2.2.2.2.2.1 1 10000 && (inR m.2.2.2.2.2.2.2.2.1 0 (iSub .i64 m.2.2.2.2.2.2.2.1 1) && (iEq m.2.2.2.2.2.2.2.2.1 m.2.2.2.2.2.2.2.2.2.2.1 && nameB m.2.2.2.2.2.2.2.2.2.1))
abbrev MOk (m : DMs) : Prop := e217.Ok m
theorem MOk.bs {m : DMs} (h : MOk m) : (Ty.sl e138).Ok (mBs m) := h.2.2.2.1
theorem MOk.q {m : DMs} (h : MOk m) : QOk (mQ m) := h.2.2.2.2.2.2.2.2.2.2.2.2.1
theorem MOk.t {m : DMs} (h : MOk m) : TOk (mT m) := ⟨h.2.2.2.2.2.2.2.2.2.2.2.2.2.2.1, h.2.2.2.2.2.2.2.2.2.2.2.2.2.2.2.1.1⟩
def blksB (l : List DBk) (ep : Int) : Bool := l.all (fun b => blockB b && iEq b.2.1 ep)
def kindB (k : Int) (n : Int) (v0 g0 vf gf r no : Bool) : Bool := bif iEq k 1 then (iEq n 1 && (v0 && (g0 && (r && no)))) else bif iEq k 2 then (iEq n 0 && (vf && (g0 && (r && no)))) else bif iEq k 3 then (iEq n 0 && (v0 && (gf && no))) else bif iEq k 4 then (v0 && g0) else false
def msgB (m : DMs) : Bool := nameB m.2.1 && (inR m.2.2.1 0 900 && (qcF (mQ m) 10000 100000 && (tcF (mT m) 10000 && ((blksB (mBs m) m.2.2.1 && iLe ((mBs m).length : Int) 400) && kindB m.1 ((mBs m).length : Int) (mV0 m) (mG0 m) (mVF m) (mGF m) (rootB (mQ m)) (noneB (mT m))))))
theorem msg_same (k : Int) (n : Nat) (p1 p2 al v0 g0 vf gf r q no t : Bool) :
    (p1 && (p2 && (inR k 1 4 && ((al && (iLe (n : Int) (bif iEq k 1 then 1 else bif iEq k 4 then 400 else 0) && (!iEq k 1 || iEq (n : Int) 1))) && ((bif iEq k 2 then vf else v0) && ((bif iEq k 2 then g0 else bif iEq k 3 then gf else g0) && ((r || ((iEq k 4 || iEq k 3) && (r || q))) && (no || (iEq k 4 && (no || t))))))))))
      = (p1 && (p2 && ((r || q) && ((no || t) && ((al && iLe (n : Int) 400) && kindB k (n : Int) v0 g0 vf gf r no))))) := by
  unfold kindB
  have e1 : ∀ x : Int, iEq x x = true := iEq_self
  by_cases h1 : k = 1
  · subst h1
    have a2 : iEq (1:Int) 2 = false := rfl
    have a3 : iEq (1:Int) 3 = false := rfl
    have a4 : iEq (1:Int) 4 = false := rfl
    have a5 : inR 1 1 4 = true := rfl
    rw [a2, a3, a4, a5, e1]
    by_cases hn : n = 1
    · subst hn
      have b1 : iLe ((1 : Nat) : Int) 1 = true := rfl
      have b2 : iLe ((1 : Nat) : Int) 400 = true := rfl
      have b3 : iEq ((1 : Nat) : Int) 1 = true := rfl
      simp only [cond_true, cond_false]
      rw [b1, b2, b3]
      cases p1 <;> cases p2 <;> cases al <;> cases v0 <;> cases g0 <;> cases r <;> cases q <;> cases no <;> cases t <;> rfl
    · have b3 : iEq (n : Int) 1 = false := by simp [iEq]; omega
      simp only [cond_true, cond_false]
      rw [b3]
      cases p1 <;> cases p2 <;> cases al <;> cases r <;> cases q <;> cases no <;> cases t <;> simp
  · have a1 : iEq k 1 = false := by simp [iEq, h1]
    rw [a1]
    simp only [cond_false]
    have z : ∀ m : Nat, iLe (m : Int) 0 = iEq (m : Int) 0 := fun m => by simp [iLe, iEq]
    by_cases h4 : k = 4
    · subst h4
      have a2 : iEq (4:Int) 2 = false := rfl
      have a3 : iEq (4:Int) 3 = false := rfl
      have a5 : inR 4 1 4 = true := rfl
      rw [a2, a3, a5, e1]
      simp only [cond_true, cond_false]
      cases p1 <;> cases p2 <;> cases al <;> cases v0 <;> cases g0 <;> cases r <;> cases q <;> cases no <;> cases t <;> cases iLe (n : Int) 400 <;> rfl
    · have a4 : iEq k 4 = false := by simp [iEq, h4]
      rw [a4]
      simp only [cond_false]
      rw [z]
      by_cases hn : n = 0
      · subst hn
        have b2 : iLe ((0 : Nat) : Int) 400 = true := rfl
        have b3 : iEq ((0 : Nat) : Int) 0 = true := rfl
        rw [b2, b3]
        by_cases h2 : k = 2
        · subst h2
          have a3 : iEq (2:Int) 3 = false := rfl
          have a5 : inR 2 1 4 = true := rfl
          rw [a3, a5, e1]
          simp only [cond_true, cond_false]
          cases p1 <;> cases p2 <;> cases al <;> cases vf <;> cases g0 <;> cases r <;> cases q <;> cases no <;> cases t <;> rfl
        · have a2 : iEq k 2 = false := by simp [iEq, h2]
          rw [a2]
          simp only [cond_false]
          by_cases h3 : k = 3
          · subst h3
            have a5 : inR 3 1 4 = true := rfl
            rw [a5, e1]
            simp only [cond_true]
            cases p1 <;> cases p2 <;> cases al <;> cases v0 <;> cases gf <;> cases r <;> cases q <;> cases no <;> cases t <;> rfl
          · have a5 : inR k 1 4 = false := by simp [inR, iLe]; omega
            have a3 : iEq k 3 = false := by simp [iEq, h3]
            rw [a5, a3]
            simp
      · have b3 : iEq (n : Int) 0 = false := by simp [iEq]; omega
        rw [b3]
        cases iEq k 2 <;> cases iEq k 3 <;> simp

/-- The block is that of those that were made. -/
def realB (bl : List DBk) (b : DBk) : Bool := match getI bl b.1 with
  | some z => sameBlkB z b
  | none => false
theorem getI_in {A : Type} {xs : List A} {k : Int} (h0 : 0 ≤ k) (h : k < (xs.length : Int)) : getI xs k = some (xs[k.toNat]'(by omega)) := by
  have := getI_lt (xs := xs) (i := k.toNat) (by omega)
  rwa [show ((k.toNat : Nat) : Int) = k by omega] at this
theorem getI_out {A : Type} {xs : List A} {k : Int} (h : k < 0 ∨ (xs.length : Int) ≤ k) : getI xs k = none := by
  unfold getI
  rcases h with h | h
  · simp
    intro _
    omega
  · simp
    intro _
    omega

abbrev WOk (w : DWo) : Prop := e74.Ok w
def wNodeP (w : DWo) (i : Nat) (n : DNd) : Bool := nodeB n && (!hasB w.2.2.1 n.1 && (behind (fun z y => sLt z.1 y.1) w.2.2.2.1 i n && (nTree n).all (realB w.2.2.2.2.1)))
def wMsgP (w : DWo) (m : DMs) : Bool := msgB m && (w.2.2.2.1.any (fun n => sEq n.1 m.2.1) && (mBs m).all (realB w.2.2.2.2.1))
def wBlkP (i : Nat) (b : DBk) : Bool := iEq b.1 (i : Int) && blockB b
def worldB (w : DWo) : Bool := ledgerB (w.1, (w.2.1, ())) && (namesB w.2.2.1 && (iLe (w.2.2.2.1.length : Int) 12 && (iLe (w.2.2.2.2.1.length : Int) 1000 && (iLe (w.2.2.2.2.2.2.1.length : Int) 400 && (allI wBlkP 0 w.2.2.2.2.1 && (allI (wNodeP w) 0 w.2.2.2.1 && w.2.2.2.2.2.2.1.all (wMsgP w)))))))
theorem WOk.accts {w : DWo} (h : WOk w) : (Ty.sl e153).Ok w.2.1 := h.2.1
theorem WOk.foul {w : DWo} (h : WOk w) : (Ty.sl e9).Ok w.2.2.1 := h.2.2.1
theorem WOk.nodes {w : DWo} (h : WOk w) : (Ty.sl e56).Ok w.2.2.2.1 := h.2.2.2.1
theorem WOk.blocks {w : DWo} (h : WOk w) : (Ty.sl e138).Ok w.2.2.2.2.1 := h.2.2.2.2.1
theorem WOk.net {w : DWo} (h : WOk w) : (Ty.sl e217).Ok w.2.2.2.2.2.2.1 := h.2.2.2.2.2.2.1
theorem goC {b c : Bool} {R : Type} {C g x : R} (h : C = bif c then g else x) : (bif b then C else x) = bif (b && c) then g else x := by rw [h]; cases b <;> rfl
theorem goBoth {b c : Bool} {R : Type} {K C g x : R} (h1 : K = bif b then C else x) (h2 : C = bif c then g else x) : K = bif (b && c) then g else x := by rw [h1]; exact goC h2
theorem idx_neg {A R : Type} {xs : List A} {p : A → Bool} {C g x : R} {c : Bool} (h : C = bif c then g else x) : (bif iLt (idxOf xs p) 0 then x else C) = bif (xs.any p && c) then g else x := by
  rcases idxOf_cases xs p with ⟨h1, _, h3⟩ | ⟨j, hj, _, _, h1, _, h3⟩
  · rw [h1, h3]; rfl
  · rw [h1, h3, iLt_false (Int.natCast_nonneg j), Bool.true_and]; exact h
theorem gt_ite {R : Type} {a b c : Int} (h : iLt a b = !iLe b a) {n x : R} : (bif iLt a b then x else n) = bif iLe b a then n else x := by rw [h]; cases iLe b a <;> rfl
theorem iLt_le (a b : Int) : iLt a b = !iLe b a := by rw [iLe_lt, Bool.not_not]
theorem gtN {a b : Int} {c : Bool} {K : Option ((Bool × Unit) × Unit)} (h : K = some (B1 c)) : (bif iLt a b then some (B1 false) else K) = some (B1 (iLe b a && c)) := by rw [h, iLt_le]; cases iLe b a <;> rfl
theorem endLoop {b : Bool} {k : Int} {c : Bool} {L : Option (Sum (Int × Unit) ((Bool × Unit) × Unit))} {K : Int × Unit → Option ((Bool × Unit) × Unit)} (h : L = some (bif b then Sum.inl (k, ()) else Sum.inr (B1 false))) (hK : K (k, ()) = some (B1 c)) : L.bind (fun r => Sum.elim K some r) = some (B1 (b && c)) := by
  rw [h]
  cases b with
  | true => exact hK
  | false => rfl

theorem bl_tr : ∀ {x y z : List UInt8}, Op.bytesLess x y = true → Op.bytesLess y z = true → Op.bytesLess x z = true
  | x, [], _, h, _ => by cases x <;> simp [Op.bytesLess] at h
  | _, b :: y, [], _, h => by simp [Op.bytesLess] at h
  | [], _ :: _, _ :: _, _, _ => rfl
  | a :: x, b :: y, c :: z, h1, h2 => by
    simp only [Op.bytesLess, Bool.or_eq_true, Bool.and_eq_true, decide_eq_true_eq, beq_iff_eq] at h1 h2 ⊢
    rcases h1 with h1 | ⟨rfl, h1⟩
    · rcases h2 with h2 | ⟨rfl, h2⟩
      · exact .inl (UInt8.lt_trans h1 h2)
      · exact .inl h1
    · rcases h2 with h2 | ⟨rfl, h2⟩
      · exact .inl h2
      · exact .inr ⟨rfl, bl_tr h1 h2⟩
/-- An order, by what is less and what is the same. -/
structure Ord3 {A : Type} (lt eq : A → A → Bool) : Prop where
  refl : ∀ a, eq a a = true
  symm : ∀ a b, eq a b = true → eq b a = true
  etr : ∀ a b c, eq a b = true → eq b c = true → eq a c = true
  lte : ∀ a b c, lt a b = true → eq b c = true → lt a c = true
  elt : ∀ a b c, eq a b = true → lt b c = true → lt a c = true
  tr : ∀ a b c, lt a b = true → lt b c = true → lt a c = true
  irr : ∀ a b, lt a b = true → eq a b = false
  tot : ∀ a b, lt a b = false → eq a b = false → lt b a = true
theorem ord_int : Ord3 iLt iEq where
  refl a := iEq_self a
  symm a b h := by simp only [iEq, decide_eq_true_eq] at *; omega
  etr a b c h k := by simp only [iEq, decide_eq_true_eq] at *; omega
  lte a b c h k := by simp only [iEq, iLt, decide_eq_true_eq] at *; omega
  elt a b c h k := by simp only [iEq, iLt, decide_eq_true_eq] at *; omega
  tr a b c h k := by simp only [iLt, decide_eq_true_eq] at *; omega
  irr a b h := by simp only [iEq, iLt, decide_eq_true_eq, decide_eq_false_iff_not] at *; omega
  tot a b h k := by simp only [iEq, iLt, decide_eq_true_eq, decide_eq_false_iff_not] at *; omega
theorem sEq_list {a b : ByteArray} : sEq a b = true ↔ a.toList = b.toList := by unfold sEq; simp
theorem ord_str : Ord3 sLt sEq where
  refl a := sEq_self a
  symm a b h := sEq_list.2 (sEq_list.1 h).symm
  etr a b c h k := sEq_list.2 ((sEq_list.1 h).trans (sEq_list.1 k))
  lte a b c h k := by unfold sLt at *; rw [← sEq_list.1 k]; exact h
  elt a b c h k := by unfold sLt at *; rw [sEq_list.1 h]; exact k
  tr a b c h k := bl_tr h k
  irr a b h := by
    cases hq : sEq a b with
    | false => rfl
    | true => rw [sLt_eq hq] at h; cases h
  tot a b h k := by
    have := sLt_tri a b
    rw [h, k] at this
    cases hx : sLt b a with
    | true => rfl
    | false => rw [hx] at this; cases this
theorem Ord3.comap {A B : Type} {lt eq : B → B → Bool} (h : Ord3 lt eq) (f : A → B) : Ord3 (fun a b => lt (f a) (f b)) (fun a b => eq (f a) (f b)) :=
  ⟨fun a => h.refl _, fun a b => h.symm _ _, fun a b c => h.etr _ _ _, fun a b c => h.lte _ _ _, fun a b c => h.elt _ _ _, fun a b c => h.tr _ _ _, fun a b => h.irr _ _, fun a b => h.tot _ _⟩
theorem lx {e x y : Bool} : (bif !e then x else y) = true ↔ (e = false ∧ x = true) ∨ (e = true ∧ y = true) := by cases e <;> simp
theorem lx0 {e x y : Bool} : (bif !e then x else y) = false ↔ (e = false ∧ x = false) ∨ (e = true ∧ y = false) := by cases e <;> simp
theorem Ord3.lex {A : Type} {l1 e1 l2 e2 : A → A → Bool} (h : Ord3 l1 e1) (k : Ord3 l2 e2) : Ord3 (fun a b => bif !e1 a b then l1 a b else l2 a b) (fun a b => e1 a b && e2 a b) where
  refl a := by rw [h.refl, k.refl]; rfl
  symm a b q := by
    simp only [Bool.and_eq_true] at q ⊢
    exact ⟨h.symm _ _ q.1, k.symm _ _ q.2⟩
  etr a b c q r := by
    simp only [Bool.and_eq_true] at q r ⊢
    exact ⟨h.etr _ _ _ q.1 r.1, k.etr _ _ _ q.2 r.2⟩
  lte a b c q r := by
    simp only [Bool.and_eq_true] at r
    rcases lx.1 q with ⟨u, v⟩ | ⟨u, v⟩
    · have := h.lte _ _ _ v r.1
      exact lx.2 (.inl ⟨h.irr _ _ this, this⟩)
    · exact lx.2 (.inr ⟨h.etr _ _ _ u r.1, k.lte _ _ _ v r.2⟩)
  elt a b c q r := by
    simp only [Bool.and_eq_true] at q
    rcases lx.1 r with ⟨u, v⟩ | ⟨u, v⟩
    · have := h.elt _ _ _ q.1 v
      exact lx.2 (.inl ⟨h.irr _ _ this, this⟩)
    · exact lx.2 (.inr ⟨h.etr _ _ _ q.1 u, k.elt _ _ _ q.2 v⟩)
  tr a b c q r := by
    rcases lx.1 q with ⟨u, v⟩ | ⟨u, v⟩
    · rcases lx.1 r with ⟨u2, v2⟩ | ⟨u2, v2⟩
      · have := h.tr _ _ _ v v2
        exact lx.2 (.inl ⟨h.irr _ _ this, this⟩)
      · have := h.lte _ _ _ v u2
        exact lx.2 (.inl ⟨h.irr _ _ this, this⟩)
    · rcases lx.1 r with ⟨u2, v2⟩ | ⟨u2, v2⟩
      · have := h.elt _ _ _ u v2
        exact lx.2 (.inl ⟨h.irr _ _ this, this⟩)
      · exact lx.2 (.inr ⟨h.etr _ _ _ u u2, k.tr _ _ _ v v2⟩)
  irr a b q := by
    rcases lx.1 q with ⟨u, v⟩ | ⟨u, v⟩
    · rw [u]; rfl
    · rw [k.irr _ _ v, Bool.and_false]
  tot a b q r := by
    rcases lx0.1 q with ⟨u, v⟩ | ⟨u, v⟩
    · have := h.tot _ _ v u
      exact lx.2 (.inl ⟨h.irr _ _ this, this⟩)
    · rw [u, Bool.true_and] at r
      exact lx.2 (.inr ⟨h.symm _ _ u, k.tot _ _ v r⟩)

theorem placeE {A : Type} (p : A → Bool) : ∀ l : List A, ∃ K, K ≤ l.length ∧ (∀ i (h : i < l.length), i < K → p l[i] = true) ∧ (∀ h : K < l.length, p l[K] = false)
  | [] => ⟨0, Nat.le_refl _, fun i h => absurd h (Nat.not_lt_zero _), fun h => absurd h (Nat.not_lt_zero _)⟩
  | y :: r => by
    cases hp : p y with
    | false => exact ⟨0, Nat.zero_le _, fun i _ h => absurd h (Nat.not_lt_zero _), fun _ => hp⟩
    | true =>
      obtain ⟨K, h1, h2, h3⟩ := placeE p r
      refine ⟨K + 1, by simpa using h1, fun i h hi => ?_, fun h => h3 (by simpa using h)⟩
      cases i with
      | zero => exact hp
      | succ i => exact h2 i (by simpa using h) (by omega)
/-- A loop that goes on while something holds. -/
theorem loopWhile {S E A : Type} (xs : List A) (q : A → Bool) {f : S → Option (Sum S E)} (mk : Int → S) (R : Int → E) (hstep : ∀ i (h : i < xs.length), f (mk (i : Int)) = bif q xs[i] then some (.inl (mk ((i + 1 : Nat) : Int))) else some (.inr (R (i : Int)))) (hend : f (mk (xs.length : Int)) = some (.inr (R (xs.length : Int))))
    {p : Nat} (hp : p ≤ xs.length) (h1 : ∀ i (h : i < xs.length), i < p → q xs[i] = true) (h2 : ∀ h : p < xs.length, q xs[p] = false) : loopF f (mk 0) = some (R (p : Int)) :=
  loopF_trace (fun i => mk (i : Int)) p (fun i hi => by rw [hstep i (Nat.lt_of_lt_of_le hi hp), h1 i (Nat.lt_of_lt_of_le hi hp) hi]; rfl) (by
    rcases Nat.lt_or_ge p xs.length with h | h
    · rw [hstep p h, h2 h]; rfl
    · have : p = xs.length := Nat.le_antisymm hp h
      subst this; exact hend)
/-- Ascending. -/
def Asc {A : Type} (lt : A → A → Bool) (l : List A) : Prop := ∀ i j (hi : i < l.length) (hj : j < l.length), i < j → lt l[i] l[j] = true
theorem asc_of {A : Type} {lt : A → A → Bool} (tr : ∀ a b c, lt a b = true → lt b c = true → lt a c = true) {l : List A} (h : ∀ i (hi : i < l.length), behind lt l i l[i] = true) : Asc lt l := by
  have key : ∀ d i (hi : i < l.length) (hj : i + 1 + d < l.length), lt l[i] l[i + 1 + d] = true := by
    intro d
    induction d with
    | zero =>
      intro i hi hj
      have := h (i + 1) hj
      rwa [behind_succ hi] at this
    | succ d ih =>
      intro i hi hj
      have h1 := h (i + 1 + d + 1) hj
      rw [behind_succ (by omega)] at h1
      exact tr _ _ _ (ih i hi (by omega)) h1
  intro i j hi hj hij
  have h1 := key (j - (i + 1)) i hi (by omega)
  have h2 : i + 1 + (j - (i + 1)) = j := by omega
  simp only [h2] at h1
  exact h1

def accAt (l : List D153) (s : ByteArray) : Int := idxOf l (fun a => sEq a.1 s)
theorem s_acctAt (l : List D153) (s : ByteArray) (hl : L63 l.length) : F239 ((l, ()), ((s, ()), ())) = some (I1 (accAt l s)) := by
  have lp := loopIdx (S := Int × Unit) l (fun a => sEq a.1 s) (f := F239.b0 ((l, ()), ((s, ()), ()))) (fun k => (k, ())) (Sum.inl ((l.length : Int), ())) (fun i => Sum.inr (I1 i)) (fun i hi => ?_) ?_
  · unfold F239 accAt
    refine bind_eq lp ?_
    rcases idxOf_cases l (fun a => sEq a.1 s) with ⟨h1, _, h3⟩ | ⟨j, hj, _, _, h1, _, h3⟩ <;> rw [h1, h3] <;> rfl
  · unfold F239.b0
    refine lt_then (Int.ofNat_lt.2 hi) (bind_eq (getI_lt hi) ?_)
    rw [← nxt hi hl]
  · unfold F239.b0
    exact lt_else (Int.le_refl _) rfl

theorem idxFunc_acct (l : List D153) (g : D153 → Option (Bool × Unit)) (p : D153 → Bool) (hg : ∀ x, g x = some (p x, ())) (hl : L63 l.length) : F252 ((l, ()), ((g, ()), ())) = some (I1 (idxOf l p)) := by
  have lp := loopIdx (S := Int × Unit) l p (f := F252.b0 ((l, ()), ((g, ()), ()))) (fun k => (k, ())) (Sum.inl ((l.length : Int), ())) (fun i => Sum.inr (I1 i)) (fun i hi => ?_) ?_
  · unfold F252
    refine bind_eq lp ?_
    rcases idxOf_cases l p with ⟨h1, _, h3⟩ | ⟨j, hj, _, _, h1, _, h3⟩ <;> rw [h1, h3] <;> rfl
  · unfold F252.b0
    refine lt_then (Int.ofNat_lt.2 hi) (bind_eq (getI_lt hi) (bind_eq (hg _) ?_))
    rw [← nxt hi hl]
  · unfold F252.b0
    exact lt_else (Int.le_refl _) rfl
theorem i_acctAt (l : List D153) (s : ByteArray) (hl : L63 l.length) : F241 ((l, ()), ((s, ()), ())) = some (I1 (accAt l s)) := by
  unfold F241
  exact bind_eq (idxFunc_acct l _ (fun a => sEq a.1 s) (fun x => rfl) hl) rfl

/-- What leaves, with so much more at an epoch. -/
def leaveIn (n at' : Int) : List D248 → List D248
  | [] => [(n, (at', ()))]
  | x :: r => bif iEq x.2.1 at' then (iAdd .i64 x.1 n, (x.2.1, ())) :: r else bif iLt at' x.2.1 then (n, (at', ())) :: x :: r else x :: leaveIn n at' r
def leaveStep (n at' : Int) (s : List D248 × Bool) (x : D248) : List D248 × Bool :=
  bif s.2 then (s.1 ++ [x], true) else bif iEq x.2.1 at' then (s.1 ++ [(iAdd .i64 x.1 n, (x.2.1, ()))], true) else bif iLt at' x.2.1 then (s.1 ++ [(n, (at', ()))] ++ [x], true) else (s.1 ++ [x], false)
def leaveEnd (n at' : Int) (s : List D248 × Bool) : List D248 := bif s.2 then s.1 else s.1 ++ [(n, (at', ()))]
theorem leave_put (n at' : Int) : ∀ (xs a : List D248), leaveEnd n at' (xs.foldl (leaveStep n at') (a, true)) = a ++ xs
  | [], a => by simp [leaveEnd]
  | x :: r, a => by
    have := leave_put n at' r (a ++ [x])
    simpa [leaveStep] using this
theorem leave_fold (n at' : Int) : ∀ (xs a : List D248), leaveEnd n at' (xs.foldl (leaveStep n at') (a, false)) = a ++ leaveIn n at' xs
  | [], a => rfl
  | x :: r, a => by
    simp only [List.foldl_cons, leaveIn]
    unfold leaveStep
    cases h1 : iEq x.2.1 at' with
    | true => exact (leave_put n at' r _).trans (by simp)
    | false =>
      cases h2 : iLt at' x.2.1 with
      | true => exact (leave_put n at' r _).trans (by simp)
      | false => exact (leave_fold n at' r _).trans (by simp)
theorem s_leave (xs : List D248) (n at' : Int) (hl : xs.length ≤ 4) : F251 ((xs, ()), ((n, ()), ((at', ()), ()))) = some ((leaveIn n at' xs, ()), ()) := by
  have hl63 : L63 xs.length := by unfold L63; omega
  have lp := (loopFold (S := List D248 × (Bool × (Int × Unit))) xs (leaveStep n at') (fun i s => s.1.length ≤ 2 * i) (f := F251.b0 ((xs, ()), ((n, ()), ((at', ()), ())))) (fun s k => (s.1, (s.2, (k, ())))) (fun s => Sum.inl (s.1, (s.2, ((xs.length : Int), ())))) ([], false) (Nat.le_refl _) (fun i hi s hI => ?_) (fun s _ => ?_))
  · unfold F251
    refine bind_eq lp.1 ?_
    have hlen := lp.2
    have hf := leave_fold n at' xs []
    rw [List.nil_append] at hf
    rw [← hf]
    unfold leaveEnd
    revert hlen
    cases (xs.foldl (leaveStep n at') ([], false)) with
    | mk a b =>
      intro hlen
      cases b with
      | true => rfl
      | false =>
        have : room (a.length + 1) 16 = true := room_ok (by simp only at hlen; omega) (by decide) (by decide)
        simp only [Sum.elim_inl, List.length_singleton, this]
        rfl
  · obtain ⟨a, b⟩ := s
    simp only at hI
    refine ⟨?_, ?_⟩
    · unfold F251.b0
      refine lt_then (Int.ofNat_lt.2 hi) (bind_eq (getI_lt hi) ?_)
      have r1 : room (a.length + 1) 16 = true := room_ok (by omega) (by decide) (by decide)
      have r2 : room (a.length + 1 + 1) 16 = true := room_ok (by omega) (by decide) (by decide)
      unfold leaveStep
      rw [← nxt hi hl63]
      cases b with
      | true =>
        show (bif room (a.length + 1) 16 then _ else none) = _
        rw [r1]; rfl
      | false =>
        cases h1 : iEq xs[i].2.1 at' with
        | true =>
          simp only [h1]
          show (bif room (a.length + 1) 16 then _ else none) = _
          rw [r1]; rfl
        | false =>
          cases h2 : iLt at' xs[i].2.1 with
          | true =>
            simp only [h1, h2, List.length_singleton, r1]
            show (bif room ((a ++ [(n, (at', ()))]).length + 1) 16 then _ else none) = _
            rw [List.length_append, List.length_singleton, r2]; rfl
          | false =>
            simp only [h1, h2]
            show (bif room (a.length + 1) 16 then _ else none) = _
            rw [r1]; rfl
    · unfold leaveStep
      cases b with
      | true => simp only [cond_true, List.length_append, List.length_singleton]; omega
      | false =>
        simp only [cond_false]
        cases h1 : iEq xs[i].2.1 at' with
        | true => simp only [cond_true, List.length_append, List.length_singleton]; omega
        | false =>
          simp only [cond_false]
          cases h2 : iLt at' xs[i].2.1 <;> simp only [cond_true, cond_false, List.length_append, List.length_singleton] <;> omega
  · unfold F251.b0
    exact lt_else (Int.le_refl _) rfl

def hole {A : Type} (l : List A) (k : Nat) (y : A) : List A := l.take k ++ y :: l.drop k
theorem hole_len {A : Type} {l : List A} {k : Nat} {y : A} (h : k ≤ l.length) : (hole l k y).length = l.length + 1 := by
  unfold hole; rw [List.length_append, List.length_cons, List.length_take, List.length_drop]; omega
theorem hole_set {A : Type} {l : List A} {k : Nat} {y z : A} (h : k ≤ l.length) : List.set (hole l k y) k z = hole l k z := by
  unfold hole
  rw [List.set_append_right _ _ (by rw [List.length_take]; omega)]
  have : k - (l.take k).length = 0 := by rw [List.length_take]; omega
  rw [this, List.set_cons_zero]
theorem hole_at {A : Type} {l : List A} {k : Nat} {y : A} (h : k ≤ l.length) : (hole l k y)[k]? = some y := by
  unfold hole
  rw [List.getElem?_append_right (by rw [List.length_take]; omega)]
  have : k - (l.take k).length = 0 := by rw [List.length_take]; omega
  rw [this, List.getElem?_cons_zero]
theorem hole_lo {A : Type} {l : List A} {k i : Nat} {y : A} (h : k ≤ l.length) (hi : i < k) : (hole l k y)[i]? = l[i]? := by
  unfold hole
  rw [List.getElem?_append_left (by rw [List.length_take]; omega), List.getElem?_take_of_lt hi]
theorem hole_down {A : Type} {l : List A} {k : Nat} (h : k < l.length) : hole l (k + 1) l[k] = hole l k l[k] := by
  unfold hole
  rw [List.take_succ_eq_append_getElem h, List.drop_eq_getElem_cons h, List.append_assoc]; rfl
theorem hole_end {A : Type} {l : List A} {y : A} : hole l l.length y = l ++ [y] := by
  unfold hole; rw [List.take_length, List.drop_length]
theorem getI_of {A : Type} {l : List A} {k : Nat} {x : A} (h : l[k]? = some x) : getI l (k : Int) = some x := by
  obtain ⟨hk, rfl⟩ := List.getElem?_eq_some_iff.1 h
  exact getI_lt hk
theorem getN_of {A : Type} {l : List A} {k : Nat} {x : A} (h : l[k]? = some x) : getN l (Int.toNat (k : Int)) = some x := h
theorem thenT {A : Type} {b : Bool} {t e r : A} (h : b = true) (h2 : t = r) : (bif b then t else e) = r := by rw [h]; exact h2
theorem st2 {A B F : Type} {a a' : A} {b b' : B} (h1 : a = a') (h2 : b = b') : (some (Sum.inl (a, (b, ()))) : Option (Sum (A × (B × Unit)) F)) = some (Sum.inl (a', (b', ()))) := by rw [h1, h2]
theorem ins_one (es : Tys) (bts : Nat) (xs : List es.D) (y : es.D) (p : Nat) (hp : p ≤ xs.length) (hr : room (xs.length + 1) bts = true) : insF es bts ((xs, ()), (((p : Int), ()), (([y], ()), ()))) = some ((hole xs p y, ()), ()) := by
  unfold insF
  have h1 : iLe 0 (p : Int) = true := by simp [iLe]
  have h2 : iLe (p : Int) (xs.length : Int) = true := by simp only [iLe, decide_eq_true_eq]; omega
  show (bif iLe 0 (p : Int) && (iLe (p : Int) (xs.length : Int) && room (xs.length + 1) bts) then _ else none) = _
  rw [h1, h2, hr]; rfl

theorem lt_not {a b : Int} (h : iLt a b = true) : iEq a b = false ∧ iLt b a = false := by
  simp only [iLt, iEq, decide_eq_true_eq, decide_eq_false_iff_not] at *; omega
theorem leave_hit (n at' : Int) : ∀ (xs : List D248) (p : Nat) (hp : p < xs.length), (∀ i (h : i < xs.length), i < p → iLt xs[i].2.1 at' = true) → iEq xs[p].2.1 at' = true → leaveIn n at' xs = xs.set p (iAdd .i64 xs[p].1 n, xs[p].2)
  | x :: r, 0, _, _, h => by simp only [leaveIn, List.getElem_cons_zero] at h ⊢; rw [h]; rfl
  | x :: r, p + 1, hp, hb, h => by
    have h0 := lt_not (hb 0 (by simp) (by omega))
    simp only [List.getElem_cons_zero] at h0
    have ih := leave_hit n at' r p (by simpa using hp) (fun i hi hip => hb (i + 1) (Nat.succ_lt_succ hi) (Nat.succ_lt_succ hip)) (by simpa using h)
    simp only [leaveIn, h0.1, h0.2, cond_false, List.set_cons_succ, List.getElem_cons_succ, ih]
theorem leave_new (n at' : Int) : ∀ (xs : List D248) (p : Nat) (_ : p ≤ xs.length), (∀ i (h : i < xs.length), i < p → iLt xs[i].2.1 at' = true) → (∀ h : p < xs.length, iLt at' xs[p].2.1 = true) → leaveIn n at' xs = hole xs p (n, (at', ()))
  | [], 0, _, _, _ => rfl
  | x :: r, 0, _, _, h => by
    have h0 := h (by simp)
    simp only [List.getElem_cons_zero] at h0
    have : iEq x.2.1 at' = false := by
      have := (lt_not h0).1
      simp only [iEq, decide_eq_false_iff_not] at this ⊢; omega
    simp only [leaveIn, this, h0, cond_false, cond_true]; rfl
  | x :: r, p + 1, hp, hb, h => by
    have h0 := lt_not (hb 0 (by simp) (by omega))
    simp only [List.getElem_cons_zero] at h0
    have ih := leave_new n at' r p (by simpa using hp) (fun i hi hip => hb (i + 1) (Nat.succ_lt_succ hi) (Nat.succ_lt_succ hip)) (fun hh => h (Nat.succ_lt_succ hh))
    simp only [leaveIn, h0.1, h0.2, cond_false, ih]; rfl
theorem i_leaves (nm : ByteArray) (fr no st : Int) (xs : List D248) (n at' : Int) (hl : xs.length ≤ 4) (hs : Asc (fun z y => iLt z.2.1 y.2.1) xs) :
    F255 ((nm, (fr, (no, (st, (xs, ()))))), ((n, ()), ((at', ()), ()))) = some ((nm, (fr, (no, (st, (leaveIn n at' xs, ()))))), ()) := by
  have hl63 : L63 xs.length := by unfold L63; omega
  obtain ⟨p, hp, h1, h2⟩ := placeE (fun x => iLt x.2.1 at') xs
  have step : ∀ i (hi : i < xs.length), iEq xs[i].2.1 at' = false → F255.b0 ((nm, (fr, (no, (st, (xs, ()))))), ((n, ()), ((at', ()), ()))) ((i : Int), ()) = some (.inl (((i + 1 : Nat) : Int), ())) := fun i hi he => by
    unfold F255.b0
    exact lt_then (Int.ofNat_lt.2 hi) (bind_eq (getI_lt hi) (bind_eq (getN_nat hi) (no_then he (st1 (nxt hi hl63)))))
  unfold F255
  by_cases hh : ∃ h : p < xs.length, iEq xs[p].2.1 at' = true
  · obtain ⟨hpl, he⟩ := hh
    have lp := loopF_trace (f := F255.b0 ((nm, (fr, (no, (st, (xs, ()))))), ((n, ()), ((at', ()), ())))) (fun i => ((i : Int), ())) p (e := Sum.inr ((nm, (fr, (no, (st, (xs.set p (iAdd .i64 xs[p].1 n, xs[p].2), ()))))), ())) (fun i hi => step i (by omega) (lt_not (h1 i (by omega) hi)).1) (by
      unfold F255.b0
      exact lt_then (Int.ofNat_lt.2 hpl) (bind_eq (getI_lt hpl) (bind_eq (getN_nat hpl) (thenT he (bind_eq (getI_lt hpl) (bind_eq (getN_nat hpl) (bind_eq (getI_lt hpl) (bind_eq (getN_nat hpl) rfl))))))))
    rw [leave_hit n at' xs p hpl h1 he]
    exact bind_eq lp rfl
  · have hgt : ∀ i (hi : i < xs.length), p ≤ i → iLt at' xs[i].2.1 = true := fun i hi hpi => by
      have hpl : p < xs.length := by omega
      have e1 : iEq xs[p].2.1 at' = false := by
        cases hq : iEq xs[p].2.1 at' with
        | false => rfl
        | true => exact absurd ⟨hpl, hq⟩ hh
      have e2 := h2 hpl
      have e3 : p = i ∨ iLt xs[p].2.1 xs[i].2.1 = true := by
        rcases Nat.lt_or_ge p i with h | h
        · exact .inr (hs p i hpl hi h)
        · exact .inl (by omega)
      rcases e3 with rfl | e3
      · simp only [iLt, iEq, decide_eq_true_eq, decide_eq_false_iff_not] at *; omega
      · simp only [iLt, iEq, decide_eq_true_eq, decide_eq_false_iff_not] at *; omega
    have hne : ∀ i (hi : i < xs.length), iEq xs[i].2.1 at' = false := fun i hi => by
      rcases Nat.lt_or_ge i p with h | h
      · exact (lt_not (h1 i hi h)).1
      · have := hgt i hi h
        simp only [iLt, iEq, decide_eq_true_eq, decide_eq_false_iff_not] at *; omega
    have lp := loopF_trace (f := F255.b0 ((nm, (fr, (no, (st, (xs, ()))))), ((n, ()), ((at', ()), ())))) (fun i => ((i : Int), ())) xs.length (e := Sum.inl ((xs.length : Int), ())) (fun i hi => step i hi (hne i hi)) (by
      unfold F255.b0
      exact lt_else (Int.le_refl _) rfl)
    have lp2 := loopWhile (S := Int × Unit) xs (fun x => iLt x.2.1 at') (f := F255.b1 ((nm, (fr, (no, (st, (xs, ()))))), ((n, ()), ((at', ()), ())))) (fun k => (k, ())) (fun k => Sum.inl (k, ())) (fun i hi => by
      unfold F255.b1
      refine lt_then (Int.ofNat_lt.2 hi) (bind_eq (getI_lt hi) (bind_eq (getN_nat hi) ?_))
      rw [← nxt hi hl63]) (by
      unfold F255.b1
      exact lt_else (Int.le_refl _) rfl) hp h1 h2
    have hr : room (xs.length + 1) 16 = true := room_ok (by omega) (by decide) (by decide)
    rw [leave_new n at' xs p hp h1 (fun h => hgt p h (Nat.le_refl _))]
    refine bind_eq lp (bind_eq lp2 (bind_eq (y := ((hole xs p (n, (at', ())), ()), ())) ?_ rfl))
    unfold F258
    exact ins_one e248 16 xs (n, (at', ())) p hp hr

def newA (s : ByteArray) (n : Int) : D153 := (s, (n, (0, (0, ([], ())))))
theorem s_withHas (l : List D153) (s : ByteArray) (h : AcctL l) (ha : l.any (fun a => sEq a.1 s) = true) : F250 ((l, ()), ((s, ()), ())) = some ((l, ()), ()) := by
  unfold F250
  exact bind_eq (s_caccts l h) (bind_eq (s_acctAt l s h.1.l) (thenT (idxOf_any.trans ha) rfl))
theorem s_withNew (l : List D153) (s : ByteArray) (h : AcctL l) (ha : l.any (fun a => sEq a.1 s) = false) (p : Nat) (hp : p ≤ l.length) (h1 : ∀ i (hi : i < l.length), i < p → sLt l[i].1 s = true) (h2 : ∀ i (hi : i < l.length), p ≤ i → (!(sLt l[i].1 s || sEq l[i].1 s)) = true) :
    F250 ((l, ()), ((s, ()), ())) = some ((hole l p (newA s 0), ()), ()) := by
  have hl63 : L63 (l.length + 1) := by have := h.1; unfold L63; unfold W1 at this; omega
  let st : Nat → Int × (List D153 × Unit) := fun k => ((k : Int), (hole l k ((l[k]?).getD (newA ⟨#[]⟩ 0)), ()))
  have step : ∀ k (hk : k < l.length), p ≤ k → F250.b0 ((l, ()), ((s, ()), ())) (st (k + 1)) = some (.inl (st k)) := fun k hk hpk => by
    have e : iSub .i64 ((k + 1 : Nat) : Int) 1 = (k : Int) := sub1 (n := k + 1) (by omega) (by unfold L63 at *; omega)
    have g : (hole l (k + 1) ((l[k + 1]?).getD (newA ⟨#[]⟩ 0)))[k]? = some l[k] := by rw [hole_lo (by omega) (by omega), List.getElem?_eq_getElem hk]
    have gi : getI (hole l (k + 1) ((l[k + 1]?).getD (newA ⟨#[]⟩ 0))) (iSub .i64 ((k + 1 : Nat) : Int) 1) = some l[k] := by rw [e]; exact getI_of g
    have gn : getN (hole l (k + 1) ((l[k + 1]?).getD (newA ⟨#[]⟩ 0))) (Int.toNat (iSub .i64 ((k + 1 : Nat) : Int) 1)) = some l[k] := by rw [e]; exact getN_of g
    have ga := hole_at (l := l) (k := k + 1) (y := (l[k + 1]?).getD (newA ⟨#[]⟩ 0)) (by omega)
    unfold F250.b0
    refine lt_then (by show (0 : Int) < ((k + 1 : Nat) : Int); omega) (bind_eq gi (bind_eq gn (thenT (h2 k hk hpk) (bind_eq gi (bind_eq gn (bind_eq (getI_of ga) (bind_eq (getN_of ga) (bind_eq rfl (st2 e ?_)))))))))
    show List.set (hole l (k + 1) ((l[k + 1]?).getD (newA ⟨#[]⟩ 0))) (k + 1) l[k] = hole l k ((l[k]?).getD (newA ⟨#[]⟩ 0))
    rw [hole_set (by omega), hole_down hk, List.getElem?_eq_getElem hk]; rfl
  have fin : F250.b0 ((l, ()), ((s, ()), ())) (st p) = some (.inr (.inl (st p))) := by
    cases p with
    | zero => unfold F250.b0; exact lt_else (Int.le_refl _) rfl
    | succ k =>
      have hk : k < l.length := by omega
      have e : iSub .i64 ((k + 1 : Nat) : Int) 1 = (k : Int) := sub1 (n := k + 1) (by omega) (by unfold L63 at *; omega)
      have g : (hole l (k + 1) ((l[k + 1]?).getD (newA ⟨#[]⟩ 0)))[k]? = some l[k] := by rw [hole_lo (by omega) (by omega), List.getElem?_eq_getElem hk]
      have gi : getI (hole l (k + 1) ((l[k + 1]?).getD (newA ⟨#[]⟩ 0))) (iSub .i64 ((k + 1 : Nat) : Int) 1) = some l[k] := by rw [e]; exact getI_of g
      have gn : getN (hole l (k + 1) ((l[k + 1]?).getD (newA ⟨#[]⟩ 0))) (Int.toNat (iSub .i64 ((k + 1 : Nat) : Int) 1)) = some l[k] := by rw [e]; exact getN_of g
      unfold F250.b0
      exact lt_then (by show (0 : Int) < ((k + 1 : Nat) : Int); omega) (bind_eq gi (bind_eq gn (no_then (by rw [h1 k hk (by omega)]; rfl) rfl)))
  have lp := loopF_trace (f := F250.b0 ((l, ()), ((s, ()), ()))) (fun i => st (l.length - i)) (l.length - p) (e := Sum.inl (st p)) (fun i hi => by
    have := step (l.length - i - 1) (by omega) (by omega)
    rw [show l.length - i - 1 + 1 = l.length - i by omega] at this
    rw [this, show l.length - (i + 1) = l.length - i - 1 by omega]) (by
    rw [show l.length - (l.length - p) = p by omega]; exact fin)
  have h0 : (iSub .i64 (List.length (lapp l [newA ⟨#[]⟩ 0]) : Int) 1, (lapp l [newA ⟨#[]⟩ 0], ())) = st (l.length - 0) := by
    have e : iSub .i64 ((l.length + 1 : Nat) : Int) 1 = (l.length : Int) := sub1 (n := l.length + 1) (by omega) hl63
    have e2 : lapp l [newA ⟨#[]⟩ 0] = l ++ [newA ⟨#[]⟩ 0] := rfl
    rw [e2, List.length_append, List.length_singleton, e]
    show _ = ((l.length : Int), (hole l l.length ((l[l.length]?).getD (newA ⟨#[]⟩ 0)), ()))
    rw [List.getElem?_eq_none (Nat.le_refl _), hole_end]; rfl
  have lp2 : loopF (F250.b0 ((l, ()), ((s, ()), ()))) (iSub .i64 (List.length (lapp l [newA ⟨#[]⟩ 0]) : Int) 1, (lapp l [newA ⟨#[]⟩ 0], ())) = some (Sum.inl (st p)) := by rw [h0]; exact lp
  have ga := hole_at (l := l) (k := p) (y := (l[p]?).getD (newA ⟨#[]⟩ 0)) hp
  unfold F250
  refine bind_eq (s_caccts l h) (bind_eq (s_acctAt l s h.1.l) (no_then (idxOf_any.trans ha) (room_is (by show l.length + 1 ≤ 1048577; have := h.1; unfold W1 at this; omega) (by decide) (by decide) (bind_eq lp2 (bind_eq (getI_of ga) (bind_eq (getN_of ga) (bind_eq rfl ?_)))))))
  show some ((List.set (hole l p ((l[p]?).getD (newA ⟨#[]⟩ 0))) p (newA s 0), ()), ()) = _
  rw [hole_set hp]

def addF (a : D153) (n : Int) : D153 := (a.1, (iAdd .i64 a.2.1 n, a.2.2))
theorem i_creditHas (l : List D153) (s : ByteArray) (n : Int) (hl : L63 l.length) (j : Nat) (hj : j < l.length) (ha : accAt l s = (j : Int)) : F254 ((l, ()), ((s, ()), ((n, ()), ()))) = some ((l.set j (addF l[j] n), ()), ()) := by
  unfold F254
  exact bind_eq ((i_acctAt l s hl).trans (by rw [ha])) (thenT (by simp [iLe]) (bind_eq (getI_lt hj) (bind_eq (getN_nat hj) (bind_eq (getI_lt hj) (bind_eq (getN_nat hj) rfl)))))
theorem i_creditNew (l : List D153) (s : ByteArray) (n : Int) (h : AcctL l) (ha : l.any (fun a => sEq a.1 s) = false) (p : Nat) (hp : p ≤ l.length) (h1 : ∀ i (hi : i < l.length), i < p → sLt l[i].1 s = true) (h2 : ∀ hi : p < l.length, sLt l[p].1 s = false) : F254 ((l, ()), ((s, ()), ((n, ()), ()))) = some ((hole l p (newA s n), ()), ()) := by
  have hl63 : L63 l.length := h.1.l
  have hr : room (l.length + 1) 64 = true := room_ok (by have := h.1; unfold W1 at this; omega) (by decide) (by decide)
  have lp := loopWhile (S := Int × Unit) l (fun x => sLt x.1 s) (f := F254.b0 ((l, ()), ((s, ()), ((n, ()), ())))) (fun k => (k, ())) (fun k => Sum.inl (k, ())) (fun i hi => by
    unfold F254.b0
    refine lt_then (Int.ofNat_lt.2 hi) (bind_eq (getI_lt hi) (bind_eq (getN_nat hi) ?_))
    rw [← nxt hi hl63]) (by
    unfold F254.b0
    exact lt_else (Int.le_refl _) rfl) hp h1 h2
  unfold F254
  refine bind_eq (i_acctAt l s hl63) (no_then (idxOf_any.trans ha) (bind_eq lp (bind_eq (y := ((hole l p (newA s n), ()), ())) ?_ rfl)))
  unfold F257
  exact ins_one e153 64 l (newA s n) p hp hr

theorem acc_hole (l : List D153) (s : ByteArray) (p : Nat) (hp : p ≤ l.length) (h1 : ∀ i (hi : i < l.length), i < p → sLt l[i].1 s = true) (n : Int) : accAt (hole l p (newA s n)) s = (p : Int) := by
  have : (hole l p (newA s n)).findIdx? (fun a => sEq a.1 s) = some p := by
    rw [List.findIdx?_eq_some_iff_getElem]
    have hlen := hole_len (l := l) (k := p) (y := newA s n) hp
    refine ⟨by omega, ?_, fun j hj => ?_⟩
    · have h := hole_at (l := l) (k := p) (y := newA s n) hp
      rw [List.getElem?_eq_getElem (by omega)] at h
      rw [Option.some.inj h]
      exact sEq_self s
    · have h := hole_lo (l := l) (k := p) (y := newA s n) hp hj
      rw [List.getElem?_eq_getElem (by omega), List.getElem?_eq_getElem (by omega)] at h
      rw [Option.some.inj h, (ord_str).irr _ _ (h1 j (by omega) hj)]; decide
  unfold accAt idxOf
  rw [this]
theorem pay_both (l : List D153) (s : ByteArray) (n : Int) (h : AcctL l) (hs : Asc (fun z y => sLt z.1 y.1) l) (hn : -9223372036854775808 ≤ n ∧ n ≤ 9223372036854775807) :
    ∃ Y : List D153, ∃ k : Nat, ∃ hk : k < Y.length, F250 ((l, ()), ((s, ()), ())) = some ((Y, ()), ()) ∧ L63 Y.length ∧ accAt Y s = (k : Int) ∧ F254 ((l, ()), ((s, ()), ((n, ()), ()))) = some ((Y.set k (addF Y[k] n), ()), ()) ∧ ∀ a ∈ Y, a ∈ l ∨ a = newA s 0 := by
  rcases idxOf_cases l (fun a => sEq a.1 s) with ⟨ha, _, _⟩ | ⟨j, hj, _, _, ha, _, hi⟩
  · obtain ⟨p, hp, h1, h2⟩ := placeE (fun a => sLt a.1 s) l
    have hne : ∀ i (hi : i < l.length), sEq l[i].1 s = false := fun i hi => by
      rw [List.any_eq_false] at ha
      simpa using ha _ (List.getElem_mem hi)
    have hge : ∀ i (hi : i < l.length), p ≤ i → sLt l[i].1 s = false := fun i hi hpi => by
      have hpl : p < l.length := by omega
      have e1 := (ord_str).tot _ _ (h2 hpl) (hne p hpl)
      have e2 : sLt s l[i].1 = true := by
        rcases Nat.lt_or_ge p i with hlt | hlt
        · exact (ord_str).tr _ _ _ e1 (hs p i hpl hi hlt)
        · have : p = i := by omega
          subst this; exact e1
      have e3 := sLt_tri l[i].1 s
      rw [hne i hi, e2, Bool.or_false] at e3
      exact e3
    have hk : p < (hole l p (newA s 0)).length := by rw [hole_len hp]; omega
    have hY : (hole l p (newA s 0))[p] = newA s 0 := by
      have := hole_at (l := l) (k := p) (y := newA s 0) hp
      rw [List.getElem?_eq_getElem hk] at this
      exact Option.some.inj this
    refine ⟨hole l p (newA s 0), p, hk, s_withNew l s h ha p hp h1 (fun i hi hpi => by rw [hge i hi hpi, hne i hi]; rfl), by rw [hole_len hp]; have := h.1; unfold W1 at this; unfold L63; omega, acc_hole l s p hp h1 0, ?_, fun a ham => ?_⟩
    · rw [i_creditNew l s n h ha p hp h1 h2, hY, hole_set hp]
      have : iAdd .i64 0 n = n := (iAdd_small (by omega) (by omega)).trans (by omega)
      unfold addF newA
      rw [this]
    · unfold hole at ham
      rcases List.mem_append.1 ham with h5 | h5
      · exact .inl (List.mem_of_mem_take h5)
      · rcases List.mem_cons.1 h5 with h5 | h5
        · exact .inr h5
        · exact .inl (List.mem_of_mem_drop h5)
  · exact ⟨l, j, hj, s_withHas l s h ha, h.1.l, hi, i_creditHas l s n h.1.l j hj hi, fun a ham => .inl ham⟩

theorem asc_set {l : List D153} (h : Asc (fun z y => sLt z.1 y.1) l) {j : Nat} (hj : j < l.length) {a : D153} (ha : a.1 = l[j].1) : Asc (fun z y => sLt z.1 y.1) (l.set j a) := by
  have key : ∀ i (hi : i < (l.set j a).length), (l.set j a)[i].1 = (l[i]'(by simpa using hi)).1 := fun i hi => by
    rw [List.getElem_set]
    by_cases hij : j = i
    · subst hij; rw [if_pos rfl, ha]
    · rw [if_neg hij]
  intro i k hi hk hik
  show sLt (l.set j a)[i].1 (l.set j a)[k].1 = true
  rw [key i hi, key k hk]
  exact h i k _ _ hik
theorem ok_set {es : Tys} {l : List es.D} (h : (Ty.sl es).Ok l) {j : Nat} {a : es.D} (ha : es.Ok a) : (Ty.sl es).Ok (l.set j a) :=
  Ok_of (by rw [List.length_set]; exact h.1) (fun y hy => by
    rcases List.mem_or_eq_of_mem_set hy with h1 | rfl
    · exact Ok_mem h.2 h1
    · exact ha)
theorem acctl_set {l : List D153} (h : AcctL l) {j : Nat} {a : D153} (ha : W1 (List.length a.2.2.2.2.1)) : AcctL (l.set j a) :=
  ⟨by rw [List.length_set]; exact h.1, fun y hy => by
    rcases List.mem_or_eq_of_mem_set hy with h1 | rfl
    · exact h.2 y h1
    · exact ha⟩
theorem leaveIn_ok (n at' : Int) (hn : (Lit.int .i64 n).wf = true) (ha : (Lit.int .i64 at').wf = true) : ∀ xs : List D248, (∀ y ∈ xs, e248.Ok y) → ∀ y ∈ leaveIn n at' xs, e248.Ok y
  | [], _, y, hy => by
    simp only [leaveIn, List.mem_singleton] at hy
    subst hy
    exact ⟨hn, ha, trivial⟩
  | x :: r, h, y, hy => by
    have hx := h x (List.mem_cons_self ..)
    simp only [leaveIn] at hy
    cases h1 : iEq x.2.1 at' with
    | true =>
      rw [h1] at hy
      rcases List.mem_cons.1 hy with rfl | hy
      · exact ⟨okAdd .i64 _, hx.2.1, trivial⟩
      · exact h y (List.mem_cons_of_mem _ hy)
    | false =>
      cases h2 : iLt at' x.2.1 with
      | true =>
        rw [h1, h2] at hy
        rcases List.mem_cons.1 hy with rfl | hy
        · exact ⟨hn, ha, trivial⟩
        · exact h y hy
      | false =>
        rw [h1, h2] at hy
        rcases List.mem_cons.1 hy with rfl | hy
        · exact hx
        · exact leaveIn_ok n at' hn ha r (fun z hz => h z (List.mem_cons_of_mem _ hz)) y hy
theorem leaveIn_len (n at' : Int) : ∀ xs : List D248, (leaveIn n at' xs).length ≤ xs.length + 1
  | [] => Nat.le_refl _
  | x :: r => by
    have := leaveIn_len n at' r
    simp only [leaveIn]
    cases iEq x.2.1 at' <;> cases iLt at' x.2.1 <;> simp only [cond_true, cond_false, List.length_cons] <;> omega
theorem ledger_len {x : DLe} (h : ledgerB x = true) : x.2.1.length ≤ 12 ∧ (∀ a ∈ x.2.1, List.length a.2.2.2.2.1 ≤ 4 ∧ Asc (fun z y => iLt z.2.1 y.2.1) a.2.2.2.2.1) ∧ Asc (fun z y => sLt z.1 y.1) x.2.1 := by
  unfold ledgerB acctsB at h
  simp only [Bool.and_eq_true] at h
  obtain ⟨_, h1, h2, _⟩ := h
  have hA : ∀ i (hi : i < x.2.1.length), acctB x.2.1[i] = true ∧ behind (fun z y => sLt z.1 y.1) x.2.1 i x.2.1[i] = true := fun i hi => by
    have := allI_get h1 i hi
    rw [Nat.zero_add] at this
    unfold acctP at this
    simpa only [Bool.and_eq_true] using this
  refine ⟨by simp only [iLe, decide_eq_true_eq] at h2; omega, fun a ha => ?_, asc_of (lt := fun (z y : D153) => sLt z.1 y.1) (fun a b c => (ord_str).tr a.1 b.1 c.1) (fun i hi => (hA i hi).2)⟩
  obtain ⟨i, hi, rfl⟩ := List.getElem_of_mem ha
  have := (hA i hi).1
  unfold acctB at this
  simp only [Bool.and_eq_true] at this
  obtain ⟨_, _, _, _, h5, h6⟩ := this
  refine ⟨by simp only [iLe, decide_eq_true_eq] at h5; omega, asc_of (lt := fun (z y : D248) => iLt z.2.1 y.2.1) (fun a b c => (ord_int).tr a.2.1 b.2.1 c.2.1) (fun k hk => ?_)⟩
  unfold leavesB at h6
  have := allI_get h6 k hk
  rw [Nat.zero_add] at this
  unfold leafP at this
  simp only [Bool.and_eq_true] at this
  exact this.2.2
theorem ledger_acctL {x : DLe} (h : ledgerB x = true) : AcctL x.2.1 := ⟨by have := (ledger_len h).1; unfold W1; omega, fun a ha => by have := ((ledger_len h).2.1 a ha).1; unfold W1; omega⟩
theorem do_both (L : DLe) (t : D195) (j : Nat) (hj : j < L.2.1.length) (hOk : (Ty.sl e153).Ok L.2.1) (hL : ledgerB L = true) (ht : e195.Ok t) (htx : txB t = true) :
    ∃ R : DLe, F240 (L, (t, (((j : Int), ()), ()))) = some (R, ()) ∧ F244 (L, (((j : Int), ()), (t, ()))) = some (R, ()) ∧ (Ty.sl e153).Ok R.2.1 := by
  obtain ⟨ep, xs, ⟨⟩⟩ := L
  simp only at hj hOk
  obtain ⟨hlen, hlv, hasc⟩ := ledger_len hL
  have hAL := ledger_acctL hL
  simp only at hlen hlv hasc hAL
  have hl63 : L63 xs.length := by unfold L63; omega
  have hA := Ok_mem hOk.2 (List.getElem_mem hj)
  have hLv := hlv _ (List.getElem_mem hj)
  have hWl := hAL.2 _ (List.getElem_mem hj)
  have e0 : (xs[j] : D153) = xs[j] := rfl
  generalize ha : xs[j] = a at hA hLv hWl
  obtain ⟨nm, fr, no, st, lv, ⟨⟩⟩ := a
  let a1 : D153 := (nm, (fr, (iAdd .i64 no 1, (st, (lv, ())))))
  have hOk1 : (Ty.sl e153).Ok (xs.set j a1) := ok_set hOk ⟨hA.1, hA.2.1, okAdd .i64 _, hA.2.2.2.1, hA.2.2.2.2.1, trivial⟩
  have hAsc1 : Asc (fun z y => sLt z.1 y.1) (xs.set j a1) := asc_set hasc hj (by rw [ha])
  have hAL1 : AcctL (xs.set j a1) := acctl_set hAL hWl
  have hj1 : j < (xs.set j a1).length := by rw [List.length_set]; exact hj
  have gi : getI xs (j : Int) = some (nm, (fr, (no, (st, (lv, ()))))) := by rw [getI_lt hj, ha]
  have gn : getN xs (Int.toNat (j : Int)) = some (nm, (fr, (no, (st, (lv, ()))))) := by rw [getN_nat hj, ha]
  have g1 : getN (List.set xs (Int.toNat (j : Int)) a1) (Int.toNat (j : Int)) = some a1 := getN_set hj
  cases h1 : iEq t.1 1 with
  | true =>
    let a2 : D153 := (nm, (iSub .i64 fr t.2.2.2.1, (iAdd .i64 no 1, (st, (lv, ())))))
    have hOk2 : (Ty.sl e153).Ok ((xs.set j a1).set j a2) := ok_set hOk1 ⟨hA.1, okAdd .i64 _, okAdd .i64 _, hA.2.2.2.1, hA.2.2.2.2.1, trivial⟩
    have hAsc2 : Asc (fun z y => sLt z.1 y.1) ((xs.set j a1).set j a2) := asc_set hAsc1 hj1 (by simp [a1, a2])
    have hAL2 : AcctL ((xs.set j a1).set j a2) := acctl_set hAL1 hWl
    obtain ⟨Y, k, hk, hw, hYl, hat, hcr, hmem⟩ := pay_both ((xs.set j a1).set j a2) t.2.2.1 t.2.2.2.1 hAL2 hAsc2 (wfR ht.2.2.2.1)
    have hYok : (Ty.sl e153).Ok Y := Ok_of hYl (fun y hy => by
      rcases hmem y hy with h | rfl
      · exact Ok_mem hOk2.2 h
      · exact ⟨ht.2.2.1, rfl, rfl, rfl, Ok_nil, trivial⟩)
    have hYk := Ok_mem hYok.2 (List.getElem_mem hk)
    refine ⟨(ep, (Y.set k (addF Y[k] t.2.2.2.1), ())), ?_, ?_, ok_set hYok ⟨hYk.1, okAdd .i64 _, hYk.2.2⟩⟩
    · unfold F240
      exact bind_eq (s_cledger (ep, (xs, ())) hAL) (bind_eq gi (bind_eq gn (bind_eq gn (bind_eq rfl (bind_eq (y := Sum.inl (Y.set k (addF Y[k] t.2.2.2.1), ())) (thenT h1 (bind_eq g1 (bind_eq g1 (bind_eq rfl (bind_eq hw (bind_eq ((s_acctAt Y _ hYl).trans (by rw [hat])) (bind_eq (getI_lt hk) (bind_eq (getN_nat hk) (bind_eq (getI_lt hk) (bind_eq (getN_nat hk) (bind_eq rfl rfl))))))))))) rfl)))))
    · unfold F244
      exact bind_eq gi (bind_eq gn (bind_eq gn (bind_eq rfl (bind_eq (y := Sum.inl (Y.set k (addF Y[k] t.2.2.2.1), ())) (thenT h1 (bind_eq g1 (bind_eq g1 (bind_eq rfl (bind_eq hcr rfl))))) rfl))))
  | false =>
    cases h2 : iEq t.1 2 with
    | true =>
      let a2 : D153 := (nm, (iSub .i64 fr t.2.2.2.1, (iAdd .i64 no 1, (st, (lv, ())))))
      let a3 : D153 := (nm, (iSub .i64 fr t.2.2.2.1, (iAdd .i64 no 1, (iAdd .i64 st t.2.2.2.1, (lv, ())))))
      have g2 : getN (List.set (List.set xs (Int.toNat (j : Int)) a1) (Int.toNat (j : Int)) a2) (Int.toNat (j : Int)) = some a2 := getN_set hj1
      have hOk2 : (Ty.sl e153).Ok ((xs.set j a1).set j a2) := ok_set hOk1 ⟨hA.1, okAdd .i64 _, okAdd .i64 _, hA.2.2.2.1, hA.2.2.2.2.1, trivial⟩
      have hOk3 : (Ty.sl e153).Ok (((xs.set j a1).set j a2).set j a3) := ok_set hOk2 ⟨hA.1, okAdd .i64 _, okAdd .i64 _, okAdd .i64 _, hA.2.2.2.2.1, trivial⟩
      refine ⟨(ep, (((xs.set j a1).set j a2).set j a3, ())), ?_, ?_, hOk3⟩
      · unfold F240
        exact bind_eq (s_cledger (ep, (xs, ())) hAL) (bind_eq gi (bind_eq gn (bind_eq gn (bind_eq rfl (bind_eq (y := Sum.inl (((xs.set j a1).set j a2).set j a3, ())) (no_then h1 (thenT h2 (bind_eq g1 (bind_eq g1 (bind_eq rfl (bind_eq g2 (bind_eq g2 (bind_eq rfl rfl)))))))) rfl)))))
      · unfold F244
        exact bind_eq gi (bind_eq gn (bind_eq gn (bind_eq rfl (bind_eq (y := Sum.inl (((xs.set j a1).set j a2).set j a3, ())) (no_then h1 (thenT h2 (bind_eq g1 (bind_eq g1 (bind_eq rfl (bind_eq g2 (bind_eq g2 (bind_eq rfl rfl)))))))) rfl))))
    | false =>
      have h3 : iEq t.1 3 = true := by
        unfold txB at htx
        rw [h1] at htx
        simp only [Bool.and_eq_true, cond_false, inR, iLe, decide_eq_true_eq] at htx
        simp only [iEq, decide_eq_true_eq, decide_eq_false_iff_not] at h1 h2 ⊢
        omega
      let lv2 := leaveIn t.2.2.2.1 (iAdd .i64 ep 2) lv
      let a2 : D153 := (nm, (fr, (iAdd .i64 no 1, (iSub .i64 st t.2.2.2.1, (lv, ())))))
      let a3 : D153 := (nm, (fr, (iAdd .i64 no 1, (iSub .i64 st t.2.2.2.1, (lv2, ())))))
      have g2 : getN (List.set (List.set xs (Int.toNat (j : Int)) a1) (Int.toNat (j : Int)) a2) (Int.toNat (j : Int)) = some a2 := getN_set hj1
      have hlv2 : (Ty.sl e248).Ok lv2 := Ok_of (by have := leaveIn_len t.2.2.2.1 (iAdd .i64 ep 2) lv; have := hLv.1; simp only at this; show List.length (leaveIn _ _ _) ≤ _; omega) (leaveIn_ok _ _ ht.2.2.2.1 (okAdd .i64 _) lv (fun y hy => Ok_mem hA.2.2.2.2.1.2 hy))
      have hOk2 : (Ty.sl e153).Ok ((xs.set j a1).set j a2) := ok_set hOk1 ⟨hA.1, hA.2.1, okAdd .i64 _, okAdd .i64 _, hA.2.2.2.2.1, trivial⟩
      have hOk3 : (Ty.sl e153).Ok (((xs.set j a1).set j a2).set j a3) := ok_set hOk2 ⟨hA.1, hA.2.1, okAdd .i64 _, okAdd .i64 _, hlv2, trivial⟩
      refine ⟨(ep, (((xs.set j a1).set j a2).set j a3, ())), ?_, ?_, hOk3⟩
      · unfold F240
        exact bind_eq (s_cledger (ep, (xs, ())) hAL) (bind_eq gi (bind_eq gn (bind_eq gn (bind_eq rfl (bind_eq (y := Sum.inl (((xs.set j a1).set j a2).set j a3, ())) (no_then h1 (no_then h2 (bind_eq g1 (bind_eq g1 (bind_eq rfl (bind_eq g2 (bind_eq (s_leave lv t.2.2.2.1 (iAdd .i64 ep 2) hLv.1) (bind_eq g2 (bind_eq rfl rfl))))))))) rfl)))))
      · unfold F244
        exact bind_eq gi (bind_eq gn (bind_eq gn (bind_eq rfl (bind_eq (y := Sum.inl (((xs.set j a1).set j a2).set j a3, ())) (no_then h1 (no_then h2 (thenT h3 (bind_eq g1 (bind_eq g1 (bind_eq rfl (bind_eq g2 (bind_eq (i_leaves nm fr (iAdd .i64 no 1) (iSub .i64 st t.2.2.2.1) lv t.2.2.2.1 (iAdd .i64 ep 2) hLv.1 hLv.2) (bind_eq rfl rfl))))))))) rfl))))

def hasV (t : D195) (a : D153) : Int := bif iEq t.1 3 then a.2.2.2.1 else a.2.1
theorem i_hasV (t : D195) (a : D153) : F243 (a, ((t.1, ()), ())) = some (I1 (hasV t a)) := by
  unfold F243 hasV
  show (bif iEq t.1 3 then _ else _) = _
  cases iEq t.1 3 <;> rfl
theorem s_hasV (t : D195) (a : D153) {R : Type} : (bif iEq t.1 3 then some (Sum.inl (a.2.2.2.1, ())) else some (Sum.inl (a.2.1, ()))) = some (Sum.inl (hasV t a, ()) : Sum (Int × Unit) R) := by
  unfold hasV
  cases iEq t.1 3 <;> rfl
theorem iEq_sw (a b : Int) : iEq a b = iEq b a := by
  unfold iEq
  by_cases h : a = b
  · rw [h]
  · rw [decide_eq_false h, decide_eq_false (fun e => h e.symm)]
theorem apply_both (L : DLe) (t : D195) (hOk : (Ty.sl e153).Ok L.2.1) (hAL : AcctL L.2.1) (ht : e195.Ok t) :
    ∃ (R : DLe) (c : Int), F223 (L, (t, ())) = some (R, ((c, ()), ())) ∧ F224 (L, (t, ())) = some (R, ((c, ()), ())) ∧ (Ty.sl e153).Ok R.2.1 ∧ AcctL R.2.1 ∧ (iEq c 0 = false → R = L) := by
  have hl63 := hAL.1.l
  have sc := s_cledger L hAL
  have ic := i_cledger L hAL
  have sa := s_acctAt L.2.1 t.2.1 hl63
  have ia := i_acctAt L.2.1 t.2.1 hl63
  have sl := s_ledger L hOk
  have il := i_ledger L hOk
  have sx := s_tx t ⟨ht.2.1, ht.2.2.1⟩
  have ix := i_tx t ⟨ht.2.1, ht.2.2.1⟩
  cases hq : ledgerB L with
  | false =>
    rw [hq] at sl il
    refine ⟨L, 1, ?_, ?_, hOk, hAL, fun _ => rfl⟩
    · unfold F223; exact bind_eq sc (bind_eq sl (thenT rfl rfl))
    · unfold F224; exact bind_eq ia (bind_eq il (thenT rfl (bind_eq ic rfl)))
  | true =>
    rw [hq] at sl il
    cases htx : txB t with
    | false =>
      rw [htx] at sx ix
      refine ⟨L, 1, ?_, ?_, hOk, hAL, fun _ => rfl⟩
      · unfold F223; exact bind_eq sc (bind_eq sl (no_then rfl (bind_eq sx (thenT rfl rfl))))
      · unfold F224; exact bind_eq ia (bind_eq il (no_then rfl (bind_eq ix (thenT rfl (bind_eq ic rfl)))))
    | true =>
      rw [htx] at sx ix
      rcases idxOf_cases L.2.1 (fun a => sEq a.1 t.2.1) with ⟨_, _, hi⟩ | ⟨j, hj, _, _, _, _, hi⟩
      · have hi : accAt L.2.1 t.2.1 = -1 := hi
        rw [hi] at sa ia
        refine ⟨L, 2, ?_, ?_, hOk, hAL, fun _ => rfl⟩
        · unfold F223; exact bind_eq sc (bind_eq sl (no_then rfl (bind_eq sx (no_then rfl (bind_eq sa (thenT rfl rfl))))))
        · unfold F224; exact bind_eq ia (bind_eq il (no_then rfl (bind_eq ix (no_then rfl (thenT rfl (bind_eq ic rfl))))))
      · have hi : accAt L.2.1 t.2.1 = (j : Int) := hi
        rw [hi] at sa ia
        have hj0 : iLt (j : Int) 0 = false := iLt_false (Int.natCast_nonneg j)
        cases hn : iEq (L.2.1[j]).2.2.1 t.2.2.2.2.1 with
        | false =>
          refine ⟨L, 3, ?_, ?_, hOk, hAL, fun _ => rfl⟩
          · unfold F223; exact bind_eq sc (bind_eq sl (no_then rfl (bind_eq sx (no_then rfl (bind_eq sa (no_then hj0 (bind_eq (getI_lt hj) (bind_eq (s_hasV t _) (thenT (by rw [hn]; rfl) rfl)))))))))
          · unfold F224; exact bind_eq ia (bind_eq il (no_then rfl (bind_eq ix (no_then rfl (no_then hj0 (bind_eq (getI_lt hj) (thenT (by rw [iEq_sw, hn]; rfl) (bind_eq ic rfl))))))))
        | true =>
          cases hh : iLt (hasV t L.2.1[j]) t.2.2.2.1 with
          | true =>
            refine ⟨L, 4, ?_, ?_, hOk, hAL, fun _ => rfl⟩
            · unfold F223; exact bind_eq sc (bind_eq sl (no_then rfl (bind_eq sx (no_then rfl (bind_eq sa (no_then hj0 (bind_eq (getI_lt hj) (bind_eq (s_hasV t _) (no_then (by rw [hn]; rfl) (thenT hh rfl))))))))))
            · unfold F224; exact bind_eq ia (bind_eq il (no_then rfl (bind_eq ix (no_then rfl (no_then hj0 (bind_eq (getI_lt hj) (no_then (by rw [iEq_sw, hn]; rfl) (bind_eq (getI_lt hj) (bind_eq (i_hasV t _) (thenT hh (bind_eq ic rfl)))))))))))
          | false =>
            obtain ⟨R, d1, d2, d3⟩ := do_both L t j hj hOk hq ht htx
            have sl2 := s_ledger R d3
            have il2 := i_ledger R d3
            cases hR : ledgerB R with
            | false =>
              rw [hR] at sl2 il2
              refine ⟨L, 5, ?_, ?_, hOk, hAL, fun _ => rfl⟩
              · unfold F223; exact bind_eq sc (bind_eq sl (no_then rfl (bind_eq sx (no_then rfl (bind_eq sa (no_then hj0 (bind_eq (getI_lt hj) (bind_eq (s_hasV t _) (no_then (by rw [hn]; rfl) (no_then hh (bind_eq d1 (bind_eq sl2 (thenT rfl rfl)))))))))))))
              · unfold F224; exact bind_eq ia (bind_eq il (no_then rfl (bind_eq ix (no_then rfl (no_then hj0 (bind_eq (getI_lt hj) (no_then (by rw [iEq_sw, hn]; rfl) (bind_eq (getI_lt hj) (bind_eq (i_hasV t _) (no_then hh (bind_eq ic (bind_eq d2 (bind_eq il2 (thenT rfl (bind_eq ic rfl)))))))))))))))
            | true =>
              rw [hR] at sl2 il2
              refine ⟨R, 0, ?_, ?_, d3, ledger_acctL hR, fun h => by simp [iEq] at h⟩
              · unfold F223; exact bind_eq sc (bind_eq sl (no_then rfl (bind_eq sx (no_then rfl (bind_eq sa (no_then hj0 (bind_eq (getI_lt hj) (bind_eq (s_hasV t _) (no_then (by rw [hn]; rfl) (no_then hh (bind_eq d1 (bind_eq sl2 (no_then rfl rfl)))))))))))))
              · unfold F224; exact bind_eq ia (bind_eq il (no_then rfl (bind_eq ix (no_then rfl (no_then hj0 (bind_eq (getI_lt hj) (no_then (by rw [iEq_sw, hn]; rfl) (bind_eq (getI_lt hj) (bind_eq (i_hasV t _) (no_then hh (bind_eq ic (bind_eq d2 (bind_eq il2 (no_then rfl rfl))))))))))))))

noncomputable def applyR (L : DLe) (t : D195) : DLe × Int := match F223 (L, (t, ())) with
  | some (R, ((c, ()), ())) => (R, c)
  | none => (L, 0)
theorem applyR_eq (L : DLe) (t : D195) (hOk : (Ty.sl e153).Ok L.2.1) (hAL : AcctL L.2.1) (ht : e195.Ok t) :
    F223 (L, (t, ())) = some ((applyR L t).1, (((applyR L t).2, ()), ())) ∧ F224 (L, (t, ())) = some ((applyR L t).1, (((applyR L t).2, ()), ())) ∧ (Ty.sl e153).Ok (applyR L t).1.2.1 ∧ AcctL (applyR L t).1.2.1 ∧ (iEq (applyR L t).2 0 = false → (applyR L t).1 = L) := by
  obtain ⟨R, c, h1, h2, h3, h4, h5⟩ := apply_both L t hOk hAL ht
  have : applyR L t = (R, c) := by unfold applyR; rw [h1]
  rw [this]
  exact ⟨h1, h2, h3, h4, h5⟩
noncomputable def allStep (s : Int × DLe) (t : D195) : Int × DLe := (bif iEq (applyR s.2 t).2 0 then iAdd .i64 s.1 1 else s.1, (applyR s.2 t).1)
noncomputable def allR (L : DLe) (ts : List D195) : Int × DLe := ts.foldl allStep (0, L)
theorem all_both (L : DLe) (ts : List D195) (hOk : (Ty.sl e153).Ok L.2.1) (hAL : AcctL L.2.1) (ht : (Ty.sl e195).Ok ts) :
    F195 (L, ((ts, ()), ())) = some ((allR L ts).2, (((allR L ts).1, ()), ())) ∧ F198 (L, ((ts, ()), ())) = some ((allR L ts).2, (((allR L ts).1, ()), ())) ∧ (Ty.sl e153).Ok (allR L ts).2.2.1 ∧ AcctL (allR L ts).2.2.1 := by
  have hl63 : L63 ts.length := ht.1
  have sp := loopFold (S := Int × (Int × (Int × (List D153 × Unit)))) ts allStep (fun _ s => (Ty.sl e153).Ok s.2.2.1 ∧ AcctL s.2.2.1) (f := F195.b0 (L, ((ts, ()), ()))) (fun s k => (s.1, (k, (s.2.1, (s.2.2.1, ()))))) (fun s => Sum.inl (s.1, ((ts.length : Int), (s.2.1, (s.2.2.1, ()))))) (0, L) ⟨hOk, hAL⟩ (fun i hi s hI => by
    obtain ⟨h1, h2, h3, h4, h5⟩ := applyR_eq s.2 ts[i] hI.1 hI.2 (Ok_mem ht.2 (List.getElem_mem hi))
    refine ⟨?_, h3, h4⟩
    unfold F195.b0 allStep
    refine lt_then (Int.ofNat_lt.2 hi) (bind_eq (getI_lt hi) (bind_eq h1 ?_))
    rw [← nxt hi hl63]
    cases hc : iEq (applyR s.2 ts[i]).2 0 with
    | true => rfl
    | false => rw [h5 hc]; rfl) (fun s _ => by
    unfold F195.b0
    exact lt_else (Int.le_refl _) rfl)
  have ip := loopFold (S := Int × (Int × (Int × (List D153 × Unit)))) ts allStep (fun _ s => (Ty.sl e153).Ok s.2.2.1 ∧ AcctL s.2.2.1) (f := F198.b0 (L, ((ts, ()), ()))) (fun s k => (s.1, (k, (s.2.1, (s.2.2.1, ()))))) (fun s => Sum.inl (s.1, ((ts.length : Int), (s.2.1, (s.2.2.1, ()))))) (0, L) ⟨hOk, hAL⟩ (fun i hi s hI => by
    obtain ⟨h1, h2, h3, h4, h5⟩ := applyR_eq s.2 ts[i] hI.1 hI.2 (Ok_mem ht.2 (List.getElem_mem hi))
    refine ⟨?_, h3, h4⟩
    unfold F198.b0 allStep
    refine lt_then (Int.ofNat_lt.2 hi) (bind_eq (getI_lt hi) (bind_eq h2 ?_))
    rw [← nxt hi hl63]
    cases hc : iEq (applyR s.2 ts[i]).2 0 with
    | true => rfl
    | false => rfl) (fun s _ => by
    unfold F198.b0
    exact lt_else (Int.le_refl _) rfl)
  refine ⟨?_, ?_, sp.2.1, sp.2.2⟩
  · unfold F195
    exact bind_eq (s_cledger L hAL) (bind_eq sp.1 rfl)
  · unfold F198
    exact bind_eq (i_cledger L hAL) (bind_eq ip.1 rfl)

/-- An account in the next epoch. -/
def epStep (e : Int) (s : List D248 × Int) (x : D248) : List D248 × Int := bif iLe x.2.1 e then (s.1, iAdd .i64 s.2 x.1) else (s.1 ++ [x], s.2)
def epFold (e : Int) (a : D153) : List D248 × Int := a.2.2.2.2.1.foldl (epStep e) ([], a.2.1)
def epAcct (e : Int) (a : D153) : D153 := (a.1, ((epFold e a).2, (a.2.2.1, (a.2.2.2.1, ((epFold e a).1, ())))))
theorem epFold_inv (e : Int) : ∀ (xs : List D248) (s : List D248 × Int), (Lit.int .i64 s.2).wf = true → (∀ y ∈ s.1, e248.Ok y) → (∀ y ∈ xs, e248.Ok y) →
    (Lit.int .i64 (xs.foldl (epStep e) s).2).wf = true ∧ (∀ y ∈ (xs.foldl (epStep e) s).1, e248.Ok y) ∧ (xs.foldl (epStep e) s).1.length ≤ s.1.length + xs.length
  | [], s, h1, h2, _ => ⟨h1, h2, Nat.le_refl _⟩
  | x :: r, s, h1, h2, h3 => by
    have hx := h3 x (List.mem_cons_self ..)
    have hr := fun y hy => h3 y (List.mem_cons_of_mem _ hy)
    simp only [List.foldl_cons, List.length_cons]
    cases hc : iLe x.2.1 e with
    | true =>
      have : epStep e s x = (s.1, iAdd .i64 s.2 x.1) := by unfold epStep; rw [hc]; rfl
      rw [this]
      have ih := epFold_inv e r (s.1, iAdd .i64 s.2 x.1) (okAdd .i64 _) h2 hr
      exact ⟨ih.1, ih.2.1, by have := ih.2.2; simp only at this ⊢; omega⟩
    | false =>
      have : epStep e s x = (s.1 ++ [x], s.2) := by unfold epStep; rw [hc]; rfl
      rw [this]
      have ih := epFold_inv e r (s.1 ++ [x], s.2) h1 (fun y hy => by
        rcases List.mem_append.1 hy with h | h
        · exact h2 y h
        · rw [List.mem_singleton.1 h]; exact hx) hr
      exact ⟨ih.1, ih.2.1, by have := ih.2.2; simp only [List.length_append, List.length_singleton] at this ⊢; omega⟩
theorem epAcct_ok (e : Int) (a : D153) (h : e153.Ok a) : e153.Ok (epAcct e a) := by
  have hi := epFold_inv e a.2.2.2.2.1 ([], a.2.1) h.2.1 (fun y hy => by cases hy) (fun y hy => Ok_mem h.2.2.2.2.1.2 hy)
  have h9 : (a.2.2.2.2.1.foldl (epStep e) ([], a.2.1)).1.length ≤ List.length a.2.2.2.2.1 := by simpa using hi.2.2
  exact ⟨h.1, hi.1, h.2.2.1, h.2.2.2.1, Ok_of (Nat.le_trans h9 h.2.2.2.2.1.1) hi.2.1, trivial⟩
theorem epAcct_len (e : Int) (a : D153) : List.length (epAcct e a).2.2.2.2.1 ≤ List.length a.2.2.2.2.1 := by
  have key : ∀ (xs : List D248) (s : List D248 × Int), (xs.foldl (epStep e) s).1.length ≤ s.1.length + xs.length := by
    intro xs
    induction xs with
    | nil => intro s; exact Nat.le_refl _
    | cons x r ih =>
      intro s
      have := ih (epStep e s x)
      have h2 : (epStep e s x).1.length ≤ s.1.length + 1 := by
        unfold epStep
        cases iLe x.2.1 e <;> simp only [cond_true, cond_false, List.length_append, List.length_singleton] <;> omega
      simp only [List.foldl_cons, List.length_cons]
      omega
  have h9 : (a.2.2.2.2.1.foldl (epStep e) ([], a.2.1)).1.length ≤ List.length a.2.2.2.2.1 := by simpa using key a.2.2.2.2.1 ([], a.2.1)
  exact h9
/-- What a loop over accounts has done at a place. -/
def upTo (g : D153 → D153) (xs : List D153) (k : Nat) : List D153 := (xs.take k).map g ++ xs.drop k
theorem upTo_len (g : D153 → D153) (xs : List D153) (k : Nat) (h : k ≤ xs.length) : (upTo g xs k).length = xs.length := by
  unfold upTo; rw [List.length_append, List.length_map, List.length_take, List.length_drop]; omega
theorem upTo_get (g : D153 → D153) {xs : List D153} {k : Nat} (h : k < xs.length) : (upTo g xs k)[k]? = some xs[k] := by
  unfold upTo
  rw [List.getElem?_append_right (by rw [List.length_map, List.length_take]; omega), List.length_map, List.length_take, List.getElem?_drop]
  rw [show k + (k - min k xs.length) = k by omega, List.getElem?_eq_getElem h]
theorem upTo_set (g : D153 → D153) {xs : List D153} {k : Nat} (h : k < xs.length) : (upTo g xs k).set k (g xs[k]) = upTo g xs (k + 1) := by
  unfold upTo
  rw [List.set_append_right _ _ (by rw [List.length_map, List.length_take]; omega), List.length_map, List.length_take, show k - min k xs.length = 0 by omega, List.drop_eq_getElem_cons h, List.set_cons_zero, List.take_succ_eq_append_getElem h, List.map_append, List.append_assoc]
  rfl

theorem st3 {A B C F : Type} {a a' : A} {b b' : B} {c c' : C} (h1 : a = a') (h2 : b = b') (h3 : c = c') : (some (Sum.inl (a, (b, (c, ())))) : Option (Sum (A × (B × (C × Unit))) F)) = some (Sum.inl (a', (b', (c', ())))) := by rw [h1, h2, h3]
theorem s_epIn (L : DLe) (l0 : List D153) (j : Nat) (hj : j < l0.length) (h4 : List.length (l0[j]).2.2.2.2.1 ≤ 4) :
    loopF (F196.b1 ((j : Int), (l0, ())) (L, ())) ([], ((0 : Int), (l0, ()))) = some (Sum.inl ((epFold (iAdd .i64 L.1 1) l0[j]).1, ((List.length (l0[j]).2.2.2.2.1 : Int), (l0.set j ((l0[j]).1, ((epFold (iAdd .i64 L.1 1) l0[j]).2, (l0[j]).2.2)), ())))) := by
  have hl63 : L63 (List.length (l0[j]).2.2.2.2.1) := by unfold L63; omega
  have hself : l0.set j ((l0[j]).1, ((l0[j]).2.1, (l0[j]).2.2)) = l0 := List.set_getElem_self hj
  have g : ∀ s : Int, getN (l0.set j ((l0[j]).1, (s, (l0[j]).2.2))) (Int.toNat (j : Int)) = some ((l0[j]).1, (s, (l0[j]).2.2)) := fun s => getN_set hj
  have lp := (loopFold (S := List D248 × (Int × (List D153 × Unit))) (l0[j]).2.2.2.2.1 (epStep (iAdd .i64 L.1 1)) (fun k s => s.1.length ≤ k) (f := F196.b1 ((j : Int), (l0, ())) (L, ())) (fun s k => (s.1, (k, (l0.set j ((l0[j]).1, (s.2, (l0[j]).2.2)), ())))) (fun s => Sum.inl (s.1, ((List.length (l0[j]).2.2.2.2.1 : Int), (l0.set j ((l0[j]).1, (s.2, (l0[j]).2.2)), ())))) ([], (l0[j]).2.1) (Nat.le_refl _) (fun i hi s hI => by
    have hI : s.1.length ≤ i := hI
    have hr : room (s.1.length + 1) 16 = true := room_ok (by omega) (by decide) (by decide)
    unfold epStep
    cases hc : iLe ((l0[j]).2.2.2.2.1[i]).2.1 (iAdd .i64 L.1 1) with
    | true =>
      refine ⟨?_, by simp only [cond_true]; omega⟩
      unfold F196.b1
      refine bind_eq (g s.2) (lt_then (Int.ofNat_lt.2 hi) (bind_eq (g s.2) (bind_eq (getI_lt hi) (thenT hc (bind_eq (g s.2) (bind_eq (g s.2) (bind_eq (getI_lt hi) (bind_eq (g s.2) (bind_eq rfl (st3 rfl (nxt hi hl63) ?_)))))))))) 
      exact List.set_set ..
    | false =>
      refine ⟨?_, by simp only [cond_false, List.length_append, List.length_singleton]; omega⟩
      unfold F196.b1
      exact bind_eq (g s.2) (lt_then (Int.ofNat_lt.2 hi) (bind_eq (g s.2) (bind_eq (getI_lt hi) (no_then hc (bind_eq (g s.2) (bind_eq (getI_lt hi) (thenT hr (st3 rfl (nxt hi hl63) rfl)))))))) ) (fun s _ => by
    unfold F196.b1
    exact bind_eq (g s.2) (lt_else (Int.le_refl _) rfl))).1
  have e : (([], ((0 : Int), (l0, ()))) : List D248 × (Int × (List D153 × Unit))) = ([], ((0 : Int), (l0.set j ((l0[j]).1, ((l0[j]).2.1, (l0[j]).2.2)), ()))) := by rw [hself]
  rw [e]
  exact lp
theorem i_epIn (L : DLe) (l0 : List D153) (j : Nat) (hj : j < l0.length) (h4 : List.length (l0[j]).2.2.2.2.1 ≤ 4) :
    loopF (F199.b1 l0[j] (L, ()) ((j : Int), (l0, ()))) ([], ((0 : Int), (l0, ()))) = some (Sum.inl ((epFold (iAdd .i64 L.1 1) l0[j]).1, ((List.length (l0[j]).2.2.2.2.1 : Int), (l0.set j ((l0[j]).1, ((epFold (iAdd .i64 L.1 1) l0[j]).2, (l0[j]).2.2)), ())))) := by
  have hl63 : L63 (List.length (l0[j]).2.2.2.2.1) := by unfold L63; omega
  have hself : l0.set j ((l0[j]).1, ((l0[j]).2.1, (l0[j]).2.2)) = l0 := List.set_getElem_self hj
  have g : ∀ s : Int, getN (l0.set j ((l0[j]).1, (s, (l0[j]).2.2))) (Int.toNat (j : Int)) = some ((l0[j]).1, (s, (l0[j]).2.2)) := fun s => getN_set hj
  have lp := (loopFold (S := List D248 × (Int × (List D153 × Unit))) (l0[j]).2.2.2.2.1 (epStep (iAdd .i64 L.1 1)) (fun k s => s.1.length ≤ k) (f := F199.b1 l0[j] (L, ()) ((j : Int), (l0, ()))) (fun s k => (s.1, (k, (l0.set j ((l0[j]).1, (s.2, (l0[j]).2.2)), ())))) (fun s => Sum.inl (s.1, ((List.length (l0[j]).2.2.2.2.1 : Int), (l0.set j ((l0[j]).1, (s.2, (l0[j]).2.2)), ())))) ([], (l0[j]).2.1) (Nat.le_refl _) (fun i hi s hI => by
    have hI : s.1.length ≤ i := hI
    have hr : room (s.1.length + 1) 16 = true := room_ok (by omega) (by decide) (by decide)
    unfold epStep
    cases hc : iLe ((l0[j]).2.2.2.2.1[i]).2.1 (iAdd .i64 L.1 1) with
    | true =>
      refine ⟨?_, by simp only [cond_true]; omega⟩
      unfold F199.b1
      refine lt_then (Int.ofNat_lt.2 hi) (bind_eq (getI_lt hi) (thenT hc (bind_eq (g s.2) (bind_eq (g s.2) (bind_eq rfl (st3 rfl (nxt hi hl63) ?_))))))
      exact List.set_set ..
    | false =>
      refine ⟨?_, by simp only [cond_false, List.length_append, List.length_singleton]; omega⟩
      unfold F199.b1
      exact lt_then (Int.ofNat_lt.2 hi) (bind_eq (getI_lt hi) (no_then hc (thenT hr (st3 rfl (nxt hi hl63) rfl))))) (fun s _ => by
    unfold F199.b1
    exact lt_else (Int.le_refl _) rfl)).1
  have e : (([], ((0 : Int), (l0, ()))) : List D248 × (Int × (List D153 × Unit))) = ([], ((0 : Int), (l0.set j ((l0[j]).1, ((l0[j]).2.1, (l0[j]).2.2)), ()))) := by rw [hself]
  rw [e]
  exact lp
theorem ep_set (e : Int) {xs : List D153} {j : Nat} (hj : j < xs.length) (hj0 : j < (upTo (epAcct e) xs j).length) : (((upTo (epAcct e) xs j).set j (((upTo (epAcct e) xs j)[j]).1, ((epFold e (upTo (epAcct e) xs j)[j]).2, ((upTo (epAcct e) xs j)[j]).2.2))).set j (epAcct e (upTo (epAcct e) xs j)[j])) = upTo (epAcct e) xs (j + 1) := by
  have h := upTo_get (epAcct e) hj
  rw [List.getElem?_eq_getElem hj0] at h
  rw [Option.some.inj h, List.set_set]
  exact upTo_set (epAcct e) hj
theorem next_both (L : DLe) (hOk : (Ty.sl e153).Ok L.2.1) (hAL : AcctL L.2.1) :
    ∃ R : DLe, F196 (L, ()) = some (R, ()) ∧ F199 (L, ()) = some (R, ()) ∧ (Ty.sl e153).Ok R.2.1 ∧ AcctL R.2.1 := by
  have sc := s_cledger L hAL
  have ic := i_cledger L hAL
  have sl := s_ledger L hOk
  have il := i_ledger L hOk
  cases hq : ledgerB L with
  | false =>
    rw [hq] at sl il
    refine ⟨L, ?_, ?_, hOk, hAL⟩
    · unfold F196; exact bind_eq sc (bind_eq sl (thenT rfl rfl))
    · unfold F199; exact bind_eq il (thenT rfl (bind_eq ic rfl))
  | true =>
    rw [hq] at sl il
    obtain ⟨hlen, hlv, _⟩ := ledger_len hq
    have hl63 : L63 L.2.1.length := hAL.1.l
    let e := iAdd .i64 L.1 1
    let R : DLe := (e, (L.2.1.map (epAcct e), ()))
    have hRok : (Ty.sl e153).Ok R.2.1 := Ok_of (by show (L.2.1.map (epAcct e)).length ≤ _; rw [List.length_map]; exact hOk.1) (fun y hy => by
      obtain ⟨a, ha, rfl⟩ := List.mem_map.1 hy
      exact epAcct_ok e a (Ok_mem hOk.2 ha))
    have hRal : AcctL R.2.1 := ⟨by show W1 (L.2.1.map (epAcct e)).length; rw [List.length_map]; exact hAL.1, fun y hy => by
      obtain ⟨a, ha, rfl⟩ := List.mem_map.1 hy
      exact Nat.le_trans (epAcct_len e a) (hAL.2 a ha)⟩
    have hend : upTo (epAcct e) L.2.1 L.2.1.length = L.2.1.map (epAcct e) := by unfold upTo; rw [List.take_length, List.drop_length, List.append_nil]
    have el : ∀ k (hk : k < L.2.1.length) (hk0 : k < (upTo (epAcct e) L.2.1 k).length), List.length ((upTo (epAcct e) L.2.1 k)[k]).2.2.2.2.1 ≤ 4 := fun k hk hk0 => by
      have h := upTo_get (epAcct e) hk
      rw [List.getElem?_eq_getElem hk0] at h
      rw [Option.some.inj h]
      exact (hlv _ (List.getElem_mem hk)).1
    have sp := loopF_trace (f := F196.b0 (L, ())) (fun k => ((k : Int), (upTo (epAcct e) L.2.1 k, ()))) L.2.1.length (e := Sum.inl ((L.2.1.length : Int), (L.2.1.map (epAcct e), ()))) (fun k hk => by
      have hk0 : k < (upTo (epAcct e) L.2.1 k).length := by rw [upTo_len _ _ _ (by omega)]; exact hk
      unfold F196.b0
      exact lt_then (Int.ofNat_lt.2 hk0) (bind_eq (getI_lt hk0) (bind_eq (s_epIn L _ k hk0 (el k hk hk0)) (bind_eq (getN_set hk0) (bind_eq rfl (st2 (nxt hk hl63) (ep_set e hk hk0)))))))
      (by
      unfold F196.b0
      refine lt_else (by rw [upTo_len _ _ _ (Nat.le_refl _)]; exact Int.le_refl _) ?_
      rw [hend])
    have ip := loopF_trace (f := F199.b0 (L, ())) (fun k => ((k : Int), (upTo (epAcct e) L.2.1 k, ()))) L.2.1.length (e := Sum.inl ((L.2.1.length : Int), (L.2.1.map (epAcct e), ()))) (fun k hk => by
      have hk0 : k < (upTo (epAcct e) L.2.1 k).length := by rw [upTo_len _ _ _ (by omega)]; exact hk
      unfold F199.b0
      exact lt_then (Int.ofNat_lt.2 hk) (bind_eq (getI_lt hk0) (bind_eq (getN_nat hk0) (bind_eq (i_epIn L _ k hk0 (el k hk hk0)) (bind_eq (getN_set hk0) (bind_eq rfl (st2 (nxt hk hl63) (ep_set e hk hk0))))))))
      (by
      unfold F199.b0
      refine lt_else (Int.le_refl _) ?_
      rw [hend])
    have sl2 := s_ledger R hRok
    have il2 := i_ledger R hRok
    cases hR : ledgerB R with
    | false =>
      rw [hR] at sl2 il2
      refine ⟨L, ?_, ?_, hOk, hAL⟩
      · unfold F196; exact bind_eq sc (bind_eq sl (no_then rfl (bind_eq sp (bind_eq sl2 (thenT rfl (bind_eq sc rfl))))))
      · unfold F199; exact bind_eq il (no_then rfl (bind_eq ic (bind_eq ip (bind_eq il2 (thenT rfl (bind_eq ic rfl))))))
    | true =>
      rw [hR] at sl2 il2
      refine ⟨R, ?_, ?_, hRok, hRal⟩
      · unfold F196; exact bind_eq sc (bind_eq sl (no_then rfl (bind_eq sp (bind_eq sl2 (no_then rfl rfl)))))
      · unfold F199; exact bind_eq il (no_then rfl (bind_eq ic (bind_eq ip (bind_eq il2 (no_then rfl rfl)))))

def lvEq (ys : List D248) (i : Nat) (x : D248) : Bool := match ys[i]? with
  | some y => iEq x.1 y.1 && iEq x.2.1 y.2.1
  | none => false
def lvsEq (xs ys : List D248) : Bool := iEq (xs.length : Int) (ys.length : Int) && allI (lvEq ys) 0 xs
def acEq (x y : D153) : Bool := sEq x.1 y.1 && (iEq x.2.1 y.2.1 && (iEq x.2.2.1 y.2.2.1 && (iEq x.2.2.2.1 y.2.2.2.1 && lvsEq x.2.2.2.2.1 y.2.2.2.2.1)))
def acsP (ys : List D153) (i : Nat) (x : D153) : Bool := match ys[i]? with
  | some y => acEq x y
  | none => false
def leEq (a b : DLe) : Bool := iEq a.1 b.1 && (iEq (a.2.1.length : Int) (b.2.1.length : Int) && allI (acsP b.2.1) 0 a.2.1)
theorem len_of {n m : Nat} (h : iEq (n : Int) (m : Int) = true) : n = m := by simp only [iEq, decide_eq_true_eq] at h; omega
theorem s_acEq (x y : D153) (hl : L63 (List.length x.2.2.2.2.1)) : F197 (x, (y, ())) = some (B1 (acEq x y)) := by
  unfold F197 acEq lvsEq
  refine andN (andN (andN (andN ?_)))
  cases hq : iEq (List.length x.2.2.2.2.1 : Int) (List.length y.2.2.2.2.1 : Int) with
  | false => exact thenT rfl rfl
  | true =>
    have hlen := len_of hq
    have lp := loopAll (S := Int × Unit) x.2.2.2.2.1 (lvEq y.2.2.2.2.1) (f := F197.b0 (x, (y, ()))) (fun k => (k, ())) (Sum.inl ((List.length x.2.2.2.2.1 : Int), ())) (Sum.inr (B1 false)) (fun i hi => by
      unfold F197.b0 lvEq
      refine lt_then (Int.ofNat_lt.2 hi) (bind_eq (getI_lt hi) (bind_eq (getI_lt (hlen ▸ hi)) ?_))
      rw [← nxt hi hl, List.getElem?_eq_getElem (hlen ▸ hi)]
      exact goE) (by
      unfold F197.b0
      exact lt_else (Int.le_refl _) rfl)
    refine no_then rfl (bind_eq lp ?_)
    cases allI (lvEq y.2.2.2.2.1) 0 x.2.2.2.2.1 <;> rfl
theorem i_lvEq (xs ys : List D248) (hl : L63 xs.length) : F202 ((xs, ()), ((ys, ()), ())) = some (B1 (lvsEq xs ys)) := by
  unfold F202 lvsEq
  cases hq : iEq (xs.length : Int) (ys.length : Int) with
  | false => exact thenT rfl rfl
  | true =>
    have hlen := len_of hq
    have lp := loopAll (S := Int × Unit) xs (lvEq ys) (f := F202.b0 ((xs, ()), ((ys, ()), ()))) (fun k => (k, ())) (Sum.inl ((xs.length : Int), ())) (Sum.inr (B1 false)) (fun i hi => by
      unfold F202.b0 lvEq
      refine lt_then (Int.ofNat_lt.2 hi) (bind_eq (getI_lt hi) (bind_eq (getI_lt (hlen ▸ hi)) ?_))
      rw [← nxt hi hl, List.getElem?_eq_getElem (hlen ▸ hi)]
      exact goE) (by
      unfold F202.b0
      exact lt_else (Int.le_refl _) rfl)
    refine no_then rfl (bind_eq lp ?_)
    cases allI (lvEq ys) 0 xs <;> rfl
theorem i_acEq (x y : D153) (hl : L63 (List.length x.2.2.2.2.1)) : F201 (x, (y, ())) = some (B1 (acEq x y)) := by
  unfold F201 acEq
  exact andY (andY (andY (andY (bind_eq (i_lvEq _ _ hl) rfl))))
theorem s_same (a b : DLe) (h : AcctL a.2.1) : F126 (a, (b, ())) = some (B1 (leEq a b)) := by
  have hl : L63 a.2.1.length := h.1.l
  unfold F126 leEq
  refine andN ?_
  cases hq : iEq (a.2.1.length : Int) (b.2.1.length : Int) with
  | false => exact thenT rfl rfl
  | true =>
    have hlen := len_of hq
    have lp := loopAll (S := Int × Unit) a.2.1 (acsP b.2.1) (f := F126.b0 (a, (b, ()))) (fun k => (k, ())) (Sum.inl ((a.2.1.length : Int), ())) (Sum.inr (B1 false)) (fun i hi => by
      unfold F126.b0 acsP
      refine lt_then (Int.ofNat_lt.2 hi) (bind_eq (getI_lt hi) (bind_eq (getI_lt (hlen ▸ hi)) (bind_eq (s_acEq _ _ (h.2 _ (List.getElem_mem hi)).l) ?_)))
      rw [← nxt hi hl, List.getElem?_eq_getElem (hlen ▸ hi)]
      exact goE) (by
      unfold F126.b0
      exact lt_else (Int.le_refl _) rfl)
    refine no_then rfl (bind_eq lp ?_)
    cases allI (acsP b.2.1) 0 a.2.1 <;> rfl
theorem i_eqFunc (xs ys : List D153) (g : _) (h : AcctL xs) (hg : ∀ x y : D153, L63 (List.length x.2.2.2.2.1) → g (x.1, (x.2.1, (x.2.2.1, (x.2.2.2.1, (x.2.2.2.2.1, (y.1, (y.2.1, (y.2.2.1, (y.2.2.2.1, (y.2.2.2.2.1, ())))))))))) = some (acEq x y, ())) :
    F200 ((xs, ()), ((ys, ()), ((g, ()), ()))) = some (B1 (iEq (xs.length : Int) (ys.length : Int) && allI (acsP ys) 0 xs)) := by
  have hl : L63 xs.length := h.1.l
  unfold F200
  cases hq : iEq (xs.length : Int) (ys.length : Int) with
  | false => exact thenT rfl rfl
  | true =>
    have hlen := len_of hq
    have lp := loopAll (S := Int × Unit) xs (acsP ys) (f := F200.b0 ((xs, ()), ((ys, ()), ((g, ()), ())))) (fun k => (k, ())) (Sum.inl ((xs.length : Int), ())) (Sum.inr (B1 false)) (fun i hi => by
      unfold F200.b0 acsP
      refine lt_then (Int.ofNat_lt.2 hi) (bind_eq (getI_lt hi) (bind_eq (getI_lt (hlen ▸ hi)) (bind_eq (hg _ _ (h.2 _ (List.getElem_mem hi)).l) ?_)))
      rw [← nxt hi hl, List.getElem?_eq_getElem (hlen ▸ hi)]
      exact goE) (by
      unfold F200.b0
      exact lt_else (Int.le_refl _) rfl)
    refine no_then rfl (bind_eq lp ?_)
    cases allI (acsP ys) 0 xs <;> rfl
theorem i_same (a b : DLe) (h : AcctL a.2.1) : F129 (a, (b, ())) = some (B1 (leEq a b)) := by
  unfold F129 leEq
  exact andY (bind_eq (i_eqFunc a.2.1 b.2.1 _ h (fun x y hl => bind_eq (i_acEq x y hl) rfl)) rfl)

def scan {A S E : Type} (step : S → A → Sum S E) (fin : S → E) : List A → S → E
  | [], s => fin s
  | x :: r, s => match step s x with
    | .inl s' => scan step fin r s'
    | .inr e => e
theorem loopScan {S E A σ : Type} (xs : List A) (step : σ → A → Sum σ E) (I : σ → Prop) {f : S → Option (Sum S E)} (mk : σ → Int → S) (fin : σ → E) (s0 : σ) (h0 : I s0)
    (hstep : ∀ i (h : i < xs.length) s, I s → (∃ s', step s xs[i] = .inl s' ∧ I s' ∧ f (mk s (i : Int)) = some (.inl (mk s' ((i + 1 : Nat) : Int)))) ∨ ∃ e, step s xs[i] = .inr e ∧ f (mk s (i : Int)) = some (.inr e)) (hend : ∀ s, I s → f (mk s (xs.length : Int)) = some (.inr (fin s))) :
    loopF f (mk s0 0) = some (scan step fin xs s0) := by
  have key : ∀ (suf pre : List A) (s : σ), pre ++ suf = xs → I s → loopF f (mk s (pre.length : Int)) = some (scan step fin suf s) := by
    intro suf
    induction suf with
    | nil =>
      intro pre s hp hI
      simp only [List.append_nil] at hp
      subst hp
      exact loopF_end (hend s hI)
    | cons x suf ih =>
      intro pre s hp hI
      have hlt : pre.length < xs.length := by rw [← hp]; simp
      have hx : xs[pre.length] = x := by
        have : xs[pre.length]? = some x := by rw [← hp]; simp
        rw [List.getElem?_eq_getElem hlt] at this
        simpa using this
      rcases hstep pre.length hlt s hI with ⟨s', h1, h2, h3⟩ | ⟨e, h1, h3⟩
      · rw [hx] at h1
        rw [loopF_step h3]
        simp only [scan, h1]
        have := ih (pre ++ [x]) s' (by simpa using hp) h2
        simpa using this
      · rw [hx] at h1
        rw [loopF_end h3]
        simp only [scan, h1]
  simpa using key xs [] s0 rfl h0
noncomputable def nextR (L : DLe) : DLe := match F196 (L, ()) with
  | some (R, ()) => R
  | none => L
theorem nextR_eq (L : DLe) (hOk : (Ty.sl e153).Ok L.2.1) (hAL : AcctL L.2.1) : F196 (L, ()) = some (nextR L, ()) ∧ F199 (L, ()) = some (nextR L, ()) ∧ (Ty.sl e153).Ok (nextR L).2.1 ∧ AcctL (nextR L).2.1 := by
  obtain ⟨R, h1, h2, h3, h4⟩ := next_both L hOk hAL
  have : nextR L = R := by unfold nextR; rw [h1]
  rw [this]
  exact ⟨h1, h2, h3, h4⟩
theorem blk_at {bs : List D138} (hb : L63 bs.length) {n : Int} (h : inR n 0 (iSub .i64 (bs.length : Int) 1) = true) : ∃ k, ∃ hk : k < bs.length, n = (k : Int) := by
  unfold inR at h
  unfold L63 at hb
  rw [iSub_small (by omega) (by omega)] at h
  simp only [Bool.and_eq_true, iLe, decide_eq_true_eq] at h
  exact ⟨n.toNat, by omega, by omega⟩
noncomputable def blkR (s : DLe) (b : D138) : DLe := bif b.2.2.2.2.2.2.2.2.2.2.2.1 then nextR (allR s b.2.2.2.2.2.2.2.2.2.2.1).2 else (allR s b.2.2.2.2.2.2.2.2.2.2.1).2
abbrev FoE : Type := Sum (Int × (Int × (List D153 × Unit))) (DLe × ((Bool × Unit) × Unit))
noncomputable def foldStep (w : DWo) (s : DLe) (id : D3) : Sum DLe FoE := bif inR id.1 0 (iSub .i64 (w.2.2.2.2.1.length : Int) 1) then (match getI w.2.2.2.2.1 id.1 with
  | some b => .inl (blkR s b)
  | none => .inl s) else .inr (.inr ((w.1, (w.2.1, ())), ((false, ()), ())))
theorem fold_both (w : DWo) (done : List D3) (hw : WOk w) (hww : e74.w w ≤ 1048576) (hd : L63 done.length) :
    ∃ (R : DLe) (c : Bool), F124 (w, ((done, ()), ())) = some (R, ((c, ()), ())) ∧ F127 (w, ((done, ()), ())) = some (R, ((c, ()), ())) ∧ AcctL R.2.1 := by
  have hOk : (Ty.sl e153).Ok w.2.1 := hw.2.1
  have hAL : AcctL w.2.1 := AcctL_of (w_hd (w_tl hww))
  have hb : (Ty.sl e138).Ok w.2.2.2.2.1 := hw.2.2.2.2.1
  let L : DLe := (w.1, (w.2.1, ()))
  have sc := s_cledger L hAL
  have ic := i_cledger L hAL
  have si : ∀ (x : D3) (b : Bool), inR x.1 0 (iSub .i64 (w.2.2.2.2.1.length : Int) 1) = b → F167 (x, (((0 : Int), ()), ((iSub .i64 (w.2.2.2.2.1.length : Int) 1, ()), ()))) = some (B1 b) := fun x b h => (s_in x.1 0 _).trans (by rw [h])
  have ii : ∀ (x : D3) (b : Bool), inR x.1 0 (iSub .i64 (w.2.2.2.2.1.length : Int) 1) = b → F172 (x, (((0 : Int), ()), ((iSub .i64 (w.2.2.2.2.1.length : Int) 1, ()), ()))) = some (B1 b) := fun x b h => (i_in x.1 0 _).trans (by rw [h])
  let fin : DLe → FoE := fun s => Sum.inl ((done.length : Int), (s.1, (s.2.1, ())))
  let I : DLe → Prop := fun s => (Ty.sl e153).Ok s.2.1 ∧ AcctL s.2.1
  have sp := loopScan (S := Int × (Int × (List D153 × Unit))) done (foldStep w) I (f := F124.b0 (w, ((done, ()), ()))) (fun s k => (k, (s.1, (s.2.1, ())))) fin L ⟨hOk, hAL⟩ (fun i hi s hI => by
    cases hc : inR (done[i]).1 0 (iSub .i64 (w.2.2.2.2.1.length : Int) 1) with
    | false =>
      refine .inr ⟨.inr (L, ((false, ()), ())), by unfold foldStep; rw [hc]; rfl, ?_⟩
      unfold F124.b0
      exact lt_then (Int.ofNat_lt.2 hi) (bind_eq (getI_lt hi) (bind_eq (si _ _ hc) (thenT rfl (bind_eq sc rfl))))
    | true =>
      obtain ⟨k, hk, hn⟩ := blk_at hb.1 hc
      have hg : getI w.2.2.2.2.1 (done[i]).1 = some w.2.2.2.2.1[k] := by rw [hn]; exact getI_lt hk
      have hB := Ok_mem hb.2 (List.getElem_mem hk)
      obtain ⟨a1, a2, a3, a4⟩ := all_both s (w.2.2.2.2.1[k]).2.2.2.2.2.2.2.2.2.2.1 hI.1 hI.2 hB.2.2.2.2.2.2.2.2.2.2.1
      obtain ⟨n1, n2, n3, n4⟩ := nextR_eq _ a3 a4
      have hs : foldStep w s done[i] = .inl (blkR s w.2.2.2.2.1[k]) := by unfold foldStep; rw [hc, hg]; rfl
      refine .inl ⟨_, hs, ?_, ?_⟩
      · unfold blkR
        cases (w.2.2.2.2.1[k]).2.2.2.2.2.2.2.2.2.2.2.1 with
        | true => exact ⟨n3, n4⟩
        | false => exact ⟨a3, a4⟩
      · unfold F124.b0 blkR
        refine lt_then (Int.ofNat_lt.2 hi) (bind_eq (getI_lt hi) (bind_eq (si _ _ hc) (no_then rfl (bind_eq (getI_lt hi) (bind_eq hg (bind_eq a1 ?_))))))
        rw [← nxt hi hd]
        cases he : (w.2.2.2.2.1[k]).2.2.2.2.2.2.2.2.2.2.2.1 with
        | true => exact bind_eq n1 rfl
        | false => rfl) (fun s _ => by
    unfold F124.b0
    exact lt_else (Int.le_refl _) rfl)
  have ip := loopScan (S := Int × (Int × (List D153 × Unit))) done (foldStep w) I (f := F127.b0 (w, ((done, ()), ()))) (fun s k => (k, (s.1, (s.2.1, ())))) fin L ⟨hOk, hAL⟩ (fun i hi s hI => by
    cases hc : inR (done[i]).1 0 (iSub .i64 (w.2.2.2.2.1.length : Int) 1) with
    | false =>
      refine .inr ⟨.inr (L, ((false, ()), ())), by unfold foldStep; rw [hc]; rfl, ?_⟩
      unfold F127.b0
      exact lt_then (Int.ofNat_lt.2 hi) (bind_eq (getI_lt hi) (bind_eq (ii _ _ hc) (thenT rfl (bind_eq ic rfl))))
    | true =>
      obtain ⟨k, hk, hn⟩ := blk_at hb.1 hc
      have hg : getI w.2.2.2.2.1 (done[i]).1 = some w.2.2.2.2.1[k] := by rw [hn]; exact getI_lt hk
      have hB := Ok_mem hb.2 (List.getElem_mem hk)
      obtain ⟨a1, a2, a3, a4⟩ := all_both s (w.2.2.2.2.1[k]).2.2.2.2.2.2.2.2.2.2.1 hI.1 hI.2 hB.2.2.2.2.2.2.2.2.2.2.1
      obtain ⟨n1, n2, n3, n4⟩ := nextR_eq _ a3 a4
      have hs : foldStep w s done[i] = .inl (blkR s w.2.2.2.2.1[k]) := by unfold foldStep; rw [hc, hg]; rfl
      refine .inl ⟨_, hs, ?_, ?_⟩
      · unfold blkR
        cases (w.2.2.2.2.1[k]).2.2.2.2.2.2.2.2.2.2.2.1 with
        | true => exact ⟨n3, n4⟩
        | false => exact ⟨a3, a4⟩
      · unfold F127.b0 blkR
        refine lt_then (Int.ofNat_lt.2 hi) (bind_eq (getI_lt hi) (bind_eq (ii _ _ hc) (no_then rfl (bind_eq hg (bind_eq a2 ?_)))))
        rw [← nxt hi hd]
        cases he : (w.2.2.2.2.1[k]).2.2.2.2.2.2.2.2.2.2.2.1 with
        | true => exact bind_eq n2 rfl
        | false => rfl) (fun s _ => by
    unfold F127.b0
    exact lt_else (Int.le_refl _) rfl)
  have inv : ∀ (l : List D3) (s : DLe), I s → match scan (foldStep w) fin l s with | .inl v => AcctL v.2.2.1 | .inr r => AcctL r.1.2.1 := by
    intro l
    induction l with
    | nil => intro s hI; exact hI.2
    | cons x r ih =>
      intro s hI
      simp only [scan]
      cases hc : inR x.1 0 (iSub .i64 (w.2.2.2.2.1.length : Int) 1) with
      | false =>
        have : foldStep w s x = .inr (.inr (L, ((false, ()), ()))) := by unfold foldStep; rw [hc]; rfl
        rw [this]; exact hAL
      | true =>
        obtain ⟨k, hk, hn⟩ := blk_at hb.1 hc
        have hg : getI w.2.2.2.2.1 x.1 = some w.2.2.2.2.1[k] := by rw [hn]; exact getI_lt hk
        have hB := Ok_mem hb.2 (List.getElem_mem hk)
        obtain ⟨_, _, a3, a4⟩ := all_both s (w.2.2.2.2.1[k]).2.2.2.2.2.2.2.2.2.2.1 hI.1 hI.2 hB.2.2.2.2.2.2.2.2.2.2.1
        obtain ⟨_, _, n3, n4⟩ := nextR_eq _ a3 a4
        have hs : foldStep w s x = .inl (blkR s w.2.2.2.2.1[k]) := by unfold foldStep; rw [hc, hg]; rfl
        rw [hs]
        refine ih _ ?_
        unfold blkR
        cases (w.2.2.2.2.1[k]).2.2.2.2.2.2.2.2.2.2.2.1 with
        | true => exact ⟨n3, n4⟩
        | false => exact ⟨a3, a4⟩
  have hinv := inv done L ⟨hOk, hAL⟩
  revert sp ip hinv
  cases scan (foldStep w) fin done L with
  | inl v =>
    intro sp ip hinv
    refine ⟨(v.2.1, (v.2.2.1, ())), true, ?_, ?_, hinv⟩
    · unfold F124; exact bind_eq sc (bind_eq sp rfl)
    · unfold F127; exact bind_eq ic (bind_eq ip rfl)
  | inr r =>
    intro sp ip hinv
    refine ⟨r.1, r.2.1.1, ?_, ?_, hinv⟩
    · unfold F124; exact bind_eq sc (bind_eq sp rfl)
    · unfold F127; exact bind_eq ic (bind_eq ip rfl)

noncomputable def condB (w : DWo) (x : D3) : Bool := inR x.1 0 (iSub .i64 (w.2.2.2.2.1.length : Int) 1) && (match getI w.2.2.2.2.1 x.1 with
  | some b => b.2.2.2.2.2.2.2.2.2.2.2.1
  | none => false)
noncomputable def endStep (w : DWo) (s : Int × Int) (x : D3) : Int × Int := (bif condB w x then iAdd .i64 s.2 1 else s.1, iAdd .i64 s.2 1)
theorem ends_both (w : DWo) (done : List D3) (hw : WOk w) (hd : L63 done.length) :
    ∃ m : Nat, m ≤ done.length ∧ F125 (w, ((done, ()), ())) = some (I1 (m : Int)) ∧ F128 (w, ((done, ()), ())) = some ((List.take ((Int.toNat (m : Int)) - 0) (List.drop 0 done), ()), ()) := by
  have hb : (Ty.sl e138).Ok w.2.2.2.2.1 := hw.2.2.2.2.1
  have si : ∀ (x : D3) (b : Bool), inR x.1 0 (iSub .i64 (w.2.2.2.2.1.length : Int) 1) = b → F167 (x, (((0 : Int), ()), ((iSub .i64 (w.2.2.2.2.1.length : Int) 1, ()), ()))) = some (B1 b) := fun x b h => (s_in x.1 0 _).trans (by rw [h])
  have ii : ∀ (x : D3) (b : Bool), inR x.1 0 (iSub .i64 (w.2.2.2.2.1.length : Int) 1) = b → F172 (x, (((0 : Int), ()), ((iSub .i64 (w.2.2.2.2.1.length : Int) 1, ()), ()))) = some (B1 b) := fun x b h => (i_in x.1 0 _).trans (by rw [h])
  have hinv : ∀ i (hi : i < done.length) (s : Int × Int), (s.2 = (i : Int) ∧ ∃ m : Nat, m ≤ i ∧ s.1 = (m : Int)) → ((endStep w s done[i]).2 = ((i + 1 : Nat) : Int) ∧ ∃ m : Nat, m ≤ i + 1 ∧ (endStep w s done[i]).1 = (m : Int)) := fun i hi s hI => by
    obtain ⟨e1, m, e2, e3⟩ := hI
    have en : iAdd .i64 s.2 1 = ((i + 1 : Nat) : Int) := by rw [e1]; exact nxt hi hd
    unfold endStep
    refine ⟨en, ?_⟩
    cases condB w done[i] with
    | true => exact ⟨i + 1, Nat.le_refl _, en⟩
    | false => exact ⟨m, by omega, e3⟩
  have sp := loopFold (S := Int × (Int × Unit)) done (endStep w) (fun i s => s.2 = (i : Int) ∧ ∃ m : Nat, m ≤ i ∧ s.1 = (m : Int)) (f := F125.b0 (w, ((done, ()), ()))) (fun s k => (s.1, (k, ()))) (fun s => Sum.inl (s.1, ((done.length : Int), ()))) (0, 0) ⟨rfl, 0, Nat.le_refl _, rfl⟩ (fun i hi s hI => by
    refine ⟨?_, hinv i hi s hI⟩
    unfold F125.b0 endStep
    rw [hI.1, ← nxt hi hd]
    cases hc : inR (done[i]).1 0 (iSub .i64 (w.2.2.2.2.1.length : Int) 1) with
    | false =>
      have hcb : condB w done[i] = false := by unfold condB; rw [hc]; rfl
      rw [hcb]
      exact lt_then (Int.ofNat_lt.2 hi) (bind_eq (getI_lt hi) (bind_eq (si _ _ hc) (no_then rfl rfl)))
    | true =>
      obtain ⟨k, hk, hn⟩ := blk_at hb.1 hc
      have hg : getI w.2.2.2.2.1 (done[i]).1 = some w.2.2.2.2.1[k] := by rw [hn]; exact getI_lt hk
      have hcb : condB w done[i] = (w.2.2.2.2.1[k]).2.2.2.2.2.2.2.2.2.2.2.1 := by unfold condB; rw [hc, hg]; rfl
      rw [hcb]
      refine lt_then (Int.ofNat_lt.2 hi) (bind_eq (getI_lt hi) (bind_eq (si _ _ hc) (thenT rfl (bind_eq (getI_lt hi) (bind_eq hg ?_)))))
      cases (w.2.2.2.2.1[k]).2.2.2.2.2.2.2.2.2.2.2.1 <;> rfl) (fun s _ => by
    unfold F125.b0
    exact lt_else (Int.le_refl _) rfl)
  have ip := loopFold (S := Int × (Int × Unit)) done (endStep w) (fun i s => s.2 = (i : Int) ∧ ∃ m : Nat, m ≤ i ∧ s.1 = (m : Int)) (f := F128.b0 (w, ((done, ()), ()))) (fun s k => (s.1, (k, ()))) (fun s => Sum.inl (s.1, ((done.length : Int), ()))) (0, 0) ⟨rfl, 0, Nat.le_refl _, rfl⟩ (fun i hi s hI => by
    refine ⟨?_, hinv i hi s hI⟩
    unfold F128.b0 endStep
    rw [hI.1, ← nxt hi hd]
    cases hc : inR (done[i]).1 0 (iSub .i64 (w.2.2.2.2.1.length : Int) 1) with
    | false =>
      have hcb : condB w done[i] = false := by unfold condB; rw [hc]; rfl
      rw [hcb]
      exact lt_then (Int.ofNat_lt.2 hi) (bind_eq (getI_lt hi) (bind_eq (ii _ _ hc) (no_then rfl rfl)))
    | true =>
      obtain ⟨k, hk, hn⟩ := blk_at hb.1 hc
      have hg : getI w.2.2.2.2.1 (done[i]).1 = some w.2.2.2.2.1[k] := by rw [hn]; exact getI_lt hk
      have hcb : condB w done[i] = (w.2.2.2.2.1[k]).2.2.2.2.2.2.2.2.2.2.2.1 := by unfold condB; rw [hc, hg]; rfl
      rw [hcb]
      refine lt_then (Int.ofNat_lt.2 hi) (bind_eq (getI_lt hi) (bind_eq (ii _ _ hc) (thenT rfl (bind_eq hg ?_))))
      cases (w.2.2.2.2.1[k]).2.2.2.2.2.2.2.2.2.2.2.1 <;> rfl) (fun s _ => by
    unfold F128.b0
    exact lt_else (Int.le_refl _) rfl)
  obtain ⟨_, m, hm, he⟩ := sp.2
  have sp1 := sp.1
  have ip1 := ip.1
  rw [he] at sp1 ip1
  refine ⟨m, hm, ?_, ?_⟩
  · unfold F125; exact bind_eq sp1 rfl
  · unfold F128; exact bind_eq ip1 (cut_hi hm rfl)

noncomputable def foldedB (w : DWo) (n : DNd) : Bool := match F125 (w, ((n.2.2.2.2.2.2.2.2.2.2.2.2.2.2.2.2.2.1, ()), ())) with
  | some ((k, ()), ()) => match F124 (w, ((List.take ((Int.toNat k) - 0) (List.drop 0 n.2.2.2.2.2.2.2.2.2.2.2.2.2.2.2.2.2.1), ()), ())) with
    | some (R, ((c, ()), ())) => c && leEq R (n.2.2.1, (n.2.2.2.1, ()))
    | none => false
  | none => false
theorem node_both (w : DWo) (hw : WOk w) (hww : e74.w w ≤ 1048576) (n : DNd) (hn : NOk n) :
    ∃ (m : Nat) (R : DLe) (c : Bool), m ≤ List.length n.2.2.2.2.2.2.2.2.2.2.2.2.2.2.2.2.2.1 ∧ F125 (w, ((n.2.2.2.2.2.2.2.2.2.2.2.2.2.2.2.2.2.1, ()), ())) = some (I1 (m : Int)) ∧ F128 (w, ((n.2.2.2.2.2.2.2.2.2.2.2.2.2.2.2.2.2.1, ()), ())) = some ((List.take ((Int.toNat (m : Int)) - 0) (List.drop 0 n.2.2.2.2.2.2.2.2.2.2.2.2.2.2.2.2.2.1), ()), ()) ∧
      F124 (w, ((List.take ((Int.toNat (m : Int)) - 0) (List.drop 0 n.2.2.2.2.2.2.2.2.2.2.2.2.2.2.2.2.2.1), ()), ())) = some (R, ((c, ()), ())) ∧ F127 (w, ((List.take ((Int.toNat (m : Int)) - 0) (List.drop 0 n.2.2.2.2.2.2.2.2.2.2.2.2.2.2.2.2.2.1), ()), ())) = some (R, ((c, ()), ())) ∧ AcctL R.2.1 ∧ foldedB w n = (c && leEq R (n.2.2.1, (n.2.2.2.1, ()))) := by
  have hd : (Ty.sl (.cons (.int .i64) .nil)).Ok n.2.2.2.2.2.2.2.2.2.2.2.2.2.2.2.2.2.1 := hn.2.2.2.2.2.2.2.2.2.2.2.2.2.2.2.2.2.1
  obtain ⟨m, h1, h2, h3⟩ := ends_both w n.2.2.2.2.2.2.2.2.2.2.2.2.2.2.2.2.2.1 hw hd.1
  obtain ⟨R, c, h4, h5, h6⟩ := fold_both w (List.take ((Int.toNat (m : Int)) - 0) (List.drop 0 n.2.2.2.2.2.2.2.2.2.2.2.2.2.2.2.2.2.1)) hw hww (Nat.le_trans (m := List.length n.2.2.2.2.2.2.2.2.2.2.2.2.2.2.2.2.2.1) (by rw [List.length_take, List.length_drop]; omega) hd.1)
  refine ⟨m, R, c, h1, h2, h3, h4, h5, h6, ?_⟩
  unfold foldedB
  rw [h2]
  show (match F124 (w, ((List.take ((Int.toNat (m : Int)) - 0) (List.drop 0 n.2.2.2.2.2.2.2.2.2.2.2.2.2.2.2.2.2.1), ()), ())) with
    | some (R, ((c, ()), ())) => c && leEq R (n.2.2.1, (n.2.2.2.1, ()))
    | none => false) = _
  rw [h4]
theorem s_folded (w : DWo) (hw : WOk w) (hww : e74.w w ≤ 1048576) : F39 (w, ()) = some (B1 (w.2.2.2.1.all (foldedB w))) := by
  have hns : (Ty.sl e56).Ok w.2.2.2.1 := hw.2.2.2.1
  have lp := loopAllP (S := Int × Unit) w.2.2.2.1 (foldedB w) (f := F39.b0 (w, ())) (fun k => (k, ())) (Sum.inl ((w.2.2.2.1.length : Int), ())) (Sum.inr (B1 false)) (fun i hi => by
    obtain ⟨m, R, c, h1, h2, h3, h4, h5, h6, h7⟩ := node_both w hw hww w.2.2.2.1[i] (Ok_mem hns.2 (List.getElem_mem hi))
    unfold F39.b0
    rw [h7, ← nxt hi hns.1]
    exact lt_then (Int.ofNat_lt.2 hi) (bind_eq (getI_lt hi) (bind_eq h2 (cut_hi h1 (bind_eq h4 (goN (bind_eq (s_same R _ h6) goE))))))) (by
    unfold F39.b0
    exact lt_else (Int.le_refl _) rfl)
  unfold F39
  refine bind_eq lp ?_
  cases w.2.2.2.1.all (foldedB w) <;> rfl
theorem i_folded (w : DWo) (hw : WOk w) (hww : e74.w w ≤ 1048576) : F40 (w, ()) = some (B1 (w.2.2.2.1.all (foldedB w))) := by
  have hns : (Ty.sl e56).Ok w.2.2.2.1 := hw.2.2.2.1
  have lp := loopAllP (S := Int × Unit) w.2.2.2.1 (foldedB w) (f := F40.b0 (w, ())) (fun k => (k, ())) (Sum.inl ((w.2.2.2.1.length : Int), ())) (Sum.inr (B1 false)) (fun i hi => by
    obtain ⟨m, R, c, h1, h2, h3, h4, h5, h6, h7⟩ := node_both w hw hww w.2.2.2.1[i] (Ok_mem hns.2 (List.getElem_mem hi))
    unfold F40.b0
    rw [h7, ← nxt hi hns.1]
    exact lt_then (Int.ofNat_lt.2 hi) (bind_eq (getI_lt hi) (bind_eq h3 (bind_eq h5 (goN (bind_eq (i_same R _ h6) goE)))))) (by
    unfold F40.b0
    exact lt_else (Int.le_refl _) rfl)
  unfold F40
  refine bind_eq lp ?_
  cases w.2.2.2.1.all (foldedB w) <;> rfl
theorem L_Folded (w : DWo) (hw : e74.Ok w) (hww : e74.w w ≤ 1048576) :
    ∃ R, F39 (w, ()) = some R ∧ F40 (w, ()) = some R ∧ (.cons .bool .nil : Tys).Ok R.1 ∧ (.cons .bool .nil : Tys).w R.1 ≤ 67108864 :=
  ⟨_, s_folded w hw hww, i_folded w hw hww, ⟨trivial, trivial⟩, Nat.zero_le _⟩
end Go.Proofs.YtphaibffjdfhpaaGreat
