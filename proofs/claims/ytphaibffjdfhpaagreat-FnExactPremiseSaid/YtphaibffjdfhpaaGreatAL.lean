/- Plain laws of the ledger's first words: the program and the reference say the same of names, accounts, ledgers, who votes. Conditions: none. -/
import Derived.Test.YtphaibffjdfhpaaGreatAH
import Derived.Test.YtphaibffjdfhpaaGreatTm3
namespace Go.Proofs.YtphaibffjdfhpaaGreat
open Go Go.Tm
set_option linter.unusedVariables false
set_option maxRecDepth 100000

theorem ite_not {A : Type} {b : Bool} {r n : A} : (bif !b then r else n) = bif b then n else r := by cases b <;> rfl

theorem le_ite {A : Type} {a b : Int} {r n : A} : (bif iLe a b then r else n) = bif iLt b a then n else r := by rw [iLe_lt]; cases iLt b a <;> rfl

theorem ite_tri {A : Type} {a b : ByteArray} {r n : A} : (bif (sLt a b || sEq a b) then r else n) = bif sLt b a then n else r := by rw [sLt_tri]; cases sLt b a <;> rfl
theorem bind_bool {R : Type} {T : Option ((Bool × Unit) × Unit)} {b : Bool} {K : (Bool × Unit) × Unit → Option R} {r : Option R} (h : T = some (B1 b)) (h1 : b = true → K (B1 true) = r) (h0 : b = false → K (B1 false) = r) : T.bind K = r := by
  rw [h]
  cases b
  · exact h0 rfl
  · exact h1 rfl

theorem l1In_ok (n lo hi : Int) : F167 ((n, ()), ((lo, ()), ((hi, ()), ()))) = some (B1 (inR n lo hi)) := inR_ite
theorem inRange_ok (n lo hi : Int) : F172 ((n, ()), ((lo, ()), ((hi, ()), ()))) = some (B1 (inR n lo hi)) := inR_ite

/-- A letter of a name. -/
def letter (b : UInt8) : Bool := inR (UInt8.toNat b : Int) 97 122 || inR (UInt8.toNat b : Int) 48 57
def nameB (s : ByteArray) : Bool := allI (fun _ b => letter b) 0 s.data.toList && inR (s.size : Int) 1 8

theorem sz_list (s : ByteArray) : s.size = s.data.toList.length := rfl

theorem spec_name (s : ByteArray) (hs : s.size ≤ 9223372036854775807) : F169 ((s, ()), ()) = some (B1 (nameB s)) := by
  have lp : loopF (F169.b0 ((s, ()), ())) ((0:Int), ()) = some (bif allI (fun _ b => letter b) 0 s.data.toList then Sum.inl ((s.data.toList.length : Int), ()) else Sum.inr (B1 false)) := by
    refine loopAll (S := Int × Unit) s.data.toList (fun _ b => letter b) (fun k => (k, ())) _ _ (fun i hi => ?_) ?_
    · unfold F169.b0
      dsimp only
      have hb : (UInt8.toNat s.data.toList[i] : Int) < 256 := by have := UInt8.toNat_lt s.data.toList[i]; omega
      rw [sz_list] at hs
      rw [sz_list, iLt_true (by omega), cond_true, getI_lt hi, Option.bind_some, l1In_ok, Option.bind_some, l1In_ok, iAdd_small (by omega) (by omega), wrap64 (by omega) (by omega)]
      unfold letter
      cases inR (UInt8.toNat s.data.toList[i] : Int) 97 122 <;> cases inR (UInt8.toNat s.data.toList[i] : Int) 48 57 <;> rfl
    · unfold F169.b0
      dsimp only
      rw [sz_list, iLt_false (Int.le_refl _), cond_false]
      rfl
  unfold F169
  rw [lp]
  unfold nameB
  cases allI (fun _ b => letter b) 0 s.data.toList
  · rfl
  · exact (congrArg (fun o => Option.bind o _) (l1In_ok _ _ _)).trans rfl

theorem impl_name (s : ByteArray) (hs : s.size ≤ 9223372036854775807) : F174 ((s, ()), ()) = some (B1 (nameB s)) := by
  have lp : loopF (F174.b0 ((s, ()), ())) ((0:Int), ()) = some (bif allI (fun _ b => letter b) 0 s.data.toList then Sum.inl ((s.data.toList.length : Int), ()) else Sum.inr (B1 false)) := by
    refine loopAll (S := Int × Unit) s.data.toList (fun _ b => letter b) (fun k => (k, ())) _ _ (fun i hi => ?_) ?_
    · unfold F174.b0
      dsimp only
      rw [sz_list] at hs
      rw [sz_list, iLt_true (by omega), cond_true, getI_lt hi, iAdd_small (by omega) (by omega)]
      simp only [Option.bind_some]
      unfold letter inR
      cases iLe (97:Int) (UInt8.toNat s.data.toList[i] : Int) <;> cases iLe (UInt8.toNat s.data.toList[i] : Int) (122:Int) <;> cases iLe (48:Int) (UInt8.toNat s.data.toList[i] : Int) <;> cases iLe (UInt8.toNat s.data.toList[i] : Int) (57:Int) <;> rfl
    · unfold F174.b0
      dsimp only
      rw [sz_list, iLt_false (Int.le_refl _), cond_false]
      rfl
  unfold F174
  rw [lp]
  unfold nameB
  cases allI (fun _ b => letter b) 0 s.data.toList
  · rfl
  · exact (congrArg (fun o => Option.bind o _) (inRange_ok _ _ _)).trans rfl

/-- Behind the one before. -/
def behind {A : Type} (lt : A → A → Bool) (xs : List A) (i : Nat) (y : A) : Bool := match i with
  | 0 => true
  | j + 1 => match xs[j]? with
    | some z => lt z y
    | none => true
theorem behind_succ {A : Type} {lt : A → A → Bool} {xs : List A} {j : Nat} {y : A} (h : j < xs.length) : behind lt xs (j + 1) y = lt xs[j] y := by
  simp [behind, List.getElem?_eq_getElem h]
theorem prev_get {A : Type} {xs : List A} {j : Nat} (hl : xs.length ≤ 9223372036854775807) (h : j < xs.length) : getI xs (iSub .i64 ((j + 1 : Nat) : Int) 1) = some xs[j] := by
  rw [iSub_small (by omega) (by omega), show (((j + 1 : Nat) : Int) - 1) = (j : Int) by omega]
  exact getI_lt h

/-- What leaves, in order. -/
def leafP (xs : List (Tys.D e248)) (i : Nat) (y : Tys.D e248) : Bool := inR y.1 1 1000000 && (inR y.2.1 0 1000 && behind (fun z y => iLt z.2.1 y.2.1) xs i y)
def leavesB (xs : List (Tys.D e248)) : Bool := allI (leafP xs) 0 xs

def acctB (a : Tys.D e153) : Bool := nameB a.1 && (inR a.2.1 0 1000000 && (inR a.2.2.1 0 10000 && (inR a.2.2.2.1 0 1000000 && (iLe (List.length a.2.2.2.2.1 : Int) 4 && leavesB a.2.2.2.2.1))))

theorem spec_leaves (n : ByteArray) (f nn st : Int) (xs : List (Tys.D e248)) (hl : xs.length ≤ 9223372036854775807) :
    loopF (F206.b0 ((n, (f, (nn, (st, (xs, ()))))), ())) ((0:Int), ()) = some (bif leavesB xs then Sum.inl ((xs.length : Int), ()) else Sum.inr (B1 false)) := by
  refine loopAll (S := Int × Unit) xs (leafP xs) (fun k => (k, ())) _ _ (fun i hi => ?_) ?_
  · cases i with
    | zero =>
      have e : leafP xs 0 xs[0] = (inR xs[0].1 1 1000000 && (inR xs[0].2.1 0 1000 && true)) := rfl
      rw [e]
      unfold F206.b0
      dsimp only
      rw [iLt_true (by omega), cond_true, getI_lt hi, Option.bind_some, iAdd_small (by omega) (by omega)]
      generalize xs[0] = x
      obtain ⟨y1, y2, _⟩ := x
      refine (bind_eq (l1In_ok _ _ _) ?_)
      dsimp only [B1]
      cases inR y1 1 1000000 with
      | false => rfl
      | true =>
        refine (bind_eq (l1In_ok _ _ _) ?_)
        dsimp only [B1]
        cases inR y2 0 1000 <;> rfl
    | succ j =>
      have e : leafP xs (j + 1) xs[j + 1] = (inR xs[j + 1].1 1 1000000 && (inR xs[j + 1].2.1 0 1000 && iLt xs[j].2.1 xs[j + 1].2.1)) := by
        unfold leafP; rw [behind_succ (by omega)]
      rw [e]
      unfold F206.b0
      dsimp only
      rw [iLt_true (by omega), cond_true, getI_lt hi, Option.bind_some, iAdd_small (by omega) (by omega), iLt_true (a := 0) (by omega), prev_get hl (by omega)]
      generalize xs[j + 1] = x
      generalize xs[j] = z
      obtain ⟨y1, y2, _⟩ := x
      obtain ⟨z1, z2, _⟩ := z
      refine (bind_eq (l1In_ok _ _ _) ?_)
      dsimp only [B1]
      cases inR y1 1 1000000 with
      | false => rfl
      | true =>
        refine (bind_eq (l1In_ok _ _ _) ?_)
        dsimp only [B1]
        cases inR y2 0 1000 with
        | false => rfl
        | true =>
          refine (bind_eq rfl (le_ite.trans ?_))
          cases iLt z2 y2 <;> rfl
  · unfold F206.b0
    dsimp only
    rw [iLt_false (Int.le_refl _), cond_false]
    rfl

theorem spec_acct (a : Tys.D e153) (ha : e153.Ok a) : F206 (a, ()) = some (B1 (acctB a)) := by
  obtain ⟨n, f, nn, st, xs, _⟩ := a
  have hn : n.size ≤ 9223372036854775807 := ha.1
  have hl : List.length (α := Tys.D e248) xs ≤ 9223372036854775807 := ha.2.2.2.2.1.1
  unfold F206 acctB
  dsimp only
  refine bind_eq (spec_name n hn) ?_
  dsimp only [B1]
  cases nameB n with
  | false => rfl
  | true =>
    refine bind_eq (l1In_ok _ _ _) ?_
    dsimp only [B1]
    cases inR f 0 1000000 with
    | false => rfl
    | true =>
      refine bind_eq (l1In_ok _ _ _) ?_
      dsimp only [B1]
      cases inR nn 0 10000 with
      | false => rfl
      | true =>
        refine bind_eq (l1In_ok _ _ _) ?_
        dsimp only [B1]
        cases inR st 0 1000000 with
        | false => rfl
        | true =>
          rw [iLe_lt]
          cases hlt : iLt (4:Int) (List.length (α := Tys.D e248) xs : Int) with
          | true => rfl
          | false =>
            refine bind_eq (spec_leaves n f nn st xs hl) ?_
            cases leavesB xs <;> rfl

theorem impl_leaves (n : ByteArray) (f nn st : Int) (xs : List (Tys.D e248)) (hl : xs.length ≤ 9223372036854775807) :
    loopF (F209.b0 ((n, (f, (nn, (st, (xs, ()))))), ())) ((0:Int), ()) = some (bif leavesB xs then Sum.inl ((xs.length : Int), ()) else Sum.inr (B1 false)) := by
  refine loopAll (S := Int × Unit) xs (leafP xs) (fun k => (k, ())) _ _ (fun i hi => ?_) ?_
  · cases i with
    | zero =>
      have e : leafP xs 0 xs[0] = (inR xs[0].1 1 1000000 && (inR xs[0].2.1 0 1000 && true)) := rfl
      rw [e]
      unfold F209.b0
      dsimp only
      rw [iLt_true (by omega), cond_true, getI_lt hi, Option.bind_some, iAdd_small (by omega) (by omega)]
      generalize xs[0] = x
      obtain ⟨y1, y2, _⟩ := x
      refine (bind_eq (inRange_ok _ _ _) ?_)
      dsimp only [B1]
      cases inR y1 1 1000000 with
      | false => rfl
      | true =>
        refine (bind_eq (inRange_ok _ _ _) ?_)
        dsimp only [B1]
        cases inR y2 0 1000 <;> rfl
    | succ j =>
      have e : leafP xs (j + 1) xs[j + 1] = (inR xs[j + 1].1 1 1000000 && (inR xs[j + 1].2.1 0 1000 && iLt xs[j].2.1 xs[j + 1].2.1)) := by
        unfold leafP; rw [behind_succ (by omega)]
      rw [e]
      unfold F209.b0
      dsimp only
      rw [iLt_true (by omega), cond_true, getI_lt hi, Option.bind_some, iAdd_small (by omega) (by omega), iLt_true (a := 0) (by omega), prev_get hl (by omega)]
      generalize xs[j + 1] = x
      generalize xs[j] = z
      obtain ⟨y1, y2, _⟩ := x
      obtain ⟨z1, z2, _⟩ := z
      refine (bind_eq (inRange_ok _ _ _) ?_)
      dsimp only [B1]
      cases inR y1 1 1000000 with
      | false => rfl
      | true =>
        refine (bind_eq (inRange_ok _ _ _) ?_)
        dsimp only [B1]
        cases inR y2 0 1000 with
        | false => rfl
        | true =>
          refine (bind_eq rfl (le_ite.trans ?_))
          cases iLt z2 y2 <;> rfl
  · unfold F209.b0
    dsimp only
    rw [iLt_false (Int.le_refl _), cond_false]
    rfl

theorem amount_ok (n : Int) : F230 ((n, ()), ()) = some (B1 (inR n 0 1000000)) := by
  unfold F230
  exact bind_eq (inRange_ok _ _ _) rfl

theorem impl_acct (a : Tys.D e153) (ha : e153.Ok a) : F209 (a, ()) = some (B1 (acctB a)) := by
  obtain ⟨n, f, nn, st, xs, _⟩ := a
  have hn : n.size ≤ 9223372036854775807 := ha.1
  have hl : List.length (α := Tys.D e248) xs ≤ 9223372036854775807 := ha.2.2.2.2.1.1
  unfold F209 acctB
  dsimp only
  refine bind_eq (impl_leaves n f nn st xs hl) ?_
  cases leavesB xs with
  | false =>
    cases nameB n <;> cases inR f 0 1000000 <;> cases inR nn 0 10000 <;> cases inR st 0 1000000 <;> cases iLe (List.length (α := Tys.D e248) xs : Int) 4 <;> rfl
  | true =>
    refine bind_eq (impl_name n hn) ?_
    dsimp only [B1]
    cases nameB n with
    | false => rfl
    | true =>
      refine bind_eq (amount_ok _) ?_
      dsimp only [B1]
      cases inR f 0 1000000 with
      | false => rfl
      | true =>
        refine bind_eq (amount_ok _) ?_
        dsimp only [B1]
        cases inR st 0 1000000 with
        | false => cases inR nn 0 10000 <;> rfl
        | true =>
          refine bind_eq (inRange_ok _ _ _) ?_
          dsimp only [B1]
          cases inR nn 0 10000 with
          | false => rfl
          | true => cases iLe (List.length (α := Tys.D e248) xs : Int) 4 <;> rfl

/-- What all have. -/
def addL (n : Int) (xs : List (Tys.D e248)) (k : Nat) : Int := valAt xs (fun _ s y => iAdd .i64 s y.1) n k
theorem addL_add (xs : List (Tys.D e248)) (n m : Int) : ∀ k, addL (iAdd .i64 n m) xs k = iAdd .i64 n (addL m xs k)
  | 0 => rfl
  | k + 1 => by
    unfold addL
    simp only [valAt]
    cases xs[k]? with
    | none => exact addL_add xs n m k
    | some x => exact (congrArg (fun z => iAdd .i64 z x.1) (addL_add xs n m k)).trans (iAdd_assoc _ _ _)
def ofA (a : Tys.D e153) : Int := addL (iAdd .i64 a.2.1 a.2.2.2.1) a.2.2.2.2.1 (List.length a.2.2.2.2.1)
def wealth (xs : List (Tys.D e153)) : Int := valAt xs (fun _ s y => iAdd .i64 s (ofA y)) 0 xs.length

theorem spec_of (n : ByteArray) (f nn st : Int) (xs : List (Tys.D e248)) (hl : xs.length ≤ 9223372036854775807) : F228 ((n, (f, (nn, (st, (xs, ()))))), ()) = some ((addL (iAdd .i64 f st) xs xs.length, ()), ()) := by
  have lp : loopF (F228.b0 ((n, (f, (nn, (st, (xs, ()))))), ())) (iAdd .i64 f st, ((0:Int), ())) = some (.inl (addL (iAdd .i64 f st) xs xs.length, ((xs.length : Int), ()))) := by
    refine loopVal (S := Int × (Int × Unit)) xs (fun _ s y => iAdd .i64 s y.1) (fun a i => (a, (i, ()))) (fun a => Sum.inl (a, ((xs.length : Int), ()))) _ (fun i hi a => ?_) (fun a => ?_)
    · unfold F228.b0
      dsimp only
      rw [iLt_true (by omega), cond_true, getI_lt hi, Option.bind_some, iAdd_small (a := (i : Int)) (by omega) (by omega)]
      rfl
    · unfold F228.b0
      dsimp only
      rw [iLt_false (Int.le_refl _), cond_false]
  unfold F228
  exact bind_eq lp rfl

theorem ok_leaves {a : Tys.D e153} (ha : e153.Ok a) : List.length (α := Tys.D e248) a.2.2.2.2.1 ≤ 9223372036854775807 := ha.2.2.2.2.1.1

theorem spec_wealth (xs : List (Tys.D e153)) (hx : (Ty.sl e153).Ok xs) : F207 ((xs, ()), ()) = some ((wealth xs, ()), ()) := by
  have hl : xs.length ≤ 9223372036854775807 := hx.1
  have lp : loopF (F207.b0 ((xs, ()), ())) ((0:Int), ((0:Int), ())) = some (.inl (wealth xs, ((xs.length : Int), ()))) := by
    refine loopVal (S := Int × (Int × Unit)) xs (fun _ s y => iAdd .i64 s (ofA y)) (fun a i => (a, (i, ()))) (fun a => Sum.inl (a, ((xs.length : Int), ()))) _ (fun i hi a => ?_) (fun a => ?_)
    · unfold F207.b0
      dsimp only
      rw [iLt_true (by omega), cond_true, getI_lt hi, Option.bind_some, iAdd_small (a := (i : Int)) (by omega) (by omega)]
      have hk := ok_leaves (Ok_mem hx.2 (List.getElem_mem hi))
      generalize xs[i] = x at hk ⊢
      obtain ⟨n, f, nn, st, ls, _⟩ := x
      exact bind_eq (spec_of n f nn st ls hk) rfl
    · unfold F207.b0
      dsimp only
      rw [iLt_false (Int.le_refl _), cond_false]
  unfold F207
  exact bind_eq lp rfl

theorem impl_wealth (xs : List (Tys.D e153)) (hx : (Ty.sl e153).Ok xs) : F210 ((xs, ()), ()) = some ((wealth xs, ()), ()) := by
  have hl : xs.length ≤ 9223372036854775807 := hx.1
  have inner : ∀ (n : ByteArray) (f nn st : Int) (ls : List (Tys.D e248)) (s : Int), ls.length ≤ 9223372036854775807 → loopF (F210.b1 (n, (f, (nn, (st, (ls, ())))))) (s, ((0:Int), ())) = some (.inl (addL s ls ls.length, ((ls.length : Int), ()))) := by
    intro n f nn st ls s hls
    refine loopVal (S := Int × (Int × Unit)) ls (fun _ s y => iAdd .i64 s y.1) (fun a i => (a, (i, ()))) (fun a => Sum.inl (a, ((ls.length : Int), ()))) _ (fun i hi a => ?_) (fun a => ?_)
    · unfold F210.b1
      dsimp only
      rw [iLt_true (by omega), cond_true, getI_lt hi, Option.bind_some, iAdd_small (a := (i : Int)) (by omega) (by omega)]
      rfl
    · unfold F210.b1
      dsimp only
      rw [iLt_false (Int.le_refl _), cond_false]
  have lp : loopF (F210.b0 ((xs, ()), ())) ((0:Int), ((0:Int), ())) = some (.inl (wealth xs, ((xs.length : Int), ()))) := by
    refine loopVal (S := Int × (Int × Unit)) xs (fun _ s y => iAdd .i64 s (ofA y)) (fun a i => (a, (i, ()))) (fun a => Sum.inl (a, ((xs.length : Int), ()))) _ (fun i hi a => ?_) (fun a => ?_)
    · unfold F210.b0
      dsimp only
      rw [iLt_true (by omega), cond_true, getI_lt hi, Option.bind_some, iAdd_small (a := (i : Int)) (by omega) (by omega)]
      have hk := ok_leaves (Ok_mem hx.2 (List.getElem_mem hi))
      generalize xs[i] = x at hk ⊢
      obtain ⟨n, f, nn, st, ls, _⟩ := x
      refine bind_eq (inner n f nn st ls _ hk) ?_
      exact congrArg (fun z => some (Sum.inl (z, (((i : Int) + 1), ())))) (addL_add ls a (iAdd .i64 f st) _)
    · unfold F210.b0
      dsimp only
      rw [iLt_false (Int.le_refl _), cond_false]
  unfold F210
  exact bind_eq lp rfl

def acctP (xs : List (Tys.D e153)) (i : Nat) (y : Tys.D e153) : Bool := acctB y && behind (fun z y => sLt z.1 y.1) xs i y
def acctsB (xs : List (Tys.D e153)) : Bool := allI (acctP xs) 0 xs && (iLe (xs.length : Int) 12 && iLe (wealth xs) 1000000)
def ledgerB (x : Int × (List (Tys.D e153) × Unit)) : Bool := inR x.1 0 900 && acctsB x.2.1

theorem spec_accts (xs : List (Tys.D e153)) (hx : (Ty.sl e153).Ok xs) : F168 ((xs, ()), ()) = some (B1 (acctsB xs)) := by
  have hl : xs.length ≤ 9223372036854775807 := hx.1
  have lp : loopF (F168.b0 ((xs, ()), ())) ((0:Int), ()) = some (bif allI (acctP xs) 0 xs then Sum.inl ((xs.length : Int), ()) else Sum.inr (B1 false)) := by
    refine loopAll (S := Int × Unit) xs (acctP xs) (fun k => (k, ())) _ _ (fun i hi => ?_) ?_
    · cases i with
      | zero =>
        have e : acctP xs 0 xs[0] = (acctB xs[0] && true) := rfl
        rw [e]
        unfold F168.b0
        dsimp only
        rw [iLt_true (by omega), cond_true, getI_lt hi, Option.bind_some, iAdd_small (by omega) (by omega)]
        refine bind_eq (spec_acct _ (Ok_mem hx.2 (List.getElem_mem hi))) ?_
        cases acctB xs[0] <;> rfl
      | succ j =>
        have e : acctP xs (j + 1) xs[j + 1] = (acctB xs[j + 1] && sLt xs[j].1 xs[j + 1].1) := by
          unfold acctP; rw [behind_succ (by omega)]
        rw [e]
        unfold F168.b0
        dsimp only
        rw [iLt_true (by omega), cond_true, getI_lt hi, Option.bind_some, iAdd_small (by omega) (by omega), iLt_true (a := 0) (by omega), prev_get hl (by omega)]
        refine bind_eq (spec_acct _ (Ok_mem hx.2 (List.getElem_mem hi))) ?_
        cases acctB xs[j + 1] with
        | false => rfl
        | true =>
          refine Eq.trans (b := bif !sLt xs[j].1 xs[j + 1].1 then some (.inr (.inr (B1 false))) else some (.inl (((j + 1 : Nat) : Int) + 1, ()))) rfl ?_
          cases sLt xs[j].1 xs[j + 1].1 <;> rfl
    · unfold F168.b0
      dsimp only
      rw [iLt_false (Int.le_refl _), cond_false]
      rfl
  unfold F168 acctsB
  refine bind_eq lp ?_
  cases allI (acctP xs) 0 xs with
  | false => rfl
  | true =>
    dsimp only [cond_true, Sum.elim_inl]
    cases iLe (xs.length : Int) 12 with
    | false => rfl
    | true => exact bind_eq (spec_wealth xs hx) rfl

theorem impl_accts (xs : List (Tys.D e153)) (hx : (Ty.sl e153).Ok xs) : F173 ((xs, ()), ()) = some (B1 (acctsB xs)) := by
  have hl : xs.length ≤ 9223372036854775807 := hx.1
  have lp : loopF (F173.b0 ((xs, ()), ())) ((0:Int), ()) = some (bif allI (acctP xs) 0 xs then Sum.inl ((xs.length : Int), ()) else Sum.inr (B1 false)) := by
    refine loopAll (S := Int × Unit) xs (acctP xs) (fun k => (k, ())) _ _ (fun i hi => ?_) ?_
    · cases i with
      | zero =>
        have e : acctP xs 0 xs[0] = (acctB xs[0] && true) := rfl
        rw [e]
        unfold F173.b0
        dsimp only
        rw [iLt_true (by omega), cond_true, getI_lt hi, Option.bind_some, iAdd_small (by omega) (by omega)]
        refine bind_eq (impl_acct _ (Ok_mem hx.2 (List.getElem_mem hi))) ?_
        cases acctB xs[0] <;> rfl
      | succ j =>
        have e : acctP xs (j + 1) xs[j + 1] = (acctB xs[j + 1] && sLt xs[j].1 xs[j + 1].1) := by
          unfold acctP; rw [behind_succ (by omega)]
        rw [e]
        unfold F173.b0
        dsimp only
        rw [iLt_true (by omega), cond_true, getI_lt hi, Option.bind_some, iAdd_small (by omega) (by omega), iLt_true (a := 0) (by omega), prev_get hl (by omega)]
        refine bind_eq (impl_acct _ (Ok_mem hx.2 (List.getElem_mem hi))) ?_
        cases acctB xs[j + 1] with
        | false => rfl
        | true =>
          refine Eq.trans (b := bif (sLt xs[j + 1].1 xs[j].1 || sEq xs[j + 1].1 xs[j].1) then some (.inr (.inr (B1 false))) else some (.inl (((j + 1 : Nat) : Int) + 1, ()))) rfl (Eq.trans (b := bif sLt xs[j].1 xs[j + 1].1 then some (.inl (((j + 1 : Nat) : Int) + 1, ())) else some (.inr (.inr (B1 false)))) ite_tri ?_)
          cases sLt xs[j].1 xs[j + 1].1 <;> rfl
    · unfold F173.b0
      dsimp only
      rw [iLt_false (Int.le_refl _), cond_false]
      rfl
  unfold F173 acctsB
  refine bind_eq lp ?_
  cases allI (acctP xs) 0 xs with
  | false => rfl
  | true =>
    dsimp only [cond_true, Sum.elim_inl]
    cases iLe (xs.length : Int) 12 with
    | false => rfl
    | true => exact bind_eq (impl_wealth xs hx) rfl

theorem spec_ledger (x : Int × (List (Tys.D e153) × Unit)) (hx : (Ty.sl e153).Ok x.2.1) : F96 (x, ()) = some (B1 (ledgerB x)) := by
  unfold F96 ledgerB
  refine bind_eq (l1In_ok _ _ _) ?_
  cases inR x.1 0 900 with
  | false => rfl
  | true => exact bind_eq (spec_accts _ hx) rfl
theorem impl_ledger (x : Int × (List (Tys.D e153) × Unit)) (hx : (Ty.sl e153).Ok x.2.1) : F102 (x, ()) = some (B1 (ledgerB x)) := by
  unfold F102 ledgerB
  refine bind_eq (inRange_ok _ _ _) ?_
  cases inR x.1 0 900 with
  | false => rfl
  | true => exact bind_eq (impl_accts _ hx) rfl

/-- Who votes. -/
def setStep (s : List (Tys.D e188)) (y : Tys.D e153) : List (Tys.D e188) := bif iLe 5 y.2.2.2.1 then s ++ ([(y.1, (y.2.2.2.1, ()))] : List (Tys.D e188)) else s
def setL (xs : List (Tys.D e153)) : List (Tys.D e188) := valAt xs (fun _ s y => setStep s y) [] xs.length

theorem setStep_len (s : List (Tys.D e188)) (y : Tys.D e153) {i : Nat} (h : s.length ≤ i) : (setStep s y).length ≤ i + 1 := by
  unfold setStep
  cases iLe 5 y.2.2.2.1 with
  | false => exact Nat.le_succ_of_le h
  | true =>
    rw [cond_true, List.length_append]
    exact Nat.add_le_add h (Nat.le_refl 1)

theorem room_small {n b : Nat} (h1 : n ≤ 1048577) (h2 : b ≤ 1000) (h3 : 0 < b) : room n b = true := by
  unfold room
  refine decide_eq_true ⟨?_, h3⟩
  have : n * b ≤ 1048577 * 1000 := Nat.mul_le_mul h1 h2
  omega

theorem spec_set (n : Int) (xs : List (Tys.D e153)) (hl : xs.length ≤ 1048576) : F159 ((n, (xs, ())), ()) = some ((setL xs, ()), ()) ∧ (setL xs).length ≤ xs.length := by
  have lp := loopValI (S := List (Tys.D e188) × (Int × Unit)) (f := F159.b0 ((n, (xs, ())), ())) xs (fun _ s y => setStep s y) (fun i s => s.length ≤ i) (fun a i => (a, (i, ()))) (fun a => Sum.inl (a, ((xs.length : Int), ()))) [] (Nat.le_refl _) (fun i hi a ha => ?_) (fun a _ => ?_)
  · refine ⟨?_, lp.2⟩
    unfold F159
    exact bind_eq lp.1 rfl
  · refine ⟨?_, setStep_len _ _ ha⟩
    unfold F159.b0
    dsimp only
    rw [iLt_true (by omega), cond_true, getI_lt hi, iAdd_small (by omega) (by omega)]
    simp only [Option.bind_some]
    unfold setStep
    cases iLe 5 xs[i].2.2.2.1 with
    | false => rfl
    | true =>
      refine (congrArg (fun b => bif b then _ else none) (room_small (n := a.length + 1) (b := 24) (by omega) (by decide) (by decide))).trans ?_
      rfl
  · unfold F159.b0
    dsimp only
    rw [iLt_false (Int.le_refl _), cond_false]

theorem impl_set (n : Int) (xs : List (Tys.D e153)) (hl : xs.length ≤ 1048576) (hx : (Ty.sl e153).Ok xs) : F91 ((n, (xs, ())), ()) = some ((bif ledgerB (n, (xs, ())) then setL xs else [], ()), ()) := by
  unfold F91
  refine bind_bool (impl_ledger _ hx) (fun hb => ?_) (fun hb => by rw [show ledgerB (n, (xs, ())) = false from hb]; rfl)
  rw [show ledgerB (n, (xs, ())) = true from hb]
  have lp := loopValI (S := List (Tys.D e188) × (Int × Unit)) (f := F91.b0 ((n, (xs, ())), ())) xs (fun _ s y => setStep s y) (fun i s => s.length ≤ i) (fun a i => (a, (i, ()))) (fun a => Sum.inl (a, ((xs.length : Int), ()))) [] (Nat.le_refl _) (fun i hi a ha => ?_) (fun a _ => ?_)
  · exact bind_eq lp.1 rfl
  · refine ⟨?_, setStep_len _ _ ha⟩
    unfold F91.b0
    dsimp only
    rw [iLt_true (by omega), cond_true, getI_lt hi, iAdd_small (by omega) (by omega)]
    simp only [Option.bind_some]
    unfold setStep
    cases iLe 5 xs[i].2.2.2.1 with
    | false => rfl
    | true =>
      refine (congrArg (fun b => bif b then _ else none) (room_small (n := a.length + 1) (b := 24) (by omega) (by decide) (by decide))).trans ?_
      rfl
  · unfold F91.b0
    dsimp only
    rw [iLt_false (Int.le_refl _), cond_false]
end Go.Proofs.YtphaibffjdfhpaaGreat
