/- Plain laws of weights: the program and the reference weigh those who vote alike. Conditions: none. -/
import Derived.Test.YtphaibffjdfhpaaGreatAL
namespace Go.Proofs.YtphaibffjdfhpaaGreat
open Go Go.Tm
set_option linter.unusedVariables false
set_option maxRecDepth 100000

theorem lt_then {A : Type} {a b : Int} {t e r : A} (h : a < b) (h2 : t = r) : (bif iLt a b then t else e) = r := by rw [iLt_true h]; exact h2
theorem lt_else {A : Type} {a b : Int} {t e r : A} (h : b ≤ a) (h2 : e = r) : (bif iLt a b then t else e) = r := by rw [iLt_false h]; exact h2
theorem if_bool {A : Type} {b : Bool} {t e r : A} (h1 : b = true → t = r) (h0 : b = false → e = r) : (bif b then t else e) = r := by
  cases b
  · exact h0 rfl
  · exact h1 rfl
theorem st1 {A F : Type} {a a' : A} (h1 : a = a') : (some (Sum.inl (a, ())) : Option (Sum (A × Unit) F)) = some (Sum.inl (a', ())) := by rw [h1]
theorem st2 {A B F : Type} {a a' : A} {b b' : B} (h1 : a = a') (h2 : b = b') : (some (Sum.inl (a, (b, ()))) : Option (Sum (A × (B × Unit)) F)) = some (Sum.inl (a', (b', ()))) := by rw [h1, h2]
theorem nx {i n : Nat} (h : i < n) (hn : n ≤ 9223372036854775807) : iAdd .i64 (i : Int) 1 = ((i + 1 : Nat) : Int) := iAdd_small (by omega) (by omega)

/-- A loop that ends at the first that is not so, telling where. -/
theorem loopAllR {S E A : Type} (xs : List A) (p : Nat → A → Bool) {f : S → Option (Sum S E)} (mk : Int → S) (e : E) (R : Nat → E) (hstep : ∀ i (h : i < xs.length), f (mk (i : Int)) = bif p i xs[i] then some (.inl (mk ((i + 1 : Nat) : Int))) else some (.inr (R i))) (hend : f (mk (xs.length : Int)) = some (.inr e)) :
    ∃ j, loopF f (mk 0) = some (bif allI p 0 xs then e else R j) := by
  have key : ∀ (suf : List A) (k : Nat), xs.drop k = suf → k + suf.length = xs.length → ∃ j, loopF f (mk (k : Int)) = some (bif allI p k suf then e else R j) := by
    intro suf
    induction suf with
    | nil =>
      intro k _ hk
      refine ⟨0, ?_⟩
      rw [show k = xs.length by simpa using hk, loopF_end hend]
      rfl
    | cons x suf ih =>
      intro k hd hk
      have hlt : k < xs.length := by simp at hk; omega
      have hx : xs[k] = x := by
        have : (xs.drop k)[0]? = some x := by rw [hd]; rfl
        rw [List.getElem?_drop] at this
        simpa [hlt] using this
      have h1 := hstep k hlt
      rw [hx] at h1
      simp only [allI]
      cases hp : p k x with
      | true =>
        rw [hp] at h1
        rw [loopF_step h1]
        obtain ⟨j, hj⟩ := ih (k + 1) (by
          have := congrArg (List.drop 1) hd
          simpa [List.drop_drop] using this) (by simp at hk; omega)
        exact ⟨j, hj.trans (by simp)⟩
      | false =>
        rw [hp] at h1
        exact ⟨k, by rw [loopF_end h1]; rfl⟩
  exact key xs 0 rfl (by simp)

theorem sEq_comm (a b : ByteArray) : sEq a b = sEq b a := by
  unfold sEq
  exact BEq.comm

def hasB (names : List (Tys.D e9)) (s : ByteArray) : Bool := !allI (fun _ n => !sEq n.1 s) 0 names

theorem spec_has (names : List (Tys.D e9)) (s : ByteArray) (hl : names.length ≤ 9223372036854775807) : F99 ((names, ()), ((s, ()), ())) = some (B1 (hasB names s)) := by
  have lp : loopF (F99.b0 ((names, ()), ((s, ()), ()))) ((0:Int), ()) = some (bif allI (fun _ n => !sEq n.1 s) 0 names then Sum.inl ((names.length : Int), ()) else Sum.inr (B1 true)) := by
    refine loopAll (S := Int × Unit) names (fun _ n => !sEq n.1 s) (fun k => (k, ())) _ _ (fun i hi => ?_) ?_
    · unfold F99.b0
      refine lt_then (Int.ofNat_lt.2 hi) (bind_eq (getI_lt hi) ?_)
      refine (if_bool (fun h => ?_) (fun h => ?_))
      · rw [show (!sEq names[i].1 s) = false by rw [show sEq names[i].1 s = true from h]; rfl]; rfl
      · rw [show (!sEq names[i].1 s) = true by rw [show sEq names[i].1 s = false from h]; rfl]
        exact st1 (nx hi hl)
    · unfold F99.b0
      exact lt_else (Int.le_refl _) rfl
  unfold F99 hasB
  refine bind_eq lp ?_
  cases allI (fun _ n => !sEq n.1 s) 0 names <;> rfl

theorem impl_has (names : List (Tys.D e9)) (s : ByteArray) (hl : names.length ≤ 9223372036854775807) : F106 ((names, ()), ((s, ()), ())) = some (B1 (hasB names s)) := by
  have lp : ∃ j, loopF (F176.b0 ((names, ()), ((s, ()), ()))) ((0:Int), ()) = some (bif allI (fun _ n => !sEq n.1 s) 0 names then Sum.inl ((names.length : Int), ()) else Sum.inr ((((j : Nat) : Int), ()), ())) := by
    refine loopAllR (S := Int × Unit) names (fun _ n => !sEq n.1 s) (fun k => (k, ())) _ (fun j => Sum.inr ((((j : Nat) : Int), ()), ())) (fun i hi => ?_) ?_
    · unfold F176.b0
      refine lt_then (Int.ofNat_lt.2 hi) (bind_eq (getI_lt hi) ?_)
      refine (if_bool (fun h => ?_) (fun h => ?_))
      · rw [show (!sEq names[i].1 s) = false from congrArg (fun b => !b) ((sEq_comm _ _).trans h)]; rfl
      · rw [show (!sEq names[i].1 s) = true from congrArg (fun b => !b) ((sEq_comm _ _).trans h)]
        exact st1 (nx hi hl)
    · unfold F176.b0
      exact lt_else (Int.le_refl _) rfl
  obtain ⟨j, lp⟩ := lp
  have hi : ∃ n : Int, F176 ((names, ()), ((s, ()), ())) = some ((n, ()), ()) ∧ iLe 0 n = hasB names s := by
    unfold F176 hasB
    cases ha : allI (fun _ n => !sEq n.1 s) 0 names with
    | true => rw [ha] at lp; exact ⟨-1, bind_eq lp rfl, rfl⟩
    | false => rw [ha] at lp; exact ⟨(j : Int), bind_eq lp rfl, decide_eq_true (by omega)⟩
  obtain ⟨n, h1, h2⟩ := hi
  unfold F106
  refine bind_eq h1 ?_
  show some ((iLe 0 n, ()), ()) = _
  rw [h2]

def weight (xs : List (Tys.D e188)) (names : List (Tys.D e9)) : Int := valAt xs (fun _ n v => bif hasB names v.1 then iAdd .i64 n v.2.1 else n) 0 xs.length
def total (xs : List (Tys.D e188)) : Int := valAt xs (fun _ n v => iAdd .i64 n v.2.1) 0 xs.length
def lessB (xs : List (Tys.D e188)) (names : List (Tys.D e9)) : Bool := iLt (iMul .i64 3 (weight xs names)) (total xs)

theorem spec_weight (xs : List (Tys.D e188)) (names : List (Tys.D e9)) (hx : xs.length ≤ 9223372036854775807) (hl : names.length ≤ 9223372036854775807) : F157 ((xs, ()), ((names, ()), ())) = some ((weight xs names, ()), ()) := by
  have lp : loopF (F157.b0 ((xs, ()), ((names, ()), ()))) ((0:Int), ((0:Int), ())) = some (.inl (weight xs names, ((xs.length : Int), ()))) := by
    refine loopVal (S := Int × (Int × Unit)) xs (fun _ n v => bif hasB names v.1 then iAdd .i64 n v.2.1 else n) (fun a i => (a, (i, ()))) (fun a => Sum.inl (a, ((xs.length : Int), ()))) _ (fun i hi a => ?_) (fun a => ?_)
    · unfold F157.b0
      refine lt_then (Int.ofNat_lt.2 hi) (bind_eq (getI_lt hi) (bind_bool (spec_has names _ hl) (fun h => ?_) (fun h => ?_)))
      · rw [show hasB names xs[i].1 = true from h]
        exact bind_eq (getI_lt hi) (st2 rfl (nx hi hx))
      · rw [show hasB names xs[i].1 = false from h]
        exact st2 rfl (nx hi hx)
    · unfold F157.b0
      exact lt_else (Int.le_refl _) rfl
  unfold F157
  exact bind_eq lp rfl
theorem impl_weight (xs : List (Tys.D e188)) (names : List (Tys.D e9)) (hx : xs.length ≤ 9223372036854775807) (hl : names.length ≤ 9223372036854775807) : F162 ((xs, ()), ((names, ()), ())) = some ((weight xs names, ()), ()) := by
  have lp : loopF (F162.b0 ((xs, ()), ((names, ()), ()))) ((0:Int), ((0:Int), ())) = some (.inl (weight xs names, ((xs.length : Int), ()))) := by
    refine loopVal (S := Int × (Int × Unit)) xs (fun _ n v => bif hasB names v.1 then iAdd .i64 n v.2.1 else n) (fun a i => (a, (i, ()))) (fun a => Sum.inl (a, ((xs.length : Int), ()))) _ (fun i hi a => ?_) (fun a => ?_)
    · unfold F162.b0
      refine lt_then (Int.ofNat_lt.2 hi) (bind_eq (getI_lt hi) (bind_bool (impl_has names _ hl) (fun h => ?_) (fun h => ?_)))
      · rw [show hasB names xs[i].1 = true from h]
        exact st2 rfl (nx hi hx)
      · rw [show hasB names xs[i].1 = false from h]
        exact st2 rfl (nx hi hx)
    · unfold F162.b0
      exact lt_else (Int.le_refl _) rfl
  unfold F162
  exact bind_eq lp rfl
theorem spec_total (xs : List (Tys.D e188)) (hx : xs.length ≤ 9223372036854775807) : F158 ((xs, ()), ()) = some ((total xs, ()), ()) := by
  have lp : loopF (F158.b0 ((xs, ()), ())) ((0:Int), ((0:Int), ())) = some (.inl (total xs, ((xs.length : Int), ()))) := by
    refine loopVal (S := Int × (Int × Unit)) xs (fun _ n v => iAdd .i64 n v.2.1) (fun a i => (a, (i, ()))) (fun a => Sum.inl (a, ((xs.length : Int), ()))) _ (fun i hi a => ?_) (fun a => ?_)
    · unfold F158.b0
      exact lt_then (Int.ofNat_lt.2 hi) (bind_eq (getI_lt hi) (st2 rfl (nx hi hx)))
    · unfold F158.b0
      exact lt_else (Int.le_refl _) rfl
  unfold F158
  exact bind_eq lp rfl
theorem impl_total (xs : List (Tys.D e188)) (hx : xs.length ≤ 9223372036854775807) : F163 ((xs, ()), ()) = some ((total xs, ()), ()) := by
  have lp : loopF (F163.b0 ((xs, ()), ())) ((0:Int), ((0:Int), ())) = some (.inl (total xs, ((xs.length : Int), ()))) := by
    refine loopVal (S := Int × (Int × Unit)) xs (fun _ n v => iAdd .i64 n v.2.1) (fun a i => (a, (i, ()))) (fun a => Sum.inl (a, ((xs.length : Int), ()))) _ (fun i hi a => ?_) (fun a => ?_)
    · unfold F163.b0
      exact lt_then (Int.ofNat_lt.2 hi) (bind_eq (getI_lt hi) (st2 rfl (nx hi hx)))
    · unfold F163.b0
      exact lt_else (Int.le_refl _) rfl
  unfold F163
  exact bind_eq lp rfl
end Go.Proofs.YtphaibffjdfhpaaGreat
