/- A machine over plain data, part 4: what it gives is shown to be what the program's functions return. Conditions: none. -/
import Derived.Test.YtphaibffjdfhpaaGreatTm3
set_option linter.unusedVariables false
/- Plain words: marks of any kind of data. -/
namespace Go.Tm
open Go

theorem getN_nat {A : Type} {xs : List A} {i : Nat} (h : i < xs.length) : getN xs (Int.toNat (i : Int)) = some xs[i] := by
  rw [Int.toNat_natCast, getN_lt h]
theorem getI_set {A : Type} {xs : List A} {i : Nat} {a : A} (h : i < xs.length) : getI (List.set xs (Int.toNat (i : Int)) a) (i : Int) = some a := by
  rw [Int.toNat_natCast, getI_lt (by rw [List.length_set]; exact h)]; simp
theorem getN_set {A : Type} {xs : List A} {i : Nat} {a : A} (h : i < xs.length) : getN (List.set xs (Int.toNat (i : Int)) a) (Int.toNat (i : Int)) = some a := by
  rw [Int.toNat_natCast, getN_lt (by rw [List.length_set]; exact h)]; simp
theorem len_set {A : Type} {xs : List A} {i n : Nat} {a : A} (h : i < xs.length) : i < (List.set xs n a).length := by rw [List.length_set]; exact h
theorem set_last {A : Type} {xs ys : List A} {i : Nat} {a b : A} (h : List.set ys i b = List.set xs i b) : List.set (List.set ys (Int.toNat (i : Int)) a) (Int.toNat (i : Int)) b = List.set xs i b := by
  rw [Int.toNat_natCast, List.set_set, h]
theorem set_one {A : Type} {xs : List A} {i : Nat} {a b : A} : List.set (List.set xs (Int.toNat (i : Int)) a) i b = List.set xs i b := by
  rw [Int.toNat_natCast, List.set_set]
theorem set_nat {A : Type} {xs : List A} {i : Nat} {b : A} : List.set xs (Int.toNat (i : Int)) b = List.set xs i b := by
  rw [Int.toNat_natCast]
theorem st3 {A B C F : Type} {a a' : A} {b b' : B} {c c' : C} (h1 : a = a') (h2 : b = b') (h3 : c = c') : (some (Sum.inl (a, (b, (c, ())))) : Option (Sum (A × (B × (C × Unit))) F)) = some (Sum.inl (a', (b', (c', ())))) := by rw [h1, h2, h3]
theorem lt_then {A : Type} {a b : Int} {t e r : A} (h : a < b) (h2 : t = r) : (bif iLt a b then t else e) = r := by rw [iLt_true h]; exact h2
theorem lt_else {A : Type} {a b : Int} {t e r : A} (h : b ≤ a) (h2 : e = r) : (bif iLt a b then t else e) = r := by rw [iLt_false h]; exact h2
theorem no_then {A : Type} {b : Bool} {t e r : A} (h : b = false) (h2 : e = r) : (bif b then t else e) = r := by rw [h]; exact h2
theorem nx {i n : Nat} (h : i < n) (hn : n ≤ 9223372036854775807) : iAdd .i64 (i : Int) 1 = ((i + 1 : Nat) : Int) := iAdd_small (by omega) (by omega)

/-- The greatest number that is put. -/
abbrev bigM : Int := 4611686018427387904
theorem up1 {k : Int} (h : 0 ≤ k) (h2 : k + ((1 : Nat) : Int) ≤ bigM) : iAdd .i64 k 1 = k + ((1 : Nat) : Int) := by
  rw [iAdd_small (by omega) (by unfold bigM at h2; omega)]; omega

mutual
/-- How many numbers are put into it. -/
def Ty.ct : (t : Ty) → t.D → Nat
  | .int _, _ => 1
  | .bool, _ => 1
  | .str, _ => 1
  | .sl es, xs => sumW (fun x => es.ct x) xs
  | .fn _ _ _, _ => 0
def Tys.ct : (ts : Tys) → ts.D → Nat
  | .nil, _ => 0
  | .cons t ts, x => t.ct x.1 + ts.ct x.2
end

mutual
/-- What it is once numbers are put into it from one on; 'mt': the words of numbers. -/
def Ty.mt (mt : Int → ByteArray) : (t : Ty) → Int → t.D → t.D
  | .int _, k, _ => k
  | .bool, k, _ => iEq (iRem k 3) 0
  | .str, k, _ => mt k
  | .sl es, k, xs => markL (fun x => es.ct x) (fun k x => es.mt mt k x) xs k
  | .fn _ _ _, _, g => g
def Tys.mt (mt : Int → ByteArray) : (ts : Tys) → Int → ts.D → ts.D
  | .nil, _, _ => ()
  | .cons t ts, k, x => (t.mt mt k x.1, ts.mt mt (k + ((t.ct x.1 : Nat) : Int)) x.2)
end

section
variable {S E : Type}
/-- As loopMark, of what is so of all elements to begin with. -/
theorem loopMarkP {A : Type} (Pr : A → Prop) (c : A → Nat) (m : Int → A → A) {f : S → Option (Sum S E)} (mk : Int → Int → List A → S) (End : Int → List A → E) (B : Int) (xs : List A) (hP : ∀ x ∈ xs, Pr x)
    (hstep : ∀ i (ys : List A) (h : i < ys.length) k, ys.length = xs.length → Pr ys[i] → 1 ≤ k → k + c ys[i] ≤ B → f (mk k (i : Int) ys) = some (.inl (mk (k + c ys[i]) ((i + 1 : Nat) : Int) (ys.set i (m k ys[i])))))
    (hend : ∀ k (ys : List A), f (mk k (ys.length : Int) ys) = some (.inr (End k ys))) (k : Int) (hk : 1 ≤ k) (hb : k + sumW c xs ≤ B) :
    loopF f (mk k 0 xs) = some (End (k + sumW c xs) (markL c m xs k)) := by
  have key : ∀ (suf pre : List A) (k : Int), (∀ x ∈ suf, Pr x) → pre.length + suf.length = xs.length → 1 ≤ k → k + sumW c suf ≤ B → loopF f (mk k (pre.length : Int) (pre ++ suf)) = some (End (k + sumW c suf) (pre ++ markL c m suf k)) := by
    intro suf
    induction suf with
    | nil =>
      intro pre k _ _ _ _
      have := hend k (pre ++ [])
      rw [List.length_append, List.length_nil, Nat.add_zero] at this
      rw [loopF_end this]
      simp [sumW, markL]
    | cons x r ih =>
      intro pre k hp hpl hk hb
      have hlt : pre.length < (pre ++ x :: r).length := by simp
      have hx : (pre ++ x :: r)[pre.length] = x := by simp
      have hs : (pre ++ x :: r).set pre.length (m k x) = (pre ++ [m k x]) ++ r := by simp
      simp only [sumW] at hb
      have h1 := hstep pre.length (pre ++ x :: r) hlt k (by simp at hpl ⊢; omega) (by rw [hx]; exact hp x (by simp)) hk (by rw [hx]; omega)
      rw [hx, hs] at h1
      rw [loopF_step h1]
      have := ih (pre ++ [m k x]) (k + c x) (fun y hy => hp y (by simp [hy])) (by simp at hpl ⊢; omega) (by omega) (by omega)
      rw [List.length_append, List.length_singleton] at this
      rw [this]
      simp only [sumW, markL, List.append_assoc, List.singleton_append]
      rw [show k + ((c x + sumW c r : Nat) : Int) = k + c x + sumW c r by omega]
  have := key xs [] k hP (by simp) hk hb
  simpa using this

/-- As loopHeld, told which element it is. -/
theorem loopHeldP {A : Type} (c : A → Nat) (m : Int → A → A) {f : S → Option (Sum S E)} (mk : Int → Int → S) (End : Int → E) (B : Int) (xs : List A) (k0 : Int)
    (hstep : ∀ (i : Nat) x k, xs[i]? = some x → (markL c m xs k0)[i]? = some (m k x) → 1 ≤ k → k + c x ≤ B → f (mk k (i : Int)) = some (.inl (mk (k + c x) ((i + 1 : Nat) : Int))))
    (hend : ∀ k, f (mk k (xs.length : Int)) = some (.inr (End k))) (hk : 1 ≤ k0) (hb : k0 + sumW c xs ≤ B) : loopF f (mk k0 0) = some (End (k0 + sumW c xs)) := by
  have key : ∀ (suf : List A) (n : Nat) (k : Int), xs.drop n = suf → (markL c m xs k0).drop n = markL c m suf k → n + suf.length = xs.length → 1 ≤ k → k + sumW c suf ≤ B → loopF f (mk k (n : Int)) = some (End (k + sumW c suf)) := by
    intro suf
    induction suf with
    | nil =>
      intro n k _ _ hn _ _
      rw [show n = xs.length by simpa using hn, loopF_end (hend k)]
      simp [sumW]
    | cons x r ih =>
      intro n k hd0 hd hn hk hb
      simp only [sumW] at hb
      simp only [markL] at hd
      have hx : (markL c m xs k0)[n]? = some (m k x) := by
        have : ((markL c m xs k0).drop n)[0]? = some (m k x) := by rw [hd]; rfl
        rw [List.getElem?_drop] at this
        simpa using this
      have hx0 : xs[n]? = some x := by
        have : (xs.drop n)[0]? = some x := by rw [hd0]; rfl
        rw [List.getElem?_drop] at this
        simpa using this
      rw [loopF_step (hstep n x k hx0 hx hk (by omega))]
      rw [ih (n + 1) (k + c x) (by
        have := congrArg (List.drop 1) hd0
        simpa [List.drop_drop] using this) (by
        have := congrArg (List.drop 1) hd
        simpa [List.drop_drop] using this) (by simp at hn; omega) (by omega) (by omega)]
      simp only [sumW]
      rw [show k + ((c x + sumW c r : Nat) : Int) = k + c x + sumW c r by omega]
  have := key xs 0 k0 (by simp) (by simp) (by simp) hk hb
  simpa using this
theorem st2 {A B F : Type} {a a' : A} {b b' : B} (h1 : a = a') (h2 : b = b') : (some (Sum.inl (a, (b, ()))) : Option (Sum (A × (B × Unit)) F)) = some (Sum.inl (a', (b', ()))) := by rw [h1, h2]
end

mutual
/-- No element has more cells than so many. -/
def Ty.fits (M : Nat) : Ty → Bool
  | .sl es => Nat.ble es.len M && es.fits M
  | _ => true
def Tys.fits (M : Nat) : Tys → Bool
  | .nil => true
  | .cons t ts => t.fits M && ts.fits M
end

theorem sumW_le2 {A : Type} {c f : A → Nat} {a b : Nat} (h : ∀ x, c x ≤ a + b * f x) : ∀ xs : List A, sumW c xs ≤ a * xs.length + b * sumW f xs
  | [] => by simp [sumW]
  | x :: r => by
    have := sumW_le2 h r
    have h0 := h x
    simp only [sumW, List.length_cons, Nat.mul_add, Nat.mul_one]
    omega

mutual
theorem ct_leT {M : Nat} : ∀ (t : Ty) (x : t.D), t.fits M = true → t.ct x ≤ 1 + M * t.w x
  | .int _, _, _ => Nat.le_add_right _ _
  | .bool, _, _ => Nat.le_add_right _ _
  | .str, _, _ => Nat.le_add_right _ _
  | .sl es, xs, h => by
    simp only [Ty.fits, Bool.and_eq_true] at h
    have hl := Nat.le_of_ble_eq_true h.1
    have h1 : sumW (fun x => es.ct x) xs ≤ es.len * List.length (α := es.D) xs + M * sumW (fun x => es.w x) xs := sumW_le2 (fun x => ct_le es x h.2) xs
    have h2 : es.len * List.length (α := es.D) xs ≤ M * List.length (α := es.D) xs := Nat.mul_le_mul_right _ hl
    show sumW (fun x => es.ct x) xs ≤ 1 + M * (List.length (α := es.D) xs + sumW (fun x => es.w x) xs)
    rw [Nat.mul_add]
    omega
  | .fn _ _ _, _, _ => Nat.zero_le _
theorem ct_le {M : Nat} : ∀ (ts : Tys) (x : ts.D), ts.fits M = true → ts.ct x ≤ ts.len + M * ts.w x
  | .nil, _, _ => Nat.zero_le _
  | .cons t ts, x, h => by
    simp only [Tys.fits, Bool.and_eq_true] at h
    have h1 := ct_leT t x.1 h.1
    have h2 := ct_le ts x.2 h.2
    show t.ct x.1 + ts.ct x.2 ≤ (ts.len + 1) + M * (t.w x.1 + ts.w x.2)
    rw [Nat.mul_add]
    omega
end
end Go.Tm

/- Plain words, 5: tests one behind the other, order, loops that end early, folds, copies. -/
namespace Go.Tm
open Go

/-- No longer than what Go can count. -/
abbrev L63 (n : Nat) : Prop := n ≤ 9223372036854775807
abbrev W1 (n : Nat) : Prop := n ≤ 1048576

theorem ite_not {A : Type} {b : Bool} {r n : A} : (bif !b then r else n) = bif b then n else r := by cases b <;> rfl
theorem le_ite {A : Type} {a b : Int} {r n : A} : (bif iLe a b then r else n) = bif iLt b a then n else r := by rw [iLe_lt]; cases iLt b a <;> rfl
theorem ite_tri {A : Type} {a b : ByteArray} {r n : A} : (bif (sLt a b || sEq a b) then r else n) = bif sLt b a then n else r := by rw [sLt_tri]; cases sLt b a <;> rfl
theorem if_bool {A : Type} {b : Bool} {t e r : A} (h1 : b = true → t = r) (h0 : b = false → e = r) : (bif b then t else e) = r := by
  cases b
  · exact h0 rfl
  · exact h1 rfl
theorem bind_bool {R : Type} {T : Option ((Bool × Unit) × Unit)} {b : Bool} {K : (Bool × Unit) × Unit → Option R} {r : Option R} (h : T = some (B1 b)) (h1 : b = true → K (B1 true) = r) (h0 : b = false → K (B1 false) = r) : T.bind K = r := by
  rw [h]
  cases b
  · exact h0 rfl
  · exact h1 rfl

theorem and_no {b c : Bool} : (bif !b then some (B1 false) else some (B1 c)) = some (B1 (b && c)) := by cases b <;> rfl
theorem and_yes {b c : Bool} : (bif b then some (B1 c) else some (B1 false)) = some (B1 (b && c)) := by cases b <;> rfl
theorem or_yes {b c : Bool} : (bif b then some (B1 true) else some (B1 c)) = some (B1 (b || c)) := by cases b <;> rfl
theorem andN {b c : Bool} {K : Option ((Bool × Unit) × Unit)} (h : K = some (B1 c)) : (bif !b then some (B1 false) else K) = some (B1 (b && c)) := by rw [h]; exact and_no
theorem andY {b c : Bool} {K : Option ((Bool × Unit) × Unit)} (h : K = some (B1 c)) : (bif b then K else some (B1 false)) = some (B1 (b && c)) := by rw [h]; exact and_yes
theorem orY {b c : Bool} {K : Option ((Bool × Unit) × Unit)} (h : K = some (B1 c)) : (bif b then some (B1 true) else K) = some (B1 (b || c)) := by rw [h]; exact or_yes
theorem noT {b c : Bool} {K : Option ((Bool × Unit) × Unit)} (h : K = some (B1 c)) : (bif b then some (B1 false) else K) = some (B1 (!b && c)) := by rw [h]; cases b <;> rfl
/-- A test of a loop's round: go on or end. -/
theorem goN {b c : Bool} {R : Type} {K g x : R} (h : K = bif c then g else x) : (bif !b then x else K) = bif (b && c) then g else x := by rw [h]; cases b <;> rfl
theorem goE {b : Bool} {R : Type} {g x : R} : (bif !b then x else g) = bif b then g else x := by cases b <;> rfl
theorem goEq {b : Bool} {R : Type} {K g x : R} (h : K = g) : (bif !b then x else K) = bif b then g else x := by rw [h]; cases b <;> rfl
theorem goT {b c : Bool} {R : Type} {K g x : R} (h : K = bif c then g else x) : (bif b then x else K) = bif (!b && c) then g else x := by rw [h]; cases b <;> rfl

/-- Behind the one before. -/
def behind {A : Type} (lt : A → A → Bool) (xs : List A) (i : Nat) (y : A) : Bool := match i with
  | 0 => true
  | j + 1 => match xs[j]? with
    | some z => lt z y
    | none => true
theorem behind_succ {A : Type} {lt : A → A → Bool} {xs : List A} {j : Nat} {y : A} (h : j < xs.length) : behind lt xs (j + 1) y = lt xs[j] y := by
  simp [behind, List.getElem?_eq_getElem h]
theorem prev_get {A : Type} {xs : List A} {j : Nat} (hl : L63 xs.length) (h : j < xs.length) : getI xs (iSub .i64 ((j + 1 : Nat) : Int) 1) = some xs[j] := by
  rw [iSub_small (by omega) (by omega), show (((j + 1 : Nat) : Int) - 1) = (j : Int) by omega]
  exact getI_lt h
theorem asc_step {A R : Type} {xs : List A} {i : Nat} {lt : A → A → Bool} {y : A} {C X : Option R} {T : A → Option R} (hi : i < xs.length) (hl : L63 xs.length) (hT : ∀ z, T z = bif lt z y then C else X) :
    (bif iLt 0 (i : Int) then (getI xs (iSub .i64 (i : Int) 1)).bind T else C) = bif behind lt xs i y then C else X := by
  cases i with
  | zero => rfl
  | succ j => rw [iLt_true (by omega), cond_true, prev_get hl (by omega), Option.bind_some, hT, behind_succ (by omega)]
theorem st1 {A F : Type} {a a' : A} (h1 : a = a') : (some (Sum.inl (a, ())) : Option (Sum (A × Unit) F)) = some (Sum.inl (a', ())) := by rw [h1]
theorem sEq_comm (a b : ByteArray) : sEq a b = sEq b a := by
  unfold sEq
  exact BEq.comm

theorem allI_all {A : Type} {p : A → Bool} : ∀ {k : Nat} {xs : List A}, allI (fun _ x => p x) k xs = xs.all p
  | _, [] => rfl
  | k, x :: r => by simp only [allI, List.all_cons]; rw [allI_all]

theorem allI_get {A : Type} {p : Nat → A → Bool} : ∀ {k : Nat} {xs : List A}, allI p k xs = true → ∀ i (h : i < xs.length), p (k + i) xs[i] = true
  | k, x :: r, h, 0, _ => by simp only [allI, Bool.and_eq_true] at h; exact h.1
  | k, x :: r, h, i + 1, hi => by
    simp only [allI, Bool.and_eq_true] at h
    have := allI_get h.2 i (by simpa using hi)
    rw [show k + (i + 1) = k + 1 + i by omega]
    simpa using this

theorem allI_and {A : Type} {p q : Nat → A → Bool} : ∀ {k : Nat} {xs : List A}, allI (fun i x => p i x && q i x) k xs = (allI p k xs && allI q k xs)
  | _, [] => rfl
  | k, x :: r => by
    simp only [allI]
    rw [allI_and]
    cases p k x <;> cases q k x <;> cases allI p (k + 1) r <;> rfl
/-- A joint: go on, or end. -/
theorem join_go {R : Type} {b c : Bool} {A : Option (Sum Unit R)} {B g : Option R} {x : R} (h : A = bif b then some (.inl ()) else some (.inr x)) (h2 : B = bif c then g else some x) : Option.bind A (fun r => Sum.elim (fun _ => B) some r) = bif (b && c) then g else some x := by
  rw [h, h2]
  cases b <;> rfl
theorem join_and {b c : Bool} {A : Option (Sum Unit ((Bool × Unit) × Unit))} {B : Option ((Bool × Unit) × Unit)} (h : A = bif b then some (.inl ()) else some (.inr (B1 false))) (h2 : B = some (B1 c)) : Option.bind A (fun r => Sum.elim (fun _ => B) some r) = some (B1 (b && c)) := by
  rw [h, h2]
  cases b <;> rfl
theorem goDup {c s b : Bool} {R : Type} {K g x : R} (h : K = bif b then g else x) : (bif c then (bif !s then x else K) else K) = bif ((!c || s) && b) then g else x := by rw [h]; cases c <;> cases s <;> rfl
theorem asc_le {A : Type} {f : A → Int} {l : List A} (h : ∀ i (hi : i < l.length), behind (fun z y => iLt (f z) (f y)) l i l[i] = true) : ∀ (k i : Nat) (hk : i + k < l.length), f l[i] ≤ f l[i + k]
  | 0, i, hk => Int.le_refl _
  | k + 1, i, hk => by
    have h1 := asc_le h k i (by omega)
    have h2 := h ((i + k) + 1) (by omega)
    have h3 := behind_succ (lt := fun z y => iLt (f z) (f y)) (xs := l) (j := i + k) (y := l[i + k + 1]) (by omega)
    rw [h3] at h2
    have : f l[i + k] < f l[i + k + 1] := by simpa [iLt] using h2
    have e : l[i + (k + 1)] = l[i + k + 1] := rfl
    rw [e]
    omega

section
variable {S E A σ : Type}
/-- A loop that ends at the first that is so, and tells where. -/
theorem loopAny (xs : List A) (p : A → Bool) {f : S → Option (Sum S E)} (mk : Int → S) (e : E) (R : Nat → A → E) (hstep : ∀ i (h : i < xs.length), f (mk (i : Int)) = bif p xs[i] then some (.inr (R i xs[i])) else some (.inl (mk ((i + 1 : Nat) : Int)))) (hend : f (mk (xs.length : Int)) = some (.inr e)) :
    loopF f (mk 0) = some (match xs.findIdx? p with | some j => (match xs[j]? with | some x => R j x | none => e) | none => e) := by
  have key : ∀ (k : Nat), k ≤ xs.length → (∀ j, j < k → ∀ h : j < xs.length, p xs[j] = false) → loopF f (mk (k : Int)) = some (match xs.findIdx? p with | some j => (match xs[j]? with | some x => R j x | none => e) | none => e) := by
    intro k
    induction hk : xs.length - k generalizing k with
    | zero =>
      intro hle hno
      have : k = xs.length := by omega
      subst this
      rw [loopF_end hend]
      have : xs.findIdx? p = none := by
        rw [List.findIdx?_eq_none_iff]
        intro x hx
        obtain ⟨j, hj, rfl⟩ := List.getElem_of_mem hx
        exact hno j hj hj
      rw [this]
    | succ n ih =>
      intro hle hno
      have hlt : k < xs.length := by omega
      have h1 := hstep k hlt
      cases hp : p xs[k] with
      | true =>
        rw [hp] at h1
        rw [loopF_end h1]
        have : xs.findIdx? p = some k := by
          rw [List.findIdx?_eq_some_iff_getElem]
          exact ⟨hlt, hp, fun j hj => by simp [hno j hj (by omega)]⟩
        rw [this]
        simp [hlt]
      | false =>
        rw [hp] at h1
        rw [loopF_step h1]
        exact ih (k + 1) (by omega) (by omega) (fun j hj h => by
          by_cases hjk : j = k
          · subst hjk; exact hp
          · exact hno j (by omega) h)
  exact key 0 (Nat.zero_le _) (fun j hj => by omega)

theorem any_findIdx {xs : List A} {p : A → Bool} {R e : E} : (match xs.findIdx? p with | some j => (match xs[j]? with | some x => R | none => e) | none => e) = bif xs.any p then R else e := by
  cases h : xs.findIdx? p with
  | none =>
    rw [List.findIdx?_eq_none_iff] at h
    have : xs.any p = false := by rw [List.any_eq_false]; intro x hx; simp [h x hx]
    rw [this]; rfl
  | some j =>
    rw [List.findIdx?_eq_some_iff_getElem] at h
    obtain ⟨hj, hp, _⟩ := h
    have : xs.any p = true := List.any_eq_true.2 ⟨xs[j], List.getElem_mem hj, hp⟩
    rw [this]
    simp [hj]
theorem loopHas (xs : List A) (p : A → Bool) {f : S → Option (Sum S E)} (mk : Int → S) (e r : E) (hstep : ∀ i (h : i < xs.length), f (mk (i : Int)) = bif p xs[i] then some (.inr r) else some (.inl (mk ((i + 1 : Nat) : Int)))) (hend : f (mk (xs.length : Int)) = some (.inr e)) :
    loopF f (mk 0) = some (bif xs.any p then r else e) := (loopAny xs p mk e (fun _ _ => r) hstep hend).trans (congrArg some any_findIdx)
theorem loopAllP (xs : List A) (p : A → Bool) {f : S → Option (Sum S E)} (mk : Int → S) (e r : E) (hstep : ∀ i (h : i < xs.length), f (mk (i : Int)) = bif p xs[i] then some (.inl (mk ((i + 1 : Nat) : Int))) else some (.inr r)) (hend : f (mk (xs.length : Int)) = some (.inr e)) :
    loopF f (mk 0) = some (bif xs.all p then e else r) := (loopAll xs (fun _ x => p x) mk e r hstep hend).trans (by rw [allI_all])

/-- The place of the first that is so. -/
def idxOf (xs : List A) (p : A → Bool) : Int := match xs.findIdx? p with
  | some j => (j : Int)
  | none => -1
theorem idxOf_any {xs : List A} {p : A → Bool} : iLe 0 (idxOf xs p) = xs.any p := by
  unfold idxOf
  cases h : xs.findIdx? p with
  | none =>
    rw [List.findIdx?_eq_none_iff] at h
    have : xs.any p = false := by rw [List.any_eq_false]; intro x hx; simp [h x hx]
    rw [this]; rfl
  | some j =>
    rw [List.findIdx?_eq_some_iff_getElem] at h
    obtain ⟨hj, hp, _⟩ := h
    have : xs.any p = true := List.any_eq_true.2 ⟨xs[j], List.getElem_mem hj, hp⟩
    rw [this]
    simp [iLe]
theorem idxOf_cases (xs : List A) (p : A → Bool) : (xs.any p = false ∧ xs.find? p = none ∧ idxOf xs p = -1) ∨ ∃ j, ∃ h : j < xs.length, p xs[j] = true ∧ (∀ k (_ : k < j) (hk : k < xs.length), p xs[k] = false) ∧ xs.any p = true ∧ xs.find? p = some xs[j] ∧ idxOf xs p = (j : Int) := by
  unfold idxOf
  cases h : xs.findIdx? p with
  | none =>
    rw [List.findIdx?_eq_none_iff] at h
    exact .inl ⟨by rw [List.any_eq_false]; intro x hx; simp [h x hx], by rw [List.find?_eq_none]; intro x hx; simp [h x hx], rfl⟩
  | some j =>
    rw [List.findIdx?_eq_some_iff_getElem] at h
    obtain ⟨hj, hp, hn⟩ := h
    refine .inr ⟨j, hj, hp, fun k hk hk2 => by simpa using hn k hk, List.any_eq_true.2 ⟨xs[j], List.getElem_mem hj, hp⟩, ?_, rfl⟩
    rw [List.find?_eq_some_iff_getElem]
    exact ⟨hp, j, hj, rfl, fun k hk => by simpa using hn k hk⟩
theorem loopIdx (xs : List A) (p : A → Bool) {f : S → Option (Sum S E)} (mk : Int → S) (e : E) (R : Int → E) (hstep : ∀ i (h : i < xs.length), f (mk (i : Int)) = bif p xs[i] then some (.inr (R (i : Int))) else some (.inl (mk ((i + 1 : Nat) : Int)))) (hend : f (mk (xs.length : Int)) = some (.inr e)) :
    loopF f (mk 0) = some (bif xs.any p then R (idxOf xs p) else e) := by
  refine (loopAny xs p mk e (fun i _ => R (i : Int)) hstep hend).trans ?_
  rcases idxOf_cases xs p with ⟨h1, _, h3⟩ | ⟨j, hj, hp, hn, h1, _, h3⟩
  · have : xs.findIdx? p = none := by rw [List.findIdx?_eq_none_iff]; intro x hx; rw [List.any_eq_false] at h1; simpa using h1 x hx
    rw [this, h1]; rfl
  · have : xs.findIdx? p = some j := by rw [List.findIdx?_eq_some_iff_getElem]; exact ⟨hj, hp, fun k hk => by simp [hn k hk (by omega)]⟩
    rw [this, h1, h3]
    simp [hj]

theorem loopFindV (xs : List A) (p : A → Bool) {f : S → Option (Sum S E)} (mk : Int → S) (e : E) (R : A → E) (hstep : ∀ i (h : i < xs.length), f (mk (i : Int)) = bif p xs[i] then some (.inr (R xs[i])) else some (.inl (mk ((i + 1 : Nat) : Int)))) (hend : f (mk (xs.length : Int)) = some (.inr e)) :
    loopF f (mk 0) = some (match xs.find? p with | some x => R x | none => e) := by
  refine (loopAny xs p mk e (fun _ x => R x) hstep hend).trans ?_
  rcases idxOf_cases xs p with ⟨h1, h2, _⟩ | ⟨j, hj, hp, hn, _, h2, _⟩
  · have : xs.findIdx? p = none := by rw [List.findIdx?_eq_none_iff]; intro x hx; rw [List.any_eq_false] at h1; simpa using h1 x hx
    rw [this, h2]
  · have : xs.findIdx? p = some j := by rw [List.findIdx?_eq_some_iff_getElem]; exact ⟨hj, hp, fun k hk => by rw [hn k hk (by omega)]; decide⟩
    rw [this, h2]
    simp [hj]

/-- A loop over all, that is a fold; 'I' is kept. -/
theorem loopFold (xs : List A) (step : σ → A → σ) (I : Nat → σ → Prop) {f : S → Option (Sum S E)} (mk : σ → Int → S) (End : σ → E) (s0 : σ) (h0 : I 0 s0)
    (hstep : ∀ i (h : i < xs.length) s, I i s → f (mk s (i : Int)) = some (.inl (mk (step s xs[i]) ((i + 1 : Nat) : Int))) ∧ I (i + 1) (step s xs[i])) (hend : ∀ s, I xs.length s → f (mk s (xs.length : Int)) = some (.inr (End s))) :
    loopF f (mk s0 0) = some (End (xs.foldl step s0)) ∧ I xs.length (xs.foldl step s0) := by
  have key : ∀ (suf pre : List A) (s : σ), pre ++ suf = xs → I pre.length s → loopF f (mk s (pre.length : Int)) = some (End (suf.foldl step s)) ∧ I xs.length (suf.foldl step s) := by
    intro suf
    induction suf with
    | nil =>
      intro pre s hp hI
      simp only [List.append_nil] at hp
      subst hp
      exact ⟨loopF_end (hend s hI), hI⟩
    | cons x suf ih =>
      intro pre s hp hI
      have hlt : pre.length < xs.length := by rw [← hp]; simp
      have hx : xs[pre.length] = x := by
        have : xs[pre.length]? = some x := by rw [← hp]; simp
        rw [List.getElem?_eq_getElem hlt] at this
        simpa using this
      obtain ⟨h1, h2⟩ := hstep pre.length hlt s hI
      rw [hx] at h1 h2
      rw [loopF_step h1]
      have := ih (pre ++ [x]) (step s x) (by simpa using hp) (by simpa using h2)
      simpa using this
  simpa using key xs [] s0 rfl h0
theorem loopFold0 (xs : List A) (step : σ → A → σ) {f : S → Option (Sum S E)} (mk : σ → Int → S) (End : σ → E) (s0 : σ)
    (hstep : ∀ i (h : i < xs.length) s, f (mk s (i : Int)) = some (.inl (mk (step s xs[i]) ((i + 1 : Nat) : Int)))) (hend : ∀ s, f (mk s (xs.length : Int)) = some (.inr (End s))) :
    loopF f (mk s0 0) = some (End (xs.foldl step s0)) := (loopFold xs step (fun _ _ => True) mk End s0 trivial (fun i h s _ => ⟨hstep i h s, trivial⟩) (fun s _ => hend s)).1

/-- A loop that hands on elements made one by one. -/
theorem loopMap {B : Type} (xs : List A) (g : A → B) {f : S → Option (Sum S E)} (mk : List B → Int → S) (e : E) (hstep : ∀ i (h : i < xs.length), f (mk ((xs.take i).map g) (i : Int)) = some (.inl (mk ((xs.take i).map g ++ [g xs[i]]) ((i + 1 : Nat) : Int)))) (hend : f (mk (xs.map g) (xs.length : Int)) = some (.inr e)) : loopF f (mk [] 0) = some e := by
  have := loopF_trace (f := f) (fun i => mk ((xs.take i).map g) (i : Int)) xs.length (e := e) (fun i hi => by rw [hstep i hi, List.take_succ_eq_append_getElem hi, List.map_append]; rfl) (by rw [List.take_length]; exact hend)
  simpa using this
theorem loopCopy (xs : List A) {f : S → Option (Sum S E)} (mk : List A → Int → S) (e : E) (hstep : ∀ i (h : i < xs.length), f (mk (xs.take i) (i : Int)) = some (.inl (mk (xs.take i ++ [xs[i]]) ((i + 1 : Nat) : Int)))) (hend : f (mk xs (xs.length : Int)) = some (.inr e)) : loopF f (mk [] 0) = some e := by
  have := loopF_trace (f := f) (fun i => mk (xs.take i) (i : Int)) xs.length (e := e) (fun i hi => by rw [hstep i hi, List.take_succ_eq_append_getElem hi]) (by rw [List.take_length]; exact hend)
  simpa using this
end

theorem room_ok {n b : Nat} (h1 : n ≤ 1048577) (h2 : b ≤ 1000) (h3 : 0 < b) : room n b = true := by
  unfold room
  refine decide_eq_true ⟨?_, h3⟩
  have : n * b ≤ 1048577 * 1000 := Nat.mul_le_mul h1 h2
  omega
theorem room_then {A R : Type} {xs : List A} {b : Nat} {t e r : R} (h : xs.length ≤ 1048576) (h2 : b ≤ 1000) (h3 : 0 < b) (ht : t = r) : (bif room (List.length ([] : List A) + xs.length) b then t else e) = r := by
  rw [room_ok (by simp; omega) h2 h3]; exact ht
theorem room_is {R : Type} {n b : Nat} {t e r : R} (h : n ≤ 1048577) (h2 : b ≤ 1000) (h3 : 0 < b) (ht : t = r) : (bif room n b then t else e) = r := by
  rw [room_ok h h2 h3]; exact ht
theorem room_one {A R : Type} {xs : List A} {x : A} {i b : Nat} {t e r : R} (h : i < xs.length) (hl : W1 xs.length) (h2 : b ≤ 1000) (h3 : 0 < b) (ht : t = r) : (bif room (List.length (xs.take i) + List.length [x]) b then t else e) = r := by
  rw [room_ok (by simp; unfold W1 at hl; omega) h2 h3]; exact ht
theorem both_same {R : Type} {a b : Option R} (h : a = b) : both a b = a := by
  unfold both
  exact if_pos h
theorem clone_ok {A : Type} {b : Nat} (xs : List A) (h : xs.length ≤ 1048576) (h2 : b ≤ 1000) (h3 : 0 < b) :
    (bif xs.isEmpty then both (some ((([] : List A), ()), ())) (bif room (List.length ([] : List A) + List.length xs) b then some ((lapp ([] : List A) xs, ()), ()) else none) else bif room (List.length ([] : List A) + List.length xs) b then some ((lapp ([] : List A) xs, ()), ()) else none) = some ((xs, ()), ()) := by
  have hr : (bif room (List.length ([] : List A) + List.length xs) b then some ((lapp ([] : List A) xs, ()), ()) else none) = some ((xs, ()), ()) := room_then h h2 h3 rfl
  rw [hr]
  cases xs with
  | nil => exact both_same rfl
  | cons _ _ => rfl
theorem sub1 {n : Nat} (h : 1 ≤ n) (hn : L63 n) : iSub .i64 (n : Int) 1 = ((n - 1 : Nat) : Int) := by rw [iSub_small (by omega) (by omega)]; omega
theorem cut_hi {h n : Nat} {R : Type} {t e r : R} (hle : h ≤ n) (ht : t = r) : (bif cutHi (h : Int) n then t else e) = r := by
  have : cutHi (h : Int) n = true := by simp [cutHi, hle]
  rw [this]; exact ht
theorem take_nat {A : Type} {xs : List A} {h : Nat} : List.take (Int.toNat (h : Int) - 0) (List.drop 0 xs) = xs.take h := by simp
theorem nxt {i n : Nat} (h : i < n) (hn : L63 n) : iAdd .i64 (i : Int) 1 = ((i + 1 : Nat) : Int) := iAdd_small (by omega) (by omega)
theorem W1.l {n : Nat} (h : W1 n) : L63 n := Nat.le_trans h (by decide)
theorem pos_else {R : Type} {k : Int} {a b r : R} (h : 0 ≤ k) (h2 : b = r) : (bif iLt k 0 then a else b) = r := by rw [iLt_false h]; exact h2
theorem same_else {R : Type} {k k' : Int} {a b r : R} (h : k = k') (h2 : b = r) : (bif !iEq k k' then a else b) = r := by rw [h, iEq_self]; exact h2
theorem pn {k : Int} {c : Nat} (h : 0 ≤ k) : 0 ≤ k + ((c : Nat) : Int) := by omega
theorem ct_big {es : Tys} {xs : List es.D} (hf : (Ty.sl es).fits 62 = true) (hw : (Ty.sl es).w xs ≤ 67108864) : ((sumW (fun x => es.ct x) xs : Nat) : Int) ≤ 8589934592 := by
  have h : sumW (fun x => es.ct x) xs ≤ 1 + 62 * (Ty.sl es).w xs := ct_leT (M := 62) (.sl es) xs hf
  generalize sumW (fun x => es.ct x) xs = c at h ⊢
  generalize (Ty.sl es).w xs = d at h hw
  omega
theorem Ok_of {es : Tys} {xs : List es.D} (hl : xs.length ≤ 9223372036854775807) (h : ∀ y, y ∈ xs → es.Ok y) : (Ty.sl es).Ok xs := ⟨hl, fun i x hi => h x (List.mem_of_getElem? hi)⟩
theorem Ok_nil {es : Tys} : (Ty.sl es).Ok [] := ⟨Nat.zero_le _, fun i x hi => by simp [getN] at hi⟩
theorem sumW_fm {A B : Type} {f : A → Nat} {g : B → Nat} {p : A → Bool} {m : A → B} (h : ∀ x, g (m x) ≤ f x) : ∀ xs : List A, ((xs.filter p).map m).length + sumW g ((xs.filter p).map m) ≤ xs.length + sumW f xs
  | [] => Nat.le_refl _
  | x :: r => by
    have ih := sumW_fm (f := f) (g := g) (p := p) (m := m) h r
    have hx := h x
    rw [List.filter_cons]
    cases p x with
    | false => simp only [Bool.false_eq_true, if_false, List.length_cons, sumW]; omega
    | true => simp only [if_true, List.map_cons, List.length_cons, sumW]; omega
theorem w_mem {es : Tys} {xs : List es.D} {y : es.D} {n : Nat} (h : (Ty.sl es).w xs ≤ n) (hy : y ∈ xs) : es.w y ≤ n := by
  have h : List.length xs + sumW (fun z => es.w z) xs ≤ n := h
  have := sumW_mem (f := fun z => es.w z) hy
  omega
theorem w_ln {es : Tys} {xs : List es.D} {n : Nat} (h : (Ty.sl es).w xs ≤ n) : xs.length ≤ n := by
  have h : List.length xs + sumW (fun z => es.w z) xs ≤ n := h
  omega
theorem w_hd {t : Ty} {ts : Tys} {x : (Tys.cons t ts).D} {n : Nat} (h : (Tys.cons t ts).w x ≤ n) : t.w x.1 ≤ n := Nat.le_trans (Nat.le_add_right _ _) h
theorem okAdd (k : IntKind) (n : Int) : (Lit.int k (k.wrap n)).wf = true := by
  cases k <;> simp [Lit.wf, IntKind.wrap, IntKind.min, IntKind.max, IntKind.signed, IntKind.bits] <;> omega
theorem wfR {n : Int} (h : (Lit.int .i64 n).wf = true) : -9223372036854775808 ≤ n ∧ n ≤ 9223372036854775807 := by
  simp [Lit.wf, IntKind.min, IntKind.max, IntKind.signed, IntKind.bits] at h
  omega
theorem Rwf {n : Int} (h1 : -9223372036854775808 ≤ n) (h2 : n ≤ 9223372036854775807) : (Lit.int .i64 n).wf = true := by
  simp [Lit.wf, IntKind.min, IntKind.max, IntKind.signed, IntKind.bits]
  omega
theorem iEq_up {a b : Int} (ha : -9223372036854775808 ≤ a ∧ a ≤ 9223372036854775807) (hb : -9223372036854775808 ≤ b ∧ b ≤ 9223372036854775807) : iEq a (iAdd .i64 b 1) = iEq b (iSub .i64 a 1) := by
  unfold iEq iAdd iSub
  rw [Bool.eq_iff_iff]
  simp [IntKind.wrap, IntKind.signed, IntKind.bits]
  omega
/-- A measure of what there is, with what is left. -/
theorem sz_step {R : Type} {n : Nat} {l : Int} {T : Option ((Int × Unit) × Unit)} {K : (Int × Unit) × Unit → Option R} {r : Option R} (hT : T = some (I1 (szR n l))) (h1 : (n : Int) ≤ l → K (I1 (l - n)) = r) (h0 : K (I1 (-1)) = r) : T.bind K = r := by
  rw [hT]
  unfold szR
  by_cases h : (n : Int) ≤ l
  · rw [if_pos h]; exact h1 h
  · rw [if_neg h]; exact h0
theorem wrap_byte (b : UInt8) : IntKind.wrap .i64 (UInt8.toNat b : Int) = (UInt8.toNat b : Int) := by
  have := UInt8.toNat_lt b
  exact wrap64 (by omega) (by omega)
end Go.Tm

/- Marks of any kind: the loops that put them and look for them, as the laws have them, and what they do. -/
namespace Go.Tm
open Go

abbrev MtT := ((Int × Unit) × Unit) → Option ((ByteArray × Unit) × Unit)
abbrev MarkT (es : Tys) := ((List es.D × Unit) × ((Int × Unit) × Unit)) → Option ((Int × Unit) × ((List es.D × Unit) × Unit))
abbrev HeldT (es : Tys) := ((List es.D × Unit) × ((Int × Unit) × Unit)) → Option ((Int × Unit) × Unit)
def CalM1 : Ty → Type
  | .sl es => MarkT es
  | _ => Unit
def CalM : Tys → Type
  | .nil => Unit
  | .cons t ts => CalM1 t × CalM ts
def CalH1 : Ty → Type
  | .sl es => HeldT es
  | _ => Unit
def CalH : Tys → Type
  | .nil => Unit
  | .cons t ts => CalH1 t × CalH ts

/-- One element's fields, one behind the other. -/
def markFs {F : Tys} {R : Type} (mt : MtT) : (ts : Tys) → CalM ts → (F.D → ts.D) → (F.D → ts.D → F.D) → Int → List F.D → Int → (List F.D → Int → Option R) → Option R
  | .nil, _, _, _, _, ys, k, fin => fin ys k
  | .cons (.int _) ts, c, g, p, i, ys, k, fin => (getI ys i).bind fun _ => (getN ys (Int.toNat i)).bind fun x => (some (List.set ys (Int.toNat i) (p x (k, (g x).2)))).bind fun z => markFs mt ts c.2 (fun x => (g x).2) (fun x r => p x ((g x).1, r)) i z (iAdd .i64 k 1) fin
  | .cons .bool ts, c, g, p, i, ys, k, fin => bif iEq (3:Int) 0 then none else (getI ys i).bind fun _ => (getN ys (Int.toNat i)).bind fun x => (some (List.set ys (Int.toNat i) (p x (iEq (iRem k (3:Int)) (0:Int), (g x).2)))).bind fun z => markFs mt ts c.2 (fun x => (g x).2) (fun x r => p x ((g x).1, r)) i z (iAdd .i64 k 1) fin
  | .cons .str ts, c, g, p, i, ys, k, fin => (mt ((k, ()), ())).bind fun y => (getI ys i).bind fun _ => (getN ys (Int.toNat i)).bind fun x => (some (List.set ys (Int.toNat i) (p x (y.1.1, (g x).2)))).bind fun z => markFs mt ts c.2 (fun x => (g x).2) (fun x r => p x ((g x).1, r)) i z (iAdd .i64 k 1) fin
  | .cons (.sl _) ts, c, g, p, i, ys, k, fin => (getI ys i).bind fun _ => (getN ys (Int.toNat i)).bind fun _ => (getN ys (Int.toNat i)).bind fun x => (c.1 (((g x).1, ()), ((k, ()), ()))).bind fun y => (some (List.set ys (Int.toNat i) (p x (y.2.1.1, (g x).2)))).bind fun z => markFs mt ts c.2 (fun x => (g x).2) (fun x r => p x ((g x).1, r)) i z y.1.1 fin
  | .cons (.fn _ _ _) _, _, _, _, _, _, _, _ => none

def markB (es : Tys) (mt : MtT) (c : CalM es) : (Int × (Int × (List es.D × Unit))) → Option (Sum (Int × (Int × (List es.D × Unit))) (Sum (Int × (Int × (List es.D × Unit))) ((Int × Unit) × ((List es.D × Unit) × Unit)))) := fun v =>
  bif iLt v.2.1 (List.length v.2.2.1 : Int) then markFs mt es c (fun x => x) (fun _ r => r) v.2.1 v.2.2.1 v.1 (fun z k => some (.inl (k, (iAdd .i64 v.2.1 (1:Int), (z, ()))))) else some (.inr (.inl (v.1, (v.2.1, (v.2.2.1, ())))))
noncomputable def markSl (es : Tys) (mt : MtT) (c : CalM es) : MarkT es := fun x0 => (loopF (markB es mt c) (x0.2.1.1, ((0:Int), (x0.1.1, ())))).bind fun r => Sum.elim (fun v => some ((v.1, ()), ((v.2.2.1, ()), ()))) some r

def heldFs {F : Tys} {R : Type} (mt : MtT) : (ts : Tys) → CalH ts → (F.D → ts.D) → Int → List F.D → Int → Option R → (Int → Option R) → Option R
  | .nil, _, _, _, _, k, _, fin => fin k
  | .cons (.int _) ts, c, g, i, xs, k, X, fin => (getI xs i).bind fun x => bif !iEq (g x).1 k then X else heldFs mt ts c.2 (fun x => (g x).2) i xs (iAdd .i64 k 1) X fin
  | .cons .bool ts, c, g, i, xs, k, X, fin => (getI xs i).bind fun x => bif iEq (3:Int) 0 then none else bif !bEq (g x).1 (iEq (iRem k (3:Int)) (0:Int)) then X else heldFs mt ts c.2 (fun x => (g x).2) i xs (iAdd .i64 k 1) X fin
  | .cons .str ts, c, g, i, xs, k, X, fin => (getI xs i).bind fun x => (mt ((k, ()), ())).bind fun y => bif !sEq (g x).1 y.1.1 then X else heldFs mt ts c.2 (fun x => (g x).2) i xs (iAdd .i64 k 1) X fin
  | .cons (.sl _) ts, c, g, i, xs, k, X, fin => (getI xs i).bind fun x => (c.1 (((g x).1, ()), ((k, ()), ()))).bind fun y => bif iLt y.1.1 (0:Int) then X else heldFs mt ts c.2 (fun x => (g x).2) i xs y.1.1 X fin
  | .cons (.fn _ _ _) _, _, _, _, _, _, _, _ => none

def heldB (es : Tys) (mt : MtT) (c : CalH es) (x0 : (List es.D × Unit) × ((Int × Unit) × Unit)) : (Int × (Int × Unit)) → Option (Sum (Int × (Int × Unit)) (Sum (Int × (Int × Unit)) ((Int × Unit) × Unit))) := fun v =>
  bif iLt v.2.1 (List.length x0.1.1 : Int) then heldFs mt es c (fun x => x) v.2.1 x0.1.1 v.1 (some (.inr (.inr (((-1:Int), ()), ())))) (fun k => some (.inl (k, (iAdd .i64 v.2.1 (1:Int), ())))) else some (.inr (.inl (v.1, (v.2.1, ()))))
noncomputable def heldSl (es : Tys) (mt : MtT) (c : CalH es) : HeldT es := fun x0 => (loopF (heldB es mt c x0) (x0.2.1.1, ((0:Int), ()))).bind fun r => Sum.elim (fun v => some ((v.1, ()), ())) some r

def MtOk (mt : MtT) (W : Int → ByteArray) : Prop := ∀ k, 1 ≤ k → k ≤ bigM → mt ((k, ()), ()) = some ((W k, ()), ())
abbrev ctL (es : Tys) (xs : List es.D) : Int := ((sumW (fun x => es.ct x) xs : Nat) : Int)
def mkL (W : Int → ByteArray) (es : Tys) (xs : List es.D) (k : Int) : List es.D := markL (fun x => es.ct x) (fun k x => es.mt W k x) xs k
def MarkOk (W : Int → ByteArray) (es : Tys) (M : MarkT es) : Prop := ∀ xs k, 1 ≤ k → k + ctL es xs ≤ bigM → (Ty.sl es).Ok xs → M ((xs, ()), ((k, ()), ())) = some ((k + ctL es xs, ()), ((mkL W es xs k, ()), ()))
def HeldOk (W : Int → ByteArray) (es : Tys) (M : HeldT es) : Prop := ∀ xs k, 1 ≤ k → k + ctL es xs ≤ bigM → (Ty.sl es).Ok xs → M ((mkL W es xs k, ()), ((k, ()), ())) = some ((k + ctL es xs, ()), ())
def CalM1Ok (W : Int → ByteArray) : (t : Ty) → CalM1 t → Prop
  | .sl es, c => MarkOk W es c
  | .fn _ _ _, _ => False
  | _, _ => True
def CalMOk (W : Int → ByteArray) : (ts : Tys) → CalM ts → Prop
  | .nil, _ => True
  | .cons t ts, c => CalM1Ok W t c.1 ∧ CalMOk W ts c.2
def CalH1Ok (W : Int → ByteArray) : (t : Ty) → CalH1 t → Prop
  | .sl es, c => HeldOk W es c
  | .fn _ _ _, _ => False
  | _, _ => True
def CalHOk (W : Int → ByteArray) : (ts : Tys) → CalH ts → Prop
  | .nil, _ => True
  | .cons t ts, c => CalH1Ok W t c.1 ∧ CalHOk W ts c.2

section
variable {W : Int → ByteArray} {mt : MtT}

theorem set_set_nat {A : Type} {ys : List A} {i : Nat} {a b : A} : List.set (List.set ys (Int.toNat (i : Int)) a) i b = List.set ys i b := set_one
theorem set_self {A : Type} {ys : List A} {i : Nat} (h : i < ys.length) : List.set ys i ys[i] = ys := List.set_getElem_self h

theorem markFs_ok (hmt : MtOk mt W) {F : Tys} {R : Type} : ∀ (ts : Tys) (c : CalM ts) (_ : CalMOk W ts c) (g : F.D → ts.D) (p : F.D → ts.D → F.D) (_ : ∀ x r, g (p x r) = r) (_ : ∀ x r r', p (p x r) r' = p x r') (_ : ∀ x, p x (g x) = x)
    (i : Nat) (ys : List F.D) (k : Int) (fin : List F.D → Int → Option R) (hi : i < ys.length) (_ : 1 ≤ k) (_ : k + ((ts.ct (g ys[i]) : Nat) : Int) ≤ bigM) (_ : ts.Ok (g ys[i])),
    markFs mt ts c g p (i : Int) ys k fin = fin (List.set ys i (p ys[i] (ts.mt W k (g ys[i])))) (k + ((ts.ct (g ys[i]) : Nat) : Int))
  | .nil, _, _, g, p, _, _, hpg, i, ys, k, fin, hi, hk, hb, ho => by
    have e : p ys[i] (Tys.mt W .nil k (g ys[i])) = ys[i] := hpg _
    rw [e, set_self hi]
    show fin ys k = fin ys (k + ((0 : Nat) : Int))
    rw [show k + ((0 : Nat) : Int) = k by omega]
  | .cons t ts, c, hc, g, p, hgp, hpp, hpg, i, ys, k, fin, hi, hk, hb, ho => by
    -- one field: what is put, and how many numbers it takes
    have one : ∀ (v : t.D) (n : Nat), k + ((n : Nat) : Int) + ((ts.ct (g ys[i]).2 : Nat) : Int) ≤ bigM →
        markFs mt ts c.2 (fun x => (g x).2) (fun x r => p x ((g x).1, r)) (i : Int) (List.set ys (Int.toNat (i : Int)) (p ys[i] (v, (g ys[i]).2))) (k + ((n : Nat) : Int)) fin =
          fin (List.set ys i (p ys[i] (v, ts.mt W (k + ((n : Nat) : Int)) (g ys[i]).2))) (k + ((n + ts.ct (g ys[i]).2 : Nat) : Int)) := by
      intro v n hn
      generalize hys : List.set ys (Int.toNat (i : Int)) (p ys[i] (v, (g ys[i]).2)) = ys'
      have hi2 : i < ys'.length := by rw [← hys]; exact len_set hi
      have hget : ys'[i] = p ys[i] (v, (g ys[i]).2) := by
        have h0 : ys'[i]? = some (p ys[i] (v, (g ys[i]).2)) := by rw [← hys]; simp [hi]
        rw [List.getElem?_eq_getElem hi2] at h0
        exact Option.some.inj h0
      have hg2 : g ys'[i] = (v, (g ys[i]).2) := (congrArg g hget).trans (hgp _ _)
      have hgx : (g ys'[i]).2 = (g ys[i]).2 := Eq.trans (b := Prod.snd (α := t.D) (β := ts.D) (v, (g ys[i]).2)) (congrArg (fun z => Prod.snd (α := t.D) (β := ts.D) z) hg2) rfl
      have hp2 : ∀ r, p ys'[i] ((g ys'[i]).1, r) = p ys[i] (v, r) := fun r => (congrArg (fun z => p z (Prod.fst (g z), r)) hget).trans ((hpp _ _ _).trans (show p ys[i] ((g (p ys[i] (v, (g ys[i]).2))).1, r) = p ys[i] (v, r) from congrArg (fun z => p ys[i] (Prod.fst (α := t.D) (β := ts.D) z, r)) (hgp ys[i] (v, (g ys[i]).2))))
      have hct : ((ts.ct (g ys'[i]).2 : Nat) : Int) = ((ts.ct (g ys[i]).2 : Nat) : Int) := congrArg (fun z => ((ts.ct z : Nat) : Int)) hgx
      have ih := markFs_ok hmt ts c.2 hc.2 (fun x => (g x).2) (fun x r => p x ((g x).1, r)) (fun x r => congrArg Prod.snd (hgp x _)) (fun x r r' => (hpp _ _ _).trans (Eq.trans (b := p x (Prod.fst (α := t.D) (β := ts.D) ((g x).1, r), r')) (congrArg (fun z => p x (Prod.fst (α := t.D) (β := ts.D) z, r')) (hgp x ((g x).1, r))) rfl)) (fun x => hpg x) i ys' (k + ((n : Nat) : Int)) fin hi2 (by omega) (Int.le_trans (Int.le_of_eq (congrArg (fun z => k + ((n : Nat) : Int) + z) hct)) hn) (hgx ▸ ho.2)
      have e2 : p ys'[i] ((g ys'[i]).1, ts.mt W (k + ((n : Nat) : Int)) (g ys'[i]).2) = p ys[i] (v, ts.mt W (k + ((n : Nat) : Int)) (g ys[i]).2) := (hp2 _).trans (congrArg (fun z => p ys[i] (v, ts.mt W (k + ((n : Nat) : Int)) z)) hgx)
      have e3 : k + ((n : Nat) : Int) + ((ts.ct (g ys'[i]).2 : Nat) : Int) = k + ((n + ts.ct (g ys[i]).2 : Nat) : Int) := (congrArg (fun z => k + ((n : Nat) : Int) + z) hct).trans (by omega)
      refine ih.trans ((congr (congrArg (fun a => fin (List.set ys' i a)) e2) e3).trans ?_)
      rw [← hys]
      exact congrArg (fun l => fin l _) set_set_nat
    have hb' : k + (((t.ct (g ys[i]).1) + ts.ct (g ys[i]).2 : Nat) : Int) ≤ bigM := hb
    cases t with
    | int kk =>
      have e : iAdd .i64 k 1 = k + ((1 : Nat) : Int) := up1 (by omega) (by have : k + ((1 + ts.ct (g ys[i]).2 : Nat) : Int) ≤ bigM := hb'; omega)
      refine bind_eq (getI_lt hi) (bind_eq (getN_nat hi) (bind_eq rfl ?_))
      refine (congrArg (fun q => markFs mt ts c.2 (fun x => (g x).2) (fun x r => p x ((g x).1, r)) (i : Int) _ q fin) e).trans ?_
      exact one k 1 (by have : k + ((1 + ts.ct (g ys[i]).2 : Nat) : Int) ≤ bigM := hb'; omega)
    | bool =>
      have e : iAdd .i64 k 1 = k + ((1 : Nat) : Int) := up1 (by omega) (by have : k + ((1 + ts.ct (g ys[i]).2 : Nat) : Int) ≤ bigM := hb'; omega)
      refine no_then rfl (bind_eq (getI_lt hi) (bind_eq (getN_nat hi) (bind_eq rfl ?_)))
      refine (congrArg (fun q => markFs mt ts c.2 (fun x => (g x).2) (fun x r => p x ((g x).1, r)) (i : Int) _ q fin) e).trans ?_
      exact one (iEq (iRem k 3) 0) 1 (by have : k + ((1 + ts.ct (g ys[i]).2 : Nat) : Int) ≤ bigM := hb'; omega)
    | str =>
      have hk2 : k ≤ bigM := by have : k + ((1 + ts.ct (g ys[i]).2 : Nat) : Int) ≤ bigM := hb'; omega
      have e : iAdd .i64 k 1 = k + ((1 : Nat) : Int) := up1 (by omega) (by have : k + ((1 + ts.ct (g ys[i]).2 : Nat) : Int) ≤ bigM := hb'; omega)
      refine bind_eq (hmt k hk hk2) (bind_eq (getI_lt hi) (bind_eq (getN_nat hi) (bind_eq rfl ?_)))
      refine (congrArg (fun q => markFs mt ts c.2 (fun x => (g x).2) (fun x r => p x ((g x).1, r)) (i : Int) _ q fin) e).trans ?_
      exact one (W k) 1 (by have : k + ((1 + ts.ct (g ys[i]).2 : Nat) : Int) ≤ bigM := hb'; omega)
    | sl es =>
      have hb2 : k + ((sumW (fun x => es.ct x) (g ys[i]).1 + ts.ct (g ys[i]).2 : Nat) : Int) ≤ bigM := hb'
      have hm := hc.1 (g ys[i]).1 k hk (by show k + ((sumW (fun x => es.ct x) (g ys[i]).1 : Nat) : Int) ≤ bigM; omega) ho.1
      refine bind_eq (getI_lt hi) (bind_eq (getN_nat hi) (bind_eq (getN_nat hi) (bind_eq hm (bind_eq rfl ?_))))
      exact one (mkL W es (g ys[i]).1 k) (sumW (fun x => es.ct x) (g ys[i]).1) (by omega)
    | fn _ _ _ => exact hc.1.elim

theorem markSl_ok (hmt : MtOk mt W) (es : Tys) (c : CalM es) (hc : CalMOk W es c) : MarkOk W es (markSl es mt c) := by
  intro xs k hk hb hx
  have hl : L63 xs.length := hx.1
  have lp := loopMarkP (fun y => es.Ok y) (S := Int × (Int × (List es.D × Unit))) (f := markB es mt c) (fun x => es.ct x) (fun k x => es.mt W k x) (fun k i ys => (k, (i, (ys, ())))) (fun k ys => Sum.inl (k, ((ys.length : Int), (ys, ())))) bigM xs (fun x hm => Ok_mem hx.2 hm) (fun i ys hi k he ho h1 h2 => ?_) (fun k ys => ?_) k hk hb
  · exact bind_eq lp rfl
  · unfold markB
    refine lt_then (Int.ofNat_lt.2 hi) ?_
    rw [← nxt hi (by rw [he]; exact hl)]
    exact markFs_ok hmt es c hc (fun x => x) (fun _ r => r) (fun _ _ => rfl) (fun _ _ _ => rfl) (fun _ => rfl) i ys k _ hi h1 h2 ho
  · unfold markB
    exact lt_else (Int.le_refl _) rfl

theorem heldFs_ok (hmt : MtOk mt W) {F : Tys} {R : Type} : ∀ (ts : Tys) (c : CalH ts) (_ : CalHOk W ts c) (g : F.D → ts.D) (i : Nat) (ys : List F.D) (k : Int) (X : Option R) (fin : Int → Option R) (x0 : ts.D) (hi : i < ys.length) (_ : g ys[i] = ts.mt W k x0) (_ : 1 ≤ k) (_ : k + ((ts.ct x0 : Nat) : Int) ≤ bigM) (_ : ts.Ok x0),
    heldFs mt ts c g (i : Int) ys k X fin = fin (k + ((ts.ct x0 : Nat) : Int))
  | .nil, _, _, g, i, ys, k, X, fin, x0, hi, hg, hk, hb, ho => by
    show fin k = fin (k + ((0 : Nat) : Int))
    rw [show k + ((0 : Nat) : Int) = k by omega]
  | .cons t ts, c, hc, g, i, ys, k, X, fin, x0, hi, hg, hk, hb, ho => by
    have hb' : k + (((t.ct x0.1) + ts.ct x0.2 : Nat) : Int) ≤ bigM := hb
    have h1 : (g ys[i]).1 = t.mt W k x0.1 := congrArg Prod.fst hg
    have h2 : (g ys[i]).2 = ts.mt W (k + ((t.ct x0.1 : Nat) : Int)) x0.2 := congrArg Prod.snd hg
    have rest : heldFs mt ts c.2 (fun x => (g x).2) (i : Int) ys (k + ((t.ct x0.1 : Nat) : Int)) X fin = fin (k + ((t.ct x0.1 + ts.ct x0.2 : Nat) : Int)) := by
      rw [heldFs_ok hmt ts c.2 hc.2 (fun x => (g x).2) i ys (k + ((t.ct x0.1 : Nat) : Int)) X fin x0.2 hi h2 (by omega) (by omega) ho.2]
      rw [show k + ((t.ct x0.1 : Nat) : Int) + ((ts.ct x0.2 : Nat) : Int) = k + ((t.ct x0.1 + ts.ct x0.2 : Nat) : Int) by omega]
    cases t with
    | int kk =>
      have e : iAdd .i64 k 1 = k + ((1 : Nat) : Int) := up1 (by omega) (by have : k + ((1 + ts.ct x0.2 : Nat) : Int) ≤ bigM := hb'; omega)
      refine bind_eq (getI_lt hi) ((congrArg (fun z => bif !iEq z k then X else _) h1).trans (eq_int ?_))
      exact (congrArg (fun q => heldFs mt ts c.2 (fun x => (g x).2) (i : Int) ys q X fin) e).trans rest
    | bool =>
      have e : iAdd .i64 k 1 = k + ((1 : Nat) : Int) := up1 (by omega) (by have : k + ((1 + ts.ct x0.2 : Nat) : Int) ≤ bigM := hb'; omega)
      refine bind_eq (getI_lt hi) (no_then rfl ((congrArg (fun z => bif !bEq z (iEq (iRem k (3:Int)) (0:Int)) then X else _) h1).trans (eq_bool ?_)))
      exact (congrArg (fun q => heldFs mt ts c.2 (fun x => (g x).2) (i : Int) ys q X fin) e).trans rest
    | str =>
      have hk2 : k ≤ bigM := by have : k + ((1 + ts.ct x0.2 : Nat) : Int) ≤ bigM := hb'; omega
      have e : iAdd .i64 k 1 = k + ((1 : Nat) : Int) := up1 (by omega) (by have : k + ((1 + ts.ct x0.2 : Nat) : Int) ≤ bigM := hb'; omega)
      refine bind_eq (getI_lt hi) (bind_eq (hmt k hk hk2) ((congrArg (fun z => bif !sEq z (W k) then X else _) h1).trans (eq_str ?_)))
      exact (congrArg (fun q => heldFs mt ts c.2 (fun x => (g x).2) (i : Int) ys q X fin) e).trans rest
    | sl es =>
      have hb2 : k + ((sumW (fun x => es.ct x) x0.1 + ts.ct x0.2 : Nat) : Int) ≤ bigM := hb'
      have hm := hc.1 x0.1 k hk (by show k + ((sumW (fun x => es.ct x) x0.1 : Nat) : Int) ≤ bigM; omega) ho.1
      refine bind_eq (getI_lt hi) (bind_eq ((congrArg (fun z => c.1 ((z, ()), ((k, ()), ()))) h1).trans hm) ?_)
      refine (pos_else (by show 0 ≤ k + ((sumW (fun x => es.ct x) x0.1 : Nat) : Int); omega) ?_)
      exact rest
    | fn _ _ _ => exact hc.1.elim

theorem heldSl_ok (hmt : MtOk mt W) (es : Tys) (c : CalH es) (hc : CalHOk W es c) : HeldOk W es (heldSl es mt c) := by
  intro xs k hk hb hx
  have hl : L63 xs.length := hx.1
  have hlen : (mkL W es xs k).length = xs.length := markL_length _ _ xs k
  have lp := loopHeldP (S := Int × (Int × Unit)) (f := heldB es mt c ((mkL W es xs k, ()), ((k, ()), ()))) (fun x => es.ct x) (fun k x => es.mt W k x) (fun k i => (k, (i, ()))) (fun k => Sum.inl (k, ((xs.length : Int), ()))) bigM xs k (fun i x k' hxi hm h1 h2 => ?_) (fun k' => ?_) hk hb
  · exact bind_eq lp rfl
  · obtain ⟨hlt, he⟩ := List.getElem?_eq_some_iff.1 hm
    have ho : es.Ok x := hx.2 i x hxi
    unfold heldB
    have hlt2 : i < (mkL W es xs k).length := hlt
    refine lt_then (Int.ofNat_lt.2 hlt2) ?_
    rw [← nxt (n := xs.length) (by omega) hl]
    exact heldFs_ok hmt es c hc (fun x => x) i (mkL W es xs k) k' _ _ x hlt2 he h1 h2 ho
  · unfold heldB
    exact lt_else (Int.ofNat_le.2 (Nat.le_of_eq hlen)) rfl

/-- Marks as the laws use them: what is marked is held. -/
def MH (es : Tys) (M : MarkT es) (H : HeldT es) : Prop := ∀ (x : List es.D × Unit) (k : Int), 1 ≤ k → k ≤ 1125900000000000 → (Ty.sl es).Ok x.1 → (Ty.sl es).w x.1 ≤ 67108864 → ∃ k' x', M (x, ((k, ()), ())) = some ((k', ()), (x', ())) ∧ H (x', ((k, ()), ())) = some ((k', ()), ()) ∧ 1 ≤ k' ∧ k' ≤ k + 8589934592
def MO (es : Tys) (M : MarkT es) : Prop := ∀ (x : List es.D × Unit) (k : Int), 1 ≤ k → k ≤ 1125900000000000 → (Ty.sl es).Ok x.1 → (Ty.sl es).w x.1 ≤ 67108864 → ∃ k' x', M (x, ((k, ()), ())) = some ((k', ()), (x', ())) ∧ 1 ≤ k' ∧ k' ≤ k + 8589934592
theorem mh_of {es : Tys} {M : MarkT es} {H : HeldT es} (hM : MarkOk W es M) (hH : HeldOk W es H) (hf : (Ty.sl es).fits 62 = true) : MH es M H := fun x k hk hk2 ho hw => by
  have hc := ct_big (xs := x.1) hf hw
  have hb : k + ctL es x.1 ≤ bigM := by unfold bigM ctL; omega
  have h0 : (0 : Int) ≤ ctL es x.1 := Int.natCast_nonneg _
  exact ⟨_, _, hM x.1 k hk hb ho, hH x.1 k hk hb ho, by omega, by unfold ctL; omega⟩
theorem mo_of {es : Tys} {M : MarkT es} (hM : MarkOk W es M) (hf : (Ty.sl es).fits 62 = true) : MO es M := fun x k hk hk2 ho hw => by
  have hc := ct_big (xs := x.1) hf hw
  have hb : k + ctL es x.1 ≤ bigM := by unfold bigM ctL; omega
  have h0 : (0 : Int) ≤ ctL es x.1 := Int.natCast_nonneg _
  exact ⟨_, _, hM x.1 k hk hb ho, by omega, by unfold ctL; omega⟩
end
end Go.Tm
