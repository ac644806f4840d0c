/- A machine over plain data, part 4: what it gives is shown to be what the program's functions return. Conditions: none. -/
import Derived.Test.YtphaibffjdfhpaaGreatTm3
set_option linter.unusedVariables false
/- Plain words: marks of any kind of data. -/
namespace Go.Tm
open Go

theorem getN_nat {A : Type} {xs : List A} {i : Nat} (h : i < xs.length) : getN xs (Int.toNat (i : Int)) = some xs[i] := by
  rw [Int.toNat_natCast, getN_lt h]
theorem getI_set {A : Type} {xs : List A} {i : Nat} {a : A} (h : i < xs.length) : getI (List.set xs (Int.toNat (i : Int)) a) (i : Int) = some a := by
  rw [Int.toNat_natCast, getI_lt (by rw [List.length_set]; exact h)]; simp
theorem getN_set {A : Type} {xs : List A} {i : Nat} {a : A} (h : i < xs.length) : getN (List.set xs (Int.toNat (i : Int)) a) (Int.toNat (i : Int)) = some a := by
  rw [Int.toNat_natCast, getN_lt (by rw [List.length_set]; exact h)]; simp
theorem len_set {A : Type} {xs : List A} {i n : Nat} {a : A} (h : i < xs.length) : i < (List.set xs n a).length := by rw [List.length_set]; exact h
theorem set_last {A : Type} {xs ys : List A} {i : Nat} {a b : A} (h : List.set ys i b = List.set xs i b) : List.set (List.set ys (Int.toNat (i : Int)) a) (Int.toNat (i : Int)) b = List.set xs i b := by
  rw [Int.toNat_natCast, List.set_set, h]
theorem set_one {A : Type} {xs : List A} {i : Nat} {a b : A} : List.set (List.set xs (Int.toNat (i : Int)) a) i b = List.set xs i b := by
  rw [Int.toNat_natCast, List.set_set]
theorem set_nat {A : Type} {xs : List A} {i : Nat} {b : A} : List.set xs (Int.toNat (i : Int)) b = List.set xs i b := by
  rw [Int.toNat_natCast]
theorem st3 {A B C F : Type} {a a' : A} {b b' : B} {c c' : C} (h1 : a = a') (h2 : b = b') (h3 : c = c') : (some (Sum.inl (a, (b, (c, ())))) : Option (Sum (A × (B × (C × Unit))) F)) = some (Sum.inl (a', (b', (c', ())))) := by rw [h1, h2, h3]
theorem lt_then {A : Type} {a b : Int} {t e r : A} (h : a < b) (h2 : t = r) : (bif iLt a b then t else e) = r := by rw [iLt_true h]; exact h2
theorem lt_else {A : Type} {a b : Int} {t e r : A} (h : b ≤ a) (h2 : e = r) : (bif iLt a b then t else e) = r := by rw [iLt_false h]; exact h2
theorem no_then {A : Type} {b : Bool} {t e r : A} (h : b = false) (h2 : e = r) : (bif b then t else e) = r := by rw [h]; exact h2
theorem nx {i n : Nat} (h : i < n) (hn : n ≤ 9223372036854775807) : iAdd .i64 (i : Int) 1 = ((i + 1 : Nat) : Int) := iAdd_small (by omega) (by omega)

/-- The greatest number that is put. -/
abbrev bigM : Int := 4611686018427387904
theorem up1 {k : Int} (h : 0 ≤ k) (h2 : k + ((1 : Nat) : Int) ≤ bigM) : iAdd .i64 k 1 = k + ((1 : Nat) : Int) := by
  rw [iAdd_small (by omega) (by unfold bigM at h2; omega)]; omega

mutual
/-- How many numbers are put into it. -/
def Ty.ct : (t : Ty) → t.D → Nat
  | .int _, _ => 1
  | .bool, _ => 1
  | .str, _ => 1
  | .sl es, xs => sumW (fun x => es.ct x) xs
  | .fn _ _ _, _ => 0
def Tys.ct : (ts : Tys) → ts.D → Nat
  | .nil, _ => 0
  | .cons t ts, x => t.ct x.1 + ts.ct x.2
end

mutual
/-- What it is once numbers are put into it from one on; 'mt': the words of numbers. -/
def Ty.mt (mt : Int → ByteArray) : (t : Ty) → Int → t.D → t.D
  | .int _, k, _ => k
  | .bool, k, _ => iEq (iRem k 3) 0
  | .str, k, _ => mt k
  | .sl es, k, xs => markL (fun x => es.ct x) (fun k x => es.mt mt k x) xs k
  | .fn _ _ _, _, g => g
def Tys.mt (mt : Int → ByteArray) : (ts : Tys) → Int → ts.D → ts.D
  | .nil, _, _ => ()
  | .cons t ts, k, x => (t.mt mt k x.1, ts.mt mt (k + ((t.ct x.1 : Nat) : Int)) x.2)
end

section
variable {S E : Type}
/-- As loopMark, of what is so of all elements to begin with. -/
theorem loopMarkP {A : Type} (Pr : A → Prop) (c : A → Nat) (m : Int → A → A) {f : S → Option (Sum S E)} (mk : Int → Int → List A → S) (End : Int → List A → E) (B : Int) (xs : List A) (hP : ∀ x ∈ xs, Pr x)
    (hstep : ∀ i (ys : List A) (h : i < ys.length) k, ys.length = xs.length → Pr ys[i] → 1 ≤ k → k + c ys[i] ≤ B → f (mk k (i : Int) ys) = some (.inl (mk (k + c ys[i]) ((i + 1 : Nat) : Int) (ys.set i (m k ys[i])))))
    (hend : ∀ k (ys : List A), f (mk k (ys.length : Int) ys) = some (.inr (End k ys))) (k : Int) (hk : 1 ≤ k) (hb : k + sumW c xs ≤ B) :
    loopF f (mk k 0 xs) = some (End (k + sumW c xs) (markL c m xs k)) := by
  have key : ∀ (suf pre : List A) (k : Int), (∀ x ∈ suf, Pr x) → pre.length + suf.length = xs.length → 1 ≤ k → k + sumW c suf ≤ B → loopF f (mk k (pre.length : Int) (pre ++ suf)) = some (End (k + sumW c suf) (pre ++ markL c m suf k)) := by
    intro suf
    induction suf with
    | nil =>
      intro pre k _ _ _ _
      have := hend k (pre ++ [])
      rw [List.length_append, List.length_nil, Nat.add_zero] at this
      rw [loopF_end this]
      simp [sumW, markL]
    | cons x r ih =>
      intro pre k hp hpl hk hb
      have hlt : pre.length < (pre ++ x :: r).length := by simp
      have hx : (pre ++ x :: r)[pre.length] = x := by simp
      have hs : (pre ++ x :: r).set pre.length (m k x) = (pre ++ [m k x]) ++ r := by simp
      simp only [sumW] at hb
      have h1 := hstep pre.length (pre ++ x :: r) hlt k (by simp at hpl ⊢; omega) (by rw [hx]; exact hp x (by simp)) hk (by rw [hx]; omega)
      rw [hx, hs] at h1
      rw [loopF_step h1]
      have := ih (pre ++ [m k x]) (k + c x) (fun y hy => hp y (by simp [hy])) (by simp at hpl ⊢; omega) (by omega) (by omega)
      rw [List.length_append, List.length_singleton] at this
      rw [this]
      simp only [sumW, markL, List.append_assoc, List.singleton_append]
      rw [show k + ((c x + sumW c r : Nat) : Int) = k + c x + sumW c r by omega]
  have := key xs [] k hP (by simp) hk hb
  simpa using this

/-- As loopHeld, told which element it is. -/
theorem loopHeldP {A : Type} (c : A → Nat) (m : Int → A → A) {f : S → Option (Sum S E)} (mk : Int → Int → S) (End : Int → E) (B : Int) (xs : List A) (k0 : Int)
    (hstep : ∀ (i : Nat) x k, xs[i]? = some x → (markL c m xs k0)[i]? = some (m k x) → 1 ≤ k → k + c x ≤ B → f (mk k (i : Int)) = some (.inl (mk (k + c x) ((i + 1 : Nat) : Int))))
    (hend : ∀ k, f (mk k (xs.length : Int)) = some (.inr (End k))) (hk : 1 ≤ k0) (hb : k0 + sumW c xs ≤ B) : loopF f (mk k0 0) = some (End (k0 + sumW c xs)) := by
  have key : ∀ (suf : List A) (n : Nat) (k : Int), xs.drop n = suf → (markL c m xs k0).drop n = markL c m suf k → n + suf.length = xs.length → 1 ≤ k → k + sumW c suf ≤ B → loopF f (mk k (n : Int)) = some (End (k + sumW c suf)) := by
    intro suf
    induction suf with
    | nil =>
      intro n k _ _ hn _ _
      rw [show n = xs.length by simpa using hn, loopF_end (hend k)]
      simp [sumW]
    | cons x r ih =>
      intro n k hd0 hd hn hk hb
      simp only [sumW] at hb
      simp only [markL] at hd
      have hx : (markL c m xs k0)[n]? = some (m k x) := by
        have : ((markL c m xs k0).drop n)[0]? = some (m k x) := by rw [hd]; rfl
        rw [List.getElem?_drop] at this
        simpa using this
      have hx0 : xs[n]? = some x := by
        have : (xs.drop n)[0]? = some x := by rw [hd0]; rfl
        rw [List.getElem?_drop] at this
        simpa using this
      rw [loopF_step (hstep n x k hx0 hx hk (by omega))]
      rw [ih (n + 1) (k + c x) (by
        have := congrArg (List.drop 1) hd0
        simpa [List.drop_drop] using this) (by
        have := congrArg (List.drop 1) hd
        simpa [List.drop_drop] using this) (by simp at hn; omega) (by omega) (by omega)]
      simp only [sumW]
      rw [show k + ((c x + sumW c r : Nat) : Int) = k + c x + sumW c r by omega]
  have := key xs 0 k0 (by simp) (by simp) (by simp) hk hb
  simpa using this
theorem st2 {A B F : Type} {a a' : A} {b b' : B} (h1 : a = a') (h2 : b = b') : (some (Sum.inl (a, (b, ()))) : Option (Sum (A × (B × Unit)) F)) = some (Sum.inl (a', (b', ()))) := by rw [h1, h2]
end

mutual
/-- No element has more cells than so many. -/
def Ty.fits (M : Nat) : Ty → Bool
  | .sl es => Nat.ble es.len M && es.fits M
  | _ => true
def Tys.fits (M : Nat) : Tys → Bool
  | .nil => true
  | .cons t ts => t.fits M && ts.fits M
end

theorem sumW_le2 {A : Type} {c f : A → Nat} {a b : Nat} (h : ∀ x, c x ≤ a + b * f x) : ∀ xs : List A, sumW c xs ≤ a * xs.length + b * sumW f xs
  | [] => by simp [sumW]
  | x :: r => by
    have := sumW_le2 h r
    have h0 := h x
    simp only [sumW, List.length_cons, Nat.mul_add, Nat.mul_one]
    omega

mutual
theorem ct_leT {M : Nat} : ∀ (t : Ty) (x : t.D), t.fits M = true → t.ct x ≤ 1 + M * t.w x
  | .int _, _, _ => Nat.le_add_right _ _
  | .bool, _, _ => Nat.le_add_right _ _
  | .str, _, _ => Nat.le_add_right _ _
  | .sl es, xs, h => by
    simp only [Ty.fits, Bool.and_eq_true] at h
    have hl := Nat.le_of_ble_eq_true h.1
    have h1 : sumW (fun x => es.ct x) xs ≤ es.len * List.length (α := es.D) xs + M * sumW (fun x => es.w x) xs := sumW_le2 (fun x => ct_le es x h.2) xs
    have h2 : es.len * List.length (α := es.D) xs ≤ M * List.length (α := es.D) xs := Nat.mul_le_mul_right _ hl
    show sumW (fun x => es.ct x) xs ≤ 1 + M * (List.length (α := es.D) xs + sumW (fun x => es.w x) xs)
    rw [Nat.mul_add]
    omega
  | .fn _ _ _, _, _ => Nat.zero_le _
theorem ct_le {M : Nat} : ∀ (ts : Tys) (x : ts.D), ts.fits M = true → ts.ct x ≤ ts.len + M * ts.w x
  | .nil, _, _ => Nat.zero_le _
  | .cons t ts, x, h => by
    simp only [Tys.fits, Bool.and_eq_true] at h
    have h1 := ct_leT t x.1 h.1
    have h2 := ct_le ts x.2 h.2
    show t.ct x.1 + ts.ct x.2 ≤ (ts.len + 1) + M * (t.w x.1 + ts.w x.2)
    rw [Nat.mul_add]
    omega
end
end Go.Tm
