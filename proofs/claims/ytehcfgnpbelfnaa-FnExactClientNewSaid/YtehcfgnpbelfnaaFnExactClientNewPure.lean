/- Plain laws of a client's beginning, and of marks. Conditions: none. -/
import Derived.Test.YtehcfgnpbelfnaaBL
namespace Go.Proofs.Ytehcfgnpbelfnaa
open Go Go.Tm
set_option linter.unusedVariables false
set_option maxRecDepth 100000

theorem getN_nat {A : Type} {xs : List A} {i : Nat} (h : i < xs.length) : getN xs (Int.toNat (i : Int)) = some xs[i] := by
  rw [Int.toNat_natCast, getN_lt h]
theorem getI_set {A : Type} {xs : List A} {i : Nat} {a : A} (h : i < xs.length) : getI (List.set xs (Int.toNat (i : Int)) a) (i : Int) = some a := by
  rw [Int.toNat_natCast, getI_lt (by rw [List.length_set]; exact h)]; simp
theorem getN_set {A : Type} {xs : List A} {i : Nat} {a : A} (h : i < xs.length) : getN (List.set xs (Int.toNat (i : Int)) a) (Int.toNat (i : Int)) = some a := by
  rw [Int.toNat_natCast, getN_lt (by rw [List.length_set]; exact h)]; simp
theorem len_set {A : Type} {xs : List A} {i n : Nat} {a : A} (h : i < xs.length) : i < (List.set xs n a).length := by rw [List.length_set]; exact h
theorem set_last {A : Type} {xs ys : List A} {i : Nat} {a b : A} (h : List.set ys i b = List.set xs i b) : List.set (List.set ys (Int.toNat (i : Int)) a) (Int.toNat (i : Int)) b = List.set xs i b := by
  rw [Int.toNat_natCast, List.set_set, h]
theorem set_one {A : Type} {xs : List A} {i : Nat} {a b : A} : List.set (List.set xs (Int.toNat (i : Int)) a) i b = List.set xs i b := by
  rw [Int.toNat_natCast, List.set_set]
theorem set_nat {A : Type} {xs : List A} {i : Nat} {b : A} : List.set xs (Int.toNat (i : Int)) b = List.set xs i b := by
  rw [Int.toNat_natCast]
theorem st3 {A B C F : Type} {a a' : A} {b b' : B} {c c' : C} (h1 : a = a') (h2 : b = b') (h3 : c = c') : (some (Sum.inl (a, (b, (c, ())))) : Option (Sum (A × (B × (C × Unit))) F)) = some (Sum.inl (a', (b', (c', ())))) := by rw [h1, h2, h3]
theorem up {k : Int} (n : Nat) (h : 0 ≤ k) (h2 : k + n ≤ 4611686018427387904) (h1 : 1 ≤ n) {m : Int} (e : m = k + ((n - 1 : Nat) : Int)) : iAdd .i64 m 1 = k + n := by
  subst e
  rw [iAdd_small (by omega) (by omega)]; omega

/-- The words of numbers. -/
noncomputable def mt (k : Int) : ByteArray := match F86 ((k, ()), ()) with
  | some x => x.1.1
  | none => ⟨#[]⟩

theorem bytes1 (x : Tys.D e5) : (bytesStr [x]).size = 1 := rfl

theorem quo10 {k : Int} (h : 0 < k) (h2 : k ≤ 9223372036854775807) : iQuo .i64 k 10 = k / 10 := by
  unfold iQuo
  rw [Int.tdiv_eq_ediv_of_nonneg (by omega)]
  exact wrap64 (by omega) (by omega)

theorem text_loop : ∀ (j : Nat) (k : Int) (s : ByteArray), k < 10 ^ j → k ≤ 9223372036854775807 → s.size + j ≤ 1000 → ∃ k' s', loopF F86.b0 (k, (s, ())) = some (.inl (k', (s', ()))) ∧ s'.size ≤ 1000
  | j, k, s, hj, hk, hs => by
    by_cases h0 : k ≤ 0
    · refine ⟨k, s, loopF_end ?_, by omega⟩
      unfold F86.b0
      dsimp only
      rw [iLt_false h0, cond_false]
    · cases j with
      | zero => simp at hj; omega
      | succ j =>
        have hr : ∀ x : Tys.D e5, sRoom (bytesStr [x]) s = true := fun x => by
          unfold sRoom; rw [bytes1]; exact decide_eq_true (by omega)
        have hlt : k / 10 < 10 ^ j := by rw [Int.pow_succ] at hj; omega
        have hstep : ∃ s2 : ByteArray, F86.b0 (k, (s, ())) = some (.inl (k / 10, (s2, ()))) ∧ s2.size = 1 + s.size := by
          refine ⟨sApp (bytesStr [(IntKind.wrap .u8 (iAdd .i64 (48:Int) (iRem k (10:Int))), ())]) s, ?_, ?_⟩
          · unfold F86.b0
            dsimp only
            rw [iLt_true (by omega), cond_true, show iEq (10:Int) 0 = false from rfl, cond_false, quo10 (by omega) hk]
            exact (congrArg (fun b => bif b then _ else none) (hr _)).trans rfl
          · unfold sApp; rw [ByteArray.size_append]; exact congrArg (· + s.size) (bytes1 _)
        obtain ⟨s2, h1, h2⟩ := hstep
        rw [loopF_step h1]
        exact text_loop j (k / 10) s2 hlt (by omega) (by omega)

theorem mt_ok {k : Int} (h : 1 ≤ k) (h2 : k ≤ 4611686018427387904) : F86 ((k, ()), ()) = some ((mt k, ()), ()) := by
  obtain ⟨k', s', h3, h4⟩ := text_loop 19 k ⟨#[]⟩ (by omega) (by omega) (by decide)
  have : ∃ v, F86 ((k, ()), ()) = some ((v, ()), ()) := by
    refine ⟨sApp ⟨#[109]⟩ s', ?_⟩
    unfold F86
    dsimp only
    rw [show iLe k 0 = false from decide_eq_false (by omega), cond_false]
    refine bind_eq h3 ?_
    dsimp only [Sum.elim_inl]
    rw [show sRoom ⟨#[109]⟩ s' = true from decide_eq_true (by show 1 + s'.size ≤ _; omega), cond_true]
    rfl
  obtain ⟨v, hv⟩ := this
  unfold mt
  rw [hv]
  rfl

def mLeave (k : Int) (_ : Tys.D e193) : Tys.D e193 := (k, (k + 1, ()))
def cLeave (_ : Tys.D e193) : Nat := 2

theorem mark_leaves (xs : List (Tys.D e193)) (k : Int) (hk : 1 ≤ k) (hb : k + sumW cLeave xs ≤ 4611686018427387904) (hl : xs.length ≤ 9223372036854775807) :
    F87 ((xs, ()), ((k, ()), ())) = some ((k + sumW cLeave xs, ()), ((markL cLeave mLeave xs k, ()), ())) := by
  have lp := loopMark (S := Int × (Int × (List (Tys.D e193) × Unit))) (f := F87.b0) cLeave mLeave (fun k i ys => (k, (i, (ys, ())))) (fun k ys => Sum.inl (k, ((ys.length : Int), (ys, ())))) 4611686018427387904 xs (fun i ys hi k hyl h1 h2 => ?_) (fun k ys => ?_) k hk hb
  · unfold F87
    exact bind_eq lp rfl
  · unfold F87.b0 cLeave at *
    dsimp only
    rw [iLt_true (by omega), cond_true]
    have h2 : k + (2 : Nat) ≤ 4611686018427387904 := h2
    refine bind_eq (getI_lt hi) (bind_eq (getN_nat hi) (bind_eq (getI_set hi) (bind_eq (getN_set hi) ?_)))
    refine st3 (up 2 (by omega) h2 (by omega) (up 1 (by omega) (by omega) (by omega) (by omega))) (iAdd_small (by omega) (by omega)) ?_
    refine (set_last set_nat).trans ?_
    rw [iAdd_small (by omega) (by omega)]
    rfl
  · unfold F87.b0
    dsimp only
    rw [iLt_false (Int.le_refl _), cond_false]

noncomputable def mAcct (k : Int) (x : Tys.D e138) : Tys.D e138 := (mt k, ((k + ((1 : Nat) : Int) : Int), ((k + ((2 : Nat) : Int) : Int), ((k + ((3 : Nat) : Int) : Int), (markL cLeave mLeave x.2.2.2.2.1 (k + ((4 : Nat) : Int)), ())))))
def cAcct (x : Tys.D e138) : Nat := 4 + sumW cLeave x.2.2.2.2.1

/-- As loopMark, of what is so of all elements to begin with. -/
theorem loopMarkP {S E A : Type} (Pr : A → Prop) (c : A → Nat) (m : Int → A → A) {f : S → Option (Sum S E)} (mk : Int → Int → List A → S) (End : Int → List A → E) (B : Int) (xs : List A) (hP : ∀ x ∈ xs, Pr x)
    (hstep : ∀ i (ys : List A) (h : i < ys.length) k, ys.length = xs.length → Pr ys[i] → 1 ≤ k → k + c ys[i] ≤ B → f (mk k (i : Int) ys) = some (.inl (mk (k + c ys[i]) ((i + 1 : Nat) : Int) (ys.set i (m k ys[i])))))
    (hend : ∀ k (ys : List A), f (mk k (ys.length : Int) ys) = some (.inr (End k ys))) (k : Int) (hk : 1 ≤ k) (hb : k + sumW c xs ≤ B) :
    loopF f (mk k 0 xs) = some (End (k + sumW c xs) (markL c m xs k)) := by
  have key : ∀ (suf pre : List A) (k : Int), (∀ x ∈ suf, Pr x) → pre.length + suf.length = xs.length → 1 ≤ k → k + sumW c suf ≤ B → loopF f (mk k (pre.length : Int) (pre ++ suf)) = some (End (k + sumW c suf) (pre ++ markL c m suf k)) := by
    intro suf
    induction suf with
    | nil =>
      intro pre k _ _ _ _
      have := hend k (pre ++ [])
      rw [List.length_append, List.length_nil, Nat.add_zero] at this
      rw [loopF_end this]
      simp [sumW, markL]
    | cons x r ih =>
      intro pre k hp hpl hk hb
      have hlt : pre.length < (pre ++ x :: r).length := by simp
      have hx : (pre ++ x :: r)[pre.length] = x := by simp
      have hs : (pre ++ x :: r).set pre.length (m k x) = (pre ++ [m k x]) ++ r := by simp
      simp only [sumW] at hb
      have h1 := hstep pre.length (pre ++ x :: r) hlt k (by simp at hpl ⊢; omega) (by rw [hx]; exact hp x (by simp)) hk (by rw [hx]; omega)
      rw [hx, hs] at h1
      rw [loopF_step h1]
      have := ih (pre ++ [m k x]) (k + c x) (fun y hy => hp y (by simp [hy])) (by simp at hpl ⊢; omega) (by omega) (by omega)
      rw [List.length_append, List.length_singleton] at this
      rw [this]
      simp only [sumW, markL, List.append_assoc, List.singleton_append]
      rw [show k + ((c x + sumW c r : Nat) : Int) = k + c x + sumW c r by omega]
  have := key xs [] k hP (by simp) hk hb
  simpa using this

theorem mark_accts (xs : List (Tys.D e138)) (k : Int) (hk : 1 ≤ k) (hb : k + sumW cAcct xs ≤ 4611686018427387904) (hl : xs.length ≤ 9223372036854775807) (hls : ∀ y ∈ xs, List.length (α := Tys.D e193) y.2.2.2.2.1 ≤ 9223372036854775807) :
    F42 ((xs, ()), ((k, ()), ())) = some ((k + sumW cAcct xs, ()), ((markL cAcct mAcct xs k, ()), ())) := by
  have lp := loopMarkP (fun y : Tys.D e138 => List.length (α := Tys.D e193) y.2.2.2.2.1 ≤ 9223372036854775807) (S := Int × (Int × (List (Tys.D e138) × Unit))) (f := F42.b0) cAcct mAcct (fun k i ys => (k, (i, (ys, ())))) (fun k ys => Sum.inl (k, ((ys.length : Int), (ys, ())))) 4611686018427387904 xs hls (fun i ys hi k hyl hpr h1 h2 => ?_) (fun k ys => ?_) k hk hb
  · unfold F42
    exact bind_eq lp rfl
  · unfold F42.b0
    dsimp only
    have h2 : k + ((4 + sumW cLeave ys[i].2.2.2.2.1 : Nat) : Int) ≤ 4611686018427387904 := h2
    have u1 : iAdd .i64 k 1 = k + ((1 : Nat) : Int) := up 1 (by omega) (by omega) (by omega) (by omega)
    have u2 : iAdd .i64 (iAdd .i64 k 1) 1 = k + ((2 : Nat) : Int) := up 2 (by omega) (by omega) (by omega) u1
    have u3 : iAdd .i64 (iAdd .i64 (iAdd .i64 k 1) 1) 1 = k + ((3 : Nat) : Int) := up 3 (by omega) (by omega) (by omega) u2
    have u4 : iAdd .i64 (iAdd .i64 (iAdd .i64 (iAdd .i64 k 1) 1) 1) 1 = k + ((4 : Nat) : Int) := up 4 (by omega) (by omega) (by omega) u3
    rw [iLt_true (by omega), cond_true]
    refine bind_eq (mt_ok h1 (by omega)) (bind_eq (getI_lt hi) (bind_eq (getN_nat hi) (bind_eq (getI_set hi) (bind_eq (getN_set hi) (bind_eq (getI_set (len_set hi)) (bind_eq (getN_set (len_set hi)) (bind_eq (getI_set (len_set (len_set hi))) (bind_eq (getN_set (len_set (len_set hi)))
      (bind_eq (getI_set (len_set (len_set (len_set hi)))) (bind_eq (getN_set (len_set (len_set (len_set hi)))) (bind_eq (getN_set (len_set (len_set (len_set hi)))) ?_)))))))))))
    refine bind_eq ((congrArg (fun z => F87 ((ys[i].2.2.2.2.1, ()), ((z, ()), ()))) u4).trans (mark_leaves ys[i].2.2.2.2.1 _ (by omega) (by omega) hpr)) ?_
    refine st3 ?_ (iAdd_small (by omega) (by omega)) ?_
    · show k + ((4 : Nat) : Int) + (sumW cLeave ys[i].2.2.2.2.1 : Int) = k + ((4 + sumW cLeave ys[i].2.2.2.2.1 : Nat) : Int)
      omega
    · refine (set_last (set_one.trans (set_one.trans set_one))).trans ?_
      refine congrArg (List.set ys i) ?_
      show (mt k, (iAdd .i64 k 1, (iAdd .i64 (iAdd .i64 k 1) 1, (iAdd .i64 (iAdd .i64 (iAdd .i64 k 1) 1) 1, (markL cLeave mLeave ys[i].2.2.2.2.1 (k + ((4 : Nat) : Int)), ()))))) = mAcct k ys[i]
      rw [u1]
      rw [u1] at u2
      rw [u2]
      rw [u1, u2] at u3
      rw [u3]
      rfl
  · unfold F42.b0
    dsimp only
    rw [iLt_false (Int.le_refl _), cond_false]

noncomputable def mVal (k : Int) (_ : Tys.D e106) : Tys.D e106 := (mt k, ((k + ((1 : Nat) : Int) : Int), ()))
def cVal (_ : Tys.D e106) : Nat := 2

theorem mark_vals (xs : List (Tys.D e106)) (k : Int) (hk : 1 ≤ k) (hb : k + sumW cVal xs ≤ 4611686018427387904) (hl : xs.length ≤ 9223372036854775807) :
    F43 ((xs, ()), ((k, ()), ())) = some ((k + sumW cVal xs, ()), ((markL cVal mVal xs k, ()), ())) := by
  have lp := loopMark (S := Int × (Int × (List (Tys.D e106) × Unit))) (f := F43.b0) cVal mVal (fun k i ys => (k, (i, (ys, ())))) (fun k ys => Sum.inl (k, ((ys.length : Int), (ys, ())))) 4611686018427387904 xs (fun i ys hi k hyl h1 h2 => ?_) (fun k ys => ?_) k hk hb
  · unfold F43
    exact bind_eq lp rfl
  · unfold F43.b0
    dsimp only
    have h2 : k + (2 : Nat) ≤ 4611686018427387904 := h2
    rw [iLt_true (by omega), cond_true]
    refine bind_eq (mt_ok h1 (by omega)) (bind_eq (getI_lt hi) (bind_eq (getN_nat hi) (bind_eq (getI_set hi) (bind_eq (getN_set hi) ?_))))
    refine st3 (up 2 (by omega) h2 (by omega) (up 1 (by omega) (by omega) (by omega) (by omega))) (iAdd_small (by omega) (by omega)) ?_
    refine (set_last set_nat).trans ?_
    rw [up (k := k) 1 (by omega) (by omega) (by omega) (by omega)]
    rfl
  · unfold F43.b0
    dsimp only
    rw [iLt_false (Int.le_refl _), cond_false]

theorem held_vals (xs : List (Tys.D e106)) (k : Int) (hk : 1 ≤ k) (hb : k + sumW cVal xs ≤ 4611686018427387904) (hl : xs.length ≤ 9223372036854775807) :
    F44 ((markL cVal mVal xs k, ()), ((k, ()), ())) = some ((k + sumW cVal xs, ()), ()) := by
  have lp := loopHeld (S := Int × (Int × Unit)) (f := F44.b0 ((markL cVal mVal xs k, ()), ((k, ()), ()))) cVal mVal (fun k i => (k, (i, ()))) (fun k => Sum.inl (k, ((xs.length : Int), ()))) 4611686018427387904 xs k (fun i x k' hi h1 h2 => ?_) (fun k' => ?_) hk hb
  · unfold F44
    exact bind_eq lp rfl
  · unfold F44.b0
    dsimp only
    have h2 : k' + (2 : Nat) ≤ 4611686018427387904 := h2
    obtain ⟨hlt, he⟩ := List.getElem?_eq_some_iff.1 hi
    have hlen := markL_length cVal mVal xs k
    rw [iLt_true (by omega), cond_true]
    refine bind_eq ((getI_lt hlt).trans (congrArg some he)) (bind_eq (mt_ok h1 (by omega)) ?_)
    dsimp only [mVal]
    rw [sEq_self, Bool.not_true, cond_false]
    refine bind_eq ((getI_lt hlt).trans (congrArg some he)) ?_
    dsimp only [mVal]
    rw [up (k := k') 1 (by omega) (by omega) (by omega) (by omega), iEq_self, Bool.not_true, cond_false, up (k := k') 2 (by omega) h2 (by omega) (by omega), iAdd_small (by omega) (by omega)]
    rfl
  · unfold F44.b0
    dsimp only
    rw [markL_length, iLt_false (Int.le_refl _), cond_false]

/-- A client's beginning. -/
def clientL (x : Int × (List (Tys.D e138) × Unit)) : Int × (List (Tys.D e106) × Unit) := bif ledgerB x then (x.1, (setL x.2.1, ())) else (0, ([], ()))

theorem spec_client (x : Int × (List (Tys.D e138) × Unit)) (hl : x.2.1.length ≤ 1048576) (hx : (Ty.sl e138).Ok x.2.1) : F9 (x, ()) = some (clientL x, ()) := by
  obtain ⟨n, xs, _⟩ := x
  unfold F9
  refine bind_bool (spec_ledger _ hx) (fun hb => ?_) (fun hb => ?_)
  · refine bind_eq (spec_set n xs hl).1 ?_
    unfold clientL
    rw [show ledgerB (n, (xs, ())) = true from hb]
    rfl
  · unfold clientL
    rw [show ledgerB (n, (xs, ())) = false from hb]
    rfl
theorem impl_client (x : Int × (List (Tys.D e138) × Unit)) (hl : x.2.1.length ≤ 1048576) (hx : (Ty.sl e138).Ok x.2.1) : F11 (x, ()) = some (clientL x, ()) := by
  obtain ⟨n, xs, _⟩ := x
  unfold F11
  refine bind_bool (impl_ledger _ hx) (fun hb => ?_) (fun hb => ?_)
  · refine bind_eq (impl_set n xs hl hx) ?_
    unfold clientL
    rw [show ledgerB (n, (xs, ())) = true from hb]
    rfl
  · unfold clientL
    rw [show ledgerB (n, (xs, ())) = false from hb]
    rfl

theorem setL_ok (n : Int) (xs : List (Tys.D e138)) (hx : (Ty.sl e138).Ok xs) : ∀ y ∈ setL xs, e106.Ok y := by
  have key : ∀ k, k ≤ xs.length → ∀ y ∈ valAt xs (fun _ s y => setStep s y) [] k, e106.Ok y := by
    intro k
    induction k with
    | zero => intro _ y hy; cases hy
    | succ k ih =>
      intro hk y hy
      rw [valAt_le xs _ _ (by omega)] at hy
      have hok := Ok_mem hx.2 (List.getElem_mem (show k < xs.length by omega))
      unfold setStep at hy
      cases h5 : iLe 5 xs[k].2.2.2.1 with
      | false => rw [h5] at hy; exact ih (by omega) y hy
      | true =>
        rw [h5] at hy
        rcases List.mem_append.1 hy with hy | hy
        · exact ih (by omega) y hy
        · have e := List.eq_of_mem_singleton hy
          rw [e]
          exact ⟨hok.1, hok.2.2.2.1, trivial⟩
  exact key _ (Nat.le_refl _)

theorem client_ok (x : Int × (List (Tys.D e138) × Unit)) (hl : x.2.1.length ≤ 1048576) (hn : (Ty.int .i64).Ok x.1) (hx : (Ty.sl e138).Ok x.2.1) : (clientL x).2.1.length ≤ 1048576 ∧ (Ty.sl e106).Ok (clientL x).2.1 := by
  have h1 := (spec_set x.1 x.2.1 hl).2
  unfold clientL
  cases ledgerB x with
  | false => exact ⟨Nat.zero_le _, Nat.zero_le _, fun i y h => by simp [getN] at h⟩
  | true =>
    refine ⟨Nat.le_trans h1 hl, Nat.le_trans (Nat.le_trans h1 hl) (by decide), fun i y h => ?_⟩
    exact setL_ok 0 x.2.1 hx y (List.mem_of_getElem? h)

theorem sumW_le {A : Type} {c f : A → Nat} {a b : Nat} (h : ∀ x, c x ≤ a + b * f x) : ∀ xs : List A, sumW c xs ≤ a * xs.length + b * sumW f xs
  | [] => by simp [sumW]
  | x :: r => by
    have := sumW_le h r
    have h0 := h x
    simp only [sumW, List.length_cons, Nat.mul_add, Nat.mul_one]
    omega

theorem cAcct_le (x : Tys.D e138) : cAcct x ≤ 4 + 4 * e138.w x := by
  have h1 : sumW cLeave x.2.2.2.2.1 ≤ 2 * List.length (α := Tys.D e193) x.2.2.2.2.1 + 0 * sumW (fun _ => 0) x.2.2.2.2.1 := sumW_le (c := cLeave) (f := fun _ => 0) (a := 2) (b := 0) (fun _ => Nat.le_refl _) _
  have h2 : List.length (α := Tys.D e193) x.2.2.2.2.1 ≤ e138.w x := w_len (w_1 (w_tl (w_tl (w_tl (w_tl (Nat.le_refl (e138.w x)))))))
  unfold cAcct
  omega

theorem mark_ledger (x : Int × (List (Tys.D e138) × Unit)) (hx : (Ty.sl e138).Ok x.2.1) (hw : (Ty.sl e138).w x.2.1 ≤ 1048576) : F14 (x, (((1:Int), ()), ())) = some (((1 + (sumW cAcct x.2.1 : Int) : Int), ()), ((x.1, (markL cAcct mAcct x.2.1 1, ())), ())) := by
  have h1 := sumW_le cAcct_le x.2.1
  have hw : x.2.1.length + sumW e138.w x.2.1 ≤ 1048576 := hw
  unfold F14
  exact bind_eq (mark_accts x.2.1 1 (Int.le_refl _) (by omega) hx.1 (fun y hy => ok_leaves (Ok_mem hx.2 hy))) rfl

theorem cVal_sum (xs : List (Tys.D e106)) : sumW cVal xs ≤ 2 * xs.length := by
  have := sumW_le (c := cVal) (f := fun _ => 0) (a := 2) (b := 0) (fun _ => Nat.le_refl _) xs
  omega
theorem mark_client (x : Int × (List (Tys.D e106) × Unit)) (hl : x.2.1.length ≤ 1048576) : F15 (x, (((1:Int), ()), ())) = some (((1 + (sumW cVal x.2.1 : Int) : Int), ()), ((x.1, (markL cVal mVal x.2.1 1, ())), ())) := by
  have := cVal_sum x.2.1
  unfold F15
  exact bind_eq (mark_vals x.2.1 1 (Int.le_refl _) (by omega) (by omega)) rfl
theorem held_client (x : Int × (List (Tys.D e106) × Unit)) (hl : x.2.1.length ≤ 1048576) : F16 ((x.1, (markL cVal mVal x.2.1 1, ())), (((1:Int), ()), ())) = some (((1 + (sumW cVal x.2.1 : Int) : Int), ()), ()) := by
  have := cVal_sum x.2.1
  unfold F16
  refine bind_eq (held_vals x.2.1 1 (Int.le_refl _) (by omega) (by omega)) ?_
  exact (congrArg (fun b => bif b then _ else _) (iLt_false (by omega : (0:Int) ≤ 1 + sumW cVal x.2.1))).trans rfl

theorem pos_else {R : Type} {k : Int} {a b r : R} (h : 0 ≤ k) (h2 : b = r) : (bif iLt k 0 then a else b) = r := by rw [iLt_false h]; exact h2
theorem same_else {R : Type} {k k' : Int} {a b r : R} (h : k = k') (h2 : b = r) : (bif !iEq k k' then a else b) = r := by rw [h, iEq_self]; exact h2

theorem one_nn (n : Nat) : (0:Int) ≤ 1 + (n : Int) := by omega
theorem fnExactClientNew_pure : ∀ x, OkG i3 x → F3 x = some ((true, ()), ()) := by
  rintro ⟨x, _⟩ ⟨hx, _⟩
  unfold F3
  refine bind_eq (w8 x hx 1048576 (by decide) (by decide)) ?_
  by_cases hn : ((.cons (.int .i64) (.cons (.sl e133) .nil)) : Tys).w x ≤ 1048576
  · have hsz : (I1 (szR (((.cons (.int .i64) (.cons (.sl e133) .nil)) : Tys).w x) 1048576)).1.1 = 1048576 - (((.cons (.int .i64) (.cons (.sl e133) .nil)) : Tys).w x : Int) := if_pos (by omega)
    rw [hsz]
    refine pos_else (by omega) ?_
    have hl : List.length (α := Tys.D e138) x.2.1 ≤ 1048576 := w_len (w_1 (w_tl hn))
    have hok : (Ty.sl e138).Ok x.2.1 := hx.2.1
    have hwl : (Ty.sl e138).w x.2.1 ≤ 1048576 := by
      have : (Ty.sl e133).w x.2.1 ≤ 1048576 := by
        have h : 0 + ((Ty.sl e133).w x.2.1 + 0) ≤ 1048576 := hn
        omega
      exact this
    have hc := client_ok x hl hx.1 hok
    have hcl : ((.cons (.int .i64) (.cons (.sl e106) .nil)) : Tys).Ok (clientL x) := by
      refine ⟨?_, hc.2, trivial⟩
      unfold clientL
      cases ledgerB x with
      | false => rfl
      | true => exact hx.1
    have cc := cVal_sum (clientL x).2.1
    refine bind_eq (t10 x hn) (bind_eq (spec_client x hl hok) (bind_eq (t10 x hn) (bind_eq (impl_client x hl hok) (eq_call (s12 (clientL x) hcl) (bind_eq (t10 x hn) (eq_call (s13 x hx) (bind_eq (mark_ledger x hok hwl) ?_)))))))
    refine pos_else (one_nn _) (eq_call (s12 (clientL x) hcl) (bind_eq (mark_client (clientL x) hc.1) (bind_eq (held_client (clientL x) hc.1) (pos_else (one_nn _) (same_else rfl ?_)))))
    exact bind_eq (t10 x hn) (bind_eq (impl_client x hl hok) (eq_call (s12 (clientL x) hcl) (bind_eq (held_client (clientL x) hc.1) (pos_else (one_nn _) (same_else rfl rfl)))))
  · have hsz : (I1 (szR (((.cons (.int .i64) (.cons (.sl e133) .nil)) : Tys).w x) 1048576)).1.1 = -1 := if_neg (by omega)
    rw [hsz]
    rfl
end Go.Proofs.Ytehcfgnpbelfnaa
