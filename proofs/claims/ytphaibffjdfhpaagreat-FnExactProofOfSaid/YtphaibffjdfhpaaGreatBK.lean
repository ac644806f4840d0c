/- Plain laws of copies: the program's and the reference's copies of blocks and proofs are what was copied. Conditions: none. -/
import Derived.Test.YtphaibffjdfhpaaGreatBH
import Derived.Test.YtphaibffjdfhpaaGreatTm4
namespace Go.Proofs.YtphaibffjdfhpaaGreat
open Go Go.Tm
set_option linter.unusedVariables false
set_option maxRecDepth 100000

theorem room_ok {n b : Nat} (h1 : n ≤ 1048577) (h2 : b ≤ 1000) (h3 : 0 < b) : room n b = true := by
  unfold room
  refine decide_eq_true ⟨?_, h3⟩
  have : n * b ≤ 1048577 * 1000 := Nat.mul_le_mul h1 h2
  omega
theorem room_then {A R : Type} {xs : List A} {b : Nat} {t e r : R} (h : xs.length ≤ 1048576) (h2 : b ≤ 1000) (h3 : 0 < b) (ht : t = r) : (bif room (List.length ([] : List A) + xs.length) b then t else e) = r := by
  rw [room_ok (by simp; omega) h2 h3]; exact ht
theorem both_same {R : Type} {a b : Option R} (h : a = b) : both a b = a := by
  unfold both
  exact if_pos h
theorem clone_ok {A : Type} {b : Nat} (xs : List A) (h : xs.length ≤ 1048576) (h2 : b ≤ 1000) (h3 : 0 < b) :
    (bif xs.isEmpty then both (some ((([] : List A), ()), ())) (bif room (List.length ([] : List A) + List.length xs) b then some ((lapp ([] : List A) xs, ()), ()) else none) else bif room (List.length ([] : List A) + List.length xs) b then some ((lapp ([] : List A) xs, ()), ()) else none) = some ((xs, ()), ()) := by
  have hr : (bif room (List.length ([] : List A) + List.length xs) b then some ((lapp ([] : List A) xs, ()), ()) else none) = some ((xs, ()), ()) := room_then h h2 h3 rfl
  rw [hr]
  cases xs with
  | nil => exact both_same rfl
  | cons _ _ => rfl

abbrev W1 (n : Nat) : Prop := n ≤ 1048576

theorem spec_qc (r b : Int) (who : List (Tys.D e9)) (h : W1 who.length) : F137 ((r, (b, (who, ()))), ()) = some ((r, (b, (who, ()))), ()) := by
  unfold F137
  exact room_then h (by decide) (by decide) rfl
theorem spec_tc (r : Int) (who : List (Tys.D e9)) (hs : List (Tys.D e3)) (h : W1 who.length) (h2 : W1 hs.length) : F225 ((r, (who, (hs, ()))), ()) = some ((r, (who, (hs, ()))), ()) := by
  unfold F225
  exact room_then h (by decide) (by decide) (room_then h2 (by decide) (by decide) rfl)
theorem impl_qc (r b : Int) (who : List (Tys.D e9)) (h : W1 who.length) : F147 ((r, (b, (who, ()))), ()) = some ((r, (b, (who, ()))), ()) := by
  unfold F147
  exact bind_eq (by unfold F105; exact clone_ok who h (by decide) (by decide)) rfl
theorem impl_tc (r : Int) (who : List (Tys.D e9)) (hs : List (Tys.D e3)) (h : W1 who.length) (h2 : W1 hs.length) : F226 ((r, (who, (hs, ()))), ()) = some ((r, (who, (hs, ()))), ()) := by
  unfold F226
  refine bind_eq (by unfold F105; exact clone_ok who h (by decide) (by decide)) (bind_eq (by unfold F245; exact clone_ok hs h2 (by decide) (by decide)) rfl)

/-- A block's lists are not long. -/
def BlockL (x : Tys.D e138) : Prop := W1 (List.length (α := Tys.D e9) x.2.2.2.2.2.2.1) ∧ W1 (List.length (α := Tys.D e9) x.2.2.2.2.2.2.2.2.1) ∧ W1 (List.length (α := Tys.D e3) x.2.2.2.2.2.2.2.2.2.1) ∧ W1 (List.length (α := Tys.D e195) x.2.2.2.2.2.2.2.2.2.2.1) ∧ W1 (List.length (α := Tys.D e188) x.2.2.2.2.2.2.2.2.2.2.2.2.1)

theorem spec_block (x : Tys.D e138) (h : BlockL x) : F203 (x, ()) = some (x, ()) := by
  unfold F203
  exact bind_eq (spec_qc _ _ _ h.1) (bind_eq (spec_tc _ _ _ h.2.1 h.2.2.1) (room_then h.2.2.2.1 (by decide) (by decide) (room_then h.2.2.2.2 (by decide) (by decide) rfl)))
theorem impl_block (x : Tys.D e138) (h : BlockL x) : F204 (x, ()) = some (x, ()) := by
  unfold F204
  exact bind_eq (impl_qc _ _ _ h.1) (bind_eq (impl_tc _ _ _ h.2.1 h.2.2.1) (bind_eq (by unfold F227; exact clone_ok _ h.2.2.2.1 (by decide) (by decide)) (bind_eq (by unfold F194; exact clone_ok _ h.2.2.2.2 (by decide) (by decide)) rfl)))

theorem loopCopy {S E A : Type} (xs : List A) {f : S → Option (Sum S E)} (mk : List A → Int → S) (e : E) (hstep : ∀ i (h : i < xs.length), f (mk (xs.take i) (i : Int)) = some (.inl (mk (xs.take i ++ [xs[i]]) ((i + 1 : Nat) : Int)))) (hend : f (mk xs (xs.length : Int)) = some (.inr e)) : loopF f (mk [] 0) = some e := by
  have := loopF_trace (f := f) (fun i => mk (xs.take i) (i : Int)) xs.length (e := e) (fun i hi => by rw [hstep i hi, List.take_succ_eq_append_getElem hi]) (by rw [List.take_length]; exact hend)
  simpa using this
theorem clt_then {A : Type} {a b : Int} {t e r : A} (h : a < b) (h2 : t = r) : (bif iLt a b then t else e) = r := by rw [iLt_true h]; exact h2
theorem clt_else {A : Type} {a b : Int} {t e r : A} (h : b ≤ a) (h2 : e = r) : (bif iLt a b then t else e) = r := by rw [iLt_false h]; exact h2
theorem cnx {i n : Nat} (h : i < n) (hn : W1 n) : iAdd .i64 (i : Int) 1 = ((i + 1 : Nat) : Int) := by
  unfold W1 at hn
  rw [iAdd_small (by omega) (by omega)]; omega
theorem room_one {A R : Type} {xs : List A} {x : A} {i b : Nat} {t e r : R} (h : i < xs.length) (hl : W1 xs.length) (h2 : b ≤ 1000) (h3 : 0 < b) (ht : t = r) : (bif room (List.length (xs.take i) + List.length [x]) b then t else e) = r := by
  rw [room_ok (by simp; unfold W1 at hl; omega) h2 h3]; exact ht

theorem spec_blocks (xs : List (Tys.D e138)) (hl : W1 xs.length) (hb : ∀ x ∈ xs, BlockL x) : F136 ((xs, ()), ()) = some ((xs, ()), ()) := by
  have lp : loopF (F136.b0 ((xs, ()), ())) (([] : List (Tys.D e138)), ((0:Int), ())) = some (Sum.inl (xs, ((xs.length : Int), ()))) := by
    refine loopCopy (S := List (Tys.D e138) × (Int × Unit)) xs (fun l i => (l, (i, ()))) _ (fun i hi => ?_) ?_
    · unfold F136.b0
      refine clt_then (Int.ofNat_lt.2 hi) (bind_eq (getI_lt hi) (bind_eq (spec_block _ (hb _ (List.getElem_mem hi))) (room_one hi hl (by decide) (by decide) ?_)))
      exact congrArg (fun z => some (Sum.inl (xs.take i ++ [xs[i]], (z, ())))) (cnx hi hl)
    · unfold F136.b0
      exact clt_else (Int.le_refl _) rfl
  unfold F136
  exact bind_eq lp rfl
theorem impl_blocks (xs : List (Tys.D e138)) (hl : W1 xs.length) (hb : ∀ x ∈ xs, BlockL x) : F146 ((xs, ()), ()) = some ((xs, ()), ()) := by
  have lp : loopF (F146.b0 ((xs, ()), ())) (([] : List (Tys.D e138)), ((0:Int), ())) = some (Sum.inl (xs, ((xs.length : Int), ()))) := by
    refine loopCopy (S := List (Tys.D e138) × (Int × Unit)) xs (fun l i => (l, (i, ()))) _ (fun i hi => ?_) ?_
    · unfold F146.b0
      refine clt_then (Int.ofNat_lt.2 hi) (bind_eq (getI_lt hi) (bind_eq (impl_block _ (hb _ (List.getElem_mem hi))) (room_one hi hl (by decide) (by decide) ?_)))
      exact congrArg (fun z => some (Sum.inl (xs.take i ++ [xs[i]], (z, ())))) (cnx hi hl)
    · unfold F146.b0
      exact clt_else (Int.le_refl _) rfl
  unfold F146
  exact bind_eq lp rfl

/-- A proof's lists are not long. -/
def ProofL (x : Tys.D e43) : Prop := W1 (List.length (α := Tys.D e138) x.2.1) ∧ (∀ y ∈ (show List (Tys.D e138) from x.2.1), BlockL y) ∧ W1 (List.length (α := Tys.D e9) x.2.2.2.2.1)
theorem spec_proof (x : Tys.D e43) (h : ProofL x) : F50 (x, ()) = some (x, ()) := by
  unfold F50
  exact bind_eq (spec_blocks _ h.1 h.2.1) (bind_eq (spec_qc _ _ _ h.2.2) rfl)
theorem impl_proof (x : Tys.D e43) (h : ProofL x) : F61 (x, ()) = some (x, ()) := by
  unfold F61
  exact bind_eq (impl_blocks _ h.1 h.2.1) (bind_eq (impl_qc _ _ _ h.2.2) rfl)

/-- A loop that ends at the first that is so. -/
theorem loopFind {S E A : Type} (xs : List A) (p : A → Bool) {f : S → Option (Sum S E)} (mk : Int → S) (e : E) (R : Nat → A → E) (hstep : ∀ i (h : i < xs.length), f (mk (i : Int)) = bif p xs[i] then some (.inr (R i xs[i])) else some (.inl (mk ((i + 1 : Nat) : Int)))) (hend : f (mk (xs.length : Int)) = some (.inr e)) :
    (∃ i, ∃ h : i < xs.length, xs.find? p = some xs[i] ∧ loopF f (mk 0) = some (R i xs[i])) ∨ (xs.find? p = none ∧ loopF f (mk 0) = some e) := by
  have key : ∀ (suf : List A) (k : Nat), xs.drop k = suf → k + suf.length = xs.length → (∃ i, ∃ h : i < xs.length, suf.find? p = some xs[i] ∧ loopF f (mk (k : Int)) = some (R i xs[i])) ∨ (suf.find? p = none ∧ loopF f (mk (k : Int)) = some e) := by
    intro suf
    induction suf with
    | nil =>
      intro k _ hk
      right
      refine ⟨rfl, ?_⟩
      rw [show k = xs.length by simpa using hk, loopF_end hend]
    | cons x suf ih =>
      intro k hd hk
      have hlt : k < xs.length := by simp at hk; omega
      have hx : xs[k] = x := by
        have : (xs.drop k)[0]? = some x := by rw [hd]; rfl
        rw [List.getElem?_drop] at this
        simpa [hlt] using this
      have h1 := hstep k hlt
      cases hp : p x with
      | true =>
        rw [hx, hp] at h1
        left
        refine ⟨k, hlt, ?_, ?_⟩
        · rw [List.find?_cons_of_pos hp, hx]
        · rw [loopF_end h1, hx]
      | false =>
        rw [hx, hp] at h1
        rw [loopF_step h1, List.find?_cons_of_neg (by simp [hp])]
        exact ih (k + 1) (by
          have := congrArg (List.drop 1) hd
          simpa [List.drop_drop] using this) (by simp at hk; omega)
  exact key xs 0 rfl (by simp)

def pastE (x0 : GD i9) : List (Tys.D e43) := x0.1.2.2.2.2.2.2.2.2.2.2.2.2.2.2.2.2.2.2.2.1
def proofR (past : List (Tys.D e43)) (ep : Int) : GD o9 := match past.find? (fun p => iEq p.1 ep) with
  | some p => (p, ((true, ()), ()))
  | none => (((0:Int), ([], ((0:Int), ((0:Int), ([], ()))))), ((false, ()), ()))

theorem spec_find (n : GD i9) (hl : W1 (pastE n).length) (hp : ∀ p ∈ pastE n, ProofL p) : F9 n = some (proofR (pastE n) n.2.1.1) := by
  have lp := loopFind (S := Int × Unit) (f := F9.b0 n) (pastE n) (fun p => iEq p.1 n.2.1.1) (fun k => (k, ())) (Sum.inl (((pastE n).length : Int), ())) (fun _ p => Sum.inr (p, ((true, ()), ()))) (fun i hi => ?_) ?_
  · unfold F9 proofR
    rcases lp with ⟨i, hi, h1, h2⟩ | ⟨h1, h2⟩
    · rw [h1]; exact bind_eq h2 rfl
    · rw [h1]; exact bind_eq h2 rfl
  · unfold F9.b0
    refine clt_then (Int.ofNat_lt.2 hi) (bind_eq (getI_lt (xs := pastE n) hi) ?_)
    cases hq : iEq (pastE n)[i].1 n.2.1.1 with
    | true => exact bind_eq (getI_lt (xs := pastE n) hi) (bind_eq (spec_proof _ (hp _ (List.getElem_mem hi))) rfl)
    | false => exact congrArg (fun z => some (Sum.inl (z, ()))) (cnx hi hl)
  · unfold F9.b0
    exact clt_else (Int.le_refl _) rfl

theorem impl_find (n : GD i11) (hl : W1 (pastE n).length) (hp : ∀ p ∈ pastE n, ProofL p) : F11 n = some (proofR (pastE n) n.2.1.1) := by
  let g : Tys.D e43 → Option (Bool × Unit) := fun p1 => (F145 ((p1.1, (p1.2.1, (p1.2.2.1, (p1.2.2.2.1, (p1.2.2.2.2.1, ()))))), ((n.2.1.1, ()), ()))).bind fun y2 => some (y2.1.1, ())
  have lp := loopFind (S := Int × Unit) (f := F144.b0 ((pastE n, ()), ((g, ()), ()))) (pastE n) (fun p => iEq p.1 n.2.1.1) (fun k => (k, ())) (Sum.inl (((pastE n).length : Int), ())) (fun i _ => Sum.inr (((i : Int), ()), ())) (fun i hi => ?_) ?_
  · unfold F11 proofR
    rcases lp with ⟨i, hi, h1, h2⟩ | ⟨h1, h2⟩
    · rw [h1]
      have hf : F60 (n.1, (n.2.1, ())) = some (((i : Int), ()), ()) := by
        unfold F60
        exact bind_eq (by unfold F144; exact bind_eq h2 rfl) rfl
      exact bind_eq hf (clt_else (show (0:Int) ≤ (i : Int) by omega) (bind_eq (getI_lt (xs := pastE n) hi) (bind_eq (impl_proof _ (hp _ (List.getElem_mem hi))) rfl)))
    · rw [h1]
      have hf : F60 (n.1, (n.2.1, ())) = some (((-1:Int), ()), ()) := by
        unfold F60
        exact bind_eq (by unfold F144; exact bind_eq h2 rfl) rfl
      exact bind_eq hf (clt_then (show (-1:Int) < 0 by omega) rfl)
  · unfold F144.b0
    refine clt_then (Int.ofNat_lt.2 hi) (bind_eq (getI_lt (xs := pastE n) hi) (bind_eq (show g (pastE n)[i] = some (iEq (pastE n)[i].1 n.2.1.1, ()) from rfl) ?_))
    cases hq : iEq (pastE n)[i].1 n.2.1.1 with
    | true => rfl
    | false => exact congrArg (fun z => some (Sum.inl (z, ()))) (cnx hi hl)
  · unfold F144.b0
    exact clt_else (Int.le_refl _) rfl
end Go.Proofs.YtphaibffjdfhpaaGreat
