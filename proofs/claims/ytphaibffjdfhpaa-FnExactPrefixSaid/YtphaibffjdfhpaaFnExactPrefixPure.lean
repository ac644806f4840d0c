/- What the law FnExactPrefix computes is true for all data: the program and the reference compare what is certain at the nodes alike. Conditions: none. -/
import Derived.Test.YtphaibffjdfhpaaAH
import Derived.Test.YtphaibffjdfhpaaTm3
namespace Go.Proofs.Ytphaibffjdfhpaa
open Go Go.Tm
set_option maxRecDepth 100000

theorem scalar_law {X A : Type} {size : Option ((Int × Unit) × Unit)} {n : Nat} (hw : size = some (I1 (szR n 1048576))) {T : Option X} {x : X} {s i : X → Option A} {K : A → X → A → Option ((Bool × Unit) × Unit)} 
    (ht : n ≤ 1048576 → ∃ v, T = some x ∧ s x = some v ∧ i x = some v ∧ K v x v = some (B1 true)) :
    (size.bind fun y1 => bif iLt y1.1.1 0 then some (B1 true) else T.bind fun y2 => (s y2).bind fun y3 => T.bind fun y4 => (i y4).bind fun y5 => K y3 y4 y5) = some (B1 true) := by
  rw [hw, Option.bind_some]
  by_cases hn : n ≤ 1048576
  · obtain ⟨v, h1, h2, h3, h4⟩ := ht hn
    have : (I1 (szR n 1048576)).1.1 = 1048576 - n := if_pos (by omega)
    rw [this, iLt_false (by omega), cond_false, h1, Option.bind_some, h2, Option.bind_some, Option.bind_some, h3, Option.bind_some, h4]
  · have : (I1 (szR n 1048576)).1.1 = -1 := if_neg (by omega)
    rw [this]
    rfl

/-- One begins as the other. -/
def begs (a b : List (Tys.D e3)) : Bool := allI (fun _ p => iEq p.1.1 p.2.1) 0 (a.zip b)

theorem ne_ite {A : Type} {b : Bool} {r n : A} : (bif !b then r else n) = bif b then n else r := by cases b <;> rfl

theorem spec_begs (a b : List (Tys.D e3)) (ha : a.length ≤ 9223372036854775807) : F15 ((a, ()), ((b, ()), ())) = some (B1 (begs a b)) := by
  have lp : loopF (F15.b0 ((a, ()), ((b, ()), ()))) ((0:Int), ()) = some (bif begs a b then Sum.inl (((a.zip b).length : Int), ()) else Sum.inr (B1 false)) := by
    refine loopAll (S := Int × Unit) (a.zip b) (fun _ p => iEq p.1.1 p.2.1) (fun k => (k, ())) _ _ (fun i hi => ?_) ?_
    · have hl : i < a.length ∧ i < b.length := by rw [List.length_zip] at hi; omega
      unfold F15.b0
      dsimp only
      rw [iLt_true (by omega), cond_true, iLt_true (by omega), cond_true, getI_lt hl.1, Option.bind_some, getI_lt hl.2, Option.bind_some, iAdd_small (by omega) (by omega), List.getElem_zip, ne_ite]
      rfl
    · unfold F15.b0
      dsimp only
      rw [List.length_zip]
      by_cases h : a.length ≤ b.length
      · rw [Nat.min_eq_left h, iLt_false (Int.le_refl _), cond_false]
        rfl
      · rw [Nat.min_eq_right (by omega), iLt_true (by omega), cond_true, iLt_false (Int.le_refl _), cond_false]
        rfl
  unfold F15
  rw [lp]
  cases begs a b <;> rfl

theorem impl_begs (a b : List (Tys.D e3)) (ha : a.length = b.length) (hl : a.length ≤ 9223372036854775807) : F22 ((a, ()), ((b, ()), ())) = some (B1 (begs a b)) := by
  have hz : (a.zip b).length = a.length := by rw [List.length_zip]; omega
  have lp : loopF (F22.b0 ((a, ()), ((b, ()), ()))) ((0:Int), ()) = some (bif begs a b then Sum.inl (((a.zip b).length : Int), ()) else Sum.inr (B1 false)) := by
    refine loopAll (S := Int × Unit) (a.zip b) (fun _ p => iEq p.1.1 p.2.1) (fun k => (k, ())) _ _ (fun i hi => ?_) ?_
    · have hi' : i < a.length ∧ i < b.length := by rw [List.length_zip] at hi; omega
      unfold F22.b0
      dsimp only
      rw [iLt_true (by omega), cond_true, getI_lt hi'.1, Option.bind_some, getI_lt hi'.2, Option.bind_some, iAdd_small (by omega) (by omega), List.getElem_zip, ne_ite]
      rfl
    · unfold F22.b0
      dsimp only
      rw [hz, iLt_false (Int.le_refl _), cond_false]
      rfl
  unfold F22
  dsimp only
  have e : iEq (a.length : Int) (b.length : Int) = true := by unfold iEq; rw [ha]; exact decide_eq_true rfl
  rw [e, Bool.not_true, cond_false, lp]
  cases begs a b <;> rfl

theorem zip_take {α β : Type} (a : List α) (b : List β) (k : Nat) : (a.take k).zip (b.take k) = (a.zip b).take k := by
  induction k generalizing a b with
  | zero => simp
  | succ k ih => cases a <;> cases b <;> simp [ih]

theorem begs_take (a b : List (Tys.D e3)) (k : Nat) (hk : k = min a.length b.length) : begs (a.take k) (b.take k) = begs a b := by
  unfold begs
  have : (a.take k).zip (b.take k) = a.zip b := by
    rw [zip_take, List.take_of_length_le]
    rw [List.length_zip]; omega
  rw [this]

theorem iMin_nat {a b : Nat} : iMin (a : Int) (b : Int) = ((min a b : Nat) : Int) := by
  unfold iMin iLt
  by_cases h : b < a
  · rw [decide_eq_true (by omega), cond_true, Nat.min_eq_right (by omega)]
  · rw [decide_eq_false (by omega), cond_false, Nat.min_eq_left (by omega)]

def doneOf (y : Tys.D e64) : List (Tys.D e3) := y.2.2.2.2.2.2.2.2.2.2.2.2.2.2.2.2.2.1

def prefB (xs : List (Tys.D e64)) : Bool := allI (fun i y => allI (fun _ z => begs (doneOf y) (doneOf z)) 0 (xs.take i)) 0 xs

theorem spec_pref (a : (Ty.int .i64).D) (b : (Ty.sl e134).D) (c : (Ty.sl e9).D) (xs : List (Tys.D e64)) (d : (Ty.sl e104).D) (e : (Ty.sl e106).D) (g : (Ty.sl e111).D) (hl : xs.length ≤ 1048576) (hd : ∀ y ∈ xs, (doneOf y).length ≤ 9223372036854775807) :
    F5 ((a, (b, (c, (xs, (d, (e, (g, ()))))))), ()) = some (B1 (prefB xs)) := by
  have inner : ∀ i (hi : i < xs.length), loopF (F5.b1 ((i : Int), ()) ((a, (b, (c, (xs, (d, (e, (g, ()))))))), ())) ((0:Int), ()) = some (bif allI (fun _ z => begs (doneOf xs[i]) (doneOf z)) 0 (xs.take i) then Sum.inl ((i : Int), ()) else Sum.inr (.inr (.inr (B1 false)))) := by
    intro i hi
    refine loopAll (S := Int × Unit) (xs.take i) (fun _ z => begs (doneOf xs[i]) (doneOf z)) (fun k => (k, ())) _ _ (fun k hk => ?_) ?_
    · have hk' : k < i := by simp at hk; omega
      unfold F5.b1
      dsimp only
      rw [iLt_true (by omega), cond_true, getI_lt hi, Option.bind_some, getI_lt (show k < xs.length by omega), Option.bind_some, iAdd_small (by omega) (by omega), List.getElem_take]
      refine (congrArg (fun o => Option.bind o _) (spec_begs (doneOf xs[i]) (doneOf xs[k]) (hd _ (List.getElem_mem hi)))).trans ?_
      cases begs (doneOf xs[i]) (doneOf xs[k]) <;> rfl
    · have : (xs.take i).length = i := by simp; omega
      rw [this]
      unfold F5.b1
      dsimp only
      rw [iLt_false (Int.le_refl _), cond_false]
  have outer : loopF (F5.b0 ((a, (b, (c, (xs, (d, (e, (g, ()))))))), ())) ((0:Int), ()) = some (bif prefB xs then Sum.inl ((xs.length : Int), ()) else Sum.inr (B1 false)) := by
    refine loopAll (S := Int × Unit) xs (fun i y => allI (fun _ z => begs (doneOf y) (doneOf z)) 0 (xs.take i)) (fun k => (k, ())) _ _ (fun i hi => ?_) ?_
    · unfold F5.b0
      dsimp only
      rw [iLt_true (by omega), cond_true, inner i hi, Option.bind_some, iAdd_small (by omega) (by omega)]
      cases allI (fun _ z => begs (doneOf xs[i]) (doneOf z)) 0 (xs.take i) <;> rfl
    · unfold F5.b0
      dsimp only
      rw [iLt_false (Int.le_refl _), cond_false]
      rfl
  unfold F5
  rw [outer]
  cases prefB xs <;> rfl

theorem impl_pref (a : (Ty.int .i64).D) (b : (Ty.sl e134).D) (c : (Ty.sl e9).D) (xs : List (Tys.D e64)) (d : (Ty.sl e104).D) (e : (Ty.sl e106).D) (g : (Ty.sl e111).D) (hl : xs.length ≤ 1048576) (hd : ∀ y ∈ xs, (doneOf y).length ≤ 9223372036854775807) :
    F7 ((a, (b, (c, (xs, (d, (e, (g, ()))))))), ()) = some (B1 (prefB xs)) := by
  have inner : ∀ i (hi : i < xs.length), loopF (F7.b1 ((i : Int), ()) ((a, (b, (c, (xs, (d, (e, (g, ()))))))), ()) xs[i]) ((0:Int), ()) = some (bif allI (fun _ z => begs (doneOf xs[i]) (doneOf z)) 0 (xs.take i) then Sum.inl ((i : Int), ()) else Sum.inr (.inr (.inr (B1 false)))) := by
    intro i hi
    have hlen : (xs.take i).length = i := by simp; omega
    refine loopAll (S := Int × Unit) (xs.take i) (fun _ z => begs (doneOf xs[i]) (doneOf z)) (fun k => (k, ())) _ _ (fun k hk => ?_) ?_
    · unfold F7.b1
      dsimp only
      rw [Int.toNat_natCast, Nat.sub_zero, List.drop_zero, iLt_true (by omega), cond_true, getI_lt hk, Option.bind_some, iMin_nat, iAdd_small (by omega) (by omega)]
      generalize hz : (xs.take i)[k] = z
      have hi2 := hd _ (List.getElem_mem hi)
      have c1 : cutHi ((min (doneOf xs[i]).length (doneOf z).length : Nat) : Int) (doneOf xs[i]).length = true := by unfold cutHi; exact decide_eq_true (by omega)
      have c2 : cutHi ((min (doneOf xs[i]).length (doneOf z).length : Nat) : Int) (doneOf z).length = true := by unfold cutHi; exact decide_eq_true (by omega)
      refine (congrArg (fun t => bif t then _ else none) c1).trans ((congrArg (fun t => bif t then _ else none) c2).trans ?_)
      have e22 := impl_begs ((doneOf xs[i]).take (min (doneOf xs[i]).length (doneOf z).length)) ((doneOf z).take (min (doneOf xs[i]).length (doneOf z).length)) (by rw [List.length_take, List.length_take]; omega) (by rw [List.length_take]; omega)
      rw [begs_take _ _ _ rfl] at e22
      refine (congrArg (fun o => Option.bind o _) e22).trans ?_
      cases begs (doneOf xs[i]) (doneOf z) <;> rfl
    · rw [hlen]
      unfold F7.b1
      dsimp only
      rw [Int.toNat_natCast, Nat.sub_zero, List.drop_zero, iLt_false (by omega), cond_false]
  have outer : loopF (F7.b0 ((a, (b, (c, (xs, (d, (e, (g, ()))))))), ())) ((0:Int), ()) = some (bif prefB xs then Sum.inl ((xs.length : Int), ()) else Sum.inr (B1 false)) := by
    refine loopAll (S := Int × Unit) xs (fun i y => allI (fun _ z => begs (doneOf y) (doneOf z)) 0 (xs.take i)) (fun k => (k, ())) _ _ (fun i hi => ?_) ?_
    · unfold F7.b0
      dsimp only
      have hcut : cutHi (i : Int) (List.length xs) = true := by unfold cutHi; simp only [decide_eq_true_eq]; omega
      rw [iLt_true (by omega), cond_true, getI_lt hi, Option.bind_some, hcut, cond_true, inner i hi, Option.bind_some, iAdd_small (by omega) (by omega)]
      cases allI (fun _ z => begs (doneOf xs[i]) (doneOf z)) 0 (xs.take i) <;> rfl
    · unfold F7.b0
      dsimp only
      rw [iLt_false (Int.le_refl _), cond_false]
      rfl
  unfold F7
  rw [outer]
  cases prefB xs <;> rfl

theorem fnExactPrefix_pure : ∀ x, OkG i3 x → F3 x = some ((true, ()), ()) := by
  rintro ⟨x, _⟩ ⟨hx, _⟩
  refine scalar_law (w4 x hx 1048576 (by decide) (by decide)) (T := F6 (x, ())) (x := (x, ())) (s := F5) (i := F7) (fun hn => ?_)
  have hl := w_len (w_1 (w_tl (w_tl (w_tl hn))))
  have hd : ∀ y ∈ (show List (Tys.D e64) from x.2.2.2.1), (doneOf y).length ≤ 9223372036854775807 := fun y hy => let ⟨i, hi⟩ := List.mem_iff_getElem?.1 hy; (hx.2.2.2.1.2 i y hi).2.2.2.2.2.2.2.2.2.2.2.2.2.2.2.2.2.1.1
  refine ⟨_, t6 x hn, spec_pref x.1 x.2.1 x.2.2.1 x.2.2.2.1 x.2.2.2.2.1 x.2.2.2.2.2.1 x.2.2.2.2.2.2.1 hl hd, impl_pref x.1 x.2.1 x.2.2.1 x.2.2.2.1 x.2.2.2.2.1 x.2.2.2.2.2.1 x.2.2.2.2.2.2.1 hl hd, ?_⟩
  refine eq_bool ?_
  exact bind_eq (t6 x hn) (eq_call (s8 x hx) rfl)
end Go.Proofs.Ytphaibffjdfhpaa
