/- What the law FnExactOneVote computes is true for all data: the program and the reference ask the same of each two signatures. Conditions: none. -/
import Derived.Test.YtehcfgnpbelfnaaAH
import Derived.Test.YtehcfgnpbelfnaaTm3
namespace Go.Proofs.Ytehcfgnpbelfnaa
open Go Go.Tm
set_option maxRecDepth 100000

theorem scalar_law3 {X A : Type} {size : Option ((Int × Unit) × Unit)} {n : Nat} (hw : size = some (I1 (szR n 1048576))) {T : Option X} {x : X} {s i : X → Option A} {K : A → X → A → Option ((Bool × Unit) × Unit)} 
    (ht : n ≤ 1048576 → ∃ v, T = some x ∧ s x = some v ∧ i x = some v ∧ K v x v = some (B1 true)) :
    (size.bind fun y1 => bif iLt y1.1.1 0 then some (B1 true) else T.bind fun y2 => (s y2).bind fun y3 => T.bind fun y4 => (i y4).bind fun y5 => K y3 y4 y5) = some (B1 true) := by
  rw [hw, Option.bind_some]
  by_cases hn : n ≤ 1048576
  · obtain ⟨v, h1, h2, h3, h4⟩ := ht hn
    have : (I1 (szR n 1048576)).1.1 = 1048576 - n := if_pos (by omega)
    rw [this, iLt_false (by omega), cond_false, h1, Option.bind_some, h2, Option.bind_some, Option.bind_some, h3, Option.bind_some, h4]
  · have : (I1 (szR n 1048576)).1.1 = -1 := if_neg (by omega)
    rw [this]
    rfl

/-- Two votes of one in a round, for two blocks. -/
def conf (a b : Tys.D e129) : Bool := iEq a.1 1 && (iEq b.1 1 && (iEq a.2.1 b.2.1 && (iEq a.2.2.1 b.2.2.1 && (sEq a.2.2.2.2.1 b.2.2.2.2.1 && !iEq a.2.2.2.1 b.2.2.2.1))))

def oneB (xs : List (Tys.D e129)) : Bool := allI (fun i y => allI (fun _ z => !conf y z) 0 (xs.take i)) 0 xs

theorem conf_a {A : Type} {a b : Tys.D e129} {r n : A} : (bif iEq a.1 1 then bif iEq b.1 1 then bif iEq a.2.1 b.2.1 then bif iEq a.2.2.1 b.2.2.1 then bif sEq a.2.2.2.2.1 b.2.2.2.2.1 then bif !iEq a.2.2.2.1 b.2.2.2.1 then r else n else n else n else n else n else n) = bif !conf a b then n else r := by
  unfold conf
  cases iEq a.1 1 <;> cases iEq b.1 1 <;> cases iEq a.2.1 b.2.1 <;> cases iEq a.2.2.1 b.2.2.1 <;> cases sEq a.2.2.2.2.1 b.2.2.2.2.1 <;> cases iEq a.2.2.2.1 b.2.2.2.1 <;> rfl
theorem conf_b {A : Type} {a b : Tys.D e129} {r n : A} : (bif iEq a.1 1 then bif iEq b.1 1 then bif sEq a.2.2.2.2.1 b.2.2.2.2.1 then bif iEq a.2.1 b.2.1 then bif iEq a.2.2.1 b.2.2.1 then bif !iEq a.2.2.2.1 b.2.2.2.1 then r else n else n else n else n else n else n) = bif !conf a b then n else r := by
  unfold conf
  cases iEq a.1 1 <;> cases iEq b.1 1 <;> cases iEq a.2.1 b.2.1 <;> cases iEq a.2.2.1 b.2.2.1 <;> cases sEq a.2.2.2.2.1 b.2.2.2.2.1 <;> cases iEq a.2.2.2.1 b.2.2.2.1 <;> rfl

theorem spec_one (a : (Ty.int .i64).D) (b : (Ty.sl e138).D) (c : (Ty.sl e9).D) (d : (Ty.sl e119).D) (e : (Ty.sl e96).D) (xs : List (Tys.D e129)) (g : (Ty.sl e181).D) (hl : xs.length ≤ 1048576) : F32 ((a, (b, (c, (d, (e, (xs, (g, ()))))))), ()) = some (B1 (oneB xs)) := by
  have inner : ∀ i (hi : i < xs.length), loopF (F32.b1 ((i : Int), ()) ((a, (b, (c, (d, (e, (xs, (g, ()))))))), ())) ((0:Int), ()) = some (bif allI (fun _ z => !conf xs[i] z) 0 (xs.take i) then Sum.inl ((i : Int), ()) else Sum.inr (.inr (.inr (B1 false)))) := by
    intro i hi
    refine loopAll (S := Int × Unit) (xs.take i) (fun _ z => !conf xs[i] z) (fun k => (k, ())) _ _ (fun k hk => ?_) ?_
    · have hk' : k < i := by simp at hk; omega
      unfold F32.b1
      dsimp only
      rw [iLt_true (by omega), cond_true, getI_lt hi, Option.bind_some, getI_lt (show k < xs.length by omega), Option.bind_some, iAdd_small (by omega) (by omega), List.getElem_take]
      exact conf_a
    · have : (xs.take i).length = i := by simp; omega
      rw [this]
      unfold F32.b1
      dsimp only
      rw [iLt_false (Int.le_refl _), cond_false]
  have outer : loopF (F32.b0 ((a, (b, (c, (d, (e, (xs, (g, ()))))))), ())) ((0:Int), ()) = some (bif oneB xs then Sum.inl ((xs.length : Int), ()) else Sum.inr (B1 false)) := by
    refine loopAll (S := Int × Unit) xs (fun i y => allI (fun _ z => !conf y z) 0 (xs.take i)) (fun k => (k, ())) _ _ (fun i hi => ?_) ?_
    · unfold F32.b0
      dsimp only
      rw [iLt_true (by omega), cond_true, inner i hi, Option.bind_some, iAdd_small (by omega) (by omega)]
      cases allI (fun _ z => !conf xs[i] z) 0 (xs.take i) <;> rfl
    · unfold F32.b0
      dsimp only
      rw [iLt_false (Int.le_refl _), cond_false]
      rfl
  unfold F32
  rw [outer]
  cases oneB xs <;> rfl

theorem impl_one (a : (Ty.int .i64).D) (b : (Ty.sl e138).D) (c : (Ty.sl e9).D) (d : (Ty.sl e119).D) (e : (Ty.sl e96).D) (xs : List (Tys.D e129)) (g : (Ty.sl e181).D) (hl : xs.length ≤ 1048576) : F33 ((a, (b, (c, (d, (e, (xs, (g, ()))))))), ()) = some (B1 (oneB xs)) := by
  have inner : ∀ i (hi : i < xs.length), loopF (F33.b1 ((i : Int), ()) ((a, (b, (c, (d, (e, (xs, (g, ()))))))), ()) xs[i]) ((0:Int), ()) = some (bif allI (fun _ z => !conf xs[i] z) 0 (xs.take i) then Sum.inl ((i : Int), ()) else Sum.inr (.inr (.inr (B1 false)))) := by
    intro i hi
    have hlen : (xs.take i).length = i := by simp; omega
    refine loopAll (S := Int × Unit) (xs.take i) (fun _ z => !conf xs[i] z) (fun k => (k, ())) _ _ (fun k hk => ?_) ?_
    · unfold F33.b1
      dsimp only
      rw [Int.toNat_natCast, Nat.sub_zero, List.drop_zero, iLt_true (by omega), cond_true, getI_lt hk, Option.bind_some, iAdd_small (by omega) (by omega)]
      exact conf_b
    · rw [hlen]
      unfold F33.b1
      dsimp only
      rw [Int.toNat_natCast, Nat.sub_zero, List.drop_zero, iLt_false (by omega), cond_false]
  have outer : loopF (F33.b0 ((a, (b, (c, (d, (e, (xs, (g, ()))))))), ())) ((0:Int), ()) = some (bif oneB xs then Sum.inl ((xs.length : Int), ()) else Sum.inr (B1 false)) := by
    refine loopAll (S := Int × Unit) xs (fun i y => allI (fun _ z => !conf y z) 0 (xs.take i)) (fun k => (k, ())) _ _ (fun i hi => ?_) ?_
    · unfold F33.b0
      dsimp only
      have hcut : cutHi (i : Int) (List.length xs) = true := by unfold cutHi; simp only [decide_eq_true_eq]; omega
      rw [iLt_true (by omega), cond_true, getI_lt hi, Option.bind_some, hcut, cond_true, inner i hi, Option.bind_some, iAdd_small (by omega) (by omega)]
      cases allI (fun _ z => !conf xs[i] z) 0 (xs.take i) <;> rfl
    · unfold F33.b0
      dsimp only
      rw [iLt_false (Int.le_refl _), cond_false]
      rfl
  unfold F33
  rw [outer]
  cases oneB xs <;> rfl

theorem fnExactOneVote_pure : ∀ x, OkG i7 x → F7 x = some ((true, ()), ()) := by
  rintro ⟨x, _⟩ ⟨hx, _⟩
  refine scalar_law3 (w25 x hx 1048576 (by decide) (by decide)) (T := F27 (x, ())) (x := (x, ())) (s := F32) (i := F33) (fun hn => ?_)
  have hl := w_len (w_1 (w_tl (w_tl (w_tl (w_tl (w_tl hn))))))
  refine ⟨_, t27 x hn, spec_one x.1 x.2.1 x.2.2.1 x.2.2.2.1 x.2.2.2.2.1 x.2.2.2.2.2.1 x.2.2.2.2.2.2.1 hl, impl_one x.1 x.2.1 x.2.2.1 x.2.2.2.1 x.2.2.2.2.1 x.2.2.2.2.2.1 x.2.2.2.2.2.2.1 hl, ?_⟩
  refine eq_bool ?_
  exact bind_eq (t27 x hn) (eq_call (s29 x hx) rfl)
end Go.Proofs.Ytehcfgnpbelfnaa
