/- What the law FnExactLeast computes is true for all data: the program and the reference go through the nodes alike. Conditions: none. -/
import Derived.Test.YtehcfgnpbelfnaaAH
import Derived.Test.YtehcfgnpbelfnaaTm3
namespace Go.Proofs.Ytehcfgnpbelfnaa
open Go Go.Tm
set_option maxRecDepth 100000

theorem scalar_law2 {X A : Type} {size : Option ((Int × Unit) × Unit)} {n : Nat} (hw : size = some (I1 (szR n 1048576))) {T : Option X} {x : X} {s i : X → Option A} {K : A → X → A → Option ((Bool × Unit) × Unit)} 
    (ht : n ≤ 1048576 → ∃ v, T = some x ∧ s x = some v ∧ i x = some v ∧ K v x v = some (B1 true)) :
    (size.bind fun y1 => bif iLt y1.1.1 0 then some (B1 true) else T.bind fun y2 => (s y2).bind fun y3 => T.bind fun y4 => (i y4).bind fun y5 => K y3 y4 y5) = some (B1 true) := by
  rw [hw, Option.bind_some]
  by_cases hn : n ≤ 1048576
  · obtain ⟨v, h1, h2, h3, h4⟩ := ht hn
    have : (I1 (szR n 1048576)).1.1 = 1048576 - n := if_pos (by omega)
    rw [this, iLt_false (by omega), cond_false, h1, Option.bind_some, h2, Option.bind_some, Option.bind_some, h3, Option.bind_some, h4]
  · have : (I1 (szR n 1048576)).1.1 = -1 := if_neg (by omega)
    rw [this]
    rfl

def leastStep (i : Nat) (a b : Int) : Int := bif iEq (i : Int) 0 then b else bif iLt b a then b else a

theorem least_ite {A B : Type} {i : Nat} {a b : Int} {c : A} : (bif iEq (i : Int) 0 then some (Sum.inl (b, c)) else bif iLt b a then some (Sum.inl (b, c)) else some (Sum.inl (a, c)) : Option (Sum (Int × A) B)) = some (.inl (leastStep i a b, c)) := by
  unfold leastStep
  cases iEq (i : Int) 0 <;> cases iLt b a <;> rfl

theorem least_same (x : (((.cons (.int .i64) (.cons (.sl e138) (.cons (.sl e9) (.cons (.sl e119) (.cons (.sl e96) (.cons (.sl e129) (.cons (.sl e181) .nil))))))) : Tys)).D) (hl : x.2.2.2.1.length ≤ 1048576) : ∃ v, F30 (x, ()) = some v ∧ F31 (x, ()) = some v := by
  let step : Nat → Int → Tys.D e119 → Int := fun i a y => leastStep i a (List.length (y.2.2.2.2.2.2.2.2.2.2.2.2.2.2.2.2.2.1) : Int)
  have e1 : loopF (F30.b0 (x, ())) ((0:Int), ((0:Int), ())) = some (.inl (valAt x.2.2.2.1 step 0 x.2.2.2.1.length, ((x.2.2.2.1.length : Int), ()))) := by
    refine loopVal (S := Int × (Int × Unit)) x.2.2.2.1 step (fun a i => (a, (i, ()))) (fun a => Sum.inl (a, ((x.2.2.2.1.length : Int), ()))) 0 (fun i hi a => ?_) (fun a => ?_)
    · unfold F30.b0
      dsimp only
      rw [iLt_true (by omega), cond_true, getI_lt hi, Option.bind_some, Option.bind_some, iAdd_small (by omega) (by omega)]
      exact least_ite
    · unfold F30.b0
      dsimp only
      rw [iLt_false (Int.le_refl _), cond_false]
  have e2 : loopF (F31.b0 (x, ())) ((0:Int), ((0:Int), ())) = some (.inl (valAt x.2.2.2.1 step 0 x.2.2.2.1.length, ((x.2.2.2.1.length : Int), ()))) := by
    refine loopVal (S := Int × (Int × Unit)) x.2.2.2.1 step (fun a i => (a, (i, ()))) (fun a => Sum.inl (a, ((x.2.2.2.1.length : Int), ()))) 0 (fun i hi a => ?_) (fun a => ?_)
    · unfold F31.b0
      dsimp only
      rw [iLt_true (by omega), cond_true, getI_lt hi, Option.bind_some, iAdd_small (by omega) (by omega)]
      exact least_ite
    · unfold F31.b0
      dsimp only
      rw [iLt_false (Int.le_refl _), cond_false]
  exact ⟨_, by unfold F30; rw [e1]; rfl, by unfold F31; rw [e2]; rfl⟩

theorem fnExactLeast_pure : ∀ x, OkG i6 x → F6 x = some ((true, ()), ()) := by
  rintro ⟨x, _⟩ ⟨hx, _⟩
  refine scalar_law2 (w25 x hx 1048576 (by decide) (by decide)) (T := F27 (x, ())) (x := (x, ())) (s := F30) (i := F31) (fun hn => ?_)
  obtain ⟨v, h1, h2⟩ := least_same x (w_len (w_1 (w_tl (w_tl (w_tl hn)))))
  refine ⟨v, t27 x hn, h1, h2, ?_⟩
  refine eq_int ?_
  exact bind_eq (t27 x hn) (eq_call (s29 x hx) rfl)
end Go.Proofs.Ytehcfgnpbelfnaa
