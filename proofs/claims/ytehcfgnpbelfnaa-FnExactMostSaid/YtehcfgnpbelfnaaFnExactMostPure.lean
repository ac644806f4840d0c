/- What the law FnExactMost computes is true for all data: the program and the reference go through the nodes alike. Conditions: none. -/
import Derived.Test.YtehcfgnpbelfnaaAH
import Derived.Test.YtehcfgnpbelfnaaTm3
namespace Go.Proofs.Ytehcfgnpbelfnaa
open Go Go.Tm
set_option maxRecDepth 100000

/-- A law over one thing and a whole answer. -/
theorem scalar_law {X A : Type} {size : Option ((Int × Unit) × Unit)} {n : Nat} (hw : size = some (I1 (szR n 1048576))) {T : Option X} {x : X} {s i : X → Option A} {K : A → X → A → Option ((Bool × Unit) × Unit)} 
    (ht : n ≤ 1048576 → ∃ v, T = some x ∧ s x = some v ∧ i x = some v ∧ K v x v = some (B1 true)) :
    (size.bind fun y1 => bif iLt y1.1.1 0 then some (B1 true) else T.bind fun y2 => (s y2).bind fun y3 => T.bind fun y4 => (i y4).bind fun y5 => K y3 y4 y5) = some (B1 true) := by
  rw [hw, Option.bind_some]
  by_cases hn : n ≤ 1048576
  · obtain ⟨v, h1, h2, h3, h4⟩ := ht hn
    have : (I1 (szR n 1048576)).1.1 = 1048576 - n := if_pos (by omega)
    rw [this, iLt_false (by omega), cond_false, h1, Option.bind_some, h2, Option.bind_some, Option.bind_some, h3, Option.bind_some, h4]
  · have : (I1 (szR n 1048576)).1.1 = -1 := if_neg (by omega)
    rw [this]
    rfl

theorem max_ite {A B : Type} {a b : Int} {c : A} : (bif iLt a b then some (Sum.inl (b, c)) else some (Sum.inl (a, c)) : Option (Sum (Int × A) B)) = some (.inl (iMax a b, c)) := by
  unfold iMax
  cases iLt a b <;> rfl

theorem most_same (x : (((.cons (.int .i64) (.cons (.sl e138) (.cons (.sl e9) (.cons (.sl e119) (.cons (.sl e96) (.cons (.sl e129) (.cons (.sl e181) .nil))))))) : Tys)).D) (hl : x.2.2.2.1.length ≤ 1048576) : ∃ v, F26 (x, ()) = some v ∧ F28 (x, ()) = some v := by
  let step : Nat → Int → Tys.D e119 → Int := fun _ a y => iMax a (List.length y.2.2.2.2.2.2.2.2.2.2.2.2.2.2.2.2.2.1 : Int)
  have e1 : loopF (F26.b0 (x, ())) ((0:Int), ((0:Int), ())) = some (.inl (valAt x.2.2.2.1 step 0 x.2.2.2.1.length, ((x.2.2.2.1.length : Int), ()))) := by
    refine loopVal (S := Int × (Int × Unit)) x.2.2.2.1 step (fun a i => (a, (i, ()))) (fun a => Sum.inl (a, ((x.2.2.2.1.length : Int), ()))) 0 (fun i hi a => ?_) (fun a => ?_)
    · unfold F26.b0
      dsimp only
      rw [iLt_true (by omega), cond_true, getI_lt hi, Option.bind_some, Option.bind_some, iAdd_small (by omega) (by omega)]
      exact max_ite
    · unfold F26.b0
      dsimp only
      rw [iLt_false (Int.le_refl _), cond_false]
  have e2 : loopF (F28.b0 (x, ())) ((0:Int), ((0:Int), ())) = some (.inl (valAt x.2.2.2.1 step 0 x.2.2.2.1.length, ((x.2.2.2.1.length : Int), ()))) := by
    refine loopVal (S := Int × (Int × Unit)) x.2.2.2.1 step (fun a i => (a, (i, ()))) (fun a => Sum.inl (a, ((x.2.2.2.1.length : Int), ()))) 0 (fun i hi a => ?_) (fun a => ?_)
    · unfold F28.b0
      dsimp only
      rw [iLt_true (by omega), cond_true, getI_lt hi, Option.bind_some, iAdd_small (by omega) (by omega)]
      rfl
    · unfold F28.b0
      dsimp only
      rw [iLt_false (Int.le_refl _), cond_false]
  exact ⟨_, by unfold F26; rw [e1]; rfl, by unfold F28; rw [e2]; rfl⟩

theorem fnExactMost_pure : ∀ x, OkG i5 x → F5 x = some ((true, ()), ()) := by
  rintro ⟨x, _⟩ ⟨hx, _⟩
  refine scalar_law (w25 x hx 1048576 (by decide) (by decide)) (T := F27 (x, ())) (x := (x, ())) (s := F26) (i := F28) (fun hn => ?_)
  obtain ⟨v, h1, h2⟩ := most_same x (w_len (w_1 (w_tl (w_tl (w_tl hn)))))
  refine ⟨v, t27 x hn, h1, h2, ?_⟩
  refine eq_int ?_
  exact bind_eq (t27 x hn) (eq_call (s29 x hx) rfl)
end Go.Proofs.Ytehcfgnpbelfnaa
