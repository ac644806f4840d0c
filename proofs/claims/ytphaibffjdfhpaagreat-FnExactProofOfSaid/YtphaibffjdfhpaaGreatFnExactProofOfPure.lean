/- What the law FnExactProofOf computes is true for all data: the program and the reference find the same proof, and copy it. Conditions: none. -/
import Derived.Test.YtphaibffjdfhpaaGreatBK
import Derived.Test.YtphaibffjdfhpaaGreatBM
namespace Go.Proofs.YtphaibffjdfhpaaGreat
open Go Go.Tm
set_option linter.unusedVariables false
set_option maxRecDepth 100000

theorem proofR_ok (past : List (Tys.D e43)) (ep : Int) (h : ∀ p ∈ past, e43.Ok p ∧ e43.w p ≤ 1048576) : e43.Ok (proofR past ep).1 ∧ e43.w (proofR past ep).1 ≤ 1048576 := by
  unfold proofR
  cases hq : past.find? (fun p => iEq p.1 ep) with
  | some p => exact h p (List.mem_of_find?_eq_some hq)
  | none => exact ⟨⟨rfl, ⟨Nat.zero_le _, fun i y h => by simp [getN] at h⟩, rfl, rfl, ⟨Nat.zero_le _, fun i y h => by simp [getN] at h⟩, trivial⟩, Nat.zero_le _⟩

theorem proof_len {p : Tys.D e43} (h : e43.w p ≤ 1048576) : ProofL p := by
  refine ⟨w_len (w_1 (w_tl h)), fun y hy => ?_, w_len (w_1 (w_tl (w_tl (w_tl (w_tl h)))))⟩
  have hw : e138.w y ≤ 1048576 := w_el (w_1 (w_tl h)) rfl hy
  have h6 := w_tl (w_tl (w_tl (w_tl (w_tl (w_tl hw)))))
  have h8 := w_tl (w_tl h6)
  have h10 := w_tl (w_tl h8)
  exact ⟨w_len (w_1 h6), w_len (w_1 h8), w_len (w_1 (w_tl h8)), w_len (w_1 h10), w_len (w_1 (w_tl (w_tl h10)))⟩

theorem pos_else {R : Type} {k : Int} {a b r : R} (h : 0 ≤ k) (h2 : b = r) : (bif iLt k 0 then a else b) = r := by rw [iLt_false h]; exact h2
theorem same_else {R : Type} {k k' : Int} {a b r : R} (h : k = k') (h2 : b = r) : (bif !iEq k k' then a else b) = r := by rw [h, iEq_self]; exact h2
theorem pn {k : Int} {c : Nat} (h : 0 ≤ k) : 0 ≤ k + ((c : Nat) : Int) := by omega

theorem fnExactProofOf_pure : ∀ x, OkG i3 x → F3 x = some ((true, ()), ()) := by
  rintro ⟨x, ⟨⟨ep, _⟩, _⟩⟩ ⟨hx, hep, _⟩
  unfold F3
  have hw8 := w8 x hx 1048576 (by decide) (by decide)
  refine bind_eq hw8 ?_
  revert hw8
  generalize hW : Tys.w _ x = W
  intro hw8
  by_cases hn : W ≤ 1048576
  · have hsz : (I1 (szR W 1048576)).1.1 = 1048576 - (W : Int) := if_pos (by omega)
    rw [hsz]
    refine pos_else (by omega) ?_
    rw [← hW] at hn
    have hl : W1 (List.length (α := Tys.D e43) x.2.2.2.2.2.2.2.2.2.2.2.2.2.2.2.2.2.2.2.1) := w_len (w_1 (w_tl (w_tl (w_tl (w_tl (w_tl (w_tl (w_tl (w_tl (w_tl (w_tl (w_tl (w_tl (w_tl (w_tl (w_tl (w_tl (w_tl (w_tl (w_tl hn))))))))))))))))))))
    have hpk : ∀ p ∈ (show List (Tys.D e43) from x.2.2.2.2.2.2.2.2.2.2.2.2.2.2.2.2.2.2.2.1), e43.Ok p ∧ e43.w p ≤ 1048576 := fun p hp => ⟨Ok_mem hx.2.2.2.2.2.2.2.2.2.2.2.2.2.2.2.2.2.2.2.1.2 hp, w_el (w_1 (w_tl (w_tl (w_tl (w_tl (w_tl (w_tl (w_tl (w_tl (w_tl (w_tl (w_tl (w_tl (w_tl (w_tl (w_tl (w_tl (w_tl (w_tl (w_tl hn)))))))))))))))))))) rfl hp⟩
    have hp : ∀ p ∈ (show List (Tys.D e43) from x.2.2.2.2.2.2.2.2.2.2.2.2.2.2.2.2.2.2.2.1), ProofL p := fun p hq => proof_len (hpk p hq).2
    have hr := proofR_ok x.2.2.2.2.2.2.2.2.2.2.2.2.2.2.2.2.2.2.2.1 ep hpk
    have fs := spec_find (x, ((ep, ()), ())) hl hp
    have fi := impl_find (x, ((ep, ()), ())) hl hp
    refine bind_eq (t10 x hn) (bind_eq fs (bind_eq (t10 x hn) (bind_eq fi (eq_call (s12 _ hr.1) (eq_bool (bind_eq (t10 x hn) (eq_call (s13 x hx) (bind_eq (smkE14 x hx hn) (pos_else (by repeat (first | exact (by decide : (0:Int) ≤ 1) | apply pn)) ?_)))))))))
    refine eq_call (s12 _ hr.1) (eq_bool (bind_eq (smkE15 _ hr.1 hr.2) (bind_eq (shdE16 _ hr.1 hr.2) (pos_else (by repeat (first | exact (by decide : (0:Int) ≤ 1) | apply pn)) (same_else rfl ?_)))))
    exact bind_eq (t10 x hn) (bind_eq fi (eq_call (s12 _ hr.1) (eq_bool (bind_eq (shdE16 _ hr.1 hr.2) (pos_else (by repeat (first | exact (by decide : (0:Int) ≤ 1) | apply pn)) (same_else rfl rfl))))))
  · have hsz : (I1 (szR W 1048576)).1.1 = -1 := if_neg (by omega)
    rw [hsz]
    rfl
end Go.Proofs.YtphaibffjdfhpaaGreat
