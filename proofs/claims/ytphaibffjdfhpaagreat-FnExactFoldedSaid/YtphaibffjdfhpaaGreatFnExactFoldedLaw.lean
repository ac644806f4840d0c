/- The law FnExactFolded returns true at every input and leaves its arguments as they were. Conditions: none. -/

import Derived.Test.YtphaibffjdfhpaaGreatRows
import Derived.Test.YtphaibffjdfhpaaGreatFnExactFoldedShut
import Derived.Test.YtphaibffjdfhpaaGreatFoG
import Derived.Test.YtphaibffjdfhpaaGreatFnExactFoldedPure
import Derived.Test.YtphaibffjdfhpaaGreatTm4
import Derived.WalkKit
import Derived.ProofKit
import Derived.OpenShut
import Derived.ShutString
import Derived.ChangeOld
import Derived.Below
import Derived.Carry
import Derived.SizedLaws
namespace Go.Proofs.YtphaibffjdfhpaaGreat.fnExactFolded
open Go Go.Tm Go.Proofs.YtphaibffjdfhpaaGreat Go.ChangeShapes Go.WideShapes Go.ChangeAt Go.RowKit
theorem own : ownKnob Tryz.prog.godebug = none := by kernel_rfl
theorem laidOut : laidOutB Tryz.prog = true := by kernel_rfl
set_option maxRecDepth 100000 in
theorem lifted (os : Os) (started : os.Started) (H : Type) (enc : TypeId × Value → H) :
    ReturnsInHanded {} Tryz.checked os 7 .any (Rows.fnExactFoldedSpec.pre6 enc Tryz.prog Tryz.f7 Rows.fnExactFoldedRow.domain false) (Rows.fnExactFoldedSpec.post enc Tryz.prog Tryz.f7 false true false false) := by
  refine returnsInHanded_of_change_sized (C := Tryz.checked) own started (by kernel_rfl) Tryz.func7
    (ChangeSpec.witness6 (enc := enc) (C := Tryz.checked) false ⟨#[], #[.agg #[.int .i64 0, .slice none 0 0, .slice none 0 0, .slice none 0 0, .slice none 0 0, .slice none 0 0, .slice none 0 0]], []⟩ 8 (by kernel_rfl) (by kernel_rfl) (by kernel_rfl) (by kernel_rfl)) ?_
  intro W base args ds gs before hval0 hW hcnd hsz0 _
  have hval : ∀ (j : Nat) t v, Tryz.f7.params.toList[j]? = some t → args[j]? = some v → Value.okWide Tryz.prog W .any base t v := fun j t v h1 h2 => hval0 j t v (by simpa using h1) h2
  have hW' := hW
  obtain ⟨p, q, hA0, hV, rfl, hfz, hnd⟩ := hW
  have hA : DataW.TrodAll enc Tryz.prog W 0 (fun _ => true) true Tryz.f7.params.toList args.toList ds p := hA0
  have hcalls := law_calls (P := Tryz.prog) (W := W) (ins := i7) g7 (ts := Tryz.f7.params.toList) (by kernel_rfl) fnExactFolded_pure hA hval
  rw [Tryz.params7] at hA
  obtain ⟨v0, vs0, d0, ds0, p0, q0, hargs, rfl, rfl, h0, r0⟩ := trodAll_cons hA
  obtain ⟨rfl, rfl, rfl⟩ := trodAll_nil r0
  obtain rfl : args = #[v0] := by cases args; simp_all
  obtain ⟨rfl, rfl⟩ := trodVars_none hV
  have lt0 : ∀ x ∈ p0, x.block < W.heap.size := by obtain ⟨m, hm⟩ := h0; exact DataW.trod_lt m _ _ _ hm
  refine hcalls.mono fun e W' ⟨he, bel⟩ => ?_
  subst he
  exact ⟨_, rfl, _, _, _, [], _, [], hW', trodAll_mk1 (shut_bool Tryz.underlying4 _), (trodAll_cons_mk (Below.trod laidOut (by kernel_rfl) (of_decide_eq_true (by kernel_rfl)) h0 bel lt0) ChangeShapes.trodAll_mk0), rfl, bel.frame _, fun h => by cases h⟩
theorem over : Rows.fnExactFoldedRow.holds Tryz.pinned (OpenSpec.ofChange Rows.fnExactFoldedSpec) :=
  OpenClaim.holds_of_wide 7 Tryz.f7 rfl rfl rfl rfl rfl rfl rfl ⟨rfl, rfl, rfl, rfl, rfl⟩ rfl rfl rfl rfl rfl named Tryz.func7 closed
    inst wrap
    (fun os started H enc _ => lifted os started H enc)
end Go.Proofs.YtphaibffjdfhpaaGreat.fnExactFolded
namespace Go.Proofs.YtphaibffjdfhpaaGreat
theorem fnExactFolded_holds : Rows.FnExactFoldedSaid := fnExactFolded.over
end Go.Proofs.YtphaibffjdfhpaaGreat
