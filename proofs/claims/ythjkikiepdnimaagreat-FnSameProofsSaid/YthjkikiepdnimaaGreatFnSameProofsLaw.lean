/- The law FnSameProofs returns true at every input and leaves its arguments as they were. Conditions: none. -/

import Derived.Test.YthjkikiepdnimaaGreatRows
import Derived.Test.YthjkikiepdnimaaGreatFnSameProofsShut
import Derived.Test.YthjkikiepdnimaaGreatSzG
import Derived.Test.YthjkikiepdnimaaGreatFnSameProofsPure
import Derived.Test.YthjkikiepdnimaaGreatSzTm3
import Derived.WalkKit
import Derived.ProofKit
import Derived.OpenShut
import Derived.ShutString
import Derived.ChangeOld
import Derived.Below
import Derived.Carry
import Derived.SizedLaws
namespace Go.Proofs.YthjkikiepdnimaaGreat.fnSameProofs
open Go Go.Tm Go.Proofs.YthjkikiepdnimaaGreat Go.ChangeShapes Go.WideShapes Go.ChangeAt Go.RowKit
theorem own : ownKnob Tryz.prog.godebug = none := by kernel_rfl
theorem laidOut : laidOutB Tryz.prog = true := by kernel_rfl
set_option maxRecDepth 100000 in
theorem lifted (os : Os) (started : os.Started) (H : Type) (enc : TypeId × Value → H) :
    ReturnsInHanded {} Tryz.checked os 6 .any (Rows.fnSameProofsSpec.pre6 enc Tryz.prog Tryz.f6 Rows.fnSameProofsRow.domain false) (Rows.fnSameProofsSpec.post enc Tryz.prog Tryz.f6 false true false false) := by
  refine returnsInHanded_of_change_sized (C := Tryz.checked) own started (by kernel_rfl) Tryz.func6
    (ChangeSpec.witness6 (enc := enc) (C := Tryz.checked) false ⟨#[], #[.slice none 0 0], []⟩ 8 (by kernel_rfl) (by kernel_rfl) (by kernel_rfl) (by kernel_rfl)) ?_
  intro W base args ds gs before hval0 hW hcnd hsz0 _
  have hval : ∀ (j : Nat) t v, Tryz.f6.params.toList[j]? = some t → args[j]? = some v → Value.okWide Tryz.prog W .any base t v := fun j t v h1 h2 => hval0 j t v (by simpa using h1) h2
  have hW' := hW
  obtain ⟨p, q, hA0, hV, rfl, hfz, hnd⟩ := hW
  have hA : DataW.TrodAll enc Tryz.prog W 0 (fun _ => true) true Tryz.f6.params.toList args.toList ds p := hA0
  have hcalls := law_calls (P := Tryz.prog) (W := W) (ins := i6) g6.1 (ts := Tryz.f6.params.toList) (by kernel_rfl) fnSameProofs_pure hA hval
  rw [Tryz.params6] at hA
  obtain ⟨v0, vs0, d0, ds0, p0, q0, hargs, rfl, rfl, h0, r0⟩ := trodAll_cons hA
  obtain ⟨rfl, rfl, rfl⟩ := trodAll_nil r0
  obtain rfl : args = #[v0] := by cases args; simp_all
  obtain ⟨rfl, rfl⟩ := trodVars_none hV
  have lt0 : ∀ x ∈ p0, x.block < W.heap.size := by obtain ⟨m, hm⟩ := h0; exact DataW.trod_lt m _ _ _ hm
  refine hcalls.mono fun e W' ⟨he, bel⟩ => ?_
  subst he
  exact ⟨_, rfl, _, _, _, [], _, [], hW', trodAll_mk1 (shut_bool Tryz.underlying4 _), (trodAll_cons_mk (Below.trod laidOut (by kernel_rfl) (of_decide_eq_true (by kernel_rfl)) h0 bel lt0) ChangeShapes.trodAll_mk0), rfl, bel.frame _, fun h => by cases h⟩
theorem over : Rows.fnSameProofsRow.holds Tryz.pinned (OpenSpec.ofChange Rows.fnSameProofsSpec) :=
  OpenClaim.holds_of_wide 6 Tryz.f6 rfl rfl rfl rfl rfl rfl rfl ⟨rfl, rfl, rfl, rfl, rfl⟩ rfl rfl rfl rfl rfl named Tryz.func6 closed
    inst wrap
    (fun os started H enc _ => lifted os started H enc)
end Go.Proofs.YthjkikiepdnimaaGreat.fnSameProofs
namespace Go.Proofs.YthjkikiepdnimaaGreat
theorem fnSameProofs_holds : Rows.FnSameProofsSaid := fnSameProofs.over
end Go.Proofs.YthjkikiepdnimaaGreat
