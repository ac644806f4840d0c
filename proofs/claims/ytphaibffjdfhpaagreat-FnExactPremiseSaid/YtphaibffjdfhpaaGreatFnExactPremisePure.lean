/- What the law FnExactPremise computes is true for all data: the program and the reference weigh the foul alike, at each node and at each end of an epoch. Conditions: none. -/
import Derived.Test.YtphaibffjdfhpaaGreatAW
namespace Go.Proofs.YtphaibffjdfhpaaGreat
open Go Go.Tm
set_option linter.unusedVariables false
set_option maxRecDepth 100000

def pastOf (y : Tys.D e56) : List (Tys.D e43) := y.2.2.2.2.2.2.2.2.2.2.2.2.2.2.2.2.2.2.2.1
def setOf (y : Tys.D e56) : List (Tys.D e188) := y.2.2.2.2.1
def bsOf (p : Tys.D e43) : List (Tys.D e138) := p.2.1
def endOf (b : Tys.D e138) : Bool := b.2.2.2.2.2.2.2.2.2.2.2.1
def nextOf (b : Tys.D e138) : List (Tys.D e188) := b.2.2.2.2.2.2.2.2.2.2.2.2.1

def blockP (foul : List (Tys.D e9)) (b : Tys.D e138) : Bool := bif endOf b then lessB (nextOf b) foul else true
def nodeP (foul : List (Tys.D e9)) (y : Tys.D e56) : Bool := lessB (setOf y) foul && allI (fun _ p => allI (fun _ b => blockP foul b) 0 (bsOf p)) 0 (pastOf y)
def premB (n : Int) (ac : List (Tys.D e153)) (foul : List (Tys.D e9)) (ns : List (Tys.D e56)) : Bool := lessB (bif ledgerB (n, (ac, ())) then setL ac else []) foul && allI (fun _ y => nodeP foul y) 0 ns

abbrev L : Nat := 9223372036854775807

theorem spec_less (xs : List (Tys.D e188)) (foul : List (Tys.D e9)) (hx : xs.length ≤ L) (hl : foul.length ≤ L) : F85 ((xs, ()), ((foul, ()), ())) = some (B1 (lessB xs foul)) := by
  unfold F85
  exact bind_eq (spec_weight xs foul hx hl) (bind_eq (spec_total xs hx) rfl)

theorem impl_mild (n : Int) (ac : List (Tys.D e153)) (foul : List (Tys.D e9)) (ns : List (Tys.D e56)) (r : _) (xs : List (Tys.D e188)) (hx : xs.length ≤ L) (hl : foul.length ≤ L) : F90 ((n, (ac, (foul, (ns, r)))), ((xs, ()), ())) = some (B1 (lessB xs foul)) := by
  unfold F90
  exact bind_eq (impl_weight xs foul hx hl) (bind_eq (impl_total xs hx) rfl)

section
variable (n : Int) (ac : List (Tys.D e153)) (foul : List (Tys.D e9)) (ns : List (Tys.D e56)) (b5 : (Ty.sl e138).D) (b6 : (Ty.sl e214).D) (b7 : (Ty.sl e217).D)

abbrev W0 : GD i18 := ((n, (ac, (foul, (ns, (b5, (b6, (b7, ()))))))), ())

theorem spec_b2 (hf : foul.length ≤ L) (x4 : Tys.D e56) (i : Nat) (hi : i < (pastOf x4).length) (hb : (bsOf (pastOf x4)[i]).length ≤ L) (hn : ∀ b ∈ bsOf (pastOf x4)[i], (nextOf b).length ≤ L) :
    loopF (F18.b2 x4 ((i : Int), ()) (W0 n ac foul ns b5 b6 b7)) ((0:Int), ()) = some (bif allI (fun _ b => blockP foul b) 0 (bsOf (pastOf x4)[i]) then Sum.inl (((bsOf (pastOf x4)[i]).length : Int), ()) else Sum.inr (.inr (.inr (.inr (.inr (B1 false)))))) := by
  refine loopAll (S := Int × Unit) (bsOf (pastOf x4)[i]) (fun _ b => blockP foul b) (fun k => (k, ())) _ _ (fun k hk => ?_) ?_
  · unfold F18.b2
    refine bind_eq (getI_lt (xs := pastOf x4) hi) (lt_then (Int.ofNat_lt.2 hk) (bind_eq (getI_lt (xs := pastOf x4) hi) (bind_eq (getI_lt (xs := bsOf (pastOf x4)[i]) hk) (if_bool (fun he => ?_) (fun he => ?_)))))
    · rw [show blockP foul (bsOf (pastOf x4)[i])[k] = lessB (nextOf (bsOf (pastOf x4)[i])[k]) foul by unfold blockP; rw [show endOf (bsOf (pastOf x4)[i])[k] = true from he]; rfl]
      refine bind_bool (spec_less (nextOf (bsOf (pastOf x4)[i])[k]) foul (hn _ (List.getElem_mem hk)) hf) (fun hl => ?_) (fun hl => ?_)
      · rw [hl]; exact st1 (nx hk hb)
      · rw [hl]; rfl
    · rw [show blockP foul (bsOf (pastOf x4)[i])[k] = true by unfold blockP; rw [show endOf (bsOf (pastOf x4)[i])[k] = false from he]; rfl]
      exact st1 (nx hk hb)
  · unfold F18.b2
    exact bind_eq (getI_lt (xs := pastOf x4) hi) (lt_else (Int.le_refl _) rfl)

theorem impl_b2 (hf : foul.length ≤ L) (x7 : Tys.D e43) (hb : (bsOf x7).length ≤ L) (hn : ∀ b ∈ bsOf x7, (nextOf b).length ≤ L) :
    loopF (F20.b2 x7 (W0 n ac foul ns b5 b6 b7)) ((0:Int), ()) = some (bif allI (fun _ b => blockP foul b) 0 (bsOf x7) then Sum.inl (((bsOf x7).length : Int), ()) else Sum.inr (.inr (.inr (.inr (.inr (B1 false)))))) := by
  refine loopAll (S := Int × Unit) (bsOf x7) (fun _ b => blockP foul b) (fun k => (k, ())) _ _ (fun k hk => ?_) ?_
  · unfold F20.b2
    refine lt_then (Int.ofNat_lt.2 hk) (bind_eq (getI_lt (xs := bsOf x7) hk) (if_bool (fun he => ?_) (fun he => ?_)))
    · rw [show blockP foul (bsOf x7)[k] = lessB (nextOf (bsOf x7)[k]) foul by unfold blockP; rw [show endOf (bsOf x7)[k] = true from he]; rfl]
      refine bind_bool (impl_mild n ac foul ns _ (nextOf (bsOf x7)[k]) (hn _ (List.getElem_mem hk)) hf) (fun hl => ?_) (fun hl => ?_)
      · rw [hl]; exact st1 (nx hk hb)
      · rw [hl]; rfl
    · rw [show blockP foul (bsOf x7)[k] = true by unfold blockP; rw [show endOf (bsOf x7)[k] = false from he]; rfl]
      exact st1 (nx hk hb)
  · unfold F20.b2
    exact lt_else (Int.le_refl _) rfl

/-- What a node's lists are. -/
def NodeL (y : Tys.D e56) : Prop := (setOf y).length ≤ L ∧ (pastOf y).length ≤ L ∧ ∀ p ∈ pastOf y, (bsOf p).length ≤ L ∧ ∀ b ∈ bsOf p, (nextOf b).length ≤ L

theorem spec_b1 (hf : foul.length ≤ L) (x4 : Tys.D e56) (hN : NodeL x4) :
    loopF (F18.b1 x4 (W0 n ac foul ns b5 b6 b7)) ((0:Int), ()) = some (bif allI (fun _ p => allI (fun _ b => blockP foul b) 0 (bsOf p)) 0 (pastOf x4) then Sum.inl (((pastOf x4).length : Int), ()) else Sum.inr (.inr (.inr (B1 false)))) := by
  refine loopAll (S := Int × Unit) (pastOf x4) (fun _ p => allI (fun _ b => blockP foul b) 0 (bsOf p)) (fun k => (k, ())) _ _ (fun k hk => ?_) ?_
  · unfold F18.b1
    have hp := hN.2.2 _ (List.getElem_mem hk)
    refine lt_then (Int.ofNat_lt.2 hk) (bind_eq (spec_b2 n ac foul ns b5 b6 b7 hf x4 k hk hp.1 hp.2) ?_)
    cases allI (fun _ b => blockP foul b) 0 (bsOf (pastOf x4)[k]) with
    | true => exact st1 (nx hk hN.2.1)
    | false => rfl
  · unfold F18.b1
    exact lt_else (Int.le_refl _) rfl

theorem impl_b1 (hf : foul.length ≤ L) (x4 : Tys.D e56) (hN : NodeL x4) :
    loopF (F20.b1 x4 (W0 n ac foul ns b5 b6 b7)) ((0:Int), ()) = some (bif allI (fun _ p => allI (fun _ b => blockP foul b) 0 (bsOf p)) 0 (pastOf x4) then Sum.inl (((pastOf x4).length : Int), ()) else Sum.inr (.inr (.inr (B1 false)))) := by
  refine loopAll (S := Int × Unit) (pastOf x4) (fun _ p => allI (fun _ b => blockP foul b) 0 (bsOf p)) (fun k => (k, ())) _ _ (fun k hk => ?_) ?_
  · unfold F20.b1
    have hp := hN.2.2 _ (List.getElem_mem hk)
    refine lt_then (Int.ofNat_lt.2 hk) (bind_eq (getI_lt (xs := pastOf x4) hk) (bind_eq (impl_b2 n ac foul ns b5 b6 b7 hf (pastOf x4)[k] hp.1 hp.2) ?_))
    cases allI (fun _ b => blockP foul b) 0 (bsOf (pastOf x4)[k]) with
    | true => exact st1 (nx hk hN.2.1)
    | false => rfl
  · unfold F20.b1
    exact lt_else (Int.le_refl _) rfl

theorem spec_b0 (hf : foul.length ≤ L) (hns : ns.length ≤ L) (hN : ∀ y ∈ ns, NodeL y) :
    loopF (F18.b0 (W0 n ac foul ns b5 b6 b7)) ((0:Int), ()) = some (bif allI (fun _ y => nodeP foul y) 0 ns then Sum.inl ((ns.length : Int), ()) else Sum.inr (B1 false)) := by
  refine loopAll (S := Int × Unit) ns (fun _ y => nodeP foul y) (fun k => (k, ())) _ _ (fun k hk => ?_) ?_
  · unfold F18.b0
    have hy := hN _ (List.getElem_mem hk)
    refine lt_then (Int.ofNat_lt.2 hk) (bind_eq (getI_lt (xs := ns) hk) (bind_bool (spec_less (setOf ns[k]) foul hy.1 hf) (fun hl => ?_) (fun hl => ?_)))
    · refine bind_eq (spec_b1 n ac foul ns b5 b6 b7 hf ns[k] hy) ?_
      unfold nodeP
      rw [hl]
      cases allI (fun _ p => allI (fun _ b => blockP foul b) 0 (bsOf p)) 0 (pastOf ns[k]) with
      | true => exact st1 (nx hk hns)
      | false => rfl
    · unfold nodeP
      rw [hl]
      rfl
  · unfold F18.b0
    exact lt_else (Int.le_refl _) rfl

theorem impl_b0 (hf : foul.length ≤ L) (hns : ns.length ≤ L) (hN : ∀ y ∈ ns, NodeL y) :
    loopF (F20.b0 (W0 n ac foul ns b5 b6 b7)) ((0:Int), ()) = some (bif allI (fun _ y => nodeP foul y) 0 ns then Sum.inl ((ns.length : Int), ()) else Sum.inr (B1 false)) := by
  refine loopAll (S := Int × Unit) ns (fun _ y => nodeP foul y) (fun k => (k, ())) _ _ (fun k hk => ?_) ?_
  · unfold F20.b0
    have hy := hN _ (List.getElem_mem hk)
    refine lt_then (Int.ofNat_lt.2 hk) (bind_eq (getI_lt (xs := ns) hk) (bind_bool (impl_mild n ac foul ns _ (setOf ns[k]) hy.1 hf) (fun hl => ?_) (fun hl => ?_)))
    · refine bind_eq (impl_b1 n ac foul ns b5 b6 b7 hf ns[k] hy) ?_
      unfold nodeP
      rw [hl]
      cases allI (fun _ p => allI (fun _ b => blockP foul b) 0 (bsOf p)) 0 (pastOf ns[k]) with
      | true => exact st1 (nx hk hns)
      | false => rfl
    · unfold nodeP
      rw [hl]
      rfl
  · unfold F20.b0
    exact lt_else (Int.le_refl _) rfl

theorem spec_setof (hl : ac.length ≤ 1048576) (hx : (Ty.sl e153).Ok ac) : F86 ((n, (ac, ())), ()) = some ((bif ledgerB (n, (ac, ())) then setL ac else [], ()), ()) := by
  unfold F86
  refine bind_bool (spec_ledger _ hx) (fun hb => ?_) (fun hb => ?_)
  · rw [show ledgerB (n, (ac, ())) = true from hb]
    exact bind_eq (spec_set n ac hl).1 rfl
  · rw [show ledgerB (n, (ac, ())) = false from hb]
    rfl

theorem spec_premise (hl : ac.length ≤ 1048576) (hx : (Ty.sl e153).Ok ac) (hf : foul.length ≤ L) (hns : ns.length ≤ L) (hN : ∀ y ∈ ns, NodeL y) : F18 (W0 n ac foul ns b5 b6 b7) = some (B1 (premB n ac foul ns)) := by
  have hset : (bif ledgerB (n, (ac, ())) then setL ac else []).length ≤ L := by
    have := (spec_set n ac hl).2
    cases ledgerB (n, (ac, ())) with
    | true => exact Nat.le_trans this (Nat.le_trans hl (by decide))
    | false => exact Nat.zero_le _
  unfold F18
  refine bind_eq (spec_setof n ac hl hx) (bind_bool (spec_less _ foul hset hf) (fun hb => ?_) (fun hb => ?_))
  · refine bind_eq (spec_b0 n ac foul ns b5 b6 b7 hf hns hN) ?_
    unfold premB
    rw [hb]
    cases allI (fun _ y => nodeP foul y) 0 ns <;> rfl
  · unfold premB
    rw [hb]
    rfl

theorem impl_premise (hl : ac.length ≤ 1048576) (hx : (Ty.sl e153).Ok ac) (hf : foul.length ≤ L) (hns : ns.length ≤ L) (hN : ∀ y ∈ ns, NodeL y) : F20 (W0 n ac foul ns b5 b6 b7) = some (B1 (premB n ac foul ns)) := by
  have hset : (bif ledgerB (n, (ac, ())) then setL ac else []).length ≤ L := by
    have := (spec_set n ac hl).2
    cases ledgerB (n, (ac, ())) with
    | true => exact Nat.le_trans this (Nat.le_trans hl (by decide))
    | false => exact Nat.zero_le _
  unfold F20
  refine bind_eq (impl_set n ac hl hx) (bind_bool (impl_mild n ac foul ns _ _ hset hf) (fun hb => ?_) (fun hb => ?_))
  · refine bind_eq (impl_b0 n ac foul ns b5 b6 b7 hf hns hN) ?_
    unfold premB
    rw [hb]
    cases allI (fun _ y => nodeP foul y) 0 ns <;> rfl
  · unfold premB
    rw [hb]
    rfl
end

theorem scalar_law {X A : Type} {size : Option ((Int × Unit) × Unit)} {n : Nat} (hw : size = some (I1 (szR n 1048576))) {T : Option X} {x : X} {s i : X → Option A} {K : A → X → A → Option ((Bool × Unit) × Unit)} 
    (ht : n ≤ 1048576 → ∃ v, T = some x ∧ s x = some v ∧ i x = some v ∧ K v x v = some (B1 true)) :
    (size.bind fun y1 => bif iLt y1.1.1 0 then some (B1 true) else T.bind fun y2 => (s y2).bind fun y3 => T.bind fun y4 => (i y4).bind fun y5 => K y3 y4 y5) = some (B1 true) := by
  rw [hw, Option.bind_some]
  by_cases hn : n ≤ 1048576
  · obtain ⟨v, h1, h2, h3, h4⟩ := ht hn
    have : (I1 (szR n 1048576)).1.1 = 1048576 - n := if_pos (by omega)
    rw [this, iLt_false (by omega), cond_false, h1, Option.bind_some, h2, Option.bind_some, Option.bind_some, h3, Option.bind_some, h4]
  · have : (I1 (szR n 1048576)).1.1 = -1 := if_neg (by omega)
    rw [this]
    rfl

theorem node_len {y : Tys.D e56} (h : e56.Ok y) : NodeL y := by
  refine ⟨h.2.2.2.2.1.1, h.2.2.2.2.2.2.2.2.2.2.2.2.2.2.2.2.2.2.2.1.1, fun p hp => ?_⟩
  obtain ⟨i, hi⟩ := List.mem_iff_getElem?.1 hp
  have hpo : e43.Ok p := h.2.2.2.2.2.2.2.2.2.2.2.2.2.2.2.2.2.2.2.1.2 i p hi
  refine ⟨hpo.2.1.1, fun b hb => ?_⟩
  obtain ⟨k, hk⟩ := List.mem_iff_getElem?.1 hb
  have hbo : e138.Ok b := hpo.2.1.2 k b hk
  exact hbo.2.2.2.2.2.2.2.2.2.2.2.2.1.1

theorem fnExactPremise_pure : ∀ x, OkG i4 x → F4 x = some ((true, ()), ()) := by
  rintro ⟨x, _⟩ ⟨hx, _⟩
  refine scalar_law (w17 x hx 1048576 (by decide) (by decide)) (T := F19 (x, ())) (x := (x, ())) (s := F18) (i := F20) (fun hn => ?_)
  have hl : List.length (α := Tys.D e153) x.2.1 ≤ 1048576 := w_len (w_1 (w_tl hn))
  have hok : (Ty.sl e153).Ok x.2.1 := hx.2.1
  have hf : List.length (α := Tys.D e9) x.2.2.1 ≤ L := hx.2.2.1.1
  have hns : List.length (α := Tys.D e56) x.2.2.2.1 ≤ L := hx.2.2.2.1.1
  have hN : ∀ y ∈ (show List (Tys.D e56) from x.2.2.2.1), NodeL y := fun y hy => by
    obtain ⟨i, hi⟩ := List.mem_iff_getElem?.1 hy
    exact node_len (hx.2.2.2.1.2 i y hi)
  refine ⟨_, t19 x hn, spec_premise x.1 x.2.1 x.2.2.1 x.2.2.2.1 x.2.2.2.2.1 x.2.2.2.2.2.1 x.2.2.2.2.2.2.1 hl hok hf hns hN, impl_premise x.1 x.2.1 x.2.2.1 x.2.2.2.1 x.2.2.2.2.1 x.2.2.2.2.2.1 x.2.2.2.2.2.2.1 hl hok hf hns hN, ?_⟩
  refine eq_bool ?_
  exact bind_eq (t19 x hn) (eq_call (s21 x hx) rfl)
end Go.Proofs.YtphaibffjdfhpaaGreat
