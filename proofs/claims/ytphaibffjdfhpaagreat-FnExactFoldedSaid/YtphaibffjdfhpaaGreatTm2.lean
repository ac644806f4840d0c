/- A machine over plain data, part 2: what it gives is shown to be what the program's functions return. Conditions: none. -/
import Derived.Test.YtphaibffjdfhpaaGreatTm1
import Derived.Laws.Entries
import Derived.Laws.Cells
import Derived.Laws.IdiomCopy
import Derived.ChangeKeysEq
import Derived.Laws.StructEq
import Derived.Laws.BytesString
import Derived.Laws.Cover3
import Derived.Laws.Slices
import Derived.Great.BuildSlice
import Derived.Laws.MakeOwn
set_option linter.unusedVariables false
/- The pure machine, 11b: a call that writes an element of a row: it is taken out and put back. -/
namespace Go.Tm
open Go

def jOwn (ms : List Md) (n j : Nat) : Bool := Nat.blt j n && (match mdAt ms j with | .own _ => true | .sh => false)
theorem jOwn_ok {ms : List Md} {n j : Nat} (h : jOwn ms n j = true) : j < n ∧ ∃ m, mdAt ms j = .own m := by
  unfold jOwn at h
  simp only [Bool.and_eq_true] at h
  refine ⟨by simpa [Nat.blt_eq] using h.1, ?_⟩
  cases hm : mdAt ms j with
  | sh => rw [hm] at h; cases h.2
  | own m => exact ⟨m, rfl⟩
theorem jOwn_mk {ms : List Md} {n j : Nat} {m : List Md} (h : j < n) (hm : mdAt ms j = .own m) : jOwn ms n j = true := by
  unfold jOwn
  rw [hm]
  simp [Nat.blt_eq, h]

/-- An element taken out: whose things are. -/
def unE (o : Nat → Nat → Own) (id i n : Nat) (ms : List Md) (blk off bx : Nat) : Nat → Nat → Own := fun b k =>
  match o b k with
  | .o (id0 :: s) => if id0 = id then (match s with
      | [] => if b = blk ∧ off ≤ k ∧ k < off + n then .o [bx] else .x
      | i0 :: j0 :: s' => if i0 = i ∧ jOwn ms n j0 = true then .o ((bx + 1 + j0) :: s') else .x
      | _ => .x) else .o (id0 :: s)
  | q => q

open Classical in
/-- And put back. -/
noncomputable def reE (w : World) (o o' : Nat → Nat → Own) (id i n : Nat) (ms : List Md) (blk off bx : Nat) (us : List Use) : Nat → Nat → Own := fun b k =>
  if (∃ v, w.cell? ⟨b, k, none⟩ = some v) ∧ (∃ s, o b k = .o (id :: s)) ∧ unE o id i n ms blk off bx b k = .x then o b k
  else match o' b k with
    | .o (id0 :: s) => if id0 = bx then .o (id :: s) else (match findU id0 us with
        | some (.mv _ j) => .o (id :: i :: j :: s)
        | _ => .o (id0 :: s))
    | q => q

section
variable {P : Program} {w w' : World} {o o' : Nat → Nat → Own} {id i n blk off bx : Nat} {ms : List Md} {us : List Use}

theorem unE_off {b k : Nat} (h : ∀ s, o b k ≠ .o (id :: s)) : unE o id i n ms blk off bx b k = o b k := by
  unfold unE
  split
  · rename_i id0 s e
    rw [if_neg]
    · exact e.symm
    · rintro rfl; exact h s e
  · rfl

theorem unE_o {b k : Nat} {π : List Nat} (h : unE o id i n ms blk off bx b k = .o π) :
    (o b k = .o [id] ∧ π = [bx] ∧ b = blk ∧ off ≤ k ∧ k < off + n) ∨ (∃ j s, jOwn ms n j = true ∧ o b k = .o (id :: i :: j :: s) ∧ π = (bx + 1 + j) :: s) ∨ (o b k = .o π ∧ ∀ s, π ≠ id :: s) := by
  unfold unE at h
  split at h
  · rename_i id0 s e
    split at h
    · rename_i hid
      subst hid
      split at h
      · split at h
        · rename_i hc
          cases h
          exact .inl ⟨e, rfl, hc⟩
        · cases h
      · split at h
        · rename_i i0 j0 s' hc
          obtain ⟨rfl, hj⟩ := hc
          cases h
          exact .inr (.inl ⟨_, _, hj, e, rfl⟩)
        · cases h
      · cases h
    · rename_i hid
      cases h
      exact .inr (.inr ⟨e, fun s' e' => by cases e'; exact hid rfl⟩)
  · rename_i hne
    exact .inr (.inr ⟨h, fun s e => by subst e; exact hne _ _ h⟩)

theorem unE_top {k : Nat} (h : o blk k = .o [id]) (h1 : off ≤ k) (h2 : k < off + n) : unE o id i n ms blk off bx blk k = .o [bx] := by
  simp [unE, h, h1, h2]
theorem unE_in {b k j : Nat} {s : List Nat} (hj : jOwn ms n j = true) (h : o b k = .o (id :: i :: j :: s)) : unE o id i n ms blk off bx b k = .o ((bx + 1 + j) :: s) := by
  simp [unE, h, hj]
theorem unE_p {b k : Nat} (h : o b k = .p) : unE o id i n ms blk off bx b k = .p := by simp [unE, h]
theorem unE_perm : PermKeep w o w (unE o id i n ms blk off bx) := fun b k v hv ho => ⟨hv, unE_p ho⟩
theorem unE_rl {j : Nat} (hj : jOwn ms n j = true) : Rl w o w (unE o id i n ms blk off bx) (.o [id, i, j]) (.o [bx + 1 + j]) :=
  .inl ⟨[bx + 1 + j], rfl, fun b k s v hv ho => ⟨hv, unE_in hj ho⟩⟩

theorem reE_not {b k : Nat} (h : o' b k ≠ .x) (hk : ∀ v, w.cell? ⟨b, k, none⟩ = some v → unE o id i n ms blk off bx b k = .x → o' b k = .x) : reE w o o' id i n ms blk off bx us b k = (match o' b k with
    | .o (id0 :: s) => if id0 = bx then .o (id :: s) else (match findU id0 us with
        | some (.mv _ j) => .o (id :: i :: j :: s)
        | _ => .o (id0 :: s))
    | q => q) := by
  unfold reE
  rw [if_neg]
  rintro ⟨⟨v, hv⟩, _, hx⟩
  exact h (hk v hv hx)
end

section
variable {P : Program} {w w' : World} {o o' : Nat → Nat → Own}

/-- Values told anew, where what is owned in them is handed on. -/
theorem Vs_own (hp : PermKeep w o w' o') (hw : Wf w o) : ∀ (ts : Tys) {ms : List Md} {qf qf' : Nat → Own} {j : Nat} {x : ts.D} {vs : List Value}, (∀ m l, m < ts.len → mdAt ms m = .own l → Rl w o w' o' (qf (j + m)) (qf' (j + m))) → ts.Vs P w o ms qf j x vs → ts.Vs P w' o' ms qf' j x vs
  | .nil, _, _, _, _, _, _, _, h => h
  | .cons t ts, ms, qf, qf', j, x, vs, hr, h => by
    obtain ⟨v, r, rfl, h1, h2⟩ := h
    refine ⟨v, r, rfl, ?_, Vs_own hp hw ts (fun m l hm hl => ?_) h2⟩
    · cases hm : mdHd ms with
      | own l =>
        rw [hm] at h1
        exact H_re hp hw t _ _ _ _ _ (hr 0 l (by simp [Tys.len]) (by rw [mdAt_zero]; exact hm)) h1
      | sh =>
        rw [hm] at h1
        exact H_q t (H_re hp hw t .sh .p .p _ _ rfl (H_q t h1))
    · have := hr (m + 1) l (by simp [Tys.len, hm]) (by rw [mdAt_succ]; exact hl)
      rwa [show j + (m + 1) = j + 1 + m by omega] at this

theorem Hs_keepAt (hp : PermKeep w o w' o') (hw : Wf w o) {qc : Own} : ∀ (ts : Tys) {ms : List Md} {qf : Nat → Own} {k : Nat} {x : ts.D} {b off : Nat}, (∀ m v, m < ts.len → w.cell? ⟨b, off + m, none⟩ = some v → o b (off + m) = qc → w'.cell? ⟨b, off + m, none⟩ = some v ∧ o' b (off + m) = qc) →
    (∀ i, i < ts.len → Rl w o w' o' (qf (k + i)) (qf (k + i))) → ts.Hs P w o ms qc qf k x b off → ts.Hs P w' o' ms qc qf k x b off
  | .nil, _, _, _, _, _, _, _, _, _ => trivial
  | .cons t ts, ms, qf, k, x, b, off, hc, hr, h => by
    obtain ⟨⟨v, hv, ho, ht⟩, h⟩ := h
    have h0 := hc 0 v (by simp [Tys.len]) hv ho
    refine ⟨⟨v, h0.1, h0.2, H_re hp hw t _ _ _ x.1 v (hr 0 (by simp [Tys.len])) ht⟩, Hs_keepAt hp hw ts (fun m u hm hu huo => ?_) (fun i hi => ?_) h⟩
    · have := hc (m + 1) u (by simp [Tys.len, hm]) (by rwa [show off + (m + 1) = off + 1 + m by omega]) (by rwa [show off + (m + 1) = off + 1 + m by omega])
      rwa [show off + (m + 1) = off + 1 + m by omega] at this
    · have := hr (i + 1) (by simp [Tys.len, hi])
      rwa [show k + (i + 1) = k + 1 + i by omega] at this
end

section
variable {mu : Mu} {id bx : Nat} {es : Tys} {ms : List Md} {x : es.D}

theorem outE_mem {k : Nat} {b : Blk} (h : (k, b) ∈ outE id bx es ms x) : (k = id ∧ b = .dead) ∨ (k = bx ∧ b = .box (outCVs es ms (bx + 1) x)) ∨ (bx + 1 ≤ k ∧ k < bx + 1 + es.len ∧ (∃ es' ms' xs', b = .row es' ms' xs' 0) ∧ (k, b) ∈ outRows es ms (bx + 1) x) := by
  unfold outE at h
  rcases List.mem_cons.1 h with h | h
  · cases h; exact .inl ⟨rfl, rfl⟩
  · rcases List.mem_cons.1 h with h | h
    · cases h; exact .inr (.inl ⟨rfl, rfl⟩)
    · have := outRows_ids es h
      exact .inr (.inr ⟨this.1, this.2.1, this.2.2, h⟩)

theorem outE_ne {k : Nat} (h1 : k ≠ id) (h2 : k < bx ∨ bx + es.len < k) : updL mu (outE id bx es ms x) k = mu k :=
  updL_none fun b hb => by
    rcases outE_mem hb with ⟨rfl, _⟩ | ⟨rfl, _⟩ | ⟨h3, h4, _⟩
    · exact h1 rfl
    · omega
    · omega
theorem outE_id (h : id < bx ∨ bx + es.len < id) : updL mu (outE id bx es ms x) id = some .dead := by
  unfold outE
  show updL (upd (upd mu id (some .dead)) bx _) (outRows es ms (bx + 1) x) id = _
  rw [updL_none, updOff (by omega), updAt]
  intro b hb
  have := outRows_ids es hb
  omega
theorem outE_bx : updL mu (outE id bx es ms x) bx = some (.box (outCVs es ms (bx + 1) x)) := by
  unfold outE
  show updL (upd (upd mu id (some .dead)) bx _) (outRows es ms (bx + 1) x) bx = _
  rw [updL_none, updAt]
  intro b hb
  have := outRows_ids es hb
  omega
theorem outE_some {k : Nat} (h : mu k ≠ none) : updL mu (outE id bx es ms x) k ≠ none := updL_some h
theorem outE_new {k : Nat} {b : Blk} (hk : mu k = none) (h : updL mu (outE id bx es ms x) k = some b) (hid : mu id ≠ none) : (k = bx ∧ b = .box (outCVs es ms (bx + 1) x)) ∨ ((∃ es' ms' xs', b = .row es' ms' xs' 0) ∧ (k, b) ∈ outRows es ms (bx + 1) x) := by
  rcases updL_cases h with h | ⟨_, h⟩
  · rcases outE_mem h with ⟨rfl, _⟩ | h | ⟨_, _, h1, h2⟩
    · exact absurd hk hid
    · exact .inl h
    · exact .inr ⟨h1, h2⟩
  · rw [hk] at h; cases h
end

section
variable {P : Program} {w : World} {g : Gh} {mu : Mu} {id i bx : Nat} {es : Tys} {ms : List Md} {xs : List es.D} {ver : Nat} {a : Addr} {n c : Nat} {x : es.D}

/-- The element is a box of its own from here on. -/
theorem unnestE (hm : MemR P w g mu) (hw : Wf w g.o) (hown : ∀ b k id s, g.o b k = .o (id :: s) → mu id ≠ none) (hid : mu id = some (.row es ms xs ver)) (hc : g.c id = .row (.slice (some a) n c)) (hx : getN xs i = some x)
    (hmd : mdOk es ms = true) (hfr : ∀ k, bx ≤ k → k ≤ bx + es.len → mu k = none) :
    ∃ c1 : Nat → Conc, (∀ k, mu k ≠ none → c1 k = g.c k) ∧ c1 bx = .box a.block (a.off + i * es.len) ∧ Nxt P w g mu w ⟨unE g.o id i es.len ms a.block (a.off + i * es.len) bx, c1⟩ (updL mu (outE id bx es ms x)) := by
  have hidn : mu id ≠ none := by rw [hid]; simp
  have hidr : id < bx ∨ bx + es.len < id := by
    by_cases h : bx ≤ id ∧ id ≤ bx + es.len
    · exact absurd (hfr id h.1 h.2) hidn
    · omega
  obtain ⟨v0, hc0, hH⟩ := hm id _ hid
  rw [hc] at hc0; cases hc0
  obtain ⟨a', c', he, _, hcase⟩ := H_own.1 hH
  cases he
  rcases hcase with ⟨h, _⟩ | ⟨ad, ha, hspot, hk, hel⟩
  · subst h; simp [getN] at hx
  cases ha
  obtain ⟨vs, hvs, hcells⟩ := Hs_vs es (hel i x hx)
  have hlen : vs.length = es.len := Vs_len es hvs
  refine ⟨fun k => if k = bx then .box a.block (a.off + i * es.len) else if bx < k ∧ k ≤ bx + es.len then .row (vs.getD (k - bx - 1) undef) else g.c k, fun k hk => ?_, if_pos rfl, ?_⟩
  · have h1 : k ≠ bx := fun e => hk (by rw [e]; exact hfr bx (Nat.le_refl _) (by omega))
    have h2 : ¬ (bx < k ∧ k ≤ bx + es.len) := fun e => hk (hfr k (by omega) e.2)
    show (if k = bx then _ else _) = _
    rw [if_neg h1, if_neg h2]
  · have hV : es.Vs P w (unE g.o id i es.len ms a.block (a.off + i * es.len) bx) ms (fun j => .o [bx + 1 + j]) 0 x vs :=
      Vs_own unE_perm hw es (fun m l hm hl => by
        rw [Nat.zero_add]
        exact unE_rl (jOwn_mk hm hl)) hvs
    have hrows := outRows_R (P := P) (w' := w) (g' := ⟨unE g.o id i es.len ms a.block (a.off + i * es.len) bx, fun k => if k = bx then .box a.block (a.off + i * es.len) else if bx < k ∧ k ≤ bx + es.len then .row (vs.getD (k - bx - 1) undef) else g.c k⟩) (mu' := updL mu (outE id bx es ms x)) (idb := bx + 1) es (j := 0) hmd hV
      (fun k b hb => updL_mem (b := b) (by unfold outE; exact List.mem_cons_of_mem _ (List.mem_cons_of_mem _ hb))) (fun m hmlt => by
        show (if bx + 1 + 0 + m = bx then _ else _) = _
        rw [if_neg (by omega), if_pos (by omega), show bx + 1 + 0 + m - bx - 1 = m by omega])
    refine ⟨fun k => k = id, ⟨fun b k v hv hT => ⟨hv, unE_off fun s e => hT _ _ e rfl⟩, fun k hk => ?_, fun k hk => outE_some hk, fun k hT hk => ?_, fun k es0 ms0 xs0 ver0 hT hk hr => ?_⟩, ?_, ⟨fun b k π h => ?_, fun b k h => ?_⟩, fun b k k0 s h => ?_, fun k b hT hb => ?_⟩
    · have h1 : k ≠ bx := fun e => hk (by rw [e]; exact hfr bx (Nat.le_refl _) (by omega))
      have h2 : ¬ (bx < k ∧ k ≤ bx + es.len) := fun e => hk (hfr k (by omega) e.2)
      show (if k = bx then _ else _) = _
      rw [if_neg h1, if_neg h2]
    · refine outE_ne hT ?_
      by_cases h : bx ≤ k ∧ k ≤ bx + es.len
      · exact absurd (hfr k h.1 h.2) hk
      · omega
    · subst hT; rw [outE_id hidr] at hr; cases hr
    · exact ⟨rfl, rfl, rfl, Nat.le_refl _, fun _ _ _ => rfl, fun b k v hv hn => ⟨hv, unE_off fun s => hn _⟩, fun b k v hv => ⟨v, hv⟩, fun _ _ _ => rfl⟩
    · rcases unE_o h with ⟨e, _⟩ | ⟨_, _, _, e, _⟩ | ⟨e, _⟩ <;> exact hw.cell b k _ e
    · rcases unE_o h with ⟨_, e, _⟩ | ⟨_, _, _, _, e⟩ | ⟨e, _⟩
      · cases e
      · cases e
      · exact hw.ne b k e
    · rcases unE_o h with ⟨_, e, _⟩ | ⟨j, s', hj, _, e⟩ | ⟨e, _⟩
      · cases e; rw [outE_bx]; simp
      · cases e
        obtain ⟨hlt, m, hmm⟩ := jOwn_ok hj
        obtain ⟨b', hb'⟩ := outRows_mem es (k := bx + 1) (x := x) hmd hlt hmm
        exact updL_mem (b := b') (by unfold outE; exact List.mem_cons_of_mem _ (List.mem_cons_of_mem _ hb'))
      · exact outE_some (hown _ _ _ _ e)
    · by_cases hki : k = id
      · subst hki; rw [outE_id hidr] at hb; cases hb; trivial
      · have hkn : mu k = none := hT.resolve_left hki
        rcases outE_new hkn hb hidn with ⟨rfl, rfl⟩ | ⟨_, hr⟩
        · refine ⟨a.block, a.off + i * es.len, if_pos rfl, fun j cv hj => ?_⟩
          obtain ⟨v, hv, hcv⟩ := All2.get j _ hrows.1 hj
          obtain ⟨h1, h2⟩ := hcells j v hv
          have hlt : j < es.len := by rw [← hlen]; exact (List.getElem?_eq_some_iff.1 hv).1
          exact ⟨v, h1, unE_top h2 (by omega) (by omega), hcv⟩
        · exact hrows.2 k b hr
end

theorem allMv : ∀ {us : List Use} {u : Use}, us.all isMv = true → u ∈ us → ∃ k j, u = .mv k j
  | us, u, h, hu => by
    have := List.all_eq_true.1 h u hu
    cases u with
    | mv k j => exact ⟨k, j, rfl⟩
    | pm k => cases this

section
variable {P : Program} {w w' : World} {g g' : Gh} {mu mu2 : Mu} {id i bx : Nat} {es : Tys} {ms : List Md} {xs : List es.D} {ver : Nat} {a : Addr} {n c : Nat} {x x' : es.D} {c1 : Nat → Conc} {cs : List CV} {us : List Use}

/-- The element is put back. -/
theorem renestE (hm : MemR P w g mu) (hw : Wf w g.o) (hown : ∀ b k id s, g.o b k = .o (id :: s) → mu id ≠ none) (hid : mu id = some (.row es ms xs ver)) (hc : g.c id = .row (.slice (some a) n c)) (hx : getN xs i = some x)
    (hfr : ∀ k, bx ≤ k → k ≤ bx + es.len → mu k = none) (hc1 : ∀ k, mu k ≠ none → c1 k = g.c k) (hcb : c1 bx = .box a.block (a.off + i * es.len))
    (hm1 : MemR P w ⟨unE g.o id i es.len ms a.block (a.off + i * es.len) bx, c1⟩ (updL mu (outE id bx es ms x))) (hw1 : Wf w (unE g.o id i es.len ms a.block (a.off + i * es.len) bx))
    (N : NxtN P w ⟨unE g.o id i es.len ms a.block (a.off + i * es.len) bx, c1⟩ (updL mu (outE id bx es ms x)) w' g' mu2) (hbx : mu2 bx = some (.box cs))
    (hp : packs (R := es.D × List Use) app0 mu2 es ms 0 cs [] packEnd = some (x', us)) (hus : usesOk us = true) (hmv : us.all isMv = true) (hni : hasId id us = false) (hnb : hasId bx us = false) :
    Nxt P w g mu w' ⟨reE w g.o g'.o id i es.len ms a.block (a.off + i * es.len) bx us, g'.c⟩ (updL mu2 (deads us ++ [(id, .row es ms (xs.set i x') (ver + 1)), (bx, .dead)])) ∧
      ∀ (tv : TV) (u : Value), tv.noN = true → tv.R P w' g' mu2 u → tv.R P w' ⟨reE w g.o g'.o id i es.len ms a.block (a.off + i * es.len) bx us, g'.c⟩ (updL mu2 (deads us ++ [(id, .row es ms (xs.set i x') (ver + 1)), (bx, .dead)])) u := by
  have hidn : mu id ≠ none := by rw [hid]; simp
  have hbn : mu bx = none := hfr bx (Nat.le_refl _) (by omega)
  have hne : id ≠ bx := fun e => hidn (e ▸ hbn)
  have hidr : id < bx ∨ bx + es.len < id := by
    by_cases h : bx ≤ id ∧ id ≤ bx + es.len
    · exact absurd (hfr id h.1 h.2) hidn
    · omega
  have hm2 : MemR P w' g' mu2 := memNxt hm1 hw1 N.nxt
  obtain ⟨T', S1, F1, W1, own1, M1⟩ := N
  -- what was set aside
  have keyx : ∀ b k u, w.cell? ⟨b, k, none⟩ = some u → unE g.o id i es.len ms a.block (a.off + i * es.len) bx b k = .x → w'.cell? ⟨b, k, none⟩ = some u ∧ g'.o b k = .x := fun b k u hu hx => by
    obtain ⟨h1, h2⟩ := S1.cell b k u hu (fun id0 s e => by
      have e : unE g.o id i es.len ms a.block (a.off + i * es.len) bx b k = .o (id0 :: s) := e
      rw [hx] at e; cases e)
    exact ⟨h1, h2.trans hx⟩
  have rnot : ∀ b k, g'.o b k ≠ .x → reE w g.o g'.o id i es.len ms a.block (a.off + i * es.len) bx us b k = (match g'.o b k with
      | .o (id0 :: s) => if id0 = bx then .o (id :: s) else (match findU id0 us with
          | some (.mv _ j) => .o (id :: i :: j :: s)
          | _ => .o (id0 :: s))
      | q => q) := fun b k h => reE_not h fun u hu hx => (keyx b k u hu hx).2
  have P2 : PermKeep w' g'.o w' (reE w g.o g'.o id i es.len ms a.block (a.off + i * es.len) bx us) := fun b k u hu ho => ⟨hu, by rw [rnot b k (by rw [ho]; simp), ho]⟩
  have nomv : ∀ k0, (∀ u ∈ us, useId u ≠ k0) → findU k0 us = none := fun k0 h => by
    cases hf : findU k0 us with
    | none => rfl
    | some u => obtain ⟨h1, h2⟩ := findU_id hf; exact absurd h1 (h u h2)
  have R3 : ∀ k0, k0 ≠ bx → (∀ u ∈ us, useId u ≠ k0) → Rl w' g'.o w' (reE w g.o g'.o id i es.len ms a.block (a.off + i * es.len) bx us) (.o [k0]) (.o [k0]) := fun k0 hk0 hk1 => .inl ⟨[k0], rfl, fun b k s u hu ho => ⟨hu, by
    have ho : g'.o b k = .o (k0 :: s) := ho
    rw [rnot b k (by rw [ho]; simp), ho]
    simp [hk0, nomv k0 hk1]⟩⟩
  have hserved : ∀ u ∈ us, Served (fun j => .o [id, i, j]) w' g'.o w' (reE w g.o g'.o id i es.len ms a.block (a.off + i * es.len) bx us) u := fun u hu => by
    obtain ⟨k0, j, rfl⟩ := allMv hmv hu
    refine .inl ⟨[id, i, j], rfl, fun b k s u' hu' ho => ⟨hu', ?_⟩⟩
    have ho : g'.o b k = .o (k0 :: s) := ho
    have hkb : k0 ≠ bx := hasId_mem hnb _ hu
    rw [rnot b k (by rw [ho]; simp), ho]
    simp [hkb, findU_mv hus hu]
  have PP : PermKeep w g.o w' (reE w g.o g'.o id i es.len ms a.block (a.off + i * es.len) bx us) := fun b k u hu ho => by
    obtain ⟨h1, h2⟩ := S1.perm b k u hu (unE_p ho)
    exact P2 b k u h1 h2
  have keep : ∀ b k u π, w.cell? ⟨b, k, none⟩ = some u → g.o b k = .o π → unE g.o id i es.len ms a.block (a.off + i * es.len) bx b k = .x → w'.cell? ⟨b, k, none⟩ = some u ∧ reE w g.o g'.o id i es.len ms a.block (a.off + i * es.len) bx us b k = .o π := fun b k u π hu ho hx => by
    refine ⟨(keyx b k u hu hx).1, ?_⟩
    have hex : ∃ s, g.o b k = .o (id :: s) := by
      by_cases h : ∃ s, g.o b k = .o (id :: s)
      · exact h
      · have := unE_off (o := g.o) (i := i) (n := es.len) (ms := ms) (blk := a.block) (off := a.off + i * es.len) (bx := bx) (fun s e => h ⟨s, e⟩)
        rw [hx, ho] at this; cases this
    unfold reE
    rw [if_pos ⟨⟨u, hu⟩, hex, hx⟩, ho]
  generalize hmu3 : updL mu2 (deads us ++ [(id, .row es ms (xs.set i x') (ver + 1)), (bx, .dead)]) = mu3
  have mu3eq : mu3 = upd (upd (updL mu2 (deads us)) id (some (.row es ms (xs.set i x') (ver + 1)))) bx (some .dead) := by rw [← hmu3, updL_app]; rfl
  have mu3bx : mu3 bx = some .dead := by rw [mu3eq, updAt]
  have mu3id : mu3 id = some (.row es ms (xs.set i x') (ver + 1)) := by rw [mu3eq, updOff hne, updAt]
  have mu3us : ∀ k b, k ≠ id → k ≠ bx → mu3 k = some b → (b = .dead ∧ ∃ u ∈ us, useId u = k) ∨ ((∀ u ∈ us, useId u ≠ k) ∧ mu2 k = some b) := fun k b h1 h2 hb => by
    rw [mu3eq, updOff h2, updOff h1] at hb
    rcases updL_cases hb with hb | ⟨hno, hb⟩
    · obtain ⟨h3, to, h4⟩ := deads_mem hb
      exact .inl ⟨h3, _, h4, rfl⟩
    · refine .inr ⟨fun u hu e => ?_, hb⟩
      obtain ⟨k0, j, rfl⟩ := allMv hmv hu
      cases (e : k0 = k)
      exact hno _ (deads_of hu)
  have mu3ne : ∀ k, k ≠ id → k ≠ bx → (∀ u ∈ us, useId u ≠ k) → mu3 k = mu2 k := fun k h1 h2 h3 => by
    rw [mu3eq, updOff h2, updOff h1]
    exact updL_none fun b hb => by
      obtain ⟨_, to, h4⟩ := deads_mem hb
      exact h3 _ h4 rfl
  have hpres : ∀ k, mu2 k ≠ none → mu3 k ≠ none := fun k hk => by rw [← hmu3]; exact updL_some hk
  have hcid : g'.c id = g.c id := (S1.c id (by rw [outE_id hidr]; simp)).trans (hc1 id hidn)
  have hcbx : g'.c bx = .box a.block (a.off + i * es.len) := (S1.c bx (by rw [outE_bx]; simp)).trans hcb
  -- the element's cells
  obtain ⟨bb, base, hcc, hbox⟩ := hm2 bx _ hbx
  rw [hcbx] at hcc; cases hcc
  obtain ⟨vs, hvs, hcells⟩ := box_vs cs hbox
  obtain ⟨y, rest, new, vs1, vs2, hK, hspl, hrest, hlen1, hvs1⟩ := packs_ok hm2 W1 (fun j => .o [id, i, j]) app0_ok es hvs hp
  cases rest with
  | cons _ _ => cases hK
  | nil =>
  simp only [packEnd, Option.some.injEq, Prod.mk.injEq, List.append_nil] at hK
  obtain ⟨rfl, rfl⟩ := hK
  cases vs2 with
  | cons _ _ => exact hrest.elim
  | nil =>
  rw [List.append_nil] at hspl
  subst hspl
  have hV := hvs1 w' _ P2 hserved
  have hcell3 : ∀ k v, vs[k]? = some v → w'.cell? ⟨a.block, a.off + i * es.len + k, none⟩ = some v ∧ reE w g.o g'.o id i es.len ms a.block (a.off + i * es.len) bx new a.block (a.off + i * es.len + k) = .o [id] := fun k v hv => by
    obtain ⟨h1, h2⟩ := hcells k v hv
    refine ⟨h1, ?_⟩
    rw [rnot _ _ (by rw [h2]; simp), h2]
    simp
  -- the row itself
  have hrow : (Ty.sl es).H P w' (reE w g.o g'.o id i es.len ms a.block (a.off + i * es.len) bx new) (.own ms) (.o [id]) (xs.set i y) (.slice (some a) n c) := by
    obtain ⟨v0, hc0, hH⟩ := hm id _ hid
    rw [hc] at hc0; cases hc0
    obtain ⟨a', c', he, hlc, hcase⟩ := H_own.1 hH
    cases he
    rcases hcase with ⟨h, _⟩ | ⟨ad, ha, hspot, hk, hel⟩
    · subst h; simp [getN] at hx
    · cases ha
      have hout : ∀ k u, ¬ (a.off + i * es.len ≤ k ∧ k < a.off + i * es.len + es.len) → w.cell? ⟨a.block, k, none⟩ = some u → g.o a.block k = .o [id] → w'.cell? ⟨a.block, k, none⟩ = some u ∧ reE w g.o g'.o id i es.len ms a.block (a.off + i * es.len) bx new a.block k = .o [id] := fun k u hnk hu ho => keep _ _ u _ hu ho (by simp [unE, ho]; omega)
      refine H_own.2 ⟨some a, c, by rw [List.length_set], by rw [List.length_set]; exact hlc, .inr ⟨a, rfl, hspot, fun k hlt => ?_, fun i2 x2 hi2 => ?_⟩⟩
      · have h1 := hk k hlt
        obtain ⟨⟨u, hu⟩, _⟩ := hw.cell _ _ _ h1
        by_cases hin : a.off + i * es.len ≤ a.off + k ∧ a.off + k < a.off + i * es.len + es.len
        · have hkk : k - i * es.len < vs.length := by rw [hlen1]; omega
          have := (hcell3 (k - i * es.len) vs[k - i * es.len] (List.getElem?_eq_getElem hkk)).2
          rwa [show a.off + i * es.len + (k - i * es.len) = a.off + k by omega] at this
        · exact (hout _ u hin hu h1).2
      · by_cases hi : i2 = i
        · subst hi
          have hlt := getN_len hx
          have e2 : x2 = y := by
            have : getN (xs.set i2 y) i2 = some y := by
              unfold getN; rw [List.getElem?_set_self hlt]
            exact Option.some.inj (hi2.symm.trans this)
          subst e2
          exact Vs_hs es hV hcell3
        · have hi3 : getN xs i2 = some x2 := by
            rw [← hi2]; unfold getN; rw [List.getElem?_set_ne (fun e => hi e.symm)]
          refine Hs_keepAt PP hw es (fun m u hmlt hu ho => hout _ u ?_ hu ho) (fun m _ => .inl ⟨_, rfl, fun b k s u hu ho => keep b k u _ hu ho (by
            have ho : g.o b k = .o (id :: i2 :: (0 + m) :: s) := ho
            simp [unE, ho]; intro e; exact absurd e hi)⟩) (hel i2 x2 hi3)
          rcases Nat.lt_or_gt_of_ne hi with h | h
          · have : (i2 + 1) * es.len ≤ i * es.len := Nat.mul_le_mul_right _ h
            rw [Nat.add_mul, Nat.one_mul] at this
            omega
          · have : (i + 1) * es.len ≤ i2 * es.len := Nat.mul_le_mul_right _ h
            rw [Nat.add_mul, Nat.one_mul] at this
            omega
  refine ⟨⟨fun k => T' k ∨ k = id ∨ ∃ u ∈ new, useId u = k, ⟨fun b k u hu hT => ?_, fun k hk => ?_, fun k hk => ?_, fun k hT hk => ?_, fun k es0 ms0 xs0 ver0 hT hk hr => ?_⟩, ?_, ⟨fun b k π h => ?_, fun b k h => ?_⟩, fun b k k0 s h => ?_, fun k b hT hb => ?_⟩, fun tv u hn h => noNt_keep W1 P2 hpres tv hn h⟩
  · have h1 : unE g.o id i es.len ms a.block (a.off + i * es.len) bx b k = g.o b k := unE_off fun s e => hT _ _ e (.inr (.inl rfl))
    obtain ⟨h2, h3⟩ := S1.cell b k u hu (fun id0 s e => by
      have e : unE g.o id i es.len ms a.block (a.off + i * es.len) bx b k = .o (id0 :: s) := e
      rw [h1] at e; exact fun h => hT _ _ e (.inl h))
    have h3 : g'.o b k = g.o b k := h3.trans h1
    refine ⟨h2, ?_⟩
    show reE w g.o g'.o id i es.len ms a.block (a.off + i * es.len) bx new b k = g.o b k
    unfold reE
    rw [if_neg (fun e => by obtain ⟨s, e⟩ := e.2.1; exact hT _ _ e (.inr (.inl rfl))), h3]
    cases hq : g.o b k with
    | x => rfl
    | p => rfl
    | o π =>
      cases π with
      | nil => rfl
      | cons id0 s =>
        have h4 : id0 ≠ bx := fun e => hown _ _ _ _ hq (e ▸ hbn)
        have h5 : findU id0 new = none := nomv id0 fun u hu e => hT _ _ hq (.inr (.inr ⟨u, hu, e⟩))
        simp [h4, h5]
  · exact (S1.c k (outE_some hk)).trans (hc1 k hk)
  · exact hpres k (S1.pres k (outE_some hk))
  · have h1 : k ≠ id := fun e => hT (.inr (.inl e))
    have h2 : k ≠ bx := fun e => hk (e ▸ hbn)
    have h3 : k < bx ∨ bx + es.len < k := by
      by_cases h : bx ≤ k ∧ k ≤ bx + es.len
      · exact absurd (hfr k h.1 h.2) hk
      · omega
    rw [mu3ne k h1 h2 (fun u hu e => hT (.inr (.inr ⟨u, hu, e⟩))), S1.same k (fun h => hT (.inl h)) (outE_some hk), outE_ne h1 h3]
  · have h2 : k ≠ bx := fun e => hk (e ▸ hbn)
    have h3 : k < bx ∨ bx + es.len < k := by
      by_cases h : bx ≤ k ∧ k ≤ bx + es.len
      · exact absurd (hfr k h.1 h.2) hk
      · omega
    by_cases h1 : k = id
    · subst h1
      rw [mu3id] at hr
      simp only [Option.some.injEq, Blk.row.injEq] at hr
      exact ⟨_, _, _, _, hid, by omega⟩
    · rcases mu3us k _ h1 h2 hr with ⟨e, _⟩ | ⟨hnu, hr⟩
      · cases e
      · rcases hT with hT | hT | ⟨u, hu, e⟩
        · obtain ⟨e1, e2, e3, e4, h5, h6⟩ := S1.ver k _ _ _ _ hT (outE_some hk) hr
          rw [outE_ne h1 h3] at h5
          exact ⟨_, _, _, _, h5, h6⟩
        · exact absurd hT h1
        · exact absurd e (hnu u hu)
  · refine ⟨F1.os, F1.tape, F1.output, F1.size, fun b hlt h => F1.blk b hlt fun k π e => ?_, fun b k u hu h => ?_, F1.there, F1.frz⟩
    · rcases unE_o e with ⟨e, _⟩ | ⟨_, _, _, e, _⟩ | ⟨e, _⟩ <;> exact h _ _ e
    · have h1 : unE g.o id i es.len ms a.block (a.off + i * es.len) bx b k = g.o b k := unE_off fun s => h _
      obtain ⟨h2, h3⟩ := F1.cell b k u hu (fun π e => by
        have e : unE g.o id i es.len ms a.block (a.off + i * es.len) bx b k = .o π := e
        rw [h1] at e; exact h π e)
      have h3 : g'.o b k = g.o b k := h3.trans h1
      refine ⟨h2, ?_⟩
      show reE w g.o g'.o id i es.len ms a.block (a.off + i * es.len) bx new b k = g.o b k
      unfold reE
      rw [if_neg (fun e => by obtain ⟨s, e⟩ := e.2.1; exact h _ e), h3]
      cases hq : g.o b k with
      | x => rfl
      | p => rfl
      | o π => exact absurd hq (h π)
  · have h : reE w g.o g'.o id i es.len ms a.block (a.off + i * es.len) bx new b k = .o π := h
    unfold reE at h
    split at h
    · rename_i hc
      obtain ⟨⟨u, hu⟩, _, _⟩ := hc
      refine ⟨F1.there b k u hu, ?_⟩
      intro j
      rw [F1.frz b j (cell_lt hu)]
      exact (hw.cell b k _ h).2 j
    · split at h
      · rename_i id0 s e; exact W1.cell b k _ e
      · exact W1.cell b k _ h
  · have h : reE w g.o g'.o id i es.len ms a.block (a.off + i * es.len) bx new b k = .o [] := h
    unfold reE at h
    split at h
    · exact hw.ne b k h
    · split at h
      · split at h
        · cases h
        · split at h <;> cases h
      · exact W1.ne b k h
  · have h : reE w g.o g'.o id i es.len ms a.block (a.off + i * es.len) bx new b k = .o (k0 :: s) := h
    unfold reE at h
    split at h
    · rename_i hc
      obtain ⟨_, ⟨s', e⟩, _⟩ := hc
      rw [h] at e; cases e
      rw [mu3id]; simp
    · split at h
      · rename_i id0 s' e
        split at h
        · cases h; rw [mu3id]; simp
        · split at h
          · cases h; rw [mu3id]; simp
          · cases h; exact hpres _ (own1 _ _ _ _ e)
      · exact hpres _ (own1 _ _ _ _ h)
  · by_cases h2 : k = bx
    · subst h2; rw [mu3bx] at hb; cases hb; trivial
    · by_cases h1 : k = id
      · subst h1
        rw [mu3id] at hb
        cases hb
        exact ⟨_, hcid.trans hc, hrow⟩
      · rcases mu3us k b h1 h2 hb with ⟨rfl, _⟩ | ⟨hnu, hb2⟩
        · trivial
        · have hR := hm2 k b hb2
          have hN : b.noN = true := by
            by_cases hT1 : T' k ∨ updL mu (outE id bx es ms x) k = none
            · exact (M1 k b hT1 hb2).2
            · have hT1 : ¬ T' k ∧ updL mu (outE id bx es ms x) k ≠ none := ⟨fun e => hT1 (.inl e), fun e => hT1 (.inr e)⟩
              rw [S1.same k hT1.1 hT1.2] at hb2
              have hkn : mu k = none := by
                rcases hT with (hT | hT | ⟨u, hu, e⟩) | hT
                · exact absurd hT hT1.1
                · exact absurd hT h1
                · exact absurd e (hnu u hu)
                · exact hT
              rcases outE_new hkn hb2 hidn with ⟨e, _⟩ | ⟨⟨_, _, _, rfl⟩, _⟩
              · exact absurd e h2
              · rfl
          cases b with
          | box cs0 =>
            obtain ⟨bb0, base0, hcc0, hR⟩ := hR
            have hN : cs0.all CV.noN = true := hN
            refine ⟨bb0, base0, hcc0, fun m cv hm => ?_⟩
            obtain ⟨u, hu, ho, hcv⟩ := hR m cv hm
            have hcn : cv.noN = true := List.all_eq_true.1 hN cv (List.mem_of_getElem? hm)
            refine ⟨u, hu, ?_, noN_keep W1 P2 hpres cv hcn hcv⟩
            rcases R3 k h2 hnu with ⟨_, e, h⟩ | ⟨e, _⟩
            · cases e; have := (h _ _ [] u hu (by simpa using ho)).2; simpa using this
            · cases e
          | rbox e0 x0 =>
            obtain ⟨bb0, base0, hcc0, hR⟩ := hR
            exact ⟨bb0, base0, hcc0, Hs_re P2 W1 e0 [] .p .p (fun _ => .p) (fun _ => .p) 0 x0 bb0 base0 rfl (fun _ => rfl) hR⟩
          | row e0 m0 x0 v0 =>
            obtain ⟨u, hcc0, hR⟩ := hR
            exact ⟨u, hcc0, H_re P2 W1 (.sl e0) (.own m0) _ _ x0 u (R3 k h2 hnu) hR⟩
          | fz e0 x0 =>
            obtain ⟨u, hcc0, hR⟩ := hR
            exact ⟨u, hcc0, H_re P2 W1 (.sl e0) .sh .p .p x0 u rfl hR⟩
          | dead => trivial
end

theorem elemAt_ok : ∀ {gs : List Grp} {args : List TV} {k n id sz i : Nat}, elemAt gs args k = some (n, id, sz, i) → k ≤ n ∧ args[n - k]? = some (.c (.eptr id sz i 0))
  | [], _, _, _, _, _, _, h => by simp [elemAt] at h
  | _ :: _, [], _, _, _, _, _, h => by simp [elemAt] at h
  | g :: gs, a :: as, k, n, id, sz, i, h => by
    simp only [elemAt] at h
    split at h
    · cases h; exact ⟨Nat.le_refl _, by simp⟩
    · obtain ⟨h1, h2⟩ := elemAt_ok h
      refine ⟨by omega, ?_⟩
      rw [show n - k = (n - (k + 1)) + 1 by omega]
      simpa using h2

section
variable {P : Program} {w : World} {g : Gh} {mu : Mu}

theorem callE_ok {R : Type} {C : Ctx} (hC : CtxOk P C) (hm : MemR P w g mu) (hw : Wf w g.o) (hown : ∀ b k id s, g.o b k = .o (id :: s) → mu id ≠ none) {idb : Nat}
    (hfresh : ∀ n, idb ≤ n → n < idb + 2048 → mu n = none) {f : Nat} {args : List TV} {vals : List Value} (ha : All2 (TV.R P w g mu) args vals) {K : TV → List (Nat × Blk) → Option R} {y : R}
    (h : callE C mu idb f args K = some y) : Calls P f vals.toArray w fun e w' => ∃ v g' tv ms, e = .returned v ∧ K tv ms = some y ∧ Nxt P w g mu w' g' (updL mu ms) ∧ tv.R P w' g' (updL mu ms) v := by
  unfold callE at h
  cases hcon : C.con f with
  | none => simp [hcon] at h
  | some con =>
    simp only [hcon] at h
    cases hn : elemAt con.ins args 0 with
    | none =>
      simp only [hn] at h
      exact callN_ok hC hm hw hown hfresh ha h
    | some p =>
      obtain ⟨n, id, sz, i⟩ := p
      simp only [hn] at h
      obtain ⟨_, harg⟩ := elemAt_ok hn
      rw [Nat.sub_zero] at harg
      obtain ⟨v, hvn, hid, a, m, c, hc, hspot, hv⟩ := All2.get n _ ha harg
      cases hb : mu id with
      | none => exact absurd hb hid
      | some bl =>
        cases bl <;> simp only [hb] at h <;> try (cases h; done)
        case row es ms xs ver =>
          cases hcond : (Nat.beq sz es.len && (Nat.ble es.len 62 && mdOk es ms)) with
          | false => simp [hcond] at h
          | true =>
            simp only [hcond, cond_true] at h
            simp only [Bool.and_eq_true] at hcond
            obtain ⟨hsz, hle, hmd⟩ := hcond
            have hsz := Nat.eq_of_beq_eq_true hsz
            subst hsz
            have hle := Nat.le_of_ble_eq_true hle
            cases hx : getN xs i with
            | none => simp [hx] at h
            | some x =>
              simp only [hx, Option.bind_some] at h
              have hfr : ∀ k, idb + 1984 ≤ k → k ≤ idb + 1984 + es.len → mu k = none := fun k h1 h2 => hfresh k (by omega) (by omega)
              obtain ⟨c1, hc1, hcb, N0⟩ := unnestE (i := i) (bx := idb + 1984) hm hw hown hb hc hx hmd hfr
              have hm1 := memNxt hm hw N0
              have N1 := N0
              obtain ⟨T, S0, F0, W0, O0, M0⟩ := N1
              have ha1 : All2 (TV.R P w ⟨unE g.o id i es.len ms a.block (a.off + i * es.len) (idb + 1984), c1⟩ (updL mu (outE id (idb + 1984) es ms x))) (args.set n (.c (.ptr (idb + 1984) 0))) vals := by
                refine All2.set n _ (All2.imp (fun tv u hu => TV.stp S0 hw tv hu) ha) fun u hu => ?_
                rw [hvn] at hu; cases hu
                refine ⟨by rw [outE_bx]; simp, _, _, hcb, ?_⟩
                simpa using hv
              refine Calls.mono (callU_ok hC hm1 W0 O0 (idb := idb) (fun k h1 h2 => ?_) ha1 h) fun e w' he => ?_
              · rw [outE_ne (fun e => by rw [e] at h1 h2; exact absurd (hfresh id h1 (by omega)) (by rw [hb]; simp)) (.inl (by omega))]
                exact hfresh k h1 (by omega)
              · obtain ⟨u, g', tv, l, rfl, hK, hN, htv, hno⟩ := he
                split at hK
                · rename_i cs hbx
                  cases hp : (packs (R := es.D × List Use) app0 (updL (updL mu (outE id (idb + 1984) es ms x)) l) es ms 0 cs [] packEnd) with
                  | none => rw [hp] at hK; cases hK
                  | some p =>
                    obtain ⟨x', us⟩ := p
                    rw [hp] at hK
                    simp only [Option.bind_some] at hK
                    cases hu : (usesOk us && (us.all isMv && (!hasId id us && !hasId (idb + 1984) us))) with
                    | false => rw [hu] at hK; cases hK
                    | true =>
                      rw [hu, cond_true] at hK
                      simp only [Bool.and_eq_true, Bool.not_eq_true'] at hu
                      obtain ⟨hus, hmv, hni, hnb⟩ := hu
                      obtain ⟨hfin, hfv⟩ := renestE hm hw hown hb hc hx hfr hc1 hcb hm1 W0 hN hbx hp hus hmv hni hnb
                      rw [← updL_app, ← updL_app] at hfin hfv
                      rw [List.append_assoc] at hfv
                      rw [← updL_app] at htv
                      exact ⟨u, _, tv, _, rfl, hK, hfin, hfv tv u hno htv⟩
                · cases hK
end
end Go.Tm

/- The pure machine, 12: operations on values. -/
namespace Go.Tm
open Go

/-- What stands before an operation. -/
structure OpSt (P : Program) (C : Ctx) (env : Nat → TV) (mu : Mu) (a : Act) (w : World) (g : Gh) (idb : Nat) : Prop where
  ty : ∀ t ti, C.ty t = some ti → tiOf P t = some ti
  con : CtxOk P C
  env : ∀ t, (env t).R P w g mu (a.tmps.getD t undef)
  mem : MemR P w g mu
  wf : Wf w g.o
  own : ∀ b k id s, g.o b k = .o (id :: s) → mu id ≠ none
  fresh : ∀ n, idb ≤ n → n < idb + 2048 → mu n = none

/-- What stands behind it. -/
def Done {R : Type} (P : Program) (w : World) (g : Gh) (mu : Mu) (a : Act) (dst : Option Tmp) (K : TV → List (Nat × Blk) → Option R) (y : R) (a' : Act) (w' : World) : Prop :=
  ∃ tv ms v g', a' = a.put dst v ∧ K tv ms = some y ∧ Nxt P w g mu w' g' (updL mu ms) ∧ tv.R P w' g' (updL mu ms) v

section
variable {P : Program} {C : Ctx} {env : Nat → TV} {mu : Mu} {a : Act} {w : World} {g : Gh} {idb : Nat} {R : Type} {Q : Exit → Act → World → Prop}

theorem TV.c_R {cv : CV} {v : Value} (h : cv.R P w g mu v) : (TV.c cv).R P w g mu v := h

theorem constCV_R {v : Value} (h : Cellish v) : (constCV v).R P w g mu v := by
  cases v with
  | bool b => rfl
  | int k n => rfl
  | string s => rfl
  | slice a n c =>
    cases a with
    | some a => exact h
    | none =>
      simp only [constCV]
      cases hb : (Nat.beq n 0 && Nat.beq c 0) with
      | false => exact h
      | true =>
        simp only [Bool.and_eq_true] at hb
        cases Nat.eq_of_beq_eq_true hb.1
        cases Nat.eq_of_beq_eq_true hb.2
        rfl
  | agg _ => exact h.elim
  | tuple _ => exact h.elim
  | _ => exact h

theorem cellishB_ok {v : Value} (h : cellishB v = true) : Cellish v := by cases v <;> first | trivial | simp [cellishB] at h

theorem constCVs_R : ∀ {vs : List Value}, vs.all cellishB = true → cvsR P w g mu (vs.map constCV) vs
  | [], _ => trivial
  | v :: vs, h => by
    simp only [List.all_cons, Bool.and_eq_true] at h
    exact ⟨constCV_R (cellishB_ok h.1), constCVs_R h.2⟩

theorem constTV_R (v : Value) : (constTV v).R P w g mu v := by
  cases v with
  | agg cs =>
    simp only [constTV]
    cases h : cs.toList.all cellishB with
    | false => trivial
    | true => exact ⟨cs, rfl, constCVs_R h⟩
  | tuple _ => trivial
  | bool b => exact TV.c_R (cv := constCV ((.bool b))) (constCV_R (v := (.bool b)) trivial)
  | int k n => exact TV.c_R (cv := constCV ((.int k n))) (constCV_R (v := (.int k n)) trivial)
  | float k b => exact TV.c_R (cv := constCV ((.float k b))) (constCV_R (v := (.float k b)) trivial)
  | complex k a b => exact TV.c_R (cv := constCV ((.complex k a b))) (constCV_R (v := (.complex k a b)) trivial)
  | string s => exact TV.c_R (cv := constCV ((.string s))) (constCV_R (v := (.string s)) trivial)
  | pointer p => exact TV.c_R (cv := constCV ((.pointer p))) (constCV_R (v := (.pointer p)) trivial)
  | slice s n c => exact TV.c_R (cv := constCV ((.slice s n c))) (constCV_R (v := (.slice s n c)) trivial)
  | map m => exact TV.c_R (cv := constCV ((.map m))) (constCV_R (v := (.map m)) trivial)
  | chan m => exact TV.c_R (cv := constCV ((.chan m))) (constCV_R (v := (.chan m)) trivial)
  | func f x c => exact TV.c_R (cv := constCV ((.func f x c))) (constCV_R (v := (.func f x c)) trivial)
  | nilFunc => exact TV.c_R (cv := constCV ((.nilFunc))) (constCV_R (v := (.nilFunc)) trivial)
  | iface t v => exact TV.c_R (cv := constCV ((.iface t v))) (constCV_R (v := (.iface t v)) trivial)
  | nilIface => exact TV.c_R (cv := constCV ((.nilIface))) (constCV_R (v := (.nilIface)) trivial)

theorem evalTV_R (henv : ∀ t, (env t).R P w g mu (a.tmps.getD t undef)) (x : Operand) : (evalTV env x).R P w g mu (a.eval x) := by
  cases x with
  | tmp t => exact henv t
  | const v => exact constTV_R v
  | func f => rfl
  | global g => trivial

theorem wp_val {o : Oper} {next : Act → World → Prop} {v : Value} {w' : World} (h : (execOp a.eval o).run P w = .ok (.value v) w') (k : next (a.put o.dst v) w') : o.wp P a w next Q := by
  unfold Oper.wp; rw [h]; exact k

/-- An operation that leaves memory as it is. -/
theorem done_pure (s : OpSt P C env mu a w g idb) {o : Oper} {K : TV → List (Nat × Blk) → Option R} {y : R} {v : Value} {tv : TV}
    (h : (execOp a.eval o).run P w = .ok (.value v) w) (hK : K tv [] = some y) (hv : tv.R P w g mu v) : o.wp P a w (Done P w g mu a o.dst K y) Q :=
  wp_val h ⟨tv, [], v, g, rfl, hK, Nxt.refl s.wf s.own, hv⟩

/-- What a type's row says. -/
theorem ti_ok {t : Nat} {ti : TI} (h : tiOf P t = some ti) : ∃ inf d z, P.info? t = some inf ∧ P.underlying t = some d ∧ inf.zero = some z ∧ z.cells.toList.all cellishB = true ∧ isArr d = false ∧
    z.cells.size = inf.size ∧ ti.size = inf.size ∧ ti.bytes = inf.bytes ∧ ti.k = tkOf d ∧ ti.zero = z.cells.toList.map constCV ∧
    ((∃ fs, d = .struct fs ∧ (∀ f ∈ fs.toList, (P.info? f.type).isSome = true ∧ (P.underlying f.type).isSome = true) ∧ ti.flds = fs.toList.map (fun f => (f.offset, ((P.info? f.type).map (·.size)).getD 0)) ∧
        ti.ags = fs.toList.map (fun f => ((P.underlying f.type).map isAggD).getD false) ∧
        ti.eq = (bif flatFs P fs.toList 0 && Nat.beq fs.toList.length inf.size && !P.stoodInHeld t && !P.eqGuardType P.depth t then some (fs.toList.map fun f => ((P.underlying f.type).map tkOf).getD .other) else none)) ∨ ((∀ fs, d ≠ .struct fs) ∧ inf.size = 1 ∧ ti.flds = [] ∧ ti.eq = none)) := by
  unfold tiOf at h
  cases hi : P.info? t with
  | none => simp [hi] at h
  | some inf =>
    cases hu : P.underlying t with
    | none => simp [hi, hu] at h
    | some d =>
      simp only [hi, hu] at h
      cases hz : inf.zero with
      | none => simp [hz] at h
      | some z =>
        simp only [hz] at h
        cases hc : (z.cells.toList.all cellishB && !isArr d && Nat.beq z.cells.size inf.size) with
        | false => rw [hc] at h; simp at h
        | true =>
          rw [hc] at h
          simp only [Bool.and_eq_true, Bool.not_eq_true'] at hc
          have h3 := Nat.eq_of_beq_eq_true hc.2
          refine ⟨inf, d, z, rfl, rfl, hz, hc.1.1, hc.1.2, h3, ?_⟩
          cases d with
          | struct fs =>
            simp only [cond_true] at h
            cases hf : (fs.toList.all fun f => (P.info? f.type).isSome && (P.underlying f.type).isSome) with
            | false => rw [hf] at h; cases h
            | true =>
              rw [hf] at h
              cases h
              simp only [List.all_eq_true, Bool.and_eq_true] at hf
              exact ⟨rfl, rfl, rfl, rfl, .inl ⟨fs, rfl, hf, rfl, rfl, rfl⟩⟩
          | _ =>
            simp only [cond_true] at h
            cases hs : Nat.beq inf.size 1 with
            | false => rw [hs] at h; cases h
            | true =>
              rw [hs] at h
              cases h
              exact ⟨rfl, rfl, rfl, rfl, .inr ⟨by simp, Nat.eq_of_beq_eq_true hs, rfl, rfl⟩⟩

theorem cellsOf_R {tv : TV} {v : Value} {cs : List CV} (h : cellsOf tv = some cs) (hv : tv.R P w g mu v) : cvsR P w g mu cs v.cells.toList := by
  cases tv <;> simp [cellsOf] at h
  case c cv => subst h; rw [(CV.cellish cv hv).cells]; exact ⟨hv, trivial⟩
  case agg vs => subst h; obtain ⟨a, rfl, ha⟩ := hv; exact ha

theorem op_move (s : OpSt P C env mu a w g idb) {o : Oper} {x : Operand} (ho : o.op = .move x ∨ o.op = .assign x) {K : TV → List (Nat × Blk) → Option R} {y : R}
    (h : K (evalTV env x) [] = some y) : o.wp P a w (Done P w g mu a o.dst K y) Q := by
  refine done_pure s (v := a.eval x) ?_ h (evalTV_R s.env x)
  rcases ho with ho | ho <;> simp [execOp, ho]

theorem op_pick (s : OpSt P C env mu a w g idb) {o : Oper} {c x z : Operand} (ho : o.op = .pick c x z) {K : TV → List (Nat × Blk) → Option R} {y : R} {t : Bool}
    (hc : evalTV env c = .c (.bool t)) (h : K (evalTV env (bif t then x else z)) [] = some y) : o.wp P a w (Done P w g mu a o.dst K y) Q := by
  have hv := evalTV_R s.env c
  rw [hc] at hv
  have hv : a.eval c = .bool t := hv
  refine done_pure s (v := a.eval (bif t then x else z)) ?_ h (evalTV_R s.env _)
  cases t <;> simp [execOp, ho, hv, asBool]

/-- A new box. -/
theorem Nxt.box (s : OpSt P C env mu a w g idb) {cs : List CV} {vals : List Value} (hv : cvsR P w g mu cs vals) (t : TypeId) :
    ∃ g', Nxt P w g mu (w.alloc (.cells vals.toArray t)) g' (updL mu [(idb, .box cs)]) ∧ (CV.ptr idb 0).R P (w.alloc (.cells vals.toArray t)) g' (updL mu [(idb, .box cs)]) (.pointer (some ⟨w.heap.size, 0, none⟩)) ∧
      Stp w g mu (w.alloc (.cells vals.toArray t)) g' (updL mu [(idb, .box cs)]) (fun _ => False) := by
  have hf : mu idb = none := s.fresh idb (Nat.le_refl _) (by omega)
  have hmu : ∀ id, id ≠ idb → updL mu [(idb, .box cs)] id = mu id := fun id h => by
    simp only [updL, upd]
    have : Nat.beq id idb = false := Bool.eq_false_iff.2 fun e => h (Nat.eq_of_beq_eq_true e)
    simp [this]
  have hmi : updL mu [(idb, .box cs)] idb = some (.box cs) := by simp [updL, upd, Nat.beq_refl]
  let g' : Gh := ⟨fun b k => if b = w.heap.size then (if k < vals.length then .o [idb] else .x) else g.o b k, fun id => if id = idb then .box w.heap.size 0 else g.c id⟩
  have hcell : ∀ b k v, w.cell? ⟨b, k, none⟩ = some v → (w.alloc (.cells vals.toArray t)).cell? ⟨b, k, none⟩ = some v ∧ g'.o b k = g.o b k := by
    intro b k v h
    have hlt := cell_lt h
    refine ⟨by rw [World.cell?_alloc_lt w _ ⟨b, k, none⟩ hlt]; exact h, ?_⟩
    show (if b = w.heap.size then _ else _) = _
    rw [if_neg (by omega)]
  have hstp : Stp w g mu (w.alloc (.cells vals.toArray t)) g' (updL mu [(idb, .box cs)]) (fun _ => False) := by
    refine ⟨fun b k v h _ => hcell b k v h, fun id h => ?_, fun id h => ?_, fun id _ h => ?_, fun _ _ _ _ _ h => h.elim⟩
    · show (if id = idb then _ else _) = _
      rw [if_neg (fun (e : id = idb) => h (e ▸ hf))]
    · rw [hmu id (fun (e : id = idb) => h (e ▸ hf))]; exact h
    · exact hmu id (fun (e : id = idb) => h (e ▸ hf))
  have hnew : ∀ k v, vals[k]? = some v → (w.alloc (.cells vals.toArray t)).cell? ⟨w.heap.size, k, none⟩ = some v := by
    intro k v h
    rw [World.cell?_alloc_new]
    simpa using h
  refine ⟨g', ⟨_, hstp, ?_, ?_, ?_, ?_⟩, ⟨by rw [hmi]; simp, w.heap.size, 0, by show (if idb = idb then _ else _) = _; simp, rfl⟩, hstp⟩
  · refine ⟨rfl, rfl, rfl, by simp, fun b hlt _ => ?_, fun b k v h _ => hcell b k v h, fun b k v h => ⟨v, (hcell b k v h).1⟩, fun b k hlt => ?_⟩
    · simp only [World.alloc, Array.getElem?_push]
      rw [if_neg (by omega)]
    · exact World.frozen?_alloc_old w _ ⟨b, k, none⟩ (by simp; omega)
  · refine ⟨fun b k π h => ?_, fun b k h => ?_⟩
    · have h' : (if b = w.heap.size then (if k < vals.length then Own.o [idb] else .x) else g.o b k) = .o π := h
      clear h
      split at h'
      · rename_i e; subst e
        split at h'
        · rename_i hk
          exact ⟨⟨_, hnew k _ (List.getElem?_eq_getElem hk)⟩, fun j => by simp⟩
        · cases h'
      · obtain ⟨⟨v, hv⟩, hfz⟩ := s.wf.cell b k π h'
        refine ⟨⟨v, (hcell b k v hv).1⟩, ?_⟩
        intro j; rw [World.frozen?_alloc_old w _ ⟨b, j, none⟩ (by simpa using Nat.ne_of_lt (cell_lt hv))]; exact hfz j
    · have h' : (if b = w.heap.size then (if k < vals.length then Own.o [idb] else .x) else g.o b k) = .o [] := h
      clear h
      split at h'
      · split at h' <;> cases h'
      · exact s.wf.ne b k h'
  · intro b k id l h
    have h' : (if b = w.heap.size then (if k < vals.length then Own.o [idb] else .x) else g.o b k) = .o (id :: l) := h
    clear h
    split at h'
    · split at h'
      · cases h'; rw [hmi]; simp
      · cases h'
    · have := s.own b k id l h'
      rw [hmu id (fun (e : id = idb) => this (e ▸ hf))]; exact this
  · intro id b hid hb
    rcases hid with hid | hid
    · exact hid.elim
    · by_cases e : id = idb
      · subst e
        rw [hmi] at hb
        cases hb
        refine ⟨w.heap.size, 0, by show (if id = id then _ else _) = _; simp, fun j cv hj => ?_⟩
        obtain ⟨v, hvj, hcv⟩ := All2.get j cv hv hj
        refine ⟨v, by simpa using hnew j v hvj, ?_, CV.stp hstp s.wf cv hcv⟩
        have hlt : j < vals.length := by
          rcases Nat.lt_or_ge j vals.length with h | h
          · exact h
          · rw [List.getElem?_eq_none h] at hvj; cases hvj
        show (if w.heap.size = w.heap.size then (if 0 + j < vals.length then Own.o [id] else .x) else _) = _
        simp [hlt]
      · rw [hmu id e, hid] at hb; cases hb

theorem op_alloc (s : OpSt P C env mu a w g idb) {o : Oper} {e : TypeId} (ho : o.op = .alloc e) {K : TV → List (Nat × Blk) → Option R} {y : R} {ti : TI} (ht : C.ty e = some ti)
    (h : K (.c (.ptr idb 0)) [(idb, .box ti.zero)] = some y) : o.wp P a w (Done P w g mu a o.dst K y) Q := by
  obtain ⟨inf, d, z, h1, h2, h3, h4, _, _, _, _, _, h9, _⟩ := ti_ok (s.ty e ti ht)
  obtain ⟨g', hn, hp, _⟩ := Nxt.box s (constCVs_R (P := P) (w := w) (g := g) (mu := mu) h4) e
  refine wp_val (v := .pointer (some ⟨w.heap.size, 0, none⟩)) (w' := w.alloc (.cells z.cells e)) ?_ ⟨.c (.ptr idb 0), _, _, g', rfl, h, ?_, ?_⟩
  · simp [execOp, ho, Instr.alloc, zeroValue, run_typeInfo w h1, h3, newVar, newRow]
  · rw [h9]; simpa using hn
  · rw [h9]; exact TV.c_R (by simpa using hp)

theorem op_box (s : OpSt P C env mu a w g idb) {o : Oper} {e : TypeId} {x : Operand} (ho : o.op = .box e x) {K : TV → List (Nat × Blk) → Option R} {y : R} {cs : List CV} (hx : cellsOf (evalTV env x) = some cs)
    (h : K (.c (.ptr idb 0)) [(idb, .box cs)] = some y) : o.wp P a w (Done P w g mu a o.dst K y) Q := by
  obtain ⟨g', hn, hp, _⟩ := Nxt.box s (cellsOf_R hx (evalTV_R s.env x)) e
  refine wp_val (v := .pointer (some ⟨w.heap.size, 0, none⟩)) (w' := w.alloc (.cells (a.eval x).cells e)) ?_ ⟨.c (.ptr idb 0), _, _, g', rfl, h, ?_, ?_⟩
  · simp [execOp, ho, Instr.box, newVar, newRow]
  · simpa using hn
  · exact TV.c_R (by simpa using hp)

theorem op_nilCheck (s : OpSt P C env mu a w g idb) {o : Oper} {x : Operand} (ho : o.op = .nilCheck x) {K : TV → List (Nat × Blk) → Option R} {y : R} {cv : CV} (hx : evalTV env x = .c cv)
    (hp : ∀ v, cv.R P w g mu v → ∃ p, v = .pointer (some p)) (h : K (.c cv) [] = some y) : o.wp P a w (Done P w g mu a o.dst K y) Q := by
  have hv := evalTV_R s.env x
  rw [hx] at hv
  obtain ⟨p, hpv⟩ := hp _ hv
  refine done_pure s (v := a.eval x) (tv := .c cv) ?_ h hv
  simp [execOp, ho, hpv]

theorem op_extract (s : OpSt P C env mu a w g idb) {o : Oper} {x : Operand} {i : Nat} (ho : o.op = .extract x i) {K : TV → List (Nat × Blk) → Option R} {y : R} {vs : List (Bool × List CV)} (hx : evalTV env x = .tup vs)
    {e : Bool × List CV} (he : vs[i]? = some e) (h : K (one1 e) [] = some y) : o.wp P a w (Done P w g mu a o.dst K y) Q := by
  have hv := evalTV_R s.env x
  rw [hx] at hv
  obtain ⟨arr, hav, ha⟩ := hv
  obtain ⟨v, hvi, hr⟩ := All2.get i e ha he
  refine done_pure s (v := v) (tv := one1 e) ?_ h ?_
  · have : arr[i]? = some v := by simpa using hvi
    simp [execOp, ho, hav, Instr.extract, this]
  · rcases e with ⟨_ | _, cs⟩
    · rcases cs with _ | ⟨cv, _⟩
      · trivial
      · exact hr
    · exact hr

theorem op_unOp (s : OpSt P C env mu a w g idb) {o : Oper} {op : UnOp} {t : TypeId} {x : Operand} (ho : o.op = .unOp op t x) {K : TV → List (Nat × Blk) → Option R} {y : R} {tv : TV} {v : Value}
    (hu : (Op.unary op (a.eval x)).run P w = .ok v w) (hv : tv.R P w g mu v) (h : K tv [] = some y) : o.wp P a w (Done P w g mu a o.dst K y) Q := by
  refine done_pure s (v := v) (tv := tv) ?_ h hv
  simp [execOp, ho, hu]

theorem op_makeFunc (s : OpSt P C env mu a w g idb) {o : Oper} {f : Nat} {first captured : Array Operand} (ho : o.op = .makeFunc (.func f) first captured) (hf : first.isEmpty = true)
    {K : TV → List (Nat × Blk) → Option R} {y : R} {l : List Nat} (hc : capIds env captured.toList = some l) (h : K (.c (.clo f l)) [] = some y) : o.wp P a w (Done P w g mu a o.dst K y) Q := by
  have key : ∀ (xs : List Operand) (l : List Nat), capIds env xs = some l → All2 (fun id u => mu id ≠ none ∧ ∃ b base, g.c id = .box b base ∧ u = .pointer (some ⟨b, base, none⟩)) l (xs.map a.eval) := by
    intro xs
    induction xs with
    | nil => intro l h; simp only [capIds, Option.some.injEq] at h; subst h; trivial
    | cons x xs ih =>
      intro l h
      simp only [capIds] at h
      have hv := evalTV_R s.env x
      split at h
      · rename_i id off l' e1 e2
        cases hb : Nat.beq off 0 with
        | false => simp [hb] at h
        | true =>
          simp only [hb, cond_true, Option.some.injEq] at h
          cases Nat.eq_of_beq_eq_true hb
          subst h
          rw [e1] at hv
          obtain ⟨h0, b, base, hcb, hv⟩ := hv
          exact ⟨⟨h0, b, base, hcb, by simpa using hv⟩, ih _ e2⟩
      · cases h
  refine done_pure s (v := .func (.func f) #[] (captured.map a.eval)) (tv := .c (.clo f l)) ?_ h ⟨_, rfl, by simpa using key _ _ hc⟩
  have : first = #[] := by simpa using hf
  simp [execOp, ho, Instr.makeFunc, this]

theorem op_index (s : OpSt P C env mu a w g idb) {o : Oper} {t : TypeId} {x z : Operand} (ho : o.op = .index t x z) {K : TV → List (Nat × Blk) → Option R} {y : R} {ti : TI} (ht : C.ty t = some ti) (hk : ti.k = .str)
    {b : ByteArray} (hx : evalTV env x = .c (.str b)) {k : IntKind} {n : Int} (hz : evalTV env z = .c (.int k n)) {u : UInt8} (hu : getI b.data.toList n = some u)
    (h : K (.c (.int .u8 u.toNat)) [] = some y) : o.wp P a w (Done P w g mu a o.dst K y) Q := by
  obtain ⟨inf, d, z', h1, h2, _, _, _, _, _, _, hkd, _⟩ := ti_ok (s.ty t ti ht)
  have hd : d = .string := by rw [hk] at hkd; cases d <;> simp [tkOf] at hkd ⊢
  subst hd
  have hvx := evalTV_R s.env x
  rw [hx] at hvx
  have hvx : a.eval x = .string b := hvx
  have hvz := evalTV_R s.env z
  rw [hz] at hvz
  have hvz : a.eval z = .int k n := hvz
  unfold getI at hu
  split at hu
  · rename_i h0
    refine done_pure s (v := .int .u8 u.toNat) (tv := .c (.int .u8 u.toNat)) ?_ h rfl
    have hb : b[n.toNat]? = some u := by
      have h5 : b.data[n.toNat]? = some u := by simpa using hu
      obtain ⟨hlt, he⟩ := Array.getElem?_eq_some_iff.1 h5
      rw [getElem?_pos b n.toNat (by simpa using hlt)]
      exact congrArg some he
    simp [execOp, ho, Instr.index, hvx, hvz, asIntOf, run_underlying h2, h0, hb]
  · cases hu
end
end Go.Tm

/- The pure machine, 13: loads, fields, lengths, numbers. -/
namespace Go.Tm
open Go

section
variable {P : Program} {C : Ctx} {env : Nat → TV} {mu : Mu} {a : Act} {w : World} {g : Gh} {idb : Nat} {R : Type} {Q : Exit → Act → World → Prop}

theorem loadU_ok (hm : MemR P w g mu) {cv : CV} {v : Value} (hv : cv.R P w g mu v) {n : Nat} {K : List CV → Option R} {y : R} (h : loadU mu cv n K = some y) :
    ∃ cvs vs b base, K cvs = some y ∧ cvsR P w g mu cvs vs ∧ vs.length = n ∧ v = .pointer (some ⟨b, base, none⟩) ∧ ∀ k u, vs[k]? = some u → w.cell? ⟨b, base + k, none⟩ = some u := by
  have fin : ∀ (cs : List CV) (vs : List Value) (b base off : Nat), cvsR P w g mu cs vs → (∀ k u, vs[k]? = some u → w.cell? ⟨b, base + k, none⟩ = some u) → off + n ≤ cs.length → K ((cs.drop off).take n) = some y →
      v = .pointer (some ⟨b, base + off, none⟩) →
      ∃ cvs vs b base, K cvs = some y ∧ cvsR P w g mu cvs vs ∧ vs.length = n ∧ v = .pointer (some ⟨b, base, none⟩) ∧ ∀ k u, vs[k]? = some u → w.cell? ⟨b, base + k, none⟩ = some u := by
    intro cs vs b base off h1 h2 h3 h4 h5
    have hl := h1.length
    refine ⟨_, _, b, base + off, h4, All2.take n (All2.drop off h1), by simp; omega, h5, fun k u hk => ?_⟩
    have := h2 _ _ (All2.getD_drop_take hk)
    rwa [show base + (off + k) = base + off + k by omega] at this
  cases cv <;> simp only [loadU] at h <;> try (cases h; done)
  case ptr id off =>
    obtain ⟨_, b, base, hc, rfl⟩ := hv
    cases hb : mu id with
    | none => simp [hb] at h
    | some bl =>
      have hbr := hm id bl hb
      cases bl <;> simp only [hb] at h <;> try (cases h; done)
      case box cs =>
        obtain ⟨b', base', hc', hcs⟩ := hbr
        rw [hc] at hc'; cases hc'
        obtain ⟨vs, h1, h2⟩ := box_vs (P := P) (mu := mu) cs hcs
        cases hle : Nat.ble (off + n) cs.length with
        | false => simp [hle] at h
        | true =>
          simp only [hle, cond_true] at h
          exact fin cs vs b base off h1 (fun k u hk => (h2 k u hk).1) (Nat.le_of_ble_eq_true hle) h rfl
      case rbox es x =>
        obtain ⟨b', base', hc', hcs⟩ := hbr
        rw [hc] at hc'; cases hc'
        obtain ⟨vs, h1, h2⟩ := Hs_vs es hcs
        cases hle : Nat.ble (off + n) es.len with
        | false => simp [hle] at h
        | true =>
          simp only [hle, cond_true] at h
          have hr := Vs_ros (mu := mu) es h1
          refine fin _ vs b base off hr (fun k u hk => (h2 k u hk).1) ?_ h rfl
          rw [hr.length, Vs_len es h1]; exact Nat.le_of_ble_eq_true hle
  case rptr es x off =>
    obtain ⟨b, base, rfl, hcs⟩ := hv
    obtain ⟨vs, h1, h2⟩ := Hs_vs es hcs
    cases hle : Nat.ble (off + n) es.len with
    | false => simp [hle] at h
    | true =>
      simp only [hle, cond_true] at h
      have hr := Vs_ros (mu := mu) es h1
      refine fin _ vs b base off hr (fun k u hk => (h2 k u hk).1) ?_ h rfl
      rw [hr.length, Vs_len es h1]; exact Nat.le_of_ble_eq_true hle
  case eptr id sz i off =>
    obtain ⟨_, ad, m, c, hc, hspot, rfl⟩ := hv
    cases hb : mu id with
    | none => simp [hb] at h
    | some bl =>
      have hbr := hm id bl hb
      cases bl <;> simp only [hb] at h <;> try (cases h; done)
      case row es ms xs ver =>
        cases hle : (Nat.ble (off + n) es.len && Nat.beq sz es.len) with
        | false => simp [hle] at h
        | true =>
          simp only [hle, cond_true] at h
          simp only [Bool.and_eq_true] at hle
          have hsz := Nat.eq_of_beq_eq_true hle.2
          cases hx : getN xs i with
          | none => simp [hx] at h
          | some x =>
            simp only [hx, Option.bind_some] at h
            obtain ⟨v', hc', hr⟩ := hbr
            rw [hc] at hc'; cases hc'
            obtain ⟨a', c', he, _, hr⟩ := H_own.1 hr
            cases he
            rcases hr with ⟨rfl, _⟩ | ⟨ad', hea, _, _, hr⟩
            · simp [getN] at hx
            · cases hea
              obtain ⟨vs, h1, h2⟩ := Hs_vs es (hr i x hx)
              have h4 := cvs_R (P := P) (w := w) (ms0 := ms) hb hc (ad.off + i * es.len) rfl es h1 (by simpa using h2)
              refine fin _ vs ad.block (ad.off + i * es.len) off h4 (fun k u hk => (h2 k u hk).1) ?_ h (by rw [hsz])
              rw [h4.length, Vs_len es h1]; exact Nat.le_of_ble_eq_true hle.1
      case fz es xs =>
        cases hle : (Nat.ble (off + n) es.len && Nat.beq sz es.len) with
        | false => simp [hle] at h
        | true =>
          simp only [hle, cond_true] at h
          simp only [Bool.and_eq_true] at hle
          have hsz := Nat.eq_of_beq_eq_true hle.2
          cases hx : getN xs i with
          | none => simp [hx] at h
          | some x =>
            simp only [hx, Option.bind_some] at h
            obtain ⟨v', hc', hr⟩ := hbr
            rw [hc] at hc'; cases hc'
            obtain ⟨a', c', he, _, hr2⟩ := H_sh.1 hr
            clear hr
            cases he
            rcases hr2 with rfl | ⟨ad', hea, _, hr2⟩
            · simp [getN] at hx
            · cases hea
              obtain ⟨vs, h1, h2⟩ := Hs_vs es (hr2 i x hx)
              have h4 := Vs_ros (mu := mu) es h1
              refine fin _ vs ad.block (ad.off + i * es.len) off h4 (fun k u hk => (h2 k u hk).1) ?_ h (by rw [hsz])
              rw [h4.length, Vs_len es h1]; exact Nat.le_of_ble_eq_true hle.1

theorem struct_iff {d : TypeDesc} : tkOf d = .struct ↔ ∃ fs, d = .struct fs := by
  cases d <;> simp [tkOf]

theorem op_load (s : OpSt P C env mu a w g idb) {o : Oper} {t : TypeId} {x : Operand} (ho : o.op = .load t x) {K : TV → List (Nat × Blk) → Option R} {y : R} {ti : TI} (ht : C.ty t = some ti) {cv : CV} (hx : evalTV env x = .c cv)
    (h : (loadU mu cv ti.size fun cs => K (TV.ofCells (match ti.k with | .struct => true | _ => false) cs) []) = some y) : o.wp P a w (Done P w g mu a o.dst K y) Q := by
  obtain ⟨inf, d, z, h1, h2, h3, h4, harr, h6, h7, h8, h9, h10, h11⟩ := ti_ok (s.ty t ti ht)
  have hv := evalTV_R s.env x
  rw [hx] at hv
  obtain ⟨cvs, vs, b, base, h, hcv, hlen, hvx, hcell⟩ := loadU_ok s.mem hv h
  have hrun := run_loadCells_list (P := P) w ⟨b, base, none⟩ vs (fun j v hj => by rw [Addr.add_lit]; exact hcell j v hj)
  rcases h11 with ⟨fs, hd, hfs, hfl, hag, _⟩ | ⟨hns, hs1, _⟩
  · subst hd
    have hk : ti.k = .struct := h9
    simp only [hk, TV.ofCells, cond_true] at h
    refine done_pure s (v := .agg vs.toArray) (tv := .agg cvs) ?_ h ⟨_, rfl, by simpa using hcv⟩
    rw [hlen, h7] at hrun
    simp [execOp, ho, Instr.loadAt, hvx, Instr.sureAddr, loadVar, isAgg, run_underlying h2, sizeOf, run_typeInfo w h1, hrun]
  · have hk : (match ti.k with | .struct => true | _ => false) = false := by
      rw [h9]; cases hd : tkOf d <;> simp
      exact absurd (struct_iff.1 hd) (by simpa using hns)
    rw [hk] at h
    rw [h7, hs1] at hlen
    obtain ⟨u, rfl⟩ := List.length_eq_one_iff.1 hlen
    cases cvs with
    | nil => exact hcv.elim
    | cons cv' r =>
      cases r with
      | cons _ _ => exact hcv.2.elim
      | nil =>
      refine done_pure s (v := u) (tv := .c cv') ?_ h hcv.1
      have hc0 := hcell 0 u rfl
      have hagg : (isAgg t).run P w = .ok false w := by
        simp only [isAgg, Sem.run_bind, run_underlying h2, Result.andThen_ok]
        cases d <;> first | rfl | (simp [isArr] at harr; done) | exact absurd rfl (hns _)
      simp only [Nat.add_zero] at hc0
      simp [execOp, ho, Instr.loadAt, hvx, Instr.sureAddr, loadVar, hagg, hc0]

theorem structFld_ok (hty : ∀ t ti, C.ty t = some ti → tiOf P t = some ti) {t f off n : Nat} (h : structFld C t f = some (off, n)) :
    ∃ fs fd inf, P.underlying t = some (.struct fs) ∧ fs[f]? = some fd ∧ fd.offset = off ∧ P.info? fd.type = some inf ∧ inf.size = n ∧ n ≠ 0 ∧ ∃ d, P.underlying fd.type = some d ∧ structAg C t f = some (isAggD d) := by
  unfold structFld at h
  cases ht : C.ty t with
  | none => simp [ht] at h
  | some ti =>
    simp only [ht] at h
    obtain ⟨inf, d, z, h1, h2, h3, h4, harr, h6, h7, h8, h9, h10, h11⟩ := ti_ok (hty t ti ht)
    cases hk : ti.k <;> simp only [hk] at h <;> try (cases h; done)
    rcases h11 with ⟨fs, rfl, hfs, hfl, hag, _⟩ | ⟨hns, _⟩
    · cases hf : ti.flds[f]? with
      | none => simp [hf] at h
      | some p =>
        obtain ⟨off', n'⟩ := p
        simp only [hf] at h
        cases hn : Nat.beq n' 0 with
        | true => simp [hn] at h
        | false =>
          simp only [hn, cond_false, Option.some.injEq, Prod.mk.injEq] at h
          obtain ⟨rfl, rfl⟩ := h
          rw [hfl, List.getElem?_map] at hf
          cases hfd : fs.toList[f]? with
          | none => simp [hfd] at hf
          | some fd =>
            simp only [hfd, Option.map_some, Option.some.injEq, Prod.mk.injEq] at hf
            obtain ⟨hi, hu⟩ := hfs fd (List.mem_of_getElem? hfd)
            obtain ⟨i, hi⟩ := Option.isSome_iff_exists.1 hi
            obtain ⟨u, hu⟩ := Option.isSome_iff_exists.1 hu
            refine ⟨fs, fd, i, h2, by simpa using hfd, hf.1, hi, by simpa [hi] using hf.2, fun e => by subst e; simp [Nat.beq_refl] at hn, u, hu, ?_⟩
            simp [structAg, ht, hag, hfd, hu]
    · rw [hk] at h9
      obtain ⟨fs, rfl⟩ := struct_iff.1 h9.symm
      exact absurd rfl (hns fs)

theorem op_fieldAddr (s : OpSt P C env mu a w g idb) {o : Oper} {t f : Nat} {x : Operand} (ho : o.op = .fieldAddr t x f) {K : TV → List (Nat × Blk) → Option R} {y : R} {off n : Nat} (hf : structFld C t f = some (off, n)) {cv cv' : CV} (hx : evalTV env x = .c cv)
    (hp : ∀ v, cv.R P w g mu v → ∃ b base, v = .pointer (some ⟨b, base, none⟩) ∧ cv'.R P w g mu (.pointer (some ⟨b, base + off, none⟩))) (h : K (.c cv') [] = some y) : o.wp P a w (Done P w g mu a o.dst K y) Q := by
  obtain ⟨fs, fd, inf, h1, h2, h3, h4, h5, h6, _⟩ := structFld_ok s.ty hf
  have hv := evalTV_R s.env x
  rw [hx] at hv
  obtain ⟨b, base, hvx, hr⟩ := hp _ hv
  refine done_pure s (v := .pointer (some ⟨b, base + off, none⟩)) (tv := .c cv') ?_ h hr
  have hsz : (sizeOf fd.type).run P w = .ok inf.size w := by simp [sizeOf, run_typeInfo w h4]
  have hn : inf.size ≠ 0 := by rw [h5]; exact h6
  simp [execOp, ho, Instr.fieldAt, run_underlying h1, h2, hvx, Instr.sureAddr, fieldPlace, hsz, hn, h3, Addr.add_lit]

theorem toList_take_drop {α : Type} (xs : Array α) (off n : Nat) : (xs.extract off (off + n)).toList = (xs.toList.drop off).take n := by
  simp

theorem op_field (s : OpSt P C env mu a w g idb) {o : Oper} {t f : Nat} {x : Operand} (ho : o.op = .field t x f) {K : TV → List (Nat × Blk) → Option R} {y : R} {off n : Nat} {ag : Bool} (hf : structFld C t f = some (off, n))
    (hga : structAg C t f = some ag) {vs : List CV} (hx : evalTV env x = .agg vs)
    (h : (bif ag then K (.agg ((vs.drop off).take n)) [] else (match ((vs.drop off).take n) with | [v] => K (.c v) [] | _ => none)) = some y) : o.wp P a w (Done P w g mu a o.dst K y) Q := by
  obtain ⟨fs, fd, inf, h1, h2, h3, h4, h5, h6, d, hd, hag⟩ := structFld_ok s.ty hf
  rw [hag] at hga
  cases hga
  have hv := evalTV_R s.env x
  rw [hx] at hv
  obtain ⟨arr, hvx, hr⟩ := hv
  have hr' := All2.take n (All2.drop off hr)
  have hsz : (sizeOf fd.type).run P w = .ok n w := by simp [sizeOf, run_typeInfo w h4, h5]
  have hag : (isAgg fd.type).run P w = .ok (isAggD d) w := by
    simp only [isAgg, Sem.run_bind, run_underlying hd, Result.andThen_ok]
    cases d <;> rfl
  cases hb : isAggD d with
  | true =>
    rw [hb] at h hag
    refine done_pure s (v := .agg (arr.extract off (off + n))) (tv := .agg _) ?_ h ⟨_, rfl, by rw [toList_take_drop]; exact hr'⟩
    simp [execOp, ho, Instr.field, run_underlying h1, h2, hvx, asAgg, part, hag, hsz, h3]
  | false =>
    rw [hb] at h hag
    simp only [cond_false] at h
    match hl : (vs.drop off).take n, hr', h with
    | [cv], hr', h =>
      match hu : (arr.toList.drop off).take n, hr' with
      | [u], hr' =>
        have h0 : arr[off]? = some u := by
          have : ((arr.toList.drop off).take n)[0]? = some u := by rw [hu]; rfl
          have := All2.getD_drop_take this
          simpa using this
        refine done_pure s (v := u) (tv := .c cv) ?_ h hr'.1
        simp [execOp, ho, Instr.field, run_underlying h1, h2, hvx, asAgg, part, hag, h3, h0]

theorem lenU_ok (hm : MemR P w g mu) (hw : Wf w g.o) {cv : CV} {v : Value} (hv : cv.R P w g mu v) {K : Int → Option R} {y : R} (h : lenU mu cv K = some y) (hs : ∀ s, cv ≠ .str s) :
    ∃ ad n c, v = .slice ad n c ∧ K n = some y := by
  have key : content mu cv (fun _ xs => K xs.length) = some y → ∃ ad n c, v = .slice ad n c ∧ K n = some y := by
    intro h
    obtain ⟨es, xs, h, ⟨ms, q, hh⟩, _⟩ := content_ok hm hw hv h
    cases q with
    | o π =>
      cases ms with
      | own ms => obtain ⟨a, c, rfl, _⟩ := H_own.1 hh; exact ⟨a, _, c, rfl, h⟩
      | sh => obtain ⟨a, c, rfl, _⟩ := H_sh.1 hh; exact ⟨a, _, c, rfl, h⟩
    | x => obtain ⟨a, c, rfl, _⟩ := (H_p (by simp)).1 hh; exact ⟨a, _, c, rfl, h⟩
    | p => obtain ⟨a, c, rfl, _⟩ := (H_p (by simp)).1 hh; exact ⟨a, _, c, rfl, h⟩
  unfold lenU at h
  split at h
  · cases (hv : v = .slice none 0 0); exact ⟨none, 0, 0, rfl, h⟩
  · exact key h

theorem op_len (s : OpSt P C env mu a w g idb) {o : Oper} {c : Call} (ho : o.op = .call c) (hc : c.callee = .builtin .len) {K : TV → List (Nat × Blk) → Option R} {y : R} {rid i : Nat}
    (h : builtinU C mu idb rid i .len c.argTypes.toList (c.args.toList.map (evalTV env)) K = some y) : o.wp P a w (Done P w g mu a o.dst K y) Q := by
  cases hargs : c.args.toList with
  | nil => simp [hargs, builtinU] at h
  | cons x r =>
    cases r with
    | cons x2 r => simp only [hargs, List.map_cons] at h; cases evalTV env x <;> simp [builtinU] at h
    | nil =>
    simp only [hargs, List.map_cons, List.map_nil] at h
    cases hx : evalTV env x <;> simp only [hx, builtinU] at h <;> try (cases h; done)
    case c cv =>
      cases htys : c.argTypes.toList with
      | nil => simp [htys] at h
      | cons t r =>
        cases r with
        | cons _ _ => simp [htys] at h
        | nil =>
        simp only [htys] at h
        cases ht : C.ty t with
        | none => simp [ht] at h
        | some ti =>
          simp only [ht] at h
          obtain ⟨inf, d, z, h1, h2, h3, h4, harr, h6, h7, h8, h9, h10, h11⟩ := ti_ok (s.ty t ti ht)
          have hv := evalTV_R s.env x
          rw [hx] at hv
          have ha0 : c.args = #[x] := by rw [← Array.toList_inj, hargs]
          have ht0 : c.argTypes = #[t] := by rw [← Array.toList_inj, htys]
          have go : ∀ (n : Int), K (.c (.int .i64 n)) [] = some y → (Builtin.len_ #[t] o.type #[a.eval x]).run P w = .ok (goInt n) w → o.wp P a w (Done P w g mu a o.dst K y) Q := by
            intro n hk hrun
            refine done_pure s (v := goInt n) (tv := .c (.int .i64 n)) ?_ hk rfl
            simp [execOp, ho, resolve, hc, ha0, ht0, invoke, builtin, hrun]
          cases hk : ti.k <;> simp only [hk] at h <;> try (cases h; done)
          case str =>
            cases cv with
            | str b =>
              have hd : d = .string := by rw [hk] at h9; cases d <;> simp [tkOf] at h9 ⊢
              subst hd
              have hv : a.eval x = .string b := hv
              exact go _ h (by simp [Builtin.len_, run_underlying h2, hv])
            | _ => cases h
          case slice e =>
            have hd : d = .slice e := by rw [hk] at h9; cases d <;> simp [tkOf] at h9 ⊢; exact h9.symm
            subst hd
            have key : lenU mu cv (fun n => K (.c (.int .i64 n)) []) = some y → (∀ s, cv ≠ .str s) → o.wp P a w (Done P w g mu a o.dst K y) Q := by
              intro h hns
              obtain ⟨ad, n, c', hv, h⟩ := lenU_ok s.mem s.wf hv h hns
              exact go _ h (by simp [Builtin.len_, run_underlying h2, hv])
            cases cv <;> simp only at h <;> first | (cases h; done) | exact key h (by simp)

theorem max_fold (gt : Bool) {k : IntKind} : ∀ (r : List TV) (vs : List Value) (x n : Int), All2 (TV.R P w g mu) r vs → maxInts k gt x r = some n →
    (vs.foldlM (if gt then Builtin.max2 else Builtin.min2) (.int k x)).run P w = .ok (.int k n) w
  | [], [], x, n, _, h => by simp only [maxInts, Option.some.injEq] at h; subst h; cases gt <;> rfl
  | [], _ :: _, _, _, h, _ => h.elim
  | _ :: _, [], _, _, h, _ => h.elim
  | t :: r, v :: vs, x, n, hr, h => by
    cases t with
    | un => simp [maxInts] at h
    | und => simp [maxInts] at h
    | agg _ => simp [maxInts] at h
    | tup _ => simp [maxInts] at h
    | c cv =>
      cases cv with
      | int k' b =>
        simp only [maxInts] at h
        split at h
        · rename_i e
          subst e
          cases (hr.1 : v = .int k b)
          have := max_fold gt r vs _ n hr.2 h
          cases gt with
          | true =>
            simp only [List.foldlM_cons, if_true, Sem.run_bind, Builtin.max2, Sem.run_pure, Result.andThen_ok] at this ⊢
            have e : (if b > x then b else x) = iMax x b := by unfold iMax iLt; by_cases hlt : x < b <;> simp [hlt]
            rw [e]; simpa using this
          | false =>
            simp only [List.foldlM_cons, if_false, Sem.run_bind, Builtin.min2, Sem.run_pure, Result.andThen_ok, Bool.false_eq_true] at this ⊢
            have e : (if b < x then b else x) = iMin x b := by unfold iMin iLt; by_cases hlt : b < x <;> simp [hlt]
            rw [e]; simpa using this
        · cases h
      | _ => simp [maxInts] at h

theorem evalTVs_R (henv : ∀ t, (env t).R P w g mu (a.tmps.getD t undef)) : ∀ (xs : List Operand), All2 (TV.R P w g mu) (xs.map (evalTV env)) (xs.map a.eval)
  | [] => trivial
  | x :: xs => ⟨evalTV_R henv x, evalTVs_R henv xs⟩

theorem op_maxmin (s : OpSt P C env mu a w g idb) (gt : Bool) {o : Oper} {c : Call} (ho : o.op = .call c) (hc : c.callee = .builtin (if gt then .max else .min)) {K : TV → List (Nat × Blk) → Option R} {y : R} {k : IntKind} {x n : Int} {r : List TV}
    (hargs : c.args.toList.map (evalTV env) = .c (.int k x) :: r) (hn : maxInts k gt x r = some n) (h : K (.c (.int k n)) [] = some y) : o.wp P a w (Done P w g mu a o.dst K y) Q := by
  have ha := evalTVs_R s.env c.args.toList
  rw [hargs] at ha
  match hvs : c.args.toList.map a.eval, ha with
  | v :: vs, ha =>
    cases (ha.1 : v = .int k x)
    have hf := max_fold (P := P) (w := w) gt r vs x n ha.2 hn
    refine done_pure s (v := .int k n) (tv := .c (.int k n)) ?_ h rfl
    have hl : (c.args.map a.eval).toList = .int k x :: vs := by simpa using hvs
    cases gt with
    | true => simp at hc hf; simp [execOp, ho, resolve, hc, invoke, builtin, Builtin.max_, hvs, hf]
    | false => simp at hc hf; simp [execOp, ho, resolve, hc, invoke, builtin, Builtin.min_, hvs, hf]
end
end Go.Tm

/- The pure machine, 14: numbers, texts, comparisons, conversions. -/
namespace Go.Tm
open Go

section
variable {P : Program} {C : Ctx} {env : Nat → TV} {mu : Mu} {a : Act} {w : World} {g : Gh} {idb : Nat} {R : Type} {Q : Exit → Act → World → Prop}

/-- What a comparison or a sum runs to, wherever its operands come from. -/
def BinRun (P : Program) (w : World) (op : BinOp) (t : TypeId) (u v z : Value) : Prop :=
  ∀ x y : Operand, (do eqGuard op t x y u v; binOp op t u v : Sem Value).run P w = .ok z w

theorem binInt_ok (op : BinOp) (t : TypeId) (k : IntKind) (x y : Int) {K : TV → Option R} {r : R}
    (h : (match op with
      | .add => K (.c (.int k (iAdd k x y)))
      | .sub => K (.c (.int k (iSub k x y)))
      | .mul => K (.c (.int k (iMul k x y)))
      | .quo => bif iEq y 0 then none else K (.c (.int k (iQuo k x y)))
      | .rem => bif iEq y 0 then none else K (.c (.int k (iRem x y)))
      | .and => K (.c (.int k (iAnd k x y)))
      | .or => K (.c (.int k (iOr k x y)))
      | .xor => K (.c (.int k (iXor k x y)))
      | .andNot => K (.c (.int k (iAndNot k x y)))
      | .eql => K (.c (.bool (iEq x y)))
      | .neq => K (.c (.bool (!iEq x y)))
      | .lss => K (.c (.bool (iLt x y)))
      | .leq => K (.c (.bool (iLe x y)))
      | .gtr => K (.c (.bool (iLt y x)))
      | .geq => K (.c (.bool (iLe y x)))
      | _ => none) = some r) : ∃ tv z, K tv = some r ∧ BinRun P w op t (.int k x) (.int k y) z ∧ tv.R P w g mu z := by
  have fin : ∀ (cv : CV) (z : Value), K (.c cv) = some r → BinRun P w op t (.int k x) (.int k y) z → cv.R P w g mu z →
      ∃ tv z, K tv = some r ∧ BinRun P w op t (.int k x) (.int k y) z ∧ tv.R P w g mu z := fun cv z h1 h2 h3 => ⟨.c cv, z, h1, h2, h3⟩
  cases op <;> simp only at h <;> try (cases h; done)
  case add => exact fin _ _ h (fun _ _ => by simp [eqGuard_at_int, binOp, Op.intArith]; rfl) rfl
  case sub => exact fin _ _ h (fun _ _ => by simp [eqGuard_at_int, binOp, Op.intArith]; rfl) rfl
  case mul => exact fin _ _ h (fun _ _ => by simp [eqGuard_at_int, binOp, Op.intArith]; rfl) rfl
  case quo =>
    cases hy : iEq y 0 with
    | true => simp [hy] at h
    | false =>
      simp only [hy, cond_false] at h
      have hy : y ≠ 0 := by simpa [iEq] using hy
      exact fin _ _ h (fun _ _ => by simp [eqGuard_at_int, binOp, Op.intDiv, hy]; rfl) rfl
  case rem =>
    cases hy : iEq y 0 with
    | true => simp [hy] at h
    | false =>
      simp only [hy, cond_false] at h
      have hy : y ≠ 0 := by simpa [iEq] using hy
      exact fin _ _ h (fun _ _ => by simp [eqGuard_at_int, binOp, Op.intDiv, hy]; rfl) rfl
  case and => exact fin _ (.int k (iAnd k x y)) h (fun _ _ => by simp [eqGuard_at_int, binOp, Op.intBits, iAnd]) rfl
  case or => exact fin _ (.int k (iOr k x y)) h (fun _ _ => by simp [eqGuard_at_int, binOp, Op.intBits, iOr]) rfl
  case xor => exact fin _ (.int k (iXor k x y)) h (fun _ _ => by simp [eqGuard_at_int, binOp, Op.intBits, iXor]) rfl
  case andNot => exact fin _ (.int k (iAndNot k x y)) h (fun _ _ => by simp [eqGuard_at_int, binOp, Op.intBits, iAndNot]) rfl
  case eql => exact fin _ (.bool (iEq x y)) h (fun _ _ => by simp [eqGuard_at_int, binOp, Op.intCmp, iEq]; rfl) rfl
  case neq => exact fin _ (.bool (!iEq x y)) h (fun _ _ => by simp [eqGuard_at_int, binOp, Op.intCmp, iEq]; rfl) rfl
  case lss => exact fin _ (.bool (iLt x y)) h (fun _ _ => by simp [eqGuard_at_int, binOp, Op.intCmp, iLt]) rfl
  case leq => exact fin _ (.bool (iLe x y)) h (fun _ _ => by simp [eqGuard_at_int, binOp, Op.intCmp, iLe]) rfl
  case gtr => exact fin _ (.bool (iLt y x)) h (fun _ _ => by simp [eqGuard_at_int, binOp, Op.intCmp, iLt]) rfl
  case geq => exact fin _ (.bool (iLe y x)) h (fun _ _ => by simp [eqGuard_at_int, binOp, Op.intCmp, iLe]) rfl

theorem binStr_ok (op : BinOp) (t : TypeId) (x y : ByteArray) {K : TV → Option R} {r : R}
    (h : (match op with
      | .add => bif sRoom x y then K (.c (.str (sApp x y))) else none
      | .eql => K (.c (.bool (sEq x y)))
      | .neq => K (.c (.bool (!sEq x y)))
      | .lss => K (.c (.bool (sLt x y)))
      | .leq => K (.c (.bool (sLt x y || sEq x y)))
      | .gtr => K (.c (.bool (!(sLt x y || sEq x y))))
      | .geq => K (.c (.bool (!sLt x y)))
      | _ => none) = some r) : ∃ tv z, K tv = some r ∧ BinRun P w op t (.string x) (.string y) z ∧ tv.R P w g mu z := by
  have fin : ∀ (cv : CV) (z : Value), K (.c cv) = some r → BinRun P w op t (.string x) (.string y) z → cv.R P w g mu z →
      ∃ tv z, K tv = some r ∧ BinRun P w op t (.string x) (.string y) z ∧ tv.R P w g mu z := fun cv z h1 h2 h3 => ⟨.c cv, z, h1, h2, h3⟩
  cases op <;> simp only at h <;> try (cases h; done)
  case add =>
    cases hr : sRoom x y with
    | false => simp [hr] at h
    | true =>
      simp only [hr, cond_true] at h
      have hr : x.size + y.size ≤ 1099511627776 := by simpa [sRoom] using hr
      have hn : ¬ (9223372036854775807 : Int) < (x.size : Int) + y.size := by omega
      exact fin _ (.string (sApp x y)) h (fun _ _ => by simp [eqGuard_at_string, binOp, Op.stringOp, hn, sApp]) rfl
  case eql => exact fin _ (.bool (sEq x y)) h (fun _ _ => by simp [eqGuard_at_string, binOp, Op.stringOp, sEq]) rfl
  case neq => exact fin _ (.bool (!sEq x y)) h (fun _ _ => by simp [eqGuard_at_string, binOp, Op.stringOp, sEq]) rfl
  case lss => exact fin _ (.bool (sLt x y)) h (fun _ _ => by simp [eqGuard_at_string, binOp, Op.stringOp, sLt]) rfl
  case leq => exact fin _ (.bool (sLt x y || sEq x y)) h (fun _ _ => by simp [eqGuard_at_string, binOp, Op.stringOp, sLt, sEq]) rfl
  case gtr => exact fin _ (.bool (!(sLt x y || sEq x y))) h (fun _ _ => by simp [eqGuard_at_string, binOp, Op.stringOp, sLt, sEq]) rfl
  case geq => exact fin _ (.bool (!sLt x y)) h (fun _ _ => by simp [eqGuard_at_string, binOp, Op.stringOp, sLt]) rfl

theorem bool_under {t : TypeId} (hty : ∀ t ti, C.ty t = some ti → tiOf P t = some ti) (h : (match C.ty t with | some ti => ti.k | none => .other) = .bool) : P.underlying t = some .bool := by
  cases ht : C.ty t with
  | none => simp [ht] at h
  | some ti =>
    simp only [ht] at h
    obtain ⟨inf, d, z, h1, h2, h3, h4, harr, h6, h7, h8, h9, _⟩ := ti_ok (hty t ti ht)
    rw [h] at h9
    rw [h2]
    cases d <;> simp [tkOf] at h9 ⊢

theorem slice_under {t e : TypeId} (hty : ∀ t ti, C.ty t = some ti → tiOf P t = some ti) (h : (match C.ty t with | some ti => ti.k | none => .other) = .slice e) : P.underlying t = some (.slice e) := by
  cases ht : C.ty t with
  | none => simp [ht] at h
  | some ti =>
    simp only [ht] at h
    obtain ⟨inf, d, z, h1, h2, h3, h4, harr, h6, h7, h8, h9, _⟩ := ti_ok (hty t ti ht)
    rw [h] at h9
    rw [h2]
    cases d <;> simp [tkOf] at h9 ⊢
    exact h9.symm

theorem eqLeaf_ok {t : TypeId} {d : Nat} {k : TK} {x y : CV} {u v : Value} {c : Bool} (h : eqCV k x y = some c) (hx : x.R P w g mu u) (hy : y.R P w g mu v) {ty : TypeDesc} (ht : P.underlying t = some ty) (hk : tkOf ty = k) :
    (Op.equalIn (d + 1) t u v).run P w = .ok c w := by
  subst hk
  cases ty with
  | int q =>
    cases x with
    | int k1 a =>
      cases y with
      | int k2 b =>
        simp only [tkOf, eqCV] at h
        split at h
        · rename_i e
          obtain ⟨rfl, rfl⟩ := e
          cases h
          cases (hx : u = .int q a); cases (hy : v = .int q b)
          rw [run_equalIn_int w d t q q a b ht]
          rfl
        · cases h
      | _ => simp [tkOf, eqCV] at h
    | _ => simp [tkOf, eqCV] at h
  | bool =>
    cases x with
    | bool a =>
      cases y with
      | bool b =>
        simp only [tkOf, eqCV, Option.some.injEq] at h
        subst h
        cases (hx : u = .bool a); cases (hy : v = .bool b)
        rw [run_equalIn_bool' w d t a b ht]; rfl
      | _ => simp [tkOf, eqCV] at h
    | _ => simp [tkOf, eqCV] at h
  | string =>
    cases x with
    | str a =>
      cases y with
      | str b =>
        simp only [tkOf, eqCV, Option.some.injEq] at h
        subst h
        cases (hx : u = .string a); cases (hy : v = .string b)
        rw [run_equalIn_string w d t a b ht]; rfl
      | _ => simp [tkOf, eqCV] at h
    | _ => simp [tkOf, eqCV] at h
  | _ => simp [tkOf, eqCV] at h

theorem eqFields_ok {d : Nat} : ∀ (fs : List Field) (i : Nat) (ks : List TK) (A B : List CV) {xs ys : Array Value} {c : Bool}, flatFs P fs i = true → ks = fs.map (fun f => ((P.underlying f.type).map tkOf).getD .other) → eqCVs ks A B = some c →
    (∀ j cv, A[j]? = some cv → ∃ u, xs[i + j]? = some u ∧ cv.R P w g mu u) → (∀ j cv, B[j]? = some cv → ∃ u, ys[i + j]? = some u ∧ cv.R P w g mu u) →
    (Op.eqFields (d + 1) xs ys fs).run P w = .ok c w
  | [], i, ks, A, B, xs, ys, c, hf, hk, h, hA, hB => by
    subst hk
    cases A <;> cases B <;> simp [eqCVs] at h
    subst h; simp [Op.eqFields]
  | f :: fs, i, ks, A, B, xs, ys, c, hf, hk, h, hA, hB => by
    subst hk
    simp only [flatFs, Bool.and_eq_true, Bool.not_eq_true', beq_eq_false_iff_ne] at hf
    obtain ⟨⟨⟨hname, hoff⟩, hty⟩, hfs⟩ := hf
    have hoff := Nat.eq_of_beq_eq_true hoff
    cases hu : P.underlying f.type with
    | none => simp [hu] at hty
    | some ty =>
      cases A with
      | nil => simp [eqCVs] at h
      | cons x A =>
        cases B with
        | nil => simp [eqCVs] at h
        | cons y B =>
          simp only [List.map_cons, eqCVs, hu, Option.map_some, Option.getD_some] at h
          obtain ⟨u, hxu, hxr⟩ := hA 0 x rfl
          obtain ⟨v, hyv, hyr⟩ := hB 0 y rfl
          simp only [Nat.add_zero] at hxu hyv
          have hpu : ∀ {zs : Array Value} {u : Value}, zs[i]? = some u → (part f.type zs f.offset).run P w = .ok u w := by
            intro zs u hz
            have hag : (isAgg f.type).run P w = .ok false w := by
              simp only [isAgg, Sem.run_bind, run_underlying hu, Result.andThen_ok]
              cases ty <;> first | rfl | (simp [hu] at hty; done)
            simp [part, hag, hoff, hz]
          cases hc : eqCV (tkOf ty) x y with
          | none => simp [hc] at h
          | some c0 =>
            simp only [hc] at h
            have heq := eqLeaf_ok (d := d) hc hxr hyr hu rfl
            have rest : ∀ c1, eqCVs (fs.map fun f => ((P.underlying f.type).map tkOf).getD .other) A B = some c1 → (Op.eqFields (d + 1) xs ys fs).run P w = .ok c1 w := fun c1 h1 =>
              eqFields_ok fs (i + 1) _ A B hfs rfl h1 (fun j cv hj => by have := hA (j + 1) cv (by simpa using hj); rwa [show i + (j + 1) = i + 1 + j by omega] at this)
                (fun j cv hj => by have := hB (j + 1) cv (by simpa using hj); rwa [show i + (j + 1) = i + 1 + j by omega] at this)
            have hstep : ∀ c1, eqCVs (fs.map fun f => ((P.underlying f.type).map tkOf).getD .other) A B = some c1 → (Op.eqFields (d + 1) xs ys (f :: fs)).run P w = .ok (c0 && c1) w := by
              intro c1 h1
              simp only [Op.eqFields, hname, ne_eq, not_false_eq_true, if_true, Sem.run_bind, hpu hxu, hpu hyv, Result.andThen_ok, heq]
              cases c0
              · simp
              · simpa using rest c1 h1
            cases fs with
            | nil =>
              cases A <;> cases B <;> simp at h
              subst h
              simpa using hstep true rfl
            | cons f2 fs =>
              simp only [List.map_cons] at h
              cases hr : eqCVs (((P.underlying f2.type).map tkOf).getD .other :: fs.map fun f => ((P.underlying f.type).map tkOf).getD .other) A B with
              | none => rw [hr] at h; cases h
              | some c1 =>
                rw [hr] at h
                cases h
                exact hstep c1 hr

theorem nilEq_ok {t e : TypeId} (hm : MemR P w g mu) (hw : Wf w g.o) (ht : P.underlying t = some (.slice e)) {cv : CV} {v : Value} (hv : cv.R P w g mu v) {K : Bool → Option R} {r : R} (h : nilEq mu cv K = some r) (hs : ∀ s, cv ≠ .str s) :
    ∃ b, K b = some r ∧ BinRun P w .eql t v (.slice none 0 0) (.bool b) ∧ BinRun P w .neq t v (.slice none 0 0) (.bool (!b)) := by
  have go : ∀ (ad : Option Addr) (n c : Nat), BinRun P w .eql t (.slice ad n c) (.slice none 0 0) (.bool ad.isNone) ∧ BinRun P w .neq t (.slice ad n c) (.slice none 0 0) (.bool (!ad.isNone)) := by
    intro ad n c
    have he := run_equal_slice_nil (P := P) w t e ad n c ht
    exact ⟨fun _ _ => by simp only [eqGuard_at_slice, binOp, Sem.run_bind, Sem.run_pure, Result.andThen_ok, he],
      fun _ _ => by simp only [eqGuard_at_slice, binOp, Sem.run_bind, Sem.run_pure, Result.andThen_ok, he]⟩
  have key : (content mu cv fun _ xs => bif xs.isEmpty then both (K true) (K false) else K false) = some r →
      ∃ b, K b = some r ∧ BinRun P w .eql t v (.slice none 0 0) (.bool b) ∧ BinRun P w .neq t v (.slice none 0 0) (.bool (!b)) := by
    intro h
    obtain ⟨es, xs, h, ⟨ms, q, hh⟩, _⟩ := content_ok hm hw hv h
    have hsl : ∃ ad c, v = .slice ad xs.length c ∧ (xs ≠ [] → ∃ p, ad = some p) := by
      cases q with
      | o π =>
        cases ms with
        | own ms => obtain ⟨a, c, rfl, _, h⟩ := H_own.1 hh; exact ⟨a, c, rfl, fun hne => by rcases h with h | ⟨p, h, _⟩; exact absurd h.1 hne; exact ⟨p, h⟩⟩
        | sh => obtain ⟨a, c, rfl, _, h⟩ := H_sh.1 hh; exact ⟨a, c, rfl, fun hne => by rcases h with h | ⟨p, h, _⟩; exact absurd h hne; exact ⟨p, h⟩⟩
      | x => obtain ⟨a, c, rfl, _, h⟩ := (H_p (by simp)).1 hh; exact ⟨a, c, rfl, fun hne => by rcases h with h | ⟨p, h, _⟩; exact absurd h hne; exact ⟨p, h⟩⟩
      | p => obtain ⟨a, c, rfl, _, h⟩ := (H_p (by simp)).1 hh; exact ⟨a, c, rfl, fun hne => by rcases h with h | ⟨p, h, _⟩; exact absurd h hne; exact ⟨p, h⟩⟩
    obtain ⟨ad, c, rfl, had⟩ := hsl
    cases xs with
    | nil =>
      simp only [List.isEmpty_nil, cond_true] at h
      unfold both at h
      split at h
      · rename_i e
        refine ⟨ad.isNone, ?_, go ad _ c⟩
        cases ad with
        | none => exact h
        | some _ => show K false = some r; rw [← e]; exact h
      · cases h
    | cons x xs =>
      simp only [List.isEmpty_cons, cond_false] at h
      obtain ⟨p, rfl⟩ := had (by simp)
      exact ⟨false, h, go (some p) _ c⟩
  unfold nilEq at h
  split at h
  · cases (hv : v = .slice none 0 0); exact ⟨true, h, go none 0 0⟩
  · exact key h

theorem binU_ok (hty : ∀ t ti, C.ty t = some ti → tiOf P t = some ti) (hm : MemR P w g mu) (hw : Wf w g.o) {t : TypeId} {op : BinOp} {tx ty : TV} {u v : Value} (hx : tx.R P w g mu u) (hy : ty.R P w g mu v) {K : TV → Option R} {r : R}
    (h : binU mu (match C.ty t with | some ti => ti.k | none => .other) (match C.ty t with | some ti => ti.eq | none => none) op tx ty K = some r) : ∃ tv z, K tv = some r ∧ BinRun P w op t u v z ∧ tv.R P w g mu z := by
  unfold binU at h
  split at h
  · rename_i k x k' y
    cases (hx : u = .int k x)
    cases (hy : v = .int k' y)
    split at h
    · cases hn : iLt y 0 with
      | true => simp [hn] at h
      | false =>
        simp only [hn, cond_false] at h
        have hn : ¬ y < 0 := by simpa [iLt] using hn
        exact ⟨_, .int k (iShl k x y), h, fun _ _ => by simp [eqGuard_at_int, binOp, Op.shift, hn, iShl], rfl⟩
    · cases hn : iLt y 0 with
      | true => simp [hn] at h
      | false =>
        simp only [hn, cond_false] at h
        have hn : ¬ y < 0 := by simpa [iLt] using hn
        exact ⟨_, .int k (iShr k x y), h, fun _ _ => by simp [eqGuard_at_int, binOp, Op.shift, hn, iShr], rfl⟩
    · split at h
      · rename_i e
        subst e
        exact binInt_ok op t k x y h
      · cases h
  · rename_i x y
    cases (hx : u = .string x)
    cases (hy : v = .string y)
    exact binStr_ok op t x y h
  · rename_i x y
    cases (hx : u = .bool x)
    cases (hy : v = .bool y)
    split at h
    · rename_i hk
      have ht := bool_under hty hk
      split at h
      · exact ⟨_, .bool (bEq x y), h, fun _ _ => by simp only [eqGuard_at_bool, Sem.run_bind, Sem.run_pure, Result.andThen_ok, run_eql_bool w t x y ht]; rfl, rfl⟩
      · exact ⟨_, .bool (!bEq x y), h, fun _ _ => by simp only [eqGuard_at_bool, Sem.run_bind, Sem.run_pure, Result.andThen_ok, run_neq_bool w t x y ht]; rfl, rfl⟩
      · cases h
    · cases h
  · rename_i A B
    obtain ⟨as, rfl, hA⟩ := hx
    obtain ⟨bs, rfl, hB⟩ := hy
    cases ht : C.ty t with
    | none => simp [ht] at h
    | some ti =>
      simp only [ht] at h
      cases hq : ti.eq with
      | none => simp [hq] at h
      | some ks =>
        simp only [hq] at h
        obtain ⟨inf, d, z, h1, h2, h3, h4, harr, h6, h7, h8, h9, h10, h11⟩ := ti_ok (hty t ti ht)
        rcases h11 with ⟨fs, rfl, hfs, hfl, hag, heq⟩ | ⟨_, _, _, heq⟩
        · rw [hq] at heq
          cases hall : (flatFs P fs.toList 0 && Nat.beq fs.toList.length inf.size && !P.stoodInHeld t && !P.eqGuardType P.depth t) with
          | false => rw [hall] at heq; cases heq
          | true =>
            rw [hall] at heq
            simp only [cond_true, Option.some.injEq] at heq
            simp only [Bool.and_eq_true, Bool.not_eq_true'] at hall
            obtain ⟨⟨⟨hflat, _⟩, hst⟩, hgd⟩ := hall
            have hfo : P.fieldsOf t = fs := by simp [Program.fieldsOf, h2]
            have run : ∀ c, eqCVs ks A B = some c → (Op.equalIn 10000 t (.agg as) (.agg bs)).run P w = .ok c w := by
              intro c hc
              rw [run_equalIn_agg w 9999 t as bs (by rw [hfo]; exact h2) hst, hfo]
              refine eqFields_ok (g := g) (mu := mu) (d := 9998) fs.toList 0 ks A B hflat heq hc (fun j cv hj => ?_) (fun j cv hj => ?_)
              · obtain ⟨u, hu, hr⟩ := All2.get j cv hA hj; exact ⟨u, by simpa using hu, hr⟩
              · obtain ⟨u, hu, hr⟩ := All2.get j cv hB hj; exact ⟨u, by simpa using hu, hr⟩
            split at h
            · cases hc : eqCVs ks A B with
              | none => simp [hc] at h
              | some c =>
                simp only [hc] at h
                exact ⟨_, .bool c, h, fun x y => by simp only [Sem.run_bind, run_eqGuard_agg w _ t x y as bs hgd, Result.andThen_ok, run_eql_struct, run c hc], rfl⟩
            · cases hc : eqCVs ks A B with
              | none => simp [hc] at h
              | some c =>
                simp only [hc] at h
                exact ⟨_, .bool (!c), h, fun x y => by simp only [Sem.run_bind, run_eqGuard_agg w _ t x y as bs hgd, Result.andThen_ok, run_neq_struct, run c hc], rfl⟩
            · cases h
        · rw [hq] at heq; cases heq
  · rename_i cv
    cases (hy : v = .slice none 0 0)
    split at h
    · rename_i e hk
      have ht := slice_under hty hk
      have hns : ∀ s, cv ≠ .str s := by
        intro s e; subst e
        split at h <;> first | (simp [nilEq, content] at h; done) | cases h
      split at h
      · obtain ⟨b, h, h1, h2⟩ := nilEq_ok hm hw ht hx h hns
        exact ⟨_, _, h, h1, rfl⟩
      · obtain ⟨b, h, h1, h2⟩ := nilEq_ok hm hw ht hx h hns
        exact ⟨_, _, h, h2, rfl⟩
      · cases h
    · cases h
  · cases h

theorem op_bin (s : OpSt P C env mu a w g idb) {o : Oper} {t t2 : TypeId} {op : BinOp} {x y : Operand} (ho : o.op = .binOp op t x y t2) {K : TV → List (Nat × Blk) → Option R} {r : R}
    (h : binU mu (match C.ty t with | some ti => ti.k | none => .other) (match C.ty t with | some ti => ti.eq | none => none) op (evalTV env x) (evalTV env y) (fun v => K v []) = some r) : o.wp P a w (Done P w g mu a o.dst K r) Q := by
  obtain ⟨tv, z, h, hr, hz⟩ := binU_ok s.ty s.mem s.wf (evalTV_R s.env x) (evalTV_R s.env y) h
  refine done_pure s (v := z) (tv := tv) ?_ h hz
  have := hr x y
  simp only [execOp, ho, Sem.run_bind] at this ⊢
  rw [this]
  rfl
end
end Go.Tm

/- The pure machine, 15: whose things are is told anew. -/
namespace Go.Tm
open Go

/-- Owners told anew: 'f id s' for what lies at the path 'id :: s'. -/
def re (f : Nat → List Nat → Own) : Own → Own
  | .o (id :: s) => f id s
  | .o [] => .x
  | q => q

theorem re_p {f : Nat → List Nat → Own} : re f .p = .p := rfl

/-- Below a path all goes with it. -/
def ext (q : Own) (s : List Nat) : Own :=
  match q with
  | .o π => .o (π ++ s)
  | .p => .p
  | .x => .x

section
variable {P : Program} {C : Ctx} {env : Nat → TV} {mu : Mu} {a : Act} {w w' : World} {g g' : Gh} {idb : Nat} {f : Nat → List Nat → Own} {T : Nat → Prop}

/-- A step that writes only where 'Wr' says, and tells owners anew. -/
structure Mvd (w : World) (g : Gh) (w' : World) (g' : Gh) (f : Nat → List Nat → Own) (Wr : Nat → Nat → Prop) : Prop where
  keep : ∀ b k v, w.cell? ⟨b, k, none⟩ = some v → ¬ Wr b k → w'.cell? ⟨b, k, none⟩ = some v
  there : ∀ b k v, w.cell? ⟨b, k, none⟩ = some v → ∃ v', w'.cell? ⟨b, k, none⟩ = some v'
  own : ∀ b k v, w.cell? ⟨b, k, none⟩ = some v → g'.o b k = re f (g.o b k)
  wr : ∀ b k, Wr b k → ∃ id, g.o b k = .o [id]

theorem Mvd.perm {Wr : Nat → Nat → Prop} (h : Mvd w g w' g' f Wr) : PermKeep w g.o w' g'.o := fun b k v hv ho =>
  ⟨h.keep b k v hv (fun hw => by obtain ⟨id, e⟩ := h.wr b k hw; rw [ho] at e; cases e), by rw [h.own b k v hv, ho]; rfl⟩

/-- What lies at a path that nothing is written at goes where it is told. -/
theorem Mvd.rl {Wr : Nat → Nat → Prop} (h : Mvd w g w' g' f Wr) {id : Nat} {l : List Nat} {q : Own} (hq : q ≠ .x) (hf : ∀ s, f id (l ++ s) = ext q s) (hw : ∀ b k, Wr b k → ∀ s, g.o b k ≠ .o (id :: l ++ s)) :
    Rl w g.o w' g'.o (.o (id :: l)) q := by
  have key : ∀ b k s v, w.cell? ⟨b, k, none⟩ = some v → g.o b k = .o (id :: l ++ s) → w'.cell? ⟨b, k, none⟩ = some v ∧ g'.o b k = ext q s := fun b k s v hv ho =>
    ⟨h.keep b k v hv (fun hw' => hw b k hw' s ho), by rw [h.own b k v hv, ho, List.cons_append]; exact hf s⟩
  cases q with
  | x => exact absurd rfl hq
  | p => exact .inr ⟨rfl, key⟩
  | o π => exact .inl ⟨π, rfl, key⟩

open Classical in
/-- A new row of cells. -/
noncomputable def allocG (w : World) (g : Gh) (idb n : Nat) (f : Nat → List Nat → Own) (v : Value) : Gh :=
  ⟨fun b k => if b = w.heap.size then (if k < n then .o [idb] else .x) else re f (g.o b k), fun id => if id = idb then .row v else g.c id⟩

theorem alloc_mvd {vals : List Value} {t : TypeId} {v : Value} : Mvd w g (w.alloc (.cells vals.toArray t)) (allocG w g idb vals.length f v) f (fun _ _ => False) where
  keep b k v hv _ := by rw [World.cell?_alloc_lt w _ ⟨b, k, none⟩ (cell_lt hv)]; exact hv
  there b k v hv := ⟨v, by rw [World.cell?_alloc_lt w _ ⟨b, k, none⟩ (cell_lt hv)]; exact hv⟩
  own b k v hv := by
    have := cell_lt hv
    show (if b = w.heap.size then _ else _) = _
    rw [if_neg (by omega)]
  wr b k h := h.elim

theorem re_ne (hf : ∀ id s, f id s ≠ .o []) {q : Own} : re f q ≠ .o [] := by
  cases q with
  | x => intro h; cases h
  | p => intro h; cases h
  | o π => cases π with
    | nil => intro h; cases h
    | cons id s => exact hf id s

theorem re_o {q : Own} {π : List Nat} (h : re f q = .o π) : ∃ id s, q = .o (id :: s) ∧ f id s = .o π := by
  cases q with
  | x => cases h
  | p => cases h
  | o p => cases p with
    | nil => cases h
    | cons id s => exact ⟨id, s, rfl, h⟩

theorem alloc_nxt (hw : Wf w g.o) (hown : ∀ b k id s, g.o b k = .o (id :: s) → mu id ≠ none) {vals : List Value} {t : TypeId} {v : Value} {ms : List (Nat × Blk)} (hidb : mu idb = none)
    (hT : ∀ id s, ¬ T id → f id s = .o (id :: s)) (hf : ∀ id s, f id s ≠ .o []) (hfo : ∀ id s p l, mu id ≠ none → f id s = .o (p :: l) → updL mu ms p ≠ none) (hi : updL mu ms idb ≠ none)
    (hms : ∀ id, ¬ T id → mu id ≠ none → ∀ b, (id, b) ∉ ms) (hv : ∀ id es ms' xs ver, T id → mu id ≠ none → updL mu ms id ≠ some (.row es ms' xs ver))
    (hb : ∀ id b, (T id ∨ mu id = none) → updL mu ms id = some b → b.R P (w.alloc (.cells vals.toArray t)) (allocG w g idb vals.length f v) (updL mu ms) id) :
    Nxt P w g mu (w.alloc (.cells vals.toArray t)) (allocG w g idb vals.length f v) (updL mu ms) := by
  have hm : Mvd w g (w.alloc (.cells vals.toArray t)) (allocG w g idb vals.length f v) f (fun _ _ => False) := alloc_mvd
  refine ⟨T, ⟨fun b k u hu hn => ⟨hm.keep b k u hu id, ?_⟩, fun id h => ?_, fun id h => updL_some h, fun id h h2 => updL_none fun b hb' => hms id h h2 b hb', fun id es ms' xs ver h1 h2 h3 => absurd h3 (hv id es ms' xs ver h1 h2)⟩, ?_, ?_, ?_, hb⟩
  · rw [hm.own b k u hu]
    cases hq : g.o b k with
    | x => rfl
    | p => rfl
    | o π => cases π with
      | nil => exact absurd hq (hw.ne b k)
      | cons id s => exact hT id s (hn id s hq)
  · show (if id = idb then _ else _) = _
    rw [if_neg (fun (e : id = idb) => h (e ▸ hidb))]
  · refine ⟨rfl, rfl, rfl, by simp, fun b hlt _ => ?_, fun b k u hu hn => ⟨hm.keep b k u hu id, ?_⟩, hm.there, fun b k hlt => World.frozen?_alloc_old w _ ⟨b, k, none⟩ (by simp; omega)⟩
    · simp only [World.alloc, Array.getElem?_push]
      rw [if_neg (by omega)]
    · rw [hm.own b k u hu]
      cases hq : g.o b k with
      | x => rfl
      | p => rfl
      | o π => exact absurd hq (hn π)
  · refine ⟨fun b k π h => ?_, fun b k h => ?_⟩
    · have h' : (if b = w.heap.size then (if k < vals.length then Own.o [idb] else .x) else re f (g.o b k)) = .o π := h
      clear h
      split at h'
      · rename_i e; subst e
        split at h'
        · rename_i hk
          refine ⟨⟨vals[k], ?_⟩, fun j => by simp⟩
          rw [World.cell?_alloc_new]; simp [hk]
        · cases h'
      · rename_i hne
        obtain ⟨id, s, hq, _⟩ := re_o h'
        obtain ⟨⟨u, hu⟩, hfz⟩ := hw.cell b k _ hq
        exact ⟨⟨u, hm.keep b k u hu (fun x => x)⟩, fun j => by rw [World.frozen?_alloc_old w _ ⟨b, j, none⟩ hne]; exact hfz j⟩
    · have h' : (if b = w.heap.size then (if k < vals.length then Own.o [idb] else .x) else re f (g.o b k)) = .o [] := h
      split at h'
      · split at h' <;> cases h'
      · exact re_ne hf h'
  · intro b k id l h
    have h' : (if b = w.heap.size then (if k < vals.length then Own.o [idb] else .x) else re f (g.o b k)) = .o (id :: l) := h
    split at h'
    · split at h'
      · cases h'; exact hi
      · cases h'
    · obtain ⟨id', s, hq, hfe⟩ := re_o h'
      exact hfo id' s id l (hown b k id' s hq) hfe

/-- The same heap, cells set one by one. -/
theorem set_mvd {b0 off : Nat} {vs : List Value} {c' : Nat → Conc} (hw : Wf w g.o) {id0 : Nat} (hown : ∀ k, k < vs.length → g.o b0 (off + k) = .o [id0]) :
    Mvd w g (w.setCells b0 off vs) ⟨fun b k => re f (g.o b k), c'⟩ f (fun b k => b = b0 ∧ off ≤ k ∧ k < off + vs.length) where
  keep b k v hv hn := by
    rw [World.cell?_setCells_out b0 vs off w ⟨b, k, none⟩ (fun h1 _ => by
      have h1 : b = b0 := h1
      show k < off ∨ off + vs.length ≤ k
      have := fun h2 h3 => hn ⟨h1, h2, h3⟩
      omega)]
    exact hv
  there b k v hv := by
    by_cases h : b = b0 ∧ off ≤ k ∧ k < off + vs.length
    · obtain ⟨rfl, h1, h2⟩ := h
      have := World.cell?_setCells_in b vs off w (fun j hj => by
        obtain ⟨⟨u, hu⟩, _⟩ := hw.cell _ _ _ (hown j hj); simp [hu]) (k - off) (by omega)
      rw [show off + (k - off) = k by omega] at this
      exact ⟨_, this⟩
    · exact ⟨v, by
        rw [World.cell?_setCells_out b0 vs off w ⟨b, k, none⟩ (fun h1 _ => by
          have h1 : b = b0 := h1
          show k < off ∨ off + vs.length ≤ k
          have := fun h2 h3 => h ⟨h1, h2, h3⟩
          omega)]
        exact hv⟩
  own b k v hv := rfl
  wr b k h := ⟨id0, by
    obtain ⟨rfl, h1, h2⟩ := h
    have := hown (k - off) (by omega)
    rwa [show off + (k - off) = k by omega] at this⟩

theorem setCells_facts (b0 : Nat) : ∀ (vs : List Value) (off : Nat) (w : World), (w.setCells b0 off vs).os = w.os ∧ (w.setCells b0 off vs).tape = w.tape ∧ (w.setCells b0 off vs).output = w.output ∧ (w.setCells b0 off vs).heap.size = w.heap.size ∧
    (∀ b, b ≠ b0 → (w.setCells b0 off vs).heap[b]? = w.heap[b]?)
  | [], _, _ => ⟨rfl, rfl, rfl, rfl, fun _ _ => rfl⟩
  | v :: vs, off, w => by
    obtain ⟨h1, h2, h3, h4, h5⟩ := setCells_facts b0 vs (off + 1) (w.setCell ⟨b0, off, none⟩ v)
    refine ⟨h1, h2, h3, by rw [World.setCells, h4, World.size_setCell], fun b hb => ?_⟩
    rw [World.setCells, h5 b hb]
    simp only [World.setCell, Array.getElem?_modify]
    rw [if_neg (fun e => hb e.symm)]

theorem set_nxt (hw : Wf w g.o) (hown : ∀ b k id s, g.o b k = .o (id :: s) → mu id ≠ none) {b0 off : Nat} {vs : List Value} {c' : Nat → Conc} {id0 : Nat} (hT0 : vs ≠ [] → T id0) (hcell : ∀ k, k < vs.length → g.o b0 (off + k) = .o [id0]) {ms : List (Nat × Blk)}
    (hc' : ∀ id, mu id ≠ none → c' id = g.c id)
    (hT : ∀ id s, ¬ T id → f id s = .o (id :: s)) (hf : ∀ id s, f id s ≠ .o []) (hfo : ∀ id s p l, mu id ≠ none → f id s = .o (p :: l) → updL mu ms p ≠ none)
    (hms : ∀ id, ¬ T id → mu id ≠ none → ∀ b, (id, b) ∉ ms) (hv : ∀ id es ms' xs ver, T id → mu id ≠ none → updL mu ms id = some (.row es ms' xs ver) → ∃ es' ms2 xs' ver', mu id = some (.row es' ms2 xs' ver') ∧ ver' < ver)
    (hb : ∀ id b, (T id ∨ mu id = none) → updL mu ms id = some b → b.R P (w.setCells b0 off vs) ⟨fun b k => re f (g.o b k), c'⟩ (updL mu ms) id) :
    Nxt P w g mu (w.setCells b0 off vs) ⟨fun b k => re f (g.o b k), c'⟩ (updL mu ms) := by
  have hm : Mvd w g (w.setCells b0 off vs) ⟨fun b k => re f (g.o b k), c'⟩ f (fun b k => b = b0 ∧ off ≤ k ∧ k < off + vs.length) := set_mvd hw hcell
  obtain ⟨h1, h2, h3, h4, h5⟩ := setCells_facts b0 vs off w
  have hnw : ∀ b k, (∀ id s, g.o b k = .o (id :: s) → ¬ T id) → ¬ (b = b0 ∧ off ≤ k ∧ k < off + vs.length) := by
    rintro b k hn ⟨rfl, h6, h7⟩
    have := hcell (k - off) (by omega)
    rw [show off + (k - off) = k by omega] at this
    exact hn _ _ this (hT0 (by intro e; rw [e] at h7; simp at h7; omega))
  refine ⟨T, ⟨fun b k u hu hn => ⟨hm.keep b k u hu (hnw b k hn), ?_⟩, hc', fun id h => updL_some h, fun id h h2 => updL_none fun b hb' => hms id h h2 b hb', hv⟩, ?_, ?_, ?_, hb⟩
  · show re f (g.o b k) = _
    cases hq : g.o b k with
    | x => rfl
    | p => rfl
    | o π => cases π with
      | nil => exact absurd hq (hw.ne b k)
      | cons id s => exact hT id s (hn id s hq)
  · refine ⟨h1, h2, h3, by rw [h4]; exact Nat.le_refl _, fun b hlt hn => ?_, fun b k u hu hn => ⟨hm.keep b k u hu ?_, ?_⟩, hm.there, fun b k _ => World.frozen?_setCells b0 vs off w ⟨b, k, none⟩⟩
    · by_cases e : b = b0
      · subst e
        cases vs with
        | nil => rfl
        | cons v vs => exact absurd (hcell 0 (by simp)) (hn _ _)
      · exact h5 b e
    · rintro ⟨rfl, h6, h7⟩
      have := hcell (k - off) (by omega)
      rw [show off + (k - off) = k by omega] at this
      exact hn _ this
    · show re f (g.o b k) = _
      cases hq : g.o b k with
      | x => rfl
      | p => rfl
      | o π => exact absurd hq (hn π)
  · refine ⟨fun b k π h => ?_, fun b k h => re_ne hf h⟩
    obtain ⟨id, s, hq, _⟩ := re_o h
    obtain ⟨⟨u, hu⟩, hfz⟩ := hw.cell b k _ hq
    exact ⟨hm.there b k u hu, fun j => by rw [World.frozen?_setCells]; exact hfz j⟩
  · intro b k id l h
    obtain ⟨id', s, hq, hfe⟩ := re_o h
    exact hfo id' s id l (hown b k id' s hq) hfe

/-- What is lent for good, or moved: owners told anew by uses. -/
def useF (us : List Use) (dest : Nat → List Nat) : Nat → List Nat → Own := fun id s =>
  match findU id us with
  | some (.mv _ to) => .o (dest to ++ s)
  | some (.pm _) => .p
  | none => .o (id :: s)

theorem useF_mv {us : List Use} {dest : Nat → List Nat} {id to : Nat} (hu : usesOk us = true) (h : Use.mv id to ∈ us) (s : List Nat) : useF us dest id s = .o (dest to ++ s) := by
  simp [useF, findU_mv hu h]
theorem useF_pm {us : List Use} {dest : Nat → List Nat} {id : Nat} (hu : usesOk us = true) (h : Use.pm id ∈ us) (s : List Nat) : useF us dest id s = .p := by
  simp [useF, findU_pm hu h]

/-- Frozen: read for good from here on. -/
theorem Nxt.freeze (hm : MemR P w g mu) (hw : Wf w g.o) (hown : ∀ b k id s, g.o b k = .o (id :: s) → mu id ≠ none) {id0 : Nat} {es : Tys} {ms : List Md} {xs : List es.D} {ver : Nat} (hr : mu id0 = some (.row es ms xs ver)) :
    ∃ g', Nxt P w g mu w g' (updL mu [(id0, .fz es xs)]) ∧ ∀ v, g.c id0 = .row v → (Ty.sl es).H P w g'.o .sh .p xs v := by
  let us : List Use := [.pm id0]
  have huk : usesOk us = true := rfl
  have hfind : ∀ id, id ≠ id0 → findU id us = none := fun id h => if_neg (fun e => h (Eq.symm e))
  have hm0 : Mvd w g (w.setCells 0 0 []) ⟨fun b k => re (useF us fun _ => [0]) (g.o b k), g.c⟩ (useF us fun _ => [0]) (fun b k => b = 0 ∧ 0 ≤ k ∧ k < 0 + ([] : List Value).length) := set_mvd (id0 := 0) hw (by simp)
  obtain ⟨v, hc, hh⟩ := hm _ _ hr
  have hfz : (Ty.sl es).H P w (fun b k => re (useF us fun _ => [0]) (g.o b k)) .sh .p xs v :=
    H_q _ (H_md _ _ _ _ _ (H_re hm0.perm hw (.sl es) (.own ms) (.o [id0]) .p xs v (hm0.rl (l := []) (by simp) (fun s => by simp [useF_pm huk (List.mem_singleton.2 rfl), ext]) (fun b k h => by simp at h)) hh))
  refine ⟨⟨fun b k => re (useF us fun _ => [0]) (g.o b k), g.c⟩, set_nxt (T := fun id => id = id0) (vs := []) (b0 := 0) (off := 0) (id0 := 0) hw hown (by simp) (by simp) (fun _ _ => rfl) (fun id s h => by simp [useF, hfind id h]) (fun id s => ?_) (fun id s p l h1 h2 => ?_) (fun id h1 h2 b hb => ?_) (fun id es' ms' xs' ver' h1 h2 h3 => ?_) (fun id b h1 h2 => ?_), fun v' hv' => by rw [hc] at hv'; cases hv'; exact hfz⟩
  · unfold useF
    split <;> simp
  · have : useF us (fun _ => [0]) id s = .o (p :: l) := h2
    unfold useF at this
    split at this
    · rename_i e
      obtain ⟨_, h3⟩ := findU_id e
      simp [us] at h3
    · cases this
    · cases this; exact updL_some h1
  · simp at hb; exact h1 hb.1
  · subst h1
    simp [updL, upd, Nat.beq_refl] at h3
  · rcases h1 with h1 | h1
    · subst h1
      simp [updL, upd, Nat.beq_refl] at h2
      subst h2
      exact ⟨v, hc, hfz⟩
    · rcases updL_cases h2 with h2 | ⟨_, h2⟩
      · simp at h2
        rw [h2.1, hr] at h1; cases h1
      · rw [h1] at h2; cases h2
end
end Go.Tm

/- The pure machine, 16: rows. -/
namespace Go.Tm
open Go

section
variable {P : Program} {C : Ctx} {env : Nat → TV} {mu : Mu} {a : Act} {w : World} {g : Gh} {idb : Nat} {R : Type} {Q : Exit → Act → World → Prop}

theorem elemTI_ok (hty : ∀ t ti, C.ty t = some ti → tiOf P t = some ti) {t e : Nat} {te : TI} (h : elemTI C t = some (e, te)) :
    P.underlying t = some (.slice e) ∧ C.ty e = some te ∧ (C.es e).len = te.size ∧ ∃ ti, C.ty t = some ti ∧ ti.k = .slice e := by
  unfold elemTI at h
  cases ht : C.ty t with
  | none => simp [ht] at h
  | some ti =>
    simp only [ht] at h
    cases hk : ti.k <;> simp only [hk] at h <;> try (cases h; done)
    case slice e' =>
      cases he : C.ty e' with
      | none => simp [he] at h
      | some te' =>
        simp only [he] at h
        cases hl : Nat.beq (C.es e').len te'.size with
        | false => simp [hl] at h
        | true =>
          simp only [hl, cond_true, Option.some.injEq, Prod.mk.injEq] at h
          obtain ⟨rfl, rfl⟩ := h
          exact ⟨slice_under (t := t) hty (by simp [ht, hk]), he, Nat.eq_of_beq_eq_true hl, ti, rfl, hk⟩

theorem run_size {hty : ∀ t ti, C.ty t = some ti → tiOf P t = some ti} {e : Nat} {te : TI} (h : C.ty e = some te) : (sizeOf e).run P w = .ok te.size w := by
  obtain ⟨inf, d, z, h1, h2, h3, h4, harr, h6, h7, _⟩ := ti_ok (hty e te h)
  simp [sizeOf, run_typeInfo w h1, h7]

theorem add_none {ad : Addr} (h : ad.spot = none) (k : Nat) : ad.add k = ⟨ad.block, ad.off + k, none⟩ := by
  unfold Addr.add
  split
  · rename_i e; subst e; cases ad; simp_all
  · rfl

theorem esOk_len {es : Tys} {n : Nat} {xs : List es.D} (h : esOk mu n (.ro es xs) = true) : es.len = n := Nat.eq_of_beq_eq_true h

theorem op_indexAddr (s : OpSt P C env mu a w g idb) {o : Oper} {t e : Nat} {te : TI} {x z : Operand} (ho : o.op = .indexAddr t x z) {K : TV → List (Nat × Blk) → Option R} {y : R} (hte : elemTI C t = some (e, te)) {cv : CV} (hx : evalTV env x = .c cv)
    {k : IntKind} {n : Int} (hz : evalTV env z = .c (.int k n)) (hes : esOk mu (C.es e).len cv = true) (h : (idxU mu cv n fun p => K (.c p) []) = some y) : o.wp P a w (Done P w g mu a o.dst K y) Q := by
  obtain ⟨ht, hety, hlen, _⟩ := elemTI_ok s.ty hte
  have hsz := run_size (w := w) (hty := s.ty) hety
  have hvx := evalTV_R s.env x
  rw [hx] at hvx
  have hvz := evalTV_R s.env z
  rw [hz] at hvz
  have hvz : a.eval z = .int k n := hvz
  have hel : P.elem t = e := by simp [Program.elem, ht]
  have fin : ∀ (ad : Addr) (len cap : Nat) (p : CV), ad.spot = none → a.eval x = .slice (some ad) len cap → 0 ≤ n ∧ n < len → K (.c p) [] = some y → p.R P w g mu (.pointer (some ⟨ad.block, ad.off + n.toNat * te.size, none⟩)) →
      o.wp P a w (Done P w g mu a o.dst K y) Q := by
    intro ad len cap p hs hv hn hK hp
    refine done_pure s (v := .pointer (some ⟨ad.block, ad.off + n.toNat * te.size, none⟩)) (tv := .c p) ?_ hK hp
    have := run_indexAt_slice (P := P) w t ad len cap k n (by rw [hel]; exact ht)
    simp [execOp, ho, hv, hvz, this, hn, hel, hsz, add_none hs]
  have hget : ∀ {es : Tys} {xs : List es.D} {x : es.D}, getI xs n = some x → getN xs n.toNat = some x ∧ 0 ≤ n ∧ n < xs.length := by
    intro es xs x hg
    unfold getI at hg
    split at hg
    · rename_i h0
      obtain ⟨hlt, _⟩ := List.getElem?_eq_some_iff.1 hg
      exact ⟨hg, h0, by omega⟩
    · cases hg
  cases cv <;> simp only [idxU] at h <;> try (cases h; done)
  case ro es xs =>
    have hl := esOk_len hes
    cases hg : getI xs n with
    | none => simp [hg] at h
    | some x0 =>
      simp only [hg, Option.bind_some] at h
      obtain ⟨hg, h0, h1⟩ := hget hg
      have hvx : (Ty.sl es).H P w g.o .sh .p xs (a.eval x) := hvx
      obtain ⟨ad, c, hv, _, hh⟩ := H_sh.1 hvx
      rcases hh with rfl | ⟨p, rfl, hs, hh⟩
      · simp [getN] at hg
      · refine fin p _ c _ hs hv ⟨h0, h1⟩ h ⟨p.block, p.off + n.toNat * te.size, rfl, ?_⟩
        have := hh _ _ hg
        rwa [hl, hlen] at this
  case own id =>
    obtain ⟨_, hc, _⟩ := hvx
    cases hb : mu id with
    | none => simp [hb] at h
    | some bl =>
      have hbr := s.mem id bl hb
      cases bl <;> simp only [hb] at h <;> try (cases h; done)
      case row es ms xs ver =>
        have hl : es.len = (C.es e).len := by simpa [esOk, hb] using Nat.eq_of_beq_eq_true (by simpa [esOk, hb] using hes)
        cases hg : getI xs n with
        | none => simp [hg] at h
        | some x0 =>
          simp only [hg, Option.bind_some] at h
          obtain ⟨hg, h0, h1⟩ := hget hg
          obtain ⟨v', hc', hr⟩ := hbr
          rw [hc] at hc'
          obtain ⟨ad, c, hv, _, hh⟩ := H_own.1 hr
          rcases hh with ⟨rfl, _⟩ | ⟨p, rfl, hs, _, hh⟩
          · simp [getN] at hg
          · have hv2 : a.eval x = .slice (some p) xs.length c := by cases hc'; exact hv
            refine fin p _ c _ hs.1 hv2 ⟨h0, h1⟩ h ⟨by simp [hb], p, xs.length, c, by rw [hc, hv2], hs.1, ?_⟩
            rw [hl, hlen]; rfl
      case fz es xs =>
        have hl : es.len = (C.es e).len := by simpa [esOk, hb] using Nat.eq_of_beq_eq_true (by simpa [esOk, hb] using hes)
        cases hg : getI xs n with
        | none => simp [hg] at h
        | some x0 =>
          simp only [hg, Option.bind_some] at h
          obtain ⟨hg, h0, h1⟩ := hget hg
          obtain ⟨v', hc', hr⟩ := hbr
          rw [hc] at hc'
          obtain ⟨ad, c, hv, _, hh⟩ := H_sh.1 hr
          rcases hh with rfl | ⟨p, rfl, hs, hh⟩
          · simp [getN] at hg
          · have hv2 : a.eval x = .slice (some p) xs.length c := by cases hc'; exact hv
            refine fin p _ c _ hs hv2 ⟨h0, h1⟩ h ⟨p.block, p.off + n.toNat * te.size, rfl, ?_⟩
            have := hh _ _ hg
            rwa [hl, hlen] at this

/-- A part of a row that is read for good. -/
theorem HSh_sub {o : Nat → Nat → Own} {es : Tys} {xs : List es.D} {ad : Option Addr} {n c l h sz : Nat} (hs : sz = es.len) (hn : n = xs.length) (hh : HSh P w o es xs (.slice ad n c)) (h1 : l ≤ h) (h2 : h ≤ n) :
    HSh P w o es ((xs.drop l).take (h - l)) (.slice (if c = l then ad else ad.map (·.add (l * sz))) (h - l) (c - l)) := by
  obtain ⟨ad', c', he, hlc, hh⟩ := hh
  cases he
  refine ⟨_, c - l, by congr 1; simp; omega, by simp; omega, ?_⟩
  by_cases hcl : c = l
  · left
    have : h - l = 0 := by omega
    simp [this]
  · rw [if_neg hcl]
    rcases hh with rfl | ⟨p, rfl, hsp, hh⟩
    · left; simp
    · right
      refine ⟨p.add (l * sz), rfl, by rw [add_none hsp], fun i x hi => ?_⟩
      rw [add_none hsp]
      have hi' : getN xs (l + i) = some x := by
        unfold getN at hi ⊢
        exact All2.getD_drop_take hi
      have := hh (l + i) x hi'
      rw [hs]
      rwa [Nat.add_mul, ← Nat.add_assoc] at this

def OptR (P : Program) (w : World) (g : Gh) (mu : Mu) : Option TV → Option Value → Prop
  | none, none => True
  | some t, some v => t.R P w g mu v
  | _, _ => False

theorem sb_hi {k : IntKind} {i : Int} {n cap : Nat} {b : Bool} (h0 : 0 ≤ i) (h1 : i ≤ cap) : (Instr.sliceBounds b n cap none (some (.int k i)) none).run P w = .ok (0, i.toNat, cap) w := by
  cases b <;> simp only [Instr.sliceBounds, Sem.run_bind, Sem.run_pure, Result.andThen_ok, if_true, if_false, Bool.false_eq_true, run_sliceBound w k i cap _ h0 h1]
theorem sb_lo {k : IntKind} {i : Int} {n cap : Nat} {b : Bool} (h0 : 0 ≤ i) (h1 : i ≤ n) : (Instr.sliceBounds b n cap (some (.int k i)) none none).run P w = .ok (i.toNat, n, cap) w := by
  simp only [Instr.sliceBounds, Sem.run_bind, Sem.run_pure, Result.andThen_ok, Option.isSome_none, if_false, Bool.false_eq_true, run_sliceBound w k i n _ h0 h1]
theorem sb_all {n cap : Nat} {b : Bool} : (Instr.sliceBounds b n cap none none none).run P w = .ok (0, n, cap) w := by
  simp only [Instr.sliceBounds, Sem.run_bind, Sem.run_pure, Result.andThen_ok]
theorem sb_lh {k k' : IntKind} {i j : Int} {n cap : Nat} {b : Bool} (h0 : 0 ≤ i) (h1 : i ≤ j) (h2 : j ≤ cap) : (Instr.sliceBounds b n cap (some (.int k i)) (some (.int k' j)) none).run P w = .ok (i.toNat, j.toNat, cap) w := by
  have hj : ((j.toNat : Nat) : Int) = j := Int.toNat_of_nonneg (by omega)
  cases b <;> simp only [Instr.sliceBounds, Sem.run_bind, Sem.run_pure, Result.andThen_ok, Option.isSome_none, if_true, if_false, Bool.false_eq_true, run_sliceBound w k' j cap _ (by omega) h2, run_sliceBound w k i j.toNat _ h0 (by omega)]

theorem sliceU_cut {α : Type} {lo hi : Option TV} {vlo vhi : Option Value} (hl : OptR P w g mu lo vlo) (hh : OptR P w g mu hi vhi) {n : Nat} {xs : α} {f : Nat → Nat → α → Option R} {y : R}
    (h : cutU lo hi n xs f = some y) :
    ∃ l h, l ≤ h ∧ h ≤ n ∧ f l h xs = some y ∧ ∀ cap b, n ≤ cap → (Instr.sliceBounds b n cap vlo vhi none).run P w = .ok (l, h, cap) w := by
  unfold cutU at h
  revert hl hh
  split at h
  · intro hl hh
    cases vlo with
    | some _ => exact hl.elim
    | none => cases vhi with
      | some _ => exact hh.elim
      | none => exact ⟨0, n, by omega, by omega, h, fun cap b hc => sb_all⟩
  · rename_i k i
    intro hl hh
    cases vhi with
    | some _ => exact hh.elim
    | none => cases vlo with
      | none => exact hl.elim
      | some v =>
        cases (hl : v = .int k i)
        cases hcut : cutHi i n with
        | false => rw [hcut] at h; cases h
        | true =>
          rw [hcut] at h
          have hcut : 0 ≤ i ∧ i ≤ n := of_decide_eq_true hcut
          exact ⟨i.toNat, n, by omega, by omega, h, fun cap b hc => sb_lo hcut.1 (by omega)⟩
  · rename_i k i
    intro hl hh
    cases vlo with
    | some _ => exact hl.elim
    | none => cases vhi with
      | none => exact hh.elim
      | some v =>
        cases (hh : v = .int k i)
        cases hcut : cutHi i n with
        | false => rw [hcut] at h; cases h
        | true =>
          rw [hcut] at h
          have hcut : 0 ≤ i ∧ i ≤ n := of_decide_eq_true hcut
          exact ⟨0, i.toNat, by omega, by omega, h, fun cap b hc => sb_hi hcut.1 (by omega)⟩
  · rename_i k i k' j
    intro hl hh
    cases vlo with
    | none => exact hl.elim
    | some v => cases vhi with
      | none => exact hh.elim
      | some v' =>
        cases (hl : v = .int k i)
        cases (hh : v' = .int k' j)
        cases hcut : cutLH i j n with
        | false => rw [hcut] at h; cases h
        | true =>
          rw [hcut] at h
          have hcut : 0 ≤ i ∧ i ≤ j ∧ j ≤ n := of_decide_eq_true hcut
          exact ⟨i.toNat, j.toNat, by omega, by omega, h, fun cap b hc => sb_lh hcut.1 hcut.2.1 (by omega)⟩
  · cases h

theorem optR (henv : ∀ t, (env t).R P w g mu (a.tmps.getD t undef)) (lo : Option Operand) : OptR P w g mu (lo.map (evalTV env)) (lo.map a.eval) := by
  cases lo with
  | none => trivial
  | some x => exact evalTV_R henv x

theorem op_slice_str (s : OpSt P C env mu a w g idb) {o : Oper} {t : Nat} {x : Operand} {lo hi : Option Operand} (ho : o.op = .slice t x lo hi none) {K : TV → List (Nat × Blk) → Option R} {y : R} {ti : TI} (ht : C.ty t = some ti) (hk : ti.k = .str)
    {b : ByteArray} (hx : evalTV env x = .c (.str b)) (h : sliceU mu (.str b) (lo.map (evalTV env)) (hi.map (evalTV env)) K = some y) : o.wp P a w (Done P w g mu a o.dst K y) Q := by
  obtain ⟨inf, d, z', h1, h2, _, _, _, _, _, _, hkd, _⟩ := ti_ok (s.ty t ti ht)
  have hd : d = .string := by rw [hk] at hkd; cases d <;> simp [tkOf] at hkd ⊢
  subst hd
  have hvx := evalTV_R s.env x
  rw [hx] at hvx
  have hvx : a.eval x = .string b := hvx
  obtain ⟨l, hh, h3, h4, h5, h6⟩ := sliceU_cut (P := P) (w := w) (g := g) (mu := mu) (n := b.size) (xs := b) (f := fun l h s => K (.c (.str (s.extract l h))) []) (optR s.env lo) (optR s.env hi) h
  refine done_pure s (v := .string (b.extract l hh)) (tv := .c (.str (b.extract l hh))) ?_ h5 rfl
  simp [execOp, ho, hvx, Instr.sliceAt, run_underlying h2, Instr.slice, h6 b.size false (Nat.le_refl _)]

theorem op_slice_row (s : OpSt P C env mu a w g idb) {o : Oper} {t e : Nat} {te : TI} {x : Operand} {lo hi : Option Operand} (ho : o.op = .slice t x lo hi none) {K : TV → List (Nat × Blk) → Option R} {y : R} (hte : elemTI C t = some (e, te)) {cv : CV} (hx : evalTV env x = .c cv)
    (hns : ∀ b, cv ≠ .str b) (hes : esOk mu (C.es e).len cv = true) (h : sliceU mu cv (lo.map (evalTV env)) (hi.map (evalTV env)) K = some y) : o.wp P a w (Done P w g mu a o.dst K y) Q := by
  obtain ⟨ht, hety, hlen, _⟩ := elemTI_ok s.ty hte
  have hsz := run_size (w := w) (hty := s.ty) hety
  have hvx := evalTV_R s.env x
  rw [hx] at hvx
  have run : ∀ (ad : Option Addr) (n c l h : Nat), a.eval x = .slice ad n c → (Instr.sliceBounds true n c (lo.map a.eval) (hi.map a.eval) none).run P w = .ok (l, h, c) w →
      (execOp a.eval o).run P w = .ok (.value (.slice (if c = l then ad else ad.map (·.add (l * te.size))) (h - l) (c - l))) w := by
    intro ad n c l h hv hb
    simp [execOp, ho, hv, Instr.sliceAt, run_underlying ht, Instr.slice, hb, hsz]
  cases cv <;> simp only [sliceU] at h <;> try (cases h; done)
  case str b => exact absurd rfl (hns b)
  case nils =>
    have hvx : a.eval x = .slice none 0 0 := hvx
    obtain ⟨l, hh, h3, h4, h5, h6⟩ := sliceU_cut (P := P) (w := w) (g := g) (mu := mu) (n := 0) (xs := ()) (f := fun _ _ _ => K (.c .nils) []) (optR s.env lo) (optR s.env hi) h
    have hl : l = 0 := by omega
    have hh0 : hh = 0 := by omega
    subst hl; subst hh0
    refine done_pure s (tv := .c .nils) (run _ _ _ _ _ hvx (h6 0 true (Nat.le_refl _))) h5 ?_
    show Value.slice _ _ _ = _
    simp
  case ro es xs =>
    have hl := esOk_len hes
    have hvx : (Ty.sl es).H P w g.o .sh .p xs (a.eval x) := hvx
    obtain ⟨ad, c, hv, hc, hh0⟩ := H_sh.1 hvx
    obtain ⟨l, hh, h3, h4, h5, h6⟩ := sliceU_cut (P := P) (w := w) (g := g) (mu := mu) (n := xs.length) (xs := xs) (f := fun l h xs => K (.c (.ro es ((xs.drop l).take (h - l)))) []) (optR s.env lo) (optR s.env hi) h
    refine done_pure s (tv := .c (.ro es ((xs.drop l).take (hh - l)))) (run _ _ _ _ _ hv (h6 c true hc)) h5 ?_
    exact (H_sh (q := .p)).2 (HSh_sub (by rw [hl, hlen]) rfl ⟨ad, c, rfl, hc, hh0⟩ h3 h4)
  case own id =>
    obtain ⟨_, hc, _⟩ := hvx
    cases hb : mu id with
    | none => simp [hb] at h
    | some bl =>
      have hbr := s.mem id bl hb
      cases bl <;> simp only [hb] at h <;> try (cases h; done)
      case row es ms xs ver =>
        have hl : es.len = (C.es e).len := by simpa [esOk, hb] using Nat.eq_of_beq_eq_true (by simpa [esOk, hb] using hes)
        obtain ⟨l, hh, h3, h4, h5, h6⟩ := sliceU_cut (P := P) (w := w) (g := g) (mu := mu) (n := xs.length) (xs := xs) (f := fun l h ys => K (.c (.ro es ((ys.drop l).take (h - l)))) [(id, .fz es xs)]) (optR s.env lo) (optR s.env hi) h
        obtain ⟨g', hn, hf⟩ := Nxt.freeze s.mem s.wf s.own hb
        obtain ⟨v', hc', hr⟩ := hbr
        have hfz := hf _ hc'
        obtain ⟨ad, c, hv, hcap, hh0⟩ := H_sh.1 hfz
        have hv2 : a.eval x = .slice ad xs.length c := by rw [hc] at hc'; cases hc'; exact hv
        refine wp_val (run _ _ _ _ _ hv2 (h6 c true hcap)) ⟨.c (.ro es ((xs.drop l).take (hh - l))), [(id, .fz es xs)], _, g', rfl, h5, hn, ?_⟩
        exact (H_sh (q := .p)).2 (HSh_sub (by rw [hl, hlen]) rfl ⟨ad, c, rfl, hcap, hh0⟩ h3 h4)
      case fz es xs =>
        have hl : es.len = (C.es e).len := by simpa [esOk, hb] using Nat.eq_of_beq_eq_true (by simpa [esOk, hb] using hes)
        obtain ⟨l, hh, h3, h4, h5, h6⟩ := sliceU_cut (P := P) (w := w) (g := g) (mu := mu) (n := xs.length) (xs := xs) (f := fun l h ys => K (.c (.ro es ((ys.drop l).take (h - l)))) []) (optR s.env lo) (optR s.env hi) h
        obtain ⟨v', hc', hfz⟩ := hbr
        obtain ⟨ad, c, hv, hcap, hh0⟩ := H_sh.1 hfz
        have hv2 : a.eval x = .slice ad xs.length c := by rw [hc] at hc'; cases hc'; exact hv
        refine done_pure s (tv := .c (.ro es ((xs.drop l).take (hh - l)))) (run _ _ _ _ _ hv2 (h6 c true hcap)) h5 ?_
        exact (H_sh (q := .p)).2 (HSh_sub (by rw [hl, hlen]) rfl ⟨ad, c, rfl, hcap, hh0⟩ h3 h4)
end
end Go.Tm

/- The pure machine, 17: stores, new rows. -/
namespace Go.Tm
open Go

theorem fillCV_len : ∀ (vs : List CV) (cs : List CV) (off : Nat), (fillCV cs off vs).length = cs.length
  | [], _, _ => rfl
  | v :: vs, cs, off => by simp only [fillCV]; rw [fillCV_len vs]; simp

theorem fillCV_get : ∀ (vs : List CV) (cs : List CV) (off j : Nat), off + vs.length ≤ cs.length → (fillCV cs off vs)[j]? = if off ≤ j ∧ j < off + vs.length then vs[j - off]? else cs[j]?
  | [], cs, off, j, _ => by
    simp only [fillCV, List.length_nil]
    rw [if_neg (by omega)]
  | v :: vs, cs, off, j, h => by
    simp only [List.length_cons] at h
    simp only [fillCV, List.length_cons]
    rw [fillCV_get vs _ (off + 1) j (by simp; omega)]
    by_cases h1 : off + 1 ≤ j ∧ j < off + 1 + vs.length
    · rw [if_pos h1, if_pos (by omega), show j - off = (j - (off + 1)) + 1 by omega]
      simp
    · rw [if_neg h1]
      by_cases h2 : j = off
      · subst h2
        rw [if_pos (by omega), List.getElem?_set_self (by omega)]
        simp
      · rw [if_neg (by omega), List.getElem?_set_ne (by omega)]

section
variable {P : Program} {C : Ctx} {env : Nat → TV} {mu : Mu} {a : Act} {w w' : World} {g g' : Gh} {idb : Nat} {R : Type} {Q : Exit → Act → World → Prop} {f : Nat → List Nat → Own} {T : Nat → Prop}

theorem set_stp (hw : Wf w g.o) {b0 off : Nat} {vs : List Value} {c' : Nat → Conc} {id0 : Nat} (hT0 : vs ≠ [] → T id0) (hcell : ∀ k, k < vs.length → g.o b0 (off + k) = .o [id0]) {ms : List (Nat × Blk)}
    (hc' : ∀ id, mu id ≠ none → c' id = g.c id) (hT : ∀ id s, ¬ T id → f id s = .o (id :: s))
    (hms : ∀ id, ¬ T id → mu id ≠ none → ∀ b, (id, b) ∉ ms) (hv : ∀ id es ms' xs ver, T id → mu id ≠ none → updL mu ms id = some (.row es ms' xs ver) → ∃ es' ms2 xs' ver', mu id = some (.row es' ms2 xs' ver') ∧ ver' < ver) :
    Stp w g mu (w.setCells b0 off vs) ⟨fun b k => re f (g.o b k), c'⟩ (updL mu ms) T := by
  have hm : Mvd w g (w.setCells b0 off vs) ⟨fun b k => re f (g.o b k), c'⟩ f (fun b k => b = b0 ∧ off ≤ k ∧ k < off + vs.length) := set_mvd hw hcell
  have hnw : ∀ b k, (∀ id s, g.o b k = .o (id :: s) → ¬ T id) → ¬ (b = b0 ∧ off ≤ k ∧ k < off + vs.length) := by
    rintro b k hn ⟨rfl, h6, h7⟩
    have := hcell (k - off) (by omega)
    rw [show off + (k - off) = k by omega] at this
    exact hn _ _ this (hT0 (by intro e; rw [e] at h7; simp at h7; omega))
  refine ⟨fun b k u hu hn => ⟨hm.keep b k u hu (hnw b k hn), ?_⟩, hc', fun id h => updL_some h, fun id h h2 => updL_none fun b hb' => hms id h h2 b hb', hv⟩
  show re f (g.o b k) = _
  cases hq : g.o b k with
  | x => rfl
  | p => rfl
  | o π => cases π with
    | nil => exact absurd hq (hw.ne b k)
    | cons id s => exact hT id s (hn id s hq)

theorem cellish_one {v : Value} (h : Cellish v) : v.oneCell' = true := by cases v <;> first | rfl | exact h.elim

/-- Cells of a box are set. -/
theorem store_box (s : OpSt P C env mu a w g idb) {id : Nat} {cs vs : List CV} (hb : mu id = some (.box cs)) {b base : Nat} (hc : g.c id = .box b base) {off : Nat} {vals : List Value} (hvs : cvsR P w g mu vs vals) (hle : off + vs.length ≤ cs.length) :
    (storeCells ⟨b, base + off, none⟩ vals).run P w = .ok () (w.setCells b (base + off) vals) ∧
      Nxt P w g mu (w.setCells b (base + off) vals) ⟨fun b k => re (fun id s => .o (id :: s)) (g.o b k), g.c⟩ (updL mu [(id, .box (fillCV cs off vs))]) := by
  have hlen := hvs.length
  obtain ⟨b', base', hc', hcs⟩ := s.mem id _ hb
  rw [hc] at hc'; cases hc'
  have hcell : ∀ k, k < vals.length → g.o b (base + off + k) = .o [id] := by
    intro k hk
    obtain ⟨v, _, ho, _⟩ := hcs (off + k) (cs[off + k]'(by omega)) (List.getElem?_eq_getElem (by omega))
    rwa [show base + off + k = base + (off + k) by omega]
  have hex : ∀ k, k < vals.length → ∃ v, w.cell? ⟨b, base + off + k, none⟩ = some v := by
    intro k hk
    obtain ⟨v, hv, ho, _⟩ := hcs (off + k) (cs[off + k]'(by omega)) (List.getElem?_eq_getElem (by omega))
    exact ⟨v, by rwa [show base + off + k = base + (off + k) by omega]⟩
  have hmu : ∀ i, i ≠ id → updL mu [(id, .box (fillCV cs off vs))] i = mu i := fun i h => updL_none fun b hb => h (by simp at hb; exact hb.1)
  have hmi : updL mu [(id, .box (fillCV cs off vs))] id = some (.box (fillCV cs off vs)) := by simp [updL, upd, Nat.beq_refl]
  have hcv : ∀ v ∈ vals, Cellish v := by
    intro v hv
    obtain ⟨i, hi, rfl⟩ := List.getElem_of_mem hv
    have hi' : i < vs.length := by omega
    obtain ⟨u, hu, hr⟩ := All2.get i vs[i] hvs (List.getElem?_eq_getElem hi')
    rw [List.getElem?_eq_getElem hi] at hu
    cases hu
    exact CV.cellish _ hr
  refine ⟨?_, ?_⟩
  · have := run_storeCells_cells (P := P) b (base + off) vals 0 w (fun j hj => by obtain ⟨v, hv⟩ := hex j hj; simp [hv]) (fun j hj => by
      exact (s.wf.cell _ _ _ (hcell j hj)).2 _) (fun v hv => cellish_one (hcv v hv))
    simpa using this
  · have hstp : Stp w g mu (w.setCells b (base + off) vals) ⟨fun b k => re (fun id s => .o (id :: s)) (g.o b k), g.c⟩ (updL mu [(id, .box (fillCV cs off vs))]) (fun i => i = id) :=
      set_stp (T := fun i => i = id) (ms := [(id, .box (fillCV cs off vs))]) (id0 := id) s.wf (fun _ => rfl) hcell (fun _ _ => rfl) (fun _ _ _ => rfl) (fun i h _ b hb => h (by simp at hb; first | exact hb.1 | exact hb.1.symm)) (fun i es ms' xs ver h1 _ h3 => by
        subst h1; rw [hmi] at h3; cases h3)
    refine set_nxt (ms := [(id, .box (fillCV cs off vs))]) (T := fun i => i = id) (id0 := id) s.wf s.own (fun _ => rfl) hcell (fun _ _ => rfl) (fun _ _ _ => rfl) (fun _ _ h => by cases h) (fun i l p l' h1 h2 => ?_) (fun i h _ b hb => h (by simp at hb; first | exact hb.1 | exact hb.1.symm)) (fun i es ms' xs ver h1 _ h3 => by
        subst h1; rw [hmi] at h3; cases h3) (fun i bl h1 h2 => ?_)
    · cases h2; exact updL_some h1
    · by_cases e : i = id
      · subst e
        rw [hmi] at h2
        cases h2
        refine ⟨b, base, hc, fun j cv hj => ?_⟩
        rw [fillCV_get vs cs off j hle] at hj
        by_cases hr : off ≤ j ∧ j < off + vs.length
        · rw [if_pos hr] at hj
          obtain ⟨u, hu, hru⟩ := All2.get _ cv hvs hj
          have hlt : j - off < vals.length := by omega
          rw [List.getElem?_eq_getElem hlt] at hu
          cases hu
          refine ⟨_, ?_, ?_, CV.stp hstp s.wf cv hru⟩
          · have := World.cell?_setCells_in b vals (base + off) w (fun k hk => by obtain ⟨v, hv⟩ := hex k hk; simp [hv]) (j - off) hlt
            rwa [show base + off + (j - off) = base + j by omega] at this
          · have := hcell (j - off) hlt
            rw [show base + off + (j - off) = base + j by omega] at this
            show re _ (g.o b (base + j)) = _
            rw [this]; rfl
        · rw [if_neg hr] at hj
          obtain ⟨v, hv, ho, hrv⟩ := hcs j cv hj
          refine ⟨v, ?_, ?_, CV.stp hstp s.wf cv hrv⟩
          · rw [World.cell?_setCells_out b vals (base + off) w ⟨b, base + j, none⟩ (fun _ _ => by
              show base + j < base + off ∨ base + off + vals.length ≤ base + j
              omega)]
            exact hv
          · show re _ (g.o b (base + j)) = _
            rw [ho]; rfl
      · rw [hmu i e] at h2
        rcases h1 with h1 | h1
        · exact absurd h1 e
        · rw [h1] at h2; cases h2

theorem alloc_H (hw : Wf w g.o) {es : Tys} {ms : List Md} {xs : List es.D} {vals : List Value} {t : TypeId} {v : Value} {cap : Nat} (hcap : xs.length ≤ cap) (hbig : cap ≤ 9223372036854775807) (hv : v = .slice (some ⟨w.heap.size, 0, none⟩) xs.length cap) (hvl : vals.length = cap * es.len)
    (hel : ∀ i x, getN xs i = some x → es.Vs P (w.alloc (.cells vals.toArray t)) (allocG w g idb vals.length f v).o ms (fun j => .o [idb, i, j]) 0 x ((vals.drop (i * es.len)).take es.len)) :
    (Ty.sl es).H P (w.alloc (.cells vals.toArray t)) (allocG w g idb vals.length f v).o (.own ms) (.o [idb]) xs v := by
  refine H_own.2 ⟨_, cap, hv, hcap, .inr ⟨_, rfl, ⟨rfl, hbig⟩, fun k hk => ?_, fun i x hi => ?_⟩⟩
  · show (if w.heap.size = w.heap.size then (if 0 + k < vals.length then Own.o [idb] else .x) else _) = _
    rw [if_pos rfl, if_pos (by omega)]
  · have hlt : i < xs.length := by
      unfold getN at hi
      exact (List.getElem?_eq_some_iff.1 hi).1
    have hmul : (i + 1) * es.len ≤ cap * es.len := Nat.mul_le_mul_right _ (by omega)
    rw [Nat.add_mul] at hmul
    refine Vs_hs es (hel i x hi) fun k u hu => ?_
    have hu' := All2.getD_drop_take hu
    have hk : i * es.len + k < vals.length := (List.getElem?_eq_some_iff.1 hu').1
    refine ⟨?_, ?_⟩
    · show (w.alloc _).cell? ⟨w.heap.size, 0 + i * es.len + k, none⟩ = _
      rw [World.cell?_alloc_new]
      simpa [Nat.zero_add] using hu'
    · show (if w.heap.size = w.heap.size then (if 0 + i * es.len + k < vals.length then Own.o [idb] else .x) else _) = _
      rw [if_pos rfl, if_pos (by omega)]
end
end Go.Tm

/- The pure machine, 18: literals and made rows. -/
namespace Go.Tm
open Go

section
variable {P : Program} {C : Ctx} {env : Nat → TV} {mu mu' : Mu} {a : Act} {w w' : World} {g g' : Gh} {o' : Nat → Nat → Own} {idb : Nat} {R : Type} {Q : Exit → Act → World → Prop}

theorem Vs_shift {o : Nat → Nat → Own} : ∀ (ts : Tys) {ms : List Md} {qf qf' : Nat → Own} {j j' : Nat} {x : ts.D} {vs : List Value}, (∀ n, n < ts.len → qf (j + n) = qf' (j' + n)) → ts.Vs P w o ms qf j x vs → ts.Vs P w o ms qf' j' x vs
  | .nil, _, _, _, _, _, _, _, _, h => h
  | .cons t ts, ms, qf, qf', j, j', x, vs, hq, h => by
    obtain ⟨v, r, e, h1, h2⟩ := h
    have h0 := hq 0 (by simp [Tys.len])
    simp only [Nat.add_zero] at h0
    refine ⟨v, r, e, by rw [← h0]; exact h1, Vs_shift ts (fun n hn => ?_) h2⟩
    have := hq (n + 1) (by simp [Tys.len, hn])
    rwa [show j + (n + 1) = j + 1 + n by omega, show j' + (n + 1) = j' + 1 + n by omega] at this

theorem litElems_ok (hm : MemR P w g mu) (hw : Wf w g.o) (dest : Nat → Own) {es : Tys} {ms : List Md} : ∀ (parts : List (Nat × TV)) (i : Nat) {us : List Use} {vals : List Value} (_ : All2 (fun p v => TV.R P w g mu p.2 v) parts vals)
    {K : List es.D → List Use → Option R} {y : R} (_ : litElems mu es ms parts i us K = some y), ∃ xs new, K xs (new ++ us) = some y ∧ xs.length = parts.length ∧ (∀ k p, parts[k]? = some p → p.1 = i + k) ∧
      (∀ v ∈ vals, v.cells.size = es.len) ∧ ∀ w' o', PermKeep w g.o w' o' → (∀ u ∈ new, Served dest w g.o w' o' u) → ∀ k x v, xs[k]? = some x → vals[k]? = some v → es.Vs P w' o' ms dest (64 * (i + k)) x v.cells.toList
  | [], i, us, [], _, K, y, h => ⟨[], [], h, rfl, by simp, by simp, by simp⟩
  | [], _, _, _ :: _, h, _, _, _ => h.elim
  | _ :: _, _, _, [], h, _, _, _ => h.elim
  | p :: parts, i, us, v :: vals, hv, K, y, h => by
    simp only [litElems] at h
    cases hi : Nat.beq p.1 i with
    | false => simp [hi] at h
    | true =>
      simp only [hi, cond_true] at h
      have hi := Nat.eq_of_beq_eq_true hi
      cases hc : cellsOf p.2 with
      | none => simp [hc] at h
      | some cvs =>
        simp only [hc] at h
        obtain ⟨x, rest, new, vs1, vs2, h, hspl, hrest, hlen, hx⟩ := packs_ok hm hw dest (app0_ok (P := P) (w := w) (g := g) (mu := mu)) es (cellsOf_R hc hv.1) h
        cases rest with
        | cons _ _ => cases h
        | nil =>
          cases vs2 with
          | cons _ _ => exact hrest.elim
          | nil =>
            simp only [List.append_nil] at hspl
            obtain ⟨xs, new', h, h1, h2, h3, h4⟩ := litElems_ok hm hw dest parts (i + 1) hv.2 h
            refine ⟨x :: xs, new' ++ new, by rw [List.append_assoc]; exact h, by simp [h1], fun k q hk => ?_, fun u hu => ?_, fun w' o' hp hs k z u hk hu => ?_⟩
            · cases k with
              | zero => simp at hk; subst hk; simpa using hi
              | succ k => have := h2 k q (by simpa using hk); omega
            · rcases List.mem_cons.1 hu with rfl | hu
              · rw [← Array.length_toList, hspl, hlen]
              · exact h3 u hu
            · cases k with
              | zero =>
                simp at hk hu; subst hk; subst hu
                rw [hspl]; exact hx w' o' hp fun u hu => hs u (by simp [hu])
              | succ k =>
                have := h4 w' o' hp (fun u hu => hs u (by simp [hu])) k z u (by simpa using hk) (by simpa using hu)
                rwa [show i + 1 + k = i + (k + 1) by omega] at this

theorem findU_some {id : Nat} : ∀ {us : List Use} {u : Use}, u ∈ us → useId u = id → findU id us ≠ none
  | x :: r, u, hu, hi => by
    simp only [findU]
    split
    · simp
    · rename_i hx
      rcases List.mem_cons.1 hu with rfl | hu
      · exact absurd hi hx
      · exact findU_some hu hi

/-- What is lent for good stays readable; what is moved is gone. -/
theorem fz_blk {Wr : Nat → Nat → Prop} {us : List Use} {destL : Nat → List Nat} (hm : MemR P w g mu) (hw : Wf w g.o) (hu : usesOk us = true) (hmv : Mvd w g w' g' (useF us destL) Wr) (hwr : ∀ b k, Wr b k → ∀ id s, Use.pm id ∈ us → g.o b k ≠ .o (id :: s))
    (hc : ∀ id, mu id ≠ none → g'.c id = g.c id) {id : Nat} {b : Blk} (h : (id, b) ∈ fzs mu us ∨ (Use.pm id ∈ us ∧ (∀ b', (id, b') ∉ fzs mu us) ∧ mu id = some b)) : b.R P w' g' mu' id := by
  rcases h with h | ⟨hpm, hn, hb⟩
  · rcases fzs_mem h with ⟨rfl, _⟩ | ⟨hpm, ⟨es, ms, xs, ver, hr, rfl⟩ | ⟨rfl, _⟩⟩
    · trivial
    · obtain ⟨v, hcv, hh⟩ := hm _ _ hr
      refine ⟨v, (hc id (by simp [hr])).trans hcv, ?_⟩
      have hrl : Rl w g.o w' g'.o (.o [id]) .p := hmv.rl (l := []) (by simp) (fun s => by simp [useF_pm hu hpm, ext]) (fun b k hb s => by simpa using hwr b k hb id s hpm)
      exact H_q _ (H_md _ _ _ _ _ (H_re hmv.perm hw (.sl es) (.own ms) _ .p xs v hrl hh))
    · trivial
  · have hbr := hm _ _ hb
    cases b with
    | row es ms xs ver =>
      obtain ⟨b', h'⟩ := fzs_of_pm hpm _ hb (.inl ⟨_, _, _, _, rfl⟩)
      exact absurd h' (hn b')
    | box cs =>
      obtain ⟨b', h'⟩ := fzs_of_pm hpm _ hb (.inr ⟨_, rfl⟩)
      exact absurd h' (hn b')
    | rbox es x =>
      obtain ⟨b, base, hcb, hr⟩ := hbr
      exact ⟨b, base, (hc id (by simp [hb])).trans hcb, Hs_re hmv.perm hw es [] .p .p (fun _ => .p) (fun _ => .p) 0 x b base rfl (fun _ => rfl) hr⟩
    | fz es xs =>
      obtain ⟨v, hcv, hr⟩ := hbr
      exact ⟨v, (hc id (by simp [hb])).trans hcv, H_re hmv.perm hw (.sl es) .sh .p .p xs v rfl hr⟩
    | dead => trivial

/-- A new row out of things that are moved or lent. -/
theorem row_nxt (hm : MemR P w g mu) (hw : Wf w g.o) (hown : ∀ b k id s, g.o b k = .o (id :: s) → mu id ≠ none) (hidb : mu idb = none) {us : List Use} (hu : usesOk us = true) {es : Tys} {ms : List Md} {xs : List es.D} {vals : List Value} {t : TypeId}
    {destL : Nat → List Nat} (hd : ∀ to, ∃ l, destL to = idb :: l) {v : Value}
    (hH : (∀ u ∈ us, Served (fun to => .o (destL to)) w g.o (w.alloc (.cells vals.toArray t)) (allocG w g idb vals.length (useF us destL) v).o u) → PermKeep w g.o (w.alloc (.cells vals.toArray t)) (allocG w g idb vals.length (useF us destL) v).o →
      (Ty.sl es).H P (w.alloc (.cells vals.toArray t)) (allocG w g idb vals.length (useF us destL) v).o (.own ms) (.o [idb]) xs v) :
    Nxt P w g mu (w.alloc (.cells vals.toArray t)) (allocG w g idb vals.length (useF us destL) v) (updL mu (fzs mu us ++ [(idb, .row es ms xs 0)])) ∧
      (CV.own idb).R P (w.alloc (.cells vals.toArray t)) (allocG w g idb vals.length (useF us destL) v) (updL mu (fzs mu us ++ [(idb, .row es ms xs 0)])) v := by
  have hmv : Mvd w g (w.alloc (.cells vals.toArray t)) (allocG w g idb vals.length (useF us destL) v) (useF us destL) (fun _ _ => False) := alloc_mvd
  have hsv : ∀ u ∈ us, Served (fun to => .o (destL to)) w g.o (w.alloc (.cells vals.toArray t)) (allocG w g idb vals.length (useF us destL) v).o u := by
    intro u hmem
    cases u with
    | mv id to => exact hmv.rl (l := []) (by simp) (fun s => by simp [useF_mv hu hmem, ext]) (fun _ _ h => h.elim)
    | pm id => exact hmv.rl (l := []) (by simp) (fun s => by simp [useF_pm hu hmem, ext]) (fun _ _ h => h.elim)
  have hH := hH hsv hmv.perm
  have hc : ∀ id, mu id ≠ none → (allocG w g idb vals.length (useF us destL) v).c id = g.c id := by
    intro id h
    show (if id = idb then _ else _) = _
    rw [if_neg (fun (e : id = idb) => h (e ▸ hidb))]
  have hci : (allocG w g idb vals.length (useF us destL) v).c idb = .row v := by show (if idb = idb then _ else _) = _; simp
  have hmi : updL mu (fzs mu us ++ [(idb, .row es ms xs 0)]) idb ≠ none := updL_mem (b := .row es ms xs 0) (by simp)
  refine ⟨alloc_nxt (T := fun id => ∃ u ∈ us, useId u = id) hw hown hidb (fun id s hT => ?_) (fun id s => ?_) (fun id s p l h1 h2 => ?_) hmi (fun id hT h1 b hb => ?_) (fun id es' ms' xs' ver hT h1 h2 => ?_) (fun id b h1 h2 => ?_), ⟨hmi, hci, ?_⟩⟩
  · have : findU id us = none := by
      cases hf : findU id us with
      | none => rfl
      | some u => obtain ⟨h1, h2⟩ := findU_id hf; exact absurd ⟨u, h2, h1⟩ hT
    simp [useF, this]
  · unfold useF
    split
    · rename_i to _
      obtain ⟨l, e⟩ := hd to
      rw [e]; simp
    · simp
    · simp
  · unfold useF at h2
    split at h2
    · rename_i to _
      obtain ⟨l', e⟩ := hd to
      rw [e] at h2
      cases h2
      exact hmi
    · cases h2
    · cases h2; exact updL_some h1
  · rcases List.mem_append.1 hb with hb | hb
    · rcases fzs_mem hb with ⟨_, to, h⟩ | ⟨h, _⟩
      · exact hT ⟨_, h, rfl⟩
      · exact hT ⟨_, h, rfl⟩
    · simp at hb; rw [hb.1] at h1; exact h1 hidb
  · rcases updL_cases h2 with h2 | ⟨hn, h2⟩
    · rcases List.mem_append.1 h2 with h2 | h2
      · rcases fzs_mem h2 with ⟨h, _⟩ | ⟨_, ⟨_, _, _, _, _, h⟩ | ⟨h, _⟩⟩ <;> cases h
      · simp at h2; rw [h2.1] at h1; exact h1 hidb
    · obtain ⟨u, hu1, hu2⟩ := hT
      cases u with
      | mv i to => cases hu2; exact hn _ (List.mem_append_left _ (fzs_of_mv hu1))
      | pm i =>
        cases hu2
        obtain ⟨b', h'⟩ := fzs_of_pm hu1 _ h2 (.inl ⟨_, _, _, _, rfl⟩)
        exact hn _ (List.mem_append_left _ h')
  · rcases updL_cases h2 with h2 | ⟨hn, h2⟩
    · rcases List.mem_append.1 h2 with h2 | h2
      · exact fz_blk hm hw hu hmv (fun _ _ h => h.elim) hc (.inl h2)
      · simp at h2
        obtain ⟨rfl, rfl⟩ := h2
        exact ⟨v, hci, hH⟩
    · rcases h1 with ⟨u, hu1, hu2⟩ | h1
      · cases u with
        | mv i to => cases hu2; exact absurd (List.mem_append_left _ (fzs_of_mv hu1)) (hn _)
        | pm i => cases hu2; exact fz_blk hm hw hu hmv (fun _ _ h => h.elim) hc (.inr ⟨hu1, fun b' hb' => hn b' (List.mem_append_left _ hb'), h2⟩)
      · rw [h1] at h2; cases h2
  · obtain ⟨ad, c, hv, _⟩ := H_own.1 hH
    exact ⟨ad, _, c, hv⟩

theorem partsR (henv : ∀ t, (env t).R P w g mu (a.tmps.getD t undef)) : ∀ (ps : List (Nat × Operand)), All2 (fun p v => TV.R P w g mu p.2 v) (ps.map fun p => (p.1, evalTV env p.2)) (ps.map fun p => a.eval p.2)
  | [] => trivial
  | p :: ps => ⟨evalTV_R henv p.2, partsR henv ps⟩

theorem parts_zip {α : Type} (fn : Operand → α) : ∀ (ps : List (Nat × Operand)) (i : Nat), (∀ k p, ps[k]? = some p → p.1 = i + k) → ps.map (fun p => (p.1, fn p.2)) = ((ps.map fun p => fn p.2).zipIdx i).map fun x => (x.2, x.1)
  | [], _, _ => rfl
  | p :: ps, i, h => by
    have h0 := h 0 p rfl
    simp only [List.map_cons, List.zipIdx_cons, Nat.add_zero] at h0 ⊢
    rw [parts_zip fn ps (i + 1) fun k q hk => by have := h (k + 1) q (by simpa using hk); omega, h0]

theorem flat_take {n : Nat} : ∀ (vs : List Value), (∀ v ∈ vs, v.cells.size = n) → ∀ k v, vs[k]? = some v → ((vs.flatMap fun v => v.cells.toList).drop (k * n)).take n = v.cells.toList
  | [], _, k, v, h => by simp at h
  | u :: vs, hs, 0, v, h => by
    simp at h; subst h
    have hl : u.cells.toList.length = n := by simpa using hs u (by simp)
    simp only [Nat.zero_mul, List.drop_zero, List.flatMap_cons]
    rw [← hl, List.take_left]
  | u :: vs, hs, k + 1, v, h => by
    have hl : u.cells.toList.length = n := by simpa using hs u (by simp)
    rw [List.flatMap_cons, Nat.add_mul, Nat.one_mul, List.drop_append, List.drop_eq_nil_of_le (by omega), List.nil_append, show k * n + n - u.cells.toList.length = k * n by omega]
    exact flat_take vs (fun x hx => hs x (by simp [hx])) k v (by simpa using h)

theorem flat_len {n : Nat} : ∀ (vs : List Value), (∀ v ∈ vs, v.cells.size = n) → (vs.flatMap fun v => v.cells.toList).length = vs.length * n
  | [], _ => by simp
  | u :: vs, hs => by
    have hl : u.cells.toList.length = n := by simpa using hs u (by simp)
    rw [List.flatMap_cons, List.length_append, hl, flat_len vs fun x hx => hs x (by simp [hx]), List.length_cons, Nat.add_mul]
    omega

theorem op_buildSlice (s : OpSt P C env mu a w g idb) {o : Oper} {t e len : Nat} {te : TI} {parts : Array (Nat × Operand)} (ho : o.op = .buildSlice t len parts) {K : TV → List (Nat × Blk) → Option R} {y : R} (hte : elemTI C t = some (e, te)) {ms : List Md}
    (h : (bif Nat.ble (len * te.size) 16777216 && Nat.beq parts.size len && Nat.blt 0 te.size && Nat.ble te.size 62 then litElems mu (C.es e) ms (parts.toList.map fun p => (p.1, evalTV env p.2)) 0 [] fun xs us =>
        bif usesOk us then K (.c (.own idb)) (fzs mu us ++ [(idb, .row (C.es e) ms xs 0)]) else none
      else none) = some y) : o.wp P a w (Done P w g mu a o.dst K y) Q := by
  obtain ⟨ht, hety, hlen, _⟩ := elemTI_ok s.ty hte
  obtain ⟨inf, d, z, h1, h2, h3, h4, harr, h6, h7, _⟩ := ti_ok (s.ty e te hety)
  cases hc : (Nat.ble (len * te.size) 16777216 && Nat.beq parts.size len && Nat.blt 0 te.size && Nat.ble te.size 62) with
  | false => rw [hc] at h; cases h
  | true =>
    rw [hc, cond_true] at h
    simp only [Bool.and_eq_true] at hc
    have c1 := Nat.le_of_ble_eq_true hc.1.1.1
    have c2 := Nat.eq_of_beq_eq_true hc.1.1.2
    have c3 : 0 < te.size := by have := hc.1.2; simpa [Nat.blt_eq] using this
    have c4 := Nat.le_of_ble_eq_true hc.2
    let destL : Nat → List Nat := fun to => [idb, to / 64, to % 64]
    obtain ⟨xs, us, h, hl, hidx, hsz, hel⟩ := litElems_ok s.mem s.wf (fun to => .o (destL to)) _ 0 (partsR s.env parts.toList) h
    simp only [List.append_nil] at h
    cases hu : usesOk us with
    | false => simp [hu] at h
    | true =>
      simp only [hu, cond_true] at h
      let vs : List Value := parts.toList.map fun p => a.eval p.2
      let vals : List Value := vs.flatMap fun v => v.cells.toList
      have hvsl : vs.length = len := by simp [vs, c2]
      have hxl : xs.length = len := by rw [hl]; simp [c2]
      have hvl : vals.length = xs.length * (C.es e).len := by rw [flat_len vs hsz, hvsl, hxl]
      have hrun : (Instr.buildSlice t len (parts.map fun p => (p.1, a.eval p.2))).run P w = .ok (.slice (some ⟨w.heap.size, 0, none⟩) len len) (w.alloc (.cells vals.toArray e)) := by
        by_cases hz0 : len = 0
        · have hp : parts = #[] := Array.eq_empty_of_size_eq_zero (by rw [c2, hz0])
          subst hz0
          subst hp
          have hv0 : vals.toArray = #[] := rfl
          rw [hv0]
          simp [Instr.buildSlice, run_underlying ht, sizeOf, run_typeInfo w h1, Instr.fill, newRow, Array.range_zero']
        · refine run_buildSlice w t e len _ _ inf z ht h1 h3 (by rw [← h7]; omega) (by rw [← h7]; have := Nat.mul_pos (Nat.pos_of_ne_zero hz0) c3; omega) ?_
          rw [Array.toList_map, parts_zip a.eval parts.toList 0 (fun k p hk => by
            have := hidx k (p.1, evalTV env p.2) (by rw [List.getElem?_map, hk]; rfl)
            exact this), ← h7]
          exact Great.fill_whole c3 vs _ (fun v hv => by rw [hsz v hv, hlen]) (by simp [hvsl])
      have hnx := row_nxt (P := P) (w := w) (g := g) (mu := mu) (idb := idb) s.mem s.wf s.own (s.fresh idb (Nat.le_refl _) (by omega)) hu (es := C.es e) (ms := ms) (xs := xs) (vals := vals) (t := e) (destL := destL) (fun to => ⟨_, rfl⟩)
        (v := .slice (some ⟨w.heap.size, 0, none⟩) len len) (fun hs hp => alloc_H s.wf (Nat.le_refl _) (by rw [hxl]; have := Nat.le_mul_of_pos_right len c3; omega) (by rw [hxl]) hvl fun i x hi => by
          have hlt : i < vs.length := by
            have := (List.getElem?_eq_some_iff.1 hi).1
            omega
          have hv := List.getElem?_eq_getElem hlt
          have := hel _ _ hp hs i x vs[i] hi hv
          rw [flat_take vs hsz i _ hv]
          refine Vs_shift (C.es e) (fun n hn => ?_) this
          show Own.o [idb, (64 * (0 + i) + n) / 64, (64 * (0 + i) + n) % 64] = .o [idb, i, 0 + n]
          rw [show (64 * (0 + i) + n) / 64 = i by omega, show (64 * (0 + i) + n) % 64 = 0 + n by omega])
      refine wp_val (v := .slice (some ⟨w.heap.size, 0, none⟩) len len) ?_ ⟨.c (.own idb), _, _, _, rfl, h, hnx.1, hnx.2⟩
      simp only [execOp, ho, Sem.run_bind]
      rw [hrun]
      rfl

theorem flat_rep {n : Nat} {vs : List Value} (hs : vs.length = n) : ∀ k, (List.replicate k vs).flatten.length = k * n
  | 0 => by simp
  | k + 1 => by rw [List.replicate_succ, List.flatten_cons, List.length_append, hs, flat_rep hs k, Nat.add_mul]; omega
end
end Go.Tm

/- The pure machine, 19: struct literals, made rows, conversions, stores. -/
namespace Go.Tm
open Go

theorem All2.ofGet {α β : Type} {R : α → β → Prop} : ∀ {x : List α} {y : List β}, x.length = y.length → (∀ (k : Nat) (a : α) (b : β), x[k]? = some a → y[k]? = some b → R a b) → All2 R x y
  | [], [], _, _ => trivial
  | a :: x, b :: y, hl, h => ⟨h 0 a b rfl rfl, All2.ofGet (by simpa using hl) fun k a b ha hb => h (k + 1) a b (by simpa using ha) (by simpa using hb)⟩
  | [], _ :: _, hl, _ => by simp at hl
  | _ :: _, [], hl, _ => by simp at hl

section
variable {P : Program} {C : Ctx} {env : Nat → TV} {mu mu' : Mu} {a : Act} {w w' : World} {g g' : Gh} {o' : Nat → Nat → Own} {idb : Nat} {R : Type} {Q : Exit → Act → World → Prop}

theorem fill_build (flds : List (Nat × Nat)) : ∀ (ps : List (Nat × TV)) (vs : List (Nat × Value)) (cs cs' : List CV) (cells : Array Value), All2 (fun p v => p.1 = v.1 ∧ TV.R P w g mu p.2 v.2) ps vs → buildCV flds ps cs = some cs' → cvsR P w g mu cs cells.toList →
    ∃ r, Instr.fill (flds.toArray[·]?) cells vs = some r ∧ cvsR P w g mu cs' r.toList
  | [], [], cs, cs', cells, _, h, hc => by
    simp only [buildCV, Option.some.injEq] at h
    subst h
    exact ⟨cells, rfl, hc⟩
  | [], _ :: _, _, _, _, h, _, _ => h.elim
  | _ :: _, [], _, _, _, h, _, _ => h.elim
  | (i, tv) :: ps, (i', v) :: vs, cs, cs', cells, hp, h, hc => by
    obtain ⟨⟨e, hv⟩, hp⟩ := hp
    have e : i = i' := e
    subst e
    simp only [buildCV] at h
    cases hf : flds[i]? with
    | none => simp [hf] at h
    | some p =>
      obtain ⟨off, n⟩ := p
      cases hcs : cellsOf tv with
      | none => simp [hf, hcs] at h
      | some ws =>
        simp only [hf, hcs] at h
        cases hcond : (Nat.beq ws.length n && Nat.ble (off + n) cs.length) with
        | false => simp [hcond] at h
        | true =>
          simp only [hcond, cond_true] at h
          simp only [Bool.and_eq_true] at hcond
          have c1 := Nat.eq_of_beq_eq_true hcond.1
          have c2 := Nat.le_of_ble_eq_true hcond.2
          have hw := cellsOf_R hcs hv
          have hwl := hw.length
          have hcl := hc.length
          simp only [Array.length_toList] at hwl hcl
          obtain ⟨g1, g2⟩ := Great.foldl_set off v.cells.toList 0 cells
          obtain ⟨r, hr, hrr⟩ := fill_build flds ps vs _ cs' ((v.cells.toList.zipIdx 0).foldl (fun cs (x : Value × Nat) => cs.setIfInBounds (off + x.2) x.1) cells) hp h (All2.ofGet (by rw [fillCV_len]; simp [g1, hcl]) fun k c u hk hu => by
            rw [fillCV_get ws cs off k (by omega)] at hk
            have hu : ((v.cells.toList.zipIdx 0).foldl (fun cs (x : Value × Nat) => cs.setIfInBounds (off + x.2) x.1) cells)[k]? = some u := by simpa using hu
            rw [g2 k] at hu
            simp only [Nat.add_zero, Array.length_toList] at hu
            by_cases hin : off ≤ k ∧ k < off + ws.length
            · rw [if_pos hin] at hk
              rw [if_pos ⟨hin.1, by omega, by omega⟩] at hu
              obtain ⟨u', hu', hr⟩ := All2.get _ c hw hk
              rw [hu] at hu'; cases hu'; exact hr
            · rw [if_neg hin] at hk
              rw [if_neg (fun hh => hin ⟨hh.1, by omega⟩)] at hu
              obtain ⟨u', hu', hr⟩ := All2.get _ c hc hk
              have : cells.toList[k]? = some u := by simpa using hu
              rw [this] at hu'; cases hu'; exact hr)
          refine ⟨r, ?_, hrr⟩
          rw [← hr]
          conv => lhs; unfold Instr.fill
          simp only [List.getElem?_toArray, hf]
          rw [if_neg (by simp; omega)]
          rw [← Array.foldl_toList, Array.toList_zipIdx]

theorem places_eq : ∀ (fs : List Field), (∀ f ∈ fs, (P.info? f.type).isSome = true ∧ (P.underlying f.type).isSome = true) →
    fs.mapM (fun f => (P.info? f.type).map fun i => (f.offset, i.size)) = some (fs.map fun f => (f.offset, ((P.info? f.type).map (·.size)).getD 0))
  | [], _ => rfl
  | f :: fs, h => by
    obtain ⟨i, hi⟩ := Option.isSome_iff_exists.1 (h f (by simp)).1
    simp [List.mapM_cons, hi, places_eq fs fun f hf => h f (by simp [hf])]

theorem partsR2 (henv : ∀ t, (env t).R P w g mu (a.tmps.getD t undef)) : ∀ (ps : List (Nat × Operand)), All2 (fun p v => p.1 = v.1 ∧ TV.R P w g mu p.2 v.2) (ps.map fun p => (p.1, evalTV env p.2)) (ps.map fun p => (p.1, a.eval p.2))
  | [] => trivial
  | p :: ps => ⟨⟨rfl, evalTV_R henv p.2⟩, partsR2 henv ps⟩

theorem op_build (s : OpSt P C env mu a w g idb) {o : Oper} {t : Nat} {parts : Array (Nat × Operand)} (ho : o.op = .build t parts) {K : TV → List (Nat × Blk) → Option R} {y : R} {ti : TI} (ht : C.ty t = some ti) (hk : ti.k = .struct) {cs : List CV}
    (hb : buildCV ti.flds (parts.toList.map fun p => (p.1, evalTV env p.2)) ti.zero = some cs) (h : K (.agg cs) [] = some y) : o.wp P a w (Done P w g mu a o.dst K y) Q := by
  obtain ⟨inf, d, z, h1, h2, h3, h4, harr, h6, h7, h8, h9, h10, h11⟩ := ti_ok (s.ty t ti ht)
  rcases h11 with ⟨fs, rfl, hfs, hfl, _⟩ | ⟨hns, _⟩
  · obtain ⟨r, hr, hrr⟩ := fill_build ti.flds _ _ _ cs z.cells (partsR2 s.env parts.toList) hb (by rw [h10]; exact constCVs_R h4)
    have hbt : P.built t (parts.map fun p => (p.1, a.eval p.2)).toList = some r := by
      unfold Program.built
      simp only [h1, h2, h3, places_eq fs.toList hfs]
      rw [← hfl, Array.toList_map]
      exact hr
    refine done_pure s (v := .agg r) (tv := .agg cs) ?_ h ⟨r, rfl, hrr⟩
    have := run_build (P := P) w t _ r hbt
    simp only [execOp, ho, Sem.run_bind]
    rw [this]
    rfl
  · rw [hk] at h9
    obtain ⟨fs, rfl⟩ := struct_iff.1 h9.symm
    exact absurd rfl (hns fs)

theorem op_store_box (s : OpSt P C env mu a w g idb) {o : Oper} {t : Nat} {x v : Operand} (ho : o.op = .store t x v) {K : TV → List (Nat × Blk) → Option R} {y : R} {ti : TI} (ht : C.ty t = some ti) {id off : Nat} (hx : evalTV env x = .c (.ptr id off)) {vs cs : List CV}
    (hv : cellsOf (evalTV env v) = some vs) (hlen : vs.length = ti.size) (hb : mu id = some (.box cs)) (hle : off + vs.length ≤ cs.length) (h : K .und [(id, .box (fillCV cs off vs))] = some y) : o.wp P a w (Done P w g mu a o.dst K y) Q := by
  obtain ⟨inf, d, z, h1, h2, h3, h4, harr, h6, h7, _⟩ := ti_ok (s.ty t ti ht)
  have hvx := evalTV_R s.env x
  rw [hx] at hvx
  obtain ⟨_, b, base, hc, hvx⟩ := hvx
  have hr := cellsOf_R hv (evalTV_R s.env v)
  obtain ⟨hrun, hn⟩ := store_box s hb hc hr hle
  have hsz : (a.eval v).cells.size = inf.size := by
    have := hr.length
    simp only [Array.length_toList] at this
    omega
  have hrun' : (execOp a.eval o).run P w = .ok .skip (w.setCells b (base + off) (a.eval v).cells.toList) := by
    simp only [execOp, ho, Instr.storeAt, hvx, Instr.sureAddr, storeVar, Sem.run_bind, Sem.run_pure, Result.andThen_ok, sizeOf, run_typeInfo w h1, hsz, ne_eq, not_true_eq_false, if_false, hrun]
  unfold Oper.wp
  rw [hrun']
  exact ⟨.und, _, undef, _, rfl, h, hn, rfl⟩
end
end Go.Tm

/- The pure machine, 20: what append runs to. -/
namespace Go.Tm
open Go

section
variable {P : Program} {w : World}

/-- There is room. -/
theorem run_append_in {t t2 ty e : TypeId} {i : TypeInfo} (ht : P.underlying t = some (.slice e)) {d2 : TypeDesc} (ht2 : P.underlying t2 = some d2) (hd2 : (∃ e2, d2 = .slice e2) ∨ d2 = .string) (hi : P.info? e = some i)
    {ad : Addr} {n c m : Nat} {x : Value} {news : List Value} (hl : (Builtin.lenOf x).run P w = .ok m w) (hf : (Builtin.firstCells i.size m x).run P w = .ok news.toArray w) (hroom : n + m ≤ c) (hs : ad.spot = none)
    {w' : World} (hst : (storeCells ⟨ad.block, ad.off + n * i.size, none⟩ news).run P w = .ok () w') :
    (Builtin.append_ #[t, t2] ty #[.slice (some ad) n c, x]).run P w = .ok (.slice (some ad) (n + m) c) w' := by
  rcases hd2 with ⟨e2, rfl⟩ | rfl <;>
    simp [Builtin.append_, run_underlying ht, run_underlying ht2, sizeOf, typeInfo, hi, hl, hroom, hf, add_none hs, hst]

/-- Nothing to nothing. -/
theorem run_append_none {t t2 ty e : TypeId} {i : TypeInfo} (ht : P.underlying t = some (.slice e)) {d2 : TypeDesc} (ht2 : P.underlying t2 = some d2) (hd2 : (∃ e2, d2 = .slice e2) ∨ d2 = .string) (hi : P.info? e = some i)
    {x : Value} {news : List Value} {c : Nat} (hl : (Builtin.lenOf x).run P w = .ok 0 w) (hf : (Builtin.firstCells i.size 0 x).run P w = .ok news.toArray w) :
    (Builtin.append_ #[t, t2] ty #[.slice none 0 c, x]).run P w = .ok (.slice none 0 c) w := by
  rcases hd2 with ⟨e2, rfl⟩ | rfl <;>
    simp [Builtin.append_, run_underlying ht, run_underlying ht2, sizeOf, typeInfo, hi, hl, hf]

/-- The row grows. -/
theorem run_append_out {t t2 ty e : TypeId} {i : TypeInfo} {z : Value} (ht : P.underlying t = some (.slice e)) {d2 : TypeDesc} (ht2 : P.underlying t2 = some d2) (hd2 : (∃ e2, d2 = .slice e2) ∨ d2 = .string) (hi : P.info? e = some i) (hz : i.zero = some z)
    {sa : Option Addr} {n c m : Nat} {x : Value} {olds news : List Value} (ho : (Builtin.firstCells i.size n (.slice sa n c)).run P w.drew = .ok olds.toArray w.drew) (hl : (Builtin.lenOf x).run P w = .ok m w)
    (hf : (Builtin.firstCells i.size m x).run P w.drew = .ok news.toArray w.drew) (hroom : c < n + m) (h63 : ((n + m : Nat) : Int) ≤ 9223372036854775807) (hfit : Builtin.nextslicecap (n + m) c * i.bytes ≤ 281474976710656) :
    (Builtin.append_ #[t, t2] ty #[.slice sa n c, x]).run P w =
      .ok (.slice (some ⟨w.heap.size, 0, none⟩) (n + m) (grownCap w (n + m) c e)) (w.drew.alloc (.cells (olds.toArray ++ (news.toArray ++ Builtin.zeroCells z.cells (grownCap w (n + m) c e - (n + m)))) e)) := by
  have hr : ¬ n + m ≤ c := by omega
  have h63' : ¬ (9223372036854775807 < ((n : Int) + (m : Int))) := by omega
  have hfit' : ¬ (281474976710656 < Builtin.nextslicecap (n + m) c * i.bytes) := by omega
  rcases hd2 with ⟨e2, rfl⟩ | rfl <;>
    simp [Builtin.append_, run_underlying ht, run_underlying ht2, sizeOf, typeInfo, zeroValue, hi, hz, hl, hr, h63', hfit', Question.forced, hf, ho, newRow, grownCap]
end
end Go.Tm

/- The pure machine, 21: what is appended. -/
namespace Go.Tm
open Go

section
variable {P : Program} {C : Ctx} {env : Nat → TV} {mu mu' : Mu} {a : Act} {w w' : World} {g g' : Gh} {o o' : Nat → Nat → Own} {idb : Nat} {R : Type} {Q : Exit → Act → World → Prop}

/-- The cells of a row's elements, side by side. -/
theorem row_vals {es : Tys} {ms : List Md} {qc : Own} {qf : Nat → Nat → Own} {b : Nat} : ∀ (xs : List es.D) (off i0 : Nat), (∀ i x, getN xs i = some x → es.Hs P w o ms qc (qf (i0 + i)) 0 x b (off + i * es.len)) →
    ∃ vals : List Value, vals.length = xs.length * es.len ∧ (∀ k v, vals[k]? = some v → w.cell? ⟨b, off + k, none⟩ = some v ∧ o b (off + k) = qc) ∧ (∀ v ∈ vals, Cellish v) ∧
      ∀ i x, getN xs i = some x → es.Vs P w o ms (qf (i0 + i)) 0 x ((vals.drop (i * es.len)).take es.len)
  | [], off, i0, _ => ⟨[], by simp, by simp, by simp, by simp [getN]⟩
  | x :: xs, off, i0, h => by
    obtain ⟨vs, h1, h2⟩ := Hs_vs es (by simpa using h 0 x rfl)
    obtain ⟨vals, h3, h4, h5, h6⟩ := row_vals xs (off + es.len) (i0 + 1) (fun i y hy => by
      have := h (i + 1) y (by simpa [getN] using hy)
      rwa [show i0 + (i + 1) = i0 + 1 + i by omega, Nat.add_mul, Nat.one_mul, show off + (i * es.len + es.len) = off + es.len + i * es.len by omega] at this)
    have hl := Vs_len es h1
    refine ⟨vs ++ vals, by simp [hl, h3, Nat.add_mul]; omega, fun k v hk => ?_, fun v hv => ?_, fun i y hy => ?_⟩
    · by_cases hlt : k < vs.length
      · rw [List.getElem?_append_left hlt] at hk; exact h2 k v hk
      · rw [List.getElem?_append_right (by omega)] at hk
        have := h4 _ v hk
        rwa [show off + es.len + (k - vs.length) = off + k by omega] at this
    · rcases List.mem_append.1 hv with hv | hv
      · exact Vs_cellish es h1 v hv
      · exact h5 v hv
    · cases i with
      | zero =>
        simp [getN] at hy; subst hy
        simp only [Nat.zero_mul, List.drop_zero, Nat.add_zero]
        rw [← hl, List.take_left]; simpa using h1
      | succ i =>
        have := h6 i y (by simpa [getN] using hy)
        rw [show i0 + 1 + i = i0 + (i + 1) by omega] at this
        rw [Nat.add_mul, Nat.one_mul, List.drop_append, List.drop_eq_nil_of_le (by omega), List.nil_append, show i * es.len + es.len - vs.length = i * es.len by omega]
        exact this

/-- What is appended: its cells, and how its elements lie. -/
structure Src (P : Program) (w : World) (g : Gh) (mu : Mu) (es : Tys) (ms : List Md) (dd : List (Nat × Blk)) (x : CV) (vx : Value) (ys : List es.D) (news : List Value) : Prop where
  len : (Builtin.lenOf vx).run P w = .ok ys.length w
  cells : ∀ w2, (∀ b k v, w.cell? ⟨b, k, none⟩ = some v → w2.cell? ⟨b, k, none⟩ = some v) → (Builtin.firstCells es.len ys.length vx).run P w2 = .ok news.toArray w2
  size : news.length = ys.length * es.len
  cellish : ∀ v ∈ news, Cellish v
  els : (allSh ms = true ∧ dd = [] ∧ ∀ i y, getN ys i = some y → es.Vs P w g.o [] (fun _ => .p) 0 y ((news.drop (i * es.len)).take es.len)) ∨
    (∃ id2 ver, x = .own id2 ∧ mu id2 = some (.row es ms ys ver) ∧ dd = [(id2, .dead)] ∧ ∀ i y, getN ys i = some y → es.Vs P w g.o ms (fun j => .o [id2, i, j]) 0 y ((news.drop (i * es.len)).take es.len))

theorem first_slice {es : Tys} {n c : Nat} {ad : Addr} (hs : ad.spot = none) {news : List Value} (hl : news.length = n * es.len) {w2 : World} (h : ∀ k v, news[k]? = some v → w2.cell? ⟨ad.block, ad.off + k, none⟩ = some v) :
    (Builtin.firstCells es.len n (.slice (some ad) n c)).run P w2 = .ok news.toArray w2 :=
  run_firstCells_some w2 es.len n ad n c news hl fun j v hj => by rw [add_none hs]; exact h j v hj

theorem src_sh {es : Tys} {ms : List Md} {x : CV} {vx : Value} {ys : List es.D} (hms : allSh ms = true) (h : HSh P w g.o es ys vx) : ∃ news, Src P w g mu es ms [] x vx ys news := by
  obtain ⟨ad, c, rfl, _, h⟩ := h
  rcases h with rfl | ⟨p, rfl, hs, h⟩
  · refine ⟨[], ⟨by simp [Builtin.lenOf], fun w2 _ => ?_, by simp, by simp, .inl ⟨hms, rfl, by simp [getN]⟩⟩⟩
    cases ad with
    | none => simp [Builtin.firstCells]
    | some p =>
      have := run_firstCells_some (P := P) w2 es.len 0 p 0 c [] (by simp) (by simp)
      simpa using this
  · obtain ⟨vals, h1, h2, h3, h4⟩ := row_vals (qf := fun _ _ => .p) ys p.off 0 h
    exact ⟨vals, ⟨by simp [Builtin.lenOf], fun w2 hw2 => first_slice hs h1 fun k v hk => hw2 _ _ _ (h2 k v hk).1, h1, h3, .inl ⟨hms, rfl, h4⟩⟩⟩

theorem src_ok (hm : MemR P w g mu) {es : Tys} {ms : List Md} {x : CV} {vx : Value} (hx : x.R P w g mu vx) {dd : List (Nat × Blk)} (hd : srcOk mu ms x = some dd) {K : List es.D → Option R} {y : R} (h : appended mu es x K = some y) :
    ∃ ys news, K ys = some y ∧ Src P w g mu es ms dd x vx ys news := by
  cases x <;> simp only [srcOk] at hd <;> try (cases hd; done)
  case nils =>
    cases (hx : vx = .slice none 0 0)
    cases hms : allSh ms with
    | false => simp [hms] at hd
    | true =>
      simp only [hms, cond_true, Option.some.injEq] at hd; subst hd
      obtain ⟨news, hn⟩ := src_sh (P := P) (w := w) (g := g) (mu := mu) (es := es) (x := .nils) (vx := .slice none 0 0) (ys := []) hms ⟨none, 0, rfl, Nat.le_refl _, .inl rfl⟩
      exact ⟨[], news, h, hn⟩
  case str b =>
    cases (hx : vx = .string b)
    cases hms : allSh ms with
    | false => simp [hms] at hd
    | true =>
      simp only [hms, cond_true, Option.some.injEq] at hd; subst hd
      simp only [appended] at h
      cases he : Tys.eq? tyBytes es with
      | none => simp [he] at h
      | some p =>
        obtain ⟨p⟩ := p
        subst p
        simp only [he] at h
        have hsz : (strBytes b).length = b.size := by unfold strBytes; rw [List.length_map]; rfl
        refine ⟨strBytes b, b.data.toList.map (fun u => .int .u8 u.toNat), h, ⟨by rw [hsz]; simp [Builtin.lenOf], fun w2 _ => ?_, by rw [hsz, List.length_map]; show b.data.toList.length = b.size * 1; rw [Nat.mul_one]; rfl, fun v hv => ?_, .inl ⟨hms, rfl, fun i u hu => ?_⟩⟩⟩
        · have e : b.extract 0 b.size = b := by simp
          rw [hsz]
          simp only [Builtin.firstCells, e, Sem.run_pure]
          congr 1
          apply Array.ext'; simp
        · obtain ⟨u, _, rfl⟩ := List.mem_map.1 hv; trivial
        · have hu' : b.data.toList[i]?.map (fun u => byteD u.toNat) = some u := by
            unfold getN strBytes at hu
            rwa [List.getElem?_map] at hu
          cases hb : b.data.toList[i]? with
          | none => simp [hb] at hu'
          | some v =>
            simp only [hb, Option.map_some, Option.some.injEq] at hu'
            subst hu'
            refine ⟨.int .u8 v.toNat, [], ?_, rfl, rfl⟩
            simp only [tyBytes, Tys.len]
            apply List.ext_getElem?
            intro k
            rw [List.getElem?_take, List.getElem?_drop, List.getElem?_map]
            cases k with
            | zero => simp [hb]
            | succ k => simp
  case ro es' xs =>
    cases hms : allSh ms with
    | false => simp [hms] at hd
    | true =>
      simp only [hms, cond_true, Option.some.injEq] at hd; subst hd
      simp only [appended, content] at h
      cases he : Tys.eq? es' es with
      | none => simp [he] at h
      | some p =>
        obtain ⟨p⟩ := p
        subst p
        simp only [he] at h
        obtain ⟨news, hn⟩ := src_sh (P := P) (w := w) (g := g) (mu := mu) (es := es') (x := .ro es' xs) (vx := vx) (ys := xs) hms ((H_sh (q := .p)).1 hx)
        exact ⟨xs, news, h, hn⟩
  case own id =>
    simp only [appended, content] at h
    obtain ⟨_, hc, _⟩ := hx
    cases hb : mu id with
    | none => simp [hb] at hd
    | some bl =>
      have hbr := hm id bl hb
      cases bl <;> simp only [hb] at hd h <;> try (cases hd; done)
      case row es' ms' xs ver =>
        cases he : Tys.eq? es' es with
        | none => simp [he] at h
        | some p =>
          obtain ⟨p⟩ := p
          subst p
          simp only [he] at h
          obtain ⟨v', hc', hr⟩ := hbr
          have : v' = vx := by rw [hc] at hc'; cases hc'; rfl
          subst this
          cases hsh : allSh ms' with
          | true =>
            simp only [hsh, cond_true] at hd
            cases hms : allSh ms with
            | false => simp [hms] at hd
            | true =>
              simp only [hms, cond_true, Option.some.injEq] at hd; subst hd
              obtain ⟨ad, c, hv, hcap, hh⟩ := H_own.1 hr
              refine ⟨xs, ?_⟩
              rcases hh with ⟨rfl, _⟩ | ⟨p, rfl, hs, _, hh⟩
              · obtain ⟨news, hn⟩ := src_sh (P := P) (w := w) (g := g) (mu := mu) (es := es') (x := .own id) (vx := v') (ys := []) hms ⟨ad, c, hv, hcap, .inl rfl⟩
                exact ⟨news, h, hn⟩
              · obtain ⟨vals, h1, h2, h3, h4⟩ := row_vals (qf := fun i j => .o ([id] ++ [i, j])) xs p.off 0 (by simpa using hh)
                exact ⟨vals, h, ⟨by rw [hv]; simp [Builtin.lenOf], fun w2 hw2 => by rw [hv]; exact first_slice hs.1 h1 fun k v hk => hw2 _ _ _ (h2 k v hk).1, h1, h3, .inl ⟨hms, rfl, fun i y hy => Vs_q es' (Vs_of_allSh es' hsh (h4 i y hy))⟩⟩⟩
          | false =>
            simp only [hsh, cond_false] at hd
            cases hmb : mdsBeq ms ms' with
            | false => simp [hmb] at hd
            | true =>
              simp only [hmb, cond_true, Option.some.injEq] at hd; subst hd
              cases mdsBeq_eq hmb
              obtain ⟨ad, c, hv, hcap, hh⟩ := H_own.1 hr
              refine ⟨xs, ?_⟩
              rcases hh with ⟨rfl, hc0⟩ | ⟨p, rfl, hs, _, hh⟩
              · refine ⟨[], h, ⟨by rw [hv]; simp [Builtin.lenOf], fun w2 _ => ?_, by simp, by simp, .inr ⟨id, ver, rfl, hb, rfl, by simp [getN]⟩⟩⟩
                rw [hv]
                cases ad with
                | none => simp [Builtin.firstCells]
                | some p =>
                  have := run_firstCells_some (P := P) w2 es'.len 0 p 0 c [] (by simp) (by simp)
                  simpa using this
              · obtain ⟨vals, h1, h2, h3, h4⟩ := row_vals (qf := fun i j => .o ([id] ++ [i, j])) xs p.off 0 (by simpa using hh)
                exact ⟨vals, h, ⟨by rw [hv]; simp [Builtin.lenOf], fun w2 hw2 => by rw [hv]; exact first_slice hs.1 h1 fun k v hk => hw2 _ _ _ (h2 k v hk).1, h1, h3, .inr ⟨id, ver, rfl, hb, rfl, fun i y hy => by simpa using h4 i y hy⟩⟩⟩
      case fz es' xs =>
        cases hms : allSh ms with
        | false => simp [hms] at hd
        | true =>
          simp only [hms, cond_true, Option.some.injEq] at hd; subst hd
          cases he : Tys.eq? es' es with
          | none => simp [he] at h
          | some p =>
            obtain ⟨p⟩ := p
            subst p
            simp only [he] at h
            obtain ⟨v', hc', hr⟩ := hbr
            have : v' = vx := by rw [hc] at hc'; cases hc'; rfl
            subst this
            obtain ⟨news, hn⟩ := src_sh (P := P) (w := w) (g := g) (mu := mu) (es := es') (x := .own id) (vx := v') (ys := xs) hms (H_sh.1 hr)
            exact ⟨xs, news, h, hn⟩
end
end Go.Tm

/- The pure machine, 22: append. -/
namespace Go.Tm
open Go

section
variable {P : Program} {C : Ctx} {env : Nat → TV} {mu mu' : Mu} {a : Act} {w w' : World} {g g' : Gh} {o o' : Nat → Nat → Own} {idb : Nat} {R : Type} {Q : Exit → Act → World → Prop}

/-- Where things go in an append: the old row's to the new one's, the elements of what is appended behind them. -/
def appF (idb n : Nat) (sid xid : Option Nat) : Nat → List Nat → Own := fun id s =>
  if sid = some id then .o (idb :: s)
  else if xid = some id then (match s with | i :: j :: r => .o (idb :: (n + i) :: j :: r) | _ => .x)
  else .o (id :: s)

theorem appF_ne {n : Nat} {sid xid : Option Nat} (id : Nat) (s : List Nat) : appF idb n sid xid id s ≠ .o [] := by
  unfold appF
  split
  · simp
  · split
    · split <;> simp
    · simp

theorem appF_o {n : Nat} {sid xid : Option Nat} {id p : Nat} {s l : List Nat} (h : appF idb n sid xid id s = .o (p :: l)) : p = idb ∨ p = id := by
  unfold appF at h
  split at h
  · cases h; exact .inl rfl
  · split at h
    · split at h
      · cases h; exact .inl rfl
      · cases h
    · cases h; exact .inr rfl

/-- The elements of a row that has grown. -/
theorem app_els {es : Tys} {ms : List Md} {dd : List (Nat × Blk)} {x : CV} {vx : Value} {xs ys : List es.D} {olds news : List Value} (hw : Wf w g.o) (hsrc : Src P w g mu es ms dd x vx ys news) {sid xid : Option Nat} (hxid : ∀ id2, x = .own id2 → dd ≠ [] → xid = some id2 ∧ sid ≠ some id2)
    {Wr : Nat → Nat → Prop} (hmv : Mvd w g w' g' (appF idb xs.length sid xid) Wr) (hwr : ∀ b k, Wr b k → ∃ id, sid = some id ∧ g.o b k = .o [id]) (hol : olds.length = xs.length * es.len)
    (hold : ∀ i y, getN xs i = some y → ∃ id, sid = some id ∧ es.Vs P w g.o ms (fun j => .o [id, i, j]) 0 y ((olds.drop (i * es.len)).take es.len)) :
    ∀ i y, getN (lapp xs ys) i = some y → es.Vs P w' g'.o ms (fun j => .o [idb, i, j]) 0 y (((olds ++ news).drop (i * es.len)).take es.len) := by
  intro i y hy
  unfold lapp getN at hy
  by_cases hlt : i < xs.length
  · rw [List.getElem?_append_left hlt] at hy
    obtain ⟨id, hid, hv⟩ := hold i y hy
    have hmul : (i + 1) * es.len ≤ xs.length * es.len := Nat.mul_le_mul_right _ hlt
    rw [Nat.add_mul, Nat.one_mul] at hmul
    rw [List.drop_append_of_le_length (by omega), List.take_append_of_le_length (by simp; omega)]
    refine Vs_re hmv.perm hw es ms (fun j => hmv.rl (l := [i, j]) (by simp) (fun s => ?_) (fun b k hb s e => ?_)) hv
    · simp [appF, hid, ext]
    · obtain ⟨id', _, h2⟩ := hwr b k hb
      rw [h2] at e; simp at e
  · rw [List.getElem?_append_right (by omega)] at hy
    have hmul : xs.length * es.len ≤ i * es.len := Nat.mul_le_mul_right _ (by omega)
    rw [List.drop_append, List.drop_eq_nil_of_le (by omega), List.nil_append, hol, ← Nat.sub_mul]
    rcases hsrc.els with ⟨hsh, _, he⟩ | ⟨id2, ver, hx, _, hdd, he⟩
    · exact Vs_to_allSh es hsh (Vs_q es (Vs_perm hmv.perm hw es (he _ y hy)))
    · obtain ⟨h1, h2⟩ := hxid id2 hx (by rw [hdd]; simp)
      refine Vs_re hmv.perm hw es ms (fun j => hmv.rl (l := [i - xs.length, j]) (by simp) (fun s => ?_) (fun b k hb s e => ?_)) (he _ y hy)
      · simp only [appF, if_neg h2, if_pos h1, ext, List.cons_append, List.nil_append]
        rw [show xs.length + (i - xs.length) = i by omega]
      · obtain ⟨id', _, h3⟩ := hwr b k hb
        rw [h3] at e; simp at e

/-- The new row's memory. -/
def appMs (dd : List (Nat × Blk)) (sid : Option Nat) (idb : Nat) (b : Blk) : List (Nat × Blk) := dd ++ ((match sid with | some id => [(id, Blk.dead)] | none => []) ++ [(idb, b)])

theorem appMs_mem {dd : List (Nat × Blk)} {sid : Option Nat} {b b' : Blk} {id : Nat} (h : (id, b') ∈ appMs dd sid idb b) : (id, b') ∈ dd ∨ (sid = some id ∧ b' = .dead) ∨ (id = idb ∧ b' = b) := by
  unfold appMs at h
  rcases List.mem_append.1 h with h | h
  · exact .inl h
  · rcases List.mem_append.1 h with h | h
    · cases sid with
      | none => cases h
      | some i => simp at h; exact .inr (.inl ⟨by rw [h.1], h.2⟩)
    · simp at h; exact .inr (.inr h)

theorem appMs_facts {dd : List (Nat × Blk)} {sid xid : Option Nat} {b : Blk} {n : Nat} (hdd : ∀ id b', (id, b') ∈ dd → b' = .dead ∧ xid = some id) (hx : ∀ id, xid = some id → (id, Blk.dead) ∈ dd) (hidb : mu idb = none) :
    updL mu (appMs dd sid idb b) idb ≠ none ∧ (∀ id s, ¬ (sid = some id ∨ xid = some id) → appF idb n sid xid id s = .o (id :: s)) ∧
    (∀ id s p l, mu id ≠ none → appF idb n sid xid id s = .o (p :: l) → updL mu (appMs dd sid idb b) p ≠ none) ∧
    (∀ id, ¬ (sid = some id ∨ xid = some id) → mu id ≠ none → ∀ b', (id, b') ∉ appMs dd sid idb b) ∧
    (∀ id b', (sid = some id ∨ xid = some id) → mu id ≠ none → updL mu (appMs dd sid idb b) id = some b' → b' = .dead) ∧
    (∀ id b', (sid = some id ∨ xid = some id) ∨ mu id = none → updL mu (appMs dd sid idb b) id = some b' → b' = .dead ∨ (id = idb ∧ b' = b)) := by
  have hidbm : (idb, b) ∈ appMs dd sid idb b := by unfold appMs; simp
  have h1 : updL mu (appMs dd sid idb b) idb ≠ none := updL_mem hidbm
  have hT : ∀ id, sid = some id ∨ xid = some id → (id, Blk.dead) ∈ appMs dd sid idb b := by
    intro id h
    unfold appMs
    rcases h with h | h
    · subst h; simp
    · exact List.mem_append_left _ (hx id h)
  refine ⟨h1, fun id s h => ?_, fun id s p l h2 h3 => ?_, fun id h h2 b' hb => ?_, fun id b' h h2 h3 => ?_, fun id b' h h3 => ?_⟩
  · unfold appF
    rw [if_neg (fun e => h (.inl e)), if_neg (fun e => h (.inr e))]
  · rcases appF_o h3 with rfl | rfl
    · exact h1
    · exact updL_some h2
  · rcases appMs_mem hb with hb | ⟨hb, _⟩ | ⟨rfl, _⟩
    · exact h (.inr (hdd _ _ hb).2)
    · exact h (.inl hb)
    · exact h2 hidb
  · rcases updL_cases h3 with h4 | ⟨hn, _⟩
    · rcases appMs_mem h4 with h4 | ⟨_, h4⟩ | ⟨rfl, _⟩
      · exact (hdd _ _ h4).1
      · exact h4
      · exact absurd hidb h2
    · exact absurd (hT id h) (hn _)
  · rcases updL_cases h3 with h4 | ⟨hn, h4⟩
    · rcases appMs_mem h4 with h4 | ⟨_, h4⟩ | h4
      · exact .inl (hdd _ _ h4).1
      · exact .inl h4
      · exact .inr h4
    · rcases h with h | h
      · exact absurd (hT id h) (hn _)
      · rw [h] at h4; cases h4
end
end Go.Tm

/- The pure machine, 23: append as an operation. -/
namespace Go.Tm
open Go

section
variable {P : Program} {C : Ctx} {env : Nat → TV} {mu mu' : Mu} {a : Act} {w w' : World} {g g' : Gh} {o o' : Nat → Nat → Own} {idb : Nat} {R : Type} {Q : Exit → Act → World → Prop}

theorem Nxt.of_drew (h : Nxt P w.drew g mu w' g' mu') : Nxt P w g mu w' g' mu' :=
  let ⟨T, a, b, c, d, e⟩ := h
  ⟨T, ⟨a.cell, a.c, a.pres, a.same, a.ver⟩, ⟨b.os, b.tape, b.output, b.size, b.blk, b.cell, b.there, b.frz⟩, c, d, e⟩

theorem Mvd.of_drew {f : Nat → List Nat → Own} {Wr : Nat → Nat → Prop} (h : Mvd w.drew g w' g' f Wr) : Mvd w g w' g' f Wr := ⟨h.keep, h.there, h.own, h.wr⟩

theorem Wf.drew (h : Wf w o) : Wf w.drew o := ⟨h.cell, h.ne⟩

theorem drop_take_app {α : Type} {xs ys : List α} {a n : Nat} (h : a + n ≤ xs.length) : ((xs ++ ys).drop a).take n = (xs.drop a).take n := by
  rw [List.drop_append_of_le_length (by omega), List.take_append_of_le_length (by simp; omega)]

/-- The row grows into a new block. -/
theorem app_out (s : OpSt P C env mu a w g idb) {es : Tys} {ms : List Md} {dd : List (Nat × Blk)} {x : CV} {vx : Value} {xs ys : List es.D} {olds news zs : List Value} (hsrc : Src P w g mu es ms dd x vx ys news) {sid xid : Option Nat}
    (hxid : ∀ id2, x = .own id2 → dd ≠ [] → xid = some id2 ∧ sid ≠ some id2) (hdd : ∀ id b', (id, b') ∈ dd → b' = .dead ∧ xid = some id) (hx : ∀ id, xid = some id → (id, Blk.dead) ∈ dd)
    (hol : olds.length = xs.length * es.len) (hold : ∀ i y, getN xs i = some y → ∃ id, sid = some id ∧ es.Vs P w g.o ms (fun j => .o [id, i, j]) 0 y ((olds.drop (i * es.len)).take es.len)) {cap : Nat}
    (hcap : xs.length + ys.length ≤ cap) (hbig : cap ≤ 9223372036854775807) (hzs : (olds ++ news ++ zs).length = cap * es.len) (t : TypeId) :
    ∃ g', Nxt P w g mu (w.drew.alloc (.cells (olds ++ news ++ zs).toArray t)) g' (updL mu (appMs dd sid idb (.row es ms (lapp xs ys) 0))) ∧
      (CV.own idb).R P (w.drew.alloc (.cells (olds ++ news ++ zs).toArray t)) g' (updL mu (appMs dd sid idb (.row es ms (lapp xs ys) 0))) (.slice (some ⟨w.heap.size, 0, none⟩) (xs.length + ys.length) cap) := by
  have hidb := s.fresh idb (Nat.le_refl _) (by omega)
  obtain ⟨f1, f2, f3, f4, f5, f6⟩ := appMs_facts (mu := mu) (idb := idb) (b := .row es ms (lapp xs ys) 0) (n := xs.length) (sid := sid) hdd hx hidb
  let v : Value := .slice (some ⟨w.heap.size, 0, none⟩) (xs.length + ys.length) cap
  let g' := allocG w.drew g idb (olds ++ news ++ zs).length (appF idb xs.length sid xid) v
  have hmv : Mvd w g (w.drew.alloc (.cells (olds ++ news ++ zs).toArray t)) g' (appF idb xs.length sid xid) (fun _ _ => False) := Mvd.of_drew alloc_mvd
  have hels := app_els (P := P) (w' := w.drew.alloc (.cells (olds ++ news ++ zs).toArray t)) (g' := g') s.wf hsrc hxid hmv (fun _ _ h => h.elim) hol hold
  have hll : (lapp xs ys).length = xs.length + ys.length := by simp [lapp]
  have hns := hsrc.size
  have hH : (Ty.sl es).H P (w.drew.alloc (.cells (olds ++ news ++ zs).toArray t)) g'.o (.own ms) (.o [idb]) (lapp xs ys) v := by
    refine alloc_H (w := w.drew) (s.wf.drew) (by rw [hll]; exact hcap) hbig (by rw [hll]; rfl) hzs fun i y hi => ?_
    have hlt : i < xs.length + ys.length := by rw [← hll]; exact (List.getElem?_eq_some_iff.1 hi).1
    have hmul : (i + 1) * es.len ≤ (xs.length + ys.length) * es.len := Nat.mul_le_mul_right _ hlt
    rw [Nat.add_mul, Nat.one_mul, Nat.add_mul] at hmul
    rw [drop_take_app (by simp; omega)]
    exact hels i y hi
  have hci : g'.c idb = .row v := by show (if idb = idb then _ else _) = _; simp
  refine ⟨g', Nxt.of_drew (alloc_nxt (T := fun id => sid = some id ∨ xid = some id) s.wf.drew s.own hidb f2 appF_ne f3 f1 f4 (fun id es' ms' xs' ver hT h1 h2 => by have := f5 id _ hT h1 h2; cases this) (fun id b hT h2 => ?_)), ⟨f1, hci, _, _, _, rfl⟩⟩
  rcases f6 id b hT h2 with rfl | ⟨rfl, rfl⟩
  · trivial
  · exact ⟨v, hci, hH⟩

/-- There is room for what is appended. -/
theorem app_in (s : OpSt P C env mu a w g idb) {es : Tys} {ms : List Md} {dd : List (Nat × Blk)} {x : CV} {vx : Value} {xs ys : List es.D} {olds news : List Value} (hsrc : Src P w g mu es ms dd x vx ys news) {sid xid : Option Nat}
    (hxid : ∀ id2, x = .own id2 → dd ≠ [] → xid = some id2 ∧ sid ≠ some id2) (hdd : ∀ id b', (id, b') ∈ dd → b' = .dead ∧ xid = some id) (hx : ∀ id, xid = some id → (id, Blk.dead) ∈ dd)
    (hol : olds.length = xs.length * es.len) (hold : ∀ i y, getN xs i = some y → ∃ id, sid = some id ∧ es.Vs P w g.o ms (fun j => .o [id, i, j]) 0 y ((olds.drop (i * es.len)).take es.len)) {cap : Nat}
    (hcap : xs.length + ys.length ≤ cap) {ad : Option Addr} (hc0 : (lapp xs ys = [] ∧ cap = 0) ∨ ∃ p id, ad = some p ∧ CapOk p cap ∧ sid = some id ∧ (∀ k, k < cap * es.len → g.o p.block (p.off + k) = .o [id]) ∧ ∀ k v, olds[k]? = some v → w.cell? ⟨p.block, p.off + k, none⟩ = some v) :
    ∃ b0 off g', (∀ p, ad = some p → (b0, off) = (p.block, p.off + xs.length * es.len)) ∧ (cap ≠ 0 → (storeCells ⟨b0, off, none⟩ news).run P w = .ok () (w.setCells b0 off news)) ∧ (cap = 0 → news = []) ∧
      Nxt P w g mu (w.setCells b0 off news) g' (updL mu (appMs dd sid idb (.row es ms (lapp xs ys) 0))) ∧
      (CV.own idb).R P (w.setCells b0 off news) g' (updL mu (appMs dd sid idb (.row es ms (lapp xs ys) 0))) (.slice ad (xs.length + ys.length) cap) := by
  have hidb := s.fresh idb (Nat.le_refl _) (by omega)
  obtain ⟨f1, f2, f3, f4, f5, f6⟩ := appMs_facts (mu := mu) (idb := idb) (b := .row es ms (lapp xs ys) 0) (n := xs.length) (sid := sid) hdd hx hidb
  let v : Value := .slice ad (xs.length + ys.length) cap
  have hll : (lapp xs ys).length = xs.length + ys.length := by simp [lapp]
  have hns := hsrc.size
  let b0 : Nat := match ad with | some p => p.block | none => 0
  let off : Nat := match ad with | some p => p.off + xs.length * es.len | none => 0
  let c' : Nat → Conc := fun id => if id = idb then .row v else g.c id
  let g' : Gh := ⟨fun b k => re (appF idb xs.length sid xid) (g.o b k), c'⟩
  have hc' : ∀ id, mu id ≠ none → c' id = g.c id := fun id h => if_neg (fun (e : id = idb) => h (e ▸ hidb))
  have hci : g'.c idb = .row v := if_pos rfl
  have hnil : cap = 0 → news = [] := fun h => by
    have : ys.length = 0 := by omega
    exact List.eq_nil_of_length_eq_zero (by rw [hns, this, Nat.zero_mul])
  have hcell : ∀ k, k < news.length → ∃ id, sid = some id ∧ g.o b0 (off + k) = .o [id] := by
    intro k hk
    rcases hc0 with ⟨_, h0⟩ | ⟨p, id, hp, hs, hid, ho, _⟩
    · rw [hnil h0] at hk; simp at hk
    · subst hp
      have hmul : (xs.length + ys.length) * es.len ≤ cap * es.len := Nat.mul_le_mul_right _ hcap
      rw [Nat.add_mul] at hmul
      have := ho (xs.length * es.len + k) (by omega)
      exact ⟨id, hid, by show g.o p.block (p.off + xs.length * es.len + k) = _; rwa [Nat.add_assoc]⟩
  obtain ⟨id0, hid0⟩ : ∃ id0, ∀ k, k < news.length → sid = some id0 ∧ g.o b0 (off + k) = .o [id0] := by
    cases hs : sid with
    | none => exact ⟨0, fun k hk => by obtain ⟨id, h, _⟩ := hcell k hk; rw [hs] at h; cases h⟩
    | some i => exact ⟨i, fun k hk => by obtain ⟨id, h, h2⟩ := hcell k hk; rw [hs] at h; cases h; exact ⟨rfl, h2⟩⟩
  have hmv : Mvd w g (w.setCells b0 off news) g' (appF idb xs.length sid xid) (fun b k => b = b0 ∧ off ≤ k ∧ k < off + news.length) := set_mvd (id0 := id0) s.wf fun k hk => (hid0 k hk).2
  have hels := app_els (P := P) (w' := w.setCells b0 off news) (g' := g') s.wf hsrc hxid hmv (fun b k h => by
    obtain ⟨rfl, h1, h2⟩ := h
    have := hid0 (k - off) (by omega)
    rw [show off + (k - off) = k by omega] at this
    exact ⟨id0, this⟩) hol hold
  have hex : ∀ k, k < news.length → ∃ u, w.cell? ⟨b0, off + k, none⟩ = some u := fun k hk => (s.wf.cell _ _ _ (hid0 k hk).2).1
  have hH : (Ty.sl es).H P (w.setCells b0 off news) g'.o (.own ms) (.o [idb]) (lapp xs ys) v := by
    refine H_own.2 ⟨ad, cap, by show Value.slice ad _ cap = _; rw [hll], by rw [hll]; exact hcap, ?_⟩
    rcases hc0 with h0 | ⟨p, id, hp, hs, hid, ho, hold'⟩
    · exact .inl h0
    · subst hp
      refine .inr ⟨p, rfl, hs, fun k hk => ?_, fun i y hi => Vs_hs es (hels i y hi) fun k u hu => ?_⟩
      · show re _ (g.o p.block (p.off + k)) = _
        rw [ho k hk]
        simp [re, appF, hid]
      · have hu' := All2.getD_drop_take hu
        have hlt := (List.getElem?_eq_some_iff.1 hu').1
        simp only [List.length_append] at hlt
        have hmul : (xs.length + ys.length) * es.len ≤ cap * es.len := Nat.mul_le_mul_right _ hcap
        rw [Nat.add_mul] at hmul
        refine ⟨?_, ?_⟩
        · by_cases h1 : i * es.len + k < olds.length
          · rw [List.getElem?_append_left h1] at hu'
            have := hold' _ u hu'
            rw [World.cell?_setCells_out b0 news off w ⟨p.block, p.off + i * es.len + k, none⟩ (fun _ _ => .inl (by
              show p.off + i * es.len + k < p.off + xs.length * es.len
              omega))]
            rwa [Nat.add_assoc]
          · rw [List.getElem?_append_right (by omega)] at hu'
            have hlt2 := (List.getElem?_eq_some_iff.1 hu').1
            have := World.cell?_setCells_in b0 news off w (fun j hj => by obtain ⟨u, hu⟩ := hex j hj; simp [hu]) (i * es.len + k - olds.length) hlt2
            rw [List.getElem?_eq_getElem hlt2] at hu'
            cases hu'
            rw [show p.off + i * es.len + k = off + (i * es.len + k - olds.length) by show _ = p.off + xs.length * es.len + _; omega]
            exact this
        · show re _ (g.o p.block (p.off + i * es.len + k)) = _
          rw [Nat.add_assoc, ho _ (by omega)]
          simp [re, appF, hid]
  refine ⟨b0, off, g', fun p hp => by subst hp; rfl, fun _ => ?_, hnil, set_nxt (T := fun id => sid = some id ∨ xid = some id) (id0 := id0) s.wf s.own (fun hne => ?_) (fun k hk => (hid0 k hk).2) hc' f2 appF_ne f3 f4
    (fun id es' ms' xs' ver hT h1 h2 => by have := f5 id _ hT h1 h2; cases this) (fun id b hT h2 => ?_), ⟨f1, hci, _, _, _, rfl⟩⟩
  · have := run_storeCells_cells (P := P) b0 off news 0 w (fun j hj => by obtain ⟨u, hu⟩ := hex j hj; simp [hu]) (fun j hj => by
      exact (s.wf.cell _ _ _ (hid0 j hj).2).2 _) (fun u hu => cellish_one (hsrc.cellish u hu))
    simpa using this
  · cases news with
    | nil => exact absurd rfl hne
    | cons u us => exact .inl (hid0 0 (by simp)).1
  · rcases f6 id b hT h2 with rfl | ⟨rfl, rfl⟩
    · trivial
    · exact ⟨v, hci, hH⟩
end
end Go.Tm

/- The pure machine, 24: append, the operation. -/
namespace Go.Tm
open Go

section
variable {P : Program} {C : Ctx} {env : Nat → TV} {mu mu' : Mu} {a : Act} {w w' : World} {g g' : Gh} {o o' : Nat → Nat → Own} {idb : Nat} {R : Type} {Q : Exit → Act → World → Prop}

/-- With nothing appended the row stays. -/
theorem run_append_zero {t t2 ty e : TypeId} {i : TypeInfo} (ht : P.underlying t = some (.slice e)) {d2 : TypeDesc} (ht2 : P.underlying t2 = some d2) (hd2 : (∃ e2, d2 = .slice e2) ∨ d2 = .string) (hi : P.info? e = some i)
    {x : Value} {n c : Nat} {ad : Option Addr} (hl : (Builtin.lenOf x).run P w = .ok 0 w) (hf : (Builtin.firstCells i.size 0 x).run P w = .ok #[] w) (hnc : n ≤ c) :
    (Builtin.append_ #[t, t2] ty #[.slice ad n c, x]).run P w = .ok (.slice ad n c) w := by
  cases ad <;> rcases hd2 with ⟨e2, rfl⟩ | rfl <;>
    simp [Builtin.append_, run_underlying ht, run_underlying ht2, sizeOf, typeInfo, hi, hl, hf, hnc, storeCells]

/-- What an append comes to, the old row known. -/
theorem append_run (s : OpSt P C env mu a w g idb) {t t2 ty e : TypeId} {te : TI} (hte : elemTI C t = some (e, te)) {d2 : TypeDesc} (ht2 : P.underlying t2 = some d2) (hd2 : (∃ e2, d2 = .slice e2) ∨ d2 = .string)
    {es : Tys} (hes : es.len = te.size) {ms : List Md} {dd : List (Nat × Blk)} {x : CV} {vx : Value} {xs ys : List es.D} {news : List Value} (hsrc : Src P w g mu es ms dd x vx ys news) {sid xid : Option Nat}
    (hxid : ∀ id2, x = .own id2 → dd ≠ [] → xid = some id2 ∧ sid ≠ some id2) (hdd : ∀ id b', (id, b') ∈ dd → b' = .dead ∧ xid = some id) (hx : ∀ id, xid = some id → (id, Blk.dead) ∈ dd)
    {ad : Option Addr} {cap : Nat} (hcap : xs.length ≤ cap) {olds : List Value} (hol : olds.length = xs.length * es.len)
    (hold : ∀ i y, getN xs i = some y → ∃ id, sid = some id ∧ es.Vs P w g.o ms (fun j => .o [id, i, j]) 0 y ((olds.drop (i * es.len)).take es.len))
    (hc0 : (xs = [] ∧ cap = 0) ∨ ∃ p id, ad = some p ∧ CapOk p cap ∧ sid = some id ∧ (∀ k, k < cap * es.len → g.o p.block (p.off + k) = .o [id]) ∧ ∀ k v, olds[k]? = some v → w.cell? ⟨p.block, p.off + k, none⟩ = some v)
    (hroom : room (xs.length + ys.length) te.bytes = true) :
    ∃ v w' g', (Builtin.append_ #[t, t2] ty #[.slice ad xs.length cap, vx]).run P w = .ok v w' ∧ Nxt P w g mu w' g' (updL mu (appMs dd sid idb (.row es ms (lapp xs ys) 0))) ∧
      (CV.own idb).R P w' g' (updL mu (appMs dd sid idb (.row es ms (lapp xs ys) 0))) v := by
  obtain ⟨ht, hety, _, _⟩ := elemTI_ok s.ty hte
  obtain ⟨inf, d, z, h1, h2, h3, h4, harr, h6, h7, h8, _⟩ := ti_ok (s.ty e te hety)
  have hsz : inf.size = es.len := by rw [hes, h7]
  have hroom : (xs.length + ys.length) * te.bytes ≤ 70368744177664 ∧ 0 < te.bytes := of_decide_eq_true hroom
  have hcells := hsrc.cells
  have hns := hsrc.size
  by_cases hin : xs.length + ys.length ≤ cap
  · have hc0' : (lapp xs ys = [] ∧ cap = 0) ∨ ∃ p id, ad = some p ∧ CapOk p cap ∧ sid = some id ∧ (∀ k, k < cap * es.len → g.o p.block (p.off + k) = .o [id]) ∧ ∀ k v, olds[k]? = some v → w.cell? ⟨p.block, p.off + k, none⟩ = some v := by
      rcases hc0 with ⟨h, h0⟩ | h
      · left
        have : ys.length = 0 := by omega
        have hy : ys = [] := List.eq_nil_of_length_eq_zero this
        exact ⟨by rw [h, hy]; rfl, h0⟩
      · exact .inr h
    obtain ⟨b0, off, g', hb, hst, hn0, hnx, hr⟩ := app_in s hsrc hxid hdd hx hol hold hin hc0'
    refine ⟨_, _, g', ?_, hnx, hr⟩
    rcases hc0 with ⟨hxs, h0⟩ | ⟨p, id, hp, hs, hid, _, _⟩
    · have hy : ys.length = 0 := by omega
      have hx0 : xs.length = 0 := by simp [hxs]
      have hnews := hn0 h0
      have hl := hsrc.len
      have hf := hcells w fun _ _ _ h => h
      rw [hy] at hl hf
      rw [hnews] at hf ⊢
      rw [hy, hx0, Nat.add_zero]
      exact run_append_zero ht ht2 hd2 h1 hl (by rw [hsz]; exact hf) (by omega)
    · subst hp
      have hpo := hb p rfl
      cases hpo
      by_cases hcz : cap = 0
      · have hy : ys.length = 0 := by omega
        have hx0 : xs.length = 0 := by omega
        have hnews := hn0 hcz
        have hl := hsrc.len
        have hf := hcells w fun _ _ _ h => h
        rw [hy] at hl hf
        rw [hnews] at hf ⊢
        rw [hy, Nat.add_zero]
        exact run_append_zero ht ht2 hd2 h1 hl (by rw [hsz]; exact hf) (by omega)
      · exact run_append_in ht ht2 hd2 h1 hsrc.len (by rw [hsz]; exact hcells w fun _ _ _ h => h) hin hs.1 (by rw [hsz]; exact hst hcz)
  · have hge := grownCap_ge w (xs.length + ys.length) cap e
    have hzl : (olds ++ news ++ (Builtin.zeroCells z.cells (grownCap w (xs.length + ys.length) cap e - (xs.length + ys.length))).toList).length = grownCap w (xs.length + ys.length) cap e * es.len := by
      simp only [List.length_append, Array.length_toList, size_zeroCells, hol, hns, h6, hsz]
      rw [← Nat.add_mul, ← Nat.add_mul]
      congr 1; omega
    have hnb : xs.length + ys.length ≤ (xs.length + ys.length) * te.bytes := Nat.le_mul_of_pos_right _ hroom.2
    have hgb : grownCap w (xs.length + ys.length) cap e ≤ 9223372036854775807 := by
      have := grownCap_le_maxLen w (xs.length + ys.length) cap e (by unfold maxLen; omega)
      unfold maxLen at this
      omega
    obtain ⟨g', hnx, hr⟩ := app_out s hsrc hxid hdd hx hol hold hge hgb hzl e
    refine ⟨_, _, g', ?_, hnx, hr⟩
    have e1 : (olds ++ news ++ (Builtin.zeroCells z.cells (grownCap w (xs.length + ys.length) cap e - (xs.length + ys.length))).toList).toArray = olds.toArray ++ (news.toArray ++ Builtin.zeroCells z.cells (grownCap w (xs.length + ys.length) cap e - (xs.length + ys.length))) := by
      apply Array.ext'; simp
    rw [e1]
    have hb1 : xs.length + ys.length ≤ (xs.length + ys.length) * te.bytes := Nat.le_mul_of_pos_right _ hroom.2
    refine run_append_out ht ht2 hd2 h1 h3 ?_ hsrc.len (by rw [hsz]; exact hcells w.drew fun _ _ _ h => h) (by omega) (by omega) ?_
    · rcases hc0 with ⟨hxs, _⟩ | ⟨p, id, hp, hs, _, _, hold'⟩
      · have hx0 : xs.length = 0 := by simp [hxs]
        have ho : olds = [] := List.eq_nil_of_length_eq_zero (by rw [hol, hx0, Nat.zero_mul])
        rw [ho, hx0]
        cases ad with
        | none => simp [Builtin.firstCells]
        | some p =>
          have := run_firstCells_some (P := P) w.drew inf.size 0 p 0 cap [] (by simp) (by simp)
          simpa using this
      · subst hp
        rw [hsz]
        exact first_slice hs.1 hol fun k v hk => hold' k v hk
    · refine growslice_fits (by omega) ?_
      rw [← h8]; omega

theorem op_append (s : OpSt P C env mu a w g idb) {o : Oper} {c : Call} (ho : o.op = .call c) (hc : c.callee = .builtin .append) {K : TV → List (Nat × Blk) → Option R} {y : R} {rid i : Nat}
    (h : builtinU C mu idb rid i .append c.argTypes.toList (c.args.toList.map (evalTV env)) K = some y) : o.wp P a w (Done P w g mu a o.dst K y) Q := by
  unfold builtinU at h
  split at h
  · rename_i hb _; cases hb
  · rename_i hb _; cases hb
  · rename_i hb _; cases hb
  · rename_i scv xcv _ hargs
    split at h
    · rename_i t t2 htys
      split at h
      · rename_i e te ti2 hte ht2
        cases hk2 : apTy ti2.k with
        | false => rw [hk2] at h; cases h
        | true =>
          rw [hk2, cond_true] at h
          obtain ⟨ht, hety, hlen, _⟩ := elemTI_ok s.ty hte
          obtain ⟨inf2, d2, z2, _, hu2, _, _, _, _, _, _, hkd2, _⟩ := ti_ok (s.ty t2 ti2 ht2)
          have hd2 : (∃ e2, d2 = .slice e2) ∨ d2 = .string := by
            rw [hkd2] at hk2
            cases d2 <;> simp [tkOf, apTy] at hk2 ⊢
          have ht0 : c.argTypes = #[t, t2] := by rw [← Array.toList_inj, htys]
          obtain ⟨sx, xx, ha0, hsx, hxx⟩ : ∃ sx xx, c.args = #[sx, xx] ∧ evalTV env sx = .c scv ∧ evalTV env xx = .c xcv := by
            cases hl : c.args.toList with
            | nil => rw [hl] at hargs; cases hargs
            | cons sx r =>
              cases r with
              | nil => rw [hl] at hargs; simp at hargs
              | cons xx r =>
                cases r with
                | cons _ _ => rw [hl] at hargs; simp at hargs
                | nil =>
                  rw [hl] at hargs
                  simp only [List.map_cons, List.map_nil, List.cons.injEq, and_true] at hargs
                  exact ⟨sx, xx, by rw [← Array.toList_inj, hl], hargs.1, hargs.2⟩
          have hvs := evalTV_R s.env sx
          rw [hsx] at hvs
          have hvx := evalTV_R s.env xx
          rw [hxx] at hvx
          have fin : ∀ {v w' g' ms}, (Builtin.append_ #[t, t2] o.type #[a.eval sx, a.eval xx]).run P w = .ok v w' → K (.c (.own idb)) ms = some y → Nxt P w g mu w' g' (updL mu ms) → (CV.own idb).R P w' g' (updL mu ms) v →
              o.wp P a w (Done P w g mu a o.dst K y) Q := by
            intro v w' g' ms hrun hK hn hr
            refine wp_val (v := v) (w' := w') ?_ ⟨.c (.own idb), ms, v, g', rfl, hK, hn, hr⟩
            simp [execOp, ho, resolve, hc, ha0, ht0, invoke, builtin, hrun]
          have xids : ∀ {es : Tys} {ms : List Md} {dd : List (Nat × Blk)} {ys : List es.D} {news : List Value} {sid : Option Nat}, Src P w g mu es ms dd xcv (a.eval xx) ys news → (∀ id2, xcv = .own id2 → dd ≠ [] → sid ≠ some id2) →
              ∃ xid : Option Nat, (∀ id2, xcv = .own id2 → dd ≠ [] → xid = some id2 ∧ sid ≠ some id2) ∧ (∀ id b', (id, b') ∈ dd → b' = .dead ∧ xid = some id) ∧ (∀ id, xid = some id → (id, Blk.dead) ∈ dd) := by
            intro es ms dd ys news sid hs hne
            rcases hs.els with ⟨_, rfl, _⟩ | ⟨id2, ver, hx, _, rfl, _⟩
            · exact ⟨none, fun _ _ h => absurd rfl h, by simp, by simp⟩
            · refine ⟨some id2, fun id h h' => ?_, fun id b' hb => by simp at hb; exact ⟨hb.2, by rw [hb.1]⟩, fun id h => by cases h; simp⟩
              rw [hx] at h; cases h
              exact ⟨rfl, hne _ hx h'⟩
          unfold appendU at h
          cases scv <;> simp only at h <;> try (cases h; done)
          case nils =>
            cases hd : srcOk mu (C.site rid i) xcv with
            | none => simp [hd] at h
            | some dd =>
              simp only [hd] at h
              obtain ⟨ys, news, h, hsrc⟩ := src_ok s.mem hvx hd h
              cases hr : room ys.length te.bytes with
              | false => rw [hr] at h; cases h
              | true =>
                rw [hr, cond_true] at h
                obtain ⟨xid, x1, x2, x3⟩ := xids (sid := none) hsrc (fun _ _ _ h => by cases h)
                obtain ⟨v, w', g', h5, h6, h7⟩ := append_run s (ty := o.type) hte hu2 hd2 hlen hsrc x1 x2 x3 (xs := []) (ad := none) (cap := 0) (olds := []) (Nat.le_refl _) (by simp) (by simp [getN]) (.inl ⟨rfl, rfl⟩) (by simpa using hr)
                have hvs : a.eval sx = .slice none 0 0 := hvs
                exact fin (by rw [hvs]; exact h5) h h6 h7
          case own id =>
            obtain ⟨_, hcid, _⟩ := hvs
            cases hb : mu id with
            | none => simp [hb] at h
            | some bl =>
              have hbr := s.mem id bl hb
              cases bl <;> simp only [hb] at h <;> try (cases h; done)
              case row es' ms' xs ver =>
                cases he : Tys.eq? es' (C.es e) with
                | none => simp [he] at h
                | some p =>
                  obtain ⟨p⟩ := p
                  subst p
                  simp only [he] at h
                  cases hd : srcOk mu ms' xcv with
                  | none => simp [hd] at h
                  | some dd =>
                    simp only [hd] at h
                    cases hg : sameRow id xcv with
                    | true => rw [hg] at h; cases h
                    | false =>
                      rw [hg, cond_false] at h
                      obtain ⟨ys, news, h, hsrc⟩ := src_ok s.mem hvx hd h
                      cases hr : room (xs.length + ys.length) te.bytes with
                      | false => rw [hr] at h; cases h
                      | true =>
                        have hr' := hr
                        have h : K (.c (.own idb)) (dd ++ [(id, .dead), (idb, .row (C.es e) ms' (lapp xs ys) 0)]) = some y := by
                          first
                            | (rw [hr, cond_true] at h; exact h)
                            | (have h2 := h; simp only [castL_rfl, hr, cond_true] at h2; exact h2)
                        obtain ⟨xid, x1, x2, x3⟩ := xids (sid := some id) hsrc (fun id2 h1 _ h2 => by
                          cases h2; rw [h1] at hg; simp [sameRow, Nat.beq_refl] at hg)
                        obtain ⟨v', hc', hh⟩ := hbr
                        have hv' : v' = a.eval sx := by rw [hcid] at hc'; cases hc'; rfl
                        obtain ⟨ad, cp, hv, hcap, hh⟩ := H_own.1 hh
                        have hvs2 : a.eval sx = .slice ad xs.length cp := by rw [← hv', hv]
                        rcases hh with ⟨rfl, hcp⟩ | ⟨p, hp, hsp, hown, hh⟩
                        · obtain ⟨v, w', g', h5, h6, h7⟩ := append_run s (ty := o.type) hte hu2 hd2 hlen hsrc x1 x2 x3 (xs := []) (ad := ad) (cap := cp) (olds := []) (Nat.zero_le _) (by simp) (by simp [getN]) (.inl ⟨rfl, hcp⟩) (by simpa using hr)
                          exact fin (by rw [hvs2]; exact h5) h h6 h7
                        · obtain ⟨vals, r1, r2, r3, r4⟩ := row_vals (qf := fun i j => .o ([id] ++ [i, j])) xs p.off 0 (by simpa using hh)
                          obtain ⟨v, w', g', h5, h6, h7⟩ := append_run s (ty := o.type) hte hu2 hd2 hlen hsrc x1 x2 x3 (xs := xs) (ad := ad) (cap := cp) (olds := vals) hcap r1 (fun i y hy => ⟨id, rfl, by simpa using r4 i y hy⟩)
                            (.inr ⟨p, id, hp, hsp, rfl, hown, fun k v hk => (r2 k v hk).1⟩) hr
                          exact fin (by rw [hvs2]; exact h5) h h6 h7
      · cases h
    · cases h
  · cases h
end
end Go.Tm

/- The pure machine, 25: conversions, calls of functions held, made rows. -/
namespace Go.Tm
open Go

section
variable {P : Program} {C : Ctx} {env : Nat → TV} {mu mu' : Mu} {a : Act} {w w' : World} {g g' : Gh} {o o' : Nat → Nat → Own} {idb : Nat} {R : Type} {Q : Exit → Act → World → Prop}

theorem op_conv_int (s : OpSt P C env mu a w g idb) {o : Oper} {t t2 : Nat} {x : Operand} (ho : o.op = .convert t t2 x) {K : TV → List (Nat × Blk) → Option R} {y : R} {si ti : TI} (hs : C.ty t = some si) (ht : C.ty t2 = some ti) {k k' : IntKind} {n : Int}
    (hk : ti.k = .int k') (hx : evalTV env x = .c (.int k n)) (h : K (.c (.int k' (k'.wrap n))) [] = some y) : o.wp P a w (Done P w g mu a o.dst K y) Q := by
  obtain ⟨inf, d, z, _, h2, _, _, _, _, _, _, hd, _⟩ := ti_ok (s.ty t si hs)
  obtain ⟨inf', d', z', _, h2', _, _, _, _, _, _, hd', _⟩ := ti_ok (s.ty t2 ti ht)
  have hd2 : d' = .int k' := by rw [hk] at hd'; cases d' <;> simp [tkOf] at hd' ⊢; exact hd'.symm
  subst hd2
  have hv := evalTV_R s.env x
  rw [hx] at hv
  have hv : a.eval x = .int k n := hv
  have hik : P.intKind t2 = k' := by simp [Program.intKind, h2']
  have := run_convert_int (P := P) w t t2 k n (by simp [h2]) (by rw [hik]; exact h2')
  rw [hik] at this
  refine done_pure s (v := .int k' (k'.wrap n)) (tv := .c (.int k' (k'.wrap n))) ?_ h rfl
  simp [execOp, ho, hv, this]

theorem op_conv_str (s : OpSt P C env mu a w g idb) {o : Oper} {t t2 : Nat} {x : Operand} (ho : o.op = .convert t t2 x) {K : TV → List (Nat × Blk) → Option R} {y : R} {si ti : TI} (hs : C.ty t = some si) (ht : C.ty t2 = some ti) {b : ByteArray}
    (hk : ti.k = .str) (hx : evalTV env x = .c (.str b)) (h : K (.c (.str b)) [] = some y) : o.wp P a w (Done P w g mu a o.dst K y) Q := by
  obtain ⟨inf, d, z, _, h2, _, _, _, _, _, _, hd, _⟩ := ti_ok (s.ty t si hs)
  obtain ⟨inf', d', z', _, h2', _, _, _, _, _, _, hd', _⟩ := ti_ok (s.ty t2 ti ht)
  have hd2 : d' = .string := by rw [hk] at hd'; cases d' <;> simp [tkOf] at hd' ⊢
  subst hd2
  have hv := evalTV_R s.env x
  rw [hx] at hv
  have hv : a.eval x = .string b := hv
  refine done_pure s (v := .string b) (tv := .c (.str b)) ?_ h rfl
  simp [execOp, ho, hv, convert, run_underlying h2, run_underlying h2']

theorem push_bytes : ∀ (ns : List Int) (s : ByteArray), ns.foldl (fun r n => r.push (UInt8.ofNat n.toNat)) s = ⟨s.data ++ (ns.map fun n => UInt8.ofNat n.toNat).toArray⟩
  | [], s => by simp
  | n :: ns, s => by
    rw [List.foldl_cons, push_bytes ns]
    congr 1
    apply Array.ext'
    simp [ByteArray.push]

theorem op_conv_bytes (s : OpSt P C env mu a w g idb) {o : Oper} {t t2 e : Nat} {x : Operand} (ho : o.op = .convert t t2 x) {K : TV → List (Nat × Blk) → Option R} {y : R} {si ti te : TI} (hs : C.ty t = some si) (ht : C.ty t2 = some ti) (hsk : si.k = .slice e)
    (he : C.ty e = some te) (hek : te.k = .int .u8) (hk : ti.k = .str) {cv : CV} (hx : evalTV env x = .c cv) {xs : List tyBytes.D} {ms : Md} {q : Own} (hh : (Ty.sl tyBytes).H P w g.o ms q xs (a.eval x)) (h : K (.c (.str (bytesStr xs))) [] = some y) :
    o.wp P a w (Done P w g mu a o.dst K y) Q := by
  obtain ⟨inf, d, z, _, h2, _, _, _, _, _, _, hd, _⟩ := ti_ok (s.ty t si hs)
  obtain ⟨inf', d', z', _, h2', _, _, _, _, _, _, hd', _⟩ := ti_ok (s.ty t2 ti ht)
  obtain ⟨inf3, d3, z3, _, h3, _, _, _, _, _, _, hd3, _⟩ := ti_ok (s.ty e te he)
  have hd2 : d' = .string := by rw [hk] at hd'; cases d' <;> simp [tkOf] at hd' ⊢
  have hd1 : d = .slice e := by rw [hsk] at hd; cases d <;> simp [tkOf] at hd ⊢; exact hd.symm
  have hd4 : d3 = .int .u8 := by rw [hek] at hd3; cases d3 <;> simp [tkOf] at hd3 ⊢; exact hd3.symm
  subst hd2; subst hd1; subst hd4
  have key : ∃ ad c, a.eval x = .slice ad xs.length c ∧ (xs = [] ∨ ∃ p : Addr, ad = some p ∧ p.spot = none ∧ ∀ k v, (xs.map fun u => Value.int .u8 (byteN u))[k]? = some v → w.cell? ⟨p.block, p.off + k, none⟩ = some v) := by
    have cells : ∀ (p : Addr) (ms : List Md) (qc : Own) (qf : Nat → Nat → Own), (∀ i u, getN xs i = some u → tyBytes.Hs P w g.o ms qc (qf i) 0 u p.block (p.off + i * tyBytes.len)) →
        ∀ k v, (xs.map fun u => Value.int .u8 (byteN u))[k]? = some v → w.cell? ⟨p.block, p.off + k, none⟩ = some v := by
      intro p ms qc qf hel k v hk
      rw [List.getElem?_map] at hk
      cases hxk : xs[k]? with
      | none => simp [hxk] at hk
      | some u =>
        simp only [hxk, Option.map_some, Option.some.injEq] at hk
        obtain ⟨⟨v', h1, _, h3⟩, _⟩ := hel k u hxk
        have h3 : v' = .int .u8 u.1 := h3
        rw [← hk]
        rw [h3, show p.off + k * tyBytes.len = p.off + k by show p.off + k * 1 = _; omega] at h1
        exact h1
    cases q with
    | o π =>
      cases ms with
      | own ms =>
        obtain ⟨ad, c, hv, _, h⟩ := H_own.1 hh
        rcases h with h | ⟨p, hp, hs, _, h⟩
        · exact ⟨ad, c, hv, .inl h.1⟩
        · exact ⟨ad, c, hv, .inr ⟨p, hp, hs.1, cells p _ _ (fun i j => .o (π ++ [i, j])) h⟩⟩
      | sh =>
        obtain ⟨ad, c, hv, _, h⟩ := H_sh.1 hh
        rcases h with h | ⟨p, hp, hs, h⟩
        · exact ⟨ad, c, hv, .inl h⟩
        · exact ⟨ad, c, hv, .inr ⟨p, hp, hs, cells p _ _ (fun _ _ => .p) h⟩⟩
    | x =>
      obtain ⟨ad, c, hv, _, h⟩ := (H_p (by simp)).1 hh
      rcases h with h | ⟨p, hp, hs, h⟩
      · exact ⟨ad, c, hv, .inl h⟩
      · exact ⟨ad, c, hv, .inr ⟨p, hp, hs, cells p _ _ (fun _ _ => .p) h⟩⟩
    | p =>
      obtain ⟨ad, c, hv, _, h⟩ := (H_p (by simp)).1 hh
      rcases h with h | ⟨p, hp, hs, h⟩
      · exact ⟨ad, c, hv, .inl h⟩
      · exact ⟨ad, c, hv, .inr ⟨p, hp, hs, cells p _ _ (fun _ _ => .p) h⟩⟩
  obtain ⟨ad, c, hv, hc⟩ := key
  have hrun : (Conv.bytesToString (.slice ad xs.length c)).run P w = .ok (.string (bytesStr xs)) w := by
    cases ad with
    | none =>
      have hx0 : xs = [] := by
        rcases hc with h | ⟨p, hp, _⟩
        · exact h
        · cases hp
      subst hx0
      simp [Conv.bytesToString, bytesStr]
      rfl
    | some p =>
      have hl : (loadCells p xs.length).run P w = .ok ((xs.map byteN).map (Value.int .u8)).toArray w := by
        have e1 : (xs.map byteN).map (Value.int .u8) = xs.map fun u => Value.int .u8 (byteN u) := by rw [List.map_map]; rfl
        rw [e1]
        have := run_loadCells_list (P := P) w p (xs.map fun u => Value.int .u8 (byteN u)) (fun j v hj => by
          rcases hc with h | ⟨p', hp, hs, h⟩
          · subst h; simp at hj
          · cases hp; rw [add_none hs]; exact h j v hj)
        simpa using this
      rw [run_bytesToString w p xs.length c _ hl, push_bytes]
      congr 3
      apply Array.ext'
      simp [Function.comp_def]
  refine done_pure s (v := .string (bytesStr xs)) (tv := .c (.str (bytesStr xs))) ?_ h rfl
  have := run_convert_bytes_string (P := P) w t t2 e ad xs.length c h2 h3 h2'
  simp only [execOp, ho, hv, Sem.run_bind, this, hrun]
  rfl
end
end Go.Tm

/- The pure machine, 26: made rows. -/
namespace Go.Tm
open Go

section
variable {P : Program} {C : Ctx} {env : Nat → TV} {mu mu' : Mu} {a : Act} {w w' : World} {g g' : Gh} {o o' : Nat → Nat → Own} {idb : Nat} {R : Type} {Q : Exit → Act → World → Prop}

theorem rep_take {α : Type} {n : Nat} {vs : List α} (hs : vs.length = n) : ∀ (k i : Nat), i < k → (((List.replicate k vs).flatten.drop (i * n)).take n) = vs
  | 0, i, h => by omega
  | k + 1, 0, _ => by
    rw [List.replicate_succ, List.flatten_cons, Nat.zero_mul, List.drop_zero, ← hs, List.take_left]
  | k + 1, i + 1, h => by
    rw [List.replicate_succ, List.flatten_cons, Nat.add_mul, Nat.one_mul, List.drop_append, List.drop_eq_nil_of_le (by omega), List.nil_append, show i * n + n - vs.length = i * n by omega]
    exact rep_take hs k i (by omega)

theorem flat_rep_len {α : Type} {n : Nat} {vs : List α} (hs : vs.length = n) : ∀ k, (List.replicate k vs).flatten.length = k * n
  | 0 => by simp
  | k + 1 => by rw [List.replicate_succ, List.flatten_cons, List.length_append, hs, flat_rep_len hs k, Nat.add_mul]; omega

theorem rep_get {n : Nat} {vs : List Value} (hs : vs.length = n) (hn : 0 < n) : ∀ (k j : Nat), j < k * n → (List.replicate k vs).flatten[j]? = vs[j % n]?
  | 0, j, h => by simp at h
  | k + 1, j, h => by
    rw [List.replicate_succ, List.flatten_cons]
    by_cases hj : j < n
    · rw [List.getElem?_append_left (by omega), Nat.mod_eq_of_lt hj]
    · have h' : (k + 1) * n = k * n + n := Nat.succ_mul k n
      have hm : j % n = (j - n) % n := Nat.mod_eq_sub_mod (by omega)
      rw [List.getElem?_append_right (by omega), hs, rep_get hs hn k (j - n) (by omega), hm]

theorem madeCells_eq {z : Array Value} {n k : Nat} (hz : z.size = n) (hn : 0 < n) : madeCells z (k * n) = (List.replicate k z.toList).flatten.toArray := by
  apply Array.ext_getElem?
  intro j
  have hl := flat_rep_len (vs := z.toList) (n := n) (by simpa using hz) k
  by_cases hj : j < k * n
  · have h1 := rep_get (vs := z.toList) (n := n) (by simpa using hz) hn k j hj
    simp only [List.getElem?_toArray, h1]
    have hm : j % n < z.size := by rw [hz]; exact Nat.mod_lt _ hn
    simp [madeCells, hj, hz, Array.getElem?_eq_getElem hm]
    exact getElem!_pos z (j % n) hm
  · rw [Array.getElem?_eq_none (by simp [madeCells]; omega), List.getElem?_toArray, List.getElem?_eq_none (by omega)]
theorem op_makeSlice (s : OpSt P C env mu a w g idb) {o : Oper} {t e : Nat} {te : TI} {l c : Operand} (ho : o.op = .makeSlice t l c) {K : TV → List (Nat × Blk) → Option R} {y : R} (hte : elemTI C t = some (e, te)) {n : Int} (hl : evalTV env l = .c (.int .i64 n))
    (hc : evalTV env c = .c (.int .i64 n)) (h0 : 0 ≤ n) (hb : n * te.bytes ≤ 70368744177664 ∧ 0 < te.bytes) (hsz : 0 < te.size) {ms : List Md}
    (h : (packs app0 mu (C.es e) ms 0 te.zero [] fun z rest us => match rest, us with
            | [], [] => K (.c (.own idb)) [(idb, .row (C.es e) ms (List.replicate n.toNat z) 0)]
            | _, _ => none) = some y) : o.wp P a w (Done P w g mu a o.dst K y) Q := by
  obtain ⟨ht, hety, hlen, _⟩ := elemTI_ok s.ty hte
  obtain ⟨inf, d, z, h1, h2, h3, h4, harr, h6, h7, h8, h9, h10, _⟩ := ti_ok (s.ty e te hety)
  have hvl := evalTV_R s.env l
  rw [hl] at hvl
  have hvl : a.eval l = .int .i64 n := hvl
  have hvc := evalTV_R s.env c
  rw [hc] at hvc
  have hvc : a.eval c = .int .i64 n := hvc
  obtain ⟨zd, rest, new, vs1, vs2, h, hspl, hrest, hl1, hz⟩ := packs_okA s.mem s.wf (app0_ok (P := P) (w := w) (g := g) (mu := mu)) (C.es e) (by rw [h10]; exact constCVs_R h4) h
  cases rest with
  | cons _ _ => cases h
  | nil =>
    cases vs2 with
    | cons _ _ => exact hrest.elim
    | nil =>
      simp only [List.append_nil] at hspl h
      cases new with
      | cons _ _ => cases h
      | nil =>
        have hN : ((n.toNat : Nat) : Int) = n := Int.toNat_of_nonneg h0
        have hb1 : n ≤ n * te.bytes := by
          have : (1 : Int) ≤ te.bytes := by omega
          have := Int.mul_le_mul_of_nonneg_left this h0
          omega
        have hrun := run_make (P := P) w t e inf z ht h1 h3 .i64 .i64 n n h0 (Int.le_refl _) (by rw [← h8, Int.mul_comm]; omega) (by omega)
        have hisz : 0 < inf.size := by rw [← h7]; exact hsz
        have hzl : z.cells.toList.length = inf.size := by simpa using h6
        have hel : (C.es e).len = inf.size := by rw [hlen, h7]
        rw [madeCells_eq h6 hisz] at hrun
        have hnx := row_nxt (P := P) (w := w) (g := g) (mu := mu) (idb := idb) s.mem s.wf s.own (s.fresh idb (Nat.le_refl _) (by omega)) (us := []) rfl (es := C.es e) (ms := ms) (xs := List.replicate n.toNat zd) (vals := (List.replicate n.toNat z.cells.toList).flatten) (t := e) (destL := fun _ => [idb]) (fun to => ⟨_, rfl⟩)
          (v := .slice (some ⟨w.heap.size, 0, none⟩) n.toNat n.toNat) (fun _ hp => alloc_H s.wf (cap := n.toNat) (by simp) (by omega) (by simp) (by rw [flat_rep_len hzl, hel]) fun i x hi => by
            have hi2 := List.getElem?_eq_some_iff.1 hi
            obtain ⟨hlt, hx⟩ := hi2
            simp only [List.length_replicate] at hlt
            simp only [List.getElem_replicate] at hx
            subst hx
            rw [hel, rep_take hzl n.toNat i hlt]
            have := hz (fun j => .o [idb, i, j]) _ _ hp (by simp)
            rwa [← hspl] at this)
        refine wp_val (v := .slice (some ⟨w.heap.size, 0, none⟩) n.toNat n.toNat) ?_ ⟨.c (.own idb), _, _, _, rfl, h, hnx.1, hnx.2⟩
        simp only [execOp, ho, hvl, hvc, Sem.run_bind]
        rw [hrun]
        rfl
end
end Go.Tm

/- The pure machine, 27: calls as operations. -/
namespace Go.Tm
open Go

section
variable {P : Program} {C : Ctx} {env : Nat → TV} {mu mu' : Mu} {a : Act} {w w' : World} {g g' : Gh} {o o' : Nat → Nat → Own} {idb : Nat} {R : Type} {Q : Exit → Act → World → Prop}

theorem op_callU (s : OpSt P C env mu a w g idb) {o : Oper} {c : Call} {f : Operand} {fn : Nat} (ho : o.op = .call c) (hc : c.callee = .value f) (hf : evalTV env f = .c (.fnp fn)) {K : TV → List (Nat × Blk) → Option R} {y : R}
    (h : callE C mu idb fn (c.args.toList.map (evalTV env)) K = some y) : o.wp P a w (Done P w g mu a o.dst K y) Q := by
  have hv := evalTV_R s.env f
  rw [hf] at hv
  have hv : a.eval f = .func (.func fn) #[] #[] := hv
  have hent : Enters P fn := by
    cases hcon : C.con fn with
    | none => unfold callE at h; simp [hcon] at h
    | some con => exact (s.con fn con hcon).2
  have hrun : (execOp a.eval o).run P w = .ok (.enter fn (c.args.map a.eval)) w := by
    have := hent (c.args.map a.eval) w
    simp [execOp, ho, resolve, hc, hv, Deferred.ofValue, invoke, this]
  have hcall := callE_ok s.con s.mem s.wf s.own s.fresh (evalTVs_R s.env c.args.toList) h
  rw [show (c.args.toList.map a.eval).toArray = c.args.map a.eval by apply Array.ext'; simp] at hcall
  unfold Oper.wp
  rw [hrun, Oper.upon_enter]
  refine Calls.mono hcall fun e w' he => ?_
  obtain ⟨v, g', tv, ms, rfl, h1, h2, h3⟩ := he
  exact ⟨tv, ms, v, g', rfl, h1, h2, h3⟩
end
end Go.Tm

/- The pure machine, 28: calls of functions that are data. -/
namespace Go.Tm
open Go

section
variable {P : Program} {C : Ctx} {env : Nat → TV} {mu mu' : Mu} {a : Act} {w w' : World} {g g' : Gh} {o o' : Nat → Nat → Own} {idb : Nat} {R : Type} {Q : Exit → Act → World → Prop}

theorem fnd_cells : ∀ (sh : List Nat) (args : List TV) (vals : List Value) {cvs : List CV}, fndU.cells sh args = some cvs → All2 (TV.R P w g mu) args vals → shOk sh vals ∧ cvsR P w g mu cvs (vals.flatMap fun v => v.cells.toList)
  | [], [], [], cvs, h, _ => by
    simp only [fndU.cells, Option.some.injEq] at h; subst h; exact ⟨trivial, trivial⟩
  | [], [], _ :: _, _, _, ha => ha.elim
  | [], _ :: _, _, _, h, _ => by simp [fndU.cells] at h
  | _ :: _, [], _, _, h, _ => by simp [fndU.cells] at h
  | _ :: _, _ :: _, [], _, _, ha => ha.elim
  | 0 :: sh, tv :: args, v :: vals, cvs, h, ha => by
    cases tv with
    | c cv =>
      simp only [fndU.cells] at h
      cases hr : fndU.cells sh args with
      | none => simp [hr] at h
      | some r =>
        simp only [hr, Option.map_some, Option.some.injEq] at h
        subst h
        obtain ⟨h1, h2⟩ := fnd_cells sh args vals hr ha.2
        have hcl := (CV.cellish cv ha.1).cells
        refine ⟨⟨hcl, h1⟩, ?_⟩
        rw [List.flatMap_cons, hcl]
        exact ⟨ha.1, h2⟩
    | _ => simp [fndU.cells] at h
  | (n + 1) :: sh, tv :: args, v :: vals, cvs, h, ha => by
    cases tv with
    | agg vs =>
      simp only [fndU.cells] at h
      cases hl : Nat.beq vs.length n with
      | false => simp [hl] at h
      | true =>
        simp only [hl, cond_true] at h
        cases hr : fndU.cells sh args with
        | none => simp [hr] at h
        | some r =>
          simp only [hr, Option.map_some, Option.some.injEq] at h
          subst h
          obtain ⟨h1, h2⟩ := fnd_cells sh args vals hr ha.2
          obtain ⟨arr, rfl, hc⟩ := ha.1
          have hn := Nat.eq_of_beq_eq_true hl
          have := hc.length
          simp only [Array.length_toList] at this
          refine ⟨⟨⟨arr, rfl, by omega⟩, h1⟩, ?_⟩
          rw [List.flatMap_cons]
          exact All2.append hc h2
    | _ => simp [fndU.cells] at h

theorem All2.r0 : ∀ {cvs : List CV} {vs : List Value}, cvsR P w g mu cvs vs → All2 (CV.R0 P w g.o) cvs vs := fun h => All2.imp (fun _ _ k => CV.R.r0 k) h

theorem op_fnd (s : OpSt P C env mu a w g idb) {o : Oper} {c : Call} {f : Operand} {sh : List Nat} {as rs : Tys} {k : as.D → Option rs.D} (ho : o.op = .call c) (hc : c.callee = .value f) (hf : evalTV env f = .c (.fnd sh as rs k)) {K : TV → List (Nat × Blk) → Option R} {y : R}
    (h : fndU mu sh as rs k (c.args.toList.map (evalTV env)) K = some y) : o.wp P a w (Done P w g mu a o.dst K y) Q := by
  have hv := evalTV_R s.env f
  rw [hf] at hv
  obtain ⟨fn, caps, hv, hent, hcall⟩ := (H_fn (md := .sh) (q := .p)).1 hv
  unfold fndU at h
  cases hcs : fndU.cells sh (c.args.toList.map (evalTV env)) with
  | none => simp [hcs] at h
  | some cvs =>
    simp only [hcs] at h
    obtain ⟨h1, h2⟩ := fnd_cells sh _ _ hcs (evalTVs_R s.env c.args.toList)
    obtain ⟨x, rest, vs1, vs2, h, hspl, hrest, hlen, hx⟩ := packs0_ok as (ms := []) rfl (All2.r0 h2) h
    cases rest with
    | cons _ _ => cases h
    | nil =>
      cases vs2 with
      | cons _ _ => exact hrest.elim
      | nil =>
        simp only [List.append_nil] at hspl h
        cases hk : k x with
        | none => simp [hk] at h
        | some yo =>
          simp only [hk, Option.bind_some] at h
          have hcl := hcall w (noO g.o) noO_perm noO_wf x yo (c.args.toList.map a.eval) hk h1 (by rw [hspl]; exact Vs_perm noO_perm s.wf as (hx _ _))
          have hrun : (execOp a.eval o).run P w = .ok (.enter fn (c.args.map a.eval ++ caps)) w := by
            have := hent (c.args.map a.eval ++ caps) w
            simp [execOp, ho, resolve, hc, hv, Deferred.ofValue, invoke, this]
          rw [show (c.args.toList.map a.eval).toArray = c.args.map a.eval by apply Array.ext'; simp] at hcl
          unfold Oper.wp
          rw [hrun, Oper.upon_enter]
          refine Calls.mono hcl fun e w' he => ?_
          obtain ⟨v2, o2, rfl, hfr, hwf, hvs⟩ := he
          have hfr' := backO_fr hfr
          have hp := backO_perm hfr
          have hv2 := Vs_ros (g := ⟨backO w g.o o2, g.c⟩) (mu := mu) rs (Vs_perm hp hwf rs hvs)
          have hnx : Nxt P w g mu w' ⟨backO w g.o o2, g.c⟩ mu := by
            refine ⟨fun _ => False, ⟨fun b j v hvc _ => ⟨(hfr.cell b j v hvc fun _ => noO_ne).1, by simp [backO, hvc]⟩, fun _ _ => rfl, fun _ h => h, fun _ _ _ => rfl, fun _ _ _ _ _ h => h.elim⟩, hfr', backO_wf hfr s.wf, fun b j id l e => ?_, fun id b h hb => ?_⟩
            · have e : backO w g.o o2 b j = .o (id :: l) := e
              unfold backO at e
              split at e
              · exact s.own b j id l e
              · split at e
                · cases e
                · rename_i e1; exact absurd e (fun e => e1 _ e)
            · rcases h with h | h
              · exact h.elim
              · rw [h] at hb; cases hb
          match hro : rs.ros yo, hv2, h with
          | [cv], hv2, h => exact ⟨.c cv, [], v2, _, rfl, h, hnx, hv2.1⟩
end
end Go.Tm

/- The pure machine, 29: stores into an element of a row. -/
namespace Go.Tm
open Go

section
variable {P : Program} {C : Ctx} {env : Nat → TV} {mu mu' : Mu} {a : Act} {w w' : World} {g g' : Gh} {o o' : Nat → Nat → Own} {idb : Nat} {R : Type} {Q : Exit → Act → World → Prop}

/-- The cells of an element, some set. -/
def putV (old : List Value) (off : Nat) (nv : List Value) : List Value := old.take off ++ nv ++ old.drop (off + nv.length)

theorem setLeaves_ok (hm : MemR P w g mu) (hw : Wf w g.o) {qf : Nat → Own} : ∀ (ts : Tys) {ms : List Md} {j off : Nat} {vs : List CV} {x : ts.D} {us : List Use} {old nv : List Value} (_ : ts.Vs P w g.o ms qf j x old) (_ : cvsR P w g mu vs nv) (_ : off + vs.length ≤ ts.len)
    {K : ts.D → List Use → Option R} {y : R} (_ : setLeaves mu ts ms j off vs x us K = some y),
    ∃ z new, K z (new ++ us) = some y ∧ ∀ (dest : Nat → Own) w' o', PermKeep w g.o w' o' → (∀ u ∈ new, Served dest w g.o w' o' u) → (∀ n, Rl w g.o w' o' (qf n) (dest n)) → ts.Vs P w' o' ms dest j z (putV old off nv)
  | .nil, ms, j, off, [], x, us, old, [], hv, _, _, K, y, h => ⟨(), [], h, fun _ _ _ _ _ _ => by cases (hv : old = []); show putV [] off [] = []; simp [putV]⟩
  | .nil, ms, j, off, [], x, us, old, _ :: _, hv, h, _, K, y, _ => h.elim
  | .nil, ms, j, off, _ :: _, x, us, old, nv, hv, _, hl, K, y, h => by simp [Tys.len] at hl
  | .cons t ts, ms, j, off, [], x, us, old, _ :: _, hv, h, hl, K, y, _ => h.elim
  | .cons t ts, ms, j, off, [], x, us, old, [], hv, _, hl, K, y, h => by
    simp only [setLeaves] at h
    refine ⟨x, [], h, fun dest w' o' hp _ hr => ?_⟩
    have e : putV old off [] = old := by simp [putV]
    rw [e]
    exact Vs_re hp hw (.cons t ts) ms hr hv
  | .cons t ts, ms, j, off, c :: vs, x, us, old, [], hv, h, hl, K, y, _ => h.elim
  | .cons t ts, ms, j, 0, c :: vs, x, us, old, n :: nv, hv, hc, hl, K, y, h => by
    obtain ⟨v0, r, rfl, h1, h2⟩ := hv
    simp only [setLeaves] at h
    obtain ⟨y1, new1, h, hy1⟩ := packLeaf_okA hm hw (app0_ok (P := P) (w := w) (g := g) (mu := mu)) hc.1 h
    obtain ⟨z, new, h, hz⟩ := setLeaves_ok hm hw ts (off := 0) h2 hc.2 (by simp [Tys.len] at hl ⊢; omega) h
    refine ⟨(y1, z), new ++ new1, by rw [List.append_assoc]; exact h, fun dest w' o' hp hs hr => ⟨n, putV r 0 nv, ?_, hy1 dest w' o' hp fun u hu => hs u (by simp [hu]), hz dest w' o' hp (fun u hu => hs u (by simp [hu])) hr⟩⟩
    simp [putV]
  | .cons t ts, ms, j, off + 1, c :: vs, x, us, old, n :: nv, hv, hc, hl, K, y, h => by
    obtain ⟨v0, r, rfl, h1, h2⟩ := hv
    simp only [setLeaves] at h
    obtain ⟨z, new, h, hz⟩ := setLeaves_ok hm hw ts (off := off) h2 hc (by simp [Tys.len] at hl ⊢; omega) h
    refine ⟨(x.1, z), new, h, fun dest w' o' hp hs hr => ⟨v0, putV r off (n :: nv), ?_, H_re hp hw t _ _ _ x.1 v0 (hr j) h1, hz dest w' o' hp hs hr⟩⟩
    simp only [putV, List.take_succ_cons, List.cons_append]
    rw [show off + 1 + (n :: nv).length = off + (n :: nv).length + 1 by omega, List.drop_succ_cons]
end
end Go.Tm

/- The pure machine, 30: a store into an element of a row, the operation. -/
namespace Go.Tm
open Go

section
variable {P : Program} {C : Ctx} {env : Nat → TV} {mu mu' : Mu} {a : Act} {w w' : World} {g g' : Gh} {o o' : Nat → Nat → Own} {idb : Nat} {R : Type} {Q : Exit → Act → World → Prop}

theorem putV_len {old nv : List Value} {off : Nat} (h : off + nv.length ≤ old.length) : (putV old off nv).length = old.length := by
  simp [putV]; omega

theorem putV_get {old nv : List Value} {off k : Nat} (h : off + nv.length ≤ old.length) : (putV old off nv)[k]? = if off ≤ k ∧ k < off + nv.length then nv[k - off]? else old[k]? := by
  unfold putV
  by_cases h1 : k < off
  · rw [if_neg (by omega), List.append_assoc, List.getElem?_append_left (by simp; omega), List.getElem?_take, if_pos h1]
  · by_cases h2 : k < off + nv.length
    · rw [if_pos (by omega), List.append_assoc, List.getElem?_append_right (by simp; omega), List.length_take, Nat.min_eq_left (by omega), List.getElem?_append_left (by omega)]
    · rw [if_neg (by omega), List.getElem?_append_right (by simp; omega), List.getElem?_drop]
      congr 1
      simp
      omega

theorem useF_none {us : List Use} {dest : Nat → List Nat} {id : Nat} (h : hasId id us = false) (s : List Nat) : useF us dest id s = .o (id :: s) := by
  have : findU id us = none := by
    cases hf : findU id us with
    | none => rfl
    | some u => obtain ⟨h1, h2⟩ := findU_id hf; exact absurd h1 (hasId_mem h u h2)
  simp [useF, this]

theorem op_store_el (s : OpSt P C env mu a w g idb) {o : Oper} {t : Nat} {x v : Operand} (ho : o.op = .store t x v) {K : TV → List (Nat × Blk) → Option R} {y : R} {ti : TI} (ht : C.ty t = some ti) {id i off : Nat} {es : Tys} {ms : List Md} {xs : List es.D} {ver : Nat}
    (hx : evalTV env x = .c (.eptr id es.len i off)) {vs : List CV} (hv : cellsOf (evalTV env v) = some vs) (hlen : vs.length = ti.size) (hb : mu id = some (.row es ms xs ver)) (hle : off + vs.length ≤ es.len) {x0 : es.D} (hx0 : getN xs i = some x0)
    (h : (setLeaves mu es ms 0 off vs x0 [] fun z us => bif usesOk us && !hasId id us then K .und (fzs mu us ++ [(id, .row es ms (xs.set i z) (ver + 1))]) else none) = some y) : o.wp P a w (Done P w g mu a o.dst K y) Q := by
  obtain ⟨inf, d, z, h1, h2, h3, h4, harr, h6, h7, _⟩ := ti_ok (s.ty t ti ht)
  have hvx := evalTV_R s.env x
  rw [hx] at hvx
  obtain ⟨_, ad, n, cp, hc, hsp, hvx⟩ := hvx
  have hr := cellsOf_R hv (evalTV_R s.env v)
  have hrl := hr.length
  obtain ⟨v', hc', hh⟩ := s.mem id _ hb
  rw [hc] at hc'
  cases hc'
  obtain ⟨ad', cp', he, hcap, hh⟩ := H_own.1 hh
  cases he
  have hi : i < xs.length := (List.getElem?_eq_some_iff.1 hx0).1
  rcases hh with ⟨rfl, _⟩ | ⟨p, hp, hcapok, hown, hh⟩
  · simp at hi
  · cases hp
    obtain ⟨vals, r1, r2, r3, r4⟩ := row_vals (qf := fun i j => .o ([id] ++ [i, j])) xs ad.off 0 (by simpa using hh)
    have hmul : (i + 1) * es.len ≤ xs.length * es.len := Nat.mul_le_mul_right _ hi
    rw [Nat.add_mul, Nat.one_mul] at hmul
    have hold := r4 i x0 hx0
    simp only [Nat.zero_add] at hold
    obtain ⟨z1, us, h, hz⟩ := setLeaves_ok s.mem s.wf es hold hr hle h
    simp only [List.append_nil] at h
    cases hu : (usesOk us && !hasId id us) with
    | false => rw [hu] at h; cases h
    | true =>
      rw [hu, cond_true] at h
      simp only [Bool.and_eq_true, Bool.not_eq_true'] at hu
      obtain ⟨hus, hno⟩ := hu
      let nv := (a.eval v).cells.toList
      let destL : Nat → List Nat := fun j => [id, i, j]
      have hvl : vals.length = xs.length * es.len := r1
      have hcellv : ∀ k, k < nv.length → ∃ u, w.cell? ⟨ad.block, ad.off + i * es.len + off + k, none⟩ = some u ∧ g.o ad.block (ad.off + i * es.len + off + k) = .o [id] := by
        intro k hk
        have hk : k < vs.length := by rw [hrl]; exact hk
        have hlt : i * es.len + off + k < vals.length := by omega
        have := r2 _ _ (List.getElem?_eq_getElem hlt)
        exact ⟨_, by rw [show ad.off + i * es.len + off + k = ad.off + (i * es.len + off + k) by omega]; exact this.1, by rw [show ad.off + i * es.len + off + k = ad.off + (i * es.len + off + k) by omega]; exact this.2⟩
      have hcell : ∀ k, k < nv.length → g.o ad.block (ad.off + i * es.len + off + k) = .o [id] := fun k hk => (hcellv k hk).elim fun _ h => h.2
      have hex : ∀ k, k < nv.length → ∃ u, w.cell? ⟨ad.block, ad.off + i * es.len + off + k, none⟩ = some u := fun k hk => (hcellv k hk).elim fun u h => ⟨u, h.1⟩
      let w' := w.setCells ad.block (ad.off + i * es.len + off) nv
      let g' : Gh := ⟨fun b k => re (useF us destL) (g.o b k), g.c⟩
      have hmv : Mvd w g w' g' (useF us destL) (fun b k => b = ad.block ∧ ad.off + i * es.len + off ≤ k ∧ k < ad.off + i * es.len + off + nv.length) := set_mvd (id0 := id) s.wf hcell
      have hwr : ∀ b k, (b = ad.block ∧ ad.off + i * es.len + off ≤ k ∧ k < ad.off + i * es.len + off + nv.length) → g.o b k = .o [id] := by
        rintro b k ⟨rfl, h1, h2⟩
        have := hcell (k - (ad.off + i * es.len + off)) (by omega)
        rwa [show ad.off + i * es.len + off + (k - (ad.off + i * es.len + off)) = k by omega] at this
      have hne : ∀ u ∈ us, useId u ≠ id := hasId_mem hno
      have hsv : ∀ u ∈ us, Served (fun to => .o (destL to)) w g.o w' g'.o u := by
        intro u hm
        have hu := hne u hm
        cases u with
        | mv id2 to => exact hmv.rl (l := []) (by simp) (fun s => by simp [useF_mv hus hm, ext]) (fun b k hb s e => by rw [hwr b k hb] at e; simp at e; exact hu e.1.symm)
        | pm id2 => exact hmv.rl (l := []) (by simp) (fun s => by simp [useF_pm hus hm, ext]) (fun b k hb s e => by rw [hwr b k hb] at e; simp at e; exact hu e.1.symm)
      have hidr : ∀ k n, Rl w g.o w' g'.o (.o [id, k, n]) (.o [id, k, n]) := fun k n =>
        hmv.rl (l := [k, n]) (by simp) (fun s => by rw [useF_none hno]; simp [ext]) (fun b k hb s e => by rw [hwr b k hb] at e; simp at e)
      have hown' : ∀ k, k < cp * es.len → g'.o ad.block (ad.off + k) = .o [id] := fun k hk => by
        show re _ (g.o ad.block (ad.off + k)) = _
        rw [hown k hk]; exact useF_none hno []
      have hcapm : xs.length * es.len ≤ cp * es.len := Nat.mul_le_mul_right _ hcap
      have hkeep : ∀ m u, vals[m]? = some u → (m < i * es.len + off ∨ i * es.len + off + nv.length ≤ m) → w'.cell? ⟨ad.block, ad.off + m, none⟩ = some u := by
        intro m u hm hout
        show (w.setCells _ _ _).cell? _ = _
        rw [World.cell?_setCells_out ad.block nv (ad.off + i * es.len + off) w ⟨ad.block, ad.off + m, none⟩ (fun _ _ => by
          show ad.off + m < ad.off + i * es.len + off ∨ ad.off + i * es.len + off + nv.length ≤ ad.off + m
          omega)]
        exact (r2 m u hm).1
      have hvals : ∀ m, m < vals.length → m < cp * es.len := fun m hm => by omega
      have hH : (Ty.sl es).H P w' g'.o (.own ms) (.o [id]) (xs.set i z1) (.slice (some ad) xs.length cp) := by
        refine H_own.2 ⟨some ad, cp, by rw [List.length_set], by rw [List.length_set]; exact hcap, .inr ⟨ad, rfl, hcapok, hown', fun k y' hk => ?_⟩⟩
        unfold getN at hk
        by_cases hki : k = i
        · subst hki
          rw [List.getElem?_set_self hi] at hk
          cases hk
          have hV := hz (fun to => .o (destL to)) w' g'.o hmv.perm hsv (fun n => hidr k n)
          have hol : ((vals.drop (k * es.len)).take es.len).length = es.len := by simp; omega
          have hpl : off + nv.length ≤ ((vals.drop (k * es.len)).take es.len).length := by rw [hol, ← hrl]; exact hle
          refine Vs_hs es hV fun m u hm => ?_
          have hml : m < es.len := by
            have := (List.getElem?_eq_some_iff.1 hm).1
            rwa [putV_len hpl, hol] at this
          rw [putV_get hpl] at hm
          refine ⟨?_, by rw [Nat.add_assoc]; exact hown' _ (hvals _ (by omega))⟩
          by_cases hin : off ≤ m ∧ m < off + nv.length
          · rw [if_pos hin] at hm
            have hlt : m - off < nv.length := by omega
            have := World.cell?_setCells_in ad.block nv (ad.off + k * es.len + off) w (fun j hj => by obtain ⟨u, hu⟩ := hex j hj; simp [hu]) (m - off) hlt
            rw [List.getElem?_eq_getElem hlt] at hm
            cases hm
            rw [show ad.off + k * es.len + m = ad.off + k * es.len + off + (m - off) by omega]
            exact this
          · rw [if_neg hin] at hm
            rw [Nat.add_assoc]
            exact hkeep _ u (All2.getD_drop_take hm) (by omega)
        · rw [List.getElem?_set_ne (Ne.symm hki)] at hk
          have hkl : k < xs.length := (List.getElem?_eq_some_iff.1 hk).1
          have hmk : (k + 1) * es.len ≤ xs.length * es.len := Nat.mul_le_mul_right _ hkl
          rw [Nat.add_mul, Nat.one_mul] at hmk
          have hV := r4 k y' hk
          simp only [Nat.zero_add] at hV
          refine Vs_hs es (Vs_re hmv.perm s.wf es ms (fun n => hidr k n) hV) fun m u hm => ?_
          have hml : m < es.len := by
            have := (List.getElem?_eq_some_iff.1 hm).1
            simp at this; omega
          refine ⟨?_, by rw [Nat.add_assoc]; exact hown' _ (hvals _ (by omega))⟩
          rw [Nat.add_assoc]
          refine hkeep _ u (All2.getD_drop_take hm) ?_
          rcases Nat.lt_or_gt_of_ne hki with hlt | hgt
          · have : (k + 1) * es.len ≤ i * es.len := Nat.mul_le_mul_right _ hlt
            rw [Nat.add_mul, Nat.one_mul] at this
            omega
          · have : (i + 1) * es.len ≤ k * es.len := Nat.mul_le_mul_right _ hgt
            rw [Nat.add_mul, Nat.one_mul] at this
            have : nv.length = vs.length := hrl.symm
            omega
      have hidm : mu id ≠ none := by simp [hb]
      have hfw : ∀ b k, (b = ad.block ∧ ad.off + i * es.len + off ≤ k ∧ k < ad.off + i * es.len + off + nv.length) → ∀ id' s, Use.pm id' ∈ us → g.o b k ≠ .o (id' :: s) := by
        intro b k hbk id' l hm e
        rw [hwr b k hbk] at e; simp at e
        exact hne _ hm e.1.symm
      have hnx : Nxt P w g mu w' g' (updL mu (fzs mu us ++ [(id, .row es ms (xs.set i z1) (ver + 1))])) := by
        refine set_nxt (T := fun k => k = id ∨ ∃ u ∈ us, useId u = k) (id0 := id) s.wf s.own (fun _ => .inl rfl) hcell (fun _ _ => rfl) (fun k l hT => ?_) (fun k l => ?_) (fun k l p l' h1 h2 => ?_) (fun k hT h1 b hb' => ?_) (fun k es' ms' xs' ver' hT h1 h2 => ?_) (fun k b h1 h2 => ?_)
        · have : findU k us = none := by
            cases hf : findU k us with
            | none => rfl
            | some u => obtain ⟨h1, h2⟩ := findU_id hf; exact absurd (.inr ⟨u, h2, h1⟩) hT
          simp [useF, this]
        · unfold useF
          split <;> simp [destL]
        · unfold useF at h2
          split at h2
          · cases h2; exact updL_some hidm
          · cases h2
          · cases h2; exact updL_some h1
        · rcases List.mem_append.1 hb' with hb' | hb'
          · rcases fzs_mem hb' with ⟨_, to, h⟩ | ⟨h, _⟩
            · exact hT (.inr ⟨_, h, rfl⟩)
            · exact hT (.inr ⟨_, h, rfl⟩)
          · simp at hb'; exact hT (.inl hb'.1)
        · rcases updL_cases h2 with h2 | ⟨hn, h2⟩
          · rcases List.mem_append.1 h2 with h2 | h2
            · rcases fzs_mem h2 with ⟨h, _⟩ | ⟨_, ⟨_, _, _, _, _, h⟩ | ⟨h, _⟩⟩ <;> cases h
            · simp only [List.mem_singleton] at h2
              cases h2
              exact ⟨_, _, _, _, hb, by omega⟩
          · rcases hT with rfl | ⟨u, hu1, hu2⟩
            · exact absurd (List.mem_append_right _ (List.mem_singleton.2 rfl)) (hn _)
            · cases u with
              | mv j to => cases hu2; exact absurd (List.mem_append_left _ (fzs_of_mv hu1)) (hn _)
              | pm j =>
                cases hu2
                obtain ⟨b', h'⟩ := fzs_of_pm hu1 _ h2 (.inl ⟨_, _, _, _, rfl⟩)
                exact absurd (List.mem_append_left _ h') (hn _)
        · rcases updL_cases h2 with h2 | ⟨hn, h2⟩
          · rcases List.mem_append.1 h2 with h2 | h2
            · exact fz_blk s.mem s.wf hus hmv hfw (fun _ _ => rfl) (.inl h2)
            · simp only [List.mem_singleton] at h2
              cases h2
              exact ⟨_, hc, hH⟩
          · rcases h1 with (rfl | ⟨u, hu1, hu2⟩) | h1
            · exact absurd (List.mem_append_right _ (List.mem_singleton.2 rfl)) (hn _)
            · cases u with
              | mv j to => cases hu2; exact absurd (List.mem_append_left _ (fzs_of_mv hu1)) (hn _)
              | pm j => cases hu2; exact fz_blk s.mem s.wf hus hmv hfw (fun _ _ => rfl) (.inr ⟨hu1, fun b' hb' => hn b' (List.mem_append_left _ hb'), h2⟩)
            · rw [h1] at h2; cases h2
      have hst := run_storeCells_cells (P := P) ad.block (ad.off + i * es.len + off) nv 0 w (fun j hj => by obtain ⟨u, hu⟩ := hex j hj; simp [hu]) (fun j hj => by
        exact (s.wf.cell _ _ _ (hcell j hj)).2 _) (fun u hu => by
        obtain ⟨j, hj, rfl⟩ := List.getElem_of_mem hu
        have hj' : j < vs.length := by rw [hrl]; exact hj
        obtain ⟨u', hu', hr'⟩ := All2.get j vs[j] hr (List.getElem?_eq_getElem hj')
        have : nv[j]? = some u' := hu'
        rw [List.getElem?_eq_getElem hj] at this
        cases this
        exact cellish_one (CV.cellish _ hr'))
      simp only [Nat.add_zero] at hst
      have hsz : (a.eval v).cells.size = inf.size := by
        simp only [Array.length_toList] at hrl
        omega
      have hrun' : (execOp a.eval o).run P w = .ok .skip w' := by
        simp only [execOp, ho, Instr.storeAt, hvx, Instr.sureAddr, storeVar, Sem.run_bind, Sem.run_pure, Result.andThen_ok, sizeOf, run_typeInfo w h1, hsz, ne_eq, not_true_eq_false, if_false]
        rw [show (storeCells ⟨ad.block, ad.off + i * es.len + off, none⟩ (a.eval v).cells.toList).run P w = .ok () w' from hst]
        rfl
      unfold Oper.wp
      rw [hrun']
      exact ⟨.und, _, undef, g', rfl, h, hnx, rfl⟩
end
end Go.Tm

/- The pure machine, 30b: a box that is told for good where it is filled. -/
namespace Go.Tm
open Go

section
variable {P : Program} {C : Ctx} {env : Nat → TV} {mu mu' : Mu} {a : Act} {w w' : World} {g g' : Gh} {idb : Nat} {R : Type} {Q : Exit → Act → World → Prop}

theorem Nxt.trans {w1 w2 : World} {g1 g2 : Gh} {mu1 mu2 : Mu} (hm : MemR P w g mu) (hw : Wf w g.o) (h : Nxt P w g mu w1 g1 mu1) (k : Nxt P w1 g1 mu1 w2 g2 mu2) : Nxt P w g mu w2 g2 mu2 := by
  have hm1 := memNxt hm hw h
  obtain ⟨T1, S1, F1, W1, O1, M1⟩ := h
  have hm2 := memNxt hm1 W1 k
  obtain ⟨T2, S2, F2, W2, O2, M2⟩ := k
  refine ⟨fun i => T1 i ∨ T2 i, ⟨fun b k v hv hn => ?_, fun i hi => (S2.c i (S1.pres i hi)).trans (S1.c i hi), fun i hi => S2.pres i (S1.pres i hi), fun i hT hi => (S2.same i (fun h => hT (.inr h)) (S1.pres i hi)).trans (S1.same i (fun h => hT (.inl h)) hi), fun i es ms xs ver hT hi hr => ?_⟩, F1.trans W1 F2, W2, O2, fun i b _ hb => hm2 i b hb⟩
  · obtain ⟨h1, h2⟩ := S1.cell b k v hv (fun id s e h => hn id s e (.inl h))
    obtain ⟨h3, h4⟩ := S2.cell b k v h1 (fun id s e h => hn id s (by rw [← h2]; exact e) (.inr h))
    exact ⟨h3, h4.trans h2⟩
  · by_cases h2 : T2 i
    · obtain ⟨es', ms', xs', ver', hr', hlt⟩ := S2.ver i es ms xs ver h2 (S1.pres i hi) hr
      by_cases h1 : T1 i
      · obtain ⟨es2, ms2, xs2, ver2, hr2, hlt2⟩ := S1.ver i es' ms' xs' ver' h1 hi hr'
        exact ⟨es2, ms2, xs2, ver2, hr2, by omega⟩
      · rw [S1.same i h1 hi] at hr'
        exact ⟨es', ms', xs', ver', hr', hlt⟩
    · have h1 : T1 i := hT.resolve_right h2
      rw [S2.same i h2 (S1.pres i hi)] at hr
      exact S1.ver i es ms xs ver h1 hi hr

/-- A box, read for good from here on. -/
theorem Nxt.freezeBox (hm : MemR P w g mu) (hw : Wf w g.o) (hown : ∀ b k id s, g.o b k = .o (id :: s) → mu id ≠ none) {id0 : Nat} {cs : List CV} {es : Tys} {x : es.D} (hb : mu id0 = some (.box cs))
    (hp : packs (R := es.D × List Use) app0 mu es [] 0 cs [] packEnd = some (x, [])) : ∃ g', Nxt P w g mu w g' (updL mu [(id0, .rbox es x)]) := by
  let us : List Use := [.pm id0]
  have huk : usesOk us = true := rfl
  have hfind : ∀ id, id ≠ id0 → findU id us = none := fun id h => if_neg (fun e => h (Eq.symm e))
  have hm0 : Mvd w g (w.setCells 0 0 []) ⟨fun b k => re (useF us fun _ => [0]) (g.o b k), g.c⟩ (useF us fun _ => [0]) (fun b k => b = 0 ∧ 0 ≤ k ∧ k < 0 + ([] : List Value).length) := set_mvd (id0 := 0) hw (by simp)
  obtain ⟨b, base, hc, hbox⟩ := hm _ _ hb
  obtain ⟨vs, hvs, hcells⟩ := box_vs cs hbox
  obtain ⟨y, rest, new, vs1, vs2, hK, hspl, hrest, hlen1, hvs1⟩ := packs_ok hm hw (fun _ => .p) app0_ok es hvs hp
  cases rest with
  | cons _ _ => cases hK
  | nil =>
  simp only [packEnd, Option.some.injEq, Prod.mk.injEq, List.append_nil] at hK
  obtain ⟨rfl, rfl⟩ := hK
  cases vs2 with
  | cons _ _ => exact hrest.elim
  | nil =>
  rw [List.append_nil] at hspl
  subst hspl
  have hV := hvs1 w (fun b k => re (useF us fun _ => [0]) (g.o b k)) hm0.perm (fun u hu => by cases hu)
  have hH : es.Hs P w (fun b k => re (useF us fun _ => [0]) (g.o b k)) [] .p (fun _ => .p) 0 y b base := Vs_hs es (Vs_q es hV) (fun k v hv => by
    obtain ⟨h1, h2⟩ := hcells k v hv
    refine ⟨h1, ?_⟩
    show re _ (g.o b (base + k)) = .p
    rw [h2]
    simp [re, useF_pm huk (List.mem_singleton.2 rfl)])
  refine ⟨⟨fun b k => re (useF us fun _ => [0]) (g.o b k), g.c⟩, set_nxt (T := fun id => id = id0) (vs := []) (b0 := 0) (off := 0) (id0 := 0) hw hown (by simp) (by simp) (fun _ _ => rfl) (fun id s h => by simp [useF, hfind id h]) (fun id s => ?_) (fun id s p l h1 h2 => ?_) (fun id h1 h2 b hb => ?_) (fun id es' ms' xs' ver' h1 h2 h3 => ?_) (fun id bl h1 h2 => ?_)⟩
  · unfold useF
    split <;> simp
  · have : useF us (fun _ => [0]) id s = .o (p :: l) := h2
    unfold useF at this
    split at this
    · rename_i e
      obtain ⟨_, h3⟩ := findU_id e
      simp [us] at h3
    · cases this
    · cases this; exact updL_some h1
  · simp at hb; exact h1 hb.1
  · subst h1
    simp [updL, upd, Nat.beq_refl] at h3
  · rcases h1 with h1 | h1
    · subst h1
      simp [updL, upd, Nat.beq_refl] at h2
      subst h2
      exact ⟨b, base, hc, hH⟩
    · rcases updL_cases h2 with h2 | ⟨_, h2⟩
      · simp at h2
        rw [h2.1, hb] at h1; cases h1
      · rw [h1] at h2; cases h2

theorem op_store_fz (s : OpSt P C env mu a w g idb) {o : Oper} {t : Nat} {x v : Operand} (ho : o.op = .store t x v) {K : TV → List (Nat × Blk) → Option R} {y : R} {ti : TI} (ht : C.ty t = some ti) {id : Nat} (hx : evalTV env x = .c (.ptr id 0)) {vs cs : List CV}
    (hv : cellsOf (evalTV env v) = some vs) (hlen : vs.length = ti.size) (hb : mu id = some (.box cs)) (hcl : vs.length = cs.length) {es : Tys} {xd : es.D}
    (hp : packs (R := es.D × List Use) app0 (updL mu [(id, .box vs)]) es [] 0 vs [] packEnd = some (xd, [])) (h : K .und [(id, .box vs), (id, .rbox es xd)] = some y) : o.wp P a w (Done P w g mu a o.dst K y) Q := by
  obtain ⟨inf, d, z, h1, h2, h3, h4, harr, h6, h7, _⟩ := ti_ok (s.ty t ti ht)
  have hvx := evalTV_R s.env x
  rw [hx] at hvx
  obtain ⟨_, b, base, hc, hvx⟩ := hvx
  have hr := cellsOf_R hv (evalTV_R s.env v)
  obtain ⟨hrun, hn⟩ := store_box s hb hc (off := 0) hr (by omega)
  have hfill : fillCV cs 0 vs = vs := by
    refine List.ext_getElem? (fun j => ?_)
    rw [fillCV_get vs cs 0 j (by omega)]
    by_cases hj : 0 ≤ j ∧ j < 0 + vs.length
    · rw [if_pos hj, Nat.sub_zero]
    · rw [if_neg hj, List.getElem?_eq_none (by omega), List.getElem?_eq_none (by omega)]
  rw [hfill] at hn
  have hsz : (a.eval v).cells.size = inf.size := by
    have := hr.length
    simp only [Array.length_toList] at this
    omega
  have hrun' : (execOp a.eval o).run P w = .ok .skip (w.setCells b (base + 0) (a.eval v).cells.toList) := by
    simp only [execOp, ho, Instr.storeAt, hvx, Instr.sureAddr, storeVar, Sem.run_bind, Sem.run_pure, Result.andThen_ok, sizeOf, run_typeInfo w h1, hsz, ne_eq, not_true_eq_false, if_false, hrun]
  have hm1 := memNxt s.mem s.wf hn
  have hn0 := hn
  obtain ⟨T, S0, F0, W0, O0, M0⟩ := hn0
  obtain ⟨g2, hn2⟩ := Nxt.freezeBox hm1 W0 O0 (id0 := id) (cs := vs) (by simp [updL, upd, Nat.beq_refl]) hp
  unfold Oper.wp
  rw [hrun']
  exact ⟨.und, _, undef, _, rfl, h, Nxt.trans s.mem s.wf hn hn2, rfl⟩

theorem leaf_empty {R : Type} {ty : Ty} {to : Nat} {cv : CV} {us : List Use} {K : ty.D → List Use → Option R} {y : R} (h : packLeaf app0 (fun _ => none) ty .sh to cv us K = some y) :
    ∃ x us', K x us' = some y ∧ ∀ (R' : Type) (K' : ty.D → List Use → Option R'), packLeaf app0 mu ty .sh to cv us K' = K' x us' := by
  cases ty with
  | int k =>
    cases cv <;> simp only [packLeaf] at h <;> try (cases h; done)
    case int k' n =>
      split at h
      · rename_i e; exact ⟨n, us, h, fun R' K' => by simp [packLeaf, e]⟩
      · cases h
  | bool =>
    cases cv <;> simp only [packLeaf] at h <;> try (cases h; done)
    case bool b => exact ⟨b, us, h, fun R' K' => by simp [packLeaf]⟩
  | str =>
    cases cv <;> simp only [packLeaf] at h <;> try (cases h; done)
    case str b => exact ⟨b, us, h, fun R' K' => by simp [packLeaf]⟩
  | sl es =>
    cases cv <;> simp only [packLeaf, packSl] at h <;> try (cases h; done)
    case nils => exact ⟨[], us, h, fun R' K' => by simp [packLeaf, packSl]⟩
    case ro es' xs =>
      cases he : Tys.eq? es' es with
      | none => simp [he] at h
      | some q =>
        obtain ⟨q⟩ := q
        simp only [he] at h
        exact ⟨castL q xs, us, h, fun R' K' => by simp [packLeaf, packSl, he]⟩
    all_goals simp [content] at h
  | fn sh ar rs =>
    cases cv <;> simp only [packLeaf, app0] at h <;> try (cases h; done)
    case fnd sh' ar' rs' g =>
      cases he : Ty.eq? (.fn sh' ar' rs') (.fn sh ar rs) with
      | none => simp [he] at h
      | some q =>
        obtain ⟨q⟩ := q
        simp only [he] at h
        exact ⟨castF q g, us, h, fun R' K' => by simp [packLeaf, he]⟩
    all_goals (split at h <;> cases h)

theorem packs_empty : ∀ (ts : Tys) {to : Nat} {cvs : List CV} {us : List Use} {R : Type} {K : ts.D → List CV → List Use → Option R} {y : R}, packs app0 (fun _ => none) ts [] to cvs us K = some y →
    ∃ x rest us', K x rest us' = some y ∧ ∀ (R' : Type) (K' : ts.D → List CV → List Use → Option R'), packs app0 mu ts [] to cvs us K' = K' x rest us'
  | .nil, _, cvs, us, _, _, _, h => ⟨(), cvs, us, h, fun _ _ => rfl⟩
  | .cons t ts, to, [], us, R, K, y, h => by simp [packs] at h
  | .cons t ts, to, cv :: cvs, us, R, K, y, h => by
    simp only [packs] at h
    obtain ⟨x, us1, h1, h2⟩ := leaf_empty (mu := mu) h
    obtain ⟨xs, rest, us2, h3, h4⟩ := packs_empty ts h1
    refine ⟨(x, xs), rest, us2, h3, fun R' K' => ?_⟩
    simp only [packs]
    have h2 := h2 R' (fun x us => packs app0 mu ts [] (to + 1) cvs us fun r cvs us => K' (x, r) cvs us)
    exact h2.trans (h4 _ _)

theorem op_box_fz (s : OpSt P C env mu a w g idb) {o : Oper} {e : TypeId} {x : Operand} (ho : o.op = .box e x) {K : TV → List (Nat × Blk) → Option R} {y : R} {cs : List CV} (hx : cellsOf (evalTV env x) = some cs) {es : Tys} {xd : es.D}
    (hp : packs (R := es.D × List Use) app0 (fun _ => none) es [] 0 cs [] packEnd = some (xd, [])) (h : K (.c (.ptr idb 0)) [(idb, .box cs), (idb, .rbox es xd)] = some y) : o.wp P a w (Done P w g mu a o.dst K y) Q := by
  obtain ⟨g', hn, hpp, _⟩ := Nxt.box s (cellsOf_R hx (evalTV_R s.env x)) e
  have hm1 := memNxt s.mem s.wf hn
  have hn0 := hn
  obtain ⟨T, S0, F0, W0, O0, M0⟩ := hn0
  obtain ⟨x2, rest, us2, hz, hk⟩ := packs_empty (mu := updL mu [(idb, .box cs)]) es hp
  obtain ⟨g2, hn2⟩ := Nxt.freezeBox hm1 W0 O0 (id0 := idb) (cs := cs) (by simp [updL, upd, Nat.beq_refl]) ((hk _ packEnd).trans hz)
  obtain ⟨q1, b, base, q2, q3⟩ := hpp
  have hn2' := hn2
  obtain ⟨T2, S2, F2, W2, O2, M2⟩ := hn2'
  refine wp_val (v := .pointer (some ⟨w.heap.size, 0, none⟩)) (w' := w.alloc (.cells (a.eval x).cells e)) ?_ ⟨.c (.ptr idb 0), _, _, g2, rfl, h, ?_, ?_⟩
  · simp [execOp, ho, Instr.box, newVar, newRow]
  · have h9 := Nxt.trans s.mem s.wf hn hn2
    exact h9
  · have h8 : updL (updL mu [(idb, .box cs)]) [(idb, .rbox es xd)] idb ≠ none := updL_some q1
    exact TV.c_R ⟨h8, b, base, (S2.c idb q1).trans q2, q3⟩
end
end Go.Tm

/- The pure machine, 30: each operation does as the pure machine says. -/
namespace Go.Tm
open Go

section
variable {P : Program} {C : Ctx} {env : Nat → TV} {mu : Mu} {a : Act} {w : World} {g : Gh} {idb : Nat} {R : Type} {Q : Exit → Act → World → Prop}

theorem opt2 {α : Type} {x : Option α} (h : x = none → False) : ∃ y, x = some y := by
  cases x with
  | none => exact (h rfl).elim
  | some y => exact ⟨y, rfl⟩

theorem opU_unary (s : OpSt P C env mu a w g idb) {o : Oper} {rid i : Nat} {K : TV → List (Nat × Blk) → Option R} {y : R} (h : opU C env mu idb rid i o K = some y) {op : UnOp} {t : TypeId} {x : Operand} (hop : o.op = .unOp op t x) :
    o.wp P a w (Done P w g mu a o.dst K y) Q := by
  simp only [opU, hop] at h
  have hv := evalTV_R s.env x
  split at h
  · rename_i b hx
    rw [hx] at hv
    have hv : a.eval x = .bool b := hv
    exact op_unOp s hop (tv := .c (.bool (!b))) (v := .bool (!b)) (by rw [hv]; simp [Op.unary]) rfl h
  · rename_i k n hx
    rw [hx] at hv
    have hv : a.eval x = .int k n := hv
    exact op_unOp s hop (tv := .c (.int k (iSub k 0 n))) (v := .int k (iSub k 0 n)) (by rw [hv]; simp [Op.unary, Op.intArith, iSub, Int.zero_sub]) rfl h
  · rename_i k n hx
    rw [hx] at hv
    have hv : a.eval x = .int k n := hv
    exact op_unOp s hop (tv := .c (.int k (iXor k (if k.signed then -1 else k.max) n))) (v := .int k (iXor k (if k.signed then -1 else k.max) n)) (by rw [hv]; simp [Op.unary, Op.intBits, iXor]) rfl h
  · cases h

theorem opU_slice (s : OpSt P C env mu a w g idb) {o : Oper} {rid i : Nat} {K : TV → List (Nat × Blk) → Option R} {y : R} (h : opU C env mu idb rid i o K = some y) {t : TypeId} {x : Operand} {lo hi : Option Operand} (hop : o.op = .slice t x lo hi none) :
    o.wp P a w (Done P w g mu a o.dst K y) Q := by
  simp only [opU, hop] at h
  cases ht : C.ty t with
  | none => simp [ht] at h
  | some ti =>
    cases hx : evalTV env x <;> simp only [ht, hx] at h <;> try (cases h; done)
    case c cv =>
      cases hk : ti.k <;> simp only [hk] at h <;> try (cases h; done)
      case str =>
        cases cv <;> simp only at h <;> try (cases h; done)
        case str b => exact op_slice_str s hop ht hk hx h
      case slice e0 =>
        cases he : elemTI C t with
        | none => cases cv <;> simp [he] at h
        | some p =>
          obtain ⟨e, te⟩ := p
          have key : (∀ b, cv ≠ .str b) → (bif esOk mu (C.es e).len cv then sliceU mu cv (lo.map (evalTV env)) (hi.map (evalTV env)) K else none) = some y → o.wp P a w (Done P w g mu a o.dst K y) Q := by
            intro hns h
            cases hes : esOk mu (C.es e).len cv with
            | false => simp [hes] at h
            | true => rw [hes] at h; exact op_slice_row s hop he hx hns hes h
          cases cv <;> simp only [he] at h <;> first | (cases h; done) | exact key (by simp) h

theorem opU_conv (s : OpSt P C env mu a w g idb) {o : Oper} {rid i : Nat} {K : TV → List (Nat × Blk) → Option R} {y : R} (h : opU C env mu idb rid i o K = some y) {t t2 : TypeId} {x : Operand} (hop : o.op = .convert t t2 x) :
    o.wp P a w (Done P w g mu a o.dst K y) Q := by
  simp only [opU, hop] at h
  have hvx := evalTV_R s.env x
  cases ht : C.ty t with
  | none => simp [ht] at h
  | some si =>
    cases ht2 : C.ty t2 with
    | none => simp [ht, ht2] at h
    | some ti =>
      cases hx : evalTV env x <;> simp only [ht, ht2, hx] at h <;> try (cases h; done)
      case c cv =>
        rw [hx] at hvx
        cases hk : ti.k <;> simp only [hk] at h <;> try (cases h; done)
        case int k' =>
          cases cv <;> simp only at h <;> try (cases h; done)
          case int k n => exact op_conv_int s hop ht ht2 hk hx h
        case str =>
          by_cases hs : ∃ b, cv = .str b
          · obtain ⟨b, rfl⟩ := hs
            exact op_conv_str s hop ht ht2 hk hx h
          · have h' : (match si.k with
              | .slice e => match C.ty e with
                | some te => match te.k with
                  | .int .u8 => match cv with
                    | .nils => K (.c (.str ⟨#[]⟩)) []
                    | v => content mu v fun es xs => match Tys.eq? es tyBytes with
                      | some ⟨h⟩ => K (.c (.str (bytesStr (castL h xs)))) []
                      | none => none
                  | _ => none
                | none => none
              | _ => none) = some y := by
              cases cv <;> first | exact h | exact absurd ⟨_, rfl⟩ hs
            cases hsk : si.k <;> simp only [hsk] at h' <;> try (cases h'; done)
            case slice e =>
              cases he : C.ty e with
              | none => simp [he] at h'
              | some te =>
                simp only [he] at h'
                cases hek : te.k <;> simp only [hek] at h' <;> try (cases h'; done)
                case int ik =>
                  cases ik <;> simp only at h' <;> try (cases h'; done)
                  case u8 =>
                    by_cases hn : cv = .nils
                    · subst hn
                      have hvx : a.eval x = .slice none 0 0 := hvx
                      exact op_conv_bytes s hop ht ht2 hsk he hek hk hx (xs := []) (ms := .sh) (q := .p) (H_sh.2 ⟨none, 0, hvx, Nat.le_refl _, .inl rfl⟩) h'
                    · have h2 : (content mu cv fun es xs => match Tys.eq? es tyBytes with
                          | some ⟨h⟩ => K (.c (.str (bytesStr (castL h xs)))) []
                          | none => none) = some y := by
                        cases cv <;> first | exact h' | exact absurd rfl hn
                      obtain ⟨es, xs, h3, ⟨ms, q, hH⟩, _⟩ := content_ok s.mem s.wf hvx h2
                      cases hq : Tys.eq? es tyBytes with
                      | none => simp [hq] at h3
                      | some p =>
                        obtain ⟨p⟩ := p
                        subst p
                        simp only [hq] at h3
                        exact op_conv_bytes s hop ht ht2 hsk he hek hk hx hH h3

theorem opU_call (s : OpSt P C env mu a w g idb) {o : Oper} {rid i : Nat} {K : TV → List (Nat × Blk) → Option R} {y : R} (h : opU C env mu idb rid i o K = some y) {c : Call} (hop : o.op = .call c) :
    o.wp P a w (Done P w g mu a o.dst K y) Q := by
  simp only [opU, hop] at h
  cases hc : c.callee with
  | value f =>
    simp only [hc] at h
    cases hf : evalTV env f <;> simp only [hf] at h <;> try (cases h; done)
    case c cv =>
      cases cv <;> simp only at h <;> try (cases h; done)
      case fnp fn => exact op_callU s hop hc hf h
      case fnd sh as rs k => exact op_fnd s hop hc hf h
  | invoke _ _ => simp [hc] at h
  | builtin b =>
    simp only [hc] at h
    cases b <;> try (simp [builtinU] at h; done)
    case len => exact op_len s hop hc h
    case append => exact op_append s hop hc h
    case max =>
      generalize hargs : c.args.toList.map (evalTV env) = args at h
      cases args with
      | nil => simp [builtinU] at h
      | cons x r =>
        cases x <;> simp only [builtinU] at h <;> try (cases h; done)
        case c cv =>
          cases cv <;> simp only at h <;> try (cases h; done)
          case int k x =>
            cases hn : maxInts k true x r with
            | none => simp [hn] at h
            | some n => simp only [hn] at h; exact op_maxmin s true hop hc hargs hn h
    case min =>
      generalize hargs : c.args.toList.map (evalTV env) = args at h
      cases args with
      | nil => simp [builtinU] at h
      | cons x r =>
        cases x <;> simp only [builtinU] at h <;> try (cases h; done)
        case c cv =>
          cases cv <;> simp only at h <;> try (cases h; done)
          case int k x =>
            cases hn : maxInts k false x r with
            | none => simp [hn] at h
            | some n => simp only [hn] at h; exact op_maxmin s false hop hc hargs hn h

theorem opU_store (s : OpSt P C env mu a w g idb) {o : Oper} {rid i : Nat} {K : TV → List (Nat × Blk) → Option R} {y : R} (h : opU C env mu idb rid i o K = some y) {t : TypeId} {x v : Operand} (hop : o.op = .store t x v) :
    o.wp P a w (Done P w g mu a o.dst K y) Q := by
  simp only [opU, hop] at h
  cases ht : C.ty t with
  | none => simp [ht] at h
  | some ti =>
    cases hx : evalTV env x <;> simp only [ht, hx] at h <;> try (cases h; done)
    case c cv =>
      cases hv : cellsOf (evalTV env v) with
      | none => simp [hv] at h
      | some vs =>
        simp only [hv] at h
        cases hlen : Nat.beq vs.length ti.size with
        | false => simp [hlen] at h
        | true =>
          simp only [hlen, cond_true] at h
          have hlen := Nat.eq_of_beq_eq_true hlen
          cases hsite : (C.site rid i).isEmpty with
          | false =>
            simp only [hsite, cond_false] at h
            cases cv with
            | ptr id off =>
              cases off with
              | succ n => simp [freezeU] at h
              | zero =>
                simp only [freezeU] at h
                cases hb : mu id with
                | none => simp [hb] at h
                | some b =>
                  cases b <;> simp only [hb] at h <;> try (cases h; done)
                  case box cs =>
                    cases hle : Nat.beq vs.length cs.length with
                    | false => simp [hle] at h
                    | true =>
                      simp only [hle, cond_true] at h
                      cases hp : packs (R := (C.es t).D × List Use) app0 (updL mu [(id, .box vs)]) (C.es t) [] 0 vs [] packEnd with
                      | none => rw [hp] at h; cases h
                      | some p =>
                        obtain ⟨xd, us⟩ := p
                        rw [hp] at h
                        simp only [Option.bind_some] at h
                        cases us with
                        | cons _ _ => cases h
                        | nil => exact op_store_fz s hop ht hx hv hlen hb (Nat.eq_of_beq_eq_true hle) hp h
            | _ => simp [freezeU] at h
          | true =>
            simp only [hsite, cond_true] at h
            cases cv <;> simp only [storeU] at h <;> try (cases h; done)
            case ptr id off =>
              cases hb : mu id with
              | none => simp [hb] at h
              | some b =>
                cases b <;> simp only [hb] at h <;> try (cases h; done)
                case box cs =>
                  cases hle : Nat.ble (off + vs.length) cs.length with
                  | false => simp [hle] at h
                  | true =>
                    simp only [hle, cond_true] at h
                    exact op_store_box s hop ht hx hv hlen hb (Nat.le_of_ble_eq_true hle) h
            case eptr id sz i off =>
              cases hb : mu id with
              | none => simp [hb] at h
              | some b =>
                cases b <;> simp only [hb] at h <;> try (cases h; done)
                case row es ms xs ver =>
                  cases hle : (Nat.ble (off + vs.length) es.len && Nat.beq sz es.len) with
                  | false => simp [hle] at h
                  | true =>
                    simp only [hle, cond_true] at h
                    simp only [Bool.and_eq_true] at hle
                    have hsz := Nat.eq_of_beq_eq_true hle.2
                    subst hsz
                    cases hx0 : getN xs i with
                    | none => simp [hx0] at h
                    | some x0 =>
                      simp only [hx0, Option.bind_some] at h
                      exact op_store_el s hop ht hx hv hlen hb (Nat.le_of_ble_eq_true hle.1) hx0 h

theorem opU_ptr (s : OpSt P C env mu a w g idb) {o : Oper} {rid i : Nat} {K : TV → List (Nat × Blk) → Option R} {y : R} (h : opU C env mu idb rid i o K = some y) {x : Operand} (hop : o.op = .nilCheck x) :
    o.wp P a w (Done P w g mu a o.dst K y) Q := by
  simp only [opU, hop] at h
  cases hx : evalTV env x <;> simp only [hx] at h <;> try (cases h; done)
  case c cv =>
    cases cv <;> simp only at h <;> try (cases h; done)
    case ptr id off => exact op_nilCheck s hop hx (fun v hv => by obtain ⟨_, b, base, _, hv⟩ := hv; exact ⟨_, hv⟩) h
    case eptr id sz i off => exact op_nilCheck s hop hx (fun v hv => by obtain ⟨_, a, n, c, _, _, hv⟩ := hv; exact ⟨_, hv⟩) h
    case rptr es z off => exact op_nilCheck s hop hx (fun v hv => by obtain ⟨b, base, hv, _⟩ := hv; exact ⟨_, hv⟩) h

theorem opU_fieldAddr (s : OpSt P C env mu a w g idb) {o : Oper} {rid i : Nat} {K : TV → List (Nat × Blk) → Option R} {y : R} (h : opU C env mu idb rid i o K = some y) {t : TypeId} {x : Operand} {f : Nat} (hop : o.op = .fieldAddr t x f) :
    o.wp P a w (Done P w g mu a o.dst K y) Q := by
  simp only [opU, hop] at h
  cases hf : structFld C t f with
  | none => simp [hf] at h
  | some p =>
    obtain ⟨off, n⟩ := p
    cases hx : evalTV env x <;> simp only [hf, hx] at h <;> try (cases h; done)
    case c cv =>
      cases cv <;> simp only at h <;> try (cases h; done)
      case ptr id o' =>
        exact op_fieldAddr s hop hf hx (cv' := .ptr id (o' + off)) (fun v hv => by
          obtain ⟨h0, b, base, hc, rfl⟩ := hv
          exact ⟨b, base + o', rfl, h0, b, base, hc, by rw [Nat.add_assoc]⟩) h
      case eptr id sz i o' =>
        exact op_fieldAddr s hop hf hx (cv' := .eptr id sz i (o' + off)) (fun v hv => by
          obtain ⟨h0, ad, n, c, hc, hs, rfl⟩ := hv
          exact ⟨ad.block, ad.off + i * sz + o', rfl, h0, ad, n, c, hc, hs, by rw [Nat.add_assoc]⟩) h
      case rptr es z o' =>
        exact op_fieldAddr s hop hf hx (cv' := .rptr es z (o' + off)) (fun v hv => by
          obtain ⟨b, base, rfl, hs⟩ := hv
          exact ⟨b, base + o', rfl, b, base, by rw [Nat.add_assoc], hs⟩) h

theorem opU_index (s : OpSt P C env mu a w g idb) {o : Oper} {rid i : Nat} {K : TV → List (Nat × Blk) → Option R} {y : R} (h : opU C env mu idb rid i o K = some y) {t : TypeId} {x z : Operand} (hop : o.op = .index t x z) :
    o.wp P a w (Done P w g mu a o.dst K y) Q := by
  simp only [opU, hop] at h
  split at h
  · rename_i ti b k n ht hx hz
    cases hk : ti.k <;> simp only [hk] at h <;> try (cases h; done)
    case str =>
      cases hu : getI b.data.toList n with
      | none => simp [hu] at h
      | some u => simp only [hu, Option.bind_some] at h; exact op_index s hop ht hk hx hz hu h
  · cases h

theorem opU_indexAddr (s : OpSt P C env mu a w g idb) {o : Oper} {rid i : Nat} {K : TV → List (Nat × Blk) → Option R} {y : R} (h : opU C env mu idb rid i o K = some y) {t : TypeId} {x z : Operand} (hop : o.op = .indexAddr t x z) :
    o.wp P a w (Done P w g mu a o.dst K y) Q := by
  simp only [opU, hop] at h
  cases he : elemTI C t with
  | none => simp [he] at h
  | some p =>
    obtain ⟨e, te⟩ := p
    cases hx : evalTV env x <;> simp only [he, hx] at h <;> try (cases h; done)
    case c cv =>
      cases hz : evalTV env z <;> simp only [hz] at h <;> try (cases h; done)
      case c cz =>
        cases cz <;> simp only at h <;> try (cases h; done)
        case int k n =>
          cases hes : esOk mu (C.es e).len cv with
          | false => simp [hes] at h
          | true => simp only [hes, cond_true] at h; exact op_indexAddr s hop he hx hz hes h

theorem opU_makeSlice (s : OpSt P C env mu a w g idb) {o : Oper} {rid i : Nat} {K : TV → List (Nat × Blk) → Option R} {y : R} (h : opU C env mu idb rid i o K = some y) {t : TypeId} {l c : Operand} (hop : o.op = .makeSlice t l c) :
    o.wp P a w (Done P w g mu a o.dst K y) Q := by
  simp only [opU, hop] at h
  split at h
  · rename_i e te k n k' n' he hl hc
    split at h
    · rename_i hk
      obtain ⟨rfl, rfl⟩ := hk
      cases hm : (Nat.blt 0 te.size && mkOk n n' te.bytes) with
      | false => simp [hm] at h
      | true =>
        simp only [hm, cond_true] at h
        simp only [mkOk, Bool.and_eq_true, decide_eq_true_eq, Nat.blt_eq] at hm
        obtain ⟨h3, rfl, h0, h1, h2⟩ := hm
        exact op_makeSlice s hop he hl hc h0 ⟨h1, h2⟩ h3 h
    · cases h
  · cases h

theorem opU_ok (s : OpSt P C env mu a w g idb) {o : Oper} {rid i : Nat} {K : TV → List (Nat × Blk) → Option R} {y : R} (h : opU C env mu idb rid i o K = some y) : o.wp P a w (Done P w g mu a o.dst K y) Q := by
  cases hop : o.op with
  | move x => simp only [opU, hop] at h; exact op_move s (.inl hop) h
  | assign x => simp only [opU, hop] at h; exact op_move s (.inr hop) h
  | pick c x z =>
    simp only [opU, hop] at h
    split at h
    · rename_i b hc
      refine op_pick s hop hc ?_
      cases b <;> exact h
    · cases h
  | alloc e =>
    simp only [opU, hop] at h
    split at h
    · rename_i ti ht; exact op_alloc s hop ht h
    · cases h
  | box e x =>
    simp only [opU, hop] at h
    split at h
    · rename_i cs hx
      cases hsi : (C.site rid i).isEmpty with
      | true => rw [hsi] at h; exact op_box s hop hx h
      | false =>
        simp only [hsi, cond_false] at h
        cases hp : (packs (R := (C.es e).D × List Use) app0 (fun _ => none) (C.es e) [] 0 cs [] packEnd) with
        | none => simp [hp] at h
        | some p =>
          obtain ⟨xd, us⟩ := p
          simp only [hp, Option.bind_some] at h
          cases us with
          | nil => exact op_box_fz s hop hx hp h
          | cons u us => cases h
    · cases h
  | build t parts =>
    simp only [opU, hop] at h
    split at h
    · rename_i ti ht
      split at h
      · rename_i hk
        split at h
        · rename_i cs hb; exact op_build s hop ht hk hb h
        · cases h
      · cases h
    · cases h
  | buildSlice t len parts =>
    simp only [opU, hop] at h
    split at h
    · rename_i e te he; exact op_buildSlice s hop he h
    · cases h
  | load t x =>
    simp only [opU, hop] at h
    split at h
    · rename_i ti cv ht hx; exact op_load s hop ht hx h
    · cases h
  | store t x v => exact opU_store s h hop
  | nilCheck x => exact opU_ptr s h hop
  | binOp op t x y t2 => simp only [opU, hop] at h; exact op_bin s hop h
  | unOp op t x => exact opU_unary s h hop
  | convert t t2 x => exact opU_conv s h hop
  | makeFunc f first captured =>
    cases f <;> simp only [opU, hop] at h <;> try (cases h; done)
    case func f =>
      cases hf : first.isEmpty with
      | false => simp [hf] at h
      | true =>
        simp only [hf, cond_true] at h
        split at h
        · rename_i l hc; exact op_makeFunc s hop hf hc h
        · cases h
  | makeSlice t l c => exact opU_makeSlice s h hop
  | slice t x lo hi mx =>
    cases mx with
    | none => exact opU_slice s h hop
    | some m => simp [opU, hop] at h
  | fieldAddr t x f => exact opU_fieldAddr s h hop
  | field t x f =>
    simp only [opU, hop] at h
    split at h
    · rename_i off n vs ag hf hx hga; exact op_field s hop hf hga hx h
    · cases h
  | indexAddr t x z => exact opU_indexAddr s h hop
  | index t x z => exact opU_index s h hop
  | extract x i =>
    simp only [opU, hop] at h
    split at h
    · rename_i vs hx
      split at h
      · rename_i e he; exact op_extract s hop hx he h
      · cases h
    · cases h
  | call c => exact opU_call s h hop
  | _ => simp [opU, hop] at h

end
end Go.Tm
