/- A machine over plain data, part 3: what it gives is shown to be what the program's functions return. Conditions: none. -/
import Derived.Test.YtphaibffjdfhpaaGreatTm2
import Derived.Calls
import Derived.LoopN
set_option linter.unusedVariables false
/- The pure machine, 31: what is known, told anew by items. -/
namespace Go.Tm
open Go

/-- Its ids are there. -/
def CV.In (mu : Mu) : CV → Prop
  | .own id | .ptr id _ | .eptr id _ _ _ => mu id ≠ none
  | .nref id ver _ _ => mu id ≠ none ∧ ∀ es ms xs ver0, mu id = some (.row es ms xs ver0) → ver ≤ ver0
  | .clo _ ids => ∀ id ∈ ids, mu id ≠ none
  | _ => True
def compIn (mu : Mu) : Bool × List CV → Prop
  | (true, vs) => ∀ cv ∈ vs, cv.In mu
  | (false, cv :: _) => cv.In mu
  | (false, []) => True
def TV.In (mu : Mu) : TV → Prop
  | .c cv => cv.In mu
  | .agg vs => ∀ cv ∈ vs, cv.In mu
  | .tup l => ∀ x ∈ l, compIn mu x
  | _ => True

section
variable {P : Program} {w : World} {g g' : Gh} {mu mu0 muF : Mu}

theorem All2.mem_left {α β : Type} {R : α → β → Prop} : ∀ {x : List α} {y : List β} {a : α}, All2 R x y → a ∈ x → ∃ b, R a b
  | _ :: _, _ :: _, a, h, ha => by
    rcases List.mem_cons.1 ha with rfl | ha
    · exact ⟨_, h.1⟩
    · exact All2.mem_left h.2 ha
  | [], _, _, _, ha => by cases ha
  | _ :: _, [], _, h, _ => h.elim

theorem CV.R.inn {cv : CV} {v : Value} (h : cv.R P w g mu v) : cv.In mu := by
  cases cv with
  | own id => exact h.1
  | nref id ver i j => exact ⟨h.1, fun es ms xs ver0 e => (h.2.2 _ _ _ _ e).1⟩
  | ptr id off => exact h.1
  | eptr id sz i off => exact h.1
  | clo f ids =>
    obtain ⟨caps, _, ha⟩ := h
    intro id hid
    obtain ⟨u, hu⟩ := All2.mem_left ha hid
    exact hu.1
  | _ => trivial

theorem TV.R.inn {tv : TV} {v : Value} (h : tv.R P w g mu v) : tv.In mu := by
  cases tv with
  | c cv => exact CV.R.inn h
  | agg vs => obtain ⟨a, _, ha⟩ := h; intro cv hcv; obtain ⟨u, hu⟩ := All2.mem_left ha hcv; exact CV.R.inn hu
  | tup l =>
    obtain ⟨a, _, ha⟩ := h
    intro x hx
    obtain ⟨u, hu⟩ := All2.mem_left ha hx
    rcases x with ⟨_ | _, vs⟩
    · rcases vs with _ | ⟨cv, _⟩
      · trivial
      · exact CV.R.inn (v := u) hu
    · obtain ⟨a, _, ha⟩ := hu
      intro cv hcv; obtain ⟨u, hu⟩ := All2.mem_left ha hcv; exact CV.R.inn hu
  | _ => trivial

/-- What is told anew of the ids that were there. -/
structure Tell (w : World) (g : Gh) (mu mu0 : Mu) (g' : Gh) (muF : Mu) : Prop where
  hp : PermKeep w g.o w g'.o
  hw : Wf w g.o
  hD : ∀ id, mu0 id ≠ none → muF id ≠ none ∧ g'.c id = g.c id
  hV : ∀ id es ms xs ver', mu0 id ≠ none → muF id = some (.row es ms xs ver') → (∃ es0 ms0 xs0 ver0, mu0 id = some (.row es0 ms0 xs0 ver0) ∧ ver0 < ver') ∨ (mu id = muF id ∧ ∀ b k, g.o b k = .o [id] → g'.o b k = .o [id])

theorem CV.told (h : Tell w g mu mu0 g' muF) {cv : CV} {v : Value} (hi : cv.In mu0) (hr : cv.R P w g mu v) : cv.R P w g' muF v := by
  cases cv with
  | un => exact hr
  | int k n => exact hr
  | bool b => exact hr
  | str s => exact hr
  | nils => exact hr
  | ro es xs => exact H_re h.hp h.hw (.sl es) .sh .p .p xs v rfl hr
  | own id => exact ⟨(h.hD _ hi).1, (h.hD _ hi).2.trans hr.2.1, hr.2.2⟩
  | nref id ver i j =>
    obtain ⟨hi, hi2⟩ := hi
    refine ⟨(h.hD _ hi).1, hr.2.1, fun es ms xs ver' hm => ?_⟩
    rcases h.hV id es ms xs ver' hi hm with ⟨es0, ms0, xs0, ver0, h0, hlt⟩ | ⟨e, ho⟩
    · have := hi2 _ _ _ _ h0
      exact ⟨by omega, fun e => by omega⟩
    · obtain ⟨h1, h2⟩ := hr.2.2 es ms xs ver' (e.trans hm)
      refine ⟨h1, fun e => ?_⟩
      obtain ⟨a, n, c, hc, hv, ho'⟩ := h2 e
      exact ⟨a, n, c, (h.hD _ hi).2.trans hc, hv, ho _ _ ho'⟩
  | ptr id off => obtain ⟨h0, b, base, hc, hv⟩ := hr; exact ⟨(h.hD _ hi).1, b, base, (h.hD _ hi).2.trans hc, hv⟩
  | eptr id sz i off => obtain ⟨h0, a, n, c, hc, hs, hv⟩ := hr; exact ⟨(h.hD _ hi).1, a, n, c, (h.hD _ hi).2.trans hc, hs, hv⟩
  | rptr es x off =>
    obtain ⟨b, base, hv, hs⟩ := hr
    exact ⟨b, base, hv, Hs_re h.hp h.hw es [] .p .p (fun _ => .p) (fun _ => .p) 0 x b base rfl (fun _ => rfl) hs⟩
  | fnp f => exact hr
  | clo f ids =>
    obtain ⟨caps, hv, ha⟩ := hr
    refine ⟨caps, hv, ?_⟩
    have key : ∀ (ids : List Nat) (vs : List Value), (∀ id ∈ ids, mu0 id ≠ none) → All2 (fun id u => mu id ≠ none ∧ ∃ b base, g.c id = .box b base ∧ u = .pointer (some ⟨b, base, none⟩)) ids vs →
        All2 (fun id u => muF id ≠ none ∧ ∃ b base, g'.c id = .box b base ∧ u = .pointer (some ⟨b, base, none⟩)) ids vs := by
      intro ids
      induction ids with
      | nil => intro vs _ h; cases vs; trivial; exact h.elim
      | cons id ids ih =>
        intro vs hin ha
        cases vs with
        | nil => exact ha.elim
        | cons u vs =>
          obtain ⟨⟨_, b, base, hc, hu⟩, ha⟩ := ha
          have := h.hD id (hin id (by simp))
          exact ⟨⟨this.1, b, base, this.2.trans hc, hu⟩, ih vs (fun id hid => hin id (by simp [hid])) ha⟩
    exact key _ _ hi ha
  | fnd sh as rs k => exact H_re h.hp h.hw (.fn sh as rs) .sh .p .p k v rfl hr

theorem cvs_told (h : Tell w g mu mu0 g' muF) : ∀ {cvs : List CV} {vs : List Value}, (∀ cv ∈ cvs, cv.In mu0) → cvsR P w g mu cvs vs → cvsR P w g' muF cvs vs
  | [], [], _, _ => trivial
  | _ :: _, _ :: _, hi, hr => ⟨CV.told h (hi _ (by simp)) hr.1, cvs_told h (fun cv hcv => hi cv (by simp [hcv])) hr.2⟩
  | [], _ :: _, _, hr => hr.elim
  | _ :: _, [], _, hr => hr.elim

theorem TV.told (h : Tell w g mu mu0 g' muF) {tv : TV} {v : Value} (hi : tv.In mu0) (hr : tv.R P w g mu v) : tv.R P w g' muF v := by
  cases tv with
  | un => trivial
  | und => exact hr
  | c cv => exact CV.told h hi hr
  | agg vs => obtain ⟨a, hv, ha⟩ := hr; exact ⟨a, hv, cvs_told h hi ha⟩
  | tup l =>
    obtain ⟨a, hv, ha⟩ := hr
    refine ⟨a, hv, ?_⟩
    have key : ∀ (l : List (Bool × List CV)) (vs : List Value), (∀ x ∈ l, compIn mu0 x) → All2 (compR P w g mu) l vs → All2 (compR P w g' muF) l vs := by
      intro l
      induction l with
      | nil => intro vs _ h; cases vs; trivial; exact h.elim
      | cons x l ih =>
        intro vs hin ha
        cases vs with
        | nil => exact ha.elim
        | cons u vs =>
          obtain ⟨hu, ha⟩ := ha
          have hx := hin x (by simp)
          refine ⟨?_, ih vs (fun y hy => hin y (by simp [hy])) ha⟩
          rcases x with ⟨_ | _, ws⟩
          · rcases ws with _ | ⟨cv, _⟩
            · trivial
            · exact CV.told h hx hu
          · obtain ⟨b, hb, hu⟩ := hu; exact ⟨b, hb, cvs_told h hx hu⟩
    exact key _ _ hi ha

/-- A state's own ids. -/
structure InSt (st : St) : Prop where
  env : ∀ n, (st.env n).In st.mu
  box : ∀ id cs cv, st.mu id = some (.box cs) → cv ∈ cs → cv.In st.mu

theorem Rel.inn {nt : Nat} {w0 : World} {o0 : Nat → Nat → Own} {st : St} {tmps : Array Value} (r : Rel P nt w0 o0 st.env st.mu tmps w g) : InSt st where
  env n := TV.R.inn (r.env n)
  box id cs cv hb hcv := by
    obtain ⟨j, hj, e⟩ := List.mem_iff_getElem.1 hcv
    obtain ⟨b, base, _, h⟩ := r.mem id _ hb
    obtain ⟨v, _, _, hr⟩ := h j cv (by simp [hj, e])
    exact CV.R.inn hr

/-- What an item's value is. -/
def ItV (P : Program) (w : World) (g : Gh) (st : St) (tmps : Array Value) : Item → Value → Prop
  | .t n _ _, v => v = tmps.getD n undef
  | .b id j _ _, v => ∃ cs b base, st.mu id = some (.box cs) ∧ g.c id = .box b base ∧ w.cell? ⟨b, base + j, none⟩ = some v ∧ g.o b (base + j) = .o [id]
  | .r id _ _, v => g.c id = .row v ∧ ∃ es ms xs ver, st.mu id = some (.row es ms xs ver)

def ItemsH (P : Program) (w : World) (o : Nat → Nat → Own) (nx : Nat) (dest : Nat → Own) : (items : List Item) → Nat → (itemsTy items).D → List Value → Prop
  | [], _, _, vs => vs = []
  | x :: r, k, d, vs => ∃ v r', vs = v :: r' ∧ (itemTy x).H P w o (itemMd x) (dest (itemId nx k x)) d.1 v ∧ ItemsH P w o nx dest r (k + 1) d.2 r'

/-- What is used. -/
def UsR (mu : Mu) (tos : Nat → Prop) (bx : Prop) : Use → Prop
  | .mv id to => (∃ es ms xs ver, mu id = some (.row es ms xs ver)) ∧ tos to
  | .pm id => (∃ es ms xs ver, mu id = some (.row es ms xs ver)) ∨ (∃ es xs, mu id = some (.fz es xs)) ∨ (bx ∧ mu id ≠ none)

/-- All that is known in one is known in the other. -/
def Le (mu mu' : Mu) : Prop := ∀ id b, mu id = some b → mu' id = some b

theorem boxCells_le {mu' : Mu} (hl : Le mu mu') : ∀ {ids : List Nat} {cs : List (List CV)}, boxCells mu ids = some cs → boxCells mu' ids = some cs ∧ ∀ id ∈ ids, mu id ≠ none
  | [], cs, h => ⟨h, by simp⟩
  | id :: r, cs, h => by
    simp only [boxCells] at h ⊢
    split at h
    · rename_i l1 l2 h1 h2
      obtain ⟨h3, h4⟩ := boxCells_le hl h2
      rw [hl _ _ h1, h3]
      exact ⟨h, by simp [h1]; exact h4⟩
    · rename_i es x l h1 h2
      obtain ⟨h3, h4⟩ := boxCells_le hl h2
      rw [hl _ _ h1, h3]
      exact ⟨h, by simp [h1]; exact h4⟩
    · cases h

theorem packLeaf_out {R : Type} {app : App} {ty : Ty} {md : Md} {to : Nat} {cv : CV} {us : List Use} {K : ty.D → List Use → Option R} {y : R} (h : packLeaf app mu ty md to cv us K = some y) :
    ∃ x new, K x (new ++ us) = some y ∧ (∀ u ∈ new, UsR mu (fun t => t = to ∧ ∃ es ms, ty = .sl es ∧ md = .own ms) (app ≠ app0) u) ∧
      ∀ mu', Le mu mu' → ∀ (R' : Type) (K' : ty.D → List Use → Option R'), packLeaf app mu' ty md to cv us K' = K' x (new ++ us) := by
  cases ty with
  | int k =>
    cases cv <;> simp only [packLeaf] at h <;> try (cases h; done)
    case int k' n =>
      split at h
      · rename_i e; exact ⟨n, [], h, by simp, fun mu' hl R' K' => by simp [packLeaf, e]⟩
      · cases h
  | bool =>
    cases cv <;> simp only [packLeaf] at h <;> try (cases h; done)
    case bool b => exact ⟨b, [], h, by simp, fun mu' hl R' K' => by simp [packLeaf]⟩
  | str =>
    cases cv <;> simp only [packLeaf] at h <;> try (cases h; done)
    case str b => exact ⟨b, [], h, by simp, fun mu' hl R' K' => by simp [packLeaf]⟩
  | sl es =>
    simp only [packLeaf] at h
    cases md with
    | own ms =>
      cases cv <;> simp only [packSl] at h <;> try (cases h; done)
      case nils => exact ⟨[], [], h, by simp, fun mu' hl R' K' => by simp [packLeaf, packSl]⟩
      case own id =>
        cases hb : mu id with
        | none => simp [hb] at h
        | some b =>
          cases b <;> simp only [hb] at h <;> try (cases h; done)
          case row es' ms' xs ver =>
            cases he : Tys.eq? es' es with
            | none => simp [he] at h
            | some p =>
              simp only [he] at h
              cases hms : mdsBeq ms' ms with
              | false => simp [hms] at h
              | true =>
                simp only [hms, cond_true] at h
                exact ⟨_, [.mv id to], h, by simp [UsR, hb], fun mu' hl R' K' => by simp [packLeaf, packSl, hl _ _ hb, he, hms]⟩
    | sh =>
      cases cv <;> simp only [packSl] at h <;> try (cases h; done)
      case nils => exact ⟨[], [], h, by simp, fun mu' hl R' K' => by simp [packLeaf, packSl]⟩
      case ro es' xs =>
        cases he : Tys.eq? es' es with
        | none => simp [he] at h
        | some p => simp only [he] at h; exact ⟨_, [], h, by simp, fun mu' hl R' K' => by simp [packLeaf, packSl, he]⟩
      case own id =>
        simp only [content] at h
        cases hb : mu id with
        | none => simp [hb] at h
        | some b =>
          cases b <;> simp only [hb] at h <;> try (cases h; done)
          case row es' ms' xs ver =>
            cases he : Tys.eq? es' es with
            | none => simp [he] at h
            | some p => simp only [he] at h; exact ⟨_, [.pm id], h, by simp [UsR, hb], fun mu' hl R' K' => by simp [packLeaf, packSl, content, hl _ _ hb, he]⟩
          case fz es' xs =>
            cases he : Tys.eq? es' es with
            | none => simp [he] at h
            | some p => simp only [he] at h; exact ⟨_, [.pm id], h, by simp [UsR, hb], fun mu' hl R' K' => by simp [packLeaf, packSl, content, hl _ _ hb, he]⟩
      case nref id ver i j =>
        simp only [content] at h
        cases hb : mu id with
        | none => simp [hb] at h
        | some b =>
          cases b <;> simp only [hb] at h <;> try (cases h; done)
          case row es' ms' xs ver' =>
            cases hver : Nat.beq ver ver' with
            | false => simp [hver] at h
            | true =>
              simp only [hver, cond_true] at h
              cases hx : getN xs i with
              | none => simp [hx] at h
              | some x =>
                simp only [hx, Option.bind_some] at h
                cases hlf : es'.leaf j x with
                | none => simp [hlf] at h
                | some l =>
                  obtain ⟨lt, lx⟩ := l
                  cases lt <;> simp only [hlf] at h <;> try (cases h; done)
                  case sl es2 =>
                    cases he : Tys.eq? es2 es with
                    | none => simp [he] at h
                    | some p => simp only [he] at h; exact ⟨_, [.pm id], h, by simp [UsR, hb], fun mu' hl R' K' => by simp [packLeaf, packSl, content, hl _ _ hb, hver, hx, hlf, he]⟩
  | fn sh as rs =>
    cases cv <;> simp only [packLeaf] at h <;> try (cases h; done)
    case fnd sh' as' rs' k =>
      cases he : Ty.eq? (.fn sh' as' rs') (.fn sh as rs) with
      | none => simp [he] at h
      | some p => simp only [he] at h; exact ⟨_, [], h, by simp, fun mu' hl R' K' => by simp [packLeaf, he]⟩
    case fnp f =>
      cases hk : app f sh [] as rs with
      | none => simp [hk] at h
      | some k => simp only [hk] at h; exact ⟨_, [], h, by simp, fun mu' hl R' K' => by simp [packLeaf, hk]⟩
    case clo f ids =>
      cases hb : boxCells mu ids with
      | none => simp [hb] at h
      | some caps =>
        simp only [hb] at h
        cases hk : app f sh caps as rs with
        | none => simp [hk] at h
        | some k =>
          simp only [hk] at h
          refine ⟨_, ids.map .pm, h, fun u hu => ?_, fun mu' hl R' K' => by simp [packLeaf, (boxCells_le hl hb).1, hk]⟩
          obtain ⟨id, hid, rfl⟩ := List.mem_map.1 hu
          exact .inr (.inr ⟨fun e => (by rw [e] at hk; cases hk), (boxCells_le (mu' := mu) (fun _ _ h => h) hb).2 id hid⟩)

/-- How an item's cell's value lies. -/
theorem itemCV_R {st : St} {tmps : Array Value} (henv : ∀ t, (st.env t).R P w g st.mu (tmps.getD t undef)) (hm : MemR P w g st.mu) {x : Item} {R : Type} {to : Nat} {us : List Use} {K : (itemTy x).D → List Use → Option R} {y : R}
    (h : packLeaf app0 st.mu (itemTy x) (itemMd x) to (itemCV st x) us K = some y) : ∃ v, (itemCV st x).R P w g st.mu v ∧ ItV P w g st tmps x v := by
  have nun : ∀ {t : Ty} {md : Md} {K : t.D → List Use → Option R}, packLeaf app0 st.mu t md to .un us K = some y → False := by
    intro t md K h
    cases t <;> simp [packLeaf] at h
    case sl es => cases md <;> simp [packSl] at h
  cases x with
  | t n ty md =>
    refine ⟨tmps.getD n undef, ?_, rfl⟩
    have := henv n
    simp only [itemCV] at h ⊢
    split
    · rename_i v e; rw [e] at this; exact this
    · rename_i e
      exfalso
      cases he : st.env n with
      | c v => exact e v he
      | _ => simp only [he] at h; exact nun h
  | b id j ty md =>
    simp only [itemCV] at h ⊢
    cases hb : st.mu id with
    | none => simp only [hb] at h; exact (nun h).elim
    | some bl =>
      cases bl <;> simp only [hb] at h ⊢ <;> try exact (nun h).elim
      case box cs =>
        obtain ⟨b, base, hc, hcell⟩ := hm id _ hb
        cases hj : cs[j]? with
        | none =>
          have : cs.getD j .un = .un := by simp [List.getD, hj]
          rw [this] at h; exact (nun h).elim
        | some cv =>
          have e : cs.getD j .un = cv := by simp [List.getD, hj]
          obtain ⟨v, h1, h2, h3⟩ := hcell j cv hj
          rw [e]
          exact ⟨v, h3, cs, b, base, hb, hc, h1, h2⟩
  | r id es ms =>
    simp only [itemCV, itemTy, itemMd, packLeaf, packSl] at h ⊢
    cases hb : st.mu id with
    | none => simp [hb] at h
    | some bl =>
      cases bl <;> simp only [hb] at h <;> try (cases h; done)
      case row es' ms' xs ver =>
        obtain ⟨v, hc, hr⟩ := hm id _ hb
        obtain ⟨a, c, hv, _⟩ := H_own.1 hr
        exact ⟨v, ⟨by simp [hb], hc, a, _, c, hv⟩, hc, es', ms', xs, ver, hb⟩

theorem packLeaf_mv {mu : Mu} {es : Tys} {ms : List Md} {to id : Nat} {us : List Use} {R : Type} {K : List es.D → List Use → Option R} {y : R} (h : packLeaf app0 mu (.sl es) (.own ms) to (.own id) us K = some y) :
    packLeaf app0 mu (.sl es) (.own ms) to (.own id) us (fun _ u => some u) = some (.mv id to :: us) := by
  simp only [packLeaf, packSl] at h ⊢
  cases hb : mu id with
  | none => simp [hb] at h
  | some b =>
    cases b <;> simp only [hb] at h ⊢ <;> try (cases h; done)
    case row es' ms' xs ver =>
      cases he : Tys.eq? es' es with
      | none => simp [he] at h
      | some p =>
        simp only [he] at h ⊢
        cases hms : mdsBeq ms' ms with
        | false => simp [hms] at h
        | true => simp

theorem packItems_ok {st : St} {tmps : Array Value} (henv : ∀ t, (st.env t).R P w g st.mu (tmps.getD t undef)) (hm : MemR P w g st.mu) (hw : Wf w g.o) {nx : Nat} : ∀ (items : List Item) (k : Nat) {us : List Use} {R : Type} {K : (itemsTy items).D → List Use → Option R} {y : R}
    (_ : packItems st nx items k us K = some y), ∃ d new vals, K d (new ++ us) = some y ∧ All2 (ItV P w g st tmps) items vals ∧
      (∀ u ∈ new, UsR st.mu (fun t => ∃ i x es ms, items[i]? = some x ∧ t = itemId nx (k + i) x ∧ itemTy x = .sl es ∧ itemMd x = .own ms) False u) ∧
      (∀ (dest : Nat → Own) w' o', PermKeep w g.o w' o' → (∀ u ∈ new, Served dest w g.o w' o' u) → ItemsH P w' o' nx dest items k d vals) ∧ ∀ id es ms, .r id es ms ∈ items → .mv id id ∈ new
  | [], k, us, R, K, y, h => ⟨(), [], [], h, trivial, by simp, fun _ _ _ _ _ => rfl, by simp⟩
  | x :: r, k, us, R, K, y, h => by
    simp only [packItems] at h
    obtain ⟨v, hcv, hit⟩ := itemCV_R henv hm h
    obtain ⟨d, new, h1, hus, hdet⟩ := packLeaf_out h
    have h2 := hdet st.mu (fun _ _ h => h) ((itemTy x).D × List Use) (fun d u => some (d, u))
    obtain ⟨d', new', h3, hH⟩ := packLeaf_okA hm hw app0_ok hcv h2
    simp only [Option.some.injEq, Prod.mk.injEq] at h3
    obtain ⟨rfl, h3⟩ := h3
    have h3 := List.append_cancel_right h3
    subst h3
    obtain ⟨ds, new2, vals, h4, hit2, hus2, hH2, hr2⟩ := packItems_ok henv hm hw r (k + 1) h1
    refine ⟨(d', ds), new2 ++ new', v :: vals, by rw [List.append_assoc]; exact h4, ⟨hit, hit2⟩, fun u hu => ?_, fun dest w' o' hp hs => ⟨v, vals, rfl, hH dest w' o' hp fun u hu => hs u (by simp [hu]), hH2 dest w' o' hp fun u hu => hs u (by simp [hu])⟩, fun id es ms hm => ?_⟩
    rotate_left
    · rcases List.mem_cons.1 hm with hm | hm
      · subst hm
        have := packLeaf_mv h
        have h5 := hdet st.mu (fun _ _ h => h) (List Use) (fun _ u => some u)
        have h6 : some (new' ++ us) = some ([Use.mv id id] ++ us) := h5.symm.trans this
        simp only [Option.some.injEq] at h6
        simp [List.append_cancel_right h6]
      · simp [hr2 id es ms hm]
    rcases List.mem_append.1 hu with hu | hu
    · have := hus2 u hu
      cases u with
      | mv id to =>
        obtain ⟨h5, i, x', es, ms, h6, h7, h8⟩ := this
        exact ⟨h5, i + 1, x', es, ms, by simpa using h6, by rw [h7]; congr 1; omega, h8⟩
      | pm id => exact this
    · have := hus u hu
      cases u with
      | mv id to =>
        obtain ⟨h5, h6, es, ms, h7, h8⟩ := this
        exact ⟨h5, 0, x, es, ms, rfl, h6, h7, h8⟩
      | pm id => rcases this with h | h | ⟨h, _⟩; exact .inl h; exact .inr (.inl h); exact absurd rfl h
end
end Go.Tm

/- The pure machine, 32: a state told anew. -/
namespace Go.Tm
open Go

section
variable {P : Program} {w : World} {g g' : Gh} {mu mu0 muF : Mu} {tmps : Array Value}

theorem upd_same {α : Type} (f : Nat → α) (k : Nat) (v : α) : upd f k v k = v := by simp [upd, Nat.beq_refl]
theorem upd_ne {α : Type} (f : Nat → α) {k n : Nat} (v : α) (h : n ≠ k) : upd f k v n = f n := by
  have : Nat.beq n k = false := Bool.eq_false_iff.2 fun e => h (Nat.eq_of_beq_eq_true e)
  simp [upd, this]

/-- What an item's value is, behind. -/
def ItF (w : World) (g' : Gh) (nx : Nat) (tmps : Array Value) : Item → Value → Prop
  | .t n ty md, v => v = tmps.getD n undef ∧ mdTy ty md = true
  | .b id j ty md, v => id < nx * 2048 ∧ (∃ b base, g'.c id = .box b base ∧ w.cell? ⟨b, base + j, none⟩ = some v ∧ g'.o b (base + j) = .o [id]) ∧ mdTy ty md = true
  | .r id _ _, v => id < nx * 2048 ∧ g'.c id = .row v

def EnvOk (P : Program) (w : World) (g' : Gh) (muF : Mu) (tmps : Array Value) (pend : List Item) (env : Nat → TV) : Prop :=
  ∀ n, (∀ ty md, .t n ty md ∉ pend) → (env n).R P w g' muF (tmps.getD n undef)

def BlkOk (P : Program) (w : World) (g' : Gh) (muF : Mu) (pend : List Item) (id : Nat) (b : Blk) : Prop :=
  match b with
  | .box cs => ∃ b base, g'.c id = .box b base ∧ ∀ j cv, cs[j]? = some cv → (∀ ty md, .b id j ty md ∉ pend) → ∃ v, w.cell? ⟨b, base + j, none⟩ = some v ∧ g'.o b (base + j) = .o [id] ∧ cv.R P w g' muF v
  | b => b.R P w g' muF id

def MemOk (P : Program) (w : World) (g' : Gh) (muF : Mu) (pend : List Item) (mu : Mu) : Prop :=
  ∀ id b, mu id = some b → (∀ es ms, .r id es ms ∉ pend) → BlkOk P w g' muF pend id b

/-- What the items ask of the memory. -/
def ItSt (mu : Mu) : Item → Prop
  | .t _ _ _ => True
  | .b id j _ _ => ∃ cs, mu id = some (.box cs) ∧ j < cs.length
  | .r id _ _ => ∃ es ms xs ver, mu id = some (.row es ms xs ver)

theorem unItem_t_sh {k : Nat} {s : St} {n : Nat} {ty : Ty} {d : ty.D} : unItem k s (.t n ty .sh) d = { s with env := upd s.env n (.c (ty.ro d)) } := rfl
theorem unItem_t_own {k : Nat} {s : St} {n : Nat} {es : Tys} {ms : List Md} (d : List es.D) : unItem k s (.t n (.sl es) (.own ms)) d = { s with env := upd s.env n (.c (.own k)), mu := upd s.mu k (some (.row es ms d 0)) } := rfl
theorem unItem_b_sh {k : Nat} {s : St} {id j : Nat} {ty : Ty} (d : ty.D) {cs : List CV} (h : s.mu id = some (.box cs)) : unItem k s (.b id j ty .sh) d = { s with mu := upd s.mu id (some (.box (cs.set j (ty.ro d)))) } := by
  show (match s.mu id with | some (.box cs) => ({ s with mu := upd s.mu id (some (.box (cs.set j (ty.ro d)))) } : St) | _ => s) = _
  rw [h]
theorem unItem_b_own {k : Nat} {s : St} {id j : Nat} {es : Tys} {ms : List Md} (d : List es.D) {cs : List CV} (h : s.mu id = some (.box cs)) : unItem k s (.b id j (.sl es) (.own ms)) d = { s with mu := upd (upd s.mu id (some (.box (cs.set j (.own k))))) k (some (.row es ms d 0)) } := by
  show ({ (match s.mu id with | some (.box cs) => ({ s with mu := upd s.mu id (some (.box (cs.set j (.own k)))) } : St) | _ => s) with mu := updL (match s.mu id with | some (.box cs) => ({ s with mu := upd s.mu id (some (.box (cs.set j (.own k)))) } : St) | _ => s).mu [(k, .row es ms d 0)] } : St) = _
  rw [h]
  rfl
theorem unItem_r {k : Nat} {s : St} {id : Nat} {es : Tys} {ms : List Md} (d : List es.D) {es0 : Tys} {ms0 : List Md} {xs0 : List es0.D} {ver : Nat} (h : s.mu id = some (.row es0 ms0 xs0 ver)) : unItem k s (.r id es ms) d = { s with mu := upd s.mu id (some (.row es ms d (ver + 1))) } := by
  show (match s.mu id with | some (.row _ _ _ ver) => ({ s with mu := upd s.mu id (some (.row es ms d (ver + 1))) } : St) | _ => s) = _
  rw [h]
theorem muOf {s s' : St} {id : Nat} {b : Option Blk} (h : s = s') (h2 : s'.mu id = b) : s.mu id = b := h ▸ h2

/-- How one item turns memory. -/
theorem unItem_mu {nx k : Nat} {s : St} {x : Item} {d : (itemTy x).D} {v : Value} (hit : ItF w g' nx tmps x v) (hst : ItSt s.mu x) : ∀ id, ((unItem (itemId nx k x) s x d).mu id = s.mu id) ∨
    (id = nx * 2048 + k ∧ ∃ es ms xs, (unItem (itemId nx k x) s x d).mu id = some (.row es ms xs 0)) ∨ (∃ j ty md cs cv, x = .b id j ty md ∧ s.mu id = some (.box cs) ∧ (unItem (itemId nx k x) s x d).mu id = some (.box (cs.set j cv))) ∨
    (∃ es ms es0 ms0 xs0 xs ver, x = .r id es ms ∧ s.mu id = some (.row es0 ms0 xs0 ver) ∧ (unItem (itemId nx k x) s x d).mu id = some (.row es ms xs (ver + 1))) := by
  intro id
  cases x with
  | t n ty md =>
    cases md with
    | sh => exact .inl rfl
    | own ms =>
      obtain ⟨_, hty⟩ := hit
      cases ty <;> simp [mdTy] at hty
      case sl es =>
        by_cases e : id = nx * 2048 + k
        · exact .inr (.inl ⟨e, es, ms, d, muOf (unItem_t_own (es := es) d) (by subst e; exact upd_same _ _ _)⟩)
        · exact .inl (muOf (unItem_t_own (es := es) d) (upd_ne _ _ e))
  | b id' j ty md =>
    obtain ⟨hlt, _, hty⟩ := hit
    obtain ⟨cs, hcs, hj⟩ := hst
    cases md with
    | sh =>
      by_cases e : id = id'
      · subst e; exact .inr (.inr (.inl ⟨j, ty, _, cs, _, rfl, hcs, muOf (unItem_b_sh (ty := ty) d hcs) (upd_same _ _ _)⟩))
      · exact .inl (muOf (unItem_b_sh (ty := ty) d hcs) (upd_ne _ _ e))
    | own ms =>
      cases ty <;> simp [mdTy] at hty
      case sl es =>
        by_cases e : id = nx * 2048 + k
        · exact .inr (.inl ⟨e, es, ms, d, muOf (unItem_b_own (es := es) d hcs) (by subst e; exact upd_same _ _ _)⟩)
        · by_cases e' : id = id'
          · subst e'; exact .inr (.inr (.inl ⟨j, _, _, cs, _, rfl, hcs, muOf (unItem_b_own (es := es) d hcs) ((upd_ne _ _ e).trans (upd_same _ _ _))⟩))
          · exact .inl (muOf (unItem_b_own (es := es) d hcs) ((upd_ne _ _ e).trans (upd_ne _ _ e')))
  | r id' es ms =>
    obtain ⟨es0, ms0, xs0, ver, h0⟩ := hst
    by_cases e : id = id'
    · subst e; exact .inr (.inr (.inr ⟨es, ms, es0, ms0, xs0, _, ver, rfl, h0, muOf (unItem_r (es := es) d h0) (upd_same _ _ _)⟩))
    · exact .inl (muOf (unItem_r (es := es) d h0) (upd_ne _ _ e))

theorem ItSt_keep {nx k : Nat} {s : St} {x y : Item} {d : (itemTy x).D} {v : Value} (hit : ItF w g' nx tmps x v) (hst : ItSt s.mu x) (hf : ∀ id, nx * 2048 + k ≤ id → s.mu id = none) (hy : ItSt s.mu y) :
    ItSt (unItem (itemId nx k x) s x d).mu y := by
  cases y with
  | t => trivial
  | b id j ty md =>
    obtain ⟨cs, hcs, hj⟩ := hy
    rcases unItem_mu (k := k) (d := d) hit hst id with h | ⟨h, _⟩ | ⟨j', _, _, cs', cv, _, h1, h2⟩ | ⟨_, _, _, _, _, _, _, _, h1, _⟩
    · exact ⟨cs, h.trans hcs, hj⟩
    · rw [hf id (by omega)] at hcs; cases hcs
    · rw [hcs] at h1; cases h1
      exact ⟨_, h2, by simpa using hj⟩
    · rw [hcs] at h1; cases h1
  | r id es ms =>
    obtain ⟨es0, ms0, xs0, ver, h0⟩ := hy
    rcases unItem_mu (k := k) (d := d) hit hst id with h | ⟨h, _⟩ | ⟨j', _, _, cs', cv, _, h1, h2⟩ | ⟨_, _, _, _, _, _, _, _, h1, h2⟩
    · exact ⟨_, _, _, _, h.trans h0⟩
    · rw [hf id (by omega)] at h0; cases h0
    · rw [h0] at h1; cases h1
    · exact ⟨_, _, _, _, h2⟩

/-- What becomes of memory by items. -/
theorem unItems_mu {nx : Nat} : ∀ (items : List Item) (k : Nat) {s : St} {d : (itemsTy items).D} {vals : List Value}, All2 (ItF w g' nx tmps) items vals → (∀ x ∈ items, ItSt s.mu x) → (∀ id, nx * 2048 + k ≤ id → s.mu id = none) →
    (∀ id, s.mu id ≠ none → (unItems nx items k s d).mu id ≠ none) ∧
    (∀ id es ms xs ver, s.mu id ≠ none → (unItems nx items k s d).mu id = some (.row es ms xs ver) → ((unItems nx items k s d).mu id = s.mu id ∧ ∀ es ms, .r id es ms ∉ items) ∨ ∃ es0 ms0 xs0 ver0, s.mu id = some (.row es0 ms0 xs0 ver0) ∧ ver0 < ver) ∧
    (∀ id, nx * 2048 + (k + items.length) ≤ id → (unItems nx items k s d).mu id = none) ∧
    (∀ i x es ms, items[i]? = some x → itemTy x = .sl es → itemMd x = .own ms → (unItems nx items k s d).mu (itemId nx (k + i) x) ≠ none)
  | [], k, s, d, vals, hit, hst, hf => ⟨fun id h => h, fun id es ms xs ver h h2 => .inl ⟨rfl, by simp⟩, fun id h => hf id (by simpa using h), by simp⟩
  | x :: r, k, s, d, [], hit, hst, hf => hit.elim
  | x :: r, k, s, d, v :: vals, hit, hst, hf => by
    have hx := hst x (by simp)
    have hmu := unItem_mu (k := k) (d := d.1) hit.1 hx
    have hf' : ∀ id, nx * 2048 + (k + 1) ≤ id → (unItem (itemId nx k x) s x d.1).mu id = none := by
      intro id hid
      rcases hmu id with h | ⟨h, _⟩ | ⟨j', _, _, cs', cv, _, h1, h2⟩ | ⟨_, _, _, _, _, _, _, _, h1, _⟩
      · rw [h]; exact hf id (by omega)
      · omega
      · rw [hf id (by omega)] at h1; cases h1
      · rw [hf id (by omega)] at h1; cases h1
    have hdom : ∀ id, s.mu id ≠ none → (unItem (itemId nx k x) s x d.1).mu id ≠ none := by
      intro id hid
      rcases hmu id with h | ⟨h, _, _, _, h2⟩ | ⟨j', _, _, cs', cv, _, h1, h2⟩ | ⟨_, _, _, _, _, _, _, _, h1, h2⟩
      · rw [h]; exact hid
      · rw [h2]; simp
      · rw [h2]; simp
      · rw [h2]; simp
    obtain ⟨h1, h2, h3, h4⟩ := unItems_mu r (k + 1) (s := unItem (itemId nx k x) s x d.1) (d := d.2) hit.2 (fun y hy => ItSt_keep hit.1 hx hf (hst y (by simp [hy]))) hf'
    refine ⟨fun id hid => h1 id (hdom id hid), fun id es ms xs ver hid hrow => ?_, fun id hid => h3 id (by simp at hid ⊢; omega), fun i x' es ms hi h5 h6 => ?_⟩
    · have hrow : (unItems nx r (k + 1) (unItem (itemId nx k x) s x d.1) d.2).mu id = some (.row es ms xs ver) := hrow
      rcases hmu id with h | ⟨h, _⟩ | ⟨j', ty', md', cs', cv, hx', h5, h6⟩ | ⟨es', ms', es0, ms0, xs0, xs1, ver0, hx', h5, h6⟩
      · rcases h2 id es ms xs ver (hdom id hid) hrow with ⟨h7, h8⟩ | ⟨es0, ms0, xs0, ver0, h7, h8⟩
        · by_cases hr : ∃ es' ms', x = .r id es' ms'
          · obtain ⟨es', ms', rfl⟩ := hr
            obtain ⟨es0, ms0, xs0, ver0, h0⟩ := hx
            have := (muOf (unItem_r (k := itemId nx k (.r id es' ms')) (es := es') d.1 h0) (upd_same s.mu id (some (Blk.row es' ms' d.1 (ver0 + 1))))).symm.trans (h.trans h0)
            simp only [Option.some.injEq] at this
            have e : ver0 + 1 = ver0 := by injection this
            omega
          · refine .inl ⟨h7.trans h, fun es' ms' hm => ?_⟩
            rcases List.mem_cons.1 hm with e | hm
            · exact hr ⟨_, _, e.symm⟩
            · exact h8 _ _ hm
        · right; exact ⟨es0, ms0, xs0, ver0, by rw [← h]; exact h7, h8⟩
      · rw [hf id (by omega)] at hid; exact absurd rfl hid
      · rcases h2 id es ms xs ver (hdom id hid) hrow with ⟨h7, _⟩ | ⟨es0, ms0, xs0, ver0, h7, _⟩
        · rw [hrow, h6] at h7; cases h7
        · rw [h6] at h7; cases h7
      · right
        rcases h2 id es ms xs ver (hdom id hid) hrow with ⟨h7, _⟩ | ⟨es2, ms2, xs2, ver2, h7, h8⟩
        · rw [hrow, h6] at h7; cases h7
          exact ⟨_, _, _, ver0, h5, by omega⟩
        · rw [h6] at h7; cases h7
          exact ⟨_, _, _, ver0, h5, by omega⟩
    · cases i with
      | zero =>
        simp only [List.getElem?_cons_zero, Option.some.injEq] at hi
        subst hi
        refine h1 _ ?_
        cases x with
        | t n ty md =>
          cases (h5 : ty = .sl es); cases (h6 : md = .own ms)
          intro h
          have := (muOf (unItem_t_own (k := nx * 2048 + k) (s := s) (n := n) (es := es) d.1) (upd_same _ _ _)).symm.trans h
          cases this
        | b id j ty md =>
          cases (h5 : ty = .sl es); cases (h6 : md = .own ms)
          obtain ⟨cs, hcs, _⟩ := hx
          intro h
          have := (muOf (unItem_b_own (k := nx * 2048 + k) (j := j) (ms := ms) (es := es) d.1 hcs) (upd_same _ _ _)).symm.trans h
          cases this
        | r id es' ms' =>
          obtain ⟨es0, ms0, xs0, ver, h0⟩ := hx
          intro h
          have := (muOf (unItem_r (k := id) (ms := ms') (es := es') d.1 h0) (upd_same _ _ _)).symm.trans h
          cases this
      | succ i =>
        have := h4 i x' es ms (by simpa using hi) h5 h6
        rw [show k + (i + 1) = k + 1 + i by omega]
        exact this
end
end Go.Tm

/- The pure machine, 33: items told anew are what there is. -/
namespace Go.Tm
open Go

section
variable {P : Program} {w : World} {g g' : Gh} {mu mu0 muF : Mu} {tmps : Array Value}

theorem BlkOk.less {pend pend' : List Item} {id : Nat} {b : Blk} (h : BlkOk P w g' muF pend id b) (hs : ∀ j ty md, .b id j ty md ∈ pend → .b id j ty md ∈ pend') : BlkOk P w g' muF pend' id b := by
  cases b with
  | box cs =>
    obtain ⟨b, base, hc, h⟩ := h
    exact ⟨b, base, hc, fun j cv hj hn => h j cv hj fun ty md hm => hn ty md (hs j ty md hm)⟩
  | _ => exact h

theorem envOf {s s' : St} {n : Nat} {v : TV} (h : s = s') (h2 : s'.env n = v) : s.env n = v := h ▸ h2

theorem item_own_R {es : Tys} {ms : List Md} {k : Nat} {d : List es.D} {v : Value} (hH : (Ty.sl es).H P w g'.o (.own ms) (.o [k]) d v) (hk : muF k ≠ none) (hc : g'.c k = .row v) : (CV.own k).R P w g' muF v := by
  obtain ⟨a, c, hv, _⟩ := H_own.1 hH
  exact ⟨hk, hc, a, _, c, hv⟩

/-- One cell of a box, told anew. -/
theorem box_set {r : List Item} {id j : Nat} {ty : Ty} {md : Md} {cs : List CV} {cv : CV} {v : Value} (hmem : BlkOk P w g' muF (.b id j ty md :: r) id (.box cs))
    (hit : ∃ b base, g'.c id = .box b base ∧ w.cell? ⟨b, base + j, none⟩ = some v ∧ g'.o b (base + j) = .o [id]) (hcv : cv.R P w g' muF v) : BlkOk P w g' muF r id (.box (cs.set j cv)) := by
  obtain ⟨b, base, hc, h⟩ := hmem
  obtain ⟨b', base', hc', h1, h2⟩ := hit
  rw [hc] at hc'; cases hc'
  refine ⟨b, base, hc, fun j' cv' hj' hn => ?_⟩
  by_cases e : j = j'
  · subst e
    rw [List.getElem?_set] at hj'
    simp only [if_true] at hj'
    split at hj'
    · cases hj'; exact ⟨v, h1, h2, hcv⟩
    · cases hj'
  · rw [List.getElem?_set_ne e] at hj'
    refine h j' cv' hj' fun ty' md' hm => ?_
    rcases List.mem_cons.1 hm with hm | hm
    · cases hm; exact e rfl
    · exact hn _ _ hm

theorem unItems_ok {nx : Nat} : ∀ (items : List Item) (k : Nat) {s : St} {d : (itemsTy items).D} {vals : List Value}, ItemsH P w g'.o nx (fun to => .o [to]) items k d vals → All2 (ItF w g' nx tmps) items vals → (∀ x ∈ items, ItSt s.mu x) →
    (∀ id, nx * 2048 + k ≤ id → s.mu id = none) → (∀ i v, vals[i]? = some v → g'.c (nx * 2048 + (k + i)) = .row v) → muF = (unItems nx items k s d).mu → EnvOk P w g' muF tmps items s.env → MemOk P w g' muF items s.mu →
    EnvOk P w g' muF tmps [] (unItems nx items k s d).env ∧ MemOk P w g' muF [] (unItems nx items k s d).mu
  | [], k, s, d, vals, hH, hit, hst, hf, hc, hF, he, hm => ⟨he, hm⟩
  | x :: r, k, s, d, [], hH, hit, hst, hf, hc, hF, he, hm => hit.elim
  | x :: r, k, s, d, v :: vals, hH, hit, hst, hf, hc, hF, he, hm => by
    obtain ⟨v', vals', e, hx, hr⟩ := hH
    simp only [List.cons.injEq] at e
    obtain ⟨rfl, rfl⟩ := e
    have hxs := hst x (by simp)
    have hdomF : ∀ es ms, itemTy x = .sl es → itemMd x = .own ms → muF (itemId nx k x) ≠ none := fun es ms h1 h2 => by
      have := (unItems_mu (k := k) (s := s) (d := d) (x :: r) hit hst hf).2.2.2 0 x es ms rfl h1 h2
      rw [hF]; exact this
    have hck : g'.c (nx * 2048 + k) = .row v := by have := hc 0 v rfl; simpa using this
    have hf' : ∀ id, nx * 2048 + (k + 1) ≤ id → (unItem (itemId nx k x) s x d.1).mu id = none := by
      intro id hid
      rcases unItem_mu (k := k) (d := d.1) hit.1 hxs id with h | ⟨h, _⟩ | ⟨j', _, _, cs', cv, _, h1, h2⟩ | ⟨_, _, _, _, _, _, _, _, h1, _⟩
      · rw [h]; exact hf id (by omega)
      · omega
      · rw [hf id (by omega)] at h1; cases h1
      · rw [hf id (by omega)] at h1; cases h1
    have hnoneK : s.mu (nx * 2048 + k) = none := hf _ (Nat.le_refl _)
    have both : EnvOk P w g' muF tmps r (unItem (itemId nx k x) s x d.1).env ∧ MemOk P w g' muF r (unItem (itemId nx k x) s x d.1).mu := by
      cases x with
      | t m ty md =>
        obtain ⟨rfl, hty⟩ := hit.1
        cases md with
        | sh =>
          have heq := unItem_t_sh (k := nx * 2048 + k) (s := s) (n := m) (ty := ty) (d := d.1)
          refine ⟨fun n hn => ?_, fun id b hb hn => ?_⟩
          · by_cases e : n = m
            · subst e
              rw [show (unItem (itemId nx k (.t n ty .sh)) s (.t n ty .sh) d.1).env n = .c (ty.ro d.1) from envOf heq (upd_same _ _ _)]
              exact ro_R ty (H_q ty hx)
            · rw [show (unItem (itemId nx k (.t m ty .sh)) s (.t m ty .sh) d.1).env n = s.env n from envOf heq (upd_ne _ _ e)]
              exact he n fun ty' md' hm => by
                rcases List.mem_cons.1 hm with hm | hm
                · cases hm; exact e rfl
                · exact hn _ _ hm
          · exact (hm id b hb fun es ms hmem => by rcases List.mem_cons.1 hmem with h | h; cases h; exact hn _ _ h).less fun j ty' md' h => by
              rcases List.mem_cons.1 h with h | h; cases h; exact h
        | own ms =>
          cases ty <;> simp [mdTy] at hty
          case sl es =>
            have heq := unItem_t_own (k := nx * 2048 + k) (s := s) (n := m) (es := es) (ms := ms) d.1
            refine ⟨fun n hn => ?_, fun id b hb hn => ?_⟩
            · by_cases e : n = m
              · subst e
                rw [show (unItem (itemId nx k (.t n (.sl es) (.own ms))) s (.t n (.sl es) (.own ms)) d.1).env n = .c (.own (nx * 2048 + k)) from envOf heq (upd_same _ _ _)]
                exact item_own_R (es := es) (ms := ms) (d := d.1) hx (hdomF es ms rfl rfl) hck
              · rw [show (unItem (itemId nx k (.t m (.sl es) (.own ms))) s (.t m (.sl es) (.own ms)) d.1).env n = s.env n from envOf heq (upd_ne _ _ e)]
                exact he n fun ty' md' hm => by
                  rcases List.mem_cons.1 hm with hm | hm
                  · cases hm; exact e rfl
                  · exact hn _ _ hm
            · by_cases e : id = nx * 2048 + k
              · subst e
                have := (muOf heq (upd_same _ _ _)).symm.trans hb
                simp only [Option.some.injEq] at this
                subst this
                exact ⟨_, hck, hx⟩
              · exact (hm id b ((muOf heq (upd_ne _ _ e)).symm.trans hb) fun es ms hmem => by rcases List.mem_cons.1 hmem with h | h; cases h; exact hn _ _ h).less fun j ty' md' h => by
                  rcases List.mem_cons.1 h with h | h; cases h; exact h
      | b id0 j ty md =>
        obtain ⟨hlt, hcell, hty⟩ := hit.1
        obtain ⟨cs, hcs, hj⟩ := hxs
        have hbox := hm id0 _ hcs fun es ms hmem => by
          obtain ⟨_, _, _, _, h⟩ := hst _ hmem
          rw [hcs] at h; cases h
        cases md with
        | sh =>
          have heq := unItem_b_sh (k := nx * 2048 + k) (j := j) (ty := ty) d.1 hcs
          refine ⟨fun n hn => ?_, fun id b hb hn => ?_⟩
          · rw [show (unItem (itemId nx k (.b id0 j ty .sh)) s (.b id0 j ty .sh) d.1).env n = s.env n from envOf heq rfl]
            exact he n fun ty' md' hm => by
              rcases List.mem_cons.1 hm with hm | hm
              · cases hm
              · exact hn _ _ hm
          · by_cases e : id = id0
            · subst e
              have := (muOf heq (upd_same _ _ _)).symm.trans hb
              simp only [Option.some.injEq] at this
              subst this
              exact box_set hbox hcell (ro_R ty (H_q ty hx))
            · exact (hm id b ((muOf heq (upd_ne _ _ e)).symm.trans hb) fun es ms hmem => by rcases List.mem_cons.1 hmem with h | h; cases h; exact hn _ _ h).less fun j ty' md' h => by
                rcases List.mem_cons.1 h with h | h
                · cases h; exact absurd rfl e
                · exact h
        | own ms =>
          cases ty <;> simp [mdTy] at hty
          case sl es =>
            have heq := unItem_b_own (k := nx * 2048 + k) (j := j) (ms := ms) (es := es) d.1 hcs
            refine ⟨fun n hn => ?_, fun id b hb hn => ?_⟩
            · rw [show (unItem (itemId nx k (.b id0 j (.sl es) (.own ms))) s (.b id0 j (.sl es) (.own ms)) d.1).env n = s.env n from envOf heq rfl]
              exact he n fun ty' md' hm => by
                rcases List.mem_cons.1 hm with hm | hm
                · cases hm
                · exact hn _ _ hm
            · by_cases e : id = nx * 2048 + k
              · subst e
                have := (muOf heq (upd_same _ _ _)).symm.trans hb
                simp only [Option.some.injEq] at this
                subst this
                exact ⟨_, hck, hx⟩
              · by_cases e' : id = id0
                · subst e'
                  have := (muOf heq ((upd_ne _ _ e).trans (upd_same _ _ _))).symm.trans hb
                  simp only [Option.some.injEq] at this
                  subst this
                  exact box_set hbox hcell (item_own_R (es := es) (ms := ms) (d := d.1) hx (hdomF es ms rfl rfl) hck)
                · exact (hm id b ((muOf heq ((upd_ne _ _ e).trans (upd_ne _ _ e'))).symm.trans hb) fun es ms hmem => by rcases List.mem_cons.1 hmem with h | h; cases h; exact hn _ _ h).less fun j ty' md' h => by
                    rcases List.mem_cons.1 h with h | h
                    · cases h; exact absurd rfl e'
                    · exact h
      | r id0 es ms =>
        obtain ⟨hlt, hrc⟩ := hit.1
        obtain ⟨es0, ms0, xs0, ver, h0⟩ := hxs
        have heq := unItem_r (k := itemId nx k (.r id0 es ms)) (ms := ms) (es := es) d.1 h0
        refine ⟨fun n hn => ?_, fun id b hb hn => ?_⟩
        · rw [show (unItem (itemId nx k (.r id0 es ms)) s (.r id0 es ms) d.1).env n = s.env n from envOf heq rfl]
          exact he n fun ty' md' hm => by
            rcases List.mem_cons.1 hm with hm | hm
            · cases hm
            · exact hn _ _ hm
        · by_cases e : id = id0
          · subst e
            have := (muOf heq (upd_same _ _ _)).symm.trans hb
            simp only [Option.some.injEq] at this
            subst this
            exact ⟨_, hrc, hx⟩
          · exact (hm id b ((muOf heq (upd_ne _ _ e)).symm.trans hb) fun es ms hmem => by
              rcases List.mem_cons.1 hmem with h | h
              · cases h; exact absurd rfl e
              · exact hn _ _ h).less fun j ty' md' h => by
                rcases List.mem_cons.1 h with h | h; cases h; exact h
    exact unItems_ok r (k + 1) (s := unItem (itemId nx k x) s x d.1) (d := d.2) hr hit.2 (fun y hy => ItSt_keep hit.1 hxs hf (hst y (by simp [hy]))) hf' (fun i u hi => by
      have := hc (i + 1) u (by simpa using hi)
      rwa [show k + (i + 1) = k + 1 + i by omega] at this) hF both.1 both.2
end
end Go.Tm

/- The pure machine, 34: a state told anew tells the world. -/
namespace Go.Tm
open Go

/-- The memory that is told anew, ahead of the items. -/
def muB (st0 : St) (us0 : List Use) (a : Ann) : Mu := updL (updL st0.mu (fzsI st0.mu us0)) (a.dead.map fun n => (n, .dead))

/-- How the state that is told anew hangs together with the one that is there. -/
structure Link (st0 st : St) (us0 us : List Use) (a : Ann) : Prop where
  env : ∀ n, a.clear.any (Nat.beq n) = false → (∀ ty md, .t n ty md ∉ a.items) → st.env n = st0.env n
  mem : ∀ id b, muB st0 us0 a id = some b → (∀ es ms, .r id es ms ∉ a.items) → b = .dead ∨
    (∃ cs cs', b = .box cs ∧ st0.mu id = some (.box cs) ∧ st.mu id = some (.box cs') ∧ ∀ j cv, cs[j]? = some cv → (∀ ty md, .b id j ty md ∉ a.items) → cs'[j]? = some cv) ∨
    (st.mu id = some b ∧ (∀ cs, b ≠ .box cs) ∧ ∀ u ∈ us, useId u = id → ∃ es xs, b = .fz es xs) ∨
    (∃ es xs ms ver, b = .fz es xs ∧ st.mu id = some (.row es ms xs ver) ∧ .pm id ∈ us)
  dom : ∀ id, id < st0.nx * 2048 → st.mu id ≠ none → muB st0 us0 a id ≠ none
  rows : ∀ id es ms, .r id es ms ∈ a.items → muB st0 us0 a id = st0.mu id
  boxes : ∀ id j ty md, .b id j ty md ∈ a.items → muB st0 us0 a id = st0.mu id
  us0 : ∀ u ∈ us0, st0.mu (useId u) ≠ none

theorem fzsI_mem {mu : Mu} {id : Nat} {b : Blk} : ∀ {us : List Use}, (id, b) ∈ fzsI mu us → (b = .dead ∨ ∃ es ms xs ver, mu id = some (.row es ms xs ver) ∧ b = .fz es xs ∧ .pm id ∈ us) ∧ ∃ u ∈ us, useId u = id ∧ ∀ to, u = .mv id to → id ≠ to
  | [], h => by cases h
  | u :: r, h => by
    have tail : (id, b) ∈ fzsI mu r → (b = .dead ∨ ∃ es ms xs ver, mu id = some (.row es ms xs ver) ∧ b = .fz es xs ∧ .pm id ∈ u :: r) ∧ ∃ x ∈ u :: r, useId x = id ∧ ∀ to, x = .mv id to → id ≠ to := fun h => by
      obtain ⟨h1, x, hx, h2⟩ := fzsI_mem h
      exact ⟨h1.imp (fun h => h) (fun ⟨es, ms, xs, ver, h3, h4, h5⟩ => ⟨es, ms, xs, ver, h3, h4, List.mem_cons_of_mem _ h5⟩), x, List.mem_cons_of_mem _ hx, h2⟩
    cases u with
    | mv id' to =>
      simp only [fzsI] at h
      rcases List.mem_append.1 h with h | h
      · cases hb : Nat.beq id' to with
        | true => simp [hb] at h
        | false =>
          simp only [hb, cond_false, List.mem_singleton, Prod.mk.injEq] at h
          obtain ⟨rfl, rfl⟩ := h
          exact ⟨.inl rfl, .mv id to, List.mem_cons_self, rfl, fun to' e => by cases e; exact fun e => by rw [e, Nat.beq_refl] at hb; cases hb⟩
      · exact tail h
    | pm id' =>
      simp only [fzsI] at h
      rcases List.mem_append.1 h with h | h
      · cases hm : mu id' with
        | none => simp [hm] at h
        | some bl =>
          cases bl <;> simp only [hm] at h <;> try (cases h; done)
          case row es ms xs ver =>
            simp only [List.mem_singleton, Prod.mk.injEq] at h
            obtain ⟨rfl, rfl⟩ := h
            exact ⟨.inr ⟨es, ms, xs, ver, hm, rfl, List.mem_cons_self⟩, .pm id, List.mem_cons_self, rfl, fun to' e => by cases e⟩
          case box cs =>
            simp only [List.mem_singleton, Prod.mk.injEq] at h
            obtain ⟨rfl, rfl⟩ := h
            exact ⟨.inl rfl, .pm id, List.mem_cons_self, rfl, fun to' e => by cases e⟩
      · exact tail h

theorem fzsI_of_mv {mu : Mu} {id to : Nat} (hne : id ≠ to) : ∀ {us : List Use}, .mv id to ∈ us → (id, .dead) ∈ fzsI mu us
  | u :: r, h => by
    rcases List.mem_cons.1 h with rfl | h
    · have : Nat.beq id to = false := Bool.eq_false_iff.2 fun e => hne (Nat.eq_of_beq_eq_true e)
      simp [fzsI, this]
    · have := fzsI_of_mv (mu := mu) hne h
      cases u <;> exact List.mem_append_right _ this
theorem fzsI_of_pm {mu : Mu} {id : Nat} {es : Tys} {ms : List Md} {xs : List es.D} {ver : Nat} (hm : mu id = some (.row es ms xs ver)) : ∀ {us : List Use}, .pm id ∈ us → (id, .fz es xs) ∈ fzsI mu us
  | u :: r, h => by
    rcases List.mem_cons.1 h with rfl | h
    · simp [fzsI, hm]
    · have := fzsI_of_pm hm h
      cases u <;> exact List.mem_append_right _ this

theorem dead_mem {l : List Nat} {id : Nat} {b : Blk} (h : (id, b) ∈ l.map fun n => (n, Blk.dead)) : b = .dead ∧ id ∈ l := by
  obtain ⟨n, hn, e⟩ := List.mem_map.1 h
  cases e; exact ⟨rfl, hn⟩

/-- What the memory is, ahead of the items. -/
theorem muB_cases {st0 : St} {us0 : List Use} {a : Ann} {id : Nat} {b : Blk} (h : muB st0 us0 a id = some b) :
    (st0.mu id = some b ∧ id ∉ a.dead ∧ ∀ b', (id, b') ∉ fzsI st0.mu us0) ∨ (b = .dead ∧ id ∈ a.dead) ∨
    (id ∉ a.dead ∧ ∃ u ∈ us0, useId u = id ∧ (∀ to, u = .mv id to → id ≠ to) ∧ (b = .dead ∨ ∃ es ms xs ver, st0.mu id = some (.row es ms xs ver) ∧ b = .fz es xs ∧ .pm id ∈ us0)) := by
  rcases updL_cases h with h | ⟨h2, h⟩
  · exact .inr (.inl (dead_mem h))
  · have hd : id ∉ a.dead := fun hd => h2 .dead (List.mem_map.2 ⟨id, hd, rfl⟩)
    rcases updL_cases h with h | ⟨h3, h⟩
    · obtain ⟨h1, u, hu, h4, h5⟩ := fzsI_mem h
      exact .inr (.inr ⟨hd, u, hu, h4, h5, h1⟩)
    · exact .inl ⟨h, hd, h3⟩

/-- Owners told anew by what is used; what is newer than the state is nobody's. -/
def tellF (n : Nat) (us : List Use) : Nat → List Nat → Own := fun id s =>
  match findU id us with
  | some (.mv _ to) => .o (to :: s)
  | some (.pm _) => .p
  | none => if n ≤ id then .x else .o (id :: s)

open Classical in
noncomputable def tellG (n : Nat) (us : List Use) (vals : List Value) (g : Gh) : Gh :=
  ⟨fun b k => re (tellF n us) (g.o b k), fun id => if n ≤ id then .row (vals.getD (id - n) undef) else g.c id⟩

section
variable {P : Program} {w w0 : World} {o0 : Nat → Nat → Own} {g : Gh} {tmps : Array Value} {nt : Nat}

theorem tell_mv {n : Nat} {us : List Use} {id to : Nat} (hu : usesOk us = true) (h : Use.mv id to ∈ us) (s : List Nat) : tellF n us id s = .o (to :: s) := by simp [tellF, findU_mv hu h]
theorem tell_pm {n : Nat} {us : List Use} {id : Nat} (hu : usesOk us = true) (h : Use.pm id ∈ us) (s : List Nat) : tellF n us id s = .p := by simp [tellF, findU_pm hu h]
theorem tell_none {n : Nat} {us : List Use} {id : Nat} (h : ∀ u ∈ us, useId u ≠ id) (hl : id < n) (s : List Nat) : tellF n us id s = .o (id :: s) := by
  have : findU id us = none := by
    cases e : findU id us with
    | none => rfl
    | some u => obtain ⟨h1, h2⟩ := findU_id e; exact absurd h1 (h u h2)
  simp [tellF, this]; omega

theorem tell_perm {n : Nat} {us : List Use} {vals : List Value} : PermKeep w g.o w (tellG n us vals g).o := fun b k v hv ho => ⟨hv, by simp [tellG, ho, re]⟩

theorem tell_served {n : Nat} {us : List Use} {vals : List Value} (hu : usesOk us = true) : ∀ u ∈ us, Served (fun to => .o [to]) w g.o w (tellG n us vals g).o u := by
  intro u hm
  cases u with
  | mv id to => exact .inl ⟨[to], rfl, fun b k s v hv ho => ⟨hv, by simp only [List.cons_append, List.nil_append] at ho ⊢; simp [tellG, ho, re, tell_mv hu hm]⟩⟩
  | pm id => exact .inr ⟨rfl, fun b k s v hv ho => ⟨hv, by simp only [List.cons_append, List.nil_append] at ho ⊢; simp [tellG, ho, re, tell_pm hu hm]⟩⟩

theorem tell_keep {n : Nat} {us : List Use} {vals : List Value} {id : Nat} (h : ∀ u ∈ us, useId u ≠ id) (hl : id < n) : Rl w g.o w (tellG n us vals g).o (.o [id]) (.o [id]) :=
  .inl ⟨[id], rfl, fun b k s v hv ho => ⟨hv, by simp only [List.cons_append, List.nil_append] at ho ⊢; simp [tellG, ho, re, tell_none h hl]⟩⟩

theorem tell_keep0 {n : Nat} {us : List Use} {vals : List Value} {id : Nat} (h : ∀ u ∈ us, useId u ≠ id) (hl : id < n) {b k : Nat} (ho : g.o b k = .o [id]) : (tellG n us vals g).o b k = .o [id] := by
  simp [tellG, ho, re, tell_none h hl]

/-- A state told anew tells the world. -/
theorem retell {st0 st : St} {a : Ann} {us0 us : List Use} {d : (itemsTy a.items).D} {vals : List Value} (hI : InSt st0) (hfr0 : ∀ id, st0.nx * 2048 ≤ id → st0.mu id = none)
    (rel : Rel P nt w0 o0 st.env st.mu tmps w g) (hst : stOk st0 a = true) (hit : All2 (ItV P w g st tmps) a.items vals)
    (hus : ∀ u ∈ us, UsR st.mu (fun t => ∃ i x es ms, a.items[i]? = some x ∧ t = itemId st0.nx (0 + i) x ∧ itemTy x = .sl es ∧ itemMd x = .own ms) False u)
    (hH : ∀ (dest : Nat → Own) w' o', PermKeep w g.o w' o' → (∀ u ∈ us, Served dest w g.o w' o' u) → ItemsH P w' o' st0.nx dest a.items 0 d vals)
    (huk : usesOk us = true) (L : Link st0 st us0 us a) :
    ∃ g', Rel P nt w0 o0 (reState st0 us0 a d).env (reState st0 us0 a d).mu tmps w g' ∧ (∀ id, id < st0.nx * 2048 → g'.c id = g.c id) ∧ (∀ id, (st0.nx + 1) * 2048 ≤ id → (reState st0 us0 a d).mu id = none) ∧
      (∀ id, id < st0.nx * 2048 → st.mu id ≠ none → (reState st0 us0 a d).mu id ≠ none) := by
  have hst' := hst
  simp only [stOk, Bool.and_eq_true, List.all_eq_true] at hst'
  obtain ⟨⟨hitems, hdead⟩, hlen⟩ := hst'
  have hlen := Nat.le_of_ble_eq_true hlen
  have hlt0 : ∀ id, st0.mu id ≠ none → id < st0.nx * 2048 := fun id h => by
    rcases Nat.lt_or_ge id (st0.nx * 2048) with h' | h'
    · exact h'
    · exact absurd (hfr0 id h') h
  have hdlt : ∀ id ∈ a.dead, id < st0.nx * 2048 := fun id h => by simpa [Nat.blt_eq] using hdead id h
  -- memory ahead of the items
  have hBlt : ∀ id b, muB st0 us0 a id = some b → id < st0.nx * 2048 := fun id b h => by
    rcases muB_cases h with ⟨h, _⟩ | ⟨_, h⟩ | ⟨_, u, hu, e, _⟩
    · exact hlt0 id (by simp [h])
    · exact hdlt id h
    · exact hlt0 id (e ▸ L.us0 u hu)
  have hBsome : ∀ id, st0.mu id ≠ none → muB st0 us0 a id ≠ none := fun id h => updL_some (updL_some h)
  have hBfresh : ∀ id, st0.nx * 2048 + 0 ≤ id → muB st0 us0 a id = none := fun id h => by
    cases e : muB st0 us0 a id with
    | none => rfl
    | some b => have := hBlt id b e; omega
  let n := st0.nx * 2048
  let g' := tellG n us vals g
  let s : St := { env := fun n => bif a.clear.any (Nat.beq n) then .un else st0.env n, mu := muB st0 us0 a, nx := st0.nx + 1, tw := a.items.flatMap itemTw ++ (a.clear ++ st0.tw), mw := a.items.flatMap itemMw ++ (us0.map (fun u => .all (useId u)) ++ (a.dead.map .all ++ st0.mw)) }
  have hS : reState st0 us0 a d = unItems st0.nx a.items 0 s d := rfl
  have hgc : ∀ id, id < n → g'.c id = g.c id := fun id h => if_neg (Nat.not_le.2 h)
  have hItSt : ∀ x ∈ a.items, ItSt s.mu x := by
    intro x hx
    have h := hitems x hx
    cases x with
    | t => trivial
    | b id j ty md =>
      have e : s.mu id = st0.mu id := L.boxes id j ty md hx
      simp only [Bool.and_eq_true] at h
      have h := h.2
      split at h
      · rename_i cs hcs
        simp only [Bool.and_eq_true] at h
        exact ⟨cs, e.trans hcs, by simpa [Nat.blt_eq] using h.1⟩
      · cases h
    | r id es ms =>
      have e : s.mu id = st0.mu id := L.rows id es ms hx
      dsimp only at h
      split at h
      · rename_i es0 ms0 xs0 ver hr; exact ⟨es0, ms0, xs0, ver, e.trans hr⟩
      · cases h
  -- a box that is told anew is used by nobody
  have hunused : ∀ id, (∃ cs, st.mu id = some (.box cs)) → ∀ u ∈ us, useId u ≠ id := by
    rintro id ⟨cs, hcs⟩ u hu e
    have := hus u hu
    cases u with
    | mv id' to => cases (e : id' = id); obtain ⟨⟨es, ms, xs, ver, h⟩, _⟩ := this; cases h.symm.trans hcs
    | pm id' =>
      cases (e : id' = id)
      rcases this with ⟨es, ms, xs, ver, h⟩ | ⟨es, xs, h⟩ | ⟨h, _⟩
      · cases h.symm.trans hcs
      · cases h.symm.trans hcs
      · exact h
  have hItF : All2 (ItF w g' st0.nx tmps) a.items vals := by
    have key : ∀ (items : List Item) (vals : List Value), (∀ x ∈ items, x ∈ a.items) → All2 (ItV P w g st tmps) items vals → All2 (ItF w g' st0.nx tmps) items vals := by
      intro items
      induction items with
      | nil => intro vals _ h; cases vs : vals <;> simp_all [All2]
      | cons x r ih =>
        intro vals hsub h
        cases vals with
        | nil => exact h.elim
        | cons v vals =>
          refine ⟨?_, ih vals (fun y hy => hsub y (by simp [hy])) h.2⟩
          have hx := hsub x (by simp)
          have ho := hitems x hx
          have hv := h.1
          cases x with
          | t m ty md => exact ⟨hv, ho⟩
          | b id j ty md =>
            obtain ⟨cs, b, base, hcs, hc, hcell, hown⟩ := hv
            obtain ⟨cs0, hcs0, _⟩ := hItSt _ hx
            have hlt : id < n := hBlt id _ hcs0
            simp only [Bool.and_eq_true] at ho
            exact ⟨hlt, ⟨b, base, (hgc id hlt).trans hc, hcell, tell_keep0 (hunused id ⟨cs, hcs⟩) hlt hown⟩, ho.1⟩
          | r id es ms =>
            obtain ⟨hc, _⟩ := hv
            obtain ⟨_, _, _, _, hr0⟩ := hItSt _ hx
            have hlt : id < n := hBlt id _ hr0
            exact ⟨hlt, (hgc id hlt).trans hc⟩
    exact key a.items vals (fun _ h => h) hit
  have hmu := unItems_mu (g' := g') (w := w) (tmps := tmps) (nx := st0.nx) a.items 0 (s := s) (d := d) hItF hItSt hBfresh
  have hperm : PermKeep w g.o w g'.o := tell_perm
  have hserved : ∀ u ∈ us, Served (fun to => .o [to]) w g.o w g'.o u := tell_served huk
  have hDom : ∀ id, st0.mu id ≠ none → (reState st0 us0 a d).mu id ≠ none := fun id h => hmu.1 id (hBsome id h)
  have hT : Tell w g st.mu st0.mu g' (reState st0 us0 a d).mu := by
    refine ⟨hperm, rel.wf, fun id h => ⟨hDom id h, hgc id (hlt0 id h)⟩, fun id es ms xs ver' h hrow => ?_⟩
    rcases hmu.2.1 id es ms xs ver' (hBsome id h) hrow with ⟨h1, h2⟩ | ⟨es0, ms0, xs0, ver0, h1, h2⟩
    · right
      have hrow' : muB st0 us0 a id = some (.row es ms xs ver') := h1.symm.trans hrow
      rcases L.mem id _ hrow' h2 with h3 | ⟨_, _, h3, _⟩ | ⟨h3, _, h4⟩ | ⟨_, _, _, _, h3, _⟩
      · cases h3
      · cases h3
      · refine ⟨h3.trans hrow.symm, fun b k ho => tell_keep0 (fun u hu e => ?_) (hlt0 id h) ho⟩
        obtain ⟨_, _, h5⟩ := h4 u hu e
        cases h5
      · cases h3
    · left
      have h1 : muB st0 us0 a id = some (.row es0 ms0 xs0 ver0) := h1
      rcases muB_cases h1 with ⟨h1, _⟩ | ⟨h1, _⟩ | ⟨_, _, _, _, _, h1 | ⟨_, _, _, _, _, h1, _⟩⟩
      · exact ⟨_, _, _, _, h1, h2⟩
      · cases h1
      · cases h1
      · cases h1
  have hEnv : EnvOk P w g' (reState st0 us0 a d).mu tmps a.items s.env := by
    intro m hm
    show TV.R P w g' _ (bif a.clear.any (Nat.beq m) then .un else st0.env m) _
    cases hc : a.clear.any (Nat.beq m) with
    | true => trivial
    | false =>
      have := rel.env m
      rw [L.env m hc hm] at this
      exact TV.told hT (hI.env m) this
  have hMem : MemOk P w g' (reState st0 us0 a d).mu a.items s.mu := by
    intro id b hb hr
    have hlt : id < n := hBlt id b hb
    rcases L.mem id b hb hr with rfl | ⟨cs, cs', rfl, h1, h2, h3⟩ | ⟨h1, h2, h3⟩ | ⟨es, xs, ms, ver, rfl, h1, h2⟩
    · trivial
    · obtain ⟨b, base, hc, hcell⟩ := rel.mem id _ h2
      refine ⟨b, base, (hgc id hlt).trans hc, fun j cv hj hn => ?_⟩
      obtain ⟨v, h4, h5, h6⟩ := hcell j cv (h3 j cv hj hn)
      exact ⟨v, h4, tell_keep0 (hunused id ⟨cs', h2⟩) hlt h5, CV.told hT (hI.box id cs cv h1 (List.mem_of_getElem? hj)) h6⟩
    · have hbr := rel.mem id b h1
      cases b with
      | box cs => exact absurd rfl (h2 cs)
      | dead => trivial
      | rbox es x =>
        obtain ⟨b, base, hc, hr⟩ := hbr
        exact ⟨b, base, (hgc id hlt).trans hc, Hs_re hperm rel.wf es [] .p .p (fun _ => .p) (fun _ => .p) 0 x b base rfl (fun _ => rfl) hr⟩
      | row es ms xs ver =>
        obtain ⟨v, hc, hr⟩ := hbr
        exact ⟨v, (hgc id hlt).trans hc, H_re hperm rel.wf (.sl es) (.own ms) _ _ xs v (tell_keep (fun u hu e => by obtain ⟨_, _, h⟩ := h3 u hu e; cases h) hlt) hr⟩
      | fz es xs =>
        obtain ⟨v, hc, hr⟩ := hbr
        exact ⟨v, (hgc id hlt).trans hc, H_re hperm rel.wf (.sl es) .sh .p .p xs v rfl hr⟩
    · obtain ⟨v, hc, hr⟩ := rel.mem id _ h1
      exact ⟨v, (hgc id hlt).trans hc, H_q _ (H_md _ _ .sh _ _ (H_re hperm rel.wf (.sl es) (.own ms) (.o [id]) .p xs v (hserved (.pm id) h2) hr))⟩
  have hvals : vals.length = a.items.length := (All2.length hItF).symm
  obtain ⟨hE, hM⟩ := unItems_ok (g' := g') (muF := (reState st0 us0 a d).mu) a.items 0 (s := s) (d := d) (hH _ w g'.o hperm hserved) hItF hItSt hBfresh (fun i v hi => by
      have h1 : i < vals.length := by
        rcases Nat.lt_or_ge i vals.length with h | h
        · exact h
        · simp [List.getElem?_eq_none h] at hi
      show (if n ≤ st0.nx * 2048 + (0 + i) then Conc.row (vals.getD (st0.nx * 2048 + (0 + i) - n) undef) else _) = _
      rw [if_pos (by show st0.nx * 2048 ≤ _; omega), show st0.nx * 2048 + (0 + i) - n = i by show _ - st0.nx * 2048 = _; omega]
      simp [List.getD, hi]) rfl hEnv hMem
  have hdom2 : ∀ id, id < n → st.mu id ≠ none → (reState st0 us0 a d).mu id ≠ none := fun id h1 h2 => hmu.1 id (L.dom id h1 h2)
  have hfne : ∀ id s, tellF n us id s ≠ .o [] := by
    intro id s
    unfold tellF
    split
    · simp
    · simp
    · split <;> simp
  refine ⟨g', ⟨rel.sz, fun t => hE t (by simp), fun id b hb => ?_, ⟨fun b k π h => ?_, fun b k => re_ne hfne⟩, fun b k id l h => ?_, rel.fr.trans rel.wf ?_⟩, hgc, fun id hid => ?_, hdom2⟩
  · have := hM id b hb (by simp)
    cases b with
    | box cs =>
      obtain ⟨b, base, hc, h⟩ := this
      exact ⟨b, base, hc, fun j cv hj => h j cv hj (by simp)⟩
    | _ => exact this
  · obtain ⟨id, s, hq, _⟩ := re_o h
    exact rel.wf.cell b k _ hq
  · obtain ⟨id', s, hq, hfe⟩ := re_o h
    have hthere := rel.own b k id' s hq
    unfold tellF at hfe
    split at hfe
    · rename_i id'' to e
      simp only [Own.o.injEq, List.cons.injEq] at hfe
      obtain ⟨h1, h2⟩ := findU_id e
      obtain ⟨_, i, x, es, ms, h3, h4, h5, h6⟩ := hus _ h2
      have := hmu.2.2.2 i x es ms h3 h5 h6
      rw [← hfe.1, h4]
      exact this
    · cases hfe
    · split at hfe
      · cases hfe
      · rename_i hlt
        simp only [Own.o.injEq, List.cons.injEq] at hfe
        rw [← hfe.1]
        exact hdom2 id' (by omega) hthere
  · refine ⟨rfl, rfl, rfl, Nat.le_refl _, fun _ _ _ => rfl, fun b k v hv hn => ⟨hv, ?_⟩, fun b k v hv => ⟨v, hv⟩, fun _ _ _ => rfl⟩
    show re (tellF n us) (g.o b k) = _
    cases hq : g.o b k with
    | x => rfl
    | p => rfl
    | o π => exact absurd hq (hn π)
  · exact hmu.2.2.1 id (by omega)
end
end Go.Tm

/- The pure machine, 35: what a piece has written, and how the state behind it hangs together with the one ahead. -/
namespace Go.Tm
open Go

def Wr.hits : Wr → Nat → Nat → Prop
  | .all i, id, _ => i = id
  | .cell i off n, id, j => i = id ∧ off ≤ j ∧ j < off + n

/-- One block as it was, but for what was written. -/
def WrOk (mw : List Wr) (id : Nat) (b b' : Option Blk) : Prop :=
  b' = b ∨ .all id ∈ mw ∨ ∃ cs cs', b = some (.box cs) ∧ b' = some (.box cs') ∧ ∀ j, (∀ wr ∈ mw, ¬ wr.hits id j) → cs'[j]? = cs[j]?

theorem WrOk.trans {m1 m2 : List Wr} {id : Nat} {a b c : Option Blk} (h : WrOk m1 id a b) (k : WrOk m2 id b c) : WrOk (m2 ++ m1) id a c := by
  rcases h with rfl | h | ⟨cs, cs', rfl, rfl, h⟩
  · rcases k with k | k | ⟨cs, cs', h1, h2, k⟩
    · exact .inl k
    · exact .inr (.inl (List.mem_append_left _ k))
    · exact .inr (.inr ⟨cs, cs', h1, h2, fun j hj => k j fun wr hw => hj wr (List.mem_append_left _ hw)⟩)
  · exact .inr (.inl (List.mem_append_right _ h))
  · rcases k with rfl | k | ⟨c1, c2, h1, h2, k⟩
    · exact .inr (.inr ⟨cs, cs', rfl, rfl, fun j hj => h j fun wr hw => hj wr (List.mem_append_right _ hw)⟩)
    · exact .inr (.inl (List.mem_append_left _ k))
    · cases h1
      exact .inr (.inr ⟨cs, c2, rfl, h2, fun j hj => (k j fun wr hw => hj wr (List.mem_append_left _ hw)).trans (h j fun wr hw => hj wr (List.mem_append_right _ hw))⟩)

theorem WrOk.refl {m : List Wr} {id : Nat} {a : Option Blk} : WrOk m id a a := .inl rfl

/-- What is there is what was there, but for what is told as written; ids from N on are new. -/
structure Bas (e : Nat → TV) (m : Mu) (N : Nat) (st : St) : Prop where
  env : ∀ n, n ∉ st.tw → st.env n = e n
  mem : ∀ id, id < N → WrOk st.mw id (m id) (st.mu id)
  nx : N ≤ st.nx * 2048

theorem Bas.start {st : St} : Bas st.env st.mu (st.nx * 2048) { st with tw := [], mw := [] } := ⟨fun _ _ => rfl, fun _ _ => .refl, Nat.le_refl _⟩

theorem Bas.trans {e : Nat → TV} {m : Mu} {N : Nat} {st st' : St} (h : Bas e m N st) (k : Bas st.env st.mu (st.nx * 2048) st') : Bas e m N { st' with tw := st'.tw ++ st.tw, mw := st'.mw ++ st.mw } where
  env n hn := by
    simp only [List.mem_append, not_or] at hn
    exact (k.env n hn.1).trans (h.env n hn.2)
  mem id hid := (h.mem id hid).trans (k.mem id (Nat.lt_of_lt_of_le hid h.nx))
  nx := Nat.le_trans h.nx k.nx

/-- What an operation leaves. -/
def PutOk (mu : Mu) (ms : List (Nat × Blk)) (wr : List Wr) : Prop := ∀ id, WrOk wr id (mu id) (updL mu ms id)

theorem PutOk.all (mu : Mu) (ms : List (Nat × Blk)) : PutOk mu ms (ms.map fun x => .all x.1) := by
  intro id
  by_cases h : ∃ b, (id, b) ∈ ms
  · obtain ⟨b, h⟩ := h
    exact .inr (.inl (List.mem_map.2 ⟨_, h, rfl⟩))
  · exact .inl (updL_none fun b hb => h ⟨b, hb⟩)

theorem PutOk.nil (mu : Mu) : PutOk mu [] [] := fun _ => .refl

theorem Bas.put {e : Nat → TV} {m : Mu} {N : Nat} {st : St} (h : Bas e m N st) {dst : Option Nat} {v : TV} {ms : List (Nat × Blk)} {wr : List Wr} (hp : PutOk st.mu ms wr) : Bas e m N (st.put dst v ms wr) where
  env n hn := by
    cases dst with
    | none => exact h.env n hn
    | some d =>
      simp only [St.put, List.mem_cons, not_or] at hn
      exact (upd_ne _ _ hn.1).trans (h.env n hn.2)
  mem id hid := (h.mem id hid).trans (hp id)
  nx := h.nx

theorem fillCV_len2 : ∀ (vs cells : List CV) (off : Nat), (fillCV cells off vs).length = cells.length
  | [], _, _ => rfl
  | v :: vs, cells, off => by simp [fillCV, fillCV_len2 vs]

theorem fillCV_get2 : ∀ (vs cells : List CV) (off j : Nat), (j < off ∨ off + vs.length ≤ j) → (fillCV cells off vs)[j]? = cells[j]?
  | [], _, _, _, _ => rfl
  | v :: vs, cells, off, j, h => by
    simp only [fillCV]
    simp only [List.length_cons] at h
    rw [fillCV_get2 vs _ (off + 1) j (by omega), List.getElem?_set_ne (by omega)]

open Classical in
/-- What an operation writes is told. -/
theorem opU_put {C : Ctx} {env : Nat → TV} {mu : Mu} {idb rid i : Nat} {o : Oper} {R : Type} {K : TV → List (Nat × Blk) → Option R} {y : R} (h : opU C env mu idb rid i o K = some y) :
    opU C env mu idb rid i o (fun v ms => if PutOk mu ms (wrOf env o ms) then K v ms else none) = some y := by
  by_cases hs : ∀ ms, wrOf env o ms = ms.map fun x => .all x.1
  · have : (fun v ms => if PutOk mu ms (wrOf env o ms) then K v ms else none) = K := by
      funext v ms
      rw [if_pos (by rw [hs ms]; exact PutOk.all mu ms)]
    rw [this]; exact h
  · cases hop : o.op <;> (try (refine absurd ?_ hs; intro ms; simp [wrOf, hop]; done))
    case store t x v =>
      simp only [opU, hop] at h ⊢
      cases ht : C.ty t with
      | none => simp [ht] at h
      | some ti =>
        cases hx : evalTV env x <;> simp only [ht, hx] at h ⊢ <;> try (cases h; done)
        case c cv =>
          cases hv : cellsOf (evalTV env v) with
          | none => simp [hv] at h
          | some vs =>
            simp only [hv] at h ⊢
            cases cv <;> (try (refine absurd ?_ hs; intro ms; simp [wrOf, hop, hx, hv]; done))
            case ptr id off =>
              cases hlen : Nat.beq vs.length ti.size with
              | false => simp [hlen] at h
              | true =>
                simp only [hlen, cond_true] at h ⊢
                cases hsite : (C.site rid i).isEmpty with
                | false =>
                  simp only [hsite, cond_false] at h ⊢
                  cases off with
                  | succ n => simp [freezeU] at h
                  | zero =>
                    simp only [freezeU] at h ⊢
                    cases hb : mu id with
                    | none => simp [hb] at h
                    | some b =>
                      cases b <;> simp only [hb] at h ⊢ <;> try (cases h; done)
                      case box cs =>
                        cases hle : Nat.beq vs.length cs.length with
                        | false => simp [hle] at h
                        | true =>
                          simp only [hle, cond_true] at h ⊢
                          cases hp : packs (R := (C.es t).D × List Use) app0 (updL mu [(id, .box vs)]) (C.es t) [] 0 vs [] packEnd with
                          | none => rw [hp] at h; cases h
                          | some p =>
                            obtain ⟨xd, us⟩ := p
                            rw [hp] at h
                            simp only [Option.bind_some] at h ⊢
                            cases us with
                            | cons _ _ => cases h
                            | nil =>
                              dsimp only at h ⊢
                              rw [if_pos, h]
                              have e : wrOf env o [(id, Blk.box vs), (id, Blk.rbox (C.es t) xd)] = [(id, Blk.box vs), (id, Blk.rbox (C.es t) xd)].map (fun x => .all x.1) := by simp [wrOf, hop, hx, hv]
                              rw [e]
                              exact PutOk.all mu _
                | true =>
                  simp only [hsite, cond_true, storeU] at h ⊢
                  cases hb : mu id with
                  | none => simp [hb] at h
                  | some b =>
                    cases b <;> simp only [hb] at h ⊢ <;> try (cases h; done)
                    case box cs =>
                      cases hle : Nat.ble (off + vs.length) cs.length with
                      | false => simp [hle] at h
                      | true =>
                        simp only [hle, cond_true] at h ⊢
                        rw [if_pos, h]
                        intro id'
                        by_cases e : id' = id
                        · subst e
                          refine .inr (.inr ⟨cs, fillCV cs off vs, hb, by simp [updL, upd, Nat.beq_refl], fun j hj => fillCV_get2 _ _ _ _ ?_⟩)
                          have := hj (.cell id' off vs.length) (by simp [wrOf, hop, hx, hv])
                          simp only [Wr.hits, true_and, not_and] at this
                          omega
                        · exact .inl (by simp only [updL]; exact upd_ne _ _ e)
end Go.Tm

/- The pure machine, 36: links. -/
namespace Go.Tm
open Go

theorem unItem_flds {k : Nat} {s : St} {x : Item} {d : (itemTy x).D} : (unItem k s x d).tw = s.tw ∧ (unItem k s x d).mw = s.mw ∧ (unItem k s x d).nx = s.nx := by
  cases x with
  | t n ty md => cases md <;> exact ⟨rfl, rfl, rfl⟩
  | b id j ty md =>
    cases hb : s.mu id with
    | none => cases md <;> (refine ⟨?_, ?_, ?_⟩ <;> simp only [unItem, hb])
    | some b => cases b <;> cases md <;> (refine ⟨?_, ?_, ?_⟩ <;> simp only [unItem, hb])
  | r id es ms =>
    cases hb : s.mu id with
    | none => refine ⟨?_, ?_, ?_⟩ <;> simp only [unItem, hb]
    | some b => cases b <;> (refine ⟨?_, ?_, ?_⟩ <;> simp only [unItem, hb])

theorem unItem_env {k : Nat} {s : St} {x : Item} {d : (itemTy x).D} {n : Nat} (h : ∀ ty md, x ≠ .t n ty md) : (unItem k s x d).env n = s.env n := by
  cases x with
  | t m ty md =>
    have hne : n ≠ m := fun e => h ty md (by rw [e])
    cases md <;> exact upd_ne _ _ hne
  | b id j ty md =>
    cases hb : s.mu id with
    | none => cases md <;> (simp only [unItem, hb])
    | some b => cases b <;> cases md <;> (simp only [unItem, hb])
  | r id es ms =>
    cases hb : s.mu id with
    | none => simp only [unItem, hb]
    | some b => cases b <;> (simp only [unItem, hb])

theorem outRow_id {ty : Ty} {md : Md} {k : Nat} {d : ty.D} {id : Nat} {b : Blk} (h : (id, b) ∈ outRow ty md k d) : id = k := by
  cases md with
  | sh => cases h
  | own ms =>
    cases ty <;> simp only [outRow] at h <;> try (cases h; done)
    case sl es => simp only [List.mem_singleton, Prod.mk.injEq] at h; exact h.1

theorem unItem_wr {nx k : Nat} {s : St} {x : Item} {d : (itemTy x).D} {id : Nat} (hid : id < nx * 2048) : WrOk (itemMw x) id (s.mu id) ((unItem (itemId nx k x) s x d).mu id) := by
  cases x with
  | t n ty md =>
    left
    cases md with
    | sh => rfl
    | own ms =>
      show updL s.mu (outRow ty (.own ms) (nx * 2048 + k) d) id = _
      exact updL_none fun b hb => by have := outRow_id hb; omega
  | b id0 j ty md =>
    have box : ∀ (cs : List CV) (cv : CV), s.mu id0 = some (.box cs) → WrOk [.cell id0 j 1] id (s.mu id) (upd s.mu id0 (some (.box (cs.set j cv))) id) := by
      intro cs cv hb
      by_cases e : id = id0
      · subst e
        refine .inr (.inr ⟨cs, cs.set j cv, hb, upd_same _ _ _, fun j' hj => ?_⟩)
        have := hj (.cell id j 1) (by simp)
        simp only [Wr.hits, true_and, not_and] at this
        exact List.getElem?_set_ne (by omega)
      · exact .inl (upd_ne _ _ e)
    cases hb : s.mu id0 with
    | none =>
      left
      cases md with
      | sh => simp only [unItem, hb]
      | own ms =>
        simp only [unItem, hb]
        exact updL_none fun b hb => by have := outRow_id hb; simp only [itemId] at this; omega
    | some b =>
      cases b with
      | box cs =>
        cases md with
        | sh =>
          have := box cs (ty.ro d) hb
          rw [show (unItem (itemId nx k (.b id0 j ty .sh)) s (.b id0 j ty .sh) d).mu id = upd s.mu id0 (some (.box (cs.set j (ty.ro d)))) id from muOf (unItem_b_sh (ty := ty) d hb) rfl]
          exact this
        | own ms =>
          have := box cs (.own (nx * 2048 + k)) hb
          have e : (unItem (itemId nx k (.b id0 j ty (.own ms))) s (.b id0 j ty (.own ms)) d).mu id = upd s.mu id0 (some (.box (cs.set j (.own (nx * 2048 + k))))) id := by
            simp only [unItem, hb]
            exact updL_none fun b hb => by have := outRow_id hb; simp only [itemId] at this; omega
          rw [e]; exact this
      | _ =>
        left
        cases md with
        | sh => simp only [unItem, hb]
        | own ms =>
          simp only [unItem, hb]
          exact updL_none fun b hb => by have := outRow_id hb; simp only [itemId] at this; omega
  | r id0 es ms =>
    by_cases e : id = id0
    · subst e; exact .inr (.inl (by simp [itemMw]))
    · left
      cases hb : s.mu id0 with
      | none => simp only [unItem, hb]
      | some b => cases b <;> simp only [unItem, hb] <;> exact upd_ne _ _ e

theorem unItems_flds {nx : Nat} : ∀ (items : List Item) (k : Nat) {s : St} {d : (itemsTy items).D},
    (unItems nx items k s d).tw = s.tw ∧ (unItems nx items k s d).mw = s.mw ∧ (unItems nx items k s d).nx = s.nx ∧
    (∀ n, (∀ ty md, .t n ty md ∉ items) → (unItems nx items k s d).env n = s.env n) ∧ (∀ id, id < nx * 2048 → WrOk (items.flatMap itemMw) id (s.mu id) ((unItems nx items k s d).mu id))
  | [], k, s, d => ⟨rfl, rfl, rfl, fun _ _ => rfl, fun _ _ => .refl⟩
  | x :: r, k, s, d => by
    obtain ⟨h1, h2, h3, h4, h5⟩ := unItems_flds (nx := nx) r (k + 1) (s := unItem (itemId nx k x) s x d.1) (d := d.2)
    obtain ⟨k1, k2, k3⟩ := unItem_flds (k := itemId nx k x) (s := s) (x := x) (d := d.1)
    refine ⟨h1.trans k1, h2.trans k2, h3.trans k3, fun n hn => (h4 n fun ty md hm => hn ty md (by simp [hm])).trans (unItem_env fun ty md e => hn ty md (by simp [e])), fun id hid => ?_⟩
    have h6 := (unItem_wr (k := k) (s := s) (x := x) (d := d.1) hid).trans (h5 id hid)
    rcases h6 with h6 | h6 | ⟨cs, cs', h6, h7, h8⟩
    · exact .inl h6
    · exact .inr (.inl (by simp only [List.flatMap_cons, List.mem_append] at h6 ⊢; exact h6.symm))
    · exact .inr (.inr ⟨cs, cs', h6, h7, fun j hj => h8 j fun wr hw => hj wr (by simp only [List.flatMap_cons, List.mem_append] at hw ⊢; exact hw.symm)⟩)

theorem muB_wr {st0 : St} {us0 : List Use} {a : Ann} {id : Nat} : WrOk (us0.map (fun u => .all (useId u)) ++ a.dead.map .all) id (st0.mu id) (muB st0 us0 a id) := by
  by_cases hd : id ∈ a.dead
  · exact .inr (.inl (List.mem_append_right _ (List.mem_map.2 ⟨id, hd, rfl⟩)))
  · have e1 : muB st0 us0 a id = updL st0.mu (fzsI st0.mu us0) id := updL_none fun b hb => hd (dead_mem hb).2
    by_cases hu : ∃ b, (id, b) ∈ fzsI st0.mu us0
    · obtain ⟨b, hb⟩ := hu
      obtain ⟨_, u, hu, e, _⟩ := fzsI_mem hb
      exact .inr (.inl (List.mem_append_left _ (List.mem_map.2 ⟨u, hu, by rw [e]⟩)))
    · exact .inl (e1.trans (updL_none fun b hb => hu ⟨b, hb⟩))

theorem Bas.reState {e : Nat → TV} {m : Mu} {N : Nat} {st : St} (h : Bas e m N st) {us : List Use} {a : Ann} {d : (itemsTy a.items).D} : Bas e m N (reState st us a d) := by
  let s : St := { env := fun n => bif a.clear.any (Nat.beq n) then .un else st.env n, mu := muB st us a, nx := st.nx + 1, tw := a.items.flatMap itemTw ++ (a.clear ++ st.tw), mw := a.items.flatMap itemMw ++ (us.map (fun u => .all (useId u)) ++ (a.dead.map .all ++ st.mw)) }
  have hS : Go.Tm.reState st us a d = unItems st.nx a.items 0 s d := rfl
  obtain ⟨h1, h2, h3, h4, h5⟩ := unItems_flds (nx := st.nx) a.items 0 (s := s) (d := d)
  rw [hS]
  refine ⟨fun n hn => ?_, fun id hid => ?_, ?_⟩
  · rw [h1] at hn
    simp only [s, List.mem_append, not_or] at hn
    rw [h4 n fun ty md hm => hn.1 (List.mem_flatMap.2 ⟨_, hm, by simp [itemTw]⟩)]
    have hc : a.clear.any (Nat.beq n) = false := by
      rw [List.any_eq_false]
      intro x hx e
      cases Nat.eq_of_beq_eq_true e
      exact hn.2.1 hx
    show (bif a.clear.any (Nat.beq n) then TV.un else st.env n) = e n
    rw [hc]
    exact h.env n hn.2.2
  · rw [h2]
    have := ((h.mem id hid).trans (muB_wr (us0 := us) (a := a))).trans (h5 id (Nat.lt_of_lt_of_le hid h.nx))
    rw [List.append_assoc] at this
    exact this
  · rw [h3]
    exact Nat.le_trans h.nx (Nat.mul_le_mul_right _ (Nat.le_succ _))

/-- A loop's head, or what stands ahead of a joint's piece. -/
structure HdOk (st0 hd : St) (us0 : List Use) (a : Ann) : Prop where
  env : ∀ n, a.clear.any (Nat.beq n) = false → (∀ ty md, .t n ty md ∉ a.items) → hd.env n = st0.env n
  mem : ∀ id, id < st0.nx * 2048 → id ∉ a.dead → (∀ es ms, .r id es ms ∉ a.items) → hd.mu id = muB st0 us0 a id ∨
    ∃ cs cs', muB st0 us0 a id = some (.box cs) ∧ hd.mu id = some (.box cs') ∧ ∀ j, (∀ ty md, .b id j ty md ∉ a.items) → cs'[j]? = cs[j]?

theorem HdOk.joint {st0 : St} {a : Ann} : HdOk st0 { st0 with tw := [], mw := [] } [] a where
  env _ _ _ := rfl
  mem id _ hd _ := .inl (by
    show st0.mu id = updL (updL st0.mu []) _ id
    rw [updL_none fun b hb => hd (dead_mem hb).2]; rfl)

theorem itemMw_all {items : List Item} {id : Nat} (h : Wr.all id ∈ items.flatMap itemMw) : ∃ es ms, .r id es ms ∈ items := by
  obtain ⟨x, hx, h⟩ := List.mem_flatMap.1 h
  cases x with
  | t n ty md => simp [itemMw] at h
  | b i j ty md => simp [itemMw] at h
  | r i es ms => simp [itemMw] at h; subst h; exact ⟨es, ms, hx⟩

theorem HdOk.loop {st0 : St} {us0 : List Use} {a : Ann} {d : (itemsTy a.items).D} : HdOk st0 { reState st0 us0 a d with tw := [], mw := [] } us0 a := by
  let s : St := { env := fun n => bif a.clear.any (Nat.beq n) then .un else st0.env n, mu := muB st0 us0 a, nx := st0.nx + 1, tw := a.items.flatMap itemTw ++ (a.clear ++ st0.tw), mw := a.items.flatMap itemMw ++ (us0.map (fun u => .all (useId u)) ++ (a.dead.map .all ++ st0.mw)) }
  have hS : reState st0 us0 a d = unItems st0.nx a.items 0 s d := rfl
  obtain ⟨h1, h2, h3, h4, h5⟩ := unItems_flds (nx := st0.nx) a.items 0 (s := s) (d := d)
  refine ⟨fun n hc hn => ?_, fun id hid hd hr => ?_⟩
  · show (reState st0 us0 a d).env n = _
    rw [hS, h4 n hn]
    show (bif a.clear.any (Nat.beq n) then TV.un else st0.env n) = _
    rw [hc]; rfl
  · show (reState st0 us0 a d).mu id = _ ∨ _
    rcases h5 id hid with h | h | ⟨cs, cs', h6, h7, h8⟩
    · exact .inl h
    · obtain ⟨es, ms, h⟩ := itemMw_all h; exact absurd h (hr es ms)
    · refine .inr ⟨cs, cs', h6, h7, fun j hj => h8 j fun wr hw hh => ?_⟩
      obtain ⟨x, hx, hw⟩ := List.mem_flatMap.1 hw
      cases x with
      | t n ty md => simp [itemMw] at hw
      | b i j' ty md =>
        simp [itemMw] at hw; subst hw
        simp only [Wr.hits] at hh
        obtain ⟨rfl, h9, h10⟩ := hh
        have : j' = j := by omega
        subst this
        exact hj _ _ hx
      | r i es ms =>
        simp [itemMw] at hw; subst hw
        cases (hh : i = id)
        exact hr _ _ hx

theorem tellsR_ok {items : List Item} {id : Nat} (h : tellsR items id = true) : ∃ es ms, .r id es ms ∈ items := by
  obtain ⟨x, hx, h⟩ := List.any_eq_true.1 h
  cases x <;> simp only at h <;> try (cases h; done)
  case r i es ms => cases Nat.eq_of_beq_eq_true h; exact ⟨es, ms, hx⟩
theorem tellsB_ok {items : List Item} {id j : Nat} (h : tellsB items id j = true) : ∃ ty md, .b id j ty md ∈ items := by
  obtain ⟨x, hx, h⟩ := List.any_eq_true.1 h
  cases x <;> simp only at h <;> try (cases h; done)
  case b i k ty md =>
    simp only [Bool.and_eq_true] at h
    cases Nat.eq_of_beq_eq_true h.1; cases Nat.eq_of_beq_eq_true h.2
    exact ⟨ty, md, hx⟩
theorem tellsBs_ok {items : List Item} {id : Nat} : ∀ {n off : Nat}, tellsBs items id off n = true → ∀ j, off ≤ j → j < off + n → ∃ ty md, .b id j ty md ∈ items
  | 0, off, h, j, h1, h2 => by omega
  | n + 1, off, h, j, h1, h2 => by
    simp only [tellsBs, Bool.and_eq_true] at h
    by_cases e : j = off
    · subst e; exact tellsB_ok h.1
    · exact tellsBs_ok h.2 j (by omega) (by omega)
theorem any_beq {l : List Nat} {n : Nat} (h : l.any (Nat.beq n) = true) : n ∈ l := by
  obtain ⟨x, hx, e⟩ := List.any_eq_true.1 h
  cases Nat.eq_of_beq_eq_true e; exact hx
theorem any_beq_of {l : List Nat} {n : Nat} (h : n ∈ l) : l.any (Nat.beq n) = true := List.any_eq_true.2 ⟨n, h, Nat.beq_refl n⟩

section
variable {P : Program} {w : World} {g : Gh} {tmps : Array Value}

theorem stOk_facts {st0 : St} {a : Ann} (h : stOk st0 a = true) : (∀ id j ty md, .b id j ty md ∈ a.items → id ∉ a.dead ∧ ∃ cs, st0.mu id = some (.box cs) ∧ j < cs.length) ∧
    (∀ id es ms, .r id es ms ∈ a.items → id ∉ a.dead ∧ ∃ es ms xs ver, st0.mu id = some (.row es ms xs ver)) ∧ (∀ id ∈ a.dead, id < st0.nx * 2048) := by
  simp only [stOk, Bool.and_eq_true, List.all_eq_true] at h
  obtain ⟨⟨h, h2⟩, _⟩ := h
  refine ⟨fun id j ty md hm => ?_, fun id es ms hm => ?_, fun id hid => by simpa [Nat.blt_eq] using h2 id hid⟩
  · have := h _ hm
    simp only [Bool.and_eq_true] at this
    have := this.2
    split at this
    · rename_i cs e
      simp only [Bool.and_eq_true, Bool.not_eq_true'] at this
      exact ⟨fun hd => by rw [any_beq_of hd] at this; simp at this, cs, e, by simpa [Nat.blt_eq] using this.1⟩
    · cases this
  · have := h _ hm
    dsimp only at this
    split at this
    · rename_i es ms xs ver e
      simp only [Bool.not_eq_true'] at this
      exact ⟨fun hd => (by rw [any_beq_of hd] at this; cases this), es, ms, xs, ver, e⟩
    · cases this

/-- What is used where items are told, of what there is. -/
structure Us0 (st0 : St) (us0 : List Use) (a : Ann) : Prop where
  ok : usesOk us0 = true
  us : ∀ u ∈ us0, ∃ tos, UsR st0.mu tos False u
  rows : us0 = [] ∨ ∀ id es ms, .r id es ms ∈ a.items → .mv id id ∈ us0

theorem Us0.row {st0 : St} {us0 : List Use} {a : Ann} (U : Us0 st0 us0 a) (hst : stOk st0 a = true) {id : Nat} {es : Tys} {ms : List Md} (hm : .r id es ms ∈ a.items) : muB st0 us0 a id = st0.mu id := by
  obtain ⟨hd, _⟩ := (stOk_facts hst).2.1 id es ms hm
  have e1 : muB st0 us0 a id = updL st0.mu (fzsI st0.mu us0) id := updL_none fun b hb => hd (dead_mem hb).2
  rw [e1]
  refine updL_none fun b hb => ?_
  obtain ⟨_, u, hu, h1, h2⟩ := fzsI_mem hb
  rcases U.rows with e | h
  · rw [e] at hu; cases hu
  · have hmv := h id es ms hm
    have h3 := findU_mv U.ok hmv
    cases u with
    | mv id' to =>
      have e1' : id = id' := (show id' = id from h1).symm; subst e1'
      have h4 := findU_mv U.ok hu
      rw [h3] at h4
      cases h4
      exact h2 id rfl rfl
    | pm id' =>
      have e1' : id = id' := (show id' = id from h1).symm; subst e1'
      have h4 := findU_pm U.ok hu
      rw [h3] at h4
      cases h4

theorem Us0.box {st0 : St} {us0 : List Use} {a : Ann} (U : Us0 st0 us0 a) (hst : stOk st0 a = true) {id j : Nat} {ty : Ty} {md : Md} (hm : .b id j ty md ∈ a.items) : muB st0 us0 a id = st0.mu id := by
  obtain ⟨hd, cs, hcs, _⟩ := (stOk_facts hst).1 id j ty md hm
  have e1 : muB st0 us0 a id = updL st0.mu (fzsI st0.mu us0) id := updL_none fun b hb => hd (dead_mem hb).2
  rw [e1]
  refine updL_none fun b hb => ?_
  obtain ⟨_, u, hu, h1, h2⟩ := fzsI_mem hb
  obtain ⟨tos, h3⟩ := U.us u hu
  cases u with
  | mv id' to =>
    have e1' : id = id' := (show id' = id from h1).symm; subst e1'
    obtain ⟨⟨_, _, _, _, h⟩, _⟩ := h3
    rw [hcs] at h; cases h
  | pm id' =>
    have e1' : id = id' := (show id' = id from h1).symm; subst e1'
    rcases h3 with ⟨_, _, _, _, h⟩ | ⟨_, _, h⟩ | ⟨h, _⟩
    · rw [hcs] at h; cases h
    · rw [hcs] at h; cases h
    · exact h

theorem Us0.there {st0 : St} {us0 : List Use} {a : Ann} (U : Us0 st0 us0 a) : ∀ u ∈ us0, st0.mu (useId u) ≠ none := by
  intro u hu
  obtain ⟨tos, h⟩ := U.us u hu
  cases u with
  | mv id to => obtain ⟨⟨_, _, _, _, h⟩, _⟩ := h; simp [useId, h]
  | pm id =>
    rcases h with ⟨_, _, _, _, h⟩ | ⟨_, _, h⟩ | ⟨h, _⟩
    · simp [useId, h]
    · simp [useId, h]
    · exact h.elim

theorem itV_box {st : St} : ∀ {items : List Item} {vals : List Value} {id j : Nat} {ty : Ty} {md : Md}, All2 (ItV P w g st tmps) items vals → .b id j ty md ∈ items → ∃ cs, st.mu id = some (.box cs)
  | x :: r, v :: vals, id, j, ty, md, h, hm => by
    rcases List.mem_cons.1 hm with hm | hm
    · subst hm
      obtain ⟨cs, b, base, h, _⟩ := h.1
      exact ⟨cs, h⟩
    · exact itV_box h.2 hm
  | [], _, _, _, _, _, _, hm => by cases hm
  | _ :: _, [], _, _, _, _, h, _ => h.elim

/-- Told at once. -/
theorem Link.entry {st : St} {us : List Use} {a : Ann} (hst : stOk st a = true) (U : Us0 st us a) (hrows : ∀ id es ms, .r id es ms ∈ a.items → .mv id id ∈ us) (hfr : ∀ id, st.nx * 2048 ≤ id → st.mu id = none)
    (hus : ∀ u ∈ us, UsR st.mu (fun t => ∃ i x es ms, a.items[i]? = some x ∧ t = itemId st.nx (0 + i) x ∧ itemTy x = .sl es ∧ itemMd x = .own ms) False u) : Link st st us us a where
  env n hc hn := rfl
  mem id b hb hr := by
    rcases muB_cases hb with ⟨h1, h2, h3⟩ | ⟨h, _⟩ | ⟨_, u, hu, h1, h2, h3 | ⟨es, ms, xs, ver, h3, h4, h5⟩⟩
    · cases b with
      | box cs => exact .inr (.inl ⟨cs, cs, rfl, h1, h1, fun j cv hj _ => hj⟩)
      | dead => exact .inl rfl
      | _ =>
        refine .inr (.inr (.inl ⟨h1, by simp, fun u hu e => ?_⟩))
        have hu' := hus u hu
        cases u with
        | mv id' to =>
          have e1' : id = id' := (show id' = id from e).symm; subst e1'
          by_cases he : id = to
          · exfalso
            obtain ⟨_, i, x, es, ms, h4, h5, h6, h7⟩ := hu'
            have hlt : id < st.nx * 2048 := by
              rcases Nat.lt_or_ge id (st.nx * 2048) with h | h
              · exact h
              · rw [hfr id h] at h1; cases h1
            cases x with
            | t => simp only [itemId] at h5; omega
            | b => simp only [itemId] at h5; omega
            | r id2 es2 ms2 =>
              simp only [itemId] at h5
              exact hr es2 ms2 (by rw [he, h5]; exact List.mem_of_getElem? h4)
          · exact absurd (fzsI_of_mv he hu) (h3 _)
        | pm id' =>
          have e1' : id = id' := (show id' = id from e).symm; subst e1'
          rcases hu' with ⟨es, ms, xs, ver, h⟩ | ⟨es, xs, h⟩ | ⟨h, _⟩
          · exact absurd (fzsI_of_pm h hu) (h3 _)
          · rw [h1] at h; exact ⟨es, xs, Option.some.inj h⟩
          · exact h.elim
    · exact .inl h
    · exact .inl h3
    · exact .inr (.inr (.inr ⟨es, xs, ms, ver, h4, h3, h5⟩))
  dom id _ h := updL_some (updL_some h)
  rows id es ms hm := U.row hst hm
  boxes id j ty md hm := U.box hst hm
  us0 := U.there

/-- Told where a piece ends. -/
theorem Link.back {st0 st hS : St} {us0 us : List Use} {a : Ann} {vals : List Value} (hst : stOk st0 a = true) (U : Us0 st0 us0 a) (H : HdOk st0 hS us0 a) (B : Bas hS.env hS.mu (st0.nx * 2048) st)
    (htw : st.tw.all (twOk a) = true) (hmw : st.mw.all (mwOk st0 a) = true) (huo : us.all (usOk st0 st a) = true) (hit : All2 (ItV P w g st tmps) a.items vals)
    (hfr0 : ∀ id, st0.nx * 2048 ≤ id → st0.mu id = none)
    (hus : ∀ u ∈ us, UsR st.mu (fun t => ∃ i x es ms, a.items[i]? = some x ∧ t = itemId st0.nx (0 + i) x ∧ itemTy x = .sl es ∧ itemMd x = .own ms) False u) : Link st0 st us0 us a := by
  have hBlt : ∀ id b, muB st0 us0 a id = some b → id < st0.nx * 2048 := fun id b h => by
    have key : ∀ id, st0.mu id ≠ none → id < st0.nx * 2048 := fun id h => by
      rcases Nat.lt_or_ge id (st0.nx * 2048) with h' | h'
      · exact h'
      · exact absurd (hfr0 id h') h
    rcases muB_cases h with ⟨h, _⟩ | ⟨_, h⟩ | ⟨_, u, hu, e, _⟩
    · exact key id (by simp [h])
    · exact (stOk_facts hst).2.2 id h
    · exact key id (e ▸ U.there u hu)
  -- a block that was wholly written
  have hall : ∀ id, id < st0.nx * 2048 → .all id ∈ st.mw → id ∉ a.dead → (∀ es ms, .r id es ms ∉ a.items) → ∃ cs, st0.mu id = some (.box cs) ∧ 0 < cs.length ∧ ∀ j, j < cs.length → ∃ ty md, .b id j ty md ∈ a.items := by
    intro id hlt hm hd hr
    have := List.all_eq_true.1 hmw _ hm
    simp only [mwOk, Bool.or_eq_true] at this
    rcases this with ((h | h) | h) | h
    · have := Nat.le_of_ble_eq_true h; omega
    · exact absurd (any_beq h) hd
    · obtain ⟨es, ms, h⟩ := tellsR_ok h; exact absurd h (hr es ms)
    · split at h
      · rename_i cs e
        simp only [Bool.and_eq_true, Nat.blt_eq] at h
        exact ⟨cs, e, h.1, fun j hj => tellsBs_ok h.2 j (by omega) (by omega)⟩
      · cases h
  have hcell : ∀ id off n j, id < st0.nx * 2048 → .cell id off n ∈ st.mw → id ∉ a.dead → off ≤ j → j < off + n → ∃ ty md, .b id j ty md ∈ a.items := by
    intro id off n j hlt hm hd h1 h2
    have := List.all_eq_true.1 hmw _ hm
    simp only [mwOk, Bool.or_eq_true] at this
    rcases this with (h | h) | h
    · have := Nat.le_of_ble_eq_true h; omega
    · exact absurd (any_beq h) hd
    · exact tellsBs_ok h j h1 h2
  have husame : ∀ id b, id < st0.nx * 2048 → id ∉ a.dead → (∀ es ms, .r id es ms ∉ a.items) → st.mu id = some b → ∀ u ∈ us, useId u = id → ∃ es xs, b = .fz es xs := by
    intro id b hlt hd hr hb u hu e
    have hk := List.all_eq_true.1 huo u hu
    cases u with
    | mv id' to =>
      have e1' : id = id' := (show id' = id from e).symm; subst e1'
      simp only [usOk, Bool.or_eq_true] at hk
      rcases hk with (h | h) | h
      · have := Nat.le_of_ble_eq_true h; omega
      · exact absurd (any_beq h) hd
      · cases Nat.eq_of_beq_eq_true h
        obtain ⟨_, i, x, es, ms, h4, h5, h6, h7⟩ := hus _ hu
        cases x with
        | t => simp only [itemId] at h5; omega
        | b => simp only [itemId] at h5; omega
        | r id2 es2 ms2 =>
          simp only [itemId] at h5
          exact absurd (List.mem_of_getElem? h4) (by rw [← h5]; exact hr es2 ms2)
    | pm id' =>
      have e1' : id = id' := (show id' = id from e).symm; subst e1'
      simp only [usOk, Bool.or_eq_true] at hk
      rcases hk with (h | h) | h
      · have := Nat.le_of_ble_eq_true h; omega
      · exact absurd (any_beq h) hd
      · rw [hb] at h
        split at h
        · rename_i es xs e; cases e; exact ⟨es, xs, rfl⟩
        · cases h
  refine ⟨fun n hc hn => ?_, fun id b hb hr => ?_, fun id hlt hne => ?_, fun id es ms hm => U.row hst hm, fun id j ty md hm => U.box hst hm, U.there⟩
  · rw [← H.env n hc hn]
    refine B.env n fun hm => ?_
    have := List.all_eq_true.1 htw _ hm
    simp only [twOk, Bool.or_eq_true, hc, Bool.false_eq_true, false_or] at this
    obtain ⟨x, hx, h⟩ := List.any_eq_true.1 this
    cases x <;> simp only at h <;> try (cases h; done)
    case t m ty md => cases Nat.eq_of_beq_eq_true h; exact hn _ _ hx
  · have hlt := hBlt id b hb
    by_cases hd : id ∈ a.dead
    · rcases muB_cases hb with ⟨_, h, _⟩ | ⟨h, _⟩ | ⟨h, _⟩
      · exact absurd hd h
      · exact .inl h
      · exact absurd hd h
    · have Hm := H.mem id hlt hd hr
      -- what there is of b
      have hnow : (∃ cs cs', b = .box cs ∧ st0.mu id = some (.box cs) ∧ st.mu id = some (.box cs') ∧ ∀ j cv, cs[j]? = some cv → (∀ ty md, .b id j ty md ∉ a.items) → cs'[j]? = some cv) ∨ (st.mu id = some b ∧ ∀ cs, b ≠ .box cs) := by
        have hbx : ∀ cs, b = .box cs → st0.mu id = some (.box cs) := by
          rintro cs rfl
          rcases muB_cases hb with ⟨h, _⟩ | ⟨h, _⟩ | ⟨_, _, _, _, _, h | ⟨_, _, _, _, _, h, _⟩⟩
          · exact h
          · cases h
          · cases h
          · cases h
        by_cases hal : Wr.all id ∈ st.mw
        · obtain ⟨cs, h1, h2, h3⟩ := hall id hlt hal hd hr
          obtain ⟨ty, md, hm⟩ := h3 0 h2
          obtain ⟨cs', hcs'⟩ := itV_box hit hm
          have : b = .box cs := by
            have := (U.box hst hm).symm.trans hb
            rw [h1] at this; simpa using this.symm
          refine .inl ⟨cs, cs', this, h1, hcs', fun j cv hj hn => ?_⟩
          have hjl : j < cs.length := by
            rcases Nat.lt_or_ge j cs.length with h | h
            · exact h
            · simp [List.getElem?_eq_none h] at hj
          obtain ⟨ty, md, hm⟩ := h3 j hjl
          exact absurd hm (hn ty md)
        · -- from the head on
          have hmid : WrOk st.mw id (hS.mu id) (st.mu id) := B.mem id hlt
          have hun : ∀ j, (∀ ty md, .b id j ty md ∉ a.items) → ∀ wr ∈ st.mw, ¬ wr.hits id j := by
            intro j hj wr hw hh
            cases wr with
            | all i => cases (hh : i = id); exact hal hw
            | cell i off n =>
              obtain ⟨rfl, h1, h2⟩ := hh
              obtain ⟨ty, md, h⟩ := hcell i off n j hlt hw hd h1 h2
              exact hj _ _ h
          rcases Hm with e | ⟨c0, c1, h1, h2, h3⟩
          · rw [hb] at e
            rcases hmid with h | h | ⟨c1, c2, h4, h5, h6⟩
            · rw [e] at h
              cases b with
              | box cs => exact .inl ⟨cs, cs, rfl, hbx cs rfl, h, fun j cv hj _ => hj⟩
              | _ => exact .inr ⟨h, by simp⟩
            · exact absurd h hal
            · rw [e] at h4; cases h4
              exact .inl ⟨c1, c2, rfl, hbx c1 rfl, h5, fun j cv hj hn => (h6 j (hun j hn)).trans hj⟩
          · rw [hb] at h1; cases h1
            rcases hmid with h | h | ⟨c1', c2, h4, h5, h6⟩
            · exact .inl ⟨c0, c1, rfl, hbx c0 rfl, h.trans h2, fun j cv hj hn => (h3 j hn).trans hj⟩
            · exact absurd h hal
            · rw [h2] at h4; cases h4
              exact .inl ⟨c0, c2, rfl, hbx c0 rfl, h5, fun j cv hj hn => (h6 j (hun j hn)).trans ((h3 j hn).trans hj)⟩
      rcases hnow with h | ⟨h, hnb⟩
      · exact .inr (.inl h)
      · exact .inr (.inr (.inl ⟨h, hnb, husame id b hlt hd hr h⟩))
  · intro hnone
    by_cases hd : id ∈ a.dead
    · exact updL_mem (List.mem_map.2 ⟨id, hd, rfl⟩) hnone
    · by_cases hr : ∃ es ms, .r id es ms ∈ a.items
      · obtain ⟨es, ms, hm⟩ := hr
        obtain ⟨_, es0, ms0, xs0, ver, h⟩ := (stOk_facts hst).2.1 id es ms hm
        rw [U.row hst hm, h] at hnone; cases hnone
      · have hr' : ∀ es ms, .r id es ms ∉ a.items := fun es ms h => hr ⟨es, ms, h⟩
        by_cases hal : Wr.all id ∈ st.mw
        · obtain ⟨cs, h1, _⟩ := hall id hlt hal hd hr'
          exact updL_some (updL_some (by rw [h1]; simp)) hnone
        · rcases H.mem id hlt hd hr' with e | ⟨c0, c1, h1, _⟩
          · rcases B.mem id hlt with h | h | ⟨c1, c2, h4, h5, _⟩
            · rw [h, e] at hne; exact hne hnone
            · exact hal h
            · rw [e, hnone] at h4; cases h4
          · rw [h1] at hnone; cases hnone
end
end Go.Tm

/- The pure machine, 37: regions in the text's order. -/
namespace Go.Tm
open Go

/-- The state tells the world, within a function. -/
structure RelS (P : Program) (nt : Nat) (w0 : World) (o0 : Nat → Nat → Own) (io : List Nat) (c0 : Nat → Conc) (nx : Nat) (st : St) (a : Act) (w : World) (g : Gh) : Prop where
  rel : Rel P nt w0 o0 st.env st.mu a.tmps w g
  df : a.defers = []
  fresh : ∀ id, nx * 2048 ≤ id → st.mu id = none
  io : ∀ id ∈ io, g.c id = c0 id ∧ st.mu id ≠ none

def Ext (st st' : St) : Prop := ∀ e m N, Bas e m N st → Bas e m N st'
theorem Ext.refl (st : St) : Ext st st := fun _ _ _ h => h
theorem Ext.trans {a b c : St} (h : Ext a b) (k : Ext b c) : Ext a c := fun e m N x => k e m N (h e m N x)

theorem refine_self {st : St} {d : Nat} {b : Bool} (h : st.env d = .c (.bool b)) : st.refine d b = st := by
  have : upd st.env d (.c (.bool b)) = st.env := by
    funext n
    by_cases e : n = d
    · subst e; rw [upd_same, h]
    · exact upd_ne _ _ e
  unfold St.refine
  rw [this]

section
variable {P : Program} {C : Ctx} {nt : Nat} {w0 : World} {o0 : Nat → Nat → Own} {io : List Nat} {c0 : Nat → Conc} {R : Type} {Q : Exit → Act → World → Prop}

theorem guard_ok {ops : Array Oper} {st : St} {a : Act} {w : World} {g : Gh} {mu : Mu} (henv : ∀ t, (st.env t).R P w g mu (a.tmps.getD t undef)) {o : Oper} {run skip : St → Option R} {y : R}
    (h : (match o.guard with
      | none => run st
      | some (j, want) => match (ops.toList[j]?).bind (·.dst) with
        | none => none
        | some d => match st.env d with
          | .c (.bool b) => bif b then (bif want then run (st.refine d true) else skip (st.refine d true)) else (bif want then skip (st.refine d false) else run (st.refine d false))
          | .und => skip st
          | _ => none) = some y) :
    (Region.wanted o (yielded ops a.tmps) = true ∧ run st = some y) ∨ (Region.wanted o (yielded ops a.tmps) = false ∧ skip st = some y) := by
  unfold Region.wanted
  cases hg : o.guard with
  | none => rw [hg] at h; exact .inl ⟨rfl, h⟩
  | some p =>
    obtain ⟨j, want⟩ := p
    simp only [hg] at h ⊢
    cases hd : (ops.toList[j]?).bind (·.dst) with
    | none => rw [hd] at h; cases h
    | some d =>
      rw [hd] at h
      dsimp only at h
      have hd' : (ops[j]?).bind (·.dst) = some d := by rw [← hd]; simp
      have hv := henv d
      cases he : st.env d <;> simp only [he] at h <;> try (cases h; done)
      case und =>
        rw [he] at hv
        have hv : a.tmps.getD d undef = undef := hv
        right
        refine ⟨?_, h⟩
        have : yielded ops a.tmps j = none := by
          unfold yielded
          rw [hd']
          simp only [Option.bind_some]
          cases ht : a.tmps[d]? with
          | none => rfl
          | some v =>
            have : v = undef := by rw [← hv]; simp [Array.getD_eq_getD_getElem?, ht]
            rw [this]; rfl
        rw [this]; rfl
      case c cv =>
        cases cv <;> simp only at h <;> try (cases h; done)
        case bool b =>
          rw [he] at hv
          have hv : a.tmps.getD d undef = .bool b := hv
          have hy : yielded ops a.tmps j = some b := by
            unfold yielded
            rw [hd']
            simp only [Option.bind_some]
            cases ht : a.tmps[d]? with
            | none => simp [Array.getD_eq_getD_getElem?, ht, undef] at hv
            | some v =>
              have : v = .bool b := by rw [← hv]; simp [Array.getD_eq_getD_getElem?, ht]
              rw [this]
          rw [hy]
          have hr := refine_self he
          cases b <;> cases want <;> simp only [cond_true, cond_false, hr] at h
          · exact .inl ⟨rfl, h⟩
          · exact .inr ⟨rfl, h⟩
          · exact .inr ⟨rfl, h⟩
          · exact .inl ⟨rfl, h⟩

/-- What stands before an operation, of a state. -/
theorem RelS.opSt {nx : Nat} {st : St} {a : Act} {w : World} {g : Gh} (r : RelS P nt w0 o0 io c0 nx st a w g) (hty : ∀ t ti, C.ty t = some ti → tiOf P t = some ti) (hC : CtxOk P C) : OpSt P C st.env st.mu a w g (nx * 2048) where
  ty := hty
  con := hC
  env := r.rel.env
  mem := r.rel.mem
  wf := r.rel.wf
  own := r.rel.own
  fresh n h _ := r.fresh n h

/-- An operation's step. -/
theorem RelS.put {nx : Nat} {st : St} {a : Act} {w w' : World} {g g' : Gh} (r : RelS P nt w0 o0 io c0 nx st a w g) {dst : Option Nat} {tv : TV} {ms : List (Nat × Blk)} {wr : List Wr} {v : Value} (hd : dstOk nt dst = true)
    (hn : Nxt P w g st.mu w' g' (updL st.mu ms)) (hv : tv.R P w' g' (updL st.mu ms) v) (hids : ∀ x ∈ ms, x.1 < (nx + 1) * 2048) : RelS P nt w0 o0 io c0 (nx + 1) (st.put dst tv ms wr) (a.put dst v) w' g' where
  rel := by
    have := (r.rel.nxt hn).put (a := a) hd hv
    cases dst <;> exact this
  df := by cases dst <;> exact r.df
  fresh id hid := by
    show updL st.mu ms id = none
    rw [updL_none fun b hb => by have := hids _ hb; dsimp only at this; omega]
    exact r.fresh id (Nat.le_trans (Nat.mul_le_mul_right _ (Nat.le_succ _)) hid)
  io id hid := by
    obtain ⟨h1, h2⟩ := r.io id hid
    obtain ⟨_, hs, _⟩ := hn
    exact ⟨(hs.c id h2).trans h1, updL_some h2⟩

theorem RelS.skip {nx : Nat} {st : St} {a : Act} {w : World} {g : Gh} (r : RelS P nt w0 o0 io c0 nx st a w g) {dst : Option Nat} (hd : dstOk nt dst = true) : RelS P nt w0 o0 io c0 (nx + 1) (st.put dst .und [] []) (a.put dst undef) w g where
  rel := by
    have := r.rel.put (a := a) (tv := .und) (v := undef) hd rfl
    cases dst <;> exact this
  df := by cases dst <;> exact r.df
  fresh id hid := r.fresh id (Nat.le_trans (Nat.mul_le_mul_right _ (Nat.le_succ _)) hid)
  io := r.io

theorem RelS.grow {nx nx' : Nat} {st : St} {a : Act} {w : World} {g : Gh} (r : RelS P nt w0 o0 io c0 nx st a w g) (h : nx ≤ nx') : RelS P nt w0 o0 io c0 nx' st a w g :=
  ⟨r.rel, r.df, fun id hid => r.fresh id (Nat.le_trans (Nat.mul_le_mul_right _ h) hid), r.io⟩

open Classical in
theorem opsU_ok {rid nx : Nat} {ops : Array Oper} (hty : ∀ t ti, C.ty t = some ti → tiOf P t = some ti) (hC : CtxOk P C) (hnt : C.nt = nt) {K : St → Option R} {y : R} : ∀ (l : List Oper) (i : Nat) {st : St} {a : Act} {w : World} {g : Gh}, ops.toList.drop i = l →
    opsU C rid ops.toList nx l i st K = some y → RelS P nt w0 o0 io c0 (nx + i) st a w g →
    (∀ st' a' w' g', K st' = some y → RelS P nt w0 o0 io c0 (nx + (i + l.length)) st' a' w' g' → Ext st st' → st'.nx = st.nx → Q .normal a' w') → wpOps P ops Q (List.range' i l.length) a w
  | [], i, st, a, w, g, hl, h, r, hQ => hQ st a w g h (by simpa using r) (.refl st) rfl
  | o :: l, i, st, a, w, g, hl, h, r, hQ => by
    have hi : ops[i]? = some o := by
      have h1 : (ops.toList.drop i)[0]? = some o := by rw [hl]; rfl
      rw [List.getElem?_drop] at h1
      simpa using h1
    have hl' : ops.toList.drop (i + 1) = l := by
      have := congrArg (List.drop 1) hl
      simpa [List.drop_drop] using this
    have hlen : (o :: l).length = l.length + 1 := rfl
    rw [hlen, List.range'_succ]
    unfold opsU at h
    cases hd : dstOk C.nt o.dst with
    | false => rw [hd] at h; cases h
    | true =>
      rw [hd] at h
      rw [hnt] at hd
      simp only [cond_true] at h
      simp only [wpOps, hi]
      have fin : ∀ {st1 : St} {a1 : Act} {w1 : World} {g1 : Gh}, opsU C rid ops.toList nx l (i + 1) st1 K = some y → RelS P nt w0 o0 io c0 (nx + (i + 1)) st1 a1 w1 g1 → Ext st st1 → st1.nx = st.nx → wpOps P ops Q (List.range' (i + 1) l.length) a1 w1 :=
        fun h1 r1 e1 n1 => opsU_ok hty hC hnt l (i + 1) hl' h1 r1 fun st' a' w' g' hK r' e' n' => hQ st' a' w' g' hK (by rw [hlen, show i + (l.length + 1) = i + 1 + l.length by omega]; exact r') (e1.trans e') (n'.trans n1)
      rcases guard_ok (ops := ops) (st := st) (run := fun st => opU C st.env st.mu ((nx + i) * 2048) rid i o fun v ms => bif idsOk ((nx + i) * 2048 + 2048) ms then opsU C rid ops.toList nx l (i + 1) (st.put o.dst v ms (wrOf st.env o ms)) K else none) (skip := fun st => opsU C rid ops.toList nx l (i + 1) (st.put o.dst .und [] []) K) r.rel.env h with ⟨hw, h⟩ | ⟨hw, h⟩
      · rw [if_pos hw]
        left
        have h2 := opU_put h
        refine Oper.wp_mono ?_ (opU_ok (Q := Q) (r.opSt hty hC) h2)
        rintro a' w' ⟨tv, ms, v, g', rfl, hK, hn, hv⟩
        dsimp only at hK
        split at hK
        · rename_i hp
          cases hids : idsOk ((nx + i) * 2048 + 2048) ms with
          | false => simp [hids] at hK
          | true =>
            simp only [hids, cond_true] at hK
            refine fin hK (r.put hd hn hv fun x hx => ?_) (fun e m N hb => hb.put hp) rfl
            have := List.all_eq_true.1 hids x hx
            simp only [Nat.blt_eq] at this
            omega
        · cases hK
      · rw [if_neg (by rw [hw]; simp)]
        exact fin h (r.skip hd) (fun e m N hb => hb.put (PutOk.nil _)) rfl

theorem regionU_text {rid : Nat} {ops : Array Oper} (hty : ∀ t ti, C.ty t = some ti → tiOf P t = some ti) (hC : CtxOk P C) (hnt : C.nt = nt) {st : St} {a : Act} {w : World} {g : Gh} {K : St → Option R} {y : R}
    (h : regionU C rid ops false st K = some y) (r : RelS P nt w0 o0 io c0 st.nx st a w g) (hQ : ∀ st' a' w' g', K st' = some y → RelS P nt w0 o0 io c0 st'.nx st' a' w' g' → Ext st st' → Q .normal a' w') :
    (Code.region rid ops false).wp P Q a w := by
  refine wp_region ?_
  have := opsU_ok (Q := Q) (K := fun st' => K { st' with nx := st.nx + ops.size }) hty hC hnt ops.toList 0 (by simp) h r fun st' a' w' g' hK r' e' n' => hQ _ a' w' g' hK ?_ fun e m N hb => ?_
  · rwa [← List.range_eq_range', show ops.toList.length = ops.size by simp] at this
  · have : (0 + ops.toList.length) = ops.size := by simp
    rw [this] at r'
    exact ⟨r'.rel, r'.df, r'.fresh, r'.io⟩
  · have := e' e m N hb
    refine ⟨this.env, this.mem, Nat.le_trans hb.nx (Nat.mul_le_mul_right _ (Nat.le_add_right _ _))⟩
end
end Go.Tm

/- The pure machine, 38: an operation comes to one thing, whatever is known besides. -/
namespace Go.Tm
open Go

section
variable {C : Ctx} {env : Nat → TV} {mu : Mu} {R : Type}

def UsDom (mu : Mu) (us : List Use) : Prop := ∀ u ∈ us, mu (useId u) ≠ none

theorem UsDom.app {mu : Mu} {a b : List Use} (h : UsDom mu a) (k : UsDom mu b) : UsDom mu (a ++ b) := fun u hu => (List.mem_append.1 hu).elim (h u) (k u)
theorem UsDom.nil {mu : Mu} : UsDom mu [] := fun u hu => by cases hu
theorem UsDom.one {mu : Mu} {u : Use} (h : mu (useId u) ≠ none) : UsDom mu [u] := fun v hv => by rw [List.mem_singleton.1 hv]; exact h

theorem UsR.dom {tos : Nat → Prop} {bx : Prop} {u : Use} (h : UsR mu tos bx u) : mu (useId u) ≠ none := by
  cases u with
  | mv id to => obtain ⟨⟨_, _, _, _, h⟩, _⟩ := h; simp [useId, h]
  | pm id =>
    rcases h with ⟨_, _, _, _, h⟩ | ⟨_, _, h⟩ | ⟨_, h⟩
    · simp [useId, h]
    · simp [useId, h]
    · exact h

theorem fzs_le {mu' : Mu} (hl : Le mu mu') : ∀ {us : List Use}, UsDom mu us → fzs mu' us = fzs mu us
  | [], _ => rfl
  | .mv id to :: r, h => by simp only [fzs]; rw [fzs_le hl fun u hu => h u (by simp [hu])]
  | .pm id :: r, h => by
    simp only [fzs]
    rw [fzs_le hl fun u hu => h u (by simp [hu])]
    have := h (.pm id) (by simp)
    cases hm : mu id with
    | none => exact absurd hm this
    | some b => rw [hl _ _ hm]

theorem content_out {v : CV} {K : (es : Tys) → List es.D → Option R} {y : R} (h : content mu v K = some y) : ∃ es xs, K es xs = some y ∧ ∀ mu', Le mu mu' → ∀ (R' : Type) (K' : (es : Tys) → List es.D → Option R'), content mu' v K' = K' es xs := by
  cases v <;> simp only [content] at h <;> try (cases h; done)
  case ro es xs => exact ⟨es, xs, h, fun _ _ _ _ => rfl⟩
  case own id =>
    cases hb : mu id with
    | none => simp [hb] at h
    | some b =>
      cases b <;> simp only [hb] at h <;> try (cases h; done)
      case row es ms xs ver => exact ⟨es, xs, h, fun mu' hl R' K' => by simp [content, hl _ _ hb]⟩
      case fz es xs => exact ⟨es, xs, h, fun mu' hl R' K' => by simp [content, hl _ _ hb]⟩
  case nref id ver i j =>
    cases hb : mu id with
    | none => simp [hb] at h
    | some b =>
      cases b <;> simp only [hb] at h <;> try (cases h; done)
      case row es ms xs ver' =>
        cases hver : Nat.beq ver ver' with
        | false => simp [hver] at h
        | true =>
          simp only [hver, cond_true] at h
          cases hx : getN xs i with
          | none => simp [hx] at h
          | some x =>
            simp only [hx, Option.bind_some] at h
            cases hlf : es.leaf j x with
            | none => simp [hlf] at h
            | some l =>
              obtain ⟨lt, lx⟩ := l
              cases lt <;> simp only [hlf] at h <;> try (cases h; done)
              case sl es' => exact ⟨es', lx, h, fun mu' hl R' K' => by simp [content, hl _ _ hb, hver, hx, hlf]⟩

theorem packs_out {app : App} : ∀ (ts : Tys) {ms : List Md} {to : Nat} {cvs : List CV} {us : List Use} {R : Type} {K : ts.D → List CV → List Use → Option R} {y : R}, packs app mu ts ms to cvs us K = some y →
    ∃ x rest new, K x rest (new ++ us) = some y ∧ UsDom mu new ∧ ∀ mu', Le mu mu' → ∀ (R' : Type) (K' : ts.D → List CV → List Use → Option R'), packs app mu' ts ms to cvs us K' = K' x rest (new ++ us)
  | .nil, ms, to, cvs, us, R, K, y, h => ⟨(), cvs, [], h, .nil, fun _ _ _ _ => rfl⟩
  | .cons t ts, ms, to, [], us, R, K, y, h => by simp [packs] at h
  | .cons t ts, ms, to, cv :: cvs, us, R, K, y, h => by
    simp only [packs] at h
    obtain ⟨x, new, h1, h2, h3⟩ := packLeaf_out h
    obtain ⟨xs, rest, new', h4, h5, h6⟩ := packs_out ts h1
    refine ⟨(x, xs), rest, new' ++ new, by rw [List.append_assoc]; exact h4, h5.app fun u hu => (h2 u hu).dom, fun mu' hl R' K' => ?_⟩
    simp only [packs]
    rw [h3 mu' hl, h6 mu' hl, List.append_assoc]

theorem ptrCells_out {v : CV} {n : Nat} {us : List Use} {K : List CV → List Use → Option R} {y : R} (h : ptrCells mu v n us K = some y) :
    ∃ cs new, K cs (new ++ us) = some y ∧ UsDom mu new ∧ ∀ mu', Le mu mu' → ∀ (R' : Type) (K' : List CV → List Use → Option R'), ptrCells mu' v n us K' = K' cs (new ++ us) := by
  cases v <;> simp only [ptrCells] at h <;> try (cases h; done)
  case ptr id off =>
    cases hb : mu id with
    | none => simp [hb] at h
    | some b =>
      cases b <;> simp only [hb] at h <;> try (cases h; done)
      case box cs => exact ⟨_, [.pm id], h, .one (by simp [useId, hb]), fun mu' hl R' K' => by simp [ptrCells, hl _ _ hb]⟩
      case rbox es x => exact ⟨_, [], h, .nil, fun mu' hl R' K' => by simp [ptrCells, hl _ _ hb]⟩
  case rptr es x off => exact ⟨_, [], h, .nil, fun mu' hl R' K' => rfl⟩
  case eptr id sz i off =>
    cases hb : mu id with
    | none => simp [hb] at h
    | some b =>
      cases b <;> simp only [hb] at h <;> try (cases h; done)
      case row es ms xs ver =>
        cases hs : Nat.beq sz es.len with
        | false => simp [hs] at h
        | true =>
          simp only [hs, cond_true] at h
          cases hx : getN xs i with
          | none => simp [hx] at h
          | some x =>
            simp only [hx, Option.bind_some] at h
            exact ⟨_, [.pm id], h, .one (by simp [useId, hb]), fun mu' hl R' K' => by simp [ptrCells, hl _ _ hb, hs, hx]⟩

theorem packIns_out : ∀ (gs : List Grp) (m : Nat) {args : List TV} {us : List Use} {R : Type} {K : GD gs → List Use → Option R} {y : R}, packIns C mu gs m args us K = some y →
    ∃ x new, K x (new ++ us) = some y ∧ UsDom mu new ∧ ∀ mu', Le mu mu' → ∀ (R' : Type) (K' : GD gs → List Use → Option R'), packIns C mu' gs m args us K' = K' x (new ++ us)
  | [], m, [], us, R, K, y, h => ⟨(), [], h, .nil, fun _ _ _ _ => rfl⟩
  | [], m, _ :: _, us, R, K, y, h => by simp [packIns] at h
  | g :: gs, m, [], us, R, K, y, h => by simp [packIns] at h
  | g :: gs, m, a :: args, us, R, K, y, h => by
    have go : ∀ (cvs : List CV) (us1 new1 : List Use), us1 = new1 ++ us → UsDom mu new1 → (packs (appC C) mu g.ts g.ms (64 * m + 1) cvs us1 fun x cvs us => match cvs with
        | [] => packIns C mu gs (m + 1) args us fun r us => K (x, r) us
        | _ => none) = some y → ∃ x new, K x (new ++ us) = some y ∧ UsDom mu new ∧ ∀ mu', Le mu mu' → ∀ (R' : Type) (K' : GD (g :: gs) → List Use → Option R'), (packs (appC C) mu' g.ts g.ms (64 * m + 1) cvs us1 fun x cvs us => match cvs with
        | [] => packIns C mu' gs (m + 1) args us fun r us => K' (x, r) us
        | _ => none) = K' x (new ++ us) := by
      rintro cvs us1 new1 rfl hd h
      obtain ⟨x, rest, new, h1, h2, h3⟩ := packs_out g.ts h
      cases rest with
      | cons _ _ => cases h1
      | nil =>
        obtain ⟨r, new2, h4, h5, h6⟩ := packIns_out gs (m + 1) h1
        refine ⟨(x, r), new2 ++ (new ++ new1), by rw [List.append_assoc, List.append_assoc]; exact h4, h5.app (h2.app hd), fun mu' hl R' K' => ?_⟩
        rw [h3 mu' hl]
        dsimp only
        rw [h6 mu' hl, List.append_assoc, List.append_assoc]
    obtain ⟨gk, gts, gms⟩ := g
    cases gk with
    | c =>
      cases a <;> simp only [packIns] at h <;> try (cases h; done)
      case c v => exact go [v] us [] rfl .nil h
    | agg =>
      cases a <;> simp only [packIns] at h <;> try (cases h; done)
      case agg vs => exact go vs us [] rfl .nil h
    | rp =>
      cases a <;> simp only [packIns] at h <;> try (cases h; done)
      case c v =>
        cases hs : allSh gms with
        | false => simp [hs] at h
        | true =>
          simp only [hs, cond_true] at h
          obtain ⟨cs, new1, h1, h2, h3⟩ := ptrCells_out h
          obtain ⟨x, new, h4, h5, h6⟩ := go cs _ new1 rfl h2 h1
          refine ⟨x, new, h4, h5, fun mu' hl R' K' => ?_⟩
          simp only [packIns, hs, cond_true]
          rw [h3 mu' hl]
          exact h6 mu' hl R' K'
    | io =>
      cases a <;> simp only [packIns] at h <;> try (cases h; done)
      case c v =>
        cases v <;> simp only at h <;> try (cases h; done)
        case ptr id off =>
          cases hb : mu id with
          | none => simp [hb] at h
          | some b =>
            cases b <;> simp only [hb] at h <;> try (cases h; done)
            case box cs =>
              cases ho : Nat.beq off 0 with
              | false => simp [ho] at h
              | true =>
                simp only [ho, cond_true] at h
                obtain ⟨x, new, h4, h5, h6⟩ := go cs _ [.mv id (64 * m)] rfl (.one (by simp [useId, hb])) h
                refine ⟨x, new, h4, h5, fun mu' hl R' K' => ?_⟩
                simp only [packIns, hl _ _ hb, ho, cond_true]
                exact h6 mu' hl R' K'
    | np =>
      cases a <;> simp [packIns] at h
    | wc =>
      cases a <;> simp only [packIns] at h <;> try (cases h; done)
      case c v => exact go [v] us [] rfl .nil h
    | wa =>
      cases a <;> simp only [packIns] at h <;> try (cases h; done)
      case agg vs => exact go vs us [] rfl .nil h

theorem tgOk_le {mu mu' : Mu} (hl : Le mu mu') {t : Tg} (h : tgOk mu t = true) : tgOk mu' t = true := by
  cases t with
  | bx _ => rfl
  | cv cs =>
    simp only [tgOk, List.all_eq_true] at h ⊢
    intro c hc
    have := h c hc
    cases c <;> try rfl
    case own id =>
      obtain ⟨b, hb⟩ := Option.isSome_iff_exists.1 this
      simp [hl _ _ hb]

theorem backRows_le {mu mu' : Mu} (hl : Le mu mu') : ∀ (ts : Tys) {ms : List Md} {cs : List CV} {x : ts.D}, tgOk mu (.cv cs) = true → backRows mu' ts ms cs x = backRows mu ts ms cs x
  | .nil, _, _, _, _ => by simp [backRows]
  | .cons t ts, ms, [], x, _ => by simp [backRows]
  | .cons t ts, ms, c :: cs, x, h => by
    simp only [tgOk, List.all_cons, Bool.and_eq_true] at h
    simp only [backRows]
    rw [backRows_le hl ts (cs := cs) (by simp only [tgOk]; exact h.2)]
    refine congrArg (· ++ _) ?_
    unfold backRow
    cases mdHd ms with
    | sh => rfl
    | own m =>
      cases c <;> try rfl
      case own id =>
        obtain ⟨b, hb⟩ := Option.isSome_iff_exists.1 h.1
        simp only [hb, hl _ _ hb]

theorem unOuts_le {mu mu' : Mu} (hl : Le mu mu') {idb : Nat} : ∀ (gs : List Grp) (r nr : Nat) {io : List Tg} {y : GD gs}, io.all (tgOk mu) = true → unOuts mu' idb gs r nr io y = unOuts mu idb gs r nr io y
  | [], _, _, _, _, _ => by simp [unOuts]
  | g :: gs, r, 0, [], y, h => by simp only [unOuts]; exact unOuts_le hl gs (r + 1) 0 h
  | g :: gs, r, 0, t :: io, y, h => by
    simp only [List.all_cons, Bool.and_eq_true] at h
    simp only [unOuts]
    rw [unOuts_le hl gs (r + 1) 0 (io := io) h.2]
    cases t with
    | bx id => rfl
    | cv cs => simp only [backRows_le hl g.ts h.1]
  | g :: gs, r, nr + 1, io, y, h => by
    simp only [unOuts]
    rw [unOuts_le hl gs (r + 1) nr h]

theorem callU_out {idb f : Nat} {args : List TV} {K : TV → List (Nat × Blk) → Option R} {y : R} (h : callU C mu idb f args K = some y) : ∃ v ms, K v ms = some y ∧ ∀ mu', Le mu mu' → ∀ (R' : Type) (K' : TV → List (Nat × Blk) → Option R'), callU C mu' idb f args K' = K' v ms := by
  unfold callU at h
  cases hf : C.con f with
  | none => simp [hf] at h
  | some con =>
    simp only [hf] at h
    obtain ⟨x, new, h1, h2, h3⟩ := packIns_out con.ins 0 h
    cases hu : (usesOk (new ++ []) && gsOk con.outs && (ioIds con.ins args).all (tgOk mu)) with
    | false => rw [hu] at h1; cases h1
    | true =>
      rw [hu] at h1
      simp only [cond_true] at h1
      cases hy : con.f x with
      | none => simp [hy] at h1
      | some z =>
        simp only [hy, Option.bind_some] at h1
        refine ⟨_, _, h1, fun mu' hl R' K' => ?_⟩
        unfold callU
        simp only [hf]
        have hu' := hu
        simp only [Bool.and_eq_true] at hu'
        have hall : (ioIds con.ins args).all (tgOk mu') = true := List.all_eq_true.2 fun t ht => tgOk_le hl (List.all_eq_true.1 hu'.2 t ht)
        rw [h3 mu' hl, hu'.1.1, hu'.1.2, hall]
        simp only [Bool.and_self, cond_true, hy, Option.bind_some]
        rw [fzs_le hl (by simpa using h2), unOuts_le hl con.outs 0 _ hu'.2]

theorem upd_le {mu mu' : Mu} (hl : Le mu mu') {k : Nat} {b : Blk} : Le (upd mu k (some b)) (upd mu' k (some b)) := fun n c h => by
  unfold upd at h ⊢
  cases e : Nat.beq n k
  · rw [e] at h; exact hl _ _ h
  · rw [e] at h; exact h

theorem callN_out {idb f : Nat} {args : List TV} {K : TV → List (Nat × Blk) → Option R} {y : R} (h : callN C mu idb f args K = some y) : ∃ v ms, K v ms = some y ∧ ∀ mu', Le mu mu' → ∀ (R' : Type) (K' : TV → List (Nat × Blk) → Option R'), callN C mu' idb f args K' = K' v ms := by
  unfold callN at h
  cases hcon : C.con f with
  | none => simp [hcon] at h
  | some con =>
    simp only [hcon] at h
    cases hn : nestAt con.ins args 0 with
    | none =>
      simp only [hn] at h
      obtain ⟨v, ms, h1, h2⟩ := callU_out h
      refine ⟨v, ms, h1, fun mu' hl R' K' => ?_⟩
      unfold callN
      simp only [hcon, hn]
      exact h2 mu' hl R' K'
    | some p =>
      obtain ⟨n, id, ver, i, j⟩ := p
      simp only [hn] at h
      cases hb : mu id with
      | none => simp [hb] at h
      | some bl =>
        cases bl <;> simp only [hb] at h <;> try (cases h; done)
        case row es ms xs ver' =>
          cases hver : Nat.beq ver ver' with
          | false => simp [hver] at h
          | true =>
            simp only [hver, cond_true] at h
            cases hx : getN xs i with
            | none => simp [hx] at h
            | some x =>
              simp only [hx, Option.bind_some] at h
              split at h
              · rename_i es' xs' ms' hl hmd
                obtain ⟨v, l, h1, h2⟩ := callU_out h
                split at h1
                · rename_i es2 ms2 ys ver2 hrow
                  split at h1
                  · rename_i hes heq
                    cases hms : mdsBeq ms2 ms' with
                    | false => simp [hms] at h1
                    | true =>
                      simp only [hms, cond_true] at h1
                      cases hs : es.setLeaf j x (.sl es') (castL hes ys) with
                      | none => rw [hs] at h1; cases h1
                      | some x' =>
                        rw [hs] at h1
                        simp only [Option.bind_some] at h1
                        refine ⟨v, _, h1, fun mu' hle R' K' => ?_⟩
                        unfold callN
                        simp only [hcon, hn, hle _ _ hb, hver, cond_true, hx, Option.bind_some, hl, hmd]
                        rw [h2 _ (upd_le (upd_le hle))]
                        have hrow' : updL (upd (upd mu' id (some .dead)) (idb + 2047) (some (.row es' ms' xs' 0))) l (idb + 2047) = some (.row es2 ms2 ys ver2) := by
                          rw [← hrow]
                          exact updL_congr (by rw [updAt, updAt])
                        rw [hrow']
                        dsimp only
                        rw [heq]
                        dsimp only
                        rw [hms, cond_true, hs, Option.bind_some]
                  · cases h1
                · cases h1
              · cases h

theorem updL_le : ∀ (l : List (Nat × Blk)) {mu mu' : Mu}, Le mu mu' → Le (updL mu l) (updL mu' l)
  | [], _, _, h => h
  | (k, b) :: l, mu, mu', h => updL_le l (mu := upd mu k (some b)) (mu' := upd mu' k (some b)) (upd_le h)

theorem callE_out {idb f : Nat} {args : List TV} {K : TV → List (Nat × Blk) → Option R} {y : R} (h : callE C mu idb f args K = some y) : ∃ v ms, K v ms = some y ∧ ∀ mu', Le mu mu' → ∀ (R' : Type) (K' : TV → List (Nat × Blk) → Option R'), callE C mu' idb f args K' = K' v ms := by
  unfold callE at h
  cases hcon : C.con f with
  | none => simp [hcon] at h
  | some con =>
    simp only [hcon] at h
    cases hn : elemAt con.ins args 0 with
    | none =>
      simp only [hn] at h
      obtain ⟨v, ms, h1, h2⟩ := callN_out h
      refine ⟨v, ms, h1, fun mu' hl R' K' => ?_⟩
      unfold callE
      simp only [hcon, hn]
      exact h2 mu' hl R' K'
    | some p =>
      obtain ⟨n, id, sz, i⟩ := p
      simp only [hn] at h
      cases hb : mu id with
      | none => simp [hb] at h
      | some bl =>
        cases bl <;> simp only [hb] at h <;> try (cases h; done)
        case row es ms xs ver =>
          cases hcond : (Nat.beq sz es.len && (Nat.ble es.len 62 && mdOk es ms)) with
          | false => simp [hcond] at h
          | true =>
            simp only [hcond, cond_true] at h
            cases hx : getN xs i with
            | none => simp [hx] at h
            | some x =>
              simp only [hx, Option.bind_some] at h
              obtain ⟨v, l, h1, h2⟩ := callU_out h
              split at h1
              · rename_i cs hbx
                cases hp : (packs (R := es.D × List Use) app0 (updL (updL mu (outE id (idb + 1984) es ms x)) l) es ms 0 cs [] packEnd) with
                | none => rw [hp] at h1; cases h1
                | some p =>
                  obtain ⟨x', us⟩ := p
                  rw [hp] at h1
                  simp only [Option.bind_some] at h1
                  cases hu : (usesOk us && (us.all isMv && (!hasId id us && !hasId (idb + 1984) us))) with
                  | false => rw [hu] at h1; cases h1
                  | true =>
                    rw [hu, cond_true] at h1
                    obtain ⟨z, rest, new, hz, _, hpm⟩ := packs_out _ hp
                    refine ⟨v, _, h1, fun mu' hle R' K' => ?_⟩
                    have hle1 := updL_le (outE id (idb + 1984) es ms x) hle
                    have hle2 := updL_le l hle1
                    unfold callE
                    simp only [hcon, hn, hle _ _ hb, hcond, cond_true, hx, Option.bind_some]
                    rw [h2 _ hle1, hle2 _ _ hbx]
                    dsimp only
                    rw [(hpm _ hle2 _ _).trans hz]
                    simp only [Option.bind_some]
                    rw [hu, cond_true]
              · cases h1

theorem litElems_out {es : Tys} {ms : List Md} : ∀ (parts : List (Nat × TV)) (i : Nat) {us : List Use} {R : Type} {K : List es.D → List Use → Option R} {y : R}, litElems mu es ms parts i us K = some y →
    ∃ xs new, K xs (new ++ us) = some y ∧ UsDom mu new ∧ ∀ mu', Le mu mu' → ∀ (R' : Type) (K' : List es.D → List Use → Option R'), litElems mu' es ms parts i us K' = K' xs (new ++ us)
  | [], i, us, R, K, y, h => ⟨[], [], h, .nil, fun _ _ _ _ => rfl⟩
  | p :: r, i, us, R, K, y, h => by
    simp only [litElems] at h
    cases hp : Nat.beq p.1 i with
    | false => simp [hp] at h
    | true =>
      simp only [hp, cond_true] at h
      cases hc : cellsOf p.2 with
      | none => simp [hc] at h
      | some cvs =>
        simp only [hc] at h
        obtain ⟨x, rest, new, h1, h2, h3⟩ := packs_out es h
        cases rest with
        | cons _ _ => cases h1
        | nil =>
          obtain ⟨xs, new2, h4, h5, h6⟩ := litElems_out r (i + 1) h1
          refine ⟨x :: xs, new2 ++ new, by rw [List.append_assoc]; exact h4, h5.app h2, fun mu' hl R' K' => ?_⟩
          simp only [litElems, hp, cond_true, hc]
          rw [h3 mu' hl]
          dsimp only
          rw [h6 mu' hl, List.append_assoc]

theorem setLeaves_out : ∀ (ts : Tys) {ms : List Md} {j off : Nat} {vs : List CV} {x : ts.D} {us : List Use} {R : Type} {K : ts.D → List Use → Option R} {y : R}, setLeaves mu ts ms j off vs x us K = some y →
    ∃ z new, K z (new ++ us) = some y ∧ UsDom mu new ∧ ∀ mu', Le mu mu' → ∀ (R' : Type) (K' : ts.D → List Use → Option R'), setLeaves mu' ts ms j off vs x us K' = K' z (new ++ us)
  | .nil, ms, j, off, [], x, us, R, K, y, h => ⟨(), [], h, .nil, fun _ _ _ _ => rfl⟩
  | .nil, ms, j, off, _ :: _, x, us, R, K, y, h => by simp [setLeaves] at h
  | .cons t ts, ms, j, off, [], x, us, R, K, y, h => ⟨x, [], h, .nil, fun _ _ _ _ => by simp [setLeaves]⟩
  | .cons t ts, ms, j, 0, v :: vs, x, us, R, K, y, h => by
    simp only [setLeaves] at h
    obtain ⟨d, new, h1, h2, h3⟩ := packLeaf_out h
    obtain ⟨z, new2, h4, h5, h6⟩ := setLeaves_out ts h1
    refine ⟨(d, z), new2 ++ new, by rw [List.append_assoc]; exact h4, h5.app fun u hu => (h2 u hu).dom, fun mu' hl R' K' => ?_⟩
    simp only [setLeaves]
    rw [h3 mu' hl, h6 mu' hl, List.append_assoc]
  | .cons t ts, ms, j, off + 1, v :: vs, x, us, R, K, y, h => by
    simp only [setLeaves] at h
    obtain ⟨z, new2, h4, h5, h6⟩ := setLeaves_out ts h
    refine ⟨(x.1, z), new2, h4, h5, fun mu' hl R' K' => ?_⟩
    simp only [setLeaves]
    rw [h6 mu' hl]

theorem freezeU_out {es : Tys} {a : CV} {vs : List CV} {K : List (Nat × Blk) → Option R} {y : R} (h : freezeU mu es a vs K = some y) : ∃ ms, K ms = some y ∧ ∀ mu', Le mu mu' → ∀ (R' : Type) (K' : List (Nat × Blk) → Option R'), freezeU mu' es a vs K' = K' ms := by
  cases a with
  | ptr id off =>
    cases off with
    | succ n => simp [freezeU] at h
    | zero =>
      simp only [freezeU] at h
      cases hb : mu id with
      | none => simp [hb] at h
      | some b =>
        cases b <;> simp only [hb] at h <;> try (cases h; done)
        case box cs =>
          cases hle : Nat.beq vs.length cs.length with
          | false => simp [hle] at h
          | true =>
            simp only [hle, cond_true] at h
            cases hp : packs (R := es.D × List Use) app0 (updL mu [(id, .box vs)]) es [] 0 vs [] packEnd with
            | none => rw [hp] at h; cases h
            | some p =>
              obtain ⟨xd, us⟩ := p
              rw [hp] at h
              simp only [Option.bind_some] at h
              cases us with
              | cons _ _ => cases h
              | nil =>
                obtain ⟨z, rest, new, hz, _, hpm⟩ := packs_out _ hp
                refine ⟨_, h, fun mu' hl R' K' => ?_⟩
                simp only [freezeU, hl _ _ hb, hle, cond_true]
                rw [(hpm _ (updL_le [(id, .box vs)] hl) _ _).trans hz]
                simp only [Option.bind_some]
  | _ => simp [freezeU] at h

theorem storeU_out {a : CV} {vs : List CV} {K : List (Nat × Blk) → Option R} {y : R} (h : storeU mu a vs K = some y) : ∃ ms, K ms = some y ∧ ∀ mu', Le mu mu' → ∀ (R' : Type) (K' : List (Nat × Blk) → Option R'), storeU mu' a vs K' = K' ms := by
  cases a <;> simp only [storeU] at h <;> try (cases h; done)
  case ptr id off =>
    cases hb : mu id with
    | none => simp [hb] at h
    | some b =>
      cases b <;> simp only [hb] at h <;> try (cases h; done)
      case box cs =>
        cases hle : Nat.ble (off + vs.length) cs.length with
        | false => simp [hle] at h
        | true =>
          simp only [hle, cond_true] at h
          exact ⟨_, h, fun mu' hl R' K' => by simp [storeU, hl _ _ hb, hle]⟩
  case eptr id sz i off =>
    cases hb : mu id with
    | none => simp [hb] at h
    | some b =>
      cases b <;> simp only [hb] at h <;> try (cases h; done)
      case row es ms xs ver =>
        cases hle : (Nat.ble (off + vs.length) es.len && Nat.beq sz es.len) with
        | false => simp [hle] at h
        | true =>
          simp only [hle, cond_true] at h
          cases hx : getN xs i with
          | none => simp [hx] at h
          | some x =>
            simp only [hx, Option.bind_some] at h
            obtain ⟨z, new, h1, h2, h3⟩ := setLeaves_out es h
            cases hu : (usesOk (new ++ []) && !hasId id (new ++ [])) with
            | false => rw [hu] at h1; cases h1
            | true =>
              rw [hu] at h1
              simp only [cond_true] at h1
              refine ⟨_, h1, fun mu' hl R' K' => ?_⟩
              simp only [storeU, hl _ _ hb, hle, cond_true, hx, Option.bind_some]
              rw [h3 mu' hl, hu]
              simp only [cond_true]
              rw [fzs_le hl (by simpa using h2)]

theorem loadU_out {v : CV} {n : Nat} {K : List CV → Option R} {y : R} (h : loadU mu v n K = some y) : ∃ cs, K cs = some y ∧ ∀ mu', Le mu mu' → ∀ (R' : Type) (K' : List CV → Option R'), loadU mu' v n K' = K' cs := by
  cases v <;> simp only [loadU] at h <;> try (cases h; done)
  case ptr id off =>
    cases hb : mu id with
    | none => simp [hb] at h
    | some b =>
      cases b <;> simp only [hb] at h <;> try (cases h; done)
      case box cs =>
        cases hle : Nat.ble (off + n) cs.length with
        | false => simp [hle] at h
        | true => simp only [hle, cond_true] at h; exact ⟨_, h, fun mu' hl R' K' => by simp [loadU, hl _ _ hb, hle]⟩
      case rbox es x =>
        cases hle : Nat.ble (off + n) es.len with
        | false => simp [hle] at h
        | true => simp only [hle, cond_true] at h; exact ⟨_, h, fun mu' hl R' K' => by simp [loadU, hl _ _ hb, hle]⟩
  case rptr es x off =>
    cases hle : Nat.ble (off + n) es.len with
    | false => simp [hle] at h
    | true => simp only [hle, cond_true] at h; exact ⟨_, h, fun mu' hl R' K' => by simp [loadU, hle]⟩
  case eptr id sz i off =>
    cases hb : mu id with
    | none => simp [hb] at h
    | some b =>
      cases b <;> simp only [hb] at h <;> try (cases h; done)
      case row es ms xs ver =>
        cases hle : (Nat.ble (off + n) es.len && Nat.beq sz es.len) with
        | false => simp [hle] at h
        | true =>
          simp only [hle, cond_true] at h
          cases hx : getN xs i with
          | none => simp [hx] at h
          | some x => simp only [hx, Option.bind_some] at h; exact ⟨_, h, fun mu' hl R' K' => by simp [loadU, hl _ _ hb, hle, hx]⟩
      case fz es xs =>
        cases hle : (Nat.ble (off + n) es.len && Nat.beq sz es.len) with
        | false => simp [hle] at h
        | true =>
          simp only [hle, cond_true] at h
          cases hx : getN xs i with
          | none => simp [hx] at h
          | some x => simp only [hx, Option.bind_some] at h; exact ⟨_, h, fun mu' hl R' K' => by simp [loadU, hl _ _ hb, hle, hx]⟩

theorem cutU_out {α : Type} {lo hi : Option TV} {n : Nat} {xs : α} {f : Nat → Nat → α → Option R} {y : R} (h : cutU lo hi n xs f = some y) : ∃ l m, f l m xs = some y ∧ ∀ (R' : Type) (f' : Nat → Nat → α → Option R'), cutU lo hi n xs f' = f' l m xs := by
  unfold cutU at h
  split at h
  · exact ⟨_, _, h, fun R' f' => by simp [cutU]⟩
  · rename_i k l
    cases hc : cutHi l n with
    | false => simp [hc] at h
    | true => simp only [hc, cond_true] at h; exact ⟨_, _, h, fun R' f' => by simp [cutU, hc]⟩
  · rename_i k l
    cases hc : cutHi l n with
    | false => simp [hc] at h
    | true => simp only [hc, cond_true] at h; exact ⟨_, _, h, fun R' f' => by simp [cutU, hc]⟩
  · rename_i k l k' m
    cases hc : cutLH l m n with
    | false => simp [hc] at h
    | true => simp only [hc, cond_true] at h; exact ⟨_, _, h, fun R' f' => by simp [cutU, hc]⟩
  · cases h

theorem sliceU_out {v : CV} {lo hi : Option TV} {K : TV → List (Nat × Blk) → Option R} {y : R} (h : sliceU mu v lo hi K = some y) : ∃ tv ms, K tv ms = some y ∧ ∀ mu', Le mu mu' → ∀ (R' : Type) (K' : TV → List (Nat × Blk) → Option R'), sliceU mu' v lo hi K' = K' tv ms := by
  cases v <;> simp only [sliceU] at h <;> try (cases h; done)
  case str s => obtain ⟨l, m, h1, h2⟩ := cutU_out h; exact ⟨_, _, h1, fun mu' hl R' K' => by simp only [sliceU]; rw [h2]⟩
  case ro es xs => obtain ⟨l, m, h1, h2⟩ := cutU_out h; exact ⟨_, _, h1, fun mu' hl R' K' => by simp only [sliceU]; rw [h2]⟩
  case nils => obtain ⟨l, m, h1, h2⟩ := cutU_out h; exact ⟨_, _, h1, fun mu' hl R' K' => by simp only [sliceU]; rw [h2]⟩
  case own id =>
    cases hb : mu id with
    | none => simp [hb] at h
    | some b =>
      cases b <;> simp only [hb] at h <;> try (cases h; done)
      case row es ms xs ver => obtain ⟨l, m, h1, h2⟩ := cutU_out h; exact ⟨_, _, h1, fun mu' hl R' K' => by simp only [sliceU, hl _ _ hb]; rw [h2]⟩
      case fz es xs => obtain ⟨l, m, h1, h2⟩ := cutU_out h; exact ⟨_, _, h1, fun mu' hl R' K' => by simp only [sliceU, hl _ _ hb]; rw [h2]⟩

theorem esOk_le {mu' : Mu} (hl : Le mu mu') {n : Nat} {v : CV} (h : esOk mu n v = true) : esOk mu' n v = true := by
  cases v <;> simp only [esOk] at h ⊢ <;> try (first | exact h | (cases h; done))
  case own id =>
    cases hb : mu id with
    | none => simp [hb] at h
    | some b => rw [hb] at h; rw [hl _ _ hb]; exact h
  case nref id ver i j =>
    cases hb : mu id with
    | none => simp [hb] at h
    | some b => rw [hb] at h; rw [hl _ _ hb]; exact h

theorem idxU_out {v : CV} {n : Int} {K : CV → Option R} {y : R} (h : idxU mu v n K = some y) : ∃ p, K p = some y ∧ ∀ mu', Le mu mu' → ∀ (R' : Type) (K' : CV → Option R'), idxU mu' v n K' = K' p := by
  cases v <;> simp only [idxU] at h <;> try (cases h; done)
  case ro es xs =>
    cases hx : getI xs n with
    | none => simp [hx] at h
    | some x => simp only [hx, Option.bind_some] at h; exact ⟨_, h, fun mu' hl R' K' => by simp [idxU, hx]⟩
  case own id =>
    cases hb : mu id with
    | none => simp [hb] at h
    | some b =>
      cases b <;> simp only [hb] at h <;> try (cases h; done)
      case row es ms xs ver =>
        cases hx : getI xs n with
        | none => simp [hx] at h
        | some x => simp only [hx, Option.bind_some] at h; exact ⟨_, h, fun mu' hl R' K' => by simp [idxU, hl _ _ hb, hx]⟩
      case fz es xs =>
        cases hx : getI xs n with
        | none => simp [hx] at h
        | some x => simp only [hx, Option.bind_some] at h; exact ⟨_, h, fun mu' hl R' K' => by simp [idxU, hl _ _ hb, hx]⟩

theorem lenU_out {v : CV} {K : Int → Option R} {y : R} (h : lenU mu v K = some y) : ∃ n, K n = some y ∧ ∀ mu', Le mu mu' → ∀ (R' : Type) (K' : Int → Option R'), lenU mu' v K' = K' n := by
  by_cases hn : v = .nils
  · subst hn; exact ⟨0, h, fun _ _ _ _ => rfl⟩
  · have e : ∀ (mu : Mu) (R : Type) (K : Int → Option R), lenU mu v K = content mu v fun _ xs => K xs.length := by
      intro mu R K
      cases v <;> first | rfl | exact absurd rfl hn
    rw [e] at h
    obtain ⟨es, xs, h1, h2⟩ := content_out h
    exact ⟨_, h1, fun mu' hl R' K' => by rw [e, h2 mu' hl]⟩

theorem appended_out {es : Tys} {v : CV} {K : List es.D → Option R} {y : R} (h : appended mu es v K = some y) : ∃ xs, K xs = some y ∧ ∀ mu', Le mu mu' → ∀ (R' : Type) (K' : List es.D → Option R'), appended mu' es v K' = K' xs := by
  by_cases hn : v = .nils
  · subst hn; exact ⟨[], h, fun _ _ _ _ => rfl⟩
  · by_cases hs : ∃ s, v = .str s
    · obtain ⟨s, rfl⟩ := hs
      simp only [appended] at h
      cases he : Tys.eq? tyBytes es with
      | none => simp [he] at h
      | some p => simp only [he] at h; exact ⟨_, h, fun mu' hl R' K' => by simp [appended, he]⟩
    · have e : ∀ (mu : Mu) (R : Type) (K : List es.D → Option R), appended mu es v K = content mu v fun es' ys => match Tys.eq? es' es with
          | some ⟨h⟩ => K (castL h ys)
          | none => none := by
        intro mu R K
        cases v <;> first | rfl | exact absurd rfl hn | exact absurd ⟨_, rfl⟩ hs
      rw [e] at h
      obtain ⟨es', xs, h1, h2⟩ := content_out h
      cases he : Tys.eq? es' es with
      | none => simp [he] at h1
      | some p =>
        simp only [he] at h1
        exact ⟨_, h1, fun mu' hl R' K' => by rw [e, h2 mu' hl]; simp [he]⟩

theorem srcOk_le {mu' : Mu} (hl : Le mu mu') {ms : List Md} {v : CV} {dd : List (Nat × Blk)} (h : srcOk mu ms v = some dd) : srcOk mu' ms v = some dd := by
  cases v <;> simp only [srcOk] at h ⊢ <;> try (first | exact h | (cases h; done))
  case own id =>
    cases hb : mu id with
    | none => simp [hb] at h
    | some b => rw [hb] at h; rw [hl _ _ hb]; exact h

theorem appendU_out {idb : Nat} {es : Tys} {ms : List Md} {bytes : Nat} {s x : CV} {K : TV → List (Nat × Blk) → Option R} {y : R} (h : appendU mu idb es ms bytes s x K = some y) : ∃ tv ms', K tv ms' = some y ∧ ∀ mu', Le mu mu' → ∀ (R' : Type) (K' : TV → List (Nat × Blk) → Option R'), appendU mu' idb es ms bytes s x K' = K' tv ms' := by
  cases s <;> simp only [appendU] at h <;> try (cases h; done)
  case nils =>
    cases hs : srcOk mu ms x with
    | none => simp [hs] at h
    | some dd =>
      simp only [hs] at h
      obtain ⟨ys, h1, h2⟩ := appended_out h
      cases hr : room ys.length bytes with
      | false => simp [hr] at h1
      | true =>
        simp only [hr, cond_true] at h1
        refine ⟨_, _, h1, fun mu' hl R' K' => ?_⟩
        simp only [appendU, srcOk_le hl hs]
        rw [h2 mu' hl, hr]; rfl
  case own id =>
    cases hb : mu id with
    | none => simp [hb] at h
    | some b =>
      cases b <;> simp only [hb] at h <;> try (cases h; done)
      case row es' ms' xs ver =>
        cases he : Tys.eq? es' es with
        | none => simp [he] at h
        | some p =>
          simp only [he] at h
          cases hs : srcOk mu ms' x with
          | none => simp [hs] at h
          | some dd =>
            simp only [hs] at h
            cases hsr : sameRow id x with
            | true => simp [hsr] at h
            | false =>
              simp only [hsr, cond_false] at h
              obtain ⟨ys, h1, h2⟩ := appended_out h
              cases hr : room (xs.length + ys.length) bytes with
              | false => simp [hr] at h1
              | true =>
                simp only [hr, cond_true] at h1
                refine ⟨_, _, h1, fun mu' hl R' K' => ?_⟩
                simp only [appendU, hl _ _ hb, he, srcOk_le hl hs, hsr, cond_false]
                rw [h2 mu' hl, hr]; rfl
end
end Go.Tm

/- The pure machine, 39: an operation's outcome. -/
namespace Go.Tm
open Go

section
variable {C : Ctx} {env : Nat → TV} {mu : Mu} {R : Type}

theorem binU_out {tk : TK} {eq : Option (List TK)} {op : BinOp} {x y : TV} {K : TV → Option R} {r : R} (hk : ∀ e, tk ≠ .slice e) (h : binU mu tk eq op x y K = some r) :
    ∃ v, K v = some r ∧ ∀ (mu' : Mu) (R' : Type) (K' : TV → Option R'), binU mu' tk eq op x y K' = K' v := by
  unfold binU at h
  split at h
  · rename_i k a k' b
    split at h
    · cases hb : iLt b 0 with
      | true => simp [hb] at h
      | false => simp only [hb, cond_false] at h; exact ⟨_, h, fun mu' R' K' => by simp [binU, hb]⟩
    · cases hb : iLt b 0 with
      | true => simp [hb] at h
      | false => simp only [hb, cond_false] at h; exact ⟨_, h, fun mu' R' K' => by simp [binU, hb]⟩
    · rename_i h1 h2
      split at h
      · rename_i hkk
        cases op <;> simp only at h <;> try (cases h; done)
        case quo =>
          cases hb : iEq b 0 with
          | true => simp [hb] at h
          | false => simp only [hb, cond_false] at h; exact ⟨_, h, fun mu' R' K' => by simp [binU, hb, hkk]⟩
        case rem =>
          cases hb : iEq b 0 with
          | true => simp [hb] at h
          | false => simp only [hb, cond_false] at h; exact ⟨_, h, fun mu' R' K' => by simp [binU, hb, hkk]⟩
        all_goals exact ⟨_, h, fun mu' R' K' => by simp [binU, hkk]⟩
      · cases h
  · rename_i a b
    cases op <;> simp only at h <;> try (cases h; done)
    case add =>
      cases hb : sRoom a b with
      | false => simp [hb] at h
      | true => simp only [hb, cond_true] at h; exact ⟨_, h, fun mu' R' K' => by simp [binU, hb]⟩
    all_goals exact ⟨_, h, fun mu' R' K' => by simp [binU]⟩
  · rename_i a b
    cases tk <;> simp only at h <;> try (cases h; done)
    case bool =>
      cases op <;> simp only at h <;> try (cases h; done)
      all_goals exact ⟨_, h, fun mu' R' K' => by simp [binU]⟩
  · rename_i a b
    cases eq with
    | none => cases h
    | some ks =>
      cases op <;> simp only at h <;> try (cases h; done)
      case eql =>
        cases he : eqCVs ks a b with
        | none => simp [he] at h
        | some c => simp only [he] at h; exact ⟨_, h, fun mu' R' K' => by simp [binU, he]⟩
      case neq =>
        cases he : eqCVs ks a b with
        | none => simp [he] at h
        | some c => simp only [he] at h; exact ⟨_, h, fun mu' R' K' => by simp [binU, he]⟩
  · cases tk <;> simp only at h <;> try (cases h; done)
    case slice e => exact absurd rfl (hk e)
  · cases h

theorem builtinU_out {idb rid i : Nat} {b : Builtin} {ts : List Nat} {args : List TV} {K : TV → List (Nat × Blk) → Option R} {y : R} (h : builtinU C mu idb rid i b ts args K = some y) :
    ∃ v ms, K v ms = some y ∧ ∀ mu', Le mu mu' → ∀ (R' : Type) (K' : TV → List (Nat × Blk) → Option R'), builtinU C mu' idb rid i b ts args K' = K' v ms := by
  unfold builtinU at h
  split at h
  · rename_i v
    split at h
    · rename_i t
      split at h
      · rename_i ti ht
        split at h
        · rename_i s hk; exact ⟨_, _, h, fun mu' hl R' K' => by simp [builtinU, ht, hk]⟩
        · cases h
        · rename_i e hne hk
          obtain ⟨n, h1, h2⟩ := lenU_out h
          refine ⟨_, _, h1, fun mu' hl R' K' => ?_⟩
          simp only [builtinU, ht, hne]
          exact h2 mu' hl R' _
        · cases h
      · cases h
    · cases h
  · rename_i k a r
    split at h
    · rename_i n hn; exact ⟨_, _, h, fun mu' hl R' K' => by simp [builtinU, hn]⟩
    · cases h
  · rename_i k a r
    split at h
    · rename_i n hn; exact ⟨_, _, h, fun mu' hl R' K' => by simp [builtinU, hn]⟩
    · cases h
  · rename_i s x
    split at h
    · rename_i t t2
      split at h
      · rename_i e te ti2 he ht2
        cases ha : apTy ti2.k with
        | false => simp [ha] at h
        | true =>
          simp only [ha, cond_true] at h
          obtain ⟨tv, ms, h1, h2⟩ := appendU_out h
          exact ⟨_, _, h1, fun mu' hl R' K' => by simp only [builtinU, he, ht2, ha, cond_true]; exact h2 mu' hl R' K'⟩
      · cases h
    · cases h
  · cases h

theorem fndU_out {sh : List Nat} {as rs : Tys} {g : as.D → Option rs.D} {args : List TV} {K : TV → List (Nat × Blk) → Option R} {y : R} (h : fndU mu sh as rs g args K = some y) :
    ∃ v ms, K v ms = some y ∧ ∀ mu', Le mu mu' → ∀ (R' : Type) (K' : TV → List (Nat × Blk) → Option R'), fndU mu' sh as rs g args K' = K' v ms := by
  unfold fndU at h
  split at h
  · cases h
  · rename_i cvs hc
    have : ∀ (R' : Type) (K' : TV → List (Nat × Blk) → Option R') (mu' : Mu), fndU mu' sh as rs g args K' = fndU mu sh as rs g args K' := fun _ _ _ => rfl
    obtain ⟨x, rest, new, h1, _, h3⟩ := packs_out as h
    cases rest with
    | cons _ _ => cases h1
    | nil =>
      cases hg : g x with
      | none => simp [hg] at h1
      | some z =>
        simp only [hg, Option.bind_some] at h1
        split at h1
        · rename_i v hv
          refine ⟨_, _, h1, fun mu' hl R' K' => ?_⟩
          unfold fndU
          rw [hc]
          dsimp only
          rw [h3 mu0 (fun _ _ h => h)]
          simp [hg, hv]
        · cases h1

theorem map_eval {env' : Nat → TV} {xs : Array Operand} (h : ∀ x ∈ xs, evalTV env' x = evalTV env x) : xs.toList.map (evalTV env') = xs.toList.map (evalTV env) :=
  List.map_congr_left fun x hx => h x (by simpa using hx)

theorem parts_eval {env' : Nat → TV} {ps : Array (Nat × Operand)} (h : ∀ x ∈ ps.map (·.2), evalTV env' x = evalTV env x) : (ps.toList.map fun p => (p.1, evalTV env' p.2)) = ps.toList.map fun p => (p.1, evalTV env p.2) :=
  List.map_congr_left fun p hp => by rw [h p.2 (Array.mem_map.2 ⟨p, by simpa using hp, rfl⟩)]

theorem capIds_eval {env' : Nat → TV} : ∀ {xs : List Operand}, (∀ x ∈ xs, evalTV env' x = evalTV env x) → capIds env' xs = capIds env xs
  | [], _ => rfl
  | x :: r, h => by simp only [capIds]; rw [h x (by simp), capIds_eval fun y hy => h y (by simp [hy])]

theorem opt_eval {env' : Nat → TV} {x : Option Operand} (h : ∀ y, x = some y → evalTV env' y = evalTV env y) : x.map (evalTV env') = x.map (evalTV env) := by
  cases x with
  | none => rfl
  | some y => simp [h y rfl]

/-- An operation hangs on its operands alone. -/
theorem opU_eval {env' : Nat → TV} {idb rid i : Nat} {o : Oper} {K : TV → List (Nat × Blk) → Option R} (h : ∀ x ∈ o.op.operands, evalTV env' x = evalTV env x) :
    opU C env' mu idb rid i o K = opU C env mu idb rid i o K := by
  cases hop : o.op <;> simp only [hop, Op.operands] at h <;> simp only [opU, hop]
  case build t ps => rw [parts_eval fun x hx => h x (by simpa using hx)]
  case buildSlice t n ps => rw [parts_eval fun x hx => h x (by simpa using hx)]
  case makeFunc fn first captured =>
    cases fn <;> simp only
    case func f => rw [capIds_eval fun x hx => h x (by simp at hx ⊢; exact .inr hx)]
  case call c =>
    cases hc : c.callee with
    | builtin b => simp only; rw [map_eval fun x hx => h x (by simp [Call.operands, hx])]
    | value f => simp only; rw [map_eval fun x hx => h x (by simp [Call.operands, hx]), h f (by simp [Call.operands, hc])]
    | invoke _ _ => rfl
  case slice t x lo hi mx =>
    cases mx with
    | some m => rfl
    | none =>
      simp only
      rw [opt_eval (x := lo) fun y hy => h y (by subst hy; simp), opt_eval (x := hi) fun y hy => h y (by subst hy; simp), h x (by simp)]
  case unOp op t x => rw [h x (by simp)]
  all_goals (first | rfl | (simp_all; done))

/-- An operation that has one outcome comes to it, whatever is known besides. -/
theorem opU_out {idb rid i : Nat} {o : Oper} {K : TV → List (Nat × Blk) → Option R} {y : R} (hdet : opDet C o.op = true) (h : opU C env mu idb rid i o K = some y) :
    ∃ v ms, K v ms = some y ∧ ∀ mu', (opReads C o.op = true → Le mu mu') → ∀ (R' : Type) (K' : TV → List (Nat × Blk) → Option R'), opU C env mu' idb rid i o K' = K' v ms := by
  cases hop : o.op <;> simp only [opU, hop] at h <;> try (cases h; done)
  case move x => exact ⟨_, _, h, fun mu' _ R' K' => by simp only [opU, hop]⟩
  case assign x => exact ⟨_, _, h, fun mu' _ R' K' => by simp only [opU, hop]⟩
  case pick c x z =>
    split at h
    · rename_i b hc
      cases b
      · exact ⟨_, _, h, fun mu' _ R' K' => by simp only [opU, hop, hc]; rfl⟩
      · exact ⟨_, _, h, fun mu' _ R' K' => by simp only [opU, hop, hc]; rfl⟩
    · cases h
  case alloc e =>
    split at h
    · rename_i ti ht; exact ⟨_, _, h, fun mu' _ R' K' => by simp only [opU, hop, ht]⟩
    · cases h
  case box e x =>
    split at h
    · rename_i cs hx
      cases hsi : (C.site rid i).isEmpty with
      | true => rw [hsi] at h; exact ⟨_, _, h, fun mu' _ R' K' => by simp only [opU, hop, hx, hsi, cond_true]⟩
      | false =>
        simp only [hsi, cond_false] at h
        cases hp : (packs (R := (C.es e).D × List Use) app0 (fun _ => none) (C.es e) [] 0 cs [] packEnd) with
        | none => simp [hp] at h
        | some p =>
          obtain ⟨xd, us⟩ := p
          simp only [hp, Option.bind_some] at h
          cases us with
          | nil => exact ⟨_, _, h, fun mu' _ R' K' => by simp only [opU, hop, hx, hsi, cond_false, hp, Option.bind_some]⟩
          | cons u us => cases h
    · cases h
  case build t parts =>
    split at h
    · rename_i ti ht
      split at h
      · rename_i hk
        split at h
        · rename_i cs hb; exact ⟨_, _, h, fun mu' _ R' K' => by simp only [opU, hop, ht, hk, hb]⟩
        · cases h
      · cases h
    · cases h
  case buildSlice t len parts =>
    split at h
    · rename_i e te he
      cases hb : (Nat.ble (len * te.size) 16777216 && Nat.beq parts.size len && Nat.blt 0 te.size && Nat.ble te.size 62) with
      | false => rw [hb] at h; cases h
      | true =>
        rw [hb] at h
        simp only [cond_true] at h
        obtain ⟨xs, new, h1, h2, h3⟩ := litElems_out _ _ h
        cases hu : usesOk (new ++ []) with
        | false => rw [hu] at h1; cases h1
        | true =>
          rw [hu] at h1
          simp only [cond_true] at h1
          refine ⟨_, _, h1, fun mu' hl R' K' => ?_⟩
          have hl := hl rfl
          simp only [opU, hop, he, hb, cond_true]
          rw [h3 mu' hl, hu]
          simp only [cond_true]
          rw [fzs_le hl (by simpa using h2)]
    · cases h
  case load t x =>
    split at h
    · rename_i ti cv ht hx
      obtain ⟨cs, h1, h2⟩ := loadU_out h
      exact ⟨_, _, h1, fun mu' hl R' K' => by
        have hl := hl rfl
        simp only [opU, hop, ht, hx]
        exact h2 mu' hl R' _⟩
    · cases h
  case store t x v =>
    split at h
    · rename_i ti cv vs ht hx hv
      cases hlen : Nat.beq vs.length ti.size with
      | false => simp [hlen] at h
      | true =>
        simp only [hlen, cond_true] at h
        cases hsite : (C.site rid i).isEmpty with
        | true =>
          simp only [hsite, cond_true] at h
          obtain ⟨ms, h1, h2⟩ := storeU_out h
          exact ⟨_, _, h1, fun mu' hl R' K' => by
            have hl := hl rfl
            simp only [opU, hop, ht, hx, hv, hlen, hsite, cond_true]
            exact h2 mu' hl R' _⟩
        | false =>
          simp only [hsite, cond_false] at h
          obtain ⟨ms, h1, h2⟩ := freezeU_out h
          exact ⟨_, _, h1, fun mu' hl R' K' => by
            have hl := hl rfl
            simp only [opU, hop, ht, hx, hv, hlen, hsite, cond_true, cond_false]
            exact h2 mu' hl R' _⟩
    · cases h
  case nilCheck x =>
    split at h
    · rename_i id off hx; exact ⟨_, _, h, fun mu' _ R' K' => by simp only [opU, hop, hx]⟩
    · rename_i id sz i off hx; exact ⟨_, _, h, fun mu' _ R' K' => by simp only [opU, hop, hx]⟩
    · rename_i es z off hx; exact ⟨_, _, h, fun mu' _ R' K' => by simp only [opU, hop, hx]⟩
    · cases h
  case binOp op t x z t2 =>
    have hk : ∀ e, (match C.ty t with | some ti => ti.k | none => .other) ≠ TK.slice e := by
      intro e he
      rw [hop] at hdet
      simp only [opDet] at hdet
      cases ht : C.ty t with
      | none => rw [ht] at he; cases he
      | some ti =>
        rw [ht] at he hdet
        have he : ti.k = .slice e := he
        simp [he] at hdet
    obtain ⟨v, h1, h2⟩ := binU_out hk h
    exact ⟨v, _, h1, fun mu' _ R' K' => by simp only [opU, hop]; exact h2 mu' R' _⟩
  case unOp op t x =>
    split at h
    · rename_i b hx; exact ⟨_, _, h, fun mu' _ R' K' => by simp only [opU, hop, hx]⟩
    · rename_i k n hx; exact ⟨_, _, h, fun mu' _ R' K' => by simp only [opU, hop, hx]⟩
    · rename_i k n hx; exact ⟨_, _, h, fun mu' _ R' K' => by simp only [opU, hop, hx]⟩
    · cases h
  case convert t t2 x =>
    cases ht : C.ty t with
    | none => simp [ht] at h
    | some si =>
      cases ht2 : C.ty t2 with
      | none => simp [ht, ht2] at h
      | some ti =>
        cases hx : evalTV env x <;> simp only [ht, ht2, hx] at h <;> try (cases h; done)
        case c cv =>
          cases hk : ti.k <;> simp only [hk] at h <;> try (cases h; done)
          case int k' =>
            cases cv <;> simp only at h <;> try (cases h; done)
            case int k n => exact ⟨_, _, h, fun mu' _ R' K' => by simp only [opU, hop, ht, ht2, hx, hk]⟩
          case str =>
            by_cases hs : ∃ b, cv = .str b
            · obtain ⟨b, rfl⟩ := hs
              exact ⟨_, _, h, fun mu' _ R' K' => by simp only [opU, hop, ht, ht2, hx, hk]⟩
            · have e : ∀ (mu : Mu) (R : Type) (K : TV → List (Nat × Blk) → Option R), (match (generalizing := false) TK.str, cv with
                | .int k', .int _ n => K (.c (.int k' (k'.wrap n))) []
                | .str, .str s => K (.c (.str s)) []
                | .str, v => match (generalizing := false) si.k with
                  | .slice e => match C.ty e with
                    | some te => match te.k with
                      | .int .u8 => match (generalizing := false) v with
                        | .nils => K (.c (.str ⟨#[]⟩)) []
                        | v => content mu v fun es xs => match Tys.eq? es tyBytes with
                          | some ⟨h⟩ => K (.c (.str (bytesStr (castL h xs)))) []
                          | none => none
                      | _ => none
                    | none => none
                  | _ => none
                | _, _ => none) = (match (generalizing := false) si.k with
                  | .slice e => match C.ty e with
                    | some te => match te.k with
                      | .int .u8 => match (generalizing := false) cv with
                        | .nils => K (.c (.str ⟨#[]⟩)) []
                        | v => content mu v fun es xs => match Tys.eq? es tyBytes with
                          | some ⟨h⟩ => K (.c (.str (bytesStr (castL h xs)))) []
                          | none => none
                      | _ => none
                    | none => none
                  | _ => none) := by
                intro mu R K
                cases cv <;> first | rfl | exact absurd ⟨_, rfl⟩ hs
              have h := (e mu R K).symm.trans h
              cases hsk : si.k <;> simp only [hsk] at h <;> try (cases h; done)
              case slice el =>
                cases he : C.ty el with
                | none => simp [he] at h
                | some te =>
                  simp only [he] at h
                  cases hek : te.k <;> simp only [hek] at h <;> try (cases h; done)
                  case int ik =>
                    cases ik <;> simp only at h <;> try (cases h; done)
                    case u8 =>
                      by_cases hn : cv = .nils
                      · subst hn
                        exact ⟨_, _, h, fun mu' _ R' K' => by simp only [opU, hop, ht, ht2, hx, hk]; refine (e mu' R' K').trans ?_; simp only [hsk, he, hek]⟩
                      · have e2 : ∀ (mu : Mu) (R : Type) (K : TV → List (Nat × Blk) → Option R), (match (generalizing := false) cv with
                          | .nils => K (.c (.str ⟨#[]⟩)) []
                          | v => content mu v fun es xs => match Tys.eq? es tyBytes with
                            | some ⟨h⟩ => K (.c (.str (bytesStr (castL h xs)))) []
                            | none => none) = content mu cv fun es xs => match Tys.eq? es tyBytes with
                            | some ⟨h⟩ => K (.c (.str (bytesStr (castL h xs)))) []
                            | none => none := by
                          intro mu R K
                          cases cv <;> first | rfl | exact absurd rfl hn
                        have h := (e2 mu R K).symm.trans h
                        obtain ⟨es, xs, h1, h2⟩ := content_out h
                        cases hq : Tys.eq? es tyBytes with
                        | none => simp [hq] at h1
                        | some p =>
                          simp only [hq] at h1
                          refine ⟨_, _, h1, fun mu' hl R' K' => ?_⟩
                          simp only [opU, hop, ht, ht2, hx, hk]
                          refine (e mu' R' K').trans ?_
                          simp only [hsk, he, hek]
                          first | refine (e2 mu' R' K').trans ?_ | skip
                          rw [h2 mu' (hl rfl)]
                          simp only [hq]
  case makeFunc f first captured =>
    cases f <;> simp only at h <;> try (cases h; done)
    case func f =>
      cases hf : first.isEmpty with
      | false => simp [hf] at h
      | true =>
        simp only [hf, cond_true] at h
        split at h
        · rename_i l hc; exact ⟨_, _, h, fun mu' _ R' K' => by simp only [opU, hop, hf, cond_true, hc]⟩
        · cases h
  case makeSlice t l c =>
    split at h
    · rename_i e te k n k' n' he hl hc
      split at h
      · rename_i hk
        cases hm : (Nat.blt 0 te.size && mkOk n n' te.bytes) with
        | false => simp [hm] at h
        | true =>
          simp only [hm, cond_true] at h
          obtain ⟨z, rest, new, h1, h2, h3⟩ := packs_out _ h
          cases rest with
          | cons _ _ => cases h1
          | nil =>
            cases hn : new ++ [] with
            | cons _ _ => rw [hn] at h1; cases h1
            | nil =>
              rw [hn] at h1 h3
              refine ⟨_, _, h1, fun mu' hle R' K' => ?_⟩
              have hle := hle rfl
              simp only [opU, hop, he, hl, hc, hk, and_self, if_true, hm, cond_true]
              rw [h3 mu' hle]
      · cases h
    · cases h
  case slice t x lo hi mx =>
    cases mx with
    | some m => simp at h
    | none =>
      simp only at h
      cases ht : C.ty t with
      | none => simp [ht] at h
      | some ti =>
        cases hx : evalTV env x <;> simp only [ht, hx] at h <;> try (cases h; done)
        case c cv =>
          cases hk : ti.k <;> simp only [hk] at h <;> try (cases h; done)
          case str =>
            cases cv <;> simp only at h <;> try (cases h; done)
            case str b =>
              obtain ⟨tv, ms, h1, h2⟩ := sliceU_out h
              exact ⟨_, _, h1, fun mu' hl R' K' => by simp only [opU, hop, ht, hx, hk]; exact h2 mu' (hl rfl) R' K'⟩
          case slice e0 =>
            cases he : elemTI C t with
            | none => cases cv <;> simp [he] at h
            | some p =>
              obtain ⟨e, te⟩ := p
              have hns : ∀ b, cv ≠ .str b := by
                rintro b rfl
                simp at h
              have ee : ∀ (mu : Mu) (R : Type) (K : TV → List (Nat × Blk) → Option R), (match (generalizing := false) TK.slice e0, cv with
                | .str, .str s => sliceU mu (.str s) (lo.map (evalTV env)) (hi.map (evalTV env)) K
                | .slice _, v => match (generalizing := false) elemTI C t, v with
                  | _, .str _ => none
                  | some (e, _), v => bif esOk mu (C.es e).len v then sliceU mu v (lo.map (evalTV env)) (hi.map (evalTV env)) K else none
                  | none, _ => none
                | _, _ => none) = bif esOk mu (C.es e).len cv then sliceU mu cv (lo.map (evalTV env)) (hi.map (evalTV env)) K else none := by
                intro mu R K
                rw [he]
                cases cv <;> first | rfl | exact absurd rfl (hns _)
              have h := (ee mu R K).symm.trans h
              cases hes : esOk mu (C.es e).len cv with
              | false => simp [hes] at h
              | true =>
                simp only [hes, cond_true] at h
                obtain ⟨tv, ms, h1, h2⟩ := sliceU_out h
                refine ⟨_, _, h1, fun mu' hl R' K' => ?_⟩
                simp only [opU, hop, ht, hx, hk]
                refine (ee mu' R' K').trans ?_
                rw [esOk_le (hl rfl) hes]
                exact h2 mu' (hl rfl) R' K'
  case fieldAddr t x f =>
    cases hf : structFld C t f with
    | none => simp [hf] at h
    | some p =>
      obtain ⟨off, n⟩ := p
      cases hx : evalTV env x <;> simp only [hf, hx] at h <;> try (cases h; done)
      case c cv =>
        cases cv <;> simp only at h <;> try (cases h; done)
        case ptr id o' => exact ⟨_, _, h, fun mu' _ R' K' => by simp only [opU, hop, hf, hx]⟩
        case eptr id sz i o' => exact ⟨_, _, h, fun mu' _ R' K' => by simp only [opU, hop, hf, hx]⟩
        case rptr es z o' => exact ⟨_, _, h, fun mu' _ R' K' => by simp only [opU, hop, hf, hx]⟩
  case field t x f =>
    split at h
    · rename_i off n vs ag hf hx hga
      cases ag with
      | true => exact ⟨_, _, h, fun mu' _ R' K' => by simp only [opU, hop, hf, hx, hga]; rfl⟩
      | false =>
        simp only [cond_false] at h
        split at h
        · rename_i v hv; exact ⟨_, _, h, fun mu' _ R' K' => by simp only [opU, hop, hf, hx, hga, cond_false, hv]⟩
        · cases h
    · cases h
  case indexAddr t x z =>
    split at h
    · rename_i e te cv k n he hx hz
      cases hes : esOk mu (C.es e).len cv with
      | false => simp [hes] at h
      | true =>
        simp only [hes, cond_true] at h
        obtain ⟨p, h1, h2⟩ := idxU_out h
        refine ⟨_, _, h1, fun mu' hl R' K' => ?_⟩
        have hl := hl rfl
        simp only [opU, hop, he, hx, hz, esOk_le hl hes, cond_true]
        exact h2 mu' hl R' _
    · cases h
  case index t x z =>
    split at h
    · rename_i ti b k n ht hx hz
      cases hk : ti.k <;> simp only [hk] at h <;> try (cases h; done)
      case str =>
        cases hu : getI b.data.toList n with
        | none => simp [hu] at h
        | some u => simp only [hu, Option.bind_some] at h; exact ⟨_, _, h, fun mu' _ R' K' => by simp only [opU, hop, ht, hx, hz, hk, hu, Option.bind_some]⟩
    · cases h
  case extract x i =>
    split at h
    · rename_i vs hx
      split at h
      · rename_i e he; exact ⟨_, _, h, fun mu' _ R' K' => by simp only [opU, hop, hx, he]⟩
      · cases h
    · cases h
  case call c =>
    cases hc : c.callee with
    | value f =>
      simp only [hc] at h
      cases hf : evalTV env f <;> simp only [hf] at h <;> try (cases h; done)
      case c cv =>
        cases cv <;> simp only at h <;> try (cases h; done)
        case fnp fn =>
          obtain ⟨v, ms, h1, h2⟩ := callE_out h
          exact ⟨v, ms, h1, fun mu' hl R' K' => by simp only [opU, hop, hc, hf]; exact h2 mu' (hl rfl) R' K'⟩
        case fnd sh as rs k =>
          obtain ⟨v, ms, h1, h2⟩ := fndU_out h
          exact ⟨v, ms, h1, fun mu' hl R' K' => by simp only [opU, hop, hc, hf]; exact h2 mu' (hl rfl) R' K'⟩
    | invoke _ _ => simp [hc] at h
    | builtin b =>
      simp only [hc] at h
      obtain ⟨v, ms, h1, h2⟩ := builtinU_out h
      exact ⟨v, ms, h1, fun mu' hl R' K' => by simp only [opU, hop, hc]; exact h2 mu' (hl rfl) R' K'⟩

end
end Go.Tm

/- The pure machine, 40: regions that draw their order: which operations come before which. -/
namespace Go.Tm
open Go

theorem bitOf_eq (m i : Nat) : bitOf m i = m.testBit i := by
  unfold bitOf Nat.testBit
  show Nat.beq ((m >>> i) &&& 1) 1 = ((1 &&& (m >>> i)) != 0)
  rw [Nat.and_comm (m >>> i) 1, Nat.and_comm 1, Nat.and_one_is_mod]
  rcases Nat.mod_two_eq_zero_or_one (m >>> i) with h | h <;> rw [h] <;> rfl

/-- The operations that come before each. -/
def preAt (ops : Array Oper) (i : Nat) : Nat := (preL ops.toList []).getD i 0

def preF (acc : List Nat) (o : Oper) : Nat := o.after.toList.foldl (fun s e => bif Region.binds .any e then Nat.lor (Nat.lor s (Nat.pow 2 e.on)) (acc.getD e.on 0) else s) 0

theorem preL_cons (o : Oper) (r : List Oper) (acc : List Nat) : preL (o :: r) acc = preL r (acc ++ [preF acc o]) := rfl

theorem preL_len : ∀ (l : List Oper) (acc : List Nat), (preL l acc).length = acc.length + l.length
  | [], acc => rfl
  | o :: r, acc => by rw [preL_cons, preL_len r]; simp; omega

theorem preL_acc : ∀ (l : List Oper) (acc : List Nat) (k : Nat), k < acc.length → (preL l acc).getD k 0 = acc.getD k 0
  | [], acc, k, h => rfl
  | o :: r, acc, k, h => by
    rw [preL_cons, preL_acc r _ k (by simp; omega)]
    simp [List.getD, List.getElem?_append_left h]

theorem preL_take : ∀ (l : List Oper) (acc : List Nat), (preL l acc).take acc.length = acc
  | [], acc => by show acc.take acc.length = acc; simp
  | o :: r, acc => by
    rw [preL_cons]
    have := congrArg (List.take acc.length) (preL_take r (acc ++ [preF acc o]))
    simpa [List.take_take] using this

theorem preL_get : ∀ (l : List Oper) (acc : List Nat) (j : Nat) (o : Oper), l[j]? = some o → (preL l acc).getD (acc.length + j) 0 = preF ((preL l acc).take (acc.length + j)) o
  | [], acc, j, o, h => by simp at h
  | x :: r, acc, 0, o, h => by
    simp at h
    subst h
    rw [preL_cons, Nat.add_zero, preL_acc r _ acc.length (by simp)]
    have h1 := congrArg (List.take acc.length) (preL_take r (acc ++ [preF acc x]))
    simp only [List.take_take, List.length_append, List.length_singleton, Nat.min_eq_left (Nat.le_succ _), List.take_left'] at h1
    have h2 : List.take acc.length (preL r (acc ++ [preF acc x])) = acc := by simpa using h1
    rw [h2]
    simp [List.getD]
  | x :: r, acc, j + 1, o, h => by
    rw [preL_cons]
    have := preL_get r (acc ++ [preF acc x]) j o (by simpa using h)
    rwa [show (acc ++ [preF acc x]).length + j = acc.length + (j + 1) by simp; omega] at this

theorem preAt_eq {ops : Array Oper} {i : Nat} {o : Oper} (h : ops[i]? = some o) : preAt ops i = preF ((preL ops.toList []).take i) o := by
  have := preL_get ops.toList [] i o (by simpa using h)
  simpa [preAt] using this

theorem getD_take {l : List Nat} {i k : Nat} : (l.take i).getD k 0 = if k < i then l.getD k 0 else 0 := by
  simp only [List.getD, List.getElem?_take]
  split <;> rfl

theorem preF_bit {acc : List Nat} {o : Oper} {k : Nat} : bitOf (preF acc o) k = true ↔ ∃ e ∈ o.after.toList, Region.binds .any e = true ∧ (e.on = k ∨ bitOf (acc.getD e.on 0) k = true) := by
  have key : ∀ (l : List Edge) (s : Nat), bitOf (l.foldl (fun s e => bif Region.binds .any e then Nat.lor (Nat.lor s (Nat.pow 2 e.on)) (acc.getD e.on 0) else s) s) k = true ↔
      bitOf s k = true ∨ ∃ e ∈ l, Region.binds .any e = true ∧ (e.on = k ∨ bitOf (acc.getD e.on 0) k = true) := by
    intro l
    induction l with
    | nil => intro s; simp
    | cons e l ih =>
      intro s
      rw [List.foldl_cons, ih]
      cases hb : Region.binds .any e with
      | false =>
        simp only [cond_false, List.mem_cons, exists_eq_or_imp, hb, Bool.false_eq_true, false_and, false_or]
      | true =>
        have h1 : bitOf (Nat.lor (Nat.lor s (Nat.pow 2 e.on)) (acc.getD e.on 0)) k = (bitOf s k || decide (e.on = k) || bitOf (acc.getD e.on 0) k) := by
          rw [bitOf_eq, bitOf_eq, bitOf_eq]
          show ((s ||| 2 ^ e.on) ||| acc.getD e.on 0).testBit k = _
          rw [Nat.testBit_or, Nat.testBit_or, Nat.testBit_two_pow]
        simp only [cond_true, h1, Bool.or_eq_true, decide_eq_true_eq, List.mem_cons, exists_eq_or_imp, hb, true_and]
        constructor
        · rintro (((h | h) | h) | h)
          · exact .inl h
          · exact .inr (.inl (.inl h))
          · exact .inr (.inl (.inr h))
          · exact .inr (.inr h)
        · rintro (h | (h | h) | h)
          · exact .inl (.inl (.inl h))
          · exact .inl (.inl (.inr h))
          · exact .inl (.inr h)
          · exact .inr h
  have h0 : bitOf 0 k = false := by rw [bitOf_eq]; simp
  unfold preF
  rw [key o.after.toList 0, h0]
  simp

/-- What the checks of a drawn region say. -/
structure Drw (C : Ctx) (ops : Array Oper) : Prop where
  det : ∀ (i : Nat) (o : Oper), ops[i]? = some o → opDet C o.op = true
  low : ∀ (i : Nat) (o : Oper) (k : Nat), ops[i]? = some o → bitOf (preAt ops i) k = true → k < i
  row : ∀ (i j : Nat) (oi oj : Oper), ops[i]? = some oi → ops[j]? = some oj → i < j → bitOf (preAt ops j) i = true ∨ oi.apart ops oj = true

theorem drawRow_ok {all : Array Oper} {o : Oper} {m : Nat} : ∀ (l : List Oper) (i j : Nat), drawRow all o m l i j = true → ∀ k x, l[k]? = some x → i + k < j → bitOf m (i + k) = true ∨ x.apart all o = true
  | [], i, j, h, k, x, hx, _ => by simp at hx
  | y :: r, i, j, h, k, x, hx, hlt => by
    simp only [drawRow, Bool.and_eq_true] at h
    cases k with
    | zero =>
      simp at hx; subst hx
      have : Nat.blt i j = true := by rw [Nat.blt_eq]; omega
      rw [this] at h
      simpa using h.1
    | succ k =>
      have := drawRow_ok r (i + 1) j h.2 k x (by simpa using hx) (by omega)
      rwa [show i + 1 + k = i + (k + 1) by omega] at this

theorem drawOk_ok {C : Ctx} {all : Array Oper} {ops : List Oper} : ∀ (l : List Oper) (pre : List Nat) (j : Nat), drawOk C all ops l pre j = true → ∀ k o, l[k]? = some o →
    opDet C o.op = true ∧ pre.getD k 0 < 2 ^ (j + k) ∧ drawRow all o (pre.getD k 0) ops 0 (j + k) = true
  | [], pre, j, h, k, o, hk => by simp at hk
  | x :: r, pre, j, h, k, o, hk => by
    simp only [drawOk, Bool.and_eq_true] at h
    have hd : pre.headD 0 = pre.getD 0 0 := by cases pre <;> rfl
    cases k with
    | zero =>
      simp at hk; subst hk
      rw [hd] at h
      refine ⟨h.1.1.1, ?_, h.1.2⟩
      have := h.1.1.2
      rw [Nat.blt_eq] at this
      exact this
    | succ k =>
      have := drawOk_ok r pre.tail (j + 1) h.2 k o (by simpa using hk)
      have ht : pre.tail.getD k 0 = pre.getD (k + 1) 0 := by cases pre <;> simp [List.getD]
      rwa [ht, show j + 1 + k = j + (k + 1) by omega] at this

theorem Drw.of {C : Ctx} {ops : Array Oper} (h : drawOk C ops ops.toList ops.toList (preL ops.toList []) 0 = true) : Drw C ops where
  det i o hi := (drawOk_ok _ _ _ h i o (by simpa using hi)).1
  low i o k hi hk := by
    have := (drawOk_ok _ _ _ h i o (by simpa using hi)).2.1
    rw [Nat.zero_add] at this
    rcases Nat.lt_or_ge k i with h' | h'
    · exact h'
    · exfalso
      rw [bitOf_eq] at hk
      have h2 : preAt ops i < 2 ^ k := Nat.lt_of_lt_of_le this (Nat.pow_le_pow_right (by omega) h')
      rw [Nat.testBit_lt_two_pow h2] at hk
      cases hk
  row i j oi oj hi hj hlt := by
    have := (drawOk_ok _ _ _ h j oj (by simpa using hj)).2.2
    rw [Nat.zero_add] at this
    have := drawRow_ok _ _ _ this i oi (by simpa using hi) (by omega)
    rw [Nat.zero_add] at this
    exact this

theorem pre_step {ops : Array Oper} {i k : Nat} {o : Oper} (hi : ops[i]? = some o) : bitOf (preAt ops i) k = true ↔ ∃ e ∈ o.after.toList, Region.binds .any e = true ∧ (e.on = k ∨ (e.on < i ∧ bitOf (preAt ops e.on) k = true)) := by
  rw [preAt_eq hi, preF_bit]
  constructor
  · rintro ⟨e, he, hb, h⟩
    refine ⟨e, he, hb, h.imp id fun h => ?_⟩
    rw [getD_take] at h
    split at h
    · exact ⟨‹_›, h⟩
    · rw [bitOf_eq] at h; simp at h
  · rintro ⟨e, he, hb, h⟩
    refine ⟨e, he, hb, h.imp id fun h => ?_⟩
    rw [getD_take, if_pos h.1]
    exact h.2

theorem pre_trans {C : Ctx} {ops : Array Oper} (D : Drw C ops) : ∀ (i k c : Nat), i < ops.size → bitOf (preAt ops i) k = true → bitOf (preAt ops k) c = true → bitOf (preAt ops i) c = true := by
  intro i
  induction i using Nat.strongRecOn with
  | _ i ih =>
    intro k c hlt h1 h2
    have hi : ops[i]? = some ops[i] := Array.getElem?_eq_getElem hlt
    obtain ⟨e, he, hb, h⟩ := (pre_step hi).1 h1
    have hon : e.on < i := D.low i _ e.on hi ((pre_step hi).2 ⟨e, he, hb, .inl rfl⟩)
    refine (pre_step hi).2 ⟨e, he, hb, .inr ⟨hon, ?_⟩⟩
    rcases h with h | ⟨_, h⟩
    · rw [h]; exact h2
    · exact ih e.on hon k c (by omega) h h2
end Go.Tm

/- The pure machine, 41: regions that draw their order: what is known in whatever order. -/
namespace Go.Tm
open Go

/-- What an operation came to. -/
structure Ent where
  v : TV
  ms : List (Nat × Blk)

def dstAt (ops : Array Oper) (k : Nat) : Option Nat := (ops[k]?).bind (·.dst)

def updD (env : Nat → TV) (d : Option Nat) (v : TV) : Nat → TV := match d with | some d => upd env d v | none => env

/-- What is known behind a set of operations; the newest first. -/
def envP (ops : Array Oper) (p : Nat → Bool) (e0 : Nat → TV) : List Ent → Nat → TV
  | [] => e0
  | e :: r => bif p r.length then updD (envP ops p e0 r) (dstAt ops r.length) e.v else envP ops p e0 r
def muP (p : Nat → Bool) (m0 : Mu) : List Ent → Mu
  | [] => m0
  | e :: r => bif p r.length then updL (muP p m0 r) e.ms else muP p m0 r

def histOf : List Ent → List (Nat × List (Nat × Blk))
  | [] => []
  | e :: r => (r.length, e.ms) :: histOf r

theorem muPre_eq (m0 : Mu) (m : Nat) : ∀ (H : List Ent), muPre m0 m (histOf H) = muP (bitOf m) m0 H
  | [] => rfl
  | e :: r => by simp only [histOf, muPre, muP, muPre_eq m0 m r]

/-- The k-th entry (they lie newest first). -/
def entAt (H : List Ent) (k : Nat) : Option Ent := H.reverse[k]?

theorem entAt_cons {e : Ent} {r : List Ent} {k : Nat} : entAt (e :: r) k = if k = r.length then some e else entAt r k := by
  unfold entAt
  rw [List.reverse_cons, List.getElem?_append]
  by_cases h : k < r.length
  · simp [h]; omega
  · by_cases e : k = r.length
    · subst e; simp
    · simp [h, e]; omega

theorem entAt_lt {H : List Ent} {k : Nat} {e : Ent} (h : entAt H k = some e) : k < H.length := by
  unfold entAt at h
  rcases Nat.lt_or_ge k H.length with h' | h'
  · exact h'
  · rw [List.getElem?_eq_none (by simpa using h')] at h; cases h

theorem envP_congr {ops : Array Oper} {p q : Nat → Bool} {e0 : Nat → TV} {t : Nat} : ∀ {H : List Ent}, (∀ k, k < H.length → dstAt ops k = some t → p k = q k) → envP ops p e0 H t = envP ops q e0 H t
  | [], _ => rfl
  | e :: r, h => by
    have ih := envP_congr (e0 := e0) (H := r) fun k hk => h k (by simp; omega)
    simp only [envP]
    cases hd : dstAt ops r.length with
    | none => simp only [updD]; cases p r.length <;> cases q r.length <;> exact ih
    | some d =>
      by_cases e' : d = t
      · subst e'
        have := h r.length (by simp) hd
        rw [this]
        cases q r.length
        · exact ih
        · show upd _ d e.v d = upd _ d e.v d
          rw [upd_same, upd_same]
      · have hne : t ≠ d := fun x => e' x.symm
        simp only [updD]
        have h1 : ∀ (f : Nat → TV) (b : Bool), (bif b then upd f d e.v else f) t = f t := fun f b => by cases b; rfl; exact upd_ne _ _ hne
        rw [h1, h1]; exact ih

theorem muP_congr {p q : Nat → Bool} {m0 : Mu} {x : Nat} : ∀ {H : List Ent}, (∀ k e b, entAt H k = some e → (x, b) ∈ e.ms → p k = q k) → muP p m0 H x = muP q m0 H x
  | [], _ => rfl
  | e :: r, h => by
    have ih := muP_congr (m0 := m0) (H := r) fun k e' b hk => h k e' b (by rw [entAt_cons, if_neg (by have := entAt_lt hk; omega)]; exact hk)
    simp only [muP]
    by_cases hx : ∃ b, (x, b) ∈ e.ms
    · obtain ⟨b, hb⟩ := hx
      have := h r.length e b (by rw [entAt_cons, if_pos rfl]) hb
      rw [this]
      cases q r.length
      · exact ih
      · show updL _ e.ms x = updL _ e.ms x
        have key : ∀ (l : List (Nat × Blk)) (m m' : Mu), m x = m' x → updL m l x = updL m' l x := by
          intro l
          induction l with
          | nil => intro m m' h; exact h
          | cons a l ih2 =>
            intro m m' h
            obtain ⟨k, b⟩ := a
            simp only [updL]
            refine ih2 _ _ ?_
            unfold upd
            cases Nat.beq x k
            · exact h
            · rfl
        exact key _ _ _ ih
    · have hn : ∀ b, (x, b) ∉ e.ms := fun b hb => hx ⟨b, hb⟩
      have h1 : ∀ (m : Mu) (b : Bool), (bif b then updL m e.ms else m) x = m x := fun m b => by cases b; rfl; exact updL_none hn
      rw [h1, h1]; exact ih

theorem muP_some {p : Nat → Bool} {m0 : Mu} {x : Nat} : ∀ {H : List Ent}, muP p m0 H x ≠ none → m0 x = none → ∃ k e b, entAt H k = some e ∧ (x, b) ∈ e.ms ∧ p k = true
  | [], h, h0 => absurd h0 h
  | e :: r, h, h0 => by
    simp only [muP] at h
    cases hp : p r.length with
    | false =>
      rw [hp] at h
      obtain ⟨k, e', b, h1, h2, h3⟩ := muP_some (H := r) h h0
      exact ⟨k, e', b, by rw [entAt_cons, if_neg (by have := entAt_lt h1; omega)]; exact h1, h2, h3⟩
    | true =>
      rw [hp] at h
      by_cases hx : ∃ b, (x, b) ∈ e.ms
      · obtain ⟨b, hb⟩ := hx
        exact ⟨r.length, e, b, by rw [entAt_cons, if_pos rfl], hb, hp⟩
      · simp only [cond_true] at h
        rw [updL_none fun b hb => hx ⟨b, hb⟩] at h
        obtain ⟨k, e', b, h1, h2, h3⟩ := muP_some (H := r) h h0
        exact ⟨k, e', b, by rw [entAt_cons, if_neg (by have := entAt_lt h1; omega)]; exact h1, h2, h3⟩

def addP (p : Nat → Bool) (i : Nat) : Nat → Bool := fun k => p k || Nat.beq k i

theorem addP_ne {p : Nat → Bool} {i k : Nat} (h : k ≠ i) : addP p i k = p k := by
  have : Nat.beq k i = false := Bool.eq_false_iff.2 fun e => h (Nat.eq_of_beq_eq_true e)
  simp [addP, this]
theorem addP_self {p : Nat → Bool} {i : Nat} : addP p i i = true := by simp [addP, Nat.beq_refl]

/-- One more operation. -/
theorem envP_add {ops : Array Oper} {p : Nat → Bool} {e0 : Nat → TV} {i : Nat} {ei : Ent} (hp : p i = false) : ∀ {H : List Ent}, entAt H i = some ei → (∀ k d, i < k → p k = true → dstAt ops i = some d → dstAt ops k ≠ some d) →
    envP ops (addP p i) e0 H = updD (envP ops p e0 H) (dstAt ops i) ei.v
  | [], h, _ => by simp [entAt] at h
  | e :: r, h, hd => by
    rw [entAt_cons] at h
    simp only [envP]
    by_cases hi : i = r.length
    · rw [if_pos hi] at h
      cases h
      subst hi
      rw [addP_self, hp]
      simp only [cond_true, cond_false]
      congr 1
      funext t
      exact envP_congr fun k hk _ => addP_ne (by omega)
    · rw [if_neg hi] at h
      have hlt := entAt_lt h
      rw [envP_add hp h hd, addP_ne (by omega)]
      cases hk : p r.length with
      | false => rfl
      | true =>
        simp only [cond_true]
        cases hdi : dstAt ops i with
        | none => rfl
        | some d =>
          have hne := hd r.length d hlt hk hdi
          cases hdk : dstAt ops r.length with
          | none => rfl
          | some d' =>
            simp only [updD]
            funext t
            by_cases h1 : t = d'
            · subst h1
              have : t ≠ d := fun x => hne (by rw [hdk, x])
              rw [upd_same, upd_ne _ _ this, upd_same]
            · by_cases h2 : t = d
              · subst h2; rw [upd_ne _ _ h1, upd_same, upd_same]
              · rw [upd_ne _ _ h1, upd_ne _ _ h2, upd_ne _ _ h2, upd_ne _ _ h1]

theorem updL_at {x : Nat} : ∀ (l : List (Nat × Blk)) {m m' : Mu}, (∃ b, (x, b) ∈ l) → updL m l x = updL m' l x
  | [], _, _, ⟨_, h⟩ => by cases h
  | (k, b) :: r, m, m', h => by
    simp only [updL]
    by_cases hr : ∃ b, (x, b) ∈ r
    · exact updL_at r hr
    · have hn : ∀ b, (x, b) ∉ r := fun b hb => hr ⟨b, hb⟩
      rw [updL_none hn, updL_none hn]
      obtain ⟨b', hb'⟩ := h
      rcases List.mem_cons.1 hb' with h | h
      · cases h; rw [upd_same, upd_same]
      · exact absurd h (hn _)

theorem muP_add {p : Nat → Bool} {m0 : Mu} {i : Nat} {ei : Ent} (hp : p i = false) : ∀ {H : List Ent}, entAt H i = some ei → (∀ k e x b b', i < k → p k = true → entAt H k = some e → (x, b) ∈ ei.ms → (x, b') ∉ e.ms) →
    muP (addP p i) m0 H = updL (muP p m0 H) ei.ms
  | [], h, _ => by simp [entAt] at h
  | e :: r, h, hd => by
    have h' := h
    rw [entAt_cons] at h
    simp only [muP]
    by_cases hi : i = r.length
    · rw [if_pos hi] at h
      cases h
      subst hi
      rw [addP_self, hp]
      simp only [cond_true, cond_false]
      congr 1
      funext t
      exact muP_congr fun k e' b hk _ => addP_ne (by have := entAt_lt hk; omega)
    · rw [if_neg hi] at h
      have hlt := entAt_lt h
      rw [muP_add hp h fun k e' x b b' h1 h2 h3 => hd k e' x b b' h1 h2 (by rw [entAt_cons, if_neg (by have := entAt_lt h3; omega)]; exact h3), addP_ne (by omega)]
      cases hk : p r.length with
      | false => rfl
      | true =>
        simp only [cond_true]
        funext x
        by_cases h1 : ∃ b, (x, b) ∈ ei.ms
        · obtain ⟨b, hb⟩ := h1
          have h2 : ∀ b', (x, b') ∉ e.ms := fun b' => hd r.length e x b b' hlt hk (by rw [entAt_cons, if_pos rfl]) hb
          rw [updL_none h2]
          exact updL_at _ ⟨b, hb⟩
        · have h2 : ∀ b, (x, b) ∉ ei.ms := fun b hb => h1 ⟨b, hb⟩
          rw [updL_none h2]
          by_cases h3 : ∃ b, (x, b) ∈ e.ms
          · exact updL_at _ h3
          · have h4 : ∀ b, (x, b) ∉ e.ms := fun b hb => h3 ⟨b, hb⟩
            rw [updL_none h4, updL_none h4, updL_none h2]

/-- An operation's own row: what it wrote lies in its own ids, or nobody else looks at it. -/
theorem loneW_ok {C : Ctx} {m i : Nat} {q : Nat → Bool} : ∀ {ops : List Oper} {pre : List Nat} {j : Nat}, loneW C m i q ops pre j = true → ∀ k o, ops[k]? = some o →
    i = j + k ∨ bitOf m (j + k) = true ∨ bitOf (pre.getD k 0) i = true ∨ opReads C o.op = false ∨ q (pre.getD k 0) = false
  | [], pre, j, h, k, o, hk => by simp at hk
  | x :: r, pre, j, h, k, o, hk => by
    simp only [loneW, Bool.and_eq_true, Bool.or_eq_true, Bool.not_eq_true'] at h
    have hd : pre.headD 0 = pre.getD 0 0 := by cases pre <;> rfl
    cases k with
    | zero =>
      simp at hk; subst hk
      rw [hd] at h
      rcases h.1 with (((h | h) | h) | h) | h
      · exact .inl (Nat.eq_of_beq_eq_true h)
      · exact .inr (.inl h)
      · exact .inr (.inr (.inl h))
      · exact .inr (.inr (.inr (.inl h)))
      · exact .inr (.inr (.inr (.inr h)))
    | succ k =>
      have := loneW_ok h.2 k o (by simpa using hk)
      have ht : pre.tail.getD k 0 = pre.getD (k + 1) 0 := by cases pre <;> simp [List.getD]
      rw [ht, show j + 1 + k = j + (k + 1) by omega] at this
      exact this

/-- A write of the i-th operation to x, against another one. -/
theorem msOk_ok {C : Ctx} {ops : Array Oper} {nx i : Nat} {ms : List (Nat × Blk)} (h : msOk C ops.toList (preL ops.toList []) nx (preAt ops i) i ms = true) {x : Nat} {b : Blk} (hx : (x, b) ∈ ms) :
    x / 2048 = nx + i ∨ (x / 2048 < nx ∧ ∀ (k : Nat) (o : Oper), ops[k]? = some o → i = k ∨ bitOf (preAt ops i) k = true ∨ bitOf (preAt ops k) i = true ∨ opReads C o.op = false) ∨
    (nx ≤ x / 2048 ∧ bitOf (preAt ops i) (x / 2048 - nx) = true ∧ ∀ (k : Nat) (o : Oper), ops[k]? = some o → i = k ∨ bitOf (preAt ops i) k = true ∨ bitOf (preAt ops k) i = true ∨ opReads C o.op = false ∨ bitOf (preAt ops k) (x / 2048 - nx) = false) := by
  have := List.all_eq_true.1 h _ hx
  simp only [Bool.or_eq_true] at this
  have hdiv : Nat.div x 2048 = x / 2048 := rfl
  rw [hdiv] at this
  rcases this with h1 | h1
  · exact .inl (Nat.eq_of_beq_eq_true h1)
  · cases hlt : Nat.blt (x / 2048) nx with
    | true =>
      rw [hlt] at h1
      rw [Nat.blt_eq] at hlt
      refine .inr (.inl ⟨hlt, fun k o hk => ?_⟩)
      have := loneW_ok h1 k o (by simpa using hk)
      rw [Nat.zero_add] at this
      rcases this with h | h | h | h | h
      · exact .inl h
      · exact .inr (.inl h)
      · exact .inr (.inr (.inl h))
      · exact .inr (.inr (.inr h))
      · cases h
    | false =>
      rw [hlt] at h1
      simp only [cond_false, Bool.and_eq_true] at h1
      have hge : nx ≤ x / 2048 := by
        rcases Nat.lt_or_ge (x / 2048) nx with h | h
        · rw [← Nat.blt_eq] at h; rw [h] at hlt; cases hlt
        · exact h
      refine .inr (.inr ⟨hge, h1.1, fun k o hk => ?_⟩)
      have := loneW_ok h1.2 k o (by simpa using hk)
      rw [Nat.zero_add] at this
      exact this

/-- What stands of an operation in the text's order. -/
structure EntOk (C : Ctx) (ops : Array Oper) (rid nx : Nat) (e0 : Nat → TV) (m0 : Mu) (i : Nat) (o : Oper) (r : List Ent) (e : Ent) : Prop where
  ms : msOk C ops.toList (preL ops.toList []) nx (preAt ops i) i e.ms = true
  own : opReads C o.op = false → ∀ x ∈ e.ms, x.1 / 2048 = nx + i

variable {C : Ctx} {ops : Array Oper} {rid nx : Nat} {e0 : Nat → TV} {m0 : Mu} {H : List Ent} {p : Nat → Bool} {i : Nat} {oi : Oper}

/-- A set that holds what comes before each of its own. -/
def Closed (ops : Array Oper) (p : Nat → Bool) : Prop := ∀ i k, p i = true → i < ops.size → bitOf (preAt ops i) k = true → p k = true

structure HOk (C : Ctx) (ops : Array Oper) (nx : Nat) (m0 : Mu) (H : List Ent) : Prop where
  ms : ∀ (k : Nat) (e : Ent), entAt H k = some e → msOk C ops.toList (preL ops.toList []) nx (preAt ops k) k e.ms = true
  own : ∀ (k : Nat) (e : Ent) (o : Oper), entAt H k = some e → ops[k]? = some o → opReads C o.op = false → ∀ x ∈ e.ms, x.1 / 2048 = nx + k
  le : H.length ≤ ops.size
  fresh : ∀ id, nx * 2048 ≤ id → m0 id = none

theorem notin {C : Ctx} {ops : Array Oper} (D : Drw C ops) (hC : Closed ops p) (hi : ops[i]? = some oi) (hp : p i = false) {k : Nat} (hk : p k = true) (hlt : k < ops.size) : bitOf (preAt ops k) i = false := by
  cases h : bitOf (preAt ops k) i with
  | false => rfl
  | true => have := hC k i hk hlt h; rw [hp] at this; cases this

/-- Who made an id of the region's own has written it whenever it is there. -/
theorem maker (D : Drw C ops) (hH : HOk C ops nx m0 H) {m k : Nat} {e : Ent} {x : Nat} {b : Blk} (hk : entAt H k = some e) (hx : (x, b) ∈ e.ms) (hge : nx ≤ x / 2048) (hm : k = m ∨ (bitOf (preAt ops m) k = true ∧ m < ops.size)) :
    (x / 2048 - nx = k) ∨ bitOf (preAt ops k) (x / 2048 - nx) = true := by
  rcases msOk_ok (hH.ms k e hk) hx with h | ⟨h, _⟩ | ⟨_, h, _⟩
  · exact .inl (by omega)
  · omega
  · exact .inr h

/-- What the operation looks at is the same whatever has been done besides. -/
theorem le_any (D : Drw C ops) (hH : HOk C ops nx m0 H) (hC : Closed ops p) (hi : ops[i]? = some oi) (hp : p i = false) (hpre : ∀ k, bitOf (preAt ops i) k = true → p k = true) (hr : opReads C oi.op = true) :
    Le (muP (bitOf (preAt ops i)) m0 H) (muP p m0 H) := by
  intro x b hb
  have hisz : i < ops.size := (Array.getElem?_eq_some_iff.1 hi).1
  rw [← hb]
  refine muP_congr fun k e b' hk hx => ?_
  cases hpk : p k with
  | false =>
    cases h : bitOf (preAt ops i) k with
    | false => rfl
    | true => rw [hpre k h] at hpk; cases hpk
  | true =>
    cases hbk : bitOf (preAt ops i) k with
    | true => rfl
    | false =>
      exfalso
      have hklt : k < ops.size := Nat.lt_of_lt_of_le (entAt_lt hk) hH.le
      have hne : k ≠ i := fun e => by rw [e, hp] at hpk; cases hpk
      have hki := notin D hC hi hp hpk hklt
      -- nothing newer than the region is there for the one that looks, if its maker is not ahead
      have hnone : nx ≤ x / 2048 → bitOf (preAt ops i) (x / 2048 - nx) = false → False := by
        intro hge hc
        have h0 : m0 x = none := hH.fresh x (by omega)
        obtain ⟨k', e', b2, h1, h2, h3⟩ := muP_some (p := bitOf (preAt ops i)) (H := H) (by rw [hb]; simp) h0
        rcases msOk_ok (hH.ms k' e' h1) h2 with h | ⟨h, _⟩ | ⟨_, h, _⟩
        · rw [show x / 2048 - nx = k' by omega, h3] at hc; cases hc
        · omega
        · rw [pre_trans D i k' _ hisz h3 h] at hc; cases hc
      rcases msOk_ok (hH.ms k e hk) hx with h | ⟨h, h2⟩ | ⟨hge, _, h2⟩
      · exact hnone (by omega) (by rw [show x / 2048 - nx = k by omega]; exact hbk)
      · rcases h2 i oi hi with h | h | h | h
        · exact hne h
        · rw [hki] at h; cases h
        · rw [hbk] at h; cases h
        · rw [hr] at h; cases h
      · rcases h2 i oi hi with h | h | h | h | h
        · exact hne h
        · rw [hki] at h; cases h
        · rw [hbk] at h; cases h
        · rw [hr] at h; cases h
        · exact hnone hge h

theorem fresh_any (D : Drw C ops) (hH : HOk C ops nx m0 H) (hC : Closed ops p) (hi : ops[i]? = some oi) (hp : p i = false) {x : Nat} (hx : x / 2048 = nx + i) : muP p m0 H x = none := by
  cases h : muP p m0 H x with
  | none => rfl
  | some b =>
    exfalso
    obtain ⟨k, e, b', h1, h2, h3⟩ := muP_some (p := p) (H := H) (by rw [h]; simp) (hH.fresh x (by omega))
    have hklt : k < ops.size := Nat.lt_of_lt_of_le (entAt_lt h1) hH.le
    have hki := notin D hC hi hp h3 hklt
    rcases msOk_ok (hH.ms k e h1) h2 with h | ⟨h, _⟩ | ⟨_, h, _⟩
    · have : k = i := by omega
      rw [this, hp] at h3; cases h3
    · omega
    · rw [show x / 2048 - nx = i by omega, hki] at h; cases h

theorem disj_any (D : Drw C ops) (hH : HOk C ops nx m0 H) (hC : Closed ops p) (hi : ops[i]? = some oi) (hp : p i = false) {ei : Ent} (hei : entAt H i = some ei) :
    ∀ k e x b b', i < k → p k = true → entAt H k = some e → (x, b) ∈ ei.ms → (x, b') ∉ e.ms := by
  intro k e x b b' hik hpk hk hx hx'
  have hklt : k < ops.size := Nat.lt_of_lt_of_le (entAt_lt hk) hH.le
  have hko : ops[k]? = some ops[k] := Array.getElem?_eq_getElem hklt
  have hki := notin D hC hi hp hpk hklt
  have hik' : bitOf (preAt ops i) k = false := by
    cases h : bitOf (preAt ops i) k with
    | false => rfl
    | true => have := D.low i oi k hi h; omega
  rcases msOk_ok (hH.ms i ei hei) hx with h | ⟨h, h2⟩ | ⟨hge, hc, h2⟩
  · rcases msOk_ok (hH.ms k e hk) hx' with h' | ⟨h', _⟩ | ⟨_, h', _⟩
    · omega
    · omega
    · rw [show x / 2048 - nx = i by omega, hki] at h'; cases h'
  · rcases h2 k _ hko with h3 | h3 | h3 | h3
    · omega
    · rw [hik'] at h3; cases h3
    · rw [hki] at h3; cases h3
    · have := hH.own k e _ hk hko h3 _ hx'
      simp only at this; omega
  · have hci := D.low i oi _ hi hc
    rcases h2 k _ hko with h3 | h3 | h3 | h3 | h3
    · omega
    · rw [hik'] at h3; cases h3
    · rw [hki] at h3; cases h3
    · have := hH.own k e _ hk hko h3 _ hx'
      simp only at this; omega
    · rcases msOk_ok (hH.ms k e hk) hx' with h' | ⟨h', _⟩ | ⟨_, h', _⟩
      · omega
      · omega
      · rw [h3] at h'; cases h'

theorem looks_any (D : Drw C ops) (hC : Closed ops p) (hi : ops[i]? = some oi) (hp : p i = false) (hpre : ∀ k, bitOf (preAt ops i) k = true → p k = true) (hle : H.length ≤ ops.size) {t : Nat} (ht : t ∈ oi.looksAt ops) :
    envP ops p e0 H t = envP ops (fun k => Nat.blt k i) e0 H t := by
  refine envP_congr fun k hk hd => ?_
  have hklt : k < ops.size := Nat.lt_of_lt_of_le hk hle
  have hko : ops[k]? = some ops[k] := Array.getElem?_eq_getElem hklt
  have hdk : (ops[k]).dst = some t := by simpa [dstAt, hko] using hd
  cases hpk : p k with
  | true =>
    cases hb : Nat.blt k i with
    | true => rfl
    | false =>
      exfalso
      have hge : i ≤ k := by
        rcases Nat.lt_or_ge k i with h | h
        · rw [← Nat.blt_eq] at h; rw [h] at hb; cases hb
        · exact h
      have hne : k ≠ i := fun e => by rw [e, hp] at hpk; cases hpk
      rcases D.row i k oi _ hi hko (by omega) with h | h
      · rw [notin D hC hi hp hpk hklt] at h; cases h
      · exact (Oper.apart_spec h).2.2 t hdk ht
  | false =>
    cases hb : Nat.blt k i with
    | false => rfl
    | true =>
      exfalso
      rw [Nat.blt_eq] at hb
      rcases D.row k i _ oi hko hi hb with h | h
      · rw [hpre k h] at hpk; cases hpk
      · exact (Oper.apart_spec h).1 t hdk ht

theorem dst_any (D : Drw C ops) (hC : Closed ops p) (hi : ops[i]? = some oi) (hp : p i = false) : ∀ k d, i < k → p k = true → dstAt ops i = some d → dstAt ops k ≠ some d := by
  intro k d hik hpk hd hd'
  have hklt : k < ops.size := by
    rcases Nat.lt_or_ge k ops.size with h | h
    · exact h
    · simp [dstAt, Array.getElem?_eq_none h] at hd'
  have hko : ops[k]? = some ops[k] := Array.getElem?_eq_getElem hklt
  rcases D.row i k oi _ hi hko hik with h | h
  · rw [notin D hC hi hp hpk hklt] at h; cases h
  · exact (Oper.apart_spec h).2.1 d (by simpa [dstAt, hi] using hd) (by simpa [dstAt, hko] using hd')
end Go.Tm

/- The pure machine, 42: regions that draw their order. -/
namespace Go.Tm
open Go

/-- Whether an operation is done, as the state tells it. -/
def guardB (ops : Array Oper) (env : Nat → TV) (o : Oper) : Option Bool :=
  match o.guard with
  | none => some true
  | some (j, want) => match (ops.toList[j]?).bind (·.dst) with
    | none => none
    | some d => match env d with
      | .c (.bool b) => some (b == want)
      | .und => some false
      | _ => none

section
variable {P : Program} {C : Ctx} {nt : Nat} {w0 : World} {o0 : Nat → Nat → Own} {io : List Nat} {c0 : Nat → Conc} {R : Type} {Q : Exit → Act → World → Prop}
variable {ops : Array Oper} {rid nx : Nat} {e0 : Nat → TV} {m0 : Mu}

theorem guardB_ok {st : St} {o : Oper} {run skip : St → Option R} {y : R}
    (h : (match o.guard with
      | none => run st
      | some (j, want) => match (ops.toList[j]?).bind (·.dst) with
        | none => none
        | some d => match st.env d with
          | .c (.bool b) => bif b then (bif want then run (st.refine d true) else skip (st.refine d true)) else (bif want then skip (st.refine d false) else run (st.refine d false))
          | .und => skip st
          | _ => none) = some y) :
    (guardB ops st.env o = some true ∧ run st = some y) ∨ (guardB ops st.env o = some false ∧ skip st = some y) := by
  unfold guardB
  cases hg : o.guard with
  | none => rw [hg] at h; exact .inl ⟨rfl, h⟩
  | some p =>
    obtain ⟨j, want⟩ := p
    simp only [hg] at h ⊢
    cases hd : (ops.toList[j]?).bind (·.dst) with
    | none => rw [hd] at h; cases h
    | some d =>
      rw [hd] at h
      dsimp only at h ⊢
      cases he : st.env d <;> simp only [he] at h ⊢ <;> try (cases h; done)
      case und => exact .inr ⟨trivial, h⟩
      case c cv =>
        cases cv <;> simp only at h ⊢ <;> try (cases h; done)
        case bool b =>
          have hr := refine_self he
          cases b <;> cases want <;> simp only [cond_true, cond_false, hr] at h
          · exact .inl ⟨rfl, h⟩
          · exact .inr ⟨rfl, h⟩
          · exact .inr ⟨rfl, h⟩
          · exact .inl ⟨rfl, h⟩

theorem guardB_wanted {env : Nat → TV} {a : Act} {w : World} {g : Gh} {mu : Mu} (henv : ∀ t, (env t).R P w g mu (a.tmps.getD t undef)) {o : Oper} {b : Bool} (h : guardB ops env o = some b) : Region.wanted o (yielded ops a.tmps) = b := by
  let st : St := { env := env, mu := mu, tw := [], mw := [], nx := 0 }
  rcases guard_ok (P := P) (ops := ops) (st := st) (run := fun _ => some true) (skip := fun _ => some false) henv (o := o) (y := b) (by
    unfold guardB at h
    cases hg : o.guard with
    | none => rw [hg] at h; exact h
    | some p =>
      obtain ⟨j, want⟩ := p
      simp only [hg] at h ⊢
      cases hd : (ops.toList[j]?).bind (·.dst) with
      | none => rw [hd] at h; cases h
      | some d =>
        rw [hd] at h
        dsimp only at h ⊢
        show (match env d with
          | .c (.bool b) => bif b then (bif want then some true else some false) else (bif want then some false else some true)
          | .und => some false
          | _ => none) = some b
        cases he : env d <;> simp only [he] at h ⊢ <;> try (cases h; done)
        case und => exact h
        case c cv =>
          cases cv <;> simp only at h ⊢ <;> try (cases h; done)
          case bool c => cases c <;> cases want <;> exact h) with ⟨h1, h2⟩ | ⟨h1, h2⟩
  · cases h2; exact h1
  · cases h2; exact h1

theorem guardB_eval {env env' : Nat → TV} {o : Oper} (h : ∀ t ∈ o.looksAt ops, env' t = env t) : guardB ops env' o = guardB ops env o := by
  unfold guardB
  cases hg : o.guard with
  | none => rfl
  | some p =>
    obtain ⟨j, want⟩ := p
    dsimp only
    cases hd : (ops.toList[j]?).bind (·.dst) with
    | none => rfl
    | some d =>
      dsimp only
      rw [h d (by
        have hd' : (ops[j]?).bind (·.dst) = some d := by rw [← hd]; simp
        simp [Oper.looksAt, hg, hd'])]

theorem noread_ms {env : Nat → TV} {mu : Mu} {idb i : Nat} {o : Oper} {K : TV → List (Nat × Blk) → Option R} {y : R} (hr : opReads C o.op = false) (h : opU C env mu idb rid i o K = some y) : ∃ v ms, K v ms = some y ∧ ∀ x ∈ ms, x.1 = idb := by
  cases hop : o.op <;> rw [hop] at hr <;> simp only [opReads] at hr <;> try (cases hr; done)
  all_goals simp only [opU, hop] at h
  case move x => exact ⟨_, _, h, by simp⟩
  case assign x => exact ⟨_, _, h, by simp⟩
  case pick c x z =>
    split at h
    · rename_i b hc
      cases b
      · exact ⟨_, _, h, by simp⟩
      · exact ⟨_, _, h, by simp⟩
    · cases h
  case alloc e =>
    split at h
    · exact ⟨_, _, h, by simp⟩
    · cases h
  case box e x =>
    split at h
    · rename_i cs hx
      cases hsi : (C.site rid i).isEmpty with
      | true => rw [hsi] at h; exact ⟨_, _, h, by simp⟩
      | false =>
        simp only [hsi, cond_false] at h
        cases hp : (packs (R := (C.es e).D × List Use) app0 (fun _ => none) (C.es e) [] 0 cs [] packEnd) with
        | none => simp [hp] at h
        | some p =>
          obtain ⟨xd, us⟩ := p
          simp only [hp, Option.bind_some] at h
          cases us with
          | nil => exact ⟨_, _, h, by simp⟩
          | cons u us => cases h
    · cases h
  case build t parts =>
    split at h
    · split at h
      · split at h
        · exact ⟨_, _, h, by simp⟩
        · cases h
      · cases h
    · cases h
  case nilCheck x =>
    split at h
    · exact ⟨_, _, h, by simp⟩
    · exact ⟨_, _, h, by simp⟩
    · exact ⟨_, _, h, by simp⟩
    · cases h
  case binOp op t x z t2 =>
    have hk : ∀ e, (match C.ty t with | some ti => ti.k | none => .other) ≠ TK.slice e := by
      intro e he
      cases ht : C.ty t with
      | none => rw [ht] at he; cases he
      | some ti =>
        rw [ht] at he hr
        have he : ti.k = .slice e := he
        simp [he] at hr
    obtain ⟨v, h1, _⟩ := binU_out hk h
    exact ⟨v, _, h1, by simp⟩
  case unOp op t x =>
    split at h
    · exact ⟨_, _, h, by simp⟩
    · exact ⟨_, _, h, by simp⟩
    · exact ⟨_, _, h, by simp⟩
    · cases h
  case makeFunc f first captured =>
    cases f <;> simp only at h <;> try (cases h; done)
    case func f =>
      cases hf : first.isEmpty with
      | false => simp [hf] at h
      | true =>
        simp only [hf, cond_true] at h
        split at h
        · exact ⟨_, _, h, by simp⟩
        · cases h
  case fieldAddr t x f =>
    cases hf : structFld C t f with
    | none => simp [hf] at h
    | some p =>
      obtain ⟨off, n⟩ := p
      cases hx : evalTV env x <;> simp only [hf, hx] at h <;> try (cases h; done)
      case c cv =>
        cases cv <;> simp only at h <;> try (cases h; done)
        all_goals exact ⟨_, _, h, by simp⟩
  case field t x f =>
    split at h
    · rename_i off n vs ag hf hx hga
      cases ag with
      | true => exact ⟨_, _, h, by simp⟩
      | false =>
        simp only [cond_false] at h
        split at h
        · exact ⟨_, _, h, by simp⟩
        · cases h
    · cases h
  case extract x i =>
    split at h
    · split at h
      · exact ⟨_, _, h, by simp⟩
      · cases h
    · cases h

def ltP (k : Nat) : Nat → Bool := fun j => Nat.blt j k
def topP : Nat → Bool := fun _ => true

/-- What stands of an operation in the text's order. -/
def GoOk (C : Ctx) (ops : Array Oper) (rid nx : Nat) (e0 : Nat → TV) (m0 : Mu) (H : List Ent) (k : Nat) (o : Oper) (e : Ent) : Prop :=
  dstOk C.nt o.dst = true ∧
  ((guardB ops (envP ops (ltP k) e0 H) o = some true ∧ ∀ env' mu', (∀ x ∈ o.op.operands, evalTV env' x = evalTV (envP ops (ltP k) e0 H) x) → (opReads C o.op = true → Le (muP (bitOf (preAt ops k)) m0 H) mu') →
      ∀ (R' : Type) (K' : TV → List (Nat × Blk) → Option R'), opU C env' mu' ((nx + k) * 2048) rid k o K' = K' e.v e.ms) ∨
    (guardB ops (envP ops (ltP k) e0 H) o = some false ∧ e.v = .und ∧ e.ms = []))

theorem ltP_ge {j k : Nat} (h : k ≤ j) : ltP k j = false := by
  unfold ltP
  cases e : Nat.blt j k with
  | false => rfl
  | true => rw [Nat.blt_eq] at e; omega
theorem ltP_lt {j k : Nat} (h : j < k) : ltP k j = true := by unfold ltP; rw [Nat.blt_eq]; exact h

theorem envP_lt_cons {e : Ent} {H : List Ent} {k : Nat} (h : k ≤ H.length) : envP ops (ltP k) e0 (e :: H) = envP ops (ltP k) e0 H := by simp [envP, ltP_ge h]
theorem muP_pre_cons (D : Drw C ops) {e : Ent} {H : List Ent} {k : Nat} {o : Oper} (hk : ops[k]? = some o) (h : k ≤ H.length) : muP (bitOf (preAt ops k)) m0 (e :: H) = muP (bitOf (preAt ops k)) m0 H := by
  have : bitOf (preAt ops k) H.length = false := by
    cases hb : bitOf (preAt ops k) H.length with
    | false => rfl
    | true => have := D.low k o _ hk hb; omega
  simp [muP, this]
theorem GoOk.cons (D : Drw C ops) {e e' : Ent} {H : List Ent} {k : Nat} {o : Oper} (hk : ops[k]? = some o) (h : k ≤ H.length) (g : GoOk C ops rid nx e0 m0 H k o e) : GoOk C ops rid nx e0 m0 (e' :: H) k o e := by
  unfold GoOk at g ⊢
  rw [envP_lt_cons h, muP_pre_cons D hk h]
  exact g

theorem envP_top : ∀ {H : List Ent} {k : Nat}, H.length = k → envP ops (ltP k) e0 H = envP ops topP e0 H := by
  intro H k h
  funext t
  exact envP_congr fun j hj _ => by rw [ltP_lt (by omega)]; rfl
theorem muP_top : ∀ {H : List Ent} {k : Nat}, H.length = k → muP (ltP k) m0 H = muP topP m0 H := by
  intro H k h
  funext t
  exact muP_congr fun j e b hj _ => by rw [ltP_lt (by have := entAt_lt hj; omega)]; rfl

structure All (C : Ctx) (ops : Array Oper) (rid nx : Nat) (e0 : Nat → TV) (m0 : Mu) (H : List Ent) : Prop where
  ok : HOk C ops nx m0 H
  go : ∀ (k : Nat) (o : Oper) (e : Ent), ops[k]? = some o → entAt H k = some e → GoOk C ops rid nx e0 m0 H k o e

theorem Closed.lt (D : Drw C ops) (n : Nat) : Closed ops (ltP n) := by
  intro i k hi hlt hb
  have h1 := D.low i _ k (Array.getElem?_eq_getElem hlt) hb
  unfold ltP at hi ⊢
  rw [Nat.blt_eq] at hi ⊢
  omega

theorem opsD_ok (D : Drw C ops) (hfresh : ∀ id, nx * 2048 ≤ id → m0 id = none) {K : St → Option R} {y : R} : ∀ (l : List Oper) (H : List Ent) {st : St}, ops.toList.drop H.length = l → st.env = envP ops topP e0 H → st.mu = muP topP m0 H → All C ops rid nx e0 m0 H →
    opsD C rid ops.toList (preL ops.toList []) nx m0 l H.length (histOf H) st K = some y → H.length ≤ ops.size →
    ∃ H' stF, K stF = some y ∧ H'.length = ops.size ∧ stF.env = envP ops topP e0 H' ∧ stF.mu = muP topP m0 H' ∧ All C ops rid nx e0 m0 H' ∧ Ext st stF ∧ stF.nx = st.nx
  | [], H, st, hl, he, hm, hA, h, hle => by
    refine ⟨H, st, h, ?_, he, hm, hA, .refl _, rfl⟩
    have := congrArg List.length hl
    simp at this
    omega
  | o :: l, H, st, hl, he, hm, hA, h, hle => by
    have hi : ops[H.length]? = some o := by
      have h1 : (ops.toList.drop H.length)[0]? = some o := by rw [hl]; rfl
      rw [List.getElem?_drop] at h1
      simpa using h1
    have hisz : H.length < ops.size := (Array.getElem?_eq_some_iff.1 hi).1
    have hl' : ops.toList.drop (H.length + 1) = l := by
      have := congrArg (List.drop 1) hl
      simpa [List.drop_drop] using this
    unfold opsD at h
    cases hd : dstOk C.nt o.dst with
    | false => rw [hd] at h; cases h
    | true =>
      rw [hd] at h
      simp only [cond_true] at h
      have hdst : dstAt ops H.length = o.dst := by simp [dstAt, hi]
      have hp : ltP H.length H.length = false := ltP_ge (Nat.le_refl _)
      -- one more entry
      have fin : ∀ (e : Ent) (wr : List Wr), msOk C ops.toList (preL ops.toList []) nx (preAt ops H.length) H.length e.ms = true → (opReads C o.op = false → ∀ x ∈ e.ms, x.1 / 2048 = nx + H.length) → GoOk C ops rid nx e0 m0 H H.length o e → PutOk st.mu e.ms wr →
          opsD C rid ops.toList (preL ops.toList []) nx m0 l (H.length + 1) ((H.length, e.ms) :: histOf H) (st.put o.dst e.v e.ms wr) K = some y →
          ∃ H' stF, K stF = some y ∧ H'.length = ops.size ∧ stF.env = envP ops topP e0 H' ∧ stF.mu = muP topP m0 H' ∧ All C ops rid nx e0 m0 H' ∧ Ext st stF ∧ stF.nx = st.nx := by
        intro e wr hms hown hgo hput h
        have hA' : All C ops rid nx e0 m0 (e :: H) := by
          refine ⟨⟨fun k e' hk => ?_, fun k e' o' hk ho' => ?_, hisz, hfresh⟩, fun k o' e' ho' hk => ?_⟩
          · rw [entAt_cons] at hk
            split at hk
            · rename_i ek; cases hk; rw [ek]; exact hms
            · exact hA.ok.ms k e' hk
          · rw [entAt_cons] at hk
            split at hk
            · rename_i ek; cases hk; subst ek; rw [hi] at ho'; cases ho'; exact hown
            · exact hA.ok.own k e' o' hk ho'
          · rw [entAt_cons] at hk
            split at hk
            · rename_i ek; cases hk; subst ek; rw [hi] at ho'; cases ho'; exact hgo.cons D hi (Nat.le_refl _)
            · exact (hA.go k o' e' ho' hk).cons D ho' (Nat.le_of_lt (entAt_lt hk))
        obtain ⟨H', stF, h1, h2, h3, h4, h5, h6, h7⟩ := opsD_ok D hfresh l (e :: H) (st := st.put o.dst e.v e.ms wr) hl' (by
            simp only [St.put, envP, topP, cond_true, hdst, updD]
            cases o.dst <;> simp only [he] <;> rfl) (by simp only [St.put, muP, topP, cond_true, hm]) hA' h hisz
        exact ⟨H', stF, h1, h2, h3, h4, h5, Ext.trans (fun e m N hb => hb.put hput) h6, h7⟩
      rcases guardB_ok (ops := ops) (st := st) (run := fun st => opU C st.env (muPre m0 ((preL ops.toList []).getD H.length 0) (histOf H)) ((nx + H.length) * 2048) rid H.length o fun v ms => bif msOk C ops.toList (preL ops.toList []) nx ((preL ops.toList []).getD H.length 0) H.length ms then opsD C rid ops.toList (preL ops.toList []) nx m0 l (H.length + 1) ((H.length, ms) :: histOf H) (st.put o.dst v ms (wrOf st.env o ms)) K else none)
          (skip := fun st => bif msOk C ops.toList (preL ops.toList []) nx ((preL ops.toList []).getD H.length 0) H.length [] then opsD C rid ops.toList (preL ops.toList []) nx m0 l (H.length + 1) ((H.length, []) :: histOf H) (st.put o.dst .und [] []) K else none) h with ⟨hg, h⟩ | ⟨hg, h⟩
      · rw [muPre_eq] at h
        obtain ⟨v, ms, h1, h2⟩ := opU_out (D.det _ o hi) h
        cases hms : msOk C ops.toList (preL ops.toList []) nx (preAt ops H.length) H.length ms with
        | false => rw [show msOk C ops.toList (preL ops.toList []) nx ((preL ops.toList []).getD H.length 0) H.length ms = false from hms] at h1; cases h1
        | true =>
          rw [show msOk C ops.toList (preL ops.toList []) nx ((preL ops.toList []).getD H.length 0) H.length ms = true from hms] at h1
          simp only [cond_true] at h1
          have henv : st.env = envP ops (ltP H.length) e0 H := by rw [he, envP_top rfl]
          have hmu : (opReads C o.op = true → Le (muP (bitOf (preAt ops H.length)) m0 H) st.mu) := fun hr => by
            rw [hm, ← muP_top rfl]
            exact le_any D hA.ok (Closed.lt D _) hi hp (fun k hk => ltP_lt (D.low _ o k hi hk)) hr
          refine fin ⟨v, ms⟩ _ hms (fun hr x hx => ?_) ⟨hd, .inl ⟨by rw [← henv]; exact hg, fun env' mu' hev hle R' K' => ?_⟩⟩ ?_ h1
          · have h3 := h2 st.mu hmu (TV × List (Nat × Blk)) (fun v ms => some (v, ms))
            obtain ⟨v', ms', h4, h5⟩ := noread_ms hr h3
            cases h4
            have := h5 x hx
            rw [this]
            omega
          · rw [opU_eval (env := st.env) (fun x hx => by rw [hev x hx, henv])]
            exact h2 mu' hle R' K'
          · have h3 := opU_put (h2 st.mu hmu (TV × List (Nat × Blk)) (fun v ms => some (v, ms)))
            have h4 := h2 st.mu hmu _ (fun v ms => @ite _ (PutOk st.mu ms (wrOf st.env o ms)) (Classical.propDecidable _) (some (v, ms)) none)
            rw [h4] at h3
            split at h3
            · assumption
            · cases h3
      · cases hms : msOk C ops.toList (preL ops.toList []) nx (preAt ops H.length) H.length [] with
        | false => rw [show msOk C ops.toList (preL ops.toList []) nx ((preL ops.toList []).getD H.length 0) H.length [] = false from hms] at h; cases h
        | true =>
          rw [show msOk C ops.toList (preL ops.toList []) nx ((preL ops.toList []).getD H.length 0) H.length [] = true from hms] at h
          simp only [cond_true] at h
          exact fin ⟨.und, []⟩ [] hms (fun _ x hx => by cases hx) ⟨hd, .inr ⟨by rw [envP_top rfl, ← he]; exact hg, rfl, rfl⟩⟩ (PutOk.nil _) h
end
end Go.Tm

/- The pure machine, 43: regions that draw their order: any order. -/
namespace Go.Tm
open Go

theorem countP_le' {α : Type} {p q : α → Bool} : ∀ {l : List α}, (∀ x ∈ l, p x = true → q x = true) → l.countP p ≤ l.countP q := fun h => List.countP_mono_left h
theorem countP_lt' {α : Type} {p q : α → Bool} : ∀ {l : List α} {x : α}, (∀ x ∈ l, p x = true → q x = true) → x ∈ l → q x = true → p x = false → l.countP p < l.countP q
  | y :: l, x, h, hx, hq, hp => by
    rcases List.mem_cons.1 hx with rfl | hx
    · rw [List.countP_cons, List.countP_cons, hq, hp]
      have := countP_le' (l := l) fun z hz => h z (by simp [hz])
      simp
      omega
    · rw [List.countP_cons, List.countP_cons]
      have := countP_lt' (l := l) (fun z hz => h z (by simp [hz])) hx hq hp
      have h2 := h y (by simp)
      cases hy : p y with
      | false => simp; split <;> omega
      | true => simp [h2 hy]; omega

def listP (listed : Array Bool) : Nat → Bool := fun k => listed.getD k false

section
variable {P : Program} {C : Ctx} {nt : Nat} {w0 : World} {o0 : Nat → Nat → Own} {io : List Nat} {c0 : Nat → Conc} {R : Type} {Q : Exit → Act → World → Prop}
variable {ops : Array Oper} {rid nx : Nat} {e0 : Nat → TV} {m0 : Mu}

theorem Rel.put' {env : Nat → TV} {mu : Mu} {a : Act} {w : World} {g : Gh} (r : Rel P nt w0 o0 env mu a.tmps w g) {dst : Option Nat} {tv : TV} {v : Value} (hd : dstOk nt dst = true) (hv : tv.R P w g mu v) :
    Rel P nt w0 o0 (updD env dst tv) mu (a.put dst v).tmps w g := by
  have := r.put hd hv
  cases dst <;> exact this

def stP (ops : Array Oper) (p : Nat → Bool) (e0 : Nat → TV) (m0 : Mu) (H : List Ent) : St := { env := envP ops p e0 H, mu := muP p m0 H, tw := [], mw := [], nx := 0 }

theorem listP_set {listed : Array Bool} {i : Nat} (h : i < listed.size) : listP (listed.setIfInBounds i true) = addP (listP listed) i := by
  funext k
  unfold listP
  by_cases e : k = i
  · subst e; rw [addP_self]; simp [Array.getD_eq_getD_getElem?, h]
  · rw [addP_ne e]; simp [Array.getD_eq_getD_getElem?, Array.getElem?_setIfInBounds_ne (Ne.symm e)]

theorem mu_top (D : Drw C ops) {H : List Ent} (hA : HOk C ops nx m0 H) {p : Nat → Bool} {id : Nat} (h : (nx + ops.size) * 2048 ≤ id) : muP p m0 H id = none := by
  cases e : muP p m0 H id with
  | none => rfl
  | some b =>
    exfalso
    obtain ⟨k, en, b', h1, h2, h3⟩ := muP_some (p := p) (H := H) (by rw [e]; simp) (hA.fresh id (Nat.le_trans (Nat.mul_le_mul_right _ (Nat.le_add_right _ _)) h))
    have hk := entAt_lt h1
    have hle := hA.le
    have hksz : k < ops.size := by omega
    rcases msOk_ok (hA.ms k en h1) h2 with h | ⟨h, _⟩ | ⟨_, h, _⟩
    · omega
    · omega
    · have := D.low k _ _ (Array.getElem?_eq_getElem hksz) h
      omega

/-- In whatever order. -/
theorem drawn_dyn (hty : ∀ t ti, C.ty t = some ti → tiOf P t = some ti) (hC : CtxOk P C) (hnt : C.nt = nt) (D : Drw C ops) {H : List Ent} (hH : H.length = ops.size) (hA : All C ops rid nx e0 m0 H)
    (hQ : ∀ a' w' g', RelS P nt w0 o0 io c0 (nx + ops.size) (stP ops topP e0 m0 H) a' w' g' → Q .normal a' w') : ∀ (fuel : Nat) (listed : Array Bool) {a : Act} {w : World} {g : Gh}, listed.size = ops.size →
    (List.range ops.size).countP (fun k => !listP listed k) ≤ fuel → Closed ops (listP listed) → RelS P nt w0 o0 io c0 (nx + ops.size) (stP ops (listP listed) e0 m0 H) a w g → wpAny P .any ops Q fuel listed a w := by
  -- all are done: what was to be shown
  have fin : ∀ (listed : Array Bool) {a : Act} {w : World} {g : Gh}, listed.size = ops.size → Region.ready .any ops listed = [] → RelS P nt w0 o0 io c0 (nx + ops.size) (stP ops (listP listed) e0 m0 H) a w g → Q .normal a w := by
    intro listed a w g hsz hready r
    have hall : ∀ k, k < ops.size → listP listed k = true := by
      intro k
      induction k using Nat.strongRecOn with
      | _ k ih =>
        intro hk
        cases hl : listP listed k with
        | true => rfl
        | false =>
          exfalso
          have : k ∈ Region.ready .any ops listed := by
            rw [mem_ready]
            refine ⟨?_, ops[k], Array.getElem?_eq_getElem hk, fun e he hb => ?_⟩
            · unfold listP at hl
              have hk' : k < listed.size := by omega
              simpa [Array.getD_eq_getD_getElem?, hk'] using hl
            · have hon := D.low k _ e.on (Array.getElem?_eq_getElem hk) ((pre_step (Array.getElem?_eq_getElem hk)).2 ⟨e, by simpa using he, hb, .inl rfl⟩)
              exact ih e.on hon (by omega)
          rw [hready] at this
          cases this
    have e1 : envP ops (listP listed) e0 H = envP ops topP e0 H := funext fun t => envP_congr fun k hk _ => by rw [hall k (by omega)]; rfl
    have e2 : muP (listP listed) m0 H = muP topP m0 H := funext fun t => muP_congr fun k e b hk _ => by rw [hall k (by have := entAt_lt hk; omega)]; rfl
    refine hQ a w g ?_
    unfold stP at r ⊢
    rw [e1, e2] at r
    exact r
  intro fuel
  induction fuel with
  | zero =>
    intro listed a w g hsz hcnt hcl r
    have hready : Region.ready .any ops listed = [] := by
      rw [List.eq_nil_iff_forall_not_mem]
      intro k hk
      rw [mem_ready] at hk
      obtain ⟨h0, o, ho, _⟩ := hk
      have hlt : k < ops.size := (Array.getElem?_eq_some_iff.1 ho).1
      have h1 := Nat.le_zero.1 hcnt
      rw [List.countP_eq_zero] at h1
      have := h1 k (by simpa using hlt)
      unfold listP at this
      have hk' : k < listed.size := by omega
      simp [Array.getD_eq_getD_getElem?, hk'] at this h0
      rw [h0] at this; cases this
    exact ⟨hready, fin listed hsz hready r⟩
  | succ fuel ih =>
    intro listed a w g hsz hcnt hcl r
    refine ⟨fun hready => fin listed hsz hready r, fun i hi => ?_⟩
    rw [mem_ready] at hi
    obtain ⟨h0, o, ho, hedges⟩ := hi
    have hlt : i < ops.size := (Array.getElem?_eq_some_iff.1 ho).1
    have hp : listP listed i = false := by
      unfold listP
      have hk' : i < listed.size := by omega
      simpa [Array.getD_eq_getD_getElem?, hk'] using h0
    have hpre : ∀ k, bitOf (preAt ops i) k = true → listP listed k = true := by
      intro k hk
      obtain ⟨e, he, hb, h⟩ := (pre_step ho).1 hk
      have h1 : listP listed e.on = true := hedges e (by simpa using he) hb
      rcases h with h | ⟨h2, h⟩
      · rw [← h]; exact h1
      · exact hcl e.on k h1 (by omega) h
    obtain ⟨ei, hei⟩ : ∃ e, entAt H i = some e := by
      unfold entAt
      exact ⟨_, List.getElem?_eq_getElem (by rw [List.length_reverse]; omega)⟩
    have hset := listP_set (listed := listed) (i := i) (by omega)
    have hcl' : Closed ops (addP (listP listed) i) := by
      intro j k hj hjs hb
      by_cases e : j = i
      · subst e
        have := hpre k hb
        simp [addP, this]
      · rw [addP_ne e] at hj
        have := hcl j k hj hjs hb
        simp [addP, this]
    have hcnt' : (List.range ops.size).countP (fun k => !addP (listP listed) i k) ≤ fuel := by
      have := countP_lt' (l := List.range ops.size) (x := i) (p := fun k => !addP (listP listed) i k) (q := fun k => !listP listed k) (fun k _ hk => by
        simp only [addP, Bool.not_or, Bool.and_eq_true] at hk; exact hk.1) (by simpa using hlt) (by simp [hp]) (by simp [addP_self])
      omega
    obtain ⟨hd, hgo⟩ := hA.go i o ei ho hei
    have hdst : dstAt ops i = o.dst := by simp [dstAt, ho]
    have hle : H.length ≤ ops.size := by omega
    have hadd : stP ops (addP (listP listed) i) e0 m0 H = { env := updD (envP ops (listP listed) e0 H) o.dst ei.v, mu := updL (muP (listP listed) m0 H) ei.ms, tw := [], mw := [], nx := 0 } := by
      unfold stP
      rw [envP_add hp hei (dst_any D hcl ho hp), muP_add hp hei (disj_any D hA.ok hcl ho hp hei), hdst]
    have next : ∀ {a' : Act} {w' : World} {g' : Gh}, RelS P nt w0 o0 io c0 (nx + ops.size) (stP ops (addP (listP listed) i) e0 m0 H) a' w' g' → wpAny P .any ops Q fuel (listed.setIfInBounds i true) a' w' := by
      intro a' w' g' r'
      have h1 : RelS P nt w0 o0 io c0 (nx + ops.size) (stP ops (listP (listed.setIfInBounds i true)) e0 m0 H) a' w' g' := by rw [hset]; exact r'
      exact ih (listed.setIfInBounds i true) (by simpa using hsz) (by rw [hset]; exact hcnt') (by rw [hset]; exact hcl') h1
    show wpOp P ops Q i _ a w
    unfold wpOp
    simp only [ho]
    have hlook : ∀ t ∈ o.looksAt ops, envP ops (listP listed) e0 H t = envP ops (ltP i) e0 H t := fun t ht => looks_any D hcl ho hp hpre hle ht
    have hgd : guardB ops (envP ops (listP listed) e0 H) o = guardB ops (envP ops (ltP i) e0 H) o := guardB_eval hlook
    have henv := r.rel.env
    rw [hnt] at hd
    rcases hgo with ⟨hg, hout⟩ | ⟨hg, hv, hms⟩
    · rw [if_pos (guardB_wanted (env := envP ops (listP listed) e0 H) henv (hgd.trans hg))]
      left
      have hop : opU C (envP ops (listP listed) e0 H) (muP (listP listed) m0 H) ((nx + i) * 2048) rid i o (fun v ms => some (v, ms)) = some (ei.v, ei.ms) := by
        refine hout _ _ (fun x hx => ?_) (fun hr => le_any D hA.ok hcl ho hp hpre hr) _ _
        cases x with
        | tmp t =>
          exact hlook t (List.mem_append_left _ (List.mem_filterMap.2 ⟨.tmp t, by simpa using hx, rfl⟩))
        | _ => rfl
      have hst : OpSt P C (envP ops (listP listed) e0 H) (muP (listP listed) m0 H) a w g ((nx + i) * 2048) :=
        ⟨hty, hC, r.rel.env, r.rel.mem, r.rel.wf, r.rel.own, fun n h1 h2 => fresh_any D hA.ok hcl ho hp (by omega)⟩
      refine Oper.wp_mono ?_ (opU_ok (Q := Q) hst hop)
      rintro a' w' ⟨tv, ms, v, g', rfl, hK, hn, hv⟩
      simp only [Option.some.injEq, Prod.mk.injEq] at hK
      obtain ⟨rfl, rfl⟩ := hK
      refine next (g' := g') ?_
      rw [hadd]
      refine ⟨?_, by cases o.dst <;> exact r.df, fun id hid => ?_, fun id hid => ?_⟩
      · exact (r.rel.nxt hn).put' (a := a) hd hv
      · have := mu_top D hA.ok (p := addP (listP listed) i) hid
        rw [muP_add hp hei (disj_any D hA.ok hcl ho hp hei)] at this
        exact this
      · obtain ⟨h1, h2⟩ := r.io id hid
        obtain ⟨_, hs, _⟩ := hn
        exact ⟨(hs.c id h2).trans h1, updL_some h2⟩
    · rw [if_neg (by rw [guardB_wanted (env := envP ops (listP listed) e0 H) henv (hgd.trans hg)]; simp)]
      refine next (g' := g) ?_
      rw [hadd, hv, hms]
      refine ⟨?_, by cases o.dst <;> exact r.df, r.fresh, r.io⟩
      exact r.rel.put' (a := a) (tv := .und) (v := undef) hd rfl

theorem RelS.drawn {n k : Nat} {st : St} {a : Act} {w : World} {g : Gh} (r : RelS P nt w0 o0 io c0 n st a w g) : RelS P nt w0 o0 io c0 n st a { w with drawn := k } g := by
  have hn : Nxt P w g st.mu { w with drawn := k } g st.mu :=
    ⟨fun _ => False, ⟨fun b j v hv _ => ⟨hv, rfl⟩, fun _ _ => rfl, fun _ h => h, fun _ _ _ => rfl, fun _ _ _ _ _ h => h.elim⟩,
      ⟨rfl, rfl, rfl, Nat.le_refl _, fun _ _ _ => rfl, fun _ _ _ hv _ => ⟨hv, rfl⟩, fun _ _ v hv => ⟨v, hv⟩, fun _ _ _ => rfl⟩, ⟨r.rel.wf.cell, r.rel.wf.ne⟩, r.rel.own, fun id b h hb => by rcases h with h | h; exact h.elim; rw [h] at hb; cases hb⟩
  exact ⟨r.rel.nxt hn, r.df, r.fresh, r.io⟩

theorem regionU_draw (hm : P.follows .mixedOrders = true) (hty : ∀ t ti, C.ty t = some ti → tiOf P t = some ti) (hC : CtxOk P C) (hnt : C.nt = nt) {st : St} {a : Act} {w : World} {g : Gh} {K : St → Option R} {y : R}
    (h : regionU C rid ops true st K = some y) (r : RelS P nt w0 o0 io c0 st.nx st a w g) (hQ : ∀ st' a' w' g', K st' = some y → RelS P nt w0 o0 io c0 st'.nx st' a' w' g' → Ext st st' → Q .normal a' w') :
    (Code.region rid ops true).wp P Q a w := by
  unfold regionU at h
  simp only [cond_true] at h
  cases hd : drawOk C ops ops.toList ops.toList (preL ops.toList []) 0 with
  | false => rw [hd] at h; cases h
  | true =>
    rw [hd] at h
    simp only [cond_true] at h
    have D := Drw.of hd
    obtain ⟨H, stF, h1, h2, h3, h4, hA, hE, hnx⟩ := opsD_ok (e0 := st.env) (m0 := st.mu) (nx := st.nx) D r.fresh ops.toList [] (st := st) (by simp) rfl rfl ⟨⟨fun k e hk => by simp [entAt] at hk, fun k e o hk => by simp [entAt] at hk, Nat.zero_le _, r.fresh⟩, fun k o e ho hk => by simp [entAt] at hk⟩ h (Nat.zero_le _)
    refine wp_region_any hm ?_
    have hl0 : listP (Array.replicate ops.size false) = fun _ => false := by
      funext k
      unfold listP
      by_cases e : k < ops.size <;> simp [Array.getD_eq_getD_getElem?, e]
    refine drawn_dyn (w0 := w0) (o0 := o0) (io := io) (c0 := c0) hty hC hnt D h2 hA (fun a' w' g' r' => ?_) ops.size (Array.replicate ops.size false) (a := a) (g := g) (by simp) ?_ ?_ ?_
    · refine hQ _ a' w' g' h1 ?_ (fun e m N hb => ?_)
      · have : (stP ops topP st.env st.mu H).env = stF.env ∧ (stP ops topP st.env st.mu H).mu = stF.mu := ⟨h3.symm, h4.symm⟩
        refine ⟨?_, r'.df, ?_, ?_⟩
        · have := r'.rel; unfold stP at this; rw [← h3, ← h4] at this; exact this
        · have := r'.fresh; unfold stP at this; rw [← h4] at this; exact this
        · have := r'.io; unfold stP at this; rw [← h4] at this; exact this
      · have := hE e m N hb
        exact ⟨this.env, this.mem, Nat.le_trans hb.nx (Nat.mul_le_mul_right _ (Nat.le_add_right _ _))⟩
    · refine Nat.le_trans List.countP_le_length ?_
      simp
    · rw [hl0]; intro i k h; cases h
    · have hnone : ∀ (H : List Ent), envP ops (fun _ => false) st.env H = st.env ∧ muP (fun _ => false) st.mu H = st.mu := by
        intro H
        induction H with
        | nil => exact ⟨rfl, rfl⟩
        | cons e r ih => exact ⟨by simp only [envP, cond_false]; exact ih.1, by simp only [muP, cond_false]; exact ih.2⟩
      have r1 := (r.drawn (k := w.drawn + 1)).grow (Nat.le_add_right st.nx ops.size)
      refine ⟨?_, r1.df, ?_, ?_⟩
      · show Rel P nt w0 o0 (envP ops _ st.env H) (muP _ st.mu H) _ _ _
        rw [hl0, (hnone H).1, (hnone H).2]; exact r1.rel
      · show ∀ id, _ → muP _ st.mu H id = none
        rw [hl0, (hnone H).2]; exact r1.fresh
      · show ∀ id ∈ io, _ ∧ muP _ st.mu H id ≠ none
        rw [hl0, (hnone H).2]; exact r1.io
end
end Go.Tm

/- The pure machine, 44: code does as the pure machine says. -/
namespace Go.Tm
open Go

section
variable {P : Program} {C : Ctx} {nt : Nat} {w0 : World} {o0 : Nat → Nat → Own} {io : List Nat} {c0 : Nat → Conc}

theorem RelS.io_lt {st : St} {a : Act} {w : World} {g : Gh} (r : RelS P nt w0 o0 io c0 st.nx st a w g) {id : Nat} (h : st.mu id ≠ none) : id < st.nx * 2048 := by
  rcases Nat.lt_or_ge id (st.nx * 2048) with h' | h'
  · exact h'
  · exact absurd (r.fresh id h') h

/-- The state behind a piece, told by items. -/
theorem repack_ok {R : Type} {st0 st hS : St} {us0 : List Use} {an : Ann} {a a0 : Act} {w wS : World} {g g0 : Gh} {K : (itemsTy an.items).D → Option R} {y : R} (h : repack st0 st an K = some y)
    (r0 : RelS P nt w0 o0 io c0 st0.nx st0 a0 wS g0) (r : RelS P nt w0 o0 io c0 st.nx st a w g) (hst : stOk st0 an = true) (U : Us0 st0 us0 an) (H : HdOk st0 hS us0 an) (B : Bas hS.env hS.mu (st0.nx * 2048) st) :
    ∃ v g', K v = some y ∧ RelS P nt w0 o0 io c0 (st0.nx + 1) (reState st0 us0 an v) a w g' := by
  unfold repack at h
  cases hc : (st.tw.all (twOk an) && st.mw.all (mwOk st0 an)) with
  | false => rw [hc] at h; cases h
  | true =>
    rw [hc] at h
    simp only [cond_true] at h
    simp only [Bool.and_eq_true] at hc
    obtain ⟨d, new, vals, h1, hit, hus, hH, _⟩ := packItems_ok r.rel.env r.rel.mem r.rel.wf an.items 0 h
    rw [List.append_nil] at h1
    cases hu : (usesOk new && new.all (usOk st0 st an)) with
    | false => rw [hu] at h1; cases h1
    | true =>
      rw [hu] at h1
      simp only [cond_true] at h1
      simp only [Bool.and_eq_true] at hu
      have L := Link.back hst U H B hc.1 hc.2 hu.2 hit r0.fresh hus
      obtain ⟨g', hrel, hcc, hfr, hdom⟩ := retell (us0 := us0) r0.rel.inn r0.fresh r.rel hst hit hus hH hu.1 L
      refine ⟨d, g', h1, hrel, r.df, hfr, fun id hid => ?_⟩
      have hlt := r0.io_lt (r0.io id hid).2
      exact ⟨(hcc id hlt).trans (r.io id hid).1, hdom id hlt (r.io id hid).2⟩

/-- A loop's head, at first. -/
theorem pack_ok {R : Type} {st : St} {an : Ann} {a : Act} {w : World} {g : Gh} {K : (itemsTy an.items).D → List Use → Option R} {y : R} (h : (packItems st st.nx an.items 0 [] fun v0 us => bif usesOk us && stOk st an then K v0 us else none) = some y)
    (r : RelS P nt w0 o0 io c0 st.nx st a w g) : ∃ v us g', K v us = some y ∧ stOk st an = true ∧ Us0 st us an ∧ RelS P nt w0 o0 io c0 (st.nx + 1) (reState st us an v) a w g' := by
  obtain ⟨d, new, vals, h1, hit, hus, hH, hr⟩ := packItems_ok r.rel.env r.rel.mem r.rel.wf an.items 0 h
  rw [List.append_nil] at h1
  cases hu : (usesOk new && stOk st an) with
  | false => rw [hu] at h1; cases h1
  | true =>
    rw [hu] at h1
    simp only [cond_true] at h1
    simp only [Bool.and_eq_true] at hu
    have U : Us0 st new an := ⟨hu.1, fun u hm => ⟨_, hus u hm⟩, .inr hr⟩
    have L := Link.entry hu.2 U hr r.fresh hus
    obtain ⟨g', hrel, hcc, hfr, hdom⟩ := retell (us0 := new) r.rel.inn r.fresh r.rel hu.2 hit hus hH hu.1 L
    refine ⟨d, new, g', h1, hu.2, U, hrel, r.df, hfr, fun id hid => ?_⟩
    have hlt := r.io_lt (r.io id hid).2
    exact ⟨(hcc id hlt).trans (r.io id hid).1, hdom id hlt (r.io id hid).2⟩

theorem reState_nx {st0 : St} {us : List Use} {a : Ann} {d : (itemsTy a.items).D} : (reState st0 us a d).nx = st0.nx + 1 := (unItems_flds (nx := st0.nx) a.items 0).2.2.1

theorem RelS.forget {n : Nat} {st : St} {a : Act} {w : World} {g : Gh} {tw : List Nat} {mw : List Wr} (r : RelS P nt w0 o0 io c0 n st a w g) : RelS P nt w0 o0 io c0 n { st with tw := tw, mw := mw } a w g := ⟨r.rel, r.df, r.fresh, r.io⟩

/-- What stands where a piece of code ends. -/
def PostX {Y R : Type} (P : Program) (nt : Nat) (w0 : World) (o0 : Nat → Nat → Own) (io : List Nat) (c0 : Nat → Conc) (RetOk : Y → Act → World → Prop) (inj : Y → R) (st0 : St) (kn : St → Option R) (ke : Nat → St → Option R) (y : R) : Exit → Act → World → Prop
  | .normal, a, w => ∃ st g, kn st = some y ∧ RelS P nt w0 o0 io c0 st.nx st a w g ∧ Ext st0 st
  | .exit id, a, w => ∃ st g, ke id st = some y ∧ RelS P nt w0 o0 io c0 st.nx st a w g ∧ Ext st0 st
  | .ret, a, w => ∃ z, inj z = y ∧ RetOk z a w
  | _, _, _ => False

theorem loopF_some {S E : Type} {f : S → Option (Sum S E)} {s : S} {e : E} (h : loopF f s = some e) : ∃ n, loopIter f n s = some e := by
  unfold loopF at h
  split at h
  · rename_i hx
    have := Classical.choose_spec (Classical.choose_spec hx)
    rw [Option.some.inj h] at this
    exact ⟨_, this⟩
  · cases h

theorem loop_ok {Y : Type} {fin : {R : Type} → St → (Y → Option R) → Option R} {RetOk : Y → Act → World → Prop} {id : Nat} {body : Code}
    (IH : ∀ {R : Type} (inj : Y → R) (st : St) (kn : St → Option R) (ke : Nat → St → Option R) (y : R) (a : Act) (w : World) (g : Gh), exec C fin body inj st kn ke = some y → RelS P nt w0 o0 io c0 st.nx st a w g → body.wp P (PostX P nt w0 o0 io c0 RetOk inj st kn ke y) a w)
    {R : Type} (inj : Y → R) (st : St) (kn : St → Option R) (ke : Nat → St → Option R) (y : R) (a : Act) (w : World) (g : Gh) (h : exec C fin (.block id (.loop body)) inj st kn ke = some y) (r : RelS P nt w0 o0 io c0 st.nx st a w g) :
    (Code.block id (.loop body)).wp P (PostX P nt w0 o0 io c0 RetOk inj st kn ke y) a w := by
  unfold exec at h
  cases hl : C.lp id with
  | none =>
    simp only [hl] at h
    simp only [exec] at h
    cases h
  | some an =>
    simp only [hl] at h
    obtain ⟨d, us, g1, h1, hst, U, r1⟩ := pack_ok (K := fun v0 us => (loopF (E := Sum (itemsTy an.items).D R) (fun v => exec C fin body (R := Sum (itemsTy an.items).D (Sum (itemsTy an.items).D R)) (fun y => .inr (.inr (inj y)))
            { reState st us an v with tw := [], mw := [] }
            (fun st' => repack st st' an fun v => some (.inl v))
            (fun id' st' => bif Nat.beq id' id then repack st st' an fun v => some (.inr (.inl v)) else none)) v0).bind fun r => Sum.elim
          (fun v => kn (reState st us an v)) some r) h r
    obtain ⟨x, hx, hy⟩ := Option.bind_eq_some_iff.1 h1
    obtain ⟨n, hn⟩ := loopF_some hx
    refine wp_block (wp_loop_rounds n ?_)
    have key : ∀ (n : Nat) (v : (itemsTy an.items).D) (a : Act) (w : World) (g : Gh), loopIter (E := Sum (itemsTy an.items).D R) (fun v => exec C fin body (R := Sum (itemsTy an.items).D (Sum (itemsTy an.items).D R)) (fun y => .inr (.inr (inj y)))
            { reState st us an v with tw := [], mw := [] }
            (fun st' => repack st st' an fun v => some (.inl v))
            (fun id' st' => bif Nat.beq id' id then repack st st' an fun v => some (.inr (.inl v)) else none)) n v = some x →
        RelS P nt w0 o0 io c0 (st.nx + 1) (reState st us an v) a w g → Code.rounds P body (Exit.inBlock id (PostX P nt w0 o0 io c0 RetOk inj st kn ke y)) n a w := by
      intro n
      induction n with
      | zero => intro v a w g h _; cases h
      | succ n ih =>
        intro v a w g h r2
        rw [rounds_succ]
        simp only [loopIter] at h
        cases hf : exec C fin body (R := Sum (itemsTy an.items).D (Sum (itemsTy an.items).D R)) (fun y => .inr (.inr (inj y)))
            { reState st us an v with tw := [], mw := [] }
            (fun st' => repack st st' an fun v => some (.inl v))
            (fun id' st' => bif Nat.beq id' id then repack st st' an fun v => some (.inr (.inl v)) else none) with
        | none => rw [hf] at h; cases h
        | some f =>
          rw [hf] at h
          have r3 : RelS P nt w0 o0 io c0 ({ reState st us an v with tw := [], mw := [] } : St).nx { reState st us an v with tw := [], mw := [] } a w g := by
            show RelS P nt w0 o0 io c0 (reState st us an v).nx _ a w g
            rw [reState_nx]; exact r2.forget
          refine Code.wp_mono ?_ (IH _ _ _ _ f a w g hf r3)
          have hB : Bas (reState st us an v).env (reState st us an v).mu (st.nx * 2048) { reState st us an v with tw := [], mw := [] } := by
            refine ⟨fun _ _ => rfl, fun _ _ => .refl, ?_⟩
            show st.nx * 2048 ≤ (reState st us an v).nx * 2048
            rw [reState_nx]
            exact Nat.mul_le_mul_right _ (Nat.le_succ _)
          rintro e a' w' hq
          cases e with
          | normal =>
            obtain ⟨st', g', h1, r1, e1⟩ := hq
            obtain ⟨v2, g2, h2, r4⟩ := repack_ok (hS := { reState st us an v with tw := [], mw := [] }) h1 r r1 hst U HdOk.loop (e1 _ _ _ hB)
            simp only [Option.some.injEq] at h2
            subst h2
            exact ih v2 a' w' g2 h r4
          | exit id' =>
            obtain ⟨st', g', h1, r1, e1⟩ := hq
            dsimp only at h1
            show (if id' = id then _ else _)
            cases hid : Nat.beq id' id with
            | false => rw [hid] at h1; cases h1
            | true =>
              rw [hid] at h1
              simp only [cond_true] at h1
              rw [if_pos (Nat.eq_of_beq_eq_true hid)]
              obtain ⟨v2, g2, h2, r4⟩ := repack_ok (hS := { reState st us an v with tw := [], mw := [] }) h1 r r1 hst U HdOk.loop (e1 _ _ _ hB)
              simp only [Option.some.injEq] at h2
              subst h2
              simp only [Option.some.injEq] at h
              subst h
              have hy : kn (reState st us an v2) = some y := hy
              exact ⟨_, g2, hy, by rw [reState_nx]; exact r4, fun e m N hb => hb.reState⟩
          | ret =>
            obtain ⟨z, hz, hz2⟩ := hq
            subst hz
            simp only [Option.some.injEq] at h
            subst h
            have hy : some (inj z) = some y := hy
            cases hy
            exact ⟨z, rfl, hz2⟩
          | goto _ => exact hq.elim
          | panic _ => exact hq.elim
          | outgrown => exact hq.elim
    exact key n d a w g1 hn r1

theorem exec_ok {Y : Type} {fin : {R : Type} → St → (Y → Option R) → Option R} {RetOk : Y → Act → World → Prop} (hm : P.follows .mixedOrders = true) (hty : ∀ t ti, C.ty t = some ti → tiOf P t = some ti) (hC : CtxOk P C) (hnt : C.nt = nt)
    (hfin : ∀ {R : Type} (st : St) (K : Y → Option R) (y : R) (a : Act) (w : World) (g : Gh), RelS P nt w0 o0 io c0 st.nx st a w g → fin st K = some y → ∃ z, K z = some y ∧ RetOk z a w) :
    ∀ (c : Code) {R : Type} (inj : Y → R) (st : St) (kn : St → Option R) (ke : Nat → St → Option R) (y : R) (a : Act) (w : World) (g : Gh), exec C fin c inj st kn ke = some y → RelS P nt w0 o0 io c0 st.nx st a w g →
      c.wp P (PostX P nt w0 o0 io c0 RetOk inj st kn ke y) a w
  | .skip, R, inj, st, kn, ke, y, a, w, g, h, r => wp_skip ⟨st, g, h, r, .refl st⟩
  | .region rid ops draw, R, inj, st, kn, ke, y, a, w, g, h, r => by
    have h : regionU C rid ops draw st kn = some y := h
    cases draw with
    | false => exact regionU_text hty hC hnt h r fun st' a' w' g' h1 h2 h3 => ⟨st', g', h1, h2, h3⟩
    | true => exact regionU_draw hm hty hC hnt h r fun st' a' w' g' h1 h2 h3 => ⟨st', g', h1, h2, h3⟩
  | .seq c d, R, inj, st, kn, ke, y, a, w, g, h, r => by
    simp only [exec] at h
    refine wp_seq ?_
    cases hj : C.jn (firstRegion d) with
    | none =>
      simp only [hj] at h
      refine Code.wp_mono ?_ (exec_ok hm hty hC hnt hfin c inj st _ ke y a w g h r)
      rintro e a' w' hq
      cases e with
      | normal =>
        obtain ⟨st', g', h1, r1, e1⟩ := hq
        refine Code.wp_mono ?_ (exec_ok hm hty hC hnt hfin d inj st' kn ke y a' w' g' h1 r1)
        rintro e a2 w2 hq
        cases e with
        | normal => obtain ⟨s2, g2, h2, r2, e2⟩ := hq; exact ⟨s2, g2, h2, r2, e1.trans e2⟩
        | exit id => obtain ⟨s2, g2, h2, r2, e2⟩ := hq; exact ⟨s2, g2, h2, r2, e1.trans e2⟩
        | ret => exact hq
        | goto _ => exact hq.elim
        | panic _ => exact hq.elim
        | outgrown => exact hq.elim
      | exit id => exact hq
      | ret => exact hq
      | goto _ => exact hq.elim
      | panic _ => exact hq.elim
      | outgrown => exact hq.elim
    | some an =>
      simp only [hj] at h
      cases hst : stOk st an with
      | false => rw [hst] at h; cases h
      | true =>
        rw [hst] at h
        simp only [cond_true] at h
        obtain ⟨x, hx, hy⟩ := Option.bind_eq_some_iff.1 h
        refine Code.wp_mono ?_ (exec_ok hm hty hC hnt hfin c (fun y => .inr (inj y)) { st with tw := [], mw := [] } _ _ x a w g hx r.forget)
        rintro e a' w' hq
        cases e with
        | normal =>
          obtain ⟨st', g', h1, r1, e1⟩ := hq
          have B := e1 st.env st.mu (st.nx * 2048) Bas.start
          obtain ⟨v, g2, h2, r2⟩ := repack_ok (us0 := []) (hS := { st with tw := [], mw := [] }) h1 r r1 hst ⟨rfl, by simp, .inl rfl⟩ HdOk.joint B
          simp only [Option.some.injEq] at h2
          subst h2
          have hy : exec C fin d inj (reState st [] an v) kn ke = some y := hy
          refine Code.wp_mono ?_ (exec_ok hm hty hC hnt hfin d inj (reState st [] an v) kn ke y a' w' g2 hy (by rw [reState_nx]; exact r2))
          rintro e a2 w2 hq
          have e0 : Ext st (reState st [] an v) := fun e m N hb => hb.reState
          cases e with
          | normal => obtain ⟨s2, g2, h2, r2, e2⟩ := hq; exact ⟨s2, g2, h2, r2, e0.trans e2⟩
          | exit id => obtain ⟨s2, g2, h2, r2, e2⟩ := hq; exact ⟨s2, g2, h2, r2, e0.trans e2⟩
          | ret => exact hq
          | goto _ => exact hq.elim
          | panic _ => exact hq.elim
          | outgrown => exact hq.elim
        | exit id =>
          obtain ⟨st', g', h1, r1, e1⟩ := hq
          obtain ⟨z, hz, hz2⟩ := Option.map_eq_some_iff.1 h1
          subst hz2
          have hy : some z = some y := hy
          cases hy
          exact ⟨_, g', hz, r1.forget, fun e m N hb => hb.trans (e1 st.env st.mu (st.nx * 2048) Bas.start)⟩
        | ret =>
          obtain ⟨z, hz, hz2⟩ := hq
          subst hz
          have hy : some (inj z) = some y := hy
          cases hy
          exact ⟨z, rfl, hz2⟩
        | goto _ => exact hq.elim
        | panic _ => exact hq.elim
        | outgrown => exact hq.elim
  | .cond c x z, R, inj, st, kn, ke, y, a, w, g, h, r => by
    simp only [exec] at h
    cases c <;> simp only at h <;> try (cases h; done)
    case tmp t =>
      have hv := r.rel.env t
      cases ht : st.env t <;> simp only [ht] at h <;> try (cases h; done)
      case c cv =>
        cases cv <;> simp only at h <;> try (cases h; done)
        case bool b =>
          rw [ht] at hv
          have hv : a.eval (.tmp t) = .bool b := hv
          refine wp_cond hv ?_
          have hr := refine_self ht
          cases b with
          | true => simp only [cond_true, hr] at h; exact exec_ok hm hty hC hnt hfin x inj st kn ke y a w g h r
          | false => simp only [cond_false, hr] at h; exact exec_ok hm hty hC hnt hfin z inj st kn ke y a w g h r
  | .block id c, R, inj, st, kn, ke, y, a, w, g, h, r => by
    cases hl : C.lp id with
    | none =>
      unfold exec at h
      simp only [hl] at h
      refine wp_block (Code.wp_mono ?_ (exec_ok hm hty hC hnt hfin c inj st kn _ y a w g h r))
      rintro e a' w' hq
      cases e with
      | normal => exact hq
      | exit id' =>
        obtain ⟨st', g', h1, r1, e1⟩ := hq
        dsimp only at h1
        show (if id' = id then _ else _)
        cases hid : Nat.beq id' id with
        | true =>
          rw [if_pos (Nat.eq_of_beq_eq_true hid)]
          rw [hid] at h1
          exact ⟨st', g', h1, r1, e1⟩
        | false =>
          rw [if_neg (fun e => by rw [e, Nat.beq_refl] at hid; cases hid)]
          rw [hid] at h1
          exact ⟨st', g', h1, r1, e1⟩
      | ret => exact hq
      | goto _ => exact hq.elim
      | panic _ => exact hq.elim
      | outgrown => exact hq.elim
    | some an =>
      cases c with
      | loop body => exact loop_ok (fun inj st kn ke y a w g h r => exec_ok hm hty hC hnt hfin body inj st kn ke y a w g h r) inj st kn ke y a w g h r
      | _ =>
        unfold exec at h
        simp only [hl] at h
        cases h
  | .exit id, R, inj, st, kn, ke, y, a, w, g, h, r => wp_exit ⟨st, g, h, r, .refl st⟩
  | .ret, R, inj, st, kn, ke, y, a, w, g, h, r => by
    obtain ⟨z, hz, hr⟩ := hfin st _ y a w g r h
    simp only [Option.some.injEq] at hz
    exact wp_ret ⟨z, hz, hr⟩
  | .loop _, _, _, _, _, _, _, _, _, _, h, _ => by simp [exec] at h
  | .rangeFunc _ _ _ _, _, _, _, _, _, _, _, _, _, h, _ => by simp [exec] at h
  | .scope _, _, _, _, _, _, _, _, _, _, h, _ => by simp [exec] at h
  | .label _, _, _, _, _, _, _, _, _, _, h, _ => by simp [exec] at h
  | .goto _, _, _, _, _, _, _, _, _, _, h, _ => by simp [exec] at h
  | .refuse _, _, _, _, _, _, _, _, _, _, h, _ => by simp [exec] at h
end
end Go.Tm

/- The pure machine, 45: a function's end. -/
namespace Go.Tm
open Go

/-- What a result variable comes to. -/
def ResRun (P : Program) (tmps : Array Value) (w : World) (rv : ResultVar) (v : Value) : Prop :=
  (match rv with
    | .tmp t => pure (tmps.getD t undef)
    | .cell a t => do loadVar t (← asAddr (tmps.getD a undef)) : Sem Value).run P w = .ok v w

theorem results_ok {P : Program} {fn : Func} {tmps : Array Value} {w : World} {vs : List Value} (h : All2 (ResRun P tmps w) fn.results.toList vs) : (results fn tmps).run P w = .ok (retOf vs) w := by
  have key : ∀ (rvs : List ResultVar) (vs : List Value), All2 (ResRun P tmps w) rvs vs → (rvs.mapM fun rv => (match rv with
    | .tmp t => pure (tmps.getD t undef)
    | .cell a t => do loadVar t (← asAddr (tmps.getD a undef)) : Sem Value)).run P w = .ok vs w := by
    intro rvs
    induction rvs with
    | nil => intro vs h; cases vs; rfl; exact h.elim
    | cons rv rvs ih =>
      intro vs h
      cases vs with
      | nil => exact h.elim
      | cons v vs =>
        have h1 := ih vs h.2
        have h0 : _ = _ := h.1
        rw [List.mapM_cons, Sem.run_bind, h0]
        simp only [Result.andThen_ok, Sem.run_bind, h1]
        rfl
  unfold results
  rw [Sem.run_bind]
  have : (fn.results.mapM fun rv => (match rv with
    | .tmp t => pure (tmps.getD t undef)
    | .cell a t => do loadVar t (← asAddr (tmps.getD a undef)) : Sem Value)).run P w = .ok vs.toArray w := by
    rw [Array.mapM_eq_mapM_toList, Sem.run_map, key _ _ h]
    rfl
  refine (congrArg (fun r => Result.andThen r (fun (a : Array Value) w' => Sem.run P (pure (if h : a.size = 1 then a[0] else Value.tuple a)) w')) this).trans ?_
  simp only [Result.andThen_ok]
  match vs with
  | [] => rfl
  | [v] => rfl
  | _ :: _ :: _ => rfl

section
variable {P : Program} {C : Ctx} {w : World} {g : Gh} {st : St} {a : Act} {R : Type}

theorem resU_ok (hty : ∀ t ti, C.ty t = some ti → tiOf P t = some ti) (henv : ∀ t, (st.env t).R P w g st.mu (a.tmps.getD t undef)) (hm : MemR P w g st.mu) {gr : Grp} {to : Nat} {rv : ResultVar} {us : List Use} {K : List CV → List Use → Option R} {y : R}
    (h : resU C st gr to rv us K = some y) : ∃ cvs vs new v, K cvs (new ++ us) = some y ∧ cvsR P w g st.mu cvs vs ∧ ResRun P a.tmps w rv v ∧
      ((gr.k = .c ∧ vs = [v] ∧ new = []) ∨ (gr.k = .agg ∧ v = .agg vs.toArray ∧ new = []) ∨
        (gr.k = .np ∧ ∃ id b base, new = [.mv id to] ∧ v = .pointer (some ⟨b, base, none⟩) ∧ ∀ k u, vs[k]? = some u → w.cell? ⟨b, base + k, none⟩ = some u ∧ g.o b (base + k) = .o [id])) := by
  cases rv with
  | tmp t =>
    have hv := henv t
    simp only [resU] at h
    split at h
    · rename_i v hk he
      rw [he] at hv
      exact ⟨_, [a.tmps.getD t undef], [], _, h, ⟨hv, trivial⟩, rfl, .inl ⟨hk, rfl, rfl⟩⟩
    · rename_i vs hk he
      rw [he] at hv
      obtain ⟨ar, hav, har⟩ := hv
      exact ⟨_, ar.toList, [], _, h, har, rfl, .inr (.inl ⟨hk, by rw [hav], rfl⟩)⟩
    · rename_i id hk he
      rw [he] at hv
      obtain ⟨_, b, base, hc, hp⟩ := hv
      cases hb : st.mu id with
      | none => simp [hb] at h
      | some bl =>
        have hbr := hm id bl hb
        cases bl <;> simp only [hb] at h <;> try (cases h; done)
        case box cs =>
          obtain ⟨b', base', hc', hcs⟩ := hbr
          rw [hc] at hc'; cases hc'
          obtain ⟨vs, h1, h2⟩ := box_vs (P := P) (mu := st.mu) cs hcs
          exact ⟨cs, vs, [.mv id to], _, h, h1, rfl, .inr (.inr ⟨hk, id, b, base, rfl, by simpa using hp, h2⟩)⟩
    · cases h
  | cell x t =>
    simp only [resU] at h
    split at h
    · rename_i ti cv ht he
      have hv := henv x
      rw [he] at hv
      cases hag : aggOk gr.k ti.k with
      | false => simp [hag] at h
      | true =>
        simp only [hag, cond_true] at h
        obtain ⟨inf, d, z, h1, h2, h3, h4, harr, h6, h7, h8, h9, h10, h11⟩ := ti_ok (hty t ti ht)
        obtain ⟨cvs, vs, b, base, h, hcv, hlen, hvx, hcell⟩ := loadU_ok hm hv h
        have hrun := run_loadCells_list (P := P) w ⟨b, base, none⟩ vs (fun j v hj => by rw [Addr.add_lit]; exact hcell j v hj)
        rcases h11 with ⟨fs, hd, hfs, hfl, hagg, _⟩ | ⟨hns, hs1, _⟩
        · subst hd
          have hk : ti.k = .struct := h9
          have hgk : gr.k = .agg := by rw [hk] at hag; cases hg : gr.k <;> rw [hg] at hag <;> simp [aggOk] at hag ⊢
          rw [hlen, h7] at hrun
          exact ⟨cvs, vs, [], .agg vs.toArray, h, hcv, by simp [ResRun, hvx, asAddr, loadVar, isAgg, run_underlying h2, sizeOf, run_typeInfo w h1, hrun], .inr (.inl ⟨hgk, rfl, rfl⟩)⟩
        · have hgk : gr.k = .c := by
            cases hg : gr.k <;> rw [hg] at hag <;> cases hk : ti.k <;> rw [hk] at hag <;> simp [aggOk] at hag ⊢
            rw [hk] at h9
            exact absurd (struct_iff.1 h9.symm) (by simpa using hns)
          rw [h7, hs1] at hlen
          obtain ⟨u, rfl⟩ := List.length_eq_one_iff.1 hlen
          have hc0 := hcell 0 u rfl
          have hagg : (isAgg t).run P w = .ok false w := by
            simp only [isAgg, Sem.run_bind, run_underlying h2, Result.andThen_ok]
            cases d <;> first | rfl | (simp [isArr] at harr; done) | exact absurd rfl (hns _)
          simp only [Nat.add_zero] at hc0
          exact ⟨cvs, [u], [], u, h, hcv, by simp [ResRun, hvx, asAddr, loadVar, hagg, hc0], .inl ⟨hgk, rfl, rfl⟩⟩
    · cases h

/-- What is written where it is, at a function's end. -/
def TgE (P : Program) (w : World) (g : Gh) (mu : Mu) : Tg → Bk → Prop
  | .bx id, .bx b off => g.c id = .box b off
  | .cv cs, .vs l => cvsR P w g mu cs l
  | _, _ => False

theorem finG_ok (hty : ∀ t ti, C.ty t = some ti → tiOf P t = some ti) (henv : ∀ t, (st.env t).R P w g st.mu (a.tmps.getD t undef)) (hm : MemR P w g st.mu) (hw : Wf w g.o) : ∀ (outs : List Grp) (r : Nat) (rvs : List ResultVar) (io : List Tg) {ioa : List Bk} {us : List Use} {R : Type} {K : GD outs → List Use → Option R} {y : R},
    finG C st outs r rvs io us K = some y → All2 (TgE P w g st.mu) io ioa →
    ∃ z new vs, K z (new ++ us) = some y ∧ All2 (ResRun P a.tmps w) rvs vs ∧ rvs.length + io.length = outs.length ∧
      ∀ w' o', PermKeep w g.o w' o' → (∀ u ∈ new, Served (fun to => .o [to]) w g.o w' o' u) → OutsR P w' o' outs r z vs ioa
  | [], r, [], [], ioa, us, R, K, y, h, hio => by
    cases ioa with
    | cons _ _ => exact hio.elim
    | nil => exact ⟨(), [], [], h, trivial, rfl, fun _ _ _ _ => ⟨rfl, rfl⟩⟩
  | [], r, _ :: _, _, ioa, us, R, K, y, h, hio => by simp [finG] at h
  | [], r, [], _ :: _, ioa, us, R, K, y, h, hio => by simp [finG] at h
  | gr :: gs, r, rv :: rvs, io, ioa, us, R, K, y, h, hio => by
    simp only [finG] at h
    obtain ⟨cvs, vs, new0, v, h, hcv, hrun, hlink⟩ := resU_ok (a := a) hty henv hm h
    obtain ⟨x, rest, new1, vs1, vs2, h, hspl, hrest, hlen, hV⟩ := packs_ok hm hw (fun to => .o [to]) app0_ok gr.ts hcv h
    cases rest with
    | cons _ _ => cases h
    | nil =>
      cases vs2 with
      | cons _ _ => exact hrest.elim
      | nil =>
        rw [List.append_nil] at hspl
        subst hspl
        obtain ⟨z, new2, vss, h, hruns, hl, hO⟩ := finG_ok hty henv hm hw gs (r + 1) rvs io h hio
        refine ⟨(x, z), new2 ++ (new1 ++ new0), v :: vss, by rw [List.append_assoc, List.append_assoc]; exact h, ⟨hrun, hruns⟩, by simp only [List.length_cons]; omega, fun w' o' hp hs => ⟨?_, hO w' o' hp fun u hu => hs u (by simp [hu])⟩⟩
        have hV' := hV w' o' hp fun u hu => hs u (by simp [hu])
        unfold OutR
        rcases hlink with ⟨hk, rfl, _⟩ | ⟨hk, rfl, _⟩ | ⟨hk, id, b, base, rfl, rfl, hc⟩
        · simp only [hk]; exact hV'
        · simp only [hk]; exact ⟨_, rfl, by simpa using hV'⟩
        · simp only [hk]
          refine ⟨b, base, rfl, Vs_hs gr.ts hV' fun k u hku => ?_⟩
          obtain ⟨h3, h4⟩ := hc k u hku
          rcases Served.mv (hs (.mv id (64 * r)) (by simp)) with ⟨_, e, hs⟩ | ⟨e, _⟩
          · cases e; have := hs b _ [] u h3 (by simpa using h4); simpa using this
          · cases e
  | gr :: gs, r, [], [], ioa, us, R, K, y, h, hio => by simp [finG] at h
  | gr :: gs, r, [], id :: io, [], us, R, K, y, h, hio => hio.elim
  | gr :: gs, r, [], .bx _ :: io, .vs _ :: ioa, us, R, K, y, h, hio => hio.1.elim
  | gr :: gs, r, [], .cv _ :: io, .bx _ _ :: ioa, us, R, K, y, h, hio => hio.1.elim
  | gr :: gs, r, [], .cv cs :: io, .vs l :: ioa, us, R, K, y, h, hio => by
    simp only [finG] at h
    have hcs : cvsR P w g st.mu cs l := hio.1
    obtain ⟨x, rest, new1, vs1, vs2, h, hspl, hrest, hlen, hV⟩ := packs_ok hm hw (fun to => .o [to]) app0_ok gr.ts hcs h
    cases rest with
    | cons _ _ => cases h
    | nil =>
      cases vs2 with
      | cons _ _ => exact hrest.elim
      | nil =>
        rw [List.append_nil] at hspl
        subst hspl
        obtain ⟨z, new2, vss, h, hruns, hl, hO⟩ := finG_ok hty henv hm hw gs (r + 1) [] io h hio.2
        cases vss with
        | cons _ _ => exact hruns.elim
        | nil =>
          refine ⟨(x, z), new2 ++ new1, [], by rw [List.append_assoc]; exact h, trivial, by simp only [List.length_cons, List.length_nil] at hl ⊢; omega, fun w' o' hp hs => ⟨?_, hO w' o' hp fun u hu => hs u (by simp [hu])⟩⟩
          exact hV w' o' hp fun u hu => hs u (by simp [hu])
  | gr :: gs, r, [], .bx id :: io, .bx pb po :: ioa, us, R, K, y, h, hio => by
    simp only [finG] at h
    cases hb : st.mu id with
    | none => simp [hb] at h
    | some bl =>
      have hbr := hm id bl hb
      cases bl <;> simp only [hb] at h <;> try (cases h; done)
      case box cs =>
        obtain ⟨b', base', hc', hcs⟩ := hbr
        have e : g.c id = .box pb po := hio.1
        rw [hc'] at e
        simp only [Conc.box.injEq] at e
        obtain ⟨vs, h1, h2⟩ := box_vs (P := P) (mu := st.mu) cs hcs
        obtain ⟨x, rest, new1, vs1, vs2, h, hspl, hrest, hlen, hV⟩ := packs_ok hm hw (fun to => .o [to]) app0_ok gr.ts h1 h
        cases rest with
        | cons _ _ => cases h
        | nil =>
          cases vs2 with
          | cons _ _ => exact hrest.elim
          | nil =>
            rw [List.append_nil] at hspl
            subst hspl
            obtain ⟨z, new2, vss, h, hruns, hl, hO⟩ := finG_ok hty henv hm hw gs (r + 1) [] io h hio.2
            cases vss with
            | cons _ _ => exact hruns.elim
            | nil =>
              refine ⟨(x, z), new2 ++ (new1 ++ [.mv id (64 * r)]), [], by rw [List.append_assoc, List.append_assoc]; exact h, trivial, by simp only [List.length_cons, List.length_nil] at hl ⊢; omega, fun w' o' hp hs => ⟨?_, hO w' o' hp fun u hu => hs u (by simp [hu])⟩⟩
              have hV' := hV w' o' hp fun u hu => hs u (by simp [hu])
              rw [← e.1, ← e.2]
              refine Vs_hs gr.ts hV' fun k u hku => ?_
              obtain ⟨h3, h4⟩ := h2 k u hku
              rcases Served.mv (hs (.mv id (64 * r)) (by simp)) with ⟨_, e, hs⟩ | ⟨e, _⟩
              · cases e; have := hs b' _ [] u h3 (by simpa using h4); simpa using this
              · cases e

variable {nt : Nat} {w0 : World} {o0 : Nat → Nat → Own} {c0 : Nat → Conc}

/-- What stands where a function ends. -/
def RetOk (P : Program) (fn : Func) (outs : List Grp) (ioa : List Bk) (w0 : World) (o0 : Nat → Nat → Own) (z : GD outs) (a : Act) (w : World) : Prop :=
  a.defers = [] ∧ ∃ vs o', (results fn a.tmps).run P w = .ok (retOf vs) w ∧ vs.length + ioa.length = outs.length ∧ Fr w0 o0 w o' ∧ Wf w o' ∧ OutsR P w o' outs 0 z vs ioa

/-- What is told of a cell where a function begins. -/
def CV.S0 (P : Program) (w : World) (o : Nat → Nat → Own) (c0 : Nat → Conc) : CV → Value → Prop
  | .int k n, v => v = .int k n
  | .bool b, v => v = .bool b
  | .str s, v => v = .string s
  | .ro es xs, v => (Ty.sl es).H P w o .sh .p xs v
  | .fnd sh as rs h, v => (Ty.fn sh as rs).H P w o .sh .p h v
  | .own id, v => c0 id = .row v ∧ ∃ a n c, v = .slice a n c
  | _, _ => False
def TgS (P : Program) (w : World) (o : Nat → Nat → Own) (c0 : Nat → Conc) : Tg → Bk → Prop
  | .bx id, .bx b off => c0 id = .box b off
  | .cv cs, .vs l => All2 (CV.S0 P w o c0) cs l
  | _, _ => False
def cvIds : List CV → List Nat
  | [] => []
  | .own id :: r => id :: cvIds r
  | _ :: r => cvIds r
def tgIds : List Tg → List Nat
  | [] => []
  | .bx id :: r => id :: tgIds r
  | .cv cs :: r => cvIds cs ++ tgIds r

theorem S0_R {mu : Mu} {l0 : List Nat} (hp : PermKeep w0 o0 w g.o) (hw : Wf w0 o0) (hid : ∀ id ∈ l0, g.c id = c0 id ∧ mu id ≠ none) : ∀ {cs : List CV} {l : List Value}, (∀ id ∈ cvIds cs, id ∈ l0) → All2 (CV.S0 P w0 o0 c0) cs l → cvsR P w g mu cs l
  | [], [], _, _ => trivial
  | [], _ :: _, _, h => h.elim
  | _ :: _, [], _, h => h.elim
  | c :: cs, v :: l, hs, h => by
    have rest : cvsR P w g mu cs l := S0_R hp hw hid (fun id hi => hs id (by cases c <;> simp [cvIds, hi])) h.2
    refine ⟨?_, rest⟩
    have h1 := h.1
    cases c <;> try (exact h1.elim; done)
    case int => exact h1
    case bool => exact h1
    case str => exact h1
    case ro es xs => exact H_re hp hw (.sl es) .sh .p .p xs v rfl h1
    case fnd sh as rs k => exact H_re hp hw (.fn sh as rs) .sh .p .p k v rfl h1
    case own id =>
      obtain ⟨h2, h3⟩ := hid id (hs id (by simp [cvIds]))
      exact ⟨h3, h2.trans h1.1, h1.2⟩

theorem TgS_E {mu : Mu} {l0 : List Nat} (hp : PermKeep w0 o0 w g.o) (hw : Wf w0 o0) (hid : ∀ id ∈ l0, g.c id = c0 id ∧ mu id ≠ none) : ∀ {io : List Tg} {ioa : List Bk}, (∀ id ∈ tgIds io, id ∈ l0) → All2 (TgS P w0 o0 c0) io ioa → All2 (TgE P w g mu) io ioa
  | [], [], _, _ => trivial
  | [], _ :: _, _, h => h.elim
  | _ :: _, [], _, h => h.elim
  | .bx id :: io, .bx b off :: ioa, hs, h => ⟨(hid id (hs id (by simp [tgIds]))).1.trans h.1, TgS_E hp hw hid (fun id hi => hs id (by simp [tgIds, hi])) h.2⟩
  | .cv cs :: io, .vs l :: ioa, hs, h => ⟨S0_R hp hw hid (fun id hi => hs id (by simp [tgIds, hi])) h.1, TgS_E hp hw hid (fun id hi => hs id (by simp [tgIds, hi])) h.2⟩
  | .bx _ :: _, .vs _ :: _, _, h => h.1.elim
  | .cv _ :: _, .bx _ _ :: _, _, h => h.1.elim

theorem fin_ok (hty : ∀ t ti, C.ty t = some ti → tiOf P t = some ti) (hw0 : Wf w0 o0) {fn : Func} {ins outs : List Grp} {x : GD ins} {ioa : List Bk} (hio : All2 (TgS P w0 o0 c0) (ioNums ins 0 x) ioa) {R : Type} (st : St) (K : GD outs → Option R) (y : R) (a : Act) (w : World) (g : Gh)
    (r : RelS P nt w0 o0 (tgIds (ioNums ins 0 x)) c0 st.nx st a w g) (h : finU C fn ins outs x st K = some y) : ∃ z, K z = some y ∧ RetOk P fn outs ioa w0 o0 z a w := by
  have hio' : All2 (TgE P w g st.mu) (ioNums ins 0 x) ioa := TgS_E r.rel.fr.perm hw0 (fun id hid => r.io id hid) (fun _ h => h) hio
  unfold finU at h
  obtain ⟨z, new, vs, h, hruns, hl, hO⟩ := finG_ok (a := a) hty r.rel.env r.rel.mem r.rel.wf outs 0 _ _ h hio'
  rw [List.append_nil] at h
  cases hu : usesOk new with
  | false => rw [hu] at h; cases h
  | true =>
    rw [hu] at h
    have hf : ∀ id s, tellF 0 new id s ≠ .o [] := by
      intro id s
      unfold tellF
      split
      · simp
      · simp
      · split <;> simp
    refine ⟨z, h, r.df, vs, (tellG 0 new [] g).o, results_ok hruns, ?_, r.rel.fr.trans r.rel.wf ?_, ⟨fun b k π h => ?_, fun b k => re_ne hf⟩, hO w _ tell_perm (tell_served hu)⟩
    · rw [← hl, ← hruns.length, hio'.length]
    · refine ⟨rfl, rfl, rfl, Nat.le_refl _, fun _ _ _ => rfl, fun b k v hv hn => ⟨hv, ?_⟩, fun b k v hv => ⟨v, hv⟩, fun _ _ _ => rfl⟩
      show re (tellF 0 new) (g.o b k) = _
      cases hq : g.o b k with
      | x => rfl
      | p => rfl
      | o π => exact absurd hq (hn π)
    · obtain ⟨id, s, hq, _⟩ := re_o h
      exact r.rel.wf.cell b k _ hq
end
end Go.Tm
