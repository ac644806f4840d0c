/- A machine over plain data, part 4: what it gives is shown to be what the program's functions return. Conditions: none. -/
import Derived.Test.YtphaibffjdfhpaaGreatTm3
import Derived.ChangeArms
import Derived.ChangeShapes
import Derived.WideShapes
import Derived.Below
import Derived.Shelf.Spec.SlicesInsertGrow
set_option linter.unusedVariables false
/- The pure machine, 46: a function's beginning; what the pure machine gives is what the function returns. -/
namespace Go.Tm
open Go

section
variable {P : Program} {C : Ctx} {w : World} {o : Nat → Nat → Own}

/-- What is handed in, group by group: the values of the cells, and where a box lies. -/
def ArgsT (P : Program) (w : World) (o : Nat → Nat → Own) (tv : Nat → List Value) (ta : Nat → Nat × Nat) : (gs : List Grp) → (m : Nat) → GD gs → List Value → Prop
  | [], _, _, vs => vs = []
  | g :: gs, m, x, vs => ∃ v r, vs = v :: r ∧ (match g.k with
      | .c => g.ts.Vs P w o g.ms (fun j => .o [j]) (64 * m + 1) x.1 (tv m) ∧ tv m = [v]
      | .agg => g.ts.Vs P w o g.ms (fun j => .o [j]) (64 * m + 1) x.1 (tv m) ∧ v = .agg (tv m).toArray
      | .rp => ∃ b base, v = .pointer (some ⟨b, base, none⟩) ∧ g.ts.Hs P w o [] .p (fun _ => .p) 0 x.1 b base
      | .io => g.ts.Vs P w o g.ms (fun j => .o [j]) (64 * m + 1) x.1 (tv m) ∧ v = .pointer (some ⟨(ta m).1, (ta m).2, none⟩) ∧ ∀ k u, (tv m)[k]? = some u → w.cell? ⟨(ta m).1, (ta m).2 + k, none⟩ = some u ∧ o (ta m).1 ((ta m).2 + k) = .o [64 * m]
      | .np => False
      | .wc => g.ts.Vs P w o g.ms (fun j => .o [j]) (64 * m + 1) x.1 (tv m) ∧ tv m = [v]
      | .wa => g.ts.Vs P w o g.ms (fun j => .o [j]) (64 * m + 1) x.1 (tv m) ∧ v = .agg (tv m).toArray) ∧ ArgsT P w o tv ta gs (m + 1) x.2 r

theorem ArgsT.congr {tv tv' : Nat → List Value} {ta ta' : Nat → Nat × Nat} : ∀ (gs : List Grp) (m : Nat) {x : GD gs} {vs : List Value}, (∀ i, m ≤ i → tv' i = tv i ∧ ta' i = ta i) → ArgsT P w o tv ta gs m x vs → ArgsT P w o tv' ta' gs m x vs
  | [], _, _, _, _, h => h
  | g :: gs, m, x, vs, hc, h => by
    obtain ⟨v, r, rfl, h1, h2⟩ := h
    have h0 := hc m (Nat.le_refl _)
    refine ⟨v, r, rfl, ?_, ArgsT.congr gs (m + 1) (fun i hi => hc i (by omega)) h2⟩
    rw [h0.1, h0.2]; exact h1

theorem args_tab : ∀ (gs : List Grp) (m : Nat) {x : GD gs} {vs : List Value}, ArgsR P w o gs m x vs → ∃ tv ta, ArgsT P w o tv ta gs m x vs
  | [], _, _, _, h => ⟨fun _ => [], fun _ => (0, 0), h⟩
  | g :: gs, m, x, vs, h => by
    obtain ⟨v, r, rfl, h1, h2⟩ := h
    obtain ⟨tv, ta, ht⟩ := args_tab gs (m + 1) h2
    have rest : ∀ (l : List Value) (p : Nat × Nat), ArgsT P w o (fun i => if i = m then l else tv i) (fun i => if i = m then p else ta i) gs (m + 1) x.2 r :=
      fun l p => ArgsT.congr gs (m + 1) (fun i hi => ⟨by simp; omega, by simp; omega⟩) ht
    unfold ArgR at h1
    cases hk : g.k <;> simp only [hk] at h1
    case c => exact ⟨_, _, v, r, rfl, by simp only [hk]; exact ⟨by simpa using h1, by simp⟩, rest [v] (0, 0)⟩
    case agg =>
      obtain ⟨a, rfl, h1⟩ := h1
      exact ⟨_, _, _, r, rfl, by simp only [hk]; exact ⟨by simpa using h1, by simp⟩, rest a.toList (0, 0)⟩
    case wc => exact ⟨_, _, v, r, rfl, by simp only [hk]; exact ⟨by simpa using h1, by simp⟩, rest [v] (0, 0)⟩
    case wa =>
      obtain ⟨a, rfl, h1⟩ := h1
      exact ⟨_, _, _, r, rfl, by simp only [hk]; exact ⟨by simpa using h1, by simp⟩, rest a.toList (0, 0)⟩
    case rp => exact ⟨_, _, v, r, rfl, by simp only [hk]; exact h1, rest [] (0, 0)⟩
    case io =>
      obtain ⟨b, base, rfl, h1⟩ := h1
      obtain ⟨vl, h3, h4⟩ := Hs_vs _ h1
      exact ⟨_, _, _, r, rfl, by simp only [hk]; exact ⟨by simpa using h3, by simp, by simpa using h4⟩, rest vl (b, base)⟩

/-- Whose things are, for the function. -/
def startO (mu : Mu) (o : Nat → Nat → Own) : Nat → Nat → Own := fun b k =>
  match o b k with
  | .o (id :: s) => match mu id with
    | some _ => .o (id :: s)
    | none => .x
  | q => q

theorem startO_ne {mu : Mu} (hw : Wf w o) {b k : Nat} : startO mu o b k ≠ .o [] := by
  cases e : o b k with
  | x => simp [startO, e]
  | p => simp [startO, e]
  | o π => cases π with
    | nil => exact absurd e (hw.ne b k)
    | cons id s => cases hm : mu id <;> simp [startO, e, hm]

theorem startO_rl {mu : Mu} {id : Nat} (h : mu id ≠ none) : Rl w o w (startO mu o) (.o [id]) (.o [id]) := by
  refine .inl ⟨[id], rfl, fun b k s v hv ho => ⟨hv, ?_⟩⟩
  simp only [List.cons_append, List.nil_append] at ho ⊢
  cases hm : mu id with
  | none => exact absurd hm h
  | some b => simp [startO, ho, hm]

theorem startO_perm {mu : Mu} : PermKeep w o w (startO mu o) := fun b k v hv ho => ⟨hv, by simp [startO, ho]⟩

theorem startMu_ids : ∀ (gs : List Grp) (m : Nat) {x : GD gs} {id : Nat} {b : Blk}, (∀ g ∈ gs, g.ts.len ≤ 62) → (id, b) ∈ startMu gs m x → 64 * m ≤ id ∧ id < 64 * (m + gs.length)
  | [], m, x, id, b, _, h => by cases h
  | g :: gs, m, x, id, b, hl, h => by
    have hg := hl g (by simp)
    simp only [startMu] at h
    rcases List.mem_append.1 h with h | h
    · have key : (id, b) ∈ outRows g.ts g.ms (64 * m + 1) x.1 → 64 * m ≤ id ∧ id < 64 * (m + (g :: gs).length) := fun h => by
        have := outRows_ids _ h
        simp only [List.length_cons]; omega
      unfold startMem at h
      split at h
      · cases h
      · rcases List.mem_cons.1 h with h | h
        · cases h; simp only [List.length_cons]; omega
        · exact key h
      · exact key h
    · have := startMu_ids gs (m + 1) (fun g hg => hl g (by simp [hg])) h
      simp only [List.length_cons]; omega

theorem outCVs_S0 {c0 : Nat → Conc} : ∀ (ts : Tys) {ms : List Md} {k : Nat} {x : ts.D} {vs : List Value}, mdOk ts ms = true → ts.Vs P w o ms (fun j => .o [j]) k x vs → (∀ i, i < ts.len → c0 (k + i) = .row (vs.getD i undef)) → All2 (CV.S0 P w o c0) (outCVs ts ms k x) vs
  | .nil, _, _, _, _, _, h, _ => by cases (h : _ = []); trivial
  | .cons t ts, ms, k, x, vs, hmo, h, hc => by
    obtain ⟨v, r, rfl, h1, h2⟩ := h
    simp only [mdOk, Bool.and_eq_true] at hmo
    simp only [outCVs]
    refine ⟨?_, outCVs_S0 ts hmo.2 h2 fun i hi => ?_⟩
    · have h0 := hc 0 (by simp [Tys.len])
      simp only [Nat.add_zero, List.getD_cons_zero] at h0
      cases hmd : mdHd ms with
      | sh =>
        rw [hmd] at h1
        cases t with
        | int _ => exact h1
        | bool => exact h1
        | str => exact h1
        | sl es => exact H_q _ h1
        | fn _ _ _ => exact H_q _ h1
      | own m =>
        rw [hmd] at h1
        have h3 := hmo.1
        simp only [hmd] at h3
        cases t with
        | sl es =>
          obtain ⟨a, c, e, _⟩ := H_own.1 h1
          exact ⟨h0, a, _, c, e⟩
        | int _ => simp at h3
        | bool => simp at h3
        | str => simp at h3
        | fn _ _ _ => simp at h3
    · have := hc (i + 1) (by simp [Tys.len, hi])
      rw [show k + (i + 1) = k + 1 + i by omega] at this
      simpa using this

/-- The function's arguments, told. -/
theorem start_rel {mu : Mu} {g : Gh} {tv : Nat → List Value} {ta : Nat → Nat × Nat} (hw : Wf w o) (ho : g.o = startO mu o) : ∀ (gs : List Grp) (m : Nat) {x : GD gs} {vs : List Value}, ArgsT P w o tv ta gs m x vs →
    (∀ gr ∈ gs, gr.ts.len ≤ 62 ∧ mdOk gr.ts gr.ms = true) → (∀ id b, (id, b) ∈ startMu gs m x → mu id ≠ none) →
    (∀ m' i, m ≤ m' → m' < m + gs.length → i < 62 → g.c (64 * m' + 1 + i) = .row ((tv m').getD i undef)) → (∀ m', m ≤ m' → m' < m + gs.length → g.c (64 * m') = .box (ta m').1 (ta m').2) →
    (∀ id b, (id, b) ∈ startMu gs m x → b.R P w g mu id) ∧ (∀ k v, vs[k]? = some v → (startEnv gs m x (m + k)).R P w g mu v) ∧ (∀ k, vs.length ≤ k → startEnv gs m x (m + k) = .un) ∧ vs.length = gs.length ∧
      All2 (TgS P w o g.c) (ioNums gs m x) (ioAddrs gs vs)
  | [], m, x, vs, h, _, _, _, _ => by
    cases (h : vs = [])
    exact ⟨by simp [startMu], by simp, fun _ _ => rfl, rfl, trivial⟩
  | gr :: gs, m, x, vs, h, hgs, hid, hcr, hcb => by
    obtain ⟨v, r, rfl, h1, h2⟩ := h
    obtain ⟨hlen, hmo⟩ := hgs gr (by simp)
    have hcb0 := hcb m (Nat.le_refl _) (by simp)
    obtain ⟨k1, k2, k3, k4, k5⟩ := start_rel hw ho gs (m + 1) h2 (fun g hg => hgs g (by simp [hg])) (fun id b hb => hid id b (by simp only [startMu]; exact List.mem_append_right _ hb))
      (fun m' i h1 h2 => hcr m' i (by omega) (by simp only [List.length_cons]; omega)) (fun m' h1 h2 => hcb m' (by omega) (by simp only [List.length_cons]; omega))
    -- the cells of a group
    have grp : gr.ts.Vs P w o gr.ms (fun j => .o [j]) (64 * m + 1) x.1 (tv m) → (∀ id b, (id, b) ∈ outRows gr.ts gr.ms (64 * m + 1) x.1 → mu id ≠ none) →
        cvsR P w g mu (outCVs gr.ts gr.ms (64 * m + 1) x.1) (tv m) ∧ ∀ id b, (id, b) ∈ outRows gr.ts gr.ms (64 * m + 1) x.1 → b.R P w g mu id := by
      intro hV hin
      have hV' : gr.ts.Vs P w g.o gr.ms (fun j => .o [0 + j]) (64 * m + 1) x.1 (tv m) := by
        rw [ho]
        refine Vs_out (cl := false) hw (fun _ => startO_perm) (pf := fun j => [j]) (pf' := fun j => [0 + j]) gr.ts (by simp) (fun i hi hm => ?_) hV
        obtain ⟨md, hm⟩ := hm
        obtain ⟨b, hb⟩ := outRows_mem gr.ts (k := 64 * m + 1) (x := x.1) hmo hi hm
        rw [Nat.zero_add]
        exact startO_rl (hin _ _ hb)
      have := outRows_R (mu' := mu) (idb := 0) gr.ts hmo hV' (by rw [Nat.zero_add]; exact hin) (fun i hi => by
        rw [Nat.zero_add]; exact hcr m i (Nat.le_refl _) (by simp) (by omega))
      rw [Nat.zero_add] at this
      exact this
    have env : ∀ (tv0 : TV), startTV m gr x.1 = tv0 → tv0.R P w g mu v → (∀ k u, (v :: r)[k]? = some u → (startEnv (gr :: gs) m x (m + k)).R P w g mu u) := by
      intro tv0 e hr k u hk
      simp only [startEnv]
      cases k with
      | zero =>
        simp at hk; subst hk
        show TV.R P w g mu (upd _ m _ m) v
        rw [upd_same, e]; exact hr
      | succ k =>
        rw [upd_ne _ _ (by omega), show m + (k + 1) = m + 1 + k by omega]
        exact k2 k u (by simpa using hk)
    have env3 : ∀ k, (v :: r).length ≤ k → startEnv (gr :: gs) m x (m + k) = .un := by
      intro k hk
      simp only [startEnv]
      simp only [List.length_cons] at hk
      rw [upd_ne _ _ (by omega), show m + k = m + 1 + (k - 1) by omega]
      exact k3 _ (by omega)
    have hsub : ∀ id b, (id, b) ∈ startMem m gr x.1 → mu id ≠ none := fun id b hb => hid id b (by simp only [startMu]; exact List.mem_append_left _ hb)
    have mem : (∀ id b, (id, b) ∈ startMem m gr x.1 → b.R P w g mu id) → ∀ id b, (id, b) ∈ startMu (gr :: gs) m x → b.R P w g mu id := fun h id b hb => by
      simp only [startMu] at hb
      rcases List.mem_append.1 hb with hb | hb
      · exact h id b hb
      · exact k1 id b hb
    cases hk : gr.k with
    | c =>
      simp only [hk] at h1
      have hsm : startMem m gr x.1 = outRows gr.ts gr.ms (64 * m + 1) x.1 := by unfold startMem; rw [hk]
      obtain ⟨g1, g2⟩ := grp h1.1 (fun id b hb => hsub id b (by rw [hsm]; exact hb))
      rw [h1.2] at g1
      refine ⟨mem (by rw [hsm]; exact g2), ?_, env3, by simp [k4], by simp only [ioNums, ioAddrs, hk]; exact k5⟩
      match hoc : outCVs gr.ts gr.ms (64 * m + 1) x.1, g1 with
      | [cv], g1 => exact env (.c cv) (by unfold startTV; rw [hk, hoc]) g1.1
      | [], g1 => exact g1.elim
      | _ :: _ :: _, g1 => exact g1.2.elim
    | agg =>
      simp only [hk] at h1
      have hsm : startMem m gr x.1 = outRows gr.ts gr.ms (64 * m + 1) x.1 := by unfold startMem; rw [hk]
      obtain ⟨g1, g2⟩ := grp h1.1 (fun id b hb => hsub id b (by rw [hsm]; exact hb))
      exact ⟨mem (by rw [hsm]; exact g2), env (.agg _) (by unfold startTV; rw [hk]) ⟨_, h1.2, by simpa using g1⟩, env3, by simp [k4], by simp only [ioNums, ioAddrs, hk]; exact k5⟩
    | rp =>
      simp only [hk] at h1
      obtain ⟨b, base, rfl, h1⟩ := h1
      have hsm : startMem m gr x.1 = [] := by unfold startMem; rw [hk]
      refine ⟨mem (by rw [hsm]; simp), env (.c (.rptr gr.ts x.1 0)) (by unfold startTV; rw [hk]) ⟨b, base, rfl, ?_⟩, env3, by simp [k4], by simp only [ioNums, ioAddrs, hk]; exact k5⟩
      rw [ho]
      exact Hs_re startO_perm hw gr.ts [] .p .p (fun _ => .p) (fun _ => .p) 0 x.1 b base rfl (fun _ => rfl) h1
    | io =>
      simp only [hk] at h1
      obtain ⟨hV, rfl, hcell⟩ := h1
      have hsm : startMem m gr x.1 = (64 * m, .box (outCVs gr.ts gr.ms (64 * m + 1) x.1)) :: outRows gr.ts gr.ms (64 * m + 1) x.1 := by unfold startMem; rw [hk]
      obtain ⟨g1, g2⟩ := grp hV (fun id b hb => hsub id b (by rw [hsm]; simp [hb]))
      have hm0 := hsub (64 * m) _ (by rw [hsm]; exact List.mem_cons_self)
      refine ⟨mem ?_, env (.c (.ptr (64 * m) 0)) (by unfold startTV; rw [hk]) ⟨hm0, _, _, hcb0, rfl⟩, env3, by simp [k4], by simp only [ioNums, ioAddrs, hk]; exact ⟨hcb0, k5⟩⟩
      rw [hsm]
      intro id b hb
      rcases List.mem_cons.1 hb with hb | hb
      · cases hb
        refine ⟨_, _, hcb0, fun j cv hj => ?_⟩
        obtain ⟨u, hu, hcv⟩ := All2.get j cv g1 hj
        obtain ⟨h5, h6⟩ := hcell j u hu
        refine ⟨u, h5, ?_, hcv⟩
        rw [ho]
        rcases startO_rl (w := w) (o := o) hm0 with ⟨_, e, h⟩ | ⟨e, _⟩
        · cases e; have := h _ _ [] u h5 (by simpa using h6); simpa using this.2
        · cases e
      · exact g2 id b hb
    | np => simp only [hk] at h1
    | wc =>
      simp only [hk] at h1
      have hsm : startMem m gr x.1 = outRows gr.ts gr.ms (64 * m + 1) x.1 := by unfold startMem; rw [hk]
      obtain ⟨g1, g2⟩ := grp h1.1 (fun id b hb => hsub id b (by rw [hsm]; exact hb))
      have hS := outCVs_S0 (c0 := g.c) gr.ts hmo h1.1 (fun i hi => hcr m i (Nat.le_refl _) (by simp) (by omega))
      rw [h1.2] at g1 hS
      refine ⟨mem (by rw [hsm]; exact g2), ?_, env3, by simp [k4], by simp only [ioNums, ioAddrs, hk]; exact ⟨hS, k5⟩⟩
      match hoc : outCVs gr.ts gr.ms (64 * m + 1) x.1, g1 with
      | [cv], g1 => exact env (.c cv) (by unfold startTV; rw [hk, hoc]) g1.1
      | [], g1 => exact g1.elim
      | _ :: _ :: _, g1 => exact g1.2.elim
    | wa =>
      simp only [hk] at h1
      have hsm : startMem m gr x.1 = outRows gr.ts gr.ms (64 * m + 1) x.1 := by unfold startMem; rw [hk]
      obtain ⟨g1, g2⟩ := grp h1.1 (fun id b hb => hsub id b (by rw [hsm]; exact hb))
      have hS := outCVs_S0 (c0 := g.c) gr.ts hmo h1.1 (fun i hi => hcr m i (Nat.le_refl _) (by simp) (by omega))
      obtain ⟨hV, rfl⟩ := h1
      exact ⟨mem (by rw [hsm]; exact g2), env (.agg _) (by unfold startTV; rw [hk]) ⟨_, rfl, by simpa using g1⟩, env3, by simp [k4], by simp only [ioNums, ioAddrs, hk]; exact ⟨(show All2 (CV.S0 P w o g.c) _ (tv m).toArray.toList by simpa using hS), k5⟩⟩

/-- What the pure machine gives is what the function returns. -/
theorem good_of {f : Nat} {fn : Func} {con : Con} (hm : P.follows .mixedOrders = true) (hty : ∀ t ti, C.ty t = some ti → tiOf P t = some ti) (hC : CtxOk P C) (hf : P.funcs[f]? = some fn)
    (hrun : ∀ x, runF C fn con.ins con.outs x = con.f x) : Good P f con := by
  intro w o args x y hy hargs hw
  have hx := (hrun x).trans hy
  unfold runF at hx
  cases hb : fn.body with
  | none => rw [hb] at hx; cases hx
  | some c =>
    rw [hb] at hx
    dsimp only at hx
    cases hg : (gsOk con.ins && Nat.ble con.ins.length fn.ntmps && Nat.beq fn.ntmps C.nt) with
    | false => rw [hg] at hx; cases hx
    | true =>
      rw [hg] at hx
      simp only [cond_true] at hx
      simp only [Bool.and_eq_true] at hg
      obtain ⟨⟨hgs, hle⟩, hnt⟩ := hg
      have hle := Nat.le_of_ble_eq_true hle
      have hnt := Nat.eq_of_beq_eq_true hnt
      obtain ⟨hgl, hgg⟩ := gsOk_ok hgs
      obtain ⟨tv, ta, ht⟩ := args_tab con.ins 0 hargs
      let mu : Mu := updL mu0 (startMu con.ins 0 x)
      let g : Gh := ⟨startO mu o, fun id => if id % 64 = 0 then .box (ta (id / 64)).1 (ta (id / 64)).2 else .row ((tv (id / 64)).getD (id % 64 - 1) undef)⟩
      obtain ⟨s1, s2, s3, s4, s5⟩ := start_rel (P := P) (mu := mu) (g := g) hw rfl con.ins 0 ht (fun gr hgr => ⟨(hgg gr hgr).1, (hgg gr hgr).2⟩) (fun id b hb => updL_mem hb)
        (fun m' i _ h2 h3 => by
          show (if (64 * m' + 1 + i) % 64 = 0 then _ else _) = _
          rw [if_neg (by omega), show (64 * m' + 1 + i) / 64 = m' by omega, show (64 * m' + 1 + i) % 64 - 1 = i by omega])
        (fun m' _ _ => by
          show (if (64 * m') % 64 = 0 then _ else _) = _
          rw [if_pos (by omega), show 64 * m' / 64 = m' by omega])
      have hsz : args.toArray.size = args.length := by simp
      have r0 : RelS P C.nt w o (tgIds (ioNums con.ins 0 x)) g.c (startSt con.ins x).nx (startSt con.ins x) { tmps := args.toArray ++ Array.replicate (fn.ntmps - args.toArray.size) undef, defers := [] } w g := by
        refine ⟨⟨?_, fun t => ?_, fun id b hb => ?_, ⟨fun b k π h => ?_, fun b k => startO_ne hw⟩, fun b k id s h => ?_, ?_⟩, rfl, fun id hid => ?_, fun id hid => ⟨rfl, ?_⟩⟩
        · rw [Array.size_append, Array.size_replicate, hsz]
          omega
        · have key : (startEnv con.ins 0 x (0 + t)).R P w g mu ((args.toArray ++ Array.replicate (fn.ntmps - args.toArray.size) undef).getD t undef) := by
            rcases Nat.lt_or_ge t args.length with h | h
            · refine s2 t _ ?_
              rw [Array.getD_eq_getD_getElem?, Array.getElem?_append_left (by simpa using h)]
              simp [h]
            · rw [s3 t h]; trivial
          rw [Nat.zero_add] at key
          exact key
        · rcases updL_cases hb with hb | ⟨_, hb⟩
          · exact s1 id b hb
          · cases hb
        · have h : startO mu o b k = .o π := h
          unfold startO at h
          split at h
          · rename_i id s e
            split at h
            · cases h; exact hw.cell b k _ e
            · cases h
          · exact hw.cell b k _ h
        · have h : startO mu o b k = .o (id :: s) := h
          show mu id ≠ none
          cases e : o b k with
          | x => simp [startO, e] at h
          | p => simp [startO, e] at h
          | o π => cases π with
            | nil => simp [startO, e] at h
            | cons id' s' =>
              cases hm' : mu id' with
              | none => simp [startO, e, hm'] at h
              | some bl =>
                simp only [startO, e, hm', Own.o.injEq, List.cons.injEq] at h
                rw [← h.1, hm']; simp
        · refine ⟨rfl, rfl, rfl, Nat.le_refl _, fun _ _ _ => rfl, fun b k v hv hn => ⟨hv, ?_⟩, fun b k v hv => ⟨v, hv⟩, fun _ _ _ => rfl⟩
          show startO mu o b k = o b k
          unfold startO
          split
          · rename_i id s e; exact absurd e (hn _)
          · rfl
        · show mu id = none
          have : mu id = mu0 id := updL_none fun b hb => by
            have h1 : 1 * 2048 ≤ id := hid
            have := startMu_ids con.ins 0 (fun gr hgr => (hgg gr hgr).1) hb
            omega
          rw [this]; rfl
        · have hcv : ∀ (ts : Tys) (ms : List Md) (k : Nat) (y : ts.D) (id : Nat), mdOk ts ms = true → id ∈ cvIds (outCVs ts ms k y) → ∃ b, (id, b) ∈ outRows ts ms k y := by
            intro ts
            induction ts using Tys.rec (motive_1 := fun _ => True) with
            | nil => intro ms k y id _ h; cases h
            | cons t ts _ ih =>
              intro ms k y id hmo h
              simp only [mdOk, Bool.and_eq_true] at hmo
              have tail : id ∈ cvIds (outCVs ts (mdTl ms) (k + 1) y.2) → ∃ b, (id, b) ∈ outRows (.cons t ts) ms k y := fun h => by
                obtain ⟨b, hb⟩ := ih _ _ _ _ hmo.2 h
                exact ⟨b, by simp only [outRows]; exact List.mem_append_right _ hb⟩
              simp only [outCVs] at h
              cases hmd : mdHd ms with
              | sh =>
                rw [hmd] at h
                refine tail ?_
                cases t <;> exact h
              | own m =>
                rw [hmd] at h
                simp only [cvIds] at h
                rcases List.mem_cons.1 h with h | h
                · subst h
                  have h3 := hmo.1
                  simp only [hmd] at h3
                  cases t with
                  | sl es => exact ⟨_, by simp only [outRows, hmd, outRow]; exact List.mem_append_left _ List.mem_cons_self⟩
                  | int _ => simp at h3
                  | bool => simp at h3
                  | str => simp at h3
                  | fn _ _ _ => simp at h3
                · exact tail h
            | _ => trivial
          have hio : ∀ (gs : List Grp) (m : Nat) (x : GD gs) (id : Nat), (∀ g ∈ gs, mdOk g.ts g.ms = true) → id ∈ tgIds (ioNums gs m x) → ∃ b, (id, b) ∈ startMu gs m x := by
            intro gs
            induction gs with
            | nil => intro m x id _ h; cases h
            | cons gr gs ih =>
              intro m x id hmo h
              have tail : id ∈ tgIds (ioNums gs (m + 1) x.2) → ∃ b, (id, b) ∈ startMu (gr :: gs) m x := fun h => by
                obtain ⟨b, hb⟩ := ih (m + 1) x.2 id (fun g hg => hmo g (by simp [hg])) h
                exact ⟨b, by simp only [startMu]; exact List.mem_append_right _ hb⟩
              have here : gr.k ≠ .rp → gr.k ≠ .io → id ∈ cvIds (outCVs gr.ts gr.ms (64 * m + 1) x.1) → ∃ b, (id, b) ∈ startMu (gr :: gs) m x := fun h1 h2 h => by
                obtain ⟨b, hb⟩ := hcv _ _ _ _ _ (hmo gr (by simp)) h
                refine ⟨b, ?_⟩
                simp only [startMu]
                refine List.mem_append_left _ ?_
                unfold startMem
                split
                · exact absurd (by assumption) h1
                · exact absurd (by assumption) h2
                · exact hb
              simp only [ioNums] at h
              split at h
              · rename_i hk
                simp only [tgIds] at h
                rcases List.mem_cons.1 h with h | h
                · subst h; exact ⟨_, by simp only [startMu, startMem, hk]; exact List.mem_append_left _ List.mem_cons_self⟩
                · exact tail h
              · rename_i hk
                simp only [tgIds] at h
                rcases List.mem_append.1 h with h | h
                · exact here (by rw [hk]; simp) (by rw [hk]; simp) h
                · exact tail h
              · rename_i hk
                simp only [tgIds] at h
                rcases List.mem_append.1 h with h | h
                · exact here (by rw [hk]; simp) (by rw [hk]; simp) h
                · exact tail h
              · exact tail h
          obtain ⟨b, hb⟩ := hio con.ins 0 x id (fun g hg => (hgg g hg).2) hid
          exact updL_mem hb
      have hex := exec_ok (Y := GD con.outs) (RetOk := RetOk P fn con.outs (ioAddrs con.ins args) w o) (w0 := w) (o0 := o) (io := tgIds (ioNums con.ins 0 x)) (c0 := g.c) hm hty hC rfl
        (fun st K y a w' g' r h => fin_ok hty hw s5 st K y a w' g' r h) c id (startSt con.ins x) _ _ y _ w g hx r0
      refine calls_of_wp hf hb (Code.wp_mono ?_ hex)
      have done : ∀ (a' : Act) (w' : World), RetOk P fn con.outs (ioAddrs con.ins args) w o y a' w' → a'.defers = [] ∧ ∃ v, (results fn a'.tmps).run P w' = .ok v w' ∧ ∃ vs o', Ending.returned v = .returned (retOf vs) ∧ vs.length = numRes con ∧ Fr w o w' o' ∧ Wf w' o' ∧ OutsR P w' o' con.outs 0 y vs (ioAddrs con.ins args) := by
        rintro a' w' ⟨hd, vs, o', h1, h2, h3, h4, h5⟩
        refine ⟨hd, _, h1, vs, o', rfl, ?_, h3, h4, h5⟩
        have hl : (ioAddrs con.ins args).length = (con.ins.filter fun g => isIo g.k).length := by
          rw [← s5.length]
          have key : ∀ (gs : List Grp) (m : Nat) (x : GD gs), (ioNums gs m x).length = (gs.filter fun g => isIo g.k).length := by
            intro gs
            induction gs with
            | nil => intro m x; rfl
            | cons gr gs ih =>
              intro m x
              simp only [ioNums]
              cases hk : gr.k <;> simp [hk, isIo, ih]
          exact key _ _ _
        have e : numRes con = con.outs.length - (ioAddrs con.ins args).length := congrArg (con.outs.length - ·) hl.symm
        omega
      rintro e a' w' hq
      cases e with
      | normal =>
        obtain ⟨st', g', h1, r1, _⟩ := hq
        obtain ⟨z, hz, hr⟩ := fin_ok hty hw s5 st' some y a' w' g' r1 h1
        cases hz
        exact done a' w' hr
      | ret =>
        obtain ⟨z, hz, hr⟩ := hq
        cases (hz : z = y)
        exact done a' w' hr
      | exit _ => obtain ⟨_, _, h, _⟩ := hq; cases h
      | goto _ => exact hq.elim
      | panic _ => exact hq.elim
      | outgrown => exact hq.elim
end
end Go.Tm

/- The pure machine, 47: arguments as they are read; contexts. -/
namespace Go.Tm
open Go

def Tys.app : Tys → Tys → Tys
  | .nil, b => b
  | .cons t ts, b => .cons t (ts.app b)

def joinD : (a b : Tys) → a.D → b.D → (a.app b).D
  | .nil, _, _, y => y
  | .cons _ ts, b, x, y => (x.1, joinD ts b x.2 y)

def fieldsP (P : Program) (r : TypeId → Option Tys) : List Field → Nat → Option Tys
  | [], _ => some .nil
  | f :: fs, off => match r f.type with
    | none => none
    | some a => match fieldsP P r fs (off + a.len) with
      | none => none
      | some b => bif Nat.beq f.offset off && Nat.beq (P.cellsOf f.type) a.len then some (a.app b) else none

/-- The cells of a type's values, as data. -/
def leavesP (P : Program) : Nat → TypeId → Option Tys
  | 0, _ => none
  | n + 1, t => match P.underlying t with
    | some .bool => some (.cons .bool .nil)
    | some (.int k) => some (.cons (.int k) .nil)
    | some .string => some (.cons .str .nil)
    | some (.slice e) => match leavesP P n e with
      | some es => bif Nat.beq (P.cellsOf e) es.len && Nat.blt 0 es.len then some (.cons (.sl es) .nil) else none
      | none => none
    | some (.struct fs) => match fieldsP P (leavesP P n) fs.toList 0 with
      | some ts => bif Nat.beq (P.cellsOf t) ts.len then some ts else none
      | none => none
    | _ => none

mutual
/-- Values as they may come in. -/
def Ty.Ok : (t : Ty) → t.D → Prop
  | .int k, n => (Lit.int k n).wf = true
  | .bool, _ => True
  | .str, s => s.size ≤ maxLen
  | .sl es, xs => List.length (α := es.D) xs ≤ maxLen ∧ ∀ i x, getN (α := es.D) xs i = some x → es.Ok x
  | .fn _ _ _, _ => False
def Tys.Ok : (ts : Tys) → ts.D → Prop
  | .nil, _ => True
  | .cons t ts, x => t.Ok x.1 ∧ ts.Ok x.2
end

theorem len_app : ∀ (a b : Tys), (a.app b).len = a.len + b.len
  | .nil, b => by simp [Tys.app, Tys.len]
  | .cons _ ts, b => by simp [Tys.app, Tys.len, len_app ts b]; omega

section
variable {P : Program} {w : World}

def allP : Nat → Nat → Own := fun _ _ => .p

theorem Vs_app {qf : Nat → Own} : ∀ (a b : Tys) {x : a.D} {y : b.D} {vs us : List Value}, a.Vs P w allP [] (fun _ => .p) 0 x vs → b.Vs P w allP [] (fun _ => .p) 0 y us → (a.app b).Vs P w allP [] (fun _ => .p) 0 (joinD a b x y) (vs ++ us)
  | .nil, b, x, y, vs, us, h, k => by cases (h : vs = []); exact k
  | .cons t ts, b, x, y, vs, us, h, k => by
    obtain ⟨v, r, rfl, h1, h2⟩ := h
    have h2' : ts.Vs P w allP [] (fun _ => .p) 0 x.2 r := Vs_q ts h2
    have := Vs_app (qf := qf) ts b h2' k
    exact ⟨v, r ++ us, rfl, h1, Vs_q _ this⟩

theorem Ok_app : ∀ (a b : Tys) {x : a.D} {y : b.D}, a.Ok x → b.Ok y → (a.app b).Ok (joinD a b x y)
  | .nil, _, _, _, _, k => k
  | .cons _ ts, b, _, _, h, k => ⟨h.1, Ok_app ts b h.2 k⟩

theorem list_choice {α : Type} {p : Nat → α → Prop} : ∀ (n : Nat), (∀ i, i < n → ∃ x, p i x) → ∃ xs : List α, xs.length = n ∧ ∀ i x, xs[i]? = some x → p i x
  | 0, _ => ⟨[], rfl, by simp⟩
  | n + 1, h => by
    obtain ⟨xs, h1, h2⟩ := list_choice n fun i hi => h i (by omega)
    obtain ⟨x, hx⟩ := h n (by omega)
    refine ⟨xs ++ [x], by simp [h1], fun i y hi => ?_⟩
    rw [List.getElem?_append] at hi
    split at hi
    · exact h2 i y hi
    · rename_i hn
      have : i - xs.length = 0 := by
        rcases Nat.eq_zero_or_pos (i - xs.length) with h | h
        · exact h
        · rw [List.getElem?_eq_none (by simp; omega)] at hi; cases hi
      rw [this] at hi
      simp at hi
      subst hi
      rw [show i = n by omega]; exact hx

/-- What is read is data. -/
theorem read_ok {H : Type} {enc : TypeId × Value → H} {spare : Nat → Bool} {held : Bool} : ∀ (n : Nat) (t : TypeId) (ts : Tys) (fuel : Nat) (cs : List Value) {y : DataW H × List MemPlace}, leavesP P n t = some ts → DataW.trod enc P w 0 spare held fuel t cs = some y →
    ∃ x : ts.D, ts.Vs P w allP [] (fun _ => .p) 0 x cs ∧ ts.Ok x := by
  intro n
  induction n with
  | zero => intro t ts fuel cs y h _; simp [leavesP] at h
  | succ n ih =>
    intro t ts fuel cs y h hr
    unfold leavesP at h
    cases hu : P.underlying t with
    | none => simp only [hu] at h; cases h
    | some d =>
      simp only [hu] at h
      cases d <;> simp only at h <;> try (cases h; done)
      case bool =>
        cases h
        obtain ⟨b, rfl, _⟩ := DataW.trod_bool hu hr
        exact ⟨(b, ()), ⟨_, [], rfl, rfl, rfl⟩, trivial, trivial⟩
      case int k =>
        cases h
        obtain ⟨m, rfl, _, hw⟩ := DataW.trod_int hu hr
        exact ⟨(m, ()), ⟨_, [], rfl, rfl, rfl⟩, hw, trivial⟩
      case string =>
        cases h
        obtain ⟨s, rfl, _, hs⟩ := DataW.trod_string hu hr
        exact ⟨(s, ()), ⟨_, [], rfl, rfl, rfl⟩, hs, trivial⟩
      case slice e =>
        cases he : leavesP P n e with
        | none => simp [he] at h
        | some es =>
          simp only [he] at h
          cases hc : (Nat.beq (P.cellsOf e) es.len && Nat.blt 0 es.len) with
          | false => rw [hc] at h; cases h
          | true =>
            rw [hc] at h
            cases h
            simp only [Bool.and_eq_true, Nat.blt_eq] at hc
            have hlen := Nat.eq_of_beq_eq_true hc.1
            rcases DataW.trod_slice hu hr with ⟨rfl, _⟩ | ⟨a, len, cap, elems, rest, m, _, rfl, _, _, hl, hm, hel, hels, _⟩
            · exact ⟨(([] : List es.D), ()), ⟨_, [], rfl, H_sh.2 ⟨none, 0, rfl, Nat.le_refl _, .inl rfl⟩, rfl⟩, ⟨Nat.zero_le _, by intro i x h; simp [getN] at h⟩, trivial⟩
            · have each : ∀ i, i < len → ∃ x : es.D, es.Ok x ∧ a.spot = none ∧ ∃ vs, es.Vs P w allP [] (fun _ => .p) 0 x vs ∧ ∀ k u, vs[k]? = some u → w.cell? ⟨a.block, a.off + i * es.len + k, none⟩ = some u := by
                intro i hi
                have h1 := hels i hi
                rw [List.getElem?_eq_getElem (by omega), Option.bind_eq_some_iff] at h1
                obtain ⟨cs', hcs, htr⟩ := h1
                obtain ⟨x, hx, hok⟩ := ih e es m cs' he htr
                obtain ⟨_, hcl, hcell⟩ := World.cells?_some hcs
                have hspot : a.spot = none := by
                  have h0 := hcell 0 (by omega)
                  rw [List.getElem?_eq_getElem (by omega)] at h0
                  have := World.cell?_spot h0
                  unfold Addr.add at this
                  by_cases hz : i * P.cellsOf e = 0
                  · simpa [hz] using this
                  · -- the first element's cell tells it
                    have h1 := hels 0 (by omega)
                    rw [List.getElem?_eq_getElem (by omega), Option.bind_eq_some_iff] at h1
                    obtain ⟨cs0, hcs0, _⟩ := h1
                    obtain ⟨_, hcl0, hcell0⟩ := World.cells?_some hcs0
                    have h0 := hcell0 0 (by omega)
                    rw [List.getElem?_eq_getElem (by omega)] at h0
                    have := World.cell?_spot h0
                    simpa [Addr.add] using this
                refine ⟨x, hok, hspot, cs', hx, fun k u hk => ?_⟩
                have hkl : k < cs'.length := by
                  rcases Nat.lt_or_ge k cs'.length with h | h
                  · exact h
                  · rw [List.getElem?_eq_none h] at hk; cases hk
                have := hcell k (by omega)
                rw [hk, hlen, add_none hspot, add_none rfl] at this
                exact this
              obtain ⟨xs, hxl, hxs⟩ := list_choice len each
              subst hxl
              refine ⟨(xs, ()), ⟨_, [], rfl, H_sh.2 ⟨some a, cap, rfl, hl, ?_⟩, rfl⟩, ⟨Nat.le_trans hl hm, fun i x hi => (hxs i x hi).1⟩, trivial⟩
              cases hx0 : xs with
              | nil => exact .inl rfl
              | cons x0 xr =>
                obtain ⟨_, hspot, _⟩ := hxs 0 x0 (by rw [hx0]; rfl)
                refine .inr ⟨a, rfl, hspot, fun i x hi => ?_⟩
                rw [← hx0] at hi
                obtain ⟨_, _, vs, h1, h2⟩ := hxs i x hi
                exact Vs_hs es h1 fun k u hk => ⟨h2 k u hk, rfl⟩
      case struct fs =>
        cases hf : fieldsP P (leavesP P n) fs.toList 0 with
        | none => rw [hf] at h; cases h
        | some ts' =>
          rw [hf] at h
          dsimp only at h
          cases hc : Nat.beq (P.cellsOf t) ts'.len with
          | false => rw [hc] at h; cases h
          | true =>
            rw [hc] at h
            cases h
            have hlen := Nat.eq_of_beq_eq_true hc
            obtain ⟨xs, m, _, _, hcl, hxl, hxs⟩ := DataW.trod_struct hu hr
            have key : ∀ (l : List Field) (off : Nat) (ts : Tys), fieldsP P (leavesP P n) l off = some ts → (∀ f ∈ l, ∃ y, DataW.trod enc P w 0 spare held m f.type ((cs.drop f.offset).take (P.cellsOf f.type)) = some y) → off + ts.len = cs.length →
                ∃ x : ts.D, ts.Vs P w allP [] (fun _ => .p) 0 x (cs.drop off) ∧ ts.Ok x := by
              intro l
              induction l with
              | nil =>
                intro off ts h _ ho
                simp only [fieldsP, Option.some.injEq] at h
                subst h
                refine ⟨(), ?_, trivial⟩
                show cs.drop off = []
                rw [List.drop_eq_nil_iff]; simp [Tys.len] at ho; omega
              | cons f l ih2 =>
                intro off ts h hall ho
                simp only [fieldsP] at h
                cases ha : leavesP P n f.type with
                | none => simp [ha] at h
                | some a =>
                  simp only [ha] at h
                  cases hb : fieldsP P (leavesP P n) l (off + a.len) with
                  | none => simp [hb] at h
                  | some b =>
                    simp only [hb] at h
                    cases hk : (Nat.beq f.offset off && Nat.beq (P.cellsOf f.type) a.len) with
                    | false => rw [hk] at h; cases h
                    | true =>
                      rw [hk] at h
                      cases h
                      simp only [Bool.and_eq_true] at hk
                      have e1 := Nat.eq_of_beq_eq_true hk.1
                      have e2 := Nat.eq_of_beq_eq_true hk.2
                      rw [len_app] at ho
                      obtain ⟨y, hy⟩ := hall f (by simp)
                      rw [e1, e2] at hy
                      obtain ⟨x1, h1, k1⟩ := ih f.type a m _ ha hy
                      obtain ⟨x2, h2, k2⟩ := ih2 (off + a.len) b hb (fun g hg => hall g (by simp [hg])) (by omega)
                      refine ⟨joinD a b x1 x2, ?_, Ok_app a b k1 k2⟩
                      have := Vs_app (qf := fun _ => .p) a b h1 h2
                      rwa [← List.drop_drop, List.take_append_drop] at this
            obtain ⟨x, h1, h2⟩ := key fs.toList 0 ts hf (fun f hf => by
              obtain ⟨i, hi⟩ := List.getElem?_of_mem hf
              have hi' : fs[i]? = some f := by simpa using hi
              have := hxs i f hi'
              rw [this]
              have hlt : i < fs.size := (Array.getElem?_eq_some_iff.1 hi').1
              exact ⟨_, List.getElem?_eq_getElem (by omega)⟩) (by omega)
            exact ⟨x, by simpa using h1, h2⟩

/-- A table of what each function does. -/
def TreeOk (P : Program) (t : Nat → Option Con) : Prop := ∀ n con, t n = some con → Good P n con ∧ Enters P n

theorem TreeOk.nil : TreeOk P (fun _ => Option.none) := fun _ _ h => by cases h
theorem TreeOk.leaf {k : Nat} {c : Con} (h : Good P k c ∧ Enters P k) : TreeOk P (fun n => bif Nat.beq n k then some c else none) := fun n con hn => by
  cases e : Nat.beq n k with
  | false => simp [e] at hn
  | true =>
    simp only [e, cond_true, Option.some.injEq] at hn
    subst hn
    rw [Nat.eq_of_beq_eq_true e]; exact h
theorem TreeOk.node {k : Nat} {a b : Nat → Option Con} (ha : TreeOk P a) (hb : TreeOk P b) : TreeOk P (fun n => bif Nat.ble n k then a n else b n) := fun n con hn => by
  cases e : Nat.ble n k with
  | false => simp only [e, cond_false] at hn; exact hb n con hn
  | true => simp only [e, cond_true] at hn; exact ha n con hn

theorem enters_of {f : Nat} {fn : Func} (hf : P.funcs[f]? = some fn) (h : (!(fn.name == "runtime.NumGoroutine") && fn.body.isSome) = true) : Enters P f := by
  intro args w
  simp only [Bool.and_eq_true, Bool.not_eq_true'] at h
  obtain ⟨h1, h2⟩ := h
  obtain ⟨c, hb⟩ := Option.isSome_iff_exists.1 h2
  have h1 : fn.name ≠ "runtime.NumGoroutine" := by simpa using h1
  simp [callFunc, hf, h1, hb]

theorem table_ok {L : List (Nat × TI)} (h : L.map (fun p => tiOf P p.1) = L.map (fun p => some p.2)) : ∀ t ti, lookT L t = some ti → tiOf P t = some ti := by
  induction L with
  | nil => intro t ti h; cases h
  | cons p L ih =>
    intro t ti hl
    obtain ⟨k, x⟩ := p
    simp only [List.map_cons, List.cons.injEq] at h
    simp only [lookT] at hl
    cases e : Nat.beq k t with
    | true =>
      rw [e] at hl
      simp only [cond_true, Option.some.injEq] at hl
      subst hl
      rw [← Nat.eq_of_beq_eq_true e]; exact h.1
    | false => rw [e] at hl; exact ih h.2 t ti hl
end
end Go.Tm

/- The pure machine, 48: a law over what is read. -/
namespace Go.Tm
open Go
open Go.RowKit (Below)

abbrev boolG : Grp := ⟨.c, .cons .bool .nil, []⟩

def OkG : (gs : List Grp) → GD gs → Prop
  | [], _ => True
  | g :: gs, x => g.ts.Ok x.1 ∧ OkG gs x.2

def kindB : PK → TypeDesc → Bool
  | .agg, .struct _ => true
  | .c, .bool => true
  | .c, .int _ => true
  | .c, .string => true
  | .c, .slice _ => true
  | _, _ => false

/-- The groups are as the types of the parameters. -/
def insB (P : Program) : List Grp → List TypeId → Bool
  | [], [] => true
  | g :: gs, t :: ts => (match leavesP P 30 t with
      | some l => (Tys.eq? l g.ts).isSome
      | none => false) && (match g.ms with | [] => true | _ => false) && (match P.underlying t with
      | some d => kindB g.k d
      | none => false) && insB P gs ts
  | _, _ => false

section
variable {P : Program} {W : World}

theorem args_ok {H : Type} {enc : TypeId × Value → H} {spare : Nat → Bool} {held : Bool} : ∀ (gs : List Grp) (ts : List TypeId) (m : Nat) {vs : List Value} {ds : List (DataW H)} {ps : List MemPlace}, insB P gs ts = true → DataW.TrodAll enc P W 0 spare held ts vs ds ps →
    (∀ (j : Nat) t v, ts[j]? = some t → vs[j]? = some v → Value.okWide P W .any 0 t v ∨ ∃ base, Value.okWide P W .any base t v) → ∃ x : GD gs, ArgsR P W allP gs m x vs ∧ OkG gs x
  | [], [], m, vs, ds, ps, _, h, _ => by
    obtain ⟨rfl, _, _⟩ := ChangeShapes.trodAll_nil h
    exact ⟨(), rfl, trivial⟩
  | [], _ :: _, m, vs, ds, ps, hb, _, _ => by simp [insB] at hb
  | _ :: _, [], m, vs, ds, ps, hb, _, _ => by simp [insB] at hb
  | g :: gs, t :: ts, m, vs, ds, ps, hb, h, hv => by
    obtain ⟨v, vs', d, ds', p, q, rfl, rfl, rfl, h1, h2⟩ := ChangeShapes.trodAll_cons h
    simp only [insB, Bool.and_eq_true] at hb
    obtain ⟨⟨⟨hl, hms⟩, hk⟩, hb⟩ := hb
    obtain ⟨x2, hx2, ok2⟩ := args_ok gs ts (m + 1) hb h2 (fun j t v h3 h4 => hv (j + 1) t v (by simpa using h3) (by simpa using h4))
    cases hlp : leavesP P 30 t with
    | none => rw [hlp] at hl; cases hl
    | some l =>
      rw [hlp] at hl
      dsimp only at hl
      cases he : Tys.eq? l g.ts with
      | none => rw [he] at hl; cases hl
      | some e =>
        obtain ⟨e⟩ := e
        obtain ⟨fuel, hf⟩ := h1
        obtain ⟨x1, hx1, ok1⟩ := read_ok 30 t l fuel _ hlp hf
        obtain ⟨gk, gts, gms⟩ := g
        cases gms with
        | cons _ _ => cases hms
        | nil =>
          clear he hl
          have e : l = gts := e
          subst e
          refine ⟨(x1, x2), ⟨v, vs', rfl, ?_, hx2⟩, ok1, ok2⟩
          have hv0 : ∃ base, Value.okWide P W .any base t v := by
            rcases hv 0 t v rfl rfl with h | h
            · exact ⟨0, h⟩
            · exact h
          obtain ⟨base, hv0⟩ := hv0
          cases hu : P.underlying t with
          | none => rw [hu] at hk; cases hk
          | some d =>
            rw [hu] at hk
            dsimp only at hk
            unfold ArgR
            have one : v.cells = #[v] → gk = .c → (match gk with
                | .c => l.Vs P W allP [] (fun j => .o [j]) (64 * m + 1) x1 [v]
                | .agg => ∃ a, v = .agg a ∧ l.Vs P W allP [] (fun j => .o [j]) (64 * m + 1) x1 a.toList
                | .rp => ∃ b base, v = .pointer (some ⟨b, base, none⟩) ∧ l.Hs P W allP [] .p (fun _ => .p) 0 x1 b base
                | .io => ∃ b base, v = .pointer (some ⟨b, base, none⟩) ∧ l.Hs P W allP [] (.o [64 * m]) (fun j => .o [j]) (64 * m + 1) x1 b base
                | .np => False
                | .wc => l.Vs P W allP [] (fun j => .o [j]) (64 * m + 1) x1 [v]
                | .wa => ∃ a, v = .agg a ∧ l.Vs P W allP [] (fun j => .o [j]) (64 * m + 1) x1 a.toList) := by
              rintro hc rfl
              rw [hc] at hx1
              exact Vs_q l hx1
            cases gk <;> cases d <;> simp only [kindB] at hk <;> try (cases hk; done)
            · obtain ⟨b, rfl⟩ := WideShapes.okWide_bool hu hv0; exact one rfl rfl
            · obtain ⟨b, rfl⟩ := WideShapes.okWide_int hu hv0; exact one rfl rfl
            · obtain ⟨b, rfl⟩ := WideShapes.okWide_string hu hv0; exact one rfl rfl
            · obtain ⟨_, _, _, rfl⟩ := WideShapes.okWide_slice hu hv0; exact one rfl rfl
            · simp only [Value.okWide, hu] at hv0
              obtain ⟨cs, rfl, _⟩ := hv0
              exact ⟨cs, rfl, Vs_q l hx1⟩

/-- A law that is true of all data, of what is read. -/
theorem law_calls {H : Type} {enc : TypeId × Value → H} {spare : Nat → Bool} {held : Bool} {f : Nat} {ins : List Grp} {F : GD ins → Option (GD [boolG])} (hg : Good P f ⟨ins, [boolG], F⟩) {ts : List TypeId} (hb : insB P ins ts = true) (hF : ∀ x, OkG ins x → F x = some ((true, ()), ()))
    {args : Array Value} {ds : List (DataW H)} {ps : List MemPlace} (h : DataW.TrodAll enc P W 0 spare held ts args.toList ds ps) {base : Nat}
    (hv : ∀ (j : Nat) t v, ts[j]? = some t → args[j]? = some v → Value.okWide P W .any base t v) : Calls P f args W fun e W' => e = .returned (.bool true) ∧ Below W.heap.size W W' := by
  obtain ⟨x, hx, hok⟩ := args_ok ins ts 0 hb h (fun j t v h1 h2 => .inr ⟨base, hv j t v h1 (by simpa using h2)⟩)
  have := hg W allP args.toList x _ (hF x hok) hx ⟨fun b k π h => (by cases h), fun b k h => (by cases h)⟩
  have e0 : args.toList.toArray = args := by simp
  rw [e0] at this
  refine Calls.mono this fun e w' he => ?_
  obtain ⟨vs, o', rfl, _, hfr, _, hout⟩ := he
  refine ⟨?_, hfr.os, hfr.tape, hfr.output, hfr.size, fun k hk => hfr.blk k hk fun j π h => by cases h⟩
  cases vs with
  | nil =>
    cases hio : ioAddrs ins args.toList with
    | nil => rw [hio] at hout; exact hout.elim
    | cons a io =>
      -- nothing that is written through is handed back by a law
      rw [hio] at hout
      exfalso
      have key : ∀ (gs : List Grp) (ts : List TypeId) (vs : List Value), insB P gs ts = true → ioAddrs gs vs = [] := by
        intro gs
        induction gs with
        | nil => intro ts vs _; rfl
        | cons g gs ih =>
          intro ts vs hb
          cases ts with
          | nil => simp [insB] at hb
          | cons t ts =>
            simp only [insB, Bool.and_eq_true] at hb
            obtain ⟨⟨_, hk⟩, hb⟩ := hb
            cases vs with
            | nil => rfl
            | cons v vs =>
              have ih := ih ts vs hb
              have hne : isIo g.k = false := by
                cases e : g.k <;> first | rfl | skip
                all_goals rw [e] at hk
                all_goals exfalso
                all_goals
                  cases hu : P.underlying t with
                  | none => rw [hu] at hk; cases hk
                  | some d => rw [hu] at hk; cases d <;> cases hk
              simp only [ioAddrs]
              split
              · rw [show g.k = PK.io by assumption] at hne; cases hne
              · rw [show g.k = PK.wc by assumption] at hne; cases hne
              · rw [show g.k = PK.wa by assumption] at hne; cases hne
              · exact ih
      rw [key ins ts _ hb] at hio
      cases hio
  | cons v vs =>
    obtain ⟨h1, h2⟩ := hout
    have hvs : vs = [] := h2.1
    subst hvs
    have h1 : ∃ u r, [v] = u :: r ∧ u = .bool true ∧ _ := h1
    obtain ⟨u, r, e, hu, _⟩ := h1
    cases e
    rw [hu]
    rfl
end
end Go.Tm

/- Plain words about what the pure machine's functions compute: loops, sizes, copies, comparisons. -/
namespace Go.Tm
open Go

section loops
variable {S E : Type}

theorem loopIter_mono {f : S → Option (Sum S E)} : ∀ {n m : Nat} {s : S} {e : E}, n ≤ m → loopIter f n s = some e → loopIter f m s = some e
  | 0, _, _, _, _, h => by cases h
  | n + 1, 0, _, _, h, _ => by omega
  | n + 1, m + 1, s, e, hle, h => by
    simp only [loopIter] at h ⊢
    split at h
    · cases h
    · exact loopIter_mono (by omega) h
    · exact h

/-- A loop that comes to its end comes to that one. -/
theorem loopF_of {f : S → Option (Sum S E)} {n : Nat} {s : S} {e : E} (h : loopIter f n s = some e) : loopF f s = some e := by
  have hex : ∃ n e, loopIter f n s = some e := ⟨n, e, h⟩
  unfold loopF
  rw [dif_pos hex]
  have h2 := Classical.choose_spec (Classical.choose_spec hex)
  have h3 := loopIter_mono (Nat.le_max_left n (Classical.choose hex)) h
  have h4 := loopIter_mono (Nat.le_max_right n (Classical.choose hex)) h2
  rw [h3] at h4
  exact h4.symm

/-- A loop told round by round. -/
theorem loopF_trace {f : S → Option (Sum S E)} (g : Nat → S) (m : Nat) {e : E} (h : ∀ i, i < m → f (g i) = some (.inl (g (i + 1)))) (hm : f (g m) = some (.inr e)) : loopF f (g 0) = some e := by
  have key : ∀ k i, i + k = m → loopIter f (k + 1) (g i) = some e := by
    intro k
    induction k with
    | zero => intro i hi; simp only [loopIter, show i = m by omega, hm]
    | succ k ih =>
      intro i hi
      rw [loopIter, h i (by omega)]
      exact ih (i + 1) (by omega)
  exact loopF_of (key m 0 (by omega))
end loops

/-- A number as it may be. -/
abbrev big : Int := 1048576

theorem wrap64 {n : Int} (h1 : -9223372036854775808 ≤ n) (h2 : n ≤ 9223372036854775807) : IntKind.i64.wrap n = n := by
  simp [IntKind.wrap, IntKind.signed, IntKind.bits]
  omega

theorem iAdd_small {a b : Int} (h1 : -9223372036854775808 ≤ a + b) (h2 : a + b ≤ 9223372036854775807) : iAdd .i64 a b = a + b := wrap64 h1 h2
theorem iSub_small {a b : Int} (h1 : -9223372036854775808 ≤ a - b) (h2 : a - b ≤ 9223372036854775807) : iSub .i64 a b = a - b := wrap64 h1 h2

theorem iLt_true {a b : Int} (h : a < b) : iLt a b = true := by simp [iLt, h]
theorem iLt_false {a b : Int} (h : b ≤ a) : iLt a b = false := by simp [iLt]; omega
theorem iEq_self (a : Int) : iEq a a = true := by simp [iEq]
theorem sEq_self (a : ByteArray) : sEq a a = true := by simp [sEq]
theorem bEq_self (a : Bool) : bEq a a = true := by simp [bEq]

theorem getI_lt {α : Type} {xs : List α} {i : Nat} (h : i < xs.length) : getI xs (i : Int) = some xs[i] := by
  unfold getI
  rw [if_pos (by omega)]
  simp [h]
theorem getN_lt {α : Type} {xs : List α} {i : Nat} (h : i < xs.length) : getN xs i = some xs[i] := by simp [getN, h]

def sumW {α : Type} (f : α → Nat) : List α → Nat
  | [] => 0
  | x :: r => f x + sumW f r

mutual
/-- How much there is in it. -/
def Ty.w : (t : Ty) → t.D → Nat
  | .int _, _ => 0
  | .bool, _ => 0
  | .str, s => s.size
  | .sl es, xs => List.length (α := es.D) xs + sumW (fun x => es.w x) xs
  | .fn _ _ _, _ => 0
def Tys.w : (ts : Tys) → ts.D → Nat
  | .nil, _ => 0
  | .cons t ts, x => t.w x.1 + ts.w x.2
end

theorem sumW_take {α : Type} {f : α → Nat} : ∀ {xs : List α} {i : Nat} (h : i < xs.length), sumW f (xs.take (i + 1)) = sumW f (xs.take i) + f xs[i]
  | x :: r, 0, h => by simp [sumW]
  | x :: r, i + 1, h => by
    have := sumW_take (f := f) (xs := r) (i := i) (by simpa using h)
    simp only [List.take_succ_cons, sumW, List.getElem_cons_succ] at this ⊢
    omega
theorem sumW_take_le {α : Type} {f : α → Nat} {xs : List α} : ∀ {i : Nat}, sumW f (xs.take i) ≤ sumW f xs := by
  intro i
  induction xs generalizing i with
  | nil => simp [sumW]
  | cons x r ih => cases i with
    | zero => simp [sumW]
    | succ i => simp only [List.take_succ_cons, sumW]; have := ih (i := i); omega
theorem sumW_mem {α : Type} {f : α → Nat} {x : α} : ∀ {xs : List α}, x ∈ xs → f x ≤ sumW f xs
  | y :: r, h => by
    simp only [sumW]
    rcases List.mem_cons.1 h with rfl | h
    · omega
    · have := sumW_mem (f := f) h; omega

/-- What is left, or that there is too much. -/
def szR (n : Nat) (l : Int) : Int := if (n : Int) ≤ l then l - n else -1

abbrev I1 (n : Int) : (Int × Unit) × Unit := ((n, ()), ())
abbrev B1 (b : Bool) : (Bool × Unit) × Unit := ((b, ()), ())

/-- It counts so much. -/
def Sz (n : Nat) (K : Int → Option ((Int × Unit) × Unit)) : Prop := ∀ l, 0 ≤ l → l ≤ big → K l = some (I1 (szR n l))

def szStr (n : Nat) (K : Int → Option ((Int × Unit) × Unit)) : Int → Option ((Int × Unit) × Unit) := fun l => bif iLt (iSub .i64 l (n : Int)) 0 then some (I1 (-1)) else K (iSub .i64 l (n : Int))
def szCall (T K : Int → Option ((Int × Unit) × Unit)) : Int → Option ((Int × Unit) × Unit) := fun l => (T l).bind fun y => bif iLt y.1.1 0 then some (I1 (-1)) else K y.1.1
def szEnd : Int → Option ((Int × Unit) × Unit) := fun l => some (I1 l)

theorem Sz.nil : Sz 0 szEnd := fun l h0 _ => by simp [szEnd, szR, h0]
theorem Sz.to {n m : Nat} {K : Int → Option ((Int × Unit) × Unit)} (h : Sz n K) (e : n = m) : Sz m K := e ▸ h

theorem Sz.str {a n : Nat} {K : Int → Option ((Int × Unit) × Unit)} (hs : a ≤ maxLen) (h : Sz n K) : Sz (a + n) (szStr a K) := by
  intro l h0 h1
  unfold maxLen at hs
  have hb : l ≤ 1048576 := h1
  unfold szStr
  rw [iSub_small (by omega) (by omega)]
  by_cases hl : (a : Int) ≤ l
  · rw [iLt_false (by omega), cond_false, h _ (by omega) (by omega)]
    simp only [szR]
    by_cases h2 : ((a + n : Nat) : Int) ≤ l
    · rw [if_pos h2, if_pos (by omega)]; simp only [Option.some.injEq, Prod.mk.injEq, and_true]; omega
    · rw [if_neg h2, if_neg (by omega)]
  · rw [iLt_true (by omega), cond_true]
    simp only [szR]
    rw [if_neg (by omega)]

theorem Sz.call {a n : Nat} {T K : Int → Option ((Int × Unit) × Unit)} (hT : Sz a T) (h : Sz n K) : Sz (a + n) (szCall T K) := by
  intro l h0 h1
  have hb : l ≤ 1048576 := h1
  unfold szCall
  rw [hT l h0 h1]
  simp only [Option.bind_some, szR]
  by_cases hl : (a : Int) ≤ l
  · rw [if_pos hl, iLt_false (by omega), cond_false, h _ (by omega) (by omega)]
    simp only [szR]
    by_cases h2 : ((a + n : Nat) : Int) ≤ l
    · rw [if_pos h2, if_pos (by omega)]; simp only [Option.some.injEq, Prod.mk.injEq, and_true]; omega
    · rw [if_neg h2, if_neg (by omega)]
  · rw [if_neg hl, if_neg (by omega)]
    rfl

theorem Sz.int {n : Nat} {K : Int → Option ((Int × Unit) × Unit)} (h : Sz n K) : Sz (0 + n) K := by rw [Nat.zero_add]; exact h
theorem w_tl {t : Ty} {ts : Tys} {x : (Tys.cons t ts).D} {n : Nat} (h : (Tys.cons t ts).w x ≤ n) : ts.w x.2 ≤ n := Nat.le_trans (Nat.le_add_left _ _) h
theorem w_el {es : Tys} {xs : List es.D} {x : (Tys.cons (.sl es) .nil).D} {n : Nat} {y : es.D} (h : (Tys.cons (.sl es) .nil).w x ≤ n) (e : x.1 = xs) (hy : y ∈ xs) : es.w y ≤ n := by
  subst e
  have h : List.length x.1 + sumW (fun z => es.w z) x.1 + 0 ≤ n := h
  have := sumW_mem (f := fun z => es.w z) hy
  omega
theorem w_len {es : Tys} {x : (Tys.cons (.sl es) .nil).D} {n : Nat} (h : (Tys.cons (.sl es) .nil).w x ≤ n) : List.length (α := es.D) x.1 ≤ n := by
  have h : List.length x.1 + sumW (fun z => es.w z) x.1 + 0 ≤ n := h
  omega
theorem w_1 {t1 : Ty} {ts : Tys} {x : ((.cons t1 ts) : Tys).D} {n : Nat} (h : ((.cons t1 ts) : Tys).w x ≤ n) : ((.cons t1 .nil) : Tys).w (x.1, ()) ≤ n := Nat.le_trans (Nat.add_le_add_left (Nat.zero_le _) _) h
theorem Sz.call1 {a1 n : Nat} {T K : Int → Option ((Int × Unit) × Unit)} (hT : Sz (a1 + 0) T) (h : Sz n K) : Sz (a1 + n) (szCall T K) := (Sz.call hT h).to (by omega)
theorem w_2 {t2 t1 : Ty} {ts : Tys} {x : ((.cons t2 (.cons t1 ts)) : Tys).D} {n : Nat} (h : ((.cons t2 (.cons t1 ts)) : Tys).w x ≤ n) : ((.cons t2 (.cons t1 .nil)) : Tys).w (x.1, (x.2.1, ())) ≤ n := Nat.le_trans (Nat.add_le_add_left (Nat.add_le_add_left (Nat.zero_le _) _) _) h
theorem Sz.call2 {a1 a2 n : Nat} {T K : Int → Option ((Int × Unit) × Unit)} (hT : Sz (a1 + (a2 + 0)) T) (h : Sz n K) : Sz (a1 + (a2 + n)) (szCall T K) := (Sz.call hT h).to (by omega)
theorem w_3 {t3 t2 t1 : Ty} {ts : Tys} {x : ((.cons t3 (.cons t2 (.cons t1 ts))) : Tys).D} {n : Nat} (h : ((.cons t3 (.cons t2 (.cons t1 ts))) : Tys).w x ≤ n) : ((.cons t3 (.cons t2 (.cons t1 .nil))) : Tys).w (x.1, (x.2.1, (x.2.2.1, ()))) ≤ n := Nat.le_trans (Nat.add_le_add_left (Nat.add_le_add_left (Nat.add_le_add_left (Nat.zero_le _) _) _) _) h
theorem Sz.call3 {a1 a2 a3 n : Nat} {T K : Int → Option ((Int × Unit) × Unit)} (hT : Sz (a1 + (a2 + (a3 + 0))) T) (h : Sz n K) : Sz (a1 + (a2 + (a3 + n))) (szCall T K) := (Sz.call hT h).to (by omega)
theorem w_4 {t4 t3 t2 t1 : Ty} {ts : Tys} {x : ((.cons t4 (.cons t3 (.cons t2 (.cons t1 ts)))) : Tys).D} {n : Nat} (h : ((.cons t4 (.cons t3 (.cons t2 (.cons t1 ts)))) : Tys).w x ≤ n) : ((.cons t4 (.cons t3 (.cons t2 (.cons t1 .nil)))) : Tys).w (x.1, (x.2.1, (x.2.2.1, (x.2.2.2.1, ())))) ≤ n := Nat.le_trans (Nat.add_le_add_left (Nat.add_le_add_left (Nat.add_le_add_left (Nat.add_le_add_left (Nat.zero_le _) _) _) _) _) h
theorem Sz.call4 {a1 a2 a3 a4 n : Nat} {T K : Int → Option ((Int × Unit) × Unit)} (hT : Sz (a1 + (a2 + (a3 + (a4 + 0)))) T) (h : Sz n K) : Sz (a1 + (a2 + (a3 + (a4 + n)))) (szCall T K) := (Sz.call hT h).to (by omega)
theorem w_5 {t5 t4 t3 t2 t1 : Ty} {ts : Tys} {x : ((.cons t5 (.cons t4 (.cons t3 (.cons t2 (.cons t1 ts))))) : Tys).D} {n : Nat} (h : ((.cons t5 (.cons t4 (.cons t3 (.cons t2 (.cons t1 ts))))) : Tys).w x ≤ n) : ((.cons t5 (.cons t4 (.cons t3 (.cons t2 (.cons t1 .nil))))) : Tys).w (x.1, (x.2.1, (x.2.2.1, (x.2.2.2.1, (x.2.2.2.2.1, ()))))) ≤ n := Nat.le_trans (Nat.add_le_add_left (Nat.add_le_add_left (Nat.add_le_add_left (Nat.add_le_add_left (Nat.add_le_add_left (Nat.zero_le _) _) _) _) _) _) h
theorem Sz.call5 {a1 a2 a3 a4 a5 n : Nat} {T K : Int → Option ((Int × Unit) × Unit)} (hT : Sz (a1 + (a2 + (a3 + (a4 + (a5 + 0))))) T) (h : Sz n K) : Sz (a1 + (a2 + (a3 + (a4 + (a5 + n))))) (szCall T K) := (Sz.call hT h).to (by omega)
theorem w_6 {t6 t5 t4 t3 t2 t1 : Ty} {ts : Tys} {x : ((.cons t6 (.cons t5 (.cons t4 (.cons t3 (.cons t2 (.cons t1 ts)))))) : Tys).D} {n : Nat} (h : ((.cons t6 (.cons t5 (.cons t4 (.cons t3 (.cons t2 (.cons t1 ts)))))) : Tys).w x ≤ n) : ((.cons t6 (.cons t5 (.cons t4 (.cons t3 (.cons t2 (.cons t1 .nil)))))) : Tys).w (x.1, (x.2.1, (x.2.2.1, (x.2.2.2.1, (x.2.2.2.2.1, (x.2.2.2.2.2.1, ())))))) ≤ n := Nat.le_trans (Nat.add_le_add_left (Nat.add_le_add_left (Nat.add_le_add_left (Nat.add_le_add_left (Nat.add_le_add_left (Nat.add_le_add_left (Nat.zero_le _) _) _) _) _) _) _) h
theorem Sz.call6 {a1 a2 a3 a4 a5 a6 n : Nat} {T K : Int → Option ((Int × Unit) × Unit)} (hT : Sz (a1 + (a2 + (a3 + (a4 + (a5 + (a6 + 0)))))) T) (h : Sz n K) : Sz (a1 + (a2 + (a3 + (a4 + (a5 + (a6 + n)))))) (szCall T K) := (Sz.call hT h).to (by omega)
theorem w_7 {t7 t6 t5 t4 t3 t2 t1 : Ty} {ts : Tys} {x : ((.cons t7 (.cons t6 (.cons t5 (.cons t4 (.cons t3 (.cons t2 (.cons t1 ts))))))) : Tys).D} {n : Nat} (h : ((.cons t7 (.cons t6 (.cons t5 (.cons t4 (.cons t3 (.cons t2 (.cons t1 ts))))))) : Tys).w x ≤ n) : ((.cons t7 (.cons t6 (.cons t5 (.cons t4 (.cons t3 (.cons t2 (.cons t1 .nil))))))) : Tys).w (x.1, (x.2.1, (x.2.2.1, (x.2.2.2.1, (x.2.2.2.2.1, (x.2.2.2.2.2.1, (x.2.2.2.2.2.2.1, ()))))))) ≤ n := Nat.le_trans (Nat.add_le_add_left (Nat.add_le_add_left (Nat.add_le_add_left (Nat.add_le_add_left (Nat.add_le_add_left (Nat.add_le_add_left (Nat.add_le_add_left (Nat.zero_le _) _) _) _) _) _) _) _) h
theorem Sz.call7 {a1 a2 a3 a4 a5 a6 a7 n : Nat} {T K : Int → Option ((Int × Unit) × Unit)} (hT : Sz (a1 + (a2 + (a3 + (a4 + (a5 + (a6 + (a7 + 0))))))) T) (h : Sz n K) : Sz (a1 + (a2 + (a3 + (a4 + (a5 + (a6 + (a7 + n))))))) (szCall T K) := (Sz.call hT h).to (by omega)
theorem w_8 {t8 t7 t6 t5 t4 t3 t2 t1 : Ty} {ts : Tys} {x : ((.cons t8 (.cons t7 (.cons t6 (.cons t5 (.cons t4 (.cons t3 (.cons t2 (.cons t1 ts)))))))) : Tys).D} {n : Nat} (h : ((.cons t8 (.cons t7 (.cons t6 (.cons t5 (.cons t4 (.cons t3 (.cons t2 (.cons t1 ts)))))))) : Tys).w x ≤ n) : ((.cons t8 (.cons t7 (.cons t6 (.cons t5 (.cons t4 (.cons t3 (.cons t2 (.cons t1 .nil)))))))) : Tys).w (x.1, (x.2.1, (x.2.2.1, (x.2.2.2.1, (x.2.2.2.2.1, (x.2.2.2.2.2.1, (x.2.2.2.2.2.2.1, (x.2.2.2.2.2.2.2.1, ())))))))) ≤ n := Nat.le_trans (Nat.add_le_add_left (Nat.add_le_add_left (Nat.add_le_add_left (Nat.add_le_add_left (Nat.add_le_add_left (Nat.add_le_add_left (Nat.add_le_add_left (Nat.add_le_add_left (Nat.zero_le _) _) _) _) _) _) _) _) _) h
theorem Sz.call8 {a1 a2 a3 a4 a5 a6 a7 a8 n : Nat} {T K : Int → Option ((Int × Unit) × Unit)} (hT : Sz (a1 + (a2 + (a3 + (a4 + (a5 + (a6 + (a7 + (a8 + 0)))))))) T) (h : Sz n K) : Sz (a1 + (a2 + (a3 + (a4 + (a5 + (a6 + (a7 + (a8 + n)))))))) (szCall T K) := (Sz.call hT h).to (by omega)

def szLoopB {A C : Type} {Y : Type} (xs : List A) (T : A → Int → Option C) (π : C → Int) (r : Y) : Int × (Int × Unit) → Option (Sum (Int × (Int × Unit)) (Sum (Int × (Int × Unit)) Y)) := fun v =>
  bif iLt v.2.1 (List.length xs : Int) then (getI xs v.2.1).bind fun x => (T x v.1).bind fun y => bif iLt (π y) 0 then some (.inr (.inr r)) else some (.inl (π y, (iAdd .i64 v.2.1 1, ()))) else some (.inr (.inl (v.1, (v.2.1, ()))))

theorem szLoop {A C Y : Type} {xs : List A} {T : A → Int → Option C} {π : C → Int} {r : Y} {wt : A → Nat} (hl : xs.length ≤ maxLen) (hT : ∀ x ∈ xs, ∀ l, 0 ≤ l → l ≤ big → ∃ c, T x l = some c ∧ ((wt x : Int) ≤ l → π c = l - wt x) ∧ (l < (wt x : Int) → π c < 0)) {l : Int} (h0 : 0 ≤ l) (h1 : l ≤ big) :
    loopF (szLoopB xs T π r) (l, ((0 : Int), ())) = if (sumW wt xs : Int) ≤ l then some (.inl (l - sumW wt xs, ((xs.length : Int), ()))) else some (.inr r) := by
  unfold maxLen at hl
  have hb : l ≤ 1048576 := h1
  -- the state behind i rounds
  let g : Nat → Int × (Int × Unit) := fun i => (l - sumW wt (xs.take i), ((i : Int), ()))
  have step : ∀ i (hi : i < xs.length), (sumW wt (xs.take i) : Int) ≤ l → szLoopB xs T π r (g i) = if (sumW wt (xs.take (i + 1)) : Int) ≤ l then some (.inl (g (i + 1))) else some (.inr (.inr r)) := by
    intro i hi hs
    obtain ⟨c, hc, hπ, hπ2⟩ := hT xs[i] (List.getElem_mem hi) (l - sumW wt (xs.take i)) (by omega) (by show _ ≤ (1048576 : Int); omega)
    have hst := sumW_take (f := wt) hi
    show szLoopB xs T π r (l - sumW wt (xs.take i), ((i : Int), ())) = _
    unfold szLoopB
    dsimp only
    rw [iLt_true (by omega), cond_true, getI_lt hi, Option.bind_some, hc, Option.bind_some, iAdd_small (by omega) (by omega)]
    by_cases h2 : (sumW wt (xs.take (i + 1)) : Int) ≤ l
    · rw [if_pos h2, hπ (by omega), iLt_false (by omega), cond_false]
      show some (Sum.inl _) = some (Sum.inl (l - (sumW wt (xs.take (i + 1)) : Int), (((i + 1 : Nat) : Int), ())))
      rw [hst]
      congr 3
      omega
    · rw [if_neg h2, iLt_true (hπ2 (by omega)), cond_true]
  have hg0 : (l, ((0 : Int), ())) = g 0 := by simp [g, sumW]
  rw [hg0]
  by_cases hall : (sumW wt xs : Int) ≤ l
  · rw [if_pos hall]
    refine loopF_trace g xs.length (fun i hi => ?_) ?_
    · have h2 := sumW_take_le (f := wt) (xs := xs) (i := i)
      have h3 := sumW_take_le (f := wt) (xs := xs) (i := i + 1)
      rw [step i hi (by omega), if_pos (by omega)]
    · show szLoopB xs T π r (l - sumW wt (xs.take xs.length), ((xs.length : Int), ())) = _
      unfold szLoopB
      dsimp only
      rw [iLt_false (Int.le_refl _), cond_false, List.take_length]
  · rw [if_neg hall]
    -- the first round that finds too much
    have hex : ∃ m, m < xs.length ∧ (sumW wt (xs.take m) : Int) ≤ l ∧ ¬ (sumW wt (xs.take (m + 1)) : Int) ≤ l := by
      have key : ∀ k, k ≤ xs.length → ¬ (sumW wt (xs.take k) : Int) ≤ l → ∃ m, m < k ∧ (sumW wt (xs.take m) : Int) ≤ l ∧ ¬ (sumW wt (xs.take (m + 1)) : Int) ≤ l := by
        intro k
        induction k with
        | zero => intro _ h; simp [sumW] at h; omega
        | succ k ih =>
          intro hk h
          by_cases hm : (sumW wt (xs.take k) : Int) ≤ l
          · exact ⟨k, by omega, hm, h⟩
          · obtain ⟨m, h1, h2⟩ := ih (by omega) hm
            exact ⟨m, by omega, h2⟩
      exact key xs.length (Nat.le_refl _) (by rw [List.take_length]; exact hall)
    obtain ⟨m, hm, hm1, hm2⟩ := hex
    refine loopF_trace g m (fun i hi => ?_) ?_
    · have mono : ∀ i, i ≤ m → sumW wt (xs.take i) ≤ sumW wt (xs.take m) := by
        intro i hi
        have := sumW_take_le (f := wt) (xs := xs.take m) (i := i)
        rwa [List.take_take, Nat.min_eq_left hi] at this
      have h2 := mono i (by omega)
      have h3 := mono (i + 1) (by omega)
      rw [step i (by omega) (by omega), if_pos (by omega)]
    · rw [step m hm hm1, if_neg hm2]

theorem szR_T {A : Type} {x : A} {n : Nat} {K : Int → Option ((Int × Unit) × Unit)} (h : Sz n K) : ∀ l, 0 ≤ l → l ≤ big → ∃ c, K l = some c ∧ ((n : Int) ≤ l → c.1.1 = l - n) ∧ (l < (n : Int) → c.1.1 < 0) := fun l h0 h1 =>
  ⟨_, h l h0 h1, fun h => if_pos h, fun h => by show szR n l < 0; unfold szR; rw [if_neg (by omega)]; omega⟩
theorem szR_S {n : Nat} (hn : n ≤ maxLen) : ∀ l : Int, 0 ≤ l → l ≤ big → ∃ c, some (iSub .i64 l (n : Int)) = some c ∧ ((n : Int) ≤ l → c = l - n) ∧ (l < (n : Int) → c < 0) := fun l h0 h1 => by
  unfold maxLen at hn
  have hb : l ≤ 1048576 := h1
  refine ⟨_, rfl, ?_⟩
  rw [iSub_small (by omega) (by omega)]
  exact ⟨fun _ => rfl, fun h => by omega⟩
theorem Ok_mem {es : Tys} {xs : List es.D} (h : ∀ i x, getN (α := es.D) xs i = some x → es.Ok x) {y : es.D} (hy : y ∈ xs) : es.Ok y := by
  obtain ⟨i, hi⟩ := List.getElem?_of_mem hy
  exact h i y hi
theorem sumW_zero {α : Type} {f : α → Nat} (h : ∀ x, f x = 0) : ∀ xs : List α, sumW f xs = 0
  | [] => rfl
  | x :: r => by simp only [sumW, h x, sumW_zero h r]

/-- Counting a list. -/
theorem Sz.list {A C : Type} {xs : List A} {T : A → Int → Option C} {π : C → Int} {wt : A → Nat} (hl : xs.length ≤ maxLen) (hT : ∀ x ∈ xs, ∀ l, 0 ≤ l → l ≤ big → ∃ c, T x l = some c ∧ ((wt x : Int) ≤ l → π c = l - wt x) ∧ (l < (wt x : Int) → π c < 0)) :
    Sz (xs.length + sumW wt xs) (szStr xs.length fun l => (loopF (szLoopB xs T π (I1 (-1))) (l, ((0 : Int), ()))).bind fun r => Sum.elim (fun v => some (I1 v.1)) some r) := by
  refine Sz.str hl fun l h0 h1 => ?_
  rw [szLoop hl hT h0 h1]
  simp only [szR]
  by_cases h : (sumW wt xs : Int) ≤ l
  · rw [if_pos h, if_pos h]; rfl
  · rw [if_neg h, if_neg h]; rfl

def toLoopB {A B C : Type} {Y : Type} (xs : List A) (T : A → Option C) (π : C → B) : Int × (List B × Unit) → Option (Sum (Int × (List B × Unit)) (Sum (Int × (List B × Unit)) Y)) := fun v =>
  bif iLt v.1 (List.length xs : Int) then (getI xs v.1).bind fun x => (T x).bind fun y => (getI v.2.1 v.1).bind fun _ => (getN v.2.1 (Int.toNat v.1)).bind fun _ => some (.inl (iAdd .i64 v.1 1, (List.set v.2.1 (Int.toNat v.1) (π y), ()))) else some (.inr (.inl (v.1, (v.2.1, ()))))

/-- A list copied place by place. -/
theorem toLoop {A B C Y : Type} {xs : List A} {T : A → Option C} {π : C → B} {φ : A → B} (z : B) (hl : xs.length ≤ maxLen) (hT : ∀ x ∈ xs, ∃ c, T x = some c ∧ π c = φ x) :
    loopF (toLoopB (Y := Y) xs T π) ((0 : Int), (List.replicate xs.length z, ())) = some (.inl ((xs.length : Int), (xs.map φ, ()))) := by
  unfold maxLen at hl
  let g : Nat → Int × (List B × Unit) := fun i => ((i : Int), ((xs.take i).map φ ++ List.replicate (xs.length - i) z, ()))
  have hg0 : ((0 : Int), (List.replicate xs.length z, ())) = g 0 := by simp [g]
  rw [hg0]
  refine loopF_trace g xs.length (fun i hi => ?_) ?_
  · obtain ⟨c, hc, hπ⟩ := hT xs[i] (List.getElem_mem hi)
    have hlen : ((xs.take i).map φ ++ List.replicate (xs.length - i) z).length = xs.length := by simp; omega
    show toLoopB xs T π ((i : Int), ((xs.take i).map φ ++ List.replicate (xs.length - i) z, ())) = _
    unfold toLoopB
    dsimp only
    rw [iLt_true (by omega), cond_true, getI_lt hi, Option.bind_some, hc, Option.bind_some, getI_lt (by omega), Option.bind_some, Int.toNat_natCast, getN_lt (by omega), Option.bind_some, hπ, iAdd_small (by omega) (by omega)]
    show some (Sum.inl _) = some (Sum.inl ((((i + 1 : Nat) : Int)), ((xs.take (i + 1)).map φ ++ List.replicate (xs.length - (i + 1)) z, ())))
    congr 4
    have e : xs.length - i = (xs.length - (i + 1)) + 1 := by omega
    have h2 : ((xs.take i).map φ).length = i := by simp; omega
    have e3 : (xs.take (i + 1)).map φ = (xs.take i).map φ ++ [φ xs[i]] := by rw [← List.take_append_getElem hi, List.map_append]; rfl
    rw [e, List.replicate_succ, List.set_append_right _ _ (by omega), h2, Nat.sub_self, List.set_cons_zero, e3, List.append_assoc]
    rfl
  · show toLoopB xs T π ((xs.length : Int), ((xs.take xs.length).map φ ++ List.replicate (xs.length - xs.length) z, ())) = _
    unfold toLoopB
    dsimp only
    rw [iLt_false (Int.le_refl _), cond_false]
    simp

theorem mkOk_small {n bytes : Nat} (h : n ≤ 1048576) (hb : 0 < bytes) (hb2 : bytes ≤ 65536) : mkOk (n : Int) (n : Int) bytes = true := by
  unfold mkOk
  have h1 : (n : Int) * (bytes : Int) ≤ 1048576 * 65536 := Int.mul_le_mul (by omega) (by omega) (by omega) (by omega)
  simp only [decide_eq_true_eq]
  refine ⟨trivial, by omega, by omega, hb⟩

/-- A list copied. -/
theorem toList {A B C : Type} {xs : List A} {T : A → Option C} {π : C → B} {φ : A → B} {z : B} {bytes : Nat} (hb : 0 < bytes) (hb2 : bytes ≤ 65536) (hl : xs.length ≤ 1048576) (hT : ∀ x ∈ xs, ∃ c, T x = some c ∧ π c = φ x) :
    (bif mkOk (List.length xs : Int) (List.length xs : Int) bytes then (loopF (toLoopB (Y := (List B × Unit) × Unit) xs T π) ((0 : Int), (List.replicate (Int.toNat (List.length xs : Int)) z, ()))).bind fun r => Sum.elim (fun v => some ((v.2.1, ()), ())) some r else none) = some ((xs.map φ, ()), ()) := by
  rw [mkOk_small hl hb hb2, cond_true, Int.toNat_natCast, toLoop z (by unfold maxLen; omega) hT]
  rfl

def eqLoopB {A : Type} {Y : Type} (xs ys : List A) (E : A → A → Int × Unit → Option (Sum (Int × Unit) (Sum (Int × Unit) Y))) : Int × Unit → Option (Sum (Int × Unit) (Sum (Int × Unit) Y)) := fun v =>
  bif iLt v.1 (List.length xs : Int) then (getI xs v.1).bind fun x => (getI ys v.1).bind fun y => E x y v else some (.inr (.inl (v.1, ())))

theorem eqLoop {A Y : Type} {xs : List A} {E : A → A → Int × Unit → Option (Sum (Int × Unit) (Sum (Int × Unit) Y))} (hl : xs.length ≤ maxLen) (hE : ∀ x ∈ xs, ∀ v, E x x v = some (.inl (iAdd .i64 v.1 1, ()))) :
    loopF (eqLoopB xs xs E) ((0 : Int), ()) = some (.inl ((xs.length : Int), ())) := by
  unfold maxLen at hl
  let g : Nat → Int × Unit := fun i => ((i : Int), ())
  show loopF (eqLoopB xs xs E) (g 0) = _
  refine loopF_trace g xs.length (fun i hi => ?_) ?_
  · show eqLoopB xs xs E ((i : Int), ()) = _
    unfold eqLoopB
    dsimp only
    rw [iLt_true (by omega), cond_true, getI_lt hi, Option.bind_some, Option.bind_some, hE _ (List.getElem_mem hi), iAdd_small (by omega) (by omega)]
    rfl
  · show eqLoopB xs xs E ((xs.length : Int), ()) = _
    unfold eqLoopB
    dsimp only
    rw [iLt_false (Int.le_refl _), cond_false]

/-- A list against itself. -/
theorem eqList {A : Type} {xs : List A} {E : A → A → Int × Unit → Option (Sum (Int × Unit) (Sum (Int × Unit) ((Bool × Unit) × Unit)))} (hl : xs.length ≤ maxLen) (hE : ∀ x ∈ xs, ∀ v, E x x v = some (.inl (iAdd .i64 v.1 1, ()))) :
    (bif !iEq (List.length xs : Int) (List.length xs : Int) then some (B1 false) else (loopF (eqLoopB xs xs E) ((0 : Int), ())).bind fun r => Sum.elim (fun _ => some (B1 true)) some r) = some (B1 true) := by
  rw [iEq_self, Bool.not_true, cond_false, eqLoop hl hE]
  rfl

section steps
variable {R : Type}
theorem eq_int {a : Int} {f K r : Option R} (h : K = r) : (bif !iEq a a then f else K) = r := by rw [iEq_self]; exact h
theorem eq_str {a : ByteArray} {f K r : Option R} (h : K = r) : (bif !sEq a a then f else K) = r := by rw [sEq_self]; exact h
theorem eq_bool {a : Bool} {f K r : Option R} (h : K = r) : (bif !bEq a a then f else K) = r := by rw [bEq_self]; exact h
theorem eq_call {T : Option ((Bool × Unit) × Unit)} {f K r : Option R} (hT : T = some (B1 true)) (h : K = r) : (T.bind fun y => bif (!y.1.1) then f else K) = r := by rw [hT]; exact h
theorem bind_eq {A : Type} {T : Option A} {y : A} {K : A → Option R} {r : Option R} (hT : T = some y) (h : K y = r) : T.bind K = r := by rw [hT]; exact h
end steps
end Go.Tm

/- Plain words about loops: values round by round, loops that ask something of each element. -/
namespace Go.Tm
open Go

section
variable {S E : Type}

theorem loopF_end {f : S → Option (Sum S E)} {s : S} {e : E} (h : f s = some (.inr e)) : loopF f s = some e := loopF_of (n := 1) (by simp [loopIter, h])

theorem loopF_step {f : S → Option (Sum S E)} {s s' : S} (h : f s = some (.inl s')) : loopF f s = loopF f s' := by
  by_cases hx : ∃ n e, loopIter f n s' = some e
  · obtain ⟨n, e, he⟩ := hx
    rw [loopF_of he, loopF_of (n := n + 1) (by simp only [loopIter, h]; exact he)]
  · have h1 : ¬ ∃ n e, loopIter f n s = some e := by
      rintro ⟨n, e, he⟩
      cases n with
      | zero => cases he
      | succ n => simp only [loopIter, h] at he; exact hx ⟨n, e, he⟩
    unfold loopF
    rw [dif_neg hx, dif_neg h1]

def valAt {A σ : Type} (xs : List A) (step : Nat → σ → A → σ) (s0 : σ) : Nat → σ
  | 0 => s0
  | i + 1 => match xs[i]? with
    | some x => step i (valAt xs step s0 i) x
    | none => valAt xs step s0 i

/-- A loop that goes through a list. -/
theorem loopVal {A σ : Type} (xs : List A) (step : Nat → σ → A → σ) {f : S → Option (Sum S E)} (mk : σ → Int → S) (End : σ → E) (s0 : σ) (hstep : ∀ i (h : i < xs.length) s, f (mk s (i : Int)) = some (.inl (mk (step i s xs[i]) ((i + 1 : Nat) : Int)))) (hend : ∀ s, f (mk s (xs.length : Int)) = some (.inr (End s))) :
    loopF f (mk s0 0) = some (End (valAt xs step s0 xs.length)) := by
  refine loopF_trace (fun i => mk (valAt xs step s0 i) (i : Int)) xs.length (fun i hi => ?_) (hend _)
  rw [hstep i hi]
  simp [valAt, List.getElem?_eq_getElem hi]

/-- Whether something holds of each, told with its place. -/
def allI {A : Type} (p : Nat → A → Bool) : Nat → List A → Bool
  | _, [] => true
  | k, x :: r => p k x && allI p (k + 1) r

/-- A loop that ends at the first that is not so. -/
theorem loopAll {A : Type} (xs : List A) (p : Nat → A → Bool) {f : S → Option (Sum S E)} (mk : Int → S) (e r : E) (hstep : ∀ i (h : i < xs.length), f (mk (i : Int)) = bif p i xs[i] then some (.inl (mk ((i + 1 : Nat) : Int))) else some (.inr r)) (hend : f (mk (xs.length : Int)) = some (.inr e)) :
    loopF f (mk 0) = some (bif allI p 0 xs then e else r) := by
  have key : ∀ (suf : List A) (k : Nat), xs.drop k = suf → k + suf.length = xs.length → loopF f (mk (k : Int)) = some (bif allI p k suf then e else r) := by
    intro suf
    induction suf with
    | nil =>
      intro k _ hk
      rw [show k = xs.length by simpa using hk, loopF_end hend]
      rfl
    | cons x suf ih =>
      intro k hd hk
      have hlt : k < xs.length := by simp at hk; omega
      have hx : xs[k] = x := by
        have : (xs.drop k)[0]? = some x := by rw [hd]; rfl
        rw [List.getElem?_drop] at this
        simpa [hlt] using this
      have h1 := hstep k hlt
      rw [hx] at h1
      simp only [allI]
      cases hp : p k x with
      | true =>
        rw [hp] at h1
        rw [loopF_step h1]
        refine (ih (k + 1) ?_ (by simp at hk; omega)).trans (by simp)
        have := congrArg (List.drop 1) hd
        simpa [List.drop_drop] using this
      | false =>
        rw [hp] at h1
        rw [loopF_end h1]
        rfl
  have := key xs 0 rfl (by simp)
  exact this

theorem allI_congr {A : Type} {p q : Nat → A → Bool} : ∀ {k : Nat} {xs : List A}, (∀ i x, xs[i]? = some x → p (k + i) x = q (k + i) x) → allI p k xs = allI q k xs
  | _, [], _ => rfl
  | k, x :: r, h => by
    simp only [allI]
    have h0 := h 0 x rfl
    rw [Nat.add_zero] at h0
    have ih : allI p (k + 1) r = allI q (k + 1) r := allI_congr (k := k + 1) (xs := r) fun i y hi => by
      have := h (i + 1) y (by simpa using hi)
      rwa [show k + (i + 1) = k + 1 + i by omega] at this
    rw [h0, ih]
end
end Go.Tm

/- Plain words: an order of strings, sums that wrap, loops with an invariant, marks. -/
namespace Go.Tm
open Go

theorem bytesLess_self : ∀ (x : List UInt8), Op.bytesLess x x = false
  | [] => rfl
  | a :: x => by
    simp only [Op.bytesLess, bytesLess_self x, Bool.and_false, Bool.or_false, decide_eq_false_iff_not]
    exact fun h => by simp [UInt8.lt_iff_toNat_lt] at h

theorem bytesLess_tri : ∀ (x y : List UInt8), (!(Op.bytesLess x y || x == y)) = Op.bytesLess y x
  | [], [] => rfl
  | [], _ :: _ => rfl
  | _ :: _, [] => rfl
  | a :: x, b :: y => by
    have ih := bytesLess_tri x y
    simp only [Op.bytesLess, List.cons_beq_cons]
    rcases Nat.lt_trichotomy a.toNat b.toNat with h | h | h
    · have h1 : a < b := UInt8.lt_iff_toNat_lt.2 h
      have h2 : ¬ b < a := fun e => by have := UInt8.lt_iff_toNat_lt.1 e; omega
      have h3 : (a == b) = false := by
        rw [beq_eq_false_iff_ne]; rintro rfl; omega
      have h4 : (b == a) = false := by
        rw [beq_eq_false_iff_ne]; rintro rfl; omega
      simp [h1, h2, h4]
    · have h1 : a = b := UInt8.toNat_inj.1 h
      subst h1
      have h2 : ¬ a < a := fun e => by have := UInt8.lt_iff_toNat_lt.1 e; omega
      simp only [decide_eq_false h2, Bool.false_or, beq_self_eq_true, Bool.true_and]
      exact ih
    · have h1 : b < a := UInt8.lt_iff_toNat_lt.2 h
      have h2 : ¬ a < b := fun e => by have := UInt8.lt_iff_toNat_lt.1 e; omega
      have h3 : (a == b) = false := by
        rw [beq_eq_false_iff_ne]; rintro rfl; omega
      simp [h1, h2, h3]

theorem sLt_tri (a b : ByteArray) : (sLt a b || sEq a b) = !sLt b a := by
  unfold sLt sEq
  rw [← bytesLess_tri a.toList b.toList, Bool.not_not]

/-- A number between two. -/
def inR (n lo hi : Int) : Bool := iLe lo n && iLe n hi
theorem inR_ite {n lo hi : Int} : (bif iLe lo n then some ((iLe n hi, ()), ()) else some ((false, ()), ())) = some (B1 (inR n lo hi)) := by
  unfold inR
  cases iLe lo n <;> rfl

theorem iLe_lt {a b : Int} : iLe a b = !iLt b a := by
  unfold iLe iLt
  by_cases h : a ≤ b
  · rw [decide_eq_true h, decide_eq_false (by omega)]; rfl
  · rw [decide_eq_false h, decide_eq_true (by omega)]; rfl

theorem iAdd_assoc (a b c : Int) : iAdd .i64 (iAdd .i64 a b) c = iAdd .i64 a (iAdd .i64 b c) := by
  simp [iAdd, IntKind.wrap, IntKind.signed, IntKind.bits]
  omega

section
variable {S E : Type}
theorem valAt_le {A σ : Type} (xs : List A) (step : Nat → σ → A → σ) (s0 : σ) {i : Nat} (h : i < xs.length) : valAt xs step s0 (i + 1) = step i (valAt xs step s0 i) xs[i] := by
  simp [valAt, List.getElem?_eq_getElem h]

/-- A loop that goes through a list, something being kept. -/
theorem loopValI {A σ : Type} (xs : List A) (step : Nat → σ → A → σ) (I : Nat → σ → Prop) {f : S → Option (Sum S E)} (mk : σ → Int → S) (End : σ → E) (s0 : σ) (h0 : I 0 s0)
    (hstep : ∀ i (h : i < xs.length) s, I i s → f (mk s (i : Int)) = some (.inl (mk (step i s xs[i]) ((i + 1 : Nat) : Int))) ∧ I (i + 1) (step i s xs[i])) (hend : ∀ s, I xs.length s → f (mk s (xs.length : Int)) = some (.inr (End s))) :
    loopF f (mk s0 0) = some (End (valAt xs step s0 xs.length)) ∧ I xs.length (valAt xs step s0 xs.length) := by
  have key : ∀ i, i ≤ xs.length → I i (valAt xs step s0 i) := by
    intro i
    induction i with
    | zero => intro _; exact h0
    | succ i ih => intro hi; rw [valAt_le xs step s0 (by omega)]; exact (hstep i (by omega) _ (ih (by omega))).2
  refine ⟨?_, key _ (Nat.le_refl _)⟩
  refine loopF_trace (fun i => mk (valAt xs step s0 i) (i : Int)) xs.length (fun i hi => ?_) (hend _ (key _ (Nat.le_refl _)))
  rw [(hstep i hi _ (key i (by omega))).1, valAt_le xs step s0 hi]

/-- What is put at each place, the numbers running on. -/
def markL {A : Type} (c : A → Nat) (m : Int → A → A) : List A → Int → List A
  | [], _ => []
  | x :: r, k => m k x :: markL c m r (k + c x)

theorem markL_length {A : Type} (c : A → Nat) (m : Int → A → A) : ∀ (xs : List A) (k : Int), (markL c m xs k).length = xs.length
  | [], _ => rfl
  | _ :: r, k => by simp [markL, markL_length c m r]

/-- A loop that puts numbers into a row. -/
theorem loopMark {A : Type} (c : A → Nat) (m : Int → A → A) {f : S → Option (Sum S E)} (mk : Int → Int → List A → S) (End : Int → List A → E) (B : Int) (xs : List A)
    (hstep : ∀ i (ys : List A) (h : i < ys.length) k, ys.length = xs.length → 1 ≤ k → k + c ys[i] ≤ B → f (mk k (i : Int) ys) = some (.inl (mk (k + c ys[i]) ((i + 1 : Nat) : Int) (ys.set i (m k ys[i])))))
    (hend : ∀ k (ys : List A), f (mk k (ys.length : Int) ys) = some (.inr (End k ys))) (k : Int) (hk : 1 ≤ k) (hb : k + sumW c xs ≤ B) :
    loopF f (mk k 0 xs) = some (End (k + sumW c xs) (markL c m xs k)) := by
  have key : ∀ (suf pre : List A) (k : Int), pre.length + suf.length = xs.length → 1 ≤ k → k + sumW c suf ≤ B → loopF f (mk k (pre.length : Int) (pre ++ suf)) = some (End (k + sumW c suf) (pre ++ markL c m suf k)) := by
    intro suf
    induction suf with
    | nil =>
      intro pre k _ _ _
      have := hend k (pre ++ [])
      rw [List.length_append, List.length_nil, Nat.add_zero] at this
      rw [loopF_end this]
      simp [sumW, markL]
    | cons x r ih =>
      intro pre k hpl hk hb
      have hlt : pre.length < (pre ++ x :: r).length := by simp
      have hx : (pre ++ x :: r)[pre.length] = x := by simp
      have hs : (pre ++ x :: r).set pre.length (m k x) = (pre ++ [m k x]) ++ r := by simp
      simp only [sumW] at hb
      have h1 := hstep pre.length (pre ++ x :: r) hlt k (by simp at hpl ⊢; omega) hk (by rw [hx]; omega)
      rw [hx, hs] at h1
      rw [loopF_step h1]
      have := ih (pre ++ [m k x]) (k + c x) (by simp at hpl ⊢; omega) (by omega) (by omega)
      rw [List.length_append, List.length_singleton] at this
      rw [this]
      simp only [sumW, markL, List.append_assoc, List.singleton_append]
      rw [show k + ((c x + sumW c r : Nat) : Int) = k + c x + sumW c r by omega]
  have := key xs [] k (by simp) hk hb
  simpa using this

/-- A loop that asks whether the numbers stand there. -/
theorem loopHeld {A : Type} (c : A → Nat) (m : Int → A → A) {f : S → Option (Sum S E)} (mk : Int → Int → S) (End : Int → E) (B : Int) (xs : List A) (k0 : Int)
    (hstep : ∀ (i : Nat) x k, (markL c m xs k0)[i]? = some (m k x) → 1 ≤ k → k + c x ≤ B → f (mk k (i : Int)) = some (.inl (mk (k + c x) ((i + 1 : Nat) : Int))))
    (hend : ∀ k, f (mk k (xs.length : Int)) = some (.inr (End k))) (hk : 1 ≤ k0) (hb : k0 + sumW c xs ≤ B) : loopF f (mk k0 0) = some (End (k0 + sumW c xs)) := by
  have key : ∀ (suf : List A) (n : Nat) (k : Int), (markL c m xs k0).drop n = markL c m suf k → n + suf.length = xs.length → 1 ≤ k → k + sumW c suf ≤ B → loopF f (mk k (n : Int)) = some (End (k + sumW c suf)) := by
    intro suf
    induction suf with
    | nil =>
      intro n k _ hn _ _
      rw [show n = xs.length by simpa using hn, loopF_end (hend k)]
      simp [sumW]
    | cons x r ih =>
      intro n k hd hn hk hb
      simp only [sumW] at hb
      simp only [markL] at hd
      have hx : (markL c m xs k0)[n]? = some (m k x) := by
        have : ((markL c m xs k0).drop n)[0]? = some (m k x) := by rw [hd]; rfl
        rw [List.getElem?_drop] at this
        simpa using this
      rw [loopF_step (hstep n x k hx hk (by omega))]
      rw [ih (n + 1) (k + c x) (by
        have := congrArg (List.drop 1) hd
        simpa [List.drop_drop] using this) (by simp at hn; omega) (by omega) (by omega)]
      simp only [sumW]
      rw [show k + ((c x + sumW c r : Nat) : Int) = k + c x + sumW c r by omega]
  have := key xs 0 k0 (by simp) (by simp) hk hb
  simpa using this
end
end Go.Tm

/- Plain words: marks of any kind of data. -/
namespace Go.Tm
open Go

theorem getN_nat {A : Type} {xs : List A} {i : Nat} (h : i < xs.length) : getN xs (Int.toNat (i : Int)) = some xs[i] := by
  rw [Int.toNat_natCast, getN_lt h]
theorem getI_set {A : Type} {xs : List A} {i : Nat} {a : A} (h : i < xs.length) : getI (List.set xs (Int.toNat (i : Int)) a) (i : Int) = some a := by
  rw [Int.toNat_natCast, getI_lt (by rw [List.length_set]; exact h)]; simp
theorem getN_set {A : Type} {xs : List A} {i : Nat} {a : A} (h : i < xs.length) : getN (List.set xs (Int.toNat (i : Int)) a) (Int.toNat (i : Int)) = some a := by
  rw [Int.toNat_natCast, getN_lt (by rw [List.length_set]; exact h)]; simp
theorem len_set {A : Type} {xs : List A} {i n : Nat} {a : A} (h : i < xs.length) : i < (List.set xs n a).length := by rw [List.length_set]; exact h
theorem set_last {A : Type} {xs ys : List A} {i : Nat} {a b : A} (h : List.set ys i b = List.set xs i b) : List.set (List.set ys (Int.toNat (i : Int)) a) (Int.toNat (i : Int)) b = List.set xs i b := by
  rw [Int.toNat_natCast, List.set_set, h]
theorem set_one {A : Type} {xs : List A} {i : Nat} {a b : A} : List.set (List.set xs (Int.toNat (i : Int)) a) i b = List.set xs i b := by
  rw [Int.toNat_natCast, List.set_set]
theorem set_nat {A : Type} {xs : List A} {i : Nat} {b : A} : List.set xs (Int.toNat (i : Int)) b = List.set xs i b := by
  rw [Int.toNat_natCast]
theorem st3 {A B C F : Type} {a a' : A} {b b' : B} {c c' : C} (h1 : a = a') (h2 : b = b') (h3 : c = c') : (some (Sum.inl (a, (b, (c, ())))) : Option (Sum (A × (B × (C × Unit))) F)) = some (Sum.inl (a', (b', (c', ())))) := by rw [h1, h2, h3]
theorem lt_then {A : Type} {a b : Int} {t e r : A} (h : a < b) (h2 : t = r) : (bif iLt a b then t else e) = r := by rw [iLt_true h]; exact h2
theorem lt_else {A : Type} {a b : Int} {t e r : A} (h : b ≤ a) (h2 : e = r) : (bif iLt a b then t else e) = r := by rw [iLt_false h]; exact h2
theorem no_then {A : Type} {b : Bool} {t e r : A} (h : b = false) (h2 : e = r) : (bif b then t else e) = r := by rw [h]; exact h2
theorem nx {i n : Nat} (h : i < n) (hn : n ≤ 9223372036854775807) : iAdd .i64 (i : Int) 1 = ((i + 1 : Nat) : Int) := iAdd_small (by omega) (by omega)

/-- The greatest number that is put. -/
abbrev bigM : Int := 4611686018427387904
theorem up1 {k : Int} (h : 0 ≤ k) (h2 : k + ((1 : Nat) : Int) ≤ bigM) : iAdd .i64 k 1 = k + ((1 : Nat) : Int) := by
  rw [iAdd_small (by omega) (by unfold bigM at h2; omega)]; omega

mutual
/-- How many numbers are put into it. -/
def Ty.ct : (t : Ty) → t.D → Nat
  | .int _, _ => 1
  | .bool, _ => 1
  | .str, _ => 1
  | .sl es, xs => sumW (fun x => es.ct x) xs
  | .fn _ _ _, _ => 0
def Tys.ct : (ts : Tys) → ts.D → Nat
  | .nil, _ => 0
  | .cons t ts, x => t.ct x.1 + ts.ct x.2
end

mutual
/-- What it is once numbers are put into it from one on; 'mt': the words of numbers. -/
def Ty.mt (mt : Int → ByteArray) : (t : Ty) → Int → t.D → t.D
  | .int _, k, _ => k
  | .bool, k, _ => iEq (iRem k 3) 0
  | .str, k, _ => mt k
  | .sl es, k, xs => markL (fun x => es.ct x) (fun k x => es.mt mt k x) xs k
  | .fn _ _ _, _, g => g
def Tys.mt (mt : Int → ByteArray) : (ts : Tys) → Int → ts.D → ts.D
  | .nil, _, _ => ()
  | .cons t ts, k, x => (t.mt mt k x.1, ts.mt mt (k + ((t.ct x.1 : Nat) : Int)) x.2)
end

section
variable {S E : Type}
/-- As loopMark, of what is so of all elements to begin with. -/
theorem loopMarkP {A : Type} (Pr : A → Prop) (c : A → Nat) (m : Int → A → A) {f : S → Option (Sum S E)} (mk : Int → Int → List A → S) (End : Int → List A → E) (B : Int) (xs : List A) (hP : ∀ x ∈ xs, Pr x)
    (hstep : ∀ i (ys : List A) (h : i < ys.length) k, ys.length = xs.length → Pr ys[i] → 1 ≤ k → k + c ys[i] ≤ B → f (mk k (i : Int) ys) = some (.inl (mk (k + c ys[i]) ((i + 1 : Nat) : Int) (ys.set i (m k ys[i])))))
    (hend : ∀ k (ys : List A), f (mk k (ys.length : Int) ys) = some (.inr (End k ys))) (k : Int) (hk : 1 ≤ k) (hb : k + sumW c xs ≤ B) :
    loopF f (mk k 0 xs) = some (End (k + sumW c xs) (markL c m xs k)) := by
  have key : ∀ (suf pre : List A) (k : Int), (∀ x ∈ suf, Pr x) → pre.length + suf.length = xs.length → 1 ≤ k → k + sumW c suf ≤ B → loopF f (mk k (pre.length : Int) (pre ++ suf)) = some (End (k + sumW c suf) (pre ++ markL c m suf k)) := by
    intro suf
    induction suf with
    | nil =>
      intro pre k _ _ _ _
      have := hend k (pre ++ [])
      rw [List.length_append, List.length_nil, Nat.add_zero] at this
      rw [loopF_end this]
      simp [sumW, markL]
    | cons x r ih =>
      intro pre k hp hpl hk hb
      have hlt : pre.length < (pre ++ x :: r).length := by simp
      have hx : (pre ++ x :: r)[pre.length] = x := by simp
      have hs : (pre ++ x :: r).set pre.length (m k x) = (pre ++ [m k x]) ++ r := by simp
      simp only [sumW] at hb
      have h1 := hstep pre.length (pre ++ x :: r) hlt k (by simp at hpl ⊢; omega) (by rw [hx]; exact hp x (by simp)) hk (by rw [hx]; omega)
      rw [hx, hs] at h1
      rw [loopF_step h1]
      have := ih (pre ++ [m k x]) (k + c x) (fun y hy => hp y (by simp [hy])) (by simp at hpl ⊢; omega) (by omega) (by omega)
      rw [List.length_append, List.length_singleton] at this
      rw [this]
      simp only [sumW, markL, List.append_assoc, List.singleton_append]
      rw [show k + ((c x + sumW c r : Nat) : Int) = k + c x + sumW c r by omega]
  have := key xs [] k hP (by simp) hk hb
  simpa using this

/-- As loopHeld, told which element it is. -/
theorem loopHeldP {A : Type} (c : A → Nat) (m : Int → A → A) {f : S → Option (Sum S E)} (mk : Int → Int → S) (End : Int → E) (B : Int) (xs : List A) (k0 : Int)
    (hstep : ∀ (i : Nat) x k, xs[i]? = some x → (markL c m xs k0)[i]? = some (m k x) → 1 ≤ k → k + c x ≤ B → f (mk k (i : Int)) = some (.inl (mk (k + c x) ((i + 1 : Nat) : Int))))
    (hend : ∀ k, f (mk k (xs.length : Int)) = some (.inr (End k))) (hk : 1 ≤ k0) (hb : k0 + sumW c xs ≤ B) : loopF f (mk k0 0) = some (End (k0 + sumW c xs)) := by
  have key : ∀ (suf : List A) (n : Nat) (k : Int), xs.drop n = suf → (markL c m xs k0).drop n = markL c m suf k → n + suf.length = xs.length → 1 ≤ k → k + sumW c suf ≤ B → loopF f (mk k (n : Int)) = some (End (k + sumW c suf)) := by
    intro suf
    induction suf with
    | nil =>
      intro n k _ _ hn _ _
      rw [show n = xs.length by simpa using hn, loopF_end (hend k)]
      simp [sumW]
    | cons x r ih =>
      intro n k hd0 hd hn hk hb
      simp only [sumW] at hb
      simp only [markL] at hd
      have hx : (markL c m xs k0)[n]? = some (m k x) := by
        have : ((markL c m xs k0).drop n)[0]? = some (m k x) := by rw [hd]; rfl
        rw [List.getElem?_drop] at this
        simpa using this
      have hx0 : xs[n]? = some x := by
        have : (xs.drop n)[0]? = some x := by rw [hd0]; rfl
        rw [List.getElem?_drop] at this
        simpa using this
      rw [loopF_step (hstep n x k hx0 hx hk (by omega))]
      rw [ih (n + 1) (k + c x) (by
        have := congrArg (List.drop 1) hd0
        simpa [List.drop_drop] using this) (by
        have := congrArg (List.drop 1) hd
        simpa [List.drop_drop] using this) (by simp at hn; omega) (by omega) (by omega)]
      simp only [sumW]
      rw [show k + ((c x + sumW c r : Nat) : Int) = k + c x + sumW c r by omega]
  have := key xs 0 k0 (by simp) (by simp) (by simp) hk hb
  simpa using this
theorem st2 {A B F : Type} {a a' : A} {b b' : B} (h1 : a = a') (h2 : b = b') : (some (Sum.inl (a, (b, ()))) : Option (Sum (A × (B × Unit)) F)) = some (Sum.inl (a', (b', ()))) := by rw [h1, h2]
end

mutual
/-- No element has more cells than so many. -/
def Ty.fits (M : Nat) : Ty → Bool
  | .sl es => Nat.ble es.len M && es.fits M
  | _ => true
def Tys.fits (M : Nat) : Tys → Bool
  | .nil => true
  | .cons t ts => t.fits M && ts.fits M
end

theorem sumW_le2 {A : Type} {c f : A → Nat} {a b : Nat} (h : ∀ x, c x ≤ a + b * f x) : ∀ xs : List A, sumW c xs ≤ a * xs.length + b * sumW f xs
  | [] => by simp [sumW]
  | x :: r => by
    have := sumW_le2 h r
    have h0 := h x
    simp only [sumW, List.length_cons, Nat.mul_add, Nat.mul_one]
    omega

mutual
theorem ct_leT {M : Nat} : ∀ (t : Ty) (x : t.D), t.fits M = true → t.ct x ≤ 1 + M * t.w x
  | .int _, _, _ => Nat.le_add_right _ _
  | .bool, _, _ => Nat.le_add_right _ _
  | .str, _, _ => Nat.le_add_right _ _
  | .sl es, xs, h => by
    simp only [Ty.fits, Bool.and_eq_true] at h
    have hl := Nat.le_of_ble_eq_true h.1
    have h1 : sumW (fun x => es.ct x) xs ≤ es.len * List.length (α := es.D) xs + M * sumW (fun x => es.w x) xs := sumW_le2 (fun x => ct_le es x h.2) xs
    have h2 : es.len * List.length (α := es.D) xs ≤ M * List.length (α := es.D) xs := Nat.mul_le_mul_right _ hl
    show sumW (fun x => es.ct x) xs ≤ 1 + M * (List.length (α := es.D) xs + sumW (fun x => es.w x) xs)
    rw [Nat.mul_add]
    omega
  | .fn _ _ _, _, _ => Nat.zero_le _
theorem ct_le {M : Nat} : ∀ (ts : Tys) (x : ts.D), ts.fits M = true → ts.ct x ≤ ts.len + M * ts.w x
  | .nil, _, _ => Nat.zero_le _
  | .cons t ts, x, h => by
    simp only [Tys.fits, Bool.and_eq_true] at h
    have h1 := ct_leT t x.1 h.1
    have h2 := ct_le ts x.2 h.2
    show t.ct x.1 + ts.ct x.2 ≤ (ts.len + 1) + M * (t.w x.1 + ts.w x.2)
    rw [Nat.mul_add]
    omega
end
end Go.Tm

/- Plain words, 5: tests one behind the other, order, loops that end early, folds, copies. -/
namespace Go.Tm
open Go

/-- No longer than what Go can count. -/
abbrev L63 (n : Nat) : Prop := n ≤ 9223372036854775807
abbrev W1 (n : Nat) : Prop := n ≤ 1048576

theorem ite_not {A : Type} {b : Bool} {r n : A} : (bif !b then r else n) = bif b then n else r := by cases b <;> rfl
theorem le_ite {A : Type} {a b : Int} {r n : A} : (bif iLe a b then r else n) = bif iLt b a then n else r := by rw [iLe_lt]; cases iLt b a <;> rfl
theorem ite_tri {A : Type} {a b : ByteArray} {r n : A} : (bif (sLt a b || sEq a b) then r else n) = bif sLt b a then n else r := by rw [sLt_tri]; cases sLt b a <;> rfl
theorem if_bool {A : Type} {b : Bool} {t e r : A} (h1 : b = true → t = r) (h0 : b = false → e = r) : (bif b then t else e) = r := by
  cases b
  · exact h0 rfl
  · exact h1 rfl
theorem bind_bool {R : Type} {T : Option ((Bool × Unit) × Unit)} {b : Bool} {K : (Bool × Unit) × Unit → Option R} {r : Option R} (h : T = some (B1 b)) (h1 : b = true → K (B1 true) = r) (h0 : b = false → K (B1 false) = r) : T.bind K = r := by
  rw [h]
  cases b
  · exact h0 rfl
  · exact h1 rfl

theorem and_no {b c : Bool} : (bif !b then some (B1 false) else some (B1 c)) = some (B1 (b && c)) := by cases b <;> rfl
theorem and_yes {b c : Bool} : (bif b then some (B1 c) else some (B1 false)) = some (B1 (b && c)) := by cases b <;> rfl
theorem or_yes {b c : Bool} : (bif b then some (B1 true) else some (B1 c)) = some (B1 (b || c)) := by cases b <;> rfl
theorem andN {b c : Bool} {K : Option ((Bool × Unit) × Unit)} (h : K = some (B1 c)) : (bif !b then some (B1 false) else K) = some (B1 (b && c)) := by rw [h]; exact and_no
theorem andY {b c : Bool} {K : Option ((Bool × Unit) × Unit)} (h : K = some (B1 c)) : (bif b then K else some (B1 false)) = some (B1 (b && c)) := by rw [h]; exact and_yes
theorem orY {b c : Bool} {K : Option ((Bool × Unit) × Unit)} (h : K = some (B1 c)) : (bif b then some (B1 true) else K) = some (B1 (b || c)) := by rw [h]; exact or_yes
theorem noT {b c : Bool} {K : Option ((Bool × Unit) × Unit)} (h : K = some (B1 c)) : (bif b then some (B1 false) else K) = some (B1 (!b && c)) := by rw [h]; cases b <;> rfl
/-- A test of a loop's round: go on or end. -/
theorem goN {b c : Bool} {R : Type} {K g x : R} (h : K = bif c then g else x) : (bif !b then x else K) = bif (b && c) then g else x := by rw [h]; cases b <;> rfl
theorem goE {b : Bool} {R : Type} {g x : R} : (bif !b then x else g) = bif b then g else x := by cases b <;> rfl
theorem goEq {b : Bool} {R : Type} {K g x : R} (h : K = g) : (bif !b then x else K) = bif b then g else x := by rw [h]; cases b <;> rfl
theorem goT {b c : Bool} {R : Type} {K g x : R} (h : K = bif c then g else x) : (bif b then x else K) = bif (!b && c) then g else x := by rw [h]; cases b <;> rfl

/-- Behind the one before. -/
def behind {A : Type} (lt : A → A → Bool) (xs : List A) (i : Nat) (y : A) : Bool := match i with
  | 0 => true
  | j + 1 => match xs[j]? with
    | some z => lt z y
    | none => true
theorem behind_succ {A : Type} {lt : A → A → Bool} {xs : List A} {j : Nat} {y : A} (h : j < xs.length) : behind lt xs (j + 1) y = lt xs[j] y := by
  simp [behind, List.getElem?_eq_getElem h]
theorem prev_get {A : Type} {xs : List A} {j : Nat} (hl : L63 xs.length) (h : j < xs.length) : getI xs (iSub .i64 ((j + 1 : Nat) : Int) 1) = some xs[j] := by
  rw [iSub_small (by omega) (by omega), show (((j + 1 : Nat) : Int) - 1) = (j : Int) by omega]
  exact getI_lt h
theorem asc_step {A R : Type} {xs : List A} {i : Nat} {lt : A → A → Bool} {y : A} {C X : Option R} {T : A → Option R} (hi : i < xs.length) (hl : L63 xs.length) (hT : ∀ z, T z = bif lt z y then C else X) :
    (bif iLt 0 (i : Int) then (getI xs (iSub .i64 (i : Int) 1)).bind T else C) = bif behind lt xs i y then C else X := by
  cases i with
  | zero => rfl
  | succ j => rw [iLt_true (by omega), cond_true, prev_get hl (by omega), Option.bind_some, hT, behind_succ (by omega)]
theorem st1 {A F : Type} {a a' : A} (h1 : a = a') : (some (Sum.inl (a, ())) : Option (Sum (A × Unit) F)) = some (Sum.inl (a', ())) := by rw [h1]
theorem sEq_comm (a b : ByteArray) : sEq a b = sEq b a := by
  unfold sEq
  exact BEq.comm

theorem allI_all {A : Type} {p : A → Bool} : ∀ {k : Nat} {xs : List A}, allI (fun _ x => p x) k xs = xs.all p
  | _, [] => rfl
  | k, x :: r => by simp only [allI, List.all_cons]; rw [allI_all]

theorem allI_get {A : Type} {p : Nat → A → Bool} : ∀ {k : Nat} {xs : List A}, allI p k xs = true → ∀ i (h : i < xs.length), p (k + i) xs[i] = true
  | k, x :: r, h, 0, _ => by simp only [allI, Bool.and_eq_true] at h; exact h.1
  | k, x :: r, h, i + 1, hi => by
    simp only [allI, Bool.and_eq_true] at h
    have := allI_get h.2 i (by simpa using hi)
    rw [show k + (i + 1) = k + 1 + i by omega]
    simpa using this

theorem allI_and {A : Type} {p q : Nat → A → Bool} : ∀ {k : Nat} {xs : List A}, allI (fun i x => p i x && q i x) k xs = (allI p k xs && allI q k xs)
  | _, [] => rfl
  | k, x :: r => by
    simp only [allI]
    rw [allI_and]
    cases p k x <;> cases q k x <;> cases allI p (k + 1) r <;> rfl
/-- A joint: go on, or end. -/
theorem join_go {R : Type} {b c : Bool} {A : Option (Sum Unit R)} {B g : Option R} {x : R} (h : A = bif b then some (.inl ()) else some (.inr x)) (h2 : B = bif c then g else some x) : Option.bind A (fun r => Sum.elim (fun _ => B) some r) = bif (b && c) then g else some x := by
  rw [h, h2]
  cases b <;> rfl
theorem join_and {b c : Bool} {A : Option (Sum Unit ((Bool × Unit) × Unit))} {B : Option ((Bool × Unit) × Unit)} (h : A = bif b then some (.inl ()) else some (.inr (B1 false))) (h2 : B = some (B1 c)) : Option.bind A (fun r => Sum.elim (fun _ => B) some r) = some (B1 (b && c)) := by
  rw [h, h2]
  cases b <;> rfl
theorem goDup {c s b : Bool} {R : Type} {K g x : R} (h : K = bif b then g else x) : (bif c then (bif !s then x else K) else K) = bif ((!c || s) && b) then g else x := by rw [h]; cases c <;> cases s <;> rfl
theorem asc_le {A : Type} {f : A → Int} {l : List A} (h : ∀ i (hi : i < l.length), behind (fun z y => iLt (f z) (f y)) l i l[i] = true) : ∀ (k i : Nat) (hk : i + k < l.length), f l[i] ≤ f l[i + k]
  | 0, i, hk => Int.le_refl _
  | k + 1, i, hk => by
    have h1 := asc_le h k i (by omega)
    have h2 := h ((i + k) + 1) (by omega)
    have h3 := behind_succ (lt := fun z y => iLt (f z) (f y)) (xs := l) (j := i + k) (y := l[i + k + 1]) (by omega)
    rw [h3] at h2
    have : f l[i + k] < f l[i + k + 1] := by simpa [iLt] using h2
    have e : l[i + (k + 1)] = l[i + k + 1] := rfl
    rw [e]
    omega

section
variable {S E A σ : Type}
/-- A loop that ends at the first that is so, and tells where. -/
theorem loopAny (xs : List A) (p : A → Bool) {f : S → Option (Sum S E)} (mk : Int → S) (e : E) (R : Nat → A → E) (hstep : ∀ i (h : i < xs.length), f (mk (i : Int)) = bif p xs[i] then some (.inr (R i xs[i])) else some (.inl (mk ((i + 1 : Nat) : Int)))) (hend : f (mk (xs.length : Int)) = some (.inr e)) :
    loopF f (mk 0) = some (match xs.findIdx? p with | some j => (match xs[j]? with | some x => R j x | none => e) | none => e) := by
  have key : ∀ (k : Nat), k ≤ xs.length → (∀ j, j < k → ∀ h : j < xs.length, p xs[j] = false) → loopF f (mk (k : Int)) = some (match xs.findIdx? p with | some j => (match xs[j]? with | some x => R j x | none => e) | none => e) := by
    intro k
    induction hk : xs.length - k generalizing k with
    | zero =>
      intro hle hno
      have : k = xs.length := by omega
      subst this
      rw [loopF_end hend]
      have : xs.findIdx? p = none := by
        rw [List.findIdx?_eq_none_iff]
        intro x hx
        obtain ⟨j, hj, rfl⟩ := List.getElem_of_mem hx
        exact hno j hj hj
      rw [this]
    | succ n ih =>
      intro hle hno
      have hlt : k < xs.length := by omega
      have h1 := hstep k hlt
      cases hp : p xs[k] with
      | true =>
        rw [hp] at h1
        rw [loopF_end h1]
        have : xs.findIdx? p = some k := by
          rw [List.findIdx?_eq_some_iff_getElem]
          exact ⟨hlt, hp, fun j hj => by simp [hno j hj (by omega)]⟩
        rw [this]
        simp [hlt]
      | false =>
        rw [hp] at h1
        rw [loopF_step h1]
        exact ih (k + 1) (by omega) (by omega) (fun j hj h => by
          by_cases hjk : j = k
          · subst hjk; exact hp
          · exact hno j (by omega) h)
  exact key 0 (Nat.zero_le _) (fun j hj => by omega)

theorem any_findIdx {xs : List A} {p : A → Bool} {R e : E} : (match xs.findIdx? p with | some j => (match xs[j]? with | some x => R | none => e) | none => e) = bif xs.any p then R else e := by
  cases h : xs.findIdx? p with
  | none =>
    rw [List.findIdx?_eq_none_iff] at h
    have : xs.any p = false := by rw [List.any_eq_false]; intro x hx; simp [h x hx]
    rw [this]; rfl
  | some j =>
    rw [List.findIdx?_eq_some_iff_getElem] at h
    obtain ⟨hj, hp, _⟩ := h
    have : xs.any p = true := List.any_eq_true.2 ⟨xs[j], List.getElem_mem hj, hp⟩
    rw [this]
    simp [hj]
theorem loopHas (xs : List A) (p : A → Bool) {f : S → Option (Sum S E)} (mk : Int → S) (e r : E) (hstep : ∀ i (h : i < xs.length), f (mk (i : Int)) = bif p xs[i] then some (.inr r) else some (.inl (mk ((i + 1 : Nat) : Int)))) (hend : f (mk (xs.length : Int)) = some (.inr e)) :
    loopF f (mk 0) = some (bif xs.any p then r else e) := (loopAny xs p mk e (fun _ _ => r) hstep hend).trans (congrArg some any_findIdx)
theorem loopAllP (xs : List A) (p : A → Bool) {f : S → Option (Sum S E)} (mk : Int → S) (e r : E) (hstep : ∀ i (h : i < xs.length), f (mk (i : Int)) = bif p xs[i] then some (.inl (mk ((i + 1 : Nat) : Int))) else some (.inr r)) (hend : f (mk (xs.length : Int)) = some (.inr e)) :
    loopF f (mk 0) = some (bif xs.all p then e else r) := (loopAll xs (fun _ x => p x) mk e r hstep hend).trans (by rw [allI_all])

/-- The place of the first that is so. -/
def idxOf (xs : List A) (p : A → Bool) : Int := match xs.findIdx? p with
  | some j => (j : Int)
  | none => -1
theorem idxOf_any {xs : List A} {p : A → Bool} : iLe 0 (idxOf xs p) = xs.any p := by
  unfold idxOf
  cases h : xs.findIdx? p with
  | none =>
    rw [List.findIdx?_eq_none_iff] at h
    have : xs.any p = false := by rw [List.any_eq_false]; intro x hx; simp [h x hx]
    rw [this]; rfl
  | some j =>
    rw [List.findIdx?_eq_some_iff_getElem] at h
    obtain ⟨hj, hp, _⟩ := h
    have : xs.any p = true := List.any_eq_true.2 ⟨xs[j], List.getElem_mem hj, hp⟩
    rw [this]
    simp [iLe]
theorem idxOf_cases (xs : List A) (p : A → Bool) : (xs.any p = false ∧ xs.find? p = none ∧ idxOf xs p = -1) ∨ ∃ j, ∃ h : j < xs.length, p xs[j] = true ∧ (∀ k (_ : k < j) (hk : k < xs.length), p xs[k] = false) ∧ xs.any p = true ∧ xs.find? p = some xs[j] ∧ idxOf xs p = (j : Int) := by
  unfold idxOf
  cases h : xs.findIdx? p with
  | none =>
    rw [List.findIdx?_eq_none_iff] at h
    exact .inl ⟨by rw [List.any_eq_false]; intro x hx; simp [h x hx], by rw [List.find?_eq_none]; intro x hx; simp [h x hx], rfl⟩
  | some j =>
    rw [List.findIdx?_eq_some_iff_getElem] at h
    obtain ⟨hj, hp, hn⟩ := h
    refine .inr ⟨j, hj, hp, fun k hk hk2 => by simpa using hn k hk, List.any_eq_true.2 ⟨xs[j], List.getElem_mem hj, hp⟩, ?_, rfl⟩
    rw [List.find?_eq_some_iff_getElem]
    exact ⟨hp, j, hj, rfl, fun k hk => by simpa using hn k hk⟩
theorem loopIdx (xs : List A) (p : A → Bool) {f : S → Option (Sum S E)} (mk : Int → S) (e : E) (R : Int → E) (hstep : ∀ i (h : i < xs.length), f (mk (i : Int)) = bif p xs[i] then some (.inr (R (i : Int))) else some (.inl (mk ((i + 1 : Nat) : Int)))) (hend : f (mk (xs.length : Int)) = some (.inr e)) :
    loopF f (mk 0) = some (bif xs.any p then R (idxOf xs p) else e) := by
  refine (loopAny xs p mk e (fun i _ => R (i : Int)) hstep hend).trans ?_
  rcases idxOf_cases xs p with ⟨h1, _, h3⟩ | ⟨j, hj, hp, hn, h1, _, h3⟩
  · have : xs.findIdx? p = none := by rw [List.findIdx?_eq_none_iff]; intro x hx; rw [List.any_eq_false] at h1; simpa using h1 x hx
    rw [this, h1]; rfl
  · have : xs.findIdx? p = some j := by rw [List.findIdx?_eq_some_iff_getElem]; exact ⟨hj, hp, fun k hk => by simp [hn k hk (by omega)]⟩
    rw [this, h1, h3]
    simp [hj]

theorem loopFindV (xs : List A) (p : A → Bool) {f : S → Option (Sum S E)} (mk : Int → S) (e : E) (R : A → E) (hstep : ∀ i (h : i < xs.length), f (mk (i : Int)) = bif p xs[i] then some (.inr (R xs[i])) else some (.inl (mk ((i + 1 : Nat) : Int)))) (hend : f (mk (xs.length : Int)) = some (.inr e)) :
    loopF f (mk 0) = some (match xs.find? p with | some x => R x | none => e) := by
  refine (loopAny xs p mk e (fun _ x => R x) hstep hend).trans ?_
  rcases idxOf_cases xs p with ⟨h1, h2, _⟩ | ⟨j, hj, hp, hn, _, h2, _⟩
  · have : xs.findIdx? p = none := by rw [List.findIdx?_eq_none_iff]; intro x hx; rw [List.any_eq_false] at h1; simpa using h1 x hx
    rw [this, h2]
  · have : xs.findIdx? p = some j := by rw [List.findIdx?_eq_some_iff_getElem]; exact ⟨hj, hp, fun k hk => by rw [hn k hk (by omega)]; decide⟩
    rw [this, h2]
    simp [hj]

/-- A loop over all, that is a fold; 'I' is kept. -/
theorem loopFold (xs : List A) (step : σ → A → σ) (I : Nat → σ → Prop) {f : S → Option (Sum S E)} (mk : σ → Int → S) (End : σ → E) (s0 : σ) (h0 : I 0 s0)
    (hstep : ∀ i (h : i < xs.length) s, I i s → f (mk s (i : Int)) = some (.inl (mk (step s xs[i]) ((i + 1 : Nat) : Int))) ∧ I (i + 1) (step s xs[i])) (hend : ∀ s, I xs.length s → f (mk s (xs.length : Int)) = some (.inr (End s))) :
    loopF f (mk s0 0) = some (End (xs.foldl step s0)) ∧ I xs.length (xs.foldl step s0) := by
  have key : ∀ (suf pre : List A) (s : σ), pre ++ suf = xs → I pre.length s → loopF f (mk s (pre.length : Int)) = some (End (suf.foldl step s)) ∧ I xs.length (suf.foldl step s) := by
    intro suf
    induction suf with
    | nil =>
      intro pre s hp hI
      simp only [List.append_nil] at hp
      subst hp
      exact ⟨loopF_end (hend s hI), hI⟩
    | cons x suf ih =>
      intro pre s hp hI
      have hlt : pre.length < xs.length := by rw [← hp]; simp
      have hx : xs[pre.length] = x := by
        have : xs[pre.length]? = some x := by rw [← hp]; simp
        rw [List.getElem?_eq_getElem hlt] at this
        simpa using this
      obtain ⟨h1, h2⟩ := hstep pre.length hlt s hI
      rw [hx] at h1 h2
      rw [loopF_step h1]
      have := ih (pre ++ [x]) (step s x) (by simpa using hp) (by simpa using h2)
      simpa using this
  simpa using key xs [] s0 rfl h0
theorem loopFold0 (xs : List A) (step : σ → A → σ) {f : S → Option (Sum S E)} (mk : σ → Int → S) (End : σ → E) (s0 : σ)
    (hstep : ∀ i (h : i < xs.length) s, f (mk s (i : Int)) = some (.inl (mk (step s xs[i]) ((i + 1 : Nat) : Int)))) (hend : ∀ s, f (mk s (xs.length : Int)) = some (.inr (End s))) :
    loopF f (mk s0 0) = some (End (xs.foldl step s0)) := (loopFold xs step (fun _ _ => True) mk End s0 trivial (fun i h s _ => ⟨hstep i h s, trivial⟩) (fun s _ => hend s)).1

/-- A loop that hands on elements made one by one. -/
theorem loopMap {B : Type} (xs : List A) (g : A → B) {f : S → Option (Sum S E)} (mk : List B → Int → S) (e : E) (hstep : ∀ i (h : i < xs.length), f (mk ((xs.take i).map g) (i : Int)) = some (.inl (mk ((xs.take i).map g ++ [g xs[i]]) ((i + 1 : Nat) : Int)))) (hend : f (mk (xs.map g) (xs.length : Int)) = some (.inr e)) : loopF f (mk [] 0) = some e := by
  have := loopF_trace (f := f) (fun i => mk ((xs.take i).map g) (i : Int)) xs.length (e := e) (fun i hi => by rw [hstep i hi, List.take_succ_eq_append_getElem hi, List.map_append]; rfl) (by rw [List.take_length]; exact hend)
  simpa using this
theorem loopCopy (xs : List A) {f : S → Option (Sum S E)} (mk : List A → Int → S) (e : E) (hstep : ∀ i (h : i < xs.length), f (mk (xs.take i) (i : Int)) = some (.inl (mk (xs.take i ++ [xs[i]]) ((i + 1 : Nat) : Int)))) (hend : f (mk xs (xs.length : Int)) = some (.inr e)) : loopF f (mk [] 0) = some e := by
  have := loopF_trace (f := f) (fun i => mk (xs.take i) (i : Int)) xs.length (e := e) (fun i hi => by rw [hstep i hi, List.take_succ_eq_append_getElem hi]) (by rw [List.take_length]; exact hend)
  simpa using this
end

theorem room_ok {n b : Nat} (h1 : n ≤ 1048577) (h2 : b ≤ 1000) (h3 : 0 < b) : room n b = true := by
  unfold room
  refine decide_eq_true ⟨?_, h3⟩
  have : n * b ≤ 1048577 * 1000 := Nat.mul_le_mul h1 h2
  omega
theorem room_then {A R : Type} {xs : List A} {b : Nat} {t e r : R} (h : xs.length ≤ 1048576) (h2 : b ≤ 1000) (h3 : 0 < b) (ht : t = r) : (bif room (List.length ([] : List A) + xs.length) b then t else e) = r := by
  rw [room_ok (by simp; omega) h2 h3]; exact ht
theorem room_is {R : Type} {n b : Nat} {t e r : R} (h : n ≤ 1048577) (h2 : b ≤ 1000) (h3 : 0 < b) (ht : t = r) : (bif room n b then t else e) = r := by
  rw [room_ok h h2 h3]; exact ht
theorem room_one {A R : Type} {xs : List A} {x : A} {i b : Nat} {t e r : R} (h : i < xs.length) (hl : W1 xs.length) (h2 : b ≤ 1000) (h3 : 0 < b) (ht : t = r) : (bif room (List.length (xs.take i) + List.length [x]) b then t else e) = r := by
  rw [room_ok (by simp; unfold W1 at hl; omega) h2 h3]; exact ht
theorem both_same {R : Type} {a b : Option R} (h : a = b) : both a b = a := by
  unfold both
  exact if_pos h
theorem clone_ok {A : Type} {b : Nat} (xs : List A) (h : xs.length ≤ 1048576) (h2 : b ≤ 1000) (h3 : 0 < b) :
    (bif xs.isEmpty then both (some ((([] : List A), ()), ())) (bif room (List.length ([] : List A) + List.length xs) b then some ((lapp ([] : List A) xs, ()), ()) else none) else bif room (List.length ([] : List A) + List.length xs) b then some ((lapp ([] : List A) xs, ()), ()) else none) = some ((xs, ()), ()) := by
  have hr : (bif room (List.length ([] : List A) + List.length xs) b then some ((lapp ([] : List A) xs, ()), ()) else none) = some ((xs, ()), ()) := room_then h h2 h3 rfl
  rw [hr]
  cases xs with
  | nil => exact both_same rfl
  | cons _ _ => rfl
theorem sub1 {n : Nat} (h : 1 ≤ n) (hn : L63 n) : iSub .i64 (n : Int) 1 = ((n - 1 : Nat) : Int) := by rw [iSub_small (by omega) (by omega)]; omega
theorem cut_hi {h n : Nat} {R : Type} {t e r : R} (hle : h ≤ n) (ht : t = r) : (bif cutHi (h : Int) n then t else e) = r := by
  have : cutHi (h : Int) n = true := by simp [cutHi, hle]
  rw [this]; exact ht
theorem take_nat {A : Type} {xs : List A} {h : Nat} : List.take (Int.toNat (h : Int) - 0) (List.drop 0 xs) = xs.take h := by simp
theorem nxt {i n : Nat} (h : i < n) (hn : L63 n) : iAdd .i64 (i : Int) 1 = ((i + 1 : Nat) : Int) := iAdd_small (by omega) (by omega)
theorem W1.l {n : Nat} (h : W1 n) : L63 n := Nat.le_trans h (by decide)
theorem pos_else {R : Type} {k : Int} {a b r : R} (h : 0 ≤ k) (h2 : b = r) : (bif iLt k 0 then a else b) = r := by rw [iLt_false h]; exact h2
theorem same_else {R : Type} {k k' : Int} {a b r : R} (h : k = k') (h2 : b = r) : (bif !iEq k k' then a else b) = r := by rw [h, iEq_self]; exact h2
theorem pn {k : Int} {c : Nat} (h : 0 ≤ k) : 0 ≤ k + ((c : Nat) : Int) := by omega
theorem ct_big {es : Tys} {xs : List es.D} (hf : (Ty.sl es).fits 62 = true) (hw : (Ty.sl es).w xs ≤ 67108864) : ((sumW (fun x => es.ct x) xs : Nat) : Int) ≤ 8589934592 := by
  have h : sumW (fun x => es.ct x) xs ≤ 1 + 62 * (Ty.sl es).w xs := ct_leT (M := 62) (.sl es) xs hf
  generalize sumW (fun x => es.ct x) xs = c at h ⊢
  generalize (Ty.sl es).w xs = d at h hw
  omega
theorem Ok_of {es : Tys} {xs : List es.D} (hl : xs.length ≤ 9223372036854775807) (h : ∀ y, y ∈ xs → es.Ok y) : (Ty.sl es).Ok xs := ⟨hl, fun i x hi => h x (List.mem_of_getElem? hi)⟩
theorem Ok_nil {es : Tys} : (Ty.sl es).Ok [] := ⟨Nat.zero_le _, fun i x hi => by simp [getN] at hi⟩
theorem sumW_fm {A B : Type} {f : A → Nat} {g : B → Nat} {p : A → Bool} {m : A → B} (h : ∀ x, g (m x) ≤ f x) : ∀ xs : List A, ((xs.filter p).map m).length + sumW g ((xs.filter p).map m) ≤ xs.length + sumW f xs
  | [] => Nat.le_refl _
  | x :: r => by
    have ih := sumW_fm (f := f) (g := g) (p := p) (m := m) h r
    have hx := h x
    rw [List.filter_cons]
    cases p x with
    | false => simp only [Bool.false_eq_true, if_false, List.length_cons, sumW]; omega
    | true => simp only [if_true, List.map_cons, List.length_cons, sumW]; omega
theorem w_mem {es : Tys} {xs : List es.D} {y : es.D} {n : Nat} (h : (Ty.sl es).w xs ≤ n) (hy : y ∈ xs) : es.w y ≤ n := by
  have h : List.length xs + sumW (fun z => es.w z) xs ≤ n := h
  have := sumW_mem (f := fun z => es.w z) hy
  omega
theorem w_ln {es : Tys} {xs : List es.D} {n : Nat} (h : (Ty.sl es).w xs ≤ n) : xs.length ≤ n := by
  have h : List.length xs + sumW (fun z => es.w z) xs ≤ n := h
  omega
theorem w_hd {t : Ty} {ts : Tys} {x : (Tys.cons t ts).D} {n : Nat} (h : (Tys.cons t ts).w x ≤ n) : t.w x.1 ≤ n := Nat.le_trans (Nat.le_add_right _ _) h
theorem okAdd (k : IntKind) (n : Int) : (Lit.int k (k.wrap n)).wf = true := by
  cases k <;> simp [Lit.wf, IntKind.wrap, IntKind.min, IntKind.max, IntKind.signed, IntKind.bits] <;> omega
theorem wfR {n : Int} (h : (Lit.int .i64 n).wf = true) : -9223372036854775808 ≤ n ∧ n ≤ 9223372036854775807 := by
  simp [Lit.wf, IntKind.min, IntKind.max, IntKind.signed, IntKind.bits] at h
  omega
theorem Rwf {n : Int} (h1 : -9223372036854775808 ≤ n) (h2 : n ≤ 9223372036854775807) : (Lit.int .i64 n).wf = true := by
  simp [Lit.wf, IntKind.min, IntKind.max, IntKind.signed, IntKind.bits]
  omega
theorem iEq_up {a b : Int} (ha : -9223372036854775808 ≤ a ∧ a ≤ 9223372036854775807) (hb : -9223372036854775808 ≤ b ∧ b ≤ 9223372036854775807) : iEq a (iAdd .i64 b 1) = iEq b (iSub .i64 a 1) := by
  unfold iEq iAdd iSub
  rw [Bool.eq_iff_iff]
  simp [IntKind.wrap, IntKind.signed, IntKind.bits]
  omega
/-- A measure of what there is, with what is left. -/
theorem sz_step {R : Type} {n : Nat} {l : Int} {T : Option ((Int × Unit) × Unit)} {K : (Int × Unit) × Unit → Option R} {r : Option R} (hT : T = some (I1 (szR n l))) (h1 : (n : Int) ≤ l → K (I1 (l - n)) = r) (h0 : K (I1 (-1)) = r) : T.bind K = r := by
  rw [hT]
  unfold szR
  by_cases h : (n : Int) ≤ l
  · rw [if_pos h]; exact h1 h
  · rw [if_neg h]; exact h0
theorem wrap_byte (b : UInt8) : IntKind.wrap .i64 (UInt8.toNat b : Int) = (UInt8.toNat b : Int) := by
  have := UInt8.toNat_lt b
  exact wrap64 (by omega) (by omega)
/-- What slices.Insert computes. -/
def insF (es : Tys) (bts : Nat) (x : (List es.D × Unit) × ((Int × Unit) × ((List es.D × Unit) × Unit))) : Option ((List es.D × Unit) × Unit) :=
  bif iLe 0 x.2.1.1 && (iLe x.2.1.1 (x.1.1.length : Int) && room (x.1.1.length + x.2.2.1.1.length) bts) then some ((lapp (List.take (Int.toNat x.2.1.1) x.1.1) (lapp x.2.2.1.1 (List.drop (Int.toNat x.2.1.1) x.1.1)), ()), ()) else none
end Go.Tm

/- Marks of any kind: the loops that put them and look for them, as the laws have them, and what they do. -/
namespace Go.Tm
open Go

abbrev MtT := ((Int × Unit) × Unit) → Option ((ByteArray × Unit) × Unit)
abbrev MarkT (es : Tys) := ((List es.D × Unit) × ((Int × Unit) × Unit)) → Option ((Int × Unit) × ((List es.D × Unit) × Unit))
abbrev HeldT (es : Tys) := ((List es.D × Unit) × ((Int × Unit) × Unit)) → Option ((Int × Unit) × Unit)
def CalM1 : Ty → Type
  | .sl es => MarkT es
  | _ => Unit
def CalM : Tys → Type
  | .nil => Unit
  | .cons t ts => CalM1 t × CalM ts
def CalH1 : Ty → Type
  | .sl es => HeldT es
  | _ => Unit
def CalH : Tys → Type
  | .nil => Unit
  | .cons t ts => CalH1 t × CalH ts

/-- One element's fields, one behind the other. -/
def markFs {F : Tys} {R : Type} (mt : MtT) : (ts : Tys) → CalM ts → (F.D → ts.D) → (F.D → ts.D → F.D) → Int → List F.D → Int → (List F.D → Int → Option R) → Option R
  | .nil, _, _, _, _, ys, k, fin => fin ys k
  | .cons (.int _) ts, c, g, p, i, ys, k, fin => (getI ys i).bind fun _ => (getN ys (Int.toNat i)).bind fun x => (some (List.set ys (Int.toNat i) (p x (k, (g x).2)))).bind fun z => markFs mt ts c.2 (fun x => (g x).2) (fun x r => p x ((g x).1, r)) i z (iAdd .i64 k 1) fin
  | .cons .bool ts, c, g, p, i, ys, k, fin => bif iEq (3:Int) 0 then none else (getI ys i).bind fun _ => (getN ys (Int.toNat i)).bind fun x => (some (List.set ys (Int.toNat i) (p x (iEq (iRem k (3:Int)) (0:Int), (g x).2)))).bind fun z => markFs mt ts c.2 (fun x => (g x).2) (fun x r => p x ((g x).1, r)) i z (iAdd .i64 k 1) fin
  | .cons .str ts, c, g, p, i, ys, k, fin => (mt ((k, ()), ())).bind fun y => (getI ys i).bind fun _ => (getN ys (Int.toNat i)).bind fun x => (some (List.set ys (Int.toNat i) (p x (y.1.1, (g x).2)))).bind fun z => markFs mt ts c.2 (fun x => (g x).2) (fun x r => p x ((g x).1, r)) i z (iAdd .i64 k 1) fin
  | .cons (.sl _) ts, c, g, p, i, ys, k, fin => (getI ys i).bind fun _ => (getN ys (Int.toNat i)).bind fun _ => (getN ys (Int.toNat i)).bind fun x => (c.1 (((g x).1, ()), ((k, ()), ()))).bind fun y => (some (List.set ys (Int.toNat i) (p x (y.2.1.1, (g x).2)))).bind fun z => markFs mt ts c.2 (fun x => (g x).2) (fun x r => p x ((g x).1, r)) i z y.1.1 fin
  | .cons (.fn _ _ _) _, _, _, _, _, _, _, _ => none

def markB (es : Tys) (mt : MtT) (c : CalM es) : (Int × (Int × (List es.D × Unit))) → Option (Sum (Int × (Int × (List es.D × Unit))) (Sum (Int × (Int × (List es.D × Unit))) ((Int × Unit) × ((List es.D × Unit) × Unit)))) := fun v =>
  bif iLt v.2.1 (List.length v.2.2.1 : Int) then markFs mt es c (fun x => x) (fun _ r => r) v.2.1 v.2.2.1 v.1 (fun z k => some (.inl (k, (iAdd .i64 v.2.1 (1:Int), (z, ()))))) else some (.inr (.inl (v.1, (v.2.1, (v.2.2.1, ())))))
noncomputable def markSl (es : Tys) (mt : MtT) (c : CalM es) : MarkT es := fun x0 => (loopF (markB es mt c) (x0.2.1.1, ((0:Int), (x0.1.1, ())))).bind fun r => Sum.elim (fun v => some ((v.1, ()), ((v.2.2.1, ()), ()))) some r

def heldFs {F : Tys} {R : Type} (mt : MtT) : (ts : Tys) → CalH ts → (F.D → ts.D) → Int → List F.D → Int → Option R → (Int → Option R) → Option R
  | .nil, _, _, _, _, k, _, fin => fin k
  | .cons (.int _) ts, c, g, i, xs, k, X, fin => (getI xs i).bind fun x => bif !iEq (g x).1 k then X else heldFs mt ts c.2 (fun x => (g x).2) i xs (iAdd .i64 k 1) X fin
  | .cons .bool ts, c, g, i, xs, k, X, fin => (getI xs i).bind fun x => bif iEq (3:Int) 0 then none else bif !bEq (g x).1 (iEq (iRem k (3:Int)) (0:Int)) then X else heldFs mt ts c.2 (fun x => (g x).2) i xs (iAdd .i64 k 1) X fin
  | .cons .str ts, c, g, i, xs, k, X, fin => (getI xs i).bind fun x => (mt ((k, ()), ())).bind fun y => bif !sEq (g x).1 y.1.1 then X else heldFs mt ts c.2 (fun x => (g x).2) i xs (iAdd .i64 k 1) X fin
  | .cons (.sl _) ts, c, g, i, xs, k, X, fin => (getI xs i).bind fun x => (c.1 (((g x).1, ()), ((k, ()), ()))).bind fun y => bif iLt y.1.1 (0:Int) then X else heldFs mt ts c.2 (fun x => (g x).2) i xs y.1.1 X fin
  | .cons (.fn _ _ _) _, _, _, _, _, _, _, _ => none

def heldB (es : Tys) (mt : MtT) (c : CalH es) (x0 : (List es.D × Unit) × ((Int × Unit) × Unit)) : (Int × (Int × Unit)) → Option (Sum (Int × (Int × Unit)) (Sum (Int × (Int × Unit)) ((Int × Unit) × Unit))) := fun v =>
  bif iLt v.2.1 (List.length x0.1.1 : Int) then heldFs mt es c (fun x => x) v.2.1 x0.1.1 v.1 (some (.inr (.inr (((-1:Int), ()), ())))) (fun k => some (.inl (k, (iAdd .i64 v.2.1 (1:Int), ())))) else some (.inr (.inl (v.1, (v.2.1, ()))))
noncomputable def heldSl (es : Tys) (mt : MtT) (c : CalH es) : HeldT es := fun x0 => (loopF (heldB es mt c x0) (x0.2.1.1, ((0:Int), ()))).bind fun r => Sum.elim (fun v => some ((v.1, ()), ())) some r

def MtOk (mt : MtT) (W : Int → ByteArray) : Prop := ∀ k, 1 ≤ k → k ≤ bigM → mt ((k, ()), ()) = some ((W k, ()), ())
abbrev ctL (es : Tys) (xs : List es.D) : Int := ((sumW (fun x => es.ct x) xs : Nat) : Int)
def mkL (W : Int → ByteArray) (es : Tys) (xs : List es.D) (k : Int) : List es.D := markL (fun x => es.ct x) (fun k x => es.mt W k x) xs k
def MarkOk (W : Int → ByteArray) (es : Tys) (M : MarkT es) : Prop := ∀ xs k, 1 ≤ k → k + ctL es xs ≤ bigM → (Ty.sl es).Ok xs → M ((xs, ()), ((k, ()), ())) = some ((k + ctL es xs, ()), ((mkL W es xs k, ()), ()))
def HeldOk (W : Int → ByteArray) (es : Tys) (M : HeldT es) : Prop := ∀ xs k, 1 ≤ k → k + ctL es xs ≤ bigM → (Ty.sl es).Ok xs → M ((mkL W es xs k, ()), ((k, ()), ())) = some ((k + ctL es xs, ()), ())
def CalM1Ok (W : Int → ByteArray) : (t : Ty) → CalM1 t → Prop
  | .sl es, c => MarkOk W es c
  | .fn _ _ _, _ => False
  | _, _ => True
def CalMOk (W : Int → ByteArray) : (ts : Tys) → CalM ts → Prop
  | .nil, _ => True
  | .cons t ts, c => CalM1Ok W t c.1 ∧ CalMOk W ts c.2
def CalH1Ok (W : Int → ByteArray) : (t : Ty) → CalH1 t → Prop
  | .sl es, c => HeldOk W es c
  | .fn _ _ _, _ => False
  | _, _ => True
def CalHOk (W : Int → ByteArray) : (ts : Tys) → CalH ts → Prop
  | .nil, _ => True
  | .cons t ts, c => CalH1Ok W t c.1 ∧ CalHOk W ts c.2

section
variable {W : Int → ByteArray} {mt : MtT}

theorem set_set_nat {A : Type} {ys : List A} {i : Nat} {a b : A} : List.set (List.set ys (Int.toNat (i : Int)) a) i b = List.set ys i b := set_one
theorem set_self {A : Type} {ys : List A} {i : Nat} (h : i < ys.length) : List.set ys i ys[i] = ys := List.set_getElem_self h

theorem markFs_ok (hmt : MtOk mt W) {F : Tys} {R : Type} : ∀ (ts : Tys) (c : CalM ts) (_ : CalMOk W ts c) (g : F.D → ts.D) (p : F.D → ts.D → F.D) (_ : ∀ x r, g (p x r) = r) (_ : ∀ x r r', p (p x r) r' = p x r') (_ : ∀ x, p x (g x) = x)
    (i : Nat) (ys : List F.D) (k : Int) (fin : List F.D → Int → Option R) (hi : i < ys.length) (_ : 1 ≤ k) (_ : k + ((ts.ct (g ys[i]) : Nat) : Int) ≤ bigM) (_ : ts.Ok (g ys[i])),
    markFs mt ts c g p (i : Int) ys k fin = fin (List.set ys i (p ys[i] (ts.mt W k (g ys[i])))) (k + ((ts.ct (g ys[i]) : Nat) : Int))
  | .nil, _, _, g, p, _, _, hpg, i, ys, k, fin, hi, hk, hb, ho => by
    have e : p ys[i] (Tys.mt W .nil k (g ys[i])) = ys[i] := hpg _
    rw [e, set_self hi]
    show fin ys k = fin ys (k + ((0 : Nat) : Int))
    rw [show k + ((0 : Nat) : Int) = k by omega]
  | .cons t ts, c, hc, g, p, hgp, hpp, hpg, i, ys, k, fin, hi, hk, hb, ho => by
    -- one field: what is put, and how many numbers it takes
    have one : ∀ (v : t.D) (n : Nat), k + ((n : Nat) : Int) + ((ts.ct (g ys[i]).2 : Nat) : Int) ≤ bigM →
        markFs mt ts c.2 (fun x => (g x).2) (fun x r => p x ((g x).1, r)) (i : Int) (List.set ys (Int.toNat (i : Int)) (p ys[i] (v, (g ys[i]).2))) (k + ((n : Nat) : Int)) fin =
          fin (List.set ys i (p ys[i] (v, ts.mt W (k + ((n : Nat) : Int)) (g ys[i]).2))) (k + ((n + ts.ct (g ys[i]).2 : Nat) : Int)) := by
      intro v n hn
      generalize hys : List.set ys (Int.toNat (i : Int)) (p ys[i] (v, (g ys[i]).2)) = ys'
      have hi2 : i < ys'.length := by rw [← hys]; exact len_set hi
      have hget : ys'[i] = p ys[i] (v, (g ys[i]).2) := by
        have h0 : ys'[i]? = some (p ys[i] (v, (g ys[i]).2)) := by rw [← hys]; simp [hi]
        rw [List.getElem?_eq_getElem hi2] at h0
        exact Option.some.inj h0
      have hg2 : g ys'[i] = (v, (g ys[i]).2) := (congrArg g hget).trans (hgp _ _)
      have hgx : (g ys'[i]).2 = (g ys[i]).2 := Eq.trans (b := Prod.snd (α := t.D) (β := ts.D) (v, (g ys[i]).2)) (congrArg (fun z => Prod.snd (α := t.D) (β := ts.D) z) hg2) rfl
      have hp2 : ∀ r, p ys'[i] ((g ys'[i]).1, r) = p ys[i] (v, r) := fun r => (congrArg (fun z => p z (Prod.fst (g z), r)) hget).trans ((hpp _ _ _).trans (show p ys[i] ((g (p ys[i] (v, (g ys[i]).2))).1, r) = p ys[i] (v, r) from congrArg (fun z => p ys[i] (Prod.fst (α := t.D) (β := ts.D) z, r)) (hgp ys[i] (v, (g ys[i]).2))))
      have hct : ((ts.ct (g ys'[i]).2 : Nat) : Int) = ((ts.ct (g ys[i]).2 : Nat) : Int) := congrArg (fun z => ((ts.ct z : Nat) : Int)) hgx
      have ih := markFs_ok hmt ts c.2 hc.2 (fun x => (g x).2) (fun x r => p x ((g x).1, r)) (fun x r => congrArg Prod.snd (hgp x _)) (fun x r r' => (hpp _ _ _).trans (Eq.trans (b := p x (Prod.fst (α := t.D) (β := ts.D) ((g x).1, r), r')) (congrArg (fun z => p x (Prod.fst (α := t.D) (β := ts.D) z, r')) (hgp x ((g x).1, r))) rfl)) (fun x => hpg x) i ys' (k + ((n : Nat) : Int)) fin hi2 (by omega) (Int.le_trans (Int.le_of_eq (congrArg (fun z => k + ((n : Nat) : Int) + z) hct)) hn) (hgx ▸ ho.2)
      have e2 : p ys'[i] ((g ys'[i]).1, ts.mt W (k + ((n : Nat) : Int)) (g ys'[i]).2) = p ys[i] (v, ts.mt W (k + ((n : Nat) : Int)) (g ys[i]).2) := (hp2 _).trans (congrArg (fun z => p ys[i] (v, ts.mt W (k + ((n : Nat) : Int)) z)) hgx)
      have e3 : k + ((n : Nat) : Int) + ((ts.ct (g ys'[i]).2 : Nat) : Int) = k + ((n + ts.ct (g ys[i]).2 : Nat) : Int) := (congrArg (fun z => k + ((n : Nat) : Int) + z) hct).trans (by omega)
      refine ih.trans ((congr (congrArg (fun a => fin (List.set ys' i a)) e2) e3).trans ?_)
      rw [← hys]
      exact congrArg (fun l => fin l _) set_set_nat
    have hb' : k + (((t.ct (g ys[i]).1) + ts.ct (g ys[i]).2 : Nat) : Int) ≤ bigM := hb
    cases t with
    | int kk =>
      have e : iAdd .i64 k 1 = k + ((1 : Nat) : Int) := up1 (by omega) (by have : k + ((1 + ts.ct (g ys[i]).2 : Nat) : Int) ≤ bigM := hb'; omega)
      refine bind_eq (getI_lt hi) (bind_eq (getN_nat hi) (bind_eq rfl ?_))
      refine (congrArg (fun q => markFs mt ts c.2 (fun x => (g x).2) (fun x r => p x ((g x).1, r)) (i : Int) _ q fin) e).trans ?_
      exact one k 1 (by have : k + ((1 + ts.ct (g ys[i]).2 : Nat) : Int) ≤ bigM := hb'; omega)
    | bool =>
      have e : iAdd .i64 k 1 = k + ((1 : Nat) : Int) := up1 (by omega) (by have : k + ((1 + ts.ct (g ys[i]).2 : Nat) : Int) ≤ bigM := hb'; omega)
      refine no_then rfl (bind_eq (getI_lt hi) (bind_eq (getN_nat hi) (bind_eq rfl ?_)))
      refine (congrArg (fun q => markFs mt ts c.2 (fun x => (g x).2) (fun x r => p x ((g x).1, r)) (i : Int) _ q fin) e).trans ?_
      exact one (iEq (iRem k 3) 0) 1 (by have : k + ((1 + ts.ct (g ys[i]).2 : Nat) : Int) ≤ bigM := hb'; omega)
    | str =>
      have hk2 : k ≤ bigM := by have : k + ((1 + ts.ct (g ys[i]).2 : Nat) : Int) ≤ bigM := hb'; omega
      have e : iAdd .i64 k 1 = k + ((1 : Nat) : Int) := up1 (by omega) (by have : k + ((1 + ts.ct (g ys[i]).2 : Nat) : Int) ≤ bigM := hb'; omega)
      refine bind_eq (hmt k hk hk2) (bind_eq (getI_lt hi) (bind_eq (getN_nat hi) (bind_eq rfl ?_)))
      refine (congrArg (fun q => markFs mt ts c.2 (fun x => (g x).2) (fun x r => p x ((g x).1, r)) (i : Int) _ q fin) e).trans ?_
      exact one (W k) 1 (by have : k + ((1 + ts.ct (g ys[i]).2 : Nat) : Int) ≤ bigM := hb'; omega)
    | sl es =>
      have hb2 : k + ((sumW (fun x => es.ct x) (g ys[i]).1 + ts.ct (g ys[i]).2 : Nat) : Int) ≤ bigM := hb'
      have hm := hc.1 (g ys[i]).1 k hk (by show k + ((sumW (fun x => es.ct x) (g ys[i]).1 : Nat) : Int) ≤ bigM; omega) ho.1
      refine bind_eq (getI_lt hi) (bind_eq (getN_nat hi) (bind_eq (getN_nat hi) (bind_eq hm (bind_eq rfl ?_))))
      exact one (mkL W es (g ys[i]).1 k) (sumW (fun x => es.ct x) (g ys[i]).1) (by omega)
    | fn _ _ _ => exact hc.1.elim

theorem markSl_ok (hmt : MtOk mt W) (es : Tys) (c : CalM es) (hc : CalMOk W es c) : MarkOk W es (markSl es mt c) := by
  intro xs k hk hb hx
  have hl : L63 xs.length := hx.1
  have lp := loopMarkP (fun y => es.Ok y) (S := Int × (Int × (List es.D × Unit))) (f := markB es mt c) (fun x => es.ct x) (fun k x => es.mt W k x) (fun k i ys => (k, (i, (ys, ())))) (fun k ys => Sum.inl (k, ((ys.length : Int), (ys, ())))) bigM xs (fun x hm => Ok_mem hx.2 hm) (fun i ys hi k he ho h1 h2 => ?_) (fun k ys => ?_) k hk hb
  · exact bind_eq lp rfl
  · unfold markB
    refine lt_then (Int.ofNat_lt.2 hi) ?_
    rw [← nxt hi (by rw [he]; exact hl)]
    exact markFs_ok hmt es c hc (fun x => x) (fun _ r => r) (fun _ _ => rfl) (fun _ _ _ => rfl) (fun _ => rfl) i ys k _ hi h1 h2 ho
  · unfold markB
    exact lt_else (Int.le_refl _) rfl

theorem heldFs_ok (hmt : MtOk mt W) {F : Tys} {R : Type} : ∀ (ts : Tys) (c : CalH ts) (_ : CalHOk W ts c) (g : F.D → ts.D) (i : Nat) (ys : List F.D) (k : Int) (X : Option R) (fin : Int → Option R) (x0 : ts.D) (hi : i < ys.length) (_ : g ys[i] = ts.mt W k x0) (_ : 1 ≤ k) (_ : k + ((ts.ct x0 : Nat) : Int) ≤ bigM) (_ : ts.Ok x0),
    heldFs mt ts c g (i : Int) ys k X fin = fin (k + ((ts.ct x0 : Nat) : Int))
  | .nil, _, _, g, i, ys, k, X, fin, x0, hi, hg, hk, hb, ho => by
    show fin k = fin (k + ((0 : Nat) : Int))
    rw [show k + ((0 : Nat) : Int) = k by omega]
  | .cons t ts, c, hc, g, i, ys, k, X, fin, x0, hi, hg, hk, hb, ho => by
    have hb' : k + (((t.ct x0.1) + ts.ct x0.2 : Nat) : Int) ≤ bigM := hb
    have h1 : (g ys[i]).1 = t.mt W k x0.1 := congrArg Prod.fst hg
    have h2 : (g ys[i]).2 = ts.mt W (k + ((t.ct x0.1 : Nat) : Int)) x0.2 := congrArg Prod.snd hg
    have rest : heldFs mt ts c.2 (fun x => (g x).2) (i : Int) ys (k + ((t.ct x0.1 : Nat) : Int)) X fin = fin (k + ((t.ct x0.1 + ts.ct x0.2 : Nat) : Int)) := by
      rw [heldFs_ok hmt ts c.2 hc.2 (fun x => (g x).2) i ys (k + ((t.ct x0.1 : Nat) : Int)) X fin x0.2 hi h2 (by omega) (by omega) ho.2]
      rw [show k + ((t.ct x0.1 : Nat) : Int) + ((ts.ct x0.2 : Nat) : Int) = k + ((t.ct x0.1 + ts.ct x0.2 : Nat) : Int) by omega]
    cases t with
    | int kk =>
      have e : iAdd .i64 k 1 = k + ((1 : Nat) : Int) := up1 (by omega) (by have : k + ((1 + ts.ct x0.2 : Nat) : Int) ≤ bigM := hb'; omega)
      refine bind_eq (getI_lt hi) ((congrArg (fun z => bif !iEq z k then X else _) h1).trans (eq_int ?_))
      exact (congrArg (fun q => heldFs mt ts c.2 (fun x => (g x).2) (i : Int) ys q X fin) e).trans rest
    | bool =>
      have e : iAdd .i64 k 1 = k + ((1 : Nat) : Int) := up1 (by omega) (by have : k + ((1 + ts.ct x0.2 : Nat) : Int) ≤ bigM := hb'; omega)
      refine bind_eq (getI_lt hi) (no_then rfl ((congrArg (fun z => bif !bEq z (iEq (iRem k (3:Int)) (0:Int)) then X else _) h1).trans (eq_bool ?_)))
      exact (congrArg (fun q => heldFs mt ts c.2 (fun x => (g x).2) (i : Int) ys q X fin) e).trans rest
    | str =>
      have hk2 : k ≤ bigM := by have : k + ((1 + ts.ct x0.2 : Nat) : Int) ≤ bigM := hb'; omega
      have e : iAdd .i64 k 1 = k + ((1 : Nat) : Int) := up1 (by omega) (by have : k + ((1 + ts.ct x0.2 : Nat) : Int) ≤ bigM := hb'; omega)
      refine bind_eq (getI_lt hi) (bind_eq (hmt k hk hk2) ((congrArg (fun z => bif !sEq z (W k) then X else _) h1).trans (eq_str ?_)))
      exact (congrArg (fun q => heldFs mt ts c.2 (fun x => (g x).2) (i : Int) ys q X fin) e).trans rest
    | sl es =>
      have hb2 : k + ((sumW (fun x => es.ct x) x0.1 + ts.ct x0.2 : Nat) : Int) ≤ bigM := hb'
      have hm := hc.1 x0.1 k hk (by show k + ((sumW (fun x => es.ct x) x0.1 : Nat) : Int) ≤ bigM; omega) ho.1
      refine bind_eq (getI_lt hi) (bind_eq ((congrArg (fun z => c.1 ((z, ()), ((k, ()), ()))) h1).trans hm) ?_)
      refine (pos_else (by show 0 ≤ k + ((sumW (fun x => es.ct x) x0.1 : Nat) : Int); omega) ?_)
      exact rest
    | fn _ _ _ => exact hc.1.elim

theorem heldSl_ok (hmt : MtOk mt W) (es : Tys) (c : CalH es) (hc : CalHOk W es c) : HeldOk W es (heldSl es mt c) := by
  intro xs k hk hb hx
  have hl : L63 xs.length := hx.1
  have hlen : (mkL W es xs k).length = xs.length := markL_length _ _ xs k
  have lp := loopHeldP (S := Int × (Int × Unit)) (f := heldB es mt c ((mkL W es xs k, ()), ((k, ()), ()))) (fun x => es.ct x) (fun k x => es.mt W k x) (fun k i => (k, (i, ()))) (fun k => Sum.inl (k, ((xs.length : Int), ()))) bigM xs k (fun i x k' hxi hm h1 h2 => ?_) (fun k' => ?_) hk hb
  · exact bind_eq lp rfl
  · obtain ⟨hlt, he⟩ := List.getElem?_eq_some_iff.1 hm
    have ho : es.Ok x := hx.2 i x hxi
    unfold heldB
    have hlt2 : i < (mkL W es xs k).length := hlt
    refine lt_then (Int.ofNat_lt.2 hlt2) ?_
    rw [← nxt (n := xs.length) (by omega) hl]
    exact heldFs_ok hmt es c hc (fun x => x) i (mkL W es xs k) k' _ _ x hlt2 he h1 h2 ho
  · unfold heldB
    exact lt_else (Int.ofNat_le.2 (Nat.le_of_eq hlen)) rfl

/-- Marks as the laws use them: what is marked is held. -/
def MH (es : Tys) (M : MarkT es) (H : HeldT es) : Prop := ∀ (x : List es.D × Unit) (k : Int), 1 ≤ k → k ≤ 1125900000000000 → (Ty.sl es).Ok x.1 → (Ty.sl es).w x.1 ≤ 67108864 → ∃ k' x', M (x, ((k, ()), ())) = some ((k', ()), (x', ())) ∧ H (x', ((k, ()), ())) = some ((k', ()), ()) ∧ 1 ≤ k' ∧ k' ≤ k + 8589934592
def MO (es : Tys) (M : MarkT es) : Prop := ∀ (x : List es.D × Unit) (k : Int), 1 ≤ k → k ≤ 1125900000000000 → (Ty.sl es).Ok x.1 → (Ty.sl es).w x.1 ≤ 67108864 → ∃ k' x', M (x, ((k, ()), ())) = some ((k', ()), (x', ())) ∧ 1 ≤ k' ∧ k' ≤ k + 8589934592
theorem mh_of {es : Tys} {M : MarkT es} {H : HeldT es} (hM : MarkOk W es M) (hH : HeldOk W es H) (hf : (Ty.sl es).fits 62 = true) : MH es M H := fun x k hk hk2 ho hw => by
  have hc := ct_big (xs := x.1) hf hw
  have hb : k + ctL es x.1 ≤ bigM := by unfold bigM ctL; omega
  have h0 : (0 : Int) ≤ ctL es x.1 := Int.natCast_nonneg _
  exact ⟨_, _, hM x.1 k hk hb ho, hH x.1 k hk hb ho, by omega, by unfold ctL; omega⟩
theorem mo_of {es : Tys} {M : MarkT es} (hM : MarkOk W es M) (hf : (Ty.sl es).fits 62 = true) : MO es M := fun x k hk hk2 ho hw => by
  have hc := ct_big (xs := x.1) hf hw
  have hb : k + ctL es x.1 ≤ bigM := by unfold bigM ctL; omega
  have h0 : (0 : Int) ≤ ctL es x.1 := Int.natCast_nonneg _
  exact ⟨_, _, hM x.1 k hk hb ho, by omega, by unfold ctL; omega⟩
end
end Go.Tm

/- The pure machine, 62: a function's contract told with less: what it hands back owns no rows within rows. -/
namespace Go.Tm
open Go

def wkO : Own → Own
  | .o (_ :: _ :: _) => .p
  | q => q
def weakO (o : Nat → Nat → Own) : Nat → Nat → Own := fun b k => wkO (o b k)
def wkMd : Md → Md
  | .own _ => .own []
  | .sh => .sh
def wkG (g : Grp) : Grp := ⟨g.k, g.ts, g.ms.map wkMd⟩
def wkGs : List Grp → List Grp
  | [] => []
  | g :: gs => wkG g :: wkGs gs
def wkD : (gs : List Grp) → GD gs → GD (wkGs gs)
  | [], x => x
  | _ :: gs, x => (x.1, wkD gs x.2)

theorem wkGs_len : ∀ gs : List Grp, (wkGs gs).length = gs.length
  | [] => rfl
  | g :: gs => by simp [wkGs, wkGs_len gs]
theorem wkO_top {id : Nat} : wkO (.o [id]) = .o [id] := rfl
theorem mdHd_map (ms : List Md) : mdHd (ms.map wkMd) = wkMd (mdHd ms) := by cases ms <;> rfl
theorem mdTl_map (ms : List Md) : mdTl (ms.map wkMd) = (mdTl ms).map wkMd := by cases ms <;> rfl

section
variable {P : Program} {w : World} {o : Nat → Nat → Own}
theorem weak_perm : PermKeep w o w (weakO o) := fun b k v hv ho => ⟨hv, by show wkO (o b k) = .p; rw [ho]; rfl⟩
theorem weak_wf (hw : Wf w o) : Wf w (weakO o) := by
  refine ⟨fun b k π h => ?_, fun b k h => ?_⟩
  · have h : wkO (o b k) = .o π := h
    cases hq : o b k with
    | x => rw [hq] at h; cases h
    | p => rw [hq] at h; cases h
    | o π' => exact hw.cell b k π' hq
  · have h : wkO (o b k) = .o [] := h
    cases hq : o b k with
    | x => rw [hq] at h; cases h
    | p => rw [hq] at h; cases h
    | o π' =>
      rw [hq] at h
      cases π' with
      | nil => exact hw.ne b k hq
      | cons a s => cases s <;> cases h
theorem weak_rl (id i q : Nat) : Rl w o w (weakO o) (.o [id, i, q]) .p :=
  .inr ⟨rfl, fun b k s v hv ho => ⟨hv, by show wkO (o b k) = .p; rw [ho]; rfl⟩⟩

theorem Vs_md0 : ∀ (ts : Tys) {ms : List Md} {j : Nat} {x : ts.D} {vs : List Value}, ts.Vs P w o ms (fun _ => .p) j x vs → ts.Vs P w o [] (fun _ => .p) j x vs
  | .nil, _, _, _, _, h => h
  | .cons t ts, _, _, _, _, h => by
    obtain ⟨v, r, rfl, h1, h2⟩ := h
    exact ⟨v, r, rfl, H_md t _ _ _ _ h1, Vs_md0 ts h2⟩

theorem weak_H (hw : Wf w o) {md : Md} {id : Nat} : ∀ (t : Ty) {x : t.D} {v : Value}, t.H P w o md (.o [id]) x v → t.H P w (weakO o) (wkMd md) (.o [id]) x v := by
  intro t x v h
  cases md with
  | sh => exact H_q t (H_re weak_perm hw t .sh .p .p _ _ rfl (H_q t h))
  | own ms =>
    cases t with
    | int k => exact h
    | bool => exact h
    | str => exact h
    | fn sh ar rs => exact H_re weak_perm hw (.fn sh ar rs) (.own ms) .p .p _ _ rfl h
    | sl es =>
      obtain ⟨a, c, hv, hl, hcase⟩ := H_own.1 h
      refine H_own.2 ⟨a, c, hv, hl, ?_⟩
      rcases hcase with h1 | ⟨ad, ha, hs, hk, hel⟩
      · exact .inl h1
      · refine .inr ⟨ad, ha, hs, fun k hlt => ?_, fun i y hi => ?_⟩
        · show wkO _ = _
          rw [hk k hlt]; rfl
        · obtain ⟨vs, h1, h2⟩ := Hs_vs es (hel i y hi)
          have h3 := Vs_re weak_perm hw es ms (qf' := fun _ => .p) (fun q => weak_rl id i q) h1
          refine Vs_hs es (Vs_q es (Vs_md0 es h3)) (fun k u hu => ?_)
          obtain ⟨h4, h5⟩ := h2 k u hu
          refine ⟨h4, ?_⟩
          show wkO _ = _
          rw [h5]; rfl

theorem weak_Vs (hw : Wf w o) : ∀ (ts : Tys) {ms : List Md} {j : Nat} {x : ts.D} {vs : List Value}, ts.Vs P w o ms (fun j => .o [j]) j x vs → ts.Vs P w (weakO o) (ms.map wkMd) (fun j => .o [j]) j x vs
  | .nil, _, _, _, _, h => h
  | .cons t ts, ms, _, _, _, h => by
    obtain ⟨v, r, rfl, h1, h2⟩ := h
    refine ⟨v, r, rfl, ?_, ?_⟩
    · rw [mdHd_map]; exact weak_H hw t h1
    · rw [mdTl_map]; exact weak_Vs hw ts h2
theorem weak_Hs (hw : Wf w o) {id : Nat} : ∀ (ts : Tys) {ms : List Md} {j : Nat} {x : ts.D} {b off : Nat}, ts.Hs P w o ms (.o [id]) (fun j => .o [j]) j x b off → ts.Hs P w (weakO o) (ms.map wkMd) (.o [id]) (fun j => .o [j]) j x b off
  | .nil, _, _, _, _, _, _ => trivial
  | .cons t ts, ms, _, _, _, _, h => by
    obtain ⟨⟨v, hv, ho, h1⟩, h2⟩ := h
    refine ⟨⟨v, hv, by show wkO _ = _; rw [ho]; rfl, ?_⟩, ?_⟩
    · rw [mdHd_map]; exact weak_H hw t h1
    · rw [mdTl_map]; exact weak_Hs hw ts h2

theorem weak_outs (hw : Wf w o) : ∀ (gs : List Grp) {r : Nat} {y : GD gs} {vs : List Value} {io : List Bk}, OutsR P w o gs r y vs io → OutsR P w (weakO o) (wkGs gs) r (wkD gs y) vs io
  | [], _, _, _, _, h => h
  | g :: gs, r, y, v :: vs, io, h => by
    obtain ⟨h1, h2⟩ := h
    refine ⟨?_, weak_outs hw gs h2⟩
    obtain ⟨k, ts, ms⟩ := g
    cases k with
    | c => exact weak_Vs hw ts h1
    | agg => obtain ⟨a, ha, h1⟩ := h1; exact ⟨a, ha, weak_Vs hw ts h1⟩
    | np => obtain ⟨b, base, hb, h1⟩ := h1; exact ⟨b, base, hb, weak_Hs hw ts h1⟩
    | rp => exact h1
    | io => exact h1
    | wc => exact h1
    | wa => exact h1
  | g :: gs, r, y, [], a :: io, h => by
    obtain ⟨h1, h2⟩ := h
    refine ⟨?_, weak_outs hw gs h2⟩
    cases a with
    | bx b off => exact weak_Hs hw g.ts h1
    | vs l => exact weak_Vs hw g.ts h1
  | _ :: _, _, _, [], [], h => h.elim
end

/-- A contract told with less. -/
theorem good_weak {P : Program} {f : Nat} {ins outs : List Grp} {F : GD ins → Option (GD outs)} {F' : GD ins → Option (GD (wkGs outs))} (h : Good P f ⟨ins, outs, F⟩) (hF : ∀ x, F' x = (F x).map (wkD outs)) : Good P f ⟨ins, wkGs outs, F'⟩ := by
  intro w o args x y hy ha hw
  have hy : F' x = some y := hy
  rw [hF] at hy
  cases hq : F x with
  | none => rw [hq] at hy; cases hy
  | some y0 =>
    rw [hq] at hy
    have hy := Option.some.inj hy
    subst hy
    refine Calls.mono (h w o args x y0 hq ha hw) fun e w' he => ?_
    obtain ⟨vs, o', h1, h2, h3, h4, h5⟩ := he
    refine ⟨vs, weakO o', h1, ?_, ⟨h3.os, h3.tape, h3.output, h3.size, h3.blk, fun b k v hv hn => ?_, h3.there, h3.frz⟩, weak_wf h4, weak_outs h4 outs h5⟩
    · rw [h2]
      show numRes _ = numRes _
      unfold numRes
      simp [wkGs_len]
    · obtain ⟨h6, h7⟩ := h3.cell b k v hv hn
      refine ⟨h6, ?_⟩
      show wkO (o' b k) = o b k
      rw [h7]
      cases hq : o b k with
      | x => rfl
      | p => rfl
      | o π => exact absurd hq (hn π)
end Go.Tm

/- The pure machine, 60: slices.Insert at elements of any size: what it leaves, road by road. Conditions: told at each theorem. -/
namespace Go.Tm
open Go Go.Shelf Go.RowKit Go.Lib Go.Proofs
set_option linter.unusedVariables false
set_option linter.unusedSimpArgs false

section
variable {P : Program}
theorem run_copyN (w : World) (dT sT ty elem : TypeId) (N b o dLen dCap : Nat) (a : Addr) (sLen sCap k : Nat) (cs : List Value)
    (hu : P.underlying dT = some (.slice elem)) (hs : (P.info? elem).map (·.size) = some N) (hk : k = Nat.min sLen dLen) (hn : cs.length = k * N)
    (hsrc : ∀ j v, cs[j]? = some v → w.cell? (a.add j) = some v) (hc : ∀ j, j < cs.length → (w.cell? ⟨b, o + j, none⟩).isSome = true) (hf : ∀ j, j < cs.length → w.frozen? ⟨b, o + j, none⟩ = false) (h1 : ∀ v ∈ cs, v.oneCell' = true) :
    (Builtin.copy_ #[dT, sT] ty #[.slice (some ⟨b, o, none⟩) dLen dCap, .slice (some a) sLen sCap]).run P w = .ok (goInt k) (w.setCells b o cs) := by
  have hl := run_loadCells_list (P := P) w a cs hsrc
  have hst := run_storeCells_cells (P := P) b o cs 0 w (by simpa using hc) (by simpa using hf) h1
  cases hq : P.info? elem with
  | none => simp [hq] at hs
  | some i =>
    have hi : i.size = N := by simpa [hq] using hs
    simp [Builtin.copy_, run_underlying hu, Builtin.lenOf, Builtin.firstCells, sizeOf, typeInfo, hq, hi, ← hk, ← hn, hl, hst]
end

theorem run_overlaps_same {P : Program} (w : World) (tS tR e : TypeId) (ht : P.underlying tS = some (.slice e)) (size : Nat) (hz : ∀ w, (Go.sizeOf e).run P w = .ok size w)
    (b x y : Nat) (la ca lb cb : Nat) (hd : x + la * size ≤ y ∨ y + lb * size ≤ x) :
    (Extern.SlicesOverlaps.overlaps #[tS, tS] #[tR] #[.slice (some ⟨b, x, none⟩) la ca, .slice (some ⟨b, y, none⟩) lb cb]).run P w = .ok (.bool false) w := by
  have hb : (decide (x < y + lb * size) && decide (y < x + la * size)) = false := by
    rcases hd with h | h
    · have : ¬ y < x + la * size := by omega
      simp [this]
    · have : ¬ x < y + lb * size := by omega
      simp [this]
  change Sem.run P (α := Value) (do
    let some t := (#[tS, tS] : Array TypeId)[0]? | stuck "slices.overlaps: no parameter types"
    let .slice elem ← underlying t | stuck "slices.overlaps: slice type expected"
    let size ← sizeOf elem
    match (some (⟨b, x, none⟩ : Addr) : Option Addr), (some (⟨b, y, none⟩ : Addr) : Option Addr) with
    | some a, some b =>
      if la = 0 ∨ lb = 0 ∨ size = 0 then pure (Value.bool false)
      else if a.block != b.block && (← frozen a) && (← frozen b) then unsupported .addressObserved
      else do
        if a.block != b.block then do
          noView a; noView b
          if ← mayBeOne a b then return Value.bool ((← choose (.extern "sameAddr.stringBytes" 2)) == 1)
        pure (Value.bool (a.block == b.block && a.off < b.off + lb * size && b.off < a.off + la * size))
    | _, _ => pure (Value.bool false)) w = _
  by_cases h0 : la = 0 ∨ lb = 0 ∨ size = 0
  · simp [run_underlying ht, hz, h0]
  · simp [run_underlying ht, hz, h0, Sem.run]
    rcases hd with h | h <;> omega

noncomputable def insFn (nm : String) (ρ : Ren) : Func := { Body2.n22 ρ with name := nm }

theorem calls_as {P : Program} {f : FuncId} {fn0 : Func} {nm : String} {c : Code} {args : Array Value} {w : World} {R : Ending → World → Prop} (hf : P.funcs[f]? = some { fn0 with name := nm }) (hb : fn0.body = some c)
    (h : c.wp P (bodyPost P fn0 R) { tmps := args ++ Array.replicate (fn0.ntmps - args.size) undef, defers := [] } w) : Calls P f args w R := calls_of_wp hf hb h

/-- What the program is asked for: slices.Insert's body, slices.overlaps', and their types. -/
structure InsL (P : Program) (ρ : Ren) (nm : String) (N bts : Nat) (z : Value) : Prop where
  mixed : P.follows .mixedOrders = true
  f22 : P.funcs[ρ.f 22]? = some (insFn nm ρ)
  ov : ∀ args w, (callFunc (ρ.f 29) args).run P w = ((Extern.SlicesOverlaps.overlaps #[ρ.t 24, ρ.t 24] #[ρ.t 4] args).run P w).andThen fun v w' => .ok (.value v) w'
  t0 : P.underlying (ρ.t 0) = some (TypeDesc.tuple #[])
  a0 : ∀ w, (isAgg (ρ.t 0)).run P w = .ok false w
  z0 : ∀ w, (Go.sizeOf (ρ.t 0)).run P w = .ok 1 w
  v0 : ∀ w, (zeroValue (ρ.t 0)).run P w = .ok (Value.tuple #[]) w
  t3 : P.underlying (ρ.t 3) = some (TypeDesc.int IntKind.i64)
  a3 : ∀ w, (isAgg (ρ.t 3)).run P w = .ok false w
  z3 : ∀ w, (Go.sizeOf (ρ.t 3)).run P w = .ok 1 w
  v3 : ∀ w, (zeroValue (ρ.t 3)).run P w = .ok (Value.int IntKind.i64 0) w
  t4 : P.underlying (ρ.t 4) = some (TypeDesc.bool)
  a4 : ∀ w, (isAgg (ρ.t 4)).run P w = .ok false w
  z4 : ∀ w, (Go.sizeOf (ρ.t 4)).run P w = .ok 1 w
  v4 : ∀ w, (zeroValue (ρ.t 4)).run P w = .ok (Value.bool false) w
  z9 : ∀ w, (Go.sizeOf (ρ.t 9)).run P w = .ok N w
  t24 : P.underlying (ρ.t 24) = some (TypeDesc.slice (ρ.t 9))
  a24 : ∀ w, (isAgg (ρ.t 24)).run P w = .ok false w
  z24 : ∀ w, (Go.sizeOf (ρ.t 24)).run P w = .ok 1 w
  v24 : ∀ w, (zeroValue (ρ.t 24)).run P w = .ok (Value.slice none 0 0) w
  i9 : (P.info? (ρ.t 9)).map (fun i => (i.zero, i.size, i.bytes)) = some (some z, N, bts)

variable {P : Program} {ρ : Ren} {nm : String} {N bts : Nat} {z : Value}

set_option maxHeartbeats 4000000 in
set_option maxRecDepth 100000 in
/-- There is room, i < len(s): in place. -/
theorem ins_shift (L : InsL P ρ nm N bts z) (b off n c i vb voff m vc : Nat) (cs vs : List Value) (w : World) (hi : i < n) (hm : 0 < m) (hroom : n + m ≤ c) (hc63 : c ≤ 9223372036854775807) (hvb : vb ≠ b ∨ voff + m * N ≤ off ∨ off + c * N ≤ voff)
    (hcl : cs.length = n * N) (hvl : vs.length = m * N)
    (hcs : ∀ j v, cs[j]? = some v → w.cell? ⟨b, off + j, none⟩ = some v) (hsp : ∀ j, j < (n + m) * N → (w.cell? ⟨b, off + j, none⟩).isSome = true) (hfz : ∀ j, j < (n + m) * N → w.frozen? ⟨b, off + j, none⟩ = false)
    (hvs : ∀ j v, vs[j]? = some v → w.cell? ⟨vb, voff + j, none⟩ = some v) (h1c : ∀ v ∈ cs, v.oneCell' = true) (h1v : ∀ v ∈ vs, v.oneCell' = true)
    (tA tB : TypeId) (kA kB : Nat) (hsa : w.shape? vb = some (tA, kA)) (hsb : w.shape? b = some (tB, kB)) (hkB : kB ≠ 0) (hfa : w.frozen? ⟨vb, voff, none⟩ = false) (hfe : w.frozen? ⟨vb, kA, none⟩ = false) :
    Calls P (ρ.f 22) #[.slice (some ⟨b, off, none⟩) n c, .int .i64 i, .slice (some ⟨vb, voff, none⟩) m vc] w fun e w' =>
      e = .returned (.slice (some ⟨b, off, none⟩) (n + m) c) ∧ w' = (w.drew.setCells b (off + (i + m) * N) (cs.drop (i * N))).setCells b (off + i * N) vs := by
  have t0 := L.t0; have a0 := L.a0; have z0 := L.z0; have v0 := L.v0; have t3 := L.t3; have a3 := L.a3; have z3 := L.z3; have v3 := L.v3; have t4 := L.t4; have a4 := L.a4; have z4 := L.z4; have v4 := L.v4; have z9 := L.z9; have t24 := L.t24; have a24 := L.a24; have z24 := L.z24; have v24 := L.v24
  have u0 := run_underlying L.t0; have u3 := run_underlying L.t3; have u4 := run_underlying L.t4; have u24 := run_underlying L.t24
  have hz1 : ¬ ((m : Int) = 0) := by omega
  have hz2 : ¬ ((i : Int) = (n : Int)) := by omega
  have hsz : (P.info? (ρ.t 9)).map (·.size) = some N := by
    obtain ⟨i0, hi0, h0, h1, h2⟩ := info_parts L.i9
    rw [hi0]; simp [h1]
  have hcN : (n + m) * N ≤ c * N := Nat.mul_le_mul_right _ hroom
  have hnmi : (i + m) * N + (n + m - (i + m)) * N = (n + m) * N := by rw [← Nat.add_mul]; congr 1; omega
  have hov : ∀ cb, (callFunc (ρ.f 29) #[.slice (some ⟨vb, voff, none⟩) m vc, .slice (some ⟨b, off + (i + m) * N, none⟩) (n + m - (i + m)) cb]).run P w = .ok (.value (.bool false)) w := fun cb => by
    rw [L.ov]
    by_cases hbb : vb = b
    · subst hbb
      rw [run_overlaps_same w (ρ.t 24) (ρ.t 4) (ρ.t 9) L.t24 N L.z9 vb voff (off + (i + m) * N) m vc (n + m - (i + m)) cb (by rcases hvb with h | h | h <;> omega)]
      rfl
    · rw [Lib.run_overlaps_apart w (ρ.t 24) (ρ.t 4) (ρ.t 9) L.t24 N L.z9 ⟨vb, voff, none⟩ ⟨b, off + (i + m) * N, none⟩ m vc (n + m - (i + m)) cb hbb tA tB kA kB hsa hsb hkB hfa hfe]
      rfl
  have hdl : (cs.drop (i * N)).length = (n - i) * N := by rw [List.length_drop, hcl, Nat.sub_mul]
  have mixed := L.mixed
  have hw1 : IntKind.i64.wrap ((i : Int) + (m : Int)) = (i : Int) + (m : Int) := by rw [IntKind.wrap_i64]; omega
  have hb1 : (0 : Int) ≤ (i : Int) + (m : Int) := by omega
  have hin : i ≤ n := by omega
  have htn : ((i : Int) + (m : Int)).toNat = i + m := by omega
  have hb2 : ¬ (c = i + m) := by omega
  have hb3 : (i : Int) ≤ (n : Int) + (m : Int) := by omega
  have hb4 : ¬ (c = i) := by omega
  have hmul : ∀ j, j < (n - i) * N → (i + m) * N + j < (n + m) * N := fun j hj => by
    have : (n + m) * N = (i + m) * N + (n - i) * N := by rw [← Nat.add_mul]; congr 1; omega
    omega
  have hmul2 : ∀ j, j < m * N → i * N + j < (n + m) * N := fun j hj => by
    have : i * N + m * N = (i + m) * N := by rw [Nat.add_mul]
    have : (i + m) * N ≤ (n + m) * N := Nat.mul_le_mul_right _ (by omega)
    omega
  have hcp1 : ∀ ty dc sc, (Builtin.copy_ #[(ρ.t 24), (ρ.t 24)] ty #[.slice (some ⟨b, off + (i + m) * N, none⟩) (n + m - (i + m)) dc, .slice (some ⟨b, off + i * N, none⟩) (n + m - i) sc]).run P w.drew = .ok (goInt (n - i : Nat)) (w.drew.setCells b (off + (i + m) * N) (cs.drop (i * N))) := fun ty dc sc =>
    run_copyN w.drew _ _ ty (ρ.t 9) N b (off + (i + m) * N) (n + m - (i + m)) dc ⟨b, off + i * N, none⟩ (n + m - i) sc (n - i) (cs.drop (i * N)) L.t24 hsz (by simp only [Nat.min_def]; split <;> omega) hdl
      (fun j v hj => by rw [Addr.add_lit, Nat.add_assoc]; exact hcs (i * N + j) v (by rwa [List.getElem?_drop] at hj))
      (fun j hj => by rw [Nat.add_assoc]; exact hsp _ (hmul _ (by omega))) (fun j hj => by rw [Nat.add_assoc]; exact hfz _ (hmul _ (by omega))) (fun v hv => h1c v (List.mem_of_mem_drop hv))
  obtain ⟨W1, hW1⟩ : ∃ W1, W1 = w.drew.setCells b (off + (i + m) * N) (cs.drop (i * N)) := ⟨_, rfl⟩
  have hsp1 : ∀ k, k < (n + m) * N → (W1.cell? ⟨b, off + k, none⟩).isSome = true := fun k hk => by
    rw [hW1]
    exact isSome_setCells b _ _ _ (fun j hj => by rw [Nat.add_assoc]; exact hsp _ (hmul _ (by omega))) _ (hsp k hk)
  have hcp2 : ∀ (W : World), (∀ x, W.cell? x = W1.cell? x) → (∀ x, W.frozen? x = W1.frozen? x) → ∀ ty dc, (Builtin.copy_ #[(ρ.t 24), (ρ.t 24)] ty #[.slice (some ⟨b, off + i * N, none⟩) (n + m - i) dc, .slice (some ⟨vb, voff, none⟩) m vc]).run P W = .ok (goInt m) (W.setCells b (off + i * N) vs) := fun W hWc hWf ty dc =>
    run_copyN W _ _ ty (ρ.t 9) N b (off + i * N) (n + m - i) dc ⟨vb, voff, none⟩ m vc m vs L.t24 hsz (by simp only [Nat.min_def]; split <;> omega) hvl
      (fun j v hj => by
        have hjl : j < m * N := by rw [← hvl]; exact (List.getElem?_eq_some_iff.1 hj).1
        rw [Addr.add_lit, hWc, hW1, World.cell?_setCells_out b _ _ _ _ (fun h _ => by
          show voff + j < off + (i + m) * N ∨ off + (i + m) * N + (cs.drop (i * N)).length ≤ voff + j
          have h : vb = b := h
          rw [hdl]
          have : (n - i) * N = (n + m - (i + m)) * N := by congr 1; omega
          rcases hvb with h1 | h1 | h1
          · exact absurd h h1
          · left; omega
          · right; omega)]
        exact hvs j v hj)
      (fun j hj => by rw [hWc, Nat.add_assoc]; exact hsp1 _ (hmul2 _ (by omega))) (fun j hj => by rw [hWf, hW1, World.frozen?_setCells, Nat.add_assoc]; exact hfz _ (hmul2 _ (by omega))) h1v
  rw [← hW1] at hcp1
  refine calls_as L.f22 rfl ?_
  simp only [Body2.n22_ntmps ρ, List.size_toArray, List.length_cons, List.length_nil, Nat.reduceAdd, Nat.reduceSub, Array.replicate_succ, Array.replicate_zero, List.push_toArray, List.append_toArray, List.nil_append, List.cons_append]
  go_wp2_with (simp only [hov])
  go_region_law_o (refine step_copy_runI rfl _ _ (ρ.t 24) (ρ.t 24) rfl _ _ (by simp [Act.eval, Act.put]) (by simp [Act.eval, Act.put]) (hcp1 _ _ _) ?_)
  go_wp2_with (at_builtin; refine wpList_copy_runI _ rfl _ _ (ρ.t 24) (ρ.t 24) rfl _ _ rfl rfl (hcp2 _ (fun _ => rfl) (fun _ => rfl) _ _) ?_)
  go_ret
  first | exact ⟨rfl, rfl⟩ | exact ⟨rfl, by rw [hW1]⟩
set_option maxHeartbeats 4000000 in
set_option maxRecDepth 100000 in
/-- At the end (i = len(s)), there is room: in place. -/
theorem ins_end_room (L : InsL P ρ nm N bts z) (b off n c vb voff m vc : Nat) (vs : List Value) (w : World) (hm : 0 < m) (hroom : n + m ≤ c) (hc63 : c ≤ 9223372036854775807)
    (hvl : vs.length = m * N) (hsp : ∀ j, j < m * N → (w.cell? ⟨b, off + n * N + j, none⟩).isSome = true) (hfz : ∀ j, j < m * N → w.frozen? ⟨b, off + n * N + j, none⟩ = false)
    (hvs : ∀ j v, vs[j]? = some v → w.cell? ⟨vb, voff + j, none⟩ = some v) (h1v : ∀ v ∈ vs, v.oneCell' = true) :
    Calls P (ρ.f 22) #[.slice (some ⟨b, off, none⟩) n c, .int .i64 n, .slice (some ⟨vb, voff, none⟩) m vc] w fun e w' =>
      e = .returned (.slice (some ⟨b, off, none⟩) (n + m) c) ∧ w' = w.setCells b (off + n * N) vs := by
  have t0 := L.t0; have a0 := L.a0; have z0 := L.z0; have v0 := L.v0; have t3 := L.t3; have a3 := L.a3; have z3 := L.z3; have v3 := L.v3; have t4 := L.t4; have a4 := L.a4; have z4 := L.z4; have v4 := L.v4; have z9 := L.z9; have t24 := L.t24; have a24 := L.a24; have z24 := L.z24; have v24 := L.v24
  have u0 := run_underlying L.t0; have u3 := run_underlying L.t3; have u4 := run_underlying L.t4; have u24 := run_underlying L.t24
  have mixed := L.mixed
  have hz1 : ¬ ((m : Int) = 0) := by omega
  obtain ⟨i0, hi0, hz0, hzs, hzb⟩ := info_parts L.i9
  have hrun : ∀ ty, (Builtin.append_ #[(ρ.t 24), (ρ.t 24)] ty #[.slice (some ⟨b, off, none⟩) n c, .slice (some ⟨vb, voff, none⟩) m vc]).run P w = .ok (.slice (some ⟨b, off, none⟩) (n + m) c) (w.setCells b (off + n * N) vs) := fun ty =>
    run_append_in L.t24 L.t24 (.inl ⟨_, rfl⟩) hi0 rfl (run_firstCells_some w _ m ⟨vb, voff, none⟩ m vc vs (by rw [hzs]; exact hvl) (fun j u hj => by rw [Addr.add_lit]; exact hvs j u hj)) hroom rfl (by
      rw [hzs]
      have := run_storeCells_cells (P := P) b (off + n * N) vs 0 w (by rw [hvl]; simpa using hsp) (by rw [hvl]; simpa using hfz) h1v
      simpa using this)
  refine calls_as L.f22 rfl ?_
  simp only [Body2.n22_ntmps ρ, List.size_toArray, List.length_cons, List.length_nil, Nat.reduceAdd, Nat.reduceSub, Array.replicate_succ, Array.replicate_zero, List.push_toArray, List.append_toArray, List.nil_append, List.cons_append]
  go_wp2_with (at_builtin; refine Lib.wpList_append_run _ rfl _ _ _ _ rfl _ _ rfl rfl _ _ (hrun _) ?_)
  go_ret
  exact ⟨rfl, rfl⟩

set_option maxHeartbeats 4000000 in
set_option maxRecDepth 100000 in
/-- At the end (i = len(s)), no room (the nil slice among these): a new row. -/
theorem ins_end_grow (L : InsL P ρ nm N bts z) (base : Option Addr) (n c vb voff m vc : Nat) (cs vs : List Value) (w : World) (hm : 0 < m) (hnc : n ≤ c) (hroom : c < n + m) (h63 : ((n + m : Nat) : Int) ≤ 9223372036854775807) (hbig : (n + m) * bts ≤ 140737488355328)
    (hcl : cs.length = n * N) (hvl : vs.length = m * N) (hnil : base = none → n = 0)
    (hcs : ∀ a, base = some a → ∀ j v, cs[j]? = some v → w.cell? (a.add j) = some v)
    (hvs : ∀ j v, vs[j]? = some v → w.cell? ⟨vb, voff + j, none⟩ = some v) (h1v : ∀ v ∈ vs, v.oneCell' = true) :
    Calls P (ρ.f 22) #[.slice base n c, .int .i64 n, .slice (some ⟨vb, voff, none⟩) m vc] w fun e w' =>
      e = .returned (.slice (some ⟨w.heap.size, 0, none⟩) (n + m) (grownCap w (n + m) c (ρ.t 9))) ∧
      w' = w.drew.alloc (.cells ((cs ++ vs).toArray ++ Builtin.zeroCells z.cells (grownCap w (n + m) c (ρ.t 9) - (n + m))) (ρ.t 9)) := by
  have t0 := L.t0; have a0 := L.a0; have z0 := L.z0; have v0 := L.v0; have t3 := L.t3; have a3 := L.a3; have z3 := L.z3; have v3 := L.v3; have t4 := L.t4; have a4 := L.a4; have z4 := L.z4; have v4 := L.v4; have z9 := L.z9; have t24 := L.t24; have a24 := L.a24; have z24 := L.z24; have v24 := L.v24
  have u0 := run_underlying L.t0; have u3 := run_underlying L.t3; have u4 := run_underlying L.t4; have u24 := run_underlying L.t24
  have mixed := L.mixed
  obtain ⟨i0, hi0, hz0, hzs, hzb⟩ := info_parts L.i9
  have hz1 : ¬ ((m : Int) = 0) := by omega
  have hsrc : Go.Src P i0.size (ρ.t 24) (.slice (some ⟨vb, voff, none⟩) m vc) m vs w := by
    rw [hzs]
    exact Go.Src.ofSlice w L.t24 ⟨vb, voff, none⟩ m vc vs hvl (fun j u hj => by rw [Addr.add_lit]; exact hvs j u hj) h1v
  have hold : (Builtin.firstCells i0.size n (.slice base n c)).run P w.drew = .ok cs.toArray w.drew := by
    rw [hzs]
    cases base with
    | none =>
      have h0 := hnil rfl
      subst h0
      have hcs0 : cs = [] := List.length_eq_zero_iff.1 (by rw [hcl, Nat.zero_mul])
      rw [hcs0]
      exact run_firstCells_none w.drew N 0 0 c
    | some a => exact run_firstCells_some w.drew N n a n c cs hcl (fun j v hj => hcs a rfl j v hj)
  have hrun : ∀ ty, (Builtin.append_ #[(ρ.t 24), (ρ.t 24)] ty #[.slice base n c, .slice (some ⟨vb, voff, none⟩) m vc]).run P w = _ := fun ty =>
    run_append_grow_src w (ρ.t 24) (ρ.t 24) ty (ρ.t 9) i0 _ L.t24 hi0 hz0 base n c cs hold _ m vs hsrc hroom h63 (by rw [hzb]; exact growslice_fits hroom hbig)
  refine calls_as L.f22 rfl ?_
  simp only [Body2.n22_ntmps ρ, List.size_toArray, List.length_cons, List.length_nil, Nat.reduceAdd, Nat.reduceSub, Array.replicate_succ, Array.replicate_zero, List.push_toArray, List.append_toArray, List.nil_append, List.cons_append]
  cases base with
  | none =>
    have h0 := hnil rfl
    subst h0
    go_wp2_with (at_builtin; refine Lib.wpList_append_run _ rfl _ _ _ _ rfl _ _ rfl rfl _ _ (hrun _) ?_)
    all_goals (go_ret; exact ⟨rfl, rfl⟩)
  | some a =>
    obtain ⟨ab, ao, asp⟩ := a
    go_wp2_with (at_builtin; refine Lib.wpList_append_run _ rfl _ _ _ _ rfl _ _ rfl rfl _ _ (hrun _) ?_)
    all_goals (go_ret; exact ⟨rfl, rfl⟩)

set_option maxHeartbeats 4000000 in
set_option maxRecDepth 100000 in
/-- Nothing is inserted: s comes back. -/
theorem ins_none (L : InsL P ρ nm N bts z) (b : Option Addr) (n c i vc : Nat) (v : Option Addr) (w : World) (hi : i ≤ n) (hnc : n ≤ c) (hb : b = none → i = 0 ∧ c = 0) :
    Calls P (ρ.f 22) #[.slice b n c, .int .i64 i, .slice v 0 vc] w fun e w' => e = .returned (.slice b n c) ∧ w' = w := by
  have t0 := L.t0; have a0 := L.a0; have z0 := L.z0; have v0 := L.v0; have t3 := L.t3; have a3 := L.a3; have z3 := L.z3; have v3 := L.v3; have t4 := L.t4; have a4 := L.a4; have z4 := L.z4; have v4 := L.v4; have z9 := L.z9; have t24 := L.t24; have a24 := L.a24; have z24 := L.z24; have v24 := L.v24
  have u0 := run_underlying L.t0; have u3 := run_underlying L.t3; have u4 := run_underlying L.t4; have u24 := run_underlying L.t24
  have mixed := L.mixed
  have hi2 : (i : Int) ≤ (n : Int) := by omega
  refine calls_as L.f22 rfl ?_
  simp only [Body2.n22_ntmps ρ, List.size_toArray, List.length_cons, List.length_nil, Nat.reduceAdd, Nat.reduceSub, Array.replicate_succ, Array.replicate_zero, List.push_toArray, List.append_toArray, List.nil_append, List.cons_append]
  cases b with
  | none =>
    obtain ⟨h0, h1⟩ := hb rfl
    subst h0; subst h1
    have : n = 0 := by omega
    subst this
    go_wp2
    go_ret
    exact ⟨rfl, rfl⟩
  | some a =>
    obtain ⟨ab, ao, asp⟩ := a
    go_wp2
    all_goals (go_ret; exact ⟨rfl, rfl⟩)

set_option maxHeartbeats 4000000 in
set_option maxRecDepth 100000 in
/-- i < len(s), no room: a new row. -/
theorem ins_grow (L : InsL P ρ nm N bts z) (hN : 0 < N) (hzc : z.cells.size = N) (b off n c i vb voff m vc : Nat) (cs vs : List Value) (w : World) (hi : i < n) (hm : 0 < m) (hnc : n ≤ c) (hroom : c < n + m) (h63 : ((n + m : Nat) : Int) ≤ 4611686018427387904) (hbig : (n + m) * bts ≤ 140737488355328)
    (hcl : cs.length = n * N) (hvl : vs.length = m * N)
    (hcs : ∀ j v, cs[j]? = some v → w.cell? ⟨b, off + j, none⟩ = some v)
    (hvs : ∀ j v, vs[j]? = some v → w.cell? ⟨vb, voff + j, none⟩ = some v) (h1c : ∀ v ∈ cs, v.oneCell' = true) (h1v : ∀ v ∈ vs, v.oneCell' = true) :
    Calls P (ρ.f 22) #[.slice (some ⟨b, off, none⟩) n c, .int .i64 i, .slice (some ⟨vb, voff, none⟩) m vc] w fun e w' =>
      e = .returned (.slice (some ⟨w.heap.size, 0, none⟩) (n + m) (grownCap w (n + m) c (ρ.t 9))) ∧
      w' = (((w.alloc (.cells ((cs.take (i * N)).toArray ++ Builtin.zeroCells z.cells (n + m - i) ++ Builtin.zeroCells z.cells (grownCap w (n + m) c (ρ.t 9) - (n + m))) (ρ.t 9))).drew.setCells w.heap.size (i * N) vs).drew).setCells w.heap.size ((i + m) * N) (cs.drop (i * N)) := by
  have t0 := L.t0; have a0 := L.a0; have z0 := L.z0; have v0 := L.v0; have t3 := L.t3; have a3 := L.a3; have z3 := L.z3; have v3 := L.v3; have t4 := L.t4; have a4 := L.a4; have z4 := L.z4; have v4 := L.v4; have z9 := L.z9; have t24 := L.t24; have a24 := L.a24; have z24 := L.z24; have v24 := L.v24
  have u0 := run_underlying L.t0; have u3 := run_underlying L.t3; have u4 := run_underlying L.t4; have u24 := run_underlying L.t24
  have mixed := L.mixed
  obtain ⟨i0, hi0, hz0, hzs, hzb⟩ := info_parts L.i9
  have hz1 : ¬ ((m : Int) = 0) := by omega
  have hz2 : ¬ ((i : Int) = (n : Int)) := by omega
  have hz3 : (c : Int) < (n : Int) + (m : Int) := by omega
  have hsz : (P.info? (ρ.t 9)).map (·.size) = some N := by rw [hi0]; simp [hzs]
  have hnN : 0 < n * N := Nat.mul_pos (by omega) hN
  have hmN : 0 < m * N := Nat.mul_pos (by omega) hN
  have hbw : b < w.heap.size := block_lt_of_cell (hcs 0 _ (List.getElem?_eq_getElem (by omega)))
  have hvw : vb < w.heap.size := block_lt_of_cell (hvs 0 _ (List.getElem?_eq_getElem (by omega)))
  have hkk : (n : Int) + (m : Int) - (i : Int) = ((n + m - i : Nat) : Int) := by omega
  have hik : i + (n + m - i) = n + m := by omega
  have hiN : i * N ≤ n * N := Nat.mul_le_mul_right _ (by omega)
  have hold : (Builtin.firstCells i0.size i (.slice (some ⟨b, off, none⟩) i c)).run P w.drew = .ok (cs.take (i * N)).toArray w.drew := by
    rw [hzs]
    exact run_firstCells_some w.drew N i ⟨b, off, none⟩ i c (cs.take (i * N)) (by rw [List.length_take]; omega) (fun j v hj => by
      rw [Addr.add_lit]
      rw [List.getElem?_take] at hj
      split at hj
      · exact hcs j v hj
      · cases hj)
  have hrz : ∀ ty, (Builtin.append_ #[(ρ.t 24), (ρ.t 3)] ty #[.slice (some ⟨b, off, none⟩) i c, .int .i64 ((n : Int) + (m : Int) - (i : Int))]).run P w =
      .ok (.slice (some ⟨w.heap.size, 0, none⟩) (n + m) (grownCap w (n + m) c (ρ.t 9))) (w.drew.alloc (.cells ((cs.take (i * N)).toArray ++ Builtin.zeroCells z.cells (n + m - i) ++ Builtin.zeroCells z.cells (grownCap w (n + m) c (ρ.t 9) - (n + m))) (ρ.t 9))) := fun ty => by
    have hle : (n + m - i) * bts ≤ (n + m) * bts := Nat.mul_le_mul_right _ (by omega)
    have h := Lib.run_append_grow_zeros w (ρ.t 24) (ρ.t 3) ty (ρ.t 9) i0 _ .i64 .i64 L.t24 L.t3 hi0 hz0 (some ⟨b, off, none⟩) i c (cs.take (i * N)) hold (n + m - i) (by omega) (by omega) (by omega) (by omega) (by rw [hzb]; omega) (by rw [hzb, hik]; exact growslice_fits hroom hbig)
    rw [hik] at h
    rw [hkk]
    exact h
  obtain ⟨G, hG⟩ : ∃ G, G = grownCap w (n + m) c (ρ.t 9) := ⟨_, rfl⟩
  obtain ⟨ROW, hROW⟩ : ∃ ROW : Array Value, ROW = (cs.take (i * N)).toArray ++ Builtin.zeroCells z.cells (n + m - i) ++ Builtin.zeroCells z.cells (G - (n + m)) := ⟨_, rfl⟩
  rw [← hG] at hrz ⊢
  rw [← hROW] at hrz ⊢
  have hsum : i * N + (n + m - i) * N = (n + m) * N := by rw [← Nat.add_mul, hik]
  have hRl : (n + m) * N ≤ ROW.size := by
    rw [hROW]
    simp only [Array.size_append, List.size_toArray, List.length_take, Builtin.zeroCells, Array.size_map, Array.size_range, hzc]
    rw [hcl, Nat.min_eq_left hiN]
    omega
  obtain ⟨W1, hW1⟩ : ∃ W1, W1 = w.drew.alloc (.cells ROW (ρ.t 9)) := ⟨_, rfl⟩
  rw [← hW1] at hrz
  have hNn : ∀ j, j < (n + m) * N → (W1.cell? ⟨w.heap.size, j, none⟩).isSome = true := fun j hj => by
    rw [hW1, World.cell?_alloc_at (w := w.drew) ROW _ w.heap.size j rfl, Array.getElem?_eq_getElem (by omega)]; rfl
  have hNf : ∀ j, W1.frozen? ⟨w.heap.size, j, none⟩ = false := fun j => by rw [hW1]; exact World.frozen?_alloc_at (w := w.drew) ROW _ w.heap.size j rfl
  have hOb : ∀ j v, w.cell? ⟨b, j, none⟩ = some v → W1.cell? ⟨b, j, none⟩ = some v := fun j v h => by rw [hW1, World.cell?_alloc_past (w := w.drew) _ b j hbw]; exact h
  have hOv : ∀ j v, w.cell? ⟨vb, j, none⟩ = some v → W1.cell? ⟨vb, j, none⟩ = some v := fun j v h => by rw [hW1, World.cell?_alloc_past (w := w.drew) _ vb j hvw]; exact h
  have hdl : (cs.drop (i * N)).length = (n - i) * N := by rw [List.length_drop, hcl, Nat.sub_mul]
  have hmul : ∀ j, j < (n - i) * N → (i + m) * N + j < (n + m) * N := fun j hj => by
    have : (n + m) * N = (i + m) * N + (n - i) * N := by rw [← Nat.add_mul]; congr 1; omega
    omega
  have hmul2 : ∀ j, j < m * N → i * N + j < (n + m) * N := fun j hj => by
    have : i * N + m * N = (i + m) * N := by rw [Nat.add_mul]
    have : (i + m) * N ≤ (n + m) * N := Nat.mul_le_mul_right _ (by omega)
    omega
  have hcpA : ∀ (W : World), (∀ x, W.cell? x = W1.cell? x) → (∀ x, W.frozen? x = W1.frozen? x) → ∀ ty dc, (Builtin.copy_ #[(ρ.t 24), (ρ.t 24)] ty #[.slice (some ⟨w.heap.size, i * N, none⟩) (n + m - i) dc, .slice (some ⟨vb, voff, none⟩) m vc]).run P W = .ok (goInt m) (W.setCells w.heap.size (i * N) vs) := fun W hWc hWf ty dc =>
    run_copyN W _ _ ty (ρ.t 9) N w.heap.size (i * N) (n + m - i) dc ⟨vb, voff, none⟩ m vc m vs L.t24 hsz (by simp only [Nat.min_def]; split <;> omega) hvl
      (fun j v hj => by rw [Addr.add_lit, hWc]; exact hOv _ v (hvs j v hj))
      (fun j hj => by rw [hWc]; exact hNn _ (hmul2 _ (by omega))) (fun j hj => by rw [hWf]; exact hNf _) h1v
  have hGn : n + m ≤ G := by rw [hG]; exact grownCap_ge w _ _ _
  have hG63 : G ≤ 9223372036854775807 := by
    have := grownCap_le_maxLen w (n + m) c (ρ.t 9) (by unfold maxLen; omega)
    rw [← hG] at this
    unfold maxLen at this
    omega
  have hGi : ¬ (G = i) := by omega
  have hGim : ¬ (G = i + m) := by omega
  have hci : ¬ (c = i) := by omega
  have hbN : b ≠ w.heap.size := by omega
  have hcpB : ∀ (W : World), (∀ x, W.cell? x = (W1.setCells w.heap.size (i * N) vs).cell? x) → (∀ x, W.frozen? x = (W1.setCells w.heap.size (i * N) vs).frozen? x) → ∀ ty dc sc, (Builtin.copy_ #[(ρ.t 24), (ρ.t 24)] ty #[.slice (some ⟨w.heap.size, (i + m) * N, none⟩) (n + m - (i + m)) dc, .slice (some ⟨b, off + i * N, none⟩) (n - i) sc]).run P W = .ok (goInt (n - i : Nat)) (W.setCells w.heap.size ((i + m) * N) (cs.drop (i * N))) := fun W hWc hWf ty dc sc =>
    run_copyN W _ _ ty (ρ.t 9) N w.heap.size ((i + m) * N) (n + m - (i + m)) dc ⟨b, off + i * N, none⟩ (n - i) sc (n - i) (cs.drop (i * N)) L.t24 hsz (by simp only [Nat.min_def]; split <;> omega) hdl
      (fun j v hj => by
        rw [Addr.add_lit, hWc, World.cell?_setCells_out _ _ _ _ _ (fun h _ => absurd h hbN), Nat.add_assoc]
        exact hOb _ v (hcs (i * N + j) v (by rwa [List.getElem?_drop] at hj)))
      (fun j hj => by rw [hWc]; exact isSome_setCells _ _ _ _ (fun t ht => hNn _ (hmul2 _ (by omega))) _ (hNn _ (hmul _ (by omega))))
      (fun j hj => by rw [hWf, World.frozen?_setCells]; exact hNf _) (fun v hv => h1c v (List.mem_of_mem_drop hv))
  subst hW1
  have hE1 : ∀ x, ((w.alloc (.cells ROW (ρ.t 9))).drew).cell? x = (w.drew.alloc (.cells ROW (ρ.t 9))).cell? x := fun x => rfl
  have hE2 : ∀ x, ((w.alloc (.cells ROW (ρ.t 9))).drew).frozen? x = (w.drew.alloc (.cells ROW (ρ.t 9))).frozen? x := fun x => rfl
  have hF1 : ∀ x, (((w.alloc (.cells ROW (ρ.t 9))).drew.setCells w.heap.size (i * N) vs).drew).cell? x = ((w.drew.alloc (.cells ROW (ρ.t 9))).setCells w.heap.size (i * N) vs).cell? x := fun x => rfl
  have hF2 : ∀ x, (((w.alloc (.cells ROW (ρ.t 9))).drew.setCells w.heap.size (i * N) vs).drew).frozen? x = ((w.drew.alloc (.cells ROW (ρ.t 9))).setCells w.heap.size (i * N) vs).frozen? x := fun x => rfl
  have hw1 : IntKind.i64.wrap ((i : Int) + (m : Int)) = (i : Int) + (m : Int) := by rw [IntKind.wrap_i64]; omega
  have hb1 : (0 : Int) ≤ (i : Int) + (m : Int) := by omega
  have hin : i ≤ n := by omega
  have htn : ((i : Int) + (m : Int)).toNat = i + m := by omega
  have hb3 : (i : Int) ≤ (n : Int) := by omega
  clear hkk hik hold hROW hG hRl hsum hnN hmN hiN hmul hmul2
  refine calls_as L.f22 rfl ?_
  simp only [Body2.n22_ntmps ρ, List.size_toArray, List.length_cons, List.length_nil, Nat.reduceAdd, Nat.reduceSub, Array.replicate_succ, Array.replicate_zero, List.push_toArray, List.append_toArray, List.nil_append, List.cons_append]
  go_wp2_with (first
    | (at_builtin; refine Lib.wpList_append_run _ rfl _ _ _ _ rfl _ _ rfl rfl _ _ (hrz _) ?_)
    | (at_builtin; refine wpList_copy_runI _ rfl _ _ (ρ.t 24) (ρ.t 24) rfl _ _ rfl rfl (hcpA _ hE1 hE2 _ _) ?_)
    | (at_builtin; refine wpList_copy_runI _ rfl _ _ (ρ.t 24) (ρ.t 24) rfl _ _ rfl rfl (hcpB _ (fun _ => rfl) (fun _ => rfl) _ _ _) ?_))
  go_region_law_o (refine step_copy_runI rfl _ _ (ρ.t 24) (ρ.t 24) rfl (.slice (some ⟨w.heap.size, (i + m) * N, none⟩) (n + m - (i + m)) (G - (i + m))) (.slice (some ⟨b, off + i * N, none⟩) (n - i) (c - i)) (by simp [Act.eval, Act.put]) (by simp [Act.eval, Act.put]) (hcpB _ hF1 hF2 (ρ.t 3) (G - (i + m)) (c - i)) ?_)
  go_wp2
  go_ret
  exact ⟨rfl, rfl⟩
end Go.Tm

/- The pure machine, 61: slices.Insert does as its contract says. Conditions: told at each theorem. -/
namespace Go.Tm
open Go Go.Shelf

/-- Where an inserted row's things go: what stood behind moves on, what comes in is told anew. -/
def insOwn (k m : Nat) : Own → Own
  | .o (id :: s) => if id = 1 then (match s with
      | j :: r => .o (1 :: (if j < k then j else j + m) :: r)
      | [] => .x)
    else if id = 129 then (match s with
      | j :: r => .o (1 :: (k + j) :: r)
      | [] => .x)
    else .o (id :: s)
  | q => q

theorem insOwn_o {k m : Nat} {q : Own} {π : List Nat} (h : insOwn k m q = .o π) : ∃ π', q = .o π' := by
  unfold insOwn at h
  split at h
  · exact ⟨_, rfl⟩
  · exact ⟨_, h⟩
theorem insOwn_ne {k m : Nat} {q : Own} (hq : q ≠ .o []) : insOwn k m q ≠ .o [] := by
  unfold insOwn
  split
  · split
    · split <;> simp
    · split
      · split <;> simp
      · simp
  · exact hq
theorem insOwn_lo {k m j : Nat} (r : List Nat) (h : j < k) : insOwn k m (.o (1 :: j :: r)) = .o (1 :: j :: r) := by simp [insOwn, h]
theorem insOwn_hi {k m j : Nat} (r : List Nat) (h : k ≤ j) : insOwn k m (.o (1 :: j :: r)) = .o (1 :: (j + m) :: r) := by simp [insOwn, Nat.not_lt.2 h]
theorem insOwn_new {k m j : Nat} (r : List Nat) : insOwn k m (.o (129 :: j :: r)) = .o (1 :: (k + j) :: r) := by simp [insOwn]

theorem seg_get {α : Type} {l : List α} {a n t : Nat} {v : α} (h : ((l.drop a).take n)[t]? = some v) : l[a + t]? = some v ∧ t < n := by
  rw [List.getElem?_take] at h
  split at h
  · rename_i ht
    rw [List.getElem?_drop] at h
    exact ⟨h, ht⟩
  · cases h

section
variable {P : Program} {w w' : World} {o : Nat → Nat → Own} {es : Tys} {ms : List Md}

theorem ins_core {xs vs : List es.D} {k B O C : Nat} {olds news : List Value} (hk : k ≤ xs.length) (hw : Wf w o) (hlo : olds.length = xs.length * es.len) (hln : news.length = vs.length * es.len)
    (hold : ∀ j x, getN xs j = some x → es.Vs P w o ms (fun q => .o [1, j, q]) 0 x ((olds.drop (j * es.len)).take es.len))
    (hnew : ∀ j x, getN vs j = some x → es.Vs P w o ms (fun q => .o [129, j, q]) 0 x ((news.drop (j * es.len)).take es.len))
    (hcell : ∀ t v, (olds.take (k * es.len) ++ (news ++ olds.drop (k * es.len)))[t]? = some v → w'.cell? ⟨B, O + t, none⟩ = some v)
    (hcap : ∀ t, t < C * es.len → ∃ v, w'.cell? ⟨B, O + t, none⟩ = some v) (hfz : ∀ j, w'.frozen? ⟨B, j, none⟩ = false) (hC : xs.length + vs.length ≤ C) (hC63 : C ≤ 9223372036854775807)
    (hkeep : ∀ b t v, w.cell? ⟨b, t, none⟩ = some v → ¬ (b = B ∧ O ≤ t ∧ t < O + C * es.len) → w'.cell? ⟨b, t, none⟩ = some v)
    (hWr : ∀ b t v, w.cell? ⟨b, t, none⟩ = some v → (b = B ∧ O ≤ t ∧ t < O + C * es.len) → o b t = .o [1])
    (h1 : w'.os = w.os) (h2 : w'.tape = w.tape) (h3 : w'.output = w.output) (h4 : w.heap.size ≤ w'.heap.size) (hblk : ∀ b, b < w.heap.size → b ≠ B → w'.heap[b]? = w.heap[b]?) (hB : B < w.heap.size → ∃ t, o B t = .o [1])
    (hthere : ∀ b t v, w.cell? ⟨b, t, none⟩ = some v → ∃ v', w'.cell? ⟨b, t, none⟩ = some v') (hfr : ∀ b j, b < w.heap.size → w'.frozen? ⟨b, j, none⟩ = w.frozen? ⟨b, j, none⟩) :
    ∃ o', Fr w o w' o' ∧ Wf w' o' ∧ (Ty.sl es).H P w' o' (.own ms) (.o [1]) (lapp (xs.take k) (lapp vs (xs.drop k))) (.slice (some ⟨B, O, none⟩) (xs.length + vs.length) C) := by
  let o' : Nat → Nat → Own := fun b t => if b = B ∧ O ≤ t ∧ t < O + C * es.len then .o [1] else insOwn k vs.length (o b t)
  have hin : ∀ {b t}, (b = B ∧ O ≤ t ∧ t < O + C * es.len) → o' b t = .o [1] := fun h => if_pos h
  have hout : ∀ {b t}, ¬ (b = B ∧ O ≤ t ∧ t < O + C * es.len) → o' b t = insOwn k vs.length (o b t) := fun h => if_neg h
  have hnot : ∀ b t v, w.cell? ⟨b, t, none⟩ = some v → o b t ≠ .o [1] → ¬ (b = B ∧ O ≤ t ∧ t < O + C * es.len) := fun b t v hv ho h => ho (hWr b t v hv h)
  have hF : Fr w o w' o' := by
    refine ⟨h1, h2, h3, h4, fun b hb hn => ?_, fun b t v hv hn => ?_, hthere, hfr⟩
    · refine hblk b hb (fun e => ?_)
      subst e
      obtain ⟨t, ht⟩ := hB hb
      exact hn _ _ ht
    · have hn1 := hnot b t v hv (hn _)
      refine ⟨hkeep b t v hv hn1, ?_⟩
      rw [hout hn1]
      cases hq : o b t with
      | x => rfl
      | p => rfl
      | o π => exact absurd hq (hn π)
  have hW : Wf w' o' := by
    refine ⟨fun b t π h => ?_, fun b t h => ?_⟩
    · by_cases hc : b = B ∧ O ≤ t ∧ t < O + C * es.len
      · obtain ⟨rfl, h5, h6⟩ := hc
        obtain ⟨v, hv⟩ := hcap (t - O) (by omega)
        rw [show O + (t - O) = t by omega] at hv
        exact ⟨⟨v, hv⟩, hfz⟩
      · rw [hout hc] at h
        obtain ⟨π', hq⟩ := insOwn_o h
        obtain ⟨⟨v, hv⟩, hz⟩ := hw.cell b t _ hq
        exact ⟨hthere b t v hv, fun j => by rw [hfr b j (cell_lt hv)]; exact hz j⟩
    · by_cases hc : b = B ∧ O ≤ t ∧ t < O + C * es.len
      · rw [hin hc] at h; cases h
      · rw [hout hc] at h; exact insOwn_ne (hw.ne b t) h
  refine ⟨o', hF, hW, H_own.2 ⟨some ⟨B, O, none⟩, C, ?_, ?_, .inr ⟨⟨B, O, none⟩, rfl, ⟨rfl, hC63⟩, fun t ht => hin ⟨rfl, Nat.le_add_right _ _, Nat.add_lt_add_left ht _⟩, ?_⟩⟩⟩
  · congr 1
    simp only [lapp, List.length_append, List.length_take, List.length_drop]
    omega
  · simp only [lapp, List.length_append, List.length_take, List.length_drop]
    omega
  · intro i2 x2 hx
    have hrl : ∀ (id j j2 : Nat), (id = 1 ∨ id = 129) → (∀ r, insOwn k vs.length (.o (id :: j :: r)) = .o (1 :: j2 :: r)) → ∀ q, Rl w o w' o' (.o [id, j, q]) (.o [1, j2, q]) := fun id j j2 hid h q =>
      .inl ⟨_, rfl, fun b t s v hv ho => by
        have hn1 := hnot b t v hv (by rw [ho]; simp)
        refine ⟨hkeep b t v hv hn1, ?_⟩
        rw [hout hn1, ho]
        exact h (q :: s)⟩
    have fin : ∀ l, es.Vs P w' o' ms (fun q => .o [1, i2, q]) 0 x2 l → (∀ t v, l[t]? = some v → (olds.take (k * es.len) ++ (news ++ olds.drop (k * es.len)))[i2 * es.len + t]? = some v) → (∀ t, t < es.len → O + i2 * es.len + t < O + C * es.len) →
        es.Hs P w' o' ms (.o [1]) (fun j => .o ([1] ++ [i2, j])) 0 x2 B (O + i2 * es.len) := fun l hl hc hb => by
      refine Vs_hs es hl (fun t v hv => ?_)
      have hlt : t < es.len := by rw [← Vs_len es hl]; exact (List.getElem?_eq_some_iff.1 hv).1
      refine ⟨?_, hin ⟨rfl, by omega, hb t hlt⟩⟩
      rw [Nat.add_assoc]
      exact hcell _ v (hc t v hv)
    have hbd : ∀ t, i2 < xs.length + vs.length → t < es.len → O + i2 * es.len + t < O + C * es.len := fun t h5 h6 => by
      have : (i2 + 1) * es.len ≤ C * es.len := Nat.mul_le_mul_right _ (by omega)
      rw [Nat.add_mul, Nat.one_mul] at this
      omega
    have hkl : k * es.len ≤ xs.length * es.len := Nat.mul_le_mul_right _ hk
    have hmin : (olds.take (k * es.len)).length = k * es.len := by rw [List.length_take]; omega
    unfold getN lapp at hx
    by_cases c1 : i2 < k
    · rw [List.getElem?_append_left (by rw [List.length_take]; omega), List.getElem?_take, if_pos c1] at hx
      refine fin _ (Vs_re hF.perm hw es ms (hrl 1 i2 i2 (.inl rfl) (fun r => insOwn_lo r c1)) (hold i2 x2 hx)) (fun t v hv => ?_) (fun t ht => hbd t (by omega) ht)
      obtain ⟨h5, h6⟩ := seg_get hv
      have : (i2 + 1) * es.len ≤ k * es.len := Nat.mul_le_mul_right _ c1
      rw [Nat.add_mul, Nat.one_mul] at this
      rw [List.getElem?_append_left (by omega), List.getElem?_take, if_pos (by omega)]
      exact h5
    · rw [List.getElem?_append_right (by rw [List.length_take]; omega)] at hx
      have e1 : (xs.take k).length = k := by rw [List.length_take]; omega
      rw [e1] at hx
      have hki : k * es.len ≤ i2 * es.len := Nat.mul_le_mul_right _ (by omega)
      by_cases c2 : i2 - k < vs.length
      · rw [List.getElem?_append_left c2] at hx
        refine fin _ (Vs_re hF.perm hw es ms (hrl 129 (i2 - k) i2 (.inr rfl) (fun r => by rw [insOwn_new]; rw [show k + (i2 - k) = i2 by omega])) (hnew (i2 - k) x2 hx)) (fun t v hv => ?_) (fun t ht => hbd t (by omega) ht)
        obtain ⟨h5, h6⟩ := seg_get hv
        have e2 : (i2 - k) * es.len = i2 * es.len - k * es.len := Nat.sub_mul _ _ _
        have : (i2 - k + 1) * es.len ≤ vs.length * es.len := Nat.mul_le_mul_right _ c2
        rw [Nat.add_mul, Nat.one_mul] at this
        rw [List.getElem?_append_right (by omega), hmin, List.getElem?_append_left (by omega), show i2 * es.len + t - k * es.len = (i2 - k) * es.len + t by omega]
        exact h5
      · rw [List.getElem?_append_right (by omega), List.getElem?_drop] at hx
        have hlt : k + (i2 - k - vs.length) < xs.length := (List.getElem?_eq_some_iff.1 hx).1
        refine fin _ (Vs_re hF.perm hw es ms (hrl 1 (k + (i2 - k - vs.length)) i2 (.inl rfl) (fun r => by rw [insOwn_hi r (by omega)]; rw [show k + (i2 - k - vs.length) + vs.length = i2 by omega])) (hold _ x2 hx)) (fun t v hv => ?_) (fun t ht => hbd t (by omega) ht)
        obtain ⟨h5, h6⟩ := seg_get hv
        have e2 : (k + (i2 - k - vs.length)) * es.len = i2 * es.len - vs.length * es.len := by rw [← Nat.sub_mul]; congr 1; omega
        have e3 : (k + vs.length) * es.len ≤ i2 * es.len := Nat.mul_le_mul_right _ (by omega)
        rw [Nat.add_mul] at e3
        rw [List.getElem?_append_right (by omega), hmin, List.getElem?_append_right (by omega), List.getElem?_drop, hln]
        rw [show k * es.len + (i2 * es.len + t - k * es.len - vs.length * es.len) = (k + (i2 - k - vs.length)) * es.len + t by omega]
        exact h5
end
section
variable {w : World} {b o : Nat} {vs : List Value}
theorem sc_in (h : ∀ j, j < vs.length → (w.cell? ⟨b, o + j, none⟩).isSome = true) {j : Nat} {v : Value} (hv : vs[j]? = some v) : (w.setCells b o vs).cell? ⟨b, o + j, none⟩ = some v := by
  obtain ⟨hj, rfl⟩ := List.getElem?_eq_some_iff.1 hv
  have := World.cell?_setCells_in b vs o w h j hj
  rw [this]
theorem sc_out {b' t : Nat} (h : b' = b → t < o ∨ o + vs.length ≤ t) : (w.setCells b o vs).cell? ⟨b', t, none⟩ = w.cell? ⟨b', t, none⟩ :=
  World.cell?_setCells_out b vs o w ⟨b', t, none⟩ (fun h1 _ => h h1)
theorem sc_some (h : ∀ j, j < vs.length → (w.cell? ⟨b, o + j, none⟩).isSome = true) {b' t : Nat} {v : Value} (hv : w.cell? ⟨b', t, none⟩ = some v) : ∃ v', (w.setCells b o vs).cell? ⟨b', t, none⟩ = some v' := by
  by_cases hc : b' = b ∧ o ≤ t ∧ t < o + vs.length
  · obtain ⟨rfl, h1, h2⟩ := hc
    have := sc_in (w := w) h (List.getElem?_eq_getElem (show t - o < vs.length by omega))
    rw [show o + (t - o) = t by omega] at this
    exact ⟨_, this⟩
  · exact ⟨v, by rw [sc_out (fun e => by omega)]; exact hv⟩
end

def insIns (es : Tys) (ms : List Md) : List Grp := [⟨.c, .cons (.sl es) .nil, [.own ms]⟩, ⟨.c, .cons (.int .i64) .nil, []⟩, ⟨.c, .cons (.sl es) .nil, [.own ms]⟩]
def insOuts (es : Tys) (ms : List Md) : List Grp := [⟨.c, .cons (.sl es) .nil, [.own ms]⟩]
def insCon (es : Tys) (ms : List Md) (bts : Nat) : Con := ⟨insIns es ms, insOuts es ms, insF es bts⟩

theorem cell_shape {w : World} {b t : Nat} {v : Value} (h : w.cell? ⟨b, t, none⟩ = some v) : ∃ tA kA, w.shape? b = some (tA, kA) ∧ t < kA := by
  unfold World.cell? at h
  unfold World.shape?
  split at h
  · rename_i c e f hq
    simp at h
    have hq : w.heap[b]? = some (.cells c e f) := hq
    rw [hq]
    exact ⟨_, _, rfl, (Array.getElem?_eq_some_iff.1 h).1⟩
  · cases h

section
variable {P : Program} {ρ : Ren} {nm : String} {N bts : Nat} {z : Value} {es : Tys} {ms : List Md}

theorem ins_calls (L : InsL P ρ nm es.len bts z) (hpos : 0 < es.len) (hzc : z.cells.size = es.len) {w : World} {o : Nat → Nat → Own} {xs vs : List es.D} {i : Int} {sv vv : Value}
    (hs : (Ty.sl es).H P w o (.own ms) (.o [1]) xs sv) (hv : (Ty.sl es).H P w o (.own ms) (.o [129]) vs vv) (hw : Wf w o) (hc : (iLe 0 i && (iLe i (xs.length : Int) && room (xs.length + vs.length) bts)) = true) :
    Calls P (ρ.f 22) #[sv, .int .i64 i, vv] w fun e w' => ∃ vs' o', e = .returned (retOf vs') ∧ vs'.length = numRes (insCon es ms bts) ∧ Fr w o w' o' ∧ Wf w' o' ∧
      OutsR P w' o' (insCon es ms bts).outs 0 ((lapp (xs.take i.toNat) (lapp vs (xs.drop i.toNat)), ()), ()) vs' (ioAddrs (insCon es ms bts).ins [sv, .int .i64 i, vv]) := by
    simp only [Bool.and_eq_true] at hc
    obtain ⟨c1, c2, c3⟩ := hc
    have c1 : 0 ≤ i := by simpa [iLe] using c1
    have c2 : i ≤ (xs.length : Int) := by simpa [iLe] using c2
    obtain ⟨k, rfl⟩ := Int.eq_ofNat_of_zero_le c1
    have hk : k ≤ xs.length := by omega
    simp only [Int.toNat_natCast]
    unfold room at c3
    simp only [decide_eq_true_eq] at c3
    obtain ⟨c3, c4⟩ := c3
    have hbig : (xs.length + vs.length) * bts ≤ 140737488355328 := by omega
    have hsm : xs.length + vs.length ≤ 70368744177664 := Nat.le_trans (Nat.le_mul_of_pos_right _ c4) c3
    obtain ⟨sa, sc, rfl, hsl, hsc⟩ := H_own.1 hs
    obtain ⟨va, vc, rfl, hvl, hvc⟩ := H_own.1 hv
    -- how it ends
    have done : ∀ {e : Ending} {w' : World} {b : Option Addr} {n c : Nat}, e = .returned (.slice b n c) → (∃ o', Fr w o w' o' ∧ Wf w' o' ∧ (Ty.sl es).H P w' o' (.own ms) (.o [1]) (lapp (xs.take k) (lapp vs (xs.drop k))) (.slice b n c)) →
        ∃ vs' o', e = .returned (retOf vs') ∧ vs'.length = numRes (insCon es ms bts) ∧ Fr w o w' o' ∧ Wf w' o' ∧ OutsR P w' o' (insCon es ms bts).outs 0 ((lapp (xs.take k) (lapp vs (xs.drop k)), ()), ()) vs' (ioAddrs (insCon es ms bts).ins [.slice sa xs.length sc, .int .i64 k, .slice va vs.length vc]) := by
      rintro e w' b n c rfl ⟨o', h1, h2, h3⟩
      exact ⟨[.slice b n c], o', rfl, rfl, h1, h2, ⟨_, [], rfl, h3, rfl⟩, rfl, rfl⟩
    by_cases hm : vs = []
    · subst hm
      refine Calls.mono (ins_none L sa xs.length sc k vc va w hk hsl (fun e => ?_)) fun e w' he => ?_
      · rcases hsc with ⟨h1, h2⟩ | ⟨ad, h1, _⟩
        · subst h1; exact ⟨by simpa using hk, h2⟩
        · rw [e] at h1; cases h1
      · obtain ⟨he, rfl⟩ := he
        refine done he ⟨o, Fr.refl _ _, hw, ?_⟩
        have : lapp (xs.take k) (lapp ([] : List es.D) (xs.drop k)) = xs := List.take_append_drop k xs
        rw [this]
        exact hs
    · have hmp : 0 < vs.length := List.length_pos_iff.2 hm
      rcases hvc with ⟨h1, _⟩ | ⟨vad, rfl, hvs, hvo, hve⟩
      · exact absurd h1 hm
      obtain ⟨vb, voff, vsp⟩ := vad
      have hvsp : vsp = none := hvs.1
      subst hvsp
      obtain ⟨news, n1, n2, n3, n4⟩ := row_vals (qf := fun i j => .o ([129] ++ [i, j])) vs voff 0 (by simpa using hve)
      have n4' : ∀ j x, getN vs j = some x → es.Vs P w o ms (fun q => .o [129, j, q]) 0 x ((news.drop (j * es.len)).take es.len) := fun j x hx => by have := n4 j x hx; rwa [Nat.zero_add] at this
      have h1v : ∀ v ∈ news, v.oneCell' = true := fun v hv => cellish_one (n3 v hv)
      have hmN : 0 < vs.length * es.len := Nat.mul_pos hmp hpos
      -- a new row
      have fresh : ∀ {olds : List Value} {w1 : World} {row : Array Value} {G : Nat} {t9 : TypeId}, olds.length = xs.length * es.len → (∀ j x, getN xs j = some x → es.Vs P w o ms (fun q => .o [1, j, q]) 0 x ((olds.drop (j * es.len)).take es.len)) →
          xs.length + vs.length ≤ G → G ≤ 9223372036854775807 → (∀ b t v, w.cell? ⟨b, t, none⟩ = some v → w1.cell? ⟨b, t, none⟩ = some v) → (∀ t v, (olds.take (k * es.len) ++ (news ++ olds.drop (k * es.len)))[t]? = some v → w1.cell? ⟨w.heap.size, t, none⟩ = some v) →
          (∀ t, t < G * es.len → ∃ v, w1.cell? ⟨w.heap.size, t, none⟩ = some v) → (∀ j, w1.frozen? ⟨w.heap.size, j, none⟩ = false) → w1.os = w.os → w1.tape = w.tape → w1.output = w.output → w.heap.size ≤ w1.heap.size → (∀ b, b < w.heap.size → w1.heap[b]? = w.heap[b]?) →
          (∀ b j, b < w.heap.size → w1.frozen? ⟨b, j, none⟩ = w.frozen? ⟨b, j, none⟩) → ∃ o', Fr w o w1 o' ∧ Wf w1 o' ∧ (Ty.sl es).H P w1 o' (.own ms) (.o [1]) (lapp (xs.take k) (lapp vs (xs.drop k))) (.slice (some ⟨w.heap.size, 0, none⟩) (xs.length + vs.length) G) :=
        fun {olds w1 row G t9} f1 f2 f3 f3b f4 f5 f6 f7 f8 f9 f10 f11 f12 f13 =>
          ins_core (B := w.heap.size) (O := 0) hk hw f1 n1 f2 n4' (fun t v h => by rw [Nat.zero_add]; exact f5 t v h) (fun t h => by rw [Nat.zero_add]; exact f6 t h) f7 f3 f3b (fun b t v h _ => f4 b t v h)
            (fun b t v h hb => by have := cell_lt h; omega) f8 f9 f10 f11 (fun b h _ => f12 b h) (fun h => by omega) (fun b t v h => ⟨v, f4 b t v h⟩) f13
      have hal : ∀ {row : Array Value} {t9 : TypeId} (b t : Nat) (v : Value), w.cell? ⟨b, t, none⟩ = some v → (w.drew.alloc (.cells row t9)).cell? ⟨b, t, none⟩ = some v := fun b t v h => by
        rw [World.cell?_alloc_past (w := w.drew) _ b t (cell_lt h)]; exact h
      rcases hsc with ⟨h1, h2⟩ | ⟨sad, rfl, hss, hso, hse⟩
      · -- an empty row
        subst h1; subst h2
        have hk0 : k = 0 := by simpa using hk
        subst hk0
        refine Calls.mono (ins_end_grow L sa 0 0 vb voff vs.length vc [] news w hmp (Nat.le_refl _) (by omega) (by simp at hsm ⊢; omega) (by simpa using hbig) (by simp) n1 (fun _ => rfl) (fun _ _ j v h => by simp at h) (fun j v h => (n2 j v h).1) h1v) fun e w' he => ?_
        obtain ⟨he, rfl⟩ := he
        refine done he (fresh (olds := []) (row := #[]) (t9 := 0) (by simp) (fun j x h => by simp [getN] at h) (by simpa using grownCap_ge w _ _ _) (by have := grownCap_le_maxLen w (0 + vs.length) 0 (ρ.t 9) (by unfold maxLen; simp at hsm; omega); unfold maxLen at this; omega) hal (fun t v h => ?_) (fun t h => ?_) (fun j => ?_) rfl rfl rfl (by simp) (fun b h => ?_) (fun b j h => ?_))
        · rw [World.cell?_alloc_at (w := w.drew) _ _ w.heap.size t rfl]
          simp at h
          rw [Array.getElem?_append_left (by simpa using (List.getElem?_eq_some_iff.1 h).1)]
          simpa using h
        · rw [World.cell?_alloc_at (w := w.drew) _ _ w.heap.size t rfl]
          refine ⟨_, Array.getElem?_eq_getElem ?_⟩
          have hg := grownCap_ge w (0 + vs.length) 0 (ρ.t 9)
          simp only [Array.size_append, List.size_toArray, Builtin.zeroCells, Array.size_map, Array.size_range, hzc, List.nil_append, n1]
          rw [← Nat.add_mul]
          have : vs.length + (grownCap w (0 + vs.length) 0 (ρ.t 9) - (0 + vs.length)) = grownCap w (0 + vs.length) 0 (ρ.t 9) := by omega
          rw [this]; exact h
        · exact World.frozen?_alloc_at (w := w.drew) _ _ w.heap.size j rfl
        · simp only [World.alloc, Array.getElem?_push]
          rw [if_neg (by show ¬ b = w.heap.size; omega)]; rfl
        · exact World.frozen?_alloc_old w.drew _ ⟨b, j, none⟩ (by show b ≠ w.heap.size; omega)
      · obtain ⟨sb, soff, ssp⟩ := sad
        have hssp : ssp = none := hss.1
        subst hssp
        have hc63 : sc ≤ 9223372036854775807 := hss.2
        obtain ⟨olds, l1, l2, l3, l4⟩ := row_vals (qf := fun i j => .o ([1] ++ [i, j])) xs soff 0 (by simpa using hse)
        have l4' : ∀ j x, getN xs j = some x → es.Vs P w o ms (fun q => .o [1, j, q]) 0 x ((olds.drop (j * es.len)).take es.len) := fun j x hx => by have := l4 j x hx; rwa [Nat.zero_add] at this
        have h1c : ∀ v ∈ olds, v.oneCell' = true := fun v hv => cellish_one (l3 v hv)
        have hso : ∀ t, t < sc * es.len → o sb (soff + t) = .o [1] := hso
        have hvo : ∀ t, t < vc * es.len → o vb (voff + t) = .o [129] := hvo
        have hkn : k * es.len ≤ xs.length * es.len := Nat.mul_le_mul_right _ hk
        by_cases hroom : xs.length + vs.length ≤ sc
        · -- in place
          have hmul : (xs.length + vs.length) * es.len ≤ sc * es.len := Nat.mul_le_mul_right _ hroom
          have hmul2 : xs.length * es.len + vs.length * es.len = (xs.length + vs.length) * es.len := (Nat.add_mul _ _ _).symm
          have hex : ∀ t, t < sc * es.len → (w.cell? ⟨sb, soff + t, none⟩).isSome = true := fun t ht => by
            obtain ⟨⟨u, hu⟩, _⟩ := hw.cell _ _ _ (hso t ht)
            rw [hu]; rfl
          have hfzs : ∀ j, w.frozen? ⟨sb, j, none⟩ = false := (hw.cell _ _ _ (hso 0 (by omega))).2
          have inp : ∀ {w1 : World}, (∀ t v, (olds.take (k * es.len) ++ (news ++ olds.drop (k * es.len)))[t]? = some v → w1.cell? ⟨sb, soff + t, none⟩ = some v) → (∀ b t v, w.cell? ⟨b, t, none⟩ = some v → ¬ (b = sb ∧ soff ≤ t ∧ t < soff + sc * es.len) → w1.cell? ⟨b, t, none⟩ = some v) →
              (∀ b t v, w.cell? ⟨b, t, none⟩ = some v → ∃ v', w1.cell? ⟨b, t, none⟩ = some v') → w1.os = w.os → w1.tape = w.tape → w1.output = w.output → w1.heap.size = w.heap.size → (∀ b, b ≠ sb → w1.heap[b]? = w.heap[b]?) → (∀ b j, w1.frozen? ⟨b, j, none⟩ = w.frozen? ⟨b, j, none⟩) →
              ∃ o', Fr w o w1 o' ∧ Wf w1 o' ∧ (Ty.sl es).H P w1 o' (.own ms) (.o [1]) (lapp (xs.take k) (lapp vs (xs.drop k))) (.slice (some ⟨sb, soff, none⟩) (xs.length + vs.length) sc) := fun {w1} f1 f2 f3 f4 f5 f6 f7 f8 f9 =>
            ins_core (B := sb) (O := soff) hk hw l1 n1 l4' n4' f1 (fun t ht => by
              obtain ⟨u, hu⟩ := Option.isSome_iff_exists.1 (hex t ht)
              exact f3 _ _ _ hu) (fun j => by rw [f9]; exact hfzs j) hroom hc63 f2 (fun b t v _ hb => by
                obtain ⟨rfl, h5, h6⟩ := hb
                have := hso (t - soff) (by omega)
                rwa [show soff + (t - soff) = t by omega] at this) f4 f5 f6 (by omega) (fun b _ hb => f8 b hb) (fun _ => ⟨soff + 0, hso 0 (by omega)⟩) f3 (fun b j _ => f9 b j)
          by_cases hend : k = xs.length
          · subst hend
            have hexn : ∀ j, j < news.length → (w.cell? ⟨sb, soff + xs.length * es.len + j, none⟩).isSome = true := fun j hj => by rw [Nat.add_assoc]; exact hex _ (by omega)
            refine Calls.mono (ins_end_room L sb soff xs.length sc vb voff vs.length vc news w hmp hroom hc63 n1 (fun j hj => hexn j (by omega)) (fun j _ => hfzs _) (fun j v h => (n2 j v h).1) h1v) fun e w' he => ?_
            obtain ⟨he, rfl⟩ := he
            obtain ⟨g1, g2, g3, g4, g5⟩ := setCells_facts sb news (soff + xs.length * es.len) w
            refine done he (inp (fun t v h => ?_) (fun b t v h hn => ?_) (fun b t v h => sc_some hexn h) g1 g2 g3 g4 g5 (fun b j => World.frozen?_setCells _ _ _ _ _))
            · rw [List.take_of_length_le (by omega), List.drop_eq_nil_of_le (by omega), List.append_nil] at h
              by_cases hlt : t < olds.length
              · rw [List.getElem?_append_left hlt] at h
                rw [sc_out (fun _ => by omega)]
                exact (l2 t v h).1
              · rw [List.getElem?_append_right (by omega)] at h
                have := sc_in (w := w) (b := sb) (o := soff + xs.length * es.len) hexn h
                rwa [show soff + xs.length * es.len + (t - olds.length) = soff + t by omega] at this
            · rw [sc_out (fun e => by
                by_cases h5 : t < soff + xs.length * es.len
                · exact .inl h5
                · right
                  by_cases h6 : t < soff + xs.length * es.len + news.length
                  · exact absurd ⟨e, by omega, by omega⟩ hn
                  · omega)]
              exact h
          · have hklt : k < xs.length := by omega
            have hkm : (k + vs.length) * es.len = k * es.len + vs.length * es.len := Nat.add_mul _ _ _
            have hkm2 : (k + vs.length) * es.len ≤ (xs.length + vs.length) * es.len := Nat.mul_le_mul_right _ (by omega)
            obtain ⟨tA, kA, hsa, hlA⟩ := cell_shape (n2 0 _ (List.getElem?_eq_getElem (by omega))).1
            obtain ⟨u0, hu0⟩ := Option.isSome_iff_exists.1 (hex 0 (by omega))
            obtain ⟨tB, kB, hsb, hlB⟩ := cell_shape hu0
            have hfzv : ∀ j, w.frozen? ⟨vb, j, none⟩ = false := (hw.cell _ _ _ (hvo 0 (by
              have : vs.length * es.len ≤ vc * es.len := Nat.mul_le_mul_right _ hvl
              omega))).2
            have hdis : vb ≠ sb ∨ voff + vs.length * es.len ≤ soff ∨ soff + sc * es.len ≤ voff := by
              by_cases hbb : vb = sb
              · right
                have hvm : vs.length * es.len ≤ vc * es.len := Nat.mul_le_mul_right _ hvl
                by_cases h5 : voff + vs.length * es.len ≤ soff
                · exact .inl h5
                · right
                  by_cases h6 : soff + sc * es.len ≤ voff
                  · exact h6
                  · exfalso
                    subst hbb
                    by_cases h7 : soff ≤ voff
                    · have q1 := hso (voff - soff) (by omega)
                      have q2 := hvo 0 (by omega)
                      rw [show soff + (voff - soff) = voff + 0 by omega] at q1
                      rw [q1] at q2; cases q2
                    · have q1 := hso 0 (by omega)
                      have q2 := hvo (soff - voff) (by omega)
                      rw [show voff + (soff - voff) = soff + 0 by omega] at q2
                      rw [q1] at q2; cases q2
              · exact .inl hbb
            have hdl : (olds.drop (k * es.len)).length = xs.length * es.len - k * es.len := by rw [List.length_drop, l1]
            have hx1 : ∀ j, j < (olds.drop (k * es.len)).length → (w.drew.cell? ⟨sb, soff + (k + vs.length) * es.len + j, none⟩).isSome = true := fun j hj => by rw [Nat.add_assoc]; exact hex _ (by omega)
            have hx2 : ∀ j, j < news.length → ((w.drew.setCells sb (soff + (k + vs.length) * es.len) (olds.drop (k * es.len))).cell? ⟨sb, soff + k * es.len + j, none⟩).isSome = true := fun j hj => by
              obtain ⟨u, hu⟩ := Option.isSome_iff_exists.1 (hex (k * es.len + j) (by omega))
              obtain ⟨u', hu'⟩ := sc_some (w := w.drew) hx1 hu
              rw [Nat.add_assoc, hu']; rfl
            refine Calls.mono (ins_shift L sb soff xs.length sc k vb voff vs.length vc olds news w hklt hmp hroom hc63 hdis l1 n1 (fun j v h => (l2 j v h).1) (fun j hj => hex j (by omega)) (fun j _ => hfzs _) (fun j v h => (n2 j v h).1) h1c h1v tA tB kA kB hsa hsb (by omega) (hfzv _) (hfzv _)) fun e w' he => ?_
            obtain ⟨he, rfl⟩ := he
            obtain ⟨g1, g2, g3, g4, g5⟩ := setCells_facts sb (olds.drop (k * es.len)) (soff + (k + vs.length) * es.len) w.drew
            obtain ⟨e1, e2, e3, e4, e5⟩ := setCells_facts sb news (soff + k * es.len) (w.drew.setCells sb (soff + (k + vs.length) * es.len) (olds.drop (k * es.len)))
            refine done he (inp (fun t v h => ?_) (fun b t v h hn => ?_) (fun b t v h => ?_) (e1.trans g1) (e2.trans g2) (e3.trans g3) (e4.trans g4) (fun b hb => (e5 b hb).trans (g5 b hb)) (fun b j => by rw [World.frozen?_setCells, World.frozen?_setCells]; rfl))
            · have hmin : (olds.take (k * es.len)).length = k * es.len := by rw [List.length_take]; omega
              by_cases hlt : t < k * es.len
              · rw [List.getElem?_append_left (by omega), List.getElem?_take, if_pos hlt] at h
                rw [sc_out (fun _ => by omega), sc_out (fun _ => by omega)]
                exact (l2 t v h).1
              · rw [List.getElem?_append_right (by omega), hmin] at h
                by_cases hlt2 : t - k * es.len < news.length
                · rw [List.getElem?_append_left hlt2] at h
                  have := sc_in hx2 h
                  rwa [show soff + k * es.len + (t - k * es.len) = soff + t by omega] at this
                · rw [List.getElem?_append_right (by omega)] at h
                  rw [sc_out (fun _ => by omega)]
                  have := sc_in hx1 h
                  rwa [show soff + (k + vs.length) * es.len + (t - k * es.len - news.length) = soff + t by omega] at this
            · rw [sc_out (fun e => ?_), sc_out (fun e => ?_)]
              · exact h
              · by_cases h5 : soff ≤ t ∧ t < soff + sc * es.len
                · exact absurd ⟨e, h5.1, h5.2⟩ hn
                · omega
              · by_cases h5 : soff ≤ t ∧ t < soff + sc * es.len
                · exact absurd ⟨e, h5.1, h5.2⟩ hn
                · omega
            · obtain ⟨u, hu⟩ := sc_some (w := w.drew) hx1 h
              exact sc_some hx2 hu
        · -- no room
          have hgr : sc < xs.length + vs.length := by omega
          have hG := grownCap_ge w (xs.length + vs.length) sc (ρ.t 9)
          have hGb : grownCap w (xs.length + vs.length) sc (ρ.t 9) ≤ 9223372036854775807 := by
            have := grownCap_le_maxLen w (xs.length + vs.length) sc (ρ.t 9) (by unfold maxLen; omega)
            unfold maxLen at this
            omega
          by_cases hend : k = xs.length
          · subst hend
            refine Calls.mono (ins_end_grow L (some ⟨sb, soff, none⟩) xs.length sc vb voff vs.length vc olds news w hmp hsl hgr (by omega) hbig l1 n1 (fun e => by cases e) (fun a e j v h => by cases e; rw [add_none rfl]; exact (l2 j v h).1) (fun j v h => (n2 j v h).1) h1v) fun e w' he => ?_
            obtain ⟨he, rfl⟩ := he
            refine done he (fresh (olds := olds) (row := #[]) (t9 := 0) l1 l4' hG hGb hal (fun t v h => ?_) (fun t h => ?_) (fun j => ?_) rfl rfl rfl (by simp) (fun b h => ?_) (fun b j h => ?_))
            · rw [List.take_of_length_le (by omega), List.drop_eq_nil_of_le (by omega), List.append_nil] at h
              rw [World.cell?_alloc_at (w := w.drew) _ _ w.heap.size t rfl]
              rw [Array.getElem?_append_left (by simpa using (List.getElem?_eq_some_iff.1 h).1)]
              simpa using h
            · rw [World.cell?_alloc_at (w := w.drew) _ _ w.heap.size t rfl]
              refine ⟨_, Array.getElem?_eq_getElem ?_⟩
              simp only [Array.size_append, List.size_toArray, List.length_append, Builtin.zeroCells, Array.size_map, Array.size_range, hzc, n1, l1]
              rw [← Nat.add_mul, ← Nat.add_mul]
              have : xs.length + vs.length + (grownCap w (xs.length + vs.length) sc (ρ.t 9) - (xs.length + vs.length)) = grownCap w (xs.length + vs.length) sc (ρ.t 9) := by omega
              rw [this]; exact h
            · exact World.frozen?_alloc_at (w := w.drew) _ _ w.heap.size j rfl
            · simp only [World.alloc, Array.getElem?_push]
              rw [if_neg (by show ¬ b = w.heap.size; omega)]; rfl
            · exact World.frozen?_alloc_old w.drew _ ⟨b, j, none⟩ (by show b ≠ w.heap.size; omega)
          · have hklt : k < xs.length := by omega
            have hkm : (k + vs.length) * es.len = k * es.len + vs.length * es.len := Nat.add_mul _ _ _
            have hsum : k * es.len + (xs.length + vs.length - k) * es.len = (xs.length + vs.length) * es.len := by rw [← Nat.add_mul]; congr 1; omega
            have hsum2 : (k + vs.length) * es.len + (xs.length - k) * es.len = (xs.length + vs.length) * es.len := by rw [← Nat.add_mul]; congr 1; omega
            have hdl : (olds.drop (k * es.len)).length = (xs.length - k) * es.len := by rw [List.length_drop, l1, Nat.sub_mul]
            refine Calls.mono (ins_grow L hpos hzc sb soff xs.length sc k vb voff vs.length vc olds news w hklt hmp hsl hgr (by omega) hbig l1 n1 (fun j v h => (l2 j v h).1) (fun j v h => (n2 j v h).1) h1c h1v) fun e w' he => ?_
            obtain ⟨he, rfl⟩ := he
            generalize hROW : (olds.take (k * es.len)).toArray ++ Builtin.zeroCells z.cells (xs.length + vs.length - k) ++ Builtin.zeroCells z.cells (grownCap w (xs.length + vs.length) sc (ρ.t 9) - (xs.length + vs.length)) = ROW
            have hRS : ROW.size = grownCap w (xs.length + vs.length) sc (ρ.t 9) * es.len := by
              rw [← hROW]
              simp only [Array.size_append, List.size_toArray, List.length_take, Builtin.zeroCells, Array.size_map, Array.size_range, hzc, l1]
              rw [Nat.min_eq_left hkn, hsum, ← Nat.add_mul]
              congr 1; omega
            have hGN : (xs.length + vs.length) * es.len ≤ grownCap w (xs.length + vs.length) sc (ρ.t 9) * es.len := Nat.mul_le_mul_right _ hG
            obtain ⟨W0, hW0⟩ : ∃ W0, W0 = (w.alloc (.cells ROW (ρ.t 9))).drew := ⟨_, rfl⟩
            rw [← hW0]
            have c0 : ∀ t, t < ROW.size → W0.cell? ⟨w.heap.size, t, none⟩ = ROW[t]? := fun t ht => by rw [hW0]; exact World.cell?_alloc_at (w := w) ROW _ w.heap.size t rfl
            have a0 : ∀ b t v, w.cell? ⟨b, t, none⟩ = some v → W0.cell? ⟨b, t, none⟩ = some v := fun b t v h => by
              rw [hW0]
              show (w.alloc (.cells ROW (ρ.t 9))).cell? ⟨b, t, none⟩ = some v
              rw [World.cell?_alloc_past (w := w) _ b t (cell_lt h)]; exact h
            have hx1 : ∀ j, j < news.length → (W0.cell? ⟨w.heap.size, k * es.len + j, none⟩).isSome = true := fun j hj => by
              have hl : k * es.len + j < ROW.size := by omega
              rw [c0 _ hl, Array.getElem?_eq_getElem hl]; rfl
            obtain ⟨W1, hW1⟩ : ∃ W1, W1 = (W0.setCells w.heap.size (k * es.len) news).drew := ⟨_, rfl⟩
            rw [← hW1]
            have hx2 : ∀ j, j < (olds.drop (k * es.len)).length → (W1.cell? ⟨w.heap.size, (k + vs.length) * es.len + j, none⟩).isSome = true := fun j hj => by
              have hl : (k + vs.length) * es.len + j < ROW.size := by omega
              obtain ⟨u, hu⟩ := sc_some hx1 (w := W0) (t := (k + vs.length) * es.len + j) (b' := w.heap.size) (by rw [c0 _ hl, Array.getElem?_eq_getElem hl])
              rw [hW1]
              show ((W0.setCells w.heap.size (k * es.len) news).cell? _).isSome = true
              rw [hu]; rfl
            obtain ⟨g1, g2, g3, g4, g5⟩ := setCells_facts w.heap.size news (k * es.len) W0
            obtain ⟨e1, e2, e3, e4, e5⟩ := setCells_facts w.heap.size (olds.drop (k * es.len)) ((k + vs.length) * es.len) W1
            have k1 : ∀ {b t : Nat}, W1.cell? ⟨b, t, none⟩ = (W0.setCells w.heap.size (k * es.len) news).cell? ⟨b, t, none⟩ := by intro b t; rw [hW1]; rfl
            have z1 : W1.os = w.os := by rw [hW1]; show (W0.setCells w.heap.size (k * es.len) news).os = _; rw [g1, hW0]; rfl
            have z2 : W1.tape = w.tape := by rw [hW1]; show (W0.setCells w.heap.size (k * es.len) news).tape = _; rw [g2, hW0]; rfl
            have z3 : W1.output = w.output := by rw [hW1]; show (W0.setCells w.heap.size (k * es.len) news).output = _; rw [g3, hW0]; rfl
            have z4 : W1.heap.size = w.heap.size + 1 := by rw [hW1]; show (W0.setCells w.heap.size (k * es.len) news).heap.size = _; rw [g4, hW0]; show (w.alloc (.cells ROW (ρ.t 9))).heap.size = _; simp
            have z5 : ∀ b, b ≠ w.heap.size → W1.heap[b]? = w.heap[b]? := fun b hb => by
              rw [hW1]; show (W0.setCells w.heap.size (k * es.len) news).heap[b]? = _
              rw [g5 b hb, hW0]
              show (w.alloc (.cells ROW (ρ.t 9))).heap[b]? = _
              simp only [World.alloc, Array.getElem?_push]
              rw [if_neg hb]
            have z6 : ∀ b j, W1.frozen? ⟨b, j, none⟩ = (w.alloc (.cells ROW (ρ.t 9))).frozen? ⟨b, j, none⟩ := fun b j => by
              rw [hW1]; show (W0.setCells w.heap.size (k * es.len) news).frozen? _ = _
              rw [World.frozen?_setCells, hW0]; rfl
            refine done he (fresh (olds := olds) (row := #[]) (t9 := 0) l1 l4' hG hGb (fun b t v h => ?_) (fun t v h => ?_) (fun t h => ?_) (fun j => ?_) (e1.trans z1) (e2.trans z2) (e3.trans z3) (by omega) (fun b h => ?_) (fun b j h => ?_))
            · have hb := cell_lt h
              rw [sc_out (fun e => by omega), k1, sc_out (fun e => by omega)]
              exact a0 b t v h
            · have hmin : (olds.take (k * es.len)).length = k * es.len := by rw [List.length_take]; omega
              by_cases hlt : t < k * es.len
              · have h' := h
                rw [List.getElem?_append_left (by omega)] at h
                rw [sc_out (fun _ => by omega), k1, sc_out (fun _ => by omega), c0 t (by omega), ← hROW]
                rw [Array.getElem?_append_left (by simp only [Array.size_append, List.size_toArray]; omega), Array.getElem?_append_left (by simp only [List.size_toArray]; omega)]
                simpa using h
              · rw [List.getElem?_append_right (by omega), hmin] at h
                by_cases hlt2 : t - k * es.len < news.length
                · rw [List.getElem?_append_left hlt2] at h
                  rw [sc_out (fun _ => by omega), k1]
                  have := sc_in hx1 h
                  rwa [show k * es.len + (t - k * es.len) = t by omega] at this
                · rw [List.getElem?_append_right (by omega)] at h
                  have := sc_in hx2 h
                  rwa [show (k + vs.length) * es.len + (t - k * es.len - news.length) = t by omega] at this
            · have hl : t < ROW.size := by omega
              obtain ⟨u, hu⟩ := sc_some hx1 (w := W0) (t := t) (b' := w.heap.size) (by rw [c0 _ hl, Array.getElem?_eq_getElem hl])
              exact sc_some hx2 (by rw [k1]; exact hu)
            · rw [World.frozen?_setCells, z6]; exact World.frozen?_alloc_at (w := w) _ _ w.heap.size j rfl
            · rw [e5 b (by omega), z5 b (by omega)]
            · rw [World.frozen?_setCells, z6]; exact World.frozen?_alloc_old w _ ⟨b, j, none⟩ (by show b ≠ w.heap.size; omega)

theorem good_insert {N : Nat} (L : InsL P ρ nm N bts z) (hN : N = es.len) (hpos : 0 < N) (hzc : z.cells.size = N) : Good P (ρ.f 22) (insCon es ms bts) := by
  subst hN
  intro w o args x y hy ha hw
  obtain ⟨⟨xs, u1⟩, ⟨⟨i, u2⟩, ⟨⟨vs, u3⟩, u4⟩⟩⟩ := x
  obtain ⟨sv, r1, rfl, hs, iv, r2, rfl, hi, vv, r3, rfl, hv, hr⟩ := ha
  have hr : r3 = [] := hr
  subst hr
  obtain ⟨sv', q1, e1, hs, e2⟩ := hs
  cases e1
  obtain ⟨iv', q2, e1, hi, e2⟩ := hi
  cases e1
  obtain ⟨vv', q3, e1, hv, e2⟩ := hv
  cases e1
  have hi : iv = .int .i64 i := hi
  subst hi
  have hy : insF es bts ((xs, u1), ((i, u2), ((vs, u3), u4))) = some y := hy
  unfold insF at hy
  dsimp only at hy
  cases hc : (iLe 0 i && (iLe i (List.length (α := es.D) xs : Int) && room (List.length (α := es.D) xs + List.length (α := es.D) vs) bts)) with
  | false => rw [hc] at hy; cases hy
  | true =>
    rw [hc] at hy
    have hy := Option.some.inj hy
    subst hy
    exact ins_calls (ms := ms) L hpos hzc hs hv hw hc
end
end Go.Tm
