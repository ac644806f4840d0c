/- The marks that the laws put, and whether they stand. Conditions: none. -/
import Derived.Test.YtphaibffjdfhpaaGreatCF
import Derived.Test.YtphaibffjdfhpaaGreatTm4
namespace Go.Proofs.YtphaibffjdfhpaaGreat
open Go Go.Tm
set_option linter.unusedVariables false
set_option maxRecDepth 100000
noncomputable def mtW (k : Int) : ByteArray := match F110 ((k, ()), ()) with
  | some x => x.1.1
  | none => ⟨#[]⟩
theorem mquo10 {k : Int} (h : 0 < k) (h2 : k ≤ 9223372036854775807) : iQuo .i64 k 10 = k / 10 := by
  unfold iQuo
  rw [Int.tdiv_eq_ediv_of_nonneg (by omega)]
  exact wrap64 (by omega) (by omega)
theorem mtext_loop : ∀ (j : Nat) (k : Int) (s : ByteArray), k < 10 ^ j → k ≤ 9223372036854775807 → s.size + j ≤ 1000 → ∃ k' s', loopF F110.b0 (k, (s, ())) = some (.inl (k', (s', ()))) ∧ s'.size ≤ 1000
  | j, k, s, hj, hk, hs => by
    by_cases h0 : k ≤ 0
    · refine ⟨k, s, loopF_end ?_, by omega⟩
      unfold F110.b0
      exact lt_else h0 rfl
    · cases j with
      | zero => simp at hj; omega
      | succ j =>
        have hr : ∀ x : Tys.D tyBytes, sRoom (bytesStr [x]) s = true := fun x => by
          unfold sRoom; rw [show (bytesStr [x]).size = 1 from rfl]; exact decide_eq_true (by omega)
        have hlt : k / 10 < 10 ^ j := by rw [Int.pow_succ] at hj; omega
        have hstep : ∃ s2 : ByteArray, F110.b0 (k, (s, ())) = some (.inl (k / 10, (s2, ()))) ∧ s2.size = 1 + s.size := by
          refine ⟨sApp (bytesStr [(IntKind.wrap .u8 (iAdd .i64 (48:Int) (iRem k (10:Int))), ())]) s, ?_, ?_⟩
          · unfold F110.b0
            dsimp only
            rw [iLt_true (by omega), cond_true, show iEq (10:Int) 0 = false from rfl, cond_false, mquo10 (by omega) hk]
            exact (congrArg (fun b => bif b then _ else none) (hr _)).trans rfl
          · unfold sApp; rw [ByteArray.size_append]; exact congrArg (· + s.size) rfl
        obtain ⟨s2, h1, h2⟩ := hstep
        rw [loopF_step h1]
        exact mtext_loop j (k / 10) s2 hlt (by omega) (by omega)
theorem mtW_ok {k : Int} (h : 1 ≤ k) (h2 : k ≤ bigM) : F110 ((k, ()), ()) = some ((mtW k, ()), ()) := by
  unfold bigM at h2
  obtain ⟨k', s', h3, h4⟩ := mtext_loop 19 k ⟨#[]⟩ (by omega) (by omega) (by decide)
  have : ∃ v, F110 ((k, ()), ()) = some ((v, ()), ()) := by
    refine ⟨sApp ⟨#[109]⟩ s', ?_⟩
    unfold F110
    dsimp only
    rw [show iLe k 0 = false from decide_eq_false (by omega), cond_false]
    refine bind_eq h3 ?_
    dsimp only [Sum.elim_inl]
    rw [show sRoom ⟨#[109]⟩ s' = true from decide_eq_true (by show 1 + s'.size ≤ _; omega), cond_true]
    try rfl
  obtain ⟨v, hv⟩ := this
  unfold mtW
  rw [hv]
  try rfl
theorem dn {k : Int} {c : Nat} (h : k + ((c : Nat) : Int) ≤ bigM) : k ≤ bigM := by omega
theorem upn {k : Int} {c : Nat} (h : 1 ≤ k) : 1 ≤ k + ((c : Nat) : Int) := by omega
theorem le1 {k : Int} (h : 1 ≤ k) : 0 ≤ k := by omega
theorem asE {k : Int} {a b : Nat} : k + ((a + b : Nat) : Int) = k + ((a : Nat) : Int) + ((b : Nat) : Int) := by omega
theorem mk179 (xs : List (Tys.D e248)) (k : Int) (hk : 1 ≤ k) (hb : k + ((sumW (fun x => e248.ct x) xs : Nat) : Int) ≤ bigM) (hx : (Ty.sl e248).Ok xs) : F179 ((xs, ()), ((k, ()), ())) = some ((k + ((sumW (fun x => e248.ct x) xs : Nat) : Int), ()), ((markL (fun x => e248.ct x) (fun k x => e248.mt mtW k x) xs k, ()), ())) := by
  have hl : xs.length ≤ 9223372036854775807 := hx.1
  have lp := loopMarkP (fun y => e248.Ok y) (S := Int × (Int × (List (Tys.D e248) × Unit))) (f := F179.b0) (fun x => e248.ct x) (fun k x => e248.mt mtW k x) (fun k i ys => (k, (i, (ys, ())))) (fun k ys => Sum.inl (k, ((ys.length : Int), (ys, ())))) bigM xs (fun y hy => Ok_mem hx.2 hy) (fun i ys hi k hyl hpr h1 h2 => ?_) (fun k ys => ?_) k hk hb
  · unfold F179
    exact bind_eq lp rfl
  · unfold F179.b0
    have z0 : k + ((e248.ct ys[i] : Nat) : Int) = k + ((e248.ct ys[i] : Nat) : Int) := rfl
    have q0 : k + ((e248.ct ys[i] : Nat) : Int) ≤ bigM := h2
    have p0 : 1 ≤ k := h1
    have u0 : k = k := rfl
    have z1 := z0.trans (asE (k := k) (a := 1) (b := Tys.ct _ (ys[i].2)))
    have q1 := Int.le_trans (Int.le_of_eq z1.symm) h2
    have p1 : 1 ≤ k + ((1 : Nat) : Int) := upn p0
    have u1 : iAdd .i64 (k) 1 = k + ((1 : Nat) : Int) := (congrArg (fun z => iAdd .i64 z 1) u0).trans (up1 (le1 p0) (dn q1))
    have z2 := z1.trans (asE (k := k + ((1 : Nat) : Int)) (a := 1) (b := Tys.ct _ (ys[i].2.2)))
    have q2 := Int.le_trans (Int.le_of_eq z2.symm) h2
    have p2 : 1 ≤ k + ((1 : Nat) : Int) + ((1 : Nat) : Int) := upn p1
    have u2 : iAdd .i64 (iAdd .i64 (k) 1) 1 = k + ((1 : Nat) : Int) + ((1 : Nat) : Int) := (congrArg (fun z => iAdd .i64 z 1) u1).trans (up1 (le1 p1) (dn q2))
    refine lt_then (Int.ofNat_lt.2 hi) ?_
    refine bind_eq (getI_lt hi) (bind_eq (getN_nat hi) ?_)
    refine bind_eq (getI_set hi) (bind_eq (getN_set hi) ?_)
    refine st3 (u2.trans ((Int.add_zero _).symm.trans z2.symm)) (nx hi (by omega)) ?_
    refine (set_last (rfl)).trans ?_
    exact congrArg (List.set ys i) (Prod.ext u0 (Prod.ext u1 rfl))
  · unfold F179.b0
    exact lt_else (Int.le_refl _) rfl
theorem mk109 (xs : List (Tys.D e153)) (k : Int) (hk : 1 ≤ k) (hb : k + ((sumW (fun x => e153.ct x) xs : Nat) : Int) ≤ bigM) (hx : (Ty.sl e153).Ok xs) : F109 ((xs, ()), ((k, ()), ())) = some ((k + ((sumW (fun x => e153.ct x) xs : Nat) : Int), ()), ((markL (fun x => e153.ct x) (fun k x => e153.mt mtW k x) xs k, ()), ())) := by
  have hl : xs.length ≤ 9223372036854775807 := hx.1
  have lp := loopMarkP (fun y => e153.Ok y) (S := Int × (Int × (List (Tys.D e153) × Unit))) (f := F109.b0) (fun x => e153.ct x) (fun k x => e153.mt mtW k x) (fun k i ys => (k, (i, (ys, ())))) (fun k ys => Sum.inl (k, ((ys.length : Int), (ys, ())))) bigM xs (fun y hy => Ok_mem hx.2 hy) (fun i ys hi k hyl hpr h1 h2 => ?_) (fun k ys => ?_) k hk hb
  · unfold F109
    exact bind_eq lp rfl
  · unfold F109.b0
    have z0 : k + ((e153.ct ys[i] : Nat) : Int) = k + ((e153.ct ys[i] : Nat) : Int) := rfl
    have q0 : k + ((e153.ct ys[i] : Nat) : Int) ≤ bigM := h2
    have p0 : 1 ≤ k := h1
    have u0 : k = k := rfl
    have z1 := z0.trans (asE (k := k) (a := 1) (b := Tys.ct _ (ys[i].2)))
    have q1 := Int.le_trans (Int.le_of_eq z1.symm) h2
    have p1 : 1 ≤ k + ((1 : Nat) : Int) := upn p0
    have u1 : iAdd .i64 (k) 1 = k + ((1 : Nat) : Int) := (congrArg (fun z => iAdd .i64 z 1) u0).trans (up1 (le1 p0) (dn q1))
    have z2 := z1.trans (asE (k := k + ((1 : Nat) : Int)) (a := 1) (b := Tys.ct _ (ys[i].2.2)))
    have q2 := Int.le_trans (Int.le_of_eq z2.symm) h2
    have p2 : 1 ≤ k + ((1 : Nat) : Int) + ((1 : Nat) : Int) := upn p1
    have u2 : iAdd .i64 (iAdd .i64 (k) 1) 1 = k + ((1 : Nat) : Int) + ((1 : Nat) : Int) := (congrArg (fun z => iAdd .i64 z 1) u1).trans (up1 (le1 p1) (dn q2))
    have z3 := z2.trans (asE (k := k + ((1 : Nat) : Int) + ((1 : Nat) : Int)) (a := 1) (b := Tys.ct _ (ys[i].2.2.2)))
    have q3 := Int.le_trans (Int.le_of_eq z3.symm) h2
    have p3 : 1 ≤ k + ((1 : Nat) : Int) + ((1 : Nat) : Int) + ((1 : Nat) : Int) := upn p2
    have u3 : iAdd .i64 (iAdd .i64 (iAdd .i64 (k) 1) 1) 1 = k + ((1 : Nat) : Int) + ((1 : Nat) : Int) + ((1 : Nat) : Int) := (congrArg (fun z => iAdd .i64 z 1) u2).trans (up1 (le1 p2) (dn q3))
    have z4 := z3.trans (asE (k := k + ((1 : Nat) : Int) + ((1 : Nat) : Int) + ((1 : Nat) : Int)) (a := 1) (b := Tys.ct _ (ys[i].2.2.2.2)))
    have q4 := Int.le_trans (Int.le_of_eq z4.symm) h2
    have p4 : 1 ≤ k + ((1 : Nat) : Int) + ((1 : Nat) : Int) + ((1 : Nat) : Int) + ((1 : Nat) : Int) := upn p3
    have u4 : iAdd .i64 (iAdd .i64 (iAdd .i64 (iAdd .i64 (k) 1) 1) 1) 1 = k + ((1 : Nat) : Int) + ((1 : Nat) : Int) + ((1 : Nat) : Int) + ((1 : Nat) : Int) := (congrArg (fun z => iAdd .i64 z 1) u3).trans (up1 (le1 p3) (dn q4))
    have z5 := z4.trans (asE (k := k + ((1 : Nat) : Int) + ((1 : Nat) : Int) + ((1 : Nat) : Int) + ((1 : Nat) : Int)) (a := sumW (fun x => e248.ct x) ys[i].2.2.2.2.1) (b := Tys.ct _ (ys[i].2.2.2.2.2)))
    have q5 := Int.le_trans (Int.le_of_eq z5.symm) h2
    have p5 : 1 ≤ k + ((1 : Nat) : Int) + ((1 : Nat) : Int) + ((1 : Nat) : Int) + ((1 : Nat) : Int) + ((sumW (fun x => e248.ct x) ys[i].2.2.2.2.1 : Nat) : Int) := upn p4
    have u5 : k + ((1 : Nat) : Int) + ((1 : Nat) : Int) + ((1 : Nat) : Int) + ((1 : Nat) : Int) + ((sumW (fun x => e248.ct x) ys[i].2.2.2.2.1 : Nat) : Int) = k + ((1 : Nat) : Int) + ((1 : Nat) : Int) + ((1 : Nat) : Int) + ((1 : Nat) : Int) + ((sumW (fun x => e248.ct x) ys[i].2.2.2.2.1 : Nat) : Int) := rfl
    refine lt_then (Int.ofNat_lt.2 hi) ?_
    refine bind_eq ((congrArg (fun z => F110 ((z, ()), ())) u0).trans (mtW_ok p0 (dn q0))) ?_
    refine bind_eq (getI_lt hi) (bind_eq (getN_nat hi) ?_)
    refine bind_eq (getI_set hi) (bind_eq (getN_set hi) ?_)
    refine bind_eq (getI_set (len_set hi)) (bind_eq (getN_set (len_set hi)) ?_)
    refine bind_eq (getI_set (len_set (len_set hi))) (bind_eq (getN_set (len_set (len_set hi))) ?_)
    refine bind_eq (getI_set (len_set (len_set (len_set hi)))) (bind_eq (getN_set (len_set (len_set (len_set hi)))) ?_)
    refine bind_eq (getN_set (len_set (len_set (len_set hi)))) ?_
    refine bind_eq ((congrArg (fun z => F179 ((ys[i].2.2.2.2.1, ()), ((z, ()), ()))) u4).trans (mk179 ys[i].2.2.2.2.1 _ p4 (dn q5) hpr.2.2.2.2.1)) ?_
    refine st3 (u5.trans ((Int.add_zero _).symm.trans z5.symm)) (nx hi (by omega)) ?_
    refine (set_last (set_one.trans (set_one.trans (set_one)))).trans ?_
    exact congrArg (List.set ys i) (Prod.ext rfl (Prod.ext u1 (Prod.ext u2 (Prod.ext u3 (Prod.ext rfl rfl)))))
  · unfold F109.b0
    exact lt_else (Int.le_refl _) rfl
theorem mk71 (xs : List (Tys.D e188)) (k : Int) (hk : 1 ≤ k) (hb : k + ((sumW (fun x => e188.ct x) xs : Nat) : Int) ≤ bigM) (hx : (Ty.sl e188).Ok xs) : F71 ((xs, ()), ((k, ()), ())) = some ((k + ((sumW (fun x => e188.ct x) xs : Nat) : Int), ()), ((markL (fun x => e188.ct x) (fun k x => e188.mt mtW k x) xs k, ()), ())) := by
  have hl : xs.length ≤ 9223372036854775807 := hx.1
  have lp := loopMarkP (fun y => e188.Ok y) (S := Int × (Int × (List (Tys.D e188) × Unit))) (f := F71.b0) (fun x => e188.ct x) (fun k x => e188.mt mtW k x) (fun k i ys => (k, (i, (ys, ())))) (fun k ys => Sum.inl (k, ((ys.length : Int), (ys, ())))) bigM xs (fun y hy => Ok_mem hx.2 hy) (fun i ys hi k hyl hpr h1 h2 => ?_) (fun k ys => ?_) k hk hb
  · unfold F71
    exact bind_eq lp rfl
  · unfold F71.b0
    have z0 : k + ((e188.ct ys[i] : Nat) : Int) = k + ((e188.ct ys[i] : Nat) : Int) := rfl
    have q0 : k + ((e188.ct ys[i] : Nat) : Int) ≤ bigM := h2
    have p0 : 1 ≤ k := h1
    have u0 : k = k := rfl
    have z1 := z0.trans (asE (k := k) (a := 1) (b := Tys.ct _ (ys[i].2)))
    have q1 := Int.le_trans (Int.le_of_eq z1.symm) h2
    have p1 : 1 ≤ k + ((1 : Nat) : Int) := upn p0
    have u1 : iAdd .i64 (k) 1 = k + ((1 : Nat) : Int) := (congrArg (fun z => iAdd .i64 z 1) u0).trans (up1 (le1 p0) (dn q1))
    have z2 := z1.trans (asE (k := k + ((1 : Nat) : Int)) (a := 1) (b := Tys.ct _ (ys[i].2.2)))
    have q2 := Int.le_trans (Int.le_of_eq z2.symm) h2
    have p2 : 1 ≤ k + ((1 : Nat) : Int) + ((1 : Nat) : Int) := upn p1
    have u2 : iAdd .i64 (iAdd .i64 (k) 1) 1 = k + ((1 : Nat) : Int) + ((1 : Nat) : Int) := (congrArg (fun z => iAdd .i64 z 1) u1).trans (up1 (le1 p1) (dn q2))
    refine lt_then (Int.ofNat_lt.2 hi) ?_
    refine bind_eq ((congrArg (fun z => F110 ((z, ()), ())) u0).trans (mtW_ok p0 (dn q0))) ?_
    refine bind_eq (getI_lt hi) (bind_eq (getN_nat hi) ?_)
    refine bind_eq (getI_set hi) (bind_eq (getN_set hi) ?_)
    refine st3 (u2.trans ((Int.add_zero _).symm.trans z2.symm)) (nx hi (by omega)) ?_
    refine (set_last (rfl)).trans ?_
    exact congrArg (List.set ys i) (Prod.ext rfl (Prod.ext u1 rfl))
  · unfold F71.b0
    exact lt_else (Int.le_refl _) rfl
theorem mk31 (xs : List (Tys.D e9)) (k : Int) (hk : 1 ≤ k) (hb : k + ((sumW (fun x => e9.ct x) xs : Nat) : Int) ≤ bigM) (hx : (Ty.sl e9).Ok xs) : F31 ((xs, ()), ((k, ()), ())) = some ((k + ((sumW (fun x => e9.ct x) xs : Nat) : Int), ()), ((markL (fun x => e9.ct x) (fun k x => e9.mt mtW k x) xs k, ()), ())) := by
  have hl : xs.length ≤ 9223372036854775807 := hx.1
  have lp := loopMarkP (fun y => e9.Ok y) (S := Int × (Int × (List (Tys.D e9) × Unit))) (f := F31.b0) (fun x => e9.ct x) (fun k x => e9.mt mtW k x) (fun k i ys => (k, (i, (ys, ())))) (fun k ys => Sum.inl (k, ((ys.length : Int), (ys, ())))) bigM xs (fun y hy => Ok_mem hx.2 hy) (fun i ys hi k hyl hpr h1 h2 => ?_) (fun k ys => ?_) k hk hb
  · unfold F31
    exact bind_eq lp rfl
  · unfold F31.b0
    have z0 : k + ((e9.ct ys[i] : Nat) : Int) = k + ((e9.ct ys[i] : Nat) : Int) := rfl
    have q0 : k + ((e9.ct ys[i] : Nat) : Int) ≤ bigM := h2
    have p0 : 1 ≤ k := h1
    have u0 : k = k := rfl
    have z1 := z0.trans (asE (k := k) (a := 1) (b := Tys.ct _ (ys[i].2)))
    have q1 := Int.le_trans (Int.le_of_eq z1.symm) h2
    have p1 : 1 ≤ k + ((1 : Nat) : Int) := upn p0
    have u1 : iAdd .i64 (k) 1 = k + ((1 : Nat) : Int) := (congrArg (fun z => iAdd .i64 z 1) u0).trans (up1 (le1 p0) (dn q1))
    refine lt_then (Int.ofNat_lt.2 hi) ?_
    refine bind_eq ((congrArg (fun z => F110 ((z, ()), ())) u0).trans (mtW_ok p0 (dn q0))) ?_
    refine bind_eq (getI_lt hi) (bind_eq (getN_nat hi) ?_)
    refine st3 (u1.trans ((Int.add_zero _).symm.trans z1.symm)) (nx hi (by omega)) ?_
    refine set_nat.trans ?_
    exact congrArg (List.set ys i) (Prod.ext rfl rfl)
  · unfold F31.b0
    exact lt_else (Int.le_refl _) rfl
theorem mk77 (xs : List (Tys.D e3)) (k : Int) (hk : 1 ≤ k) (hb : k + ((sumW (fun x => e3.ct x) xs : Nat) : Int) ≤ bigM) (hx : (Ty.sl e3).Ok xs) : F77 ((xs, ()), ((k, ()), ())) = some ((k + ((sumW (fun x => e3.ct x) xs : Nat) : Int), ()), ((markL (fun x => e3.ct x) (fun k x => e3.mt mtW k x) xs k, ()), ())) := by
  have hl : xs.length ≤ 9223372036854775807 := hx.1
  have lp := loopMarkP (fun y => e3.Ok y) (S := Int × (Int × (List (Tys.D e3) × Unit))) (f := F77.b0) (fun x => e3.ct x) (fun k x => e3.mt mtW k x) (fun k i ys => (k, (i, (ys, ())))) (fun k ys => Sum.inl (k, ((ys.length : Int), (ys, ())))) bigM xs (fun y hy => Ok_mem hx.2 hy) (fun i ys hi k hyl hpr h1 h2 => ?_) (fun k ys => ?_) k hk hb
  · unfold F77
    exact bind_eq lp rfl
  · unfold F77.b0
    have z0 : k + ((e3.ct ys[i] : Nat) : Int) = k + ((e3.ct ys[i] : Nat) : Int) := rfl
    have q0 : k + ((e3.ct ys[i] : Nat) : Int) ≤ bigM := h2
    have p0 : 1 ≤ k := h1
    have u0 : k = k := rfl
    have z1 := z0.trans (asE (k := k) (a := 1) (b := Tys.ct _ (ys[i].2)))
    have q1 := Int.le_trans (Int.le_of_eq z1.symm) h2
    have p1 : 1 ≤ k + ((1 : Nat) : Int) := upn p0
    have u1 : iAdd .i64 (k) 1 = k + ((1 : Nat) : Int) := (congrArg (fun z => iAdd .i64 z 1) u0).trans (up1 (le1 p0) (dn q1))
    refine lt_then (Int.ofNat_lt.2 hi) ?_
    refine bind_eq (getI_lt hi) (bind_eq (getN_nat hi) ?_)
    refine st3 (u1.trans ((Int.add_zero _).symm.trans z1.symm)) (nx hi (by omega)) ?_
    refine set_nat.trans ?_
    exact congrArg (List.set ys i) (Prod.ext u0 rfl)
  · unfold F77.b0
    exact lt_else (Int.le_refl _) rfl
theorem mk78 (xs : List (Tys.D e195)) (k : Int) (hk : 1 ≤ k) (hb : k + ((sumW (fun x => e195.ct x) xs : Nat) : Int) ≤ bigM) (hx : (Ty.sl e195).Ok xs) : F78 ((xs, ()), ((k, ()), ())) = some ((k + ((sumW (fun x => e195.ct x) xs : Nat) : Int), ()), ((markL (fun x => e195.ct x) (fun k x => e195.mt mtW k x) xs k, ()), ())) := by
  have hl : xs.length ≤ 9223372036854775807 := hx.1
  have lp := loopMarkP (fun y => e195.Ok y) (S := Int × (Int × (List (Tys.D e195) × Unit))) (f := F78.b0) (fun x => e195.ct x) (fun k x => e195.mt mtW k x) (fun k i ys => (k, (i, (ys, ())))) (fun k ys => Sum.inl (k, ((ys.length : Int), (ys, ())))) bigM xs (fun y hy => Ok_mem hx.2 hy) (fun i ys hi k hyl hpr h1 h2 => ?_) (fun k ys => ?_) k hk hb
  · unfold F78
    exact bind_eq lp rfl
  · unfold F78.b0
    have z0 : k + ((e195.ct ys[i] : Nat) : Int) = k + ((e195.ct ys[i] : Nat) : Int) := rfl
    have q0 : k + ((e195.ct ys[i] : Nat) : Int) ≤ bigM := h2
    have p0 : 1 ≤ k := h1
    have u0 : k = k := rfl
    have z1 := z0.trans (asE (k := k) (a := 1) (b := Tys.ct _ (ys[i].2)))
    have q1 := Int.le_trans (Int.le_of_eq z1.symm) h2
    have p1 : 1 ≤ k + ((1 : Nat) : Int) := upn p0
    have u1 : iAdd .i64 (k) 1 = k + ((1 : Nat) : Int) := (congrArg (fun z => iAdd .i64 z 1) u0).trans (up1 (le1 p0) (dn q1))
    have z2 := z1.trans (asE (k := k + ((1 : Nat) : Int)) (a := 1) (b := Tys.ct _ (ys[i].2.2)))
    have q2 := Int.le_trans (Int.le_of_eq z2.symm) h2
    have p2 : 1 ≤ k + ((1 : Nat) : Int) + ((1 : Nat) : Int) := upn p1
    have u2 : iAdd .i64 (iAdd .i64 (k) 1) 1 = k + ((1 : Nat) : Int) + ((1 : Nat) : Int) := (congrArg (fun z => iAdd .i64 z 1) u1).trans (up1 (le1 p1) (dn q2))
    have z3 := z2.trans (asE (k := k + ((1 : Nat) : Int) + ((1 : Nat) : Int)) (a := 1) (b := Tys.ct _ (ys[i].2.2.2)))
    have q3 := Int.le_trans (Int.le_of_eq z3.symm) h2
    have p3 : 1 ≤ k + ((1 : Nat) : Int) + ((1 : Nat) : Int) + ((1 : Nat) : Int) := upn p2
    have u3 : iAdd .i64 (iAdd .i64 (iAdd .i64 (k) 1) 1) 1 = k + ((1 : Nat) : Int) + ((1 : Nat) : Int) + ((1 : Nat) : Int) := (congrArg (fun z => iAdd .i64 z 1) u2).trans (up1 (le1 p2) (dn q3))
    have z4 := z3.trans (asE (k := k + ((1 : Nat) : Int) + ((1 : Nat) : Int) + ((1 : Nat) : Int)) (a := 1) (b := Tys.ct _ (ys[i].2.2.2.2)))
    have q4 := Int.le_trans (Int.le_of_eq z4.symm) h2
    have p4 : 1 ≤ k + ((1 : Nat) : Int) + ((1 : Nat) : Int) + ((1 : Nat) : Int) + ((1 : Nat) : Int) := upn p3
    have u4 : iAdd .i64 (iAdd .i64 (iAdd .i64 (iAdd .i64 (k) 1) 1) 1) 1 = k + ((1 : Nat) : Int) + ((1 : Nat) : Int) + ((1 : Nat) : Int) + ((1 : Nat) : Int) := (congrArg (fun z => iAdd .i64 z 1) u3).trans (up1 (le1 p3) (dn q4))
    have z5 := z4.trans (asE (k := k + ((1 : Nat) : Int) + ((1 : Nat) : Int) + ((1 : Nat) : Int) + ((1 : Nat) : Int)) (a := 1) (b := Tys.ct _ (ys[i].2.2.2.2.2)))
    have q5 := Int.le_trans (Int.le_of_eq z5.symm) h2
    have p5 : 1 ≤ k + ((1 : Nat) : Int) + ((1 : Nat) : Int) + ((1 : Nat) : Int) + ((1 : Nat) : Int) + ((1 : Nat) : Int) := upn p4
    have u5 : iAdd .i64 (iAdd .i64 (iAdd .i64 (iAdd .i64 (iAdd .i64 (k) 1) 1) 1) 1) 1 = k + ((1 : Nat) : Int) + ((1 : Nat) : Int) + ((1 : Nat) : Int) + ((1 : Nat) : Int) + ((1 : Nat) : Int) := (congrArg (fun z => iAdd .i64 z 1) u4).trans (up1 (le1 p4) (dn q5))
    refine lt_then (Int.ofNat_lt.2 hi) ?_
    refine bind_eq (getI_lt hi) (bind_eq (getN_nat hi) ?_)
    refine bind_eq ((congrArg (fun z => F110 ((z, ()), ())) u1).trans (mtW_ok p1 (dn q1))) ?_
    refine bind_eq (getI_set hi) (bind_eq (getN_set hi) ?_)
    refine bind_eq ((congrArg (fun z => F110 ((z, ()), ())) u2).trans (mtW_ok p2 (dn q2))) ?_
    refine bind_eq (getI_set (len_set hi)) (bind_eq (getN_set (len_set hi)) ?_)
    refine bind_eq (getI_set (len_set (len_set hi))) (bind_eq (getN_set (len_set (len_set hi))) ?_)
    refine bind_eq (getI_set (len_set (len_set (len_set hi)))) (bind_eq (getN_set (len_set (len_set (len_set hi)))) ?_)
    refine st3 (u5.trans ((Int.add_zero _).symm.trans z5.symm)) (nx hi (by omega)) ?_
    refine (set_last (set_one.trans (set_one.trans (set_one)))).trans ?_
    exact congrArg (List.set ys i) (Prod.ext u0 (Prod.ext rfl (Prod.ext rfl (Prod.ext u3 (Prod.ext u4 rfl)))))
  · unfold F78.b0
    exact lt_else (Int.le_refl _) rfl
theorem mk72 (xs : List (Tys.D e138)) (k : Int) (hk : 1 ≤ k) (hb : k + ((sumW (fun x => e138.ct x) xs : Nat) : Int) ≤ bigM) (hx : (Ty.sl e138).Ok xs) : F72 ((xs, ()), ((k, ()), ())) = some ((k + ((sumW (fun x => e138.ct x) xs : Nat) : Int), ()), ((markL (fun x => e138.ct x) (fun k x => e138.mt mtW k x) xs k, ()), ())) := by
  have hl : xs.length ≤ 9223372036854775807 := hx.1
  have lp := loopMarkP (fun y => e138.Ok y) (S := Int × (Int × (List (Tys.D e138) × Unit))) (f := F72.b0) (fun x => e138.ct x) (fun k x => e138.mt mtW k x) (fun k i ys => (k, (i, (ys, ())))) (fun k ys => Sum.inl (k, ((ys.length : Int), (ys, ())))) bigM xs (fun y hy => Ok_mem hx.2 hy) (fun i ys hi k hyl hpr h1 h2 => ?_) (fun k ys => ?_) k hk hb
  · unfold F72
    exact bind_eq lp rfl
  · unfold F72.b0
    have z0 : k + ((e138.ct ys[i] : Nat) : Int) = k + ((e138.ct ys[i] : Nat) : Int) := rfl
    have q0 : k + ((e138.ct ys[i] : Nat) : Int) ≤ bigM := h2
    have p0 : 1 ≤ k := h1
    have u0 : k = k := rfl
    have z1 := z0.trans (asE (k := k) (a := 1) (b := Tys.ct _ (ys[i].2)))
    have q1 := Int.le_trans (Int.le_of_eq z1.symm) h2
    have p1 : 1 ≤ k + ((1 : Nat) : Int) := upn p0
    have u1 : iAdd .i64 (k) 1 = k + ((1 : Nat) : Int) := (congrArg (fun z => iAdd .i64 z 1) u0).trans (up1 (le1 p0) (dn q1))
    have z2 := z1.trans (asE (k := k + ((1 : Nat) : Int)) (a := 1) (b := Tys.ct _ (ys[i].2.2)))
    have q2 := Int.le_trans (Int.le_of_eq z2.symm) h2
    have p2 : 1 ≤ k + ((1 : Nat) : Int) + ((1 : Nat) : Int) := upn p1
    have u2 : iAdd .i64 (iAdd .i64 (k) 1) 1 = k + ((1 : Nat) : Int) + ((1 : Nat) : Int) := (congrArg (fun z => iAdd .i64 z 1) u1).trans (up1 (le1 p1) (dn q2))
    have z3 := z2.trans (asE (k := k + ((1 : Nat) : Int) + ((1 : Nat) : Int)) (a := 1) (b := Tys.ct _ (ys[i].2.2.2)))
    have q3 := Int.le_trans (Int.le_of_eq z3.symm) h2
    have p3 : 1 ≤ k + ((1 : Nat) : Int) + ((1 : Nat) : Int) + ((1 : Nat) : Int) := upn p2
    have u3 : iAdd .i64 (iAdd .i64 (iAdd .i64 (k) 1) 1) 1 = k + ((1 : Nat) : Int) + ((1 : Nat) : Int) + ((1 : Nat) : Int) := (congrArg (fun z => iAdd .i64 z 1) u2).trans (up1 (le1 p2) (dn q3))
    have z4 := z3.trans (asE (k := k + ((1 : Nat) : Int) + ((1 : Nat) : Int) + ((1 : Nat) : Int)) (a := 1) (b := Tys.ct _ (ys[i].2.2.2.2)))
    have q4 := Int.le_trans (Int.le_of_eq z4.symm) h2
    have p4 : 1 ≤ k + ((1 : Nat) : Int) + ((1 : Nat) : Int) + ((1 : Nat) : Int) + ((1 : Nat) : Int) := upn p3
    have u4 : iAdd .i64 (iAdd .i64 (iAdd .i64 (iAdd .i64 (k) 1) 1) 1) 1 = k + ((1 : Nat) : Int) + ((1 : Nat) : Int) + ((1 : Nat) : Int) + ((1 : Nat) : Int) := (congrArg (fun z => iAdd .i64 z 1) u3).trans (up1 (le1 p3) (dn q4))
    have z5 := z4.trans (asE (k := k + ((1 : Nat) : Int) + ((1 : Nat) : Int) + ((1 : Nat) : Int) + ((1 : Nat) : Int)) (a := 1) (b := Tys.ct _ (ys[i].2.2.2.2.2)))
    have q5 := Int.le_trans (Int.le_of_eq z5.symm) h2
    have p5 : 1 ≤ k + ((1 : Nat) : Int) + ((1 : Nat) : Int) + ((1 : Nat) : Int) + ((1 : Nat) : Int) + ((1 : Nat) : Int) := upn p4
    have u5 : iAdd .i64 (iAdd .i64 (iAdd .i64 (iAdd .i64 (iAdd .i64 (k) 1) 1) 1) 1) 1 = k + ((1 : Nat) : Int) + ((1 : Nat) : Int) + ((1 : Nat) : Int) + ((1 : Nat) : Int) + ((1 : Nat) : Int) := (congrArg (fun z => iAdd .i64 z 1) u4).trans (up1 (le1 p4) (dn q5))
    have z6 := z5.trans (asE (k := k + ((1 : Nat) : Int) + ((1 : Nat) : Int) + ((1 : Nat) : Int) + ((1 : Nat) : Int) + ((1 : Nat) : Int)) (a := 1) (b := Tys.ct _ (ys[i].2.2.2.2.2.2)))
    have q6 := Int.le_trans (Int.le_of_eq z6.symm) h2
    have p6 : 1 ≤ k + ((1 : Nat) : Int) + ((1 : Nat) : Int) + ((1 : Nat) : Int) + ((1 : Nat) : Int) + ((1 : Nat) : Int) + ((1 : Nat) : Int) := upn p5
    have u6 : iAdd .i64 (iAdd .i64 (iAdd .i64 (iAdd .i64 (iAdd .i64 (iAdd .i64 (k) 1) 1) 1) 1) 1) 1 = k + ((1 : Nat) : Int) + ((1 : Nat) : Int) + ((1 : Nat) : Int) + ((1 : Nat) : Int) + ((1 : Nat) : Int) + ((1 : Nat) : Int) := (congrArg (fun z => iAdd .i64 z 1) u5).trans (up1 (le1 p5) (dn q6))
    have z7 := z6.trans (asE (k := k + ((1 : Nat) : Int) + ((1 : Nat) : Int) + ((1 : Nat) : Int) + ((1 : Nat) : Int) + ((1 : Nat) : Int) + ((1 : Nat) : Int)) (a := sumW (fun x => e9.ct x) ys[i].2.2.2.2.2.2.1) (b := Tys.ct _ (ys[i].2.2.2.2.2.2.2)))
    have q7 := Int.le_trans (Int.le_of_eq z7.symm) h2
    have p7 : 1 ≤ k + ((1 : Nat) : Int) + ((1 : Nat) : Int) + ((1 : Nat) : Int) + ((1 : Nat) : Int) + ((1 : Nat) : Int) + ((1 : Nat) : Int) + ((sumW (fun x => e9.ct x) ys[i].2.2.2.2.2.2.1 : Nat) : Int) := upn p6
    have u7 : k + ((1 : Nat) : Int) + ((1 : Nat) : Int) + ((1 : Nat) : Int) + ((1 : Nat) : Int) + ((1 : Nat) : Int) + ((1 : Nat) : Int) + ((sumW (fun x => e9.ct x) ys[i].2.2.2.2.2.2.1 : Nat) : Int) = k + ((1 : Nat) : Int) + ((1 : Nat) : Int) + ((1 : Nat) : Int) + ((1 : Nat) : Int) + ((1 : Nat) : Int) + ((1 : Nat) : Int) + ((sumW (fun x => e9.ct x) ys[i].2.2.2.2.2.2.1 : Nat) : Int) := rfl
    have z8 := z7.trans (asE (k := k + ((1 : Nat) : Int) + ((1 : Nat) : Int) + ((1 : Nat) : Int) + ((1 : Nat) : Int) + ((1 : Nat) : Int) + ((1 : Nat) : Int) + ((sumW (fun x => e9.ct x) ys[i].2.2.2.2.2.2.1 : Nat) : Int)) (a := 1) (b := Tys.ct _ (ys[i].2.2.2.2.2.2.2.2)))
    have q8 := Int.le_trans (Int.le_of_eq z8.symm) h2
    have p8 : 1 ≤ k + ((1 : Nat) : Int) + ((1 : Nat) : Int) + ((1 : Nat) : Int) + ((1 : Nat) : Int) + ((1 : Nat) : Int) + ((1 : Nat) : Int) + ((sumW (fun x => e9.ct x) ys[i].2.2.2.2.2.2.1 : Nat) : Int) + ((1 : Nat) : Int) := upn p7
    have u8 : iAdd .i64 (k + ((1 : Nat) : Int) + ((1 : Nat) : Int) + ((1 : Nat) : Int) + ((1 : Nat) : Int) + ((1 : Nat) : Int) + ((1 : Nat) : Int) + ((sumW (fun x => e9.ct x) ys[i].2.2.2.2.2.2.1 : Nat) : Int)) 1 = k + ((1 : Nat) : Int) + ((1 : Nat) : Int) + ((1 : Nat) : Int) + ((1 : Nat) : Int) + ((1 : Nat) : Int) + ((1 : Nat) : Int) + ((sumW (fun x => e9.ct x) ys[i].2.2.2.2.2.2.1 : Nat) : Int) + ((1 : Nat) : Int) := (congrArg (fun z => iAdd .i64 z 1) u7).trans (up1 (le1 p7) (dn q8))
    have z9 := z8.trans (asE (k := k + ((1 : Nat) : Int) + ((1 : Nat) : Int) + ((1 : Nat) : Int) + ((1 : Nat) : Int) + ((1 : Nat) : Int) + ((1 : Nat) : Int) + ((sumW (fun x => e9.ct x) ys[i].2.2.2.2.2.2.1 : Nat) : Int) + ((1 : Nat) : Int)) (a := sumW (fun x => e9.ct x) ys[i].2.2.2.2.2.2.2.2.1) (b := Tys.ct _ (ys[i].2.2.2.2.2.2.2.2.2)))
    have q9 := Int.le_trans (Int.le_of_eq z9.symm) h2
    have p9 : 1 ≤ k + ((1 : Nat) : Int) + ((1 : Nat) : Int) + ((1 : Nat) : Int) + ((1 : Nat) : Int) + ((1 : Nat) : Int) + ((1 : Nat) : Int) + ((sumW (fun x => e9.ct x) ys[i].2.2.2.2.2.2.1 : Nat) : Int) + ((1 : Nat) : Int) + ((sumW (fun x => e9.ct x) ys[i].2.2.2.2.2.2.2.2.1 : Nat) : Int) := upn p8
    have u9 : k + ((1 : Nat) : Int) + ((1 : Nat) : Int) + ((1 : Nat) : Int) + ((1 : Nat) : Int) + ((1 : Nat) : Int) + ((1 : Nat) : Int) + ((sumW (fun x => e9.ct x) ys[i].2.2.2.2.2.2.1 : Nat) : Int) + ((1 : Nat) : Int) + ((sumW (fun x => e9.ct x) ys[i].2.2.2.2.2.2.2.2.1 : Nat) : Int) = k + ((1 : Nat) : Int) + ((1 : Nat) : Int) + ((1 : Nat) : Int) + ((1 : Nat) : Int) + ((1 : Nat) : Int) + ((1 : Nat) : Int) + ((sumW (fun x => e9.ct x) ys[i].2.2.2.2.2.2.1 : Nat) : Int) + ((1 : Nat) : Int) + ((sumW (fun x => e9.ct x) ys[i].2.2.2.2.2.2.2.2.1 : Nat) : Int) := rfl
    have z10 := z9.trans (asE (k := k + ((1 : Nat) : Int) + ((1 : Nat) : Int) + ((1 : Nat) : Int) + ((1 : Nat) : Int) + ((1 : Nat) : Int) + ((1 : Nat) : Int) + ((sumW (fun x => e9.ct x) ys[i].2.2.2.2.2.2.1 : Nat) : Int) + ((1 : Nat) : Int) + ((sumW (fun x => e9.ct x) ys[i].2.2.2.2.2.2.2.2.1 : Nat) : Int)) (a := sumW (fun x => e3.ct x) ys[i].2.2.2.2.2.2.2.2.2.1) (b := Tys.ct _ (ys[i].2.2.2.2.2.2.2.2.2.2)))
    have q10 := Int.le_trans (Int.le_of_eq z10.symm) h2
    have p10 : 1 ≤ k + ((1 : Nat) : Int) + ((1 : Nat) : Int) + ((1 : Nat) : Int) + ((1 : Nat) : Int) + ((1 : Nat) : Int) + ((1 : Nat) : Int) + ((sumW (fun x => e9.ct x) ys[i].2.2.2.2.2.2.1 : Nat) : Int) + ((1 : Nat) : Int) + ((sumW (fun x => e9.ct x) ys[i].2.2.2.2.2.2.2.2.1 : Nat) : Int) + ((sumW (fun x => e3.ct x) ys[i].2.2.2.2.2.2.2.2.2.1 : Nat) : Int) := upn p9
    have u10 : k + ((1 : Nat) : Int) + ((1 : Nat) : Int) + ((1 : Nat) : Int) + ((1 : Nat) : Int) + ((1 : Nat) : Int) + ((1 : Nat) : Int) + ((sumW (fun x => e9.ct x) ys[i].2.2.2.2.2.2.1 : Nat) : Int) + ((1 : Nat) : Int) + ((sumW (fun x => e9.ct x) ys[i].2.2.2.2.2.2.2.2.1 : Nat) : Int) + ((sumW (fun x => e3.ct x) ys[i].2.2.2.2.2.2.2.2.2.1 : Nat) : Int) = k + ((1 : Nat) : Int) + ((1 : Nat) : Int) + ((1 : Nat) : Int) + ((1 : Nat) : Int) + ((1 : Nat) : Int) + ((1 : Nat) : Int) + ((sumW (fun x => e9.ct x) ys[i].2.2.2.2.2.2.1 : Nat) : Int) + ((1 : Nat) : Int) + ((sumW (fun x => e9.ct x) ys[i].2.2.2.2.2.2.2.2.1 : Nat) : Int) + ((sumW (fun x => e3.ct x) ys[i].2.2.2.2.2.2.2.2.2.1 : Nat) : Int) := rfl
    have z11 := z10.trans (asE (k := k + ((1 : Nat) : Int) + ((1 : Nat) : Int) + ((1 : Nat) : Int) + ((1 : Nat) : Int) + ((1 : Nat) : Int) + ((1 : Nat) : Int) + ((sumW (fun x => e9.ct x) ys[i].2.2.2.2.2.2.1 : Nat) : Int) + ((1 : Nat) : Int) + ((sumW (fun x => e9.ct x) ys[i].2.2.2.2.2.2.2.2.1 : Nat) : Int) + ((sumW (fun x => e3.ct x) ys[i].2.2.2.2.2.2.2.2.2.1 : Nat) : Int)) (a := sumW (fun x => e195.ct x) ys[i].2.2.2.2.2.2.2.2.2.2.1) (b := Tys.ct _ (ys[i].2.2.2.2.2.2.2.2.2.2.2)))
    have q11 := Int.le_trans (Int.le_of_eq z11.symm) h2
    have p11 : 1 ≤ k + ((1 : Nat) : Int) + ((1 : Nat) : Int) + ((1 : Nat) : Int) + ((1 : Nat) : Int) + ((1 : Nat) : Int) + ((1 : Nat) : Int) + ((sumW (fun x => e9.ct x) ys[i].2.2.2.2.2.2.1 : Nat) : Int) + ((1 : Nat) : Int) + ((sumW (fun x => e9.ct x) ys[i].2.2.2.2.2.2.2.2.1 : Nat) : Int) + ((sumW (fun x => e3.ct x) ys[i].2.2.2.2.2.2.2.2.2.1 : Nat) : Int) + ((sumW (fun x => e195.ct x) ys[i].2.2.2.2.2.2.2.2.2.2.1 : Nat) : Int) := upn p10
    have u11 : k + ((1 : Nat) : Int) + ((1 : Nat) : Int) + ((1 : Nat) : Int) + ((1 : Nat) : Int) + ((1 : Nat) : Int) + ((1 : Nat) : Int) + ((sumW (fun x => e9.ct x) ys[i].2.2.2.2.2.2.1 : Nat) : Int) + ((1 : Nat) : Int) + ((sumW (fun x => e9.ct x) ys[i].2.2.2.2.2.2.2.2.1 : Nat) : Int) + ((sumW (fun x => e3.ct x) ys[i].2.2.2.2.2.2.2.2.2.1 : Nat) : Int) + ((sumW (fun x => e195.ct x) ys[i].2.2.2.2.2.2.2.2.2.2.1 : Nat) : Int) = k + ((1 : Nat) : Int) + ((1 : Nat) : Int) + ((1 : Nat) : Int) + ((1 : Nat) : Int) + ((1 : Nat) : Int) + ((1 : Nat) : Int) + ((sumW (fun x => e9.ct x) ys[i].2.2.2.2.2.2.1 : Nat) : Int) + ((1 : Nat) : Int) + ((sumW (fun x => e9.ct x) ys[i].2.2.2.2.2.2.2.2.1 : Nat) : Int) + ((sumW (fun x => e3.ct x) ys[i].2.2.2.2.2.2.2.2.2.1 : Nat) : Int) + ((sumW (fun x => e195.ct x) ys[i].2.2.2.2.2.2.2.2.2.2.1 : Nat) : Int) := rfl
    have z12 := z11.trans (asE (k := k + ((1 : Nat) : Int) + ((1 : Nat) : Int) + ((1 : Nat) : Int) + ((1 : Nat) : Int) + ((1 : Nat) : Int) + ((1 : Nat) : Int) + ((sumW (fun x => e9.ct x) ys[i].2.2.2.2.2.2.1 : Nat) : Int) + ((1 : Nat) : Int) + ((sumW (fun x => e9.ct x) ys[i].2.2.2.2.2.2.2.2.1 : Nat) : Int) + ((sumW (fun x => e3.ct x) ys[i].2.2.2.2.2.2.2.2.2.1 : Nat) : Int) + ((sumW (fun x => e195.ct x) ys[i].2.2.2.2.2.2.2.2.2.2.1 : Nat) : Int)) (a := 1) (b := Tys.ct _ (ys[i].2.2.2.2.2.2.2.2.2.2.2.2)))
    have q12 := Int.le_trans (Int.le_of_eq z12.symm) h2
    have p12 : 1 ≤ k + ((1 : Nat) : Int) + ((1 : Nat) : Int) + ((1 : Nat) : Int) + ((1 : Nat) : Int) + ((1 : Nat) : Int) + ((1 : Nat) : Int) + ((sumW (fun x => e9.ct x) ys[i].2.2.2.2.2.2.1 : Nat) : Int) + ((1 : Nat) : Int) + ((sumW (fun x => e9.ct x) ys[i].2.2.2.2.2.2.2.2.1 : Nat) : Int) + ((sumW (fun x => e3.ct x) ys[i].2.2.2.2.2.2.2.2.2.1 : Nat) : Int) + ((sumW (fun x => e195.ct x) ys[i].2.2.2.2.2.2.2.2.2.2.1 : Nat) : Int) + ((1 : Nat) : Int) := upn p11
    have u12 : iAdd .i64 (k + ((1 : Nat) : Int) + ((1 : Nat) : Int) + ((1 : Nat) : Int) + ((1 : Nat) : Int) + ((1 : Nat) : Int) + ((1 : Nat) : Int) + ((sumW (fun x => e9.ct x) ys[i].2.2.2.2.2.2.1 : Nat) : Int) + ((1 : Nat) : Int) + ((sumW (fun x => e9.ct x) ys[i].2.2.2.2.2.2.2.2.1 : Nat) : Int) + ((sumW (fun x => e3.ct x) ys[i].2.2.2.2.2.2.2.2.2.1 : Nat) : Int) + ((sumW (fun x => e195.ct x) ys[i].2.2.2.2.2.2.2.2.2.2.1 : Nat) : Int)) 1 = k + ((1 : Nat) : Int) + ((1 : Nat) : Int) + ((1 : Nat) : Int) + ((1 : Nat) : Int) + ((1 : Nat) : Int) + ((1 : Nat) : Int) + ((sumW (fun x => e9.ct x) ys[i].2.2.2.2.2.2.1 : Nat) : Int) + ((1 : Nat) : Int) + ((sumW (fun x => e9.ct x) ys[i].2.2.2.2.2.2.2.2.1 : Nat) : Int) + ((sumW (fun x => e3.ct x) ys[i].2.2.2.2.2.2.2.2.2.1 : Nat) : Int) + ((sumW (fun x => e195.ct x) ys[i].2.2.2.2.2.2.2.2.2.2.1 : Nat) : Int) + ((1 : Nat) : Int) := (congrArg (fun z => iAdd .i64 z 1) u11).trans (up1 (le1 p11) (dn q12))
    have z13 := z12.trans (asE (k := k + ((1 : Nat) : Int) + ((1 : Nat) : Int) + ((1 : Nat) : Int) + ((1 : Nat) : Int) + ((1 : Nat) : Int) + ((1 : Nat) : Int) + ((sumW (fun x => e9.ct x) ys[i].2.2.2.2.2.2.1 : Nat) : Int) + ((1 : Nat) : Int) + ((sumW (fun x => e9.ct x) ys[i].2.2.2.2.2.2.2.2.1 : Nat) : Int) + ((sumW (fun x => e3.ct x) ys[i].2.2.2.2.2.2.2.2.2.1 : Nat) : Int) + ((sumW (fun x => e195.ct x) ys[i].2.2.2.2.2.2.2.2.2.2.1 : Nat) : Int) + ((1 : Nat) : Int)) (a := sumW (fun x => e188.ct x) ys[i].2.2.2.2.2.2.2.2.2.2.2.2.1) (b := Tys.ct _ (ys[i].2.2.2.2.2.2.2.2.2.2.2.2.2)))
    have q13 := Int.le_trans (Int.le_of_eq z13.symm) h2
    have p13 : 1 ≤ k + ((1 : Nat) : Int) + ((1 : Nat) : Int) + ((1 : Nat) : Int) + ((1 : Nat) : Int) + ((1 : Nat) : Int) + ((1 : Nat) : Int) + ((sumW (fun x => e9.ct x) ys[i].2.2.2.2.2.2.1 : Nat) : Int) + ((1 : Nat) : Int) + ((sumW (fun x => e9.ct x) ys[i].2.2.2.2.2.2.2.2.1 : Nat) : Int) + ((sumW (fun x => e3.ct x) ys[i].2.2.2.2.2.2.2.2.2.1 : Nat) : Int) + ((sumW (fun x => e195.ct x) ys[i].2.2.2.2.2.2.2.2.2.2.1 : Nat) : Int) + ((1 : Nat) : Int) + ((sumW (fun x => e188.ct x) ys[i].2.2.2.2.2.2.2.2.2.2.2.2.1 : Nat) : Int) := upn p12
    have u13 : k + ((1 : Nat) : Int) + ((1 : Nat) : Int) + ((1 : Nat) : Int) + ((1 : Nat) : Int) + ((1 : Nat) : Int) + ((1 : Nat) : Int) + ((sumW (fun x => e9.ct x) ys[i].2.2.2.2.2.2.1 : Nat) : Int) + ((1 : Nat) : Int) + ((sumW (fun x => e9.ct x) ys[i].2.2.2.2.2.2.2.2.1 : Nat) : Int) + ((sumW (fun x => e3.ct x) ys[i].2.2.2.2.2.2.2.2.2.1 : Nat) : Int) + ((sumW (fun x => e195.ct x) ys[i].2.2.2.2.2.2.2.2.2.2.1 : Nat) : Int) + ((1 : Nat) : Int) + ((sumW (fun x => e188.ct x) ys[i].2.2.2.2.2.2.2.2.2.2.2.2.1 : Nat) : Int) = k + ((1 : Nat) : Int) + ((1 : Nat) : Int) + ((1 : Nat) : Int) + ((1 : Nat) : Int) + ((1 : Nat) : Int) + ((1 : Nat) : Int) + ((sumW (fun x => e9.ct x) ys[i].2.2.2.2.2.2.1 : Nat) : Int) + ((1 : Nat) : Int) + ((sumW (fun x => e9.ct x) ys[i].2.2.2.2.2.2.2.2.1 : Nat) : Int) + ((sumW (fun x => e3.ct x) ys[i].2.2.2.2.2.2.2.2.2.1 : Nat) : Int) + ((sumW (fun x => e195.ct x) ys[i].2.2.2.2.2.2.2.2.2.2.1 : Nat) : Int) + ((1 : Nat) : Int) + ((sumW (fun x => e188.ct x) ys[i].2.2.2.2.2.2.2.2.2.2.2.2.1 : Nat) : Int) := rfl
    have z14 := z13.trans (asE (k := k + ((1 : Nat) : Int) + ((1 : Nat) : Int) + ((1 : Nat) : Int) + ((1 : Nat) : Int) + ((1 : Nat) : Int) + ((1 : Nat) : Int) + ((sumW (fun x => e9.ct x) ys[i].2.2.2.2.2.2.1 : Nat) : Int) + ((1 : Nat) : Int) + ((sumW (fun x => e9.ct x) ys[i].2.2.2.2.2.2.2.2.1 : Nat) : Int) + ((sumW (fun x => e3.ct x) ys[i].2.2.2.2.2.2.2.2.2.1 : Nat) : Int) + ((sumW (fun x => e195.ct x) ys[i].2.2.2.2.2.2.2.2.2.2.1 : Nat) : Int) + ((1 : Nat) : Int) + ((sumW (fun x => e188.ct x) ys[i].2.2.2.2.2.2.2.2.2.2.2.2.1 : Nat) : Int)) (a := 1) (b := Tys.ct _ (ys[i].2.2.2.2.2.2.2.2.2.2.2.2.2.2)))
    have q14 := Int.le_trans (Int.le_of_eq z14.symm) h2
    have p14 : 1 ≤ k + ((1 : Nat) : Int) + ((1 : Nat) : Int) + ((1 : Nat) : Int) + ((1 : Nat) : Int) + ((1 : Nat) : Int) + ((1 : Nat) : Int) + ((sumW (fun x => e9.ct x) ys[i].2.2.2.2.2.2.1 : Nat) : Int) + ((1 : Nat) : Int) + ((sumW (fun x => e9.ct x) ys[i].2.2.2.2.2.2.2.2.1 : Nat) : Int) + ((sumW (fun x => e3.ct x) ys[i].2.2.2.2.2.2.2.2.2.1 : Nat) : Int) + ((sumW (fun x => e195.ct x) ys[i].2.2.2.2.2.2.2.2.2.2.1 : Nat) : Int) + ((1 : Nat) : Int) + ((sumW (fun x => e188.ct x) ys[i].2.2.2.2.2.2.2.2.2.2.2.2.1 : Nat) : Int) + ((1 : Nat) : Int) := upn p13
    have u14 : iAdd .i64 (k + ((1 : Nat) : Int) + ((1 : Nat) : Int) + ((1 : Nat) : Int) + ((1 : Nat) : Int) + ((1 : Nat) : Int) + ((1 : Nat) : Int) + ((sumW (fun x => e9.ct x) ys[i].2.2.2.2.2.2.1 : Nat) : Int) + ((1 : Nat) : Int) + ((sumW (fun x => e9.ct x) ys[i].2.2.2.2.2.2.2.2.1 : Nat) : Int) + ((sumW (fun x => e3.ct x) ys[i].2.2.2.2.2.2.2.2.2.1 : Nat) : Int) + ((sumW (fun x => e195.ct x) ys[i].2.2.2.2.2.2.2.2.2.2.1 : Nat) : Int) + ((1 : Nat) : Int) + ((sumW (fun x => e188.ct x) ys[i].2.2.2.2.2.2.2.2.2.2.2.2.1 : Nat) : Int)) 1 = k + ((1 : Nat) : Int) + ((1 : Nat) : Int) + ((1 : Nat) : Int) + ((1 : Nat) : Int) + ((1 : Nat) : Int) + ((1 : Nat) : Int) + ((sumW (fun x => e9.ct x) ys[i].2.2.2.2.2.2.1 : Nat) : Int) + ((1 : Nat) : Int) + ((sumW (fun x => e9.ct x) ys[i].2.2.2.2.2.2.2.2.1 : Nat) : Int) + ((sumW (fun x => e3.ct x) ys[i].2.2.2.2.2.2.2.2.2.1 : Nat) : Int) + ((sumW (fun x => e195.ct x) ys[i].2.2.2.2.2.2.2.2.2.2.1 : Nat) : Int) + ((1 : Nat) : Int) + ((sumW (fun x => e188.ct x) ys[i].2.2.2.2.2.2.2.2.2.2.2.2.1 : Nat) : Int) + ((1 : Nat) : Int) := (congrArg (fun z => iAdd .i64 z 1) u13).trans (up1 (le1 p13) (dn q14))
    refine lt_then (Int.ofNat_lt.2 hi) ?_
    refine bind_eq (getI_lt hi) (bind_eq (getN_nat hi) ?_)
    refine bind_eq (getI_set hi) (bind_eq (getN_set hi) ?_)
    refine bind_eq (getI_set (len_set hi)) (bind_eq (getN_set (len_set hi)) ?_)
    refine bind_eq ((congrArg (fun z => F110 ((z, ()), ())) u3).trans (mtW_ok p3 (dn q3))) ?_
    refine bind_eq (getI_set (len_set (len_set hi))) (bind_eq (getN_set (len_set (len_set hi))) ?_)
    refine bind_eq (getI_set (len_set (len_set (len_set hi)))) (bind_eq (getN_set (len_set (len_set (len_set hi)))) ?_)
    refine bind_eq (getI_set (len_set (len_set (len_set (len_set hi))))) (bind_eq (getN_set (len_set (len_set (len_set (len_set hi))))) ?_)
    refine bind_eq (getI_set (len_set (len_set (len_set (len_set (len_set hi)))))) (bind_eq (getN_set (len_set (len_set (len_set (len_set (len_set hi)))))) ?_)
    refine bind_eq (getN_set (len_set (len_set (len_set (len_set (len_set hi)))))) ?_
    refine bind_eq ((congrArg (fun z => F31 ((ys[i].2.2.2.2.2.2.1, ()), ((z, ()), ()))) u6).trans (mk31 ys[i].2.2.2.2.2.2.1 _ p6 (dn q7) hpr.2.2.2.2.2.2.1)) ?_
    refine bind_eq (getI_set (len_set (len_set (len_set (len_set (len_set (len_set hi))))))) (bind_eq (getN_set (len_set (len_set (len_set (len_set (len_set (len_set hi))))))) ?_)
    refine bind_eq (getI_set (len_set (len_set (len_set (len_set (len_set (len_set (len_set hi)))))))) (bind_eq (getN_set (len_set (len_set (len_set (len_set (len_set (len_set (len_set hi)))))))) ?_)
    refine bind_eq (getN_set (len_set (len_set (len_set (len_set (len_set (len_set (len_set hi)))))))) ?_
    refine bind_eq ((congrArg (fun z => F31 ((ys[i].2.2.2.2.2.2.2.2.1, ()), ((z, ()), ()))) u8).trans (mk31 ys[i].2.2.2.2.2.2.2.2.1 _ p8 (dn q9) hpr.2.2.2.2.2.2.2.2.1)) ?_
    refine bind_eq (getI_set (len_set (len_set (len_set (len_set (len_set (len_set (len_set (len_set hi))))))))) (bind_eq (getN_set (len_set (len_set (len_set (len_set (len_set (len_set (len_set (len_set hi))))))))) ?_)
    refine bind_eq (getN_set (len_set (len_set (len_set (len_set (len_set (len_set (len_set (len_set hi))))))))) ?_
    refine bind_eq ((congrArg (fun z => F77 ((ys[i].2.2.2.2.2.2.2.2.2.1, ()), ((z, ()), ()))) u9).trans (mk77 ys[i].2.2.2.2.2.2.2.2.2.1 _ p9 (dn q10) hpr.2.2.2.2.2.2.2.2.2.1)) ?_
    refine bind_eq (getI_set (len_set (len_set (len_set (len_set (len_set (len_set (len_set (len_set (len_set hi)))))))))) (bind_eq (getN_set (len_set (len_set (len_set (len_set (len_set (len_set (len_set (len_set (len_set hi)))))))))) ?_)
    refine bind_eq (getN_set (len_set (len_set (len_set (len_set (len_set (len_set (len_set (len_set (len_set hi)))))))))) ?_
    refine bind_eq ((congrArg (fun z => F78 ((ys[i].2.2.2.2.2.2.2.2.2.2.1, ()), ((z, ()), ()))) u10).trans (mk78 ys[i].2.2.2.2.2.2.2.2.2.2.1 _ p10 (dn q11) hpr.2.2.2.2.2.2.2.2.2.2.1)) ?_
    refine no_then rfl ?_
    refine bind_eq (getI_set (len_set (len_set (len_set (len_set (len_set (len_set (len_set (len_set (len_set (len_set hi))))))))))) (bind_eq (getN_set (len_set (len_set (len_set (len_set (len_set (len_set (len_set (len_set (len_set (len_set hi))))))))))) ?_)
    refine bind_eq (getI_set (len_set (len_set (len_set (len_set (len_set (len_set (len_set (len_set (len_set (len_set (len_set hi)))))))))))) (bind_eq (getN_set (len_set (len_set (len_set (len_set (len_set (len_set (len_set (len_set (len_set (len_set (len_set hi)))))))))))) ?_)
    refine bind_eq (getN_set (len_set (len_set (len_set (len_set (len_set (len_set (len_set (len_set (len_set (len_set (len_set hi)))))))))))) ?_
    refine bind_eq ((congrArg (fun z => F71 ((ys[i].2.2.2.2.2.2.2.2.2.2.2.2.1, ()), ((z, ()), ()))) u12).trans (mk71 ys[i].2.2.2.2.2.2.2.2.2.2.2.2.1 _ p12 (dn q13) hpr.2.2.2.2.2.2.2.2.2.2.2.2.1)) ?_
    refine bind_eq ((congrArg (fun z => F110 ((z, ()), ())) u13).trans (mtW_ok p13 (dn q13))) ?_
    refine bind_eq (getI_set (len_set (len_set (len_set (len_set (len_set (len_set (len_set (len_set (len_set (len_set (len_set (len_set hi))))))))))))) (bind_eq (getN_set (len_set (len_set (len_set (len_set (len_set (len_set (len_set (len_set (len_set (len_set (len_set (len_set hi))))))))))))) ?_)
    refine st3 (u14.trans ((Int.add_zero _).symm.trans z14.symm)) (nx hi (by omega)) ?_
    refine (set_last (set_one.trans (set_one.trans (set_one.trans (set_one.trans (set_one.trans (set_one.trans (set_one.trans (set_one.trans (set_one.trans (set_one.trans (set_one.trans (set_one))))))))))))).trans ?_
    exact congrArg (List.set ys i) (Prod.ext u0 (Prod.ext u1 (Prod.ext u2 (Prod.ext rfl (Prod.ext u4 (Prod.ext u5 (Prod.ext rfl (Prod.ext u7 (Prod.ext rfl (Prod.ext rfl (Prod.ext rfl (Prod.ext (congrArg (fun z => iEq (iRem z 3) 0) u11) (Prod.ext rfl (Prod.ext rfl rfl))))))))))))))
  · unfold F72.b0
    exact lt_else (Int.le_refl _) rfl
theorem mk75 (xs : List (Tys.D e191)) (k : Int) (hk : 1 ≤ k) (hb : k + ((sumW (fun x => e191.ct x) xs : Nat) : Int) ≤ bigM) (hx : (Ty.sl e191).Ok xs) : F75 ((xs, ()), ((k, ()), ())) = some ((k + ((sumW (fun x => e191.ct x) xs : Nat) : Int), ()), ((markL (fun x => e191.ct x) (fun k x => e191.mt mtW k x) xs k, ()), ())) := by
  have hl : xs.length ≤ 9223372036854775807 := hx.1
  have lp := loopMarkP (fun y => e191.Ok y) (S := Int × (Int × (List (Tys.D e191) × Unit))) (f := F75.b0) (fun x => e191.ct x) (fun k x => e191.mt mtW k x) (fun k i ys => (k, (i, (ys, ())))) (fun k ys => Sum.inl (k, ((ys.length : Int), (ys, ())))) bigM xs (fun y hy => Ok_mem hx.2 hy) (fun i ys hi k hyl hpr h1 h2 => ?_) (fun k ys => ?_) k hk hb
  · unfold F75
    exact bind_eq lp rfl
  · unfold F75.b0
    have z0 : k + ((e191.ct ys[i] : Nat) : Int) = k + ((e191.ct ys[i] : Nat) : Int) := rfl
    have q0 : k + ((e191.ct ys[i] : Nat) : Int) ≤ bigM := h2
    have p0 : 1 ≤ k := h1
    have u0 : k = k := rfl
    have z1 := z0.trans (asE (k := k) (a := 1) (b := Tys.ct _ (ys[i].2)))
    have q1 := Int.le_trans (Int.le_of_eq z1.symm) h2
    have p1 : 1 ≤ k + ((1 : Nat) : Int) := upn p0
    have u1 : iAdd .i64 (k) 1 = k + ((1 : Nat) : Int) := (congrArg (fun z => iAdd .i64 z 1) u0).trans (up1 (le1 p0) (dn q1))
    have z2 := z1.trans (asE (k := k + ((1 : Nat) : Int)) (a := 1) (b := Tys.ct _ (ys[i].2.2)))
    have q2 := Int.le_trans (Int.le_of_eq z2.symm) h2
    have p2 : 1 ≤ k + ((1 : Nat) : Int) + ((1 : Nat) : Int) := upn p1
    have u2 : iAdd .i64 (iAdd .i64 (k) 1) 1 = k + ((1 : Nat) : Int) + ((1 : Nat) : Int) := (congrArg (fun z => iAdd .i64 z 1) u1).trans (up1 (le1 p1) (dn q2))
    have z3 := z2.trans (asE (k := k + ((1 : Nat) : Int) + ((1 : Nat) : Int)) (a := 1) (b := Tys.ct _ (ys[i].2.2.2)))
    have q3 := Int.le_trans (Int.le_of_eq z3.symm) h2
    have p3 : 1 ≤ k + ((1 : Nat) : Int) + ((1 : Nat) : Int) + ((1 : Nat) : Int) := upn p2
    have u3 : iAdd .i64 (iAdd .i64 (iAdd .i64 (k) 1) 1) 1 = k + ((1 : Nat) : Int) + ((1 : Nat) : Int) + ((1 : Nat) : Int) := (congrArg (fun z => iAdd .i64 z 1) u2).trans (up1 (le1 p2) (dn q3))
    refine lt_then (Int.ofNat_lt.2 hi) ?_
    refine bind_eq (getI_lt hi) (bind_eq (getN_nat hi) ?_)
    refine bind_eq (getI_set hi) (bind_eq (getN_set hi) ?_)
    refine bind_eq ((congrArg (fun z => F110 ((z, ()), ())) u2).trans (mtW_ok p2 (dn q2))) ?_
    refine bind_eq (getI_set (len_set hi)) (bind_eq (getN_set (len_set hi)) ?_)
    refine st3 (u3.trans ((Int.add_zero _).symm.trans z3.symm)) (nx hi (by omega)) ?_
    refine (set_last (set_one)).trans ?_
    exact congrArg (List.set ys i) (Prod.ext u0 (Prod.ext u1 (Prod.ext rfl rfl)))
  · unfold F75.b0
    exact lt_else (Int.le_refl _) rfl
theorem mk76 (xs : List (Tys.D e193)) (k : Int) (hk : 1 ≤ k) (hb : k + ((sumW (fun x => e193.ct x) xs : Nat) : Int) ≤ bigM) (hx : (Ty.sl e193).Ok xs) : F76 ((xs, ()), ((k, ()), ())) = some ((k + ((sumW (fun x => e193.ct x) xs : Nat) : Int), ()), ((markL (fun x => e193.ct x) (fun k x => e193.mt mtW k x) xs k, ()), ())) := by
  have hl : xs.length ≤ 9223372036854775807 := hx.1
  have lp := loopMarkP (fun y => e193.Ok y) (S := Int × (Int × (List (Tys.D e193) × Unit))) (f := F76.b0) (fun x => e193.ct x) (fun k x => e193.mt mtW k x) (fun k i ys => (k, (i, (ys, ())))) (fun k ys => Sum.inl (k, ((ys.length : Int), (ys, ())))) bigM xs (fun y hy => Ok_mem hx.2 hy) (fun i ys hi k hyl hpr h1 h2 => ?_) (fun k ys => ?_) k hk hb
  · unfold F76
    exact bind_eq lp rfl
  · unfold F76.b0
    have z0 : k + ((e193.ct ys[i] : Nat) : Int) = k + ((e193.ct ys[i] : Nat) : Int) := rfl
    have q0 : k + ((e193.ct ys[i] : Nat) : Int) ≤ bigM := h2
    have p0 : 1 ≤ k := h1
    have u0 : k = k := rfl
    have z1 := z0.trans (asE (k := k) (a := 1) (b := Tys.ct _ (ys[i].2)))
    have q1 := Int.le_trans (Int.le_of_eq z1.symm) h2
    have p1 : 1 ≤ k + ((1 : Nat) : Int) := upn p0
    have u1 : iAdd .i64 (k) 1 = k + ((1 : Nat) : Int) := (congrArg (fun z => iAdd .i64 z 1) u0).trans (up1 (le1 p0) (dn q1))
    have z2 := z1.trans (asE (k := k + ((1 : Nat) : Int)) (a := 1) (b := Tys.ct _ (ys[i].2.2)))
    have q2 := Int.le_trans (Int.le_of_eq z2.symm) h2
    have p2 : 1 ≤ k + ((1 : Nat) : Int) + ((1 : Nat) : Int) := upn p1
    have u2 : iAdd .i64 (iAdd .i64 (k) 1) 1 = k + ((1 : Nat) : Int) + ((1 : Nat) : Int) := (congrArg (fun z => iAdd .i64 z 1) u1).trans (up1 (le1 p1) (dn q2))
    have z3 := z2.trans (asE (k := k + ((1 : Nat) : Int) + ((1 : Nat) : Int)) (a := 1) (b := Tys.ct _ (ys[i].2.2.2)))
    have q3 := Int.le_trans (Int.le_of_eq z3.symm) h2
    have p3 : 1 ≤ k + ((1 : Nat) : Int) + ((1 : Nat) : Int) + ((1 : Nat) : Int) := upn p2
    have u3 : iAdd .i64 (iAdd .i64 (iAdd .i64 (k) 1) 1) 1 = k + ((1 : Nat) : Int) + ((1 : Nat) : Int) + ((1 : Nat) : Int) := (congrArg (fun z => iAdd .i64 z 1) u2).trans (up1 (le1 p2) (dn q3))
    refine lt_then (Int.ofNat_lt.2 hi) ?_
    refine bind_eq (getI_lt hi) (bind_eq (getN_nat hi) ?_)
    refine bind_eq (getI_set hi) (bind_eq (getN_set hi) ?_)
    refine bind_eq ((congrArg (fun z => F110 ((z, ()), ())) u2).trans (mtW_ok p2 (dn q2))) ?_
    refine bind_eq (getI_set (len_set hi)) (bind_eq (getN_set (len_set hi)) ?_)
    refine st3 (u3.trans ((Int.add_zero _).symm.trans z3.symm)) (nx hi (by omega)) ?_
    refine (set_last (set_one)).trans ?_
    exact congrArg (List.set ys i) (Prod.ext u0 (Prod.ext u1 (Prod.ext rfl rfl)))
  · unfold F76.b0
    exact lt_else (Int.le_refl _) rfl
theorem mk79 (xs : List (Tys.D e43)) (k : Int) (hk : 1 ≤ k) (hb : k + ((sumW (fun x => e43.ct x) xs : Nat) : Int) ≤ bigM) (hx : (Ty.sl e43).Ok xs) : F79 ((xs, ()), ((k, ()), ())) = some ((k + ((sumW (fun x => e43.ct x) xs : Nat) : Int), ()), ((markL (fun x => e43.ct x) (fun k x => e43.mt mtW k x) xs k, ()), ())) := by
  have hl : xs.length ≤ 9223372036854775807 := hx.1
  have lp := loopMarkP (fun y => e43.Ok y) (S := Int × (Int × (List (Tys.D e43) × Unit))) (f := F79.b0) (fun x => e43.ct x) (fun k x => e43.mt mtW k x) (fun k i ys => (k, (i, (ys, ())))) (fun k ys => Sum.inl (k, ((ys.length : Int), (ys, ())))) bigM xs (fun y hy => Ok_mem hx.2 hy) (fun i ys hi k hyl hpr h1 h2 => ?_) (fun k ys => ?_) k hk hb
  · unfold F79
    exact bind_eq lp rfl
  · unfold F79.b0
    have z0 : k + ((e43.ct ys[i] : Nat) : Int) = k + ((e43.ct ys[i] : Nat) : Int) := rfl
    have q0 : k + ((e43.ct ys[i] : Nat) : Int) ≤ bigM := h2
    have p0 : 1 ≤ k := h1
    have u0 : k = k := rfl
    have z1 := z0.trans (asE (k := k) (a := 1) (b := Tys.ct _ (ys[i].2)))
    have q1 := Int.le_trans (Int.le_of_eq z1.symm) h2
    have p1 : 1 ≤ k + ((1 : Nat) : Int) := upn p0
    have u1 : iAdd .i64 (k) 1 = k + ((1 : Nat) : Int) := (congrArg (fun z => iAdd .i64 z 1) u0).trans (up1 (le1 p0) (dn q1))
    have z2 := z1.trans (asE (k := k + ((1 : Nat) : Int)) (a := sumW (fun x => e138.ct x) ys[i].2.1) (b := Tys.ct _ (ys[i].2.2)))
    have q2 := Int.le_trans (Int.le_of_eq z2.symm) h2
    have p2 : 1 ≤ k + ((1 : Nat) : Int) + ((sumW (fun x => e138.ct x) ys[i].2.1 : Nat) : Int) := upn p1
    have u2 : k + ((1 : Nat) : Int) + ((sumW (fun x => e138.ct x) ys[i].2.1 : Nat) : Int) = k + ((1 : Nat) : Int) + ((sumW (fun x => e138.ct x) ys[i].2.1 : Nat) : Int) := rfl
    have z3 := z2.trans (asE (k := k + ((1 : Nat) : Int) + ((sumW (fun x => e138.ct x) ys[i].2.1 : Nat) : Int)) (a := 1) (b := Tys.ct _ (ys[i].2.2.2)))
    have q3 := Int.le_trans (Int.le_of_eq z3.symm) h2
    have p3 : 1 ≤ k + ((1 : Nat) : Int) + ((sumW (fun x => e138.ct x) ys[i].2.1 : Nat) : Int) + ((1 : Nat) : Int) := upn p2
    have u3 : iAdd .i64 (k + ((1 : Nat) : Int) + ((sumW (fun x => e138.ct x) ys[i].2.1 : Nat) : Int)) 1 = k + ((1 : Nat) : Int) + ((sumW (fun x => e138.ct x) ys[i].2.1 : Nat) : Int) + ((1 : Nat) : Int) := (congrArg (fun z => iAdd .i64 z 1) u2).trans (up1 (le1 p2) (dn q3))
    have z4 := z3.trans (asE (k := k + ((1 : Nat) : Int) + ((sumW (fun x => e138.ct x) ys[i].2.1 : Nat) : Int) + ((1 : Nat) : Int)) (a := 1) (b := Tys.ct _ (ys[i].2.2.2.2)))
    have q4 := Int.le_trans (Int.le_of_eq z4.symm) h2
    have p4 : 1 ≤ k + ((1 : Nat) : Int) + ((sumW (fun x => e138.ct x) ys[i].2.1 : Nat) : Int) + ((1 : Nat) : Int) + ((1 : Nat) : Int) := upn p3
    have u4 : iAdd .i64 (iAdd .i64 (k + ((1 : Nat) : Int) + ((sumW (fun x => e138.ct x) ys[i].2.1 : Nat) : Int)) 1) 1 = k + ((1 : Nat) : Int) + ((sumW (fun x => e138.ct x) ys[i].2.1 : Nat) : Int) + ((1 : Nat) : Int) + ((1 : Nat) : Int) := (congrArg (fun z => iAdd .i64 z 1) u3).trans (up1 (le1 p3) (dn q4))
    have z5 := z4.trans (asE (k := k + ((1 : Nat) : Int) + ((sumW (fun x => e138.ct x) ys[i].2.1 : Nat) : Int) + ((1 : Nat) : Int) + ((1 : Nat) : Int)) (a := sumW (fun x => e9.ct x) ys[i].2.2.2.2.1) (b := Tys.ct _ (ys[i].2.2.2.2.2)))
    have q5 := Int.le_trans (Int.le_of_eq z5.symm) h2
    have p5 : 1 ≤ k + ((1 : Nat) : Int) + ((sumW (fun x => e138.ct x) ys[i].2.1 : Nat) : Int) + ((1 : Nat) : Int) + ((1 : Nat) : Int) + ((sumW (fun x => e9.ct x) ys[i].2.2.2.2.1 : Nat) : Int) := upn p4
    have u5 : k + ((1 : Nat) : Int) + ((sumW (fun x => e138.ct x) ys[i].2.1 : Nat) : Int) + ((1 : Nat) : Int) + ((1 : Nat) : Int) + ((sumW (fun x => e9.ct x) ys[i].2.2.2.2.1 : Nat) : Int) = k + ((1 : Nat) : Int) + ((sumW (fun x => e138.ct x) ys[i].2.1 : Nat) : Int) + ((1 : Nat) : Int) + ((1 : Nat) : Int) + ((sumW (fun x => e9.ct x) ys[i].2.2.2.2.1 : Nat) : Int) := rfl
    refine lt_then (Int.ofNat_lt.2 hi) ?_
    refine bind_eq (getI_lt hi) (bind_eq (getN_nat hi) ?_)
    refine bind_eq (getI_set hi) (bind_eq (getN_set hi) ?_)
    refine bind_eq (getN_set hi) ?_
    refine bind_eq ((congrArg (fun z => F72 ((ys[i].2.1, ()), ((z, ()), ()))) u1).trans (mk72 ys[i].2.1 _ p1 (dn q2) hpr.2.1)) ?_
    refine bind_eq (getI_set (len_set hi)) (bind_eq (getN_set (len_set hi)) ?_)
    refine bind_eq (getI_set (len_set (len_set hi))) (bind_eq (getN_set (len_set (len_set hi))) ?_)
    refine bind_eq (getI_set (len_set (len_set (len_set hi)))) (bind_eq (getN_set (len_set (len_set (len_set hi)))) ?_)
    refine bind_eq (getN_set (len_set (len_set (len_set hi)))) ?_
    refine bind_eq ((congrArg (fun z => F31 ((ys[i].2.2.2.2.1, ()), ((z, ()), ()))) u4).trans (mk31 ys[i].2.2.2.2.1 _ p4 (dn q5) hpr.2.2.2.2.1)) ?_
    refine st3 (u5.trans ((Int.add_zero _).symm.trans z5.symm)) (nx hi (by omega)) ?_
    refine (set_last (set_one.trans (set_one.trans (set_one)))).trans ?_
    exact congrArg (List.set ys i) (Prod.ext u0 (Prod.ext rfl (Prod.ext u2 (Prod.ext u3 (Prod.ext rfl rfl)))))
  · unfold F79.b0
    exact lt_else (Int.le_refl _) rfl
theorem hd123 (xs : List (Tys.D e188)) (k : Int) (hk : 1 ≤ k) (hb : k + ((sumW (fun x => e188.ct x) xs : Nat) : Int) ≤ bigM) (hx : (Ty.sl e188).Ok xs) : F123 ((markL (fun x => e188.ct x) (fun k x => e188.mt mtW k x) xs k, ()), ((k, ()), ())) = some ((k + ((sumW (fun x => e188.ct x) xs : Nat) : Int), ()), ()) := by
  have hl : xs.length ≤ 9223372036854775807 := hx.1
  have hlen := markL_length (fun x => e188.ct x) (fun k x => e188.mt mtW k x) xs k
  have lp := loopHeldP (S := Int × (Int × Unit)) (f := F123.b0 ((markL (fun x => e188.ct x) (fun k x => e188.mt mtW k x) xs k, ()), ((k, ()), ()))) (fun x => e188.ct x) (fun k x => e188.mt mtW k x) (fun k i => (k, (i, ()))) (fun k => Sum.inl (k, ((xs.length : Int), ()))) bigM xs k (fun i x k hxi hi h1 h2 => ?_) (fun k => ?_) hk hb
  · unfold F123
    exact bind_eq lp rfl
  · unfold F123.b0
    have hpr : e188.Ok x := hx.2 i x hxi
    obtain ⟨hlt, he⟩ := List.getElem?_eq_some_iff.1 hi
    have z0 : k + ((e188.ct x : Nat) : Int) = k + ((e188.ct x : Nat) : Int) := rfl
    have q0 : k + ((e188.ct x : Nat) : Int) ≤ bigM := h2
    have p0 : 1 ≤ k := h1
    have u0 : k = k := rfl
    have z1 := z0.trans (asE (k := k) (a := 1) (b := Tys.ct _ (x.2)))
    have q1 := Int.le_trans (Int.le_of_eq z1.symm) h2
    have p1 : 1 ≤ k + ((1 : Nat) : Int) := upn p0
    have u1 : iAdd .i64 (k) 1 = k + ((1 : Nat) : Int) := (congrArg (fun z => iAdd .i64 z 1) u0).trans (up1 (le1 p0) (dn q1))
    have z2 := z1.trans (asE (k := k + ((1 : Nat) : Int)) (a := 1) (b := Tys.ct _ (x.2.2)))
    have q2 := Int.le_trans (Int.le_of_eq z2.symm) h2
    have p2 : 1 ≤ k + ((1 : Nat) : Int) + ((1 : Nat) : Int) := upn p1
    have u2 : iAdd .i64 (iAdd .i64 (k) 1) 1 = k + ((1 : Nat) : Int) + ((1 : Nat) : Int) := (congrArg (fun z => iAdd .i64 z 1) u1).trans (up1 (le1 p1) (dn q2))
    refine lt_then (Int.ofNat_lt.2 hlt) ?_
    refine bind_eq ((getI_lt hlt).trans (congrArg some he)) ?_
    refine bind_eq ((congrArg (fun z => F110 ((z, ()), ())) u0).trans (mtW_ok p0 (dn q0))) (eq_str ?_)
    refine bind_eq ((getI_lt hlt).trans (congrArg some he)) ?_
    refine (congrArg (fun z => bif !iEq _ z then _ else _) u1).trans (eq_int ?_)
    exact st2 (u2.trans ((Int.add_zero _).symm.trans z2.symm)) (nx (n := xs.length) (by omega) hl)
  · unfold F123.b0
    exact lt_else (Int.ofNat_le.2 (Nat.le_of_eq hlen)) rfl
theorem smk30 (x : (Int × (List (Tys.D e153) × (Unit)))) (k : Int) (hk : 1 ≤ k) (hb : k + ((sumW (fun x => e153.ct x) x.2.1 : Nat) : Int) ≤ bigM) (ok0 : (Ty.sl e153).Ok x.2.1) : F30 (x, ((k, ()), ())) = some (((k + ((sumW (fun x => e153.ct x) x.2.1 : Nat) : Int) : Int), ()), ((x.1, (markL (fun x => e153.ct x) (fun k x => e153.mt mtW k x) x.2.1 (k), ())), ())) := by
  have q1 : k + ((sumW (fun x => e153.ct x) x.2.1 : Nat) : Int) ≤ bigM := hb
  have q0 : k ≤ bigM := dn q1
  have p0 : 1 ≤ k := hk
  have p1 : 1 ≤ k + ((sumW (fun x => e153.ct x) x.2.1 : Nat) : Int) := upn p0
  unfold F30
  exact (bind_eq (mk109 x.2.1 _ p0 q1 ok0) rfl)
theorem smk73 (x : (Int × (Int × (List (Tys.D e9) × (Unit))))) (k : Int) (hk : 1 ≤ k) (hb : k + ((sumW (fun x => e9.ct x) x.2.2.1 : Nat) : Int) ≤ bigM) (ok0 : (Ty.sl e9).Ok x.2.2.1) : F73 (x, ((k, ()), ())) = some (((k + ((sumW (fun x => e9.ct x) x.2.2.1 : Nat) : Int) : Int), ()), ((x.1, (x.2.1, (markL (fun x => e9.ct x) (fun k x => e9.mt mtW k x) x.2.2.1 (k), ()))), ())) := by
  have q1 : k + ((sumW (fun x => e9.ct x) x.2.2.1 : Nat) : Int) ≤ bigM := hb
  have q0 : k ≤ bigM := dn q1
  have p0 : 1 ≤ k := hk
  have p1 : 1 ≤ k + ((sumW (fun x => e9.ct x) x.2.2.1 : Nat) : Int) := upn p0
  unfold F73
  exact (bind_eq (mk31 x.2.2.1 _ p0 q1 ok0) rfl)
theorem smk74 (x : (Int × (List (Tys.D e9) × (List (Tys.D e3) × (Unit))))) (k : Int) (hk : 1 ≤ k) (hb : k + ((sumW (fun x => e9.ct x) x.2.1 : Nat) : Int) + ((sumW (fun x => e3.ct x) x.2.2.1 : Nat) : Int) ≤ bigM) (ok0 : (Ty.sl e9).Ok x.2.1) (ok1 : (Ty.sl e3).Ok x.2.2.1) : F74 (x, ((k, ()), ())) = some (((k + ((sumW (fun x => e9.ct x) x.2.1 : Nat) : Int) + ((sumW (fun x => e3.ct x) x.2.2.1 : Nat) : Int) : Int), ()), ((x.1, (markL (fun x => e9.ct x) (fun k x => e9.mt mtW k x) x.2.1 (k), (markL (fun x => e3.ct x) (fun k x => e3.mt mtW k x) x.2.2.1 (k + ((sumW (fun x => e9.ct x) x.2.1 : Nat) : Int)), ()))), ())) := by
  have q2 : k + ((sumW (fun x => e9.ct x) x.2.1 : Nat) : Int) + ((sumW (fun x => e3.ct x) x.2.2.1 : Nat) : Int) ≤ bigM := hb
  have q1 : k + ((sumW (fun x => e9.ct x) x.2.1 : Nat) : Int) ≤ bigM := dn q2
  have q0 : k ≤ bigM := dn q1
  have p0 : 1 ≤ k := hk
  have p1 : 1 ≤ k + ((sumW (fun x => e9.ct x) x.2.1 : Nat) : Int) := upn p0
  have p2 : 1 ≤ k + ((sumW (fun x => e9.ct x) x.2.1 : Nat) : Int) + ((sumW (fun x => e3.ct x) x.2.2.1 : Nat) : Int) := upn p1
  unfold F74
  exact (bind_eq (mk31 x.2.1 _ p0 q1 ok0) (bind_eq (mk77 x.2.2.1 _ p1 q2 ok1) rfl))
theorem smk14 (x : (ByteArray × (Int × (Int × (List (Tys.D e153) × (List (Tys.D e188) × (List (Tys.D e138) × (Int × (Int × (Int × (Int × (List (Tys.D e9) × (Int × (List (Tys.D e9) × (List (Tys.D e3) × (Int × (List (Tys.D e191) × (List (Tys.D e193) × (List (Tys.D e3) × (List (Tys.D e195) × (List (Tys.D e43) × (Unit)))))))))))))))))))))) (k : Int) (hk : 1 ≤ k) (hb : k + ((sumW (fun x => e153.ct x) x.2.2.2.1 : Nat) : Int) + ((sumW (fun x => e188.ct x) x.2.2.2.2.1 : Nat) : Int) + ((sumW (fun x => e138.ct x) x.2.2.2.2.2.1 : Nat) : Int) + ((sumW (fun x => e9.ct x) x.2.2.2.2.2.2.2.2.2.2.1 : Nat) : Int) + ((sumW (fun x => e9.ct x) x.2.2.2.2.2.2.2.2.2.2.2.2.1 : Nat) : Int) + ((sumW (fun x => e3.ct x) x.2.2.2.2.2.2.2.2.2.2.2.2.2.1 : Nat) : Int) + ((sumW (fun x => e191.ct x) x.2.2.2.2.2.2.2.2.2.2.2.2.2.2.2.1 : Nat) : Int) + ((sumW (fun x => e193.ct x) x.2.2.2.2.2.2.2.2.2.2.2.2.2.2.2.2.1 : Nat) : Int) + ((sumW (fun x => e3.ct x) x.2.2.2.2.2.2.2.2.2.2.2.2.2.2.2.2.2.1 : Nat) : Int) + ((sumW (fun x => e195.ct x) x.2.2.2.2.2.2.2.2.2.2.2.2.2.2.2.2.2.2.1 : Nat) : Int) + ((sumW (fun x => e43.ct x) x.2.2.2.2.2.2.2.2.2.2.2.2.2.2.2.2.2.2.2.1 : Nat) : Int) ≤ bigM) (ok0 : (Ty.sl e153).Ok x.2.2.2.1) (ok1 : (Ty.sl e188).Ok x.2.2.2.2.1) (ok2 : (Ty.sl e138).Ok x.2.2.2.2.2.1) (ok3 : (Ty.sl e9).Ok x.2.2.2.2.2.2.2.2.2.2.1) (ok4 : (Ty.sl e9).Ok x.2.2.2.2.2.2.2.2.2.2.2.2.1) (ok5 : (Ty.sl e3).Ok x.2.2.2.2.2.2.2.2.2.2.2.2.2.1) (ok6 : (Ty.sl e191).Ok x.2.2.2.2.2.2.2.2.2.2.2.2.2.2.2.1) (ok7 : (Ty.sl e193).Ok x.2.2.2.2.2.2.2.2.2.2.2.2.2.2.2.2.1) (ok8 : (Ty.sl e3).Ok x.2.2.2.2.2.2.2.2.2.2.2.2.2.2.2.2.2.1) (ok9 : (Ty.sl e195).Ok x.2.2.2.2.2.2.2.2.2.2.2.2.2.2.2.2.2.2.1) (ok10 : (Ty.sl e43).Ok x.2.2.2.2.2.2.2.2.2.2.2.2.2.2.2.2.2.2.2.1) : F14 (x, ((k, ()), ())) = some (((k + ((sumW (fun x => e153.ct x) x.2.2.2.1 : Nat) : Int) + ((sumW (fun x => e188.ct x) x.2.2.2.2.1 : Nat) : Int) + ((sumW (fun x => e138.ct x) x.2.2.2.2.2.1 : Nat) : Int) + ((sumW (fun x => e9.ct x) x.2.2.2.2.2.2.2.2.2.2.1 : Nat) : Int) + ((sumW (fun x => e9.ct x) x.2.2.2.2.2.2.2.2.2.2.2.2.1 : Nat) : Int) + ((sumW (fun x => e3.ct x) x.2.2.2.2.2.2.2.2.2.2.2.2.2.1 : Nat) : Int) + ((sumW (fun x => e191.ct x) x.2.2.2.2.2.2.2.2.2.2.2.2.2.2.2.1 : Nat) : Int) + ((sumW (fun x => e193.ct x) x.2.2.2.2.2.2.2.2.2.2.2.2.2.2.2.2.1 : Nat) : Int) + ((sumW (fun x => e3.ct x) x.2.2.2.2.2.2.2.2.2.2.2.2.2.2.2.2.2.1 : Nat) : Int) + ((sumW (fun x => e195.ct x) x.2.2.2.2.2.2.2.2.2.2.2.2.2.2.2.2.2.2.1 : Nat) : Int) + ((sumW (fun x => e43.ct x) x.2.2.2.2.2.2.2.2.2.2.2.2.2.2.2.2.2.2.2.1 : Nat) : Int) : Int), ()), ((x.1, (x.2.1, (x.2.2.1, (markL (fun x => e153.ct x) (fun k x => e153.mt mtW k x) x.2.2.2.1 (k), (markL (fun x => e188.ct x) (fun k x => e188.mt mtW k x) x.2.2.2.2.1 (k + ((sumW (fun x => e153.ct x) x.2.2.2.1 : Nat) : Int)), (markL (fun x => e138.ct x) (fun k x => e138.mt mtW k x) x.2.2.2.2.2.1 (k + ((sumW (fun x => e153.ct x) x.2.2.2.1 : Nat) : Int) + ((sumW (fun x => e188.ct x) x.2.2.2.2.1 : Nat) : Int)), (x.2.2.2.2.2.2.1, (x.2.2.2.2.2.2.2.1, (x.2.2.2.2.2.2.2.2.1, (x.2.2.2.2.2.2.2.2.2.1, (markL (fun x => e9.ct x) (fun k x => e9.mt mtW k x) x.2.2.2.2.2.2.2.2.2.2.1 (k + ((sumW (fun x => e153.ct x) x.2.2.2.1 : Nat) : Int) + ((sumW (fun x => e188.ct x) x.2.2.2.2.1 : Nat) : Int) + ((sumW (fun x => e138.ct x) x.2.2.2.2.2.1 : Nat) : Int)), (x.2.2.2.2.2.2.2.2.2.2.2.1, (markL (fun x => e9.ct x) (fun k x => e9.mt mtW k x) x.2.2.2.2.2.2.2.2.2.2.2.2.1 (k + ((sumW (fun x => e153.ct x) x.2.2.2.1 : Nat) : Int) + ((sumW (fun x => e188.ct x) x.2.2.2.2.1 : Nat) : Int) + ((sumW (fun x => e138.ct x) x.2.2.2.2.2.1 : Nat) : Int) + ((sumW (fun x => e9.ct x) x.2.2.2.2.2.2.2.2.2.2.1 : Nat) : Int)), (markL (fun x => e3.ct x) (fun k x => e3.mt mtW k x) x.2.2.2.2.2.2.2.2.2.2.2.2.2.1 (k + ((sumW (fun x => e153.ct x) x.2.2.2.1 : Nat) : Int) + ((sumW (fun x => e188.ct x) x.2.2.2.2.1 : Nat) : Int) + ((sumW (fun x => e138.ct x) x.2.2.2.2.2.1 : Nat) : Int) + ((sumW (fun x => e9.ct x) x.2.2.2.2.2.2.2.2.2.2.1 : Nat) : Int) + ((sumW (fun x => e9.ct x) x.2.2.2.2.2.2.2.2.2.2.2.2.1 : Nat) : Int)), (x.2.2.2.2.2.2.2.2.2.2.2.2.2.2.1, (markL (fun x => e191.ct x) (fun k x => e191.mt mtW k x) x.2.2.2.2.2.2.2.2.2.2.2.2.2.2.2.1 (k + ((sumW (fun x => e153.ct x) x.2.2.2.1 : Nat) : Int) + ((sumW (fun x => e188.ct x) x.2.2.2.2.1 : Nat) : Int) + ((sumW (fun x => e138.ct x) x.2.2.2.2.2.1 : Nat) : Int) + ((sumW (fun x => e9.ct x) x.2.2.2.2.2.2.2.2.2.2.1 : Nat) : Int) + ((sumW (fun x => e9.ct x) x.2.2.2.2.2.2.2.2.2.2.2.2.1 : Nat) : Int) + ((sumW (fun x => e3.ct x) x.2.2.2.2.2.2.2.2.2.2.2.2.2.1 : Nat) : Int)), (markL (fun x => e193.ct x) (fun k x => e193.mt mtW k x) x.2.2.2.2.2.2.2.2.2.2.2.2.2.2.2.2.1 (k + ((sumW (fun x => e153.ct x) x.2.2.2.1 : Nat) : Int) + ((sumW (fun x => e188.ct x) x.2.2.2.2.1 : Nat) : Int) + ((sumW (fun x => e138.ct x) x.2.2.2.2.2.1 : Nat) : Int) + ((sumW (fun x => e9.ct x) x.2.2.2.2.2.2.2.2.2.2.1 : Nat) : Int) + ((sumW (fun x => e9.ct x) x.2.2.2.2.2.2.2.2.2.2.2.2.1 : Nat) : Int) + ((sumW (fun x => e3.ct x) x.2.2.2.2.2.2.2.2.2.2.2.2.2.1 : Nat) : Int) + ((sumW (fun x => e191.ct x) x.2.2.2.2.2.2.2.2.2.2.2.2.2.2.2.1 : Nat) : Int)), (markL (fun x => e3.ct x) (fun k x => e3.mt mtW k x) x.2.2.2.2.2.2.2.2.2.2.2.2.2.2.2.2.2.1 (k + ((sumW (fun x => e153.ct x) x.2.2.2.1 : Nat) : Int) + ((sumW (fun x => e188.ct x) x.2.2.2.2.1 : Nat) : Int) + ((sumW (fun x => e138.ct x) x.2.2.2.2.2.1 : Nat) : Int) + ((sumW (fun x => e9.ct x) x.2.2.2.2.2.2.2.2.2.2.1 : Nat) : Int) + ((sumW (fun x => e9.ct x) x.2.2.2.2.2.2.2.2.2.2.2.2.1 : Nat) : Int) + ((sumW (fun x => e3.ct x) x.2.2.2.2.2.2.2.2.2.2.2.2.2.1 : Nat) : Int) + ((sumW (fun x => e191.ct x) x.2.2.2.2.2.2.2.2.2.2.2.2.2.2.2.1 : Nat) : Int) + ((sumW (fun x => e193.ct x) x.2.2.2.2.2.2.2.2.2.2.2.2.2.2.2.2.1 : Nat) : Int)), (markL (fun x => e195.ct x) (fun k x => e195.mt mtW k x) x.2.2.2.2.2.2.2.2.2.2.2.2.2.2.2.2.2.2.1 (k + ((sumW (fun x => e153.ct x) x.2.2.2.1 : Nat) : Int) + ((sumW (fun x => e188.ct x) x.2.2.2.2.1 : Nat) : Int) + ((sumW (fun x => e138.ct x) x.2.2.2.2.2.1 : Nat) : Int) + ((sumW (fun x => e9.ct x) x.2.2.2.2.2.2.2.2.2.2.1 : Nat) : Int) + ((sumW (fun x => e9.ct x) x.2.2.2.2.2.2.2.2.2.2.2.2.1 : Nat) : Int) + ((sumW (fun x => e3.ct x) x.2.2.2.2.2.2.2.2.2.2.2.2.2.1 : Nat) : Int) + ((sumW (fun x => e191.ct x) x.2.2.2.2.2.2.2.2.2.2.2.2.2.2.2.1 : Nat) : Int) + ((sumW (fun x => e193.ct x) x.2.2.2.2.2.2.2.2.2.2.2.2.2.2.2.2.1 : Nat) : Int) + ((sumW (fun x => e3.ct x) x.2.2.2.2.2.2.2.2.2.2.2.2.2.2.2.2.2.1 : Nat) : Int)), (markL (fun x => e43.ct x) (fun k x => e43.mt mtW k x) x.2.2.2.2.2.2.2.2.2.2.2.2.2.2.2.2.2.2.2.1 (k + ((sumW (fun x => e153.ct x) x.2.2.2.1 : Nat) : Int) + ((sumW (fun x => e188.ct x) x.2.2.2.2.1 : Nat) : Int) + ((sumW (fun x => e138.ct x) x.2.2.2.2.2.1 : Nat) : Int) + ((sumW (fun x => e9.ct x) x.2.2.2.2.2.2.2.2.2.2.1 : Nat) : Int) + ((sumW (fun x => e9.ct x) x.2.2.2.2.2.2.2.2.2.2.2.2.1 : Nat) : Int) + ((sumW (fun x => e3.ct x) x.2.2.2.2.2.2.2.2.2.2.2.2.2.1 : Nat) : Int) + ((sumW (fun x => e191.ct x) x.2.2.2.2.2.2.2.2.2.2.2.2.2.2.2.1 : Nat) : Int) + ((sumW (fun x => e193.ct x) x.2.2.2.2.2.2.2.2.2.2.2.2.2.2.2.2.1 : Nat) : Int) + ((sumW (fun x => e3.ct x) x.2.2.2.2.2.2.2.2.2.2.2.2.2.2.2.2.2.1 : Nat) : Int) + ((sumW (fun x => e195.ct x) x.2.2.2.2.2.2.2.2.2.2.2.2.2.2.2.2.2.2.1 : Nat) : Int)), ())))))))))))))))))))), ())) := by
  have q11 : k + ((sumW (fun x => e153.ct x) x.2.2.2.1 : Nat) : Int) + ((sumW (fun x => e188.ct x) x.2.2.2.2.1 : Nat) : Int) + ((sumW (fun x => e138.ct x) x.2.2.2.2.2.1 : Nat) : Int) + ((sumW (fun x => e9.ct x) x.2.2.2.2.2.2.2.2.2.2.1 : Nat) : Int) + ((sumW (fun x => e9.ct x) x.2.2.2.2.2.2.2.2.2.2.2.2.1 : Nat) : Int) + ((sumW (fun x => e3.ct x) x.2.2.2.2.2.2.2.2.2.2.2.2.2.1 : Nat) : Int) + ((sumW (fun x => e191.ct x) x.2.2.2.2.2.2.2.2.2.2.2.2.2.2.2.1 : Nat) : Int) + ((sumW (fun x => e193.ct x) x.2.2.2.2.2.2.2.2.2.2.2.2.2.2.2.2.1 : Nat) : Int) + ((sumW (fun x => e3.ct x) x.2.2.2.2.2.2.2.2.2.2.2.2.2.2.2.2.2.1 : Nat) : Int) + ((sumW (fun x => e195.ct x) x.2.2.2.2.2.2.2.2.2.2.2.2.2.2.2.2.2.2.1 : Nat) : Int) + ((sumW (fun x => e43.ct x) x.2.2.2.2.2.2.2.2.2.2.2.2.2.2.2.2.2.2.2.1 : Nat) : Int) ≤ bigM := hb
  have q10 : k + ((sumW (fun x => e153.ct x) x.2.2.2.1 : Nat) : Int) + ((sumW (fun x => e188.ct x) x.2.2.2.2.1 : Nat) : Int) + ((sumW (fun x => e138.ct x) x.2.2.2.2.2.1 : Nat) : Int) + ((sumW (fun x => e9.ct x) x.2.2.2.2.2.2.2.2.2.2.1 : Nat) : Int) + ((sumW (fun x => e9.ct x) x.2.2.2.2.2.2.2.2.2.2.2.2.1 : Nat) : Int) + ((sumW (fun x => e3.ct x) x.2.2.2.2.2.2.2.2.2.2.2.2.2.1 : Nat) : Int) + ((sumW (fun x => e191.ct x) x.2.2.2.2.2.2.2.2.2.2.2.2.2.2.2.1 : Nat) : Int) + ((sumW (fun x => e193.ct x) x.2.2.2.2.2.2.2.2.2.2.2.2.2.2.2.2.1 : Nat) : Int) + ((sumW (fun x => e3.ct x) x.2.2.2.2.2.2.2.2.2.2.2.2.2.2.2.2.2.1 : Nat) : Int) + ((sumW (fun x => e195.ct x) x.2.2.2.2.2.2.2.2.2.2.2.2.2.2.2.2.2.2.1 : Nat) : Int) ≤ bigM := dn q11
  have q9 : k + ((sumW (fun x => e153.ct x) x.2.2.2.1 : Nat) : Int) + ((sumW (fun x => e188.ct x) x.2.2.2.2.1 : Nat) : Int) + ((sumW (fun x => e138.ct x) x.2.2.2.2.2.1 : Nat) : Int) + ((sumW (fun x => e9.ct x) x.2.2.2.2.2.2.2.2.2.2.1 : Nat) : Int) + ((sumW (fun x => e9.ct x) x.2.2.2.2.2.2.2.2.2.2.2.2.1 : Nat) : Int) + ((sumW (fun x => e3.ct x) x.2.2.2.2.2.2.2.2.2.2.2.2.2.1 : Nat) : Int) + ((sumW (fun x => e191.ct x) x.2.2.2.2.2.2.2.2.2.2.2.2.2.2.2.1 : Nat) : Int) + ((sumW (fun x => e193.ct x) x.2.2.2.2.2.2.2.2.2.2.2.2.2.2.2.2.1 : Nat) : Int) + ((sumW (fun x => e3.ct x) x.2.2.2.2.2.2.2.2.2.2.2.2.2.2.2.2.2.1 : Nat) : Int) ≤ bigM := dn q10
  have q8 : k + ((sumW (fun x => e153.ct x) x.2.2.2.1 : Nat) : Int) + ((sumW (fun x => e188.ct x) x.2.2.2.2.1 : Nat) : Int) + ((sumW (fun x => e138.ct x) x.2.2.2.2.2.1 : Nat) : Int) + ((sumW (fun x => e9.ct x) x.2.2.2.2.2.2.2.2.2.2.1 : Nat) : Int) + ((sumW (fun x => e9.ct x) x.2.2.2.2.2.2.2.2.2.2.2.2.1 : Nat) : Int) + ((sumW (fun x => e3.ct x) x.2.2.2.2.2.2.2.2.2.2.2.2.2.1 : Nat) : Int) + ((sumW (fun x => e191.ct x) x.2.2.2.2.2.2.2.2.2.2.2.2.2.2.2.1 : Nat) : Int) + ((sumW (fun x => e193.ct x) x.2.2.2.2.2.2.2.2.2.2.2.2.2.2.2.2.1 : Nat) : Int) ≤ bigM := dn q9
  have q7 : k + ((sumW (fun x => e153.ct x) x.2.2.2.1 : Nat) : Int) + ((sumW (fun x => e188.ct x) x.2.2.2.2.1 : Nat) : Int) + ((sumW (fun x => e138.ct x) x.2.2.2.2.2.1 : Nat) : Int) + ((sumW (fun x => e9.ct x) x.2.2.2.2.2.2.2.2.2.2.1 : Nat) : Int) + ((sumW (fun x => e9.ct x) x.2.2.2.2.2.2.2.2.2.2.2.2.1 : Nat) : Int) + ((sumW (fun x => e3.ct x) x.2.2.2.2.2.2.2.2.2.2.2.2.2.1 : Nat) : Int) + ((sumW (fun x => e191.ct x) x.2.2.2.2.2.2.2.2.2.2.2.2.2.2.2.1 : Nat) : Int) ≤ bigM := dn q8
  have q6 : k + ((sumW (fun x => e153.ct x) x.2.2.2.1 : Nat) : Int) + ((sumW (fun x => e188.ct x) x.2.2.2.2.1 : Nat) : Int) + ((sumW (fun x => e138.ct x) x.2.2.2.2.2.1 : Nat) : Int) + ((sumW (fun x => e9.ct x) x.2.2.2.2.2.2.2.2.2.2.1 : Nat) : Int) + ((sumW (fun x => e9.ct x) x.2.2.2.2.2.2.2.2.2.2.2.2.1 : Nat) : Int) + ((sumW (fun x => e3.ct x) x.2.2.2.2.2.2.2.2.2.2.2.2.2.1 : Nat) : Int) ≤ bigM := dn q7
  have q5 : k + ((sumW (fun x => e153.ct x) x.2.2.2.1 : Nat) : Int) + ((sumW (fun x => e188.ct x) x.2.2.2.2.1 : Nat) : Int) + ((sumW (fun x => e138.ct x) x.2.2.2.2.2.1 : Nat) : Int) + ((sumW (fun x => e9.ct x) x.2.2.2.2.2.2.2.2.2.2.1 : Nat) : Int) + ((sumW (fun x => e9.ct x) x.2.2.2.2.2.2.2.2.2.2.2.2.1 : Nat) : Int) ≤ bigM := dn q6
  have q4 : k + ((sumW (fun x => e153.ct x) x.2.2.2.1 : Nat) : Int) + ((sumW (fun x => e188.ct x) x.2.2.2.2.1 : Nat) : Int) + ((sumW (fun x => e138.ct x) x.2.2.2.2.2.1 : Nat) : Int) + ((sumW (fun x => e9.ct x) x.2.2.2.2.2.2.2.2.2.2.1 : Nat) : Int) ≤ bigM := dn q5
  have q3 : k + ((sumW (fun x => e153.ct x) x.2.2.2.1 : Nat) : Int) + ((sumW (fun x => e188.ct x) x.2.2.2.2.1 : Nat) : Int) + ((sumW (fun x => e138.ct x) x.2.2.2.2.2.1 : Nat) : Int) ≤ bigM := dn q4
  have q2 : k + ((sumW (fun x => e153.ct x) x.2.2.2.1 : Nat) : Int) + ((sumW (fun x => e188.ct x) x.2.2.2.2.1 : Nat) : Int) ≤ bigM := dn q3
  have q1 : k + ((sumW (fun x => e153.ct x) x.2.2.2.1 : Nat) : Int) ≤ bigM := dn q2
  have q0 : k ≤ bigM := dn q1
  have p0 : 1 ≤ k := hk
  have p1 : 1 ≤ k + ((sumW (fun x => e153.ct x) x.2.2.2.1 : Nat) : Int) := upn p0
  have p2 : 1 ≤ k + ((sumW (fun x => e153.ct x) x.2.2.2.1 : Nat) : Int) + ((sumW (fun x => e188.ct x) x.2.2.2.2.1 : Nat) : Int) := upn p1
  have p3 : 1 ≤ k + ((sumW (fun x => e153.ct x) x.2.2.2.1 : Nat) : Int) + ((sumW (fun x => e188.ct x) x.2.2.2.2.1 : Nat) : Int) + ((sumW (fun x => e138.ct x) x.2.2.2.2.2.1 : Nat) : Int) := upn p2
  have p4 : 1 ≤ k + ((sumW (fun x => e153.ct x) x.2.2.2.1 : Nat) : Int) + ((sumW (fun x => e188.ct x) x.2.2.2.2.1 : Nat) : Int) + ((sumW (fun x => e138.ct x) x.2.2.2.2.2.1 : Nat) : Int) + ((sumW (fun x => e9.ct x) x.2.2.2.2.2.2.2.2.2.2.1 : Nat) : Int) := upn p3
  have p5 : 1 ≤ k + ((sumW (fun x => e153.ct x) x.2.2.2.1 : Nat) : Int) + ((sumW (fun x => e188.ct x) x.2.2.2.2.1 : Nat) : Int) + ((sumW (fun x => e138.ct x) x.2.2.2.2.2.1 : Nat) : Int) + ((sumW (fun x => e9.ct x) x.2.2.2.2.2.2.2.2.2.2.1 : Nat) : Int) + ((sumW (fun x => e9.ct x) x.2.2.2.2.2.2.2.2.2.2.2.2.1 : Nat) : Int) := upn p4
  have p6 : 1 ≤ k + ((sumW (fun x => e153.ct x) x.2.2.2.1 : Nat) : Int) + ((sumW (fun x => e188.ct x) x.2.2.2.2.1 : Nat) : Int) + ((sumW (fun x => e138.ct x) x.2.2.2.2.2.1 : Nat) : Int) + ((sumW (fun x => e9.ct x) x.2.2.2.2.2.2.2.2.2.2.1 : Nat) : Int) + ((sumW (fun x => e9.ct x) x.2.2.2.2.2.2.2.2.2.2.2.2.1 : Nat) : Int) + ((sumW (fun x => e3.ct x) x.2.2.2.2.2.2.2.2.2.2.2.2.2.1 : Nat) : Int) := upn p5
  have p7 : 1 ≤ k + ((sumW (fun x => e153.ct x) x.2.2.2.1 : Nat) : Int) + ((sumW (fun x => e188.ct x) x.2.2.2.2.1 : Nat) : Int) + ((sumW (fun x => e138.ct x) x.2.2.2.2.2.1 : Nat) : Int) + ((sumW (fun x => e9.ct x) x.2.2.2.2.2.2.2.2.2.2.1 : Nat) : Int) + ((sumW (fun x => e9.ct x) x.2.2.2.2.2.2.2.2.2.2.2.2.1 : Nat) : Int) + ((sumW (fun x => e3.ct x) x.2.2.2.2.2.2.2.2.2.2.2.2.2.1 : Nat) : Int) + ((sumW (fun x => e191.ct x) x.2.2.2.2.2.2.2.2.2.2.2.2.2.2.2.1 : Nat) : Int) := upn p6
  have p8 : 1 ≤ k + ((sumW (fun x => e153.ct x) x.2.2.2.1 : Nat) : Int) + ((sumW (fun x => e188.ct x) x.2.2.2.2.1 : Nat) : Int) + ((sumW (fun x => e138.ct x) x.2.2.2.2.2.1 : Nat) : Int) + ((sumW (fun x => e9.ct x) x.2.2.2.2.2.2.2.2.2.2.1 : Nat) : Int) + ((sumW (fun x => e9.ct x) x.2.2.2.2.2.2.2.2.2.2.2.2.1 : Nat) : Int) + ((sumW (fun x => e3.ct x) x.2.2.2.2.2.2.2.2.2.2.2.2.2.1 : Nat) : Int) + ((sumW (fun x => e191.ct x) x.2.2.2.2.2.2.2.2.2.2.2.2.2.2.2.1 : Nat) : Int) + ((sumW (fun x => e193.ct x) x.2.2.2.2.2.2.2.2.2.2.2.2.2.2.2.2.1 : Nat) : Int) := upn p7
  have p9 : 1 ≤ k + ((sumW (fun x => e153.ct x) x.2.2.2.1 : Nat) : Int) + ((sumW (fun x => e188.ct x) x.2.2.2.2.1 : Nat) : Int) + ((sumW (fun x => e138.ct x) x.2.2.2.2.2.1 : Nat) : Int) + ((sumW (fun x => e9.ct x) x.2.2.2.2.2.2.2.2.2.2.1 : Nat) : Int) + ((sumW (fun x => e9.ct x) x.2.2.2.2.2.2.2.2.2.2.2.2.1 : Nat) : Int) + ((sumW (fun x => e3.ct x) x.2.2.2.2.2.2.2.2.2.2.2.2.2.1 : Nat) : Int) + ((sumW (fun x => e191.ct x) x.2.2.2.2.2.2.2.2.2.2.2.2.2.2.2.1 : Nat) : Int) + ((sumW (fun x => e193.ct x) x.2.2.2.2.2.2.2.2.2.2.2.2.2.2.2.2.1 : Nat) : Int) + ((sumW (fun x => e3.ct x) x.2.2.2.2.2.2.2.2.2.2.2.2.2.2.2.2.2.1 : Nat) : Int) := upn p8
  have p10 : 1 ≤ k + ((sumW (fun x => e153.ct x) x.2.2.2.1 : Nat) : Int) + ((sumW (fun x => e188.ct x) x.2.2.2.2.1 : Nat) : Int) + ((sumW (fun x => e138.ct x) x.2.2.2.2.2.1 : Nat) : Int) + ((sumW (fun x => e9.ct x) x.2.2.2.2.2.2.2.2.2.2.1 : Nat) : Int) + ((sumW (fun x => e9.ct x) x.2.2.2.2.2.2.2.2.2.2.2.2.1 : Nat) : Int) + ((sumW (fun x => e3.ct x) x.2.2.2.2.2.2.2.2.2.2.2.2.2.1 : Nat) : Int) + ((sumW (fun x => e191.ct x) x.2.2.2.2.2.2.2.2.2.2.2.2.2.2.2.1 : Nat) : Int) + ((sumW (fun x => e193.ct x) x.2.2.2.2.2.2.2.2.2.2.2.2.2.2.2.2.1 : Nat) : Int) + ((sumW (fun x => e3.ct x) x.2.2.2.2.2.2.2.2.2.2.2.2.2.2.2.2.2.1 : Nat) : Int) + ((sumW (fun x => e195.ct x) x.2.2.2.2.2.2.2.2.2.2.2.2.2.2.2.2.2.2.1 : Nat) : Int) := upn p9
  have p11 : 1 ≤ k + ((sumW (fun x => e153.ct x) x.2.2.2.1 : Nat) : Int) + ((sumW (fun x => e188.ct x) x.2.2.2.2.1 : Nat) : Int) + ((sumW (fun x => e138.ct x) x.2.2.2.2.2.1 : Nat) : Int) + ((sumW (fun x => e9.ct x) x.2.2.2.2.2.2.2.2.2.2.1 : Nat) : Int) + ((sumW (fun x => e9.ct x) x.2.2.2.2.2.2.2.2.2.2.2.2.1 : Nat) : Int) + ((sumW (fun x => e3.ct x) x.2.2.2.2.2.2.2.2.2.2.2.2.2.1 : Nat) : Int) + ((sumW (fun x => e191.ct x) x.2.2.2.2.2.2.2.2.2.2.2.2.2.2.2.1 : Nat) : Int) + ((sumW (fun x => e193.ct x) x.2.2.2.2.2.2.2.2.2.2.2.2.2.2.2.2.1 : Nat) : Int) + ((sumW (fun x => e3.ct x) x.2.2.2.2.2.2.2.2.2.2.2.2.2.2.2.2.2.1 : Nat) : Int) + ((sumW (fun x => e195.ct x) x.2.2.2.2.2.2.2.2.2.2.2.2.2.2.2.2.2.2.1 : Nat) : Int) + ((sumW (fun x => e43.ct x) x.2.2.2.2.2.2.2.2.2.2.2.2.2.2.2.2.2.2.2.1 : Nat) : Int) := upn p10
  unfold F14
  exact (bind_eq (smk30 (x.2.2.1, (x.2.2.2.1, ())) _ p0 q1 ok0) (bind_eq (mk71 x.2.2.2.2.1 _ p1 q2 ok1) (bind_eq (mk72 x.2.2.2.2.2.1 _ p2 q3 ok2) (bind_eq (smk73 (x.2.2.2.2.2.2.2.2.1, (x.2.2.2.2.2.2.2.2.2.1, (x.2.2.2.2.2.2.2.2.2.2.1, ()))) _ p3 q4 ok3) (bind_eq (smk74 (x.2.2.2.2.2.2.2.2.2.2.2.1, (x.2.2.2.2.2.2.2.2.2.2.2.2.1, (x.2.2.2.2.2.2.2.2.2.2.2.2.2.1, ()))) _ p4 q6 ok4 ok5) (bind_eq (mk75 x.2.2.2.2.2.2.2.2.2.2.2.2.2.2.2.1 _ p6 q7 ok6) (bind_eq (mk76 x.2.2.2.2.2.2.2.2.2.2.2.2.2.2.2.2.1 _ p7 q8 ok7) (bind_eq (mk77 x.2.2.2.2.2.2.2.2.2.2.2.2.2.2.2.2.2.1 _ p8 q9 ok8) (bind_eq (mk78 x.2.2.2.2.2.2.2.2.2.2.2.2.2.2.2.2.2.2.1 _ p9 q10 ok9) (bind_eq (mk79 x.2.2.2.2.2.2.2.2.2.2.2.2.2.2.2.2.2.2.2.1 _ p10 q11 ok10) rfl))))))))))
theorem smk37 (x : (Int × (List (Tys.D e188) × (Unit)))) (k : Int) (hk : 1 ≤ k) (hb : k + ((sumW (fun x => e188.ct x) x.2.1 : Nat) : Int) ≤ bigM) (ok0 : (Ty.sl e188).Ok x.2.1) : F37 (x, ((k, ()), ())) = some (((k + ((sumW (fun x => e188.ct x) x.2.1 : Nat) : Int) : Int), ()), ((x.1, (markL (fun x => e188.ct x) (fun k x => e188.mt mtW k x) x.2.1 (k), ())), ())) := by
  have q1 : k + ((sumW (fun x => e188.ct x) x.2.1 : Nat) : Int) ≤ bigM := hb
  have q0 : k ≤ bigM := dn q1
  have p0 : 1 ≤ k := hk
  have p1 : 1 ≤ k + ((sumW (fun x => e188.ct x) x.2.1 : Nat) : Int) := upn p0
  unfold F37
  exact (bind_eq (mk71 x.2.1 _ p0 q1 ok0) rfl)
theorem shd38 (x : (Int × (List (Tys.D e188) × (Unit)))) (k : Int) (hk : 1 ≤ k) (hb : k + ((sumW (fun x => e188.ct x) x.2.1 : Nat) : Int) ≤ bigM) (ok0 : (Ty.sl e188).Ok x.2.1) : F38 ((x.1, (markL (fun x => e188.ct x) (fun k x => e188.mt mtW k x) x.2.1 (k), ())), ((k, ()), ())) = some (((k + ((sumW (fun x => e188.ct x) x.2.1 : Nat) : Int) : Int), ()), ()) := by
  have q1 : k + ((sumW (fun x => e188.ct x) x.2.1 : Nat) : Int) ≤ bigM := hb
  have q0 : k ≤ bigM := dn q1
  have p0 : 1 ≤ k := hk
  have p1 : 1 ≤ k + ((sumW (fun x => e188.ct x) x.2.1 : Nat) : Int) := upn p0
  unfold F38
  exact (bind_eq (hd123 x.2.1 _ p0 q1 ok0) (lt_else (le1 p1) rfl))
theorem mh30 (x : (Int × (List (Tys.D e153) × (Unit)))) (hx : ((.cons (.int .i64) (.cons (.sl e153) .nil)) : Tys).Ok x) (hw : ((.cons (.int .i64) (.cons (.sl e153) .nil)) : Tys).w x ≤ 67108864) (k : Int) (hk : 1 ≤ k) (hk2 : k ≤ 1125899906842624) : ∃ k' x', F30 (x, ((k, ()), ())) = some ((k', ()), (x', ())) ∧ 1 ≤ k' ∧ k' ≤ k + 8589934592 := by
  have b0 : ((sumW (fun x => e153.ct x) x.2.1 : Nat) : Int) ≤ 8589934592 := ct_big (es := e153) (by decide) (Nat.le_trans (Nat.le_add_right _ _) (w_tl hw))
  have hb : k + ((sumW (fun x => e153.ct x) x.2.1 : Nat) : Int) ≤ bigM := by unfold bigM; omega
  exact ⟨_, _, smk30 x k hk hb hx.2.1, by omega, by omega⟩
theorem mh14 (x : (ByteArray × (Int × (Int × (List (Tys.D e153) × (List (Tys.D e188) × (List (Tys.D e138) × (Int × (Int × (Int × (Int × (List (Tys.D e9) × (Int × (List (Tys.D e9) × (List (Tys.D e3) × (Int × (List (Tys.D e191) × (List (Tys.D e193) × (List (Tys.D e3) × (List (Tys.D e195) × (List (Tys.D e43) × (Unit)))))))))))))))))))))) (hx : ((.cons .str (.cons (.int .i64) (.cons (.int .i64) (.cons (.sl e153) (.cons (.sl e188) (.cons (.sl e138) (.cons (.int .i64) (.cons (.int .i64) (.cons (.int .i64) (.cons (.int .i64) (.cons (.sl e9) (.cons (.int .i64) (.cons (.sl e9) (.cons (.sl e3) (.cons (.int .i64) (.cons (.sl e191) (.cons (.sl e193) (.cons (.sl e3) (.cons (.sl e195) (.cons (.sl e43) .nil)))))))))))))))))))) : Tys).Ok x) (hw : ((.cons .str (.cons (.int .i64) (.cons (.int .i64) (.cons (.sl e153) (.cons (.sl e188) (.cons (.sl e138) (.cons (.int .i64) (.cons (.int .i64) (.cons (.int .i64) (.cons (.int .i64) (.cons (.sl e9) (.cons (.int .i64) (.cons (.sl e9) (.cons (.sl e3) (.cons (.int .i64) (.cons (.sl e191) (.cons (.sl e193) (.cons (.sl e3) (.cons (.sl e195) (.cons (.sl e43) .nil)))))))))))))))))))) : Tys).w x ≤ 67108864) (k : Int) (hk : 1 ≤ k) (hk2 : k ≤ 1125899906842624) : ∃ k' x', F14 (x, ((k, ()), ())) = some ((k', ()), (x', ())) ∧ 1 ≤ k' ∧ k' ≤ k + 94489280512 := by
  have b0 : ((sumW (fun x => e153.ct x) x.2.2.2.1 : Nat) : Int) ≤ 8589934592 := ct_big (es := e153) (by decide) (Nat.le_trans (Nat.le_add_right _ _) (w_tl (w_tl (w_tl hw))))
  have b1 : ((sumW (fun x => e188.ct x) x.2.2.2.2.1 : Nat) : Int) ≤ 8589934592 := ct_big (es := e188) (by decide) (Nat.le_trans (Nat.le_add_right _ _) (w_tl (w_tl (w_tl (w_tl hw)))))
  have b2 : ((sumW (fun x => e138.ct x) x.2.2.2.2.2.1 : Nat) : Int) ≤ 8589934592 := ct_big (es := e138) (by decide) (Nat.le_trans (Nat.le_add_right _ _) (w_tl (w_tl (w_tl (w_tl (w_tl hw))))))
  have b3 : ((sumW (fun x => e9.ct x) x.2.2.2.2.2.2.2.2.2.2.1 : Nat) : Int) ≤ 8589934592 := ct_big (es := e9) (by decide) (Nat.le_trans (Nat.le_add_right _ _) (w_tl (w_tl (w_tl (w_tl (w_tl (w_tl (w_tl (w_tl (w_tl (w_tl hw)))))))))))
  have b4 : ((sumW (fun x => e9.ct x) x.2.2.2.2.2.2.2.2.2.2.2.2.1 : Nat) : Int) ≤ 8589934592 := ct_big (es := e9) (by decide) (Nat.le_trans (Nat.le_add_right _ _) (w_tl (w_tl (w_tl (w_tl (w_tl (w_tl (w_tl (w_tl (w_tl (w_tl (w_tl (w_tl hw)))))))))))))
  have b5 : ((sumW (fun x => e3.ct x) x.2.2.2.2.2.2.2.2.2.2.2.2.2.1 : Nat) : Int) ≤ 8589934592 := ct_big (es := e3) (by decide) (Nat.le_trans (Nat.le_add_right _ _) (w_tl (w_tl (w_tl (w_tl (w_tl (w_tl (w_tl (w_tl (w_tl (w_tl (w_tl (w_tl (w_tl hw))))))))))))))
  have b6 : ((sumW (fun x => e191.ct x) x.2.2.2.2.2.2.2.2.2.2.2.2.2.2.2.1 : Nat) : Int) ≤ 8589934592 := ct_big (es := e191) (by decide) (Nat.le_trans (Nat.le_add_right _ _) (w_tl (w_tl (w_tl (w_tl (w_tl (w_tl (w_tl (w_tl (w_tl (w_tl (w_tl (w_tl (w_tl (w_tl (w_tl hw))))))))))))))))
  have b7 : ((sumW (fun x => e193.ct x) x.2.2.2.2.2.2.2.2.2.2.2.2.2.2.2.2.1 : Nat) : Int) ≤ 8589934592 := ct_big (es := e193) (by decide) (Nat.le_trans (Nat.le_add_right _ _) (w_tl (w_tl (w_tl (w_tl (w_tl (w_tl (w_tl (w_tl (w_tl (w_tl (w_tl (w_tl (w_tl (w_tl (w_tl (w_tl hw)))))))))))))))))
  have b8 : ((sumW (fun x => e3.ct x) x.2.2.2.2.2.2.2.2.2.2.2.2.2.2.2.2.2.1 : Nat) : Int) ≤ 8589934592 := ct_big (es := e3) (by decide) (Nat.le_trans (Nat.le_add_right _ _) (w_tl (w_tl (w_tl (w_tl (w_tl (w_tl (w_tl (w_tl (w_tl (w_tl (w_tl (w_tl (w_tl (w_tl (w_tl (w_tl (w_tl hw))))))))))))))))))
  have b9 : ((sumW (fun x => e195.ct x) x.2.2.2.2.2.2.2.2.2.2.2.2.2.2.2.2.2.2.1 : Nat) : Int) ≤ 8589934592 := ct_big (es := e195) (by decide) (Nat.le_trans (Nat.le_add_right _ _) (w_tl (w_tl (w_tl (w_tl (w_tl (w_tl (w_tl (w_tl (w_tl (w_tl (w_tl (w_tl (w_tl (w_tl (w_tl (w_tl (w_tl (w_tl hw)))))))))))))))))))
  have b10 : ((sumW (fun x => e43.ct x) x.2.2.2.2.2.2.2.2.2.2.2.2.2.2.2.2.2.2.2.1 : Nat) : Int) ≤ 8589934592 := ct_big (es := e43) (by decide) (Nat.le_trans (Nat.le_add_right _ _) (w_tl (w_tl (w_tl (w_tl (w_tl (w_tl (w_tl (w_tl (w_tl (w_tl (w_tl (w_tl (w_tl (w_tl (w_tl (w_tl (w_tl (w_tl (w_tl hw))))))))))))))))))))
  have hb : k + ((sumW (fun x => e153.ct x) x.2.2.2.1 : Nat) : Int) + ((sumW (fun x => e188.ct x) x.2.2.2.2.1 : Nat) : Int) + ((sumW (fun x => e138.ct x) x.2.2.2.2.2.1 : Nat) : Int) + ((sumW (fun x => e9.ct x) x.2.2.2.2.2.2.2.2.2.2.1 : Nat) : Int) + ((sumW (fun x => e9.ct x) x.2.2.2.2.2.2.2.2.2.2.2.2.1 : Nat) : Int) + ((sumW (fun x => e3.ct x) x.2.2.2.2.2.2.2.2.2.2.2.2.2.1 : Nat) : Int) + ((sumW (fun x => e191.ct x) x.2.2.2.2.2.2.2.2.2.2.2.2.2.2.2.1 : Nat) : Int) + ((sumW (fun x => e193.ct x) x.2.2.2.2.2.2.2.2.2.2.2.2.2.2.2.2.1 : Nat) : Int) + ((sumW (fun x => e3.ct x) x.2.2.2.2.2.2.2.2.2.2.2.2.2.2.2.2.2.1 : Nat) : Int) + ((sumW (fun x => e195.ct x) x.2.2.2.2.2.2.2.2.2.2.2.2.2.2.2.2.2.2.1 : Nat) : Int) + ((sumW (fun x => e43.ct x) x.2.2.2.2.2.2.2.2.2.2.2.2.2.2.2.2.2.2.2.1 : Nat) : Int) ≤ bigM := by unfold bigM; omega
  exact ⟨_, _, smk14 x k hk hb hx.2.2.2.1 hx.2.2.2.2.1 hx.2.2.2.2.2.1 hx.2.2.2.2.2.2.2.2.2.2.1 hx.2.2.2.2.2.2.2.2.2.2.2.2.1 hx.2.2.2.2.2.2.2.2.2.2.2.2.2.1 hx.2.2.2.2.2.2.2.2.2.2.2.2.2.2.2.1 hx.2.2.2.2.2.2.2.2.2.2.2.2.2.2.2.2.1 hx.2.2.2.2.2.2.2.2.2.2.2.2.2.2.2.2.2.1 hx.2.2.2.2.2.2.2.2.2.2.2.2.2.2.2.2.2.2.1 hx.2.2.2.2.2.2.2.2.2.2.2.2.2.2.2.2.2.2.2.1, by omega, by omega⟩
theorem mh37 (x : (Int × (List (Tys.D e188) × (Unit)))) (hx : ((.cons (.int .i64) (.cons (.sl e188) .nil)) : Tys).Ok x) (hw : ((.cons (.int .i64) (.cons (.sl e188) .nil)) : Tys).w x ≤ 67108864) (k : Int) (hk : 1 ≤ k) (hk2 : k ≤ 1125899906842624) : ∃ k' x', F37 (x, ((k, ()), ())) = some ((k', ()), (x', ())) ∧ F38 ((x.1, (x'.2.1, ())), ((k, ()), ())) = some ((k', ()), ()) ∧ 1 ≤ k' ∧ k' ≤ k + 8589934592 := by
  have b0 : ((sumW (fun x => e188.ct x) x.2.1 : Nat) : Int) ≤ 8589934592 := ct_big (es := e188) (by decide) (Nat.le_trans (Nat.le_add_right _ _) (w_tl hw))
  have hb : k + ((sumW (fun x => e188.ct x) x.2.1 : Nat) : Int) ≤ bigM := by unfold bigM; omega
  exact ⟨_, _, smk37 x k hk hb hx.2.1, shd38 x k hk hb hx.2.1, by omega, by omega⟩
end Go.Proofs.YtphaibffjdfhpaaGreat
