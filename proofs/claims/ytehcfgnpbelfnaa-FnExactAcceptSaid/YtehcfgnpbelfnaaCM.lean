/- The marks that the laws put, and whether they stand. Conditions: none. -/
import Derived.Test.YtehcfgnpbelfnaaCF
import Derived.Test.YtehcfgnpbelfnaaTm4
namespace Go.Proofs.Ytehcfgnpbelfnaa
open Go Go.Tm
set_option linter.unusedVariables false
set_option maxRecDepth 100000
noncomputable def mtW (k : Int) : ByteArray := match F86 ((k, ()), ()) with
  | some x => x.1.1
  | none => ⟨#[]⟩
theorem mquo10 {k : Int} (h : 0 < k) (h2 : k ≤ 9223372036854775807) : iQuo .i64 k 10 = k / 10 := by
  unfold iQuo
  rw [Int.tdiv_eq_ediv_of_nonneg (by omega)]
  exact wrap64 (by omega) (by omega)
theorem mtext_loop : ∀ (j : Nat) (k : Int) (s : ByteArray), k < 10 ^ j → k ≤ 9223372036854775807 → s.size + j ≤ 1000 → ∃ k' s', loopF F86.b0 (k, (s, ())) = some (.inl (k', (s', ()))) ∧ s'.size ≤ 1000
  | j, k, s, hj, hk, hs => by
    by_cases h0 : k ≤ 0
    · refine ⟨k, s, loopF_end ?_, by omega⟩
      unfold F86.b0
      exact lt_else h0 rfl
    · cases j with
      | zero => simp at hj; omega
      | succ j =>
        have hr : ∀ x : Tys.D tyBytes, sRoom (bytesStr [x]) s = true := fun x => by
          unfold sRoom; rw [show (bytesStr [x]).size = 1 from rfl]; exact decide_eq_true (by omega)
        have hlt : k / 10 < 10 ^ j := by rw [Int.pow_succ] at hj; omega
        have hstep : ∃ s2 : ByteArray, F86.b0 (k, (s, ())) = some (.inl (k / 10, (s2, ()))) ∧ s2.size = 1 + s.size := by
          refine ⟨sApp (bytesStr [(IntKind.wrap .u8 (iAdd .i64 (48:Int) (iRem k (10:Int))), ())]) s, ?_, ?_⟩
          · unfold F86.b0
            dsimp only
            rw [iLt_true (by omega), cond_true, show iEq (10:Int) 0 = false from rfl, cond_false, mquo10 (by omega) hk]
            exact (congrArg (fun b => bif b then _ else none) (hr _)).trans rfl
          · unfold sApp; rw [ByteArray.size_append]; exact congrArg (· + s.size) rfl
        obtain ⟨s2, h1, h2⟩ := hstep
        rw [loopF_step h1]
        exact mtext_loop j (k / 10) s2 hlt (by omega) (by omega)
theorem mtW_ok {k : Int} (h : 1 ≤ k) (h2 : k ≤ bigM) : F86 ((k, ()), ()) = some ((mtW k, ()), ()) := by
  unfold bigM at h2
  obtain ⟨k', s', h3, h4⟩ := mtext_loop 19 k ⟨#[]⟩ (by omega) (by omega) (by decide)
  have : ∃ v, F86 ((k, ()), ()) = some ((v, ()), ()) := by
    refine ⟨sApp ⟨#[109]⟩ s', ?_⟩
    unfold F86
    dsimp only
    rw [show iLe k 0 = false from decide_eq_false (by omega), cond_false]
    refine bind_eq h3 ?_
    dsimp only [Sum.elim_inl]
    rw [show sRoom ⟨#[109]⟩ s' = true from decide_eq_true (by show 1 + s'.size ≤ _; omega), cond_true]
    try rfl
  obtain ⟨v, hv⟩ := this
  unfold mtW
  rw [hv]
  try rfl
theorem dn {k : Int} {c : Nat} (h : k + ((c : Nat) : Int) ≤ bigM) : k ≤ bigM := by omega
theorem upn {k : Int} {c : Nat} (h : 1 ≤ k) : 1 ≤ k + ((c : Nat) : Int) := by omega
theorem le1 {k : Int} (h : 1 ≤ k) : 0 ≤ k := by omega
theorem asE {k : Int} {a b : Nat} : k + ((a + b : Nat) : Int) = k + ((a : Nat) : Int) + ((b : Nat) : Int) := by omega
theorem mk43 (xs : List (Tys.D e106)) (k : Int) (hk : 1 ≤ k) (hb : k + ((sumW (fun x => e106.ct x) xs : Nat) : Int) ≤ bigM) (hx : (Ty.sl e106).Ok xs) : F43 ((xs, ()), ((k, ()), ())) = some ((k + ((sumW (fun x => e106.ct x) xs : Nat) : Int), ()), ((markL (fun x => e106.ct x) (fun k x => e106.mt mtW k x) xs k, ()), ())) := by
  have hl : xs.length ≤ 9223372036854775807 := hx.1
  have lp := loopMarkP (fun y => e106.Ok y) (S := Int × (Int × (List (Tys.D e106) × Unit))) (f := F43.b0) (fun x => e106.ct x) (fun k x => e106.mt mtW k x) (fun k i ys => (k, (i, (ys, ())))) (fun k ys => Sum.inl (k, ((ys.length : Int), (ys, ())))) bigM xs (fun y hy => Ok_mem hx.2 hy) (fun i ys hi k hyl hpr h1 h2 => ?_) (fun k ys => ?_) k hk hb
  · unfold F43
    exact bind_eq lp rfl
  · unfold F43.b0
    have z0 : k + ((e106.ct ys[i] : Nat) : Int) = k + ((e106.ct ys[i] : Nat) : Int) := rfl
    have q0 : k + ((e106.ct ys[i] : Nat) : Int) ≤ bigM := h2
    have p0 : 1 ≤ k := h1
    have u0 : k = k := rfl
    have z1 := z0.trans (asE (k := k) (a := 1) (b := Tys.ct _ (ys[i].2)))
    have q1 := Int.le_trans (Int.le_of_eq z1.symm) h2
    have p1 : 1 ≤ k + ((1 : Nat) : Int) := upn p0
    have u1 : iAdd .i64 (k) 1 = k + ((1 : Nat) : Int) := (congrArg (fun z => iAdd .i64 z 1) u0).trans (up1 (le1 p0) (dn q1))
    have z2 := z1.trans (asE (k := k + ((1 : Nat) : Int)) (a := 1) (b := Tys.ct _ (ys[i].2.2)))
    have q2 := Int.le_trans (Int.le_of_eq z2.symm) h2
    have p2 : 1 ≤ k + ((1 : Nat) : Int) + ((1 : Nat) : Int) := upn p1
    have u2 : iAdd .i64 (iAdd .i64 (k) 1) 1 = k + ((1 : Nat) : Int) + ((1 : Nat) : Int) := (congrArg (fun z => iAdd .i64 z 1) u1).trans (up1 (le1 p1) (dn q2))
    refine lt_then (Int.ofNat_lt.2 hi) ?_
    refine bind_eq ((congrArg (fun z => F86 ((z, ()), ())) u0).trans (mtW_ok p0 (dn q0))) ?_
    refine bind_eq (getI_lt hi) (bind_eq (getN_nat hi) ?_)
    refine bind_eq (getI_set hi) (bind_eq (getN_set hi) ?_)
    refine st3 (u2.trans ((Int.add_zero _).symm.trans z2.symm)) (nx hi (by omega)) ?_
    refine (set_last (rfl)).trans ?_
    exact congrArg (List.set ys i) (Prod.ext rfl (Prod.ext u1 rfl))
  · unfold F43.b0
    exact lt_else (Int.le_refl _) rfl
theorem mk104 (xs : List (Tys.D e9)) (k : Int) (hk : 1 ≤ k) (hb : k + ((sumW (fun x => e9.ct x) xs : Nat) : Int) ≤ bigM) (hx : (Ty.sl e9).Ok xs) : F104 ((xs, ()), ((k, ()), ())) = some ((k + ((sumW (fun x => e9.ct x) xs : Nat) : Int), ()), ((markL (fun x => e9.ct x) (fun k x => e9.mt mtW k x) xs k, ()), ())) := by
  have hl : xs.length ≤ 9223372036854775807 := hx.1
  have lp := loopMarkP (fun y => e9.Ok y) (S := Int × (Int × (List (Tys.D e9) × Unit))) (f := F104.b0) (fun x => e9.ct x) (fun k x => e9.mt mtW k x) (fun k i ys => (k, (i, (ys, ())))) (fun k ys => Sum.inl (k, ((ys.length : Int), (ys, ())))) bigM xs (fun y hy => Ok_mem hx.2 hy) (fun i ys hi k hyl hpr h1 h2 => ?_) (fun k ys => ?_) k hk hb
  · unfold F104
    exact bind_eq lp rfl
  · unfold F104.b0
    have z0 : k + ((e9.ct ys[i] : Nat) : Int) = k + ((e9.ct ys[i] : Nat) : Int) := rfl
    have q0 : k + ((e9.ct ys[i] : Nat) : Int) ≤ bigM := h2
    have p0 : 1 ≤ k := h1
    have u0 : k = k := rfl
    have z1 := z0.trans (asE (k := k) (a := 1) (b := Tys.ct _ (ys[i].2)))
    have q1 := Int.le_trans (Int.le_of_eq z1.symm) h2
    have p1 : 1 ≤ k + ((1 : Nat) : Int) := upn p0
    have u1 : iAdd .i64 (k) 1 = k + ((1 : Nat) : Int) := (congrArg (fun z => iAdd .i64 z 1) u0).trans (up1 (le1 p0) (dn q1))
    refine lt_then (Int.ofNat_lt.2 hi) ?_
    refine bind_eq ((congrArg (fun z => F86 ((z, ()), ())) u0).trans (mtW_ok p0 (dn q0))) ?_
    refine bind_eq (getI_lt hi) (bind_eq (getN_nat hi) ?_)
    refine st3 (u1.trans ((Int.add_zero _).symm.trans z1.symm)) (nx hi (by omega)) ?_
    refine set_nat.trans ?_
    exact congrArg (List.set ys i) (Prod.ext rfl rfl)
  · unfold F104.b0
    exact lt_else (Int.le_refl _) rfl
theorem mk105 (xs : List (Tys.D e3)) (k : Int) (hk : 1 ≤ k) (hb : k + ((sumW (fun x => e3.ct x) xs : Nat) : Int) ≤ bigM) (hx : (Ty.sl e3).Ok xs) : F105 ((xs, ()), ((k, ()), ())) = some ((k + ((sumW (fun x => e3.ct x) xs : Nat) : Int), ()), ((markL (fun x => e3.ct x) (fun k x => e3.mt mtW k x) xs k, ()), ())) := by
  have hl : xs.length ≤ 9223372036854775807 := hx.1
  have lp := loopMarkP (fun y => e3.Ok y) (S := Int × (Int × (List (Tys.D e3) × Unit))) (f := F105.b0) (fun x => e3.ct x) (fun k x => e3.mt mtW k x) (fun k i ys => (k, (i, (ys, ())))) (fun k ys => Sum.inl (k, ((ys.length : Int), (ys, ())))) bigM xs (fun y hy => Ok_mem hx.2 hy) (fun i ys hi k hyl hpr h1 h2 => ?_) (fun k ys => ?_) k hk hb
  · unfold F105
    exact bind_eq lp rfl
  · unfold F105.b0
    have z0 : k + ((e3.ct ys[i] : Nat) : Int) = k + ((e3.ct ys[i] : Nat) : Int) := rfl
    have q0 : k + ((e3.ct ys[i] : Nat) : Int) ≤ bigM := h2
    have p0 : 1 ≤ k := h1
    have u0 : k = k := rfl
    have z1 := z0.trans (asE (k := k) (a := 1) (b := Tys.ct _ (ys[i].2)))
    have q1 := Int.le_trans (Int.le_of_eq z1.symm) h2
    have p1 : 1 ≤ k + ((1 : Nat) : Int) := upn p0
    have u1 : iAdd .i64 (k) 1 = k + ((1 : Nat) : Int) := (congrArg (fun z => iAdd .i64 z 1) u0).trans (up1 (le1 p0) (dn q1))
    refine lt_then (Int.ofNat_lt.2 hi) ?_
    refine bind_eq (getI_lt hi) (bind_eq (getN_nat hi) ?_)
    refine st3 (u1.trans ((Int.add_zero _).symm.trans z1.symm)) (nx hi (by omega)) ?_
    refine set_nat.trans ?_
    exact congrArg (List.set ys i) (Prod.ext u0 rfl)
  · unfold F105.b0
    exact lt_else (Int.le_refl _) rfl
theorem mk106 (xs : List (Tys.D e198)) (k : Int) (hk : 1 ≤ k) (hb : k + ((sumW (fun x => e198.ct x) xs : Nat) : Int) ≤ bigM) (hx : (Ty.sl e198).Ok xs) : F106 ((xs, ()), ((k, ()), ())) = some ((k + ((sumW (fun x => e198.ct x) xs : Nat) : Int), ()), ((markL (fun x => e198.ct x) (fun k x => e198.mt mtW k x) xs k, ()), ())) := by
  have hl : xs.length ≤ 9223372036854775807 := hx.1
  have lp := loopMarkP (fun y => e198.Ok y) (S := Int × (Int × (List (Tys.D e198) × Unit))) (f := F106.b0) (fun x => e198.ct x) (fun k x => e198.mt mtW k x) (fun k i ys => (k, (i, (ys, ())))) (fun k ys => Sum.inl (k, ((ys.length : Int), (ys, ())))) bigM xs (fun y hy => Ok_mem hx.2 hy) (fun i ys hi k hyl hpr h1 h2 => ?_) (fun k ys => ?_) k hk hb
  · unfold F106
    exact bind_eq lp rfl
  · unfold F106.b0
    have z0 : k + ((e198.ct ys[i] : Nat) : Int) = k + ((e198.ct ys[i] : Nat) : Int) := rfl
    have q0 : k + ((e198.ct ys[i] : Nat) : Int) ≤ bigM := h2
    have p0 : 1 ≤ k := h1
    have u0 : k = k := rfl
    have z1 := z0.trans (asE (k := k) (a := 1) (b := Tys.ct _ (ys[i].2)))
    have q1 := Int.le_trans (Int.le_of_eq z1.symm) h2
    have p1 : 1 ≤ k + ((1 : Nat) : Int) := upn p0
    have u1 : iAdd .i64 (k) 1 = k + ((1 : Nat) : Int) := (congrArg (fun z => iAdd .i64 z 1) u0).trans (up1 (le1 p0) (dn q1))
    have z2 := z1.trans (asE (k := k + ((1 : Nat) : Int)) (a := 1) (b := Tys.ct _ (ys[i].2.2)))
    have q2 := Int.le_trans (Int.le_of_eq z2.symm) h2
    have p2 : 1 ≤ k + ((1 : Nat) : Int) + ((1 : Nat) : Int) := upn p1
    have u2 : iAdd .i64 (iAdd .i64 (k) 1) 1 = k + ((1 : Nat) : Int) + ((1 : Nat) : Int) := (congrArg (fun z => iAdd .i64 z 1) u1).trans (up1 (le1 p1) (dn q2))
    have z3 := z2.trans (asE (k := k + ((1 : Nat) : Int) + ((1 : Nat) : Int)) (a := 1) (b := Tys.ct _ (ys[i].2.2.2)))
    have q3 := Int.le_trans (Int.le_of_eq z3.symm) h2
    have p3 : 1 ≤ k + ((1 : Nat) : Int) + ((1 : Nat) : Int) + ((1 : Nat) : Int) := upn p2
    have u3 : iAdd .i64 (iAdd .i64 (iAdd .i64 (k) 1) 1) 1 = k + ((1 : Nat) : Int) + ((1 : Nat) : Int) + ((1 : Nat) : Int) := (congrArg (fun z => iAdd .i64 z 1) u2).trans (up1 (le1 p2) (dn q3))
    have z4 := z3.trans (asE (k := k + ((1 : Nat) : Int) + ((1 : Nat) : Int) + ((1 : Nat) : Int)) (a := 1) (b := Tys.ct _ (ys[i].2.2.2.2)))
    have q4 := Int.le_trans (Int.le_of_eq z4.symm) h2
    have p4 : 1 ≤ k + ((1 : Nat) : Int) + ((1 : Nat) : Int) + ((1 : Nat) : Int) + ((1 : Nat) : Int) := upn p3
    have u4 : iAdd .i64 (iAdd .i64 (iAdd .i64 (iAdd .i64 (k) 1) 1) 1) 1 = k + ((1 : Nat) : Int) + ((1 : Nat) : Int) + ((1 : Nat) : Int) + ((1 : Nat) : Int) := (congrArg (fun z => iAdd .i64 z 1) u3).trans (up1 (le1 p3) (dn q4))
    have z5 := z4.trans (asE (k := k + ((1 : Nat) : Int) + ((1 : Nat) : Int) + ((1 : Nat) : Int) + ((1 : Nat) : Int)) (a := 1) (b := Tys.ct _ (ys[i].2.2.2.2.2)))
    have q5 := Int.le_trans (Int.le_of_eq z5.symm) h2
    have p5 : 1 ≤ k + ((1 : Nat) : Int) + ((1 : Nat) : Int) + ((1 : Nat) : Int) + ((1 : Nat) : Int) + ((1 : Nat) : Int) := upn p4
    have u5 : iAdd .i64 (iAdd .i64 (iAdd .i64 (iAdd .i64 (iAdd .i64 (k) 1) 1) 1) 1) 1 = k + ((1 : Nat) : Int) + ((1 : Nat) : Int) + ((1 : Nat) : Int) + ((1 : Nat) : Int) + ((1 : Nat) : Int) := (congrArg (fun z => iAdd .i64 z 1) u4).trans (up1 (le1 p4) (dn q5))
    refine lt_then (Int.ofNat_lt.2 hi) ?_
    refine bind_eq (getI_lt hi) (bind_eq (getN_nat hi) ?_)
    refine bind_eq ((congrArg (fun z => F86 ((z, ()), ())) u1).trans (mtW_ok p1 (dn q1))) ?_
    refine bind_eq (getI_set hi) (bind_eq (getN_set hi) ?_)
    refine bind_eq ((congrArg (fun z => F86 ((z, ()), ())) u2).trans (mtW_ok p2 (dn q2))) ?_
    refine bind_eq (getI_set (len_set hi)) (bind_eq (getN_set (len_set hi)) ?_)
    refine bind_eq (getI_set (len_set (len_set hi))) (bind_eq (getN_set (len_set (len_set hi))) ?_)
    refine bind_eq (getI_set (len_set (len_set (len_set hi)))) (bind_eq (getN_set (len_set (len_set (len_set hi)))) ?_)
    refine st3 (u5.trans ((Int.add_zero _).symm.trans z5.symm)) (nx hi (by omega)) ?_
    refine (set_last (set_one.trans (set_one.trans (set_one)))).trans ?_
    exact congrArg (List.set ys i) (Prod.ext u0 (Prod.ext rfl (Prod.ext rfl (Prod.ext u3 (Prod.ext u4 rfl)))))
  · unfold F106.b0
    exact lt_else (Int.le_refl _) rfl
theorem mk64 (xs : List (Tys.D e96)) (k : Int) (hk : 1 ≤ k) (hb : k + ((sumW (fun x => e96.ct x) xs : Nat) : Int) ≤ bigM) (hx : (Ty.sl e96).Ok xs) : F64 ((xs, ()), ((k, ()), ())) = some ((k + ((sumW (fun x => e96.ct x) xs : Nat) : Int), ()), ((markL (fun x => e96.ct x) (fun k x => e96.mt mtW k x) xs k, ()), ())) := by
  have hl : xs.length ≤ 9223372036854775807 := hx.1
  have lp := loopMarkP (fun y => e96.Ok y) (S := Int × (Int × (List (Tys.D e96) × Unit))) (f := F64.b0) (fun x => e96.ct x) (fun k x => e96.mt mtW k x) (fun k i ys => (k, (i, (ys, ())))) (fun k ys => Sum.inl (k, ((ys.length : Int), (ys, ())))) bigM xs (fun y hy => Ok_mem hx.2 hy) (fun i ys hi k hyl hpr h1 h2 => ?_) (fun k ys => ?_) k hk hb
  · unfold F64
    exact bind_eq lp rfl
  · unfold F64.b0
    have z0 : k + ((e96.ct ys[i] : Nat) : Int) = k + ((e96.ct ys[i] : Nat) : Int) := rfl
    have q0 : k + ((e96.ct ys[i] : Nat) : Int) ≤ bigM := h2
    have p0 : 1 ≤ k := h1
    have u0 : k = k := rfl
    have z1 := z0.trans (asE (k := k) (a := 1) (b := Tys.ct _ (ys[i].2)))
    have q1 := Int.le_trans (Int.le_of_eq z1.symm) h2
    have p1 : 1 ≤ k + ((1 : Nat) : Int) := upn p0
    have u1 : iAdd .i64 (k) 1 = k + ((1 : Nat) : Int) := (congrArg (fun z => iAdd .i64 z 1) u0).trans (up1 (le1 p0) (dn q1))
    have z2 := z1.trans (asE (k := k + ((1 : Nat) : Int)) (a := 1) (b := Tys.ct _ (ys[i].2.2)))
    have q2 := Int.le_trans (Int.le_of_eq z2.symm) h2
    have p2 : 1 ≤ k + ((1 : Nat) : Int) + ((1 : Nat) : Int) := upn p1
    have u2 : iAdd .i64 (iAdd .i64 (k) 1) 1 = k + ((1 : Nat) : Int) + ((1 : Nat) : Int) := (congrArg (fun z => iAdd .i64 z 1) u1).trans (up1 (le1 p1) (dn q2))
    have z3 := z2.trans (asE (k := k + ((1 : Nat) : Int) + ((1 : Nat) : Int)) (a := 1) (b := Tys.ct _ (ys[i].2.2.2)))
    have q3 := Int.le_trans (Int.le_of_eq z3.symm) h2
    have p3 : 1 ≤ k + ((1 : Nat) : Int) + ((1 : Nat) : Int) + ((1 : Nat) : Int) := upn p2
    have u3 : iAdd .i64 (iAdd .i64 (iAdd .i64 (k) 1) 1) 1 = k + ((1 : Nat) : Int) + ((1 : Nat) : Int) + ((1 : Nat) : Int) := (congrArg (fun z => iAdd .i64 z 1) u2).trans (up1 (le1 p2) (dn q3))
    have z4 := z3.trans (asE (k := k + ((1 : Nat) : Int) + ((1 : Nat) : Int) + ((1 : Nat) : Int)) (a := 1) (b := Tys.ct _ (ys[i].2.2.2.2)))
    have q4 := Int.le_trans (Int.le_of_eq z4.symm) h2
    have p4 : 1 ≤ k + ((1 : Nat) : Int) + ((1 : Nat) : Int) + ((1 : Nat) : Int) + ((1 : Nat) : Int) := upn p3
    have u4 : iAdd .i64 (iAdd .i64 (iAdd .i64 (iAdd .i64 (k) 1) 1) 1) 1 = k + ((1 : Nat) : Int) + ((1 : Nat) : Int) + ((1 : Nat) : Int) + ((1 : Nat) : Int) := (congrArg (fun z => iAdd .i64 z 1) u3).trans (up1 (le1 p3) (dn q4))
    have z5 := z4.trans (asE (k := k + ((1 : Nat) : Int) + ((1 : Nat) : Int) + ((1 : Nat) : Int) + ((1 : Nat) : Int)) (a := 1) (b := Tys.ct _ (ys[i].2.2.2.2.2)))
    have q5 := Int.le_trans (Int.le_of_eq z5.symm) h2
    have p5 : 1 ≤ k + ((1 : Nat) : Int) + ((1 : Nat) : Int) + ((1 : Nat) : Int) + ((1 : Nat) : Int) + ((1 : Nat) : Int) := upn p4
    have u5 : iAdd .i64 (iAdd .i64 (iAdd .i64 (iAdd .i64 (iAdd .i64 (k) 1) 1) 1) 1) 1 = k + ((1 : Nat) : Int) + ((1 : Nat) : Int) + ((1 : Nat) : Int) + ((1 : Nat) : Int) + ((1 : Nat) : Int) := (congrArg (fun z => iAdd .i64 z 1) u4).trans (up1 (le1 p4) (dn q5))
    have z6 := z5.trans (asE (k := k + ((1 : Nat) : Int) + ((1 : Nat) : Int) + ((1 : Nat) : Int) + ((1 : Nat) : Int) + ((1 : Nat) : Int)) (a := 1) (b := Tys.ct _ (ys[i].2.2.2.2.2.2)))
    have q6 := Int.le_trans (Int.le_of_eq z6.symm) h2
    have p6 : 1 ≤ k + ((1 : Nat) : Int) + ((1 : Nat) : Int) + ((1 : Nat) : Int) + ((1 : Nat) : Int) + ((1 : Nat) : Int) + ((1 : Nat) : Int) := upn p5
    have u6 : iAdd .i64 (iAdd .i64 (iAdd .i64 (iAdd .i64 (iAdd .i64 (iAdd .i64 (k) 1) 1) 1) 1) 1) 1 = k + ((1 : Nat) : Int) + ((1 : Nat) : Int) + ((1 : Nat) : Int) + ((1 : Nat) : Int) + ((1 : Nat) : Int) + ((1 : Nat) : Int) := (congrArg (fun z => iAdd .i64 z 1) u5).trans (up1 (le1 p5) (dn q6))
    have z7 := z6.trans (asE (k := k + ((1 : Nat) : Int) + ((1 : Nat) : Int) + ((1 : Nat) : Int) + ((1 : Nat) : Int) + ((1 : Nat) : Int) + ((1 : Nat) : Int)) (a := sumW (fun x => e9.ct x) ys[i].2.2.2.2.2.2.1) (b := Tys.ct _ (ys[i].2.2.2.2.2.2.2)))
    have q7 := Int.le_trans (Int.le_of_eq z7.symm) h2
    have p7 : 1 ≤ k + ((1 : Nat) : Int) + ((1 : Nat) : Int) + ((1 : Nat) : Int) + ((1 : Nat) : Int) + ((1 : Nat) : Int) + ((1 : Nat) : Int) + ((sumW (fun x => e9.ct x) ys[i].2.2.2.2.2.2.1 : Nat) : Int) := upn p6
    have u7 : k + ((1 : Nat) : Int) + ((1 : Nat) : Int) + ((1 : Nat) : Int) + ((1 : Nat) : Int) + ((1 : Nat) : Int) + ((1 : Nat) : Int) + ((sumW (fun x => e9.ct x) ys[i].2.2.2.2.2.2.1 : Nat) : Int) = k + ((1 : Nat) : Int) + ((1 : Nat) : Int) + ((1 : Nat) : Int) + ((1 : Nat) : Int) + ((1 : Nat) : Int) + ((1 : Nat) : Int) + ((sumW (fun x => e9.ct x) ys[i].2.2.2.2.2.2.1 : Nat) : Int) := rfl
    have z8 := z7.trans (asE (k := k + ((1 : Nat) : Int) + ((1 : Nat) : Int) + ((1 : Nat) : Int) + ((1 : Nat) : Int) + ((1 : Nat) : Int) + ((1 : Nat) : Int) + ((sumW (fun x => e9.ct x) ys[i].2.2.2.2.2.2.1 : Nat) : Int)) (a := 1) (b := Tys.ct _ (ys[i].2.2.2.2.2.2.2.2)))
    have q8 := Int.le_trans (Int.le_of_eq z8.symm) h2
    have p8 : 1 ≤ k + ((1 : Nat) : Int) + ((1 : Nat) : Int) + ((1 : Nat) : Int) + ((1 : Nat) : Int) + ((1 : Nat) : Int) + ((1 : Nat) : Int) + ((sumW (fun x => e9.ct x) ys[i].2.2.2.2.2.2.1 : Nat) : Int) + ((1 : Nat) : Int) := upn p7
    have u8 : iAdd .i64 (k + ((1 : Nat) : Int) + ((1 : Nat) : Int) + ((1 : Nat) : Int) + ((1 : Nat) : Int) + ((1 : Nat) : Int) + ((1 : Nat) : Int) + ((sumW (fun x => e9.ct x) ys[i].2.2.2.2.2.2.1 : Nat) : Int)) 1 = k + ((1 : Nat) : Int) + ((1 : Nat) : Int) + ((1 : Nat) : Int) + ((1 : Nat) : Int) + ((1 : Nat) : Int) + ((1 : Nat) : Int) + ((sumW (fun x => e9.ct x) ys[i].2.2.2.2.2.2.1 : Nat) : Int) + ((1 : Nat) : Int) := (congrArg (fun z => iAdd .i64 z 1) u7).trans (up1 (le1 p7) (dn q8))
    have z9 := z8.trans (asE (k := k + ((1 : Nat) : Int) + ((1 : Nat) : Int) + ((1 : Nat) : Int) + ((1 : Nat) : Int) + ((1 : Nat) : Int) + ((1 : Nat) : Int) + ((sumW (fun x => e9.ct x) ys[i].2.2.2.2.2.2.1 : Nat) : Int) + ((1 : Nat) : Int)) (a := sumW (fun x => e9.ct x) ys[i].2.2.2.2.2.2.2.2.1) (b := Tys.ct _ (ys[i].2.2.2.2.2.2.2.2.2)))
    have q9 := Int.le_trans (Int.le_of_eq z9.symm) h2
    have p9 : 1 ≤ k + ((1 : Nat) : Int) + ((1 : Nat) : Int) + ((1 : Nat) : Int) + ((1 : Nat) : Int) + ((1 : Nat) : Int) + ((1 : Nat) : Int) + ((sumW (fun x => e9.ct x) ys[i].2.2.2.2.2.2.1 : Nat) : Int) + ((1 : Nat) : Int) + ((sumW (fun x => e9.ct x) ys[i].2.2.2.2.2.2.2.2.1 : Nat) : Int) := upn p8
    have u9 : k + ((1 : Nat) : Int) + ((1 : Nat) : Int) + ((1 : Nat) : Int) + ((1 : Nat) : Int) + ((1 : Nat) : Int) + ((1 : Nat) : Int) + ((sumW (fun x => e9.ct x) ys[i].2.2.2.2.2.2.1 : Nat) : Int) + ((1 : Nat) : Int) + ((sumW (fun x => e9.ct x) ys[i].2.2.2.2.2.2.2.2.1 : Nat) : Int) = k + ((1 : Nat) : Int) + ((1 : Nat) : Int) + ((1 : Nat) : Int) + ((1 : Nat) : Int) + ((1 : Nat) : Int) + ((1 : Nat) : Int) + ((sumW (fun x => e9.ct x) ys[i].2.2.2.2.2.2.1 : Nat) : Int) + ((1 : Nat) : Int) + ((sumW (fun x => e9.ct x) ys[i].2.2.2.2.2.2.2.2.1 : Nat) : Int) := rfl
    have z10 := z9.trans (asE (k := k + ((1 : Nat) : Int) + ((1 : Nat) : Int) + ((1 : Nat) : Int) + ((1 : Nat) : Int) + ((1 : Nat) : Int) + ((1 : Nat) : Int) + ((sumW (fun x => e9.ct x) ys[i].2.2.2.2.2.2.1 : Nat) : Int) + ((1 : Nat) : Int) + ((sumW (fun x => e9.ct x) ys[i].2.2.2.2.2.2.2.2.1 : Nat) : Int)) (a := sumW (fun x => e3.ct x) ys[i].2.2.2.2.2.2.2.2.2.1) (b := Tys.ct _ (ys[i].2.2.2.2.2.2.2.2.2.2)))
    have q10 := Int.le_trans (Int.le_of_eq z10.symm) h2
    have p10 : 1 ≤ k + ((1 : Nat) : Int) + ((1 : Nat) : Int) + ((1 : Nat) : Int) + ((1 : Nat) : Int) + ((1 : Nat) : Int) + ((1 : Nat) : Int) + ((sumW (fun x => e9.ct x) ys[i].2.2.2.2.2.2.1 : Nat) : Int) + ((1 : Nat) : Int) + ((sumW (fun x => e9.ct x) ys[i].2.2.2.2.2.2.2.2.1 : Nat) : Int) + ((sumW (fun x => e3.ct x) ys[i].2.2.2.2.2.2.2.2.2.1 : Nat) : Int) := upn p9
    have u10 : k + ((1 : Nat) : Int) + ((1 : Nat) : Int) + ((1 : Nat) : Int) + ((1 : Nat) : Int) + ((1 : Nat) : Int) + ((1 : Nat) : Int) + ((sumW (fun x => e9.ct x) ys[i].2.2.2.2.2.2.1 : Nat) : Int) + ((1 : Nat) : Int) + ((sumW (fun x => e9.ct x) ys[i].2.2.2.2.2.2.2.2.1 : Nat) : Int) + ((sumW (fun x => e3.ct x) ys[i].2.2.2.2.2.2.2.2.2.1 : Nat) : Int) = k + ((1 : Nat) : Int) + ((1 : Nat) : Int) + ((1 : Nat) : Int) + ((1 : Nat) : Int) + ((1 : Nat) : Int) + ((1 : Nat) : Int) + ((sumW (fun x => e9.ct x) ys[i].2.2.2.2.2.2.1 : Nat) : Int) + ((1 : Nat) : Int) + ((sumW (fun x => e9.ct x) ys[i].2.2.2.2.2.2.2.2.1 : Nat) : Int) + ((sumW (fun x => e3.ct x) ys[i].2.2.2.2.2.2.2.2.2.1 : Nat) : Int) := rfl
    have z11 := z10.trans (asE (k := k + ((1 : Nat) : Int) + ((1 : Nat) : Int) + ((1 : Nat) : Int) + ((1 : Nat) : Int) + ((1 : Nat) : Int) + ((1 : Nat) : Int) + ((sumW (fun x => e9.ct x) ys[i].2.2.2.2.2.2.1 : Nat) : Int) + ((1 : Nat) : Int) + ((sumW (fun x => e9.ct x) ys[i].2.2.2.2.2.2.2.2.1 : Nat) : Int) + ((sumW (fun x => e3.ct x) ys[i].2.2.2.2.2.2.2.2.2.1 : Nat) : Int)) (a := sumW (fun x => e198.ct x) ys[i].2.2.2.2.2.2.2.2.2.2.1) (b := Tys.ct _ (ys[i].2.2.2.2.2.2.2.2.2.2.2)))
    have q11 := Int.le_trans (Int.le_of_eq z11.symm) h2
    have p11 : 1 ≤ k + ((1 : Nat) : Int) + ((1 : Nat) : Int) + ((1 : Nat) : Int) + ((1 : Nat) : Int) + ((1 : Nat) : Int) + ((1 : Nat) : Int) + ((sumW (fun x => e9.ct x) ys[i].2.2.2.2.2.2.1 : Nat) : Int) + ((1 : Nat) : Int) + ((sumW (fun x => e9.ct x) ys[i].2.2.2.2.2.2.2.2.1 : Nat) : Int) + ((sumW (fun x => e3.ct x) ys[i].2.2.2.2.2.2.2.2.2.1 : Nat) : Int) + ((sumW (fun x => e198.ct x) ys[i].2.2.2.2.2.2.2.2.2.2.1 : Nat) : Int) := upn p10
    have u11 : k + ((1 : Nat) : Int) + ((1 : Nat) : Int) + ((1 : Nat) : Int) + ((1 : Nat) : Int) + ((1 : Nat) : Int) + ((1 : Nat) : Int) + ((sumW (fun x => e9.ct x) ys[i].2.2.2.2.2.2.1 : Nat) : Int) + ((1 : Nat) : Int) + ((sumW (fun x => e9.ct x) ys[i].2.2.2.2.2.2.2.2.1 : Nat) : Int) + ((sumW (fun x => e3.ct x) ys[i].2.2.2.2.2.2.2.2.2.1 : Nat) : Int) + ((sumW (fun x => e198.ct x) ys[i].2.2.2.2.2.2.2.2.2.2.1 : Nat) : Int) = k + ((1 : Nat) : Int) + ((1 : Nat) : Int) + ((1 : Nat) : Int) + ((1 : Nat) : Int) + ((1 : Nat) : Int) + ((1 : Nat) : Int) + ((sumW (fun x => e9.ct x) ys[i].2.2.2.2.2.2.1 : Nat) : Int) + ((1 : Nat) : Int) + ((sumW (fun x => e9.ct x) ys[i].2.2.2.2.2.2.2.2.1 : Nat) : Int) + ((sumW (fun x => e3.ct x) ys[i].2.2.2.2.2.2.2.2.2.1 : Nat) : Int) + ((sumW (fun x => e198.ct x) ys[i].2.2.2.2.2.2.2.2.2.2.1 : Nat) : Int) := rfl
    have z12 := z11.trans (asE (k := k + ((1 : Nat) : Int) + ((1 : Nat) : Int) + ((1 : Nat) : Int) + ((1 : Nat) : Int) + ((1 : Nat) : Int) + ((1 : Nat) : Int) + ((sumW (fun x => e9.ct x) ys[i].2.2.2.2.2.2.1 : Nat) : Int) + ((1 : Nat) : Int) + ((sumW (fun x => e9.ct x) ys[i].2.2.2.2.2.2.2.2.1 : Nat) : Int) + ((sumW (fun x => e3.ct x) ys[i].2.2.2.2.2.2.2.2.2.1 : Nat) : Int) + ((sumW (fun x => e198.ct x) ys[i].2.2.2.2.2.2.2.2.2.2.1 : Nat) : Int)) (a := 1) (b := Tys.ct _ (ys[i].2.2.2.2.2.2.2.2.2.2.2.2)))
    have q12 := Int.le_trans (Int.le_of_eq z12.symm) h2
    have p12 : 1 ≤ k + ((1 : Nat) : Int) + ((1 : Nat) : Int) + ((1 : Nat) : Int) + ((1 : Nat) : Int) + ((1 : Nat) : Int) + ((1 : Nat) : Int) + ((sumW (fun x => e9.ct x) ys[i].2.2.2.2.2.2.1 : Nat) : Int) + ((1 : Nat) : Int) + ((sumW (fun x => e9.ct x) ys[i].2.2.2.2.2.2.2.2.1 : Nat) : Int) + ((sumW (fun x => e3.ct x) ys[i].2.2.2.2.2.2.2.2.2.1 : Nat) : Int) + ((sumW (fun x => e198.ct x) ys[i].2.2.2.2.2.2.2.2.2.2.1 : Nat) : Int) + ((1 : Nat) : Int) := upn p11
    have u12 : iAdd .i64 (k + ((1 : Nat) : Int) + ((1 : Nat) : Int) + ((1 : Nat) : Int) + ((1 : Nat) : Int) + ((1 : Nat) : Int) + ((1 : Nat) : Int) + ((sumW (fun x => e9.ct x) ys[i].2.2.2.2.2.2.1 : Nat) : Int) + ((1 : Nat) : Int) + ((sumW (fun x => e9.ct x) ys[i].2.2.2.2.2.2.2.2.1 : Nat) : Int) + ((sumW (fun x => e3.ct x) ys[i].2.2.2.2.2.2.2.2.2.1 : Nat) : Int) + ((sumW (fun x => e198.ct x) ys[i].2.2.2.2.2.2.2.2.2.2.1 : Nat) : Int)) 1 = k + ((1 : Nat) : Int) + ((1 : Nat) : Int) + ((1 : Nat) : Int) + ((1 : Nat) : Int) + ((1 : Nat) : Int) + ((1 : Nat) : Int) + ((sumW (fun x => e9.ct x) ys[i].2.2.2.2.2.2.1 : Nat) : Int) + ((1 : Nat) : Int) + ((sumW (fun x => e9.ct x) ys[i].2.2.2.2.2.2.2.2.1 : Nat) : Int) + ((sumW (fun x => e3.ct x) ys[i].2.2.2.2.2.2.2.2.2.1 : Nat) : Int) + ((sumW (fun x => e198.ct x) ys[i].2.2.2.2.2.2.2.2.2.2.1 : Nat) : Int) + ((1 : Nat) : Int) := (congrArg (fun z => iAdd .i64 z 1) u11).trans (up1 (le1 p11) (dn q12))
    have z13 := z12.trans (asE (k := k + ((1 : Nat) : Int) + ((1 : Nat) : Int) + ((1 : Nat) : Int) + ((1 : Nat) : Int) + ((1 : Nat) : Int) + ((1 : Nat) : Int) + ((sumW (fun x => e9.ct x) ys[i].2.2.2.2.2.2.1 : Nat) : Int) + ((1 : Nat) : Int) + ((sumW (fun x => e9.ct x) ys[i].2.2.2.2.2.2.2.2.1 : Nat) : Int) + ((sumW (fun x => e3.ct x) ys[i].2.2.2.2.2.2.2.2.2.1 : Nat) : Int) + ((sumW (fun x => e198.ct x) ys[i].2.2.2.2.2.2.2.2.2.2.1 : Nat) : Int) + ((1 : Nat) : Int)) (a := sumW (fun x => e106.ct x) ys[i].2.2.2.2.2.2.2.2.2.2.2.2.1) (b := Tys.ct _ (ys[i].2.2.2.2.2.2.2.2.2.2.2.2.2)))
    have q13 := Int.le_trans (Int.le_of_eq z13.symm) h2
    have p13 : 1 ≤ k + ((1 : Nat) : Int) + ((1 : Nat) : Int) + ((1 : Nat) : Int) + ((1 : Nat) : Int) + ((1 : Nat) : Int) + ((1 : Nat) : Int) + ((sumW (fun x => e9.ct x) ys[i].2.2.2.2.2.2.1 : Nat) : Int) + ((1 : Nat) : Int) + ((sumW (fun x => e9.ct x) ys[i].2.2.2.2.2.2.2.2.1 : Nat) : Int) + ((sumW (fun x => e3.ct x) ys[i].2.2.2.2.2.2.2.2.2.1 : Nat) : Int) + ((sumW (fun x => e198.ct x) ys[i].2.2.2.2.2.2.2.2.2.2.1 : Nat) : Int) + ((1 : Nat) : Int) + ((sumW (fun x => e106.ct x) ys[i].2.2.2.2.2.2.2.2.2.2.2.2.1 : Nat) : Int) := upn p12
    have u13 : k + ((1 : Nat) : Int) + ((1 : Nat) : Int) + ((1 : Nat) : Int) + ((1 : Nat) : Int) + ((1 : Nat) : Int) + ((1 : Nat) : Int) + ((sumW (fun x => e9.ct x) ys[i].2.2.2.2.2.2.1 : Nat) : Int) + ((1 : Nat) : Int) + ((sumW (fun x => e9.ct x) ys[i].2.2.2.2.2.2.2.2.1 : Nat) : Int) + ((sumW (fun x => e3.ct x) ys[i].2.2.2.2.2.2.2.2.2.1 : Nat) : Int) + ((sumW (fun x => e198.ct x) ys[i].2.2.2.2.2.2.2.2.2.2.1 : Nat) : Int) + ((1 : Nat) : Int) + ((sumW (fun x => e106.ct x) ys[i].2.2.2.2.2.2.2.2.2.2.2.2.1 : Nat) : Int) = k + ((1 : Nat) : Int) + ((1 : Nat) : Int) + ((1 : Nat) : Int) + ((1 : Nat) : Int) + ((1 : Nat) : Int) + ((1 : Nat) : Int) + ((sumW (fun x => e9.ct x) ys[i].2.2.2.2.2.2.1 : Nat) : Int) + ((1 : Nat) : Int) + ((sumW (fun x => e9.ct x) ys[i].2.2.2.2.2.2.2.2.1 : Nat) : Int) + ((sumW (fun x => e3.ct x) ys[i].2.2.2.2.2.2.2.2.2.1 : Nat) : Int) + ((sumW (fun x => e198.ct x) ys[i].2.2.2.2.2.2.2.2.2.2.1 : Nat) : Int) + ((1 : Nat) : Int) + ((sumW (fun x => e106.ct x) ys[i].2.2.2.2.2.2.2.2.2.2.2.2.1 : Nat) : Int) := rfl
    have z14 := z13.trans (asE (k := k + ((1 : Nat) : Int) + ((1 : Nat) : Int) + ((1 : Nat) : Int) + ((1 : Nat) : Int) + ((1 : Nat) : Int) + ((1 : Nat) : Int) + ((sumW (fun x => e9.ct x) ys[i].2.2.2.2.2.2.1 : Nat) : Int) + ((1 : Nat) : Int) + ((sumW (fun x => e9.ct x) ys[i].2.2.2.2.2.2.2.2.1 : Nat) : Int) + ((sumW (fun x => e3.ct x) ys[i].2.2.2.2.2.2.2.2.2.1 : Nat) : Int) + ((sumW (fun x => e198.ct x) ys[i].2.2.2.2.2.2.2.2.2.2.1 : Nat) : Int) + ((1 : Nat) : Int) + ((sumW (fun x => e106.ct x) ys[i].2.2.2.2.2.2.2.2.2.2.2.2.1 : Nat) : Int)) (a := 1) (b := Tys.ct _ (ys[i].2.2.2.2.2.2.2.2.2.2.2.2.2.2)))
    have q14 := Int.le_trans (Int.le_of_eq z14.symm) h2
    have p14 : 1 ≤ k + ((1 : Nat) : Int) + ((1 : Nat) : Int) + ((1 : Nat) : Int) + ((1 : Nat) : Int) + ((1 : Nat) : Int) + ((1 : Nat) : Int) + ((sumW (fun x => e9.ct x) ys[i].2.2.2.2.2.2.1 : Nat) : Int) + ((1 : Nat) : Int) + ((sumW (fun x => e9.ct x) ys[i].2.2.2.2.2.2.2.2.1 : Nat) : Int) + ((sumW (fun x => e3.ct x) ys[i].2.2.2.2.2.2.2.2.2.1 : Nat) : Int) + ((sumW (fun x => e198.ct x) ys[i].2.2.2.2.2.2.2.2.2.2.1 : Nat) : Int) + ((1 : Nat) : Int) + ((sumW (fun x => e106.ct x) ys[i].2.2.2.2.2.2.2.2.2.2.2.2.1 : Nat) : Int) + ((1 : Nat) : Int) := upn p13
    have u14 : iAdd .i64 (k + ((1 : Nat) : Int) + ((1 : Nat) : Int) + ((1 : Nat) : Int) + ((1 : Nat) : Int) + ((1 : Nat) : Int) + ((1 : Nat) : Int) + ((sumW (fun x => e9.ct x) ys[i].2.2.2.2.2.2.1 : Nat) : Int) + ((1 : Nat) : Int) + ((sumW (fun x => e9.ct x) ys[i].2.2.2.2.2.2.2.2.1 : Nat) : Int) + ((sumW (fun x => e3.ct x) ys[i].2.2.2.2.2.2.2.2.2.1 : Nat) : Int) + ((sumW (fun x => e198.ct x) ys[i].2.2.2.2.2.2.2.2.2.2.1 : Nat) : Int) + ((1 : Nat) : Int) + ((sumW (fun x => e106.ct x) ys[i].2.2.2.2.2.2.2.2.2.2.2.2.1 : Nat) : Int)) 1 = k + ((1 : Nat) : Int) + ((1 : Nat) : Int) + ((1 : Nat) : Int) + ((1 : Nat) : Int) + ((1 : Nat) : Int) + ((1 : Nat) : Int) + ((sumW (fun x => e9.ct x) ys[i].2.2.2.2.2.2.1 : Nat) : Int) + ((1 : Nat) : Int) + ((sumW (fun x => e9.ct x) ys[i].2.2.2.2.2.2.2.2.1 : Nat) : Int) + ((sumW (fun x => e3.ct x) ys[i].2.2.2.2.2.2.2.2.2.1 : Nat) : Int) + ((sumW (fun x => e198.ct x) ys[i].2.2.2.2.2.2.2.2.2.2.1 : Nat) : Int) + ((1 : Nat) : Int) + ((sumW (fun x => e106.ct x) ys[i].2.2.2.2.2.2.2.2.2.2.2.2.1 : Nat) : Int) + ((1 : Nat) : Int) := (congrArg (fun z => iAdd .i64 z 1) u13).trans (up1 (le1 p13) (dn q14))
    refine lt_then (Int.ofNat_lt.2 hi) ?_
    refine bind_eq (getI_lt hi) (bind_eq (getN_nat hi) ?_)
    refine bind_eq (getI_set hi) (bind_eq (getN_set hi) ?_)
    refine bind_eq (getI_set (len_set hi)) (bind_eq (getN_set (len_set hi)) ?_)
    refine bind_eq ((congrArg (fun z => F86 ((z, ()), ())) u3).trans (mtW_ok p3 (dn q3))) ?_
    refine bind_eq (getI_set (len_set (len_set hi))) (bind_eq (getN_set (len_set (len_set hi))) ?_)
    refine bind_eq (getI_set (len_set (len_set (len_set hi)))) (bind_eq (getN_set (len_set (len_set (len_set hi)))) ?_)
    refine bind_eq (getI_set (len_set (len_set (len_set (len_set hi))))) (bind_eq (getN_set (len_set (len_set (len_set (len_set hi))))) ?_)
    refine bind_eq (getI_set (len_set (len_set (len_set (len_set (len_set hi)))))) (bind_eq (getN_set (len_set (len_set (len_set (len_set (len_set hi)))))) ?_)
    refine bind_eq (getN_set (len_set (len_set (len_set (len_set (len_set hi)))))) ?_
    refine bind_eq ((congrArg (fun z => F104 ((ys[i].2.2.2.2.2.2.1, ()), ((z, ()), ()))) u6).trans (mk104 ys[i].2.2.2.2.2.2.1 _ p6 (dn q7) hpr.2.2.2.2.2.2.1)) ?_
    refine bind_eq (getI_set (len_set (len_set (len_set (len_set (len_set (len_set hi))))))) (bind_eq (getN_set (len_set (len_set (len_set (len_set (len_set (len_set hi))))))) ?_)
    refine bind_eq (getI_set (len_set (len_set (len_set (len_set (len_set (len_set (len_set hi)))))))) (bind_eq (getN_set (len_set (len_set (len_set (len_set (len_set (len_set (len_set hi)))))))) ?_)
    refine bind_eq (getN_set (len_set (len_set (len_set (len_set (len_set (len_set (len_set hi)))))))) ?_
    refine bind_eq ((congrArg (fun z => F104 ((ys[i].2.2.2.2.2.2.2.2.1, ()), ((z, ()), ()))) u8).trans (mk104 ys[i].2.2.2.2.2.2.2.2.1 _ p8 (dn q9) hpr.2.2.2.2.2.2.2.2.1)) ?_
    refine bind_eq (getI_set (len_set (len_set (len_set (len_set (len_set (len_set (len_set (len_set hi))))))))) (bind_eq (getN_set (len_set (len_set (len_set (len_set (len_set (len_set (len_set (len_set hi))))))))) ?_)
    refine bind_eq (getN_set (len_set (len_set (len_set (len_set (len_set (len_set (len_set (len_set hi))))))))) ?_
    refine bind_eq ((congrArg (fun z => F105 ((ys[i].2.2.2.2.2.2.2.2.2.1, ()), ((z, ()), ()))) u9).trans (mk105 ys[i].2.2.2.2.2.2.2.2.2.1 _ p9 (dn q10) hpr.2.2.2.2.2.2.2.2.2.1)) ?_
    refine bind_eq (getI_set (len_set (len_set (len_set (len_set (len_set (len_set (len_set (len_set (len_set hi)))))))))) (bind_eq (getN_set (len_set (len_set (len_set (len_set (len_set (len_set (len_set (len_set (len_set hi)))))))))) ?_)
    refine bind_eq (getN_set (len_set (len_set (len_set (len_set (len_set (len_set (len_set (len_set (len_set hi)))))))))) ?_
    refine bind_eq ((congrArg (fun z => F106 ((ys[i].2.2.2.2.2.2.2.2.2.2.1, ()), ((z, ()), ()))) u10).trans (mk106 ys[i].2.2.2.2.2.2.2.2.2.2.1 _ p10 (dn q11) hpr.2.2.2.2.2.2.2.2.2.2.1)) ?_
    refine no_then rfl ?_
    refine bind_eq (getI_set (len_set (len_set (len_set (len_set (len_set (len_set (len_set (len_set (len_set (len_set hi))))))))))) (bind_eq (getN_set (len_set (len_set (len_set (len_set (len_set (len_set (len_set (len_set (len_set (len_set hi))))))))))) ?_)
    refine bind_eq (getI_set (len_set (len_set (len_set (len_set (len_set (len_set (len_set (len_set (len_set (len_set (len_set hi)))))))))))) (bind_eq (getN_set (len_set (len_set (len_set (len_set (len_set (len_set (len_set (len_set (len_set (len_set (len_set hi)))))))))))) ?_)
    refine bind_eq (getN_set (len_set (len_set (len_set (len_set (len_set (len_set (len_set (len_set (len_set (len_set (len_set hi)))))))))))) ?_
    refine bind_eq ((congrArg (fun z => F43 ((ys[i].2.2.2.2.2.2.2.2.2.2.2.2.1, ()), ((z, ()), ()))) u12).trans (mk43 ys[i].2.2.2.2.2.2.2.2.2.2.2.2.1 _ p12 (dn q13) hpr.2.2.2.2.2.2.2.2.2.2.2.2.1)) ?_
    refine bind_eq ((congrArg (fun z => F86 ((z, ()), ())) u13).trans (mtW_ok p13 (dn q13))) ?_
    refine bind_eq (getI_set (len_set (len_set (len_set (len_set (len_set (len_set (len_set (len_set (len_set (len_set (len_set (len_set hi))))))))))))) (bind_eq (getN_set (len_set (len_set (len_set (len_set (len_set (len_set (len_set (len_set (len_set (len_set (len_set (len_set hi))))))))))))) ?_)
    refine st3 (u14.trans ((Int.add_zero _).symm.trans z14.symm)) (nx hi (by omega)) ?_
    refine (set_last (set_one.trans (set_one.trans (set_one.trans (set_one.trans (set_one.trans (set_one.trans (set_one.trans (set_one.trans (set_one.trans (set_one.trans (set_one.trans (set_one))))))))))))).trans ?_
    exact congrArg (List.set ys i) (Prod.ext u0 (Prod.ext u1 (Prod.ext u2 (Prod.ext rfl (Prod.ext u4 (Prod.ext u5 (Prod.ext rfl (Prod.ext u7 (Prod.ext rfl (Prod.ext rfl (Prod.ext rfl (Prod.ext (congrArg (fun z => iEq (iRem z 3) 0) u11) (Prod.ext rfl (Prod.ext rfl rfl))))))))))))))
  · unfold F64.b0
    exact lt_else (Int.le_refl _) rfl
theorem hd44 (xs : List (Tys.D e106)) (k : Int) (hk : 1 ≤ k) (hb : k + ((sumW (fun x => e106.ct x) xs : Nat) : Int) ≤ bigM) (hx : (Ty.sl e106).Ok xs) : F44 ((markL (fun x => e106.ct x) (fun k x => e106.mt mtW k x) xs k, ()), ((k, ()), ())) = some ((k + ((sumW (fun x => e106.ct x) xs : Nat) : Int), ()), ()) := by
  have hl : xs.length ≤ 9223372036854775807 := hx.1
  have hlen := markL_length (fun x => e106.ct x) (fun k x => e106.mt mtW k x) xs k
  have lp := loopHeldP (S := Int × (Int × Unit)) (f := F44.b0 ((markL (fun x => e106.ct x) (fun k x => e106.mt mtW k x) xs k, ()), ((k, ()), ()))) (fun x => e106.ct x) (fun k x => e106.mt mtW k x) (fun k i => (k, (i, ()))) (fun k => Sum.inl (k, ((xs.length : Int), ()))) bigM xs k (fun i x k hxi hi h1 h2 => ?_) (fun k => ?_) hk hb
  · unfold F44
    exact bind_eq lp rfl
  · unfold F44.b0
    have hpr : e106.Ok x := hx.2 i x hxi
    obtain ⟨hlt, he⟩ := List.getElem?_eq_some_iff.1 hi
    have z0 : k + ((e106.ct x : Nat) : Int) = k + ((e106.ct x : Nat) : Int) := rfl
    have q0 : k + ((e106.ct x : Nat) : Int) ≤ bigM := h2
    have p0 : 1 ≤ k := h1
    have u0 : k = k := rfl
    have z1 := z0.trans (asE (k := k) (a := 1) (b := Tys.ct _ (x.2)))
    have q1 := Int.le_trans (Int.le_of_eq z1.symm) h2
    have p1 : 1 ≤ k + ((1 : Nat) : Int) := upn p0
    have u1 : iAdd .i64 (k) 1 = k + ((1 : Nat) : Int) := (congrArg (fun z => iAdd .i64 z 1) u0).trans (up1 (le1 p0) (dn q1))
    have z2 := z1.trans (asE (k := k + ((1 : Nat) : Int)) (a := 1) (b := Tys.ct _ (x.2.2)))
    have q2 := Int.le_trans (Int.le_of_eq z2.symm) h2
    have p2 : 1 ≤ k + ((1 : Nat) : Int) + ((1 : Nat) : Int) := upn p1
    have u2 : iAdd .i64 (iAdd .i64 (k) 1) 1 = k + ((1 : Nat) : Int) + ((1 : Nat) : Int) := (congrArg (fun z => iAdd .i64 z 1) u1).trans (up1 (le1 p1) (dn q2))
    refine lt_then (Int.ofNat_lt.2 hlt) ?_
    refine bind_eq ((getI_lt hlt).trans (congrArg some he)) ?_
    refine bind_eq ((congrArg (fun z => F86 ((z, ()), ())) u0).trans (mtW_ok p0 (dn q0))) (eq_str ?_)
    refine bind_eq ((getI_lt hlt).trans (congrArg some he)) ?_
    refine (congrArg (fun z => bif !iEq _ z then _ else _) u1).trans (eq_int ?_)
    exact st2 (u2.trans ((Int.add_zero _).symm.trans z2.symm)) (nx (n := xs.length) (by omega) hl)
  · unfold F44.b0
    exact lt_else (Int.ofNat_le.2 (Nat.le_of_eq hlen)) rfl
theorem smk15 (x : (Int × (List (Tys.D e106) × (Unit)))) (k : Int) (hk : 1 ≤ k) (hb : k + ((sumW (fun x => e106.ct x) x.2.1 : Nat) : Int) ≤ bigM) (ok0 : (Ty.sl e106).Ok x.2.1) : F15 (x, ((k, ()), ())) = some (((k + ((sumW (fun x => e106.ct x) x.2.1 : Nat) : Int) : Int), ()), ((x.1, (markL (fun x => e106.ct x) (fun k x => e106.mt mtW k x) x.2.1 (k), ())), ())) := by
  have q1 : k + ((sumW (fun x => e106.ct x) x.2.1 : Nat) : Int) ≤ bigM := hb
  have q0 : k ≤ bigM := dn q1
  have p0 : 1 ≤ k := hk
  have p1 : 1 ≤ k + ((sumW (fun x => e106.ct x) x.2.1 : Nat) : Int) := upn p0
  unfold F15
  exact (bind_eq (mk43 x.2.1 _ p0 q1 ok0) rfl)
theorem smk65 (x : (Int × (Int × (List (Tys.D e9) × (Unit))))) (k : Int) (hk : 1 ≤ k) (hb : k + ((sumW (fun x => e9.ct x) x.2.2.1 : Nat) : Int) ≤ bigM) (ok0 : (Ty.sl e9).Ok x.2.2.1) : F65 (x, ((k, ()), ())) = some (((k + ((sumW (fun x => e9.ct x) x.2.2.1 : Nat) : Int) : Int), ()), ((x.1, (x.2.1, (markL (fun x => e9.ct x) (fun k x => e9.mt mtW k x) x.2.2.1 (k), ()))), ())) := by
  have q1 : k + ((sumW (fun x => e9.ct x) x.2.2.1 : Nat) : Int) ≤ bigM := hb
  have q0 : k ≤ bigM := dn q1
  have p0 : 1 ≤ k := hk
  have p1 : 1 ≤ k + ((sumW (fun x => e9.ct x) x.2.2.1 : Nat) : Int) := upn p0
  unfold F65
  exact (bind_eq (mk104 x.2.2.1 _ p0 q1 ok0) rfl)
theorem smk24 (x : (Int × (List (Tys.D e96) × (Int × (Int × (List (Tys.D e9) × (Unit))))))) (k : Int) (hk : 1 ≤ k) (hb : k + ((sumW (fun x => e96.ct x) x.2.1 : Nat) : Int) + ((sumW (fun x => e9.ct x) x.2.2.2.2.1 : Nat) : Int) ≤ bigM) (ok0 : (Ty.sl e96).Ok x.2.1) (ok1 : (Ty.sl e9).Ok x.2.2.2.2.1) : F24 (x, ((k, ()), ())) = some (((k + ((sumW (fun x => e96.ct x) x.2.1 : Nat) : Int) + ((sumW (fun x => e9.ct x) x.2.2.2.2.1 : Nat) : Int) : Int), ()), ((x.1, (markL (fun x => e96.ct x) (fun k x => e96.mt mtW k x) x.2.1 (k), (x.2.2.1, (x.2.2.2.1, (markL (fun x => e9.ct x) (fun k x => e9.mt mtW k x) x.2.2.2.2.1 (k + ((sumW (fun x => e96.ct x) x.2.1 : Nat) : Int)), ()))))), ())) := by
  have q2 : k + ((sumW (fun x => e96.ct x) x.2.1 : Nat) : Int) + ((sumW (fun x => e9.ct x) x.2.2.2.2.1 : Nat) : Int) ≤ bigM := hb
  have q1 : k + ((sumW (fun x => e96.ct x) x.2.1 : Nat) : Int) ≤ bigM := dn q2
  have q0 : k ≤ bigM := dn q1
  have p0 : 1 ≤ k := hk
  have p1 : 1 ≤ k + ((sumW (fun x => e96.ct x) x.2.1 : Nat) : Int) := upn p0
  have p2 : 1 ≤ k + ((sumW (fun x => e96.ct x) x.2.1 : Nat) : Int) + ((sumW (fun x => e9.ct x) x.2.2.2.2.1 : Nat) : Int) := upn p1
  unfold F24
  exact (bind_eq (mk64 x.2.1 _ p0 q1 ok0) (bind_eq (smk65 (x.2.2.1, (x.2.2.2.1, (x.2.2.2.2.1, ()))) _ p1 q2 ok1) rfl))
theorem shd16 (x : (Int × (List (Tys.D e106) × (Unit)))) (k : Int) (hk : 1 ≤ k) (hb : k + ((sumW (fun x => e106.ct x) x.2.1 : Nat) : Int) ≤ bigM) (ok0 : (Ty.sl e106).Ok x.2.1) : F16 ((x.1, (markL (fun x => e106.ct x) (fun k x => e106.mt mtW k x) x.2.1 (k), ())), ((k, ()), ())) = some (((k + ((sumW (fun x => e106.ct x) x.2.1 : Nat) : Int) : Int), ()), ()) := by
  have q1 : k + ((sumW (fun x => e106.ct x) x.2.1 : Nat) : Int) ≤ bigM := hb
  have q0 : k ≤ bigM := dn q1
  have p0 : 1 ≤ k := hk
  have p1 : 1 ≤ k + ((sumW (fun x => e106.ct x) x.2.1 : Nat) : Int) := upn p0
  unfold F16
  exact (bind_eq (hd44 x.2.1 _ p0 q1 ok0) (lt_else (le1 p1) rfl))
theorem mh15 (x : (Int × (List (Tys.D e106) × (Unit)))) (hx : ((.cons (.int .i64) (.cons (.sl e106) .nil)) : Tys).Ok x) (hw : ((.cons (.int .i64) (.cons (.sl e106) .nil)) : Tys).w x ≤ 67108864) (k : Int) (hk : 1 ≤ k) (hk2 : k ≤ 1125899906842624) : ∃ k' x', F15 (x, ((k, ()), ())) = some ((k', ()), (x', ())) ∧ F16 ((x.1, (x'.2.1, ())), ((k, ()), ())) = some ((k', ()), ()) ∧ 1 ≤ k' ∧ k' ≤ k + 8589934592 := by
  have b0 : ((sumW (fun x => e106.ct x) x.2.1 : Nat) : Int) ≤ 8589934592 := ct_big (es := e106) (by decide) (Nat.le_trans (Nat.le_add_right _ _) (w_tl hw))
  have hb : k + ((sumW (fun x => e106.ct x) x.2.1 : Nat) : Int) ≤ bigM := by unfold bigM; omega
  exact ⟨_, _, smk15 x k hk hb hx.2.1, shd16 x k hk hb hx.2.1, by omega, by omega⟩
theorem mh24 (x : (Int × (List (Tys.D e96) × (Int × (Int × (List (Tys.D e9) × (Unit))))))) (hx : ((.cons (.int .i64) (.cons (.sl e96) (.cons (.int .i64) (.cons (.int .i64) (.cons (.sl e9) .nil))))) : Tys).Ok x) (hw : ((.cons (.int .i64) (.cons (.sl e96) (.cons (.int .i64) (.cons (.int .i64) (.cons (.sl e9) .nil))))) : Tys).w x ≤ 67108864) (k : Int) (hk : 1 ≤ k) (hk2 : k ≤ 1125899906842624) : ∃ k' x', F24 (x, ((k, ()), ())) = some ((k', ()), (x', ())) ∧ 1 ≤ k' ∧ k' ≤ k + 17179869184 := by
  have b0 : ((sumW (fun x => e96.ct x) x.2.1 : Nat) : Int) ≤ 8589934592 := ct_big (es := e96) (by decide) (Nat.le_trans (Nat.le_add_right _ _) (w_tl hw))
  have b1 : ((sumW (fun x => e9.ct x) x.2.2.2.2.1 : Nat) : Int) ≤ 8589934592 := ct_big (es := e9) (by decide) (Nat.le_trans (Nat.le_add_right _ _) (w_tl (w_tl (w_tl (w_tl hw)))))
  have hb : k + ((sumW (fun x => e96.ct x) x.2.1 : Nat) : Int) + ((sumW (fun x => e9.ct x) x.2.2.2.2.1 : Nat) : Int) ≤ bigM := by unfold bigM; omega
  exact ⟨_, _, smk24 x k hk hb hx.2.1 hx.2.2.2.2.1, by omega, by omega⟩
end Go.Proofs.Ytehcfgnpbelfnaa
