/- The marks that the laws put, and whether they stand. Conditions: none. -/
import Derived.Test.YtodcmpnbcgobkacGreatRbF
import Derived.Test.YtodcmpnbcgobkacGreatTm4
namespace Go.Proofs.YtodcmpnbcgobkacGreat
open Go Go.Tm
set_option linter.unusedVariables false
set_option maxRecDepth 100000
noncomputable def mtW (k : Int) : ByteArray := match F122 ((k, ()), ()) with
  | some x => x.1.1
  | none => ⟨#[]⟩
theorem mquo10 {k : Int} (h : 0 < k) (h2 : k ≤ 9223372036854775807) : iQuo .i64 k 10 = k / 10 := by
  unfold iQuo
  rw [Int.tdiv_eq_ediv_of_nonneg (by omega)]
  exact wrap64 (by omega) (by omega)
theorem mtext_loop : ∀ (j : Nat) (k : Int) (s : ByteArray), k < 10 ^ j → k ≤ 9223372036854775807 → s.size + j ≤ 1000 → ∃ k' s', loopF F122.b0 (k, (s, ())) = some (.inl (k', (s', ()))) ∧ s'.size ≤ 1000
  | j, k, s, hj, hk, hs => by
    by_cases h0 : k ≤ 0
    · refine ⟨k, s, loopF_end ?_, by omega⟩
      unfold F122.b0
      exact lt_else h0 rfl
    · cases j with
      | zero => simp at hj; omega
      | succ j =>
        have hr : ∀ x : Tys.D tyBytes, sRoom (bytesStr [x]) s = true := fun x => by
          unfold sRoom; rw [show (bytesStr [x]).size = 1 from rfl]; exact decide_eq_true (by omega)
        have hlt : k / 10 < 10 ^ j := by rw [Int.pow_succ] at hj; omega
        have hstep : ∃ s2 : ByteArray, F122.b0 (k, (s, ())) = some (.inl (k / 10, (s2, ()))) ∧ s2.size = 1 + s.size := by
          refine ⟨sApp (bytesStr [(IntKind.wrap .u8 (iAdd .i64 (48:Int) (iRem k (10:Int))), ())]) s, ?_, ?_⟩
          · unfold F122.b0
            dsimp only
            rw [iLt_true (by omega), cond_true, show iEq (10:Int) 0 = false from rfl, cond_false, mquo10 (by omega) hk]
            exact (congrArg (fun b => bif b then _ else none) (hr _)).trans rfl
          · unfold sApp; rw [ByteArray.size_append]; exact congrArg (· + s.size) rfl
        obtain ⟨s2, h1, h2⟩ := hstep
        rw [loopF_step h1]
        exact mtext_loop j (k / 10) s2 hlt (by omega) (by omega)
theorem mtW_ok {k : Int} (h : 1 ≤ k) (h2 : k ≤ bigM) : F122 ((k, ()), ()) = some ((mtW k, ()), ()) := by
  unfold bigM at h2
  obtain ⟨k', s', h3, h4⟩ := mtext_loop 19 k ⟨#[]⟩ (by omega) (by omega) (by decide)
  have : ∃ v, F122 ((k, ()), ()) = some ((v, ()), ()) := by
    refine ⟨sApp ⟨#[109]⟩ s', ?_⟩
    unfold F122
    dsimp only
    rw [show iLe k 0 = false from decide_eq_false (by omega), cond_false]
    refine bind_eq h3 ?_
    dsimp only [Sum.elim_inl]
    rw [show sRoom ⟨#[109]⟩ s' = true from decide_eq_true (by show 1 + s'.size ≤ _; omega), cond_true]
    try rfl
  obtain ⟨v, hv⟩ := this
  unfold mtW
  rw [hv]
  try rfl
theorem dn {k : Int} {c : Nat} (h : k + ((c : Nat) : Int) ≤ bigM) : k ≤ bigM := by omega
theorem upn {k : Int} {c : Nat} (h : 1 ≤ k) : 1 ≤ k + ((c : Nat) : Int) := by omega
theorem le1 {k : Int} (h : 1 ≤ k) : 0 ≤ k := by omega
theorem asE {k : Int} {a b : Nat} : k + ((a + b : Nat) : Int) = k + ((a : Nat) : Int) + ((b : Nat) : Int) := by omega
theorem w_pre2 {t0 t1 : Ty} {ts : Tys} {x : (.cons t0 (.cons t1 (ts)) : Tys).D} {n : Nat} (h : (.cons t0 (.cons t1 (ts)) : Tys).w x ≤ n) : (.cons t0 (.cons t1 (.nil)) : Tys).w (x.1, (x.2.1, ())) ≤ n := Nat.le_trans (Nat.add_le_add_left (Nat.add_le_add_left (Nat.zero_le _) _) _) h
theorem w_pre3 {t0 t1 t2 : Ty} {ts : Tys} {x : (.cons t0 (.cons t1 (.cons t2 (ts))) : Tys).D} {n : Nat} (h : (.cons t0 (.cons t1 (.cons t2 (ts))) : Tys).w x ≤ n) : (.cons t0 (.cons t1 (.cons t2 (.nil))) : Tys).w (x.1, (x.2.1, (x.2.2.1, ()))) ≤ n := Nat.le_trans (Nat.add_le_add_left (Nat.add_le_add_left (Nat.add_le_add_left (Nat.zero_le _) _) _) _) h
theorem mt_ok : MtOk F122 mtW := fun _ h1 h2 => mtW_ok h1 h2
theorem mo154 : MarkOk mtW e194 F154 := markSl_ok mt_ok e194 _ ⟨trivial, ⟨trivial, trivial⟩⟩
theorem mo121 : MarkOk mtW e177 F121 := markSl_ok mt_ok e177 _ ⟨trivial, ⟨trivial, ⟨trivial, ⟨trivial, ⟨mo154, trivial⟩⟩⟩⟩⟩
theorem mo47 : MarkOk mtW e138 F47 := markSl_ok mt_ok e138 _ ⟨trivial, ⟨trivial, trivial⟩⟩
theorem mo123 : MarkOk mtW e9 F123 := markSl_ok mt_ok e9 _ ⟨trivial, trivial⟩
theorem mo53 : MarkOk mtW e3 F53 := markSl_ok mt_ok e3 _ ⟨trivial, trivial⟩
theorem mo54 : MarkOk mtW e146 F54 := markSl_ok mt_ok e146 _ ⟨trivial, ⟨trivial, ⟨trivial, ⟨trivial, ⟨trivial, trivial⟩⟩⟩⟩⟩
theorem mo48 : MarkOk mtW e133 F48 := markSl_ok mt_ok e133 _ ⟨trivial, ⟨trivial, ⟨trivial, ⟨trivial, ⟨trivial, ⟨trivial, ⟨mo123, ⟨trivial, ⟨mo123, ⟨mo53, ⟨mo54, ⟨trivial, ⟨mo47, ⟨trivial, trivial⟩⟩⟩⟩⟩⟩⟩⟩⟩⟩⟩⟩⟩⟩
theorem mo51 : MarkOk mtW e142 F51 := markSl_ok mt_ok e142 _ ⟨trivial, ⟨trivial, ⟨trivial, trivial⟩⟩⟩
theorem mo52 : MarkOk mtW e144 F52 := markSl_ok mt_ok e144 _ ⟨trivial, ⟨trivial, ⟨trivial, trivial⟩⟩⟩
theorem mo55 : MarkOk mtW e125 F55 := markSl_ok mt_ok e125 _ ⟨trivial, ⟨mo48, ⟨trivial, ⟨trivial, ⟨mo123, trivial⟩⟩⟩⟩⟩
theorem ho155 : HeldOk mtW e194 F155 := heldSl_ok mt_ok e194 _ ⟨trivial, ⟨trivial, trivial⟩⟩
theorem ho124 : HeldOk mtW e177 F124 := heldSl_ok mt_ok e177 _ ⟨trivial, ⟨trivial, ⟨trivial, ⟨trivial, ⟨ho155, trivial⟩⟩⟩⟩⟩
theorem ho57 : HeldOk mtW e138 F57 := heldSl_ok mt_ok e138 _ ⟨trivial, ⟨trivial, trivial⟩⟩
theorem ho125 : HeldOk mtW e9 F125 := heldSl_ok mt_ok e9 _ ⟨trivial, trivial⟩
theorem ho63 : HeldOk mtW e3 F63 := heldSl_ok mt_ok e3 _ ⟨trivial, trivial⟩
theorem ho64 : HeldOk mtW e146 F64 := heldSl_ok mt_ok e146 _ ⟨trivial, ⟨trivial, ⟨trivial, ⟨trivial, ⟨trivial, trivial⟩⟩⟩⟩⟩
theorem ho58 : HeldOk mtW e133 F58 := heldSl_ok mt_ok e133 _ ⟨trivial, ⟨trivial, ⟨trivial, ⟨trivial, ⟨trivial, ⟨trivial, ⟨ho125, ⟨trivial, ⟨ho125, ⟨ho63, ⟨ho64, ⟨trivial, ⟨ho57, ⟨trivial, trivial⟩⟩⟩⟩⟩⟩⟩⟩⟩⟩⟩⟩⟩⟩
theorem ho61 : HeldOk mtW e142 F61 := heldSl_ok mt_ok e142 _ ⟨trivial, ⟨trivial, ⟨trivial, trivial⟩⟩⟩
theorem ho62 : HeldOk mtW e144 F62 := heldSl_ok mt_ok e144 _ ⟨trivial, ⟨trivial, ⟨trivial, trivial⟩⟩⟩
theorem ho65 : HeldOk mtW e125 F65 := heldSl_ok mt_ok e125 _ ⟨trivial, ⟨ho58, ⟨trivial, ⟨trivial, ⟨ho125, trivial⟩⟩⟩⟩⟩
theorem mh154 : MH e194 F154 F155 := mh_of mo154 ho155 (by decide)
theorem mh121 : MH e177 F121 F124 := mh_of mo121 ho124 (by decide)
theorem mh47 : MH e138 F47 F57 := mh_of mo47 ho57 (by decide)
theorem mh123 : MH e9 F123 F125 := mh_of mo123 ho125 (by decide)
theorem mh53 : MH e3 F53 F63 := mh_of mo53 ho63 (by decide)
theorem mh54 : MH e146 F54 F64 := mh_of mo54 ho64 (by decide)
theorem mh48 : MH e133 F48 F58 := mh_of mo48 ho58 (by decide)
theorem mh51 : MH e142 F51 F61 := mh_of mo51 ho61 (by decide)
theorem mh52 : MH e144 F52 F62 := mh_of mo52 ho62 (by decide)
theorem mh55 : MH e125 F55 F65 := mh_of mo55 ho65 (by decide)
theorem mh46 (x : D42) (k : Int) (hk : 1 ≤ k) (hk2 : k ≤ 1125891410065408) (ho : e42.Ok x) (hw : e42.w x ≤ 67108864) : ∃ k' x', F46 (x, ((k, ()), ())) = some ((k', ()), (x', ())) ∧ F56 ((x.1, (x'.2.1, ())), ((k, ()), ())) = some ((k', ()), ()) ∧ 1 ≤ k' ∧ k' ≤ k + 8589934592 := by
  obtain ⟨k0, x0, m0, l0, e0, g0⟩ := mh121 (x.2.1, ()) k hk (by omega) ho.2.1 (w_hd (w_tl hw))
  exact ⟨_, _, (bind_eq m0 rfl), (bind_eq l0 (pos_else (Int.le_trans (by decide) e0) rfl)), e0, by omega⟩
theorem mh49 (x : D45) (k : Int) (hk : 1 ≤ k) (hk2 : k ≤ 1125891410065408) (ho : e45.Ok x) (hw : e45.w x ≤ 67108864) : ∃ k' x', F49 (x, ((k, ()), ())) = some ((k', ()), (x', ())) ∧ F59 ((x.1, (x.2.1, (x'.2.2.1, ()))), ((k, ()), ())) = some ((k', ()), ()) ∧ 1 ≤ k' ∧ k' ≤ k + 8589934592 := by
  obtain ⟨k0, x0, m0, l0, e0, g0⟩ := mh123 (x.2.2.1, ()) k hk (by omega) ho.2.2.1 (w_hd (w_tl (w_tl hw)))
  exact ⟨_, _, (bind_eq m0 rfl), (bind_eq l0 (pos_else (Int.le_trans (by decide) e0) rfl)), e0, by omega⟩
theorem mh50 (x : D46) (k : Int) (hk : 1 ≤ k) (hk2 : k ≤ 1125882820130816) (ho : e46.Ok x) (hw : e46.w x ≤ 67108864) : ∃ k' x', F50 (x, ((k, ()), ())) = some ((k', ()), (x', ())) ∧ F60 ((x.1, (x'.2.1, (x'.2.2.1, ()))), ((k, ()), ())) = some ((k', ()), ()) ∧ 1 ≤ k' ∧ k' ≤ k + 17179869184 := by
  obtain ⟨k0, x0, m0, l0, e0, g0⟩ := mh123 (x.2.1, ()) k hk (by omega) ho.2.1 (w_hd (w_tl hw))
  obtain ⟨k1, x1, m1, l1, e1, g1⟩ := mh53 (x.2.2.1, ()) k0 e0 (by omega) ho.2.2.1 (w_hd (w_tl (w_tl hw)))
  exact ⟨_, _, (bind_eq m0 (bind_eq m1 rfl)), (bind_eq l0 (pos_else (Int.le_trans (by decide) e0) (bind_eq l1 (pos_else (Int.le_trans (by decide) e1) rfl)))), e1, by omega⟩
theorem mh9 (x : D52) (k : Int) (hk : 1 ≤ k) (hk2 : k ≤ 1125805510719488) (ho : e52.Ok x) (hw : e52.w x ≤ 67108864) : ∃ k' x', F9 (x, ((k, ()), ())) = some ((k', ()), (x', ())) ∧ F10 ((x.1, (x.2.1, (x.2.2.1, (x'.2.2.2.1, (x'.2.2.2.2.1, (x'.2.2.2.2.2.1, (x.2.2.2.2.2.2.1, (x.2.2.2.2.2.2.2.1, (x.2.2.2.2.2.2.2.2.1, (x.2.2.2.2.2.2.2.2.2.1, (x'.2.2.2.2.2.2.2.2.2.2.1, (x.2.2.2.2.2.2.2.2.2.2.2.1, (x'.2.2.2.2.2.2.2.2.2.2.2.2.1, (x'.2.2.2.2.2.2.2.2.2.2.2.2.2.1, (x.2.2.2.2.2.2.2.2.2.2.2.2.2.2.1, (x'.2.2.2.2.2.2.2.2.2.2.2.2.2.2.2.1, (x'.2.2.2.2.2.2.2.2.2.2.2.2.2.2.2.2.1, (x'.2.2.2.2.2.2.2.2.2.2.2.2.2.2.2.2.2.1, (x'.2.2.2.2.2.2.2.2.2.2.2.2.2.2.2.2.2.2.1, (x'.2.2.2.2.2.2.2.2.2.2.2.2.2.2.2.2.2.2.2.1, ())))))))))))))))))))), ((k, ()), ())) = some ((k', ()), ()) ∧ 1 ≤ k' ∧ k' ≤ k + 94489280512 := by
  obtain ⟨k0, x0, m0, l0, e0, g0⟩ := mh46 (x.2.2.1, (x.2.2.2.1, ())) k hk (by omega) ⟨ho.2.2.1, ⟨ho.2.2.2.1, trivial⟩⟩ (w_pre2 (w_tl (w_tl hw)))
  obtain ⟨k1, x1, m1, l1, e1, g1⟩ := mh47 (x.2.2.2.2.1, ()) k0 e0 (by omega) ho.2.2.2.2.1 (w_hd (w_tl (w_tl (w_tl (w_tl hw)))))
  obtain ⟨k2, x2, m2, l2, e2, g2⟩ := mh48 (x.2.2.2.2.2.1, ()) k1 e1 (by omega) ho.2.2.2.2.2.1 (w_hd (w_tl (w_tl (w_tl (w_tl (w_tl hw))))))
  obtain ⟨k3, x3, m3, l3, e3, g3⟩ := mh49 (x.2.2.2.2.2.2.2.2.1, (x.2.2.2.2.2.2.2.2.2.1, (x.2.2.2.2.2.2.2.2.2.2.1, ()))) k2 e2 (by omega) ⟨ho.2.2.2.2.2.2.2.2.1, ⟨ho.2.2.2.2.2.2.2.2.2.1, ⟨ho.2.2.2.2.2.2.2.2.2.2.1, trivial⟩⟩⟩ (w_pre3 (w_tl (w_tl (w_tl (w_tl (w_tl (w_tl (w_tl (w_tl hw)))))))))
  obtain ⟨k4, x4, m4, l4, e4, g4⟩ := mh50 (x.2.2.2.2.2.2.2.2.2.2.2.1, (x.2.2.2.2.2.2.2.2.2.2.2.2.1, (x.2.2.2.2.2.2.2.2.2.2.2.2.2.1, ()))) k3 e3 (by omega) ⟨ho.2.2.2.2.2.2.2.2.2.2.2.1, ⟨ho.2.2.2.2.2.2.2.2.2.2.2.2.1, ⟨ho.2.2.2.2.2.2.2.2.2.2.2.2.2.1, trivial⟩⟩⟩ (w_pre3 (w_tl (w_tl (w_tl (w_tl (w_tl (w_tl (w_tl (w_tl (w_tl (w_tl (w_tl hw))))))))))))
  obtain ⟨k5, x5, m5, l5, e5, g5⟩ := mh51 (x.2.2.2.2.2.2.2.2.2.2.2.2.2.2.2.1, ()) k4 e4 (by omega) ho.2.2.2.2.2.2.2.2.2.2.2.2.2.2.2.1 (w_hd (w_tl (w_tl (w_tl (w_tl (w_tl (w_tl (w_tl (w_tl (w_tl (w_tl (w_tl (w_tl (w_tl (w_tl (w_tl hw))))))))))))))))
  obtain ⟨k6, x6, m6, l6, e6, g6⟩ := mh52 (x.2.2.2.2.2.2.2.2.2.2.2.2.2.2.2.2.1, ()) k5 e5 (by omega) ho.2.2.2.2.2.2.2.2.2.2.2.2.2.2.2.2.1 (w_hd (w_tl (w_tl (w_tl (w_tl (w_tl (w_tl (w_tl (w_tl (w_tl (w_tl (w_tl (w_tl (w_tl (w_tl (w_tl (w_tl hw)))))))))))))))))
  obtain ⟨k7, x7, m7, l7, e7, g7⟩ := mh53 (x.2.2.2.2.2.2.2.2.2.2.2.2.2.2.2.2.2.1, ()) k6 e6 (by omega) ho.2.2.2.2.2.2.2.2.2.2.2.2.2.2.2.2.2.1 (w_hd (w_tl (w_tl (w_tl (w_tl (w_tl (w_tl (w_tl (w_tl (w_tl (w_tl (w_tl (w_tl (w_tl (w_tl (w_tl (w_tl (w_tl hw))))))))))))))))))
  obtain ⟨k8, x8, m8, l8, e8, g8⟩ := mh54 (x.2.2.2.2.2.2.2.2.2.2.2.2.2.2.2.2.2.2.1, ()) k7 e7 (by omega) ho.2.2.2.2.2.2.2.2.2.2.2.2.2.2.2.2.2.2.1 (w_hd (w_tl (w_tl (w_tl (w_tl (w_tl (w_tl (w_tl (w_tl (w_tl (w_tl (w_tl (w_tl (w_tl (w_tl (w_tl (w_tl (w_tl (w_tl hw)))))))))))))))))))
  obtain ⟨k9, x9, m9, l9, e9, g9⟩ := mh55 (x.2.2.2.2.2.2.2.2.2.2.2.2.2.2.2.2.2.2.2.1, ()) k8 e8 (by omega) ho.2.2.2.2.2.2.2.2.2.2.2.2.2.2.2.2.2.2.2.1 (w_hd (w_tl (w_tl (w_tl (w_tl (w_tl (w_tl (w_tl (w_tl (w_tl (w_tl (w_tl (w_tl (w_tl (w_tl (w_tl (w_tl (w_tl (w_tl (w_tl hw))))))))))))))))))))
  exact ⟨_, _, (bind_eq m0 (bind_eq m1 (bind_eq m2 (bind_eq m3 (bind_eq m4 (bind_eq m5 (bind_eq m6 (bind_eq m7 (bind_eq m8 (bind_eq m9 rfl)))))))))), (bind_eq l0 (pos_else (Int.le_trans (by decide) e0) (bind_eq l1 (pos_else (Int.le_trans (by decide) e1) (bind_eq l2 (pos_else (Int.le_trans (by decide) e2) (bind_eq l3 (pos_else (Int.le_trans (by decide) e3) (bind_eq l4 (pos_else (Int.le_trans (by decide) e4) (bind_eq l5 (pos_else (Int.le_trans (by decide) e5) (bind_eq l6 (pos_else (Int.le_trans (by decide) e6) (bind_eq l7 (pos_else (Int.le_trans (by decide) e7) (bind_eq l8 (pos_else (Int.le_trans (by decide) e8) (bind_eq l9 (pos_else (Int.le_trans (by decide) e9) rfl)))))))))))))))))))), e9, by omega⟩
end Go.Proofs.YtodcmpnbcgobkacGreat
