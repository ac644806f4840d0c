/- The marks that the laws put, and whether they stand. Conditions: none. -/
import Derived.Test.YtmfeejonafjehaaGreatSuF
import Derived.Test.YtmfeejonafjehaaGreatTm4
namespace Go.Proofs.YtmfeejonafjehaaGreat
open Go Go.Tm
set_option linter.unusedVariables false
set_option maxRecDepth 100000
noncomputable def mtW (k : Int) : ByteArray := match F128 ((k, ()), ()) with
  | some x => x.1.1
  | none => ⟨#[]⟩
theorem mquo10 {k : Int} (h : 0 < k) (h2 : k ≤ 9223372036854775807) : iQuo .i64 k 10 = k / 10 := by
  unfold iQuo
  rw [Int.tdiv_eq_ediv_of_nonneg (by omega)]
  exact wrap64 (by omega) (by omega)
theorem mtext_loop : ∀ (j : Nat) (k : Int) (s : ByteArray), k < 10 ^ j → k ≤ 9223372036854775807 → s.size + j ≤ 1000 → ∃ k' s', loopF F128.b0 (k, (s, ())) = some (.inl (k', (s', ()))) ∧ s'.size ≤ 1000
  | j, k, s, hj, hk, hs => by
    by_cases h0 : k ≤ 0
    · refine ⟨k, s, loopF_end ?_, by omega⟩
      unfold F128.b0
      exact lt_else h0 rfl
    · cases j with
      | zero => simp at hj; omega
      | succ j =>
        have hr : ∀ x : Tys.D tyBytes, sRoom (bytesStr [x]) s = true := fun x => by
          unfold sRoom; rw [show (bytesStr [x]).size = 1 from rfl]; exact decide_eq_true (by omega)
        have hlt : k / 10 < 10 ^ j := by rw [Int.pow_succ] at hj; omega
        have hstep : ∃ s2 : ByteArray, F128.b0 (k, (s, ())) = some (.inl (k / 10, (s2, ()))) ∧ s2.size = 1 + s.size := by
          refine ⟨sApp (bytesStr [(IntKind.wrap .u8 (iAdd .i64 (48:Int) (iRem k (10:Int))), ())]) s, ?_, ?_⟩
          · unfold F128.b0
            dsimp only
            rw [iLt_true (by omega), cond_true, show iEq (10:Int) 0 = false from rfl, cond_false, mquo10 (by omega) hk]
            exact (congrArg (fun b => bif b then _ else none) (hr _)).trans rfl
          · unfold sApp; rw [ByteArray.size_append]; exact congrArg (· + s.size) rfl
        obtain ⟨s2, h1, h2⟩ := hstep
        rw [loopF_step h1]
        exact mtext_loop j (k / 10) s2 hlt (by omega) (by omega)
theorem mtW_ok {k : Int} (h : 1 ≤ k) (h2 : k ≤ bigM) : F128 ((k, ()), ()) = some ((mtW k, ()), ()) := by
  unfold bigM at h2
  obtain ⟨k', s', h3, h4⟩ := mtext_loop 19 k ⟨#[]⟩ (by omega) (by omega) (by decide)
  have : ∃ v, F128 ((k, ()), ()) = some ((v, ()), ()) := by
    refine ⟨sApp ⟨#[109]⟩ s', ?_⟩
    unfold F128
    dsimp only
    rw [show iLe k 0 = false from decide_eq_false (by omega), cond_false]
    refine bind_eq h3 ?_
    dsimp only [Sum.elim_inl]
    rw [show sRoom ⟨#[109]⟩ s' = true from decide_eq_true (by show 1 + s'.size ≤ _; omega), cond_true]
    try rfl
  obtain ⟨v, hv⟩ := this
  unfold mtW
  rw [hv]
  try rfl
theorem dn {k : Int} {c : Nat} (h : k + ((c : Nat) : Int) ≤ bigM) : k ≤ bigM := by omega
theorem upn {k : Int} {c : Nat} (h : 1 ≤ k) : 1 ≤ k + ((c : Nat) : Int) := by omega
theorem le1 {k : Int} (h : 1 ≤ k) : 0 ≤ k := by omega
theorem asE {k : Int} {a b : Nat} : k + ((a + b : Nat) : Int) = k + ((a : Nat) : Int) + ((b : Nat) : Int) := by omega
theorem w_pre2 {t0 t1 : Ty} {ts : Tys} {x : (.cons t0 (.cons t1 (ts)) : Tys).D} {n : Nat} (h : (.cons t0 (.cons t1 (ts)) : Tys).w x ≤ n) : (.cons t0 (.cons t1 (.nil)) : Tys).w (x.1, (x.2.1, ())) ≤ n := Nat.le_trans (Nat.add_le_add_left (Nat.add_le_add_left (Nat.zero_le _) _) _) h
theorem w_pre3 {t0 t1 t2 : Ty} {ts : Tys} {x : (.cons t0 (.cons t1 (.cons t2 (ts))) : Tys).D} {n : Nat} (h : (.cons t0 (.cons t1 (.cons t2 (ts))) : Tys).w x ≤ n) : (.cons t0 (.cons t1 (.cons t2 (.nil))) : Tys).w (x.1, (x.2.1, (x.2.2.1, ()))) ≤ n := Nat.le_trans (Nat.add_le_add_left (Nat.add_le_add_left (Nat.add_le_add_left (Nat.zero_le _) _) _) _) h
theorem mt_ok : MtOk F128 mtW := fun _ h1 h2 => mtW_ok h1 h2
theorem mo163 : MarkOk mtW e205 F163 := markSl_ok mt_ok e205 _ ⟨trivial, ⟨trivial, trivial⟩⟩
theorem mo127 : MarkOk mtW e183 F127 := markSl_ok mt_ok e183 _ ⟨trivial, ⟨trivial, ⟨trivial, ⟨trivial, ⟨mo163, trivial⟩⟩⟩⟩⟩
theorem mo50 : MarkOk mtW e143 F50 := markSl_ok mt_ok e143 _ ⟨trivial, ⟨trivial, trivial⟩⟩
theorem mo129 : MarkOk mtW e9 F129 := markSl_ok mt_ok e9 _ ⟨trivial, trivial⟩
theorem mo56 : MarkOk mtW e3 F56 := markSl_ok mt_ok e3 _ ⟨trivial, trivial⟩
theorem mo57 : MarkOk mtW e59 F57 := markSl_ok mt_ok e59 _ ⟨trivial, ⟨trivial, ⟨trivial, ⟨trivial, ⟨trivial, trivial⟩⟩⟩⟩⟩
theorem mo51 : MarkOk mtW e137 F51 := markSl_ok mt_ok e137 _ ⟨trivial, ⟨trivial, ⟨trivial, ⟨trivial, ⟨trivial, ⟨trivial, ⟨mo129, ⟨trivial, ⟨mo129, ⟨mo56, ⟨mo57, ⟨trivial, ⟨mo50, ⟨trivial, trivial⟩⟩⟩⟩⟩⟩⟩⟩⟩⟩⟩⟩⟩⟩
theorem mo54 : MarkOk mtW e147 F54 := markSl_ok mt_ok e147 _ ⟨trivial, ⟨trivial, ⟨trivial, trivial⟩⟩⟩
theorem mo55 : MarkOk mtW e149 F55 := markSl_ok mt_ok e149 _ ⟨trivial, ⟨trivial, ⟨trivial, trivial⟩⟩⟩
theorem mo58 : MarkOk mtW e129 F58 := markSl_ok mt_ok e129 _ ⟨trivial, ⟨mo51, ⟨trivial, ⟨trivial, ⟨mo129, trivial⟩⟩⟩⟩⟩
theorem ho164 : HeldOk mtW e205 F164 := heldSl_ok mt_ok e205 _ ⟨trivial, ⟨trivial, trivial⟩⟩
theorem ho130 : HeldOk mtW e183 F130 := heldSl_ok mt_ok e183 _ ⟨trivial, ⟨trivial, ⟨trivial, ⟨trivial, ⟨ho164, trivial⟩⟩⟩⟩⟩
theorem ho60 : HeldOk mtW e143 F60 := heldSl_ok mt_ok e143 _ ⟨trivial, ⟨trivial, trivial⟩⟩
theorem ho131 : HeldOk mtW e9 F131 := heldSl_ok mt_ok e9 _ ⟨trivial, trivial⟩
theorem ho66 : HeldOk mtW e3 F66 := heldSl_ok mt_ok e3 _ ⟨trivial, trivial⟩
theorem ho67 : HeldOk mtW e59 F67 := heldSl_ok mt_ok e59 _ ⟨trivial, ⟨trivial, ⟨trivial, ⟨trivial, ⟨trivial, trivial⟩⟩⟩⟩⟩
theorem ho61 : HeldOk mtW e137 F61 := heldSl_ok mt_ok e137 _ ⟨trivial, ⟨trivial, ⟨trivial, ⟨trivial, ⟨trivial, ⟨trivial, ⟨ho131, ⟨trivial, ⟨ho131, ⟨ho66, ⟨ho67, ⟨trivial, ⟨ho60, ⟨trivial, trivial⟩⟩⟩⟩⟩⟩⟩⟩⟩⟩⟩⟩⟩⟩
theorem ho64 : HeldOk mtW e147 F64 := heldSl_ok mt_ok e147 _ ⟨trivial, ⟨trivial, ⟨trivial, trivial⟩⟩⟩
theorem ho65 : HeldOk mtW e149 F65 := heldSl_ok mt_ok e149 _ ⟨trivial, ⟨trivial, ⟨trivial, trivial⟩⟩⟩
theorem ho68 : HeldOk mtW e129 F68 := heldSl_ok mt_ok e129 _ ⟨trivial, ⟨ho61, ⟨trivial, ⟨trivial, ⟨ho131, trivial⟩⟩⟩⟩⟩
theorem mh163 : MH e205 F163 F164 := mh_of mo163 ho164 (by decide)
theorem mh127 : MH e183 F127 F130 := mh_of mo127 ho130 (by decide)
theorem mh50 : MH e143 F50 F60 := mh_of mo50 ho60 (by decide)
theorem mh129 : MH e9 F129 F131 := mh_of mo129 ho131 (by decide)
theorem mh56 : MH e3 F56 F66 := mh_of mo56 ho66 (by decide)
theorem mh57 : MH e59 F57 F67 := mh_of mo57 ho67 (by decide)
theorem mh51 : MH e137 F51 F61 := mh_of mo51 ho61 (by decide)
theorem mh54 : MH e147 F54 F64 := mh_of mo54 ho64 (by decide)
theorem mh55 : MH e149 F55 F65 := mh_of mo55 ho65 (by decide)
theorem mh58 : MH e129 F58 F68 := mh_of mo58 ho68 (by decide)
theorem mh49 (x : D45) (k : Int) (hk : 1 ≤ k) (hk2 : k ≤ 1125891410065408) (ho : e45.Ok x) (hw : e45.w x ≤ 67108864) : ∃ k' x', F49 (x, ((k, ()), ())) = some ((k', ()), (x', ())) ∧ F59 ((x.1, (x'.2.1, ())), ((k, ()), ())) = some ((k', ()), ()) ∧ 1 ≤ k' ∧ k' ≤ k + 8589934592 := by
  obtain ⟨k0, x0, m0, l0, e0, g0⟩ := mh127 (x.2.1, ()) k hk (by omega) ho.2.1 (w_hd (w_tl hw))
  exact ⟨_, _, (bind_eq m0 rfl), (bind_eq l0 (pos_else (Int.le_trans (by decide) e0) rfl)), e0, by omega⟩
theorem mh52 (x : D48) (k : Int) (hk : 1 ≤ k) (hk2 : k ≤ 1125891410065408) (ho : e48.Ok x) (hw : e48.w x ≤ 67108864) : ∃ k' x', F52 (x, ((k, ()), ())) = some ((k', ()), (x', ())) ∧ F62 ((x.1, (x.2.1, (x'.2.2.1, ()))), ((k, ()), ())) = some ((k', ()), ()) ∧ 1 ≤ k' ∧ k' ≤ k + 8589934592 := by
  obtain ⟨k0, x0, m0, l0, e0, g0⟩ := mh129 (x.2.2.1, ()) k hk (by omega) ho.2.2.1 (w_hd (w_tl (w_tl hw)))
  exact ⟨_, _, (bind_eq m0 rfl), (bind_eq l0 (pos_else (Int.le_trans (by decide) e0) rfl)), e0, by omega⟩
theorem mh53 (x : D49) (k : Int) (hk : 1 ≤ k) (hk2 : k ≤ 1125882820130816) (ho : e49.Ok x) (hw : e49.w x ≤ 67108864) : ∃ k' x', F53 (x, ((k, ()), ())) = some ((k', ()), (x', ())) ∧ F63 ((x.1, (x'.2.1, (x'.2.2.1, ()))), ((k, ()), ())) = some ((k', ()), ()) ∧ 1 ≤ k' ∧ k' ≤ k + 17179869184 := by
  obtain ⟨k0, x0, m0, l0, e0, g0⟩ := mh129 (x.2.1, ()) k hk (by omega) ho.2.1 (w_hd (w_tl hw))
  obtain ⟨k1, x1, m1, l1, e1, g1⟩ := mh56 (x.2.2.1, ()) k0 e0 (by omega) ho.2.2.1 (w_hd (w_tl (w_tl hw)))
  exact ⟨_, _, (bind_eq m0 (bind_eq m1 rfl)), (bind_eq l0 (pos_else (Int.le_trans (by decide) e0) (bind_eq l1 (pos_else (Int.le_trans (by decide) e1) rfl)))), e1, by omega⟩
theorem mh11 (x : D55) (k : Int) (hk : 1 ≤ k) (hk2 : k ≤ 1125805510719488) (ho : e55.Ok x) (hw : e55.w x ≤ 67108864) : ∃ k' x', F11 (x, ((k, ()), ())) = some ((k', ()), (x', ())) ∧ F12 ((x.1, (x.2.1, (x.2.2.1, (x'.2.2.2.1, (x'.2.2.2.2.1, (x'.2.2.2.2.2.1, (x.2.2.2.2.2.2.1, (x.2.2.2.2.2.2.2.1, (x.2.2.2.2.2.2.2.2.1, (x.2.2.2.2.2.2.2.2.2.1, (x'.2.2.2.2.2.2.2.2.2.2.1, (x.2.2.2.2.2.2.2.2.2.2.2.1, (x'.2.2.2.2.2.2.2.2.2.2.2.2.1, (x'.2.2.2.2.2.2.2.2.2.2.2.2.2.1, (x.2.2.2.2.2.2.2.2.2.2.2.2.2.2.1, (x'.2.2.2.2.2.2.2.2.2.2.2.2.2.2.2.1, (x'.2.2.2.2.2.2.2.2.2.2.2.2.2.2.2.2.1, (x'.2.2.2.2.2.2.2.2.2.2.2.2.2.2.2.2.2.1, (x'.2.2.2.2.2.2.2.2.2.2.2.2.2.2.2.2.2.2.1, (x'.2.2.2.2.2.2.2.2.2.2.2.2.2.2.2.2.2.2.2.1, ())))))))))))))))))))), ((k, ()), ())) = some ((k', ()), ()) ∧ 1 ≤ k' ∧ k' ≤ k + 94489280512 := by
  obtain ⟨k0, x0, m0, l0, e0, g0⟩ := mh49 (x.2.2.1, (x.2.2.2.1, ())) k hk (by omega) ⟨ho.2.2.1, ⟨ho.2.2.2.1, trivial⟩⟩ (w_pre2 (w_tl (w_tl hw)))
  obtain ⟨k1, x1, m1, l1, e1, g1⟩ := mh50 (x.2.2.2.2.1, ()) k0 e0 (by omega) ho.2.2.2.2.1 (w_hd (w_tl (w_tl (w_tl (w_tl hw)))))
  obtain ⟨k2, x2, m2, l2, e2, g2⟩ := mh51 (x.2.2.2.2.2.1, ()) k1 e1 (by omega) ho.2.2.2.2.2.1 (w_hd (w_tl (w_tl (w_tl (w_tl (w_tl hw))))))
  obtain ⟨k3, x3, m3, l3, e3, g3⟩ := mh52 (x.2.2.2.2.2.2.2.2.1, (x.2.2.2.2.2.2.2.2.2.1, (x.2.2.2.2.2.2.2.2.2.2.1, ()))) k2 e2 (by omega) ⟨ho.2.2.2.2.2.2.2.2.1, ⟨ho.2.2.2.2.2.2.2.2.2.1, ⟨ho.2.2.2.2.2.2.2.2.2.2.1, trivial⟩⟩⟩ (w_pre3 (w_tl (w_tl (w_tl (w_tl (w_tl (w_tl (w_tl (w_tl hw)))))))))
  obtain ⟨k4, x4, m4, l4, e4, g4⟩ := mh53 (x.2.2.2.2.2.2.2.2.2.2.2.1, (x.2.2.2.2.2.2.2.2.2.2.2.2.1, (x.2.2.2.2.2.2.2.2.2.2.2.2.2.1, ()))) k3 e3 (by omega) ⟨ho.2.2.2.2.2.2.2.2.2.2.2.1, ⟨ho.2.2.2.2.2.2.2.2.2.2.2.2.1, ⟨ho.2.2.2.2.2.2.2.2.2.2.2.2.2.1, trivial⟩⟩⟩ (w_pre3 (w_tl (w_tl (w_tl (w_tl (w_tl (w_tl (w_tl (w_tl (w_tl (w_tl (w_tl hw))))))))))))
  obtain ⟨k5, x5, m5, l5, e5, g5⟩ := mh54 (x.2.2.2.2.2.2.2.2.2.2.2.2.2.2.2.1, ()) k4 e4 (by omega) ho.2.2.2.2.2.2.2.2.2.2.2.2.2.2.2.1 (w_hd (w_tl (w_tl (w_tl (w_tl (w_tl (w_tl (w_tl (w_tl (w_tl (w_tl (w_tl (w_tl (w_tl (w_tl (w_tl hw))))))))))))))))
  obtain ⟨k6, x6, m6, l6, e6, g6⟩ := mh55 (x.2.2.2.2.2.2.2.2.2.2.2.2.2.2.2.2.1, ()) k5 e5 (by omega) ho.2.2.2.2.2.2.2.2.2.2.2.2.2.2.2.2.1 (w_hd (w_tl (w_tl (w_tl (w_tl (w_tl (w_tl (w_tl (w_tl (w_tl (w_tl (w_tl (w_tl (w_tl (w_tl (w_tl (w_tl hw)))))))))))))))))
  obtain ⟨k7, x7, m7, l7, e7, g7⟩ := mh56 (x.2.2.2.2.2.2.2.2.2.2.2.2.2.2.2.2.2.1, ()) k6 e6 (by omega) ho.2.2.2.2.2.2.2.2.2.2.2.2.2.2.2.2.2.1 (w_hd (w_tl (w_tl (w_tl (w_tl (w_tl (w_tl (w_tl (w_tl (w_tl (w_tl (w_tl (w_tl (w_tl (w_tl (w_tl (w_tl (w_tl hw))))))))))))))))))
  obtain ⟨k8, x8, m8, l8, e8, g8⟩ := mh57 (x.2.2.2.2.2.2.2.2.2.2.2.2.2.2.2.2.2.2.1, ()) k7 e7 (by omega) ho.2.2.2.2.2.2.2.2.2.2.2.2.2.2.2.2.2.2.1 (w_hd (w_tl (w_tl (w_tl (w_tl (w_tl (w_tl (w_tl (w_tl (w_tl (w_tl (w_tl (w_tl (w_tl (w_tl (w_tl (w_tl (w_tl (w_tl hw)))))))))))))))))))
  obtain ⟨k9, x9, m9, l9, e9, g9⟩ := mh58 (x.2.2.2.2.2.2.2.2.2.2.2.2.2.2.2.2.2.2.2.1, ()) k8 e8 (by omega) ho.2.2.2.2.2.2.2.2.2.2.2.2.2.2.2.2.2.2.2.1 (w_hd (w_tl (w_tl (w_tl (w_tl (w_tl (w_tl (w_tl (w_tl (w_tl (w_tl (w_tl (w_tl (w_tl (w_tl (w_tl (w_tl (w_tl (w_tl (w_tl hw))))))))))))))))))))
  exact ⟨_, _, (bind_eq m0 (bind_eq m1 (bind_eq m2 (bind_eq m3 (bind_eq m4 (bind_eq m5 (bind_eq m6 (bind_eq m7 (bind_eq m8 (bind_eq m9 rfl)))))))))), (bind_eq l0 (pos_else (Int.le_trans (by decide) e0) (bind_eq l1 (pos_else (Int.le_trans (by decide) e1) (bind_eq l2 (pos_else (Int.le_trans (by decide) e2) (bind_eq l3 (pos_else (Int.le_trans (by decide) e3) (bind_eq l4 (pos_else (Int.le_trans (by decide) e4) (bind_eq l5 (pos_else (Int.le_trans (by decide) e5) (bind_eq l6 (pos_else (Int.le_trans (by decide) e6) (bind_eq l7 (pos_else (Int.le_trans (by decide) e7) (bind_eq l8 (pos_else (Int.le_trans (by decide) e8) (bind_eq l9 (pos_else (Int.le_trans (by decide) e9) rfl)))))))))))))))))))), e9, by omega⟩
end Go.Proofs.YtmfeejonafjehaaGreat
