/- The marks that the laws put, and whether they stand. Conditions: none. -/
import Derived.Test.YtphaibffjdfhpaaGreatDF
import Derived.Test.YtphaibffjdfhpaaGreatTm4
namespace Go.Proofs.YtphaibffjdfhpaaGreat
open Go Go.Tm
set_option linter.unusedVariables false
set_option maxRecDepth 100000
noncomputable def mtW (k : Int) : ByteArray := match F110 ((k, ()), ()) with
  | some x => x.1.1
  | none => ⟨#[]⟩
theorem mquo10 {k : Int} (h : 0 < k) (h2 : k ≤ 9223372036854775807) : iQuo .i64 k 10 = k / 10 := by
  unfold iQuo
  rw [Int.tdiv_eq_ediv_of_nonneg (by omega)]
  exact wrap64 (by omega) (by omega)
theorem mtext_loop : ∀ (j : Nat) (k : Int) (s : ByteArray), k < 10 ^ j → k ≤ 9223372036854775807 → s.size + j ≤ 1000 → ∃ k' s', loopF F110.b0 (k, (s, ())) = some (.inl (k', (s', ()))) ∧ s'.size ≤ 1000
  | j, k, s, hj, hk, hs => by
    by_cases h0 : k ≤ 0
    · refine ⟨k, s, loopF_end ?_, by omega⟩
      unfold F110.b0
      exact lt_else h0 rfl
    · cases j with
      | zero => simp at hj; omega
      | succ j =>
        have hr : ∀ x : Tys.D tyBytes, sRoom (bytesStr [x]) s = true := fun x => by
          unfold sRoom; rw [show (bytesStr [x]).size = 1 from rfl]; exact decide_eq_true (by omega)
        have hlt : k / 10 < 10 ^ j := by rw [Int.pow_succ] at hj; omega
        have hstep : ∃ s2 : ByteArray, F110.b0 (k, (s, ())) = some (.inl (k / 10, (s2, ()))) ∧ s2.size = 1 + s.size := by
          refine ⟨sApp (bytesStr [(IntKind.wrap .u8 (iAdd .i64 (48:Int) (iRem k (10:Int))), ())]) s, ?_, ?_⟩
          · unfold F110.b0
            dsimp only
            rw [iLt_true (by omega), cond_true, show iEq (10:Int) 0 = false from rfl, cond_false, mquo10 (by omega) hk]
            exact (congrArg (fun b => bif b then _ else none) (hr _)).trans rfl
          · unfold sApp; rw [ByteArray.size_append]; exact congrArg (· + s.size) rfl
        obtain ⟨s2, h1, h2⟩ := hstep
        rw [loopF_step h1]
        exact mtext_loop j (k / 10) s2 hlt (by omega) (by omega)
theorem mtW_ok {k : Int} (h : 1 ≤ k) (h2 : k ≤ bigM) : F110 ((k, ()), ()) = some ((mtW k, ()), ()) := by
  unfold bigM at h2
  obtain ⟨k', s', h3, h4⟩ := mtext_loop 19 k ⟨#[]⟩ (by omega) (by omega) (by decide)
  have : ∃ v, F110 ((k, ()), ()) = some ((v, ()), ()) := by
    refine ⟨sApp ⟨#[109]⟩ s', ?_⟩
    unfold F110
    dsimp only
    rw [show iLe k 0 = false from decide_eq_false (by omega), cond_false]
    refine bind_eq h3 ?_
    dsimp only [Sum.elim_inl]
    rw [show sRoom ⟨#[109]⟩ s' = true from decide_eq_true (by show 1 + s'.size ≤ _; omega), cond_true]
    try rfl
  obtain ⟨v, hv⟩ := this
  unfold mtW
  rw [hv]
  try rfl
theorem dn {k : Int} {c : Nat} (h : k + ((c : Nat) : Int) ≤ bigM) : k ≤ bigM := by omega
theorem upn {k : Int} {c : Nat} (h : 1 ≤ k) : 1 ≤ k + ((c : Nat) : Int) := by omega
theorem le1 {k : Int} (h : 1 ≤ k) : 0 ≤ k := by omega
theorem asE {k : Int} {a b : Nat} : k + ((a + b : Nat) : Int) = k + ((a : Nat) : Int) + ((b : Nat) : Int) := by omega
theorem w_pre2 {t0 t1 : Ty} {ts : Tys} {x : (.cons t0 (.cons t1 (ts)) : Tys).D} {n : Nat} (h : (.cons t0 (.cons t1 (ts)) : Tys).w x ≤ n) : (.cons t0 (.cons t1 (.nil)) : Tys).w (x.1, (x.2.1, ())) ≤ n := Nat.le_trans (Nat.add_le_add_left (Nat.add_le_add_left (Nat.zero_le _) _) _) h
theorem mt_ok : MtOk F110 mtW := fun _ h1 h2 => mtW_ok h1 h2
theorem mo179 : MarkOk mtW e248 F179 := markSl_ok mt_ok e248 _ ⟨trivial, ⟨trivial, trivial⟩⟩
theorem mo109 : MarkOk mtW e153 F109 := markSl_ok mt_ok e153 _ ⟨trivial, ⟨trivial, ⟨trivial, ⟨trivial, ⟨mo179, trivial⟩⟩⟩⟩⟩
theorem mo31 : MarkOk mtW e9 F31 := markSl_ok mt_ok e9 _ ⟨trivial, trivial⟩
theorem mo71 : MarkOk mtW e188 F71 := markSl_ok mt_ok e188 _ ⟨trivial, ⟨trivial, trivial⟩⟩
theorem mo77 : MarkOk mtW e3 F77 := markSl_ok mt_ok e3 _ ⟨trivial, trivial⟩
theorem mo78 : MarkOk mtW e195 F78 := markSl_ok mt_ok e195 _ ⟨trivial, ⟨trivial, ⟨trivial, ⟨trivial, ⟨trivial, trivial⟩⟩⟩⟩⟩
theorem mo72 : MarkOk mtW e138 F72 := markSl_ok mt_ok e138 _ ⟨trivial, ⟨trivial, ⟨trivial, ⟨trivial, ⟨trivial, ⟨trivial, ⟨mo31, ⟨trivial, ⟨mo31, ⟨mo77, ⟨mo78, ⟨trivial, ⟨mo71, ⟨trivial, trivial⟩⟩⟩⟩⟩⟩⟩⟩⟩⟩⟩⟩⟩⟩
theorem mo75 : MarkOk mtW e191 F75 := markSl_ok mt_ok e191 _ ⟨trivial, ⟨trivial, ⟨trivial, trivial⟩⟩⟩
theorem mo76 : MarkOk mtW e193 F76 := markSl_ok mt_ok e193 _ ⟨trivial, ⟨trivial, ⟨trivial, trivial⟩⟩⟩
theorem mo79 : MarkOk mtW e43 F79 := markSl_ok mt_ok e43 _ ⟨trivial, ⟨mo72, ⟨trivial, ⟨trivial, ⟨mo31, trivial⟩⟩⟩⟩⟩
theorem mo111 : MarkOk mtW e56 F111 := markSl_ok mt_ok e56 _ ⟨trivial, ⟨trivial, ⟨trivial, ⟨mo109, ⟨mo71, ⟨mo72, ⟨trivial, ⟨trivial, ⟨trivial, ⟨trivial, ⟨mo31, ⟨trivial, ⟨mo31, ⟨mo77, ⟨trivial, ⟨mo75, ⟨mo76, ⟨mo77, ⟨mo78, ⟨mo79, trivial⟩⟩⟩⟩⟩⟩⟩⟩⟩⟩⟩⟩⟩⟩⟩⟩⟩⟩⟩⟩
theorem mo112 : MarkOk mtW e214 F112 := markSl_ok mt_ok e214 _ ⟨trivial, ⟨trivial, ⟨trivial, ⟨trivial, ⟨trivial, trivial⟩⟩⟩⟩⟩
theorem mo113 : MarkOk mtW e217 F113 := markSl_ok mt_ok e217 _ ⟨trivial, ⟨trivial, ⟨trivial, ⟨mo72, ⟨trivial, ⟨trivial, ⟨trivial, ⟨trivial, ⟨trivial, ⟨trivial, ⟨trivial, ⟨trivial, ⟨mo31, ⟨trivial, ⟨mo31, ⟨mo77, trivial⟩⟩⟩⟩⟩⟩⟩⟩⟩⟩⟩⟩⟩⟩⟩⟩
theorem ho213 : HeldOk mtW e248 F213 := heldSl_ok mt_ok e248 _ ⟨trivial, ⟨trivial, trivial⟩⟩
theorem ho180 : HeldOk mtW e153 F180 := heldSl_ok mt_ok e153 _ ⟨trivial, ⟨trivial, ⟨trivial, ⟨trivial, ⟨ho213, trivial⟩⟩⟩⟩⟩
theorem ho115 : HeldOk mtW e9 F115 := heldSl_ok mt_ok e9 _ ⟨trivial, trivial⟩
theorem ho123 : HeldOk mtW e188 F123 := heldSl_ok mt_ok e188 _ ⟨trivial, ⟨trivial, trivial⟩⟩
theorem ho153 : HeldOk mtW e3 F153 := heldSl_ok mt_ok e3 _ ⟨trivial, trivial⟩
theorem ho154 : HeldOk mtW e195 F154 := heldSl_ok mt_ok e195 _ ⟨trivial, ⟨trivial, ⟨trivial, ⟨trivial, ⟨trivial, trivial⟩⟩⟩⟩⟩
theorem ho80 : HeldOk mtW e138 F80 := heldSl_ok mt_ok e138 _ ⟨trivial, ⟨trivial, ⟨trivial, ⟨trivial, ⟨trivial, ⟨trivial, ⟨ho115, ⟨trivial, ⟨ho115, ⟨ho153, ⟨ho154, ⟨trivial, ⟨ho123, ⟨trivial, trivial⟩⟩⟩⟩⟩⟩⟩⟩⟩⟩⟩⟩⟩⟩
theorem ho181 : HeldOk mtW e191 F181 := heldSl_ok mt_ok e191 _ ⟨trivial, ⟨trivial, ⟨trivial, trivial⟩⟩⟩
theorem ho182 : HeldOk mtW e193 F182 := heldSl_ok mt_ok e193 _ ⟨trivial, ⟨trivial, ⟨trivial, trivial⟩⟩⟩
theorem ho183 : HeldOk mtW e43 F183 := heldSl_ok mt_ok e43 _ ⟨trivial, ⟨ho80, ⟨trivial, ⟨trivial, ⟨ho115, trivial⟩⟩⟩⟩⟩
theorem ho116 : HeldOk mtW e56 F116 := heldSl_ok mt_ok e56 _ ⟨trivial, ⟨trivial, ⟨trivial, ⟨ho180, ⟨ho123, ⟨ho80, ⟨trivial, ⟨trivial, ⟨trivial, ⟨trivial, ⟨ho115, ⟨trivial, ⟨ho115, ⟨ho153, ⟨trivial, ⟨ho181, ⟨ho182, ⟨ho153, ⟨ho154, ⟨ho183, trivial⟩⟩⟩⟩⟩⟩⟩⟩⟩⟩⟩⟩⟩⟩⟩⟩⟩⟩⟩⟩
theorem ho117 : HeldOk mtW e214 F117 := heldSl_ok mt_ok e214 _ ⟨trivial, ⟨trivial, ⟨trivial, ⟨trivial, ⟨trivial, trivial⟩⟩⟩⟩⟩
theorem ho118 : HeldOk mtW e217 F118 := heldSl_ok mt_ok e217 _ ⟨trivial, ⟨trivial, ⟨trivial, ⟨ho80, ⟨trivial, ⟨trivial, ⟨trivial, ⟨trivial, ⟨trivial, ⟨trivial, ⟨trivial, ⟨trivial, ⟨ho115, ⟨trivial, ⟨ho115, ⟨ho153, trivial⟩⟩⟩⟩⟩⟩⟩⟩⟩⟩⟩⟩⟩⟩⟩⟩
theorem mh179 : MH e248 F179 F213 := mh_of mo179 ho213 (by decide)
theorem mh109 : MH e153 F109 F180 := mh_of mo109 ho180 (by decide)
theorem mh31 : MH e9 F31 F115 := mh_of mo31 ho115 (by decide)
theorem mh71 : MH e188 F71 F123 := mh_of mo71 ho123 (by decide)
theorem mh77 : MH e3 F77 F153 := mh_of mo77 ho153 (by decide)
theorem mh78 : MH e195 F78 F154 := mh_of mo78 ho154 (by decide)
theorem mh72 : MH e138 F72 F80 := mh_of mo72 ho80 (by decide)
theorem mh75 : MH e191 F75 F181 := mh_of mo75 ho181 (by decide)
theorem mh76 : MH e193 F76 F182 := mh_of mo76 ho182 (by decide)
theorem mh79 : MH e43 F79 F183 := mh_of mo79 ho183 (by decide)
theorem mh111 : MH e56 F111 F116 := mh_of mo111 ho116 (by decide)
theorem mh112 : MH e214 F112 F117 := mh_of mo112 ho117 (by decide)
theorem mh113 : MH e217 F113 F118 := mh_of mo113 ho118 (by decide)
theorem mh30 (x : D48) (k : Int) (hk : 1 ≤ k) (hk2 : k ≤ 1125891410065408) (ho : e48.Ok x) (hw : e48.w x ≤ 67108864) : ∃ k' x', F30 (x, ((k, ()), ())) = some ((k', ()), (x', ())) ∧ F114 ((x.1, (x'.2.1, ())), ((k, ()), ())) = some ((k', ()), ()) ∧ 1 ≤ k' ∧ k' ≤ k + 8589934592 := by
  obtain ⟨k0, x0, m0, l0, e0, g0⟩ := mh109 (x.2.1, ()) k hk (by omega) ho.2.1 (w_hd (w_tl hw))
  exact ⟨_, _, (bind_eq m0 rfl), (bind_eq l0 (pos_else (Int.le_trans (by decide) e0) rfl)), e0, by omega⟩
theorem mh32 (x : D74) (k : Int) (hk : 1 ≤ k) (hk2 : k ≤ 1125848460392448) (ho : e74.Ok x) (hw : e74.w x ≤ 67108864) : ∃ k' x', F32 (x, ((k, ()), ())) = some ((k', ()), (x', ())) ∧ F33 ((x.1, (x'.2.1, (x'.2.2.1, (x'.2.2.2.1, (x'.2.2.2.2.1, (x'.2.2.2.2.2.1, (x'.2.2.2.2.2.2.1, ()))))))), ((k, ()), ())) = some ((k', ()), ()) ∧ 1 ≤ k' ∧ k' ≤ k + 51539607552 := by
  obtain ⟨k0, x0, m0, l0, e0, g0⟩ := mh30 (x.1, (x.2.1, ())) k hk (by omega) ⟨ho.1, ⟨ho.2.1, trivial⟩⟩ (w_pre2 hw)
  obtain ⟨k1, x1, m1, l1, e1, g1⟩ := mh31 (x.2.2.1, ()) k0 e0 (by omega) ho.2.2.1 (w_hd (w_tl (w_tl hw)))
  obtain ⟨k2, x2, m2, l2, e2, g2⟩ := mh111 (x.2.2.2.1, ()) k1 e1 (by omega) ho.2.2.2.1 (w_hd (w_tl (w_tl (w_tl hw))))
  obtain ⟨k3, x3, m3, l3, e3, g3⟩ := mh72 (x.2.2.2.2.1, ()) k2 e2 (by omega) ho.2.2.2.2.1 (w_hd (w_tl (w_tl (w_tl (w_tl hw)))))
  obtain ⟨k4, x4, m4, l4, e4, g4⟩ := mh112 (x.2.2.2.2.2.1, ()) k3 e3 (by omega) ho.2.2.2.2.2.1 (w_hd (w_tl (w_tl (w_tl (w_tl (w_tl hw))))))
  obtain ⟨k5, x5, m5, l5, e5, g5⟩ := mh113 (x.2.2.2.2.2.2.1, ()) k4 e4 (by omega) ho.2.2.2.2.2.2.1 (w_hd (w_tl (w_tl (w_tl (w_tl (w_tl (w_tl hw)))))))
  exact ⟨_, _, (bind_eq m0 (bind_eq m1 (bind_eq m2 (bind_eq m3 (bind_eq m4 (bind_eq m5 rfl)))))), (bind_eq l0 (pos_else (Int.le_trans (by decide) e0) (bind_eq l1 (pos_else (Int.le_trans (by decide) e1) (bind_eq l2 (pos_else (Int.le_trans (by decide) e2) (bind_eq l3 (pos_else (Int.le_trans (by decide) e3) (bind_eq l4 (pos_else (Int.le_trans (by decide) e4) (bind_eq l5 (pos_else (Int.le_trans (by decide) e5) rfl)))))))))))), e5, by omega⟩
end Go.Proofs.YtphaibffjdfhpaaGreat
