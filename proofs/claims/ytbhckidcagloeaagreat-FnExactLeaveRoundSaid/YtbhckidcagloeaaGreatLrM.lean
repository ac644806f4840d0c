/- The marks that the laws put, and whether they stand. Conditions: none. -/
import Derived.Test.YtbhckidcagloeaaGreatLrF
import Derived.Test.YtbhckidcagloeaaGreatTm4
namespace Go.Proofs.YtbhckidcagloeaaGreat
open Go Go.Tm
set_option linter.unusedVariables false
set_option maxRecDepth 100000
noncomputable def mtW (k:Int):ByteArray:=match F65 ((k,()),()) with
 |some x=>x.1.1
 |none=>⟨#[]⟩
theorem mquo10 {k:Int} (h:0<k) (h2:k≤9223372036854775807):iQuo .i64 k 10=k / 10:=by
 unfold iQuo
 rw [Int.tdiv_eq_ediv_of_nonneg (by omega)]
 exact wrap64 (by omega) (by omega)
theorem mtext_loop:∀(j:Nat) (k:Int) (s:ByteArray),k<10 ^ j→k≤9223372036854775807→s.size+j≤1000→∃k' s',loopF F65.b0 (k,(s,()))=some (.inl (k',(s',())))∧s'.size≤1000
 |j,k,s,hj,hk,hs=>by
  by_cases h0:k≤0
  ·refine ⟨k,s,loopF_end ?_,by omega⟩
   unfold F65.b0
   exact lt_else h0 rfl
  ·cases j with
   |zero=>simp at hj;omega
   |succ j =>
    have hr:∀x:Tys.D tyBytes,sRoom (bytesStr [x]) s=true:=fun x=>by
     unfold sRoom;rw [show (bytesStr [x]).size=1 from rfl];exact decide_eq_true (by omega)
    have hlt:k / 10<10 ^ j:=by rw [Int.pow_succ] at hj;omega
    have hstep:∃s2:ByteArray,F65.b0 (k,(s,()))=some (.inl (k / 10,(s2,())))∧s2.size=1+s.size:=by
     refine ⟨sApp (bytesStr [(IntKind.wrap .u8 (iAdd .i64 (48:Int) (iRem k (10:Int))),())]) s,?_,?_⟩
     ·unfold F65.b0
      dsimp only
      rw [iLt_true (by omega),cond_true,show iEq (10:Int) 0=false from rfl,cond_false,mquo10 (by omega) hk]
      exact (congrArg (fun b=>bif b then _ else none) (hr _)).trans rfl
     ·unfold sApp;rw [ByteArray.size_append];exact congrArg (· +s.size) rfl
    obtain ⟨s2,h1,h2⟩:=hstep
    rw [loopF_step h1]
    exact mtext_loop j (k / 10) s2 hlt (by omega) (by omega)
theorem mtW_ok {k:Int} (h:1≤k) (h2:k≤bigM):F65 ((k,()),())=some ((mtW k,()),()):=by
 unfold bigM at h2
 obtain ⟨k',s',h3,h4⟩:=mtext_loop 19 k ⟨#[]⟩ (by omega) (by omega) (by decide)
 have:∃v,F65 ((k,()),())=some ((v,()),()):=by
  refine ⟨sApp ⟨#[109]⟩ s',?_⟩
  unfold F65
  dsimp only
  rw [show iLe k 0=false from decide_eq_false (by omega),cond_false]
  refine bind_eq h3 ?_
  dsimp only [Sum.elim_inl]
  rw [show sRoom ⟨#[109]⟩ s'=true from decide_eq_true (by show 1+s'.size≤_;omega),cond_true]
  try rfl
 obtain ⟨v,hv⟩:=this
 unfold mtW
 rw [hv]
 try rfl
theorem dn {k:Int} {c:Nat} (h:k+((c:Nat):Int)≤bigM):k≤bigM:=by omega
theorem upn {k:Int} {c:Nat} (h:1≤k):1≤k+((c:Nat):Int):=by omega
theorem le1 {k:Int} (h:1≤k):0≤k:=by omega
theorem asE {k:Int} {a b:Nat}:k+((a+b:Nat):Int)=k+((a:Nat):Int)+((b:Nat):Int):=by omega
theorem w_pre2 {t0 t1:Ty} {ts:Tys} {x:(.cons t0 (.cons t1 (ts)):Tys).D} {n:Nat} (h:(.cons t0 (.cons t1 (ts)):Tys).w x≤n):(.cons t0 (.cons t1 (.nil)):Tys).w (x.1,(x.2.1,()))≤n:=Nat.le_trans (Nat.add_le_add_left (Nat.add_le_add_left (Nat.zero_le _) _) _) h
theorem w_pre3 {t0 t1 t2:Ty} {ts:Tys} {x:(.cons t0 (.cons t1 (.cons t2 (ts))):Tys).D} {n:Nat} (h:(.cons t0 (.cons t1 (.cons t2 (ts))):Tys).w x≤n):(.cons t0 (.cons t1 (.cons t2 (.nil))):Tys).w (x.1,(x.2.1,(x.2.2.1,())))≤n:=Nat.le_trans (Nat.add_le_add_left (Nat.add_le_add_left (Nat.add_le_add_left (Nat.zero_le _) _) _) _) h
theorem mt_ok:MtOk F65 mtW:=fun _ h1 h2=>mtW_ok h1 h2
theorem mo182:MarkOk mtW e229 F182:=markSl_ok mt_ok e229 _ ⟨trivial,⟨trivial,trivial⟩⟩
theorem mo141:MarkOk mtW e207 F141:=markSl_ok mt_ok e207 _ ⟨trivial,⟨trivial,⟨trivial,⟨trivial,⟨mo182,trivial⟩⟩⟩⟩⟩
theorem mo56:MarkOk mtW e163 F56:=markSl_ok mt_ok e163 _ ⟨trivial,⟨trivial,trivial⟩⟩
theorem mo66:MarkOk mtW e9 F66:=markSl_ok mt_ok e9 _ ⟨trivial,trivial⟩
theorem mo62:MarkOk mtW e3 F62:=markSl_ok mt_ok e3 _ ⟨trivial,trivial⟩
theorem mo63:MarkOk mtW e169 F63:=markSl_ok mt_ok e169 _ ⟨trivial,⟨trivial,⟨trivial,⟨trivial,⟨trivial,trivial⟩⟩⟩⟩⟩
theorem mo57:MarkOk mtW e154 F57:=markSl_ok mt_ok e154 _ ⟨trivial,⟨trivial,⟨trivial,⟨trivial,⟨trivial,⟨trivial,⟨mo66,⟨trivial,⟨mo66,⟨mo62,⟨mo63,⟨trivial,⟨mo56,⟨trivial,trivial⟩⟩⟩⟩⟩⟩⟩⟩⟩⟩⟩⟩⟩⟩
theorem mo60:MarkOk mtW e105 F60:=markSl_ok mt_ok e105 _ ⟨trivial,⟨trivial,⟨trivial,trivial⟩⟩⟩
theorem mo61:MarkOk mtW e107 F61:=markSl_ok mt_ok e107 _ ⟨trivial,⟨trivial,⟨trivial,trivial⟩⟩⟩
theorem mo64:MarkOk mtW e146 F64:=markSl_ok mt_ok e146 _ ⟨trivial,⟨mo57,⟨trivial,⟨trivial,⟨mo66,trivial⟩⟩⟩⟩⟩
theorem mo12:MarkOk mtW e109 F12:=markSl_ok mt_ok e109 _ ⟨trivial,⟨trivial,⟨trivial,⟨mo57,⟨trivial,⟨trivial,⟨trivial,⟨trivial,⟨trivial,⟨trivial,⟨trivial,⟨trivial,⟨mo66,⟨trivial,⟨mo66,⟨mo62,trivial⟩⟩⟩⟩⟩⟩⟩⟩⟩⟩⟩⟩⟩⟩⟩⟩
theorem mo13:MarkOk mtW e112 F13:=markSl_ok mt_ok e112 _ ⟨trivial,⟨trivial,⟨trivial,⟨trivial,⟨trivial,trivial⟩⟩⟩⟩⟩
theorem ho183:HeldOk mtW e229 F183:=heldSl_ok mt_ok e229 _ ⟨trivial,⟨trivial,trivial⟩⟩
theorem ho142:HeldOk mtW e207 F142:=heldSl_ok mt_ok e207 _ ⟨trivial,⟨trivial,⟨trivial,⟨trivial,⟨ho183,trivial⟩⟩⟩⟩⟩
theorem ho68:HeldOk mtW e163 F68:=heldSl_ok mt_ok e163 _ ⟨trivial,⟨trivial,trivial⟩⟩
theorem ho77:HeldOk mtW e9 F77:=heldSl_ok mt_ok e9 _ ⟨trivial,trivial⟩
theorem ho74:HeldOk mtW e3 F74:=heldSl_ok mt_ok e3 _ ⟨trivial,trivial⟩
theorem ho75:HeldOk mtW e169 F75:=heldSl_ok mt_ok e169 _ ⟨trivial,⟨trivial,⟨trivial,⟨trivial,⟨trivial,trivial⟩⟩⟩⟩⟩
theorem ho69:HeldOk mtW e154 F69:=heldSl_ok mt_ok e154 _ ⟨trivial,⟨trivial,⟨trivial,⟨trivial,⟨trivial,⟨trivial,⟨ho77,⟨trivial,⟨ho77,⟨ho74,⟨ho75,⟨trivial,⟨ho68,⟨trivial,trivial⟩⟩⟩⟩⟩⟩⟩⟩⟩⟩⟩⟩⟩⟩
theorem ho72:HeldOk mtW e105 F72:=heldSl_ok mt_ok e105 _ ⟨trivial,⟨trivial,⟨trivial,trivial⟩⟩⟩
theorem ho73:HeldOk mtW e107 F73:=heldSl_ok mt_ok e107 _ ⟨trivial,⟨trivial,⟨trivial,trivial⟩⟩⟩
theorem ho76:HeldOk mtW e146 F76:=heldSl_ok mt_ok e146 _ ⟨trivial,⟨ho69,⟨trivial,⟨trivial,⟨ho77,trivial⟩⟩⟩⟩⟩
theorem ho15:HeldOk mtW e109 F15:=heldSl_ok mt_ok e109 _ ⟨trivial,⟨trivial,⟨trivial,⟨ho69,⟨trivial,⟨trivial,⟨trivial,⟨trivial,⟨trivial,⟨trivial,⟨trivial,⟨trivial,⟨ho77,⟨trivial,⟨ho77,⟨ho74,trivial⟩⟩⟩⟩⟩⟩⟩⟩⟩⟩⟩⟩⟩⟩⟩⟩
theorem ho16:HeldOk mtW e112 F16:=heldSl_ok mt_ok e112 _ ⟨trivial,⟨trivial,⟨trivial,⟨trivial,⟨trivial,trivial⟩⟩⟩⟩⟩
theorem mh182:MH e229 F182 F183:=mh_of mo182 ho183 (by decide)
theorem mh141:MH e207 F141 F142:=mh_of mo141 ho142 (by decide)
theorem mh56:MH e163 F56 F68:=mh_of mo56 ho68 (by decide)
theorem mh66:MH e9 F66 F77:=mh_of mo66 ho77 (by decide)
theorem mh62:MH e3 F62 F74:=mh_of mo62 ho74 (by decide)
theorem mh63:MH e169 F63 F75:=mh_of mo63 ho75 (by decide)
theorem mh57:MH e154 F57 F69:=mh_of mo57 ho69 (by decide)
theorem mh60:MH e105 F60 F72:=mh_of mo60 ho72 (by decide)
theorem mh61:MH e107 F61 F73:=mh_of mo61 ho73 (by decide)
theorem mh64:MH e146 F64 F76:=mh_of mo64 ho76 (by decide)
theorem mh12:MH e109 F12 F15:=mh_of mo12 ho15 (by decide)
theorem mh13:MH e112 F13 F16:=mh_of mo13 ho16 (by decide)
theorem mh55 (x:D42) (k:Int) (hk:1≤k) (hk2:k≤1125891410065408) (ho:e42.Ok x) (hw:e42.w x≤67108864):∃k' x',F55 (x,((k,()),()))=some ((k',()),(x',()))∧F67 ((x.1,(x'.2.1,())),((k,()),()))=some ((k',()),())∧1≤k'∧k'≤k+8589934592:=by
 obtain ⟨k0,x0,m0,l0,e0,g0⟩:=mh141 (x.2.1,()) k hk (by omega) ho.2.1 (w_hd (w_tl hw))
 exact ⟨_,_,(bind_eq m0 rfl),(bind_eq l0 (pos_else (Int.le_trans (by decide) e0) rfl)),e0,by omega⟩
theorem mh58 (x:D45) (k:Int) (hk:1≤k) (hk2:k≤1125891410065408) (ho:e45.Ok x) (hw:e45.w x≤67108864):∃k' x',F58 (x,((k,()),()))=some ((k',()),(x',()))∧F70 ((x.1,(x.2.1,(x'.2.2.1,()))),((k,()),()))=some ((k',()),())∧1≤k'∧k'≤k+8589934592:=by
 obtain ⟨k0,x0,m0,l0,e0,g0⟩:=mh66 (x.2.2.1,()) k hk (by omega) ho.2.2.1 (w_hd (w_tl (w_tl hw)))
 exact ⟨_,_,(bind_eq m0 rfl),(bind_eq l0 (pos_else (Int.le_trans (by decide) e0) rfl)),e0,by omega⟩
theorem mh59 (x:D46) (k:Int) (hk:1≤k) (hk2:k≤1125882820130816) (ho:e46.Ok x) (hw:e46.w x≤67108864):∃k' x',F59 (x,((k,()),()))=some ((k',()),(x',()))∧F71 ((x.1,(x'.2.1,(x'.2.2.1,()))),((k,()),()))=some ((k',()),())∧1≤k'∧k'≤k+17179869184:=by
 obtain ⟨k0,x0,m0,l0,e0,g0⟩:=mh66 (x.2.1,()) k hk (by omega) ho.2.1 (w_hd (w_tl hw))
 obtain ⟨k1,x1,m1,l1,e1,g1⟩:=mh62 (x.2.2.1,()) k0 e0 (by omega) ho.2.2.1 (w_hd (w_tl (w_tl hw)))
 exact ⟨_,_,(bind_eq m0 (bind_eq m1 rfl)),(bind_eq l0 (pos_else (Int.le_trans (by decide) e0) (bind_eq l1 (pos_else (Int.le_trans (by decide) e1) rfl)))),e1,by omega⟩
theorem mh11 (x:D52) (k:Int) (hk:1≤k) (hk2:k≤1125805510719488) (ho:e52.Ok x) (hw:e52.w x≤67108864):∃k' x',F11 (x,((k,()),()))=some ((k',()),(x',()))∧F14 ((x.1,(x.2.1,(x.2.2.1,(x'.2.2.2.1,(x'.2.2.2.2.1,(x'.2.2.2.2.2.1,(x.2.2.2.2.2.2.1,(x.2.2.2.2.2.2.2.1,(x.2.2.2.2.2.2.2.2.1,(x.2.2.2.2.2.2.2.2.2.1,(x'.2.2.2.2.2.2.2.2.2.2.1,(x.2.2.2.2.2.2.2.2.2.2.2.1,(x'.2.2.2.2.2.2.2.2.2.2.2.2.1,(x'.2.2.2.2.2.2.2.2.2.2.2.2.2.1,(x.2.2.2.2.2.2.2.2.2.2.2.2.2.2.1,(x'.2.2.2.2.2.2.2.2.2.2.2.2.2.2.2.1,(x'.2.2.2.2.2.2.2.2.2.2.2.2.2.2.2.2.1,(x'.2.2.2.2.2.2.2.2.2.2.2.2.2.2.2.2.2.1,(x'.2.2.2.2.2.2.2.2.2.2.2.2.2.2.2.2.2.2.1,(x'.2.2.2.2.2.2.2.2.2.2.2.2.2.2.2.2.2.2.2.1,())))))))))))))))))))),((k,()),()))=some ((k',()),())∧1≤k'∧k'≤k+94489280512:=by
 obtain ⟨k0,x0,m0,l0,e0,g0⟩:=mh55 (x.2.2.1,(x.2.2.2.1,())) k hk (by omega) ⟨ho.2.2.1,⟨ho.2.2.2.1,trivial⟩⟩ (w_pre2 (w_tl (w_tl hw)))
 obtain ⟨k1,x1,m1,l1,e1,g1⟩:=mh56 (x.2.2.2.2.1,()) k0 e0 (by omega) ho.2.2.2.2.1 (w_hd (w_tl (w_tl (w_tl (w_tl hw)))))
 obtain ⟨k2,x2,m2,l2,e2,g2⟩:=mh57 (x.2.2.2.2.2.1,()) k1 e1 (by omega) ho.2.2.2.2.2.1 (w_hd (w_tl (w_tl (w_tl (w_tl (w_tl hw))))))
 obtain ⟨k3,x3,m3,l3,e3,g3⟩:=mh58 (x.2.2.2.2.2.2.2.2.1,(x.2.2.2.2.2.2.2.2.2.1,(x.2.2.2.2.2.2.2.2.2.2.1,()))) k2 e2 (by omega) ⟨ho.2.2.2.2.2.2.2.2.1,⟨ho.2.2.2.2.2.2.2.2.2.1,⟨ho.2.2.2.2.2.2.2.2.2.2.1,trivial⟩⟩⟩ (w_pre3 (w_tl (w_tl (w_tl (w_tl (w_tl (w_tl (w_tl (w_tl hw)))))))))
 obtain ⟨k4,x4,m4,l4,e4,g4⟩:=mh59 (x.2.2.2.2.2.2.2.2.2.2.2.1,(x.2.2.2.2.2.2.2.2.2.2.2.2.1,(x.2.2.2.2.2.2.2.2.2.2.2.2.2.1,()))) k3 e3 (by omega) ⟨ho.2.2.2.2.2.2.2.2.2.2.2.1,⟨ho.2.2.2.2.2.2.2.2.2.2.2.2.1,⟨ho.2.2.2.2.2.2.2.2.2.2.2.2.2.1,trivial⟩⟩⟩ (w_pre3 (w_tl (w_tl (w_tl (w_tl (w_tl (w_tl (w_tl (w_tl (w_tl (w_tl (w_tl hw))))))))))))
 obtain ⟨k5,x5,m5,l5,e5,g5⟩:=mh60 (x.2.2.2.2.2.2.2.2.2.2.2.2.2.2.2.1,()) k4 e4 (by omega) ho.2.2.2.2.2.2.2.2.2.2.2.2.2.2.2.1 (w_hd (w_tl (w_tl (w_tl (w_tl (w_tl (w_tl (w_tl (w_tl (w_tl (w_tl (w_tl (w_tl (w_tl (w_tl (w_tl hw))))))))))))))))
 obtain ⟨k6,x6,m6,l6,e6,g6⟩:=mh61 (x.2.2.2.2.2.2.2.2.2.2.2.2.2.2.2.2.1,()) k5 e5 (by omega) ho.2.2.2.2.2.2.2.2.2.2.2.2.2.2.2.2.1 (w_hd (w_tl (w_tl (w_tl (w_tl (w_tl (w_tl (w_tl (w_tl (w_tl (w_tl (w_tl (w_tl (w_tl (w_tl (w_tl (w_tl hw)))))))))))))))))
 obtain ⟨k7,x7,m7,l7,e7,g7⟩:=mh62 (x.2.2.2.2.2.2.2.2.2.2.2.2.2.2.2.2.2.1,()) k6 e6 (by omega) ho.2.2.2.2.2.2.2.2.2.2.2.2.2.2.2.2.2.1 (w_hd (w_tl (w_tl (w_tl (w_tl (w_tl (w_tl (w_tl (w_tl (w_tl (w_tl (w_tl (w_tl (w_tl (w_tl (w_tl (w_tl (w_tl hw))))))))))))))))))
 obtain ⟨k8,x8,m8,l8,e8,g8⟩:=mh63 (x.2.2.2.2.2.2.2.2.2.2.2.2.2.2.2.2.2.2.1,()) k7 e7 (by omega) ho.2.2.2.2.2.2.2.2.2.2.2.2.2.2.2.2.2.2.1 (w_hd (w_tl (w_tl (w_tl (w_tl (w_tl (w_tl (w_tl (w_tl (w_tl (w_tl (w_tl (w_tl (w_tl (w_tl (w_tl (w_tl (w_tl (w_tl hw)))))))))))))))))))
 obtain ⟨k9,x9,m9,l9,e9,g9⟩:=mh64 (x.2.2.2.2.2.2.2.2.2.2.2.2.2.2.2.2.2.2.2.1,()) k8 e8 (by omega) ho.2.2.2.2.2.2.2.2.2.2.2.2.2.2.2.2.2.2.2.1 (w_hd (w_tl (w_tl (w_tl (w_tl (w_tl (w_tl (w_tl (w_tl (w_tl (w_tl (w_tl (w_tl (w_tl (w_tl (w_tl (w_tl (w_tl (w_tl (w_tl hw))))))))))))))))))))
 exact ⟨_,_,(bind_eq m0 (bind_eq m1 (bind_eq m2 (bind_eq m3 (bind_eq m4 (bind_eq m5 (bind_eq m6 (bind_eq m7 (bind_eq m8 (bind_eq m9 rfl)))))))))),(bind_eq l0 (pos_else (Int.le_trans (by decide) e0) (bind_eq l1 (pos_else (Int.le_trans (by decide) e1) (bind_eq l2 (pos_else (Int.le_trans (by decide) e2) (bind_eq l3 (pos_else (Int.le_trans (by decide) e3) (bind_eq l4 (pos_else (Int.le_trans (by decide) e4) (bind_eq l5 (pos_else (Int.le_trans (by decide) e5) (bind_eq l6 (pos_else (Int.le_trans (by decide) e6) (bind_eq l7 (pos_else (Int.le_trans (by decide) e7) (bind_eq l8 (pos_else (Int.le_trans (by decide) e8) (bind_eq l9 (pos_else (Int.le_trans (by decide) e9) rfl)))))))))))))))))))),e9,by omega⟩
end Go.Proofs.YtbhckidcagloeaaGreat
-- no more blanks than needed
