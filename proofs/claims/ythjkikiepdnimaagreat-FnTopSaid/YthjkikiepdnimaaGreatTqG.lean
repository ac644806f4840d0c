/- Each function does as its contract says. Conditions: none. -/
import Derived.Test.YthjkikiepdnimaaGreatTqTm3
import Derived.Test.YthjkikiepdnimaaGreatTqF
set_option linter.unusedVariables false
set_option linter.unusedSimpArgs false
set_option linter.constructorNameAsVariable false
namespace Go.Proofs.YthjkikiepdnimaaGreat
open Go Go.Tm
set_option maxRecDepth 100000
theorem mx:Tryz.prog.follows .mixedOrders=true:=by kernel_rfl
def GE(f:Nat)(c:zi):Prop:=Tm.nh Tryz.prog f c/\Tm.iU Tryz.prog f
def Wm(l:List (Nat×zi)):Prop:=∀n c,lk l n=some c->GE n c
theorem ln:Wm []:=λ_ _ h=>by cases h
theorem lc{k:Nat}{c:zi}{l:List (Nat×zi)}(h:GE k c)(f:Wm l):Wm ((k,c)::l):=by intro n d a;unfold lk at a;cases e:Nat.beq n k with|false=>rw[e]at a;exact f n d a|true=>rw[e]at a;have b:c=d:=Option.some.inj a;rw[Nat.eq_of_beq_eq_true e,<-b];exact h
theorem ge{f:Nat}{fn:Func}{a:zi}{l:List (Nat×zi)}(g:Nat)(c:List (Nat×List (Nat×List Md)))(e b:List (Nat×jP))(i:Wm l)(d:Tryz.prog.funcs[f]?=some fn)(j:(!(fn.name== "runtime.NumGoroutine")&&fn.body.isSome)=true)(h:∀x,AW (cx g l c e b) fn a.ins a.aX x=a.f x):GE f a:=⟨Tm.BX (C:=cx g l c e b) mx (Bu ab5) i d h,Tm.AB d j⟩
theorem g7:GE 7 c7:=ge 6 [] [] [] ln Tryz.func7 (by kernel_rfl) λx=>by kernel_rfl
theorem g25:GE 25 c25:=ge 32 [] [(0,⟨[(.t 3 (.int .i64) .sh),(.t 4 (.int .i64) .sh)],li 8 20,[]⟩)] [] ln Tryz.func25 (by kernel_rfl) λx=>by kernel_rfl
theorem g27:GE 27 c27:=ge 15 [] [] [] ln Tryz.func27 (by kernel_rfl) λx=>by kernel_rfl
theorem bh9:GE 112 aq8:=ge 58 [] [] [(6,⟨[(.t 3 (.int .i64) .sh),(.b 0 1 (.int .i64) .sh)],li 25 32,[]⟩)] ln Tryz.func112 (by kernel_rfl) λx=>by kernel_rfl
theorem Wn:GE 60 c60:=ge 31 [] [] [] (lc bh9 ln) Tryz.func60 (by kernel_rfl) λx=>by kernel_rfl
theorem YM:GE 104 ar1:=ge 12 [] [] [] (lc Wn ln) Tryz.func104 (by kernel_rfl) λx=>by kernel_rfl
theorem g59:GE 59 c59:=ge 9 [] [] [] (lc Wn ln) Tryz.func59 (by kernel_rfl) λx=>by kernel_rfl
theorem g58:GE 58 c58:=ge 37 [(6,[(10,m0),(11,m0)]),(8,[(3,m0),(4,m0)])] [(0,⟨[(.t 5 (.int .i64) .sh),(.b 0 0 (.sl e5) .sh),(.b 0 1 (.int .i64) .sh),(.b 0 2 (.int .i64) .sh),(.b 6144 1 (.sl cf) (.own m0))],li 10 18,[]⟩)] [(9,⟨[(.b 0 0 (.sl e5) .sh),(.b 0 1 (.int .i64) .sh),(.b 0 2 (.int .i64) .sh),(.b 6144 1 (.sl cf) (.own m0))],li 28 8,[20484]⟩),(3006145,⟨[],[],[6144]⟩),(3006148,⟨[],[],[32768]⟩),(3006149,⟨[],[],[32768]⟩)] (lc g59 (lc YM ln)) Tryz.func58 (by kernel_rfl) λx=>by kernel_rfl
theorem Ew:GE 121 ar3:=ge 15 [] [] [] ln Tryz.func121 (by kernel_rfl) λx=>by kernel_rfl
theorem MU:GE 128 ar5:=ge 27 [] [(0,⟨[(.t 3 (.int .i64) .sh)],[2]++li 4 20,[]⟩)] [] (lc Ew ln) Tryz.func128 (by kernel_rfl) λx=>by kernel_rfl
theorem bi0:GE 175 ar7:=ge 71 [] [(0,⟨[(.t 3 (.int .i64) .sh)],[2,4]++li 33 38,[]⟩)] [(3007169,⟨[],[],[88064]⟩),(3007174,⟨[],[],[88064]⟩),(3007183,⟨[],[],[2048]⟩),(3007186,⟨[],[],[]⟩),(3007188,⟨[],[],[]⟩),(3007190,⟨[],[],[88064]⟩)] (lc Ew (lc MU ln)) Tryz.func175 (by kernel_rfl) λx=>by kernel_rfl
theorem bi1:GE 213 as0:=ge 26 [] [(0,⟨[(.t 3 (.int .i64) .sh),(.t 4 (.int .i64) .sh)],li 10 15,[]⟩)] [] ln Tryz.func213 (by kernel_rfl) λx=>by kernel_rfl
theorem bi2:GE 176 as2:=ge 19 [] [(0,⟨[(.t 3 (.int .i64) .sh),(.t 4 (.int .i64) .sh)],li 5 13,[]⟩)] [] (lc bi1 ln) Tryz.func176 (by kernel_rfl) λx=>by kernel_rfl
theorem bi3:GE 127 as5:=ge 42 [] [(0,⟨[(.t 3 (.int .i64) .sh)],[2]++li 4 30,[]⟩)] [(3004098,⟨[],[],[]⟩),(3004099,⟨[],[],[]⟩),(3004109,⟨[],[],[]⟩),(3004111,⟨[],[],[]⟩),(3004114,⟨[],[],[]⟩),(3004116,⟨[],[],[]⟩)] (lc bi0 (lc bi2 ln)) Tryz.func127 (by kernel_rfl) λx=>by kernel_rfl
theorem XD:GE 68 c68:=ge 11 [] [] [] (lc Ew (lc bi3 ln)) Tryz.func68 (by kernel_rfl) λx=>by kernel_rfl
theorem YN:GE 70 c70:=ge 35 [] [(0,⟨[(.t 3 (.int .i64) .sh)],[2]++li 4 28,[]⟩)] [(3004098,⟨[],[],[]⟩),(3004099,⟨[],[],[]⟩),(3004109,⟨[],[],[]⟩),(3004110,⟨[],[],[]⟩),(3004113,⟨[],[],[]⟩),(3004114,⟨[],[],[]⟩)] (lc MU ln) Tryz.func70 (by kernel_rfl) λx=>by kernel_rfl
theorem YO:GE 159 as6:=ge 27 [(1,[(0,m0)]),(7,[(2,m0),(3,m0)])] [(0,⟨[(.t 3 (.sl cf) (.own m0)),(.t 4 (.int .i64) .sh)],[5]++li 7 19,[]⟩)] [] ln Tryz.func159 (by kernel_rfl) λx=>by kernel_rfl
theorem LX:GE 113 as7:=ge 9 [] [] [(3001025,⟨[],[],[2048]⟩),(3001027,⟨[],[],[2048]⟩)] (lc YO ln) Tryz.func113 (by kernel_rfl) λx=>by kernel_rfl
theorem SZ:GE 114 as9:=ge 18 [] [(0,⟨[(.t 5 (.int .i64) .sh)],[4]++li 6 12,[]⟩)] [] ln Tryz.func114 (by kernel_rfl) λx=>by kernel_rfl
theorem g69:GE 69 c69:=ge 37 [] [(0,⟨[(.t 3 (.sl Fp) (.own [])),(.t 4 (.int .i64) .sh)],li 6 30,[]⟩)] [(3006146,⟨[],[],[2048]⟩),(3006148,⟨[],[],[]⟩),(3006150,⟨[],[],[]⟩),(3006152,⟨[],[],[2048]⟩),(3006154,⟨[],[],[]⟩),(3006156,⟨[],[],[]⟩)] ln Tryz.func69 (by kernel_rfl) λx=>by kernel_rfl
theorem bi4:GE 115 at3:=ge 23 [] [] [(3003074,⟨[],[],[2048]⟩),(3003075,⟨[],[],[2048]⟩),(3003077,⟨[],[],[2048]⟩)] (lc XD (lc g69 (lc LX (lc MU ln)))) Tryz.func115 (by kernel_rfl) λx=>by kernel_rfl
theorem g61:GE 61 c61:=ge 52 [(8,[(10,m4),(11,m4)])] [(0,⟨[(.t 6 (.int .i64) .sh),(.b 34816 3 (.sl Ln) (.own m4))],li 22 29,[]⟩)] [(3008193,⟨[],[],[34816]⟩),(3008195,⟨[],[],[2048]⟩),(3008197,⟨[],[],[]⟩),(3008199,⟨[],[],[]⟩),(3008200,⟨[],[],[2048]⟩)] (lc XD (lc YN (lc LX (lc SZ (lc bi4 ln))))) Tryz.func61 (by kernel_rfl) λx=>by kernel_rfl
theorem Wo:GE 116 at6:=ge 20 [] [] [] ln Tryz.func116 (by kernel_rfl) λx=>by kernel_rfl
theorem bi5:GE 228 at8:=ge 12 [] [] [] (lc Wn ln) Tryz.func228 (by kernel_rfl) λx=>by kernel_rfl
theorem bi6:GE 198 au1:=ge 6 [] [] [] (lc bi5 ln) Tryz.func198 (by kernel_rfl) λx=>by kernel_rfl
theorem ag2:GE 160 au3:=ge 22 [] [] [(4,⟨[(.b 0 0 (.sl e5) .sh),(.b 0 1 (.int .i64) .sh),(.b 0 2 (.int .i64) .sh),(.b 26624 2 .str .sh)],li 15 6,[]⟩)] (lc Wn (lc YM (lc bi6 ln))) Tryz.func160 (by kernel_rfl) λx=>by kernel_rfl
theorem bi7:GE 117 au6:=ge 34 [] [] [(6,⟨[(.b 0 0 (.sl e5) .sh),(.b 0 1 (.int .i64) .sh),(.b 0 2 (.int .i64) .sh),(.b 10240 1 .str .sh),(.b 10240 4 (.int .i64) .sh)],[6]++li 9 24,[]⟩),(3003073,⟨[],[],[2048]⟩),(3003076,⟨[],[],[2048]⟩),(3003077,⟨[],[],[]⟩),(3003079,⟨[],[],[]⟩),(3003080,⟨[],[],[]⟩)] (lc g59 (lc Wn (lc ag2 ln))) Tryz.func117 (by kernel_rfl) λx=>by kernel_rfl
theorem Kr:GE 161 au8:=ge 9 [] [] [] ln Tryz.func161 (by kernel_rfl) λx=>by kernel_rfl
theorem QU:GE 200 av0:=ge 14 [] [] [] ln Tryz.func200 (by kernel_rfl) λx=>by kernel_rfl
theorem S1:GE 169 av1:=ge 22 [] [] [] (lc Kr (lc QU ln)) Tryz.func169 (by kernel_rfl) λx=>by kernel_rfl
theorem QV:GE 199 av2:=ge 21 [(1,[(0,m1)]),(5,[(6,m1),(7,m1)])] [(0,⟨[(.t 3 (.sl lf) (.own m1)),(.t 4 (.int .i64) .sh)],li 6 14,[]⟩)] [] (lc S1 ln) Tryz.func199 (by kernel_rfl) λx=>by kernel_rfl
theorem bi8:GE 201 av5:=ge 12 [] [] [(3001025,⟨[],[],[2048]⟩),(3001027,⟨[],[],[2048]⟩),(3001030,⟨[],[],[2048]⟩)] (lc Kr (lc QV ln)) Tryz.func201 (by kernel_rfl) λx=>by kernel_rfl
theorem bi9:GE 162 av7:=ge 68 [(11,[(0,m2)]),(15,[(8,m2),(9,m2)])] [(0,⟨[(.t 4 (.int .i64) .sh),(.b 8192 19 (.sl Mz) (.own m2))],li 49 18,[114688]⟩)] [(3015361,⟨[],[],[8192]⟩),(3015363,⟨[],[],[2048]⟩),(3015365,⟨[],[],[]⟩),(3015366,⟨[],[],[]⟩)] (lc LX (lc Kr (lc QV (lc QU (lc bi8 ln))))) Tryz.func162 (by kernel_rfl) λx=>by kernel_rfl
theorem ag3:GE 212 av9:=ge 54 [] [] [] ln Tryz.func212 (by kernel_rfl) λx=>by kernel_rfl
theorem YP:GE 131 aw1:=ge 33 [] [] [] (lc Ew (lc MU ln)) Tryz.func131 (by kernel_rfl) λx=>by kernel_rfl
theorem ag4:GE 181 aw3:=ge 36 [] [(0,⟨[(.t 3 (.int .i64) .sh)],[2]++li 4 29,[]⟩)] [(3004098,⟨[],[],[]⟩),(3004099,⟨[],[],[]⟩),(3004109,⟨[],[],[]⟩),(3004110,⟨[],[],[]⟩),(3004113,⟨[],[],[]⟩),(3004114,⟨[],[],[]⟩)] (lc YP (lc ag3 ln)) Tryz.func181 (by kernel_rfl) λx=>by kernel_rfl
theorem ag5:GE 174 aw6:=ge 54 [] [(0,⟨[(.t 7 (.int .i64) .sh),(.r 18432 iv [])],li 17 21,[]⟩)] [(3001027,⟨[],[],[2048]⟩),(3003075,⟨[],[],[2048]⟩),(3003079,⟨[],[],[18432]⟩),(3003080,⟨[],[],[18432]⟩)] (lc ag4 (lc ag3 ln)) Tryz.func174 (by kernel_rfl) λx=>by kernel_rfl
theorem bj0:GE 163 aw9:=ge 23 [] [(0,⟨[(.t 5 (.sl iv) (.own [])),(.t 6 (.int .i64) .sh),(.b 0 0 (.sl e5) .sh),(.b 0 1 (.int .i64) .sh),(.b 0 2 (.int .i64) .sh)],li 11 11,[]⟩)] [] (lc Wn (lc ag2 (lc ag5 ln))) Tryz.func163 (by kernel_rfl) λx=>by kernel_rfl
theorem QW:GE 164 ax1:=ge 19 [] [(0,⟨[(.t 5 (.int .i64) .sh)],[4]++li 6 13,[]⟩)] [] ln Tryz.func164 (by kernel_rfl) λx=>by kernel_rfl
theorem QX:GE 134 ax4:=ge 17 [] [] [] ln Tryz.func134 (by kernel_rfl) λx=>by kernel_rfl
theorem bj1:GE 129 ax7:=ge 27 [] [] [] (lc YN (lc Ew (lc QX ln))) Tryz.func129 (by kernel_rfl) λx=>by kernel_rfl
theorem QY:GE 136 ay0:=ge 18 [] [] [] ln Tryz.func136 (by kernel_rfl) λx=>by kernel_rfl
theorem bj2:GE 130 ay3:=ge 48 [] [(0,⟨[(.t 4 (.int .i64) .sh)],[2]++li 31 17,[]⟩)] [(3009217,⟨[],[],[10240]⟩),(3009219,⟨[],[],[]⟩),(3009220,⟨[],[],[]⟩),(3009222,⟨[],[],[10240]⟩)] (lc YN (lc Ew (lc QY ln))) Tryz.func130 (by kernel_rfl) λx=>by kernel_rfl
theorem ag6:GE 132 ay5:=ge 47 [] [(0,⟨[(.t 3 (.int .i64) .sh)],[2]++li 4 40,[]⟩)] [(3004098,⟨[],[],[]⟩),(3004100,⟨[],[],[]⟩),(3004106,⟨[],[],[]⟩),(3004108,⟨[],[],[]⟩),(3004119,⟨[],[],[]⟩),(3004121,⟨[],[],[]⟩),(3004124,⟨[],[],[]⟩),(3004126,⟨[],[],[]⟩)] (lc Ew (lc MU ln)) Tryz.func132 (by kernel_rfl) λx=>by kernel_rfl
theorem g71:GE 71 c71:=ge 77 [] [(0,⟨[(.t 3 (.int .i64) .sh)],[2]++li 42 14,[]⟩)] [] (lc Ew (lc MU (lc bj1 (lc bj2 (lc YP (lc ag6 ln)))))) Tryz.func71 (by kernel_rfl) λx=>by kernel_rfl
theorem QZ:GE 206 ay7:=ge 20 [] [(0,⟨[(.t 5 (.int .i64) .sh)],[4]++li 6 14,[]⟩)] [] ln Tryz.func206 (by kernel_rfl) λx=>by kernel_rfl
theorem YQ:GE 182 az0:=ge 70 [] [(0,⟨[(.t 3 (.int .i64) .sh)],[2]++li 4 63,[]⟩)] [(7,⟨[],li 16 27,[]⟩),(3005120,⟨[],[],[24576]⟩),(3005125,⟨[],[],[24576]⟩),(3005127,⟨[],[],[]⟩),(3005129,⟨[],[],[]⟩),(3005139,⟨[],[],[]⟩),(3005141,⟨[],[],[]⟩),(3005143,⟨[],[],[24576]⟩),(3008194,⟨[],[],[]⟩),(3008197,⟨[],[],[24576]⟩)] (lc g71 (lc QX (lc QZ ln))) Tryz.func182 (by kernel_rfl) λx=>by kernel_rfl
theorem ag8:GE 229 az3:=ge 17 [] [] [] (lc YQ (lc QZ ln)) Tryz.func229 (by kernel_rfl) λx=>by kernel_rfl
theorem S2:GE 232 az5:=ge 27 [] [(0,⟨[(.t 1 (.int .i64) .sh),(.t 5 (.sl e3) (.own []))],[4,6]++li 8 18,[]⟩)] [] (lc QZ ln) Tryz.func232 (by kernel_rfl) λx=>by kernel_rfl
theorem ag9:GE 230 az8:=ge 24 [] [(0,⟨[(.t 6 (.int .i64) .sh)],[4]++li 10 14,[]⟩)] [] (lc S2 ln) Tryz.func230 (by kernel_rfl) λx=>by kernel_rfl
theorem Wp:GE 217 aA0:=ge 20 [] [(0,⟨[(.t 5 (.int .i64) .sh)],[4]++li 6 14,[]⟩)] [] ln Tryz.func217 (by kernel_rfl) λx=>by kernel_rfl
theorem ah0(z:Option (GD OA)):(show Option (GD Yx)from z)=z.map (CO OA):=by cases z<;>rfl
theorem bj3:GE 159 aA2:=⟨Tm.AQ (ins:=ab7) (aX:=OA) (F:=GU) (F':=GU) YO.1 (λx=>ah0 (GU x)),YO.2⟩
theorem bj4:GE 244 aA5:=ge 49 [] [(0,⟨[(.t 6 (.int .i64) .sh),(.r 24576 cf [])],li 21 22,[]⟩)] [] (lc bj3 (lc Wp ln)) Tryz.func244 (by kernel_rfl) λx=>by kernel_rfl
theorem bj5:GE 245 aA7:=ge 62 [] [(0,⟨[(.t 7 (.sl w5) (.own [])),(.t 8 .bool .sh),(.t 9 (.int .i64) .sh)],[10]++li 12 41,[]⟩)] [(10,⟨[(.t 8 .bool .sh),(.b 30720 0 (.int .i64) .sh)],li 22 13,[]⟩),(13,⟨[(.t 7 (.sl w5) (.own [])),(.t 8 .bool .sh)],li 35 14,[12288]⟩),(16,⟨[(.t 7 (.sl w5) (.own []))],li 53 8,[12288]⟩)] ln Tryz.func245 (by kernel_rfl) λx=>by kernel_rfl
theorem ah1(z:Option (GD QG)):(show Option (GD QJ)from z)=z.map (CO QG):=by cases z<;>rfl
theorem YR:GE 113 aA9:=⟨Tm.AQ (ins:=ab8) (aX:=QG) (F:=Fj) (F':=Fj) LX.1 (λx=>ah1 (Fj x)),LX.2⟩
theorem bj6:GE 218 aB2:=ge 109 [] [] [(15,⟨[(.b 12288 1 (.sl cf) (.own []))],[9]++li 24 84,[10242]⟩),(3005124,⟨[],[],[10242]⟩),(3005126,⟨[],[],[4096]⟩),(3006148,⟨[],[],[10242]⟩),(3006150,⟨[],[],[4096]⟩),(3006152,⟨[],[],[2048]⟩),(3008196,⟨[],[],[10242]⟩),(3008198,⟨[],[],[4096]⟩),(3011265,⟨[],[],[12288]⟩),(3011268,⟨[],[],[12288]⟩),(3011270,⟨[],[],[83969]⟩),(3011272,⟨[],[],[83969]⟩),(3011274,⟨[],[],[4096]⟩),(3011276,⟨[],[],[83969]⟩),(3013316,⟨[],[],[10242]⟩),(3013318,⟨[],[],[4096]⟩),(3014340,⟨[],[],[10242]⟩),(3014342,⟨[],[],[4096]⟩)] (lc YR (lc Wp (lc bj4 (lc bj5 ln)))) Tryz.func218 (by kernel_rfl) λx=>by kernel_rfl
theorem ah2:GE 185 aB3:=ge 64 [] [] [(11,⟨[(.t 9 (.int .i64) .sh)],li 37 5,[]⟩)] (lc XD (lc LX (lc YP (lc Wp (lc bj6 ln))))) Tryz.func185 (by kernel_rfl) λx=>by kernel_rfl
theorem Wq:GE 140 aB5:=ge 35 [] [(0,⟨[(.t 7 (.int .i64) .sh),(.t 8 (.int .i64) .sh),(.b 12288 0 (.int .i64) .sh),(.b 12288 1 (.sl cf) .sh)],[9,10]++li 13 20,[10242]⟩)] [(3006144,⟨[],[],[12288]⟩),(3006147,⟨[],[],[]⟩),(3006148,⟨[],[],[]⟩)] (lc LX (lc ah2 ln)) Tryz.func140 (by kernel_rfl) λx=>by kernel_rfl
theorem ah3:GE 231 aB8:=ge 35 [] [(0,⟨[(.t 9 (.int .i64) .sh),(.b 10240 0 (.int .i64) .sh),(.b 10240 1 (.sl cf) .sh)],li 15 19,[8194]⟩)] [(3006144,⟨[],[],[10240]⟩),(3006148,⟨[],[],[18433]⟩),(3006149,⟨[],[],[18433]⟩),(3006150,⟨[],[],[]⟩),(3006152,⟨[],[],[]⟩)] (lc LX (lc Wq (lc S2 ln))) Tryz.func231 (by kernel_rfl) λx=>by kernel_rfl
theorem Wr:GE 141 aC1:=ge 86 [] [(0,⟨[(.t 4 (.int .i64) .sh),(.r 8194 cf [])],[5,6,7]++li 18 62,[]⟩),(2,⟨[(.t 6 (.sl w5) (.own [])),(.t 7 (.int .i64) .sh),(.r 8194 cf [])],li 30 46,[]⟩)] [(3014340,⟨[],[],[8194]⟩),(3014344,⟨[],[],[8194]⟩),(3014346,⟨[],[],[]⟩),(3014348,⟨[],[],[]⟩)] (lc XD (lc YR ln)) Tryz.func141 (by kernel_rfl) λx=>by kernel_rfl
theorem g31:GE 31 c31:=ge 9 [] [] [] (lc XD (lc g69 ln)) Tryz.func31 (by kernel_rfl) λx=>by kernel_rfl
theorem ah4:GE 261 aC3:=ge 37 [] [(0,⟨[(.t 5 (.sl e5) (.own [])),(.t 6 (.int .i64) .sh)],li 21 11,[]⟩)] [(4,⟨[(.t 1 (.int .i64) .sh)],[10,11],[]⟩),(6,⟨[(.t 1 (.int .i64) .sh)],[12,13],[]⟩),(9,⟨[(.t 6 (.int .i64) .sh)],li 16 5,[]⟩)] ln Tryz.func261 (by kernel_rfl) λx=>by kernel_rfl
theorem bj8:GE 262 aC6:=ge 11 [] [] [] (lc ah4 ln) Tryz.func262 (by kernel_rfl) λx=>by kernel_rfl
theorem bj9:GE 250 aC9:=ge 46 [] [(0,⟨[(.t 3 (.sl e5) (.own [])),(.t 4 (.int .i64) .sh)],li 22 22,[]⟩)] [(3001026,⟨[],[],[2048]⟩),(3001029,⟨[],[],[2048]⟩),(3001032,⟨[],[],[2048]⟩),(3001035,⟨[],[],[2048]⟩),(3001038,⟨[],[],[2048]⟩),(3001039,⟨[],[],[]⟩),(3005122,⟨[],[],[2048]⟩),(3005124,⟨[],[],[]⟩),(3005126,⟨[],[],[]⟩),(3005129,⟨[],[],[2048]⟩),(3005131,⟨[],[],[]⟩),(3005133,⟨[],[],[]⟩)] (lc ah4 (lc bj8 ln)) Tryz.func250 (by kernel_rfl) λx=>by kernel_rfl
theorem bk0:GE 275 aD2:=ge 34 [] [(0,⟨[(.t 3 (.sl e5) (.own []))],li 11 7,[]⟩),(2,⟨[(.t 3 (.sl e5) (.own [])),(.t 5 (.int .i64) .sh)],li 21 12,[]⟩)] [] ln Tryz.func275 (by kernel_rfl) λx=>by kernel_rfl
theorem bk1:GE 276 aD5:=ge 2 [] [] [] ln Tryz.func276 (by kernel_rfl) λx=>by kernel_rfl
theorem ah5:GE 279 aD7:=ge 16 [] [] [] ln Tryz.func279 (by kernel_rfl) λx=>by kernel_rfl
theorem bk2:GE 278 aE0:=ge 101 [] [(0,⟨[(.t 3 (.sl e3) (.own [])),(.t 4 (.int .i64) .sh)],li 11 40,[]⟩),(2,⟨[(.t 3 (.sl e3) (.own [])),(.t 5 (.int .i64) .sh)],[6,7,8,9]++li 51 49,[]⟩)] [(3005124,⟨[],[],[]⟩),(3005125,⟨[],[],[]⟩),(3005132,⟨[],[],[]⟩),(3005133,⟨[],[],[]⟩),(3005141,⟨[],[],[]⟩),(3005142,⟨[],[],[]⟩),(3005150,⟨[],[],[]⟩),(3005151,⟨[],[],[]⟩),(3013316,⟨[],[],[14336]⟩),(3013317,⟨[],[],[14336]⟩),(3013323,⟨[],[],[14336]⟩),(3013324,⟨[],[],[14336]⟩)] (lc ah5 ln) Tryz.func278 (by kernel_rfl) λx=>by kernel_rfl
theorem bk3:GE 277 aE3:=ge 144 [] [(0,⟨[(.t 8 (.sl e3) (.own [])),(.t 9 (.int .i64) .sh)],li 10 8++li 24 102,[]⟩),(2,⟨[(.t 18 (.int .i64) .sh),(.r 20480 e3 [])],li 126 17,[]⟩)] [(3014342,⟨[],[],[20480]⟩),(3014343,⟨[],[],[20480]⟩),(3014345,⟨[],[],[20480]⟩),(3014346,⟨[],[],[20480]⟩),(3014348,⟨[],[],[20480]⟩),(3014349,⟨[],[],[20480]⟩),(3014355,⟨[],[],[20480]⟩),(3014356,⟨[],[],[20480]⟩),(3014358,⟨[],[],[20480]⟩),(3014359,⟨[],[],[20480]⟩),(3018436,⟨[],[],[20480]⟩),(3018437,⟨[],[],[20480]⟩),(3018440,⟨[],[],[]⟩),(3018441,⟨[],[],[]⟩),(3018444,⟨[],[],[20480]⟩)] (lc bk2 (lc ah5 ln)) Tryz.func277 (by kernel_rfl) λx=>by kernel_rfl
theorem YS:GE 269 aE6:=ge 60 [] [(0,⟨[(.t 4 (.sl e3) (.own [])),(.t 6 (.int .i64) .sh),(.t 3 (.sl e5) .sh)],li 13 14,[]⟩),(2,⟨[(.t 7 (.sl e5) (.own [])),(.t 8 (.int .i64) .sh)],li 28 30,[]⟩)] [(3012291,⟨[],[],[20480]⟩),(3012292,⟨[],[],[20480]⟩),(3012297,⟨[],[],[20480]⟩),(3012298,⟨[],[],[20480]⟩),(3012303,⟨[],[],[20480]⟩),(3012304,⟨[],[],[20480]⟩),(3012309,⟨[],[],[20480]⟩),(3012310,⟨[],[],[20480]⟩)] (lc bk0 (lc bk1 (lc bk3 ln))) Tryz.func269 (by kernel_rfl) λx=>by kernel_rfl
theorem bk4:GE 270 aE9:=ge 7 [] [] [] (lc YS ln) Tryz.func270 (by kernel_rfl) λx=>by kernel_rfl
theorem bk5:GE 271 aF2:=ge 11 [] [(0,⟨[(.t 3 (.int .i64) .sh)],li 4 6,[]⟩)] [] ln Tryz.func271 (by kernel_rfl) λx=>by kernel_rfl
theorem bk6:GE 272 aF4:=ge 11 [] [] [] (lc YS ln) Tryz.func272 (by kernel_rfl) λx=>by kernel_rfl
theorem YT:∀k,GE 263 (aF6 k)|0=>⟨Tm.AA,Tm.AB Tryz.func263 (by kernel_rfl)⟩|k+1=>ge 28 [] [] [(3007170,⟨[],[],[]⟩),(3007174,⟨[],[],[]⟩)] (lc (YT k) (lc YS (lc bk4 (lc bk5 (lc bk6 ln))))) Tryz.func263 (by kernel_rfl) λx=>by kernel_rfl
theorem bk7:GE 263 aF5:=⟨Tm.Bt λk=>(YT k).1,(YT 0).2⟩
theorem bk8:GE 251 aF9:=ge 8 [] [] [] (lc bk7 ln) Tryz.func251 (by kernel_rfl) λx=>by kernel_rfl
theorem ah6:GE 233 aG2:=ge 27 [] [(0,⟨[(.t 3 (.sl e9) (.own [])),(.t 4 (.int .i64) .sh)],li 9 16,[]⟩)] [] (lc XD (lc bj9 (lc bk8 ln))) Tryz.func233 (by kernel_rfl) λx=>by kernel_rfl
theorem bk9:GE 202 aG5:=ge 78 [] [(0,⟨[(.t 12 (.sl iv) (.own [])),(.t 14 (.int .i64) .sh),(.b 43008 0 (.int .i64) .sh),(.b 43008 1 (.sl cf) .sh)],[15,16]++li 34 30,[]⟩)] [(3008192,⟨[],[],[43008]⟩),(3008195,⟨[],[],[]⟩),(3008196,⟨[],[],[]⟩),(3015361,⟨[],[],[65536]⟩),(3015363,⟨[],[],[65536]⟩)] (lc g31 (lc Wr (lc ah2 (lc ag8 (lc ag9 (lc ah3 (lc S2 (lc ah6 ln)))))))) Tryz.func202 (by kernel_rfl) λx=>by kernel_rfl
theorem ah7:GE 165 aG8:=ge 48 [] [] [(4,⟨[(.b 28672 7 (.int .i64) .sh),(.b 28672 8 (.sl e9) (.own [])),(.b 28672 9 (.sl e3) (.own []))],li 17 11,[]⟩),(3001026,⟨[],[],[2048]⟩),(3001028,⟨[],[],[2048]⟩),(3001030,⟨[],[],[2048]⟩),(3001032,⟨[],[],[2048]⟩)] (lc Kr (lc QU (lc bk9 ln))) Tryz.func165 (by kernel_rfl) λx=>by kernel_rfl
theorem bl0:GE 118 aH0:=ge 151 [(17,[(5,m1)])] [(1,⟨[(.b 0 0 (.sl e5) .sh),(.b 0 1 (.int .i64) .sh),(.b 0 2 (.int .i64) .sh),(.b 98304 6 (.int .i64) .sh)],li 58 26,[]⟩)] [(7,⟨[(.t 8 (.int .i64) .sh)],[40,41],[]⟩),(13,⟨[(.b 0 0 (.sl e5) .sh),(.b 0 1 (.int .i64) .sh),(.b 0 2 (.int .i64) .sh),(.b 98304 8 (.int .i64) .sh),(.b 98304 9 (.int .i64) .sh),(.b 98304 10 (.sl e9) (.own []))],[49,50,51,52],[96267]⟩),(15,⟨[(.b 0 0 (.sl e5) .sh),(.b 0 1 (.int .i64) .sh),(.b 0 2 (.int .i64) .sh),(.b 98304 18 (.sl iv) (.own []))],li 53 5,[96275]⟩),(20,⟨[(.t 91 .bool .sh)],[92,93],[]⟩),(30,⟨[(.b 0 0 (.sl e5) .sh),(.b 0 1 (.int .i64) .sh),(.b 0 2 (.int .i64) .sh),(.b 61440 10 (.int .i64) .sh),(.b 61440 11 (.int .i64) .sh),(.b 61440 12 (.sl e9) (.own []))],[138,139,140,141],[98307]⟩),(31,⟨[(.b 0 0 (.sl e5) .sh),(.b 0 1 (.int .i64) .sh),(.b 0 2 (.int .i64) .sh),(.b 61440 0 (.int .i64) .sh),(.b 61440 4 (.int .i64) .sh),(.b 61440 5 (.int .i64) .sh),(.b 61440 6 .str .sh),(.b 61440 10 (.int .i64) .sh),(.b 61440 11 (.int .i64) .sh),(.b 61440 12 (.sl e9) (.own [])),(.b 61440 7 (.int .i64) .sh),(.b 61440 8 (.int .i64) .sh),(.b 61440 9 .str .sh),(.b 61440 3 (.sl lf) (.own m1))],[9,10]++li 42 108,[]⟩),(3001025,⟨[],[],[2048]⟩),(3001028,⟨[],[],[2048]⟩),(3001029,⟨[],[],[68]⟩),(3001031,⟨[],[],[68]⟩),(3001032,⟨[],[],[68]⟩),(3002049,⟨[],[],[2048]⟩),(3002052,⟨[],[],[2048]⟩),(3002053,⟨[],[],[]⟩),(3002055,⟨[],[],[]⟩),(3002056,⟨[],[],[]⟩),(3004097,⟨[],[],[24576]⟩),(3023553,⟨[],[],[24576]⟩),(3023555,⟨[],[],[24576]⟩),(3023556,⟨[],[],[]⟩),(3023560,⟨[],[],[24576]⟩),(3023561,⟨[],[],[]⟩),(3023565,⟨[],[],[]⟩),(3023566,⟨[],[],[]⟩)] (lc g59 (lc Wn (lc Wo (lc Kr (lc bi9 (lc bj0 (lc QW (lc ah7 ln)))))))) Tryz.func118 (by kernel_rfl) λx=>by kernel_rfl
theorem g62:GE 62 c62:=ge 116 [] [(1,⟨[(.t 6 (.int .i64) .sh),(.b 20480 1 (.int .i64) .sh)],[7]++li 51 29,[]⟩)] [(3,⟨[(.b 0 0 (.sl e5) .sh),(.b 0 1 (.int .i64) .sh),(.b 0 2 (.int .i64) .sh)],li 8 9,[]⟩),(14,⟨[(.t 45 .bool .sh)],[46,47,48,49],[]⟩),(23,⟨[(.t 80 .bool .sh)],[81,82],[]⟩),(29,⟨[(.t 93 .bool .sh)],[94,95],[]⟩),(34,⟨[(.b 0 0 (.sl e5) .sh),(.b 0 1 (.int .i64) .sh),(.b 0 2 (.int .i64) .sh),(.b 20480 0 (.int .i64) .sh),(.b 20480 1 (.int .i64) .sh),(.b 20480 2 (.int .i64) .sh),(.b 20480 3 (.int .i64) .sh),(.b 20480 4 .str .sh),(.b 20480 5 .str .sh),(.b 20480 6 (.int .i64) .sh),(.b 20480 7 (.int .i64) .sh),(.r 68 Ln m4),(.r 69 lf []),(.r 70 J3 []),(.r 71 Oj []),(.b 20480 8 (.int .i64) .sh),(.b 20480 9 .str .sh),(.b 20480 10 (.int .i64) .sh),(.b 20480 11 (.sl lf) (.own m1)),(.b 20480 12 (.int .i64) .sh),(.b 20480 13 (.int .i64) .sh),(.b 20480 14 .str .sh),(.b 20480 15 (.int .i64) .sh),(.b 20480 16 (.int .i64) .sh),(.b 20480 17 .str .sh),(.b 20480 18 (.int .i64) .sh),(.b 20480 19 (.int .i64) .sh),(.b 20480 20 (.sl e9) (.own [])),(.b 20480 21 (.int .i64) .sh),(.b 20480 22 (.sl e9) (.own [])),(.b 20480 23 (.sl e3) (.own []))],[6,7]++li 32 6++li 40 75,[]⟩),(3002053,⟨[],[],[2048]⟩),(3002054,⟨[],[],[71]⟩),(3019457,⟨[],[],[59392]⟩),(3019459,⟨[],[],[59392]⟩),(3019462,⟨[],[],[59392]⟩),(3019466,⟨[],[],[59392]⟩),(3019468,⟨[],[],[59392]⟩)] (lc g59 (lc Wn (lc YM (lc Wo (lc bi7 (lc bl0 ln)))))) Tryz.func62 (by kernel_rfl) λx=>by kernel_rfl
theorem YU:GE 166 aH2:=ge 16 [] [] [] (lc Kr (lc QV (lc QU ln))) Tryz.func166 (by kernel_rfl) λx=>by kernel_rfl
theorem g73:GE 73 c73:=ge 22 [] [(0,⟨[(.t 5 (.int .i64) .sh)],[4]++li 6 16,[]⟩)] [] ln Tryz.func73 (by kernel_rfl) λx=>by kernel_rfl
theorem ah8:GE 215 aH4:=ge 21 [] [(0,⟨[(.t 5 (.int .i64) .sh)],[4]++li 6 13,[]⟩)] [] (lc YN (lc QW ln)) Tryz.func215 (by kernel_rfl) λx=>by kernel_rfl
theorem g66:GE 66 c66:=ge 28 [] [(0,⟨[(.t 5 (.int .i64) .sh),(.t 6 (.int .i64) .sh)],li 7 20,[]⟩)] [] (lc SZ ln) Tryz.func66 (by kernel_rfl) λx=>by kernel_rfl
theorem g67:GE 67 c67:=ge 19 [] [(0,⟨[(.t 3 (.int .i64) .sh),(.t 4 (.int .i64) .sh)],li 5 13,[]⟩)] [] ln Tryz.func67 (by kernel_rfl) λx=>by kernel_rfl
theorem ah9:GE 216 aH7:=ge 13 [] [] [] (lc g66 (lc g67 ln)) Tryz.func216 (by kernel_rfl) λx=>by kernel_rfl
theorem S3:GE 183 aH9:=ge 27 [] [] [] (lc Ew (lc QX (lc ah8 (lc ah9 ln)))) Tryz.func183 (by kernel_rfl) λx=>by kernel_rfl
theorem Ws:GE 184 aI1:=ge 52 [] [(0,⟨[(.t 5 (.int .i64) .sh)],[4]++li 35 17,[]⟩)] [(3008193,⟨[],[],[2048]⟩),(3008195,⟨[],[],[]⟩),(3008196,⟨[],[],[]⟩),(3008198,⟨[],[],[2048]⟩)] (lc Ew (lc QY (lc ah8 (lc ah9 ln)))) Tryz.func184 (by kernel_rfl) λx=>by kernel_rfl
theorem bl1:GE 239 aI4:=ge 25 [] [(0,⟨[(.t 3 (.int .i64) .sh),(.t 4 (.int .i64) .sh)],li 5 19,[]⟩)] [] ln Tryz.func239 (by kernel_rfl) λx=>by kernel_rfl
theorem ai0:GE 207 aI7:=ge 37 [] [] [(3,⟨[],li 3 12,[]⟩),(3003074,⟨[],[],[2048]⟩),(3003076,⟨[],[],[2048]⟩),(3003082,⟨[],[],[2048]⟩),(3003088,⟨[],[],[2048]⟩),(3003090,⟨[],[],[2048]⟩)] (lc QY (lc bl1 ln)) Tryz.func207 (by kernel_rfl) λx=>by kernel_rfl
theorem ai1:GE 180 aI9:=ge 26 [] [(0,⟨[(.t 5 (.int .i64) .sh)],[4]++li 11 15,[]⟩)] [] ln Tryz.func180 (by kernel_rfl) λx=>by kernel_rfl
theorem bl2:GE 253 aJ2:=ge 93 [] [] [(3006144,⟨[],[],[2048]⟩),(3006149,⟨[],[],[4096]⟩),(3013313,⟨[],[],[4096]⟩),(3013314,⟨[],[],[100352]⟩),(3013319,⟨[],[],[4096]⟩),(3013320,⟨[],[],[100352]⟩)] (lc g31 (lc Wq (lc Wr (lc ai1 (lc ag8 (lc ag9 (lc ah3 (lc S2 (lc ah6 ln))))))))) Tryz.func253 (by kernel_rfl) λx=>by kernel_rfl
theorem ai2(z:Option (GD SB)):(show Option (GD ad6)from z)=z.map (CO SB):=by cases z<;>rfl
theorem bl3:GE 199 aJ4:=⟨Tm.AQ (ins:=SA) (aX:=SB) (F:=Ev) (F':=Ev) QV.1 (λx=>ai2 (Ev x)),QV.2⟩
theorem bl4:GE 254 aJ7:=ge 63 [] [(0,⟨[(.t 7 (.int .i64) .sh),(.r 28672 lf [])],[8]++li 25 32,[]⟩)] [(3003074,⟨[],[],[2048]⟩)] (lc S1 (lc YQ (lc bl3 (lc QZ ln)))) Tryz.func254 (by kernel_rfl) λx=>by kernel_rfl
theorem bl5:GE 255 aK0:=ge 49 [] [] [] (lc QZ ln) Tryz.func255 (by kernel_rfl) λx=>by kernel_rfl
theorem bl6:GE 264 aK3:=ge 30 [(1,[(0,m1)]),(6,[(9,m1),(10,m1)])] [(0,⟨[(.t 5 (.sl lf) (.own m1)),(.t 7 (.int .i64) .sh)],li 12 17,[]⟩)] [] (lc S1 (lc S2 ln)) Tryz.func264 (by kernel_rfl) λx=>by kernel_rfl
theorem bl7:GE 265 aK6:=ge 18 [] [(0,⟨[(.t 5 (.int .i64) .sh)],[4]++li 6 12,[]⟩)] [] ln Tryz.func265 (by kernel_rfl) λx=>by kernel_rfl
theorem bl8:GE 266 aK9:=ge 47 [] [(0,⟨[(.t 5 (.sl iv) (.own [])),(.t 6 (.int .i64) .sh)],[7]++li 9 37,[]⟩)] [(3005121,⟨[],[],[2048]⟩),(3005124,⟨[],[],[]⟩),(3005126,⟨[],[],[]⟩)] (lc Wp ln) Tryz.func266 (by kernel_rfl) λx=>by kernel_rfl
theorem bl9:GE 256 aL1:=ge 157 [(10,[(19,m2),(20,m2)]),(16,[(1,m1)])] [(0,⟨[(.t 8 (.int .i64) .sh),(.t 6 (.sl lf) .sh),(.b 28672 0 (.int .i64) .sh),(.b 28672 1 (.sl cf) .sh),(.b 0 17 (.sl e3) (.own []))],li 20 128,[26626,18]⟩)] [(9,⟨[(.b 0 17 (.sl e3) (.own []))],li 36 25,[34820]⟩),(3006144,⟨[],[],[28672]⟩),(3006147,⟨[],[],[]⟩),(3006149,⟨[],[],[]⟩),(3007171,⟨[],[],[0]⟩),(3007174,⟨[],[],[]⟩),(3007176,⟨[],[],[]⟩),(3008196,⟨[],[],[0]⟩),(3008199,⟨[],[],[]⟩),(3008201,⟨[],[],[]⟩),(3010244,⟨[],[],[0]⟩),(3010248,⟨[],[],[0]⟩),(3010252,⟨[],[],[0]⟩),(3010254,⟨[],[],[2048]⟩),(3010256,⟨[],[],[2048]⟩),(3012292,⟨[],[],[0]⟩),(3012293,⟨[],[],[28672]⟩),(3024580,⟨[],[],[0]⟩),(3024581,⟨[],[],[28672]⟩)] (lc LX (lc Wq (lc Wr (lc Kr (lc bl6 (lc bl7 (lc bl8 ln))))))) Tryz.func256 (by kernel_rfl) λx=>by kernel_rfl
theorem Wt:GE 241 aL4:=ge 44 [] [] [(3,⟨[(.b 0 8 (.int .i64) .sh),(.b 0 9 (.int .i64) .sh),(.b 0 10 (.sl e9) .sh)],li 5 13,[]⟩),(5,⟨[(.b 0 6 (.int .i64) .sh)],li 18 14,[]⟩),(3005123,⟨[],[],[0]⟩),(3005124,⟨[],[],[2048]⟩)] (lc Kr (lc bl5 (lc bl9 ln))) Tryz.func241 (by kernel_rfl) λx=>by kernel_rfl
theorem YV:GE 243 aL7:=ge 31 [] [] [(3,⟨[(.b 0 11 (.int .i64) .sh),(.b 0 12 (.sl e9) .sh),(.b 0 13 (.sl e3) .sh)],li 4 13,[]⟩)] (lc QU ln) Tryz.func243 (by kernel_rfl) λx=>by kernel_rfl
theorem ai3:GE 240 aL9:=ge 125 [] [] [(11,⟨[(.b 0 0 .str .sh),(.b 0 1 (.int .i64) .sh),(.b 0 2 (.int .i64) .sh),(.b 0 3 (.sl cf) .sh),(.b 0 4 (.sl Fp) .sh),(.b 0 5 (.sl lf) .sh),(.b 0 6 (.int .i64) .sh),(.b 0 7 (.int .i64) .sh),(.b 0 8 (.int .i64) .sh),(.b 0 9 (.int .i64) .sh),(.b 0 10 (.sl e9) .sh),(.b 0 11 (.int .i64) .sh),(.b 0 12 (.sl e9) .sh),(.b 0 13 (.sl e3) .sh),(.b 0 14 (.int .i64) .sh),(.b 0 15 (.sl H5) (.own [])),(.b 0 16 (.sl GP) (.own [])),(.b 0 17 (.sl e3) (.own [])),(.b 0 18 (.sl iv) .sh),(.b 0 19 (.sl Mz) (.own m2))],li 93 10,[186384,186385,186386,186388]⟩),(13,⟨[(.b 0 0 .str .sh),(.b 0 1 (.int .i64) .sh),(.b 0 2 (.int .i64) .sh),(.b 0 3 (.sl cf) .sh),(.b 0 4 (.sl Fp) .sh),(.b 0 5 (.sl lf) .sh),(.b 0 6 (.int .i64) .sh),(.b 0 7 (.int .i64) .sh),(.b 0 8 (.int .i64) .sh),(.b 0 9 (.int .i64) .sh),(.b 0 10 (.sl e9) .sh),(.b 0 11 (.int .i64) .sh),(.b 0 12 (.sl e9) .sh),(.b 0 13 (.sl e3) .sh),(.b 0 14 (.int .i64) .sh),(.b 0 15 (.sl H5) (.own [])),(.b 0 16 (.sl GP) (.own [])),(.b 0 17 (.sl e3) (.own [])),(.b 0 18 (.sl iv) .sh),(.b 0 19 (.sl Mz) (.own m2))],li 103 22,[188431,188432,188433,188435]⟩),(3001024,⟨[],[],[2048]⟩),(3001029,⟨[],[],[2048]⟩),(3001033,⟨[],[],[0]⟩),(3001038,⟨[],[],[2048]⟩),(3001042,⟨[],[],[0]⟩),(3001044,⟨[],[],[2048]⟩),(3001052,⟨[],[],[0]⟩),(3001054,⟨[],[],[2048]⟩),(3001062,⟨[],[],[0]⟩),(3001064,⟨[],[],[2048]⟩),(3001069,⟨[],[],[2048]⟩),(3001077,⟨[],[],[0]⟩),(3001081,⟨[],[],[0]⟩),(3001082,⟨[],[],[2048]⟩),(3003075,⟨[],[],[0]⟩),(3003076,⟨[],[],[2048]⟩)] (lc g71 (lc Wo (lc S3 (lc Ws (lc ai0 (lc Wt (lc YV (lc bl2 (lc bl4 ln))))))))) Tryz.func240 (by kernel_rfl) λx=>by kernel_rfl
theorem YW:GE 208 aM2:=ge 39 [(1,[(0,m7)]),(8,[(2,m7),(3,m7)])] [(0,⟨[(.t 5 (.sl Oj) (.own m7)),(.t 6 (.int .i64) .sh)],[7]++li 9 29,[]⟩)] [] (lc YU ln) Tryz.func208 (by kernel_rfl) λx=>by kernel_rfl
theorem bm0:GE 252 aM5:=ge 66 [] [(0,⟨[(.t 11 (.int .i64) .sh),(.b 12288 2 (.sl e9) (.own []))],[12,13]++li 17 39,[]⟩),(2,⟨[(.t 12 .bool .sh),(.t 13 (.int .i64) .sh)],li 23 22,[]⟩)] [(3011265,⟨[],[],[12288]⟩),(3011268,⟨[],[],[]⟩),(3011270,⟨[],[],[]⟩)] (lc QX (lc S3 ln)) Tryz.func252 (by kernel_rfl) λx=>by kernel_rfl
theorem ai4:GE 234 aM8:=ge 77 [] [(0,⟨[(.t 4 .bool .sh),(.t 5 (.int .i64) .sh)],li 16 21,[]⟩)] [(9,⟨[(.b 0 15 (.sl H5) (.own []))],li 37 20,[16]⟩),(3001027,⟨[],[],[0]⟩),(3001029,⟨[],[],[2048]⟩),(3008196,⟨[],[],[0]⟩),(3008197,⟨[],[],[2048]⟩),(3009219,⟨[],[],[0]⟩),(3009223,⟨[],[],[0]⟩),(3009225,⟨[],[],[2048]⟩),(3009227,⟨[],[],[2048]⟩)] (lc QW (lc Wt (lc bm0 ln))) Tryz.func234 (by kernel_rfl) λx=>by kernel_rfl
theorem ai5:GE 236 aM9:=ge 13 [] [] [] ln Tryz.func236 (by kernel_rfl) λx=>by kernel_rfl
theorem ai6:GE 209 aN1:=ge 92 [(4,[(0,m7)])] [] [(3003078,⟨[],[],[0]⟩),(3003084,⟨[],[],[2048]⟩),(3003088,⟨[],[],[0]⟩),(3003093,⟨[],[],[2048]⟩),(3003097,⟨[],[],[0]⟩),(3003104,⟨[],[],[0]⟩),(3003108,⟨[],[],[0]⟩),(3006145,⟨[],[],[2048]⟩),(3006147,⟨[],[],[2048]⟩),(3006151,⟨[],[],[0]⟩),(3007170,⟨[],[],[0]⟩),(3007174,⟨[],[],[0]⟩),(3007175,⟨[],[],[139264]⟩)] (lc QW (lc YW (lc ai4 (lc ai5 (lc ai3 ln))))) Tryz.func209 (by kernel_rfl) λx=>by kernel_rfl
theorem bm1:GE 242 aN4:=ge 88 [] [(0,⟨[(.t 9 (.int .i64) .sh),(.b 10240 1 (.sl e9) (.own [])),(.b 10240 2 (.sl e3) (.own []))],[10,11]++li 14 64,[]⟩),(2,⟨[(.t 10 (.int .i64) .sh),(.t 11 (.int .i64) .sh)],li 20 40,[]⟩)] [(3012289,⟨[],[],[10240]⟩),(3012292,⟨[],[],[]⟩),(3012294,⟨[],[],[]⟩)] (lc QY (lc Ws ln)) Tryz.func242 (by kernel_rfl) λx=>by kernel_rfl
theorem ai7:GE 211 aN7:=ge 100 [] [(0,⟨[(.t 7 .bool .sh),(.t 8 (.int .i64) .sh)],li 41 21,[]⟩)] [(12,⟨[(.b 0 16 (.sl GP) (.own []))],li 62 20,[55313]⟩),(3001027,⟨[],[],[0]⟩),(3001029,⟨[],[],[2048]⟩),(3001036,⟨[],[],[0]⟩),(3001037,⟨[],[],[4096]⟩),(3011268,⟨[],[],[0]⟩),(3011269,⟨[],[],[2048]⟩),(3012291,⟨[],[],[0]⟩),(3012295,⟨[],[],[0]⟩),(3012297,⟨[],[],[2048]⟩)] (lc QW (lc S3 (lc Wt (lc bm1 (lc YV ln))))) Tryz.func211 (by kernel_rfl) λx=>by kernel_rfl
theorem bm2:GE 235 aN9:=ge 68 [] [(0,⟨[(.t 4 (.int .i64) .sh),(.b 0 0 .str .sh),(.b 0 1 (.int .i64) .sh),(.b 0 2 (.int .i64) .sh),(.b 0 3 (.sl cf) .sh),(.b 0 4 (.sl Fp) .sh),(.b 0 5 (.sl lf) .sh),(.b 0 6 (.int .i64) .sh),(.b 0 7 (.int .i64) .sh),(.b 0 8 (.int .i64) .sh),(.b 0 9 (.int .i64) .sh),(.b 0 10 (.sl e9) .sh),(.b 0 11 (.int .i64) .sh),(.b 0 12 (.sl e9) .sh),(.b 0 13 (.sl e3) .sh),(.b 0 14 (.int .i64) .sh),(.b 0 15 (.sl H5) (.own [])),(.b 0 16 (.sl GP) (.own [])),(.b 0 17 (.sl e3) (.own [])),(.b 0 18 (.sl iv) .sh),(.b 0 19 (.sl Mz) (.own m2))],li 5 23,[16,17,18,20]⟩)] [(7,⟨[(.b 0 0 .str .sh),(.b 0 1 (.int .i64) .sh),(.b 0 2 (.int .i64) .sh),(.b 0 3 (.sl cf) .sh),(.b 0 4 (.sl Fp) .sh),(.b 0 5 (.sl lf) .sh),(.b 0 6 (.int .i64) .sh),(.b 0 7 (.int .i64) .sh),(.b 0 8 (.int .i64) .sh),(.b 0 9 (.int .i64) .sh),(.b 0 10 (.sl e9) .sh),(.b 0 11 (.int .i64) .sh),(.b 0 12 (.sl e9) .sh),(.b 0 13 (.sl e3) .sh),(.b 0 14 (.int .i64) .sh),(.b 0 15 (.sl H5) (.own [])),(.b 0 16 (.sl GP) (.own [])),(.b 0 17 (.sl e3) (.own [])),(.b 0 18 (.sl iv) .sh),(.b 0 19 (.sl Mz) (.own m2))],li 28 20,[6160,6161,6162,6164]⟩),(3005123,⟨[],[],[0]⟩),(3005125,⟨[],[],[2048]⟩),(3005131,⟨[],[],[0]⟩),(3005133,⟨[],[],[2048]⟩),(3007171,⟨[],[],[0]⟩),(3007173,⟨[],[],[2048]⟩),(3007179,⟨[],[],[0]⟩),(3007181,⟨[],[],[2048]⟩)] (lc S3 (lc Ws (lc ai3 (lc Wt (lc YV ln))))) Tryz.func235 (by kernel_rfl) λx=>by kernel_rfl
theorem bm3:GE 203 aO2:=ge 37 [(9,[(0,m7)])] [] [(9,⟨[(.b 0 0 .str .sh),(.b 0 1 (.int .i64) .sh),(.b 0 2 (.int .i64) .sh),(.b 0 3 (.sl cf) .sh),(.b 0 4 (.sl Fp) .sh),(.b 0 5 (.sl lf) .sh),(.b 0 6 (.int .i64) .sh),(.b 0 7 (.int .i64) .sh),(.b 0 8 (.int .i64) .sh),(.b 0 9 (.int .i64) .sh),(.b 0 10 (.sl e9) .sh),(.b 0 11 (.int .i64) .sh),(.b 0 12 (.sl e9) .sh),(.b 0 13 (.sl e3) .sh),(.b 0 14 (.int .i64) .sh),(.b 0 15 (.sl H5) (.own [])),(.b 0 16 (.sl GP) (.own [])),(.b 0 17 (.sl e3) (.own [])),(.b 0 18 (.sl iv) .sh),(.b 0 19 (.sl Mz) (.own m2))],li 6 7++li 21 14,[16,17,18,20]⟩)] (lc ai6 (lc ai7 (lc ai4 (lc bm2 ln)))) Tryz.func203 (by kernel_rfl) λx=>by kernel_rfl
theorem ai8:GE 205 aO5:=ge 18 [] [(0,⟨[(.t 5 (.int .i64) .sh)],[4]++li 6 12,[]⟩)] [] ln Tryz.func205 (by kernel_rfl) λx=>by kernel_rfl
theorem S4:GE 170 aO7:=ge 74 [] [(0,⟨[(.t 6 (.int .i64) .sh),(.b 0 6 (.sl Oj) (.own []))],li 8 37,[7]⟩),(2,⟨[(.t 7 (.int .i64) .sh),(.b 0 5 (.sl J3) (.own []))],li 45 29,[6]⟩)] [(3003074,⟨[],[],[0]⟩),(3003077,⟨[],[],[]⟩),(3003079,⟨[],[],[]⟩),(3003086,⟨[],[],[0]⟩),(3003087,⟨[],[],[4097]⟩),(3004100,⟨[],[],[0]⟩),(3004103,⟨[],[],[]⟩),(3004104,⟨[],[],[]⟩),(3008195,⟨[],[],[0]⟩),(3008198,⟨[],[],[]⟩),(3008199,⟨[],[],[]⟩),(3009220,⟨[],[],[0]⟩),(3009223,⟨[],[],[]⟩),(3009224,⟨[],[],[]⟩)] (lc g73 (lc ai8 ln)) Tryz.func170 (by kernel_rfl) λx=>by kernel_rfl
theorem bm4:GE 167 aO9:=ge 35 [] [] [(3001027,⟨[],[],[0]⟩),(3001030,⟨[],[],[0]⟩),(3001032,⟨[],[],[2048]⟩),(3001034,⟨[],[],[4]⟩)] (lc g73 (lc S4 (lc bm3 ln))) Tryz.func167 (by kernel_rfl) λx=>by kernel_rfl
theorem bm5:GE 119 aP0:=ge 71 [] [] [(7,⟨[(.b 0 6 (.sl Oj) (.own []))],li 27 17,[7]⟩),(11,⟨[(.b 0 0 (.int .i64) .sh),(.b 0 1 (.sl cf) .sh),(.b 0 2 (.sl e9) .sh),(.b 0 3 (.sl Ln) (.own m4)),(.b 0 4 (.sl lf) (.own [])),(.b 0 5 (.sl J3) (.own [])),(.b 0 6 (.sl Oj) (.own []))],li 65 6,[4,5,6,90112]⟩),(3001025,⟨[],[],[2048]⟩),(3001029,⟨[],[],[0]⟩),(3001030,⟨[],[],[7]⟩),(3003075,⟨[],[],[0]⟩),(3003077,⟨[],[],[2048]⟩),(3003078,⟨[],[],[7]⟩),(3003079,⟨[],[],[7]⟩),(3006148,⟨[],[],[0]⟩),(3006149,⟨[],[],[43008]⟩),(3008197,⟨[],[],[0]⟩),(3008199,⟨[],[],[2048]⟩),(3008200,⟨[],[],[7]⟩),(3008205,⟨[],[],[0]⟩),(3008207,⟨[],[],[2048]⟩),(3008209,⟨[],[],[7]⟩),(4000008,⟨[],[],[7]⟩)] (lc Ew (lc YU (lc bm4 ln))) Tryz.func119 (by kernel_rfl) λx=>by kernel_rfl
theorem bm6:GE 133 aP3:=ge 52 [] [(1,⟨[(.t 4 (.int .i64) .sh)],[2]++li 11 25,[]⟩)] [(7,⟨[(.t 3 (.int .i64) .sh)],li 5 6,[]⟩),(3010241,⟨[],[],[2048]⟩),(3010243,⟨[],[],[]⟩),(3010244,⟨[],[],[]⟩),(3010249,⟨[],[],[2048]⟩),(3010251,⟨[],[],[]⟩),(3010253,⟨[],[],[]⟩),(3010255,⟨[],[],[2048]⟩)] (lc g71 ln) Tryz.func133 (by kernel_rfl) λx=>by kernel_rfl
theorem bm7:GE 137 aP6:=ge 42 [] [(0,⟨[(.t 3 (.int .i64) .sh)],[2]++li 25 17,[]⟩)] [(3008193,⟨[],[],[2048]⟩),(3008195,⟨[],[],[]⟩),(3008196,⟨[],[],[]⟩),(3008198,⟨[],[],[2048]⟩)] (lc YN (lc Ew (lc QY ln))) Tryz.func137 (by kernel_rfl) λx=>by kernel_rfl
theorem bm8:GE 135 aP9:=ge 20 [] [] [] (lc YN (lc Ew (lc QX ln))) Tryz.func135 (by kernel_rfl) λx=>by kernel_rfl
theorem g72:GE 72 c72:=ge 124 [] [] [(10,⟨[(.t 3 .bool .sh),(.t 4 .bool .sh)],li 35 51,[]⟩)] (lc Ew (lc MU (lc bm6 (lc QX (lc bm8 (lc QY (lc bm7 ln))))))) Tryz.func72 (by kernel_rfl) λx=>by kernel_rfl
theorem ai9:GE 210 aQ2:=ge 13 [] [] [] ln Tryz.func210 (by kernel_rfl) λx=>by kernel_rfl
theorem bm9:GE 238 aQ4:=ge 30 [] [(0,⟨[(.t 0 (.sl J3) (.own [])),(.t 7 (.int .i64) .sh)],li 8 21,[]⟩)] [(3004099,⟨[],[],[2048]⟩),(3004101,⟨[],[],[2048]⟩),(3004103,⟨[],[],[2048]⟩),(3004105,⟨[],[],[]⟩),(3004106,⟨[],[],[]⟩)] ln Tryz.func238 (by kernel_rfl) λx=>by kernel_rfl
theorem bn0:GE 237 aQ7:=ge 40 [] [(0,⟨[(.t 0 (.sl J3) (.own [])),(.t 7 (.int .i64) .sh)],li 8 31,[]⟩)] [(3004099,⟨[],[],[2048]⟩),(3004101,⟨[],[],[2048]⟩),(3004103,⟨[],[],[]⟩),(3004104,⟨[],[],[]⟩),(3004106,⟨[],[],[2048]⟩),(3004108,⟨[],[],[]⟩),(3004109,⟨[],[],[]⟩)] ln Tryz.func237 (by kernel_rfl) λx=>by kernel_rfl
theorem bn1:GE 204 aR0:=ge 68 [] [(0,⟨[(.t 3 (.sl J3) (.own [])),(.t 4 (.int .i64) .sh)],li 41 26,[]⟩)] [(4,⟨[(.t 3 (.sl J3) (.own []))],li 6 12,[6144]⟩),(6,⟨[(.t 3 (.sl J3) (.own []))],li 18 12,[10240]⟩),(3006146,⟨[],[],[2048]⟩),(3006148,⟨[],[],[2048]⟩),(3006151,⟨[],[],[2048]⟩),(3006153,⟨[],[],[2048]⟩),(3010242,⟨[],[],[2048]⟩),(3010244,⟨[],[],[2048]⟩),(3010246,⟨[],[],[]⟩),(3010248,⟨[],[],[]⟩),(3010251,⟨[],[],[2048]⟩),(3010253,⟨[],[],[2048]⟩),(3010255,⟨[],[],[]⟩),(3010257,⟨[],[],[]⟩)] (lc ai9 (lc ai5 (lc bn0 (lc bm9 ln)))) Tryz.func204 (by kernel_rfl) λx=>by kernel_rfl
theorem bn2:GE 168 aR3:=ge 34 [] [(0,⟨[(.t 8 (.int .i64) .sh)],[6]++li 11 23,[]⟩)] [] (lc SZ (lc bn1 (lc ai8 ln))) Tryz.func168 (by kernel_rfl) λx=>by kernel_rfl
theorem aj0:GE 214 aR5:=ge 26 [] [(0,⟨[(.t 5 (.int .i64) .sh)],[4]++li 11 15,[]⟩)] [] ln Tryz.func214 (by kernel_rfl) λx=>by kernel_rfl
theorem bn3:GE 177 aR7:=ge 24 [] [] [] (lc aj0 ln) Tryz.func177 (by kernel_rfl) λx=>by kernel_rfl
theorem bn4:GE 178 aR9:=ge 46 [] [(0,⟨[(.t 5 (.int .i64) .sh)],[4]++li 28 18,[]⟩)] [] (lc aj0 ln) Tryz.func178 (by kernel_rfl) λx=>by kernel_rfl
theorem bn5:GE 179 aS1:=ge 26 [] [(0,⟨[(.t 5 (.int .i64) .sh)],[4]++li 11 15,[]⟩)] [] ln Tryz.func179 (by kernel_rfl) λx=>by kernel_rfl
theorem aj1:GE 138 aS3:=ge 73 [] [] [] (lc bn3 (lc bn4 (lc bn5 (lc ai1 ln)))) Tryz.func138 (by kernel_rfl) λx=>by kernel_rfl
theorem bn6:GE 120 aS6:=ge 100 [] [(0,⟨[(.t 6 (.int .i64) .sh)],[4,7]++li 37 53,[]⟩)] [(2000000,⟨[(.t 5 (.sl lf) (.own [])),(.t 6 (.int .i64) .sh)],[4,7]++li 37 53,[]⟩),(3001024,⟨[],[],[2048]⟩),(3001030,⟨[],[],[0]⟩),(3001032,⟨[],[],[2048]⟩),(3001040,⟨[],[],[0]⟩),(3001044,⟨[],[],[0]⟩),(3001045,⟨[],[],[2048]⟩),(3010242,⟨[],[],[92160,194560]⟩),(3010243,⟨[],[],[5,172032]⟩),(3010244,⟨[],[],[5,172032]⟩),(3010245,⟨[],[],[92160,194560]⟩),(3012289,⟨[],[],[92160,194560]⟩),(3012291,⟨[],[],[5,172032]⟩),(3012297,⟨[],[],[0]⟩),(3012299,⟨[],[],[92160,194560]⟩),(3012304,⟨[],[],[5,172032]⟩),(3013315,⟨[],[],[92160,194560]⟩)] (lc g72 (lc g73 (lc SZ (lc aj1 (lc YU (lc bn2 (lc S1 (lc S4 ln)))))))) Tryz.func120 (by kernel_rfl) λx=>by kernel_rfl
theorem bn7:GE 171 aS9:=ge 110 [(10,[(5,m7)])] [] [(4,⟨[],li 13 46,[]⟩),(3002051,⟨[],[],[0]⟩),(3002055,⟨[],[],[0]⟩),(3002060,⟨[],[],[0]⟩),(3002066,⟨[],[],[0]⟩),(3002070,⟨[],[],[0]⟩),(3002078,⟨[],[],[0]⟩),(3002084,⟨[],[],[0]⟩),(3002089,⟨[],[],[0]⟩),(3008194,⟨[],[],[0]⟩),(3008198,⟨[],[],[0]⟩),(3008199,⟨[],[],[24576]⟩)] (lc g71 (lc Wo (lc ah7 (lc S1 (lc QZ (lc ai0 (lc YW (lc ai6 ln)))))))) Tryz.func171 (by kernel_rfl) λx=>by kernel_rfl
theorem bn8:GE 122 aT1:=ge 46 [] [] [(3003075,⟨[],[],[0]⟩),(3003077,⟨[],[],[4]⟩),(3003081,⟨[],[],[0]⟩),(3003082,⟨[],[],[5]⟩)] (lc S4 (lc bn7 ln)) Tryz.func122 (by kernel_rfl) λx=>by kernel_rfl
theorem bn9:GE 172 aT4:=ge 82 [(2,[(0,m7)])] [] [(3001027,⟨[],[],[0]⟩),(3001031,⟨[],[],[0]⟩),(3001038,⟨[],[],[0]⟩),(3001042,⟨[],[],[0]⟩),(3004099,⟨[],[],[0]⟩),(3004104,⟨[],[],[0]⟩),(3004108,⟨[],[],[0]⟩),(3005122,⟨[],[],[0]⟩),(3005126,⟨[],[],[0]⟩),(3005127,⟨[],[],[94208]⟩),(3005131,⟨[],[],[0]⟩),(3006147,⟨[],[],[0]⟩),(3006148,⟨[],[],[94208]⟩),(3007169,⟨[],[],[94208]⟩),(3007173,⟨[],[],[0]⟩),(3008193,⟨[],[],[143360]⟩)] (lc Kr (lc QW (lc YW (lc ai9 (lc ai7 ln))))) Tryz.func172 (by kernel_rfl) λx=>by kernel_rfl
theorem bo0:GE 123 aT7:=ge 24 [] [] [] (lc S4 (lc bn9 ln)) Tryz.func123 (by kernel_rfl) λx=>by kernel_rfl
theorem bo1:GE 173 aU0:=ge 58 [] [(0,⟨[(.t 8 (.int .i64) .sh)],[7]++li 25 32,[]⟩)] [(3002051,⟨[],[],[2048]⟩),(3002054,⟨[],[],[2048]⟩),(3002057,⟨[],[],[2048]⟩),(3007171,⟨[],[],[2048]⟩),(3007173,⟨[],[],[]⟩),(3007175,⟨[],[],[]⟩),(3007178,⟨[],[],[2048]⟩),(3007180,⟨[],[],[]⟩),(3007182,⟨[],[],[]⟩)] (lc Kr (lc QV (lc QU ln))) Tryz.func173 (by kernel_rfl) λx=>by kernel_rfl
theorem bo2:GE 124 aU3:=ge 52 [(5,[(2,m7)])] [] [(6,⟨[(.b 0 0 (.int .i64) .sh),(.b 0 1 (.sl cf) .sh),(.b 0 2 (.sl e9) .sh),(.b 0 3 (.sl Ln) (.own m4)),(.b 0 4 (.sl lf) (.own [])),(.b 0 5 (.sl J3) (.own [])),(.b 0 6 (.sl Oj) (.own []))],li 45 6,[69636,69645,69647,69648,4,5,6,7]⟩),(3003075,⟨[],[],[0]⟩),(3003077,⟨[],[],[4]⟩),(3003078,⟨[],[],[4]⟩),(3003082,⟨[],[],[0]⟩),(3003084,⟨[],[],[4]⟩),(3003086,⟨[],[],[4]⟩),(3003090,⟨[],[],[0]⟩),(3003092,⟨[],[],[4]⟩),(3003094,⟨[],[],[4]⟩)] (lc Ew (lc S4 (lc bo1 ln))) Tryz.func124 (by kernel_rfl) λx=>by kernel_rfl
theorem bo3:GE 125 aU6:=ge 31 [] [] [(3001027,⟨[],[],[0]⟩),(3001029,⟨[],[],[4]⟩),(3001031,⟨[],[],[4]⟩),(3001032,⟨[],[],[2048]⟩)] (lc ag5 ln) Tryz.func125 (by kernel_rfl) λx=>by kernel_rfl
theorem bo4:GE 126 aU9:=ge 14 [] [] [] ln Tryz.func126 (by kernel_rfl) λx=>by kernel_rfl
theorem g63:GE 63 c63:=ge 70 [] [] [(5,⟨[(.t 7 .bool .sh)],[8,9,10],[]⟩),(3008193,⟨[],[],[2048]⟩),(3008197,⟨[],[],[0]⟩),(3008198,⟨[],[],[4]⟩),(3020483,⟨[],[],[0]⟩),(3020485,⟨[],[],[2048]⟩),(3020486,⟨[],[],[4]⟩)] (lc bm5 (lc bn6 (lc Ew (lc bn8 (lc bo0 (lc bo2 (lc bo3 (lc bo4 ln)))))))) Tryz.func63 (by kernel_rfl) λx=>by kernel_rfl
theorem g26:GE 26 c26:=ge 43 [] [(0,⟨[(.t 8 (.int .i64) .sh),(.b 0 0 (.sl e5) .sh),(.b 0 1 (.int .i64) .sh),(.b 0 2 (.int .i64) .sh),(.b 24576 0 (.int .i64) .sh),(.b 24576 1 (.sl cf) .sh),(.b 24576 2 (.sl e9) .sh),(.b 24576 3 (.sl Ln) (.own m4)),(.b 24576 4 (.sl lf) (.own [])),(.b 24576 5 (.sl J3) (.own [])),(.b 24576 6 (.sl Oj) (.own []))],[9]++li 33 9,[22532,22533,22534,22535]⟩)] [(5,⟨[(.t 6 (.sl e9) (.own [])),(.b 0 0 (.sl e5) .sh),(.b 0 1 (.int .i64) .sh),(.b 0 2 (.int .i64) .sh)],li 13 14,[12288]⟩)] (lc g58 (lc g59 (lc Wn (lc g61 (lc g62 (lc g63 ln)))))) Tryz.func26 (by kernel_rfl) λx=>by kernel_rfl
theorem g8:GE 8 c8:=ge 11 [] [] [] (lc g25 (lc g26 (lc g27 ln))) Tryz.func8 (by kernel_rfl) λx=>by kernel_rfl
theorem OM:GE 80 c80:=ge 15 [] [] [] ln Tryz.func80 (by kernel_rfl) λx=>by kernel_rfl
theorem Wu:GE 82 c82:=ge 36 [] [(0,⟨[(.t 3 (.int .i64) .sh)],[2]++li 4 29,[]⟩)] [] (lc OM ln) Tryz.func82 (by kernel_rfl) λx=>by kernel_rfl
theorem bo5:GE 186 aV2:=ge 5 [] [] [] (lc OM ln) Tryz.func186 (by kernel_rfl) λx=>by kernel_rfl
theorem bo6:GE 143 aV5:=ge 64 [] [(0,⟨[(.t 8 (.int .i64) .sh)],[2,3,4]++li 9 31,[]⟩)] [(3004097,⟨[],[],[24576]⟩),(3004102,⟨[],[],[24576]⟩),(3004111,⟨[],[],[24576]⟩),(3004113,⟨[],[],[2048]⟩),(3004116,⟨[],[],[]⟩),(3004118,⟨[],[],[]⟩)] (lc OM (lc Wu (lc bo5 ln))) Tryz.func143 (by kernel_rfl) λx=>by kernel_rfl
theorem bo7:GE 144 aV8:=ge 35 [] [(0,⟨[(.t 3 (.int .i64) .sh),(.t 10 (.int .i64) .sh)],[5,7]++li 11 23,[]⟩),(2,⟨[(.t 3 (.int .i64) .sh),(.t 24 (.int .i64) .sh)],[7]++li 25 8,[]⟩)] [] ln Tryz.func144 (by kernel_rfl) λx=>by kernel_rfl
theorem g81:GE 81 c81:=ge 39 [] [(0,⟨[(.t 7 (.int .i64) .sh)],[2,3,4]++li 8 23,[]⟩)] [(3004096,⟨[],[],[20480]⟩),(3004104,⟨[],[],[20480]⟩),(3004108,⟨[],[],[]⟩),(3004110,⟨[],[],[]⟩)] (lc bo6 (lc bo7 ln)) Tryz.func81 (by kernel_rfl) λx=>by kernel_rfl
theorem g36:GE 36 c36:=ge 11 [] [] [] (lc OM (lc g81 ln)) Tryz.func36 (by kernel_rfl) λx=>by kernel_rfl
theorem g29:GE 29 c29:=ge 29 [] [(0,⟨[(.t 3 (.sl Fp) (.own [])),(.t 12 (.int .i64) .sh)],[5]++li 13 15,[]⟩)] [] (lc g36 ln) Tryz.func29 (by kernel_rfl) λx=>by kernel_rfl
theorem g89:GE 89 c89:=ge 19 [] [(0,⟨[(.t 8 (.int .i64) .sh)],[4,5]++li 9 10,[]⟩)] [] ln Tryz.func89 (by kernel_rfl) λx=>by kernel_rfl
theorem g40:GE 40 c40:=ge 9 [] [] [] (lc g89 ln) Tryz.func40 (by kernel_rfl) λx=>by kernel_rfl
theorem g64:GE 64 c64:=ge 24 [] [(0,⟨[(.t 5 (.int .i64) .sh),(.t 10 (.int .i64) .sh)],[7]++li 11 12,[]⟩)] [] (lc g40 ln) Tryz.func64 (by kernel_rfl) λx=>by kernel_rfl
theorem g65:GE 65 c65:=ge 18 [] [(0,⟨[(.t 3 (.int .i64) .sh),(.t 8 (.int .i64) .sh)],[5]++li 9 8,[]⟩)] [] ln Tryz.func65 (by kernel_rfl) λx=>by kernel_rfl
theorem g28:GE 28 c28:=ge 15 [] [] [] (lc g64 (lc g65 ln)) Tryz.func28 (by kernel_rfl) λx=>by kernel_rfl
theorem g9:GE 9 c9:=ge 50 [] [(0,⟨[(.t 17 (.int .i64) .sh)],[2,4,6,8]++li 18 32,[]⟩),(2,⟨[(.t 28 (.int .i64) .sh)],[2,6,8]++li 29 20,[]⟩),(4,⟨[(.t 35 (.int .i64) .sh)],[2,8]++li 36 12,[]⟩)] [] (lc g28 (lc g29 ln)) Tryz.func9 (by kernel_rfl) λx=>by kernel_rfl
theorem g30:GE 30 c30:=ge 12 [] [] [] (lc g66 (lc g67 ln)) Tryz.func30 (by kernel_rfl) λx=>by kernel_rfl
theorem g10:GE 10 c10:=ge 70 [] [(0,⟨[(.t 3 (.int .i64) .sh)],[2,4,5,6,7]++li 15 55,[]⟩),(2,⟨[(.t 5 (.int .i64) .sh)],[2,6,7]++li 33 37,[]⟩),(4,⟨[(.t 6 (.int .i64) .sh)],[2,7]++li 40 30,[]⟩)] [(3001025,⟨[],[],[2048]⟩),(3001028,⟨[],[],[2048]⟩)] (lc g30 (lc g31 ln)) Tryz.func10 (by kernel_rfl) λx=>by kernel_rfl
theorem g11:GE 11 c11:=ge 62 [] [(0,⟨[(.t 10 (.int .i64) .sh)],[2,3,4,6]++li 11 51,[]⟩),(2,⟨[(.t 20 (.int .i64) .sh)],[2,6]++li 21 40,[]⟩)] [] ln Tryz.func11 (by kernel_rfl) λx=>by kernel_rfl
theorem g37:GE 37 c37:=ge 32 [] [(0,⟨[(.t 7 (.int .i64) .sh)],[2,3,4]++li 8 21,[]⟩)] [] (lc Wu ln) Tryz.func37 (by kernel_rfl) λx=>by kernel_rfl
theorem g92:GE 92 c92:=ge 17 [] [] [] ln Tryz.func92 (by kernel_rfl) λx=>by kernel_rfl
theorem g83:GE 83 c83:=ge 26 [] [] [] (lc g37 (lc OM (lc g92 ln))) Tryz.func83 (by kernel_rfl) λx=>by kernel_rfl
theorem g93:GE 93 c93:=ge 18 [] [] [] ln Tryz.func93 (by kernel_rfl) λx=>by kernel_rfl
theorem g84:GE 84 c84:=ge 41 [] [(0,⟨[(.t 12 (.int .i64) .sh)],[4,6]++li 13 10,[]⟩)] [] (lc g37 (lc OM (lc g93 ln))) Tryz.func84 (by kernel_rfl) λx=>by kernel_rfl
theorem YX:GE 145 aW1:=ge 34 [] [] [] (lc OM (lc Wu ln)) Tryz.func145 (by kernel_rfl) λx=>by kernel_rfl
theorem g85:GE 85 c85:=ge 15 [] [(0,⟨[(.t 7 (.int .i64) .sh)],[2,4]++li 8 7,[]⟩)] [] (lc YX ln) Tryz.func85 (by kernel_rfl) λx=>by kernel_rfl
theorem g51:GE 51 c51:=ge 41 [] [(0,⟨[(.t 7 (.int .i64) .sh)],[2,3,4]++li 8 30,[]⟩)] [(3004097,⟨[],[],[20480]⟩),(3004102,⟨[],[],[20480]⟩),(3004111,⟨[],[],[20480]⟩),(3004115,⟨[],[],[]⟩),(3004117,⟨[],[],[]⟩)] (lc OM (lc Wu ln)) Tryz.func51 (by kernel_rfl) λx=>by kernel_rfl
theorem g38:GE 38 c38:=ge 77 [] [] [] (lc g51 (lc OM (lc Wu (lc g83 (lc g84 (lc g85 ln)))))) Tryz.func38 (by kernel_rfl) λx=>by kernel_rfl
theorem bp3:GE 246 aW4:=ge 6 [] [] [] ln Tryz.func246 (by kernel_rfl) λx=>by kernel_rfl
theorem bp4:GE 220 aW7:=ge 20 [] [] [] (lc bp3 ln) Tryz.func220 (by kernel_rfl) λx=>by kernel_rfl
theorem bp5:GE 247 aX0:=ge 6 [] [] [] ln Tryz.func247 (by kernel_rfl) λx=>by kernel_rfl
theorem bp6:GE 221 aX3:=ge 20 [] [] [] (lc bp5 ln) Tryz.func221 (by kernel_rfl) λx=>by kernel_rfl
theorem bp7:GE 219 aX5:=ge 18 [] [(0,⟨[(.t 8 (.int .i64) .sh)],[2,5]++li 9 8,[]⟩)] [] ln Tryz.func219 (by kernel_rfl) λx=>by kernel_rfl
theorem bp8:GE 187 aX8:=ge 32 [] [] [(3001025,⟨[],[],[2048]⟩),(3001027,⟨[],[],[4096]⟩),(3001030,⟨[],[],[2048]⟩),(3001032,⟨[],[],[4096]⟩),(3001035,⟨[],[],[2048]⟩),(3001037,⟨[],[],[4096]⟩),(3001040,⟨[],[],[2048]⟩),(3001042,⟨[],[],[4096]⟩),(3001045,⟨[],[],[2048]⟩),(3001047,⟨[],[],[4096]⟩)] (lc bp7 (lc bp4 (lc bp6 ln))) Tryz.func187 (by kernel_rfl) λx=>by kernel_rfl
theorem bp9:GE 146 aY1:=ge 9 [] [] [] (lc bp8 ln) Tryz.func146 (by kernel_rfl) λx=>by kernel_rfl
theorem g86:GE 86 c86:=ge 33 [] [(0,⟨[(.t 7 (.int .i64) .sh)],[2,3,4]++li 8 22,[]⟩)] [(3004096,⟨[],[],[20480]⟩),(3004106,⟨[],[],[]⟩),(3004107,⟨[],[],[]⟩),(3004108,⟨[],[],[20480]⟩)] (lc YX (lc bp9 ln)) Tryz.func86 (by kernel_rfl) λx=>by kernel_rfl
theorem aj3:GE 110 aY4:=ge 13 [] [] [] (lc g64 (lc g65 ln)) Tryz.func110 (by kernel_rfl) λx=>by kernel_rfl
theorem bq0:GE 227 aY6:=ge 19 [] [(0,⟨[(.t 8 (.int .i64) .sh)],[4,5]++li 9 10,[]⟩)] [] ln Tryz.func227 (by kernel_rfl) λx=>by kernel_rfl
theorem bq1:GE 196 aY9:=ge 9 [] [] [] (lc bq0 ln) Tryz.func196 (by kernel_rfl) λx=>by kernel_rfl
theorem bq2:GE 197 aZ2:=ge 8 [] [] [] ln Tryz.func197 (by kernel_rfl) λx=>by kernel_rfl
theorem bq3:GE 158 aZ5:=ge 8 [] [] [] (lc bq1 (lc bq2 ln)) Tryz.func158 (by kernel_rfl) λx=>by kernel_rfl
theorem aj4:GE 111 aZ8:=ge 18 [] [(0,⟨[(.t 9 (.int .i64) .sh)],[4,6]++li 10 8,[]⟩)] [] (lc bq3 ln) Tryz.func111 (by kernel_rfl) λx=>by kernel_rfl
theorem g54:GE 54 c54:=ge 23 [] [] [] (lc g83 (lc g92 (lc aj3 (lc aj4 ln)))) Tryz.func54 (by kernel_rfl) λx=>by kernel_rfl
theorem g87:GE 87 c87:=ge 23 [] [] [] (lc g84 (lc g93 (lc aj3 (lc aj4 ln)))) Tryz.func87 (by kernel_rfl) λx=>by kernel_rfl
theorem g55:GE 55 c55:=ge 19 [] [(0,⟨[(.t 8 (.int .i64) .sh)],[4,5]++li 9 10,[]⟩)] [] ln Tryz.func55 (by kernel_rfl) λx=>by kernel_rfl
theorem bq4:GE 188 ba1:=ge 8 [] [] [] ln Tryz.func188 (by kernel_rfl) λx=>by kernel_rfl
theorem bq5:GE 147 ba4:=ge 8 [] [] [] (lc g55 (lc bq4 ln)) Tryz.func147 (by kernel_rfl) λx=>by kernel_rfl
theorem g88:GE 88 c88:=ge 65 [] [(0,⟨[(.t 8 (.int .i64) .sh)],[2,3,4,5]++li 9 53,[]⟩)] [(6,⟨[],li 13 27,[]⟩),(3004096,⟨[],[],[20480]⟩),(3004101,⟨[],[],[20480]⟩),(3004103,⟨[],[],[]⟩),(3004105,⟨[],[],[]⟩),(3004113,⟨[],[],[20480]⟩),(3004117,⟨[],[],[]⟩),(3004119,⟨[],[],[]⟩)] (lc g38 (lc g92 (lc bq5 ln))) Tryz.func88 (by kernel_rfl) λx=>by kernel_rfl
theorem g39:GE 39 c39:=ge 126 [] [] [(3,⟨[],li 3 36,[]⟩),(3009217,⟨[],[],[2048]⟩),(3009221,⟨[],[],[2048]⟩),(3009222,⟨[],[],[]⟩),(3009226,⟨[],[],[2048]⟩),(3009227,⟨[],[],[]⟩),(3009229,⟨[],[],[]⟩),(3009231,⟨[],[],[2048]⟩)] (lc g36 (lc g51 (lc g54 (lc OM (lc Wu (lc g86 (lc g87 (lc g88 ln)))))))) Tryz.func39 (by kernel_rfl) λx=>by kernel_rfl
theorem aj5:GE 189 ba7:=ge 26 [] [(0,⟨[(.t 13 (.int .i64) .sh)],[4,5]++li 14 12,[]⟩)] [] ln Tryz.func189 (by kernel_rfl) λx=>by kernel_rfl
theorem bq6:GE 148 bb0:=ge 24 [] [] [] (lc aj5 ln) Tryz.func148 (by kernel_rfl) λx=>by kernel_rfl
theorem g44:GE 44 c44:=ge 26 [] [(0,⟨[(.t 13 (.int .i64) .sh)],[4,5]++li 14 12,[]⟩)] [] ln Tryz.func44 (by kernel_rfl) λx=>by kernel_rfl
theorem bq7:GE 149 bb3:=ge 24 [] [] [] (lc g44 (lc aj5 ln)) Tryz.func149 (by kernel_rfl) λx=>by kernel_rfl
theorem bq8:GE 150 bb6:=ge 26 [] [(0,⟨[(.t 13 (.int .i64) .sh)],[4,5]++li 14 12,[]⟩)] [] ln Tryz.func150 (by kernel_rfl) λx=>by kernel_rfl
theorem bq9:GE 151 bb9:=ge 26 [] [(0,⟨[(.t 13 (.int .i64) .sh)],[4,5]++li 14 12,[]⟩)] [] ln Tryz.func151 (by kernel_rfl) λx=>by kernel_rfl
theorem g90:GE 90 c90:=ge 71 [] [] [] (lc bq6 (lc bq7 (lc bq8 (lc bq9 ln)))) Tryz.func90 (by kernel_rfl) λx=>by kernel_rfl
theorem g41:GE 41 c41:=ge 35 [] [(0,⟨[(.t 9 (.int .i64) .sh)],[4,6]++li 10 25,[]⟩)] [(3004097,⟨[],[],[18432]⟩),(3004101,⟨[],[],[]⟩),(3004102,⟨[],[],[]⟩),(3004105,⟨[],[],[18432]⟩),(3004109,⟨[],[],[]⟩),(3004111,⟨[],[],[18432]⟩),(3004112,⟨[],[],[]⟩),(3004113,⟨[],[],[]⟩)] (lc g90 ln) Tryz.func41 (by kernel_rfl) λx=>by kernel_rfl
theorem g91:GE 91 c91:=ge 26 [] [(0,⟨[(.t 9 (.int .i64) .sh)],[4,6]++li 10 13,[]⟩)] [] (lc g38 ln) Tryz.func91 (by kernel_rfl) λx=>by kernel_rfl
theorem g94:GE 94 c94:=ge 16 [] [] [] (lc OM (lc Wu ln)) Tryz.func94 (by kernel_rfl) λx=>by kernel_rfl
theorem g95:GE 95 c95:=ge 28 [] [] [] (lc OM (lc Wu ln)) Tryz.func95 (by kernel_rfl) λx=>by kernel_rfl
theorem g42:GE 42 c42:=ge 118 [] [] [] (lc OM (lc Wu (lc g83 (lc g84 (lc g91 (lc g92 (lc g93 (lc g94 (lc g95 ln))))))))) Tryz.func42 (by kernel_rfl) λx=>by kernel_rfl
theorem g96:GE 96 c96:=ge 19 [] [(0,⟨[(.t 8 (.int .i64) .sh)],[4,5]++li 9 10,[]⟩)] [] ln Tryz.func96 (by kernel_rfl) λx=>by kernel_rfl
theorem g97:GE 97 c97:=ge 8 [] [] [] ln Tryz.func97 (by kernel_rfl) λx=>by kernel_rfl
theorem g43:GE 43 c43:=ge 11 [] [] [] (lc g96 (lc g97 ln)) Tryz.func43 (by kernel_rfl) λx=>by kernel_rfl
theorem g14:GE 14 c14:=ge 119 [] [(0,⟨[(.t 40 (.int .i64) .sh)],[2,3,4]++li 41 14,[]⟩),(2,⟨[(.t 58 (.int .i64) .sh)],[2,5,6]++li 59 37,[]⟩),(4,⟨[(.t 99 (.int .i64) .sh)],[2,8]++li 100 19,[]⟩)] [(3012288,⟨[],[],[92160]⟩),(3012293,⟨[],[],[2048]⟩),(3012295,⟨[],[],[92160]⟩),(3012303,⟨[],[],[92160]⟩),(3012305,⟨[],[],[2048]⟩),(3012308,⟨[],[],[]⟩),(3012310,⟨[],[],[]⟩),(3012316,⟨[],[],[92160]⟩)] (lc g36 (lc g37 (lc g38 (lc g39 (lc g40 (lc g41 (lc g42 (lc g43 ln)))))))) Tryz.func14 (by kernel_rfl) λx=>by kernel_rfl
theorem g15:GE 15 c15:=ge 44 [] [(0,⟨[(.t 11 (.int .i64) .sh)],[2,3,4,6,7]++li 12 32,[]⟩),(2,⟨[(.t 21 (.int .i64) .sh)],[2,6,7]++li 22 21,[]⟩)] [(3008193,⟨[],[],[24576]⟩),(3008195,⟨[],[],[]⟩),(3008197,⟨[],[],[51200]⟩),(3008199,⟨[],[],[]⟩)] (lc g44 ln) Tryz.func15 (by kernel_rfl) λx=>by kernel_rfl
theorem g46:GE 46 c46:=ge 39 [] [(0,⟨[(.t 5 (.int .i64) .sh),(.t 10 (.int .i64) .sh)],[6,7]++li 11 25,[]⟩)] [] (lc OM ln) Tryz.func46 (by kernel_rfl) λx=>by kernel_rfl
theorem br0:GE 190 bc4:=ge 8 [] [] [] ln Tryz.func190 (by kernel_rfl) λx=>by kernel_rfl
theorem br1:GE 152 bc7:=ge 22 [(6,[(2,m0),(3,m0)])] [(0,⟨[(.t 3 (.sl cf) (.own m0)),(.t 8 (.int .i64) .sh)],[5]++li 9 12,[]⟩)] [] (lc br0 ln) Tryz.func152 (by kernel_rfl) λx=>by kernel_rfl
theorem g98:GE 98 c98:=ge 9 [] [] [(3001025,⟨[],[],[2048]⟩),(3001027,⟨[],[],[2048]⟩)] (lc br1 ln) Tryz.func98 (by kernel_rfl) λx=>by kernel_rfl
theorem br2:GE 222 bd0:=ge 19 [] [(0,⟨[(.t 8 (.int .i64) .sh)],[4,5]++li 9 10,[]⟩)] [] ln Tryz.func222 (by kernel_rfl) λx=>by kernel_rfl
theorem br3:GE 223 bd3:=ge 8 [] [] [] ln Tryz.func223 (by kernel_rfl) λx=>by kernel_rfl
theorem aj6:GE 191 bd6:=ge 8 [] [] [] (lc br2 (lc br3 ln)) Tryz.func191 (by kernel_rfl) λx=>by kernel_rfl
theorem br4:GE 192 bd9:=ge 15 [] [] [] ln Tryz.func192 (by kernel_rfl) λx=>by kernel_rfl
noncomputable def br5:Go.Shelf.Ren:=⟨λn=>match n with|22=>248|29=>257|30=>258|n=>n,λn=>match n with|9=>120|24=>24|n=>n,λn=>n⟩
theorem br6:oq Tryz.prog br5 Tryz.f248.name 5 64 (.agg #[.string ByteArray.empty,.int .i64 0,.int .i64 0,.int .i64 0,.slice none 0 0])where
 jN:=by kernel_rfl
 BQ:=by kernel_rfl
 ov:=λa w=>run_callFunc_extern Tryz.func257 (by kernel_rfl) (by kernel_rfl) (by kernel_rfl) (by kernel_rfl) a w
 t0:=by kernel_rfl
 a0:=λw=>by kernel_rfl
 z0:=λw=>by kernel_rfl
 v0:=λw=>by kernel_rfl
 t3:=by kernel_rfl
 a3:=λw=>by kernel_rfl
 z3:=λw=>by kernel_rfl
 v3:=λw=>by kernel_rfl
 t4:=by kernel_rfl
 a4:=λw=>by kernel_rfl
 z4:=λw=>by kernel_rfl
 v4:=λw=>by kernel_rfl
 mB:=by kernel_rfl
 yb:=λw=>by kernel_rfl
 yc:=λw=>by kernel_rfl
 yd:=λw=>by kernel_rfl
 z9:=λw=>by kernel_rfl
 i9:=by kernel_rfl
theorem br7:GE 248 be2:=⟨Tm.zI (es:=cf) (ms:=m0) br6 rfl (by decide) rfl,Tm.AB Tryz.func248 (by kernel_rfl)⟩
theorem br8:GE 224 be5:=ge 46 [(8,[(5,m0)])] [(0,⟨[(.t 8 (.int .i64) .sh)],li 24 15,[]⟩)] [] (lc aj6 (lc br7 ln)) Tryz.func224 (by kernel_rfl) λx=>by kernel_rfl
noncomputable def br9:Go.Shelf.Ren:=⟨λn=>match n with|22=>249|29=>259|30=>260|n=>n,λn=>match n with|9=>145|24=>118|n=>n,λn=>n⟩
theorem bs0:oq Tryz.prog br9 Tryz.f249.name 2 16 (.agg #[.int .i64 0,.int .i64 0])where
 jN:=by kernel_rfl
 BQ:=by kernel_rfl
 ov:=λa w=>run_callFunc_extern Tryz.func259 (by kernel_rfl) (by kernel_rfl) (by kernel_rfl) (by kernel_rfl) a w
 t0:=by kernel_rfl
 a0:=λw=>by kernel_rfl
 z0:=λw=>by kernel_rfl
 v0:=λw=>by kernel_rfl
 t3:=by kernel_rfl
 a3:=λw=>by kernel_rfl
 z3:=λw=>by kernel_rfl
 v3:=λw=>by kernel_rfl
 t4:=by kernel_rfl
 a4:=λw=>by kernel_rfl
 z4:=λw=>by kernel_rfl
 v4:=λw=>by kernel_rfl
 mB:=by kernel_rfl
 yb:=λw=>by kernel_rfl
 yc:=λw=>by kernel_rfl
 yd:=λw=>by kernel_rfl
 z9:=λw=>by kernel_rfl
 i9:=by kernel_rfl
theorem bs1:GE 249 be8:=⟨Tm.zI (es:=w5) (ms:=[]) bs0 rfl (by decide) rfl,Tm.AB Tryz.func249 (by kernel_rfl)⟩
theorem bs2:GE 225 bf1:=ge 73 [] [(0,⟨[(.t 13 (.int .i64) .sh)],[6]++li 14 25,[]⟩),(2,⟨[(.t 7 (.int .i64) .sh)],li 39 21,[]⟩)] [] (lc bs1 ln) Tryz.func225 (by kernel_rfl) λx=>by kernel_rfl
theorem bs3:GE 193 bf4:=ge 79 [] [] [(13,⟨[(.b 2048 1 (.sl cf) (.own m0))],li 19 59,[2]⟩),(3005123,⟨[],[],[2]⟩),(3005125,⟨[],[],[4096]⟩),(3008195,⟨[],[],[2]⟩),(3008197,⟨[],[],[4096]⟩),(3009219,⟨[],[],[2]⟩),(3009221,⟨[],[],[4096]⟩),(3011267,⟨[],[],[2]⟩),(3011269,⟨[],[],[4096]⟩)] (lc br8 (lc bs2 ln)) Tryz.func193 (by kernel_rfl) λx=>by kernel_rfl
theorem bs4:GE 153 bf6:=ge 65 [] [] [(3008193,⟨[],[],[2048]⟩),(3008195,⟨[],[],[]⟩),(3008197,⟨[],[],[4096]⟩),(3008200,⟨[],[],[4096]⟩),(3010240,⟨[],[],[2048]⟩),(3010243,⟨[],[],[4096]⟩)] (lc g36 (lc g98 (lc YX (lc aj6 (lc br4 (lc bs3 ln)))))) Tryz.func153 (by kernel_rfl) λx=>by kernel_rfl
theorem g99:GE 99 c99:=ge 34 [] [(0,⟨[(.t 7 (.int .i64) .sh),(.t 16 (.int .i64) .sh),(.b 12288 0 (.int .i64) .sh),(.b 12288 1 (.sl cf) (.own m0))],[9,10,11]++li 17 15,[]⟩)] [] (lc g98 (lc bs4 ln)) Tryz.func99 (by kernel_rfl) λx=>by kernel_rfl
theorem aj7(z:Option (GD o98)):(show Option (GD af8)from z)=z.map (CO o98):=by cases z<;>rfl
theorem aj8:GE 98 bf8:=⟨Tm.AQ (ins:=i98) (aX:=o98) (F:=LR) (F':=LR) g98.1 (λx=>aj7 (LR x)),g98.2⟩
theorem bs5:GE 100 bg1:=ge 69 [] [(0,⟨[(.t 23 (.int .i64) .sh),(.r 14338 cf [])],[4,5,6,8]++li 24 39,[]⟩),(2,⟨[(.t 6 (.sl w5) (.own [])),(.t 35 (.int .i64) .sh),(.r 14338 cf [])],[8]++li 36 22,[]⟩)] [(3014339,⟨[],[],[14338]⟩),(3014341,⟨[],[],[79872]⟩)] (lc g36 (lc aj8 ln)) Tryz.func100 (by kernel_rfl) λx=>by kernel_rfl
theorem aj9(z:Option (GD o99)):(show Option (GD af9)from z)=z.map (CO o99):=by cases z<;>rfl
theorem bs6:GE 99 bg3:=⟨Tm.AQ (ins:=i99) (aX:=o99) (F:=QT) (F':=QT) g99.1 (λx=>aj9 (QT x)),g99.2⟩
theorem g45:GE 45 c45:=ge 47 [] [(0,⟨[(.t 15 (.int .i64) .sh),(.b 14336 0 (.int .i64) .sh),(.b 14336 1 (.sl cf) (.own []))],[5,8,9]++li 16 30,[12290]⟩)] [] (lc OM (lc aj8 (lc bs6 (lc bs5 ln)))) Tryz.func45 (by kernel_rfl) λx=>by kernel_rfl
theorem bs7:GE 101 bg7:=ge 32 [] [(0,⟨[(.t 17 (.int .i64) .sh)],[6,7,8,9]++li 18 14,[]⟩)] [] ln Tryz.func101 (by kernel_rfl) λx=>by kernel_rfl
theorem bs8:GE 103 bh0:=ge 26 [] [(0,⟨[(.t 13 (.int .i64) .sh)],[4,5]++li 14 12,[]⟩)] [] ln Tryz.func103 (by kernel_rfl) λx=>by kernel_rfl
theorem bs9:GE 102 bh2:=ge 38 [] [] [] (lc bs8 ln) Tryz.func102 (by kernel_rfl) λx=>by kernel_rfl
theorem g47:GE 47 c47:=ge 17 [] [] [] (lc bs7 (lc bs9 ln)) Tryz.func47 (by kernel_rfl) λx=>by kernel_rfl
theorem g16:GE 16 c16:=ge 32 [(0,[(0,[(.own [])])])] [(0,⟨[(.t 10 (.int .i64) .sh)],[2,4,5,6]++li 11 21,[]⟩)] [(3004096,⟨[],[],[2048]⟩),(3004098,⟨[],[],[22528]⟩)] (lc g45 (lc g46 (lc g47 ln))) Tryz.func16 (by kernel_rfl) λx=>by kernel_rfl
theorem g32:GE 32 c32:=ge 19 [] [(0,⟨[(.t 8 (.int .i64) .sh)],[4,5]++li 9 10,[]⟩)] [] ln Tryz.func32 (by kernel_rfl) λx=>by kernel_rfl
theorem g12:GE 12 c12:=ge 16 [(1,[(10,[(.own [])])])] [] [(3001024,⟨[],[],[2048]⟩),(3001026,⟨[],[],[2048]⟩),(3001028,⟨[],[],[2048]⟩),(3001030,⟨[],[],[2048]⟩)] (lc g11 (lc g14 (lc g15 (lc g16 (lc g32 ln))))) Tryz.func12 (by kernel_rfl) λx=>by kernel_rfl
theorem g74:GE 74 c74:=ge 40 [] [(0,⟨[(.t 5 (.int .i64) .sh)],[4]++li 6 34,[]⟩)] [(3004098,⟨[],[],[]⟩),(3004100,⟨[],[],[]⟩),(3004102,⟨[],[],[2048]⟩),(3004103,⟨[],[],[]⟩),(3004109,⟨[],[],[2048]⟩),(3004112,⟨[],[],[]⟩),(3004114,⟨[],[],[]⟩),(3004115,⟨[],[],[]⟩),(3004116,⟨[],[],[]⟩),(3004119,⟨[],[],[]⟩),(3004120,⟨[],[],[]⟩)] (lc Ew (lc aj1 ln)) Tryz.func74 (by kernel_rfl) λx=>by kernel_rfl
theorem bt0:GE 139 bh5:=ge 128 [] [] [(3,⟨[],li 3 58,[]⟩),(3001025,⟨[],[],[2048]⟩),(3001030,⟨[],[],[2048]⟩),(3001037,⟨[],[],[2048]⟩),(3001039,⟨[],[],[2048]⟩),(3001044,⟨[],[],[2048]⟩),(3001050,⟨[],[],[2048]⟩),(3001051,⟨[],[],[]⟩),(3001055,⟨[],[],[2048]⟩),(3001062,⟨[],[],[2048]⟩),(3001068,⟨[],[],[2048]⟩),(3001069,⟨[],[],[]⟩),(3001073,⟨[],[],[2048]⟩),(3001074,⟨[],[],[]⟩),(3001076,⟨[],[],[]⟩),(3001078,⟨[],[],[2048]⟩)] (lc XD (lc Ew (lc MU (lc ag6 (lc ag4 (lc YQ (lc S3 (lc Ws ln)))))))) Tryz.func139 (by kernel_rfl) λx=>by kernel_rfl
theorem g75:GE 75 c75:=ge 54 [] [(0,⟨[(.t 3 (.int .i64) .sh)],[2]++li 4 46,[]⟩)] [(3005120,⟨[],[],[30720]⟩),(3005125,⟨[],[],[2048]⟩),(3005127,⟨[],[],[30720]⟩),(3005135,⟨[],[],[2048]⟩),(3005138,⟨[],[],[]⟩),(3005140,⟨[],[],[]⟩),(3005142,⟨[],[],[30720]⟩),(3005147,⟨[],[],[2048]⟩),(3005149,⟨[],[],[30720]⟩)] (lc g74 (lc SZ (lc bt0 ln))) Tryz.func75 (by kernel_rfl) λx=>by kernel_rfl
theorem g33:GE 33 c33:=ge 89 [] [(0,⟨[(.t 3 (.int .i64) .sh)],[2]++li 27 24,[]⟩),(2,⟨[(.t 4 (.int .i64) .sh)],[2]++li 51 36,[]⟩)] [(3011265,⟨[],[],[2048]⟩),(3011267,⟨[],[],[]⟩),(3011268,⟨[],[],[]⟩),(3011272,⟨[],[],[2048]⟩),(3011274,⟨[],[],[2048]⟩),(3011276,⟨[],[],[]⟩),(3011278,⟨[],[],[]⟩),(3011283,⟨[],[],[2048]⟩),(3011285,⟨[],[],[2048]⟩),(3011287,⟨[],[],[]⟩),(3011289,⟨[],[],[]⟩)] (lc XD (lc YN (lc g71 (lc g72 (lc g73 (lc g74 (lc g75 ln))))))) Tryz.func33 (by kernel_rfl) λx=>by kernel_rfl
theorem g18:GE 18 c18:=ge 65 [] [(0,⟨[(.t 3 (.int .i64) .sh)],[2]++li 4 61,[]⟩),(2,⟨[(.t 4 (.int .i64) .sh)],[2,5,6]++li 14 51,[]⟩)] [] ln Tryz.func18 (by kernel_rfl) λx=>by kernel_rfl
theorem g76:GE 76 c76:=ge 27 [] [(0,⟨[(.t 5 (.int .i64) .sh)],[4]++li 6 21,[]⟩)] [] ln Tryz.func76 (by kernel_rfl) λx=>by kernel_rfl
theorem g34:GE 34 c34:=ge 31 [] [(0,⟨[(.t 3 (.int .i64) .sh)],[2]++li 4 27,[]⟩),(2,⟨[(.t 4 (.int .i64) .sh)],[2]++li 12 19,[]⟩)] [(3007169,⟨[],[],[2048]⟩),(3007171,⟨[],[],[]⟩),(3007173,⟨[],[],[]⟩),(3007175,⟨[],[],[2048]⟩),(3007177,⟨[],[],[]⟩),(3007179,⟨[],[],[]⟩)] (lc g76 ln) Tryz.func34 (by kernel_rfl) λx=>by kernel_rfl
theorem g78:GE 78 c78:=ge 36 [] [(0,⟨[(.t 5 (.int .i64) .sh),(.t 6 (.int .i64) .sh)],li 7 28,[]⟩)] [(3005122,⟨[],[],[]⟩),(3005123,⟨[],[],[]⟩),(3005125,⟨[],[],[2048]⟩),(3005126,⟨[],[],[]⟩),(3005131,⟨[],[],[2048]⟩),(3005134,⟨[],[],[]⟩),(3005135,⟨[],[],[]⟩),(3005136,⟨[],[],[]⟩),(3005138,⟨[],[],[]⟩)] (lc Ew ln) Tryz.func78 (by kernel_rfl) λx=>by kernel_rfl
theorem g77:GE 77 c77:=ge 51 [] [(0,⟨[(.t 7 (.int .i64) .sh),(.b 14336 0 (.int .i64) .sh),(.b 14336 1 (.sl cf) .sh)],[5,8]++li 12 38,[12290]⟩)] [(3005122,⟨[],[],[]⟩),(3005123,⟨[],[],[]⟩),(3005125,⟨[],[],[2048]⟩),(3005126,⟨[],[],[]⟩),(3007169,⟨[],[],[2048]⟩),(3007172,⟨[],[],[]⟩),(3007173,⟨[],[],[]⟩),(3007174,⟨[],[],[]⟩),(3007175,⟨[],[],[]⟩)] (lc YR (lc Ew (lc Wq (lc Wr ln)))) Tryz.func77 (by kernel_rfl) λx=>by kernel_rfl
theorem bt1:GE 142 bh8:=ge 59 [] [(0,⟨[(.t 5 (.int .i64) .sh)],[4]++li 41 18,[]⟩)] [] ln Tryz.func142 (by kernel_rfl) λx=>by kernel_rfl
theorem g79:GE 79 c79:=ge 39 [] [(0,⟨[(.t 5 (.int .i64) .sh)],[4]++li 20 19,[]⟩)] [(3006145,⟨[],[],[2048]⟩),(3006147,⟨[],[],[]⟩),(3006148,⟨[],[],[]⟩),(3006150,⟨[],[],[4096]⟩),(3006152,⟨[],[],[]⟩),(3006153,⟨[],[],[]⟩)] (lc bt1 ln) Tryz.func79 (by kernel_rfl) λx=>by kernel_rfl
theorem g35:GE 35 c35:=ge 40 [] [(0,⟨[(.t 3 (.int .i64) .sh)],[2]++li 4 36,[]⟩)] [(3005120,⟨[],[],[2048]⟩),(3005122,⟨[],[],[30720]⟩),(3005123,⟨[],[],[2048]⟩),(3005125,⟨[],[],[30720]⟩),(3005127,⟨[],[],[]⟩)] (lc g77 (lc g78 (lc g79 ln))) Tryz.func35 (by kernel_rfl) λx=>by kernel_rfl
theorem g13:GE 13 c13:=ge 19 [] [] [] (lc g18 (lc g33 (lc g34 (lc g35 ln)))) Tryz.func13 (by kernel_rfl) λx=>by kernel_rfl
theorem g3:GE 3 c3:=ge 38 [] [] [] (lc g7 (lc g8 (lc g9 (lc g10 (lc g11 (lc g12 (lc g13 (lc g14 (lc g15 (lc g16 ln)))))))))) Tryz.func3 (by kernel_rfl) λx=>by kernel_rfl
end Go.Proofs.YthjkikiepdnimaaGreat
