/- Each function does as its contract says. Conditions: none. -/
import Derived.Test.YtmjkakjeiopieaaGreatTm4
import Derived.Test.YtmjkakjeiopieaaGreatSaF
namespace Go.Proofs.YtmjkakjeiopieaaGreat
open Go Go.Tm
set_option linter.unusedVariables false
set_option maxRecDepth 100000
theorem mx:Tryz.prog.follows .mixedOrders=true:=by kernel_rfl
def GE (f:Nat) (c:Con):Prop:=Tm.Good Tryz.prog f c∧Tm.Enters Tryz.prog f
def LkOk (l:List (Nat×Con)):Prop:=∀n c,lk l n=some c→GE n c
theorem ln:LkOk []:=fun _ _ h=>by cases h
theorem lc {k:Nat} {c:Con} {l:List (Nat×Con)} (h:GE k c) (hl:LkOk l):LkOk ((k,c)::l):=by
 intro n d hn
 unfold lk at hn
 cases e:Nat.beq n k with
 |false=>rw [e] at hn;exact hl n d hn
 |true =>
  rw [e] at hn
  have hd:c=d:=Option.some.inj hn
  rw [Nat.eq_of_beq_eq_true e,←hd]
  exact h
theorem ge {f : Nat} {fn : Func} {con : Con} {l : List (Nat × Con)} (nt : Nat) (si : List (Nat × List (Nat × List Md))) (lp jn : List (Nat × Ann)) (hl : LkOk l) (hf : Tryz.prog.funcs[f]? = some fn) (he : (!(fn.name == "runtime.NumGoroutine") && fn.body.isSome) = true)
  (hrun:∀x,runF (cx nt l si lp jn) fn con.ins con.outs x=con.f x):GE f con:=⟨Tm.good_of (C:=cx nt l si lp jn) mx (table_ok tt_ok) hl hf hrun,Tm.enters_of hf he⟩
theorem g184:GE 184 c184:=ge 12 [] [] [] ln Tryz.func184 (by kernel_rfl) fun x=>by kernel_rfl
theorem g109:GE 109 c109:=ge 19 [] [] [] (lc g184 ln) Tryz.func109 (by kernel_rfl) fun x=>by kernel_rfl
theorem g61:GE 61 c61:=ge 27 [] [(0,⟨[(.t 1 (.int .i64) .sh),(.t 5 (.int .i64) .sh)],[4]++li 12 14,[]⟩)] [] (lc g109 ln) Tryz.func61 (by kernel_rfl) fun x=>by kernel_rfl
theorem g19:GE 19 c19:=ge 12 [] [] [] (lc g61 ln) Tryz.func19 (by kernel_rfl) fun x=>by kernel_rfl
theorem g20:GE 20 c20:=ge 28 [] [(0,⟨[(.t 1 (.int .i64) .sh),(.t 5 (.int .i64) .sh)],[4]++li 12 15,[]⟩)] [] ln Tryz.func20 (by kernel_rfl) fun x=>by kernel_rfl
theorem g185:GE 185 c185:=ge 13 [] [] [] ln Tryz.func185 (by kernel_rfl) fun x=>by kernel_rfl
theorem g110:GE 110 c110:=ge 27 [] [(0,⟨[(.t 1 (.int .i64) .sh),(.t 5 (.int .i64) .sh)],[4]++li 12 14,[]⟩)] [] (lc g185 ln) Tryz.func110 (by kernel_rfl) fun x=>by kernel_rfl
theorem g111:GE 111 c111:=ge 12 [] [] [] (lc g20 ln) Tryz.func111 (by kernel_rfl) fun x=>by kernel_rfl
theorem g115:GE 115 c115:=ge 12 [] [] [] ln Tryz.func115 (by kernel_rfl) fun x=>by kernel_rfl
theorem g112:GE 112 c112:=ge 18 [] [] [] (lc g20 (lc g115 ln)) Tryz.func112 (by kernel_rfl) fun x=>by kernel_rfl
theorem g186:GE 186 c186:=ge 20 [] [] [] ln Tryz.func186 (by kernel_rfl) fun x=>by kernel_rfl
theorem g116:GE 116 c116:=ge 27 [] [(0,⟨[(.t 1 (.int .i64) .sh),(.t 5 (.int .i64) .sh)],[4]++li 12 14,[]⟩)] [] (lc g186 ln) Tryz.func116 (by kernel_rfl) fun x=>by kernel_rfl
theorem g63:GE 63 c63:=ge 44 [] [] [] (lc g110 (lc g111 (lc g112 (lc g116 ln)))) Tryz.func63 (by kernel_rfl) fun x=>by kernel_rfl
theorem g22:GE 22 c22:=ge 27 [] [(0,⟨[(.t 1 (.int .i64) .sh),(.t 5 (.int .i64) .sh)],[4]++li 12 14,[]⟩)] [] (lc g63 ln) Tryz.func22 (by kernel_rfl) fun x=>by kernel_rfl
theorem g118:GE 118 c118:=ge 13 [] [] [] ln Tryz.func118 (by kernel_rfl) fun x=>by kernel_rfl
theorem g113:GE 113 c113:=ge 27 [] [(0,⟨[(.t 1 (.int .i64) .sh),(.t 5 (.int .i64) .sh)],[4]++li 12 14,[]⟩)] [] (lc g118 ln) Tryz.func113 (by kernel_rfl) fun x=>by kernel_rfl
theorem g119:GE 119 c119:=ge 13 [] [] [] ln Tryz.func119 (by kernel_rfl) fun x=>by kernel_rfl
theorem g114:GE 114 c114:=ge 27 [] [(0,⟨[(.t 1 (.int .i64) .sh),(.t 5 (.int .i64) .sh)],[4]++li 12 14,[]⟩)] [] (lc g119 ln) Tryz.func114 (by kernel_rfl) fun x=>by kernel_rfl
theorem g187:GE 187 c187:=ge 18 [] [] [] (lc g22 (lc g111 ln)) Tryz.func187 (by kernel_rfl) fun x=>by kernel_rfl
theorem g117:GE 117 c117:=ge 27 [] [(0,⟨[(.t 1 (.int .i64) .sh),(.t 5 (.int .i64) .sh)],[4]++li 12 14,[]⟩)] [] (lc g187 ln) Tryz.func117 (by kernel_rfl) fun x=>by kernel_rfl
theorem g62:GE 62 c62:=ge 73 [] [] [] (lc g19 (lc g22 (lc g110 (lc g111 (lc g112 (lc g113 (lc g114 (lc g115 (lc g116 (lc g117 ln)))))))))) Tryz.func62 (by kernel_rfl) fun x=>by kernel_rfl
theorem g21:GE 21 c21:=ge 27 [] [(0,⟨[(.t 1 (.int .i64) .sh),(.t 5 (.int .i64) .sh)],[4]++li 12 14,[]⟩)] [] (lc g62 ln) Tryz.func21 (by kernel_rfl) fun x=>by kernel_rfl
theorem g64:GE 64 c64:=ge 13 [] [] [] ln Tryz.func64 (by kernel_rfl) fun x=>by kernel_rfl
theorem g23:GE 23 c23:=ge 27 [] [(0,⟨[(.t 1 (.int .i64) .sh),(.t 5 (.int .i64) .sh)],[4]++li 12 14,[]⟩)] [] (lc g64 ln) Tryz.func23 (by kernel_rfl) fun x=>by kernel_rfl
theorem g65:GE 65 c65:=ge 43 [] [] [] (lc g22 (lc g111 (lc g112 (lc g118 (lc g119 ln))))) Tryz.func65 (by kernel_rfl) fun x=>by kernel_rfl
theorem g24:GE 24 c24:=ge 27 [] [(0,⟨[(.t 1 (.int .i64) .sh),(.t 5 (.int .i64) .sh)],[4]++li 12 14,[]⟩)] [] (lc g65 ln) Tryz.func24 (by kernel_rfl) fun x=>by kernel_rfl
theorem g5:GE 5 c5:=ge 42 [] [] [] (lc g19 (lc g20 (lc g21 (lc g22 (lc g23 (lc g24 ln)))))) Tryz.func5 (by kernel_rfl) fun x=>by kernel_rfl
theorem g223:GE 223 c223:=ge 11 [] [] [] ln Tryz.func223 (by kernel_rfl) fun x=>by kernel_rfl
theorem g192:GE 192 c192:=ge 23 [] [(0,⟨[(.t 4 (.int .i64) .sh),(.r 8192 e129 [])],li 8 14,[]⟩)] [] (lc g223 ln) Tryz.func192 (by kernel_rfl) fun x=>by kernel_rfl
theorem g124:GE 124 c124:=ge 21 [] [] [] (lc g192 ln) Tryz.func124 (by kernel_rfl) fun x=>by kernel_rfl
theorem g69:GE 69 c69:=ge 23 [(1,[(2,m0)])] [(0,⟨[(.t 4 (.int .i64) .sh),(.r 8192 e127 m0)],li 8 14,[]⟩)] [] (lc g124 ln) Tryz.func69 (by kernel_rfl) fun x=>by kernel_rfl
theorem g29:GE 29 c29:=ge 12 [] [] [] (lc g69 ln) Tryz.func29 (by kernel_rfl) fun x=>by kernel_rfl
theorem g30:GE 30 c30:=ge 22 [] [(0,⟨[(.t 4 (.int .i64) .sh),(.r 8192 e9 [])],li 8 13,[]⟩)] [] ln Tryz.func30 (by kernel_rfl) fun x=>by kernel_rfl
theorem g193:GE 193 c193:=ge 11 [] [] [] ln Tryz.func193 (by kernel_rfl) fun x=>by kernel_rfl
theorem g125:GE 125 c125:=ge 23 [] [(0,⟨[(.t 4 (.int .i64) .sh),(.r 8192 e209 [])],li 8 14,[]⟩)] [] (lc g193 ln) Tryz.func125 (by kernel_rfl) fun x=>by kernel_rfl
theorem g126:GE 126 c126:=ge 15 [] [] [] (lc g30 ln) Tryz.func126 (by kernel_rfl) fun x=>by kernel_rfl
theorem g8:GE 8 c8:=ge 22 [] [(0,⟨[(.t 4 (.int .i64) .sh),(.r 8192 e3 [])],li 8 13,[]⟩)] [] ln Tryz.func8 (by kernel_rfl) fun x=>by kernel_rfl
theorem g127:GE 127 c127:=ge 16 [] [] [] (lc g8 (lc g30 ln)) Tryz.func127 (by kernel_rfl) fun x=>by kernel_rfl
theorem g194:GE 194 c194:=ge 20 [] [] [] ln Tryz.func194 (by kernel_rfl) fun x=>by kernel_rfl
theorem g130:GE 130 c130:=ge 23 [] [(0,⟨[(.t 4 (.int .i64) .sh),(.r 8192 e122 [])],li 8 14,[]⟩)] [] (lc g194 ln) Tryz.func130 (by kernel_rfl) fun x=>by kernel_rfl
theorem g71:GE 71 c71:=ge 39 [] [] [] (lc g125 (lc g126 (lc g127 (lc g130 ln)))) Tryz.func71 (by kernel_rfl) fun x=>by kernel_rfl
theorem g32:GE 32 c32:=ge 23 [(1,[(2,m2)])] [(0,⟨[(.t 4 (.int .i64) .sh),(.r 8192 e71 m2)],li 8 14,[]⟩)] [] (lc g71 ln) Tryz.func32 (by kernel_rfl) fun x=>by kernel_rfl
theorem g132:GE 132 c132:=ge 14 [] [] [] ln Tryz.func132 (by kernel_rfl) fun x=>by kernel_rfl
theorem g128:GE 128 c128:=ge 23 [] [(0,⟨[(.t 4 (.int .i64) .sh),(.r 8192 e140 [])],li 8 14,[]⟩)] [] (lc g132 ln) Tryz.func128 (by kernel_rfl) fun x=>by kernel_rfl
theorem g133:GE 133 c133:=ge 14 [] [] [] ln Tryz.func133 (by kernel_rfl) fun x=>by kernel_rfl
theorem g129:GE 129 c129:=ge 23 [] [(0,⟨[(.t 4 (.int .i64) .sh),(.r 8192 e141 [])],li 8 14,[]⟩)] [] (lc g133 ln) Tryz.func129 (by kernel_rfl) fun x=>by kernel_rfl
theorem g195:GE 195 c195:=ge 16 [] [] [] (lc g32 (lc g126 ln)) Tryz.func195 (by kernel_rfl) fun x=>by kernel_rfl
theorem g131:GE 131 c131:=ge 23 [(1,[(2,m3)])] [(0,⟨[(.t 4 (.int .i64) .sh),(.r 8192 e211 m3)],li 8 14,[]⟩)] [] (lc g195 ln) Tryz.func131 (by kernel_rfl) fun x=>by kernel_rfl
theorem g70:GE 70 c70:=ge 60 [] [] [] (lc g8 (lc g29 (lc g32 (lc g125 (lc g126 (lc g127 (lc g128 (lc g129 (lc g130 (lc g131 ln)))))))))) Tryz.func70 (by kernel_rfl) fun x=>by kernel_rfl
theorem g31:GE 31 c31:=ge 23 [(1,[(2,m4)])] [(0,⟨[(.t 4 (.int .i64) .sh),(.r 8192 e135 m4)],li 8 14,[]⟩)] [] (lc g70 ln) Tryz.func31 (by kernel_rfl) fun x=>by kernel_rfl
theorem g72:GE 72 c72:=ge 20 [] [] [] ln Tryz.func72 (by kernel_rfl) fun x=>by kernel_rfl
theorem g33:GE 33 c33:=ge 23 [] [(0,⟨[(.t 4 (.int .i64) .sh),(.r 8192 e138 [])],li 8 14,[]⟩)] [] (lc g72 ln) Tryz.func33 (by kernel_rfl) fun x=>by kernel_rfl
theorem g73:GE 73 c73:=ge 34 [] [] [] (lc g32 (lc g126 (lc g127 (lc g132 (lc g133 ln))))) Tryz.func73 (by kernel_rfl) fun x=>by kernel_rfl
theorem g34:GE 34 c34:=ge 23 [(1,[(2,m5)])] [(0,⟨[(.t 4 (.int .i64) .sh),(.r 8192 e143 m5)],li 8 14,[]⟩)] [] (lc g73 ln) Tryz.func34 (by kernel_rfl) fun x=>by kernel_rfl
theorem g7:GE 7 c7:=ge 29 [] [] [] (lc g29 (lc g30 (lc g31 (lc g32 (lc g33 (lc g34 ln)))))) Tryz.func7 (by kernel_rfl) fun x=>by kernel_rfl
theorem g26:GE 26 c26:=ge 15 [] [] [] ln Tryz.func26 (by kernel_rfl) fun x=>by kernel_rfl
theorem g150:GE 150 c150:=ge 27 [] [(0,⟨[(.t 3 (.int .i64) .sh)],[2]++li 4 20,[]⟩)] [] (lc g26 ln) Tryz.func150 (by kernel_rfl) fun x=>by kernel_rfl
theorem g190:GE 190 c190:=ge 71 [] [(0,⟨[(.t 3 (.int .i64) .sh)],[2,4]++li 33 38,[]⟩)] [] (lc g26 (lc g150 ln)) Tryz.func190 (by kernel_rfl) fun x=>by kernel_rfl
theorem g222:GE 222 c222:=ge 26 [] [(0,⟨[(.t 3 (.int .i64) .sh),(.t 4 (.int .i64) .sh)],li 10 15,[]⟩)] [] ln Tryz.func222 (by kernel_rfl) fun x=>by kernel_rfl
theorem g191:GE 191 c191:=ge 19 [] [(0,⟨[(.t 3 (.int .i64) .sh),(.t 4 (.int .i64) .sh)],li 5 13,[]⟩)] [] (lc g222 ln) Tryz.func191 (by kernel_rfl) fun x=>by kernel_rfl
theorem g123:GE 123 c123:=ge 42 [] [(0,⟨[(.t 3 (.int .i64) .sh)],[2]++li 4 30,[]⟩)] [] (lc g190 (lc g191 ln)) Tryz.func123 (by kernel_rfl) fun x=>by kernel_rfl
theorem g68:GE 68 c68:=ge 11 [] [] [] (lc g26 (lc g123 ln)) Tryz.func68 (by kernel_rfl) fun x=>by kernel_rfl
theorem g90:GE 90 c90:=ge 35 [] [(0,⟨[(.t 3 (.int .i64) .sh)],[2]++li 4 28,[]⟩)] [] (lc g150 ln) Tryz.func90 (by kernel_rfl) fun x=>by kernel_rfl
theorem g155:GE 155 c155:=ge 17 [] [] [] ln Tryz.func155 (by kernel_rfl) fun x=>by kernel_rfl
theorem g151:GE 151 c151:=ge 27 [] [] [] (lc g26 (lc g90 (lc g155 ln))) Tryz.func151 (by kernel_rfl) fun x=>by kernel_rfl
theorem g157:GE 157 c157:=ge 18 [] [] [] ln Tryz.func157 (by kernel_rfl) fun x=>by kernel_rfl
theorem g152:GE 152 c152:=ge 48 [] [(0,⟨[(.t 4 (.int .i64) .sh)],[2]++li 31 17,[]⟩)] [] (lc g26 (lc g90 (lc g157 ln))) Tryz.func152 (by kernel_rfl) fun x=>by kernel_rfl
theorem g120:GE 120 c120:=ge 33 [] [] [] (lc g26 (lc g150 ln)) Tryz.func120 (by kernel_rfl) fun x=>by kernel_rfl
theorem g153:GE 153 c153:=ge 47 [] [(0,⟨[(.t 3 (.int .i64) .sh)],[2]++li 4 40,[]⟩)] [] (lc g26 (lc g150 ln)) Tryz.func153 (by kernel_rfl) fun x=>by kernel_rfl
theorem g91:GE 91 c91:=ge 77 [] [(0,⟨[(.t 3 (.int .i64) .sh)],[2]++li 42 14,[]⟩)] [] (lc g26 (lc g120 (lc g150 (lc g151 (lc g152 (lc g153 ln)))))) Tryz.func91 (by kernel_rfl) fun x=>by kernel_rfl
theorem g154:GE 154 c154:=ge 52 [] [(1,⟨[(.t 4 (.int .i64) .sh)],[2]++li 11 25,[]⟩)] [(7,⟨[(.t 3 (.int .i64) .sh)],li 5 6,[]⟩)] (lc g91 ln) Tryz.func154 (by kernel_rfl) fun x=>by kernel_rfl
theorem g158:GE 158 c158:=ge 42 [] [(0,⟨[(.t 3 (.int .i64) .sh)],[2]++li 25 17,[]⟩)] [] (lc g26 (lc g90 (lc g157 ln))) Tryz.func158 (by kernel_rfl) fun x=>by kernel_rfl
theorem g156:GE 156 c156:=ge 20 [] [] [] (lc g26 (lc g90 (lc g155 ln))) Tryz.func156 (by kernel_rfl) fun x=>by kernel_rfl
theorem g92:GE 92 c92:=ge 124 [] [] [(10,⟨[(.t 3 .bool .sh),(.t 4 .bool .sh)],li 35 51,[]⟩)] (lc g26 (lc g150 (lc g154 (lc g155 (lc g156 (lc g157 (lc g158 ln))))))) Tryz.func92 (by kernel_rfl) fun x=>by kernel_rfl
theorem g93:GE 93 c93:=ge 22 [] [(0,⟨[(.t 5 (.int .i64) .sh)],[4]++li 6 16,[]⟩)] [] ln Tryz.func93 (by kernel_rfl) fun x=>by kernel_rfl
theorem g227:GE 227 c227:=ge 26 [] [(0,⟨[(.t 5 (.int .i64) .sh)],[4]++li 11 15,[]⟩)] [] ln Tryz.func227 (by kernel_rfl) fun x=>by kernel_rfl
theorem g206:GE 206 c206:=ge 24 [] [] [] (lc g227 ln) Tryz.func206 (by kernel_rfl) fun x=>by kernel_rfl
theorem g207:GE 207 c207:=ge 46 [] [(0,⟨[(.t 5 (.int .i64) .sh)],[4]++li 28 18,[]⟩)] [] (lc g227 ln) Tryz.func207 (by kernel_rfl) fun x=>by kernel_rfl
theorem g208:GE 208 c208:=ge 26 [] [(0,⟨[(.t 5 (.int .i64) .sh)],[4]++li 11 15,[]⟩)] [] ln Tryz.func208 (by kernel_rfl) fun x=>by kernel_rfl
theorem g209:GE 209 c209:=ge 26 [] [(0,⟨[(.t 5 (.int .i64) .sh)],[4]++li 11 15,[]⟩)] [] ln Tryz.func209 (by kernel_rfl) fun x=>by kernel_rfl
theorem g159:GE 159 c159:=ge 73 [] [] [] (lc g206 (lc g207 (lc g208 (lc g209 ln)))) Tryz.func159 (by kernel_rfl) fun x=>by kernel_rfl
theorem g94:GE 94 c94:=ge 40 [] [(0,⟨[(.t 5 (.int .i64) .sh)],[4]++li 6 34,[]⟩)] [] (lc g26 (lc g159 ln)) Tryz.func94 (by kernel_rfl) fun x=>by kernel_rfl
theorem g228:GE 228 c228:=ge 54 [] [] [] ln Tryz.func228 (by kernel_rfl) fun x=>by kernel_rfl
theorem g210:GE 210 c210:=ge 36 [] [(0,⟨[(.t 3 (.int .i64) .sh)],[2]++li 4 29,[]⟩)] [] (lc g120 (lc g228 ln)) Tryz.func210 (by kernel_rfl) fun x=>by kernel_rfl
theorem g229:GE 229 c229:=ge 20 [] [(0,⟨[(.t 5 (.int .i64) .sh)],[4]++li 6 14,[]⟩)] [] ln Tryz.func229 (by kernel_rfl) fun x=>by kernel_rfl
theorem g211:GE 211 c211:=ge 70 [] [(0,⟨[(.t 3 (.int .i64) .sh)],[2]++li 4 63,[]⟩)] [(7,⟨[],li 16 27,[]⟩)] (lc g91 (lc g155 (lc g229 ln))) Tryz.func211 (by kernel_rfl) fun x=>by kernel_rfl
theorem g243:GE 243 c243:=ge 19 [] [(0,⟨[(.t 5 (.int .i64) .sh)],[4]++li 6 13,[]⟩)] [] ln Tryz.func243 (by kernel_rfl) fun x=>by kernel_rfl
theorem g230:GE 230 c230:=ge 21 [] [(0,⟨[(.t 5 (.int .i64) .sh)],[4]++li 6 13,[]⟩)] [] (lc g90 (lc g243 ln)) Tryz.func230 (by kernel_rfl) fun x=>by kernel_rfl
theorem g161:GE 161 c161:=ge 18 [] [(0,⟨[(.t 5 (.int .i64) .sh)],[4]++li 6 12,[]⟩)] [] ln Tryz.func161 (by kernel_rfl) fun x=>by kernel_rfl
theorem g244:GE 244 c244:=ge 28 [] [(0,⟨[(.t 5 (.int .i64) .sh),(.t 6 (.int .i64) .sh)],li 7 20,[]⟩)] [] (lc g161 ln) Tryz.func244 (by kernel_rfl) fun x=>by kernel_rfl
theorem g245:GE 245 c245:=ge 19 [] [(0,⟨[(.t 3 (.int .i64) .sh),(.t 4 (.int .i64) .sh)],li 5 13,[]⟩)] [] ln Tryz.func245 (by kernel_rfl) fun x=>by kernel_rfl
theorem g231:GE 231 c231:=ge 13 [] [] [] (lc g244 (lc g245 ln)) Tryz.func231 (by kernel_rfl) fun x=>by kernel_rfl
theorem g212:GE 212 c212:=ge 27 [] [] [] (lc g26 (lc g155 (lc g230 (lc g231 ln)))) Tryz.func212 (by kernel_rfl) fun x=>by kernel_rfl
theorem g213:GE 213 c213:=ge 52 [] [(0,⟨[(.t 5 (.int .i64) .sh)],[4]++li 35 17,[]⟩)] [] (lc g26 (lc g157 (lc g230 (lc g231 ln)))) Tryz.func213 (by kernel_rfl) fun x=>by kernel_rfl
theorem g160:GE 160 c160:=ge 128 [] [] [(3,⟨[],li 3 58,[]⟩)] (lc g26 (lc g68 (lc g150 (lc g153 (lc g210 (lc g211 (lc g212 (lc g213 ln)))))))) Tryz.func160 (by kernel_rfl) fun x=>by kernel_rfl
theorem g95:GE 95 c95:=ge 54 [] [(0,⟨[(.t 3 (.int .i64) .sh)],[2]++li 4 46,[]⟩)] [] (lc g94 (lc g160 (lc g161 ln))) Tryz.func95 (by kernel_rfl) fun x=>by kernel_rfl
theorem g52:GE 52 c52:=ge 89 [] [(0,⟨[(.t 3 (.int .i64) .sh)],[2]++li 27 24,[]⟩),(2,⟨[(.t 4 (.int .i64) .sh)],[2]++li 51 36,[]⟩)] [] (lc g68 (lc g90 (lc g91 (lc g92 (lc g93 (lc g94 (lc g95 ln))))))) Tryz.func52 (by kernel_rfl) fun x=>by kernel_rfl
theorem g53:GE 53 c53:=ge 65 [] [(0,⟨[(.t 3 (.int .i64) .sh)],[2]++li 4 61,[]⟩),(2,⟨[(.t 4 (.int .i64) .sh)],[2,5,6]++li 14 51,[]⟩)] [] ln Tryz.func53 (by kernel_rfl) fun x=>by kernel_rfl
theorem g96:GE 96 c96:=ge 27 [] [(0,⟨[(.t 5 (.int .i64) .sh)],[4]++li 6 21,[]⟩)] [] ln Tryz.func96 (by kernel_rfl) fun x=>by kernel_rfl
theorem g54:GE 54 c54:=ge 31 [] [(0,⟨[(.t 3 (.int .i64) .sh)],[2]++li 4 27,[]⟩),(2,⟨[(.t 4 (.int .i64) .sh)],[2]++li 12 19,[]⟩)] [] (lc g96 ln) Tryz.func54 (by kernel_rfl) fun x=>by kernel_rfl
theorem g97:GE 97 c97:=ge 36 [] [(0,⟨[(.t 5 (.int .i64) .sh),(.t 6 (.int .i64) .sh)],li 7 28,[]⟩)] [] (lc g26 ln) Tryz.func97 (by kernel_rfl) fun x=>by kernel_rfl
theorem g66:GE 66 c66:=ge 27 [(1,[(0,m0)]),(7,[(2,m0),(3,m0)])] [(0,⟨[(.t 3 (.sl e127) (.own m0)),(.t 4 (.int .i64) .sh)],[5]++li 7 19,[]⟩)] [] ln Tryz.func66 (by kernel_rfl) fun x=>by kernel_rfl
theorem g25:GE 25 c25:=ge 9 [] [] [(3001025,⟨[],[],[2048]⟩),(3001027,⟨[],[],[2048]⟩)] (lc g66 ln) Tryz.func25 (by kernel_rfl) fun x=>by kernel_rfl
theorem g121:GE 121 c121:=ge 20 [] [(0,⟨[(.t 5 (.int .i64) .sh)],[4]++li 6 14,[]⟩)] [] ln Tryz.func121 (by kernel_rfl) fun x=>by kernel_rfl
theorem w_275 (z:Option (GD o66)):(show Option (GD o275) from z)=z.map (wkD o66):=by cases z<;>rfl
theorem g275:GE 66 c275:=⟨Tm.good_weak (ins:=i66) (outs:=o66) (F:=F66) (F':=F66) g66.1 (fun x=>w_275 (F66 x)),g66.2⟩
theorem g188:GE 188 c188:=ge 49 [] [(0,⟨[(.t 6 (.int .i64) .sh),(.r 24576 e127 [])],li 21 22,[]⟩)] [] (lc g275 (lc g121 ln)) Tryz.func188 (by kernel_rfl) fun x=>by kernel_rfl
theorem g189:GE 189 c189:=ge 62 [] [(0,⟨[(.t 7 (.sl e129) (.own [])),(.t 8 .bool .sh),(.t 9 (.int .i64) .sh)],[10]++li 12 41,[]⟩)] [(10,⟨[(.t 8 .bool .sh),(.b 30720 0 (.int .i64) .sh)],li 22 13,[]⟩),(13,⟨[(.t 7 (.sl e129) (.own [])),(.t 8 .bool .sh)],li 35 14,[12288]⟩),(16,⟨[(.t 7 (.sl e129) (.own []))],li 53 8,[12288]⟩)] ln Tryz.func189 (by kernel_rfl) fun x=>by kernel_rfl
theorem w_276 (z:Option (GD o25)):(show Option (GD o276) from z)=z.map (wkD o25):=by cases z<;>rfl
theorem g276:GE 25 c276:=⟨Tm.good_weak (ins:=i25) (outs:=o25) (F:=F25) (F':=F25) g25.1 (fun x=>w_276 (F25 x)),g25.2⟩
theorem g122:GE 122 c122:=ge 109 [] [] [(15,⟨[(.b 12288 1 (.sl e127) (.own []))],[9]++li 24 84,[10242]⟩),(3005126,⟨[],[],[4096]⟩),(3006150,⟨[],[],[4096]⟩),(3006152,⟨[],[],[2048]⟩),(3008198,⟨[],[],[4096]⟩),(3011265,⟨[],[],[12288]⟩),(3011268,⟨[],[],[12288]⟩),(3011274,⟨[],[],[4096]⟩),(3013318,⟨[],[],[4096]⟩),(3014342,⟨[],[],[4096]⟩)] (lc g276 (lc g121 (lc g188 (lc g189 ln)))) Tryz.func122 (by kernel_rfl) fun x=>by kernel_rfl
theorem g67:GE 67 c67:=ge 64 [] [] [(11,⟨[(.t 9 (.int .i64) .sh)],li 37 5,[]⟩)] (lc g25 (lc g68 (lc g120 (lc g121 (lc g122 ln))))) Tryz.func67 (by kernel_rfl) fun x=>by kernel_rfl
theorem g27:GE 27 c27:=ge 35 [] [(0,⟨[(.t 7 (.int .i64) .sh),(.t 8 (.int .i64) .sh),(.b 12288 0 (.int .i64) .sh),(.b 12288 1 (.sl e127) .sh)],[9,10]++li 13 20,[10242]⟩)] [(3006144,⟨[],[],[12288]⟩),(3006148,⟨[],[],[]⟩)] (lc g25 (lc g67 ln)) Tryz.func27 (by kernel_rfl) fun x=>by kernel_rfl
theorem g28:GE 28 c28:=ge 86 [] [(0,⟨[(.t 4 (.int .i64) .sh),(.r 8194 e127 [])],[5,6,7]++li 18 62,[]⟩),(2,⟨[(.t 6 (.sl e129) (.own [])),(.t 7 (.int .i64) .sh),(.r 8194 e127 [])],li 30 46,[]⟩)] [(3014348,⟨[],[],[]⟩)] (lc g276 (lc g68 ln)) Tryz.func28 (by kernel_rfl) fun x=>by kernel_rfl
theorem g6:GE 6 c6:=ge 51 [] [(0,⟨[(.t 7 (.int .i64) .sh),(.b 14336 0 (.int .i64) .sh),(.b 14336 1 (.sl e127) .sh)],[5,8]++li 12 38,[12290]⟩)] [(3007169,⟨[],[],[2048]⟩),(3007173,⟨[],[],[]⟩),(3007175,⟨[],[],[]⟩)] (lc g276 (lc g26 (lc g27 (lc g28 ln)))) Tryz.func6 (by kernel_rfl) fun x=>by kernel_rfl
theorem g162:GE 162 c162:=ge 59 [] [(0,⟨[(.t 5 (.int .i64) .sh)],[4]++li 41 18,[]⟩)] [] ln Tryz.func162 (by kernel_rfl) fun x=>by kernel_rfl
theorem g98:GE 98 c98:=ge 39 [] [(0,⟨[(.t 5 (.int .i64) .sh)],[4]++li 20 19,[]⟩)] [] (lc g162 ln) Tryz.func98 (by kernel_rfl) fun x=>by kernel_rfl
theorem g55:GE 55 c55:=ge 40 [] [(0,⟨[(.t 3 (.int .i64) .sh)],[2]++li 4 36,[]⟩)] [(3005120,⟨[],[],[2048]⟩),(3005122,⟨[],[],[30720]⟩),(3005123,⟨[],[],[2048]⟩),(3005125,⟨[],[],[30720]⟩)] (lc g6 (lc g97 (lc g98 ln))) Tryz.func55 (by kernel_rfl) fun x=>by kernel_rfl
theorem g17:GE 17 c17:=ge 19 [] [] [] (lc g52 (lc g53 (lc g54 (lc g55 ln)))) Tryz.func17 (by kernel_rfl) fun x=>by kernel_rfl
theorem g36:GE 36 c36:=ge 15 [] [] [] ln Tryz.func36 (by kernel_rfl) fun x=>by kernel_rfl
theorem g163:GE 163 c163:=ge 36 [] [(0,⟨[(.t 3 (.int .i64) .sh)],[2]++li 4 29,[]⟩)] [] (lc g36 ln) Tryz.func163 (by kernel_rfl) fun x=>by kernel_rfl
theorem g226:GE 226 c226:=ge 5 [] [] [] (lc g36 ln) Tryz.func226 (by kernel_rfl) fun x=>by kernel_rfl
theorem g200:GE 200 c200:=ge 64 [] [(0,⟨[(.t 8 (.int .i64) .sh)],[2,3,4]++li 9 31,[]⟩)] [] (lc g36 (lc g163 (lc g226 ln))) Tryz.func200 (by kernel_rfl) fun x=>by kernel_rfl
theorem g201:GE 201 c201:=ge 35 [] [(0,⟨[(.t 3 (.int .i64) .sh),(.t 10 (.int .i64) .sh)],[5,7]++li 11 23,[]⟩),(2,⟨[(.t 3 (.int .i64) .sh),(.t 24 (.int .i64) .sh)],[7]++li 25 8,[]⟩)] [] ln Tryz.func201 (by kernel_rfl) fun x=>by kernel_rfl
theorem g139:GE 139 c139:=ge 39 [] [(0,⟨[(.t 7 (.int .i64) .sh)],[2,3,4]++li 8 23,[]⟩)] [] (lc g200 (lc g201 ln)) Tryz.func139 (by kernel_rfl) fun x=>by kernel_rfl
theorem g76:GE 76 c76:=ge 11 [] [] [] (lc g36 (lc g139 ln)) Tryz.func76 (by kernel_rfl) fun x=>by kernel_rfl
theorem g99:GE 99 c99:=ge 32 [] [(0,⟨[(.t 7 (.int .i64) .sh)],[2,3,4]++li 8 21,[]⟩)] [] (lc g163 ln) Tryz.func99 (by kernel_rfl) fun x=>by kernel_rfl
theorem g175:GE 175 c175:=ge 17 [] [] [] ln Tryz.func175 (by kernel_rfl) fun x=>by kernel_rfl
theorem g164:GE 164 c164:=ge 26 [] [] [] (lc g36 (lc g99 (lc g175 ln))) Tryz.func164 (by kernel_rfl) fun x=>by kernel_rfl
theorem g176:GE 176 c176:=ge 18 [] [] [] ln Tryz.func176 (by kernel_rfl) fun x=>by kernel_rfl
theorem g165:GE 165 c165:=ge 41 [] [(0,⟨[(.t 12 (.int .i64) .sh)],[4,6]++li 13 10,[]⟩)] [] (lc g36 (lc g99 (lc g176 ln))) Tryz.func165 (by kernel_rfl) fun x=>by kernel_rfl
theorem g136:GE 136 c136:=ge 34 [] [] [] (lc g36 (lc g163 ln)) Tryz.func136 (by kernel_rfl) fun x=>by kernel_rfl
theorem g166:GE 166 c166:=ge 15 [] [(0,⟨[(.t 7 (.int .i64) .sh)],[2,4]++li 8 7,[]⟩)] [] (lc g136 ln) Tryz.func166 (by kernel_rfl) fun x=>by kernel_rfl
theorem g167:GE 167 c167:=ge 41 [] [(0,⟨[(.t 7 (.int .i64) .sh)],[2,3,4]++li 8 30,[]⟩)] [] (lc g36 (lc g163 ln)) Tryz.func167 (by kernel_rfl) fun x=>by kernel_rfl
theorem g100:GE 100 c100:=ge 77 [] [] [] (lc g36 (lc g163 (lc g164 (lc g165 (lc g166 (lc g167 ln)))))) Tryz.func100 (by kernel_rfl) fun x=>by kernel_rfl
theorem g253:GE 253 c253:=ge 6 [] [] [] ln Tryz.func253 (by kernel_rfl) fun x=>by kernel_rfl
theorem g247:GE 247 c247:=ge 20 [] [] [] (lc g253 ln) Tryz.func247 (by kernel_rfl) fun x=>by kernel_rfl
theorem g254:GE 254 c254:=ge 6 [] [] [] ln Tryz.func254 (by kernel_rfl) fun x=>by kernel_rfl
theorem g248:GE 248 c248:=ge 20 [] [] [] (lc g254 ln) Tryz.func248 (by kernel_rfl) fun x=>by kernel_rfl
theorem g246:GE 246 c246:=ge 18 [] [(0,⟨[(.t 8 (.int .i64) .sh)],[2,5]++li 9 8,[]⟩)] [] ln Tryz.func246 (by kernel_rfl) fun x=>by kernel_rfl
theorem g232:GE 232 c232:=ge 32 [] [] [] (lc g246 (lc g247 (lc g248 ln))) Tryz.func232 (by kernel_rfl) fun x=>by kernel_rfl
theorem g214:GE 214 c214:=ge 9 [] [] [] (lc g232 ln) Tryz.func214 (by kernel_rfl) fun x=>by kernel_rfl
theorem g168:GE 168 c168:=ge 33 [] [(0,⟨[(.t 7 (.int .i64) .sh)],[2,3,4]++li 8 22,[]⟩)] [] (lc g136 (lc g214 ln)) Tryz.func168 (by kernel_rfl) fun x=>by kernel_rfl
theorem g172:GE 172 c172:=ge 19 [] [(0,⟨[(.t 8 (.int .i64) .sh)],[4,5]++li 9 10,[]⟩)] [] ln Tryz.func172 (by kernel_rfl) fun x=>by kernel_rfl
theorem g102:GE 102 c102:=ge 9 [] [] [] (lc g172 ln) Tryz.func102 (by kernel_rfl) fun x=>by kernel_rfl
theorem g233:GE 233 c233:=ge 24 [] [(0,⟨[(.t 5 (.int .i64) .sh),(.t 10 (.int .i64) .sh)],[7]++li 11 12,[]⟩)] [] (lc g102 ln) Tryz.func233 (by kernel_rfl) fun x=>by kernel_rfl
theorem g234:GE 234 c234:=ge 18 [] [(0,⟨[(.t 3 (.int .i64) .sh),(.t 8 (.int .i64) .sh)],[5]++li 9 8,[]⟩)] [] ln Tryz.func234 (by kernel_rfl) fun x=>by kernel_rfl
theorem g215:GE 215 c215:=ge 13 [] [] [] (lc g233 (lc g234 ln)) Tryz.func215 (by kernel_rfl) fun x=>by kernel_rfl
theorem g255:GE 255 c255:=ge 19 [] [(0,⟨[(.t 8 (.int .i64) .sh)],[4,5]++li 9 10,[]⟩)] [] ln Tryz.func255 (by kernel_rfl) fun x=>by kernel_rfl
theorem g249:GE 249 c249:=ge 9 [] [] [] (lc g255 ln) Tryz.func249 (by kernel_rfl) fun x=>by kernel_rfl
theorem g250:GE 250 c250:=ge 8 [] [] [] ln Tryz.func250 (by kernel_rfl) fun x=>by kernel_rfl
theorem g235:GE 235 c235:=ge 8 [] [] [] (lc g249 (lc g250 ln)) Tryz.func235 (by kernel_rfl) fun x=>by kernel_rfl
theorem g216:GE 216 c216:=ge 18 [] [(0,⟨[(.t 9 (.int .i64) .sh)],[4,6]++li 10 8,[]⟩)] [] (lc g235 ln) Tryz.func216 (by kernel_rfl) fun x=>by kernel_rfl
theorem g169:GE 169 c169:=ge 23 [] [] [] (lc g164 (lc g175 (lc g215 (lc g216 ln)))) Tryz.func169 (by kernel_rfl) fun x=>by kernel_rfl
theorem g170:GE 170 c170:=ge 23 [] [] [] (lc g165 (lc g176 (lc g215 (lc g216 ln)))) Tryz.func170 (by kernel_rfl) fun x=>by kernel_rfl
theorem g236:GE 236 c236:=ge 19 [] [(0,⟨[(.t 8 (.int .i64) .sh)],[4,5]++li 9 10,[]⟩)] [] ln Tryz.func236 (by kernel_rfl) fun x=>by kernel_rfl
theorem g237:GE 237 c237:=ge 8 [] [] [] ln Tryz.func237 (by kernel_rfl) fun x=>by kernel_rfl
theorem g217:GE 217 c217:=ge 8 [] [] [] (lc g236 (lc g237 ln)) Tryz.func217 (by kernel_rfl) fun x=>by kernel_rfl
theorem g171:GE 171 c171:=ge 65 [] [(0,⟨[(.t 8 (.int .i64) .sh)],[2,3,4,5]++li 9 53,[]⟩)] [(6,⟨[],li 13 27,[]⟩)] (lc g100 (lc g175 (lc g217 ln))) Tryz.func171 (by kernel_rfl) fun x=>by kernel_rfl
theorem g101:GE 101 c101:=ge 126 [] [] [(3,⟨[],li 3 36,[]⟩)] (lc g36 (lc g76 (lc g163 (lc g167 (lc g168 (lc g169 (lc g170 (lc g171 ln)))))))) Tryz.func101 (by kernel_rfl) fun x=>by kernel_rfl
theorem g238:GE 238 c238:=ge 26 [] [(0,⟨[(.t 13 (.int .i64) .sh)],[4,5]++li 14 12,[]⟩)] [] ln Tryz.func238 (by kernel_rfl) fun x=>by kernel_rfl
theorem g218:GE 218 c218:=ge 24 [] [] [] (lc g238 ln) Tryz.func218 (by kernel_rfl) fun x=>by kernel_rfl
theorem g106:GE 106 c106:=ge 26 [] [(0,⟨[(.t 13 (.int .i64) .sh)],[4,5]++li 14 12,[]⟩)] [] ln Tryz.func106 (by kernel_rfl) fun x=>by kernel_rfl
theorem g219:GE 219 c219:=ge 24 [] [] [] (lc g106 (lc g238 ln)) Tryz.func219 (by kernel_rfl) fun x=>by kernel_rfl
theorem g220:GE 220 c220:=ge 26 [] [(0,⟨[(.t 13 (.int .i64) .sh)],[4,5]++li 14 12,[]⟩)] [] ln Tryz.func220 (by kernel_rfl) fun x=>by kernel_rfl
theorem g221:GE 221 c221:=ge 26 [] [(0,⟨[(.t 13 (.int .i64) .sh)],[4,5]++li 14 12,[]⟩)] [] ln Tryz.func221 (by kernel_rfl) fun x=>by kernel_rfl
theorem g173:GE 173 c173:=ge 71 [] [] [] (lc g218 (lc g219 (lc g220 (lc g221 ln)))) Tryz.func173 (by kernel_rfl) fun x=>by kernel_rfl
theorem g103:GE 103 c103:=ge 35 [] [(0,⟨[(.t 9 (.int .i64) .sh)],[4,6]++li 10 25,[]⟩)] [] (lc g173 ln) Tryz.func103 (by kernel_rfl) fun x=>by kernel_rfl
theorem g174:GE 174 c174:=ge 26 [] [(0,⟨[(.t 9 (.int .i64) .sh)],[4,6]++li 10 13,[]⟩)] [] (lc g100 ln) Tryz.func174 (by kernel_rfl) fun x=>by kernel_rfl
theorem g177:GE 177 c177:=ge 16 [] [] [] (lc g36 (lc g163 ln)) Tryz.func177 (by kernel_rfl) fun x=>by kernel_rfl
theorem g178:GE 178 c178:=ge 28 [] [] [] (lc g36 (lc g163 ln)) Tryz.func178 (by kernel_rfl) fun x=>by kernel_rfl
theorem g104:GE 104 c104:=ge 118 [] [] [] (lc g36 (lc g163 (lc g164 (lc g165 (lc g174 (lc g175 (lc g176 (lc g177 (lc g178 ln))))))))) Tryz.func104 (by kernel_rfl) fun x=>by kernel_rfl
theorem g179:GE 179 c179:=ge 19 [] [(0,⟨[(.t 8 (.int .i64) .sh)],[4,5]++li 9 10,[]⟩)] [] ln Tryz.func179 (by kernel_rfl) fun x=>by kernel_rfl
theorem g180:GE 180 c180:=ge 8 [] [] [] ln Tryz.func180 (by kernel_rfl) fun x=>by kernel_rfl
theorem g105:GE 105 c105:=ge 11 [] [] [] (lc g179 (lc g180 ln)) Tryz.func105 (by kernel_rfl) fun x=>by kernel_rfl
theorem g56:GE 56 c56:=ge 119 [] [(0,⟨[(.t 40 (.int .i64) .sh)],[2,3,4]++li 41 14,[]⟩),(2,⟨[(.t 58 (.int .i64) .sh)],[2,5,6]++li 59 37,[]⟩),(4,⟨[(.t 99 (.int .i64) .sh)],[2,8]++li 100 19,[]⟩)] [] (lc g76 (lc g99 (lc g100 (lc g101 (lc g102 (lc g103 (lc g104 (lc g105 ln)))))))) Tryz.func56 (by kernel_rfl) fun x=>by kernel_rfl
theorem g57:GE 57 c57:=ge 62 [] [(0,⟨[(.t 10 (.int .i64) .sh)],[2,3,4,6]++li 11 51,[]⟩),(2,⟨[(.t 20 (.int .i64) .sh)],[2,6]++li 21 40,[]⟩)] [] ln Tryz.func57 (by kernel_rfl) fun x=>by kernel_rfl
theorem g58:GE 58 c58:=ge 44 [] [(0,⟨[(.t 11 (.int .i64) .sh)],[2,3,4,6,7]++li 12 32,[]⟩),(2,⟨[(.t 21 (.int .i64) .sh)],[2,6,7]++li 22 21,[]⟩)] [] (lc g106 ln) Tryz.func58 (by kernel_rfl) fun x=>by kernel_rfl
theorem g107:GE 107 c107:=ge 39 [] [(0,⟨[(.t 5 (.int .i64) .sh),(.t 10 (.int .i64) .sh)],[6,7]++li 11 25,[]⟩)] [] (lc g36 ln) Tryz.func107 (by kernel_rfl) fun x=>by kernel_rfl
theorem g134:GE 134 c134:=ge 8 [] [] [] ln Tryz.func134 (by kernel_rfl) fun x=>by kernel_rfl
theorem g74:GE 74 c74:=ge 22 [(6,[(2,m0),(3,m0)])] [(0,⟨[(.t 3 (.sl e127) (.own m0)),(.t 8 (.int .i64) .sh)],[5]++li 9 12,[]⟩)] [] (lc g134 ln) Tryz.func74 (by kernel_rfl) fun x=>by kernel_rfl
theorem g35:GE 35 c35:=ge 9 [] [] [(3001025,⟨[],[],[2048]⟩),(3001027,⟨[],[],[2048]⟩)] (lc g74 ln) Tryz.func35 (by kernel_rfl) fun x=>by kernel_rfl
theorem g196:GE 196 c196:=ge 19 [] [(0,⟨[(.t 8 (.int .i64) .sh)],[4,5]++li 9 10,[]⟩)] [] ln Tryz.func196 (by kernel_rfl) fun x=>by kernel_rfl
theorem g197:GE 197 c197:=ge 8 [] [] [] ln Tryz.func197 (by kernel_rfl) fun x=>by kernel_rfl
theorem g135:GE 135 c135:=ge 8 [] [] [] (lc g196 (lc g197 ln)) Tryz.func135 (by kernel_rfl) fun x=>by kernel_rfl
theorem g137:GE 137 c137:=ge 15 [] [] [] ln Tryz.func137 (by kernel_rfl) fun x=>by kernel_rfl
noncomputable def r224:Go.Shelf.Ren:=⟨fun n=>match n with|22=>224|29=>239|30=>240|n=>n,fun n=>match n with|9=>127|24=>34|n=>n,fun n=>n⟩
theorem L224:InsL Tryz.prog r224 Tryz.f224.name 5 64 (.agg #[.string ByteArray.empty,.int .i64 0,.int .i64 0,.int .i64 0,.slice none 0 0]) where
 mixed:=by kernel_rfl
 f22:=by kernel_rfl
 ov:=fun args w=>run_callFunc_extern Tryz.func239 (by kernel_rfl) (by kernel_rfl) (by kernel_rfl) (by kernel_rfl) args w
 t0:=by kernel_rfl
 a0:=fun w=>by kernel_rfl
 z0:=fun w=>by kernel_rfl
 v0:=fun w=>by kernel_rfl
 t3:=by kernel_rfl
 a3:=fun w=>by kernel_rfl
 z3:=fun w=>by kernel_rfl
 v3:=fun w=>by kernel_rfl
 t4:=by kernel_rfl
 a4:=fun w=>by kernel_rfl
 z4:=fun w=>by kernel_rfl
 v4:=fun w=>by kernel_rfl
 t24:=by kernel_rfl
 a24:=fun w=>by kernel_rfl
 z24:=fun w=>by kernel_rfl
 v24:=fun w=>by kernel_rfl
 z9:=fun w=>by kernel_rfl
 i9:=by kernel_rfl
theorem g224:GE 224 c224:=⟨Tm.good_insert (es:=e127) (ms:=m0) L224 rfl (by decide) rfl,Tm.enters_of Tryz.func224 (by kernel_rfl)⟩
theorem g198:GE 198 c198:=ge 46 [(8,[(5,m0)])] [(0,⟨[(.t 8 (.int .i64) .sh)],li 24 15,[]⟩)] [] (lc g135 (lc g224 ln)) Tryz.func198 (by kernel_rfl) fun x=>by kernel_rfl
noncomputable def r225:Go.Shelf.Ren:=⟨fun n=>match n with|22=>225|29=>241|30=>242|n=>n,fun n=>match n with|9=>129|24=>125|n=>n,fun n=>n⟩
theorem L225:InsL Tryz.prog r225 Tryz.f225.name 2 16 (.agg #[.int .i64 0,.int .i64 0]) where
 mixed:=by kernel_rfl
 f22:=by kernel_rfl
 ov:=fun args w=>run_callFunc_extern Tryz.func241 (by kernel_rfl) (by kernel_rfl) (by kernel_rfl) (by kernel_rfl) args w
 t0:=by kernel_rfl
 a0:=fun w=>by kernel_rfl
 z0:=fun w=>by kernel_rfl
 v0:=fun w=>by kernel_rfl
 t3:=by kernel_rfl
 a3:=fun w=>by kernel_rfl
 z3:=fun w=>by kernel_rfl
 v3:=fun w=>by kernel_rfl
 t4:=by kernel_rfl
 a4:=fun w=>by kernel_rfl
 z4:=fun w=>by kernel_rfl
 v4:=fun w=>by kernel_rfl
 t24:=by kernel_rfl
 a24:=fun w=>by kernel_rfl
 z24:=fun w=>by kernel_rfl
 v24:=fun w=>by kernel_rfl
 z9:=fun w=>by kernel_rfl
 i9:=by kernel_rfl
theorem g225:GE 225 c225:=⟨Tm.good_insert (es:=e129) (ms:= []) L225 rfl (by decide) rfl,Tm.enters_of Tryz.func225 (by kernel_rfl)⟩
theorem g199:GE 199 c199:=ge 73 [] [(0,⟨[(.t 13 (.int .i64) .sh)],[6]++li 14 25,[]⟩),(2,⟨[(.t 7 (.int .i64) .sh)],li 39 21,[]⟩)] [] (lc g225 ln) Tryz.func199 (by kernel_rfl) fun x=>by kernel_rfl
theorem g138:GE 138 c138:=ge 79 [] [] [(13,⟨[(.b 2048 1 (.sl e127) (.own m0))],li 19 59,[2]⟩),(3005125,⟨[],[],[4096]⟩),(3008197,⟨[],[],[4096]⟩),(3009221,⟨[],[],[4096]⟩),(3011269,⟨[],[],[4096]⟩)] (lc g198 (lc g199 ln)) Tryz.func138 (by kernel_rfl) fun x=>by kernel_rfl
theorem g75:GE 75 c75:=ge 65 [] [] [(3010240,⟨[],[],[2048]⟩),(3010243,⟨[],[],[4096]⟩)] (lc g35 (lc g76 (lc g135 (lc g136 (lc g137 (lc g138 ln)))))) Tryz.func75 (by kernel_rfl) fun x=>by kernel_rfl
theorem g37:GE 37 c37:=ge 34 [] [(0,⟨[(.t 7 (.int .i64) .sh),(.t 16 (.int .i64) .sh),(.b 12288 0 (.int .i64) .sh),(.b 12288 1 (.sl e127) (.own m0))],[9,10,11]++li 17 15,[]⟩)] [] (lc g35 (lc g75 ln)) Tryz.func37 (by kernel_rfl) fun x=>by kernel_rfl
theorem w_277 (z:Option (GD o35)):(show Option (GD o277) from z)=z.map (wkD o35):=by cases z<;>rfl
theorem g277:GE 35 c277:=⟨Tm.good_weak (ins:=i35) (outs:=o35) (F:=F35) (F':=F35) g35.1 (fun x=>w_277 (F35 x)),g35.2⟩
theorem g38:GE 38 c38:=ge 69 [] [(0,⟨[(.t 23 (.int .i64) .sh),(.r 14338 e127 [])],[4,5,6,8]++li 24 39,[]⟩),(2,⟨[(.t 6 (.sl e129) (.own [])),(.t 35 (.int .i64) .sh),(.r 14338 e127 [])],[8]++li 36 22,[]⟩)] [(3014341,⟨[],[],[79872]⟩)] (lc g277 (lc g76 ln)) Tryz.func38 (by kernel_rfl) fun x=>by kernel_rfl
theorem w_278 (z:Option (GD o37)):(show Option (GD o278) from z)=z.map (wkD o37):=by cases z<;>rfl
theorem g278:GE 37 c278:=⟨Tm.good_weak (ins:=i37) (outs:=o37) (F:=F37) (F':=F37) g37.1 (fun x=>w_278 (F37 x)),g37.2⟩
theorem g9:GE 9 c9:=ge 47 [] [(0,⟨[(.t 15 (.int .i64) .sh),(.b 14336 0 (.int .i64) .sh),(.b 14336 1 (.sl e127) (.own []))],[5,8,9]++li 16 30,[12290]⟩)] [] (lc g277 (lc g36 (lc g278 (lc g38 ln)))) Tryz.func9 (by kernel_rfl) fun x=>by kernel_rfl
theorem g181:GE 181 c181:=ge 32 [] [(0,⟨[(.t 17 (.int .i64) .sh)],[6,7,8,9]++li 18 14,[]⟩)] [] ln Tryz.func181 (by kernel_rfl) fun x=>by kernel_rfl
theorem g183:GE 183 c183:=ge 26 [] [(0,⟨[(.t 13 (.int .i64) .sh)],[4,5]++li 14 12,[]⟩)] [] ln Tryz.func183 (by kernel_rfl) fun x=>by kernel_rfl
theorem g182:GE 182 c182:=ge 38 [] [] [] (lc g183 ln) Tryz.func182 (by kernel_rfl) fun x=>by kernel_rfl
theorem g108:GE 108 c108:=ge 17 [] [] [] (lc g181 (lc g182 ln)) Tryz.func108 (by kernel_rfl) fun x=>by kernel_rfl
theorem g59:GE 59 c59:=ge 32 [(0,[(0,[(.own [])])])] [(0,⟨[(.t 10 (.int .i64) .sh)],[2,4,5,6]++li 11 21,[]⟩)] [(3004096,⟨[],[],[2048]⟩),(3004098,⟨[],[],[22528]⟩)] (lc g9 (lc g107 (lc g108 ln))) Tryz.func59 (by kernel_rfl) fun x=>by kernel_rfl
theorem g60:GE 60 c60:=ge 19 [] [(0,⟨[(.t 8 (.int .i64) .sh)],[4,5]++li 9 10,[]⟩)] [] ln Tryz.func60 (by kernel_rfl) fun x=>by kernel_rfl
theorem g18:GE 18 c18:=ge 16 [(1,[(10,[(.own [])])])] [] [(3001024,⟨[],[],[2048]⟩),(3001026,⟨[],[],[2048]⟩),(3001028,⟨[],[],[2048]⟩),(3001030,⟨[],[],[2048]⟩)] (lc g56 (lc g57 (lc g58 (lc g59 (lc g60 ln))))) Tryz.func18 (by kernel_rfl) fun x=>by kernel_rfl
theorem g202:GE 202 c202:=ge 15 [] [] [] ln Tryz.func202 (by kernel_rfl) fun x=>by kernel_rfl
theorem g140:GE 140 c140:=ge 27 [] [(0,⟨[(.t 5 (.int .i64) .sh)],[4]++li 11 16,[]⟩)] [] (lc g202 ln) Tryz.func140 (by kernel_rfl) fun x=>by kernel_rfl
theorem g77:GE 77 c77:=ge 31 [] [] [] (lc g140 ln) Tryz.func77 (by kernel_rfl) fun x=>by kernel_rfl
theorem g39:GE 39 c39:=ge 27 [] [(0,⟨[(.t 5 (.int .i64) .sh)],[4]++li 11 16,[]⟩)] [] (lc g77 ln) Tryz.func39 (by kernel_rfl) fun x=>by kernel_rfl
theorem g10:GE 10 c10:=ge 16 [] [] [] (lc g39 ln) Tryz.func10 (by kernel_rfl) fun x=>by kernel_rfl
theorem g40:GE 40 c40:=ge 26 [] [(0,⟨[(.t 5 (.int .i64) .sh)],[4]++li 11 15,[]⟩)] [] ln Tryz.func40 (by kernel_rfl) fun x=>by kernel_rfl
theorem g203:GE 203 c203:=ge 15 [] [] [] ln Tryz.func203 (by kernel_rfl) fun x=>by kernel_rfl
theorem g141:GE 141 c141:=ge 27 [] [(0,⟨[(.t 5 (.int .i64) .sh)],[4]++li 11 16,[]⟩)] [] (lc g203 ln) Tryz.func141 (by kernel_rfl) fun x=>by kernel_rfl
theorem g142:GE 142 c142:=ge 21 [] [] [] (lc g40 ln) Tryz.func142 (by kernel_rfl) fun x=>by kernel_rfl
theorem g12:GE 12 c12:=ge 26 [] [(0,⟨[(.t 5 (.int .i64) .sh)],[4]++li 11 15,[]⟩)] [] ln Tryz.func12 (by kernel_rfl) fun x=>by kernel_rfl
theorem g143:GE 143 c143:=ge 22 [] [] [] (lc g12 (lc g40 ln)) Tryz.func143 (by kernel_rfl) fun x=>by kernel_rfl
theorem g204:GE 204 c204:=ge 30 [] [] [] ln Tryz.func204 (by kernel_rfl) fun x=>by kernel_rfl
theorem g146:GE 146 c146:=ge 27 [] [(0,⟨[(.t 5 (.int .i64) .sh)],[4]++li 11 16,[]⟩)] [] (lc g204 ln) Tryz.func146 (by kernel_rfl) fun x=>by kernel_rfl
theorem g79:GE 79 c79:=ge 59 [] [] [] (lc g141 (lc g142 (lc g143 (lc g146 ln)))) Tryz.func79 (by kernel_rfl) fun x=>by kernel_rfl
theorem g42:GE 42 c42:=ge 27 [] [(0,⟨[(.t 5 (.int .i64) .sh)],[4]++li 11 16,[]⟩)] [] (lc g79 ln) Tryz.func42 (by kernel_rfl) fun x=>by kernel_rfl
theorem g148:GE 148 c148:=ge 20 [] [] [] ln Tryz.func148 (by kernel_rfl) fun x=>by kernel_rfl
theorem g144:GE 144 c144:=ge 27 [] [(0,⟨[(.t 5 (.int .i64) .sh)],[4]++li 11 16,[]⟩)] [] (lc g148 ln) Tryz.func144 (by kernel_rfl) fun x=>by kernel_rfl
theorem g149:GE 149 c149:=ge 20 [] [] [] ln Tryz.func149 (by kernel_rfl) fun x=>by kernel_rfl
theorem g145:GE 145 c145:=ge 27 [] [(0,⟨[(.t 5 (.int .i64) .sh)],[4]++li 11 16,[]⟩)] [] (lc g149 ln) Tryz.func145 (by kernel_rfl) fun x=>by kernel_rfl
theorem g205:GE 205 c205:=ge 22 [] [] [] (lc g42 (lc g142 ln)) Tryz.func205 (by kernel_rfl) fun x=>by kernel_rfl
theorem g147:GE 147 c147:=ge 27 [] [(0,⟨[(.t 5 (.int .i64) .sh)],[4]++li 11 16,[]⟩)] [] (lc g205 ln) Tryz.func147 (by kernel_rfl) fun x=>by kernel_rfl
theorem g78:GE 78 c78:=ge 90 [] [] [] (lc g10 (lc g12 (lc g42 (lc g141 (lc g142 (lc g143 (lc g144 (lc g145 (lc g146 (lc g147 ln)))))))))) Tryz.func78 (by kernel_rfl) fun x=>by kernel_rfl
theorem g41:GE 41 c41:=ge 27 [] [(0,⟨[(.t 5 (.int .i64) .sh)],[4]++li 11 16,[]⟩)] [] (lc g78 ln) Tryz.func41 (by kernel_rfl) fun x=>by kernel_rfl
theorem g80:GE 80 c80:=ge 30 [] [] [] ln Tryz.func80 (by kernel_rfl) fun x=>by kernel_rfl
theorem g43:GE 43 c43:=ge 27 [] [(0,⟨[(.t 5 (.int .i64) .sh)],[4]++li 11 16,[]⟩)] [] (lc g80 ln) Tryz.func43 (by kernel_rfl) fun x=>by kernel_rfl
theorem g81:GE 81 c81:=ge 50 [] [] [] (lc g42 (lc g142 (lc g143 (lc g148 (lc g149 ln))))) Tryz.func81 (by kernel_rfl) fun x=>by kernel_rfl
theorem g44:GE 44 c44:=ge 27 [] [(0,⟨[(.t 5 (.int .i64) .sh)],[4]++li 11 16,[]⟩)] [] (lc g81 ln) Tryz.func44 (by kernel_rfl) fun x=>by kernel_rfl
theorem g11:GE 11 c11:=ge 41 [] [] [] (lc g10 (lc g40 (lc g41 (lc g42 (lc g43 (lc g44 ln)))))) Tryz.func11 (by kernel_rfl) fun x=>by kernel_rfl
theorem g4:GE 4 c4:=ge 27 [] [] [] (lc g5 (lc g7 (lc g11 (lc g17 (lc g18 ln))))) Tryz.func4 (by kernel_rfl) fun x=>by kernel_rfl
end Go.Proofs.YtmjkakjeiopieaaGreat
-- no more blanks than needed
